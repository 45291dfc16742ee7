/- Lemmas: the program and the reference walked, plain laws. -/
import Derived.Test.YtjjndkenddigiaaGreatDoorId
namespace Go.Proofs.YtjjndkenddigiaaGreatDoor
open Go Go.T
set_option maxHeartbeats 2000000
theorem c_fill1 (f : BForm) (text : Byt) (hl : text.length ≤ 65536) (AL : List (Byt × Rdr)) (fv : Value) (J : Nat → World → Tags → Prop) (Jx : World → Tags → Prop) (hJ : ∀ k, Cb (J k)) (hJx : Cb Jx) (hF : FndC Tryz.prog fv (AL.map (encF f)) J Jx) : ∀ (n : Nat) (s : Byt) (p : Rdr) (m0 : Nat), text.length - s.length ≤ n → RdrOk f p → s.length ≤ text.length → filS f p s (text.drop s.length) <+: AL.drop m0 →
    MoreF Tryz.prog 127 173 (finC text fv) [Ty.row UB 5 1002 s, Ty.agg (rdrT f p 1003)] (J m0) (J (m0 + (filS f p s (text.drop s.length)).length)) Jx
  | 0, s, p, m0, hn, ho, hs, hp => c_fillS f text hl AL fv J Jx hJ hJx hF s p m0 ho hs hp fun s' p' k' h _ _ _ => absurd h (by omega)
  | n + 1, s, p, m0, hn, ho, hs, hp => c_fillS f text hl AL fv J Jx hJ hJx hF s p m0 ho hs hp fun s' p' k' h h2 h3 h4 => c_fill1 f text hl AL fv J Jx hJ hJx hF n s' p' k' (by omega) h3 h2 h4
def finT (f : BForm) (text : Byt) (fv : Value) : List Ty := [Ty.agg [Ty.str (bs text), Ty.ex fv], frmT f]
theorem fin_hfv {f : BForm} {text : Byt} {fid : FuncId} {caps : List Ty} (w : World) (M : Tags) (vs : List Value) (h : dens w M [Ty.agg [Ty.str (bs text), Ty.clo fid caps], frmT f] vs) : ∃ cs : Array Value, dens w M caps cs.toList ∧ dens w M (finT f text (.func (.func fid) #[] cs)) vs := by
  match vs, h with
  | [v, u], ⟨⟨zs, e, ha⟩, h2, _⟩ =>
    obtain ⟨zs⟩ := zs
    match zs, ha with
    | [a1, a2], ⟨h3, ⟨cs, e2, h4⟩, _⟩ => exact ⟨cs, h4, ⟨⟨_, e, h3, e2, trivial⟩, h2, trivial⟩⟩
theorem allE_pub (f : BForm) (l : List (Byt × Rdr)) : ∀ tys ∈ l.map (encF f), depsOf tys = [] ∧ cdepsOf tys = [] := by
  intro t ht
  obtain ⟨y, _, rfl⟩ := List.mem_map.1 ht
  exact ⟨rfl, rfl⟩
def cntV (f : BForm) (text : Byt) : Int × Int := if tornE f text ≠ 0 then (0, tornE f text) else ((((allF f text).length : Nat) : Int), 0)
def filL (f : BForm) (text : Byt) (k : Nat) : List Byt := ((allF f text).take k).map Prod.fst
def filV (f : BForm) (text : Byt) : List Byt × Int := if tornE f text ≠ 0 then ([], tornE f text) else (filL f text 2, 0)
def resB (f : BForm) (text : Byt) (k : Nat) : Book := if k = 0 then Book.zero else ⟨f, (nth (allF f text) (k - 1)).2.read⟩
def resV (f : BForm) (text : Byt) : Book × Int := if tornE f text ≠ 0 then (Book.zero, tornE f text) else if (allF f text).length = 0 then (Book.zero, 6) else if (allF f text).length = 1 then (resB f text 1, 0) else (Book.zero, 7)
theorem cnt_1 {f : BForm} {text : Byt} (h : ¬ tornE f text = 0) : cntV f text = (0, tornE f text) := if_pos h
theorem cnt_2 {f : BForm} {text : Byt} (h : tornE f text = 0) : cntV f text = ((((allF f text).length : Nat) : Int), 0) := if_neg (fun e => e h)
theorem fv_1 {f : BForm} {text : Byt} (h : ¬ tornE f text = 0) : filV f text = ([], tornE f text) := if_pos h
theorem fv_2 {f : BForm} {text : Byt} (h : tornE f text = 0) : filV f text = (filL f text 2, 0) := if_neg (fun e => e h)
theorem rv_1 {f : BForm} {text : Byt} (h : ¬ tornE f text = 0) : resV f text = (Book.zero, tornE f text) := if_pos h
theorem rv_2 {f : BForm} {text : Byt} (h : tornE f text = 0) (h2 : ((min 2 (allF f text).length : Nat) : Int) = 0) : resV f text = (Book.zero, 6) := by
  unfold resV; rw [if_neg (fun e => e h), if_pos (by omega)]
theorem rv_3 {f : BForm} {text : Byt} (h : tornE f text = 0) (h2 : ¬ ((min 2 (allF f text).length : Nat) : Int) = 0) (h3 : ((min 2 (allF f text).length : Nat) : Int) = 1) : resV f text = (resB f text (min 2 (allF f text).length), 0) := by
  unfold resV; rw [if_neg (fun e => e h), if_neg (by omega), if_pos (by omega), show min 2 (allF f text).length = 1 by omega]
theorem rv_4 {f : BForm} {text : Byt} (h : tornE f text = 0) (h2 : ¬ ((min 2 (allF f text).length : Nat) : Int) = 0) (h3 : ¬ ((min 2 (allF f text).length : Nat) : Int) = 1) : resV f text = (Book.zero, 7) := by
  unfold resV; rw [if_neg (fun e => e h), if_neg (by omega), if_neg (by omega)]
theorem torn_ok {f : BForm} {text : Byt} (h : tornE f text = 0) : FormOk f ∧ text.length ≤ 65536 ∧ (tornN text : Int) ≤ 4 := by
  unfold tornE at h
  split at h
  · rename_i h1; exact absurd h h1
  · rename_i h1
    split at h
    · cases h
    · rename_i h2
      split at h
      · cases h
      · rename_i h3
        exact ⟨frmY_zero.1 (by simpa using h1), by omega, by omega⟩
theorem all_ok {f : BForm} {text : Byt} (hf : FormOk f) {k : Nat} (hk : k < (allF f text).length) : RdrOk f (nth (allF f text) k).2 := (fillR_ok text _ (new_ok hf) _ (nth_mem hk)).1
theorem enc_at {f : BForm} {text : Byt} {k : Nat} {tys : List Ty} (h : ((allF f text).map (encF f))[k]? = some tys) : k < (allF f text).length ∧ tys = encF f (nth (allF f text) k) := enc_get h
theorem filL_succ {f : BForm} {text : Byt} {k : Nat} (hk : k < (allF f text).length) : filL f text (k + 1) = filL f text k ++ [(nth (allF f text) k).1] := by
  unfold filL; rw [take_nth hk, List.map_append]; rfl
theorem filL_all {f : BForm} {text : Byt} (h : (allF f text).length < 2) : filL f text (allF f text).length = filL f text 2 := by
  unfold filL; rw [List.take_of_length_le (Nat.le_refl _), List.take_of_length_le (by omega)]
theorem filL_len (f : BForm) (text : Byt) (k : Nat) : (filL f text k).length ≤ k := by unfold filL; rw [List.length_map, List.length_take]; omega
theorem fil_nil0 {f : BForm} {text : Byt} : (Ty.ex (.slice none 0 0)).Sub (Ty.row StrE 9 500 (filL f text 0)) := by
  rw [show filL f text 0 = [] from by simp [filL]]; exact Ty.nil_row
theorem res_zero {f : BForm} {text : Byt} : Subs [Ty.ex (.slice none 0 0), Ty.int .i64 0, Ty.ex (.slice none 0 0)] (bokTys (resB f text 0)) := ⟨Ty.nil_sl, Ty.sub_refl _, Ty.nil_sl, trivial⟩
theorem resB_succ (f : BForm) (text : Byt) (k : Nat) : resB f text (k + 1) = ⟨f, (nth (allF f text) k).2.read⟩ := by unfold resB; rw [if_neg (by omega)]; rfl
theorem res_b (k : Nat) : decide ((k : Int) + 1 < 2) = decide (k + 1 < 2) := by rw [decide_eq_decide]; omega
theorem fil_b (l : List Byt) (s : Byt) : decide (((l ++ [s]).length : Int) < 2) = decide ((l.length : Int) + 1 < 2) := by simp
theorem filL_len2 {f : BForm} {text : Byt} {k : Nat} (h : k < (allF f text).length) : (filL f text k).length = k := by unfold filL; rw [List.length_map, List.length_take]; omega
theorem fil_px {f : BForm} {text : Byt} {k : Nat} (h : k < 2) (h2 : ¬ k + 1 < 2) : PostCs [(1000, Cont.cells 53 [Ty.row StrE 9 1001 (filL f text (k + 1))])] [(8, 1000), (500, 1001)] [(8, Cont.cells 53 [Ty.row StrE 9 500 (filL f text 2)])] := by
  obtain rfl : k = 1 := by omega
  exact post_cons (a := 8) (b := 1000) (by decide) rfl (cc_cells (by decide) (cv_cons cv_nil (cv_row (by decide)))) post_nil
theorem res_px {f : BForm} {text : Byt} {k : Nat} (h : k < 2) (h2 : ¬ k + 1 < 2) : PostCs [(1000, Cont.cells 27 (bokTys (resB f text (k + 1)))), (1001, Cont.cells 3 [Ty.int .i64 ((k + 1 : Nat) : Int)])] [(8, 1000), (9, 1001)] [(8, Cont.cells 27 (bokTys (resB f text 2))), (9, Cont.cells 3 [Ty.int .i64 ((2 : Nat) : Int)])] := by
  obtain rfl : k = 1 := by omega
  exact post_cons (a := 8) (b := 1000) (by decide) rfl (cc_cells_eq (by decide) rfl rfl rfl) (post_cons (a := 9) (b := 1001) (by decide) rfl (cc_cells_eq (by decide) rfl rfl rfl) post_nil)
attribute [local irreducible] allF tornE wholeR cntV filV resV filL resB
attribute [local irreducible] dInt dBool dSl dPp dPtr dAgg dTup dClo dAny dEx dStr dGd dCells dVec dVs dRow dOp nth Tri Into TOps Ctr bodyPost Exit.then Exit.inBlock Code.wp Code.wpIn dWhen dPa dArr dMp dMap CtrG keepPost iterPost bodyPostM roundQ
set_option maxRecDepth 100000 in
theorem c_fill (f : BForm) (hf : FormOk f) (text : Byt) (hl : text.length ≤ 65536) : CtrFd Tryz.prog 83 (fun fv => (finT f text fv)) ((allF f text).map (encF f)) := by
  refine fnFd_intro Tryz.func83 rfl (by decide) Tryz.ntmps83 (fun _ => by exact Nat.le_of_ble_eq_true rfl) (fun _ => ⟨rfl, rfl⟩) fun fv J Jx hJ hJx hF w0 Mc wf0 z0 => ?_
  refine t_seq ?_
  refine t_region ?_
  refine r_box_agg rfl ?_
  refine r_box_agg rfl ?_
  refine r_nil ?_
  refine i_then ?_
  refine t_seq ?_
  refine t_region ?_
  refine r_alloc rfl (by exact List.cons_ne_nil _ _) rfl ?_
  refine r_nil ?_
  refine i_then ?_
  refine t_seq ?_
  refine t_region ?_
  refine r_makeFunc rfl ?_
  refine r_store1 rfl rfl (by decide) rfl rfl (by exact (rfl : _ = Ty.clo _ _)) rfl (by exact Nat.le_of_ble_eq_true rfl) rfl rfl (by exact (rfl : _ = [_])) ?_
  refine r_nil ?_
  refine i_then ?_
  refine t_draw mixed rfl ?_
  refine r_load_ptr rfl rfl (by decide) rfl rfl rfl ?_
  refine r_load_ppN rfl rfl rfl (by exact Nat.le_of_ble_eq_true rfl) ?_
  refine r_callG [(9, 6), (500, 5)] [9, 500] [(9, Cont.cells 177 (rdrT f Rdr.new 500))] (k_opened f) rfl rfl (by repeat (first | exact cv_nil | refine cv_cons ?_ ?_ | exact cv_pub rfl rfl)) pre_nil (post_cons (a := 9) (b := 6) (by exact List.mem_cons_self) rfl (cc_rdr (by exact List.mem_cons_self) (List.mem_cons_of_mem _ List.mem_cons_self) rfl) post_nil) (cv_ptr (by exact List.mem_cons_self)) ?_
  refine r_nilCheck_ptr rfl ?_
  refine r_load_ptrN rfl rfl (by decide) rfl rfl (by exact Nat.le_of_ble_eq_true rfl) ?_
  refine r_callF0 (tg := 5) (ss := [Ty.ex (.slice none 0 0), Ty.agg (rdrT f Rdr.new 500)]) [(500, 1003)] (hJ 0) (hJ (0 + (filS f Rdr.new [] (text.drop ([] : Byt).length)).length)) hJx (c_fill1 f text hl (allF f text) fv J Jx hJ hJx hF text.length [] Rdr.new 0 (by simp) (new_ok hf) (Nat.zero_le _) (by rw [List.length_nil, List.drop_zero, fil_all, List.drop_zero]; exact List.prefix_rfl)) rfl rfl rfl rfl (cv_cons (cv_cons cv_nil (cv_rdr List.mem_cons_self)) cv_nilrow) rfl rfl (by decide) rfl ?_
  refine r_nil ?_
  refine ⟨by kernel_rfl, ?_⟩
  exact i_retFd (hJ := hJ) (h1 := hJ _) (hx := hJx) z0 wf0 (by rw [List.length_nil, List.drop_zero, fil_all, List.length_map, Nat.zero_add]) rfl rfl rfl
set_option maxRecDepth 100000 in
theorem k_Count1 (k : Nat) (h : k ≤ 100000) : CtrG Tryz.prog 82 [1000] [(1000, Cont.cells 3 [Ty.int .i64 (k : Nat)])] [Ty.any, Ty.any, Ty.ptr 1000 0] [(1000, Cont.cells 3 [Ty.int .i64 ((k + 1 : Nat) : Int)])] (Ty.bool true) := by
  refine fnG_intro Tryz.func82 rfl (by decide) Tryz.ntmps82 (by exact Nat.le_of_ble_eq_true rfl) fun w0 M0 => ?_
  refine t_seq ?_
  refine t_region ?_
  refine asB rfl ?_
  refine r_nil ?_
  refine i_then ?_
  refine t_seq ?_
  refine t_region ?_
  refine r_load_ptr rfl rfl (by decide) rfl rfl rfl ?_
  refine r_add rfl rfl (by omega) (by omega) ?_
  refine r_store1 rfl rfl (by decide) rfl rfl (by exact (rfl : _ = Ty.int _ _)) rfl (by exact Nat.le_of_ble_eq_true rfl) rfl rfl (by exact (rfl : _ = [_])) ?_
  refine r_nil ?_
  refine i_then ?_
  refine t_seq ?_
  refine t_region ?_
  refine asB rfl ?_
  refine r_nil ?_
  refine i_then ?_
  refine t_ret ?_
  refine g_ret1 [1000] rfl rfl (by decide) ?_ ?_
  exact rc_cons rfl (cc_cells_eq (by decide) rfl rfl rfl) rc_nil
  all_goals exact rg_cv (cv_pub rfl rfl)
set_option maxRecDepth 100000 in
theorem c_Count (f : BForm) (text : Byt) : Ctr Tryz.prog 27 [frmT f, Ty.str (bs text)] (Ty.tup [Ty.int .i64 (cntV f text).1, Ty.int .i64 (cntV f text).2]) := by
  refine fn_intro Tryz.func27 rfl (by decide) Tryz.ntmps27 (by exact Nat.le_of_ble_eq_true rfl) fun w0 M0 => ?_
  refine t_seq ?_
  refine t_region ?_
  refine r_box_agg rfl ?_
  refine asI rfl ?_
  refine asI rfl ?_
  refine r_nil ?_
  refine i_then ?_
  refine t_seq ?_
  refine t_seq ?_
  refine t_region ?_
  refine r_load_ppN rfl rfl rfl (by exact Nat.le_of_ble_eq_true rfl) ?_
  refine mvS' rfl ?_
  refine r_call (c_torn _ _) rfl rfl rfl rfl rfl ?_
  refine asI rfl ?_
  refine r_nil ?_
  refine i_then ?_
  refine t_seq ?_
  refine t_region ?_
  refine mvI rfl ?_
  refine r_bin rfl rfl rfl ?_
  refine r_nil ?_
  refine i_then ?_
  refine t_cond_ndec rfl (fun hc1 => ?_) (fun hc1 => ?_)
  ·
    refine t_seq ?_
    refine t_region ?_
    refine mvI rfl ?_
    refine asI rfl ?_
    refine asI rfl ?_
    refine r_nil ?_
    refine i_then ?_
    refine t_ret ?_
    refine i_then_ret ?_
    refine i_rp2 rfl rfl rfl ?_ ?_
    all_goals skip
    all_goals (rw [cnt_1 hc1]; exact ret_refl rfl rfl)
  ·
    refine t_skip ?_
    refine i_then ?_
    refine t_seq ?_
    refine t_region ?_
    refine r_alloc rfl (by exact List.cons_ne_nil _ _) rfl ?_
    refine r_store1 rfl rfl (by decide) rfl rfl (by exact (rfl : _ = Ty.int _ _)) rfl (by exact Nat.le_of_ble_eq_true rfl) rfl rfl (by exact (rfl : _ = [_])) ?_
    refine r_nil ?_
    refine i_then ?_
    refine t_seq ?_
    obtain ⟨hf, hl, h4⟩ := torn_ok hc1
    have hfew := all_few (f := f) h4
    refine t_region ?_
    refine mvS' rfl ?_
    refine r_makeFunc rfl ?_
    refine r_build rfl rfl (by exact List.cons_ne_nil _ _) rfl (by repeat (first | exact (Parts.nil : Parts _ _ [] _) | (show Parts _ _ ((_, _) :: _) _; apply Parts.one; (· first | exact (rfl : _ = Ty.clo _ _) | exact (rfl : _ = Ty.str _)); (· exact rfl)))) (by exact (rfl : _ = some [_, _])) ?_
    refine r_load_ppN rfl rfl rfl (by exact Nat.le_of_ble_eq_true rfl) ?_
    refine r_op (opT_callFd (fid := 82) (caps := [Ty.ptr 8 0]) (S := [8]) (K := []) (mv := []) (F := [1000]) (px := False) (ok := fun _ => True) (tgs := fun k => [(8, Cont.cells 3 [Ty.int .i64 (k : Nat)])]) (tgx := []) (sets := [(8, Cont.cells 3 [Ty.int .i64 ((allF f text).length : Nat)])]) (ρ := [(8, 1000)]) (pre := fun k => [(1000, Cont.cells 3 [Ty.int .i64 (k : Nat)])]) (post := fun k => [(1000, Cont.cells 3 [Ty.int .i64 ((k + 1 : Nat) : Int)])]) (argsF := fun _ => [Ty.any, Ty.any, Ty.ptr 1000 0]) (go := fun _ => true) (c_fill f hf text hl) rfl fin_hfv (fun _ => ⟨rfl, rfl⟩) (k_Count1 0 (by decide)).ex (fun k _ hk => k_Count1 k (by rw [List.length_map] at hk; omega)) rfl rfl rfl rfl (by decide) (by intro t h; cases h) (by decide) (by decide) (allE_pub f _) (fun k tys hk => by obtain ⟨_, rfl⟩ := enc_at hk; exact cv_cons (cv_cons (cv_cons cv_nil (cv_ptr (by decide))) cv_any) cv_any) (fun k => pre_cons (a := 8) (by decide) rfl (cc_cells_eq (by decide) rfl rfl rfl) pre_nil) (fun k _ _ => post_cons (a := 8) (b := 1000) (by decide) rfl (cc_cells_eq (by decide) rfl rfl rfl) post_nil) (fun k _ h => by cases h) trivial (fun _ _ _ _ => trivial) (fun _ _ _ h => by cases h) (fun _ => rfl) rfl (allTags_cons rfl (Cont.sub_subs ⟨Ty.sub_int rfl, trivial⟩) allTags_nil) (by decide) (by intro t h; cases h) (by simp) rfl (fun _ w M h x hx => by rw [List.length_map] at h; exact h x hx) (fun h => h.elim)) ?_
    refine r_nil ?_
    refine i_then ?_
    refine t_seq ?_
    refine t_region ?_
    refine r_load_ptr rfl rfl (by decide) rfl rfl rfl ?_
    refine asI rfl ?_
    refine asI rfl ?_
    refine r_nil ?_
    refine i_then ?_
    refine t_ret ?_
    refine i_rp2 rfl rfl rfl ?_ ?_
    all_goals skip
    all_goals (rw [cnt_2 hc1]; exact ret_refl rfl rfl)
set_option maxRecDepth 100000 in
theorem k_Fillings1 (s : Byt) (l : List Byt) (h : l.length ≤ 2) : CtrG Tryz.prog 84 [1000] [(1000, Cont.cells 53 [Ty.row StrE 9 1001 l])] [Ty.str (bs s), Ty.any, Ty.ptr 1000 0] [(1000, Cont.cells 53 [Ty.row StrE 9 1001 (l ++ [s])])] (Ty.bool (decide (((l.length : Nat) : Int) + 1 < 2))) := by
  refine fnG_intro Tryz.func84 rfl (by decide) Tryz.ntmps84 (by exact Nat.le_of_ble_eq_true rfl) fun w0 M0 => ?_
  refine t_seq ?_
  refine t_region ?_
  refine asB rfl ?_
  refine r_nil ?_
  refine i_then ?_
  refine t_seq ?_
  refine t_region ?_
  refine r_load_ptr rfl rfl (by decide) rfl rfl rfl ?_
  refine mvS' rfl ?_
  refine r_buildSlice (E := StrE) (xs := [_]) rfl rfl rfl rfl rfl (by decide) (by decide) (by repeat (first | exact (Parts.nil : Parts _ _ [] _) | (show Parts _ _ ((_, _) :: _) _; apply Parts.one; (· exact (rfl : _ = Ty.str _)); (· exact rfl)))) (by exact rfl) rfl ?_
  refine r_append rfl rfl (by decide) rfl rfl rfl rfl rfl rfl (by decide) (by (simp <;> omega)) (by (simp <;> omega)) ?_
  refine r_store1 rfl rfl (by decide) rfl rfl (by exact (rfl : _ = Ty.row _ _ _ _)) rfl (by exact Nat.le_of_ble_eq_true rfl) rfl rfl (by exact (rfl : _ = [_])) ?_
  refine r_nil ?_
  refine i_then ?_
  refine t_seq ?_
  refine t_region ?_
  refine r_load_ptr rfl rfl (by decide) rfl rfl rfl ?_
  refine r_len_row rfl rfl rfl ?_
  refine r_bin rfl rfl rfl ?_
  refine asB rfl ?_
  refine r_nil ?_
  refine i_then ?_
  refine t_ret ?_
  refine g_ret1 [1000, 1001] rfl rfl (by decide) ?_ ?_
  exact rc_cons rfl (cc_cells (by decide) (cv_cons cv_nil (cv_row (by decide)))) rc_nil
  all_goals skip
  all_goals exact rg_cv (cv_sub rfl rfl (Ty.sub_bool (fil_b _ _)))
theorem fil_ctr {f : BForm} {text : Byt} {k : Nat} (hk : k < (allF f text).length) (h2 : k < 2) : CtrG Tryz.prog 84 [1000] [(1000, Cont.cells 53 [Ty.row StrE 9 1001 (filL f text k)])] [Ty.str (bs (nth (allF f text) k).1), Ty.any, Ty.ptr 1000 0] [(1000, Cont.cells 53 [Ty.row StrE 9 1001 (filL f text (k + 1))])] (Ty.bool (decide (k + 1 < 2))) := by
  have h := k_Fillings1 (nth (allF f text) k).1 (filL f text k) (by have := filL_len f text k; omega)
  rw [← filL_succ hk, filL_len2 hk] at h
  rwa [show decide ((k : Int) + 1 < 2) = decide (k + 1 < 2) from by rw [decide_eq_decide]; omega] at h
set_option maxRecDepth 100000 in
theorem c_Fillings (f : BForm) (text : Byt) : Ctr Tryz.prog 28 [frmT f, Ty.str (bs text)] (Ty.tup [Ty.sl StrE (filV f text).1, Ty.int .i64 (filV f text).2]) := by
  refine fn_intro Tryz.func28 rfl (by decide) Tryz.ntmps28 (by exact Nat.le_of_ble_eq_true rfl) fun w0 M0 => ?_
  refine t_seq ?_
  refine t_region ?_
  refine r_box_agg rfl ?_
  refine asX rfl ?_
  refine asI rfl ?_
  refine r_nil ?_
  refine i_then ?_
  refine t_seq ?_
  refine t_seq ?_
  refine t_region ?_
  refine r_load_ppN rfl rfl rfl (by exact Nat.le_of_ble_eq_true rfl) ?_
  refine mvS' rfl ?_
  refine r_call (c_torn _ _) rfl rfl rfl rfl rfl ?_
  refine asI rfl ?_
  refine r_nil ?_
  refine i_then ?_
  refine t_seq ?_
  refine t_region ?_
  refine mvI rfl ?_
  refine r_bin rfl rfl rfl ?_
  refine r_nil ?_
  refine i_then ?_
  refine t_cond_ndec rfl (fun hc1 => ?_) (fun hc1 => ?_)
  ·
    refine t_seq ?_
    refine t_region ?_
    refine mvI rfl ?_
    refine asX rfl ?_
    refine asI rfl ?_
    refine r_nil ?_
    refine i_then ?_
    refine t_ret ?_
    refine i_then_ret ?_
    refine i_rp2 rfl rfl rfl ?_ ?_
    all_goals skip
    all_goals (rw [fv_1 hc1]; first | exact ret_refl rfl rfl | exact ret_nil)
  ·
    refine t_skip ?_
    refine i_then ?_
    refine t_seq ?_
    refine t_region ?_
    refine r_alloc rfl (by exact List.cons_ne_nil _ _) rfl ?_
    refine r_nil ?_
    refine i_then ?_
    refine t_seq ?_
    obtain ⟨hf, hl, h4⟩ := torn_ok hc1
    have hfew := all_few (f := f) h4
    refine t_region ?_
    refine mvS' rfl ?_
    refine r_makeFunc rfl ?_
    refine r_build rfl rfl (by exact List.cons_ne_nil _ _) rfl (by repeat (first | exact (Parts.nil : Parts _ _ [] _) | (show Parts _ _ ((_, _) :: _) _; apply Parts.one; (· first | exact (rfl : _ = Ty.clo _ _) | exact (rfl : _ = Ty.str _)); (· exact rfl)))) (by exact (rfl : _ = some [_, _])) ?_
    refine r_load_ppN rfl rfl rfl (by exact Nat.le_of_ble_eq_true rfl) ?_
    refine r_op (opT_callFd (fid := 84) (caps := [Ty.ptr 8 0]) (S := [8, 500]) (K := [500]) (mv := [500]) (F := [1000]) (px := 2 ≤ (allF f text).length) (ok := fun k => k < 2) (tgs := fun k => [(8, Cont.cells 53 [Ty.row StrE 9 500 (filL f text k)])]) (tgx := [(8, Cont.cells 53 [Ty.row StrE 9 500 (filL f text 2)])]) (sets := [(8, Cont.cells 53 [Ty.row StrE 9 500 (filL f text 2)])]) (ρ := [(8, 1000), (500, 1001)]) (pre := fun k => [(1000, Cont.cells 53 [Ty.row StrE 9 1001 (filL f text k)])]) (post := fun k => [(1000, Cont.cells 53 [Ty.row StrE 9 1001 (filL f text (k + 1))])]) (argsF := fun k => [Ty.str (bs (nth (allF f text) k).1), Ty.any, Ty.ptr 1000 0]) (go := fun k => decide (k + 1 < 2)) (c_fill f hf text hl) rfl fin_hfv (fun _ => ⟨rfl, rfl⟩) (k_Fillings1 [] [] (by decide)).ex (fun k h2 hk => by rw [List.length_map] at hk; exact fil_ctr hk h2) rfl rfl rfl rfl (by decide) (by intro t h; rw [List.mem_singleton.1 h]; exact ⟨1001, by decide⟩) (by decide) (by decide) (allE_pub f _) (fun k tys hk => by obtain ⟨_, rfl⟩ := enc_at hk; exact cv_cons (cv_cons (cv_cons cv_nil (cv_ptr (by decide))) cv_any) (cv_pub rfl rfl)) (fun k => pre_cons (a := 8) (by decide) rfl (cc_cells (by decide) (cv_cons cv_nil (cv_row (by decide)))) pre_nil) (fun k _ _ => post_cons (a := 8) (b := 1000) (by decide) rfl (cc_cells (by decide) (cv_cons cv_nil (cv_row (by decide)))) post_nil) (fun k h2 hg => fil_px h2 (of_decide_eq_false hg)) (by decide) (fun k _ _ hg => of_decide_eq_true hg) (fun k h1 h2 hg => by have hg := of_decide_eq_false hg; rw [List.length_map] at h2; omega) (fun _ => rfl) rfl (allTags_cons rfl (Cont.sub_subs ⟨fil_nil0, trivial⟩) allTags_nil) (by decide) (by intro t h; rw [List.mem_singleton.1 h]; exact ⟨by decide, by simp⟩) (by simp) rfl (fun hlt w M h x hx => by rw [List.length_map] at h hlt; rw [filL_all hlt] at h; exact h x hx) (fun _ w M h x hx => h x hx)) ?_
    refine r_nil ?_
    refine i_then ?_
    refine t_seq ?_
    refine t_region ?_
    refine r_load_ptr rfl rfl (by decide) rfl rfl rfl ?_
    refine asR rfl ?_
    refine asI rfl ?_
    refine r_nil ?_
    refine i_then ?_
    refine t_ret ?_
    refine i_rp2 rfl rfl rfl ?_ ?_
    all_goals skip
    all_goals (rw [fv_2 hc1]; first | exact ret_row (by decide) | exact ret_refl rfl rfl)
set_option maxRecDepth 100000 in
theorem c_bookP (f : BForm) (p : Rdr) (h : p.read.length ≤ 13) (hw : f.widths.length ≤ 1000) (hn : ∀ r ∈ p.read, r.nums.length ≤ 1000) : Ctr Tryz.prog 86 [Ty.pp (rdrPl f p)] (bokT ⟨f, p.read⟩) := by
  refine fn_intro Tryz.func86 rfl (by decide) Tryz.ntmps86 (by exact Nat.le_of_ble_eq_true rfl) fun w0 M0 => ?_
  refine t_seq ?_
  refine t_region ?_
  refine r_alloc rfl (by exact List.cons_ne_nil _ _) rfl ?_
  refine r_nil ?_
  refine i_then ?_
  refine t_seq ?_
  refine t_draw mixed rfl ?_
  refine mvP rfl ?_
  refine r_nilCheck_pp rfl ?_
  refine r_field_pp rfl rfl rfl rfl rfl (by decide) ?_
  refine r_load_ppN rfl rfl rfl (by exact Nat.le_of_ble_eq_true rfl) ?_
  refine mvP rfl ?_
  refine r_nilCheck_pp rfl ?_
  refine r_field_pp rfl rfl rfl rfl rfl (by decide) ?_
  refine r_load_pp rfl rfl rfl rfl ?_
  refine r_build rfl rfl (by exact List.cons_ne_nil _ _) rfl (by repeat (first | exact (Parts.nil : Parts _ _ [] _) | (show Parts _ _ ((_, _) :: _) _; apply Parts.one; (· exact (rfl : _ = Ty.sl _ _)); (· exact rfl)) | (show Parts _ _ ((_, _) :: _) _; apply Parts.agg; (· exact (rfl : _ = Ty.agg _))))) (by exact (rfl : _ = some [_, _, _])) ?_
  refine r_call (c_own ⟨f, p.read⟩ h hw hn) rfl rfl rfl rfl rfl ?_
  refine r_storeN rfl rfl (by decide) rfl rfl rfl rfl rfl rfl ?_
  refine r_nil ?_
  refine ⟨by kernel_rfl, ?_⟩
  refine i_then ?_
  refine t_ret ?_
  refine i_rcell rfl rfl rfl rfl (by decide) rfl rfl rfl ?_
  exact ret_refl rfl rfl
set_option maxRecDepth 100000 in
theorem k_Restore1 (f : BForm) (p : Rdr) (h : p.read.length ≤ 13) (hw : f.widths.length ≤ 1000) (hn : ∀ r ∈ p.read, r.nums.length ≤ 1000) (b : Book) (k : Nat) (hk : k ≤ 2) : CtrG Tryz.prog 85 [1000, 1001] [(1000, Cont.cells 27 (bokTys b)), (1001, Cont.cells 3 [Ty.int .i64 (k : Nat)])] [Ty.any, Ty.pp (rdrPl f p), Ty.ptr 1000 0, Ty.ptr 1001 0] [(1000, Cont.cells 27 (bokTys ⟨f, p.read⟩)), (1001, Cont.cells 3 [Ty.int .i64 ((k + 1 : Nat) : Int)])] (Ty.bool (decide (k + 1 < 2))) := by
  refine fnG_intro Tryz.func85 rfl (by decide) Tryz.ntmps85 (by exact Nat.le_of_ble_eq_true rfl) fun w0 M0 => ?_
  refine t_seq ?_
  refine t_region ?_
  refine asB rfl ?_
  refine r_nil ?_
  refine i_then ?_
  refine t_seq ?_
  refine t_region ?_
  refine mvP rfl ?_
  refine r_call (c_bookP f p h hw hn) rfl rfl rfl rfl rfl ?_
  refine r_storeN rfl rfl (by decide) rfl rfl rfl rfl rfl rfl ?_
  refine r_nil ?_
  refine i_then ?_
  refine t_seq ?_
  refine t_region ?_
  refine r_load_ptr rfl rfl (by decide) rfl rfl rfl ?_
  refine r_add rfl rfl (by omega) (by omega) ?_
  refine r_store1 rfl rfl (by decide) rfl rfl (by exact (rfl : _ = Ty.int _ _)) rfl (by exact Nat.le_of_ble_eq_true rfl) rfl rfl (by exact (rfl : _ = [_])) ?_
  refine r_nil ?_
  refine i_then ?_
  refine t_seq ?_
  refine t_region ?_
  refine r_load_ptr rfl rfl (by decide) rfl rfl rfl ?_
  refine r_bin rfl rfl rfl ?_
  refine asB rfl ?_
  refine r_nil ?_
  refine i_then ?_
  refine t_ret ?_
  refine g_ret1 [1000, 1001] rfl rfl (by decide) ?_ ?_
  exact rc_cons rfl (cc_cells_eq (by decide) rfl rfl rfl) (rc_cons rfl (cc_cells_eq (by decide) rfl rfl rfl) rc_nil)
  all_goals skip
  all_goals exact rg_cv (cv_sub rfl rfl (Ty.sub_bool (res_b k)))
theorem res_ctr {f : BForm} {text : Byt} {k : Nat} (hf : FormOk f) (ho : RdrOk f (nth (allF f text) k).2) (h2 : k < 2) : CtrG Tryz.prog 85 [1000, 1001] [(1000, Cont.cells 27 (bokTys (resB f text k))), (1001, Cont.cells 3 [Ty.int .i64 (k : Nat)])] [Ty.any, Ty.pp (rdrPl f (nth (allF f text) k).2), Ty.ptr 1000 0, Ty.ptr 1001 0] [(1000, Cont.cells 27 (bokTys (resB f text (k + 1)))), (1001, Cont.cells 3 [Ty.int .i64 ((k + 1 : Nat) : Int)])] (Ty.bool (decide (k + 1 < 2))) := by
  have h := k_Restore1 f (nth (allF f text) k).2 ho.len (by have := hf.n2; omega) ho.num_len (resB f text k) k (by omega)
  rwa [← resB_succ] at h
set_option maxRecDepth 100000 in
theorem c_Restore (f : BForm) (text : Byt) : Ctr Tryz.prog 29 [frmT f, Ty.str (bs text)] (Ty.tup [bokT (resV f text).1, Ty.int .i64 (resV f text).2]) := by
  refine fn_intro Tryz.func29 rfl (by decide) Tryz.ntmps29 (by exact Nat.le_of_ble_eq_true rfl) fun w0 M0 => ?_
  refine t_seq ?_
  refine t_region ?_
  refine r_box_agg rfl ?_
  refine r_alloc rfl (by exact List.cons_ne_nil _ _) rfl ?_
  refine asI rfl ?_
  refine r_nil ?_
  refine i_then ?_
  refine t_seq ?_
  refine t_seq ?_
  refine t_region ?_
  refine r_load_ppN rfl rfl rfl (by exact Nat.le_of_ble_eq_true rfl) ?_
  refine mvS' rfl ?_
  refine r_call (c_torn _ _) rfl rfl rfl rfl rfl ?_
  refine asI rfl ?_
  refine r_nil ?_
  refine i_then ?_
  refine t_seq ?_
  refine t_region ?_
  refine mvI rfl ?_
  refine r_bin rfl rfl rfl ?_
  refine r_nil ?_
  refine i_then ?_
  refine t_cond_ndec rfl (fun hc1 => ?_) (fun hc1 => ?_)
  ·
    refine t_seq ?_
    refine t_region ?_
    refine r_build rfl rfl (by exact List.cons_ne_nil _ _) rfl (by repeat (exact (Parts.nil : Parts _ _ [] _))) (by exact (rfl : _ = some [_, _, _])) ?_
    refine mvI rfl ?_
    refine r_storeN rfl rfl (by decide) rfl rfl rfl rfl rfl rfl ?_
    refine asI rfl ?_
    refine r_nil ?_
    refine i_then ?_
    refine t_ret ?_
    refine i_then_ret ?_
    refine i_rcell2 rfl rfl rfl rfl rfl (by decide) rfl rfl rfl ?_ ?_
    all_goals skip
    all_goals (rw [rv_1 hc1]; first | exact ret_sub rfl rfl zero_bok | exact ret_refl rfl rfl)
  ·
    refine t_skip ?_
    refine i_then ?_
    refine t_seq ?_
    refine t_region ?_
    refine r_alloc rfl (by exact List.cons_ne_nil _ _) rfl ?_
    refine r_nil ?_
    refine i_then ?_
    refine t_seq ?_
    refine t_region ?_
    refine r_alloc rfl (by exact List.cons_ne_nil _ _) rfl ?_
    refine r_store1 rfl rfl (by decide) rfl rfl (by exact (rfl : _ = Ty.int _ _)) rfl (by exact Nat.le_of_ble_eq_true rfl) rfl rfl (by exact (rfl : _ = [_])) ?_
    refine r_nil ?_
    refine i_then ?_
    refine t_seq ?_
    obtain ⟨hf, hl, h4⟩ := torn_ok hc1
    have hfew := all_few (f := f) h4
    refine t_region ?_
    refine mvS' rfl ?_
    refine r_makeFunc rfl ?_
    refine r_build rfl rfl (by exact List.cons_ne_nil _ _) rfl (by repeat (first | exact (Parts.nil : Parts _ _ [] _) | (show Parts _ _ ((_, _) :: _) _; apply Parts.one; (· first | exact (rfl : _ = Ty.clo _ _) | exact (rfl : _ = Ty.str _)); (· exact rfl)))) (by exact (rfl : _ = some [_, _])) ?_
    refine r_load_ppN rfl rfl rfl (by exact Nat.le_of_ble_eq_true rfl) ?_
    refine r_op (opT_callFd (fid := 85) (caps := [Ty.ptr 8 0, Ty.ptr 9 0]) (S := [8, 9]) (K := []) (mv := []) (F := [1000, 1001]) (px := 2 ≤ (allF f text).length) (ok := fun k => k < 2) (tgs := fun k => [(8, Cont.cells 27 (bokTys (resB f text k))), (9, Cont.cells 3 [Ty.int .i64 (k : Nat)])]) (tgx := [(8, Cont.cells 27 (bokTys (resB f text 2))), (9, Cont.cells 3 [Ty.int .i64 ((2 : Nat) : Int)])]) (sets := [(8, Cont.cells 27 (bokTys (resB f text (min 2 (allF f text).length)))), (9, Cont.cells 3 [Ty.int .i64 ((min 2 (allF f text).length : Nat) : Int)])]) (ρ := [(8, 1000), (9, 1001)]) (pre := fun k => [(1000, Cont.cells 27 (bokTys (resB f text k))), (1001, Cont.cells 3 [Ty.int .i64 (k : Nat)])]) (post := fun k => [(1000, Cont.cells 27 (bokTys (resB f text (k + 1)))), (1001, Cont.cells 3 [Ty.int .i64 ((k + 1 : Nat) : Int)])]) (argsF := fun k => [Ty.any, Ty.pp (rdrPl f (nth (allF f text) k).2), Ty.ptr 1000 0, Ty.ptr 1001 0]) (go := fun k => decide (k + 1 < 2)) (c_fill f hf text hl) rfl fin_hfv (fun _ => ⟨rfl, rfl⟩) (k_Restore1 f Rdr.new (by decide) (by have := hf.n2; omega) (by intro r h; cases h) Book.zero 0 (by decide)).ex (fun k h2 hk => by rw [List.length_map] at hk; have ho := all_ok hf hk; exact res_ctr hf ho h2) rfl rfl rfl rfl (by decide) (by intro t h; cases h) (by decide) (by decide) (allE_pub f _) (fun k tys hk => by obtain ⟨_, rfl⟩ := enc_at hk; exact cv_cons (cv_cons (cv_cons (cv_cons cv_nil (cv_ptr (by decide))) (cv_ptr (by decide))) (cv_pub rfl rfl)) cv_any) (fun k => pre_cons (a := 8) (by decide) rfl (cc_cells_eq (by decide) rfl rfl rfl) (pre_cons (a := 9) (by decide) rfl (cc_cells_eq (by decide) rfl rfl rfl) pre_nil)) (fun k _ _ => post_cons (a := 8) (b := 1000) (by decide) rfl (cc_cells_eq (by decide) rfl rfl rfl) (post_cons (a := 9) (b := 1001) (by decide) rfl (cc_cells_eq (by decide) rfl rfl rfl) post_nil)) (fun k h2 hg => res_px h2 (of_decide_eq_false hg)) (by decide) (fun k _ _ hg => of_decide_eq_true hg) (fun k h1 h2 hg => by have hg := of_decide_eq_false hg; rw [List.length_map] at h2; omega) (fun _ => rfl) rfl (allTags_cons rfl (Cont.sub_subs res_zero) (allTags_cons rfl (Cont.sub_subs ⟨Ty.sub_int rfl, trivial⟩) allTags_nil)) (by decide) (by intro t h; cases h) (by simp) rfl (fun hlt w M h x hx => by rw [List.length_map] at h hlt; rw [show min 2 (allF f text).length = (allF f text).length by omega] at hx; exact h x hx) (fun hge w M h x hx => by rw [show min 2 (allF f text).length = 2 by omega] at hx; exact h x hx)) ?_
    refine r_nil ?_
    refine i_then ?_
    refine t_seq ?_
    refine t_seq ?_
    refine t_region ?_
    refine r_load_ptr rfl rfl (by decide) rfl rfl rfl ?_
    refine r_nil ?_
    refine i_then ?_
    refine t_block ?_
    refine t_seq ?_
    refine t_region ?_
    refine r_bin rfl rfl rfl ?_
    refine asB rfl ?_
    refine r_nil ?_
    refine i_then ?_
    refine t_cond_dec rfl (fun hc2 => ?_) (fun hc2 => ?_)
    ·
      refine t_seq ?_
      refine t_region ?_
      refine r_build rfl rfl (by exact List.cons_ne_nil _ _) rfl (by repeat (exact (Parts.nil : Parts _ _ [] _))) (by exact (rfl : _ = some [_, _, _])) ?_
      refine r_storeN rfl rfl (by decide) rfl rfl rfl rfl rfl rfl ?_
      refine asI rfl ?_
      refine r_nil ?_
      refine i_then ?_
      refine t_ret ?_
      refine i_block_ret ?_
      refine i_then_ret ?_
      refine i_rcell2 rfl rfl rfl rfl rfl (by decide) rfl rfl rfl ?_ ?_
      all_goals skip
      all_goals (rw [rv_2 hc1 hc2]; first | exact ret_sub rfl rfl zero_bok | exact ret_refl rfl rfl)
    ·
      refine t_seq ?_
      refine t_region ?_
      refine r_bin rfl rfl rfl ?_
      refine asB rfl ?_
      refine r_nil ?_
      refine i_then ?_
      refine t_cond_dec rfl (fun hc3 => ?_) (fun hc3 => ?_)
      ·
        refine t_seq ?_
        refine t_region ?_
        refine r_load_ptrN rfl rfl (by decide) rfl rfl (by exact Nat.le_of_ble_eq_true rfl) ?_
        refine r_storeN rfl rfl (by decide) rfl rfl rfl rfl rfl rfl ?_
        refine asI rfl ?_
        refine r_nil ?_
        refine i_then ?_
        refine t_ret ?_
        refine i_block_ret ?_
        refine i_then_ret ?_
        refine i_rcell2 rfl rfl rfl rfl rfl (by decide) rfl rfl rfl ?_ ?_
        all_goals skip
        all_goals (rw [rv_3 hc1 hc2 hc3]; exact ret_refl rfl rfl)
      ·
        refine t_skip ?_
        refine i_block ?_
        refine i_then ?_
        refine t_seq ?_
        refine t_region ?_
        refine r_build rfl rfl (by exact List.cons_ne_nil _ _) rfl (by repeat (exact (Parts.nil : Parts _ _ [] _))) (by exact (rfl : _ = some [_, _, _])) ?_
        refine r_storeN rfl rfl (by decide) rfl rfl rfl rfl rfl rfl ?_
        refine asI rfl ?_
        refine r_nil ?_
        refine i_then ?_
        refine t_ret ?_
        refine i_rcell2 rfl rfl rfl rfl rfl (by decide) rfl rfl rfl ?_ ?_
        all_goals skip
        all_goals (rw [rv_4 hc1 hc2 hc3]; first | exact ret_sub rfl rfl zero_bok | exact ret_refl rfl rfl)
end Go.Proofs.YtjjndkenddigiaaGreatDoor

namespace Go.Proofs.YtjjndkenddigiaaGreatDoor
open Go Go.T
theorem Rch.one {f : BForm} {p : Rdr} {c : UInt8} (h : c ∈ canR f p) : Rch f p [c] (nextR f p c) := .cons h (.nil _)
inductive Good (f : BForm) : List BRow → Int → Bool → Byt → List BRow → Prop
  | fin {rows : List BRow} {page : Int} : Good f rows page true [] rows
  | row {rows R : List BRow} {page : Int} {r : BRow} {t : Byt} (h : page < f.lines) (h2 : rows.length < 12) (hr : RowOk f r) (h' : Good f (rows ++ [r]) (page + 1) false t R) : Good f rows page false (rowB f r ++ t) R
  | eq {rows R : List BRow} {page : Int} {t : Byt} (h : page > 0 ∨ (rows.length = 0 ∧ page = 0)) (h' : Good f rows page true t R) : Good f rows page false (61 :: lineB f rows ++ t) R
  | plus {rows R : List BRow} {page : Int} {t : Byt} (h : page = f.lines) (h2 : rows.length < 12) (h' : Good f rows 0 false t R) : Good f rows page true (43 :: lineB f rows ++ t) R
end Go.Proofs.YtjjndkenddigiaaGreatDoor

namespace Go.Proofs.YtjjndkenddigiaaGreatDoor
open Go Go.T
end Go.Proofs.YtjjndkenddigiaaGreatDoor

namespace Go.Proofs.YtjjndkenddigiaaGreatDoor
open Go Go.T
section
variable {f : BForm} {r r' : BRow}
end
end Go.Proofs.YtjjndkenddigiaaGreatDoor

namespace Go.Proofs.YtjjndkenddigiaaGreatDoor
open Go Go.T
end Go.Proofs.YtjjndkenddigiaaGreatDoor

namespace Go.Proofs.YtjjndkenddigiaaGreatDoor
open Go Go.T
end Go.Proofs.YtjjndkenddigiaaGreatDoor

namespace Go.Proofs.YtjjndkenddigiaaGreatDoor
open Go Go.T
structure Sk where
  grain : List Int
  taken : Int
  mixed : Int
def Sk.Ok (s : Sk) (n : Int) : Prop := 0 ≤ s.taken ∧ s.taken + n ≤ 4611686018427387904
end Go.Proofs.YtjjndkenddigiaaGreatDoor

namespace Go.Proofs.YtjjndkenddigiaaGreatDoor
open Go Go.T
end Go.Proofs.YtjjndkenddigiaaGreatDoor

namespace Go.Proofs.YtjjndkenddigiaaGreatDoor
open Go Go.T
end Go.Proofs.YtjjndkenddigiaaGreatDoor

namespace Go.Proofs.YtjjndkenddigiaaGreatDoor
open Go Go.T
end Go.Proofs.YtjjndkenddigiaaGreatDoor

namespace Go.Proofs.YtjjndkenddigiaaGreatDoor
open Go Go.T
end Go.Proofs.YtjjndkenddigiaaGreatDoor

namespace Go.Proofs.YtjjndkenddigiaaGreatDoor
open Go Go.T
end Go.Proofs.YtjjndkenddigiaaGreatDoor

namespace Go.Proofs.YtjjndkenddigiaaGreatDoor
open Go Go.T
def agL : Byt → Byt → Prop
  | [], [] => True
  | x :: xs, c :: cs => (c = 63 ∨ c = x) ∧ agL xs cs
  | _, _ => False
theorem fil_mem {f : BForm} : ∀ (t : Byt) (p : Rdr), ∀ x ∈ fillR f p t, Rch f p x.1 x.2 ∧ wholeR x.2 = true ∧ agL x.1 t
  | [], p, x, hx => by
    rw [fillR] at hx
    split at hx
    · rename_i hw
      rw [List.mem_singleton.1 hx]; exact ⟨.nil _, hw, trivial⟩
    · cases hx
  | c :: t, p, x, hx => by
    rw [fillR] at hx
    by_cases hc : c ≠ 63
    · rw [if_pos hc] at hx
      unfold stepR at hx
      by_cases hm : c ∈ canR f p
      · rw [if_pos hm] at hx
        obtain ⟨y, hy, rfl⟩ := List.mem_map.1 hx
        obtain ⟨h1, h2, h3⟩ := fil_mem t _ y hy
        exact ⟨.cons hm h1, h2, .inr rfl, h3⟩
      · rw [if_neg hm] at hx; cases hx
    · rw [if_neg hc] at hx
      obtain ⟨d, hd, hx⟩ := List.mem_flatMap.1 hx
      obtain ⟨y, hy, rfl⟩ := List.mem_map.1 hx
      obtain ⟨h1, h2, h3⟩ := fil_mem t _ y hy
      exact ⟨.cons hd h1, h2, .inl (Classical.not_not.1 hc), h3⟩
theorem can_asc (f : BForm) (p : Rdr) : (canR f p).Pairwise (· < ·) := by
  unfold canR
  split
  · exact List.pairwise_singleton _ _
  · split
    · unfold figC
      generalize p.digits = a
      generalize lastB f p = c
      cases a <;> cases c <;> decide
    · split
      · split <;> simp
      · split <;> split <;> simp <;> decide
section
variable {b : Book} (hb : BookOk b) {s : Byt} (hs : agL (printB b) s)
include hb
include hs
end
end Go.Proofs.YtjjndkenddigiaaGreatDoor

namespace Go.Proofs.YtjjndkenddigiaaGreatDoor
open Go Go.T
def allS : Byt := [10, 32, 43, 45, 48, 49, 50, 51, 52, 53, 54, 55, 56, 57, 61, 97, 98, 99, 100, 101, 102, 103, 104, 105, 106, 107, 108, 109, 110, 111, 112, 113, 114, 115, 116, 117, 118, 119, 124]
def fsL (f : BForm) (t : Byt) : List Byt := (allF f t).map Prod.fst
theorem fil_none {f : BForm} : ∀ (t : Byt) (p : Rdr), (∀ c ∈ t, c ≠ 63) → fillR f p t = if (runR f p t).1 = t.length ∧ wholeR (runR f p t).2 = true then [(t, (runR f p t).2)] else []
  | [], p, _ => by
    show (if wholeR p then [([], p)] else []) = if (0 : Nat) = 0 ∧ wholeR p = true then [([], p)] else []
    by_cases h : wholeR p = true
    · rw [if_pos h, if_pos ⟨rfl, h⟩]
    · rw [if_neg h, if_neg (fun e => h e.2)]
  | c :: t, p, h => by
    have h0 : c ≠ 63 := h c List.mem_cons_self
    have ht : ∀ x ∈ t, x ≠ 63 := fun x hx => h x (List.mem_cons_of_mem _ hx)
    rw [fillR, if_pos h0]
    by_cases hc : c ∈ canR f p
    · have e : runR f p (c :: t) = ((runR f (nextR f p c) t).1 + 1, (runR f (nextR f p c) t).2) := by
        show (match stepR f p c with | none => (0, p) | some q => ((runR f q t).1 + 1, (runR f q t).2)) = _
        rw [show stepR f p c = some (nextR f p c) from if_pos hc]
      rw [e, show stepR f p c = some (nextR f p c) from if_pos hc]
      simp only [fil_none t (nextR f p c) ht]
      by_cases hq : (runR f (nextR f p c) t).1 = t.length ∧ wholeR (runR f (nextR f p c) t).2 = true
      · rw [if_pos hq, if_pos ⟨by simp [hq.1], hq.2⟩]; rfl
      · rw [if_neg hq, if_neg (fun e => hq ⟨by simpa using e.1, e.2⟩)]; rfl
    · have e : runR f p (c :: t) = (0, p) := by
        show (match stepR f p c with | none => (0, p) | some q => ((runR f q t).1 + 1, (runR f q t).2)) = _
        rw [show stepR f p c = none from if_neg hc]
      rw [e, show stepR f p c = none from if_neg hc, if_neg (fun h => by simp at h)]
theorem fil_to {f : BForm} (u : Byt) : ∀ (t : Byt) (p : Rdr), (∀ c ∈ t, c ≠ 63) → fillR f p (t ++ u) = if (runR f p t).1 = t.length then (fillR f (runR f p t).2 u).map fun x => (t ++ x.1, x.2) else []
  | [], p, _ => by
    show fillR f p u = if (0 : Nat) = 0 then (fillR f p u).map (fun x => ([] ++ x.1, x.2)) else []
    rw [if_pos rfl]; simp
  | c :: t, p, h => by
    have h0 : c ≠ 63 := h c List.mem_cons_self
    have ht : ∀ x ∈ t, x ≠ 63 := fun x hx => h x (List.mem_cons_of_mem _ hx)
    show fillR f p (c :: (t ++ u)) = _
    rw [fillR, if_pos h0]
    by_cases hc : c ∈ canR f p
    · have e : runR f p (c :: t) = ((runR f (nextR f p c) t).1 + 1, (runR f (nextR f p c) t).2) := by
        show (match stepR f p c with | none => (0, p) | some q => ((runR f q t).1 + 1, (runR f q t).2)) = _
        rw [show stepR f p c = some (nextR f p c) from if_pos hc]
      rw [e, show stepR f p c = some (nextR f p c) from if_pos hc]
      simp only [fil_to u t (nextR f p c) ht]
      by_cases hq : (runR f (nextR f p c) t).1 = t.length
      · rw [if_pos hq, if_pos (by simp [hq]), List.map_map]; rfl
      · rw [if_neg hq, if_neg (fun e => hq (by simpa using e))]; rfl
    · have e : runR f p (c :: t) = (0, p) := by
        show (match stepR f p c with | none => (0, p) | some q => ((runR f q t).1 + 1, (runR f q t).2)) = _
        rw [show stepR f p c = none from if_neg hc]
      rw [e, show stepR f p c = none from if_neg hc, if_neg (fun h => by simp at h)]
theorem asc_eq : ∀ {l m : Byt}, l.Pairwise (· < ·) → m.Pairwise (· < ·) → (∀ x, x ∈ l ↔ x ∈ m) → l = m
  | [], [], _, _, _ => rfl
  | [], y :: m, _, _, h => absurd ((h y).2 List.mem_cons_self) List.not_mem_nil
  | x :: l, [], _, _, h => absurd ((h x).1 List.mem_cons_self) List.not_mem_nil
  | x :: l, y :: m, hl, hm, h => by
    obtain ⟨l1, l2⟩ := List.pairwise_cons.1 hl
    obtain ⟨m1, m2⟩ := List.pairwise_cons.1 hm
    have e : x = y := by
      rcases List.mem_cons.1 ((h x).1 List.mem_cons_self) with h1 | h1
      · exact h1
      · rcases List.mem_cons.1 ((h y).2 List.mem_cons_self) with h2 | h2
        · exact h2.symm
        · have a := m1 x h1
          have b := l1 y h2
          exact absurd (UInt8.lt_trans a b) (UInt8.lt_irrefl _)
    subst e
    congr 1
    refine asc_eq l2 m2 fun z => ⟨fun hz => ?_, fun hz => ?_⟩
    · rcases List.mem_cons.1 ((h z).1 (List.mem_cons_of_mem _ hz)) with h1 | h1
      · subst h1; exact absurd (l1 z hz) (UInt8.lt_irrefl _)
      · exact h1
    · rcases List.mem_cons.1 ((h z).2 (List.mem_cons_of_mem _ hz)) with h1 | h1
      · subst h1; exact absurd (m1 z hz) (UInt8.lt_irrefl _)
      · exact h1
theorem allS_asc : allS.Pairwise (· < ·) := by decide +kernel
theorem fld_all {x : UInt8} (h : FldB x) : x ∈ allS := by
  have key : ∀ n : Fin 256, (UInt8.ofNat n.1 = 32 ∨ (48 ≤ (UInt8.ofNat n.1).toNat ∧ (UInt8.ofNat n.1).toNat ≤ 57)) → UInt8.ofNat n.1 ∈ allS := by decide +kernel
  have := key ⟨x.toNat, x.toNat_lt⟩
  rw [UInt8.ofNat_toNat] at this
  exact this h
theorem let_all (f : BForm) (r : BRow) : letB f r ∈ allS := by
  have key : ∀ k : Fin 23, UInt8.ofNat (97 + k.1) ∈ allS := by decide +kernel
  exact key ⟨(letN f r).toNat % 23, Nat.mod_lt _ (by decide)⟩
theorem line_all {f : BForm} {rows : List BRow} (hs : SmallR rows) (hl : rows.length ≤ 1000) : ∀ x ∈ lineB f rows, x ∈ allS := fun x hx => by
  unfold lineB at hx
  rcases List.mem_append.1 hx with h | h
  · obtain ⟨l, hl', hxl⟩ := List.mem_flatten.1 h
    obtain ⟨c, _, rfl⟩ := List.mem_map.1 hl'
    rcases List.mem_append.1 hxl with h | h
    · refine fld_all (fldN_fld ?_ x h)
      have := sumC_bnd hs c
      exact Nat.lt_of_le_of_lt (show (sumC rows c).toNat ≤ 10000000 by omega) (by decide)
    · rw [List.mem_singleton.1 h]; decide
  · rw [List.mem_singleton.1 h]; decide
def MustA (p : Rdr) : Prop := ∀ x ∈ p.must, x ∈ allS
theorem must_next {f : BForm} {p : Rdr} {c : UInt8} (ho : RdrOk f p) (h : MustA p) : MustA (nextR f p c) := by
  by_cases hm : p.must = []
  · rw [next_0 hm]
    by_cases hb : p.begun = true
    · rw [if_pos hb]
      unfold figR
      intro x hx
      dsimp only at hx
      split at hx
      · exact h x hx
      · split at hx
        · rcases List.mem_cons.1 hx with rfl | hx
          · decide
          · rcases List.mem_cons.1 hx with rfl | hx
            · exact let_all _ _
            · rw [List.mem_singleton.1 hx]; decide
        · rw [List.mem_singleton.1 hx]; decide
    · have hb' : p.begun = false := by simpa using hb
      have hrows : SmallR p.read := fun r hr => by
        obtain ⟨k, hk, e⟩ := List.getElem_of_mem hr
        have hf := ho.few
        rw [if_neg hb] at hf
        have h2 := ho.done k (by omega)
        rw [show nth p.read k = r by simp [nth, hk, e]] at h2
        exact small_of ho.form h2
      have hlen : p.read.length ≤ 1000 := by have := ho.few; rw [if_neg hb] at this; have := ho.r1; omega
      rw [if_neg hb]
      split
      · exact line_all hrows hlen
      · split
        · exact line_all hrows hlen
        · exact h
  · rw [next_m hm]
    exact fun x hx => h x (List.mem_of_mem_drop hx)
theorem can_all {f : BForm} {p : Rdr} {c : UInt8} (h : MustA p) (hc : c ∈ canR f p) : c ∈ allS := by
  unfold canR at hc
  split at hc
  · rename_i x l e
    rw [List.mem_singleton.1 hc]; exact h x (by rw [e]; exact List.mem_cons_self)
  · split at hc
    · rcases figC_mem hc with ⟨rfl, _⟩ | ⟨_, h1, h2⟩
      · decide
      · exact fld_all (.inr ⟨h1, h2⟩)
    · split at hc
      · split at hc
        · rw [List.mem_singleton.1 hc]; decide
        · cases hc
      · rcases List.mem_append.1 hc with h | h
        · split at h
          · rcases List.mem_cons.1 h with rfl | h
            · decide
            · rw [List.mem_singleton.1 h]; decide
          · cases h
        · split at h
          · rw [List.mem_singleton.1 h]; decide
          · cases h
theorem run_must {f : BForm} : ∀ (t : Byt) (p : Rdr), RdrOk f p → MustA p → RdrOk f (runR f p t).2 ∧ MustA (runR f p t).2
  | [], _, ho, h => ⟨ho, h⟩
  | c :: t, p, ho, h => by
    show RdrOk f (match stepR f p c with | none => (0, p) | some q => ((runR f q t).1 + 1, (runR f q t).2)).2 ∧ MustA (match stepR f p c with | none => (0, p) | some q => ((runR f q t).1 + 1, (runR f q t).2)).2
    unfold stepR
    by_cases hc : c ∈ canR f p
    · rw [if_pos hc]; exact run_must t _ (next_ok ho hc) (must_next ho h)
    · rw [if_neg hc]; exact ⟨ho, h⟩
theorem run_app1 {f : BForm} (v : Byt) : ∀ (t : Byt) (p : Rdr), (runR f p t).1 = t.length → runR f p (t ++ v) = (t.length + (runR f (runR f p t).2 v).1, (runR f (runR f p t).2 v).2)
  | [], p, _ => by
    show runR f p v = (0 + (runR f p v).1, (runR f p v).2)
    rw [Nat.zero_add]
  | c :: t, p, h => by
    by_cases hc : c ∈ canR f p
    · have e : ∀ w, runR f p (c :: w) = ((runR f (nextR f p c) w).1 + 1, (runR f (nextR f p c) w).2) := fun w => by
        show (match stepR f p c with | none => (0, p) | some q => ((runR f q w).1 + 1, (runR f q w).2)) = _
        rw [show stepR f p c = some (nextR f p c) from if_pos hc]
      rw [e] at h
      have ih := run_app1 v t (nextR f p c) (by simpa using h)
      rw [List.cons_append, e, e, ih]
      simp only [List.length_cons]
      congr 1; omega
    · have e : runR f p (c :: t) = (0, p) := by
        show (match stepR f p c with | none => (0, p) | some q => ((runR f q t).1 + 1, (runR f q t).2)) = _
        rw [show stepR f p c = none from if_neg hc]
      rw [e] at h; simp at h
theorem run_app2 {f : BForm} (v : Byt) : ∀ (t : Byt) (p : Rdr), ¬ (runR f p t).1 = t.length → runR f p (t ++ v) = runR f p t
  | [], p, h => absurd rfl h
  | c :: t, p, h => by
    by_cases hc : c ∈ canR f p
    · have e : ∀ w, runR f p (c :: w) = ((runR f (nextR f p c) w).1 + 1, (runR f (nextR f p c) w).2) := fun w => by
        show (match stepR f p c with | none => (0, p) | some q => ((runR f q w).1 + 1, (runR f q w).2)) = _
        rw [show stepR f p c = some (nextR f p c) from if_pos hc]
      rw [e] at h
      rw [List.cons_append, e, e, run_app2 v t (nextR f p c) (by simpa using h)]
    · have e : ∀ w, runR f p (c :: w) = (0, p) := fun w => by
        show (match stepR f p c with | none => (0, p) | some q => ((runR f q w).1 + 1, (runR f q w).2)) = _
        rw [show stepR f p c = none from if_neg hc]
      rw [List.cons_append, e, e]
def pieceF (f : BForm) (t : Byt) (i : Nat) (c : UInt8) : List Byt := if runN f (t.take i ++ [c]) ≤ i then [] else fsL f (t.take i ++ [c] ++ t.drop (i + 1))
def upP (f : BForm) (t : Byt) (i k : Nat) : List Byt := (allS.take k).flatMap (pieceF f t i)
theorem upP_0 (f : BForm) (t : Byt) (i : Nat) : upP f t i 0 = [] := rfl
theorem upP_no {f : BForm} {t : Byt} {i k : Nat} (hk : k < 39) (h : runN f (t.take i ++ [nth allS k]) ≤ i) : upP f t i (k + 1) = upP f t i k := by
  unfold upP; rw [take_nth hk, List.flatMap_append]; simp [pieceF, h]
theorem upP_yes {f : BForm} {t : Byt} {i k : Nat} (hk : k < 39) (h : ¬ runN f (t.take i ++ [nth allS k]) ≤ i) : upP f t i (k + 1) = upP f t i k ++ fsL f (t.take i ++ [nth allS k] ++ t.drop (i + 1)) := by
  unfold upP; rw [take_nth hk, List.flatMap_append]
  congr 1
  show (pieceF f t i (nth allS k)) ++ [] = _
  rw [List.append_nil]; exact if_neg h
theorem flat_filter {α : Type} {C : Byt} {g : UInt8 → List α} : ∀ l : Byt, (l.flatMap fun d => if d ∈ C then g d else []) = (l.filter fun d => decide (d ∈ C)).flatMap g
  | [] => rfl
  | x :: l => by
    rw [List.flatMap_cons, flat_filter l]
    by_cases h : x ∈ C
    · rw [if_pos h, List.filter_cons_of_pos (by simpa using h), List.flatMap_cons]
    · rw [if_neg h, List.filter_cons_of_neg (by simpa using h)]; rfl
theorem ref_fil {f : BForm} (hf : FormOk f) {t : Byt} {i : Nat} (hi : i < t.length) (hx : nth t i = 63) (hn : ∀ j, j < i → nth t j ≠ 63) : upP f t i 39 = fsL f t := by
  have hpl : (t.take i).length = i := by rw [List.length_take]; omega
  have hno : ∀ c ∈ t.take i, c ≠ 63 := fun c hc => by
    obtain ⟨j, hj, e⟩ := List.getElem_of_mem hc
    rw [hpl] at hj
    have := hn j hj
    rw [List.getElem_take] at e
    rwa [show nth t j = c by simp [nth, show j < t.length by omega, e]] at this
  have ht : t = t.take i ++ 63 :: t.drop (i + 1) := by
    have := List.take_append_drop i t
    rw [drop_nth hi, hx] at this; exact this.symm
  have hup : upP f t i 39 = allS.flatMap (pieceF f t i) := by unfold upP; rw [show allS.take 39 = allS from by decide]
  have hnew : MustA Rdr.new := fun x hx => by cases hx
  obtain ⟨hoq, hmq⟩ := run_must (f := f) (t.take i) Rdr.new (new_ok hf) hnew
  rw [hup]
  unfold fsL allF
  by_cases hr : (runR f Rdr.new (t.take i)).1 = (t.take i).length
  · have hL : (fillR f Rdr.new t).map Prod.fst = (canR f (runR f Rdr.new (t.take i)).2).flatMap fun d => (fillR f (nextR f (runR f Rdr.new (t.take i)).2 d) (t.drop (i + 1))).map fun y => t.take i ++ [d] ++ y.1 := by
      conv => lhs; rw [ht]
      rw [fil_to _ _ _ hno, if_pos hr, fillR, if_neg (by decide), List.map_flatMap, List.map_flatMap]
      congr 1
      funext d
      rw [List.map_map, List.map_map]
      apply List.map_congr_left
      intro y _; simp
    rw [hL]
    have hP : pieceF f t i = fun d => if d ∈ canR f (runR f Rdr.new (t.take i)).2 then (if d = 63 then pieceF f t i d else (fillR f (nextR f (runR f Rdr.new (t.take i)).2 d) (t.drop (i + 1))).map fun y => t.take i ++ [d] ++ y.1) else [] := by
      funext d
      have hrun := run_app1 (f := f) [d] (t.take i) Rdr.new hr
      by_cases hd : d ∈ canR f (runR f Rdr.new (t.take i)).2
      · rw [if_pos hd]
        have e1 : runR f (runR f Rdr.new (t.take i)).2 [d] = (1, nextR f (runR f Rdr.new (t.take i)).2 d) := by
          show (match stepR f (runR f Rdr.new (t.take i)).2 d with | none => (0, (runR f Rdr.new (t.take i)).2) | some q => ((runR f q []).1 + 1, (runR f q []).2)) = _
          rw [show stepR f (runR f Rdr.new (t.take i)).2 d = some (nextR f (runR f Rdr.new (t.take i)).2 d) from if_pos hd]; rfl
        rw [e1] at hrun
        by_cases h63 : d = 63
        · rw [if_pos h63]
        · rw [if_neg h63]
          unfold pieceF runN
          rw [hrun, if_neg (by show ¬ (t.take i).length + 1 ≤ i; omega)]
          unfold fsL allF
          rw [fil_to _ _ _ (fun c hc => by
            rcases List.mem_append.1 hc with h | h
            · exact hno c h
            · rw [List.mem_singleton.1 h]; exact h63), hrun, if_pos (by simp), List.map_map]
          rfl
      · rw [if_neg hd]
        have e1 : runR f (runR f Rdr.new (t.take i)).2 [d] = (0, (runR f Rdr.new (t.take i)).2) := by
          show (match stepR f (runR f Rdr.new (t.take i)).2 d with | none => (0, (runR f Rdr.new (t.take i)).2) | some q => ((runR f q []).1 + 1, (runR f q []).2)) = _
          rw [show stepR f (runR f Rdr.new (t.take i)).2 d = none from if_neg hd]
        rw [e1] at hrun
        unfold pieceF runN
        rw [hrun, if_pos (by show (t.take i).length + 0 ≤ i; omega)]
    rw [hP, flat_filter]
    have hC : (allS.filter fun d => decide (d ∈ canR f (runR f Rdr.new (t.take i)).2)) = canR f (runR f Rdr.new (t.take i)).2 :=
      asc_eq (allS_asc.filter _) (can_asc f _) fun x => ⟨fun h => by simpa using (List.mem_filter.1 h).2, fun h => List.mem_filter.2 ⟨can_all hmq h, by simpa using h⟩⟩
    rw [hC]
    have key : ∀ l : Byt, (∀ d ∈ l, d ∈ allS) → (l.flatMap fun d => if d = 63 then pieceF f t i d else (fillR f (nextR f (runR f Rdr.new (t.take i)).2 d) (t.drop (i + 1))).map fun y => t.take i ++ [d] ++ y.1) = l.flatMap fun d => (fillR f (nextR f (runR f Rdr.new (t.take i)).2 d) (t.drop (i + 1))).map fun y => t.take i ++ [d] ++ y.1 := by
      intro l
      induction l with
      | nil => intro _; rfl
      | cons x l ih =>
        intro h
        have h0 : ¬ x = 63 := fun e => by
          have := h x List.mem_cons_self
          rw [e] at this; revert this; decide
        rw [List.flatMap_cons, List.flatMap_cons, if_neg h0, ih fun d hd => h d (List.mem_cons_of_mem _ hd)]
    exact key _ fun d hd => can_all hmq hd
  · have hL : (fillR f Rdr.new t).map Prod.fst = [] := by
      conv => lhs; rw [ht]
      rw [fil_to _ _ _ hno, if_neg hr]; rfl
    rw [hL, List.flatMap_eq_nil_iff]
    intro d _
    have hle := runN_le (f := f) (t.take i) Rdr.new
    unfold pieceF runN
    rw [run_app2 [d] _ _ hr, if_pos (by omega)]
theorem ref_none {f : BForm} {t : Byt} (h : ∀ c ∈ t, c ≠ 63) : fsL f t = if runN f t = t.length ∧ wholeR (runP f t) = true then [t] else [] := by
  unfold fsL allF
  rw [fil_none t _ h]
  unfold runN runP
  split <;> rfl
end Go.Proofs.YtjjndkenddigiaaGreatDoor

namespace Go.Proofs.YtjjndkenddigiaaGreatDoor
open Go Go.T
set_option maxHeartbeats 4000000
theorem tn_s {t : Byt} {i : Nat} (h : i < t.length) (hx : ((nth t i).toNat : Int) = 63) : (tornN (t.take i) : Int) + 1 = tornN (t.take (i + 1)) := by
  have e : nth t i = 63 := (u8_eq (n := 63) (by decide)).1 hx
  rw [torn_one h, if_pos e]; rfl
theorem tn_0 {t : Byt} : 0 = ((tornN (t.take 0) : Nat) : Int) := rfl
theorem tn_n {t : Byt} {i : Nat} (h : i < t.length) (hx : ¬ ((nth t i).toNat : Int) = 63) : (tornN (t.take i) : Int) = tornN (t.take (i + 1)) := by
  rw [torn_one h, if_neg (fun e => hx (by rw [e]; rfl))]; rfl
def tornR (t : Byt) : Int := if (t.length : Int) > 65536 then 10 else if (tornN t : Int) > 4 then 9 else 0
theorem tr_1 {t : Byt} (h : (t.length : Int) > 65536) : tornR t = 10 := if_pos h
theorem tr_2 {t : Byt} (h : ¬ (t.length : Int) > 65536) (h2 : (tornN t : Int) > 4) : tornR t = 9 := by unfold tornR; rw [if_neg h, if_pos h2]
theorem tr_3 {t : Byt} (h : ¬ (t.length : Int) > 65536) (h2 : ¬ (tornN t : Int) > 4) : tornR t = 0 := by unfold tornR; rw [if_neg h, if_neg h2]
theorem tn_le (t : Byt) (i : Nat) : tornN (t.take i) ≤ t.length := by unfold tornN; exact Nat.le_trans List.count_le_length (by rw [List.length_take]; omega)
theorem cut_all {k : Nat} (h : k < 39) : (allS.take (k + 1)).drop k = [nth allS k] := by
  have key : ∀ k : Fin 39, (allS.take (k.1 + 1)).drop k.1 = [nth allS k.1] := by decide +kernel
  exact key ⟨k, h⟩
theorem all_63 {k : Nat} (h : k < 39) : nth allS k ≠ 63 := by
  have key : ∀ k : Fin 39, nth allS k.1 ≠ 63 := by decide +kernel
  exact key ⟨k, h⟩
theorem torn_less {t : Byt} {i : Nat} {c : UInt8} (hi : i < t.length) (hx : nth t i = 63) (hc : c ≠ 63) : tornN (t.take i ++ [c] ++ t.drop (i + 1)) + 1 = tornN t := by
  conv => rhs; rw [← List.take_append_drop i t, drop_nth hi, hx]
  unfold tornN
  rw [List.count_append, List.count_append, List.count_append]
  have e1 : List.count 63 [c] = 0 := by rw [List.count_singleton]; simp [hc]
  have e2 : List.count 63 (63 :: t.drop (i + 1)) = List.count 63 (t.drop (i + 1)) + 1 := List.count_cons_self
  omega
theorem rep_len {t : Byt} {i : Nat} {c : UInt8} (hi : i < t.length) : (t.take i ++ [c] ++ t.drop (i + 1)).length = t.length := by
  simp only [List.length_append, List.length_take, List.length_drop, List.length_singleton]; omega
theorem none_all {t : Byt} {i : Nat} (hi : ¬ i < t.length) (h : ∀ j, j < i → nth t j ≠ 63) : ∀ c ∈ t, c ≠ 63 := fun c hc => by
  obtain ⟨j, hj, e⟩ := List.getElem_of_mem hc
  have := h j (by omega)
  rwa [show nth t j = c by simp [nth, hj, e]] at this
theorem fs_yes {f : BForm} {t : Byt} (h : ∀ c ∈ t, c ≠ 63) (hp : prI f t = true) : fsL f t = [t] := by
  unfold prI at hp
  simp only [Bool.and_eq_true, decide_eq_true_eq] at hp
  rw [ref_none h, if_pos hp]
theorem fs_no {f : BForm} {t : Byt} (h : ∀ c ∈ t, c ≠ 63) (hp : prI f t = false) : fsL f t = [] := by
  rw [ref_none h, if_neg]
  intro e
  unfold prI at hp
  rw [decide_eq_true e.1, e.2] at hp
  cases hp
theorem fs_few {f : BForm} {t : Byt} (h : tornN t ≤ 4) : (fsL f t).length ≤ 14641 := by unfold fsL; rw [List.length_map]; exact all_few (by omega)
theorem up_few {f : BForm} {t : Byt} {i : Nat} (hi : i < t.length) (hx : nth t i = 63) (h : tornN t ≤ 4) : ∀ k, k ≤ 39 → (upP f t i k).length ≤ 14641 * k
  | 0, _ => Nat.zero_le _
  | k + 1, hk => by
    have ih := up_few (f := f) hi hx h k (by omega)
    by_cases hr : runN f (t.take i ++ [nth allS k]) ≤ i
    · rw [upP_no (by omega) hr]; omega
    · rw [upP_yes (by omega) hr, List.length_append]
      have := torn_less hi hx (all_63 (show k < 39 by omega))
      have := fs_few (f := f) (t := t.take i ++ [nth allS k] ++ t.drop (i + 1)) (by omega)
      omega
theorem c_rParseS {f : BForm} (hf : FormOk f) {t : Byt} {i k : Nat} (hi : i < t.length) (ht : t.length ≤ 65536) (hk : k < 39) : Ctr Tryz.prog 20 [frmT f, Ty.str (bs (t.take i ++ (allS.take (k + 1)).drop k))] (Ty.tup [prT f (t.take i ++ [nth allS k]), Ty.int .i64 (runN f (t.take i ++ [nth allS k]) : Nat), Ty.bool (prI f (t.take i ++ [nth allS k]))]) := by
  rw [cut_all hk]
  exact c_rParse f hf _ (by simp only [List.length_append, List.length_take, List.length_singleton]; omega)
theorem c_fillZ {f : BForm} {t : Byt} {i k : Nat} (hk : k < 39) (h : Ctr Tryz.prog 25 [frmT f, Ty.str (bs (t.take i ++ [nth allS k] ++ t.drop (i + 1)))] (Ty.sl StrE (fsL f (t.take i ++ [nth allS k] ++ t.drop (i + 1))))) : Ctr Tryz.prog 25 [frmT f, Ty.str (bs (t.take i ++ (allS.take (k + 1)).drop k ++ t.drop (i + 1)))] (Ty.sl StrE (fsL f (t.take i ++ [nth allS k] ++ t.drop (i + 1)))) := by
  rw [cut_all hk]; exact h
attribute [local irreducible] allF fsL upP runN runP prI tornN tornR rdK canR
attribute [local irreducible] dInt dBool dSl dPp dPtr dAgg dTup dClo dAny dEx dStr dGd dCells dVec dVs dRow dOp nth Tri Into TOps Ctr bodyPost Exit.then Exit.inBlock Code.wp Code.wpIn dWhen dPa dArr dMp dMap CtrG keepPost iterPost bodyPostM roundQ
set_option maxRecDepth 100000 in
theorem c_rTornError (t : Byt) : Ctr Tryz.prog 24 [Ty.str (bs t)] (Ty.int .i64 (tornR t)) := by
  refine fn_intro Tryz.func24 rfl (by decide) Tryz.ntmps24 (by exact Nat.le_of_ble_eq_true rfl) fun w0 M0 => ?_
  refine t_seq ?_
  refine t_region ?_
  refine asI rfl ?_
  refine r_nil ?_
  refine i_then ?_
  refine t_seq ?_
  refine t_seq ?_
  refine t_region ?_
  refine mvS' rfl ?_
  refine r_lenS rfl rfl rfl ?_
  refine r_bin rfl rfl rfl ?_
  refine r_nil ?_
  refine i_then ?_
  refine t_cond_dec rfl (fun hc1 => ?_) (fun hc1 => ?_)
  ·
    refine t_seq ?_
    refine t_region ?_
    refine asI rfl ?_
    refine r_nil ?_
    refine i_then ?_
    refine t_ret ?_
    refine i_then_ret ?_
    refine i_rp1 rfl rfl ?_
    all_goals skip
    all_goals exact ret_eq rfl rfl (congrArg (Ty.int .i64) (tr_1 hc1).symm)
  ·
    refine t_skip ?_
    refine i_then ?_
    refine t_seq ?_
    refine t_region ?_
    refine asI rfl ?_
    refine r_nil ?_
    refine i_then ?_
    refine t_seq ?_
    refine t_seq ?_
    refine t_region ?_
    refine asI rfl ?_
    refine r_nil ?_
    refine i_then ?_
    refine t_block ?_
    refine t_loop (fun (i : {i : Nat // i ≤ t.length}) => live [(0, Ty.str (bs t)), (3, Ty.int .i64 (tornN (t.take i.1) : Nat)), (4, Ty.int .i64 (i.1 : Nat))] []) (fun i => t.length - i.1) (⟨0, Nat.zero_le _⟩) ?_ fun i => ?_
    · (refine Ent.mk' ?_ ?_ <;> (repeat' (first | exact allSub_zero | exact allTags_nil | refine allSub_succ' ?_ (Ty.sub_any _) | refine allSub_succ' ?_ (Ty.sub_refl _) | refine allSub_succ' ?_ ?_)))
      all_goals exact Ty.sub_int tn_0
    ·
      have htn := tn_le t i.1
      refine t_seq ?_
      refine t_seq ?_
      refine t_region ?_
      refine mvI rfl ?_
      refine mvS' rfl ?_
      refine r_lenS rfl rfl rfl ?_
      refine r_bin rfl rfl rfl ?_
      refine r_nil ?_
      refine i_then ?_
      refine t_cond_dec rfl (fun hc2 => ?_) (fun hc2 => ?_)
      ·
        refine t_skip ?_
        refine i_then ?_
        refine t_seq ?_
        refine t_block ?_
        refine t_seq ?_
        have hil : i.1 < t.length := by omega
        refine t_region ?_
        refine mvS' rfl ?_
        refine mvI rfl ?_
        refine r_idxS (i := i.1) rfl rfl rfl rfl hil ?_
        refine r_bin rfl rfl rfl ?_
        refine r_nil ?_
        refine i_then ?_
        refine t_cond_dec rfl (fun hc3 => ?_) (fun hc3 => ?_)
        ·
          refine t_region ?_
          refine mvI rfl ?_
          refine r_add rfl rfl (by omega) (by omega) ?_
          refine asI rfl ?_
          refine r_nil ?_
          refine i_block ?_
          refine i_then ?_
          refine t_region ?_
          refine mvI rfl ?_
          refine r_add rfl rfl (by omega) (by omega) ?_
          refine asI rfl ?_
          refine r_nil ?_
          refine i_round (⟨i.1 + 1, by omega⟩) ?_ (by show t.length - (i.1 + 1) < t.length - i.1; omega)
          (refine Ent.mk' ?_ ?_ <;> (repeat' (first | exact allSub_zero | exact allTags_nil | refine allSub_succ' ?_ (Ty.sub_any _) | refine allSub_succ' ?_ (Ty.sub_refl _) | refine allSub_succ' ?_ ?_)))
          all_goals skip
          all_goals exact Ty.sub_int (tn_s hil hc3)
        ·
          refine t_skip ?_
          refine i_block ?_
          refine i_then ?_
          refine t_region ?_
          refine mvI rfl ?_
          refine r_add rfl rfl (by omega) (by omega) ?_
          refine asI rfl ?_
          refine r_nil ?_
          refine i_round (⟨i.1 + 1, by omega⟩) ?_ (by show t.length - (i.1 + 1) < t.length - i.1; omega)
          (refine Ent.mk' ?_ ?_ <;> (repeat' (first | exact allSub_zero | exact allTags_nil | refine allSub_succ' ?_ (Ty.sub_any _) | refine allSub_succ' ?_ (Ty.sub_refl _) | refine allSub_succ' ?_ ?_)))
          all_goals skip
          all_goals exact Ty.sub_int (tn_n hil hc3)
      ·
        refine t_exit ?_
        refine i_then_exit ?_
        refine i_then_exit ?_
        refine i_block_exit rfl ?_
        refine i_then ?_
        refine t_seq ?_
        refine t_seq ?_
        have hte : t.take i.1 = t := List.take_of_length_le (by omega)
        refine t_region ?_
        refine mvI rfl ?_
        refine r_bin rfl rfl rfl ?_
        refine r_nil ?_
        refine i_then ?_
        refine t_cond_dec rfl (fun hc4 => ?_) (fun hc4 => ?_)
        ·
          refine t_seq ?_
          refine t_region ?_
          refine asI rfl ?_
          refine r_nil ?_
          refine i_then ?_
          refine t_ret ?_
          refine i_then_ret ?_
          refine i_rp1 rfl rfl ?_
          all_goals skip
          all_goals exact ret_eq rfl rfl (congrArg (Ty.int .i64) (tr_2 hc1 (by rw [← hte]; omega)).symm)
        ·
          refine t_skip ?_
          refine i_then ?_
          refine t_seq ?_
          refine t_region ?_
          refine asI rfl ?_
          refine r_nil ?_
          refine i_then ?_
          refine t_ret ?_
          refine i_rp1 rfl rfl ?_
          all_goals skip
          all_goals exact ret_eq rfl rfl (congrArg (Ty.int .i64) (tr_3 hc1 (by rw [← hte]; omega)).symm)
set_option maxRecDepth 100000 in
theorem c_rFillings1 (f : BForm) (hf : FormOk f) (t : Byt) (ht : t.length ≤ 65536) (h4 : tornN t ≤ 4) (IH : ∀ u : Byt, tornN u < tornN t → u.length = t.length → Ctr Tryz.prog 25 [frmT f, Ty.str (bs u)] (Ty.sl StrE (fsL f u))) : Ctr Tryz.prog 25 [frmT f, Ty.str (bs t)] (Ty.sl StrE (fsL f t)) := by
  refine fn_intro Tryz.func25 rfl (by decide) Tryz.ntmps25 (by exact Nat.le_of_ble_eq_true rfl) fun w0 M0 => ?_
  refine t_seq ?_
  refine t_region ?_
  refine r_box_agg rfl ?_
  refine asX rfl ?_
  refine r_nil ?_
  refine i_then ?_
  refine t_seq ?_
  refine t_seq ?_
  refine t_region ?_
  refine asI rfl ?_
  refine r_nil ?_
  refine i_then ?_
  refine t_block ?_
  refine t_loop (fun (i : {i : Nat // i ≤ t.length ∧ ∀ j, j < i → nth t j ≠ 63}) => live [(1, Ty.str (bs t)), (2, Ty.pp (frmTys f)), (5, Ty.int .i64 (i.1 : Nat))] []) (fun i => t.length - i.1) (⟨0, Nat.zero_le _, fun j h => absurd h (Nat.not_lt_zero j)⟩) ?_ fun i => ?_
  · (refine Ent.mk' ?_ ?_ <;> (repeat' (first | exact allSub_zero | exact allTags_nil | refine allSub_succ' ?_ (Ty.sub_any _) | refine allSub_succ' ?_ (Ty.sub_refl _))))
    all_goals trace_state
  ·
    have hi0 := i.2.1
    refine t_seq ?_
    refine t_seq ?_
    refine t_region ?_
    refine mvI rfl ?_
    refine mvS' rfl ?_
    refine r_lenS rfl rfl rfl ?_
    refine r_bin rfl rfl rfl ?_
    refine r_nil ?_
    refine i_then ?_
    refine t_cond_dec rfl (fun hc1 => ?_) (fun hc1 => ?_)
    ·
      refine t_skip ?_
      refine i_then ?_
      refine t_seq ?_
      refine t_block ?_
      refine t_seq ?_
      refine t_seq ?_
      have hil : i.1 < t.length := by omega
      refine t_region ?_
      refine mvS' rfl ?_
      refine mvI rfl ?_
      refine r_idxS (i := i.1) rfl rfl rfl rfl hil ?_
      refine r_bin rfl rfl rfl ?_
      refine r_nil ?_
      refine i_then ?_
      refine t_cond_ndec rfl (fun hc2 => ?_) (fun hc2 => ?_)
      ·
        refine t_exit ?_
        refine i_then_exit ?_
        refine i_block_exit rfl ?_
        refine i_then ?_
        refine t_region ?_
        refine mvI rfl ?_
        refine r_add rfl rfl (by omega) (by omega) ?_
        refine asI rfl ?_
        refine r_nil ?_
        refine i_round (⟨i.1 + 1, by omega, fun j hj => by by_cases e : j = i.1; (· subst e; exact fun e => hc2 (by rw [e]; rfl)); (· exact i.2.2 j (by omega))⟩) ?_ (by show t.length - (i.1 + 1) < t.length - i.1; omega)
        (refine Ent.mk' ?_ ?_ <;> (repeat' (first | exact allSub_zero | exact allTags_nil | refine allSub_succ' ?_ (Ty.sub_any _) | refine allSub_succ' ?_ (Ty.sub_refl _))))
        all_goals skip
        all_goals trace_state
      ·
        refine t_skip ?_
        refine i_then ?_
        refine t_seq ?_
        have hx : nth t i.1 = 63 := (u8_eq (n := 63) (by decide)).1 (by omega)
        refine t_region ?_
        refine asX rfl ?_
        refine r_nil ?_
        refine i_then ?_
        refine t_seq ?_
        refine t_seq ?_
        refine t_region ?_
        refine asI rfl ?_
        refine r_nil ?_
        refine i_then ?_
        refine t_block ?_
        refine t_loop (fun (k : {k : Nat // k ≤ 39}) => live [(1, Ty.str (bs t)), (2, Ty.pp (frmTys f)), (5, Ty.int .i64 (i.1 : Nat)), (6, Ty.row StrE 9 62 (upP f t i.1 k.1)), (7, Ty.int .i64 (k.1 : Nat))] []) (fun k => 39 - k.1) (⟨0, by decide⟩) ?_ fun k => ?_
        · (refine Ent.mk' ?_ ?_ <;> (repeat' (first | exact allSub_zero | exact allTags_nil | refine allSub_succ' ?_ (Ty.sub_any _) | refine allSub_succ' ?_ (Ty.sub_refl _) | refine allSub_succ' ?_ ?_)))
          all_goals (rw [show upP f t i.1 _ = [] from upP_0 f t i.1]; exact Ty.nil_row)
        ·
          have hk0 := k.2
          have hul := up_few (f := f) hil hx h4 k.1 k.2
          refine t_seq ?_
          refine t_seq ?_
          refine t_region ?_
          refine mvI rfl ?_
          refine r_bin rfl rfl rfl ?_
          refine r_nil ?_
          refine i_then ?_
          refine t_cond_dec rfl (fun hc3 => ?_) (fun hc3 => ?_)
          ·
            refine t_skip ?_
            refine i_then ?_
            refine t_seq ?_
            refine t_block ?_
            refine t_seq ?_
            refine t_seq ?_
            have hk : k.1 < 39 := by omega
            have hc63 := all_63 hk
            have htl := torn_less hil hx hc63
            have hrl := rep_len (c := nth allS k.1) hil
            have hfl := fs_few (f := f) (t := t.take i.1 ++ [nth allS k.1] ++ t.drop (i.1 + 1)) (by omega)
            refine t_draw mixed rfl ?_
            refine r_load_ppN rfl rfl rfl (by exact Nat.le_of_ble_eq_true rfl) ?_
            refine mvS' rfl ?_
            refine mvI rfl ?_
            refine r_cutS_hi (hi := i.1) rfl rfl rfl rfl (by omega) ?_
            refine mvI rfl ?_
            refine mvI rfl ?_
            refine r_add rfl rfl (by omega) (by omega) ?_
            refine r_cutS (a := allS) (lo := k.1) (hi := k.1 + 1) rfl rfl rfl rfl rfl (by omega) (by show _ ≤ 39; omega) ?_
            refine r_catS rfl rfl (by (simp <;> omega)) ?_
            refine r_call (c_rParseS hf hil ht hk) rfl rfl rfl rfl rfl ?_
            refine mvT rfl ?_
            refine r_extract rfl rfl ?_
            refine r_extract rfl rfl ?_
            refine r_extract rfl rfl ?_
            refine r_alloc rfl (by exact List.cons_ne_nil _ _) rfl ?_
            refine r_storeN rfl rfl (by decide) rfl rfl rfl rfl rfl rfl ?_
            refine asI rfl ?_
            refine asB rfl ?_
            refine r_nil ?_
            refine ⟨by kernel_rfl, ?_⟩
            refine i_then ?_
            refine t_seq ?_
            refine t_region ?_
            refine mvI rfl ?_
            refine mvI rfl ?_
            refine r_bin rfl rfl rfl ?_
            refine r_nil ?_
            refine i_then ?_
            refine t_cond_dec rfl (fun hc4 => ?_) (fun hc4 => ?_)
            ·
              refine t_exit ?_
              refine i_then_exit ?_
              refine i_block_exit rfl ?_
              refine i_then ?_
              refine t_region ?_
              refine mvI rfl ?_
              refine r_add rfl rfl (by omega) (by omega) ?_
              refine asI rfl ?_
              refine r_nil ?_
              refine i_round (⟨k.1 + 1, by omega⟩) ?_ (by show 39 - (k.1 + 1) < 39 - k.1; omega)
              (refine Ent.mk' ?_ ?_ <;> (repeat' (first | exact allSub_zero | exact allTags_nil | refine allSub_succ' ?_ (Ty.sub_any _) | refine allSub_succ' ?_ (Ty.sub_refl _) | refine allSub_succ' ?_ ?_)))
              all_goals skip
              all_goals exact Ty.sub_row (upP_no hk (by omega)).symm
            ·
              refine t_skip ?_
              refine i_then ?_
              refine t_draw mixed rfl ?_
              refine mvR rfl ?_
              refine r_load_ppN rfl rfl rfl (by exact Nat.le_of_ble_eq_true rfl) ?_
              refine mvS' rfl ?_
              refine mvI rfl ?_
              refine r_cutS_hi (hi := i.1) rfl rfl rfl rfl (by omega) ?_
              refine mvI rfl ?_
              refine mvI rfl ?_
              refine r_add rfl rfl (by omega) (by omega) ?_
              refine r_cutS (a := allS) (lo := k.1) (hi := k.1 + 1) rfl rfl rfl rfl rfl (by omega) (by show _ ≤ 39; omega) ?_
              refine r_catS rfl rfl (by (simp <;> omega)) ?_
              refine mvS' rfl ?_
              refine mvI rfl ?_
              refine r_add rfl rfl (by omega) (by omega) ?_
              refine r_cutS_lo (lo := i.1 + 1) rfl rfl rfl rfl (by omega) ?_
              refine r_catS rfl rfl (by (simp <;> omega)) ?_
              refine r_call (c_fillZ hk (IH (t.take i.1 ++ [nth allS k.1] ++ t.drop (i.1 + 1)) (by omega) hrl)) rfl rfl rfl rfl rfl ?_
              refine r_append rfl rfl (by decide) rfl rfl rfl rfl rfl rfl (by decide) (by (dsimp only; omega)) (by omega) ?_
              refine asR rfl ?_
              refine r_nil ?_
              refine ⟨by kernel_rfl, ?_⟩
              refine i_block ?_
              refine i_then ?_
              refine t_region ?_
              refine mvI rfl ?_
              refine r_add rfl rfl (by omega) (by omega) ?_
              refine asI rfl ?_
              refine r_nil ?_
              refine i_round (⟨k.1 + 1, by omega⟩) ?_ (by show 39 - (k.1 + 1) < 39 - k.1; omega)
              (refine Ent.mk' ?_ ?_ <;> (repeat' (first | exact allSub_zero | exact allTags_nil | refine allSub_succ' ?_ (Ty.sub_any _) | refine allSub_succ' ?_ (Ty.sub_refl _) | refine allSub_succ' ?_ ?_)))
              all_goals skip
              all_goals exact Ty.sub_row (upP_yes hk (by omega)).symm
          ·
            refine t_exit ?_
            refine i_then_exit ?_
            refine i_then_exit ?_
            refine i_block_exit rfl ?_
            refine i_then ?_
            refine t_seq ?_
            have hfin : upP f t i.1 k.1 = fsL f t := by rw [show k.1 = 39 by omega]; exact ref_fil hf hil hx i.2.2
            refine t_region ?_
            refine mvR rfl ?_
            refine asR rfl ?_
            refine r_nil ?_
            refine i_then ?_
            refine t_ret ?_
            refine i_block_ret ?_
            refine i_then_ret ?_
            refine i_then_ret ?_
            refine i_block_ret ?_
            refine i_then_ret ?_
            refine i_rp1 rfl rfl ?_
            all_goals skip
            all_goals (rw [← hfin]; exact ret_row (by decide))
    ·
      refine t_exit ?_
      refine i_then_exit ?_
      refine i_then_exit ?_
      refine i_block_exit rfl ?_
      refine i_then ?_
      refine t_seq ?_
      refine t_seq ?_
      refine t_region ?_
      refine r_load_ppN rfl rfl rfl (by exact Nat.le_of_ble_eq_true rfl) ?_
      refine mvS' rfl ?_
      refine r_call (c_rParse f hf t (by omega)) rfl rfl rfl rfl rfl ?_
      refine mvT rfl ?_
      refine r_extract rfl rfl ?_
      refine r_extract rfl rfl ?_
      refine r_extract rfl rfl ?_
      refine r_alloc rfl (by exact List.cons_ne_nil _ _) rfl ?_
      refine r_storeN rfl rfl (by decide) rfl rfl rfl rfl rfl rfl ?_
      refine asI rfl ?_
      refine asB rfl ?_
      refine r_nil ?_
      refine i_then ?_
      refine t_seq ?_
      refine t_region ?_
      refine mvB rfl ?_
      refine r_nil ?_
      refine i_then ?_
      refine t_cond rfl (fun hc5 => ?_) (fun hc5 => ?_)
      ·
        refine t_seq ?_
        refine t_region ?_
        refine mvS' rfl ?_
        refine r_buildSlice (E := StrE) (xs := [t]) rfl rfl rfl rfl rfl (by decide) (by decide) (by repeat (first | exact (Parts.nil : Parts _ _ [] _) | (show Parts _ _ ((_, _) :: _) _; apply Parts.one; (· exact (rfl : _ = Ty.str _)); (· exact rfl)))) (by exact rfl) rfl ?_
        refine asS rfl ?_
        refine r_nil ?_
        refine i_then ?_
        refine t_ret ?_
        refine i_then_ret ?_
        refine i_rp1 rfl rfl ?_
        all_goals skip
        all_goals exact ret_eq rfl rfl (congrArg (Ty.sl StrE) (fs_yes (none_all (by omega) i.2.2) hc5).symm)
      ·
        refine t_skip ?_
        refine i_then ?_
        refine t_seq ?_
        refine t_region ?_
        refine asX rfl ?_
        refine r_nil ?_
        refine i_then ?_
        refine t_ret ?_
        refine i_rp1 rfl rfl ?_
        all_goals skip
        all_goals (rw [fs_no (none_all (by omega) i.2.2) hc5]; exact ret_nil)
theorem c_rFillings {f : BForm} (hf : FormOk f) : ∀ (n : Nat) (t : Byt), tornN t = n → t.length ≤ 65536 → tornN t ≤ 4 → Ctr Tryz.prog 25 [frmT f, Ty.str (bs t)] (Ty.sl StrE (fsL f t)) := by
  intro n
  induction n using Nat.strongRecOn with
  | ind n ih =>
    intro t hn ht h4
    exact c_rFillings1 f hf t ht h4 fun u hu hl => ih (tornN u) (by omega) u rfl (by omega) (by omega)
end Go.Proofs.YtjjndkenddigiaaGreatDoor

namespace Go.T
open Go Go.RowKit
def dNw {α : Type} (m : Nat) (E : El α) (T : Nat) (xs : List α) (w : World) (M : Tags) (x : Value) : Prop :=
  (xs = [] ∧ x = .slice none 0 0) ∨ ∃ g cur c, x = .slice (some ⟨g, 0, none⟩) xs.length c ∧ xs.length ≤ c ∧ c ≤ maxLen ∧ m ≤ g ∧ M g = none ∧ w.heap[g]? = some (.cells cur T (0, 0)) ∧ xs.length ≤ cur.size ∧ dens w M (xs.flatMap E.tys) (cur.toList.take (xs.flatMap E.tys).length)
theorem heap_lt {w : World} {g : Nat} {x : Obj} (h : w.heap[g]? = some x) : g < w.heap.size := (Array.getElem?_eq_some_iff.1 h).1
def Ty.nw {α : Type} (m : Nat) (E : El α) (T : Nat) (xs : List α) : Ty :=
  ⟨dNw m E T xs, [], [], fun le _ _ h => h.imp id fun ⟨g, cur, c, e, h1, h2, hm, hg, hh, hs, hd⟩ =>
    let ⟨a, b⟩ := le.pub g (heap_lt hh) hg
    ⟨g, cur, c, e, h1, h2, hm, a, b.trans hh, hs, dens_mono le (by rw [E.flat_deps]; intro _ h; cases h) (by rw [E.flat_cdeps]; intro _ h; cases h) hd⟩, true, fun _ h => by
    rcases h with ⟨_, rfl⟩ | ⟨_, _, _, rfl, _⟩ <;> rfl⟩
theorem subs_app : ∀ {a a' b b' : List Ty}, Subs a a' → Subs b b' → Subs (a ++ b) (a' ++ b')
  | [], [], _, _, _, h => h
  | _ :: _, _ :: _, _, _, ⟨h1, h2⟩, h => ⟨h1, subs_app h2 h⟩
theorem subs_flat {α : Type} {f g : α → List Ty} (h : ∀ x, Subs (f x) (g x)) : ∀ xs : List α, Subs (xs.flatMap f) (xs.flatMap g)
  | [] => trivial
  | x :: xs => by rw [List.flatMap_cons, List.flatMap_cons]; exact subs_app (h x) (subs_flat h xs)
theorem nw_sl {α : Type} {m T : Nat} {E E' : El α} {xs : List α} (h : ∀ x, Subs (E.tys x) (E'.tys x)) : (Ty.nw m E T xs).Sub (Ty.sl E' xs) := fun w M v hd => by
  rcases hd with ⟨rfl, rfl⟩ | ⟨g, cur, c, rfl, h1, h2, _, hg, hh, _, hd⟩
  · exact Ty.nil_sl _ _ _ rfl
  · refine ⟨_, c, rfl, h1, h2, fun _ => ⟨g, 0, rfl, hg, heap_lt hh, fun i t hi => ?_⟩⟩
    obtain ⟨u, hu, hdu⟩ := dens_get (subs_dens' (subs_flat h xs) hd) i t hi
    refine ⟨u, ?_, hdu⟩
    rw [List.getElem?_take] at hu
    split at hu
    · simpa [World.cell?, hh] using hu
    · cases hu
theorem nw_weak {α : Type} {m m' T : Nat} {E E' : El α} {xs : List α} (hm : m' ≤ m) (h : ∀ x, Subs (E.tys x) (E'.tys x)) : (Ty.nw m E T xs).Sub (Ty.nw m' E' T xs) := fun w M v hd =>
  hd.imp id fun ⟨g, cur, c, e, h1, h2, h3, hg, hh, hs, hd⟩ => by
    have hl := subs_len (subs_flat h xs)
    exact ⟨g, cur, c, e, h1, h2, Nat.le_trans hm h3, hg, hh, hs, hl ▸ subs_dens' (subs_flat h xs) hd⟩
theorem nw_nil {α : Type} {m T : Nat} {E : El α} : (Ty.ex (.slice none 0 0)).Sub (Ty.nw m E T ([] : List α)) := fun _ _ _ h => .inl ⟨rfl, h⟩
def NewTy (m : Nat) (t : Ty) : Prop := ∀ w M M' v, (∀ b, m ≤ b → b < w.heap.size → M b = none → M' b = none) → t.den w M v → t.den w M' v
theorem dens_new {m : Nat} {w : World} {M M' : Tags} (hM : ∀ b, m ≤ b → b < w.heap.size → M b = none → M' b = none) : ∀ {l : List Ty} {vs : List Value}, (∀ t ∈ l, NewTy m t) → dens w M l vs → dens w M' l vs
  | [], [], _, _ => trivial
  | _ :: _, _ :: _, h, ⟨h1, h2⟩ => ⟨h _ List.mem_cons_self _ _ _ _ hM h1, dens_new hM (fun t ht => h t (List.mem_cons_of_mem _ ht)) h2⟩
theorem newTy_nw {α : Type} {m T : Nat} {E : El α} {xs : List α} (h : ∀ x, ∀ t ∈ E.tys x, NewTy m t) : NewTy m (Ty.nw m E T xs) := fun w M M' v hM hd =>
  hd.imp id fun ⟨g, cur, c, e, h1, h2, hm, hg, hh, hs, hd⟩ => ⟨g, cur, c, e, h1, h2, hm, hM g hm (heap_lt hh) hg, hh, hs, dens_new hM (fun t ht => by obtain ⟨x, _, hx⟩ := List.mem_flatMap.1 ht; exact h x t hx) hd⟩
theorem newTy_int {m : Nat} {k : IntKind} {i : Int} : NewTy m (Ty.int k i) := fun _ _ _ _ _ h => h
theorem newTy_bool {m : Nat} {b : Bool} : NewTy m (Ty.bool b) := fun _ _ _ _ _ h => h
theorem subs_refl : ∀ {l : List Ty}, Subs l l
  | [] => trivial
  | t :: _ => ⟨Ty.sub_refl t, subs_refl⟩
theorem sl_flat {α β : Type} {E : El α} {E' : El β} {xs : List α} {ys : List β} (hl : xs.length = ys.length) (h : xs.flatMap E.tys = ys.flatMap E'.tys) : (Ty.sl E xs).Sub (Ty.sl E' ys) := fun _ _ _ ⟨A, c, e, h1, h2, h3⟩ =>
  ⟨A, c, hl ▸ e, hl ▸ h1, h2, fun h0 => h ▸ h3 (hl ▸ h0)⟩
def Cont.lo (m : Nat) : Cont :=
  { den := fun w M _ => m ≤ w.heap.size ∧ ∀ b, b < m → M b = none ∨ M b = some 0
    deps := [0], cdeps := []
    mono := fun le hk _ _ _ ⟨h1, h2⟩ => ⟨Nat.le_trans h1 le.size, fun b hb => (h2 b hb).imp (fun h => (le.pub b (by omega) h).1) fun h => (le.own b 0 h (hk 0 (by simp))).1⟩ }
theorem pubTy_rowN {A : As} {α β : Type} {m T tg : Nat} {E : El α} {E' : El β} {xs : List α} {ys : List β} (hc : A.tag 4998 = some (.lo m)) (h1 : 1 ≤ tg) (h0 : 1 ≤ E.size) (he : xs.length = ys.length) (hE : Subs (xs.flatMap E.tys) (ys.flatMap E'.tys)) : PubTy A tg (.row E T tg xs) (.nw m E' T ys) := fun w M v wf ht hd => by
  obtain ⟨_, hlo⟩ := ht _ (tag_mem hc)
  obtain ⟨cs, hown, hcs, hM⟩ := hd
  rcases hown.2 with ⟨rfl, h0⟩ | ⟨g, cap, cur, rfl, _, hh, hn, hcap, hsz, htk⟩
  · exact .inl ⟨List.length_eq_zero_iff.1 (he ▸ h0), rfl⟩
  · have hg : M g = some tg := hM g rfl
    have hlen := dens_len hcs
    have hl : (ys.flatMap E'.tys).length = (xs.flatMap E.tys).length := (subs_len hE).symm
    refine .inr ⟨g, cur, cap, by rw [he], by omega, hcap, Nat.le_of_not_lt fun hlt => ?_, by simp [pubTag, hg], hh, ?_, ?_⟩
    · rcases hlo g hlt with h | h
      · rw [hg] at h; cases h
      · rw [hg] at h; injection h with h; omega
    · rw [hsz, ← he]; exact Nat.le_trans hn (Nat.le_mul_of_pos_right _ h0)
    · have hd2 : dens w (pubTag M tg) (xs.flatMap E.tys) cs := dens_mono (pubTag_le (w := w)) (by rw [E.flat_deps]; intro _ h; cases h) (by rw [E.flat_cdeps]; intro _ h; cases h) hcs
      have e : cur.toList.take (ys.flatMap E'.tys).length = cs := by
        rw [hl, flat_len, htk]
      rw [e]
      exact subs_dens' hE hd2
def CtrN (P : Program) (f : FuncId) (args : List Ty) (res : Nat → Ty) : Prop :=
  (∃ fn, P.funcs[f]? = some fn ∧ (fn.name == "runtime.NumGoroutine") = false ∧ fn.body.isNone = false) ∧
  ∀ m w M vs, m ≤ w.heap.size → Wf w M → (∀ b t, M b = some t → t = 0) → dens w M args vs → Calls P f vs.toArray w (retPost w M (res m))
theorem CtrN.plain {P : Program} {f : FuncId} {args : List Ty} {res : Nat → Ty} {res' : Ty} (hs : (res 0).Sub res') (h : CtrN P f args res) : Ctr P f args res' :=
  ⟨h.1, fun w M vs wf h0 hd => (h.2 0 w M vs (Nat.zero_le _) wf h0 hd).mono fun _ _ ⟨r, M', e, wf', le, hr⟩ => ⟨r, M', e, wf', le, hs _ _ _ hr⟩⟩
section
variable {P : Program}
theorem fnN_intro {f : FuncId} {fn : Func} {c : Code} {args : List Ty} {res : Nat → Ty} {n : Nat} (hf : P.funcs[f]? = some fn) (hb : fn.body = some c) (hn : (fn.name == "runtime.NumGoroutine") = false) (hnt : fn.ntmps = n) (hl : args.length ≤ n)
    (h : ∀ m w0 M0, Tri P ⟨n, w0, M0, [], .plain⟩ c (entryG args [(4998, .lo m)]) (bodyPost P fn (retPost w0 M0 (res m)))) : CtrN P f args res := by
  refine ⟨⟨fn, hf, hn, by rw [hb]; rfl⟩, fun m w M vs hm wf hM hd => calls_of_wp hf hb (wpIn_wide.1 (h m w M _ _ ?_))⟩
  have hlen := dens_len hd
  refine ⟨M, ⟨wf, Le.refl _ _ _ _, by simp [hnt, hlen]; omega, Defs.nil⟩, fun c hc => ?_, fun x hx => ?_⟩
  · simp only [entryG]
    cases ha : args[c]? with
    | none => trivial
    | some ty =>
      obtain ⟨v, hv, hdv⟩ := dens_get hd c ty ha
      have : (vs.toArray ++ Array.replicate (fn.ntmps - vs.toArray.size) undef).getD c undef = v := by
        have hlt : c < vs.length := (List.getElem?_eq_some_iff.1 hv).1
        rw [Array.getD_eq_getD_getElem?, Array.getElem?_append_left (by simpa using hlt)]
        simp [hv]
      rw [this]; exact hdv
  · rw [List.mem_singleton.1 hx]
    refine ⟨hm, fun b _ => ?_⟩
    cases hb : M b with
    | none => exact .inl rfl
    | some t => exact .inr (by rw [hM b t hb])
end
def vwJ (J : Nat) (M : Tags) : Tags := fun b => if M b = some J then none else some 1
theorem vwJ_none {J : Nat} {M : Tags} {b : Nat} : vwJ J M b = none ↔ M b = some J := by
  unfold vwJ; split <;> simp_all
def Ty.fam (J : Nat) (t : Ty) (h1 : t.deps = []) (h2 : t.cdeps = []) : Ty :=
  { den := fun w M v => t.den w (vwJ J M) v, deps := [J], cdeps := [J], one := t.one, isOne := t.isOne
    mono := fun le hk hs h => t.mono (S := fun _ => True) (K := fun _ => True) ⟨le.size, le.os, le.tape, le.out, fun b _ hb => by
      have hJ := vwJ_none.1 hb
      obtain ⟨a, c⟩ := le.own b J hJ (hk J (by simp))
      exact ⟨vwJ_none.2 a, c (hs J (by simp))⟩, fun _ _ _ h => absurd trivial h⟩ (by rw [h1]; intro _ h; cases h) (by rw [h2]; intro _ h; cases h) h }
theorem vw_mono {t : Ty} {w : World} {M M' : Tags} {v : Value} (h1 : t.deps = []) (h2 : t.cdeps = []) (hM : ∀ b, M b = none → M' b = none) (h : t.den w M v) : t.den w M' v :=
  t.mono (S := fun _ => True) (K := fun _ => True) ⟨Nat.le_refl _, rfl, rfl, rfl, fun b _ hm => ⟨hM b hm, rfl⟩, fun b t _ h => absurd trivial h⟩ (by rw [h1]; intro _ h; cases h) (by rw [h2]; intro _ h; cases h) h
theorem cv_fam {ρ : List (Nat × Nat)} {a b : Nat} {t : Ty} {h1 : t.deps = []} {h2 : t.cdeps = []} (h : (a, b) ∈ ρ) : Conv ρ (Ty.fam a t h1 h2) (Ty.fam b t h1 h2) := fun w M M' v _ _ hre hd =>
  show t.den w (vwJ b M') v from vw_mono (t := t) (M := vwJ a M) h1 h2 (fun k hk => vwJ_none.2 (hre.some (a, b) h k (vwJ_none.1 hk))) hd
theorem lend_fam {L : List Nat} {J : Nat} {t t' : Ty} {h1 : t.deps = []} {h2 : t.cdeps = []} (h : L.contains J = true) (hs : t.Sub t') : Lend L (Ty.fam J t h1 h2) t' := fun w M v _ hd =>
  hs _ _ _ (vw_mono (t := t) (M := vwJ J M) h1 h2 (fun _ hk => lend_in (vwJ_none.1 hk) (by simpa using h)) hd)
def FamOk (J : Nat) (res : Nat → Ty) (res' : Ty) : Prop := ∀ m w M1 M2 v, (∀ b, m ≤ b → b < w.heap.size → M1 b = none → M2 b = some J) → (res m).den w M1 v → res'.den w M2 v
def FamOks (J : Nat) (l : Nat → List Ty) (l' : List Ty) : Prop := ∀ m w M1 M2 vs, (∀ b, m ≤ b → b < w.heap.size → M1 b = none → M2 b = some J) → dens w M1 (l m) vs → dens w M2 l' vs
theorem fams_nil {J : Nat} : FamOks J (fun _ => []) [] := fun _ _ _ _ vs _ h => by cases vs <;> exact h
theorem fams_cons {J : Nat} {a : Nat → Ty} {s : Ty} {l : Nat → List Ty} {l' : List Ty} (h : FamOk J a s) (h' : FamOks J l l') : FamOks J (fun m => a m :: l m) (s :: l') := fun m w M1 M2 vs hM hd => by
  cases vs with
  | nil => exact hd.elim
  | cons v vs => exact ⟨h m w M1 M2 v hM hd.1, h' m w M1 M2 vs hM hd.2⟩
theorem fam_tup {J : Nat} {l : Nat → List Ty} {l' : List Ty} (h : FamOks J l l') : FamOk J (fun m => Ty.tup (l m)) (Ty.tup l') := fun m w M1 M2 v hM ⟨cs, e, hd⟩ => ⟨cs, e, h m w M1 M2 _ hM hd⟩
theorem fam_agg {J : Nat} {l : Nat → List Ty} {l' : List Ty} (h : FamOks J l l') : FamOk J (fun m => Ty.agg (l m)) (Ty.agg l') := fun m w M1 M2 v hM ⟨cs, e, hd⟩ => ⟨cs, e, h m w M1 M2 _ hM hd⟩
theorem fam_int {J : Nat} {k : IntKind} {i : Int} : FamOk J (fun _ => Ty.int k i) (Ty.int k i) := fun _ _ _ _ _ _ h => h
theorem fam_new {J : Nat} {t : Nat → Ty} {t0 : Ty} {h1 : t0.deps = []} {h2 : t0.cdeps = []} (hn : ∀ m, NewTy m (t m)) (h0 : ∀ m, (t m).Sub t0) : FamOk J t (Ty.fam J t0 h1 h2) := fun m w M1 M2 v hM hd =>
  h0 m _ _ _ (hn m w M1 (vwJ J M2) v (fun b hb hlt hm => vwJ_none.2 (hM b hb hlt hm)) hd)
def callF (w w' : World) (M : Tags) (J : Nat) : Tags := fun b => if b < w.heap.size then M b else if b < w'.heap.size then some J else none
theorem callF_left {w w' : World} {M M' : Tags} {J : Nat} {res : Nat → Ty} {res' : Ty} {r : Value} (hJ : 4096 ≤ J) (wf : Wf w M) (le : Le (fun t => 1 ≤ t) (fun t => 1 ≤ t) w (fgn M) w' M') (hF : FamOk J res res') (hr : (res w.heap.size).den w' M' r) :
    Wf w' (callF w w' M J) ∧ Le (· ∈ ([] : List Nat)) (· ∈ ([] : List Nat)) w M w' (callF w w' M J) ∧ res'.den w' (callF w w' M J) r := by
  have hold : ∀ b, b < w.heap.size → w'.heap[b]? = w.heap[b]? := fun b hb => by
    cases hm : M b with
    | none => exact (le.pub b hb (fgn_none hm)).2
    | some t => exact (le.own b 0 (fgn_of hm) (by omega)).2 (by omega)
  refine ⟨⟨fun b t h => ?_, fun b b' t ht1 h h' => ?_, wf.amb.of fun b hb hm => ⟨by simp [callF, hb, hm], hold b hb⟩⟩, ⟨le.size, le.os, le.tape, le.out, fun b hb hm => ⟨by simp [callF, hb, hm], hold b hb⟩, fun b t hm _ => ⟨by simp [callF, wf.lt b t hm, hm], fun _ => hold b (wf.lt b t hm)⟩⟩, ?_⟩
  · unfold callF at h
    split at h
    · exact Nat.lt_of_lt_of_le ‹_› le.size
    · split at h
      · assumption
      · cases h
  · have key : ∀ c, callF w w' M J c = some (t + 1) → M c = some (t + 1) := fun c h => by
      unfold callF at h
      split at h
      · exact h
      · split at h
        · injection h with h; omega
        · cases h
    exact wf.inj b b' t ht1 (key b h) (key b' h')
  · exact hF w.heap.size w' M' _ r (fun b hb hlt _ => by unfold callF; rw [if_neg (by omega), if_pos hlt]) hr
section
variable {P : Program} {fr : Fr} {ops : Array Oper} {A : As} {rest : List Oper} {K : As → List (As × Fx) → Prop} {d : Nat} {t ty' : TypeId} {p : String} {e : Array Edge} {Q : Exit → Act → World → Prop} {c : Code}
theorem run_callFuncN {f : FuncId} {args : List Ty} {res : Nat → Ty} (hF : CtrN P f args res) (vs : Array Value) (w : World) : (callFunc f vs).run P w = .ok (.enter f vs) w := by
  obtain ⟨⟨fn, hf, hn, hb⟩, _⟩ := hF
  have hn' : fn.name ≠ "runtime.NumGoroutine" := by simpa using hn
  have hb' : fn.body ≠ none := fun h => by rw [h] at hb; cases hb
  simp [callFunc, hf, hn', hb']
theorem run_callN {f : FuncId} {args : List Ty} {res : Nat → Ty} (hF : CtrN P f args res) {dst : Option Nat} {xs : List Operand} {ats : Array TypeId} (a : Act) (w : World) : (execOp a.eval ⟨dst, .call ⟨.value (.func f), xs.toArray, ats⟩, t, p, e, none⟩).run P w = .ok (.enter f (xs.map a.eval).toArray) w := by
  simp [execOp, resolve, Act.eval, Deferred.ofValue, invoke, run_callFuncN hF]
theorem r_callN {m : Nat} {f : FuncId} {args : List Ty} {res : Nat → Ty} (hF : CtrN P f args res) {xs : List Operand} {ats : Array TypeId} (hc : A.tag 4998 = some (.lo m)) (hx : opsTy A fr xs = args) (hd : depsOf args = []) (hdc : cdepsOf args = []) (hr : (res m).deps = []) (hrc : (res m).cdeps = [])
    (h : TOps P fr ops rest (A.set d (res m)) fun A' l => K A' ((A, { d := some d, ty := res m, rs := xs.flatMap opR, rt := [4998] }) :: l)) : TOps P fr ops (⟨some d, .call ⟨.value (.func f), xs.toArray, ats⟩, t, p, e, none⟩ :: rest) A K := by
  refine ⟨{ d := some d, ty := res m, rs := xs.flatMap opR, rt := [4998] }, ⟨rfl, by simp, by simp, by simp, fun a w M wf _ hrd htg => ?_⟩, h⟩
  rw [if_pos (by simp [Region.wanted])]
  have hv : dens w M args (xs.map a.eval) := hx ▸ opsTy_dens hrd fun x hx c hc => List.mem_flatMap.2 ⟨x, hx, hc⟩
  have hm : m ≤ w.heap.size := (htg _ (tag_mem hc) (by simp)).1
  refine wp_in_enter (run_callN hF a w) ?_
  refine (hF.2 m w _ _ hm (fgn_wf wf) fgn_zero (dens_foreign hd hdc hv)).mono fun en w' ⟨r, M', he, _, le, hden⟩ => ?_
  obtain ⟨h1, h2, h3⟩ := call_left wf le hr hrc hden
  exact ⟨r, he, r, rfl, _, h1, h2, h3, by simp⟩
theorem r_callF_new (J : Nat) {f : FuncId} {args : List Ty} {res : Nat → Ty} {res' : Ty} (hJ : 4096 ≤ J) (hF : CtrN P f args res) (hR : FamOk J res res') {xs : List Operand} {ats : Array TypeId} (hx : opsTy A fr xs = args) (hd : depsOf args = []) (hdc : cdepsOf args = [])
    (h : TOps P fr ops rest (A.set d res') fun A' l => K A' ((A, { d := some d, ty := res', rs := xs.flatMap opR }) :: l)) : TOps P fr ops (⟨some d, .call ⟨.value (.func f), xs.toArray, ats⟩, t, p, e, none⟩ :: rest) A K := by
  refine ⟨{ d := some d, ty := res', rs := xs.flatMap opR }, ⟨rfl, by simp, by simp, by simp, fun a w M wf _ hrd _ => ?_⟩, h⟩
  rw [if_pos (by simp [Region.wanted])]
  have hv : dens w M args (xs.map a.eval) := hx ▸ opsTy_dens hrd fun x hx c hc => List.mem_flatMap.2 ⟨x, hx, hc⟩
  refine wp_in_enter (run_callN hF a w) ?_
  refine (hF.2 w.heap.size w _ _ (Nat.le_refl _) (fgn_wf wf) fgn_zero (dens_foreign hd hdc hv)).mono fun en w' ⟨r, M', he, _, le, hden⟩ => ?_
  obtain ⟨h1, h2, h3⟩ := callF_left hJ wf le hR hden
  exact ⟨r, he, r, rfl, _, h1, h2, h3, by simp⟩
end
section
variable {P : Program} {A : As} {fn : Func} {n : Nat} {w0 : World} {M0 : Tags}
def RetSubN (m : Nat) (s t : Ty) : Prop := ∀ w M v, Wf w M → (Cont.lo m).den w M 4998 → s.den w M v → t.den w (pubM M) v
theorem i_rpN1 {m tm : Nat} {res : Ty} (hr : fn.results = #[.tmp tm]) (ht : Nat.blt tm n = true) (hc : A.tag 4998 = some (.lo m)) (hs : RetSubN m (A.slots tm) res) : Into ⟨n, w0, M0, [], .plain⟩ A (bodyPost P fn (retPost w0 M0 res) .ret) := by
  intro a w ⟨M, ok, hsl, htg⟩
  exact ⟨ok.nodefers (by simp), _, results_tmp hr _ _ _, _, pubM M, rfl, pubM_wf ok.wf, base_pub (fr := ⟨n, w0, M0, [], .plain⟩) (fun _ h => h) ok.base, hs _ _ _ ok.wf (htg _ (tag_mem hc)) (hsl tm (by simpa using ht))⟩
theorem retN_of {m : Nat} {s t : Ty} (h : RetSub s t) : RetSubN m s t := fun w M v wf _ hd => h w M v wf hd
theorem retN_row {α β : Type} {m T tg : Nat} {E : El α} {E' : El β} {xs : List α} {ys : List β} (h1 : 1 ≤ tg) (h0 : 1 ≤ E.size) (he : xs.length = ys.length) (hE : Subs (xs.flatMap E.tys) (ys.flatMap E'.tys)) : RetSubN m (.row E T tg xs) (.nw m E' T ys) := fun w M v wf hlo hd => by
  have hp := pubTy_rowN (A := ⟨fun _ => Ty.any, [(4998, .lo m)]⟩) (m := m) rfl h1 h0 he hE w M v wf (fun x hx => by rw [List.mem_singleton.1 hx]; exact hlo) hd
  refine vw_mono (M := pubTag M tg) rfl rfl (fun b hb => ?_) hp
  unfold pubTag at hb
  split at hb
  · rename_i hb'
    obtain ⟨u, rfl⟩ : ∃ u, tg = u + 1 := ⟨tg - 1, by omega⟩
    exact pubM_succ hb'
  · exact pubM_none hb
end
def XEb : El ({v : Value // v.oneCell' = true} × Bool) := ⟨2, fun y => [Ty.ex y.1.1, Ty.bool y.2], fun _ => rfl, fun _ => rfl, fun _ => rfl, fun y => by
  have : (Ty.ex y.1.1).one = true := y.1.2
  simp [this, Ty.bool]⟩
section
variable {P : Program} {fr : Fr} {A : As} {Q : Exit → Act → World → Prop} {code : Code}
theorem fit_nw {m T : Nat} {xs : List Int} {w : World} {J : Nat} {M M' : Tags} {v : Value} (hM : ∀ g cur, w.heap[g]? = some (.cells cur T (0, 0)) → M g = some J → M' g = some J) (h : (Ty.nw m I64 T xs).den w (vwJ J M) v) : dFit w M' J v := by
  rcases h with ⟨_, rfl⟩ | ⟨g, cur, c, rfl, h1, h2, _, hg, hh, hs, _⟩
  · exact .inl rfl
  · exact .inr ⟨g, _, c, cur, T, rfl, hM g cur hh (vwJ_none.1 hg), hh, hs⟩
theorem open_nw {α : Type} {m Ti J : Nat} {E : El α} {nums : α → List Int} {st : α → Bool} (hE : ∀ x, E.tys x = [Ty.nw m I64 Ti (nums x), Ty.bool (st x)]) {w : World} {M M' : Tags} (hM : ∀ g cur, w.heap[g]? = some (.cells cur Ti (0, 0)) → M g = some J → M' g = some J) : ∀ {xs : List α} {cs : List Value}, dens w (vwJ J M) (xs.flatMap E.tys) cs →
    ∃ ys : List ({v : Value // v.oneCell' = true} × Bool), ys.length = xs.length ∧ dens w M' (ys.flatMap XEb.tys) cs ∧ ∀ v ∈ ys.map (fun y => y.1.1), dFit w M' J v
  | [], [], _ => ⟨[], rfl, trivial, by simp⟩
  | x :: xs, cs, h => by
    rw [List.flatMap_cons, hE x] at h
    match cs, h with
    | v1 :: v2 :: cs, ⟨h1, h2, h3⟩ =>
      obtain ⟨ys, e1, e2, e3⟩ := open_nw hE hM h3
      refine ⟨(⟨v1, (Ty.nw m I64 Ti (nums x)).isOne rfl h1⟩, st x) :: ys, by simp [e1], ⟨rfl, h2, e2⟩, fun v hv => ?_⟩
      rw [List.map_cons, List.mem_cons] at hv
      rcases hv with rfl | hv
      · exact fit_nw hM h1
      · exact e3 v hv
theorem t_openF {α : Type} {s J tg Ti Tr : Nat} {ws : List Int} {n : Int} {E : El α} {rows : List α} {nums : α → List Int} {st : α → Bool} {g1 : (Ty.nw 0 I64 Ti ws).deps = []} {g2 : (Ty.nw 0 I64 Ti ws).cdeps = []} {g3 : (Ty.nw 0 E Tr rows).deps = []} {g4 : (Ty.nw 0 E Tr rows).cdeps = []} (hs : Nat.blt s fr.n = true)
    (hx : A.slots s = .agg [.fam J (.nw 0 I64 Ti ws) g1 g2, .int .i64 n, .fam J (.nw 0 E Tr rows) g3 g4]) (hE : ∀ x, E.tys x = [Ty.nw 0 I64 Ti (nums x), Ty.bool (st x)]) (hT : Nat.beq Ti Tr = false) (hsz : E.size = 2) (h1 : Tag1 tg) (h2 : 4096 ≤ J) (hp : fr.pass.contains tg = false) (hp2 : fr.pass.contains J = false)
    (h : ∀ v ys, ys.length = rows.length → Tri P fr code ⟨fun i => bif Nat.beq i s then .agg [.ex v, .int .i64 n, .vs tg rows.length] else killSlots [] [tg, J] A.slots i, (tg, .vec XEb Tr ys) :: (J, .fit (v :: ys.map fun y => y.1.1)) :: killTags [] [tg, J] A.tags⟩ Q) : Tri P fr code A Q := fun a w ⟨M, ok, hsl, ht⟩ => by
  have hd := hsl s (by simpa using hs)
  rw [hx] at hd
  obtain ⟨cs, e, hd⟩ := hd
  obtain ⟨v1, v2, v3, hcs, d1, d2, d3⟩ : ∃ v1 v2 v3, cs.toList = [v1, v2, v3] ∧ (Ty.nw 0 I64 Ti ws).den w (vwJ J M) v1 ∧ (Ty.int .i64 n).den w M v2 ∧ (Ty.nw 0 E Tr rows).den w (vwJ J M) v3 := by
    match hc : cs.toList, hd with
    | [v1, v2, v3], ⟨a, b, c, _⟩ => exact ⟨v1, v2, v3, rfl, a, b, c⟩
  obtain ⟨u, hu⟩ : ∃ u, tg = u + 1 := ⟨tg - 1, by omega⟩
  let R : Option Nat := match v3 with | .slice (some ad) _ _ => some ad.block | _ => none
  let M' : Tags := fun b => if some b = R then some tg else if M b = some tg then none else M b
  have hRJ : ∀ b, some b = R → M b = some J ∧ ∃ cur, w.heap[b]? = some (.cells cur Tr (0, 0)) := by
    intro b hb
    rcases d3 with ⟨_, rfl⟩ | ⟨g, cur, c, rfl, _, _, _, hg, hh, _⟩
    · exact absurd hb (by simp [R])
    · have : b = g := by simpa [R] using hb
      subst this
      exact ⟨vwJ_none.1 hg, cur, hh⟩
  have hMi : ∀ g cur, w.heap[g]? = some (.cells cur Ti (0, 0)) → M g = some J → M' g = some J := by
    intro g cur hh hg
    have h1' : ¬ some g = R := fun hr => by
      obtain ⟨_, cur', hh'⟩ := hRJ g hr
      rw [hh] at hh'
      injection hh' with hh'
      injection hh' with _ hT'
      subst hT'; simp at hT
    have h2' : ¬ M g = some tg := fun h => by rw [hg] at h; injection h with h; omega
    show (if some g = R then some tg else if M g = some tg then none else M g) = some J; rw [if_neg h1', if_neg h2', hg]
  have le : Le (· ∈ ([] : List Nat)) (· ∈ [tg, J]) w M w M' := by
    refine ⟨Nat.le_refl _, rfl, rfl, rfl, fun b _ hm => ⟨?_, rfl⟩, fun b t hm ht => ⟨?_, fun _ => rfl⟩⟩
    · have h1' : ¬ some b = R := fun hr => by have := (hRJ b hr).1; rw [hm] at this; cases this
      have h2' : ¬ M b = some tg := fun h => by rw [hm] at h; cases h
      show (if some b = R then some tg else if M b = some tg then none else M b) = none; rw [if_neg h1', if_neg h2', hm]
    · simp only [List.mem_cons, List.not_mem_nil, or_false, not_or] at ht
      have h1' : ¬ some b = R := fun hr => by have := (hRJ b hr).1; rw [hm] at this; injection this with this; exact ht.2 this
      have h2' : ¬ M b = some tg := fun h => by rw [hm] at h; injection h with h; exact ht.1 h
      show (if some b = R then some tg else if M b = some tg then none else M b) = some t; rw [if_neg h1', if_neg h2', hm]
  have wf' : Wf w M' := by
    refine ⟨fun b t h => ?_, fun b b' t ht1 h h' => ?_, ok.wf.amb.of fun b hb hm => le.pub b hb hm⟩
    · simp only [M'] at h
      split at h
      · rename_i hr; exact ok.wf.lt b _ (hRJ b hr).1
      · split at h
        · cases h
        · exact ok.wf.lt b _ h
    · simp only [M'] at h h'
      split at h
      · rename_i hr
        split at h'
        · rename_i hr'
          rw [← hr] at hr'; injection hr' with hr'; exact hr'.symm
        · split at h'
          · cases h'
          · rename_i hn; rw [h] at *; exact absurd h' hn
      · split at h
        · cases h
        · rename_i hn
          split at h'
          · rw [← h'] at h; exact absurd h hn
          · split at h'
            · cases h'
            · exact ok.wf.inj b b' t ht1 h h'
  obtain ⟨T3, ys, hys, hvs, hvec, hfit⟩ : ∃ (_ : Unit) (ys : List ({v : Value // v.oneCell' = true} × Bool)), ys.length = rows.length ∧ dVs tg rows.length w M' v3 ∧ dVec XEb Tr ys w M' tg ∧ ∀ v ∈ ys.map (fun y => y.1.1), dFit w M' J v := by
    rcases d3 with ⟨hr, rfl⟩ | ⟨g, cur, c, rfl, h3, h4, _, hg, hh, _, hd⟩
    · subst hr
      exact ⟨(), [], rfl, .inl ⟨rfl, rfl⟩, .inl rfl, by simp⟩
    · obtain ⟨ys, e1, e2, e3⟩ := open_nw hE hMi hd
      have hg' : M' g = some tg := by simp [M', R]
      refine ⟨(), ys, e1, .inr ⟨g, c, hg', rfl, h3, h4⟩, .inr ⟨g, cur, hg', hh, ?_⟩, e3⟩
      have hl : (ys.flatMap XEb.tys).length = (rows.flatMap E.tys).length := by rw [flat_len, flat_len, e1, hsz]; rfl
      rw [hl]; exact e2
  refine h v1 ys hys a w ⟨M', ⟨wf', Fr.base_step ok.base (by intro _ h; cases h) (fun t ht => ?_) le, ok.size, ok.defers.step (by intro _ h; cases h) (fun t ht => ?_) le⟩, fun i hi => ?_, fun x hx => ?_⟩
  · simp only [List.mem_cons, List.not_mem_nil, or_false] at ht
    rcases ht with rfl | rfl
    · exact ⟨h1.1, by simpa using hp⟩
    · exact ⟨by omega, by simpa using hp2⟩
  · simp only [List.mem_cons, List.not_mem_nil, or_false] at ht
    rcases ht with rfl | rfl
    · exact h1.1
    · omega
  · cases hb : Nat.beq i s with
    | false =>
      simp only [hb, cond_false]
      rcases killSlots_spec [] [tg, J] A.slots i with ⟨e, hdj⟩ | ⟨_, e⟩
      · rw [e]; exact (A.slots i).mono le (safe_spec hdj).1 (safe_spec hdj).2 (hsl i hi)
      · rw [e]; trivial
    | true =>
      have : i = s := Nat.eq_of_beq_eq_true hb
      subst this
      simp only [hb, cond_true]
      refine ⟨cs, e, ?_⟩
      rw [hcs]
      exact ⟨rfl, d2, hvs, trivial⟩
  · rcases List.mem_cons.1 hx with rfl | hx
    · exact hvec
    rcases List.mem_cons.1 hx with rfl | hx
    · intro y hy
      rcases List.mem_cons.1 hy with rfl | hy
      · exact fit_nw hMi d1
      · exact hfit y hy
    · exact killTags_den le hx fun y hy _ => ht y hy
end
end Go.T

namespace Go.Proofs.YtjjndkenddigiaaGreatDoor
open Go Go.T
set_option maxHeartbeats 2000000
def BRowV (m : Nat) : El BRow := El.mk' 2 (fun r => [Ty.nw m I64 3 r.nums, Ty.bool r.struck]) (fun _ => rfl) (fun _ => ⟨rfl, rfl, rfl⟩)
def halfT (m : Nat) (b : Bool) (xs : List Int) : Ty := match b with | true => Ty.nw m I64 3 xs | false => Ty.sl I64 xs
theorem half_pub (m : Nat) (b : Bool) (xs : List Int) : (halfT m b xs).deps = [] ∧ (halfT m b xs).cdeps = [] ∧ (halfT m b xs).one = true := by cases b <;> exact ⟨rfl, rfl, rfl⟩
def BRowH (m : Nat) : El (BRow × Bool) := ⟨2, fun y => [halfT m y.2 y.1.nums, Ty.bool y.1.struck], fun _ => rfl, fun y => by
  obtain ⟨h, _, _⟩ := half_pub m y.2 y.1.nums
  simp [depsOf, h, Ty.bool], fun y => by
  obtain ⟨_, h, _⟩ := half_pub m y.2 y.1.nums
  simp [cdepsOf, h, Ty.bool], fun y => by
  obtain ⟨_, _, h⟩ := half_pub m y.2 y.1.nums
  simp [h, Ty.bool]⟩
def bokNTys (m : Nat) (b : Book) : List Ty := [Ty.nw m I64 3 b.form.widths, Ty.int .i64 b.form.lines, Ty.nw m (BRowV m) 66 b.rows]
def bokNT (m : Nat) (b : Book) : Ty := Ty.agg (bokNTys m b)
def halfL (k : Nat) (l : List BRow) : List (BRow × Bool) := (l.take k).map (fun r => (r, true)) ++ (l.drop k).map fun r => (r, false)
theorem half_0 (l : List BRow) : halfL 0 l = l.map fun r => (r, false) := rfl
theorem half_end (l : List BRow) : halfL l.length l = l.map fun r => (r, true) := by simp [halfL]
theorem half_len {k : Nat} {l : List BRow} (h : k ≤ l.length) : (halfL k l).length = l.length := by simp [halfL]; omega
theorem half_nth {k : Nat} {l : List BRow} (h : k < l.length) : nth (halfL k l) k = (nth l k, false) := by
  unfold halfL nth
  rw [List.getD_eq_getElem?_getD, List.getElem?_append_right (by simp; omega), List.length_map, List.length_take, Nat.min_eq_left (by omega), Nat.sub_self, drop_nth h]
  rfl
theorem half_set {k : Nat} {l : List BRow} (h : k < l.length) : (halfL k l).set k (⟨(nth l k).nums, (nth l k).struck⟩, true) = halfL (k + 1) l := by
  unfold halfL
  rw [drop_nth h, take_nth h, List.map_append, List.set_append, if_neg (by simp; omega), List.length_map, List.length_take, Nat.min_eq_left (by omega), Nat.sub_self, List.map_cons, List.set_cons_zero]
  simp
theorem half_flat0 (m : Nat) : ∀ l : List BRow, l.flatMap BRowE.tys = (l.map fun r => (r, false)).flatMap (BRowH m).tys
  | [] => rfl
  | r :: l => by rw [List.flatMap_cons, List.map_cons, List.flatMap_cons, half_flat0 m l]; rfl
theorem half_flat1 (m : Nat) : ∀ l : List BRow, Subs ((l.map fun r => (r, true)).flatMap (BRowH m).tys) (l.flatMap (BRowV m).tys)
  | [] => trivial
  | r :: l => by rw [List.flatMap_cons, List.map_cons, List.flatMap_cons]; exact subs_app subs_refl (half_flat1 m l)
theorem sl_half (m : Nat) (l : List BRow) : (Ty.sl BRowE l).Sub (Ty.sl (BRowH m) (l.map fun r => (r, false))) := sl_flat (by simp) (half_flat0 m l)
theorem rowV_sub (m : Nat) (r : BRow) : Subs ((BRowV m).tys r) (BRowE.tys r) := ⟨nw_sl fun _ => subs_refl, Ty.sub_refl _, trivial⟩
theorem zero_bokN {m : Nat} : (Ty.agg [Ty.ex (.slice none 0 0), Ty.int .i64 0, Ty.ex (.slice none 0 0)]).Sub (bokNT m Book.zero) := Ty.sub_agg' ⟨nw_nil, Ty.sub_refl _, nw_nil, trivial⟩
theorem rep_half {l : List BRow} {n : Nat} {x : BRow × Bool} (h : n = l.length) : (l.map fun r => (r, false)) ++ (List.replicate n x).drop (l.map fun r => (r, false)).length = halfL 0 l := by subst h; simp [half_0]
theorem half_all (m : Nat) {k : Nat} {l : List BRow} (h : k = l.length) : Subs ((halfL k l).flatMap (BRowH m).tys) (l.flatMap (BRowV m).tys) := by subst h; rw [half_end]; exact half_flat1 m l
theorem zro_rowH {m : Nat} : Subs ([Value.slice none 0 0, Value.bool false].map Ty.ofVal) ((BRowH m).tys (⟨[], false⟩, false)) := ⟨Ty.nil_sl, Ty.sub_refl _, trivial⟩
attribute [local irreducible] dInt dBool dSl dPp dPtr dAgg dTup dClo dAny dEx dStr dGd dCells dVec dVs dRow dOp nth Tri Into TOps Ctr bodyPost Exit.then Exit.inBlock Code.wp Code.wpIn dWhen dPa dArr dMp dMap CtrG keepPost iterPost bodyPostM roundQ
set_option maxRecDepth 100000 in
theorem n_Clone_int (l : List Int) (h : l.length ≤ 1000) : CtrN Tryz.prog 75 [Ty.sl I64 l] (fun m => Ty.nw m I64 3 l) := by
  refine fnN_intro Tryz.func75 rfl (by decide) Tryz.ntmps75 (by exact Nat.le_of_ble_eq_true rfl) fun m w0 M0 => ?_
  refine t_seq ?_
  refine t_region ?_
  refine asX rfl ?_
  refine r_nil ?_
  refine i_then ?_
  refine t_seq ?_
  refine t_seq ?_
  refine t_region ?_
  refine mvS rfl ?_
  refine r_eqnil und22 rfl ?_
  refine r_nil ?_
  refine i_then ?_
  refine t_cond_nb rfl (fun hc1 => ?_) (fun hc1 => ?_)
  ·
    refine t_seq ?_
    refine t_region ?_
    refine asX rfl ?_
    refine r_nil ?_
    refine i_then ?_
    refine t_ret ?_
    refine i_then_ret ?_
    refine i_rpN1 rfl rfl rfl ?_
    all_goals skip
    all_goals (obtain rfl : l = [] := hc1; exact retN_of (ret_sub rfl rfl nw_nil))
  ·
    refine t_skip ?_
    refine i_then ?_
    refine t_seq ?_
    refine t_region ?_
    refine r_buildRow (E := I64) rfl rfl rfl rfl ?_
    refine mvS rfl ?_
    refine r_append rfl rfl (by decide) rfl rfl rfl rfl rfl rfl (by decide) (by (simp <;> omega)) (by (simp <;> omega)) ?_
    refine asR rfl ?_
    refine r_nil ?_
    refine i_then ?_
    refine t_ret ?_
    refine i_rpN1 rfl rfl rfl ?_
    all_goals skip
    all_goals exact retN_row (by decide) (by decide) rfl subs_refl
set_option maxRecDepth 100000 in
theorem n_own (b : Book) (h : b.rows.length ≤ 13) (hw : b.form.widths.length ≤ 1000) (hn : ∀ r ∈ b.rows, r.nums.length ≤ 1000) : CtrN Tryz.prog 95 [bokT b] (fun m => bokNT m b) := by
  refine fnN_intro Tryz.func95 rfl (by decide) Tryz.ntmps95 (by exact Nat.le_of_ble_eq_true rfl) fun m w0 M0 => ?_
  refine t_seq ?_
  refine t_region ?_
  refine r_box_agg rfl ?_
  refine r_alloc rfl (by exact List.cons_ne_nil _ _) rfl ?_
  refine r_nil ?_
  refine i_then ?_
  refine t_seq ?_
  refine t_draw mixed rfl ?_
  refine r_field_pp rfl rfl rfl rfl rfl (by decide) ?_
  refine r_field_pp rfl rfl rfl rfl rfl (by decide) ?_
  refine r_load_pp rfl rfl rfl rfl ?_
  refine r_callN (n_Clone_int _ hw) rfl rfl rfl rfl rfl rfl ?_
  refine r_field_pp rfl rfl rfl rfl rfl (by decide) ?_
  refine r_field_pp rfl rfl rfl rfl rfl (by decide) ?_
  refine r_load_pp rfl rfl rfl rfl ?_
  refine r_build rfl rfl (by exact List.cons_ne_nil _ _) rfl (by repeat (first | exact (Parts.nil : Parts _ _ [] _) | (show Parts _ _ ((_, _) :: _) _; apply Parts.one; (· first | exact (rfl : _ = Ty.int _ _) | exact (rfl : _ = Ty.nw _ _ _ _)); (· exact rfl)))) (by exact (rfl : _ = some [_, _])) ?_
  refine r_field_pp rfl rfl rfl rfl rfl (by decide) ?_
  refine r_load_pp rfl rfl rfl rfl ?_
  refine r_len rfl rfl rfl ?_
  refine r_field_pp rfl rfl rfl rfl rfl (by decide) ?_
  refine r_load_pp rfl rfl rfl rfl ?_
  refine r_len rfl rfl rfl ?_
  refine r_add rfl rfl (by omega) (by omega) ?_
  refine r_makeRcZ (E := BRowH m) (x0 := (⟨[], false⟩, false)) rfl rfl rfl rfl rfl rfl zro_rowH (by decide) rfl (by omega) (by omega) (by (dsimp only; omega)) (by omega) ?_
  refine r_build rfl rfl (by exact List.cons_ne_nil _ _) rfl (by repeat (first | exact (Parts.nil : Parts _ _ [] _) | (show Parts _ _ ((_, _) :: _) _; apply Parts.one; (· exact (rfl : _ = Ty.rc _ _ _)); (· exact rfl)) | (show Parts _ _ ((_, _) :: _) _; apply Parts.agg; (· exact (rfl : _ = Ty.agg _))))) (by exact (rfl : _ = some [_, _, _])) ?_
  refine r_alloc rfl (by exact List.cons_ne_nil _ _) rfl ?_
  refine r_storeN rfl rfl (by decide) rfl rfl rfl rfl rfl rfl ?_
  refine r_nil ?_
  refine ⟨by kernel_rfl, ?_⟩
  refine i_then ?_
  refine t_seq ?_
  refine t_region ?_
  refine r_field_ptr rfl rfl rfl rfl rfl (by decide) ?_
  refine r_load_ptr rfl rfl (by decide) rfl rfl rfl ?_
  refine r_field_pp rfl rfl rfl rfl rfl (by decide) ?_
  refine tops_weak (Ty.sl (BRowH m) (b.rows.map fun r => (r, false))) (by apply opT_of; refine r_load_pp rfl rfl rfl rfl ?_; refine r_nil ?_; exact rfl) (sl_half m b.rows) ?_
  refine r_copyRc (E := BRowH m) (ys := b.rows.map fun r => (r, false)) rfl rfl rfl (by decide) rfl rfl rfl rfl (by simp) (by simp) ?_
  refine r_nil ?_
  refine i_then ?_
  refine t_seq ?_
  refine t_seq ?_
  refine t_region ?_
  refine r_field_ptr rfl rfl rfl rfl rfl (by decide) ?_
  refine r_load_ptr rfl rfl (by decide) rfl rfl rfl ?_
  refine r_len_rc rfl rfl rfl ?_
  refine mvI rfl ?_
  refine r_nil ?_
  refine i_then ?_
  refine t_block ?_
  refine t_loop (fun (k : {k : Nat // k ≤ b.rows.length}) => live [(1, Ty.pp (bokTys b)), (2, Ty.ptr 3 0), (3, Ty.ptr 4 0), (29, Ty.rc 22 b.rows.length (some (b.rows.length + 1))), (30, Ty.int .i64 b.rows.length), (31, Ty.int .i64 (k.1 : Nat))] [(3, Cont.cells 27 [Ty.ex (.slice none 0 0), Ty.int .i64 0, Ty.ex (.slice none 0 0)]), (4, Cont.cells 27 [Ty.nw m I64 3 b.form.widths, Ty.int .i64 b.form.lines, Ty.rc 22 b.rows.length (some (b.rows.length + 1))]), (22, Cont.rcv (BRowH m) 66 (halfL k.1 b.rows) (some (b.rows.length + 1))), (4998, Cont.lo m)]) (fun k => b.rows.length - k.1) (⟨0, Nat.zero_le _⟩) ?_ fun k => ?_
  · (refine Ent.mk' ?_ ?_ <;> (repeat' (first | exact allSub_zero | exact allTags_nil | refine allSub_succ' ?_ (Ty.sub_any _) | refine allSub_succ' ?_ (Ty.sub_refl _) | refine allTags_cons rfl (Cont.sub_refl _) ?_ | refine allTags_cons rfl ?_ ?_)))
    all_goals exact Cont.sub_rcv (rep_half (by simp))
  ·
    have hk := k.2
    have hhl := half_len (l := b.rows) hk
    refine t_seq ?_
    refine t_region ?_
    refine r_bin rfl rfl rfl ?_
    refine r_nil ?_
    refine i_then ?_
    refine t_seq ?_
    refine t_cond_dec rfl (fun hc1 => ?_) (fun hc1 => ?_)
    ·
      refine t_skip ?_
      refine i_then ?_
      refine t_seq ?_
      refine t_block ?_
      refine t_seq ?_
      have hkl : k.1 < b.rows.length := by omega
      have hnk := hn _ (nth_mem hkl)
      have hnh := half_nth hkl
      refine t_region ?_
      refine mvI rfl ?_
      refine r_index_rc rfl rfl rfl rfl rfl (by omega) ?_
      refine tops_weak (Ty.agg (BRowE.tys (nth b.rows k.1))) (by apply opT_of; refine r_load_rcE (E := BRowH m) (tg := 22) k.1 rfl rfl rfl (by decide) rfl rfl rfl (by omega) ?_; refine r_nil ?_; exact rfl) (by show (Ty.agg ((BRowH m).tys (nth (halfL k.1 b.rows) k.1))).Sub _; rw [hnh]; exact Ty.sub_refl _) ?_
      refine r_alloc rfl (by exact List.cons_ne_nil _ _) rfl ?_
      refine asI rfl ?_
      refine r_storeN rfl rfl (by decide) rfl rfl rfl rfl rfl rfl ?_
      refine r_nil ?_
      refine i_then ?_
      refine t_draw mixed rfl ?_
      refine r_field_ptr rfl rfl rfl rfl rfl (by decide) ?_
      refine r_load_ptr rfl rfl (by decide) rfl rfl rfl ?_
      refine mvI rfl ?_
      refine r_field_ptr rfl rfl rfl rfl rfl (by decide) ?_
      refine r_load_ptr rfl rfl (by decide) rfl rfl rfl ?_
      refine r_callN (n_Clone_int _ hnk) rfl rfl rfl rfl rfl rfl ?_
      refine r_index_rc rfl rfl rfl rfl rfl (by omega) ?_
      refine r_field_ptr rfl rfl rfl rfl rfl (by decide) ?_
      refine r_store_rc (E := BRowH m) (tg := 22) (i := k.1) (o := 0) (z := (⟨(nth b.rows k.1).nums, (nth b.rows k.1).struck⟩, true)) rfl rfl (by decide) rfl rfl rfl rfl (by omega) (show 0 < 2 by decide) rfl (by rw [hnh]; rfl) ?_
      refine r_nil ?_
      refine ⟨by kernel_rfl, ?_⟩
      refine i_block ?_
      refine i_then ?_
      refine t_region ?_
      refine r_add rfl rfl (by omega) (by omega) ?_
      refine mvI rfl ?_
      refine r_nil ?_
      refine i_round (⟨k.1 + 1, by omega⟩) ?_ (by show b.rows.length - (k.1 + 1) < b.rows.length - k.1; omega)
      (refine Ent.mk' ?_ ?_ <;> (repeat' (first | exact allSub_zero | exact allTags_nil | refine allSub_succ' ?_ (Ty.sub_any _) | refine allSub_succ' ?_ (Ty.sub_refl _) | refine allTags_cons rfl (Cont.sub_refl _) ?_ | refine allTags_cons rfl ?_ ?_)))
      all_goals skip
      all_goals exact Cont.sub_rcv (half_set hkl)
    ·
      refine t_exit ?_
      refine i_then_exit ?_
      refine i_then_exit ?_
      refine i_block_exit rfl ?_
      refine i_then ?_
      refine t_seq ?_
      have hke : k.1 = b.rows.length := by omega
      refine t_unownCellC (D := 4) (Tb := 27) (tg := 22) (E := BRowH m) [Ty.nw m I64 3 b.form.widths, Ty.int .i64 b.form.lines] (by decide) rfl rfl hhl.symm ?_
      refine t_pubC (tg := 22) [] [(4, Cont.cells 27 (bokNTys m b))] (by decide) rfl trivial ⟨pubC_cells rfl rfl ⟨pubTy_same rfl, pubTy_same rfl, pubTy_rowN rfl (by decide) (show 1 ≤ 2 by decide) hhl (half_all m hke), trivial⟩, trivial⟩ ?_
      refine t_region ?_
      refine r_load_ptrN rfl rfl (by decide) rfl rfl (by exact Nat.le_of_ble_eq_true rfl) ?_
      refine r_storeN rfl rfl (by decide) rfl rfl rfl rfl rfl rfl ?_
      refine r_nil ?_
      refine i_then ?_
      refine t_ret ?_
      refine i_rcell rfl rfl rfl rfl (by decide) rfl rfl rfl ?_
      all_goals exact ret_refl rfl rfl
set_option maxRecDepth 100000 in
theorem n_book (f : BForm) (p : Rdr) (h : p.read.length ≤ 13) (hw : f.widths.length ≤ 1000) (hn : ∀ r ∈ p.read, r.nums.length ≤ 1000) : CtrN Tryz.prog 86 [Ty.pp (rdrPl f p)] (fun m => bokNT m ⟨f, p.read⟩) := by
  refine fnN_intro Tryz.func86 rfl (by decide) Tryz.ntmps86 (by exact Nat.le_of_ble_eq_true rfl) fun m w0 M0 => ?_
  refine t_seq ?_
  refine t_region ?_
  refine r_alloc rfl (by exact List.cons_ne_nil _ _) rfl ?_
  refine r_nil ?_
  refine i_then ?_
  refine t_seq ?_
  refine t_draw mixed rfl ?_
  refine mvP rfl ?_
  refine r_nilCheck_pp rfl ?_
  refine r_field_pp rfl rfl rfl rfl rfl (by decide) ?_
  refine r_load_ppN rfl rfl rfl (by exact Nat.le_of_ble_eq_true rfl) ?_
  refine mvP rfl ?_
  refine r_nilCheck_pp rfl ?_
  refine r_field_pp rfl rfl rfl rfl rfl (by decide) ?_
  refine r_load_pp rfl rfl rfl rfl ?_
  refine r_build rfl rfl (by exact List.cons_ne_nil _ _) rfl (by repeat (first | exact (Parts.nil : Parts _ _ [] _) | (show Parts _ _ ((_, _) :: _) _; apply Parts.one; (· exact (rfl : _ = Ty.sl _ _)); (· exact rfl)) | (show Parts _ _ ((_, _) :: _) _; apply Parts.agg; (· exact (rfl : _ = Ty.agg _))))) (by exact (rfl : _ = some [_, _, _])) ?_
  refine r_callN (n_own ⟨f, p.read⟩ h hw hn) rfl rfl rfl rfl rfl rfl ?_
  refine r_storeN rfl rfl (by decide) rfl rfl rfl rfl rfl rfl ?_
  refine r_nil ?_
  refine ⟨by kernel_rfl, ?_⟩
  refine i_then ?_
  refine t_ret ?_
  refine i_rcell rfl rfl rfl rfl (by decide) rfl rfl rfl ?_
  exact ret_refl rfl rfl
attribute [local irreducible] canR nextR stepQ runP runN rdK wholeR parV
end Go.Proofs.YtjjndkenddigiaaGreatDoor

namespace Go.T
open Go Go.RowKit
section
variable {P : Program} {fr : Fr} {ops : Array Oper} {A : As} {rest : List Oper} {K : As → List (As × Fx) → Prop} {t : TypeId} {p : String} {e : Array Edge}
end
end Go.T

namespace Go.T
open Go Go.RowKit
def Cont.sz (m : Nat) : Cont := { den := fun w _ _ => m ≤ w.heap.size, mono := fun le _ _ _ _ h => Nat.le_trans h le.size }
theorem lo_sz {m : Nat} : (Cont.lo m).Sub (Cont.sz m) := fun _ _ _ h => h.1
theorem cc_sz {ρ : List (Nat × Nat)} {a b m : Nat} : ConvC ρ a (.sz m) b (.sz m) := fun _ _ _ _ _ _ h => h
section
variable {P : Program} {fr : Fr} {ops : Array Oper} {A : As} {rest : List Oper} {K : As → List (As × Fx) → Prop} {d : Nat} {t ty' : TypeId} {p : String} {e : Array Edge}
theorem r_callNS {m : Nat} {f : FuncId} {args : List Ty} {res : Nat → Ty} (hF : CtrN P f args res) {xs : List Operand} {ats : Array TypeId} (hc : A.tag 4998 = some (.sz m)) (hx : opsTy A fr xs = args) (hd : depsOf args = []) (hdc : cdepsOf args = []) (hr : (res m).deps = []) (hrc : (res m).cdeps = [])
    (h : TOps P fr ops rest (A.set d (res m)) fun A' l => K A' ((A, { d := some d, ty := res m, rs := xs.flatMap opR, rt := [4998] }) :: l)) : TOps P fr ops (⟨some d, .call ⟨.value (.func f), xs.toArray, ats⟩, t, p, e, none⟩ :: rest) A K := by
  refine ⟨{ d := some d, ty := res m, rs := xs.flatMap opR, rt := [4998] }, ⟨rfl, by simp, by simp, by simp, fun a w M wf _ hrd htg => ?_⟩, h⟩
  rw [if_pos (by simp [Region.wanted])]
  have hv : dens w M args (xs.map a.eval) := hx ▸ opsTy_dens hrd fun x hx c hc => List.mem_flatMap.2 ⟨x, hx, hc⟩
  have hm : m ≤ w.heap.size := htg _ (tag_mem hc) (by simp)
  refine wp_in_enter (run_callN hF a w) ?_
  refine (hF.2 m w _ _ hm (fgn_wf wf) fgn_zero (dens_foreign hd hdc hv)).mono fun en w' ⟨r, M', he, _, le, hden⟩ => ?_
  obtain ⟨h1, h2, h3⟩ := call_left wf le hr hrc hden
  exact ⟨r, he, r, rfl, _, h1, h2, h3, by simp⟩
end
end Go.T

namespace Go.Proofs.YtjjndkenddigiaaGreatDoor
open Go Go.T
set_option maxHeartbeats 4000000
theorem resN_px (m : Nat) {f : BForm} {text : Byt} {k : Nat} (h : k < 2) (h2 : ¬ k + 1 < 2) : PostCs [(1000, Cont.cells 27 (bokNTys m (resB f text (k + 1)))), (1001, Cont.cells 3 [Ty.int .i64 ((k + 1 : Nat) : Int)]), (4998, Cont.sz m)] [(8, 1000), (9, 1001), (4998, 4998)] [(8, Cont.cells 27 (bokNTys m (resB f text 2))), (9, Cont.cells 3 [Ty.int .i64 ((2 : Nat) : Int)]), (4998, Cont.sz m)] := by
  obtain rfl : k = 1 := by omega
  exact post_cons (a := 8) (b := 1000) (by decide) rfl (cc_cells_eq (by decide) rfl rfl rfl) (post_cons (a := 9) (b := 1001) (by decide) rfl (cc_cells_eq (by decide) rfl rfl rfl) (post_cons (a := 4998) (b := 4998) (by decide) rfl cc_sz post_nil))
theorem resN_zero (m : Nat) {f : BForm} {text : Byt} : Subs [Ty.ex (.slice none 0 0), Ty.int .i64 0, Ty.ex (.slice none 0 0)] (bokNTys m (resB f text 0)) := ⟨nw_nil, Ty.sub_refl _, nw_nil, trivial⟩
attribute [local irreducible] allF tornE wholeR cntV filV resV filL resB
attribute [local irreducible] dInt dBool dSl dPp dPtr dAgg dTup dClo dAny dEx dStr dGd dCells dVec dVs dRow dOp nth Tri Into TOps Ctr bodyPost Exit.then Exit.inBlock Code.wp Code.wpIn dWhen dPa dArr dMp dMap CtrG keepPost iterPost bodyPostM roundQ
set_option maxRecDepth 100000 in
theorem n_Restore1 (m : Nat) (f : BForm) (p : Rdr) (h : p.read.length ≤ 13) (hw : f.widths.length ≤ 1000) (hn : ∀ r ∈ p.read, r.nums.length ≤ 1000) (b : Book) (k : Nat) (hk : k ≤ 2) : CtrG Tryz.prog 85 [1000, 1001, 4998] [(1000, Cont.cells 27 (bokNTys m b)), (1001, Cont.cells 3 [Ty.int .i64 (k : Nat)]), (4998, Cont.sz m)] [Ty.any, Ty.pp (rdrPl f p), Ty.ptr 1000 0, Ty.ptr 1001 0] [(1000, Cont.cells 27 (bokNTys m ⟨f, p.read⟩)), (1001, Cont.cells 3 [Ty.int .i64 ((k + 1 : Nat) : Int)]), (4998, Cont.sz m)] (Ty.bool (decide (k + 1 < 2))) := by
  refine fnG_intro Tryz.func85 rfl (by decide) Tryz.ntmps85 (by exact Nat.le_of_ble_eq_true rfl) fun w0 M0 => ?_
  refine t_seq ?_
  refine t_region ?_
  refine asB rfl ?_
  refine r_nil ?_
  refine i_then ?_
  refine t_seq ?_
  refine t_region ?_
  refine mvP rfl ?_
  refine r_callNS (n_book f p h hw hn) rfl rfl rfl rfl rfl rfl ?_
  refine r_storeN rfl rfl (by decide) rfl rfl rfl rfl rfl rfl ?_
  refine r_nil ?_
  refine i_then ?_
  refine t_seq ?_
  refine t_region ?_
  refine r_load_ptr rfl rfl (by decide) rfl rfl rfl ?_
  refine r_add rfl rfl (by omega) (by omega) ?_
  refine r_store1 rfl rfl (by decide) rfl rfl (by exact (rfl : _ = Ty.int _ _)) rfl (by exact Nat.le_of_ble_eq_true rfl) rfl rfl (by exact (rfl : _ = [_])) ?_
  refine r_nil ?_
  refine i_then ?_
  refine t_seq ?_
  refine t_region ?_
  refine r_load_ptr rfl rfl (by decide) rfl rfl rfl ?_
  refine r_bin rfl rfl rfl ?_
  refine asB rfl ?_
  refine r_nil ?_
  refine i_then ?_
  refine t_ret ?_
  refine g_ret1 [1000, 1001, 4998] rfl rfl (by decide) ?_ ?_
  exact rc_cons rfl (cc_cells_eq (by decide) rfl rfl rfl) (rc_cons rfl (cc_cells_eq (by decide) rfl rfl rfl) (rc_cons rfl cc_sz rc_nil))
  all_goals skip
  all_goals exact rg_cv (cv_sub rfl rfl (Ty.sub_bool (res_b k)))
theorem resN_ctr (m : Nat) {f : BForm} {text : Byt} {k : Nat} (hf : FormOk f) (ho : RdrOk f (nth (allF f text) k).2) (h2 : k < 2) : CtrG Tryz.prog 85 [1000, 1001, 4998] [(1000, Cont.cells 27 (bokNTys m (resB f text k))), (1001, Cont.cells 3 [Ty.int .i64 (k : Nat)]), (4998, Cont.sz m)] [Ty.any, Ty.pp (rdrPl f (nth (allF f text) k).2), Ty.ptr 1000 0, Ty.ptr 1001 0] [(1000, Cont.cells 27 (bokNTys m (resB f text (k + 1)))), (1001, Cont.cells 3 [Ty.int .i64 ((k + 1 : Nat) : Int)]), (4998, Cont.sz m)] (Ty.bool (decide (k + 1 < 2))) := by
  have h := n_Restore1 m f (nth (allF f text) k).2 ho.len (by have := hf.n2; omega) ho.num_len (resB f text k) k (by omega)
  rwa [← resB_succ] at h
set_option maxRecDepth 100000 in
theorem n_Restore (f : BForm) (text : Byt) : CtrN Tryz.prog 29 [frmT f, Ty.str (bs text)] (fun m => Ty.tup [bokNT m (resV f text).1, Ty.int .i64 (resV f text).2]) := by
  refine fnN_intro Tryz.func29 rfl (by decide) Tryz.ntmps29 (by exact Nat.le_of_ble_eq_true rfl) fun m w0 M0 => ?_
  refine t_seq ?_
  refine t_region ?_
  refine r_box_agg rfl ?_
  refine r_alloc rfl (by exact List.cons_ne_nil _ _) rfl ?_
  refine asI rfl ?_
  refine r_nil ?_
  refine i_then ?_
  refine t_seq ?_
  refine t_seq ?_
  refine t_region ?_
  refine r_load_ppN rfl rfl rfl (by exact Nat.le_of_ble_eq_true rfl) ?_
  refine mvS' rfl ?_
  refine r_call (c_torn _ _) rfl rfl rfl rfl rfl ?_
  refine asI rfl ?_
  refine r_nil ?_
  refine i_then ?_
  refine t_seq ?_
  refine t_region ?_
  refine mvI rfl ?_
  refine r_bin rfl rfl rfl ?_
  refine r_nil ?_
  refine i_then ?_
  refine t_cond_ndec rfl (fun hc1 => ?_) (fun hc1 => ?_)
  ·
    refine t_seq ?_
    refine t_region ?_
    refine r_build rfl rfl (by exact List.cons_ne_nil _ _) rfl (by repeat (exact (Parts.nil : Parts _ _ [] _))) (by exact (rfl : _ = some [_, _, _])) ?_
    refine mvI rfl ?_
    refine r_storeN rfl rfl (by decide) rfl rfl rfl rfl rfl rfl ?_
    refine asI rfl ?_
    refine r_nil ?_
    refine i_then ?_
    refine t_ret ?_
    refine i_then_ret ?_
    refine i_rcell2 rfl rfl rfl rfl rfl (by decide) rfl rfl rfl ?_ ?_
    all_goals skip
    all_goals (rw [rv_1 hc1]; first | exact ret_sub rfl rfl zero_bokN | exact ret_refl rfl rfl)
  ·
    refine t_skip ?_
    refine i_then ?_
    refine t_seq ?_
    refine t_region ?_
    refine r_alloc rfl (by exact List.cons_ne_nil _ _) rfl ?_
    refine r_nil ?_
    refine i_then ?_
    refine t_seq ?_
    refine t_region ?_
    refine r_alloc rfl (by exact List.cons_ne_nil _ _) rfl ?_
    refine r_store1 rfl rfl (by decide) rfl rfl (by exact (rfl : _ = Ty.int _ _)) rfl (by exact Nat.le_of_ble_eq_true rfl) rfl rfl (by exact (rfl : _ = [_])) ?_
    refine r_nil ?_
    refine i_then ?_
    refine t_seq ?_
    obtain ⟨hf, hl, h4⟩ := torn_ok hc1
    have hfew := all_few (f := f) h4
    refine t_region ?_
    refine mvS' rfl ?_
    refine r_makeFunc rfl ?_
    refine r_build rfl rfl (by exact List.cons_ne_nil _ _) rfl (by repeat (first | exact (Parts.nil : Parts _ _ [] _) | (show Parts _ _ ((_, _) :: _) _; apply Parts.one; (· first | exact (rfl : _ = Ty.clo _ _) | exact (rfl : _ = Ty.str _)); (· exact rfl)))) (by exact (rfl : _ = some [_, _])) ?_
    refine r_load_ppN rfl rfl rfl (by exact Nat.le_of_ble_eq_true rfl) ?_
    refine r_op (opT_callFd (fid := 85) (caps := [Ty.ptr 8 0, Ty.ptr 9 0]) (S := [8, 9, 4998]) (K := []) (mv := []) (F := [1000, 1001, 4998]) (px := 2 ≤ (allF f text).length) (ok := fun k => k < 2) (tgs := fun k => [(8, Cont.cells 27 (bokNTys m (resB f text k))), (9, Cont.cells 3 [Ty.int .i64 (k : Nat)]), (4998, Cont.sz m)]) (tgx := [(8, Cont.cells 27 (bokNTys m (resB f text 2))), (9, Cont.cells 3 [Ty.int .i64 ((2 : Nat) : Int)]), (4998, Cont.sz m)]) (sets := [(8, Cont.cells 27 (bokNTys m (resB f text (min 2 (allF f text).length)))), (9, Cont.cells 3 [Ty.int .i64 ((min 2 (allF f text).length : Nat) : Int)]), (4998, Cont.sz m)]) (ρ := [(8, 1000), (9, 1001), (4998, 4998)]) (pre := fun k => [(1000, Cont.cells 27 (bokNTys m (resB f text k))), (1001, Cont.cells 3 [Ty.int .i64 (k : Nat)]), (4998, Cont.sz m)]) (post := fun k => [(1000, Cont.cells 27 (bokNTys m (resB f text (k + 1)))), (1001, Cont.cells 3 [Ty.int .i64 ((k + 1 : Nat) : Int)]), (4998, Cont.sz m)]) (argsF := fun k => [Ty.any, Ty.pp (rdrPl f (nth (allF f text) k).2), Ty.ptr 1000 0, Ty.ptr 1001 0]) (go := fun k => decide (k + 1 < 2)) (c_fill f hf text hl) rfl fin_hfv (fun _ => ⟨rfl, rfl⟩) (n_Restore1 m f Rdr.new (by decide) (by have := hf.n2; omega) (by intro r h; cases h) Book.zero 0 (by decide)).ex (fun k h2 hk => by rw [List.length_map] at hk; have ho := all_ok hf hk; exact resN_ctr m hf ho h2) rfl rfl rfl rfl (by decide) (by intro t h; cases h) (by decide) (by decide) (allE_pub f _) (fun k tys hk => by obtain ⟨_, rfl⟩ := enc_at hk; exact cv_cons (cv_cons (cv_cons (cv_cons cv_nil (cv_ptr (by decide))) (cv_ptr (by decide))) (cv_pub rfl rfl)) cv_any) (fun k => pre_cons (a := 8) (by decide) rfl (cc_cells_eq (by decide) rfl rfl rfl) (pre_cons (a := 9) (by decide) rfl (cc_cells_eq (by decide) rfl rfl rfl) (pre_cons (a := 4998) (by decide) rfl cc_sz pre_nil))) (fun k _ _ => post_cons (a := 8) (b := 1000) (by decide) rfl (cc_cells_eq (by decide) rfl rfl rfl) (post_cons (a := 9) (b := 1001) (by decide) rfl (cc_cells_eq (by decide) rfl rfl rfl) (post_cons (a := 4998) (b := 4998) (by decide) rfl cc_sz post_nil))) (fun k h2 hg => resN_px m h2 (of_decide_eq_false hg)) (by decide) (fun k _ _ hg => of_decide_eq_true hg) (fun k h1 h2 hg => by have hg := of_decide_eq_false hg; rw [List.length_map] at h2; omega) (fun _ => rfl) rfl (allTags_cons rfl (Cont.sub_subs (resN_zero m)) (allTags_cons rfl (Cont.sub_subs ⟨Ty.sub_int rfl, trivial⟩) (allTags_cons rfl lo_sz allTags_nil))) (by decide) (by intro t h; cases h) (by simp) rfl (fun hlt w M h x hx => by rw [List.length_map] at h hlt; rw [show min 2 (allF f text).length = (allF f text).length by omega] at hx; exact h x hx) (fun hge w M h x hx => by rw [show min 2 (allF f text).length = 2 by omega] at hx; exact h x hx)) ?_
    refine r_nil ?_
    refine i_then ?_
    refine t_seq ?_
    refine t_seq ?_
    refine t_region ?_
    refine r_load_ptr rfl rfl (by decide) rfl rfl rfl ?_
    refine r_nil ?_
    refine i_then ?_
    refine t_block ?_
    refine t_seq ?_
    refine t_region ?_
    refine r_bin rfl rfl rfl ?_
    refine asB rfl ?_
    refine r_nil ?_
    refine i_then ?_
    refine t_cond_dec rfl (fun hc2 => ?_) (fun hc2 => ?_)
    ·
      refine t_seq ?_
      refine t_region ?_
      refine r_build rfl rfl (by exact List.cons_ne_nil _ _) rfl (by repeat (exact (Parts.nil : Parts _ _ [] _))) (by exact (rfl : _ = some [_, _, _])) ?_
      refine r_storeN rfl rfl (by decide) rfl rfl rfl rfl rfl rfl ?_
      refine asI rfl ?_
      refine r_nil ?_
      refine i_then ?_
      refine t_ret ?_
      refine i_block_ret ?_
      refine i_then_ret ?_
      refine i_rcell2 rfl rfl rfl rfl rfl (by decide) rfl rfl rfl ?_ ?_
      all_goals skip
      all_goals (rw [rv_2 hc1 hc2]; first | exact ret_sub rfl rfl zero_bokN | exact ret_refl rfl rfl)
    ·
      refine t_seq ?_
      refine t_region ?_
      refine r_bin rfl rfl rfl ?_
      refine asB rfl ?_
      refine r_nil ?_
      refine i_then ?_
      refine t_cond_dec rfl (fun hc3 => ?_) (fun hc3 => ?_)
      ·
        refine t_seq ?_
        refine t_region ?_
        refine r_load_ptrN rfl rfl (by decide) rfl rfl (by exact Nat.le_of_ble_eq_true rfl) ?_
        refine r_storeN rfl rfl (by decide) rfl rfl rfl rfl rfl rfl ?_
        refine asI rfl ?_
        refine r_nil ?_
        refine i_then ?_
        refine t_ret ?_
        refine i_block_ret ?_
        refine i_then_ret ?_
        refine i_rcell2 rfl rfl rfl rfl rfl (by decide) rfl rfl rfl ?_ ?_
        all_goals skip
        all_goals (rw [rv_3 hc1 hc2 hc3]; exact ret_refl rfl rfl)
      ·
        refine t_skip ?_
        refine i_block ?_
        refine i_then ?_
        refine t_seq ?_
        refine t_region ?_
        refine r_build rfl rfl (by exact List.cons_ne_nil _ _) rfl (by repeat (exact (Parts.nil : Parts _ _ [] _))) (by exact (rfl : _ = some [_, _, _])) ?_
        refine r_storeN rfl rfl (by decide) rfl rfl rfl rfl rfl rfl ?_
        refine asI rfl ?_
        refine r_nil ?_
        refine i_then ?_
        refine t_ret ?_
        refine i_rcell2 rfl rfl rfl rfl rfl (by decide) rfl rfl rfl ?_ ?_
        all_goals skip
        all_goals (rw [rv_4 hc1 hc2 hc3]; first | exact ret_sub rfl rfl zero_bokN | exact ret_refl rfl rfl)
end Go.Proofs.YtjjndkenddigiaaGreatDoor

namespace Go.Proofs.YtjjndkenddigiaaGreatDoor
open Go Go.T Go.RowKit
def bTwo : Book := ⟨⟨[3, 2], 2⟩, [⟨[12, 5], false⟩, ⟨[100, 40], false⟩, ⟨[7, 0], true⟩]⟩
def tTwo : Byt := [32, 32, 49, 50, 124, 32, 53, 124, 107, 10, 32, 49, 48, 48, 124, 52, 48, 124, 114, 10, 61, 32, 32, 49, 49, 50, 124, 32, 32, 52, 53, 124, 10, 43, 32, 32, 49, 49, 50, 124, 32, 32, 52, 53, 124, 10, 45, 32, 32, 55, 124, 32, 48, 124, 106, 10, 61, 32, 32, 49, 49, 50, 124, 32, 32, 52, 53, 124, 10]
def tTwo1 : Byt := tTwo.take 8 ++ [106] ++ tTwo.drop 9
def tTwo2 : Byt := tTwo.take 34
def tTwo3 : Byt := [32, 32, 63, 50, 124, 32, 53, 124, 63, 10, 32, 49, 48, 48, 124, 52, 48, 124, 114, 10, 61, 32, 32, 49, 49, 50, 124, 32, 32, 52, 53, 124, 10, 43, 32, 32, 49, 49, 50, 124, 32, 32, 52, 53, 124, 10, 45, 32, 32, 55, 124, 32, 48, 124, 106, 10, 61, 32, 32, 49, 49, 50, 124, 32, 32, 52, 53, 124, 10]
def fOne : BForm := ⟨[1], 1⟩
def tOne : Byt := [32, 63, 124, 63, 10, 61, 32, 32, 63, 124, 10]
def lOne : List Byt := [[32, 48, 124, 97, 10, 61, 32, 32, 48, 124, 10], [32, 49, 124, 98, 10, 61, 32, 32, 49, 124, 10]]
theorem aw1 : printV bTwo = tTwo := by kernel_rfl
theorem aw1' : bokY bTwo = 0 := by kernel_rfl
theorem aw2 : parV bTwo.form tTwo1 = (Book.zero, 8, 11) := by kernel_rfl
theorem aw3 : parV bTwo.form tTwo2 = (Book.zero, 34, 11) := by kernel_rfl
theorem aw4 : tearV tTwo [2, 8] = (tTwo3, 0) := by kernel_rfl
theorem aw5 : allF bTwo.form tTwo3 = [(tTwo, (runR bTwo.form Rdr.new tTwo).2)] := by kernel_rfl
theorem aw5' : (runR bTwo.form Rdr.new tTwo).2.read = bTwo.rows := by kernel_rfl
theorem aw6 : (allF fOne tOne).length = 10 := by kernel_rfl
theorem aw7 : ((allF fOne tOne).take 2).map Prod.fst = lOne := by kernel_rfl
theorem aw8 : footV bTwo = [[112, 45], [112, 45]] := by kernel_rfl
end Go.Proofs.YtjjndkenddigiaaGreatDoor

namespace Go.Proofs.YtjjndkenddigiaaGreatDoor
open Go Go.T
set_option maxHeartbeats 4000000
theorem pubTy_row_eq {A : As} {α : Type} {E : El α} {T tg : Nat} {xs ys : List α} (h : xs = ys) : PubTy A tg (Ty.row E T tg xs) (Ty.sl E ys) := by subst h; exact pubTy_row
theorem row_eqB (a b : BRow) : ((a.struck == b.struck) && decide (a.nums = b.nums)) = decide (a = b) := by
  cases a; cases b; rw [Bool.eq_iff_iff]; simp [and_comm]
theorem sameB_eq (a b : Book) : ((decide (a.form.widths = b.form.widths) && decide (a.form.lines = b.form.lines)) && decide (a.rows = b.rows)) = decide (a = b) := by
  obtain ⟨⟨aw, al⟩, ar⟩ := a
  obtain ⟨⟨bw, bl⟩, br⟩ := b
  rw [Bool.eq_iff_iff]; simp [and_assoc]
theorem aw_res : resV bTwo.form tTwo3 = (bTwo, 0) := by
  have e1 : tornE bTwo.form tTwo3 = 0 := by kernel_rfl
  unfold resV resB
  rw [aw5, e1]
  have := aw5'
  rw [if_neg (by decide), if_neg (by decide), if_pos (by decide), if_neg (by decide)]
  show ((⟨bTwo.form, (runR bTwo.form Rdr.new tTwo).2.read⟩ : Book), (0 : Int)) = _
  rw [this]
theorem aw_cnt : cntV fOne tOne = (10, 0) := by
  have e1 : tornE fOne tOne = 0 := by kernel_rfl
  unfold cntV; rw [aw6, e1]; rfl
theorem aw_fil : filV fOne tOne = (lOne, 0) := by
  have e1 : tornE fOne tOne = 0 := by kernel_rfl
  unfold filV filL; rw [aw7, e1]; rfl
attribute [local irreducible] printV parV tearV cntV filV resV footV bokY
attribute [local irreducible] dInt dBool dSl dPp dPtr dAgg dTup dClo dAny dEx dStr dGd dCells dVec dVs dRow dOp nth Tri Into TOps Ctr bodyPost Exit.then Exit.inBlock Code.wp Code.wpIn dWhen dPa dArr dMp dMap CtrG keepPost iterPost bodyPostM roundQ
set_option maxRecDepth 100000 in
theorem c_same1 (a b : BRow) : Ctr Tryz.prog 77 [rowT a, rowT b] (Ty.bool (decide (a = b))) := by
  refine fn_intro Tryz.func77 rfl (by decide) Tryz.ntmps77 (by exact Nat.le_of_ble_eq_true rfl) fun w0 M0 => ?_
  refine t_seq ?_
  refine t_region ?_
  refine r_box_agg rfl ?_
  refine r_box_agg rfl ?_
  refine asB rfl ?_
  refine r_nil ?_
  refine i_then ?_
  refine t_seq ?_
  refine t_region ?_
  refine r_field_pp rfl rfl rfl rfl rfl (by decide) ?_
  refine r_load_pp rfl rfl rfl rfl ?_
  refine r_field_pp rfl rfl rfl rfl rfl (by decide) ?_
  refine r_load_pp rfl rfl rfl rfl ?_
  refine r_eql_B und4 rfl rfl ?_
  refine mvB rfl ?_
  apply r_guard (s := 10) rfl rfl rfl
  · intro hg; apply opT_of; (refine r_field_pp rfl rfl rfl rfl rfl (by decide) ?_); refine r_nil ?_; exact rfl
  · exact rfl
  · exact rfl
  apply r_guard (s := 10) rfl rfl rfl
  · intro hg; apply opT_strip (s := 11) rfl (by (rw [hg]; rfl)); apply opT_of; (refine r_load_pp rfl rfl rfl rfl ?_); refine r_nil ?_; exact rfl
  · exact rfl
  · exact rfl
  apply r_guard (s := 10) rfl rfl rfl
  · intro hg; apply opT_of; (refine r_field_pp rfl rfl rfl rfl rfl (by decide) ?_); refine r_nil ?_; exact rfl
  · exact rfl
  · exact rfl
  apply r_guard (s := 10) rfl rfl rfl
  · intro hg; apply opT_strip (s := 13) rfl (by (rw [hg]; rfl)); apply opT_of; (refine r_load_pp rfl rfl rfl rfl ?_); refine r_nil ?_; exact rfl
  · exact rfl
  · exact rfl
  apply r_guard (s := 10) rfl rfl rfl
  · intro hg; apply opT_strip (s := 12) rfl (by (rw [hg]; rfl)); apply opT_strip (s := 14) rfl (by (rw [hg]; rfl)); apply opT_of; (refine r_call (c_Eq_int _ _) rfl rfl rfl rfl rfl ?_); refine r_nil ?_; exact rfl
  · exact rfl
  · exact rfl
  refine r_and rfl rfl ?_
  refine asB rfl ?_
  refine r_nil ?_
  refine i_then ?_
  refine t_ret ?_
  refine i_rp1 rfl rfl ?_
  all_goals skip
  exact ret_eq rfl rfl (congrArg Ty.bool (row_eqB a b))
set_option maxRecDepth 100000 in
theorem c_EqualFunc (a b : List BRow) : Ctr Tryz.prog 76 [Ty.sl BRowE a, Ty.sl BRowE b, Ty.clo 77 []] (Ty.bool (decide (a = b))) := by
  refine fn_intro Tryz.func76 rfl (by decide) Tryz.ntmps76 (by exact Nat.le_of_ble_eq_true rfl) fun w0 M0 => ?_
  refine t_fact (s := 0) rfl rfl sl_len fun ha => ?_
  refine t_fact (s := 1) rfl rfl sl_len fun hb => ?_
  refine t_seq ?_
  refine t_region ?_
  refine asB rfl ?_
  refine r_nil ?_
  refine i_then ?_
  refine t_seq ?_
  refine t_seq ?_
  refine t_region ?_
  refine mvS rfl ?_
  refine r_len rfl rfl rfl ?_
  refine mvS rfl ?_
  refine r_len rfl rfl rfl ?_
  refine r_bin rfl rfl rfl ?_
  refine r_nil ?_
  refine i_then ?_
  refine t_cond_ndec rfl (fun hc1 => ?_) (fun hc1 => ?_)
  ·
    try (simp only [Classical.not_not] at hc1)
    refine t_seq ?_
    refine t_region ?_
    refine asB rfl ?_
    refine r_nil ?_
    refine i_then ?_
    refine t_ret ?_
    refine i_then_ret ?_
    refine i_rp1 rfl rfl ?_
    all_goals skip
    exact ret_eq rfl rfl (congrArg Ty.bool (by rw [eq_comm, decide_eq_false_iff_not]; intro e; subst e; exact hc1 rfl))
  ·
    try (simp only [Classical.not_not] at hc1)
    refine t_skip ?_
    refine i_then ?_
    refine t_seq ?_
    refine t_seq ?_
    refine t_region ?_
    refine mvS rfl ?_
    refine r_len rfl rfl rfl ?_
    refine mvI rfl ?_
    refine r_nil ?_
    refine i_then ?_
    refine t_block ?_
    refine t_loop (fun (k : {k : Nat // a.take k = b.take k}) => live [(1, Ty.sl BRowE b), (2, Ty.clo 77 []), (15, Ty.sl BRowE a), (16, Ty.int .i64 a.length), (17, Ty.int .i64 (k.1 : Nat))] []) (fun k => a.length - k.1) (⟨0, by simp⟩) ?_ fun k => ?_
    · (refine Ent.mk' ?_ ?_ <;> (repeat' (first | exact allSub_zero | exact allTags_nil | refine allSub_succ' ?_ (Ty.sub_any _) | refine allSub_succ' ?_ (Ty.sub_refl _))))
    ·
      have hlen : a.length = b.length := by omega
      refine t_seq ?_
      refine t_region ?_
      refine r_bin rfl rfl rfl ?_
      refine r_nil ?_
      refine i_then ?_
      refine t_seq ?_
      refine t_cond_dec rfl (fun hc2 => ?_) (fun hc2 => ?_)
      ·
        try (simp only [Classical.not_not] at hc2)
        refine t_skip ?_
        refine i_then ?_
        refine t_seq ?_
        refine t_block ?_
        refine t_seq ?_
        refine t_region ?_
        refine mvI rfl ?_
        refine r_index_slN rfl rfl rfl rfl rfl rfl (by omega) ?_
        refine r_load_ppN rfl rfl rfl (by exact Nat.le_of_ble_eq_true rfl) ?_
        refine r_alloc rfl (by exact List.cons_ne_nil _ _) rfl ?_
        refine asI rfl ?_
        refine r_storeN rfl rfl (by decide) rfl rfl rfl rfl rfl rfl ?_
        refine r_nil ?_
        refine i_then ?_
        refine t_seq ?_
        refine t_region ?_
        refine mvS rfl ?_
        refine mvI rfl ?_
        refine r_index_slN rfl rfl rfl rfl rfl rfl (by omega) ?_
        refine r_load_ppN rfl rfl rfl (by exact Nat.le_of_ble_eq_true rfl) ?_
        refine r_alloc rfl (by exact List.cons_ne_nil _ _) rfl ?_
        refine r_storeN rfl rfl (by decide) rfl rfl rfl rfl rfl rfl ?_
        refine r_nil ?_
        refine i_then ?_
        refine t_seq ?_
        refine t_region ?_
        refine mvF rfl ?_
        refine r_load_ptrN rfl rfl (by decide) rfl rfl (by exact Nat.le_of_ble_eq_true rfl) ?_
        refine r_load_ptrN rfl rfl (by decide) rfl rfl (by exact Nat.le_of_ble_eq_true rfl) ?_
        refine r_callv rfl (c_same1 (nth a k.1) (nth b k.1)) rfl rfl rfl rfl rfl ?_
        refine r_not rfl ?_
        refine r_nil ?_
        refine i_then ?_
        refine t_cond_ndec rfl (fun hc3 => ?_) (fun hc3 => ?_)
        ·
          try (simp only [Classical.not_not] at hc3)
          refine t_seq ?_
          refine t_region ?_
          refine asB rfl ?_
          refine r_nil ?_
          refine i_then ?_
          refine t_ret ?_
          refine i_block_ret ?_
          refine i_then_ret ?_
          refine i_then_ret ?_
          refine i_block_ret ?_
          refine i_then_ret ?_
          refine i_rp1 rfl rfl ?_
          all_goals skip
          exact ret_eq rfl rfl (congrArg Ty.bool (by rw [eq_comm, decide_eq_false_iff_not]; exact ne_of_nth (k := k.1) (hc3)))
        ·
          try (simp only [Classical.not_not] at hc3)
          refine t_skip ?_
          refine i_block ?_
          refine i_then ?_
          refine t_region ?_
          refine r_add rfl rfl (by omega) (by omega) ?_
          refine mvI rfl ?_
          refine r_nil ?_
          refine i_round (⟨k.1 + 1, by rw [take_nth (by omega), take_nth (by omega), k.2, hc3]⟩) ?_ (by show a.length - (k.1 + 1) < a.length - k.1; omega)
          (refine Ent.mk' ?_ ?_ <;> (repeat' (first | exact allSub_zero | exact allTags_nil | refine allSub_succ' ?_ (Ty.sub_any _) | refine allSub_succ' ?_ (Ty.sub_refl _))))
          all_goals skip
      ·
        try (simp only [Classical.not_not] at hc2)
        refine t_exit ?_
        refine i_then_exit ?_
        refine i_then_exit ?_
        refine i_block_exit rfl ?_
        refine i_then ?_
        refine t_seq ?_
        refine t_region ?_
        refine asB rfl ?_
        refine r_nil ?_
        refine i_then ?_
        refine t_ret ?_
        refine i_rp1 rfl rfl ?_
        all_goals skip
        exact ret_eq rfl rfl (congrArg Ty.bool (by rw [eq_comm, decide_eq_true_eq]; have := k.2; rwa [List.take_of_length_le (by omega), List.take_of_length_le (by omega)] at this))
set_option maxRecDepth 100000 in
theorem c_same (a b : Book) : Ctr Tryz.prog 19 [bokT a, bokT b] (Ty.bool (decide (a = b))) := by
  refine fn_intro Tryz.func19 rfl (by decide) Tryz.ntmps19 (by exact Nat.le_of_ble_eq_true rfl) fun w0 M0 => ?_
  refine t_seq ?_
  refine t_region ?_
  refine r_box_agg rfl ?_
  refine r_box_agg rfl ?_
  refine asB rfl ?_
  refine r_nil ?_
  refine i_then ?_
  refine t_seq ?_
  refine t_region ?_
  refine r_field_pp rfl rfl rfl rfl rfl (by decide) ?_
  refine r_field_pp rfl rfl rfl rfl rfl (by decide) ?_
  refine r_load_pp rfl rfl rfl rfl ?_
  refine r_field_pp rfl rfl rfl rfl rfl (by decide) ?_
  refine r_field_pp rfl rfl rfl rfl rfl (by decide) ?_
  refine r_load_pp rfl rfl rfl rfl ?_
  refine r_call (c_Eq_int _ _) rfl rfl rfl rfl rfl ?_
  refine mvB rfl ?_
  apply r_guard (s := 12) rfl rfl rfl
  · intro hg; apply opT_of; (refine r_field_pp rfl rfl rfl rfl rfl (by decide) ?_); refine r_nil ?_; exact rfl
  · exact rfl
  · exact rfl
  apply r_guard (s := 12) rfl rfl rfl
  · intro hg; apply opT_strip (s := 13) rfl (by (rw [hg]; rfl)); apply opT_of; (refine r_field_pp rfl rfl rfl rfl rfl (by decide) ?_); refine r_nil ?_; exact rfl
  · exact rfl
  · exact rfl
  apply r_guard (s := 12) rfl rfl rfl
  · intro hg; apply opT_strip (s := 14) rfl (by (rw [hg]; rfl)); apply opT_of; (refine r_load_pp rfl rfl rfl rfl ?_); refine r_nil ?_; exact rfl
  · exact rfl
  · exact rfl
  apply r_guard (s := 12) rfl rfl rfl
  · intro hg; apply opT_of; (refine r_field_pp rfl rfl rfl rfl rfl (by decide) ?_); refine r_nil ?_; exact rfl
  · exact rfl
  · exact rfl
  apply r_guard (s := 12) rfl rfl rfl
  · intro hg; apply opT_strip (s := 16) rfl (by (rw [hg]; rfl)); apply opT_of; (refine r_field_pp rfl rfl rfl rfl rfl (by decide) ?_); refine r_nil ?_; exact rfl
  · exact rfl
  · exact rfl
  apply r_guard (s := 12) rfl rfl rfl
  · intro hg; apply opT_strip (s := 17) rfl (by (rw [hg]; rfl)); apply opT_of; (refine r_load_pp rfl rfl rfl rfl ?_); refine r_nil ?_; exact rfl
  · exact rfl
  · exact rfl
  apply r_guard (s := 12) rfl rfl rfl
  · intro hg; apply opT_strip (s := 15) rfl (by (rw [hg]; rfl)); apply opT_strip (s := 18) rfl (by (rw [hg]; rfl)); apply opT_of; (refine r_bin rfl rfl rfl ?_); refine r_nil ?_; exact rfl
  · exact rfl
  · exact rfl
  refine r_and rfl rfl ?_
  refine mvB rfl ?_
  apply r_guard (s := 21) rfl rfl rfl
  · intro hg; apply opT_of; (refine r_field_pp rfl rfl rfl rfl rfl (by decide) ?_); refine r_nil ?_; exact rfl
  · exact rfl
  · exact rfl
  apply r_guard (s := 21) rfl rfl rfl
  · intro hg; apply opT_strip (s := 22) rfl (by (rw [hg]; rfl)); apply opT_of; (refine r_load_pp rfl rfl rfl rfl ?_); refine r_nil ?_; exact rfl
  · exact rfl
  · exact rfl
  apply r_guard (s := 21) rfl rfl rfl
  · intro hg; apply opT_of; (refine r_field_pp rfl rfl rfl rfl rfl (by decide) ?_); refine r_nil ?_; exact rfl
  · exact rfl
  · exact rfl
  apply r_guard (s := 21) rfl rfl rfl
  · intro hg; apply opT_strip (s := 24) rfl (by (rw [hg]; rfl)); apply opT_of; (refine r_load_pp rfl rfl rfl rfl ?_); refine r_nil ?_; exact rfl
  · exact rfl
  · exact rfl
  apply r_guard (s := 21) rfl rfl rfl
  · intro hg; apply opT_strip (s := 23) rfl (by (rw [hg]; rfl)); apply opT_strip (s := 25) rfl (by (rw [hg]; rfl)); apply opT_of; (refine r_call (c_EqualFunc a.rows b.rows) rfl rfl rfl rfl rfl ?_); refine r_nil ?_; exact rfl
  · exact rfl
  · exact rfl
  refine r_and rfl rfl ?_
  refine asB rfl ?_
  refine r_nil ?_
  refine i_then ?_
  refine t_ret ?_
  refine i_rp1 rfl rfl ?_
  all_goals skip
  all_goals exact ret_eq rfl rfl (congrArg Ty.bool (sameB_eq a b))
set_option maxRecDepth 100000 in
theorem c_Two : Ctr Tryz.prog 50 [] (Ty.tup [bokT bTwo, Ty.str (bs tTwo)]) := by
  refine fn_intro Tryz.func50 rfl (by decide) Tryz.ntmps50 (by exact Nat.le_of_ble_eq_true rfl) fun w0 M0 => ?_
  refine t_seq ?_
  refine t_region ?_
  refine r_alloc rfl (by exact List.cons_ne_nil _ _) rfl ?_
  refine asS' rfl ?_
  refine r_nil ?_
  refine i_then ?_
  refine t_seq ?_
  refine t_region ?_
  refine r_buildSlice (E := I64) (xs := [_, _]) rfl rfl rfl rfl rfl (by decide) (by decide) (by repeat (first | exact (Parts.nil : Parts _ _ [] _) | (show Parts _ _ ((_, _) :: _) _; apply Parts.one; (· exact (rfl : _ = Ty.int _ _)); (· exact rfl)))) (by exact rfl) rfl ?_
  refine r_build rfl rfl (by exact List.cons_ne_nil _ _) rfl (by repeat (first | exact (Parts.nil : Parts _ _ [] _) | (show Parts _ _ ((_, _) :: _) _; apply Parts.one; (· first | exact (rfl : _ = Ty.int _ _) | exact (rfl : _ = Ty.sl _ _)); (· exact rfl)))) (by exact (rfl : _ = some [_, _])) ?_
  refine r_buildSlice (E := I64) (xs := [_, _]) rfl rfl rfl rfl rfl (by decide) (by decide) (by repeat (first | exact (Parts.nil : Parts _ _ [] _) | (show Parts _ _ ((_, _) :: _) _; apply Parts.one; (· exact (rfl : _ = Ty.int _ _)); (· exact rfl)))) (by exact rfl) rfl ?_
  refine r_build rfl rfl (by exact List.cons_ne_nil _ _) rfl (by repeat (first | exact (Parts.nil : Parts _ _ [] _) | (show Parts _ _ ((_, _) :: _) _; apply Parts.one; (· exact (rfl : _ = Ty.sl _ _)); (· exact rfl)))) (by exact (rfl : _ = some [_, _])) ?_
  refine r_buildSlice (E := I64) (xs := [_, _]) rfl rfl rfl rfl rfl (by decide) (by decide) (by repeat (first | exact (Parts.nil : Parts _ _ [] _) | (show Parts _ _ ((_, _) :: _) _; apply Parts.one; (· exact (rfl : _ = Ty.int _ _)); (· exact rfl)))) (by exact rfl) rfl ?_
  refine r_build rfl rfl (by exact List.cons_ne_nil _ _) rfl (by repeat (first | exact (Parts.nil : Parts _ _ [] _) | (show Parts _ _ ((_, _) :: _) _; apply Parts.one; (· exact (rfl : _ = Ty.sl _ _)); (· exact rfl)))) (by exact (rfl : _ = some [_, _])) ?_
  refine r_buildSlice (E := I64) (xs := [_, _]) rfl rfl rfl rfl rfl (by decide) (by decide) (by repeat (first | exact (Parts.nil : Parts _ _ [] _) | (show Parts _ _ ((_, _) :: _) _; apply Parts.one; (· exact (rfl : _ = Ty.int _ _)); (· exact rfl)))) (by exact rfl) rfl ?_
  refine r_build rfl rfl (by exact List.cons_ne_nil _ _) rfl (by repeat (first | exact (Parts.nil : Parts _ _ [] _) | (show Parts _ _ ((_, _) :: _) _; apply Parts.one; (· first | exact (rfl : _ = Ty.sl _ _) | exact (rfl : _ = Ty.bool _)); (· exact rfl)))) (by exact (rfl : _ = some [_, _])) ?_
  refine r_buildSlice (E := BRowE) (xs := bTwo.rows) rfl rfl rfl rfl rfl (by decide) (by decide) (by repeat (first | exact (Parts.nil : Parts _ _ [] _) | (show Parts _ _ ((_, _) :: _) _; apply Parts.agg; (· exact (rfl : _ = Ty.agg _))))) (by exact rfl) rfl ?_
  refine r_build rfl rfl (by exact List.cons_ne_nil _ _) rfl (by repeat (first | exact (Parts.nil : Parts _ _ [] _) | (show Parts _ _ ((_, _) :: _) _; apply Parts.one; (· exact (rfl : _ = Ty.sl _ _)); (· exact rfl)) | (show Parts _ _ ((_, _) :: _) _; apply Parts.agg; (· exact (rfl : _ = Ty.agg _))))) (by exact (rfl : _ = some [_, _, _])) ?_
  refine r_storeN rfl rfl (by decide) rfl rfl rfl rfl rfl rfl ?_
  refine asS' rfl ?_
  refine r_nil ?_
  refine i_then ?_
  refine t_ret ?_
  refine i_rcell2 rfl rfl rfl rfl rfl (by decide) rfl rfl rfl ?_ ?_
  all_goals exact ret_refl rfl rfl
  all_goals trace_state
theorem two_rng : ∀ r ∈ bTwo.rows, Rng r.nums := by unfold Rng; decide
theorem c_aw1 : Ctr Tryz.prog 16 [bokT bTwo] (Ty.tup [Ty.str (bs tTwo), Ty.int .i64 0]) := by
  have h := c_Print bTwo two_rng
  rwa [aw1, aw1'] at h
theorem c_aw2 : Ctr Tryz.prog 63 [frmT bTwo.form, Ty.str (bs tTwo1)] (Ty.tup [bokT Book.zero, Ty.int .i64 8, Ty.int .i64 11]) := by
  have h := c_Parse bTwo.form tTwo1 (by decide)
  unfold parT at h
  rwa [aw2] at h
theorem c_aw3 : Ctr Tryz.prog 63 [frmT bTwo.form, Ty.str (bs tTwo2)] (Ty.tup [bokT Book.zero, Ty.int .i64 34, Ty.int .i64 11]) := by
  have h := c_Parse bTwo.form tTwo2 (by decide)
  unfold parT at h
  rwa [aw3] at h
theorem c_aw4 : Ctr Tryz.prog 64 [Ty.str (bs tTwo), Ty.sl I64 [2, 8]] (Ty.tup [Ty.str (bs tTwo3), Ty.int .i64 0]) := by
  have h := c_Tear tTwo [2, 8] (by decide)
  rwa [aw4] at h
theorem c_aw5 : Ctr Tryz.prog 29 [frmT bTwo.form, Ty.str (bs tTwo3)] (Ty.tup [bokT bTwo, Ty.int .i64 0]) := by
  have h := c_Restore bTwo.form tTwo3
  rwa [aw_res] at h
theorem c_aw6 : Ctr Tryz.prog 27 [frmT fOne, Ty.str (bs tOne)] (Ty.tup [Ty.int .i64 10, Ty.int .i64 0]) := by
  have h := c_Count fOne tOne
  rwa [aw_cnt] at h
theorem c_aw7 : Ctr Tryz.prog 28 [frmT fOne, Ty.str (bs tOne)] (Ty.tup [Ty.sl StrE lOne, Ty.int .i64 0]) := by
  have h := c_Fillings fOne tOne
  rwa [aw_fil] at h
theorem c_aw8 : Ctr Tryz.prog 17 [bokT bTwo] (Ty.tup [Ty.sl RowE [[112, 45], [112, 45]], Ty.int .i64 0]) := by
  have h := c_Foots bTwo two_rng
  rwa [aw8, aw1'] at h
set_option maxRecDepth 100000 in
theorem c_awake : Ctr Tryz.prog 10 [] (Ty.bool true) := by
  refine fn_intro Tryz.func10 rfl (by decide) Tryz.ntmps10 (by exact Nat.le_of_ble_eq_true rfl) fun w0 M0 => ?_
  refine t_seq ?_
  refine t_region ?_
  refine asB rfl ?_
  refine r_nil ?_
  refine i_then ?_
  refine t_seq ?_
  refine t_region ?_
  refine r_call (c_Two) rfl rfl rfl rfl rfl ?_
  refine mvT rfl ?_
  refine r_extract rfl rfl ?_
  refine r_extract rfl rfl ?_
  refine r_alloc rfl (by exact List.cons_ne_nil _ _) rfl ?_
  refine r_storeN rfl rfl (by decide) rfl rfl rfl rfl rfl rfl ?_
  refine asS' rfl ?_
  refine r_nil ?_
  refine i_then ?_
  refine t_seq ?_
  refine t_pub (tg := 2) [(1, Ty.pp (bokTys bTwo))] (by decide) rfl ⟨pub_ptr (T := 27) (tg := 2) (off := 0) (l := bokTys bTwo) rfl rfl rfl (by decide), trivial⟩ ?_
  refine t_region ?_
  refine r_load_ppN rfl rfl rfl (by exact Nat.le_of_ble_eq_true rfl) ?_
  refine r_call c_aw1 rfl rfl rfl rfl rfl ?_
  refine mvT rfl ?_
  refine r_extract rfl rfl ?_
  refine r_extract rfl rfl ?_
  refine asS' rfl ?_
  refine asI rfl ?_
  refine r_nil ?_
  refine i_then ?_
  refine t_seq ?_
  refine t_forget (B := live [(1, Ty.pp (bokTys bTwo)), (2, Ty.str (bs tTwo)), (3, Ty.str (bs tTwo)), (4, Ty.int .i64 0)] []) ?_ ?_
  · (refine Ent.mk' ?_ ?_ <;> (repeat' (first | exact allSub_zero | exact allTags_nil | refine allSub_succ' ?_ (Ty.sub_any _) | refine allSub_succ' ?_ (Ty.sub_refl _))))
  refine t_draw mixed rfl ?_
  refine r_field_pp rfl rfl rfl rfl rfl (by decide) ?_
  refine r_load_ppN rfl rfl rfl (by exact Nat.le_of_ble_eq_true rfl) ?_
  refine mvS' rfl ?_
  refine r_cutS_hi (hi := 8) rfl rfl rfl rfl (by decide) ?_
  refine r_catS rfl rfl (by decide) ?_
  refine mvS' rfl ?_
  refine r_cutS_lo (lo := 9) rfl rfl rfl rfl (by decide) ?_
  refine r_catS rfl rfl (by decide) ?_
  refine r_call c_aw2 rfl rfl rfl rfl rfl ?_
  refine mvT rfl ?_
  refine r_extract rfl rfl ?_
  refine r_extract rfl rfl ?_
  refine r_extract rfl rfl ?_
  refine r_alloc rfl (by exact List.cons_ne_nil _ _) rfl ?_
  refine r_storeN rfl rfl (by decide) rfl rfl rfl rfl rfl rfl ?_
  refine asI rfl ?_
  refine asI rfl ?_
  refine r_nil ?_
  refine ⟨by kernel_rfl, ?_⟩
  refine i_then ?_
  refine t_seq ?_
  refine t_forget (B := live [(1, Ty.pp (bokTys bTwo)), (2, Ty.str (bs tTwo)), (3, Ty.str (bs tTwo)), (4, Ty.int .i64 0), (6, Ty.int .i64 8), (7, Ty.int .i64 11)] []) ?_ ?_
  · (refine Ent.mk' ?_ ?_ <;> (repeat' (first | exact allSub_zero | exact allTags_nil | refine allSub_succ' ?_ (Ty.sub_any _) | refine allSub_succ' ?_ (Ty.sub_refl _))))
  refine t_draw mixed rfl ?_
  refine r_field_pp rfl rfl rfl rfl rfl (by decide) ?_
  refine r_load_ppN rfl rfl rfl (by exact Nat.le_of_ble_eq_true rfl) ?_
  refine mvS' rfl ?_
  refine r_cutS_hi (hi := 34) rfl rfl rfl rfl (by decide) ?_
  refine r_call c_aw3 rfl rfl rfl rfl rfl ?_
  refine mvT rfl ?_
  refine r_extract rfl rfl ?_
  refine r_extract rfl rfl ?_
  refine r_extract rfl rfl ?_
  refine r_alloc rfl (by exact List.cons_ne_nil _ _) rfl ?_
  refine r_storeN rfl rfl (by decide) rfl rfl rfl rfl rfl rfl ?_
  refine asI rfl ?_
  refine asI rfl ?_
  refine r_nil ?_
  refine ⟨by kernel_rfl, ?_⟩
  refine i_then ?_
  refine t_seq ?_
  refine t_forget (B := live [(1, Ty.pp (bokTys bTwo)), (2, Ty.str (bs tTwo)), (3, Ty.str (bs tTwo)), (4, Ty.int .i64 0), (6, Ty.int .i64 8), (7, Ty.int .i64 11), (9, Ty.int .i64 34), (10, Ty.int .i64 11)] []) ?_ ?_
  · (refine Ent.mk' ?_ ?_ <;> (repeat' (first | exact allSub_zero | exact allTags_nil | refine allSub_succ' ?_ (Ty.sub_any _) | refine allSub_succ' ?_ (Ty.sub_refl _))))
  refine t_region ?_
  refine mvS' rfl ?_
  refine r_buildSlice (E := I64) (xs := [_, _]) rfl rfl rfl rfl rfl (by decide) (by decide) (by repeat (first | exact (Parts.nil : Parts _ _ [] _) | (show Parts _ _ ((_, _) :: _) _; apply Parts.one; (· exact (rfl : _ = Ty.int _ _)); (· exact rfl)))) (by exact rfl) rfl ?_
  refine r_call c_aw4 rfl rfl rfl rfl rfl ?_
  refine mvT rfl ?_
  refine r_extract rfl rfl ?_
  refine r_extract rfl rfl ?_
  refine asS' rfl ?_
  refine asI rfl ?_
  refine r_nil ?_
  refine i_then ?_
  refine t_seq ?_
  refine t_region ?_
  refine r_field_pp rfl rfl rfl rfl rfl (by decide) ?_
  refine r_load_ppN rfl rfl rfl (by exact Nat.le_of_ble_eq_true rfl) ?_
  refine mvS' rfl ?_
  refine r_call c_aw5 rfl rfl rfl rfl rfl ?_
  refine mvT rfl ?_
  refine r_extract rfl rfl ?_
  refine r_extract rfl rfl ?_
  refine r_alloc rfl (by exact List.cons_ne_nil _ _) rfl ?_
  refine r_storeN rfl rfl (by decide) rfl rfl rfl rfl rfl rfl ?_
  refine asI rfl ?_
  refine r_nil ?_
  refine i_then ?_
  refine t_seq ?_
  refine t_forget (B := live [(1, Ty.pp (bokTys bTwo)), (2, Ty.str (bs tTwo)), (3, Ty.str (bs tTwo)), (4, Ty.int .i64 0), (6, Ty.int .i64 8), (7, Ty.int .i64 11), (9, Ty.int .i64 34), (10, Ty.int .i64 11), (12, Ty.int .i64 0), (13, Ty.ptr 14 0), (14, Ty.int .i64 0)] [(14, Cont.cells 27 (bokTys bTwo))]) ?_ ?_
  · (refine Ent.mk' ?_ ?_ <;> (repeat' (first | exact allSub_zero | exact allTags_nil | refine allSub_succ' ?_ (Ty.sub_any _) | refine allSub_succ' ?_ (Ty.sub_refl _) | refine allTags_cons rfl (Cont.sub_refl _) ?_)))
  refine t_pub (tg := 14) [(13, Ty.pp (bokTys bTwo))] (by decide) rfl ⟨pub_ptr (T := 27) (tg := 14) (off := 0) (l := bokTys bTwo) rfl rfl rfl (by decide), trivial⟩ ?_
  refine t_region ?_
  refine r_buildSlice (E := I64) (xs := [_]) rfl rfl rfl rfl rfl (by decide) (by decide) (by repeat (first | exact (Parts.nil : Parts _ _ [] _) | (show Parts _ _ ((_, _) :: _) _; apply Parts.one; (· exact (rfl : _ = Ty.int _ _)); (· exact rfl)))) (by exact rfl) rfl ?_
  refine r_build rfl rfl (by exact List.cons_ne_nil _ _) rfl (by repeat (first | exact (Parts.nil : Parts _ _ [] _) | (show Parts _ _ ((_, _) :: _) _; apply Parts.one; (· first | exact (rfl : _ = Ty.int _ _) | exact (rfl : _ = Ty.sl _ _)); (· exact rfl)))) (by exact (rfl : _ = some [_, _])) ?_
  refine r_alloc rfl (by exact List.cons_ne_nil _ _) rfl ?_
  refine r_storeN rfl rfl (by decide) rfl rfl rfl rfl rfl rfl ?_
  refine r_nil ?_
  refine i_then ?_
  refine t_seq ?_
  refine t_region ?_
  refine r_load_ptrN rfl rfl (by decide) rfl rfl (by exact Nat.le_of_ble_eq_true rfl) ?_
  refine r_call c_aw6 rfl rfl rfl rfl rfl ?_
  refine mvT rfl ?_
  refine r_extract rfl rfl ?_
  refine r_extract rfl rfl ?_
  refine asI rfl ?_
  refine asI rfl ?_
  refine r_nil ?_
  refine i_then ?_
  refine t_seq ?_
  refine t_region ?_
  refine r_load_ptrN rfl rfl (by decide) rfl rfl (by exact Nat.le_of_ble_eq_true rfl) ?_
  refine r_call c_aw7 rfl rfl rfl rfl rfl ?_
  refine mvT rfl ?_
  refine r_extract rfl rfl ?_
  refine r_extract rfl rfl ?_
  refine asS rfl ?_
  refine asI rfl ?_
  refine r_nil ?_
  refine i_then ?_
  refine t_seq ?_
  refine t_region ?_
  refine r_load_ppN rfl rfl rfl (by exact Nat.le_of_ble_eq_true rfl) ?_
  refine r_call c_aw8 rfl rfl rfl rfl rfl ?_
  refine mvT rfl ?_
  refine r_extract rfl rfl ?_
  refine r_extract rfl rfl ?_
  refine asS rfl ?_
  refine asI rfl ?_
  refine r_nil ?_
  refine i_then ?_
  refine t_seq ?_
  refine t_forget (B := live [(1, Ty.pp (bokTys bTwo)), (2, Ty.str (bs tTwo)), (3, Ty.str (bs tTwo)), (4, Ty.int .i64 0), (6, Ty.int .i64 8), (7, Ty.int .i64 11), (9, Ty.int .i64 34), (10, Ty.int .i64 11), (12, Ty.int .i64 0), (13, Ty.pp (bokTys bTwo)), (14, Ty.int .i64 0), (16, Ty.int .i64 10), (17, Ty.int .i64 0), (18, Ty.sl StrE lOne), (19, Ty.int .i64 0), (20, Ty.sl RowE [[112, 45], [112, 45]]), (21, Ty.int .i64 0)] []) ?_ ?_
  · (refine Ent.mk' ?_ ?_ <;> (repeat' (first | exact allSub_zero | exact allTags_nil | refine allSub_succ' ?_ (Ty.sub_any _) | refine allSub_succ' ?_ (Ty.sub_refl _))))
  refine t_region ?_
  refine mvI rfl ?_
  refine r_bin rfl rfl rfl ?_
  refine mvB rfl ?_
  apply r_guard (s := 85) rfl rfl rfl
  · intro hg; apply opT_of; (refine mvI rfl ?_); refine r_nil ?_; exact rfl
  · exact rfl
  · exact rfl
  apply r_guard (s := 85) rfl rfl rfl
  · intro hg; apply opT_strip (s := 86) rfl (by exact hg); apply opT_of; (refine r_bin rfl rfl rfl ?_); refine r_nil ?_; exact rfl
  · exact rfl
  · exact rfl
  refine r_and rfl rfl ?_
  refine mvB rfl ?_
  apply r_guard (s := 89) rfl rfl rfl
  · intro hg; apply opT_of; (refine mvI rfl ?_); refine r_nil ?_; exact rfl
  · exact rfl
  · exact rfl
  apply r_guard (s := 89) rfl rfl rfl
  · intro hg; apply opT_strip (s := 90) rfl (by exact hg); apply opT_of; (refine r_bin rfl rfl rfl ?_); refine r_nil ?_; exact rfl
  · exact rfl
  · exact rfl
  refine r_and rfl rfl ?_
  refine mvB rfl ?_
  apply r_guard (s := 93) rfl rfl rfl
  · intro hg; apply opT_of; (refine mvI rfl ?_); refine r_nil ?_; exact rfl
  · exact rfl
  · exact rfl
  apply r_guard (s := 93) rfl rfl rfl
  · intro hg; apply opT_strip (s := 94) rfl (by exact hg); apply opT_of; (refine r_bin rfl rfl rfl ?_); refine r_nil ?_; exact rfl
  · exact rfl
  · exact rfl
  refine r_and rfl rfl ?_
  refine mvB rfl ?_
  apply r_guard (s := 97) rfl rfl rfl
  · intro hg; apply opT_of; (refine mvI rfl ?_); refine r_nil ?_; exact rfl
  · exact rfl
  · exact rfl
  apply r_guard (s := 97) rfl rfl rfl
  · intro hg; apply opT_strip (s := 98) rfl (by exact hg); apply opT_of; (refine r_bin rfl rfl rfl ?_); refine r_nil ?_; exact rfl
  · exact rfl
  · exact rfl
  refine r_and rfl rfl ?_
  refine mvB rfl ?_
  apply r_guard (s := 101) rfl rfl rfl
  · intro hg; apply opT_of; (refine mvI rfl ?_); refine r_nil ?_; exact rfl
  · exact rfl
  · exact rfl
  apply r_guard (s := 101) rfl rfl rfl
  · intro hg; apply opT_strip (s := 102) rfl (by exact hg); apply opT_of; (refine r_bin rfl rfl rfl ?_); refine r_nil ?_; exact rfl
  · exact rfl
  · exact rfl
  refine r_and rfl rfl ?_
  refine mvB rfl ?_
  apply r_guard (s := 105) rfl rfl rfl
  · intro hg; apply opT_of; (refine mvI rfl ?_); refine r_nil ?_; exact rfl
  · exact rfl
  · exact rfl
  apply r_guard (s := 105) rfl rfl rfl
  · intro hg; apply opT_strip (s := 106) rfl (by exact hg); apply opT_of; (refine r_bin rfl rfl rfl ?_); refine r_nil ?_; exact rfl
  · exact rfl
  · exact rfl
  refine r_and rfl rfl ?_
  refine mvB rfl ?_
  apply r_guard (s := 109) rfl rfl rfl
  · intro hg; apply opT_of; (refine mvI rfl ?_); refine r_nil ?_; exact rfl
  · exact rfl
  · exact rfl
  apply r_guard (s := 109) rfl rfl rfl
  · intro hg; apply opT_strip (s := 110) rfl (by exact hg); apply opT_of; (refine r_bin rfl rfl rfl ?_); refine r_nil ?_; exact rfl
  · exact rfl
  · exact rfl
  refine r_and rfl rfl ?_
  refine mvB rfl ?_
  apply r_guard (s := 113) rfl rfl rfl
  · intro hg; apply opT_of; (refine mvS' rfl ?_); refine r_nil ?_; exact rfl
  · exact rfl
  · exact rfl
  apply r_guard (s := 113) rfl rfl rfl
  · intro hg; apply opT_of; (refine mvS' rfl ?_); refine r_nil ?_; exact rfl
  · exact rfl
  · exact rfl
  apply r_guard (s := 113) rfl rfl rfl
  · intro hg; apply opT_strip (s := 114) rfl (by exact hg); apply opT_strip (s := 115) rfl (by exact hg); apply opT_of; (refine r_eqlS rfl rfl ?_); refine r_nil ?_; exact rfl
  · exact rfl
  · exact rfl
  refine r_and rfl rfl ?_
  refine mvB rfl ?_
  apply r_guard (s := 118) rfl rfl rfl
  · intro hg; apply opT_of; (refine mvI rfl ?_); refine r_nil ?_; exact rfl
  · exact rfl
  · exact rfl
  apply r_guard (s := 118) rfl rfl rfl
  · intro hg; apply opT_strip (s := 119) rfl (by exact hg); apply opT_of; (refine r_bin rfl rfl rfl ?_); refine r_nil ?_; exact rfl
  · exact rfl
  · exact rfl
  refine r_and rfl rfl ?_
  refine mvB rfl ?_
  apply r_guard (s := 122) rfl rfl rfl
  · intro hg; apply opT_of; (refine mvI rfl ?_); refine r_nil ?_; exact rfl
  · exact rfl
  · exact rfl
  apply r_guard (s := 122) rfl rfl rfl
  · intro hg; apply opT_strip (s := 123) rfl (by exact hg); apply opT_of; (refine r_bin rfl rfl rfl ?_); refine r_nil ?_; exact rfl
  · exact rfl
  · exact rfl
  refine r_and rfl rfl ?_
  refine mvB rfl ?_
  apply r_guard (s := 126) rfl rfl rfl
  · intro hg; apply opT_of; (refine r_load_ppN rfl rfl rfl (by exact Nat.le_of_ble_eq_true rfl) ?_); refine r_nil ?_; exact rfl
  · exact rfl
  · exact rfl
  apply r_guard (s := 126) rfl rfl rfl
  · intro hg; apply opT_of; (refine r_load_ppN rfl rfl rfl (by exact Nat.le_of_ble_eq_true rfl) ?_); refine r_nil ?_; exact rfl
  · exact rfl
  · exact rfl
  apply r_guard (s := 126) rfl rfl rfl
  · intro hg; apply opT_strip (s := 127) rfl (by exact hg); apply opT_strip (s := 128) rfl (by exact hg); apply opT_of; (refine r_call (c_same _ _) rfl rfl rfl rfl rfl ?_); refine r_nil ?_; exact rfl
  · exact rfl
  · exact rfl
  refine r_and rfl rfl ?_
  refine mvB rfl ?_
  apply r_guard (s := 131) rfl rfl rfl
  · intro hg; apply opT_of; (refine mvI rfl ?_); refine r_nil ?_; exact rfl
  · exact rfl
  · exact rfl
  apply r_guard (s := 131) rfl rfl rfl
  · intro hg; apply opT_strip (s := 132) rfl (by exact hg); apply opT_of; (refine r_bin rfl rfl rfl ?_); refine r_nil ?_; exact rfl
  · exact rfl
  · exact rfl
  refine r_and rfl rfl ?_
  refine mvB rfl ?_
  apply r_guard (s := 135) rfl rfl rfl
  · intro hg; apply opT_of; (refine mvS rfl ?_); refine r_nil ?_; exact rfl
  · exact rfl
  · exact rfl
  apply r_guard (s := 135) rfl rfl rfl
  · intro hg; apply opT_of; (refine r_buildSlice (E := StrE) (xs := lOne) rfl rfl rfl rfl rfl (by decide) (by decide) (by repeat (first | exact (Parts.nil : Parts _ _ [] _) | (show Parts _ _ ((_, _) :: _) _; apply Parts.one; (· exact (rfl : _ = Ty.str _)); (· exact rfl)))) (by exact rfl) rfl ?_); refine r_nil ?_; exact rfl
  · exact rfl
  · exact rfl
  apply r_guard (s := 135) rfl rfl rfl
  · intro hg; apply opT_strip (s := 136) rfl (by exact hg); apply opT_strip (s := 137) rfl (by exact hg); apply opT_of; (refine r_call (c_Equal_str _ _) rfl rfl rfl rfl rfl ?_); refine r_nil ?_; exact rfl
  · exact rfl
  · exact rfl
  refine r_and rfl rfl ?_
  refine mvB rfl ?_
  apply r_guard (s := 140) rfl rfl rfl
  · intro hg; apply opT_of; (refine mvS rfl ?_); refine r_nil ?_; exact rfl
  · exact rfl
  · exact rfl
  apply r_guard (s := 140) rfl rfl rfl
  · intro hg; apply opT_of; (refine r_buildSlice (E := I64) (xs := [_, _]) rfl rfl rfl rfl rfl (by decide) (by decide) (by repeat (first | exact (Parts.nil : Parts _ _ [] _) | (show Parts _ _ ((_, _) :: _) _; apply Parts.one; (· exact (rfl : _ = Ty.int _ _)); (· exact rfl)))) (by exact rfl) rfl ?_); refine r_nil ?_; exact rfl
  · exact rfl
  · exact rfl
  apply r_guard (s := 140) rfl rfl rfl
  · intro hg; apply opT_of; (refine r_buildSlice (E := I64) (xs := [_, _]) rfl rfl rfl rfl rfl (by decide) (by decide) (by repeat (first | exact (Parts.nil : Parts _ _ [] _) | (show Parts _ _ ((_, _) :: _) _; apply Parts.one; (· exact (rfl : _ = Ty.int _ _)); (· exact rfl)))) (by exact rfl) rfl ?_); refine r_nil ?_; exact rfl
  · exact rfl
  · exact rfl
  apply r_guard (s := 140) rfl rfl rfl
  · intro hg; apply opT_strip (s := 142) rfl (by exact hg); apply opT_strip (s := 143) rfl (by exact hg); apply opT_of; (refine r_buildSlice (E := RowE) (xs := [[112, 45], [112, 45]]) rfl rfl rfl rfl rfl (by decide) (by decide) (by repeat (first | exact (Parts.nil : Parts _ _ [] _) | (show Parts _ _ ((_, _) :: _) _; apply Parts.one; (· exact (rfl : _ = Ty.sl _ _)); (· exact rfl)))) (by exact rfl) rfl ?_); refine r_nil ?_; exact rfl
  · exact rfl
  · exact rfl
  apply r_guard (s := 140) rfl rfl rfl
  · intro hg; apply opT_strip (s := 141) rfl (by exact hg); apply opT_strip (s := 144) rfl (by exact hg); apply opT_of; (refine r_call (c_EqRows _ _) rfl rfl rfl rfl rfl ?_); refine r_nil ?_; exact rfl
  · exact rfl
  · exact rfl
  refine r_and rfl rfl ?_
  refine asB rfl ?_
  refine r_nil ?_
  refine i_then ?_
  refine t_ret ?_
  refine i_rp1 rfl rfl ?_
  all_goals exact ret_refl rfl rfl
  all_goals trace_state
end Go.Proofs.YtjjndkenddigiaaGreatDoor

namespace Go.Proofs.YtjjndkenddigiaaGreatDoor
open Go Go.T
set_option maxHeartbeats 4000000
def bokFT (J : Nat) (b : Book) : Ty := Ty.agg [Ty.fam J (Ty.nw 0 I64 3 b.form.widths) rfl rfl, Ty.int .i64 b.form.lines, Ty.fam J (Ty.nw 0 (BRowV 0) 66 b.rows) rfl rfl]
theorem new_I64 (m : Nat) (x : Int) : ∀ t ∈ I64.tys x, NewTy m t := fun t ht => by rw [List.mem_singleton.1 ht]; exact newTy_int
theorem new_row (m : Nat) (r : BRow) : ∀ t ∈ (BRowV m).tys r, NewTy m t := fun t ht => by
  rcases List.mem_cons.1 (show t ∈ [Ty.nw m I64 3 r.nums, Ty.bool r.struck] from ht) with rfl | ht
  · exact newTy_nw (new_I64 m)
  · rw [List.mem_singleton.1 ht]; exact newTy_bool
theorem row_weak (m : Nat) (r : BRow) : Subs ((BRowV m).tys r) ((BRowV 0).tys r) := ⟨nw_weak (Nat.zero_le _) fun _ => subs_refl, Ty.sub_refl _, trivial⟩
theorem fam_bok (J : Nat) (b : Book) : FamOk J (fun m => bokNT m b) (bokFT J b) :=
  fam_agg (fams_cons (fam_new (t := fun m => Ty.nw m I64 3 b.form.widths) (fun m => newTy_nw (new_I64 m)) (fun m => nw_weak (Nat.zero_le _) fun _ => subs_refl)) (fams_cons fam_int (fams_cons (fam_new (t := fun m => Ty.nw m (BRowV m) 66 b.rows) (fun m => newTy_nw (new_row m)) (fun m => nw_weak (Nat.zero_le _) (row_weak m))) fams_nil)))
theorem lend_bok (L : List Nat) (J : Nat) (b : Book) (h : L.contains J = true) : Lend L (bokFT J b) (bokT b) :=
  lend_agg (lends_cons (lend_fam h (nw_sl fun _ => subs_refl)) (lends_cons (lend_pub rfl rfl) (lends_cons (lend_fam h (nw_sl (rowV_sub 0))) lends_nil)))
theorem cv_bokF {ρ : List (Nat × Nat)} {J J' : Nat} {b : Book} (h : (J, J') ∈ ρ) : Conv ρ (bokFT J b) (bokFT J' b) :=
  cv_agg (cv_cons (cv_cons (cv_cons cv_nil (cv_fam h)) (cv_pub rfl rfl)) (cv_fam h))
instance : Inhabited ({v : Value // v.oneCell' = true} × Bool) := ⟨⟨⟨.bool true, rfl⟩, true⟩⟩
attribute [local irreducible] parV runN runP prI frmY
attribute [local irreducible] dInt dBool dSl dPp dPtr dAgg dTup dClo dAny dEx dStr dGd dCells dVec dVs dRow dOp nth Tri Into TOps Ctr bodyPost Exit.then Exit.inBlock Code.wp Code.wpIn dWhen dPa dArr dMp dMap CtrG keepPost iterPost bodyPostM roundQ
attribute [local irreducible] dFit
set_option maxRecDepth 100000 in
theorem c_ours (b : Book) (hl : b.rows.length ≤ 1000) : Ctr Tryz.prog 26 [bokT b] (bokT b) := by
  refine fn_intro Tryz.func26 rfl (by decide) Tryz.ntmps26 (by exact Nat.le_of_ble_eq_true rfl) fun w0 M0 => ?_
  refine t_seq ?_
  refine t_region ?_
  refine r_box_agg rfl ?_
  refine r_alloc rfl (by exact List.cons_ne_nil _ _) rfl ?_
  refine r_nil ?_
  refine i_then ?_
  refine t_seq ?_
  refine t_region ?_
  refine r_field_pp rfl rfl rfl rfl rfl (by decide) ?_
  refine r_load_ppN rfl rfl rfl (by exact Nat.le_of_ble_eq_true rfl) ?_
  refine r_build rfl rfl (by exact List.cons_ne_nil _ _) rfl (by repeat (first | exact (Parts.nil : Parts _ _ [] _) | (show Parts _ _ ((_, _) :: _) _; apply Parts.agg; (· exact (rfl : _ = Ty.agg _))))) (by exact (rfl : _ = some [_, _, _])) ?_
  refine r_alloc rfl (by exact List.cons_ne_nil _ _) rfl ?_
  refine r_storeN rfl rfl (by decide) rfl rfl rfl rfl rfl rfl ?_
  refine r_nil ?_
  refine i_then ?_
  refine t_seq ?_
  refine t_seq ?_
  refine t_region ?_
  refine r_field_pp rfl rfl rfl rfl rfl (by decide) ?_
  refine r_load_pp rfl rfl rfl rfl ?_
  refine r_len rfl rfl rfl ?_
  refine mvI rfl ?_
  refine r_nil ?_
  refine i_then ?_
  refine t_block ?_
  refine t_loop (fun (k : {k : Nat // k ≤ b.rows.length}) => live [(1, Ty.pp (bokTys b)), (2, Ty.ptr 3 0), (3, Ty.ptr 4 0), (10, Ty.sl BRowE b.rows), (11, Ty.int .i64 b.rows.length), (12, Ty.int .i64 (k.1 : Nat))] [(3, Cont.cells 27 [Ty.ex (.slice none 0 0), Ty.int .i64 0, Ty.ex (.slice none 0 0)]), (4, Cont.cells 27 [Ty.sl I64 b.form.widths, Ty.int .i64 b.form.lines, Ty.row BRowE 66 21 (b.rows.take k.1)])]) (fun k => b.rows.length - k.1) (⟨0, by omega⟩) ?_ fun k => ?_
  · (refine Ent.mk' ?_ ?_ <;> (repeat' (first | exact allSub_zero | exact allTags_nil | exact subs_nil | refine allSub_succ' ?_ (Ty.sub_any _) | refine allSub_succ' ?_ (Ty.sub_refl _) | refine allTags_cons rfl (Cont.sub_refl _) ?_ | refine allTags_cons rfl (Cont.sub_subs ?_) ?_ | refine subs_cons ?_ (Ty.sub_refl _) | refine subs_cons ?_ Ty.nil_row)))
    all_goals trace_state
  ·
    have hk := k.2
    have htl : (b.rows.take k.1).length = k.1 := by rw [List.length_take]; omega
    refine t_seq ?_
    refine t_region ?_
    refine r_bin rfl rfl rfl ?_
    refine r_nil ?_
    refine i_then ?_
    refine t_seq ?_
    refine t_cond_dec rfl (fun hc1 => ?_) (fun hc1 => ?_)
    ·
      refine t_skip ?_
      refine i_then ?_
      refine t_seq ?_
      refine t_block ?_
      refine t_seq ?_
      refine t_region ?_
      refine r_index_slN rfl rfl rfl rfl rfl rfl (by omega) ?_
      refine r_load_ppN rfl rfl rfl (by exact Nat.le_of_ble_eq_true rfl) ?_
      refine r_alloc rfl (by exact List.cons_ne_nil _ _) rfl ?_
      refine r_storeN rfl rfl (by decide) rfl rfl rfl rfl rfl rfl ?_
      refine r_nil ?_
      refine i_then ?_
      refine t_region ?_
      refine r_field_ptr rfl rfl rfl rfl rfl (by decide) ?_
      refine r_load_ptr rfl rfl (by decide) rfl rfl rfl ?_
      refine r_load_ptrN rfl rfl (by decide) rfl rfl (by exact Nat.le_of_ble_eq_true rfl) ?_
      refine r_buildSlice (E := BRowE) (xs := [nth b.rows k.1]) rfl rfl rfl rfl rfl (by decide) (by decide) (by repeat (first | exact (Parts.nil : Parts _ _ [] _) | (show Parts _ _ ((_, _) :: _) _; apply Parts.agg; (· exact (rfl : _ = Ty.agg _))))) (by exact rfl) rfl ?_
      refine r_append rfl rfl (by decide) rfl rfl rfl rfl rfl rfl (by decide) (by (simp <;> omega)) (by (simp <;> omega)) ?_
      refine r_field_ptr rfl rfl rfl rfl rfl (by decide) ?_
      refine r_store1 rfl rfl (by decide) rfl rfl (by exact (rfl : _ = Ty.row _ _ _ _)) rfl (by exact Nat.le_of_ble_eq_true rfl) rfl rfl (by exact rfl) ?_
      refine r_nil ?_
      refine i_block ?_
      refine i_then ?_
      refine t_region ?_
      refine r_add rfl rfl (by omega) (by omega) ?_
      refine mvI rfl ?_
      refine r_nil ?_
      refine i_round (⟨k.1 + 1, by omega⟩) ?_ (by show b.rows.length - (k.1 + 1) < b.rows.length - k.1; omega)
      (refine Ent.mk' ?_ ?_ <;> (repeat' (first | exact allSub_zero | exact allTags_nil | exact subs_nil | refine allSub_succ' ?_ (Ty.sub_any _) | refine allSub_succ' ?_ (Ty.sub_refl _) | refine allTags_cons rfl (Cont.sub_refl _) ?_ | refine allTags_cons rfl (Cont.sub_subs ?_) ?_ | refine subs_cons ?_ (Ty.sub_refl _) | refine subs_cons ?_ ?_)))
      all_goals exact Ty.sub_row (take_nth (by omega)).symm
      all_goals trace_state
    ·
      refine t_exit ?_
      refine i_then_exit ?_
      refine i_then_exit ?_
      refine i_block_exit rfl ?_
      refine i_then ?_
      refine t_seq ?_
      refine t_pubC (tg := 21) [] [(4, Cont.cells 27 (bokTys b))] (by decide) rfl trivial ⟨pubC_cells rfl rfl ⟨pubTy_same rfl, pubTy_same rfl, pubTy_row_eq (List.take_of_length_le (by have := k.2; omega)), trivial⟩, trivial⟩ ?_
      refine t_region ?_
      refine r_load_ptrN rfl rfl (by decide) rfl rfl (by exact Nat.le_of_ble_eq_true rfl) ?_
      refine r_storeN rfl rfl (by decide) rfl rfl rfl rfl rfl rfl ?_
      refine r_nil ?_
      refine i_then ?_
      refine t_ret ?_
      refine i_rcell rfl rfl rfl rfl (by decide) rfl rfl rfl ?_
      all_goals exact ret_refl rfl rfl
set_option maxRecDepth 100000 in
theorem k_spoilt (b : Book) (hb : b.rows.length ≤ 1000) : CtrG Tryz.prog 31 [] [] [bokFT 4096 b] [] (Ty.tup []) := by
  refine fnG_intro Tryz.func31 rfl (by decide) Tryz.ntmps31 (by exact Nat.le_of_ble_eq_true rfl) fun w0 M0 => ?_
  refine t_openF (s := 0) (J := 4096) (tg := 100) (Ti := 3) (Tr := 66) (nums := BRow.nums) (st := BRow.struck) rfl rfl (fun _ => rfl) rfl rfl (by decide) (by decide) rfl rfl fun v ys hy => ?_
  refine t_seq ?_
  refine t_region ?_
  refine r_box_agg rfl ?_
  refine r_nil ?_
  refine i_then ?_
  refine t_seq ?_
  refine t_region ?_
  refine r_field_pp rfl rfl rfl rfl rfl (by decide) ?_
  refine r_field_pp rfl rfl rfl rfl rfl (by decide) ?_
  refine r_load_pp rfl rfl rfl rfl ?_
  refine r_clearX (J := 4096) (v := v) rfl rfl List.mem_cons_self (by decide) rfl rfl rfl rfl rfl rfl ?_
  refine r_nil ?_
  refine i_then ?_
  refine t_seq ?_
  refine t_seq ?_
  refine t_region ?_
  refine r_field_pp rfl rfl rfl rfl rfl (by decide) ?_
  refine r_load_pp rfl rfl rfl rfl ?_
  refine r_len_vs rfl rfl rfl ?_
  refine mvI rfl ?_
  refine r_nil ?_
  refine i_then ?_
  refine t_block ?_
  refine t_loop (fun (k : {k : Nat // k ≤ b.rows.length}) => live [(1, Ty.pp [Ty.ex v, Ty.int .i64 b.form.lines, Ty.vs 100 b.rows.length]), (8, Ty.vs 100 b.rows.length), (9, Ty.int .i64 b.rows.length), (10, Ty.int .i64 (k.1 : Nat))] [(100, Cont.vec XEb 66 ys), (4096, Cont.fit (v :: ys.map fun y => y.1.1))]) (fun k => b.rows.length - k.1) (⟨0, Nat.zero_le _⟩) ?_ fun k => ?_
  · (refine Ent.mk' ?_ ?_ <;> (repeat' (first | exact allSub_zero | exact allTags_nil | refine allSub_succ' ?_ (Ty.sub_any _) | refine allSub_succ' ?_ (Ty.sub_refl _) | refine allTags_cons rfl (Cont.sub_refl _) ?_)))
    all_goals trace_state
  ·
    have hk := k.2
    refine t_seq ?_
    refine t_region ?_
    refine r_bin rfl rfl rfl ?_
    refine r_nil ?_
    refine i_then ?_
    refine t_seq ?_
    refine t_cond_dec rfl (fun hc1 => ?_) (fun hc1 => ?_)
    ·
      refine t_skip ?_
      refine i_then ?_
      refine t_seq ?_
      refine t_block ?_
      refine t_seq ?_
      refine t_region ?_
      refine r_index_vs rfl rfl rfl rfl rfl (by omega) ?_
      refine r_load_vecE k.1 rfl rfl rfl (by decide) rfl rfl rfl (by omega) ?_
      refine r_alloc rfl (by exact List.cons_ne_nil _ _) rfl ?_
      refine r_storeN rfl rfl (by decide) rfl rfl rfl rfl (XEb.ones (nth ys k.1)) rfl ?_
      refine r_nil ?_
      refine i_then ?_
      refine t_region ?_
      refine r_field_ptr rfl rfl rfl rfl rfl (by decide) ?_
      refine r_load_ptr rfl rfl (by decide) rfl rfl rfl ?_
      refine r_clearX (J := 4096) (v := (nth ys k.1).1.1) rfl rfl (List.mem_cons_of_mem _ (List.mem_map_of_mem (f := fun y => y.1.1) (nth_mem (xs := ys) (k := k.1) (by omega)))) (by decide) rfl rfl rfl rfl rfl rfl ?_
      refine r_nil ?_
      refine i_block ?_
      refine i_then ?_
      refine t_region ?_
      refine r_add rfl rfl (by omega) (by omega) ?_
      refine mvI rfl ?_
      refine r_nil ?_
      refine i_round (⟨k.1 + 1, by omega⟩) ?_ (by show b.rows.length - (k.1 + 1) < b.rows.length - k.1; omega)
      (refine Ent.mk' ?_ ?_ <;> (repeat' (first | exact allSub_zero | exact allTags_nil | refine allSub_succ' ?_ (Ty.sub_any _) | refine allSub_succ' ?_ (Ty.sub_refl _) | refine allTags_cons rfl (Cont.sub_refl _) ?_)))
      all_goals skip
      all_goals trace_state
    ·
      refine t_exit ?_
      refine i_then_exit ?_
      refine i_then_exit ?_
      refine i_block_exit rfl ?_
      refine i_then ?_
      refine t_region ?_
      refine r_field_pp rfl rfl rfl rfl rfl (by decide) ?_
      refine r_load_pp rfl rfl rfl rfl ?_
      refine r_clearVs rfl rfl hy (by decide) rfl rfl rfl rfl rfl (by decide) rfl ?_
      refine r_nil ?_
      refine i_end ?_
      refine g_ret0 [] rfl (by decide) (by repeat (exact rc_nil))
      all_goals trace_state
end Go.Proofs.YtjjndkenddigiaaGreatDoor

namespace Go.Proofs.YtjjndkenddigiaaGreatDoor
open Go Go.T
set_option maxHeartbeats 2000000
theorem tne_0 {f : BForm} {t : Byt} (h : frmY f = 0) : tornR t = tornE f t := by unfold tornE; rw [if_neg (fun e => e h)]; rfl
theorem tne_1 {f : BForm} {t : Byt} (h : ¬ frmY f = 0) : frmY f = tornE f t := (if_pos h).symm
def alV (f : BForm) (t : Byt) : List Byt := if tornE f t = 0 then fsL f t else []
theorem alV_0 {f : BForm} {t : Byt} (h : ¬ tornE f t = 0) : alV f t = [] := if_neg h
theorem alV_1 {f : BForm} {t : Byt} (h : tornE f t = 0) : fsL f t = alV f t := (if_pos h).symm
theorem fs_len (f : BForm) (t : Byt) : (fsL f t).length = (allF f t).length := List.length_map _
theorem alV_few (f : BForm) (t : Byt) : (alV f t).length ≤ 14641 := by
  unfold alV
  split
  · rename_i h
    exact fs_few (by have := (torn_ok h).2.2; omega)
  · exact Nat.zero_le _
theorem cnt_v (f : BForm) (t : Byt) : cntV f t = ((((alV f t).length : Nat) : Int), tornE f t) := by
  by_cases h : tornE f t = 0
  · rw [cnt_2 h, ← alV_1 h, fs_len, h]
  · rw [cnt_1 h, alV_0 h]; rfl
theorem fil_v (f : BForm) (t : Byt) : filV f t = ((alV f t).take 2, tornE f t) := by
  by_cases h : tornE f t = 0
  · rw [fv_2 h, ← alV_1 h, h]
    unfold filL fsL
    rw [List.map_take]
  · rw [fv_1 h, alV_0 h]; rfl
theorem res_0 {f : BForm} {t : Byt} (h : ¬ tornE f t = 0) : resV f t = (Book.zero, tornE f t) := rv_1 h
theorem res_6 {f : BForm} {t : Byt} (h : tornE f t = 0) (h2 : ((fsL f t).length : Int) = 0) : resV f t = (Book.zero, 6) := rv_2 h (by rw [fs_len] at h2; omega)
theorem res_1 {f : BForm} {t : Byt} (h : tornE f t = 0) (h3 : ((fsL f t).length : Int) = 1) : resV f t = (⟨f, (nth (allF f t) 0).2.read⟩, 0) := by
  rw [fs_len] at h3
  rw [rv_3 h (by omega) (by omega), show min 2 (allF f t).length = 0 + 1 by omega, resB_succ]
theorem res_7 {f : BForm} {t : Byt} (h : tornE f t = 0) (h2 : ¬ ((fsL f t).length : Int) = 0) (h3 : ¬ ((fsL f t).length : Int) = 1) : resV f t = (Book.zero, 7) := by
  rw [fs_len] at h2 h3
  exact rv_4 h (by omega) (by omega)
theorem fs_0 {f : BForm} {t : Byt} (h : 0 < (fsL f t).length) : nth (fsL f t) 0 = (nth (allF f t) 0).1 := by
  rw [fs_len] at h
  unfold fsL nth
  rw [List.getD_eq_getElem?_getD, List.getD_eq_getElem?_getD, List.getElem?_map, List.getElem?_eq_getElem h]; rfl
theorem fs_run {f : BForm} {t : Byt} (hf : FormOk f) (h : 0 < (fsL f t).length) : (nth (fsL f t) 0).length = t.length ∧ prI f (nth (fsL f t) 0) = true ∧ (runP f (nth (fsL f t) 0)).read = (nth (allF f t) 0).2.read := by
  rw [fs_0 h]
  rw [fs_len] at h
  have hm := nth_mem h
  obtain ⟨h1, h2, _⟩ := fil_mem t Rdr.new _ hm
  obtain ⟨_, _, h3⟩ := fillR_ok t Rdr.new (new_ok hf) _ hm
  have hr := h1.run
  refine ⟨h3, ?_, ?_⟩
  · unfold prI runN runP
    rw [hr, h2, decide_eq_true rfl]; rfl
  · unfold runP; rw [hr]
theorem c_CountN (f : BForm) (t : Byt) : Ctr Tryz.prog 27 [frmT f, Ty.str (bs t)] (Ty.tup [Ty.int .i64 ((alV f t).length : Nat), Ty.int .i64 (tornE f t)]) := by
  have h := c_Count f t
  rwa [cnt_v] at h
theorem c_FillN (f : BForm) (t : Byt) : Ctr Tryz.prog 28 [frmT f, Ty.str (bs t)] (Ty.tup [Ty.sl StrE ((alV f t).take 2), Ty.int .i64 (tornE f t)]) := by
  have h := c_Fillings f t
  rwa [fil_v] at h
theorem fam_res (J : Nat) (f : BForm) (t : Byt) : FamOk J (fun m => Ty.tup [bokNT m (resV f t).1, Ty.int .i64 (resV f t).2]) (Ty.tup [bokFT J (resV f t).1, Ty.int .i64 (resV f t).2]) := fam_tup (fams_cons (fam_bok J _) (fams_cons fam_int fams_nil))
theorem resV_few (f : BForm) (t : Byt) : (resV f t).1.rows.length ≤ 1000 := by
  by_cases h : tornE f t = 0
  · by_cases h2 : ((fsL f t).length : Int) = 0
    · rw [res_6 h h2]; exact Nat.zero_le _
    · by_cases h3 : ((fsL f t).length : Int) = 1
      · rw [res_1 h h3]
        have hf := (torn_ok h).1
        have hm := nth_mem (xs := allF f t) (k := 0) (by rw [← fs_len]; omega)
        have := (fillR_ok t Rdr.new (new_ok hf) _ hm).1.len
        show (nth (allF f t) 0).2.read.length ≤ 1000; omega
      · rw [res_7 h h2 h3]; exact Nat.zero_le _
  · rw [res_0 h]; exact Nat.zero_le _
theorem take_min (l : List Byt) : l.take (min 2 l.length) = l.take 2 := by
  by_cases h : 2 ≤ l.length
  · rw [Nat.min_eq_left h]
  · rw [Nat.min_eq_right (by omega), List.take_length, List.take_of_length_le (by omega)]
attribute [local irreducible] allF tornE tornR frmY alV fsL resV runN runP prI filV cntV
attribute [local irreducible] dInt dBool dSl dPp dPtr dAgg dTup dClo dAny dEx dStr dGd dCells dVec dVs dRow dOp nth Tri Into TOps Ctr bodyPost Exit.then Exit.inBlock Code.wp Code.wpIn dWhen dPa dArr dMp dMap CtrG keepPost iterPost bodyPostM roundQ
set_option maxRecDepth 100000 in
theorem c_Eq_str (a b : List Byt) : Ctr Tryz.prog 30 [Ty.sl StrE a, Ty.sl StrE b] (Ty.bool (decide (a = b))) := by
  refine fn_intro Tryz.func30 rfl (by decide) Tryz.ntmps30 (by exact Nat.le_of_ble_eq_true rfl) fun w0 M0 => ?_
  refine t_seq ?_
  refine t_region ?_
  refine asB rfl ?_
  refine r_nil ?_
  refine i_then ?_
  refine t_seq ?_
  refine t_region ?_
  refine mvS rfl ?_
  refine mvS rfl ?_
  refine r_call (c_Equal_str _ _) rfl rfl rfl rfl rfl ?_
  refine asB rfl ?_
  refine r_nil ?_
  refine i_then ?_
  refine t_ret ?_
  refine i_rp1 rfl rfl ?_
  all_goals exact ret_refl rfl rfl
theorem c_EqTk (l : List Byt) : Ctr Tryz.prog 30 [Ty.sl StrE (l.take 2), Ty.sl StrE (l.take (min 2 l.length))] (Ty.bool true) := by
  have h := c_Eq_str (l.take 2) (l.take (min 2 l.length))
  rwa [decide_eq_true (take_min l).symm] at h
theorem fills_8 {n : Nat} {c : Bool} (h : (decide ((n : Int) > 8) || c) = false) : n ≤ 8 := by
  have := (Bool.or_eq_false_iff.1 h).1
  have := of_decide_eq_false this
  omega
set_option maxRecDepth 100000 in
theorem c_BookFills (f : BForm) (t : Byt) : Ctr Tryz.prog 4 [frmT f, Ty.str (bs t)] (Ty.bool true) := by
  refine fn_intro Tryz.func4 rfl (by decide) Tryz.ntmps4 (by exact Nat.le_of_ble_eq_true rfl) fun w0 M0 => ?_
  refine t_seq ?_
  refine t_region ?_
  refine r_box_agg rfl ?_
  refine asB rfl ?_
  refine r_nil ?_
  refine i_then ?_
  refine t_seq ?_
  refine t_seq ?_
  refine t_region ?_
  refine r_field_pp rfl rfl rfl rfl rfl (by decide) ?_
  refine r_load_pp rfl rfl rfl rfl ?_
  refine r_len rfl rfl rfl ?_
  refine r_bin rfl rfl rfl ?_
  refine mvB rfl ?_
  apply r_guard (s := 24) rfl rfl rfl
  · intro hg; apply opT_of; (refine mvS' rfl ?_); refine r_nil ?_; exact rfl
  · exact rfl
  · exact rfl
  apply r_guard (s := 24) rfl rfl rfl
  · intro hg; apply opT_strip (s := 25) rfl (by (rw [hg]; rfl)); apply opT_of; (refine r_lenS rfl rfl rfl ?_); refine r_nil ?_; exact rfl
  · exact rfl
  · exact rfl
  apply r_guard (s := 24) rfl rfl rfl
  · intro hg; apply opT_strip (s := 26) rfl (by (rw [hg]; rfl)); apply opT_of; (refine r_bin rfl rfl rfl ?_); refine r_nil ?_; exact rfl
  · exact rfl
  · exact rfl
  apply r_guard (s := 24) rfl rfl rfl
  · intro hg; apply opT_strip (s := 27) rfl (by (rw [hg]; rfl)); apply opT_of; (refine mvB rfl ?_); refine r_nil ?_; exact rfl
  · exact rfl
  · exact rfl
  apply r_guardG (s := 28) rfl rfl rfl
  · intro hg1 hg2; apply opT_of; (refine mvS' rfl ?_); refine r_nil ?_; exact rfl
  · exact rfl
  · exact rfl
  apply r_guardG (s := 28) rfl rfl rfl
  · intro hg1 hg2; apply opT_strip (s := 29) rfl (by (rw [hg1, hg2]; rfl)); apply opT_of; (refine r_lenS rfl rfl rfl ?_); refine r_nil ?_; exact rfl
  · exact rfl
  · exact rfl
  apply r_guardG (s := 28) rfl rfl rfl
  · intro hg1 hg2; apply opT_strip (s := 30) rfl (by (rw [hg1, hg2]; rfl)); apply opT_of; (refine r_bin rfl rfl rfl ?_); refine r_nil ?_; exact rfl
  · exact rfl
  · exact rfl
  apply r_guard (s := 24) rfl rfl rfl
  · intro hg; apply opT_strip (s := 28) rfl (by (rw [hg]; rfl)); apply opT_stripG (s := 31) rfl (by (rw [hg]; rfl)); apply opT_of; (refine r_and rfl rfl ?_); refine r_nil ?_; exact rfl
  · exact rfl
  · exact rfl
  refine r_or rfl rfl ?_
  refine r_nil ?_
  refine i_then ?_
  refine t_cond rfl (fun hc1 => ?_) (fun hc1 => ?_)
  ·
    refine t_seq ?_
    refine t_region ?_
    refine r_call c_awake rfl rfl rfl rfl rfl ?_
    refine asB rfl ?_
    refine r_nil ?_
    refine i_then ?_
    refine t_ret ?_
    refine i_then_ret ?_
    refine i_rp1 rfl rfl ?_
    all_goals exact ret_refl rfl rfl
    all_goals trace_state
  ·
    refine t_skip ?_
    refine i_then ?_
    refine t_seq ?_
    have hw8 : f.widths.length ≤ 8 := fills_8 hc1
    refine t_draw mixed rfl ?_
    refine r_field_pp rfl rfl rfl rfl rfl (by decide) ?_
    refine r_load_pp rfl rfl rfl rfl ?_
    refine r_call (c_Dup_int f.widths (by omega)) rfl rfl rfl rfl rfl ?_
    refine r_field_pp rfl rfl rfl rfl rfl (by decide) ?_
    refine r_load_pp rfl rfl rfl rfl ?_
    refine r_build rfl rfl (by exact List.cons_ne_nil _ _) rfl (by repeat (first | exact (Parts.nil : Parts _ _ [] _) | (show Parts _ _ ((_, _) :: _) _; apply Parts.one; (· first | exact (rfl : _ = Ty.int _ _) | exact (rfl : _ = Ty.sl _ _)); (· exact rfl)))) (by exact (rfl : _ = some [_, _])) ?_
    refine r_alloc rfl (by exact List.cons_ne_nil _ _) rfl ?_
    refine r_storeN rfl rfl (by decide) rfl rfl rfl rfl rfl rfl ?_
    refine r_nil ?_
    refine ⟨by kernel_rfl, ?_⟩
    refine i_then ?_
    refine t_seq ?_
    refine t_region ?_
    refine r_load_ppN rfl rfl rfl (by exact Nat.le_of_ble_eq_true rfl) ?_
    refine r_alloc rfl (by exact List.cons_ne_nil _ _) rfl ?_
    refine r_storeN rfl rfl (by decide) rfl rfl rfl rfl rfl rfl ?_
    refine r_nil ?_
    refine i_then ?_
    refine t_seq ?_
    refine t_pub (tg := 6) [(5, Ty.pp (frmTys f))] (by decide) rfl ⟨pub_ptr (T := 24) (tg := 6) (off := 0) (l := frmTys f) rfl rfl rfl (by decide), trivial⟩ ?_
    refine t_pub (tg := 7) [(6, Ty.pp (frmTys f))] (by decide) rfl ⟨pub_ptr (T := 31) (tg := 7) (off := 0) (l := frmTys f) rfl rfl rfl (by decide), trivial⟩ ?_
    refine t_region ?_
    refine r_load_ppN rfl rfl rfl (by exact Nat.le_of_ble_eq_true rfl) ?_
    refine r_call (c_rCheckForm f) rfl rfl rfl rfl rfl ?_
    refine asI rfl ?_
    refine r_nil ?_
    refine i_then ?_
    refine t_join (J := live [(1, Ty.str (bs t)), (2, Ty.pp (frmTys f)), (5, Ty.pp (frmTys f)), (6, Ty.pp (frmTys f)), (7, Ty.int .i64 (tornE f t))] []) ?_ ?_
    ·
      refine t_seq ?_
      refine t_region ?_
      refine mvI rfl ?_
      refine r_bin rfl rfl rfl ?_
      refine r_nil ?_
      refine i_then ?_
      refine t_cond_dec rfl (fun hc2 => ?_) (fun hc2 => ?_)
      ·
        refine t_region ?_
        refine mvS' rfl ?_
        refine r_call (c_rTornError t) rfl rfl rfl rfl rfl ?_
        refine asI rfl ?_
        refine r_nil ?_
        refine i_join ?_
        (refine Ent.mk' ?_ ?_ <;> (repeat' (first | exact allSub_zero | exact allTags_nil | refine allSub_succ' ?_ (Ty.sub_any _) | refine allSub_succ' ?_ (Ty.sub_refl _) | refine allSub_succ' ?_ ?_)))
        all_goals exact Ty.sub_int (tne_0 hc2)
      ·
        refine t_skip ?_
        refine i_join ?_
        (refine Ent.mk' ?_ ?_ <;> (repeat' (first | exact allSub_zero | exact allTags_nil | refine allSub_succ' ?_ (Ty.sub_any _) | refine allSub_succ' ?_ (Ty.sub_refl _) | refine allSub_succ' ?_ ?_)))
        all_goals exact Ty.sub_int (tne_1 hc2)
    ·
      refine t_seq ?_
      refine t_region ?_
      refine mvI rfl ?_
      refine asI rfl ?_
      refine r_nil ?_
      refine i_then ?_
      refine t_seq ?_
      refine t_region ?_
      refine asX rfl ?_
      refine r_nil ?_
      refine i_then ?_
      refine t_seq ?_
      refine t_region ?_
      refine r_alloc rfl (by exact List.cons_ne_nil _ _) rfl ?_
      refine r_nil ?_
      refine i_then ?_
      refine t_join (J := live [(1, Ty.str (bs t)), (2, Ty.pp (frmTys f)), (5, Ty.pp (frmTys f)), (7, Ty.int .i64 (tornE f t)), (8, Ty.int .i64 (resV f t).2), (9, Ty.sl StrE (alV f t)), (10, Ty.ptr 11 0)] [(11, Cont.cells 27 (bokTys (resV f t).1))]) ?_ ?_
      ·
        refine t_seq ?_
        refine t_region ?_
        refine mvI rfl ?_
        refine r_bin rfl rfl rfl ?_
        refine r_nil ?_
        refine i_then ?_
        refine t_cond_dec rfl (fun hc3 => ?_) (fun hc3 => ?_)
        ·
          refine t_seq ?_
          obtain ⟨hf, hl, h4⟩ := torn_ok (f := f) (text := t) (by omega)
          refine t_region ?_
          refine r_load_ppN rfl rfl rfl (by exact Nat.le_of_ble_eq_true rfl) ?_
          refine mvS' rfl ?_
          refine r_call (c_rFillings hf (tornN t) t rfl hl (by omega)) rfl rfl rfl rfl rfl ?_
          refine asS rfl ?_
          refine r_nil ?_
          refine i_then ?_
          refine t_seq ?_
          refine t_region ?_
          refine mvS rfl ?_
          refine r_len rfl rfl rfl ?_
          refine r_nil ?_
          refine i_then ?_
          refine t_block ?_
          refine t_seq ?_
          refine t_region ?_
          refine r_bin rfl rfl rfl ?_
          refine asB rfl ?_
          refine r_nil ?_
          refine i_then ?_
          refine t_cond_dec rfl (fun hc4 => ?_) (fun hc4 => ?_)
          ·
            refine t_region ?_
            refine asI rfl ?_
            refine r_nil ?_
            refine i_block ?_
            refine i_join ?_
            (refine Ent.mk' ?_ ?_ <;> (repeat' (first | exact allSub_zero | exact allTags_nil | exact subs_nil | refine allSub_succ' ?_ (Ty.sub_any _) | refine allSub_succ' ?_ (Ty.sub_refl _) | refine allTags_cons rfl (Cont.sub_subs ?_) ?_ | refine subs_cons ?_ ?_ | refine allSub_succ' ?_ ?_)))
            all_goals first | exact Ty.sub_sl (alV_1 hc3) | (rw [res_6 hc3 hc4]; first | exact Ty.sub_refl _ | exact Ty.nil_sl)
          ·
            refine t_seq ?_
            refine t_region ?_
            refine r_bin rfl rfl rfl ?_
            refine asB rfl ?_
            refine r_nil ?_
            refine i_then ?_
            refine t_cond_dec rfl (fun hc5 => ?_) (fun hc5 => ?_)
            ·
              refine t_seq ?_
              have hpos : 0 < (fsL f t).length := by omega
              obtain ⟨hr1, hr2, hr3⟩ := fs_run hf hpos
              refine t_draw mixed rfl ?_
              refine r_load_ppN rfl rfl rfl (by exact Nat.le_of_ble_eq_true rfl) ?_
              refine mvS rfl ?_
              refine r_index_slN rfl rfl rfl rfl rfl rfl (by omega) ?_
              refine r_load_pp rfl rfl rfl rfl ?_
              refine r_call (c_rParse f hf (nth (fsL f t) 0) (by omega)) rfl rfl rfl rfl rfl ?_
              refine mvT rfl ?_
              refine r_extract rfl rfl ?_
              refine r_extract rfl rfl ?_
              refine r_extract rfl rfl ?_
              refine r_alloc rfl (by exact List.cons_ne_nil _ _) rfl ?_
              refine r_storeN rfl rfl (by decide) rfl rfl rfl rfl rfl rfl ?_
              refine asI rfl ?_
              refine asB rfl ?_
              refine r_nil ?_
              refine ⟨by kernel_rfl, ?_⟩
              refine i_then ?_
              rw [hr2, hr3]
              refine t_asC (tg := 12) (D := Cont.cells 34 (bokTys ⟨f, (nth (allF f t) 0).2.read⟩)) rfl (Cont.sub_subs ⟨Ty.when_sub rfl, Ty.when_sub rfl, Ty.when_sub rfl, trivial⟩) ?_
              have hlr : (nth (allF f t) 0).2.read.length ≤ 1000 := by rw [← hr3]; have := (runP_ok (text := nth (fsL f t) 0) hf).len; omega
              refine t_region ?_
              refine r_load_ptrN rfl rfl (by decide) rfl rfl (by exact Nat.le_of_ble_eq_true rfl) ?_
              refine r_call (c_ours ⟨f, (nth (allF f t) 0).2.read⟩ hlr) rfl rfl rfl rfl rfl ?_
              refine r_storeN rfl rfl (by decide) rfl rfl rfl rfl rfl rfl ?_
              refine r_nil ?_
              refine i_block ?_
              refine i_join ?_
              (refine Ent.mk' ?_ ?_ <;> (repeat' (first | exact allSub_zero | exact allTags_nil | exact subs_nil | refine allSub_succ' ?_ (Ty.sub_any _) | refine allSub_succ' ?_ (Ty.sub_refl _) | refine allTags_cons rfl (Cont.sub_subs ?_) ?_ | refine subs_cons ?_ ?_ | refine allSub_succ' ?_ ?_)))
              all_goals first | exact Ty.sub_sl (alV_1 hc3) | (rw [res_1 hc3 hc5]; first | exact Ty.sub_refl _ | exact Ty.sub_int hc3)
            ·
              refine t_region ?_
              refine asI rfl ?_
              refine r_nil ?_
              refine i_block ?_
              refine i_join ?_
              (refine Ent.mk' ?_ ?_ <;> (repeat' (first | exact allSub_zero | exact allTags_nil | exact subs_nil | refine allSub_succ' ?_ (Ty.sub_any _) | refine allSub_succ' ?_ (Ty.sub_refl _) | refine allTags_cons rfl (Cont.sub_subs ?_) ?_ | refine subs_cons ?_ ?_ | refine allSub_succ' ?_ ?_)))
              all_goals first | exact Ty.sub_sl (alV_1 hc3) | (rw [res_7 hc3 hc4 hc5]; first | exact Ty.sub_refl _ | exact Ty.nil_sl)
        ·
          refine t_skip ?_
          refine i_join ?_
          (refine Ent.mk' ?_ ?_ <;> (repeat' (first | exact allSub_zero | exact allTags_nil | exact subs_nil | refine allSub_succ' ?_ (Ty.sub_any _) | refine allSub_succ' ?_ (Ty.sub_refl _) | refine allTags_cons rfl (Cont.sub_subs ?_) ?_ | refine subs_cons ?_ ?_ | refine allSub_succ' ?_ ?_)))
          all_goals first | (rw [res_0 hc3]; first | exact Ty.sub_refl _ | exact Ty.nil_sl) | (rw [alV_0 hc3]; exact Ty.nil_sl)
      ·
        refine t_seq ?_
        refine t_pub (tg := 11) [(10, Ty.pp (bokTys (resV f t).1))] (by decide) rfl ⟨pub_ptr (T := 27) (tg := 11) (off := 0) (l := bokTys (resV f t).1) rfl rfl rfl (by decide), trivial⟩ ?_
        have haf := alV_few f t
        refine t_region ?_
        refine r_load_ppN rfl rfl rfl (by exact Nat.le_of_ble_eq_true rfl) ?_
        refine mvS' rfl ?_
        refine r_call (c_CountN f t) rfl rfl rfl rfl rfl ?_
        refine mvT rfl ?_
        refine r_extract rfl rfl ?_
        refine r_extract rfl rfl ?_
        refine asI rfl ?_
        refine asI rfl ?_
        refine r_nil ?_
        refine i_then ?_
        refine t_seq ?_
        refine t_region ?_
        refine r_load_ppN rfl rfl rfl (by exact Nat.le_of_ble_eq_true rfl) ?_
        refine mvS' rfl ?_
        refine r_call (c_FillN f t) rfl rfl rfl rfl rfl ?_
        refine mvT rfl ?_
        refine r_extract rfl rfl ?_
        refine r_extract rfl rfl ?_
        refine asS rfl ?_
        refine asI rfl ?_
        refine r_nil ?_
        refine i_then ?_
        refine t_seq ?_
        refine t_region ?_
        refine r_load_ppN rfl rfl rfl (by exact Nat.le_of_ble_eq_true rfl) ?_
        refine mvS' rfl ?_
        refine r_callF_new 4096 (by decide) (n_Restore f t) (fam_res 4096 f t) rfl rfl rfl ?_
        refine mvT rfl ?_
        refine r_extract rfl rfl ?_
        refine r_extract rfl rfl ?_
        refine r_alloc rfl (by exact List.cons_ne_nil _ _) rfl ?_
        refine r_storeN rfl rfl (by decide) rfl rfl rfl rfl rfl rfl ?_
        refine asI rfl ?_
        refine r_nil ?_
        refine i_then ?_
        refine t_seq ?_
        refine t_seq ?_
        refine t_region ?_
        refine mvI rfl ?_
        refine mvI rfl ?_
        refine r_bin rfl rfl rfl ?_
        refine mvB rfl ?_
        apply r_guard (s := 92) rfl rfl rfl
        · intro hg; apply opT_of; (refine mvI rfl ?_); refine r_nil ?_; exact rfl
        · exact rfl
        · exact rfl
        apply r_guard (s := 92) rfl rfl rfl
        · intro hg; apply opT_of; (refine mvI rfl ?_); refine r_nil ?_; exact rfl
        · exact rfl
        · exact rfl
        apply r_guard (s := 92) rfl rfl rfl
        · intro hg; apply opT_strip (s := 93) rfl (by (rw [hg]; rfl)); apply opT_strip (s := 94) rfl (by (rw [hg]; rfl)); apply opT_of; (refine r_bin rfl rfl rfl ?_); refine r_nil ?_; exact rfl
        · exact rfl
        · exact rfl
        refine r_or rfl rfl ?_
        refine mvB rfl ?_
        apply r_guard (s := 97) rfl rfl rfl
        · intro hg; apply opT_of; (refine mvI rfl ?_); refine r_nil ?_; exact rfl
        · exact rfl
        · exact rfl
        apply r_guard (s := 97) rfl rfl rfl
        · intro hg; apply opT_of; (refine mvI rfl ?_); refine r_nil ?_; exact rfl
        · exact rfl
        · exact rfl
        apply r_guard (s := 97) rfl rfl rfl
        · intro hg; apply opT_strip (s := 98) rfl (by (rw [hg]; rfl)); apply opT_strip (s := 99) rfl (by (rw [hg]; rfl)); apply opT_of; (refine r_bin rfl rfl rfl ?_); refine r_nil ?_; exact rfl
        · exact rfl
        · exact rfl
        refine r_or rfl rfl ?_
        refine mvB rfl ?_
        apply r_guard (s := 102) rfl rfl rfl
        · intro hg; apply opT_of; (refine mvI rfl ?_); refine r_nil ?_; exact rfl
        · exact rfl
        · exact rfl
        apply r_guard (s := 102) rfl rfl rfl
        · intro hg; apply opT_of; (refine mvS rfl ?_); refine r_nil ?_; exact rfl
        · exact rfl
        · exact rfl
        apply r_guard (s := 102) rfl rfl rfl
        · intro hg; apply opT_strip (s := 104) rfl (by (rw [hg]; rfl)); apply opT_of; (refine r_len rfl rfl rfl ?_); refine r_nil ?_; exact rfl
        · exact rfl
        · exact rfl
        apply r_guard (s := 102) rfl rfl rfl
        · intro hg; apply opT_strip (s := 103) rfl (by (rw [hg]; rfl)); apply opT_strip (s := 105) rfl (by (rw [hg]; rfl)); apply opT_of; (refine r_bin rfl rfl rfl ?_); refine r_nil ?_; exact rfl
        · exact rfl
        · exact rfl
        refine r_or rfl rfl ?_
        refine mvB rfl ?_
        apply r_guard (s := 108) rfl rfl rfl
        · intro hg; apply opT_of; (refine mvS rfl ?_); refine r_nil ?_; exact rfl
        · exact rfl
        · exact rfl
        apply r_guard (s := 108) rfl rfl rfl
        · intro hg; apply opT_of; (refine mvS rfl ?_); refine r_nil ?_; exact rfl
        · exact rfl
        · exact rfl
        apply r_guard (s := 108) rfl rfl rfl
        · intro hg; apply opT_of; (refine mvS rfl ?_); refine r_nil ?_; exact rfl
        · exact rfl
        · exact rfl
        apply r_guard (s := 108) rfl rfl rfl
        · intro hg; apply opT_strip (s := 111) rfl (by (rw [hg]; rfl)); apply opT_of; (refine r_len rfl rfl rfl ?_); refine r_nil ?_; exact rfl
        · exact rfl
        · exact rfl
        apply r_guard (s := 108) rfl rfl rfl
        · intro hg; apply opT_strip (s := 112) rfl (by (rw [hg]; rfl)); apply opT_of; (refine r_min rfl rfl ?_); refine r_nil ?_; exact rfl
        · exact rfl
        · exact rfl
        apply r_guard (s := 108) rfl rfl rfl
        · intro hg; apply opT_strip (s := 110) rfl (by (rw [hg]; rfl)); apply opT_strip (s := 113) rfl (by (rw [hg]; rfl)); apply opT_of; (refine r_cut_hi (hi := min 2 (alV f t).length) rfl (congrArg (Ty.int .i64) (show min (2 : Int) ((alV f t).length : Int) = ((min 2 (alV f t).length : Nat) : Int) by omega)) rfl rfl rfl rfl (by omega) ?_); refine r_nil ?_; exact rfl
        · exact rfl
        · exact rfl
        apply r_guard (s := 108) rfl rfl rfl
        · intro hg; apply opT_strip (s := 109) rfl (by (rw [hg]; rfl)); apply opT_strip (s := 114) rfl (by (rw [hg]; rfl)); apply opT_of; (refine r_call (c_EqTk (alV f t)) rfl rfl rfl rfl rfl ?_); refine r_nil ?_; exact rfl
        · exact rfl
        · exact rfl
        apply r_guard (s := 108) rfl rfl rfl
        · intro hg; apply opT_strip (s := 115) rfl (by (rw [hg]; rfl)); apply opT_of; (refine r_not rfl ?_); refine r_nil ?_; exact rfl
        · exact rfl
        · exact rfl
        refine r_or rfl rfl ?_
        refine mvB rfl ?_
        apply r_guard (s := 118) rfl rfl rfl
        · intro hg; apply opT_of; (refine r_load_ptrN rfl rfl (by decide) rfl rfl (by exact Nat.le_of_ble_eq_true rfl) ?_); refine r_nil ?_; exact rfl
        · exact rfl
        · exact rfl
        apply r_guard (s := 118) rfl rfl rfl
        · intro hg; apply opT_of; (refine r_load_ppN rfl rfl rfl (by exact Nat.le_of_ble_eq_true rfl) ?_); refine r_nil ?_; exact rfl
        · exact rfl
        · exact rfl
        apply r_guard (s := 118) rfl rfl rfl
        · intro hg; apply opT_strip (s := 119) rfl (by (rw [hg]; rfl)); apply opT_strip (s := 120) rfl (by (rw [hg]; rfl)); apply opT_of; (refine r_callL [4096] (c_same (resV f t).1 (resV f t).1) rfl (lends_cons (lend_bok _ _ _ rfl) (lends_cons (lend_pub rfl rfl) lends_nil)) (plain_bool _) ?_); refine r_nil ?_; exact rfl
        · exact rfl
        · exact rfl
        apply r_guard (s := 118) rfl rfl rfl
        · intro hg; apply opT_strip (s := 121) rfl (by (rw [hg]; rfl)); apply opT_of; (refine r_not rfl ?_); refine r_nil ?_; exact rfl
        · exact rfl
        · exact rfl
        refine r_or rfl rfl ?_
        refine r_nil ?_
        refine i_then ?_
        refine t_cond rfl (fun hc6 => ?_) (fun hc6 => ?_)
        ·
          refine t_seq ?_
          refine t_region ?_
          refine asB rfl ?_
          refine r_nil ?_
          refine i_then ?_
          refine t_ret ?_
          refine i_then_ret ?_
          refine i_rp1 rfl rfl ?_
          all_goals skip
          all_goals (exfalso; simp at hc6)
        ·
          refine t_skip ?_
          refine i_then ?_
          refine t_seq ?_
          refine t_region ?_
          refine r_load_ptrN rfl rfl (by decide) rfl rfl (by exact Nat.le_of_ble_eq_true rfl) ?_
          refine r_callG [(4096, 4096)] [4096] [] (k_spoilt (resV f t).1 (resV_few f t)) rfl rfl (cv_cons cv_nil (cv_bokF (by exact List.mem_cons_self))) pre_nil post_nil (cv_pub rfl rfl) ?_
          refine r_nil ?_
          refine i_then ?_
          refine t_seq ?_
          refine t_region ?_
          refine r_field_pp rfl rfl rfl rfl rfl (by decide) ?_
          refine r_load_pp rfl rfl rfl rfl ?_
          refine r_field_pp rfl rfl rfl rfl rfl (by decide) ?_
          refine r_load_pp rfl rfl rfl rfl ?_
          refine r_call (c_Eq_int f.widths f.widths) rfl rfl rfl rfl rfl ?_
          refine mvB rfl ?_
          apply r_guard (s := 131) rfl rfl rfl
          · intro hg; apply opT_of; (refine r_call c_awake rfl rfl rfl rfl rfl ?_); refine r_nil ?_; exact rfl
          · exact rfl
          · exact rfl
          refine r_and rfl rfl ?_
          refine asB rfl ?_
          refine r_nil ?_
          refine i_then ?_
          refine t_ret ?_
          refine i_rp1 rfl rfl ?_
          all_goals skip
          all_goals exact ret_eq rfl rfl (congrArg Ty.bool (by simp))
end Go.Proofs.YtjjndkenddigiaaGreatDoor

namespace Go.T
open Go Go.RowKit Go.ChangeShapes Go.WideShapes Go.ChangeAt
def pubs : Tags := fun _ => none
theorem wf_pubs (w : World) (h : Amb w pubs) : Wf w pubs := ⟨fun _ _ h => (by cases h), fun _ _ _ _ h => (by cases h), h⟩
theorem pubs_zero : ∀ b t, pubs b = some t → t = 0 := fun _ _ h => by cases h
structure Rd {α : Type} (P : Program) (e : TypeId) (E : El α) : Prop where
  size : P.cellsOf e = E.size
  pos : 0 < E.size
  rd : ∀ {H : Type} {enc : TypeId × Value → H} {w : World} {base : Nat} {held : Bool} {n : Nat} {cs : List Value} {y : DataW H × List MemPlace}, DataW.trod enc P w base (fun _ => true) held n e cs = some y → ∃ x, dens w pubs (E.tys x) cs
section
variable {H : Type} {enc : TypeId × Value → H} {P : Program} {w : World} {base : Nat} {held : Bool} {α : Type} {E : El α} {t e : TypeId} {n : Nat} {cs : List Value} {y : DataW H × List MemPlace}
theorem rd_sl (hR : Rd P e E) (ht : P.underlying t = some (.slice e)) (h : DataW.trod enc P w base (fun _ => true) held n t cs = some y) : ∃ v xs, cs = [v] ∧ (Ty.sl E xs).den w pubs v := by
  rcases Go.Deep.open_slice ht h with ⟨rfl, _⟩ | ⟨a, len, cap, m, k, D, Pl, rfl, _, hl, hm, hmm, _, hel⟩
  · exact ⟨_, [], rfl, none, 0, rfl, Nat.le_refl _, Nat.zero_le _, fun h => absurd h (Nat.lt_irrefl _)⟩
  have hlm : len ≤ m := by rw [hmm]; simpa using hl
  have hX : ∀ i : Fin len, ∃ x : α, ∃ cs', w.cells? base (a.add (i.1 * P.cellsOf e)) (P.cellsOf e) = some cs' ∧ dens w pubs (E.tys x) cs' := fun i => by
    obtain ⟨cs', h1, h2⟩ := hel i.1 (Nat.lt_of_lt_of_le i.2 hlm)
    obtain ⟨x, hx⟩ := hR.rd h2
    exact ⟨x, cs', h1, hx⟩
  let X : Fin len → α := fun i => (hX i).choose
  have hXs : ∀ i : Fin len, ∃ cs', w.cells? base (a.add (i.1 * P.cellsOf e)) (P.cellsOf e) = some cs' ∧ dens w pubs (E.tys (X i)) cs' := fun i => (hX i).choose_spec
  have hlen : (List.ofFn X).length = len := by simp
  refine ⟨_, List.ofFn X, rfl, some a, cap, by rw [hlen], by rw [hlen]; exact hl, hm, fun h0 => ?_⟩
  rw [hlen] at h0
  have hcell : ∀ (i : Fin len) (j : Nat) (u : Ty), (E.tys (X i))[j]? = some u → ∃ v, w.cell? (a.add (i.1 * E.size + j)) = some v ∧ u.den w pubs v := fun i j u hu => by
    obtain ⟨cs', h1, h2⟩ := hXs i
    obtain ⟨v, hv, hd⟩ := dens_get h2 j u hu
    obtain ⟨_, g1, g2⟩ := World.cells?_some h1
    have hj : j < P.cellsOf e := by
      rw [hR.size, ← E.len (X i)]
      exact (List.getElem?_eq_some_iff.1 hu).1
    refine ⟨v, ?_, hd⟩
    have := g2 j hj
    rw [Go.Deep.add_add, hv, hR.size] at this
    exact this
  have hsz := hR.pos
  have hfirst : ∃ v, w.cell? (a.add 0) = some v := by
    obtain ⟨u, hu⟩ : ∃ u, (E.tys (X ⟨0, h0⟩))[0]? = some u := ⟨_, List.getElem?_eq_getElem (by rw [E.len]; exact hsz)⟩
    obtain ⟨v, hv, _⟩ := hcell ⟨0, h0⟩ 0 u hu
    exact ⟨v, by simpa using hv⟩
  obtain ⟨b, off, sp⟩ := a
  obtain ⟨v0, hv0⟩ := hfirst
  have hsp : sp = none := by simpa [Addr.add] using World.cell?_spot hv0
  subst hsp
  have hb : b < w.heap.size := by
    obtain ⟨cs', h1, _⟩ := hXs ⟨0, h0⟩
    have := World.cells?_block h1 (by rw [hR.size]; exact hsz)
    simpa [Addr.add] using this
  refine ⟨b, off, rfl, rfl, hb, fun i u hu => ?_⟩
  have hi : i < len * E.size := by
    have := (List.getElem?_eq_some_iff.1 hu).1
    rw [flat_len, hlen] at this; exact this
  have hk : i / E.size < len := Nat.div_lt_of_lt_mul (by rw [Nat.mul_comm]; exact hi)
  have hj : i % E.size < E.size := Nat.mod_lt _ hsz
  have hij : i / E.size * E.size + i % E.size = i := by rw [Nat.mul_comm]; exact Nat.div_add_mod i E.size
  have hu2 := hu
  rw [← hij, flat_get E _ _ _ (by rw [hlen]; exact hk) hj, List.getElem?_ofFn, dif_pos hk] at hu2
  obtain ⟨v, hv, hd⟩ := hcell ⟨i / E.size, hk⟩ (i % E.size) u hu2
  refine ⟨v, ?_, hd⟩
  rw [← Go.WideShapes.add_plain]
  rw [hij] at hv
  exact hv
theorem rd_struct2 {f0 f1 : Field} (hs : P.underlying t = some (.struct #[f0, f1])) (hC : P.cellsOf t = 2) (h0 : f0.offset = 0 ∧ P.cellsOf f0.type = 1) (h1 : f1.offset = 1 ∧ P.cellsOf f1.type = 1) (h : DataW.trod enc P w base (fun _ => true) held n t cs = some y) :
    ∃ c0 c1 y0 y1 m, cs = [c0, c1] ∧ DataW.trod enc P w base (fun _ => true) held m f0.type [c0] = some y0 ∧ DataW.trod enc P w base (fun _ => true) held m f1.type [c1] = some y1 := by
  obtain ⟨y0, y1, m, _, hl, g0, g1⟩ := Go.ChangeShapes.trod_struct2 hs h
  rw [hC] at hl
  match cs, hl with
  | [c0, c1], _ =>
    rw [h0.1, h0.2] at g0
    rw [h1.1, h1.2] at g1
    exact ⟨c0, c1, y0, y1, m, rfl, g0, g1⟩
theorem rd_int {k : IntKind} {c : Value} (ht : P.underlying t = some (.int k)) (h : DataW.trod enc P w base (fun _ => true) held n t [c] = some y) : ∃ i, c = .int k i := by
  obtain ⟨i, e, _⟩ := DataW.trod_int ht h
  exact ⟨i, by simpa using e⟩
theorem rd_sl1 {c : Value} (hR : Rd P e E) (ht : P.underlying t = some (.slice e)) (h : DataW.trod enc P w base (fun _ => true) held n t [c] = some y) : ∃ xs, (Ty.sl E xs).den w pubs c := by
  obtain ⟨v, xs, e, hd⟩ := rd_sl hR ht h
  exact ⟨xs, by rw [show c = v by simpa using e]; exact hd⟩
end
section
variable {w w' : World} {S K : Nat → Prop} {M' : Tags}
theorem le_block (le : Le S K w pubs w' M') {b : Nat} (hb : b < w.heap.size) : w'.heap[b]? = w.heap[b]? := (le.pub b hb rfl).2
theorem le_same (le : Le S K w pubs w' M') {p : MemPlace} (hp : p.block < w.heap.size) : w.sameAt w' p := by
  cases p with
  | cell b o => exact World.cell?_of_block (w := w) (le_block le hp)
  | map b => exact le_block le hp
theorem le_kept (le : Le S K w pubs w' M') (may : MemPlace → Prop) : w.keptBut w' may := by
  refine ⟨le.os, le.out, fun i hi => ?_⟩
  have e := le_block le hi
  rw [e]
  split
  · rename_i h1 h2
    rw [h1] at h2
    simp only [Option.some.injEq, Obj.cells.injEq] at h2
    obtain ⟨rfl, rfl, rfl⟩ := h2
    exact ⟨rfl, rfl, rfl, fun _ _ => rfl⟩
  · rename_i h1 h2
    rw [h1] at h2
    simp only [Option.some.injEq, Obj.map.injEq] at h2
    exact Or.inr ⟨h2.1.symm, h2.2.symm⟩
  · rfl
theorem le_frozen (le : Le S K w pubs w' M') {a : Addr} (ha : a.block < w.heap.size) : w'.frozen? a = w.frozen? a := by
  unfold World.frozen?
  rw [le_block le ha]
end
section
variable {H : Type} {enc : TypeId × Value → H} {P : Program}
theorem trodAll_stays (hl : laidOutB P = true) {w w' : World} {sp : Nat → Bool} : ∀ {ts : List TypeId} {vs : List Value} {ds : List (DataW H)} {ps : List MemPlace}, (∀ t ∈ ts, P.readableRec t = true ∧ t < P.types.size) →
    DataW.TrodAll enc P w 0 (fun _ => true) true ts vs ds ps → (∀ p ∈ ps, w.sameAt w' p) → (∀ p ∈ ps, sp p.block = true) → DataW.TrodAll enc P w' 0 sp true ts vs ds ps
  | [], [], [], _, _, h, _, _ => h
  | t :: ts, v :: vs, d :: ds, _, ht, ⟨p, q, h1, h2, e⟩, hs, hsp => by
    subst e
    have h0 := ht t List.mem_cons_self
    exact ⟨p, q, Go.WideElems.Trod_stays hl h0.1 h0.2 h1 (fun x hx => hs x (List.mem_append_left _ hx)) (fun x hx => hsp x (List.mem_append_left _ hx)),
      trodAll_stays hl (fun t h => ht t (List.mem_cons_of_mem _ h)) h2 (fun x hx => hs x (List.mem_append_right _ hx)) (fun x hx => hsp x (List.mem_append_right _ hx)), rfl⟩
theorem post_true {f : Func} {s : ChangeSpec} {apart fresh handsOn again : Bool} {W W' : World} {args : Array Value} {ds : List (DataW H)} {before : List MemPlace} {S K : Nat → Prop} {M' : Tags}
    (hl : laidOutB P = true) (hv : s.vars = []) (hrd : ∀ t ∈ f.params.toList, P.readableRec t = true ∧ t < P.types.size) {tb : TypeId} (htb : P.underlying tb = some .bool) (hrt : f.resultTypes = #[tb])
    (hW : DataW.Whole enc P f.params.toList s.vars apart W args.toList ds [] before) (hres : (s.fn H (ds ++ [])).results = [.lit (.bool true)]) (hargs : (s.fn H (ds ++ [])).args = ds) (hvars : (s.fn H (ds ++ [])).vars = [])
    (le : Le S K W pubs W' M') : s.post enc P f apart fresh handsOn again W args (.bool true) W' := by
  have hW0 := hW
  obtain ⟨p, q, hA, hV, hb, hfz, hn⟩ := hW0
  have hlt := DataW.TrodAll.lt hA
  have hq : q = [] := by rw [hv] at hV; exact (trodVars_none hV).2
  subst hq
  have hbp : before = p := by rw [hb]; simp
  have hre : ∀ (b : Nat) (sp : Nat → Bool) (hd : Bool), DataW.TrodAll enc P W' b sp hd f.resultTypes.toList ((Value.bool true).resultList f.resultTypes.size) (s.fn H (ds ++ [])).results [] := fun b sp hd => by
    rw [hrt, hres]; exact trodAll_mk1 (shut_bool htb true)
  have har : ∀ sp : Nat → Bool, (∀ x ∈ p, sp x.block = true) → DataW.TrodAll enc P W' 0 sp true f.params.toList args.toList (s.fn H (ds ++ [])).args p := fun sp hsp => by
    rw [hargs]; exact trodAll_stays hl hrd hA (fun x hx => le_same le (hlt x hx)) hsp
  have hva : ∀ sp : Nat → Bool, DataW.TrodVars enc P W' sp s.vars (s.fn H (ds ++ [])).vars [] := fun sp => by
    rw [hvars, hv]; exact rfl
  have hok : ∀ (j : Nat) (t : TypeId) (r : Value), f.resultTypes[j]? = some t → ((Value.bool true).resultList f.resultTypes.size)[j]? = some r → Value.okWide P W' .any 0 t r := by
    exact ok_one (by rw [hrt]) rfl (okWide_bool_mk htb true)
  refine ⟨ds, [], before, [], p, [], hW, hre _ _ _, har _ (fun x hx => by simpa using hlt x hx), hva _, World.keptBut_mono (fun x hx => hx) (le_kept le _), fun _ => ?_⟩
  refine ⟨hok, _, _, ([] ++ p) ++ [], ⟨[] ++ p, [], trodAll_append (har _ (fun _ _ => rfl)) (hre _ _ _), hva _, rfl, ?_, ?_⟩, ?_⟩
  · intro b off hp
    have hp' : MemPlace.cell b off ∈ p := by simpa using hp
    rw [le_frozen le (hlt _ hp')]
    exact hfz b off (by rw [hbp]; exact hp')
  · intro ha
    have := hn ha
    rw [hbp] at this
    simpa using this
  · intro x hx _
    rw [hbp]
    simpa using hx
end
end Go.T

namespace Go.Proofs.YtjjndkenddigiaaGreatDoor
open Go Go.T Go.RowKit Go.ChangeShapes Go.WideShapes Go.ChangeAt
abbrev laidL : List (String × DataW Unit) := [("math/bits.deBruijn32tab", Rows.laid_math_bits_deBruijn32tab), ("math/bits.deBruijn64tab", Rows.laid_math_bits_deBruijn64tab), ("internal/strconv.uint64pow10", Rows.laid_internal_strconv_uint64pow10)]
theorem gPow : Tryz.prog.globalNamed "internal/strconv.uint64pow10" = some 3 := by kernel_rfl
theorem tPow : (Tryz.prog.globals[3]?).map (·.type) = some 219 := by kernel_rfl
theorem uPow : Tryz.prog.underlying 219 = some (.array 20 188) := by kernel_rfl
theorem uPowE : Tryz.prog.underlying 188 = some (.int .u64) := by kernel_rfl
theorem arr_cells {H : Type} {enc : TypeId × Value → H} {W : World} {base : Nat} {spare : Nat → Bool} {held : Bool} {m n t : Nat} {k : IntKind} {cs : List Value} {xs : List (DataW H × List MemPlace)} {zs : List Int} (hE : Tryz.prog.underlying t = some (.int k)) (hc : Tryz.prog.cellsOf t = 1) (hlen : cs.length = n) (hxl : xs.length = n) (hzl : zs.length = n)
    (hel : ∀ i, i < n → DataW.trod enc Tryz.prog W base spare held m t ((cs.drop (i * Tryz.prog.cellsOf t)).take (Tryz.prog.cellsOf t)) = xs[i]?) (hx : xs.map (·.1) = zs.map fun z => .lit (.int k z)) : cs = zs.map fun z => .int k z := by
  apply List.ext_getElem (by simp [hlen, hzl])
  intro i h1 h2
  have hi : i < n := by omega
  have h := hel i hi
  rw [hc, Nat.mul_one, List.drop_eq_getElem_cons h1, List.take_succ_cons, List.take_zero, List.getElem?_eq_getElem (by omega)] at h
  obtain ⟨z, e1, e2, _⟩ := DataW.trod_int hE h
  have e3 : (xs.map (·.1))[i]? = some (.lit (.int k z)) := by rw [List.getElem?_map, List.getElem?_eq_getElem (by omega), e2]; rfl
  rw [hx, List.getElem?_map, List.getElem?_eq_getElem (by omega)] at e3
  simp only [Option.map_some, Option.some.injEq, DataW.lit.injEq, Lit.int.injEq, true_and] at e3
  have e4 : cs[i] = .int k z := by injection e1
  rw [e4, List.getElem_map, e3]
set_option maxRecDepth 100000 in
theorem amb_of {W : World} (h : laidMetH Tryz.prog laidL W) : Amb W pubs := by
  rw [MakeChecks.laidMetH_plain _ _ _ (by kernel_rfl)] at h
  obtain ⟨ps, ⟨_, _, _, _, _, _, _, _, _, _, ⟨_, _, _, _, _, _, _, _, _, _, ⟨g, t, cs, fu, p, q, hg, ht, hv, hd, _, _⟩, _⟩, _⟩, _⟩ := h
  obtain rfl := Option.some.inj (gPow.symm.trans hg)
  obtain rfl := Option.some.inj (tPow.symm.trans ht)
  obtain ⟨xs, m, _, hx, hlen, hn, hel⟩ := DataW.trod_array uPow hd
  have hE : Tryz.prog.cellsOf 188 = 1 := by kernel_rfl
  have hA : Tryz.prog.cellsOf 219 = 20 := by kernel_rfl
  simp only [Prod.mk.injEq] at hx
  have hcs : cs.toList = Lib.pow10Tab.map fun z => Value.int .u64 z := arr_cells uPowE hE (hlen.trans hA) hn rfl hel (by
    have h1 := hx.1
    injection h1 with h1
    exact h1.symm)
  intro x hx
  rw [List.mem_singleton.1 hx]
  refine ⟨rfl, ?_⟩
  simp only [World.var?, gPow, Option.bind_some] at hv
  split at hv
  · rename_i c T z hh
    injection hv with hv
    subst hv
    refine ⟨T, z, ?_⟩
    rw [hh]
    congr 2
    rw [← hcs]
  · cases hv
set_option maxRecDepth 100000 in
theorem door_met (os : Os) (args : Array Value) : laidMetH Tryz.prog laidL ((World.doorLaid Tryz.prog 2000 os).forCall (fun _ _ => 0) ⟨#[], args, []⟩).memory :=
  laidMetH_of_parts3 (fuel := 40) (laidMet_of_run' 40 (by kernel_rfl) (by kernel_rfl)) (by kernel_rfl) (by kernel_rfl)
def RI : Type := {n : Int // -9223372036854775808 ≤ n ∧ n ≤ 9223372036854775807}
def RIE : El RI := El.mk' 1 (fun x => [Ty.int .i64 x.1]) (fun _ => rfl) (fun _ => ⟨rfl, rfl, rfl⟩)
theorem rdRI : Rd Tryz.prog 3 RIE := ⟨by kernel_rfl, by decide, fun h => by
  obtain ⟨i, rfl, _, hw⟩ := DataW.trod_int Tryz.underlying3 h
  refine ⟨⟨i, ?_⟩, rfl, trivial⟩
  simp only [Lit.wf, Bool.and_eq_true, decide_eq_true_eq] at hw
  have e1 : IntKind.i64.min = -9223372036854775808 := rfl
  have e2 : IntKind.i64.max = 9223372036854775807 := rfl
  omega⟩
theorem sl_map {α β : Type} {E : El α} {E' : El β} (f : α → β) (hE : ∀ x, E.tys x = E'.tys (f x)) {xs : List α} {w : World} {M : Tags} {v : Value} (h : (Ty.sl E xs).den w M v) : (Ty.sl E' (xs.map f)).den w M v := by
  obtain ⟨A, c, e, h1, h2, h3⟩ := h
  have e1 : (xs.map f).flatMap E'.tys = xs.flatMap E.tys := by
    rw [List.flatMap_map]
    congr 1
    funext x
    exact (hE x).symm
  refine ⟨A, c, by rw [List.length_map]; exact e, by rw [List.length_map]; exact h1, h2, fun h0 => ?_⟩
  rw [List.length_map] at h0
  rw [e1]; exact h3 h0
def FrmE : El BForm := El.mk' 2 frmTys (fun _ => rfl) (fun _ => ⟨rfl, rfl, rfl⟩)
theorem of24 : Tryz.prog.cellsOf 24 = 2 := by kernel_rfl
theorem rdFrm : Rd Tryz.prog 24 FrmE := ⟨of24, by decide, fun h => by
  obtain ⟨c0, c1, y0, y1, m, rfl, h0, h1⟩ := rd_struct2 Tryz.underlying24 (by kernel_rfl) ⟨rfl, by kernel_rfl⟩ ⟨rfl, by kernel_rfl⟩ h
  obtain ⟨ws, hd⟩ := rd_sl1 rdRI Tryz.underlying22 h0
  obtain ⟨l, rfl⟩ := rd_int Tryz.underlying3 h1
  exact ⟨⟨ws.map Subtype.val, l⟩, sl_map (E' := I64) Subtype.val (fun _ => rfl) hd, rfl, trivial⟩⟩
section
variable {H : Type} {enc : TypeId × Value → H} {W : World} {base : Nat} {held : Bool} {v : Value} {d : DataW H} {p : List MemPlace}
set_option maxRecDepth 100000 in
theorem rd_frm (hv : Value.okWide Tryz.prog W .any base 24 v) (h : DataW.Trod enc Tryz.prog W 0 (fun _ => true) held 24 v d p) : ∃ f : BForm, (frmT f).den W pubs v := by
  obtain ⟨cs, rfl, hsz⟩ := okWide_struct Tryz.underlying24 hv
  obtain ⟨fuel, hf⟩ := h
  obtain ⟨x, hx⟩ := rdFrm.rd (cs := cs.toList) (by simpa [Value.cells] using hf)
  exact ⟨x, _, rfl, hx⟩
set_option maxRecDepth 100000 in
theorem rd_str (hv : Value.okWide Tryz.prog W .any base 9 v) (h : DataW.Trod enc Tryz.prog W 0 (fun _ => true) held 9 v d p) : ∃ l : Byt, (Ty.str (bs l)).den W pubs v := by
  obtain ⟨s, rfl, _⟩ := Go.ChangeMaps.open_string Tryz.underlying9 hv h
  exact ⟨s.data.toList, rfl⟩
end
end Go.Proofs.YtjjndkenddigiaaGreatDoor
