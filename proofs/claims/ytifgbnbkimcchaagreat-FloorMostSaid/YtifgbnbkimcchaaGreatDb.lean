/- Lemmas: the program and the reference walked, plain laws. -/
import Derived.Test.YtifgbnbkimcchaaGreatDa
namespace Go.Proofs.YtifgbnbkimcchaaGreat
open Go Go.T
attribute [local irreducible] dInt dBool dSl dPp dPtr dAgg dTup dClo dAny dEx dStr dGd dCells dVec dVs dRow dOp nth Tri Into TOps Ctr bodyPost Exit.then Exit.inBlock Code.wp Code.wpIn
set_option maxRecDepth 100000 in
theorem c_IndexFunc_int (l : List Int) (t : Ty) (h1 : t.one = true) (q : Int → Bool) (hd : t.deps = []) (hc : t.cdeps = []) (hf : ∀ x ∈ l, Cal Tryz.prog t [Ty.int .i64 x] (Ty.bool (q x))) : Ctr Tryz.prog 68 [Ty.sl I64 l, t] (Ty.int .i64 (fidx q l)) := by
  refine fn_intro Tryz.func68 rfl (by decide) Tryz.ntmps68 (by exact Nat.le_of_ble_eq_true rfl) fun w0 M0 => ?_
  refine t_fact (s := 0) rfl rfl sl_len fun hl => ?_
  refine t_seq ?_
  refine t_region ?_
  refine asI rfl ?_
  refine r_nil ?_
  refine i_then ?_
  refine t_seq ?_
  refine t_seq ?_
  refine t_region ?_
  refine mvS rfl ?_
  refine r_len rfl rfl rfl ?_
  refine mvI rfl ?_
  refine r_nil ?_
  refine i_then ?_
  refine t_block ?_
  refine t_loop (fun (k : {k : Nat // ∀ x ∈ l.take k, q x = false}) => live [(0, Ty.sl I64 l), (1, t), (7, Ty.int .i64 l.length), (8, Ty.int .i64 (k.1 : Nat))] []) (fun k => l.length - k.1) (⟨0, by simp⟩) ?_ fun k => ?_
  · (refine Ent.mk' ?_ ?_ <;> (repeat' (first | exact allSub_zero | exact allTags_nil | refine allSub_succ' ?_ (Ty.sub_any _) | refine allSub_succ' ?_ (Ty.sub_refl _))))
  ·
    refine t_seq ?_
    refine t_region ?_
    refine r_bin rfl rfl rfl ?_
    refine r_nil ?_
    refine i_then ?_
    refine t_seq ?_
    refine t_cond_dec rfl (fun hc1 => ?_) (fun hc1 => ?_)
    ·
      refine t_skip ?_
      refine i_then ?_
      refine t_seq ?_
      refine t_block ?_
      refine t_seq ?_
      refine t_region ?_
      refine mvI rfl ?_
      refine asI rfl ?_
      refine r_nil ?_
      refine i_then ?_
      refine t_seq ?_
      refine t_region ?_
      refine r_move (ty := t) rfl ?_
      refine mvS rfl ?_
      refine mvI rfl ?_
      refine r_index_slN rfl rfl rfl rfl rfl rfl (by omega) ?_
      refine r_load_pp rfl rfl rfl rfl ?_
      refine r_callc rfl (hf _ (nth_mem (by omega))) rfl ?_
      refine r_nil ?_
      refine i_then ?_
      refine t_cond rfl (fun hc2 => ?_) (fun hc2 => ?_)
      ·
        refine t_seq ?_
        refine t_region ?_
        refine mvI rfl ?_
        refine asI rfl ?_
        refine r_nil ?_
        refine i_then ?_
        refine t_ret ?_
        refine i_block_ret ?_
        refine i_then_ret ?_
        refine i_then_ret ?_
        refine i_block_ret ?_
        refine i_then_ret ?_
        refine i_rp1 rfl rfl ?_
        all_goals skip
        exact ret_eq rfl rfl (congrArg (Ty.int .i64) (fidx_found (by omega) k.2 (by rw [← nth_lt]; exact hc2)).symm)
      ·
        refine t_skip ?_
        refine i_block ?_
        refine i_then ?_
        refine t_region ?_
        refine r_add rfl rfl (by omega) (by omega) ?_
        refine mvI rfl ?_
        refine r_nil ?_
        refine i_round (⟨k.1 + 1, by rw [take_nth (by omega)]; intro x hx; rcases List.mem_append.1 hx with h | h; exact k.2 x h; rw [List.mem_singleton.1 h]; exact hc2⟩) ?_ (by show l.length - (k.1 + 1) < l.length - k.1; omega)
        (refine Ent.mk' ?_ ?_ <;> (repeat' (first | exact allSub_zero | exact allTags_nil | refine allSub_succ' ?_ (Ty.sub_any _) | refine allSub_succ' ?_ (Ty.sub_refl _))))
        all_goals skip
    ·
      refine t_exit ?_
      refine i_then_exit ?_
      refine i_then_exit ?_
      refine i_block_exit rfl ?_
      refine i_then ?_
      refine t_seq ?_
      refine t_region ?_
      refine asI rfl ?_
      refine r_nil ?_
      refine i_then ?_
      refine t_ret ?_
      refine i_rp1 rfl rfl ?_
      all_goals skip
      exact ret_eq rfl rfl (congrArg (Ty.int .i64) (fidx_none (by have := k.2; rwa [List.take_of_length_le (by omega)] at this)).symm)
set_option maxRecDepth 100000 in
theorem c_ContainsFunc_int (l : List Int) (t : Ty) (h1 : t.one = true) (q : Int → Bool) (hd : t.deps = []) (hc : t.cdeps = []) (hf : ∀ x ∈ l, Cal Tryz.prog t [Ty.int .i64 x] (Ty.bool (q x))) : Ctr Tryz.prog 22 [Ty.sl I64 l, t] (Ty.bool (l.any q)) := by
  refine fn_intro Tryz.func22 rfl (by decide) Tryz.ntmps22 (by exact Nat.le_of_ble_eq_true rfl) fun w0 M0 => ?_
  refine t_seq ?_
  refine t_region ?_
  refine asB rfl ?_
  refine r_nil ?_
  refine i_then ?_
  refine t_seq ?_
  refine t_region ?_
  refine mvS rfl ?_
  refine r_move (ty := t) rfl ?_
  refine r_call (c_IndexFunc_int l t h1 q hd hc hf) rfl (by exact deps_cons rfl (deps_cons hd rfl)) (by exact cdeps_cons rfl (cdeps_cons hc rfl)) rfl rfl ?_
  refine r_bin rfl rfl rfl ?_
  refine asB rfl ?_
  refine r_nil ?_
  refine i_then ?_
  refine t_ret ?_
  refine i_rp1 rfl rfl ?_
  all_goals skip
  exact ret_eq rfl rfl (congrArg Ty.bool (fidx_ge q l))
set_option maxRecDepth 100000 in
theorem c_every1_int (x : Int) (t : Ty) (h1 : t.one = true) (b : Bool) (hd : t.deps = []) (hc : t.cdeps = []) (hf : Cal Tryz.prog t [Ty.int .i64 x] (Ty.bool b)) : Ctr Tryz.prog 153 [Ty.int .i64 x, Ty.pp [t]] (Ty.bool (!b)) := by
  refine fn_intro Tryz.func153 rfl (by decide) Tryz.ntmps153 (by exact Nat.le_of_ble_eq_true rfl) fun w0 M0 => ?_
  refine t_seq ?_
  refine t_region ?_
  refine asB rfl ?_
  refine r_nil ?_
  refine i_then ?_
  refine t_seq ?_
  refine t_region ?_
  refine r_load_pp rfl rfl rfl rfl ?_
  refine mvI rfl ?_
  refine r_callc rfl hf rfl ?_
  refine r_not rfl ?_
  refine asB rfl ?_
  refine r_nil ?_
  refine i_then ?_
  refine t_ret ?_
  refine i_rp1 rfl rfl ?_
  all_goals exact ret_refl rfl rfl
set_option maxRecDepth 100000 in
theorem c_every_int (l : List Int) (t : Ty) (h1 : t.one = true) (q : Int → Bool) (hd : t.deps = []) (hc : t.cdeps = []) (hf : ∀ x ∈ l, Cal Tryz.prog t [Ty.int .i64 x] (Ty.bool (q x))) : Ctr Tryz.prog 122 [Ty.sl I64 l, t] (Ty.bool (l.all q)) := by
  refine fn_intro Tryz.func122 rfl (by decide) Tryz.ntmps122 (by exact Nat.le_of_ble_eq_true rfl) fun w0 M0 => ?_
  refine t_seq ?_
  refine t_region ?_
  refine r_box_one (ty := t) rfl h1 ?_
  refine asB rfl ?_
  refine r_nil ?_
  refine i_then ?_
  refine t_seq ?_
  refine t_region ?_
  refine mvS rfl ?_
  refine r_makeFunc rfl ?_
  refine r_call (c_ContainsFunc_int l (Ty.clo _ [Ty.pp [t]]) rfl (fun x => !q x) (by exact deps_cons (deps_cons hd rfl) rfl) (by exact cdeps_cons (cdeps_cons hc rfl) rfl) fun x hx => cal_clo (c_every1_int x t h1 (q x) hd hc (hf x hx)) rfl rfl (by exact deps_cons (deps_cons hd rfl) rfl) (by exact cdeps_cons (cdeps_cons hc rfl) rfl) rfl rfl) rfl (by exact deps_cons rfl (deps_cons (deps_cons (deps_cons hd rfl) rfl) rfl)) (by exact cdeps_cons rfl (cdeps_cons (cdeps_cons (cdeps_cons hc rfl) rfl) rfl)) rfl rfl ?_
  refine r_not rfl ?_
  refine asB rfl ?_
  refine r_nil ?_
  refine i_then ?_
  refine t_ret ?_
  refine i_rp1 rfl rfl ?_
  all_goals skip
  exact ret_eq rfl rfl (congrArg Ty.bool (any_not q l))
set_option maxRecDepth 100000 in
theorem c_IndexFunc_bin (l : List Bin) (t : Ty) (h1 : t.one = true) (q : Bin → Bool) (hd : t.deps = []) (hc : t.cdeps = []) (hf : ∀ x ∈ l, Cal Tryz.prog t [Ty.agg (BinE.tys x)] (Ty.bool (q x))) : Ctr Tryz.prog 146 [Ty.sl BinE l, t] (Ty.int .i64 (fidx q l)) := by
  refine fn_intro Tryz.func146 rfl (by decide) Tryz.ntmps146 (by exact Nat.le_of_ble_eq_true rfl) fun w0 M0 => ?_
  refine t_fact (s := 0) rfl rfl sl_len fun hl => ?_
  refine t_seq ?_
  refine t_region ?_
  refine asI rfl ?_
  refine r_nil ?_
  refine i_then ?_
  refine t_seq ?_
  refine t_seq ?_
  refine t_region ?_
  refine mvS rfl ?_
  refine r_len rfl rfl rfl ?_
  refine mvI rfl ?_
  refine r_nil ?_
  refine i_then ?_
  refine t_block ?_
  refine t_loop (fun (k : {k : Nat // ∀ x ∈ l.take k, q x = false}) => live [(0, Ty.sl BinE l), (1, t), (7, Ty.int .i64 l.length), (8, Ty.int .i64 (k.1 : Nat))] []) (fun k => l.length - k.1) (⟨0, by simp⟩) ?_ fun k => ?_
  · (refine Ent.mk' ?_ ?_ <;> (repeat' (first | exact allSub_zero | exact allTags_nil | refine allSub_succ' ?_ (Ty.sub_any _) | refine allSub_succ' ?_ (Ty.sub_refl _))))
  ·
    refine t_seq ?_
    refine t_region ?_
    refine r_bin rfl rfl rfl ?_
    refine r_nil ?_
    refine i_then ?_
    refine t_seq ?_
    refine t_cond_dec rfl (fun hc1 => ?_) (fun hc1 => ?_)
    ·
      refine t_skip ?_
      refine i_then ?_
      refine t_seq ?_
      refine t_block ?_
      refine t_seq ?_
      refine t_region ?_
      refine mvI rfl ?_
      refine asI rfl ?_
      refine r_nil ?_
      refine i_then ?_
      refine t_seq ?_
      refine t_region ?_
      refine r_move (ty := t) rfl ?_
      refine mvS rfl ?_
      refine mvI rfl ?_
      refine r_index_slN rfl rfl rfl rfl rfl rfl (by omega) ?_
      refine r_load_ppN rfl rfl rfl (by exact Nat.le_of_ble_eq_true rfl) ?_
      refine r_callc rfl (hf _ (nth_mem (by omega))) rfl ?_
      refine r_nil ?_
      refine i_then ?_
      refine t_cond rfl (fun hc2 => ?_) (fun hc2 => ?_)
      ·
        refine t_seq ?_
        refine t_region ?_
        refine mvI rfl ?_
        refine asI rfl ?_
        refine r_nil ?_
        refine i_then ?_
        refine t_ret ?_
        refine i_block_ret ?_
        refine i_then_ret ?_
        refine i_then_ret ?_
        refine i_block_ret ?_
        refine i_then_ret ?_
        refine i_rp1 rfl rfl ?_
        all_goals skip
        exact ret_eq rfl rfl (congrArg (Ty.int .i64) (fidx_found (by omega) k.2 (by rw [← nth_lt]; exact hc2)).symm)
      ·
        refine t_skip ?_
        refine i_block ?_
        refine i_then ?_
        refine t_region ?_
        refine r_add rfl rfl (by omega) (by omega) ?_
        refine mvI rfl ?_
        refine r_nil ?_
        refine i_round (⟨k.1 + 1, by rw [take_nth (by omega)]; intro x hx; rcases List.mem_append.1 hx with h | h; exact k.2 x h; rw [List.mem_singleton.1 h]; exact hc2⟩) ?_ (by show l.length - (k.1 + 1) < l.length - k.1; omega)
        (refine Ent.mk' ?_ ?_ <;> (repeat' (first | exact allSub_zero | exact allTags_nil | refine allSub_succ' ?_ (Ty.sub_any _) | refine allSub_succ' ?_ (Ty.sub_refl _))))
        all_goals skip
    ·
      refine t_exit ?_
      refine i_then_exit ?_
      refine i_then_exit ?_
      refine i_block_exit rfl ?_
      refine i_then ?_
      refine t_seq ?_
      refine t_region ?_
      refine asI rfl ?_
      refine r_nil ?_
      refine i_then ?_
      refine t_ret ?_
      refine i_rp1 rfl rfl ?_
      all_goals skip
      exact ret_eq rfl rfl (congrArg (Ty.int .i64) (fidx_none (by have := k.2; rwa [List.take_of_length_le (by omega)] at this)).symm)
set_option maxRecDepth 100000 in
theorem c_ContainsFunc_bin (l : List Bin) (t : Ty) (h1 : t.one = true) (q : Bin → Bool) (hd : t.deps = []) (hc : t.cdeps = []) (hf : ∀ x ∈ l, Cal Tryz.prog t [Ty.agg (BinE.tys x)] (Ty.bool (q x))) : Ctr Tryz.prog 96 [Ty.sl BinE l, t] (Ty.bool (l.any q)) := by
  refine fn_intro Tryz.func96 rfl (by decide) Tryz.ntmps96 (by exact Nat.le_of_ble_eq_true rfl) fun w0 M0 => ?_
  refine t_seq ?_
  refine t_region ?_
  refine asB rfl ?_
  refine r_nil ?_
  refine i_then ?_
  refine t_seq ?_
  refine t_region ?_
  refine mvS rfl ?_
  refine r_move (ty := t) rfl ?_
  refine r_call (c_IndexFunc_bin l t h1 q hd hc hf) rfl (by exact deps_cons rfl (deps_cons hd rfl)) (by exact cdeps_cons rfl (cdeps_cons hc rfl)) rfl rfl ?_
  refine r_bin rfl rfl rfl ?_
  refine asB rfl ?_
  refine r_nil ?_
  refine i_then ?_
  refine t_ret ?_
  refine i_rp1 rfl rfl ?_
  all_goals skip
  exact ret_eq rfl rfl (congrArg Ty.bool (fidx_ge q l))
set_option maxRecDepth 100000 in
theorem c_every1_bin (x : Bin) (t : Ty) (h1 : t.one = true) (b : Bool) (hd : t.deps = []) (hc : t.cdeps = []) (hf : Cal Tryz.prog t [Ty.agg (BinE.tys x)] (Ty.bool b)) : Ctr Tryz.prog 154 [Ty.agg (BinE.tys x), Ty.pp [t]] (Ty.bool (!b)) := by
  refine fn_intro Tryz.func154 rfl (by decide) Tryz.ntmps154 (by exact Nat.le_of_ble_eq_true rfl) fun w0 M0 => ?_
  refine t_seq ?_
  refine t_region ?_
  refine r_box_agg rfl ?_
  refine asB rfl ?_
  refine r_nil ?_
  refine i_then ?_
  refine t_seq ?_
  refine t_region ?_
  refine r_load_pp rfl rfl rfl rfl ?_
  refine r_load_ppN rfl rfl rfl (by exact Nat.le_of_ble_eq_true rfl) ?_
  refine r_callc rfl hf rfl ?_
  refine r_not rfl ?_
  refine asB rfl ?_
  refine r_nil ?_
  refine i_then ?_
  refine t_ret ?_
  refine i_rp1 rfl rfl ?_
  all_goals exact ret_refl rfl rfl
set_option maxRecDepth 100000 in
theorem c_every_bin (l : List Bin) (t : Ty) (h1 : t.one = true) (q : Bin → Bool) (hd : t.deps = []) (hc : t.cdeps = []) (hf : ∀ x ∈ l, Cal Tryz.prog t [Ty.agg (BinE.tys x)] (Ty.bool (q x))) : Ctr Tryz.prog 124 [Ty.sl BinE l, t] (Ty.bool (l.all q)) := by
  refine fn_intro Tryz.func124 rfl (by decide) Tryz.ntmps124 (by exact Nat.le_of_ble_eq_true rfl) fun w0 M0 => ?_
  refine t_seq ?_
  refine t_region ?_
  refine r_box_one (ty := t) rfl h1 ?_
  refine asB rfl ?_
  refine r_nil ?_
  refine i_then ?_
  refine t_seq ?_
  refine t_region ?_
  refine mvS rfl ?_
  refine r_makeFunc rfl ?_
  refine r_call (c_ContainsFunc_bin l (Ty.clo _ [Ty.pp [t]]) rfl (fun x => !q x) (by exact deps_cons (deps_cons hd rfl) rfl) (by exact cdeps_cons (cdeps_cons hc rfl) rfl) fun x hx => cal_clo (c_every1_bin x t h1 (q x) hd hc (hf x hx)) rfl rfl (by exact deps_cons (deps_cons hd rfl) rfl) (by exact cdeps_cons (cdeps_cons hc rfl) rfl) rfl rfl) rfl (by exact deps_cons rfl (deps_cons (deps_cons (deps_cons hd rfl) rfl) rfl)) (by exact cdeps_cons rfl (cdeps_cons (cdeps_cons (cdeps_cons hc rfl) rfl) rfl)) rfl rfl ?_
  refine r_not rfl ?_
  refine asB rfl ?_
  refine r_nil ?_
  refine i_then ?_
  refine t_ret ?_
  refine i_rp1 rfl rfl ?_
  all_goals skip
  exact ret_eq rfl rfl (congrArg Ty.bool (any_not q l))
set_option maxRecDepth 100000 in
theorem c_IndexFunc_trn (l : List Trn) (t : Ty) (h1 : t.one = true) (q : Trn → Bool) (hd : t.deps = []) (hc : t.cdeps = []) (hf : ∀ x ∈ l, Cal Tryz.prog t [Ty.agg (TrnE.tys x)] (Ty.bool (q x))) : Ctr Tryz.prog 162 [Ty.sl TrnE l, t] (Ty.int .i64 (fidx q l)) := by
  refine fn_intro Tryz.func162 rfl (by decide) Tryz.ntmps162 (by exact Nat.le_of_ble_eq_true rfl) fun w0 M0 => ?_
  refine t_fact (s := 0) rfl rfl sl_len fun hl => ?_
  refine t_seq ?_
  refine t_region ?_
  refine asI rfl ?_
  refine r_nil ?_
  refine i_then ?_
  refine t_seq ?_
  refine t_seq ?_
  refine t_region ?_
  refine mvS rfl ?_
  refine r_len rfl rfl rfl ?_
  refine mvI rfl ?_
  refine r_nil ?_
  refine i_then ?_
  refine t_block ?_
  refine t_loop (fun (k : {k : Nat // ∀ x ∈ l.take k, q x = false}) => live [(0, Ty.sl TrnE l), (1, t), (7, Ty.int .i64 l.length), (8, Ty.int .i64 (k.1 : Nat))] []) (fun k => l.length - k.1) (⟨0, by simp⟩) ?_ fun k => ?_
  · (refine Ent.mk' ?_ ?_ <;> (repeat' (first | exact allSub_zero | exact allTags_nil | refine allSub_succ' ?_ (Ty.sub_any _) | refine allSub_succ' ?_ (Ty.sub_refl _))))
  ·
    refine t_seq ?_
    refine t_region ?_
    refine r_bin rfl rfl rfl ?_
    refine r_nil ?_
    refine i_then ?_
    refine t_seq ?_
    refine t_cond_dec rfl (fun hc1 => ?_) (fun hc1 => ?_)
    ·
      refine t_skip ?_
      refine i_then ?_
      refine t_seq ?_
      refine t_block ?_
      refine t_seq ?_
      refine t_region ?_
      refine mvI rfl ?_
      refine asI rfl ?_
      refine r_nil ?_
      refine i_then ?_
      refine t_seq ?_
      refine t_region ?_
      refine r_move (ty := t) rfl ?_
      refine mvS rfl ?_
      refine mvI rfl ?_
      refine r_index_slN rfl rfl rfl rfl rfl rfl (by omega) ?_
      refine r_load_ppN rfl rfl rfl (by exact Nat.le_of_ble_eq_true rfl) ?_
      refine r_callc rfl (hf _ (nth_mem (by omega))) rfl ?_
      refine r_nil ?_
      refine i_then ?_
      refine t_cond rfl (fun hc2 => ?_) (fun hc2 => ?_)
      ·
        refine t_seq ?_
        refine t_region ?_
        refine mvI rfl ?_
        refine asI rfl ?_
        refine r_nil ?_
        refine i_then ?_
        refine t_ret ?_
        refine i_block_ret ?_
        refine i_then_ret ?_
        refine i_then_ret ?_
        refine i_block_ret ?_
        refine i_then_ret ?_
        refine i_rp1 rfl rfl ?_
        all_goals skip
        exact ret_eq rfl rfl (congrArg (Ty.int .i64) (fidx_found (by omega) k.2 (by rw [← nth_lt]; exact hc2)).symm)
      ·
        refine t_skip ?_
        refine i_block ?_
        refine i_then ?_
        refine t_region ?_
        refine r_add rfl rfl (by omega) (by omega) ?_
        refine mvI rfl ?_
        refine r_nil ?_
        refine i_round (⟨k.1 + 1, by rw [take_nth (by omega)]; intro x hx; rcases List.mem_append.1 hx with h | h; exact k.2 x h; rw [List.mem_singleton.1 h]; exact hc2⟩) ?_ (by show l.length - (k.1 + 1) < l.length - k.1; omega)
        (refine Ent.mk' ?_ ?_ <;> (repeat' (first | exact allSub_zero | exact allTags_nil | refine allSub_succ' ?_ (Ty.sub_any _) | refine allSub_succ' ?_ (Ty.sub_refl _))))
        all_goals skip
    ·
      refine t_exit ?_
      refine i_then_exit ?_
      refine i_then_exit ?_
      refine i_block_exit rfl ?_
      refine i_then ?_
      refine t_seq ?_
      refine t_region ?_
      refine asI rfl ?_
      refine r_nil ?_
      refine i_then ?_
      refine t_ret ?_
      refine i_rp1 rfl rfl ?_
      all_goals skip
      exact ret_eq rfl rfl (congrArg (Ty.int .i64) (fidx_none (by have := k.2; rwa [List.take_of_length_le (by omega)] at this)).symm)
set_option maxRecDepth 100000 in
theorem c_ContainsFunc_trn (l : List Trn) (t : Ty) (h1 : t.one = true) (q : Trn → Bool) (hd : t.deps = []) (hc : t.cdeps = []) (hf : ∀ x ∈ l, Cal Tryz.prog t [Ty.agg (TrnE.tys x)] (Ty.bool (q x))) : Ctr Tryz.prog 155 [Ty.sl TrnE l, t] (Ty.bool (l.any q)) := by
  refine fn_intro Tryz.func155 rfl (by decide) Tryz.ntmps155 (by exact Nat.le_of_ble_eq_true rfl) fun w0 M0 => ?_
  refine t_seq ?_
  refine t_region ?_
  refine asB rfl ?_
  refine r_nil ?_
  refine i_then ?_
  refine t_seq ?_
  refine t_region ?_
  refine mvS rfl ?_
  refine r_move (ty := t) rfl ?_
  refine r_call (c_IndexFunc_trn l t h1 q hd hc hf) rfl (by exact deps_cons rfl (deps_cons hd rfl)) (by exact cdeps_cons rfl (cdeps_cons hc rfl)) rfl rfl ?_
  refine r_bin rfl rfl rfl ?_
  refine asB rfl ?_
  refine r_nil ?_
  refine i_then ?_
  refine t_ret ?_
  refine i_rp1 rfl rfl ?_
  all_goals skip
  exact ret_eq rfl rfl (congrArg Ty.bool (fidx_ge q l))
set_option maxRecDepth 100000 in
theorem c_every1_trn (x : Trn) (t : Ty) (h1 : t.one = true) (b : Bool) (hd : t.deps = []) (hc : t.cdeps = []) (hf : Cal Tryz.prog t [Ty.agg (TrnE.tys x)] (Ty.bool b)) : Ctr Tryz.prog 156 [Ty.agg (TrnE.tys x), Ty.pp [t]] (Ty.bool (!b)) := by
  refine fn_intro Tryz.func156 rfl (by decide) Tryz.ntmps156 (by exact Nat.le_of_ble_eq_true rfl) fun w0 M0 => ?_
  refine t_seq ?_
  refine t_region ?_
  refine r_box_agg rfl ?_
  refine asB rfl ?_
  refine r_nil ?_
  refine i_then ?_
  refine t_seq ?_
  refine t_region ?_
  refine r_load_pp rfl rfl rfl rfl ?_
  refine r_load_ppN rfl rfl rfl (by exact Nat.le_of_ble_eq_true rfl) ?_
  refine r_callc rfl hf rfl ?_
  refine r_not rfl ?_
  refine asB rfl ?_
  refine r_nil ?_
  refine i_then ?_
  refine t_ret ?_
  refine i_rp1 rfl rfl ?_
  all_goals exact ret_refl rfl rfl
set_option maxRecDepth 100000 in
theorem c_every_trn (l : List Trn) (t : Ty) (h1 : t.one = true) (q : Trn → Bool) (hd : t.deps = []) (hc : t.cdeps = []) (hf : ∀ x ∈ l, Cal Tryz.prog t [Ty.agg (TrnE.tys x)] (Ty.bool (q x))) : Ctr Tryz.prog 127 [Ty.sl TrnE l, t] (Ty.bool (l.all q)) := by
  refine fn_intro Tryz.func127 rfl (by decide) Tryz.ntmps127 (by exact Nat.le_of_ble_eq_true rfl) fun w0 M0 => ?_
  refine t_seq ?_
  refine t_region ?_
  refine r_box_one (ty := t) rfl h1 ?_
  refine asB rfl ?_
  refine r_nil ?_
  refine i_then ?_
  refine t_seq ?_
  refine t_region ?_
  refine mvS rfl ?_
  refine r_makeFunc rfl ?_
  refine r_call (c_ContainsFunc_trn l (Ty.clo _ [Ty.pp [t]]) rfl (fun x => !q x) (by exact deps_cons (deps_cons hd rfl) rfl) (by exact cdeps_cons (cdeps_cons hc rfl) rfl) fun x hx => cal_clo (c_every1_trn x t h1 (q x) hd hc (hf x hx)) rfl rfl (by exact deps_cons (deps_cons hd rfl) rfl) (by exact cdeps_cons (cdeps_cons hc rfl) rfl) rfl rfl) rfl (by exact deps_cons rfl (deps_cons (deps_cons (deps_cons hd rfl) rfl) rfl)) (by exact cdeps_cons rfl (cdeps_cons (cdeps_cons (cdeps_cons hc rfl) rfl) rfl)) rfl rfl ?_
  refine r_not rfl ?_
  refine asB rfl ?_
  refine r_nil ?_
  refine i_then ?_
  refine t_ret ?_
  refine i_rp1 rfl rfl ?_
  all_goals skip
  exact ret_eq rfl rfl (congrArg Ty.bool (any_not q l))
set_option maxRecDepth 100000 in
theorem c_IndexFunc_rul (l : List Rul) (t : Ty) (h1 : t.one = true) (q : Rul → Bool) (hd : t.deps = []) (hc : t.cdeps = []) (hf : ∀ x ∈ l, Cal Tryz.prog t [Ty.agg (RulE.tys x)] (Ty.bool (q x))) : Ctr Tryz.prog 160 [Ty.sl RulE l, t] (Ty.int .i64 (fidx q l)) := by
  refine fn_intro Tryz.func160 rfl (by decide) Tryz.ntmps160 (by exact Nat.le_of_ble_eq_true rfl) fun w0 M0 => ?_
  refine t_fact (s := 0) rfl rfl sl_len fun hl => ?_
  refine t_seq ?_
  refine t_region ?_
  refine asI rfl ?_
  refine r_nil ?_
  refine i_then ?_
  refine t_seq ?_
  refine t_seq ?_
  refine t_region ?_
  refine mvS rfl ?_
  refine r_len rfl rfl rfl ?_
  refine mvI rfl ?_
  refine r_nil ?_
  refine i_then ?_
  refine t_block ?_
  refine t_loop (fun (k : {k : Nat // ∀ x ∈ l.take k, q x = false}) => live [(0, Ty.sl RulE l), (1, t), (7, Ty.int .i64 l.length), (8, Ty.int .i64 (k.1 : Nat))] []) (fun k => l.length - k.1) (⟨0, by simp⟩) ?_ fun k => ?_
  · (refine Ent.mk' ?_ ?_ <;> (repeat' (first | exact allSub_zero | exact allTags_nil | refine allSub_succ' ?_ (Ty.sub_any _) | refine allSub_succ' ?_ (Ty.sub_refl _))))
  ·
    refine t_seq ?_
    refine t_region ?_
    refine r_bin rfl rfl rfl ?_
    refine r_nil ?_
    refine i_then ?_
    refine t_seq ?_
    refine t_cond_dec rfl (fun hc1 => ?_) (fun hc1 => ?_)
    ·
      refine t_skip ?_
      refine i_then ?_
      refine t_seq ?_
      refine t_block ?_
      refine t_seq ?_
      refine t_region ?_
      refine mvI rfl ?_
      refine asI rfl ?_
      refine r_nil ?_
      refine i_then ?_
      refine t_seq ?_
      refine t_region ?_
      refine r_move (ty := t) rfl ?_
      refine mvS rfl ?_
      refine mvI rfl ?_
      refine r_index_slN rfl rfl rfl rfl rfl rfl (by omega) ?_
      refine r_load_ppN rfl rfl rfl (by exact Nat.le_of_ble_eq_true rfl) ?_
      refine r_callc rfl (hf _ (nth_mem (by omega))) rfl ?_
      refine r_nil ?_
      refine i_then ?_
      refine t_cond rfl (fun hc2 => ?_) (fun hc2 => ?_)
      ·
        refine t_seq ?_
        refine t_region ?_
        refine mvI rfl ?_
        refine asI rfl ?_
        refine r_nil ?_
        refine i_then ?_
        refine t_ret ?_
        refine i_block_ret ?_
        refine i_then_ret ?_
        refine i_then_ret ?_
        refine i_block_ret ?_
        refine i_then_ret ?_
        refine i_rp1 rfl rfl ?_
        all_goals skip
        exact ret_eq rfl rfl (congrArg (Ty.int .i64) (fidx_found (by omega) k.2 (by rw [← nth_lt]; exact hc2)).symm)
      ·
        refine t_skip ?_
        refine i_block ?_
        refine i_then ?_
        refine t_region ?_
        refine r_add rfl rfl (by omega) (by omega) ?_
        refine mvI rfl ?_
        refine r_nil ?_
        refine i_round (⟨k.1 + 1, by rw [take_nth (by omega)]; intro x hx; rcases List.mem_append.1 hx with h | h; exact k.2 x h; rw [List.mem_singleton.1 h]; exact hc2⟩) ?_ (by show l.length - (k.1 + 1) < l.length - k.1; omega)
        (refine Ent.mk' ?_ ?_ <;> (repeat' (first | exact allSub_zero | exact allTags_nil | refine allSub_succ' ?_ (Ty.sub_any _) | refine allSub_succ' ?_ (Ty.sub_refl _))))
        all_goals skip
    ·
      refine t_exit ?_
      refine i_then_exit ?_
      refine i_then_exit ?_
      refine i_block_exit rfl ?_
      refine i_then ?_
      refine t_seq ?_
      refine t_region ?_
      refine asI rfl ?_
      refine r_nil ?_
      refine i_then ?_
      refine t_ret ?_
      refine i_rp1 rfl rfl ?_
      all_goals skip
      exact ret_eq rfl rfl (congrArg (Ty.int .i64) (fidx_none (by have := k.2; rwa [List.take_of_length_le (by omega)] at this)).symm)
set_option maxRecDepth 100000 in
theorem c_ContainsFunc_rul (l : List Rul) (t : Ty) (h1 : t.one = true) (q : Rul → Bool) (hd : t.deps = []) (hc : t.cdeps = []) (hf : ∀ x ∈ l, Cal Tryz.prog t [Ty.agg (RulE.tys x)] (Ty.bool (q x))) : Ctr Tryz.prog 142 [Ty.sl RulE l, t] (Ty.bool (l.any q)) := by
  refine fn_intro Tryz.func142 rfl (by decide) Tryz.ntmps142 (by exact Nat.le_of_ble_eq_true rfl) fun w0 M0 => ?_
  refine t_seq ?_
  refine t_region ?_
  refine asB rfl ?_
  refine r_nil ?_
  refine i_then ?_
  refine t_seq ?_
  refine t_region ?_
  refine mvS rfl ?_
  refine r_move (ty := t) rfl ?_
  refine r_call (c_IndexFunc_rul l t h1 q hd hc hf) rfl (by exact deps_cons rfl (deps_cons hd rfl)) (by exact cdeps_cons rfl (cdeps_cons hc rfl)) rfl rfl ?_
  refine r_bin rfl rfl rfl ?_
  refine asB rfl ?_
  refine r_nil ?_
  refine i_then ?_
  refine t_ret ?_
  refine i_rp1 rfl rfl ?_
  all_goals skip
  exact ret_eq rfl rfl (congrArg Ty.bool (fidx_ge q l))
set_option maxRecDepth 100000 in
theorem c_every1_rul (x : Rul) (t : Ty) (h1 : t.one = true) (b : Bool) (hd : t.deps = []) (hc : t.cdeps = []) (hf : Cal Tryz.prog t [Ty.agg (RulE.tys x)] (Ty.bool b)) : Ctr Tryz.prog 157 [Ty.agg (RulE.tys x), Ty.pp [t]] (Ty.bool (!b)) := by
  refine fn_intro Tryz.func157 rfl (by decide) Tryz.ntmps157 (by exact Nat.le_of_ble_eq_true rfl) fun w0 M0 => ?_
  refine t_seq ?_
  refine t_region ?_
  refine r_box_agg rfl ?_
  refine asB rfl ?_
  refine r_nil ?_
  refine i_then ?_
  refine t_seq ?_
  refine t_region ?_
  refine r_load_pp rfl rfl rfl rfl ?_
  refine r_load_ppN rfl rfl rfl (by exact Nat.le_of_ble_eq_true rfl) ?_
  refine r_callc rfl hf rfl ?_
  refine r_not rfl ?_
  refine asB rfl ?_
  refine r_nil ?_
  refine i_then ?_
  refine t_ret ?_
  refine i_rp1 rfl rfl ?_
  all_goals exact ret_refl rfl rfl
set_option maxRecDepth 100000 in
theorem c_every_rul (l : List Rul) (t : Ty) (h1 : t.one = true) (q : Rul → Bool) (hd : t.deps = []) (hc : t.cdeps = []) (hf : ∀ x ∈ l, Cal Tryz.prog t [Ty.agg (RulE.tys x)] (Ty.bool (q x))) : Ctr Tryz.prog 133 [Ty.sl RulE l, t] (Ty.bool (l.all q)) := by
  refine fn_intro Tryz.func133 rfl (by decide) Tryz.ntmps133 (by exact Nat.le_of_ble_eq_true rfl) fun w0 M0 => ?_
  refine t_seq ?_
  refine t_region ?_
  refine r_box_one (ty := t) rfl h1 ?_
  refine asB rfl ?_
  refine r_nil ?_
  refine i_then ?_
  refine t_seq ?_
  refine t_region ?_
  refine mvS rfl ?_
  refine r_makeFunc rfl ?_
  refine r_call (c_ContainsFunc_rul l (Ty.clo _ [Ty.pp [t]]) rfl (fun x => !q x) (by exact deps_cons (deps_cons hd rfl) rfl) (by exact cdeps_cons (cdeps_cons hc rfl) rfl) fun x hx => cal_clo (c_every1_rul x t h1 (q x) hd hc (hf x hx)) rfl rfl (by exact deps_cons (deps_cons hd rfl) rfl) (by exact cdeps_cons (cdeps_cons hc rfl) rfl) rfl rfl) rfl (by exact deps_cons rfl (deps_cons (deps_cons (deps_cons hd rfl) rfl) rfl)) (by exact cdeps_cons rfl (cdeps_cons (cdeps_cons (cdeps_cons hc rfl) rfl) rfl)) rfl rfl ?_
  refine r_not rfl ?_
  refine asB rfl ?_
  refine r_nil ?_
  refine i_then ?_
  refine t_ret ?_
  refine i_rp1 rfl rfl ?_
  all_goals skip
  exact ret_eq rfl rfl (congrArg Ty.bool (any_not q l))
set_option maxRecDepth 100000 in
theorem c_IndexFunc_pay (l : List Pay) (t : Ty) (h1 : t.one = true) (q : Pay → Bool) (hd : t.deps = []) (hc : t.cdeps = []) (hf : ∀ x ∈ l, Cal Tryz.prog t [Ty.agg (PayE.tys x)] (Ty.bool (q x))) : Ctr Tryz.prog 161 [Ty.sl PayE l, t] (Ty.int .i64 (fidx q l)) := by
  refine fn_intro Tryz.func161 rfl (by decide) Tryz.ntmps161 (by exact Nat.le_of_ble_eq_true rfl) fun w0 M0 => ?_
  refine t_fact (s := 0) rfl rfl sl_len fun hl => ?_
  refine t_seq ?_
  refine t_region ?_
  refine asI rfl ?_
  refine r_nil ?_
  refine i_then ?_
  refine t_seq ?_
  refine t_seq ?_
  refine t_region ?_
  refine mvS rfl ?_
  refine r_len rfl rfl rfl ?_
  refine mvI rfl ?_
  refine r_nil ?_
  refine i_then ?_
  refine t_block ?_
  refine t_loop (fun (k : {k : Nat // ∀ x ∈ l.take k, q x = false}) => live [(0, Ty.sl PayE l), (1, t), (7, Ty.int .i64 l.length), (8, Ty.int .i64 (k.1 : Nat))] []) (fun k => l.length - k.1) (⟨0, by simp⟩) ?_ fun k => ?_
  · (refine Ent.mk' ?_ ?_ <;> (repeat' (first | exact allSub_zero | exact allTags_nil | refine allSub_succ' ?_ (Ty.sub_any _) | refine allSub_succ' ?_ (Ty.sub_refl _))))
  ·
    refine t_seq ?_
    refine t_region ?_
    refine r_bin rfl rfl rfl ?_
    refine r_nil ?_
    refine i_then ?_
    refine t_seq ?_
    refine t_cond_dec rfl (fun hc1 => ?_) (fun hc1 => ?_)
    ·
      refine t_skip ?_
      refine i_then ?_
      refine t_seq ?_
      refine t_block ?_
      refine t_seq ?_
      refine t_region ?_
      refine mvI rfl ?_
      refine asI rfl ?_
      refine r_nil ?_
      refine i_then ?_
      refine t_seq ?_
      refine t_region ?_
      refine r_move (ty := t) rfl ?_
      refine mvS rfl ?_
      refine mvI rfl ?_
      refine r_index_slN rfl rfl rfl rfl rfl rfl (by omega) ?_
      refine r_load_ppN rfl rfl rfl (by exact Nat.le_of_ble_eq_true rfl) ?_
      refine r_callc rfl (hf _ (nth_mem (by omega))) rfl ?_
      refine r_nil ?_
      refine i_then ?_
      refine t_cond rfl (fun hc2 => ?_) (fun hc2 => ?_)
      ·
        refine t_seq ?_
        refine t_region ?_
        refine mvI rfl ?_
        refine asI rfl ?_
        refine r_nil ?_
        refine i_then ?_
        refine t_ret ?_
        refine i_block_ret ?_
        refine i_then_ret ?_
        refine i_then_ret ?_
        refine i_block_ret ?_
        refine i_then_ret ?_
        refine i_rp1 rfl rfl ?_
        all_goals skip
        exact ret_eq rfl rfl (congrArg (Ty.int .i64) (fidx_found (by omega) k.2 (by rw [← nth_lt]; exact hc2)).symm)
      ·
        refine t_skip ?_
        refine i_block ?_
        refine i_then ?_
        refine t_region ?_
        refine r_add rfl rfl (by omega) (by omega) ?_
        refine mvI rfl ?_
        refine r_nil ?_
        refine i_round (⟨k.1 + 1, by rw [take_nth (by omega)]; intro x hx; rcases List.mem_append.1 hx with h | h; exact k.2 x h; rw [List.mem_singleton.1 h]; exact hc2⟩) ?_ (by show l.length - (k.1 + 1) < l.length - k.1; omega)
        (refine Ent.mk' ?_ ?_ <;> (repeat' (first | exact allSub_zero | exact allTags_nil | refine allSub_succ' ?_ (Ty.sub_any _) | refine allSub_succ' ?_ (Ty.sub_refl _))))
        all_goals skip
    ·
      refine t_exit ?_
      refine i_then_exit ?_
      refine i_then_exit ?_
      refine i_block_exit rfl ?_
      refine i_then ?_
      refine t_seq ?_
      refine t_region ?_
      refine asI rfl ?_
      refine r_nil ?_
      refine i_then ?_
      refine t_ret ?_
      refine i_rp1 rfl rfl ?_
      all_goals skip
      exact ret_eq rfl rfl (congrArg (Ty.int .i64) (fidx_none (by have := k.2; rwa [List.take_of_length_le (by omega)] at this)).symm)
set_option maxRecDepth 100000 in
theorem c_ContainsFunc_pay (l : List Pay) (t : Ty) (h1 : t.one = true) (q : Pay → Bool) (hd : t.deps = []) (hc : t.cdeps = []) (hf : ∀ x ∈ l, Cal Tryz.prog t [Ty.agg (PayE.tys x)] (Ty.bool (q x))) : Ctr Tryz.prog 144 [Ty.sl PayE l, t] (Ty.bool (l.any q)) := by
  refine fn_intro Tryz.func144 rfl (by decide) Tryz.ntmps144 (by exact Nat.le_of_ble_eq_true rfl) fun w0 M0 => ?_
  refine t_seq ?_
  refine t_region ?_
  refine asB rfl ?_
  refine r_nil ?_
  refine i_then ?_
  refine t_seq ?_
  refine t_region ?_
  refine mvS rfl ?_
  refine r_move (ty := t) rfl ?_
  refine r_call (c_IndexFunc_pay l t h1 q hd hc hf) rfl (by exact deps_cons rfl (deps_cons hd rfl)) (by exact cdeps_cons rfl (cdeps_cons hc rfl)) rfl rfl ?_
  refine r_bin rfl rfl rfl ?_
  refine asB rfl ?_
  refine r_nil ?_
  refine i_then ?_
  refine t_ret ?_
  refine i_rp1 rfl rfl ?_
  all_goals skip
  exact ret_eq rfl rfl (congrArg Ty.bool (fidx_ge q l))
set_option maxRecDepth 100000 in
theorem c_every1_pay (x : Pay) (t : Ty) (h1 : t.one = true) (b : Bool) (hd : t.deps = []) (hc : t.cdeps = []) (hf : Cal Tryz.prog t [Ty.agg (PayE.tys x)] (Ty.bool b)) : Ctr Tryz.prog 145 [Ty.agg (PayE.tys x), Ty.pp [t]] (Ty.bool (!b)) := by
  refine fn_intro Tryz.func145 rfl (by decide) Tryz.ntmps145 (by exact Nat.le_of_ble_eq_true rfl) fun w0 M0 => ?_
  refine t_seq ?_
  refine t_region ?_
  refine r_box_agg rfl ?_
  refine asB rfl ?_
  refine r_nil ?_
  refine i_then ?_
  refine t_seq ?_
  refine t_region ?_
  refine r_load_pp rfl rfl rfl rfl ?_
  refine r_load_ppN rfl rfl rfl (by exact Nat.le_of_ble_eq_true rfl) ?_
  refine r_callc rfl hf rfl ?_
  refine r_not rfl ?_
  refine asB rfl ?_
  refine r_nil ?_
  refine i_then ?_
  refine t_ret ?_
  refine i_rp1 rfl rfl ?_
  all_goals exact ret_refl rfl rfl
set_option maxRecDepth 100000 in
theorem c_every_pay (l : List Pay) (t : Ty) (h1 : t.one = true) (q : Pay → Bool) (hd : t.deps = []) (hc : t.cdeps = []) (hf : ∀ x ∈ l, Cal Tryz.prog t [Ty.agg (PayE.tys x)] (Ty.bool (q x))) : Ctr Tryz.prog 89 [Ty.sl PayE l, t] (Ty.bool (l.all q)) := by
  refine fn_intro Tryz.func89 rfl (by decide) Tryz.ntmps89 (by exact Nat.le_of_ble_eq_true rfl) fun w0 M0 => ?_
  refine t_seq ?_
  refine t_region ?_
  refine r_box_one (ty := t) rfl h1 ?_
  refine asB rfl ?_
  refine r_nil ?_
  refine i_then ?_
  refine t_seq ?_
  refine t_region ?_
  refine mvS rfl ?_
  refine r_makeFunc rfl ?_
  refine r_call (c_ContainsFunc_pay l (Ty.clo _ [Ty.pp [t]]) rfl (fun x => !q x) (by exact deps_cons (deps_cons hd rfl) rfl) (by exact cdeps_cons (cdeps_cons hc rfl) rfl) fun x hx => cal_clo (c_every1_pay x t h1 (q x) hd hc (hf x hx)) rfl rfl (by exact deps_cons (deps_cons hd rfl) rfl) (by exact cdeps_cons (cdeps_cons hc rfl) rfl) rfl rfl) rfl (by exact deps_cons rfl (deps_cons (deps_cons (deps_cons hd rfl) rfl) rfl)) (by exact cdeps_cons rfl (cdeps_cons (cdeps_cons (cdeps_cons hc rfl) rfl) rfl)) rfl rfl ?_
  refine r_not rfl ?_
  refine asB rfl ?_
  refine r_nil ?_
  refine i_then ?_
  refine t_ret ?_
  refine i_rp1 rfl rfl ?_
  all_goals skip
  exact ret_eq rfl rfl (congrArg Ty.bool (any_not q l))
end Go.Proofs.YtifgbnbkimcchaaGreat

namespace Go.Proofs.YtifgbnbkimcchaaGreat
open Go Go.T
attribute [local irreducible] dInt dBool dSl dPp dPtr dAgg dTup dClo dAny dEx dStr dGd dCells dVec dVs dRow dOp nth Tri Into TOps Ctr bodyPost Exit.then Exit.inBlock Code.wp Code.wpIn
theorem trn_eq (a b : Trn) : (decide (a.src = b.src) && (decide (a.dst = b.dst) && decide (a.sacks = b.sacks))) = decide (a = b) := by
  cases a; cases b; simp [Bool.decide_and]
theorem rul_eq (a b : Rul) : (decide (a.fst = b.fst) && decide (a.nxt = b.nxt)) = decide (a = b) := by
  cases a; cases b; simp [Bool.decide_and]
theorem not_b {b : Bool} (h : (!b) = true) : b = false := by cases b <;> first | rfl | cases h
theorem not_not_b {b : Bool} (h : (!b) = false) : b = true := by cases b <;> first | rfl | cases h
theorem ne_of_nth {α : Type} [Inhabited α] {a b : List α} {k : Nat} (h : nth a k ≠ nth b k) : a ≠ b := fun e => h (by rw [e])
structure Flr.Small (f : Flr) : Prop where
  bears : f.bears.length ≤ 8
  bins : f.bins.length ≤ 9
  turnings : f.turnings.length ≤ 11
  rules : f.rules.length ≤ 21
  shares : ∀ b ∈ f.bins, b.shares.length ≤ 8
set_option maxRecDepth 100000 in
theorem c_Dup_int (l : List Int) (h : l.length ≤ 1000) : Ctr Tryz.prog 52 [Ty.sl I64 l] (Ty.sl I64 l) := by
  refine fn_intro Tryz.func52 rfl (by decide) Tryz.ntmps52 (by exact Nat.le_of_ble_eq_true rfl) fun w0 M0 => ?_
  refine t_seq ?_
  refine t_region ?_
  refine asX rfl ?_
  refine r_nil ?_
  refine i_then ?_
  refine t_seq ?_
  refine t_region ?_
  refine mvS rfl ?_
  refine r_len rfl rfl rfl ?_
  refine r_make0 (E := I64) rfl rfl rfl rfl rfl rfl rfl (by decide) rfl (by omega) (by (dsimp only; omega)) (by omega) ?_
  refine mvS rfl ?_
  refine r_append rfl rfl (by decide) rfl rfl rfl rfl rfl rfl (by decide) (by (simp <;> omega)) (by (simp <;> omega)) ?_
  refine asR rfl ?_
  refine r_nil ?_
  refine i_then ?_
  refine t_ret ?_
  refine i_rp1 rfl rfl ?_
  all_goals exact ret_row (by decide)
set_option maxRecDepth 100000 in
theorem c_Equal_int (a b : List Int) : Ctr Tryz.prog 51 [Ty.sl I64 a, Ty.sl I64 b] (Ty.bool (decide (a = b))) := by
  refine fn_intro Tryz.func51 rfl (by decide) Tryz.ntmps51 (by exact Nat.le_of_ble_eq_true rfl) fun w0 M0 => ?_
  refine t_fact (s := 0) rfl rfl sl_len fun ha => ?_
  refine t_fact (s := 1) rfl rfl sl_len fun hb => ?_
  refine t_seq ?_
  refine t_region ?_
  refine asB rfl ?_
  refine r_nil ?_
  refine i_then ?_
  refine t_seq ?_
  refine t_seq ?_
  refine t_region ?_
  refine mvS rfl ?_
  refine r_len rfl rfl rfl ?_
  refine mvS rfl ?_
  refine r_len rfl rfl rfl ?_
  refine r_bin rfl rfl rfl ?_
  refine r_nil ?_
  refine i_then ?_
  refine t_cond_ndec rfl (fun hc1 => ?_) (fun hc1 => ?_)
  ·
    try (simp only [Classical.not_not] at hc1)
    refine t_seq ?_
    refine t_region ?_
    refine asB rfl ?_
    refine r_nil ?_
    refine i_then ?_
    refine t_ret ?_
    refine i_then_ret ?_
    refine i_rp1 rfl rfl ?_
    all_goals skip
    exact ret_eq rfl rfl (congrArg Ty.bool (by rw [eq_comm, decide_eq_false_iff_not]; intro e; subst e; exact hc1 rfl))
  ·
    try (simp only [Classical.not_not] at hc1)
    refine t_skip ?_
    refine i_then ?_
    refine t_seq ?_
    refine t_seq ?_
    refine t_region ?_
    refine mvS rfl ?_
    refine r_len rfl rfl rfl ?_
    refine mvI rfl ?_
    refine r_nil ?_
    refine i_then ?_
    refine t_block ?_
    refine t_loop (fun (k : {k : Nat // a.take k = b.take k}) => live [(0, Ty.sl I64 a), (1, Ty.sl I64 b), (12, Ty.int .i64 a.length), (13, Ty.int .i64 (k.1 : Nat))] []) (fun k => a.length - k.1) (⟨0, by simp⟩) ?_ fun k => ?_
    · (refine Ent.mk' ?_ ?_ <;> (repeat' (first | exact allSub_zero | exact allTags_nil | refine allSub_succ' ?_ (Ty.sub_any _) | refine allSub_succ' ?_ (Ty.sub_refl _))))
    ·
      have hlen : a.length = b.length := by omega
      refine t_seq ?_
      refine t_region ?_
      refine r_bin rfl rfl rfl ?_
      refine r_nil ?_
      refine i_then ?_
      refine t_seq ?_
      refine t_cond_dec rfl (fun hc2 => ?_) (fun hc2 => ?_)
      ·
        try (simp only [Classical.not_not] at hc2)
        refine t_skip ?_
        refine i_then ?_
        refine t_seq ?_
        refine t_block ?_
        refine t_seq ?_
        refine t_region ?_
        refine mvI rfl ?_
        refine asI rfl ?_
        refine r_nil ?_
        refine i_then ?_
        refine t_seq ?_
        refine t_draw mixed rfl ?_
        refine mvS rfl ?_
        refine mvI rfl ?_
        refine r_index_slN rfl rfl rfl rfl rfl rfl (by omega) ?_
        refine r_load_pp rfl rfl rfl rfl ?_
        refine mvS rfl ?_
        refine mvI rfl ?_
        refine r_index_slN rfl rfl rfl rfl rfl rfl (by omega) ?_
        refine r_load_pp rfl rfl rfl rfl ?_
        refine r_bin rfl rfl rfl ?_
        refine r_nil ?_
        refine ⟨by kernel_rfl, ?_⟩
        refine i_then ?_
        refine t_cond_ndec rfl (fun hc3 => ?_) (fun hc3 => ?_)
        ·
          try (simp only [Classical.not_not] at hc3)
          refine t_seq ?_
          refine t_region ?_
          refine asB rfl ?_
          refine r_nil ?_
          refine i_then ?_
          refine t_ret ?_
          refine i_block_ret ?_
          refine i_then_ret ?_
          refine i_then_ret ?_
          refine i_block_ret ?_
          refine i_then_ret ?_
          refine i_rp1 rfl rfl ?_
          all_goals skip
          exact ret_eq rfl rfl (congrArg Ty.bool (by rw [eq_comm, decide_eq_false_iff_not]; exact ne_of_nth (k := k.1) (hc3)))
        ·
          try (simp only [Classical.not_not] at hc3)
          refine t_skip ?_
          refine i_block ?_
          refine i_then ?_
          refine t_region ?_
          refine r_add rfl rfl (by omega) (by omega) ?_
          refine mvI rfl ?_
          refine r_nil ?_
          refine i_round (⟨k.1 + 1, by rw [take_nth (by omega), take_nth (by omega), k.2, hc3]⟩) ?_ (by show a.length - (k.1 + 1) < a.length - k.1; omega)
          (refine Ent.mk' ?_ ?_ <;> (repeat' (first | exact allSub_zero | exact allTags_nil | refine allSub_succ' ?_ (Ty.sub_any _) | refine allSub_succ' ?_ (Ty.sub_refl _))))
          all_goals skip
      ·
        try (simp only [Classical.not_not] at hc2)
        refine t_exit ?_
        refine i_then_exit ?_
        refine i_then_exit ?_
        refine i_block_exit rfl ?_
        refine i_then ?_
        refine t_seq ?_
        refine t_region ?_
        refine asB rfl ?_
        refine r_nil ?_
        refine i_then ?_
        refine t_ret ?_
        refine i_rp1 rfl rfl ?_
        all_goals skip
        exact ret_eq rfl rfl (congrArg Ty.bool (by rw [eq_comm, decide_eq_true_eq]; have := k.2; rwa [List.take_of_length_le (by omega), List.take_of_length_le (by omega)] at this))
set_option maxRecDepth 100000 in
theorem c_Eq_int (a b : List Int) : Ctr Tryz.prog 19 [Ty.sl I64 a, Ty.sl I64 b] (Ty.bool (decide (a = b))) := by
  refine fn_intro Tryz.func19 rfl (by decide) Tryz.ntmps19 (by exact Nat.le_of_ble_eq_true rfl) fun w0 M0 => ?_
  refine t_seq ?_
  refine t_region ?_
  refine asB rfl ?_
  refine r_nil ?_
  refine i_then ?_
  refine t_seq ?_
  refine t_region ?_
  refine mvS rfl ?_
  refine mvS rfl ?_
  refine r_call (c_Equal_int _ _) rfl rfl rfl rfl rfl ?_
  refine asB rfl ?_
  refine r_nil ?_
  refine i_then ?_
  refine t_ret ?_
  refine i_rp1 rfl rfl ?_
  all_goals exact ret_refl rfl rfl
set_option maxRecDepth 100000 in
theorem c_Dup_trn (l : List Trn) (h : l.length ≤ 1000) : Ctr Tryz.prog 53 [Ty.sl TrnE l] (Ty.sl TrnE l) := by
  refine fn_intro Tryz.func53 rfl (by decide) Tryz.ntmps53 (by exact Nat.le_of_ble_eq_true rfl) fun w0 M0 => ?_
  refine t_seq ?_
  refine t_region ?_
  refine asX rfl ?_
  refine r_nil ?_
  refine i_then ?_
  refine t_seq ?_
  refine t_region ?_
  refine mvS rfl ?_
  refine r_len rfl rfl rfl ?_
  refine r_make0 (E := TrnE) rfl rfl rfl rfl rfl rfl rfl (by decide) rfl (by omega) (by (dsimp only; omega)) (by omega) ?_
  refine mvS rfl ?_
  refine r_append rfl rfl (by decide) rfl rfl rfl rfl rfl rfl (by decide) (by (simp <;> omega)) (by (simp <;> omega)) ?_
  refine asR rfl ?_
  refine r_nil ?_
  refine i_then ?_
  refine t_ret ?_
  refine i_rp1 rfl rfl ?_
  all_goals exact ret_row (by decide)
set_option maxRecDepth 100000 in
theorem c_Equal_trn (a b : List Trn) : Ctr Tryz.prog 105 [Ty.sl TrnE a, Ty.sl TrnE b] (Ty.bool (decide (a = b))) := by
  refine fn_intro Tryz.func105 rfl (by decide) Tryz.ntmps105 (by exact Nat.le_of_ble_eq_true rfl) fun w0 M0 => ?_
  refine t_fact (s := 0) rfl rfl sl_len fun ha => ?_
  refine t_fact (s := 1) rfl rfl sl_len fun hb => ?_
  refine t_seq ?_
  refine t_region ?_
  refine asB rfl ?_
  refine r_nil ?_
  refine i_then ?_
  refine t_seq ?_
  refine t_seq ?_
  refine t_region ?_
  refine mvS rfl ?_
  refine r_len rfl rfl rfl ?_
  refine mvS rfl ?_
  refine r_len rfl rfl rfl ?_
  refine r_bin rfl rfl rfl ?_
  refine r_nil ?_
  refine i_then ?_
  refine t_cond_ndec rfl (fun hc1 => ?_) (fun hc1 => ?_)
  ·
    try (simp only [Classical.not_not] at hc1)
    refine t_seq ?_
    refine t_region ?_
    refine asB rfl ?_
    refine r_nil ?_
    refine i_then ?_
    refine t_ret ?_
    refine i_then_ret ?_
    refine i_rp1 rfl rfl ?_
    all_goals skip
    exact ret_eq rfl rfl (congrArg Ty.bool (by rw [eq_comm, decide_eq_false_iff_not]; intro e; subst e; exact hc1 rfl))
  ·
    try (simp only [Classical.not_not] at hc1)
    refine t_skip ?_
    refine i_then ?_
    refine t_seq ?_
    refine t_seq ?_
    refine t_region ?_
    refine mvS rfl ?_
    refine r_len rfl rfl rfl ?_
    refine mvI rfl ?_
    refine r_nil ?_
    refine i_then ?_
    refine t_block ?_
    refine t_loop (fun (k : {k : Nat // a.take k = b.take k}) => live [(0, Ty.sl TrnE a), (1, Ty.sl TrnE b), (12, Ty.int .i64 a.length), (13, Ty.int .i64 (k.1 : Nat))] []) (fun k => a.length - k.1) (⟨0, by simp⟩) ?_ fun k => ?_
    · (refine Ent.mk' ?_ ?_ <;> (repeat' (first | exact allSub_zero | exact allTags_nil | refine allSub_succ' ?_ (Ty.sub_any _) | refine allSub_succ' ?_ (Ty.sub_refl _))))
    ·
      have hlen : a.length = b.length := by omega
      refine t_seq ?_
      refine t_region ?_
      refine r_bin rfl rfl rfl ?_
      refine r_nil ?_
      refine i_then ?_
      refine t_seq ?_
      refine t_cond_dec rfl (fun hc2 => ?_) (fun hc2 => ?_)
      ·
        try (simp only [Classical.not_not] at hc2)
        refine t_skip ?_
        refine i_then ?_
        refine t_seq ?_
        refine t_block ?_
        refine t_seq ?_
        refine t_region ?_
        refine mvI rfl ?_
        refine asI rfl ?_
        refine r_nil ?_
        refine i_then ?_
        refine t_seq ?_
        refine t_draw mixed rfl ?_
        refine mvS rfl ?_
        refine mvI rfl ?_
        refine r_index_slN rfl rfl rfl rfl rfl rfl (by omega) ?_
        refine r_load_ppN rfl rfl rfl (by exact Nat.le_of_ble_eq_true rfl) ?_
        refine mvS rfl ?_
        refine mvI rfl ?_
        refine r_index_slN rfl rfl rfl rfl rfl rfl (by omega) ?_
        refine r_load_ppN rfl rfl rfl (by exact Nat.le_of_ble_eq_true rfl) ?_
        refine r_neq_A (eqt71 _ _ _ _ _ _) rfl rfl ?_
        refine r_nil ?_
        refine ⟨by kernel_rfl, ?_⟩
        refine i_then ?_
        refine t_cond rfl (fun hc3 => ?_) (fun hc3 => ?_)
        ·
          try (simp only [Classical.not_not] at hc3)
          refine t_seq ?_
          refine t_region ?_
          refine asB rfl ?_
          refine r_nil ?_
          refine i_then ?_
          refine t_ret ?_
          refine i_block_ret ?_
          refine i_then_ret ?_
          refine i_then_ret ?_
          refine i_block_ret ?_
          refine i_then_ret ?_
          refine i_rp1 rfl rfl ?_
          all_goals skip
          exact ret_eq rfl rfl (congrArg Ty.bool (by rw [eq_comm, decide_eq_false_iff_not]; exact ne_of_nth (k := k.1) (of_decide_eq_false (by rw [← trn_eq]; exact not_b hc3))))
        ·
          try (simp only [Classical.not_not] at hc3)
          refine t_skip ?_
          refine i_block ?_
          refine i_then ?_
          refine t_region ?_
          refine r_add rfl rfl (by omega) (by omega) ?_
          refine mvI rfl ?_
          refine r_nil ?_
          refine i_round (⟨k.1 + 1, by have e : nth a k.1 = nth b k.1 := of_decide_eq_true (by rw [← trn_eq]; exact not_not_b hc3); rw [take_nth (by omega), take_nth (by omega), k.2, e]⟩) ?_ (by show a.length - (k.1 + 1) < a.length - k.1; omega)
          (refine Ent.mk' ?_ ?_ <;> (repeat' (first | exact allSub_zero | exact allTags_nil | refine allSub_succ' ?_ (Ty.sub_any _) | refine allSub_succ' ?_ (Ty.sub_refl _))))
          all_goals skip
      ·
        try (simp only [Classical.not_not] at hc2)
        refine t_exit ?_
        refine i_then_exit ?_
        refine i_then_exit ?_
        refine i_block_exit rfl ?_
        refine i_then ?_
        refine t_seq ?_
        refine t_region ?_
        refine asB rfl ?_
        refine r_nil ?_
        refine i_then ?_
        refine t_ret ?_
        refine i_rp1 rfl rfl ?_
        all_goals skip
        exact ret_eq rfl rfl (congrArg Ty.bool (by rw [eq_comm, decide_eq_true_eq]; have := k.2; rwa [List.take_of_length_le (by omega), List.take_of_length_le (by omega)] at this))
set_option maxRecDepth 100000 in
theorem c_Eq_trn (a b : List Trn) : Ctr Tryz.prog 64 [Ty.sl TrnE a, Ty.sl TrnE b] (Ty.bool (decide (a = b))) := by
  refine fn_intro Tryz.func64 rfl (by decide) Tryz.ntmps64 (by exact Nat.le_of_ble_eq_true rfl) fun w0 M0 => ?_
  refine t_seq ?_
  refine t_region ?_
  refine asB rfl ?_
  refine r_nil ?_
  refine i_then ?_
  refine t_seq ?_
  refine t_region ?_
  refine mvS rfl ?_
  refine mvS rfl ?_
  refine r_call (c_Equal_trn _ _) rfl rfl rfl rfl rfl ?_
  refine asB rfl ?_
  refine r_nil ?_
  refine i_then ?_
  refine t_ret ?_
  refine i_rp1 rfl rfl ?_
  all_goals exact ret_refl rfl rfl
set_option maxRecDepth 100000 in
theorem c_Dup_rul (l : List Rul) (h : l.length ≤ 1000) : Ctr Tryz.prog 54 [Ty.sl RulE l] (Ty.sl RulE l) := by
  refine fn_intro Tryz.func54 rfl (by decide) Tryz.ntmps54 (by exact Nat.le_of_ble_eq_true rfl) fun w0 M0 => ?_
  refine t_seq ?_
  refine t_region ?_
  refine asX rfl ?_
  refine r_nil ?_
  refine i_then ?_
  refine t_seq ?_
  refine t_region ?_
  refine mvS rfl ?_
  refine r_len rfl rfl rfl ?_
  refine r_make0 (E := RulE) rfl rfl rfl rfl rfl rfl rfl (by decide) rfl (by omega) (by (dsimp only; omega)) (by omega) ?_
  refine mvS rfl ?_
  refine r_append rfl rfl (by decide) rfl rfl rfl rfl rfl rfl (by decide) (by (simp <;> omega)) (by (simp <;> omega)) ?_
  refine asR rfl ?_
  refine r_nil ?_
  refine i_then ?_
  refine t_ret ?_
  refine i_rp1 rfl rfl ?_
  all_goals exact ret_row (by decide)
set_option maxRecDepth 100000 in
theorem c_Equal_rul (a b : List Rul) : Ctr Tryz.prog 106 [Ty.sl RulE a, Ty.sl RulE b] (Ty.bool (decide (a = b))) := by
  refine fn_intro Tryz.func106 rfl (by decide) Tryz.ntmps106 (by exact Nat.le_of_ble_eq_true rfl) fun w0 M0 => ?_
  refine t_fact (s := 0) rfl rfl sl_len fun ha => ?_
  refine t_fact (s := 1) rfl rfl sl_len fun hb => ?_
  refine t_seq ?_
  refine t_region ?_
  refine asB rfl ?_
  refine r_nil ?_
  refine i_then ?_
  refine t_seq ?_
  refine t_seq ?_
  refine t_region ?_
  refine mvS rfl ?_
  refine r_len rfl rfl rfl ?_
  refine mvS rfl ?_
  refine r_len rfl rfl rfl ?_
  refine r_bin rfl rfl rfl ?_
  refine r_nil ?_
  refine i_then ?_
  refine t_cond_ndec rfl (fun hc1 => ?_) (fun hc1 => ?_)
  ·
    try (simp only [Classical.not_not] at hc1)
    refine t_seq ?_
    refine t_region ?_
    refine asB rfl ?_
    refine r_nil ?_
    refine i_then ?_
    refine t_ret ?_
    refine i_then_ret ?_
    refine i_rp1 rfl rfl ?_
    all_goals skip
    exact ret_eq rfl rfl (congrArg Ty.bool (by rw [eq_comm, decide_eq_false_iff_not]; intro e; subst e; exact hc1 rfl))
  ·
    try (simp only [Classical.not_not] at hc1)
    refine t_skip ?_
    refine i_then ?_
    refine t_seq ?_
    refine t_seq ?_
    refine t_region ?_
    refine mvS rfl ?_
    refine r_len rfl rfl rfl ?_
    refine mvI rfl ?_
    refine r_nil ?_
    refine i_then ?_
    refine t_block ?_
    refine t_loop (fun (k : {k : Nat // a.take k = b.take k}) => live [(0, Ty.sl RulE a), (1, Ty.sl RulE b), (12, Ty.int .i64 a.length), (13, Ty.int .i64 (k.1 : Nat))] []) (fun k => a.length - k.1) (⟨0, by simp⟩) ?_ fun k => ?_
    · (refine Ent.mk' ?_ ?_ <;> (repeat' (first | exact allSub_zero | exact allTags_nil | refine allSub_succ' ?_ (Ty.sub_any _) | refine allSub_succ' ?_ (Ty.sub_refl _))))
    ·
      have hlen : a.length = b.length := by omega
      refine t_seq ?_
      refine t_region ?_
      refine r_bin rfl rfl rfl ?_
      refine r_nil ?_
      refine i_then ?_
      refine t_seq ?_
      refine t_cond_dec rfl (fun hc2 => ?_) (fun hc2 => ?_)
      ·
        try (simp only [Classical.not_not] at hc2)
        refine t_skip ?_
        refine i_then ?_
        refine t_seq ?_
        refine t_block ?_
        refine t_seq ?_
        refine t_region ?_
        refine mvI rfl ?_
        refine asI rfl ?_
        refine r_nil ?_
        refine i_then ?_
        refine t_seq ?_
        refine t_draw mixed rfl ?_
        refine mvS rfl ?_
        refine mvI rfl ?_
        refine r_index_slN rfl rfl rfl rfl rfl rfl (by omega) ?_
        refine r_load_ppN rfl rfl rfl (by exact Nat.le_of_ble_eq_true rfl) ?_
        refine mvS rfl ?_
        refine mvI rfl ?_
        refine r_index_slN rfl rfl rfl rfl rfl rfl (by omega) ?_
        refine r_load_ppN rfl rfl rfl (by exact Nat.le_of_ble_eq_true rfl) ?_
        refine r_neq_A (eqt64 _ _ _ _) rfl rfl ?_
        refine r_nil ?_
        refine ⟨by kernel_rfl, ?_⟩
        refine i_then ?_
        refine t_cond rfl (fun hc3 => ?_) (fun hc3 => ?_)
        ·
          try (simp only [Classical.not_not] at hc3)
          refine t_seq ?_
          refine t_region ?_
          refine asB rfl ?_
          refine r_nil ?_
          refine i_then ?_
          refine t_ret ?_
          refine i_block_ret ?_
          refine i_then_ret ?_
          refine i_then_ret ?_
          refine i_block_ret ?_
          refine i_then_ret ?_
          refine i_rp1 rfl rfl ?_
          all_goals skip
          exact ret_eq rfl rfl (congrArg Ty.bool (by rw [eq_comm, decide_eq_false_iff_not]; exact ne_of_nth (k := k.1) (of_decide_eq_false (by rw [← rul_eq]; exact not_b hc3))))
        ·
          try (simp only [Classical.not_not] at hc3)
          refine t_skip ?_
          refine i_block ?_
          refine i_then ?_
          refine t_region ?_
          refine r_add rfl rfl (by omega) (by omega) ?_
          refine mvI rfl ?_
          refine r_nil ?_
          refine i_round (⟨k.1 + 1, by have e : nth a k.1 = nth b k.1 := of_decide_eq_true (by rw [← rul_eq]; exact not_not_b hc3); rw [take_nth (by omega), take_nth (by omega), k.2, e]⟩) ?_ (by show a.length - (k.1 + 1) < a.length - k.1; omega)
          (refine Ent.mk' ?_ ?_ <;> (repeat' (first | exact allSub_zero | exact allTags_nil | refine allSub_succ' ?_ (Ty.sub_any _) | refine allSub_succ' ?_ (Ty.sub_refl _))))
          all_goals skip
      ·
        try (simp only [Classical.not_not] at hc2)
        refine t_exit ?_
        refine i_then_exit ?_
        refine i_then_exit ?_
        refine i_block_exit rfl ?_
        refine i_then ?_
        refine t_seq ?_
        refine t_region ?_
        refine asB rfl ?_
        refine r_nil ?_
        refine i_then ?_
        refine t_ret ?_
        refine i_rp1 rfl rfl ?_
        all_goals skip
        exact ret_eq rfl rfl (congrArg Ty.bool (by rw [eq_comm, decide_eq_true_eq]; have := k.2; rwa [List.take_of_length_le (by omega), List.take_of_length_le (by omega)] at this))
set_option maxRecDepth 100000 in
theorem c_Eq_rul (a b : List Rul) : Ctr Tryz.prog 65 [Ty.sl RulE a, Ty.sl RulE b] (Ty.bool (decide (a = b))) := by
  refine fn_intro Tryz.func65 rfl (by decide) Tryz.ntmps65 (by exact Nat.le_of_ble_eq_true rfl) fun w0 M0 => ?_
  refine t_seq ?_
  refine t_region ?_
  refine asB rfl ?_
  refine r_nil ?_
  refine i_then ?_
  refine t_seq ?_
  refine t_region ?_
  refine mvS rfl ?_
  refine mvS rfl ?_
  refine r_call (c_Equal_rul _ _) rfl rfl rfl rfl rfl ?_
  refine asB rfl ?_
  refine r_nil ?_
  refine i_then ?_
  refine t_ret ?_
  refine i_rp1 rfl rfl ?_
  all_goals exact ret_refl rfl rfl
end Go.Proofs.YtifgbnbkimcchaaGreat

namespace Go.Proofs.YtifgbnbkimcchaaGreat
open Go Go.T
attribute [local irreducible] dInt dBool dSl dPp dPtr dAgg dTup dClo dAny dEx dStr dGd dCells dVec dVs dRow dOp nth Tri Into TOps Ctr bodyPost Exit.then Exit.inBlock Code.wp Code.wpIn
theorem bin_eq (a b : Bin) : (decide (a.has = b.has) && decide (a.shares = b.shares)) = decide (a = b) := by
  cases a; cases b; simp [Bool.decide_and]
theorem flr_eq (a b : Flr) : (((decide (a.bears = b.bears) && decide (a.turnings = b.turnings)) && decide (a.rules = b.rules)) && decide (a.bins = b.bins)) = decide (a = b) := by
  cases a; cases b; simp only [Flr.mk.injEq, ← Bool.decide_and, decide_eq_decide]; exact ⟨fun h => ⟨h.1.1.1, h.2, h.1.1.2, h.1.2⟩, fun h => ⟨⟨⟨h.1, h.2.2.1⟩, h.2.2.2⟩, h.2.1⟩⟩
def Flr.great (f : Flr) : Bool := decide ((f.bears.length : Int) > 8) || decide ((f.bins.length : Int) > 9) || decide ((f.turnings.length : Int) > 11) || decide ((f.rules.length : Int) > 20) || f.bins.any fun b => decide ((b.shares.length : Int) > 8)
def two (r : List Rul) : Flr := ⟨[400, 300], [⟨60, [4, 0]⟩, ⟨30, [2, 2]⟩, ⟨0, [0, 4]⟩], [⟨0, 1, 40⟩, ⟨1, 2, 30⟩, ⟨-1, 0, 40⟩], r⟩
set_option maxRecDepth 100000 in
theorem c_EqualFunc_bin (a b : List Bin) (f : Nat) (hf : ∀ x y, Ctr Tryz.prog f [Ty.agg (BinE.tys x), Ty.agg (BinE.tys y)] (Ty.bool (decide (x = y)))) : Ctr Tryz.prog 66 [Ty.sl BinE a, Ty.sl BinE b, Ty.clo f []] (Ty.bool (decide (a = b))) := by
  refine fn_intro Tryz.func66 rfl (by decide) Tryz.ntmps66 (by exact Nat.le_of_ble_eq_true rfl) fun w0 M0 => ?_
  refine t_fact (s := 0) rfl rfl sl_len fun ha => ?_
  refine t_fact (s := 1) rfl rfl sl_len fun hb => ?_
  refine t_seq ?_
  refine t_region ?_
  refine asB rfl ?_
  refine r_nil ?_
  refine i_then ?_
  refine t_seq ?_
  refine t_seq ?_
  refine t_region ?_
  refine mvS rfl ?_
  refine r_len rfl rfl rfl ?_
  refine mvS rfl ?_
  refine r_len rfl rfl rfl ?_
  refine r_bin rfl rfl rfl ?_
  refine r_nil ?_
  refine i_then ?_
  refine t_cond_ndec rfl (fun hc1 => ?_) (fun hc1 => ?_)
  ·
    try (simp only [Classical.not_not] at hc1)
    refine t_seq ?_
    refine t_region ?_
    refine asB rfl ?_
    refine r_nil ?_
    refine i_then ?_
    refine t_ret ?_
    refine i_then_ret ?_
    refine i_rp1 rfl rfl ?_
    all_goals skip
    exact ret_eq rfl rfl (congrArg Ty.bool (by rw [eq_comm, decide_eq_false_iff_not]; intro e; subst e; exact hc1 rfl))
  ·
    try (simp only [Classical.not_not] at hc1)
    refine t_skip ?_
    refine i_then ?_
    refine t_seq ?_
    refine t_seq ?_
    refine t_region ?_
    refine mvS rfl ?_
    refine r_len rfl rfl rfl ?_
    refine mvI rfl ?_
    refine r_nil ?_
    refine i_then ?_
    refine t_block ?_
    refine t_loop (fun (k : {k : Nat // a.take k = b.take k}) => live [(0, Ty.sl BinE a), (1, Ty.sl BinE b), (2, Ty.clo f []), (15, Ty.sl BinE a), (16, Ty.int .i64 a.length), (17, Ty.int .i64 (k.1 : Nat))] []) (fun k => a.length - k.1) (⟨0, by simp⟩) ?_ fun k => ?_
    · (refine Ent.mk' ?_ ?_ <;> (repeat' (first | exact allSub_zero | exact allTags_nil | refine allSub_succ' ?_ (Ty.sub_any _) | refine allSub_succ' ?_ (Ty.sub_refl _))))
    ·
      have hlen : a.length = b.length := by omega
      refine t_seq ?_
      refine t_region ?_
      refine r_bin rfl rfl rfl ?_
      refine r_nil ?_
      refine i_then ?_
      refine t_seq ?_
      refine t_cond_dec rfl (fun hc2 => ?_) (fun hc2 => ?_)
      ·
        try (simp only [Classical.not_not] at hc2)
        refine t_skip ?_
        refine i_then ?_
        refine t_seq ?_
        refine t_block ?_
        refine t_seq ?_
        refine t_region ?_
        refine mvI rfl ?_
        refine r_index_slN rfl rfl rfl rfl rfl rfl (by omega) ?_
        refine r_load_ppN rfl rfl rfl (by exact Nat.le_of_ble_eq_true rfl) ?_
        refine r_alloc rfl (by exact List.cons_ne_nil _ _) rfl ?_
        refine asI rfl ?_
        refine r_storeN rfl rfl (by decide) rfl rfl rfl rfl rfl rfl ?_
        refine r_nil ?_
        refine i_then ?_
        refine t_seq ?_
        refine t_region ?_
        refine mvS rfl ?_
        refine mvI rfl ?_
        refine r_index_slN rfl rfl rfl rfl rfl rfl (by omega) ?_
        refine r_load_ppN rfl rfl rfl (by exact Nat.le_of_ble_eq_true rfl) ?_
        refine r_alloc rfl (by exact List.cons_ne_nil _ _) rfl ?_
        refine r_storeN rfl rfl (by decide) rfl rfl rfl rfl rfl rfl ?_
        refine r_nil ?_
        refine i_then ?_
        refine t_seq ?_
        refine t_region ?_
        refine mvF rfl ?_
        refine r_load_ptrN rfl rfl (by decide) rfl rfl (by exact Nat.le_of_ble_eq_true rfl) ?_
        refine r_load_ptrN rfl rfl (by decide) rfl rfl (by exact Nat.le_of_ble_eq_true rfl) ?_
        refine r_callv rfl (hf _ _) rfl rfl rfl rfl rfl ?_
        refine r_not rfl ?_
        refine r_nil ?_
        refine i_then ?_
        refine t_cond_ndec rfl (fun hc3 => ?_) (fun hc3 => ?_)
        ·
          try (simp only [Classical.not_not] at hc3)
          refine t_seq ?_
          refine t_region ?_
          refine asB rfl ?_
          refine r_nil ?_
          refine i_then ?_
          refine t_ret ?_
          refine i_block_ret ?_
          refine i_then_ret ?_
          refine i_then_ret ?_
          refine i_block_ret ?_
          refine i_then_ret ?_
          refine i_rp1 rfl rfl ?_
          all_goals skip
          exact ret_eq rfl rfl (congrArg Ty.bool (by rw [eq_comm, decide_eq_false_iff_not]; exact ne_of_nth (k := k.1) hc3))
        ·
          try (simp only [Classical.not_not] at hc3)
          refine t_skip ?_
          refine i_block ?_
          refine i_then ?_
          refine t_region ?_
          refine r_add rfl rfl (by omega) (by omega) ?_
          refine mvI rfl ?_
          refine r_nil ?_
          refine i_round (⟨k.1 + 1, by have e : nth a k.1 = nth b k.1 := hc3; rw [take_nth (by omega), take_nth (by omega), k.2, e]⟩) ?_ (by show a.length - (k.1 + 1) < a.length - k.1; omega)
          (refine Ent.mk' ?_ ?_ <;> (repeat' (first | exact allSub_zero | exact allTags_nil | refine allSub_succ' ?_ (Ty.sub_any _) | refine allSub_succ' ?_ (Ty.sub_refl _))))
          all_goals skip
      ·
        try (simp only [Classical.not_not] at hc2)
        refine t_exit ?_
        refine i_then_exit ?_
        refine i_then_exit ?_
        refine i_block_exit rfl ?_
        refine i_then ?_
        refine t_seq ?_
        refine t_region ?_
        refine asB rfl ?_
        refine r_nil ?_
        refine i_then ?_
        refine t_ret ?_
        refine i_rp1 rfl rfl ?_
        all_goals skip
        exact ret_eq rfl rfl (congrArg Ty.bool (by rw [eq_comm, decide_eq_true_eq]; have := k.2; rwa [List.take_of_length_le (by omega), List.take_of_length_le (by omega)] at this))
set_option maxRecDepth 100000 in
theorem c_same1 (a b : Bin) : Ctr Tryz.prog 67 [Ty.agg (BinE.tys a), Ty.agg (BinE.tys b)] (Ty.bool (decide (a = b))) := by
  refine fn_intro Tryz.func67 rfl (by decide) Tryz.ntmps67 (by exact Nat.le_of_ble_eq_true rfl) fun w0 M0 => ?_
  refine t_seq ?_
  refine t_region ?_
  refine r_box_agg rfl ?_
  refine r_box_agg rfl ?_
  refine asB rfl ?_
  refine r_nil ?_
  refine i_then ?_
  refine t_seq ?_
  refine t_region ?_
  refine r_field_pp rfl rfl rfl rfl rfl (by decide) ?_
  refine r_load_pp rfl rfl rfl rfl ?_
  refine r_field_pp rfl rfl rfl rfl rfl (by decide) ?_
  refine r_load_pp rfl rfl rfl rfl ?_
  refine r_bin rfl rfl rfl ?_
  refine mvB rfl ?_
  apply r_guard (s := 10) rfl rfl rfl
  · intro hg; apply opT_of; (refine r_field_pp rfl rfl rfl rfl rfl (by decide) ?_); refine r_nil ?_; exact rfl
  · exact rfl
  · exact rfl
  apply r_guard (s := 10) rfl rfl rfl
  · intro hg; apply opT_strip (s := 11) rfl (by (rw [hg]; rfl)); apply opT_of; (refine r_load_pp rfl rfl rfl rfl ?_); refine r_nil ?_; exact rfl
  · exact rfl
  · exact rfl
  apply r_guard (s := 10) rfl rfl rfl
  · intro hg; apply opT_of; (refine r_field_pp rfl rfl rfl rfl rfl (by decide) ?_); refine r_nil ?_; exact rfl
  · exact rfl
  · exact rfl
  apply r_guard (s := 10) rfl rfl rfl
  · intro hg; apply opT_strip (s := 13) rfl (by (rw [hg]; rfl)); apply opT_of; (refine r_load_pp rfl rfl rfl rfl ?_); refine r_nil ?_; exact rfl
  · exact rfl
  · exact rfl
  apply r_guard (s := 10) rfl rfl rfl
  · intro hg; apply opT_strip (s := 12) rfl (by (rw [hg]; rfl)); apply opT_strip (s := 14) rfl (by (rw [hg]; rfl)); apply opT_of; (refine r_call (c_Eq_int _ _) rfl rfl rfl rfl rfl ?_); refine r_nil ?_; exact rfl
  · exact rfl
  · exact rfl
  refine r_and rfl rfl ?_
  refine asB rfl ?_
  refine r_nil ?_
  refine i_then ?_
  refine t_ret ?_
  refine i_rp1 rfl rfl ?_
  all_goals skip
  exact ret_eq rfl rfl (congrArg Ty.bool (bin_eq a b))
set_option maxRecDepth 100000 in
theorem c_same (a b : Flr) : Ctr Tryz.prog 20 [flrT a, flrT b] (Ty.bool (decide (a = b))) := by
  refine fn_intro Tryz.func20 rfl (by decide) Tryz.ntmps20 (by exact Nat.le_of_ble_eq_true rfl) fun w0 M0 => ?_
  refine t_seq ?_
  refine t_region ?_
  refine r_box_agg rfl ?_
  refine r_box_agg rfl ?_
  refine asB rfl ?_
  refine r_nil ?_
  refine i_then ?_
  refine t_seq ?_
  refine t_region ?_
  refine r_field_pp rfl rfl rfl rfl rfl (by decide) ?_
  refine r_load_pp rfl rfl rfl rfl ?_
  refine r_field_pp rfl rfl rfl rfl rfl (by decide) ?_
  refine r_load_pp rfl rfl rfl rfl ?_
  refine r_call (c_Eq_int _ _) rfl rfl rfl rfl rfl ?_
  refine mvB rfl ?_
  apply r_guard (s := 10) rfl rfl rfl
  · intro hg; apply opT_of; (refine r_field_pp rfl rfl rfl rfl rfl (by decide) ?_); refine r_nil ?_; exact rfl
  · exact rfl
  · exact rfl
  apply r_guard (s := 10) rfl rfl rfl
  · intro hg; apply opT_strip (s := 11) rfl (by (rw [hg]; rfl)); apply opT_of; (refine r_load_pp rfl rfl rfl rfl ?_); refine r_nil ?_; exact rfl
  · exact rfl
  · exact rfl
  apply r_guard (s := 10) rfl rfl rfl
  · intro hg; apply opT_of; (refine r_field_pp rfl rfl rfl rfl rfl (by decide) ?_); refine r_nil ?_; exact rfl
  · exact rfl
  · exact rfl
  apply r_guard (s := 10) rfl rfl rfl
  · intro hg; apply opT_strip (s := 13) rfl (by (rw [hg]; rfl)); apply opT_of; (refine r_load_pp rfl rfl rfl rfl ?_); refine r_nil ?_; exact rfl
  · exact rfl
  · exact rfl
  apply r_guard (s := 10) rfl rfl rfl
  · intro hg; apply opT_strip (s := 12) rfl (by (rw [hg]; rfl)); apply opT_strip (s := 14) rfl (by (rw [hg]; rfl)); apply opT_of; (refine r_call (c_Eq_trn _ _) rfl rfl rfl rfl rfl ?_); refine r_nil ?_; exact rfl
  · exact rfl
  · exact rfl
  refine r_and rfl rfl ?_
  refine mvB rfl ?_
  apply r_guard (s := 17) rfl rfl rfl
  · intro hg; apply opT_of; (refine r_field_pp rfl rfl rfl rfl rfl (by decide) ?_); refine r_nil ?_; exact rfl
  · exact rfl
  · exact rfl
  apply r_guard (s := 17) rfl rfl rfl
  · intro hg; apply opT_strip (s := 18) rfl (by (rw [hg]; rfl)); apply opT_of; (refine r_load_pp rfl rfl rfl rfl ?_); refine r_nil ?_; exact rfl
  · exact rfl
  · exact rfl
  apply r_guard (s := 17) rfl rfl rfl
  · intro hg; apply opT_of; (refine r_field_pp rfl rfl rfl rfl rfl (by decide) ?_); refine r_nil ?_; exact rfl
  · exact rfl
  · exact rfl
  apply r_guard (s := 17) rfl rfl rfl
  · intro hg; apply opT_strip (s := 20) rfl (by (rw [hg]; rfl)); apply opT_of; (refine r_load_pp rfl rfl rfl rfl ?_); refine r_nil ?_; exact rfl
  · exact rfl
  · exact rfl
  apply r_guard (s := 17) rfl rfl rfl
  · intro hg; apply opT_strip (s := 19) rfl (by (rw [hg]; rfl)); apply opT_strip (s := 21) rfl (by (rw [hg]; rfl)); apply opT_of; (refine r_call (c_Eq_rul _ _) rfl rfl rfl rfl rfl ?_); refine r_nil ?_; exact rfl
  · exact rfl
  · exact rfl
  refine r_and rfl rfl ?_
  refine mvB rfl ?_
  apply r_guard (s := 24) rfl rfl rfl
  · intro hg; apply opT_of; (refine r_field_pp rfl rfl rfl rfl rfl (by decide) ?_); refine r_nil ?_; exact rfl
  · exact rfl
  · exact rfl
  apply r_guard (s := 24) rfl rfl rfl
  · intro hg; apply opT_strip (s := 25) rfl (by (rw [hg]; rfl)); apply opT_of; (refine r_load_pp rfl rfl rfl rfl ?_); refine r_nil ?_; exact rfl
  · exact rfl
  · exact rfl
  apply r_guard (s := 24) rfl rfl rfl
  · intro hg; apply opT_of; (refine r_field_pp rfl rfl rfl rfl rfl (by decide) ?_); refine r_nil ?_; exact rfl
  · exact rfl
  · exact rfl
  apply r_guard (s := 24) rfl rfl rfl
  · intro hg; apply opT_strip (s := 27) rfl (by (rw [hg]; rfl)); apply opT_of; (refine r_load_pp rfl rfl rfl rfl ?_); refine r_nil ?_; exact rfl
  · exact rfl
  · exact rfl
  apply r_guard (s := 24) rfl rfl rfl
  · intro hg; apply opT_strip (s := 26) rfl (by (rw [hg]; rfl)); apply opT_strip (s := 28) rfl (by (rw [hg]; rfl)); apply opT_of; (refine r_call (c_EqualFunc_bin _ _ _ c_same1) rfl rfl rfl rfl rfl ?_); refine r_nil ?_; exact rfl
  · exact rfl
  · exact rfl
  refine r_and rfl rfl ?_
  refine asB rfl ?_
  refine r_nil ?_
  refine i_then ?_
  refine t_ret ?_
  refine i_rp1 rfl rfl ?_
  all_goals skip
  exact ret_eq rfl rfl (congrArg Ty.bool (flr_eq a b))
set_option maxRecDepth 100000 in
theorem c_Own (f : Flr) (hs : f.Small) : Ctr Tryz.prog 8 [flrT f] (flrT f) := by
  refine fn_intro Tryz.func8 rfl (by decide) Tryz.ntmps8 (by exact Nat.le_of_ble_eq_true rfl) fun w0 M0 => ?_
  have hs1 := hs.bears; have hs2 := hs.bins; have hs3 := hs.turnings; have hs4 := hs.rules
  refine t_seq ?_
  refine t_region ?_
  refine r_box_agg rfl ?_
  refine r_alloc rfl (by exact List.cons_ne_nil _ _) rfl ?_
  refine r_nil ?_
  refine i_then ?_
  refine t_seq ?_
  refine t_draw mixed rfl ?_
  refine r_field_pp rfl rfl rfl rfl rfl (by decide) ?_
  refine r_load_pp rfl rfl rfl rfl ?_
  refine r_call (c_Dup_int f.bears (by have := hs.bears; omega)) rfl rfl rfl rfl rfl ?_
  refine r_field_pp rfl rfl rfl rfl rfl (by decide) ?_
  refine r_load_pp rfl rfl rfl rfl ?_
  refine r_call (c_Dup_trn f.turnings (by have := hs.turnings; omega)) rfl rfl rfl rfl rfl ?_
  refine r_field_pp rfl rfl rfl rfl rfl (by decide) ?_
  refine r_load_pp rfl rfl rfl rfl ?_
  refine r_call (c_Dup_rul f.rules (by have := hs.rules; omega)) rfl rfl rfl rfl rfl ?_
  refine r_build rfl rfl (by exact List.cons_ne_nil _ _) rfl (by repeat (first | exact (Parts.nil : Parts _ _ [] _) | (show Parts _ _ ((_, _) :: _) _; apply Parts.one; (· exact (rfl : _ = Ty.sl _ _)); (· exact rfl)))) (by exact (rfl : _ = some [_, _, _, _])) ?_
  refine r_alloc rfl (by exact List.cons_ne_nil _ _) rfl ?_
  refine r_storeN rfl rfl (by decide) rfl rfl rfl rfl rfl rfl ?_
  refine r_nil ?_
  refine ⟨by kernel_rfl, ?_⟩
  refine i_then ?_
  refine t_seq ?_
  refine t_seq ?_
  refine t_region ?_
  refine r_field_pp rfl rfl rfl rfl rfl (by decide) ?_
  refine r_load_pp rfl rfl rfl rfl ?_
  refine r_len rfl rfl rfl ?_
  refine mvI rfl ?_
  refine r_nil ?_
  refine i_then ?_
  refine t_block ?_
  refine t_loop (fun (k : Nat) => live [(2, Ty.ptr 3 0), (3, Ty.ptr 4 0), (17, Ty.sl BinE f.bins), (18, Ty.int .i64 f.bins.length), (19, Ty.int .i64 (k : Nat))] [(3, Cont.cells 27 [Ty.ex (.slice none 0 0), Ty.ex (.slice none 0 0), Ty.ex (.slice none 0 0), Ty.ex (.slice none 0 0)]), (4, Cont.cells 27 [Ty.sl I64 f.bears, Ty.row BinE 69 33 (f.bins.take k), Ty.sl TrnE f.turnings, Ty.sl RulE f.rules])]) (fun k => f.bins.length - k) (0) ?_ fun k => ?_
  · (refine Ent.mk' ?_ ?_ <;> (repeat' (first | exact allSub_zero | exact allTags_nil | exact subs_nil | refine allSub_succ' ?_ (Ty.sub_any _) | refine allSub_succ' ?_ (Ty.sub_refl _) | refine allTags_cons rfl (Cont.sub_refl _) ?_ | refine allTags_cons rfl (Cont.sub_subs ?_) ?_ | refine subs_cons ?_ (Ty.sub_refl _) | refine subs_cons ?_ Ty.nil_row)))
  ·
    have hb := hs.bins
    refine t_seq ?_
    refine t_region ?_
    refine r_bin rfl rfl rfl ?_
    refine r_nil ?_
    refine i_then ?_
    refine t_seq ?_
    refine t_cond_dec rfl (fun hc1 => ?_) (fun hc1 => ?_)
    ·
      refine t_skip ?_
      refine i_then ?_
      refine t_seq ?_
      refine t_block ?_
      refine t_seq ?_
      refine t_region ?_
      refine r_index_slN rfl rfl rfl rfl rfl rfl (by omega) ?_
      refine r_load_ppN rfl rfl rfl (by exact Nat.le_of_ble_eq_true rfl) ?_
      refine r_alloc rfl (by exact List.cons_ne_nil _ _) rfl ?_
      refine r_storeN rfl rfl (by decide) rfl rfl rfl rfl rfl rfl ?_
      refine r_nil ?_
      refine i_then ?_
      refine t_draw mixed rfl ?_
      refine r_field_ptr rfl rfl rfl rfl rfl (by decide) ?_
      refine r_load_ptr rfl rfl (by decide) rfl rfl rfl ?_
      refine r_field_ptr rfl rfl rfl rfl rfl (by decide) ?_
      refine r_load_ptr rfl rfl (by decide) rfl rfl rfl ?_
      refine r_field_ptr rfl rfl rfl rfl rfl (by decide) ?_
      refine r_load_ptr rfl rfl (by decide) rfl rfl rfl ?_
      refine r_call (c_Dup_int (nth f.bins k).shares (by have := hs.shares _ (nth_mem (xs := f.bins) (k := k) (by omega)); omega)) rfl rfl rfl rfl rfl ?_
      refine r_build rfl rfl (by exact List.cons_ne_nil _ _) rfl (by repeat (first | exact (Parts.nil : Parts _ _ [] _) | (show Parts _ _ ((_, _) :: _) _; apply Parts.one; (· first | exact (rfl : _ = Ty.int _ _) | exact (rfl : _ = Ty.sl _ _)); (· exact rfl)))) (by exact (rfl : _ = some [_, _])) ?_
      refine r_buildSlice (E := BinE) (xs := [nth f.bins k]) rfl rfl rfl rfl rfl (by decide) (by decide) (by repeat (first | exact (Parts.nil : Parts _ _ [] _) | (show Parts _ _ ((_, _) :: _) _; apply Parts.agg; (· exact (rfl : _ = Ty.agg _))))) (by exact rfl) rfl ?_
      refine r_append rfl rfl (by decide) rfl rfl rfl rfl rfl rfl (by decide) (by (simp <;> omega)) (by (simp <;> omega)) ?_
      refine r_field_ptr rfl rfl rfl rfl rfl (by decide) ?_
      refine r_store1 rfl rfl (by decide) rfl rfl (by exact (rfl : _ = Ty.row _ _ _ _)) rfl (by exact Nat.le_of_ble_eq_true rfl) rfl rfl (by exact rfl) ?_
      refine r_nil ?_
      refine ⟨by kernel_rfl, ?_⟩
      refine i_block ?_
      refine i_then ?_
      refine t_region ?_
      refine r_add rfl rfl (by omega) (by omega) ?_
      refine mvI rfl ?_
      refine r_nil ?_
      refine i_round (k + 1) ?_ (by omega)
      (refine Ent.mk' ?_ ?_ <;> (repeat' (first | exact allSub_zero | exact allTags_nil | exact subs_nil | refine allSub_succ' ?_ (Ty.sub_any _) | refine allSub_succ' ?_ (Ty.sub_refl _) | refine allTags_cons rfl (Cont.sub_refl _) ?_ | refine allTags_cons rfl (Cont.sub_subs ?_) ?_ | refine subs_cons ?_ (Ty.sub_refl _) | refine subs_cons ?_ ?_)))
      all_goals exact Ty.sub_row (take_nth (by omega)).symm
    ·
      refine t_exit ?_
      refine i_then_exit ?_
      refine i_then_exit ?_
      refine i_block_exit rfl ?_
      refine i_then ?_
      refine t_seq ?_
      refine t_region ?_
      refine r_load_ptrN rfl rfl (by decide) rfl rfl (by exact Nat.le_of_ble_eq_true rfl) ?_
      refine r_storeN rfl rfl (by decide) rfl rfl rfl rfl rfl rfl ?_
      refine r_nil ?_
      refine i_then ?_
      refine t_ret ?_
      refine i_rcell rfl rfl rfl rfl (by decide) rfl rfl rfl ?_
      exact ret_agg (ts := flrTys f) (rets_cons (ret_refl rfl rfl) (rets_cons (ret_row_eq (by decide) (List.take_of_length_le (by omega))) (rets_cons (ret_refl rfl rfl) (rets_cons (ret_refl rfl rfl) rets_nil))))
set_option maxRecDepth 100000 in
theorem c_paid (l : List Pay) (h : l.length ≤ 1000) : Ctr Tryz.prog 29 [Ty.sl PayE l] (Ty.sl PayE l) := by
  refine fn_intro Tryz.func29 rfl (by decide) Tryz.ntmps29 (by exact Nat.le_of_ble_eq_true rfl) fun w0 M0 => ?_
  refine t_seq ?_
  refine t_region ?_
  refine asX rfl ?_
  refine r_nil ?_
  refine i_then ?_
  refine t_seq ?_
  refine t_region ?_
  refine asX rfl ?_
  refine r_nil ?_
  refine i_then ?_
  refine t_seq ?_
  refine t_seq ?_
  refine t_region ?_
  refine mvS rfl ?_
  refine r_len rfl rfl rfl ?_
  refine mvI rfl ?_
  refine r_nil ?_
  refine i_then ?_
  refine t_block ?_
  refine t_loop (fun (k : Nat) => live [(3, Ty.row PayE 122 16 (l.take k)), (6, Ty.sl PayE l), (7, Ty.int .i64 l.length), (8, Ty.int .i64 (k : Nat))] []) (fun k => l.length - k) (0) ?_ fun k => ?_
  · (refine Ent.mk' ?_ ?_ <;> (repeat' (first | exact allSub_zero | exact allTags_nil | refine allSub_succ' ?_ (Ty.sub_any _) | refine allSub_succ' ?_ (Ty.sub_refl _) | refine allSub_succ' ?_ Ty.nil_row)))
  ·
    refine t_seq ?_
    refine t_region ?_
    refine r_bin rfl rfl rfl ?_
    refine r_nil ?_
    refine i_then ?_
    refine t_seq ?_
    refine t_cond_dec rfl (fun hc1 => ?_) (fun hc1 => ?_)
    ·
      refine t_skip ?_
      refine i_then ?_
      refine t_seq ?_
      refine t_block ?_
      refine t_seq ?_
      refine t_region ?_
      refine r_index_slN rfl rfl rfl rfl rfl rfl (by omega) ?_
      refine r_load_ppN rfl rfl rfl (by exact Nat.le_of_ble_eq_true rfl) ?_
      refine r_alloc rfl (by exact List.cons_ne_nil _ _) rfl ?_
      refine r_storeN rfl rfl (by decide) rfl rfl rfl rfl rfl rfl ?_
      refine r_nil ?_
      refine i_then ?_
      refine t_region ?_
      refine mvR rfl ?_
      refine r_load_ptrN rfl rfl (by decide) rfl rfl (by exact Nat.le_of_ble_eq_true rfl) ?_
      refine r_buildSlice (E := PayE) (xs := [nth l k]) rfl rfl rfl rfl rfl (by decide) (by decide) (by repeat (first | exact (Parts.nil : Parts _ _ [] _) | (show Parts _ _ ((_, _) :: _) _; apply Parts.agg; (· exact (rfl : _ = Ty.agg _))))) (by exact rfl) rfl ?_
      refine r_append rfl rfl (by decide) rfl rfl rfl rfl rfl rfl (by decide) (by (simp <;> omega)) (by (simp <;> omega)) ?_
      refine asR rfl ?_
      refine r_nil ?_
      refine i_block ?_
      refine i_then ?_
      refine t_region ?_
      refine r_add rfl rfl (by omega) (by omega) ?_
      refine mvI rfl ?_
      refine r_nil ?_
      refine i_round (k + 1) ?_ (by omega)
      (refine Ent.mk' ?_ ?_ <;> (repeat' (first | exact allSub_zero | exact allTags_nil | refine allSub_succ' ?_ (Ty.sub_any _) | refine allSub_succ' ?_ (Ty.sub_refl _) | refine allSub_succ' ?_ ?_)))
      all_goals exact Ty.sub_row (take_nth (by omega)).symm
    ·
      refine t_exit ?_
      refine i_then_exit ?_
      refine i_then_exit ?_
      refine i_block_exit rfl ?_
      refine i_then ?_
      refine t_seq ?_
      refine t_region ?_
      refine mvR rfl ?_
      refine asR rfl ?_
      refine r_nil ?_
      refine i_then ?_
      refine t_ret ?_
      refine i_rp1 rfl rfl ?_
      all_goals skip
      exact ret_row_eq (by decide) (by rw [List.take_of_length_le (by omega)])
set_option maxRecDepth 100000 in
theorem c_great1 (b : Bin) : Ctr Tryz.prog 97 [Ty.agg (BinE.tys b)] (Ty.bool (decide ((b.shares.length : Int) > 8))) := by
  refine fn_intro Tryz.func97 rfl (by decide) Tryz.ntmps97 (by exact Nat.le_of_ble_eq_true rfl) fun w0 M0 => ?_
  refine t_seq ?_
  refine t_region ?_
  refine r_box_agg rfl ?_
  refine asB rfl ?_
  refine r_nil ?_
  refine i_then ?_
  refine t_seq ?_
  refine t_region ?_
  refine r_field_pp rfl rfl rfl rfl rfl (by decide) ?_
  refine r_load_pp rfl rfl rfl rfl ?_
  refine r_len rfl rfl rfl ?_
  refine r_bin rfl rfl rfl ?_
  refine asB rfl ?_
  refine r_nil ?_
  refine i_then ?_
  refine t_ret ?_
  refine i_rp1 rfl rfl ?_
  all_goals exact ret_refl rfl rfl
set_option maxRecDepth 100000 in
theorem c_great (f : Flr) : Ctr Tryz.prog 47 [flrT f] (Ty.bool f.great) := by
  refine fn_intro Tryz.func47 rfl (by decide) Tryz.ntmps47 (by exact Nat.le_of_ble_eq_true rfl) fun w0 M0 => ?_
  refine t_seq ?_
  refine t_region ?_
  refine r_box_agg rfl ?_
  refine asB rfl ?_
  refine r_nil ?_
  refine i_then ?_
  refine t_seq ?_
  refine t_region ?_
  refine r_field_pp rfl rfl rfl rfl rfl (by decide) ?_
  refine r_load_pp rfl rfl rfl rfl ?_
  refine r_len rfl rfl rfl ?_
  refine r_bin rfl rfl rfl ?_
  refine mvB rfl ?_
  apply r_guard (s := 7) rfl rfl rfl
  · intro hg; apply opT_of; (refine r_field_pp rfl rfl rfl rfl rfl (by decide) ?_); refine r_nil ?_; exact rfl
  · exact rfl
  · exact rfl
  apply r_guard (s := 7) rfl rfl rfl
  · intro hg; apply opT_strip (s := 8) rfl (by (rw [hg]; rfl)); apply opT_of; (refine r_load_pp rfl rfl rfl rfl ?_); refine r_nil ?_; exact rfl
  · exact rfl
  · exact rfl
  apply r_guard (s := 7) rfl rfl rfl
  · intro hg; apply opT_strip (s := 9) rfl (by (rw [hg]; rfl)); apply opT_of; (refine r_len rfl rfl rfl ?_); refine r_nil ?_; exact rfl
  · exact rfl
  · exact rfl
  apply r_guard (s := 7) rfl rfl rfl
  · intro hg; apply opT_strip (s := 10) rfl (by (rw [hg]; rfl)); apply opT_of; (refine r_bin rfl rfl rfl ?_); refine r_nil ?_; exact rfl
  · exact rfl
  · exact rfl
  refine r_or rfl rfl ?_
  refine mvB rfl ?_
  apply r_guard (s := 13) rfl rfl rfl
  · intro hg; apply opT_of; (refine r_field_pp rfl rfl rfl rfl rfl (by decide) ?_); refine r_nil ?_; exact rfl
  · exact rfl
  · exact rfl
  apply r_guard (s := 13) rfl rfl rfl
  · intro hg; apply opT_strip (s := 14) rfl (by (rw [hg]; rfl)); apply opT_of; (refine r_load_pp rfl rfl rfl rfl ?_); refine r_nil ?_; exact rfl
  · exact rfl
  · exact rfl
  apply r_guard (s := 13) rfl rfl rfl
  · intro hg; apply opT_strip (s := 15) rfl (by (rw [hg]; rfl)); apply opT_of; (refine r_len rfl rfl rfl ?_); refine r_nil ?_; exact rfl
  · exact rfl
  · exact rfl
  apply r_guard (s := 13) rfl rfl rfl
  · intro hg; apply opT_strip (s := 16) rfl (by (rw [hg]; rfl)); apply opT_of; (refine r_bin rfl rfl rfl ?_); refine r_nil ?_; exact rfl
  · exact rfl
  · exact rfl
  refine r_or rfl rfl ?_
  refine mvB rfl ?_
  apply r_guard (s := 19) rfl rfl rfl
  · intro hg; apply opT_of; (refine r_field_pp rfl rfl rfl rfl rfl (by decide) ?_); refine r_nil ?_; exact rfl
  · exact rfl
  · exact rfl
  apply r_guard (s := 19) rfl rfl rfl
  · intro hg; apply opT_strip (s := 20) rfl (by (rw [hg]; rfl)); apply opT_of; (refine r_load_pp rfl rfl rfl rfl ?_); refine r_nil ?_; exact rfl
  · exact rfl
  · exact rfl
  apply r_guard (s := 19) rfl rfl rfl
  · intro hg; apply opT_strip (s := 21) rfl (by (rw [hg]; rfl)); apply opT_of; (refine r_len rfl rfl rfl ?_); refine r_nil ?_; exact rfl
  · exact rfl
  · exact rfl
  apply r_guard (s := 19) rfl rfl rfl
  · intro hg; apply opT_strip (s := 22) rfl (by (rw [hg]; rfl)); apply opT_of; (refine r_bin rfl rfl rfl ?_); refine r_nil ?_; exact rfl
  · exact rfl
  · exact rfl
  refine r_or rfl rfl ?_
  refine mvB rfl ?_
  apply r_guard (s := 25) rfl rfl rfl
  · intro hg; apply opT_of; (refine r_field_pp rfl rfl rfl rfl rfl (by decide) ?_); refine r_nil ?_; exact rfl
  · exact rfl
  · exact rfl
  apply r_guard (s := 25) rfl rfl rfl
  · intro hg; apply opT_strip (s := 26) rfl (by (rw [hg]; rfl)); apply opT_of; (refine r_load_pp rfl rfl rfl rfl ?_); refine r_nil ?_; exact rfl
  · exact rfl
  · exact rfl
  apply r_guard (s := 25) rfl rfl rfl
  · intro hg; apply opT_strip (s := 27) rfl (by (rw [hg]; rfl)); apply opT_of; (refine r_call (c_ContainsFunc_bin f.bins (Ty.clo _ []) rfl (fun b => decide ((b.shares.length : Int) > 8)) rfl rfl fun b _ => cal_clo (c_great1 b) rfl rfl rfl rfl rfl rfl) rfl rfl rfl rfl rfl ?_); refine r_nil ?_; exact rfl
  · exact rfl
  · exact rfl
  refine r_or rfl rfl ?_
  refine asB rfl ?_
  refine r_nil ?_
  refine i_then ?_
  refine t_ret ?_
  refine i_rp1 rfl rfl ?_
  all_goals exact ret_refl rfl rfl
set_option maxRecDepth 100000 in
theorem c_Two (r : List Rul) : Ctr Tryz.prog 30 [Ty.sl RulE r] (flrT (two r)) := by
  refine fn_intro Tryz.func30 rfl (by decide) Tryz.ntmps30 (by exact Nat.le_of_ble_eq_true rfl) fun w0 M0 => ?_
  refine t_seq ?_
  refine t_region ?_
  refine r_alloc rfl (by exact List.cons_ne_nil _ _) rfl ?_
  refine r_nil ?_
  refine i_then ?_
  refine t_seq ?_
  refine t_region ?_
  refine r_buildSlice (E := I64) (xs := [400, 300]) rfl rfl rfl rfl rfl (by decide) (by decide) (by repeat (first | exact (Parts.nil : Parts _ _ [] _) | (show Parts _ _ ((_, _) :: _) _; apply Parts.one; (· exact (rfl : _ = Ty.int _ _)); (· exact rfl)))) (by exact rfl) rfl ?_
  refine r_buildSlice (E := I64) (xs := [4, 0]) rfl rfl rfl rfl rfl (by decide) (by decide) (by repeat (first | exact (Parts.nil : Parts _ _ [] _) | (show Parts _ _ ((_, _) :: _) _; apply Parts.one; (· exact (rfl : _ = Ty.int _ _)); (· exact rfl)))) (by exact rfl) rfl ?_
  refine r_build rfl rfl (by exact List.cons_ne_nil _ _) rfl (by repeat (first | exact (Parts.nil : Parts _ _ [] _) | (show Parts _ _ ((_, _) :: _) _; apply Parts.one; (· first | exact (rfl : _ = Ty.int _ _) | exact (rfl : _ = Ty.sl _ _)); (· exact rfl)))) (by exact (rfl : _ = some [_, _])) ?_
  refine r_buildSlice (E := I64) (xs := [2, 2]) rfl rfl rfl rfl rfl (by decide) (by decide) (by repeat (first | exact (Parts.nil : Parts _ _ [] _) | (show Parts _ _ ((_, _) :: _) _; apply Parts.one; (· exact (rfl : _ = Ty.int _ _)); (· exact rfl)))) (by exact rfl) rfl ?_
  refine r_build rfl rfl (by exact List.cons_ne_nil _ _) rfl (by repeat (first | exact (Parts.nil : Parts _ _ [] _) | (show Parts _ _ ((_, _) :: _) _; apply Parts.one; (· first | exact (rfl : _ = Ty.int _ _) | exact (rfl : _ = Ty.sl _ _)); (· exact rfl)))) (by exact (rfl : _ = some [_, _])) ?_
  refine r_buildSlice (E := I64) (xs := [0, 4]) rfl rfl rfl rfl rfl (by decide) (by decide) (by repeat (first | exact (Parts.nil : Parts _ _ [] _) | (show Parts _ _ ((_, _) :: _) _; apply Parts.one; (· exact (rfl : _ = Ty.int _ _)); (· exact rfl)))) (by exact rfl) rfl ?_
  refine r_build rfl rfl (by exact List.cons_ne_nil _ _) rfl (by repeat (first | exact (Parts.nil : Parts _ _ [] _) | (show Parts _ _ ((_, _) :: _) _; apply Parts.one; (· exact (rfl : _ = Ty.sl _ _)); (· exact rfl)))) (by exact (rfl : _ = some [_, _])) ?_
  refine r_buildSlice (E := BinE) (xs := [⟨60, [4, 0]⟩, ⟨30, [2, 2]⟩, ⟨0, [0, 4]⟩]) rfl rfl rfl rfl rfl (by decide) (by decide) (by repeat (first | exact (Parts.nil : Parts _ _ [] _) | (show Parts _ _ ((_, _) :: _) _; apply Parts.agg; (· exact (rfl : _ = Ty.agg _))))) (by exact rfl) rfl ?_
  refine r_build rfl rfl (by exact List.cons_ne_nil _ _) rfl (by repeat (first | exact (Parts.nil : Parts _ _ [] _) | (show Parts _ _ ((_, _) :: _) _; apply Parts.one; (· exact (rfl : _ = Ty.int _ _)); (· exact rfl)))) (by exact (rfl : _ = some [_, _, _])) ?_
  refine r_build rfl rfl (by exact List.cons_ne_nil _ _) rfl (by repeat (first | exact (Parts.nil : Parts _ _ [] _) | (show Parts _ _ ((_, _) :: _) _; apply Parts.one; (· exact (rfl : _ = Ty.int _ _)); (· exact rfl)))) (by exact (rfl : _ = some [_, _, _])) ?_
  refine r_build rfl rfl (by exact List.cons_ne_nil _ _) rfl (by repeat (first | exact (Parts.nil : Parts _ _ [] _) | (show Parts _ _ ((_, _) :: _) _; apply Parts.one; (· exact (rfl : _ = Ty.int _ _)); (· exact rfl)))) (by exact (rfl : _ = some [_, _, _])) ?_
  refine r_buildSlice (E := TrnE) (xs := [⟨0, 1, 40⟩, ⟨1, 2, 30⟩, ⟨-1, 0, 40⟩]) rfl rfl rfl rfl rfl (by decide) (by decide) (by repeat (first | exact (Parts.nil : Parts _ _ [] _) | (show Parts _ _ ((_, _) :: _) _; apply Parts.agg; (· exact (rfl : _ = Ty.agg _))))) (by exact rfl) rfl ?_
  refine mvS rfl ?_
  refine r_build rfl rfl (by exact List.cons_ne_nil _ _) rfl (by repeat (first | exact (Parts.nil : Parts _ _ [] _) | (show Parts _ _ ((_, _) :: _) _; apply Parts.one; (· exact (rfl : _ = Ty.sl _ _)); (· exact rfl)))) (by exact (rfl : _ = some [_, _, _, _])) ?_
  refine r_storeN rfl rfl (by decide) rfl rfl rfl rfl rfl rfl ?_
  refine r_nil ?_
  refine i_then ?_
  refine t_ret ?_
  refine i_rcell rfl rfl rfl rfl (by decide) rfl rfl rfl ?_
  exact ret_agg (ts := flrTys (two r)) (rets_cons (ret_refl rfl rfl) (rets_cons (ret_refl rfl rfl) (rets_cons (ret_refl rfl rfl) (rets_cons (ret_refl rfl rfl) rets_nil))))
end Go.Proofs.YtifgbnbkimcchaaGreat

namespace Go.Proofs.YtifgbnbkimcchaaGreat
def iot (n : Nat) : List Int := (List.range n).map fun (k : Nat) => (k : Int)
theorem iot_succ (n : Nat) : iot (n + 1) = iot n ++ [(n : Int)] := by simp [iot, List.range_succ]
theorem iot_len (n : Nat) : (iot n).length = n := by simp [iot]
theorem mem_iot {n : Nat} {x : Int} : x ∈ iot n ↔ 0 ≤ x ∧ x < n := by
  simp only [iot, List.mem_map, List.mem_range]
  constructor
  · rintro ⟨k, hk, rfl⟩; omega
  · rintro ⟨h1, h2⟩; exact ⟨x.toNat, by omega, by omega⟩
def unk (rules : List Rul) (known : List Int) : Nat := rules.countP fun r => decide (r.fst ∉ known)
def rstep (rec : Int → List Int → List Int) (t : Int) (kn : List Int) (r : Rul) : List Int := if r.nxt = t ∧ r.fst ∉ kn then rec r.fst (kn ++ [r.fst]) else kn
def reachM (rules : List Rul) : Nat → Int → List Int → List Int
  | 0, _, known => known
  | n + 1, t, known => rules.foldl (rstep (reachM rules n) t) known
theorem unk_mono {rules : List Rul} {a b : List Int} (h : ∀ x ∈ a, x ∈ b) : unk rules b ≤ unk rules a := by
  refine List.countP_mono_left fun r _ hr => ?_
  simp only [decide_eq_true_eq] at hr ⊢
  exact fun hx => hr (h _ hx)
theorem unk_add {rules : List Rul} {kn : List Int} {r : Rul} (hr : r ∈ rules) (h : r.fst ∉ kn) : unk rules (kn ++ [r.fst]) + 1 ≤ unk rules kn := by
  unfold unk
  induction rules with
  | nil => cases hr
  | cons q l ih =>
    simp only [List.countP_cons]
    have hle : List.countP (fun r_1 => decide (r_1.fst ∉ kn ++ [r.fst])) l ≤ List.countP (fun r => decide (r.fst ∉ kn)) l := unk_mono (rules := l) fun x hx => List.mem_append_left _ hx
    rcases List.mem_cons.1 hr with rfl | hr
    · rw [if_neg (by simp), if_pos (by simpa using h)]; omega
    · have := ih hr
      have : (if decide (q.fst ∉ kn ++ [r.fst]) = true then 1 else 0) ≤ (if decide (q.fst ∉ kn) = true then 1 else 0) := by
        by_cases h1 : q.fst ∈ kn
        · rw [if_neg (by simp [h1]), if_neg (by simp [h1])]; omega
        · rw [if_pos (show decide (q.fst ∉ kn) = true by simpa using h1)]; split <;> omega
      omega
def Grew (rules : List Rul) (a b : List Int) : Prop := (∀ x ∈ a, x ∈ b) ∧ b.length + unk rules b ≤ a.length + unk rules a
theorem Grew.refl (rules : List Rul) (a : List Int) : Grew rules a a := ⟨fun _ h => h, Nat.le_refl _⟩
theorem Grew.trans {rules : List Rul} {a b c : List Int} (h : Grew rules a b) (h' : Grew rules b c) : Grew rules a c := ⟨fun x hx => h'.1 x (h.1 x hx), Nat.le_trans h'.2 h.2⟩
theorem grew_add {rules : List Rul} {kn : List Int} {r : Rul} (hr : r ∈ rules) (h : r.fst ∉ kn) : Grew rules kn (kn ++ [r.fst]) :=
  ⟨fun x hx => List.mem_append_left _ hx, by have := unk_add hr h; simp; omega⟩
theorem grew_fold {rules : List Rul} {rec : Int → List Int → List Int} {t : Int} (hrec : ∀ t kn, Grew rules kn (rec t kn)) : ∀ (l : List Rul), (∀ r ∈ l, r ∈ rules) → ∀ kn, Grew rules kn (l.foldl (rstep rec t) kn)
  | [], _, kn => .refl _ _
  | r :: l, hl, kn => by
    refine Grew.trans ?_ (grew_fold hrec l (fun x hx => hl x (List.mem_cons_of_mem _ hx)) _)
    unfold rstep
    split
    · rename_i h
      exact (grew_add (hl r List.mem_cons_self) h.2).trans (hrec _ _)
    · exact .refl _ _
theorem grew_reach (rules : List Rul) : ∀ (n : Nat) (t : Int) (kn : List Int), Grew rules kn (reachM rules n t kn)
  | 0, _, _ => .refl _ _
  | n + 1, _, kn => grew_fold (grew_reach rules n) rules (fun _ h => h) kn
def reachAll (f : Flr) (t : Int) : List Int := reachM f.rules (f.rules.length + 1) t []
def aheadM (f : Flr) (t : Int) : List Int := (iot f.turnings.length).filter fun k => decide (k ∈ reachAll f t)
theorem unk_le (rules : List Rul) (kn : List Int) : unk rules kn ≤ rules.length := List.countP_le_length
end Go.Proofs.YtifgbnbkimcchaaGreat

namespace Go.Proofs.YtifgbnbkimcchaaGreat
open Go Go.T
attribute [local irreducible] dInt dBool dSl dPp dPtr dAgg dTup dClo dAny dEx dStr dGd dCells dVec dVs dRow dOp nth Tri Into TOps Ctr bodyPost Exit.then Exit.inBlock Code.wp Code.wpIn
set_option maxRecDepth 100000 in
theorem c_theirs (f : Flr) (hs : f.Small) : Ctr Tryz.prog 9 [flrT f] (flrT f) := by
  refine fn_intro Tryz.func9 rfl (by decide) Tryz.ntmps9 (by exact Nat.le_of_ble_eq_true rfl) fun w0 M0 => ?_
  have hs1 := hs.bears; have hs2 := hs.bins; have hs3 := hs.turnings; have hs4 := hs.rules
  have hb := hs.bins; have ht := hs.turnings; have hr := hs.rules
  refine t_seq ?_
  refine t_region ?_
  refine r_box_agg rfl ?_
  refine r_alloc rfl (by exact List.cons_ne_nil _ _) rfl ?_
  refine r_nil ?_
  refine i_then ?_
  refine t_seq ?_
  refine t_region ?_
  refine r_field_pp rfl rfl rfl rfl rfl (by decide) ?_
  refine r_load_pp rfl rfl rfl rfl ?_
  refine r_call (c_Dup_int f.bears (by have := hs.bears; omega)) rfl rfl rfl rfl rfl ?_
  refine r_build rfl rfl (by exact List.cons_ne_nil _ _) rfl (by repeat (first | exact (Parts.nil : Parts _ _ [] _) | (show Parts _ _ ((_, _) :: _) _; apply Parts.one; (· exact (rfl : _ = Ty.sl _ _)); (· exact rfl)))) (by exact (rfl : _ = some [_, _, _, _])) ?_
  refine r_alloc rfl (by exact List.cons_ne_nil _ _) rfl ?_
  refine r_storeN rfl rfl (by decide) rfl rfl rfl rfl rfl rfl ?_
  refine r_nil ?_
  refine i_then ?_
  refine t_seq ?_
  refine t_seq ?_
  refine t_region ?_
  refine r_field_pp rfl rfl rfl rfl rfl (by decide) ?_
  refine r_load_pp rfl rfl rfl rfl ?_
  refine r_len rfl rfl rfl ?_
  refine mvI rfl ?_
  refine r_nil ?_
  refine i_then ?_
  refine t_block ?_
  refine t_loop (fun (k : Nat) => live [(1, Ty.pp (flrTys f)), (2, Ty.ptr 3 0), (3, Ty.ptr 4 0), (15, Ty.sl BinE f.bins), (16, Ty.int .i64 f.bins.length), (17, Ty.int .i64 (k : Nat))] [(3, Cont.cells 35 [Ty.ex (.slice none 0 0), Ty.ex (.slice none 0 0), Ty.ex (.slice none 0 0), Ty.ex (.slice none 0 0)]), (4, Cont.cells 35 [Ty.sl I64 f.bears, Ty.row BinE 99 26 (f.bins.take k), Ty.ex (.slice none 0 0), Ty.ex (.slice none 0 0)])]) (fun k => f.bins.length - k) (0) ?_ fun k => ?_
  · (refine Ent.mk' ?_ ?_ <;> (repeat' (first | exact allSub_zero | exact allTags_nil | exact subs_nil | refine allSub_succ' ?_ (Ty.sub_any _) | refine allSub_succ' ?_ (Ty.sub_refl _) | refine allTags_cons rfl (Cont.sub_refl _) ?_ | refine allTags_cons rfl (Cont.sub_subs ?_) ?_ | refine subs_cons ?_ (Ty.sub_refl _) | refine subs_cons ?_ Ty.nil_row)))
  ·
    refine t_seq ?_
    refine t_region ?_
    refine r_bin rfl rfl rfl ?_
    refine r_nil ?_
    refine i_then ?_
    refine t_seq ?_
    refine t_cond_dec rfl (fun hc1 => ?_) (fun hc1 => ?_)
    ·
      refine t_skip ?_
      refine i_then ?_
      refine t_seq ?_
      refine t_block ?_
      refine t_seq ?_
      refine t_region ?_
      refine r_index_slN rfl rfl rfl rfl rfl rfl (by omega) ?_
      refine r_load_ppN rfl rfl rfl (by exact Nat.le_of_ble_eq_true rfl) ?_
      refine r_alloc rfl (by exact List.cons_ne_nil _ _) rfl ?_
      refine r_storeN rfl rfl (by decide) rfl rfl rfl rfl rfl rfl ?_
      refine r_nil ?_
      refine i_then ?_
      refine t_region ?_
      refine r_field_ptr rfl rfl rfl rfl rfl (by decide) ?_
      refine r_load_ptr rfl rfl (by decide) rfl rfl rfl ?_
      refine r_load_ptrN rfl rfl (by decide) rfl rfl (by exact Nat.le_of_ble_eq_true rfl) ?_
      refine r_buildSlice (E := BinE) (xs := [nth f.bins k]) rfl rfl rfl rfl rfl (by decide) (by decide) (by repeat (first | exact (Parts.nil : Parts _ _ [] _) | (show Parts _ _ ((_, _) :: _) _; apply Parts.agg; (· exact (rfl : _ = Ty.agg _))))) (by exact rfl) rfl ?_
      refine r_append rfl rfl (by decide) rfl rfl rfl rfl rfl rfl (by decide) (by (simp <;> omega)) (by (simp <;> omega)) ?_
      refine r_field_ptr rfl rfl rfl rfl rfl (by decide) ?_
      refine r_store1 rfl rfl (by decide) rfl rfl (by exact (rfl : _ = Ty.row _ _ _ _)) rfl (by exact Nat.le_of_ble_eq_true rfl) rfl rfl (by exact rfl) ?_
      refine r_nil ?_
      refine i_block ?_
      refine i_then ?_
      refine t_region ?_
      refine r_add rfl rfl (by omega) (by omega) ?_
      refine mvI rfl ?_
      refine r_nil ?_
      refine i_round (k + 1) ?_ (by omega)
      (refine Ent.mk' ?_ ?_ <;> (repeat' (first | exact allSub_zero | exact allTags_nil | exact subs_nil | refine allSub_succ' ?_ (Ty.sub_any _) | refine allSub_succ' ?_ (Ty.sub_refl _) | refine allTags_cons rfl (Cont.sub_refl _) ?_ | refine allTags_cons rfl (Cont.sub_subs ?_) ?_ | refine subs_cons ?_ (Ty.sub_refl _) | refine subs_cons ?_ ?_)))
      all_goals exact Ty.sub_row (take_nth (by omega)).symm
    ·
      refine t_exit ?_
      refine i_then_exit ?_
      refine i_then_exit ?_
      refine i_block_exit rfl ?_
      refine i_then ?_
      refine t_seq ?_
      refine t_seq ?_
      refine t_region ?_
      refine r_field_pp rfl rfl rfl rfl rfl (by decide) ?_
      refine r_load_pp rfl rfl rfl rfl ?_
      refine r_len rfl rfl rfl ?_
      refine mvI rfl ?_
      refine r_nil ?_
      refine i_then ?_
      refine t_block ?_
      refine t_loop (fun (k : Nat) => live [(1, Ty.pp (flrTys f)), (2, Ty.ptr 3 0), (3, Ty.ptr 4 0), (29, Ty.sl TrnE f.turnings), (30, Ty.int .i64 f.turnings.length), (31, Ty.int .i64 (k : Nat))] [(3, Cont.cells 35 [Ty.ex (.slice none 0 0), Ty.ex (.slice none 0 0), Ty.ex (.slice none 0 0), Ty.ex (.slice none 0 0)]), (4, Cont.cells 35 [Ty.sl I64 f.bears, Ty.row BinE 99 26 f.bins, Ty.row TrnE 100 40 (f.turnings.take k), Ty.ex (.slice none 0 0)])]) (fun k => f.turnings.length - k) (0) ?_ fun k => ?_
      · (refine Ent.mk' ?_ ?_ <;> (repeat' (first | exact allSub_zero | exact allTags_nil | exact subs_nil | refine allSub_succ' ?_ (Ty.sub_any _) | refine allSub_succ' ?_ (Ty.sub_refl _) | refine allTags_cons rfl (Cont.sub_refl _) ?_ | refine allTags_cons rfl (Cont.sub_subs ?_) ?_ | refine subs_cons ?_ (Ty.sub_refl _) | refine subs_cons ?_ Ty.nil_row | refine subs_cons ?_ ?_)))
        exact Ty.sub_row (List.take_of_length_le (by omega))
      ·
        refine t_seq ?_
        refine t_region ?_
        refine r_bin rfl rfl rfl ?_
        refine r_nil ?_
        refine i_then ?_
        refine t_seq ?_
        refine t_cond_dec rfl (fun hc2 => ?_) (fun hc2 => ?_)
        ·
          refine t_skip ?_
          refine i_then ?_
          refine t_seq ?_
          refine t_block ?_
          refine t_seq ?_
          refine t_region ?_
          refine r_index_slN rfl rfl rfl rfl rfl rfl (by omega) ?_
          refine r_load_ppN rfl rfl rfl (by exact Nat.le_of_ble_eq_true rfl) ?_
          refine r_alloc rfl (by exact List.cons_ne_nil _ _) rfl ?_
          refine r_storeN rfl rfl (by decide) rfl rfl rfl rfl rfl rfl ?_
          refine r_nil ?_
          refine i_then ?_
          refine t_region ?_
          refine r_field_ptr rfl rfl rfl rfl rfl (by decide) ?_
          refine r_load_ptr rfl rfl (by decide) rfl rfl rfl ?_
          refine r_load_ptrN rfl rfl (by decide) rfl rfl (by exact Nat.le_of_ble_eq_true rfl) ?_
          refine r_buildSlice (E := TrnE) (xs := [nth f.turnings k]) rfl rfl rfl rfl rfl (by decide) (by decide) (by repeat (first | exact (Parts.nil : Parts _ _ [] _) | (show Parts _ _ ((_, _) :: _) _; apply Parts.agg; (· exact (rfl : _ = Ty.agg _))))) (by exact rfl) rfl ?_
          refine r_append rfl rfl (by decide) rfl rfl rfl rfl rfl rfl (by decide) (by (simp <;> omega)) (by (simp <;> omega)) ?_
          refine r_field_ptr rfl rfl rfl rfl rfl (by decide) ?_
          refine r_store1 rfl rfl (by decide) rfl rfl (by exact (rfl : _ = Ty.row _ _ _ _)) rfl (by exact Nat.le_of_ble_eq_true rfl) rfl rfl (by exact rfl) ?_
          refine r_nil ?_
          refine i_block ?_
          refine i_then ?_
          refine t_region ?_
          refine r_add rfl rfl (by omega) (by omega) ?_
          refine mvI rfl ?_
          refine r_nil ?_
          refine i_round (k + 1) ?_ (by omega)
          (refine Ent.mk' ?_ ?_ <;> (repeat' (first | exact allSub_zero | exact allTags_nil | exact subs_nil | refine allSub_succ' ?_ (Ty.sub_any _) | refine allSub_succ' ?_ (Ty.sub_refl _) | refine allTags_cons rfl (Cont.sub_refl _) ?_ | refine allTags_cons rfl (Cont.sub_subs ?_) ?_ | refine subs_cons ?_ (Ty.sub_refl _) | refine subs_cons ?_ ?_)))
          all_goals exact Ty.sub_row (take_nth (by omega)).symm
        ·
          refine t_exit ?_
          refine i_then_exit ?_
          refine i_then_exit ?_
          refine i_block_exit rfl ?_
          refine i_then ?_
          refine t_seq ?_
          refine t_seq ?_
          refine t_region ?_
          refine r_field_pp rfl rfl rfl rfl rfl (by decide) ?_
          refine r_load_pp rfl rfl rfl rfl ?_
          refine r_len rfl rfl rfl ?_
          refine mvI rfl ?_
          refine r_nil ?_
          refine i_then ?_
          refine t_block ?_
          refine t_loop (fun (k : Nat) => live [(1, Ty.pp (flrTys f)), (2, Ty.ptr 3 0), (3, Ty.ptr 4 0), (43, Ty.sl RulE f.rules), (44, Ty.int .i64 f.rules.length), (45, Ty.int .i64 (k : Nat))] [(3, Cont.cells 35 [Ty.ex (.slice none 0 0), Ty.ex (.slice none 0 0), Ty.ex (.slice none 0 0), Ty.ex (.slice none 0 0)]), (4, Cont.cells 35 [Ty.sl I64 f.bears, Ty.row BinE 99 26 f.bins, Ty.row TrnE 100 40 f.turnings, Ty.row RulE 101 54 (f.rules.take k)])]) (fun k => f.rules.length - k) (0) ?_ fun k => ?_
          · (refine Ent.mk' ?_ ?_ <;> (repeat' (first | exact allSub_zero | exact allTags_nil | exact subs_nil | refine allSub_succ' ?_ (Ty.sub_any _) | refine allSub_succ' ?_ (Ty.sub_refl _) | refine allTags_cons rfl (Cont.sub_refl _) ?_ | refine allTags_cons rfl (Cont.sub_subs ?_) ?_ | refine subs_cons ?_ (Ty.sub_refl _) | refine subs_cons ?_ Ty.nil_row | refine subs_cons ?_ ?_)))
            exact Ty.sub_row (List.take_of_length_le (by omega))
          ·
            refine t_seq ?_
            refine t_region ?_
            refine r_bin rfl rfl rfl ?_
            refine r_nil ?_
            refine i_then ?_
            refine t_seq ?_
            refine t_cond_dec rfl (fun hc3 => ?_) (fun hc3 => ?_)
            ·
              refine t_skip ?_
              refine i_then ?_
              refine t_seq ?_
              refine t_block ?_
              refine t_seq ?_
              refine t_region ?_
              refine r_index_slN rfl rfl rfl rfl rfl rfl (by omega) ?_
              refine r_load_ppN rfl rfl rfl (by exact Nat.le_of_ble_eq_true rfl) ?_
              refine r_alloc rfl (by exact List.cons_ne_nil _ _) rfl ?_
              refine r_storeN rfl rfl (by decide) rfl rfl rfl rfl rfl rfl ?_
              refine r_nil ?_
              refine i_then ?_
              refine t_region ?_
              refine r_field_ptr rfl rfl rfl rfl rfl (by decide) ?_
              refine r_load_ptr rfl rfl (by decide) rfl rfl rfl ?_
              refine r_load_ptrN rfl rfl (by decide) rfl rfl (by exact Nat.le_of_ble_eq_true rfl) ?_
              refine r_buildSlice (E := RulE) (xs := [nth f.rules k]) rfl rfl rfl rfl rfl (by decide) (by decide) (by repeat (first | exact (Parts.nil : Parts _ _ [] _) | (show Parts _ _ ((_, _) :: _) _; apply Parts.agg; (· exact (rfl : _ = Ty.agg _))))) (by exact rfl) rfl ?_
              refine r_append rfl rfl (by decide) rfl rfl rfl rfl rfl rfl (by decide) (by (simp <;> omega)) (by (simp <;> omega)) ?_
              refine r_field_ptr rfl rfl rfl rfl rfl (by decide) ?_
              refine r_store1 rfl rfl (by decide) rfl rfl (by exact (rfl : _ = Ty.row _ _ _ _)) rfl (by exact Nat.le_of_ble_eq_true rfl) rfl rfl (by exact rfl) ?_
              refine r_nil ?_
              refine i_block ?_
              refine i_then ?_
              refine t_region ?_
              refine r_add rfl rfl (by omega) (by omega) ?_
              refine mvI rfl ?_
              refine r_nil ?_
              refine i_round (k + 1) ?_ (by omega)
              (refine Ent.mk' ?_ ?_ <;> (repeat' (first | exact allSub_zero | exact allTags_nil | exact subs_nil | refine allSub_succ' ?_ (Ty.sub_any _) | refine allSub_succ' ?_ (Ty.sub_refl _) | refine allTags_cons rfl (Cont.sub_refl _) ?_ | refine allTags_cons rfl (Cont.sub_subs ?_) ?_ | refine subs_cons ?_ (Ty.sub_refl _) | refine subs_cons ?_ ?_)))
              all_goals exact Ty.sub_row (take_nth (by omega)).symm
            ·
              refine t_exit ?_
              refine i_then_exit ?_
              refine i_then_exit ?_
              refine i_block_exit rfl ?_
              refine i_then ?_
              refine t_seq ?_
              refine t_region ?_
              refine r_load_ptrN rfl rfl (by decide) rfl rfl (by exact Nat.le_of_ble_eq_true rfl) ?_
              refine r_storeN rfl rfl (by decide) rfl rfl rfl rfl rfl rfl ?_
              refine r_nil ?_
              refine i_then ?_
              refine t_ret ?_
              refine i_rcell rfl rfl rfl rfl (by decide) rfl rfl rfl ?_
              exact ret_agg (ts := flrTys f) (rets_cons (ret_refl rfl rfl) (rets_cons (ret_row (by decide)) (rets_cons (ret_row (by decide)) (rets_cons (ret_row_eq (by decide) (List.take_of_length_le (by omega))) rets_nil))))
set_option maxRecDepth 100000 in
theorem c_off (n lo hi : Int) : Ctr Tryz.prog 55 [Ty.int .i64 n, Ty.int .i64 lo, Ty.int .i64 hi] (Ty.bool (decide (n < lo) || decide (n > hi))) := by
  refine fn_intro Tryz.func55 rfl (by decide) Tryz.ntmps55 (by exact Nat.le_of_ble_eq_true rfl) fun w0 M0 => ?_
  refine t_seq ?_
  refine t_region ?_
  refine asB rfl ?_
  refine r_nil ?_
  refine i_then ?_
  refine t_seq ?_
  refine t_region ?_
  refine mvI rfl ?_
  refine mvI rfl ?_
  refine r_bin rfl rfl rfl ?_
  refine mvB rfl ?_
  apply r_guard (s := 10) rfl rfl rfl
  · intro hg; apply opT_of; (refine mvI rfl ?_); refine r_nil ?_; exact rfl
  · exact rfl
  · exact rfl
  apply r_guard (s := 10) rfl rfl rfl
  · intro hg; apply opT_of; (refine mvI rfl ?_); refine r_nil ?_; exact rfl
  · exact rfl
  · exact rfl
  apply r_guard (s := 10) rfl rfl rfl
  · intro hg; apply opT_strip (s := 11) rfl (by (rw [hg]; rfl)); apply opT_strip (s := 12) rfl (by (rw [hg]; rfl)); apply opT_of; (refine r_bin rfl rfl rfl ?_); refine r_nil ?_; exact rfl
  · exact rfl
  · exact rfl
  refine r_or rfl rfl ?_
  refine asB rfl ?_
  refine r_nil ?_
  refine i_then ?_
  refine t_ret ?_
  refine i_rp1 rfl rfl ?_
  all_goals exact ret_refl rfl rfl
set_option maxRecDepth 100000 in
theorem c_has (l : List Int) (n : Int) : Ctr Tryz.prog 57 [Ty.sl I64 l, Ty.int .i64 n] (Ty.bool (decide (n ∈ l))) := by
  refine fn_intro Tryz.func57 rfl (by decide) Tryz.ntmps57 (by exact Nat.le_of_ble_eq_true rfl) fun w0 M0 => ?_
  refine t_fact (s := 0) rfl rfl sl_len fun hl => ?_
  refine t_seq ?_
  refine t_region ?_
  refine asB rfl ?_
  refine r_nil ?_
  refine i_then ?_
  refine t_seq ?_
  refine t_seq ?_
  refine t_region ?_
  refine asI rfl ?_
  refine r_nil ?_
  refine i_then ?_
  refine t_block ?_
  refine t_loop (fun (k : {k : Nat // n ∉ l.take k}) => live [(0, Ty.sl I64 l), (1, Ty.int .i64 n), (5, Ty.int .i64 (k.1 : Nat))] []) (fun k => l.length - k.1) (⟨0, by simp⟩) ?_ fun k => ?_
  · (refine Ent.mk' ?_ ?_ <;> (repeat' (first | exact allSub_zero | exact allTags_nil | refine allSub_succ' ?_ (Ty.sub_any _) | refine allSub_succ' ?_ (Ty.sub_refl _))))
  ·
    refine t_seq ?_
    refine t_seq ?_
    refine t_region ?_
    refine mvI rfl ?_
    refine mvS rfl ?_
    refine r_len rfl rfl rfl ?_
    refine r_bin rfl rfl rfl ?_
    refine r_nil ?_
    refine i_then ?_
    refine t_cond_dec rfl (fun hc1 => ?_) (fun hc1 => ?_)
    ·
      refine t_skip ?_
      refine i_then ?_
      refine t_seq ?_
      refine t_block ?_
      refine t_seq ?_
      refine t_region ?_
      refine mvS rfl ?_
      refine mvI rfl ?_
      refine r_index_slN rfl rfl rfl rfl rfl rfl (by omega) ?_
      refine r_load_pp rfl rfl rfl rfl ?_
      refine mvI rfl ?_
      refine r_bin rfl rfl rfl ?_
      refine r_nil ?_
      refine i_then ?_
      refine t_cond_dec rfl (fun hc2 => ?_) (fun hc2 => ?_)
      ·
        refine t_seq ?_
        refine t_region ?_
        refine asB rfl ?_
        refine r_nil ?_
        refine i_then ?_
        refine t_ret ?_
        refine i_block_ret ?_
        refine i_then_ret ?_
        refine i_then_ret ?_
        refine i_block_ret ?_
        refine i_then_ret ?_
        refine i_rp1 rfl rfl ?_
        all_goals skip
        exact ret_eq rfl rfl (congrArg Ty.bool (decide_eq_true (hc2 ▸ nth_mem (by omega))).symm)
      ·
        refine t_skip ?_
        refine i_block ?_
        refine i_then ?_
        refine t_region ?_
        refine mvI rfl ?_
        refine r_add rfl rfl (by omega) (by omega) ?_
        refine asI rfl ?_
        refine r_nil ?_
        refine i_round (⟨k.1 + 1, by rw [take_nth (by omega), List.mem_append, List.mem_singleton]; rintro (h | h); exact k.2 h; exact hc2 h.symm⟩) ?_ (by show l.length - (k.1 + 1) < l.length - k.1; omega)
        (refine Ent.mk' ?_ ?_ <;> (repeat' (first | exact allSub_zero | exact allTags_nil | refine allSub_succ' ?_ (Ty.sub_any _) | refine allSub_succ' ?_ (Ty.sub_refl _))))
        all_goals skip
    ·
      refine t_exit ?_
      refine i_then_exit ?_
      refine i_then_exit ?_
      refine i_block_exit rfl ?_
      refine i_then ?_
      refine t_seq ?_
      refine t_region ?_
      refine asB rfl ?_
      refine r_nil ?_
      refine i_then ?_
      refine t_ret ?_
      refine i_rp1 rfl rfl ?_
      all_goals skip
      exact ret_eq rfl rfl (congrArg Ty.bool (decide_eq_false (by have := k.2; rwa [List.take_of_length_le (by omega)] at this)).symm)
set_option maxRecDepth 100000 in
theorem c_There (f : Flr) (hs : f.Small) (t : Int) : Ctr Tryz.prog 21 [flrT f, Ty.int .i64 t] (Ty.int .i64 (if t < 0 ∨ t ≥ f.turnings.length then 1 else 0)) := by
  refine fn_intro Tryz.func21 rfl (by decide) Tryz.ntmps21 (by exact Nat.le_of_ble_eq_true rfl) fun w0 M0 => ?_
  have hs1 := hs.bears; have hs2 := hs.bins; have hs3 := hs.turnings; have hs4 := hs.rules
  refine t_seq ?_
  refine t_region ?_
  refine r_box_agg rfl ?_
  refine asI rfl ?_
  refine r_nil ?_
  refine i_then ?_
  refine t_seq ?_
  refine t_seq ?_
  refine t_region ?_
  refine mvI rfl ?_
  refine r_field_pp rfl rfl rfl rfl rfl (by decide) ?_
  refine r_load_pp rfl rfl rfl rfl ?_
  refine r_len rfl rfl rfl ?_
  refine r_sub rfl rfl (by omega) (by omega) ?_
  refine r_call (c_off _ _ _) rfl rfl rfl rfl rfl ?_
  refine r_nil ?_
  refine i_then ?_
  refine t_cond rfl (fun hc1 => ?_) (fun hc1 => ?_)
  ·
    refine t_seq ?_
    refine t_region ?_
    refine asI rfl ?_
    refine r_nil ?_
    refine i_then ?_
    refine t_ret ?_
    refine i_then_ret ?_
    refine i_rp1 rfl rfl ?_
    all_goals skip
    exact ret_eq rfl rfl (congrArg (Ty.int .i64) (by rw [if_pos]; simp only [Bool.or_eq_true, decide_eq_true_eq] at hc1; omega))
  ·
    refine t_skip ?_
    refine i_then ?_
    refine t_seq ?_
    refine t_region ?_
    refine asI rfl ?_
    refine r_nil ?_
    refine i_then ?_
    refine t_ret ?_
    refine i_rp1 rfl rfl ?_
    all_goals skip
    exact ret_eq rfl rfl (congrArg (Ty.int .i64) (by rw [if_neg]; simp only [Bool.or_eq_false_iff, decide_eq_false_iff_not] at hc1; omega))
end Go.Proofs.YtifgbnbkimcchaaGreat

namespace Go.Proofs.YtifgbnbkimcchaaGreat
theorem any_pos {α : Type} {q : α → Bool} {l : List α} {x : α} (hx : x ∈ l) (h : q x = true) : l.any q = true := List.any_eq_true.2 ⟨x, hx, h⟩
theorem any_neg {α : Type} {q : α → Bool} {l : List α} {k : Nat} (h : ∀ x ∈ l.take k, q x = false) (hk : l.length ≤ k) : l.any q = false := by
  rw [List.take_of_length_le hk] at h
  rw [Bool.eq_false_iff]; intro hc
  obtain ⟨x, hx, hq⟩ := List.any_eq_true.1 hc
  rw [h x hx] at hq; cases hq
theorem any_none {α : Type} {q : α → Bool} {l : List α} (h : l.any q = false) {x : α} (hx : x ∈ l) : q x = false := by
  cases hq : q x with
  | false => rfl
  | true => rw [any_pos hx hq] at h; cases h
def offB (n lo hi : Int) : Bool := decide (n < lo) || decide (n > hi)
theorem offB_false {n lo hi : Int} (h : offB n lo hi = false) : lo ≤ n ∧ n ≤ hi := by
  simp only [offB, Bool.or_eq_false_iff, decide_eq_false_iff_not] at h; omega
def Flr.many (f : Flr) : Bool := offB f.bears.length 1 4 || decide ((f.bins.length : Int) > 6) || decide ((f.turnings.length : Int) > 8) || decide ((f.rules.length : Int) > 16)
def takenM (f : Flr) (ts : List Trn) (i : Int) : Int := (ts.map fun t => if t.src = i then t.sacks else 0).sum
def Flr.wrongAt (f : Flr) (i : Nat) (b : Bin) : Bool := !decide (b.shares.sum = 4) || decide (takenM f f.turnings i > b.has)
def linkedM (f : Flr) : Int :=
  if f.turnings.any fun t => offB t.src (-1) (f.bins.length - 1) || offB t.dst (-1) (f.bins.length - 1) then 1
  else if f.rules.any fun r => offB r.fst 0 (f.turnings.length - 1) || offB r.nxt 0 (f.turnings.length - 1) then 1
  else if f.turnings.any fun t => decide (t.src = t.dst) then 5
  else if (iot f.bins.length).any fun i => f.wrongAt i.toNat (f.bins.getD i.toNat default) then 8
  else if (iot f.turnings.length).any fun t => decide (t ∈ aheadM f t) then 7
  else 0
def checkM (f : Flr) : Int :=
  if f.many then 2
  else if f.bins.any fun b => !decide ((b.shares.length : Int) = f.bears.length) then 2
  else if f.bears.any fun n => offB n 0 4000 then 3
  else if f.bins.any fun b => offB b.has 0 300 || b.shares.any fun n => offB n 0 4 then 3
  else if f.turnings.any fun t => offB t.sacks 1 300 then 3
  else linkedM f
structure Flr.Ranged (f : Flr) : Prop where
  bears1 : 1 ≤ f.bears.length
  bears : f.bears.length ≤ 4
  bins : f.bins.length ≤ 6
  turnings : f.turnings.length ≤ 8
  rules : f.rules.length ≤ 16
  shares : ∀ b ∈ f.bins, b.shares.length = f.bears.length
  bearsR : ∀ n ∈ f.bears, 0 ≤ n ∧ n ≤ 4000
  hasR : ∀ b ∈ f.bins, 0 ≤ b.has ∧ b.has ≤ 300
  sharesR : ∀ b ∈ f.bins, ∀ n ∈ b.shares, 0 ≤ n ∧ n ≤ 4
  sacksR : ∀ t ∈ f.turnings, 1 ≤ t.sacks ∧ t.sacks ≤ 300
theorem ranged_of {f : Flr} (h1 : f.many = false) (h2 : (f.bins.any fun b => !decide ((b.shares.length : Int) = f.bears.length)) = false) (h3 : (f.bears.any fun n => offB n 0 4000) = false)
    (h4 : (f.bins.any fun b => offB b.has 0 300 || b.shares.any fun n => offB n 0 4) = false) (h5 : (f.turnings.any fun t => offB t.sacks 1 300) = false) : f.Ranged := by
  simp only [Flr.many, Bool.or_eq_false_iff, decide_eq_false_iff_not] at h1
  have h0 := offB_false h1.1.1.1
  refine ⟨by omega, by omega, by omega, by omega, by omega, fun b hb => ?_, fun n hn => offB_false (any_none h3 hn), fun b hb => ?_, fun b hb n hn => ?_, fun t ht => offB_false (any_none h5 ht)⟩
  · have := any_none h2 hb
    simp only [Bool.not_eq_false', decide_eq_true_eq] at this; omega
  · have := any_none h4 hb
    simp only [Bool.or_eq_false_iff] at this; exact offB_false this.1
  · have := any_none h4 hb
    simp only [Bool.or_eq_false_iff] at this; exact offB_false (any_none this.2 hn)
theorem sum_bound {l : List Int} {lo hi : Int} (h : ∀ n ∈ l, lo ≤ n ∧ n ≤ hi) : lo * l.length ≤ l.sum ∧ l.sum ≤ hi * l.length := by
  induction l with
  | nil => simp
  | cons a l ih =>
    obtain ⟨h1, h2⟩ := h a List.mem_cons_self
    obtain ⟨h3, h4⟩ := ih fun n hn => h n (List.mem_cons_of_mem _ hn)
    simp only [List.sum_cons, List.length_cons, Int.natCast_add, Int.mul_add, Int.natCast_one, Int.mul_one]
    omega
theorem taken_bound {f : Flr} (hr : f.Ranged) (k : Nat) (i : Int) : 0 ≤ takenM f (f.turnings.take k) i ∧ takenM f (f.turnings.take k) i ≤ 2400 := by
  have h := sum_bound (l := (f.turnings.take k).map fun t => if t.src = i then t.sacks else 0) (lo := 0) (hi := 300) fun n hn => by
    obtain ⟨t, ht, rfl⟩ := List.mem_map.1 hn
    have := hr.sacksR t (List.mem_of_mem_take ht)
    split <;> omega
  have := hr.turnings
  simp only [List.length_map, List.length_take] at h
  unfold takenM; omega
theorem take_bound {l : List Int} {lo hi : Int} (h : ∀ n ∈ l, lo ≤ n ∧ n ≤ hi) (k : Nat) : lo * (l.take k).length ≤ (l.take k).sum ∧ (l.take k).sum ≤ hi * (l.take k).length :=
  sum_bound fun n hn => h n (List.mem_of_mem_take hn)
end Go.Proofs.YtifgbnbkimcchaaGreat

namespace Go.Proofs.YtifgbnbkimcchaaGreat
open Go Go.T
theorem getD_nth {α : Type} [Inhabited α] (l : List α) (k : Nat) : l.getD k default = nth l k := rfl
attribute [local irreducible] dInt dBool dSl dPp dPtr dAgg dTup dClo dAny dEx dStr dGd dCells dVec dVs dRow dOp nth Tri Into TOps Ctr bodyPost Exit.then Exit.inBlock Code.wp Code.wpIn
theorem ext_false {α : Type} [Inhabited α] {q : α → Bool} {l : List α} {k : Nat} (h : ∀ x ∈ l.take k, q x = false) (hk : k < l.length) (hq : q (nth l k) = false) : ∀ x ∈ l.take (k + 1), q x = false := by
  intro x hx
  rw [take_nth hk] at hx
  rcases List.mem_append.1 hx with hx | hx
  · exact h x hx
  · rw [List.mem_singleton.1 hx]; exact hq
theorem any_at {α : Type} [Inhabited α] {q : α → Bool} {l : List α} {k : Nat} (hk : k < l.length) (hq : q (nth l k) = true) : l.any q = true := any_pos (nth_mem hk) hq
theorem ng {b : Bool} (h : b = false) : ¬ b = true := by rw [h]; decide
theorem iot_any_pos {n k : Nat} {q : Int → Bool} (hk : k < n) (h : q k = true) : (iot n).any q = true := any_pos (mem_iot.2 ⟨by omega, by omega⟩) h
theorem iot_any_neg {n : Nat} {q : Int → Bool} (h : ∀ k : Nat, k < n → q k = false) : (iot n).any q = false := by
  rw [Bool.eq_false_iff]; intro hc
  obtain ⟨x, hx, hq⟩ := List.any_eq_true.1 hc
  obtain ⟨h1, h2⟩ := mem_iot.1 hx
  have := h x.toNat (by omega)
  rw [Int.toNat_of_nonneg h1, hq] at this; cases this
theorem ext_lt {p : Nat → Prop} {k : Nat} (h : ∀ j, j < k → p j) (hk : p k) : ∀ j, j < k + 1 → p j := fun j hj => by
  rcases Nat.lt_or_ge j k with h1 | h1
  · exact h j h1
  · rwa [show j = k by omega]
set_option maxRecDepth 100000 in
theorem c_reach (f : Flr) (hs : f.Small) (n : Nat) (t : Int) (kn : List Int) (h : unk f.rules kn < n) (hk : kn.length + unk f.rules kn ≤ 100) : CtrR Tryz.prog 69 1000 [flrT f, Ty.int .i64 t, Ty.row I64 3 1000 kn] (Ty.row I64 3 1000 (reachM f.rules n t kn)) := by
  induction n generalizing t kn
  case zero => exact absurd h (Nat.not_lt_zero _)
  rename_i n ih
  refine fnR_intro Tryz.func69 rfl (by decide) Tryz.ntmps69 (by exact Nat.le_of_ble_eq_true rfl) fun w0 M0 => ?_
  have hs1 := hs.bears; have hs2 := hs.bins; have hs3 := hs.turnings; have hs4 := hs.rules
  refine t_seq ?_
  refine t_region ?_
  refine r_box_agg rfl ?_
  refine asX rfl ?_
  refine r_nil ?_
  refine i_then ?_
  refine t_seq ?_
  refine t_seq ?_
  refine t_region ?_
  refine asI rfl ?_
  refine r_nil ?_
  refine i_then ?_
  refine t_block ?_
  refine t_loop (fun (k : Nat) => live [(1, Ty.int .i64 t), (2, Ty.row I64 3 1000 ((f.rules.take k).foldl (rstep (reachM f.rules n) t) kn)), (3, Ty.pp (flrTys f)), (7, Ty.int .i64 (k : Nat))] []) (fun k => f.rules.length - k) (0) ?_ fun k => ?_
  · (refine Ent.mk' ?_ ?_ <;> (repeat' (first | exact allSub_zero | exact allTags_nil | refine allSub_succ' ?_ (Ty.sub_any _) | refine allSub_succ' ?_ (Ty.sub_refl _))))
  ·
    have hg : Grew f.rules kn ((f.rules.take k).foldl (rstep (reachM f.rules n) t) kn) := grew_fold (grew_reach _ n) _ (fun x hx => List.mem_of_mem_take hx) kn
    have hg2 := hg.2
    have hg3 := unk_mono (rules := f.rules) hg.1
    refine t_seq ?_
    refine t_seq ?_
    refine t_region ?_
    refine mvI rfl ?_
    refine r_field_pp rfl rfl rfl rfl rfl (by decide) ?_
    refine r_load_pp rfl rfl rfl rfl ?_
    refine r_len rfl rfl rfl ?_
    refine r_bin rfl rfl rfl ?_
    refine r_nil ?_
    refine i_then ?_
    refine t_cond_dec rfl (fun hc1 => ?_) (fun hc1 => ?_)
    ·
      try (simp only [Bool.and_eq_true, Bool.and_eq_false_iff, decide_eq_true_eq, decide_eq_false_iff_not, Bool.not_eq_true', Bool.not_eq_false'] at hc1)
      refine t_skip ?_
      refine i_then ?_
      refine t_seq ?_
      refine t_block ?_
      refine t_seq ?_
      refine t_region ?_
      refine r_field_pp rfl rfl rfl rfl rfl (by decide) ?_
      refine r_load_pp rfl rfl rfl rfl ?_
      refine mvI rfl ?_
      refine r_index_slN rfl rfl rfl rfl rfl rfl (by omega) ?_
      refine r_load_ppN rfl rfl rfl (by exact Nat.le_of_ble_eq_true rfl) ?_
      refine r_alloc rfl (by exact List.cons_ne_nil _ _) rfl ?_
      refine r_storeN rfl rfl (by decide) rfl rfl rfl rfl rfl rfl ?_
      refine r_nil ?_
      refine i_then ?_
      refine t_seq ?_
      refine t_region ?_
      refine r_field_ptr rfl rfl rfl rfl rfl (by decide) ?_
      refine r_load_ptr rfl rfl (by decide) rfl rfl rfl ?_
      refine mvI rfl ?_
      refine r_bin rfl rfl rfl ?_
      refine mvB rfl ?_
      apply r_guard (s := 25) rfl rfl rfl
      · intro hg; apply opT_of; (refine mvR rfl ?_); refine r_nil ?_; exact rfl
      · exact rfl
      · exact rfl
      apply r_guard (s := 25) rfl rfl rfl
      · intro hg; apply opT_of; (refine r_field_ptr rfl rfl rfl rfl rfl (by decide) ?_); refine r_nil ?_; exact rfl
      · exact rfl
      · exact rfl
      apply r_guard (s := 25) rfl rfl rfl
      · intro hg; apply opT_strip (s := 27) rfl (by (rw [hg]; rfl)); apply opT_of; (refine r_load_ptr rfl rfl (by decide) rfl rfl rfl ?_); refine r_nil ?_; exact rfl
      · exact rfl
      · exact rfl
      apply r_guard (s := 25) rfl rfl rfl
      · intro hg; apply opT_strip (s := 26) rfl (by (rw [hg]; rfl)); apply opT_strip (s := 28) rfl (by (rw [hg]; rfl)); apply opT_of; (refine r_callL [1000] (c_has _ _) rfl (by repeat (first | exact lends_nil | refine lends_cons (lend_pub rfl rfl) ?_ | refine lends_cons (lend_row rfl) ?_)) (by exact plain_bool _) ?_); refine r_nil ?_; exact rfl
      · exact rfl
      · exact rfl
      apply r_guard (s := 25) rfl rfl rfl
      · intro hg; apply opT_strip (s := 29) rfl (by (rw [hg]; rfl)); apply opT_of; (refine r_not rfl ?_); refine r_nil ?_; exact rfl
      · exact rfl
      · exact rfl
      refine r_and rfl rfl ?_
      refine r_nil ?_
      refine i_then ?_
      refine t_cond rfl (fun hc2 => ?_) (fun hc2 => ?_)
      ·
        try (simp only [Bool.and_eq_true, Bool.and_eq_false_iff, decide_eq_true_eq, decide_eq_false_iff_not, Bool.not_eq_true', Bool.not_eq_false'] at hc2)
        have hu := unk_add (nth_mem (xs := f.rules) (k := k) (by omega)) hc2.2
        refine t_draw mixed rfl ?_
        refine r_load_ppN rfl rfl rfl (by exact Nat.le_of_ble_eq_true rfl) ?_
        refine r_field_ptr rfl rfl rfl rfl rfl (by decide) ?_
        refine r_load_ptr rfl rfl (by decide) rfl rfl rfl ?_
        refine mvR rfl ?_
        refine r_field_ptr rfl rfl rfl rfl rfl (by decide) ?_
        refine r_load_ptr rfl rfl (by decide) rfl rfl rfl ?_
        refine r_buildSlice (E := I64) (xs := [_]) rfl rfl rfl rfl rfl (by decide) (by decide) (by repeat (first | exact (Parts.nil : Parts _ _ [] _) | (show Parts _ _ ((_, _) :: _) _; apply Parts.one; (· exact (rfl : _ = Ty.int _ _)); (· exact rfl)))) (by exact rfl) rfl ?_
        refine r_retag 40 (opT_append (Ty.sub_refl _) rfl (by decide) rfl rfl rfl rfl rfl rfl (by decide) (by (simp <;> omega)) (by (simp <;> omega))) (by decide) (by decide) rfl ?_
        refine r_retag 41 (opT_callR 40 (pre := [flrT f, Ty.int .i64 (nth f.rules k).fst]) (ih (nth f.rules k).fst ((f.rules.take k).foldl (rstep (reachM f.rules n) t) kn ++ [(nth f.rules k).fst]) (by omega) (by rw [List.length_append]; simp only [List.length_cons, List.length_nil]; omega)) rfl (Ty.sub_refl _) rfl rfl (by decide) (by decide) rfl) (by decide) (by decide) rfl ?_
        refine asR rfl ?_
        refine r_nil ?_
        refine ⟨by kernel_rfl, ?_⟩
        refine i_block ?_
        refine i_then ?_
        refine t_region ?_
        refine mvI rfl ?_
        refine r_add rfl rfl (by omega) (by omega) ?_
        refine asI rfl ?_
        refine r_nil ?_
        refine i_retag 41 1000 [(2, _)] ⟨re_to rfl, trivial⟩ (by decide) (by decide) rfl rfl ?_
        refine i_round (k + 1) ?_ (by omega)
        (refine Ent.mk' ?_ ?_ <;> (repeat' (first | exact allSub_zero | exact allTags_nil | refine allSub_succ' ?_ (Ty.sub_any _) | refine allSub_succ' ?_ (Ty.sub_refl _) | refine allSub_succ' ?_ ?_)))
        all_goals skip
        exact Ty.sub_row (by rw [take_nth (by omega), List.foldl_append]; simp only [List.foldl_cons, List.foldl_nil, rstep]; rw [if_pos hc2])
      ·
        try (simp only [Bool.and_eq_true, Bool.and_eq_false_iff, decide_eq_true_eq, decide_eq_false_iff_not, Bool.not_eq_true', Bool.not_eq_false'] at hc2)
        refine t_skip ?_
        refine i_block ?_
        refine i_then ?_
        refine t_region ?_
        refine mvI rfl ?_
        refine r_add rfl rfl (by omega) (by omega) ?_
        refine asI rfl ?_
        refine r_nil ?_
        skip
        refine i_round (k + 1) ?_ (by omega)
        (refine Ent.mk' ?_ ?_ <;> (repeat' (first | exact allSub_zero | exact allTags_nil | refine allSub_succ' ?_ (Ty.sub_any _) | refine allSub_succ' ?_ (Ty.sub_refl _) | refine allSub_succ' ?_ ?_)))
        all_goals skip
        exact Ty.sub_row (by rw [take_nth (by omega), List.foldl_append]; simp only [List.foldl_cons, List.foldl_nil, rstep]; rw [if_neg (fun h => hc2.elim (fun a => a h.1) (fun b => h.2 b))])
    ·
      try (simp only [Bool.and_eq_true, Bool.and_eq_false_iff, decide_eq_true_eq, decide_eq_false_iff_not, Bool.not_eq_true', Bool.not_eq_false'] at hc1)
      refine t_exit ?_
      refine i_then_exit ?_
      refine i_then_exit ?_
      refine i_block_exit rfl ?_
      refine i_then ?_
      refine t_seq ?_
      refine t_region ?_
      refine mvR rfl ?_
      refine asR rfl ?_
      refine r_nil ?_
      refine i_then ?_
      refine t_ret ?_
      refine i_rrow rfl rfl ?_
      exact Ty.sub_row (by rw [List.take_of_length_le (by omega)]; rfl)
set_option maxRecDepth 100000 in
theorem c_Ahead (f : Flr) (hs : f.Small) (t : Int) : Ctr Tryz.prog 23 [flrT f, Ty.int .i64 t] (Ty.sl I64 (aheadM f t)) := by
  refine fn_intro Tryz.func23 rfl (by decide) Tryz.ntmps23 (by exact Nat.le_of_ble_eq_true rfl) fun w0 M0 => ?_
  have hs1 := hs.bears; have hs2 := hs.bins; have hs3 := hs.turnings; have hs4 := hs.rules
  refine t_seq ?_
  refine t_region ?_
  refine r_box_agg rfl ?_
  refine asX rfl ?_
  refine r_nil ?_
  refine i_then ?_
  refine t_seq ?_
  refine t_region ?_
  refine r_load_ppN rfl rfl rfl (by exact Nat.le_of_ble_eq_true rfl) ?_
  refine mvI rfl ?_
  refine r_callR 11 (pre := [flrT f, Ty.int .i64 t]) (c_reach f hs (f.rules.length + 1) t [] (by have := unk_le f.rules []; omega) (by have := unk_le f.rules []; have := hs.rules; simp; omega)) rfl Ty.nil_row rfl rfl (by decide) (by decide) rfl ?_
  refine asR rfl ?_
  refine r_nil ?_
  refine i_then ?_
  refine t_seq ?_
  refine t_region ?_
  refine asX rfl ?_
  refine r_nil ?_
  refine i_then ?_
  refine t_seq ?_
  refine t_seq ?_
  refine t_region ?_
  refine asI rfl ?_
  refine r_nil ?_
  refine i_then ?_
  refine t_block ?_
  refine t_loop (fun (k : {k : Nat // k ≤ f.turnings.length}) => live [(2, Ty.pp (flrTys f)), (5, Ty.row I64 3 11 (reachAll f t)), (6, Ty.row I64 3 25 ((iot k.1).filter fun x => decide (x ∈ reachAll f t))), (7, Ty.int .i64 (k.1 : Nat))] []) (fun k => f.turnings.length - k.1) (⟨0, Nat.zero_le _⟩) ?_ fun k => ?_
  · (refine Ent.mk' ?_ ?_ <;> (repeat' (first | exact allSub_zero | exact allTags_nil | refine allSub_succ' ?_ (Ty.sub_any _) | refine allSub_succ' ?_ (Ty.sub_refl _) | refine allSub_succ' ?_ Ty.nil_row)))
  ·
    have hfl := List.length_filter_le (fun x => decide (x ∈ reachAll f t)) (iot k.1)
    rw [iot_len] at hfl
    refine t_seq ?_
    refine t_seq ?_
    refine t_region ?_
    refine mvI rfl ?_
    refine r_field_pp rfl rfl rfl rfl rfl (by decide) ?_
    refine r_load_pp rfl rfl rfl rfl ?_
    refine r_len rfl rfl rfl ?_
    refine r_bin rfl rfl rfl ?_
    refine r_nil ?_
    refine i_then ?_
    refine t_cond_dec rfl (fun hc1 => ?_) (fun hc1 => ?_)
    ·
      refine t_skip ?_
      refine i_then ?_
      refine t_seq ?_
      refine t_block ?_
      refine t_seq ?_
      refine t_region ?_
      refine mvR rfl ?_
      refine mvI rfl ?_
      refine r_callL [11] (c_has _ _) rfl (by repeat (first | exact lends_nil | refine lends_cons (lend_pub rfl rfl) ?_ | refine lends_cons (lend_row rfl) ?_)) (by exact plain_bool _) ?_
      refine r_nil ?_
      refine i_then ?_
      refine t_cond_dec rfl (fun hc2 => ?_) (fun hc2 => ?_)
      ·
        refine t_region ?_
        refine mvR rfl ?_
        refine mvI rfl ?_
        refine r_buildSlice (E := I64) (xs := [_]) rfl rfl rfl rfl rfl (by decide) (by decide) (by repeat (first | exact (Parts.nil : Parts _ _ [] _) | (show Parts _ _ ((_, _) :: _) _; apply Parts.one; (· exact (rfl : _ = Ty.int _ _)); (· exact rfl)))) (by exact rfl) rfl ?_
        refine r_append rfl rfl (by decide) rfl rfl rfl rfl rfl rfl (by decide) (by (simp <;> omega)) (by (simp <;> omega)) ?_
        refine asR rfl ?_
        refine r_nil ?_
        refine i_block ?_
        refine i_then ?_
        refine t_region ?_
        refine mvI rfl ?_
        refine r_add rfl rfl (by omega) (by omega) ?_
        refine asI rfl ?_
        refine r_nil ?_
        refine i_round (⟨k.1 + 1, by omega⟩) ?_ (by show f.turnings.length - (k.1 + 1) < f.turnings.length - k.1; omega)
        (refine Ent.mk' ?_ ?_ <;> (repeat' (first | exact allSub_zero | exact allTags_nil | refine allSub_succ' ?_ (Ty.sub_any _) | refine allSub_succ' ?_ (Ty.sub_refl _) | refine allSub_succ' ?_ ?_)))
        all_goals skip
        exact Ty.sub_row (by rw [iot_succ, List.filter_append]; simp [hc2])
      ·
        refine t_skip ?_
        refine i_block ?_
        refine i_then ?_
        refine t_region ?_
        refine mvI rfl ?_
        refine r_add rfl rfl (by omega) (by omega) ?_
        refine asI rfl ?_
        refine r_nil ?_
        refine i_round (⟨k.1 + 1, by omega⟩) ?_ (by show f.turnings.length - (k.1 + 1) < f.turnings.length - k.1; omega)
        (refine Ent.mk' ?_ ?_ <;> (repeat' (first | exact allSub_zero | exact allTags_nil | refine allSub_succ' ?_ (Ty.sub_any _) | refine allSub_succ' ?_ (Ty.sub_refl _) | refine allSub_succ' ?_ ?_)))
        all_goals skip
        exact Ty.sub_row (by rw [iot_succ, List.filter_append]; simp [hc2])
    ·
      refine t_exit ?_
      refine i_then_exit ?_
      refine i_then_exit ?_
      refine i_block_exit rfl ?_
      refine i_then ?_
      refine t_seq ?_
      refine t_region ?_
      refine mvR rfl ?_
      refine asR rfl ?_
      refine r_nil ?_
      refine i_then ?_
      refine t_ret ?_
      refine i_rp1 rfl rfl ?_
      all_goals skip
      exact ret_row_eq (by decide) (by rw [show k.1 = f.turnings.length by omega]; rfl)
set_option maxRecDepth 100000 in
theorem c_Bay (f : Flr) (hs : f.Small) (t : Int) : Ctr Tryz.prog 13 [flrT f, Ty.int .i64 t] (Ty.int .i64 (if t < 0 ∨ t ≥ f.bears.length then 1 else 0)) := by
  refine fn_intro Tryz.func13 rfl (by decide) Tryz.ntmps13 (by exact Nat.le_of_ble_eq_true rfl) fun w0 M0 => ?_
  have hs1 := hs.bears; have hs2 := hs.bins; have hs3 := hs.turnings; have hs4 := hs.rules
  refine t_seq ?_
  refine t_region ?_
  refine r_box_agg rfl ?_
  refine asI rfl ?_
  refine r_nil ?_
  refine i_then ?_
  refine t_seq ?_
  refine t_seq ?_
  refine t_region ?_
  refine mvI rfl ?_
  refine r_field_pp rfl rfl rfl rfl rfl (by decide) ?_
  refine r_load_pp rfl rfl rfl rfl ?_
  refine r_len rfl rfl rfl ?_
  refine r_sub rfl rfl (by omega) (by omega) ?_
  refine r_call (c_off _ _ _) rfl rfl rfl rfl rfl ?_
  refine r_nil ?_
  refine i_then ?_
  refine t_cond rfl (fun hc1 => ?_) (fun hc1 => ?_)
  ·
    refine t_seq ?_
    refine t_region ?_
    refine asI rfl ?_
    refine r_nil ?_
    refine i_then ?_
    refine t_ret ?_
    refine i_then_ret ?_
    refine i_rp1 rfl rfl ?_
    all_goals skip
    exact ret_eq rfl rfl (congrArg (Ty.int .i64) (by rw [if_pos]; simp only [Bool.or_eq_true, decide_eq_true_eq] at hc1; omega))
  ·
    refine t_skip ?_
    refine i_then ?_
    refine t_seq ?_
    refine t_region ?_
    refine asI rfl ?_
    refine r_nil ?_
    refine i_then ?_
    refine t_ret ?_
    refine i_rp1 rfl rfl ?_
    all_goals skip
    exact ret_eq rfl rfl (congrArg (Ty.int .i64) (by rw [if_neg]; simp only [Bool.or_eq_false_iff, decide_eq_false_iff_not] at hc1; omega))
set_option maxRecDepth 100000 in
theorem c_linked (f : Flr) (hs : f.Small) (hr : f.Ranged) : Ctr Tryz.prog 56 [flrT f] (Ty.int .i64 (linkedM f)) := by
  refine fn_intro Tryz.func56 rfl (by decide) Tryz.ntmps56 (by exact Nat.le_of_ble_eq_true rfl) fun w0 M0 => ?_
  have hs1 := hs.bears; have hs2 := hs.bins; have hs3 := hs.turnings; have hs4 := hs.rules
  refine t_seq ?_
  refine t_region ?_
  refine r_box_agg rfl ?_
  refine asI rfl ?_
  refine r_nil ?_
  refine i_then ?_
  refine t_seq ?_
  refine t_seq ?_
  refine t_region ?_
  refine asI rfl ?_
  refine r_nil ?_
  refine i_then ?_
  refine t_block ?_
  refine t_loop (fun (k1 : {k : Nat // ∀ t ∈ f.turnings.take k, (offB t.src (-1) (f.bins.length - 1) || offB t.dst (-1) (f.bins.length - 1)) = false}) => live [(1, Ty.pp (flrTys f)), (3, Ty.int .i64 (k1.1 : Nat))] []) (fun k1 => f.turnings.length - k1.1) (⟨0, by simp⟩) ?_ fun k1 => ?_
  · (refine Ent.mk' ?_ ?_ <;> (repeat' (first | exact allSub_zero | exact allTags_nil | refine allSub_succ' ?_ (Ty.sub_any _) | refine allSub_succ' ?_ (Ty.sub_refl _))))
  ·
    refine t_seq ?_
    refine t_seq ?_
    refine t_region ?_
    refine mvI rfl ?_
    refine r_field_pp rfl rfl rfl rfl rfl (by decide) ?_
    refine r_load_pp rfl rfl rfl rfl ?_
    refine r_len rfl rfl rfl ?_
    refine r_bin rfl rfl rfl ?_
    refine r_nil ?_
    refine i_then ?_
    refine t_cond_dec rfl (fun hc1 => ?_) (fun hc1 => ?_)
    ·
      refine t_skip ?_
      refine i_then ?_
      refine t_seq ?_
      refine t_block ?_
      refine t_seq ?_
      refine t_draw mixed rfl ?_
      refine r_field_pp rfl rfl rfl rfl rfl (by decide) ?_
      refine r_load_pp rfl rfl rfl rfl ?_
      refine mvI rfl ?_
      refine r_index_slN rfl rfl rfl rfl rfl rfl (by omega) ?_
      refine r_field_pp rfl rfl rfl rfl rfl (by decide) ?_
      refine r_load_pp rfl rfl rfl rfl ?_
      refine r_field_pp rfl rfl rfl rfl rfl (by decide) ?_
      refine r_load_pp rfl rfl rfl rfl ?_
      refine r_len rfl rfl rfl ?_
      refine r_sub rfl rfl (by omega) (by omega) ?_
      refine r_call (c_off _ _ _) rfl rfl rfl rfl rfl ?_
      refine mvB rfl ?_
      apply r_guard (s := 30) rfl rfl rfl
      · intro hg; apply opT_of; (refine r_field_pp rfl rfl rfl rfl rfl (by decide) ?_); refine r_nil ?_; exact rfl
      · exact rfl
      · exact rfl
      apply r_guard (s := 30) rfl rfl rfl
      · intro hg; apply opT_strip (s := 31) rfl (by (rw [hg]; rfl)); apply opT_of; (refine r_load_pp rfl rfl rfl rfl ?_); refine r_nil ?_; exact rfl
      · exact rfl
      · exact rfl
      apply r_guard (s := 30) rfl rfl rfl
      · intro hg; apply opT_of; (refine mvI rfl ?_); refine r_nil ?_; exact rfl
      · exact rfl
      · exact rfl
      apply r_guard (s := 30) rfl rfl rfl
      · intro hg; apply opT_strip (s := 32) rfl (by (rw [hg]; rfl)); apply opT_strip (s := 33) rfl (by (rw [hg]; rfl)); apply opT_of; (refine r_index_slN rfl rfl rfl rfl rfl rfl (by omega) ?_); refine r_nil ?_; exact rfl
      · exact rfl
      · exact rfl
      apply r_guard (s := 30) rfl rfl rfl
      · intro hg; apply opT_strip (s := 34) rfl (by (rw [hg]; rfl)); apply opT_of; (refine r_field_pp rfl rfl rfl rfl rfl (by decide) ?_); refine r_nil ?_; exact rfl
      · exact rfl
      · exact rfl
      apply r_guard (s := 30) rfl rfl rfl
      · intro hg; apply opT_strip (s := 35) rfl (by (rw [hg]; rfl)); apply opT_of; (refine r_load_pp rfl rfl rfl rfl ?_); refine r_nil ?_; exact rfl
      · exact rfl
      · exact rfl
      apply r_guard (s := 30) rfl rfl rfl
      · intro hg; apply opT_of; (refine r_field_pp rfl rfl rfl rfl rfl (by decide) ?_); refine r_nil ?_; exact rfl
      · exact rfl
      · exact rfl
      apply r_guard (s := 30) rfl rfl rfl
      · intro hg; apply opT_strip (s := 37) rfl (by (rw [hg]; rfl)); apply opT_of; (refine r_load_pp rfl rfl rfl rfl ?_); refine r_nil ?_; exact rfl
      · exact rfl
      · exact rfl
      apply r_guard (s := 30) rfl rfl rfl
      · intro hg; apply opT_strip (s := 38) rfl (by (rw [hg]; rfl)); apply opT_of; (refine r_len rfl rfl rfl ?_); refine r_nil ?_; exact rfl
      · exact rfl
      · exact rfl
      apply r_guard (s := 30) rfl rfl rfl
      · intro hg; apply opT_strip (s := 39) rfl (by (rw [hg]; rfl)); apply opT_of; (refine r_sub rfl rfl (by omega) (by omega) ?_); refine r_nil ?_; exact rfl
      · exact rfl
      · exact rfl
      apply r_guard (s := 30) rfl rfl rfl
      · intro hg; apply opT_strip (s := 36) rfl (by (rw [hg]; rfl)); apply opT_strip (s := 40) rfl (by (rw [hg]; rfl)); apply opT_of; (refine r_call (c_off _ _ _) rfl rfl rfl rfl rfl ?_); refine r_nil ?_; exact rfl
      · exact rfl
      · exact rfl
      refine r_or rfl rfl ?_
      refine r_nil ?_
      refine ⟨by kernel_rfl, ?_⟩
      refine i_then ?_
      refine t_cond rfl (fun hc2 => ?_) (fun hc2 => ?_)
      ·
        refine t_seq ?_
        refine t_region ?_
        refine asI rfl ?_
        refine r_nil ?_
        refine i_then ?_
        refine t_ret ?_
        refine i_block_ret ?_
        refine i_then_ret ?_
        refine i_then_ret ?_
        refine i_block_ret ?_
        refine i_then_ret ?_
        refine i_rp1 rfl rfl ?_
        all_goals skip
        exact ret_eq rfl rfl (congrArg (Ty.int .i64) (by rw [linkedM, if_pos (any_at (by omega) hc2)]))
      ·
        refine t_skip ?_
        refine i_block ?_
        refine i_then ?_
        refine t_region ?_
        refine mvI rfl ?_
        refine r_add rfl rfl (by omega) (by omega) ?_
        refine asI rfl ?_
        refine r_nil ?_
        refine i_round (⟨k1.1 + 1, ext_false k1.2 (by omega) hc2⟩) ?_ (by show f.turnings.length - (k1.1 + 1) < f.turnings.length - k1.1; omega)
        (refine Ent.mk' ?_ ?_ <;> (repeat' (first | exact allSub_zero | exact allTags_nil | refine allSub_succ' ?_ (Ty.sub_any _) | refine allSub_succ' ?_ (Ty.sub_refl _))))
        all_goals skip
    ·
      refine t_exit ?_
      refine i_then_exit ?_
      refine i_then_exit ?_
      refine i_block_exit rfl ?_
      refine i_then ?_
      refine t_seq ?_
      refine t_seq ?_
      refine t_region ?_
      refine asI rfl ?_
      refine r_nil ?_
      refine i_then ?_
      refine t_block ?_
      refine t_loop (fun (k2 : {k : Nat // ∀ r ∈ f.rules.take k, (offB r.fst 0 (f.turnings.length - 1) || offB r.nxt 0 (f.turnings.length - 1)) = false}) => live [(1, Ty.pp (flrTys f)), (4, Ty.int .i64 (k2.1 : Nat))] []) (fun k2 => f.rules.length - k2.1) (⟨0, by simp⟩) ?_ fun k2 => ?_
      · (refine Ent.mk' ?_ ?_ <;> (repeat' (first | exact allSub_zero | exact allTags_nil | refine allSub_succ' ?_ (Ty.sub_any _) | refine allSub_succ' ?_ (Ty.sub_refl _))))
      ·
        refine t_seq ?_
        refine t_seq ?_
        refine t_region ?_
        refine mvI rfl ?_
        refine r_field_pp rfl rfl rfl rfl rfl (by decide) ?_
        refine r_load_pp rfl rfl rfl rfl ?_
        refine r_len rfl rfl rfl ?_
        refine r_bin rfl rfl rfl ?_
        refine r_nil ?_
        refine i_then ?_
        refine t_cond_dec rfl (fun hc3 => ?_) (fun hc3 => ?_)
        ·
          refine t_skip ?_
          refine i_then ?_
          refine t_seq ?_
          refine t_block ?_
          refine t_seq ?_
          refine t_draw mixed rfl ?_
          refine r_field_pp rfl rfl rfl rfl rfl (by decide) ?_
          refine r_load_pp rfl rfl rfl rfl ?_
          refine mvI rfl ?_
          refine r_index_slN rfl rfl rfl rfl rfl rfl (by omega) ?_
          refine r_field_pp rfl rfl rfl rfl rfl (by decide) ?_
          refine r_load_pp rfl rfl rfl rfl ?_
          refine r_field_pp rfl rfl rfl rfl rfl (by decide) ?_
          refine r_load_pp rfl rfl rfl rfl ?_
          refine r_len rfl rfl rfl ?_
          refine r_sub rfl rfl (by omega) (by omega) ?_
          refine r_call (c_off _ _ _) rfl rfl rfl rfl rfl ?_
          refine mvB rfl ?_
          apply r_guard (s := 61) rfl rfl rfl
          · intro hg; apply opT_of; (refine r_field_pp rfl rfl rfl rfl rfl (by decide) ?_); refine r_nil ?_; exact rfl
          · exact rfl
          · exact rfl
          apply r_guard (s := 61) rfl rfl rfl
          · intro hg; apply opT_strip (s := 62) rfl (by (rw [hg]; rfl)); apply opT_of; (refine r_load_pp rfl rfl rfl rfl ?_); refine r_nil ?_; exact rfl
          · exact rfl
          · exact rfl
          apply r_guard (s := 61) rfl rfl rfl
          · intro hg; apply opT_of; (refine mvI rfl ?_); refine r_nil ?_; exact rfl
          · exact rfl
          · exact rfl
          apply r_guard (s := 61) rfl rfl rfl
          · intro hg; apply opT_strip (s := 63) rfl (by (rw [hg]; rfl)); apply opT_strip (s := 64) rfl (by (rw [hg]; rfl)); apply opT_of; (refine r_index_slN rfl rfl rfl rfl rfl rfl (by omega) ?_); refine r_nil ?_; exact rfl
          · exact rfl
          · exact rfl
          apply r_guard (s := 61) rfl rfl rfl
          · intro hg; apply opT_strip (s := 65) rfl (by (rw [hg]; rfl)); apply opT_of; (refine r_field_pp rfl rfl rfl rfl rfl (by decide) ?_); refine r_nil ?_; exact rfl
          · exact rfl
          · exact rfl
          apply r_guard (s := 61) rfl rfl rfl
          · intro hg; apply opT_strip (s := 66) rfl (by (rw [hg]; rfl)); apply opT_of; (refine r_load_pp rfl rfl rfl rfl ?_); refine r_nil ?_; exact rfl
          · exact rfl
          · exact rfl
          apply r_guard (s := 61) rfl rfl rfl
          · intro hg; apply opT_of; (refine r_field_pp rfl rfl rfl rfl rfl (by decide) ?_); refine r_nil ?_; exact rfl
          · exact rfl
          · exact rfl
          apply r_guard (s := 61) rfl rfl rfl
          · intro hg; apply opT_strip (s := 68) rfl (by (rw [hg]; rfl)); apply opT_of; (refine r_load_pp rfl rfl rfl rfl ?_); refine r_nil ?_; exact rfl
          · exact rfl
          · exact rfl
          apply r_guard (s := 61) rfl rfl rfl
          · intro hg; apply opT_strip (s := 69) rfl (by (rw [hg]; rfl)); apply opT_of; (refine r_len rfl rfl rfl ?_); refine r_nil ?_; exact rfl
          · exact rfl
          · exact rfl
          apply r_guard (s := 61) rfl rfl rfl
          · intro hg; apply opT_strip (s := 70) rfl (by (rw [hg]; rfl)); apply opT_of; (refine r_sub rfl rfl (by omega) (by omega) ?_); refine r_nil ?_; exact rfl
          · exact rfl
          · exact rfl
          apply r_guard (s := 61) rfl rfl rfl
          · intro hg; apply opT_strip (s := 67) rfl (by (rw [hg]; rfl)); apply opT_strip (s := 71) rfl (by (rw [hg]; rfl)); apply opT_of; (refine r_call (c_off _ _ _) rfl rfl rfl rfl rfl ?_); refine r_nil ?_; exact rfl
          · exact rfl
          · exact rfl
          refine r_or rfl rfl ?_
          refine r_nil ?_
          refine ⟨by kernel_rfl, ?_⟩
          refine i_then ?_
          refine t_cond rfl (fun hc4 => ?_) (fun hc4 => ?_)
          ·
            refine t_seq ?_
            refine t_region ?_
            refine asI rfl ?_
            refine r_nil ?_
            refine i_then ?_
            refine t_ret ?_
            refine i_block_ret ?_
            refine i_then_ret ?_
            refine i_then_ret ?_
            refine i_block_ret ?_
            refine i_then_ret ?_
            refine i_rp1 rfl rfl ?_
            all_goals skip
            exact ret_eq rfl rfl (congrArg (Ty.int .i64) (by rw [linkedM, if_neg (ng (any_neg k1.2 (by omega))), if_pos (any_at (by omega) hc4)]))
          ·
            refine t_skip ?_
            refine i_block ?_
            refine i_then ?_
            refine t_region ?_
            refine mvI rfl ?_
            refine r_add rfl rfl (by omega) (by omega) ?_
            refine asI rfl ?_
            refine r_nil ?_
            refine i_round (⟨k2.1 + 1, ext_false k2.2 (by omega) hc4⟩) ?_ (by show f.rules.length - (k2.1 + 1) < f.rules.length - k2.1; omega)
            (refine Ent.mk' ?_ ?_ <;> (repeat' (first | exact allSub_zero | exact allTags_nil | refine allSub_succ' ?_ (Ty.sub_any _) | refine allSub_succ' ?_ (Ty.sub_refl _))))
            all_goals skip
        ·
          refine t_exit ?_
          refine i_then_exit ?_
          refine i_then_exit ?_
          refine i_block_exit rfl ?_
          refine i_then ?_
          refine t_seq ?_
          refine t_seq ?_
          refine t_region ?_
          refine asI rfl ?_
          refine r_nil ?_
          refine i_then ?_
          refine t_block ?_
          refine t_loop (fun (k3 : {k : Nat // ∀ t ∈ f.turnings.take k, decide (t.src = t.dst) = false}) => live [(1, Ty.pp (flrTys f)), (5, Ty.int .i64 (k3.1 : Nat))] []) (fun k3 => f.turnings.length - k3.1) (⟨0, by simp⟩) ?_ fun k3 => ?_
          · (refine Ent.mk' ?_ ?_ <;> (repeat' (first | exact allSub_zero | exact allTags_nil | refine allSub_succ' ?_ (Ty.sub_any _) | refine allSub_succ' ?_ (Ty.sub_refl _))))
          ·
            refine t_seq ?_
            refine t_seq ?_
            refine t_region ?_
            refine mvI rfl ?_
            refine r_field_pp rfl rfl rfl rfl rfl (by decide) ?_
            refine r_load_pp rfl rfl rfl rfl ?_
            refine r_len rfl rfl rfl ?_
            refine r_bin rfl rfl rfl ?_
            refine r_nil ?_
            refine i_then ?_
            refine t_cond_dec rfl (fun hc5 => ?_) (fun hc5 => ?_)
            ·
              refine t_skip ?_
              refine i_then ?_
              refine t_seq ?_
              refine t_block ?_
              refine t_seq ?_
              refine t_draw mixed rfl ?_
              refine r_field_pp rfl rfl rfl rfl rfl (by decide) ?_
              refine r_load_pp rfl rfl rfl rfl ?_
              refine mvI rfl ?_
              refine r_index_slN rfl rfl rfl rfl rfl rfl (by omega) ?_
              refine r_field_pp rfl rfl rfl rfl rfl (by decide) ?_
              refine r_load_pp rfl rfl rfl rfl ?_
              refine r_field_pp rfl rfl rfl rfl rfl (by decide) ?_
              refine r_load_pp rfl rfl rfl rfl ?_
              refine mvI rfl ?_
              refine r_index_slN rfl rfl rfl rfl rfl rfl (by omega) ?_
              refine r_field_pp rfl rfl rfl rfl rfl (by decide) ?_
              refine r_load_pp rfl rfl rfl rfl ?_
              refine r_bin rfl rfl rfl ?_
              refine r_nil ?_
              refine ⟨by kernel_rfl, ?_⟩
              refine i_then ?_
              refine t_cond_dec rfl (fun hc6 => ?_) (fun hc6 => ?_)
              ·
                refine t_seq ?_
                refine t_region ?_
                refine asI rfl ?_
                refine r_nil ?_
                refine i_then ?_
                refine t_ret ?_
                refine i_block_ret ?_
                refine i_then_ret ?_
                refine i_then_ret ?_
                refine i_block_ret ?_
                refine i_then_ret ?_
                refine i_rp1 rfl rfl ?_
                all_goals skip
                exact ret_eq rfl rfl (congrArg (Ty.int .i64) (by rw [linkedM, if_neg (ng (any_neg k1.2 (by omega))), if_neg (ng (any_neg k2.2 (by omega))), if_pos (any_at (q := fun t : Trn => decide (t.src = t.dst)) (k := k3.1) (by omega) (decide_eq_true hc6))]))
              ·
                refine t_skip ?_
                refine i_block ?_
                refine i_then ?_
                refine t_region ?_
                refine mvI rfl ?_
                refine r_add rfl rfl (by omega) (by omega) ?_
                refine asI rfl ?_
                refine r_nil ?_
                refine i_round (⟨k3.1 + 1, ext_false k3.2 (by omega) (decide_eq_false hc6)⟩) ?_ (by show f.turnings.length - (k3.1 + 1) < f.turnings.length - k3.1; omega)
                (refine Ent.mk' ?_ ?_ <;> (repeat' (first | exact allSub_zero | exact allTags_nil | refine allSub_succ' ?_ (Ty.sub_any _) | refine allSub_succ' ?_ (Ty.sub_refl _))))
                all_goals skip
            ·
              refine t_exit ?_
              refine i_then_exit ?_
              refine i_then_exit ?_
              refine i_block_exit rfl ?_
              refine i_then ?_
              refine t_seq ?_
              refine t_seq ?_
              refine t_region ?_
              refine asI rfl ?_
              refine r_nil ?_
              refine i_then ?_
              refine t_block ?_
              refine t_loop (fun (k4 : {k : Nat // ∀ j, j < k → f.wrongAt j (nth f.bins j) = false}) => live [(1, Ty.pp (flrTys f)), (6, Ty.int .i64 (k4.1 : Nat))] []) (fun k4 => f.bins.length - k4.1) (⟨0, fun j hj => absurd hj (Nat.not_lt_zero _)⟩) ?_ fun k4 => ?_
              · (refine Ent.mk' ?_ ?_ <;> (repeat' (first | exact allSub_zero | exact allTags_nil | refine allSub_succ' ?_ (Ty.sub_any _) | refine allSub_succ' ?_ (Ty.sub_refl _))))
              ·
                have hbl := hr.bears
                refine t_seq ?_
                refine t_seq ?_
                refine t_region ?_
                refine mvI rfl ?_
                refine r_field_pp rfl rfl rfl rfl rfl (by decide) ?_
                refine r_load_pp rfl rfl rfl rfl ?_
                refine r_len rfl rfl rfl ?_
                refine r_bin rfl rfl rfl ?_
                refine r_nil ?_
                refine i_then ?_
                refine t_cond_dec rfl (fun hc7 => ?_) (fun hc7 => ?_)
                ·
                  refine t_skip ?_
                  refine i_then ?_
                  refine t_seq ?_
                  refine t_block ?_
                  refine t_seq ?_
                  have hsl : (nth f.bins k4.1).shares.length = f.bears.length := hr.shares _ (nth_mem (by omega))
                  refine t_region ?_
                  refine asI rfl ?_
                  refine asI rfl ?_
                  refine r_nil ?_
                  refine i_then ?_
                  refine t_seq ?_
                  refine t_seq ?_
                  refine t_region ?_
                  refine asI rfl ?_
                  refine r_nil ?_
                  refine i_then ?_
                  refine t_block ?_
                  refine t_loop (fun (m : Nat) => live [(1, Ty.pp (flrTys f)), (6, Ty.int .i64 (k4.1 : Nat)), (7, Ty.int .i64 ((nth f.bins k4.1).shares.take m).sum), (8, Ty.int .i64 0), (9, Ty.int .i64 (m : Nat))] []) (fun m => f.bears.length - m) (0) ?_ fun m => ?_
                  · (refine Ent.mk' ?_ ?_ <;> (repeat' (first | exact allSub_zero | exact allTags_nil | refine allSub_succ' ?_ (Ty.sub_any _) | refine allSub_succ' ?_ (Ty.sub_refl _))))
                  ·
                    have hsb := take_bound (hr.sharesR (nth f.bins k4.1) (nth_mem (by omega))) m
                    simp only [List.length_take] at hsb
                    refine t_seq ?_
                    refine t_seq ?_
                    refine t_region ?_
                    refine mvI rfl ?_
                    refine r_field_pp rfl rfl rfl rfl rfl (by decide) ?_
                    refine r_load_pp rfl rfl rfl rfl ?_
                    refine r_len rfl rfl rfl ?_
                    refine r_bin rfl rfl rfl ?_
                    refine r_nil ?_
                    refine i_then ?_
                    refine t_cond_dec rfl (fun hc8 => ?_) (fun hc8 => ?_)
                    ·
                      refine t_skip ?_
                      refine i_then ?_
                      refine t_seq ?_
                      refine t_block ?_
                      have hsx := hr.sharesR (nth f.bins k4.1) (nth_mem (by omega)) (nth (nth f.bins k4.1).shares m) (nth_mem (by omega))
                      refine t_region ?_
                      refine mvI rfl ?_
                      refine r_field_pp rfl rfl rfl rfl rfl (by decide) ?_
                      refine r_load_pp rfl rfl rfl rfl ?_
                      refine mvI rfl ?_
                      refine r_index_slN rfl rfl rfl rfl rfl rfl (by omega) ?_
                      refine r_field_pp rfl rfl rfl rfl rfl (by decide) ?_
                      refine r_load_pp rfl rfl rfl rfl ?_
                      refine mvI rfl ?_
                      refine r_index_slN rfl rfl rfl rfl rfl rfl (by omega) ?_
                      refine r_load_pp rfl rfl rfl rfl ?_
                      refine r_add rfl rfl (by omega) (by omega) ?_
                      refine asI rfl ?_
                      refine r_nil ?_
                      refine i_block ?_
                      refine i_then ?_
                      refine t_region ?_
                      refine mvI rfl ?_
                      refine r_add rfl rfl (by omega) (by omega) ?_
                      refine asI rfl ?_
                      refine r_nil ?_
                      refine i_round (m + 1) ?_ (by omega)
                      (refine Ent.mk' ?_ ?_ <;> (repeat' (first | exact allSub_zero | exact allTags_nil | refine allSub_succ' ?_ (Ty.sub_any _) | refine allSub_succ' ?_ (Ty.sub_refl _) | refine allSub_succ' ?_ ?_)))
                      all_goals skip
                      exact Ty.sub_int (by rw [take_nth (by omega), List.sum_append]; simp)
                    ·
                      refine t_exit ?_
                      refine i_then_exit ?_
                      refine i_then_exit ?_
                      refine i_block_exit rfl ?_
                      refine i_then ?_
                      refine t_seq ?_
                      refine t_seq ?_
                      refine t_region ?_
                      refine asI rfl ?_
                      refine r_nil ?_
                      refine i_then ?_
                      refine t_block ?_
                      refine t_loop (fun (n : Nat) => live [(1, Ty.pp (flrTys f)), (6, Ty.int .i64 (k4.1 : Nat)), (7, Ty.int .i64 ((nth f.bins k4.1).shares.take m).sum), (8, Ty.int .i64 (takenM f (f.turnings.take n) k4.1)), (10, Ty.int .i64 (n : Nat))] []) (fun n => f.turnings.length - n) (0) ?_ fun n => ?_
                      · (refine Ent.mk' ?_ ?_ <;> (repeat' (first | exact allSub_zero | exact allTags_nil | refine allSub_succ' ?_ (Ty.sub_any _) | refine allSub_succ' ?_ (Ty.sub_refl _))))
                      ·
                        have htb := taken_bound hr n k4.1
                        refine t_seq ?_
                        refine t_seq ?_
                        refine t_region ?_
                        refine mvI rfl ?_
                        refine r_field_pp rfl rfl rfl rfl rfl (by decide) ?_
                        refine r_load_pp rfl rfl rfl rfl ?_
                        refine r_len rfl rfl rfl ?_
                        refine r_bin rfl rfl rfl ?_
                        refine r_nil ?_
                        refine i_then ?_
                        refine t_cond_dec rfl (fun hc9 => ?_) (fun hc9 => ?_)
                        ·
                          refine t_skip ?_
                          refine i_then ?_
                          refine t_seq ?_
                          refine t_block ?_
                          refine t_seq ?_
                          refine t_region ?_
                          refine r_field_pp rfl rfl rfl rfl rfl (by decide) ?_
                          refine r_load_pp rfl rfl rfl rfl ?_
                          refine mvI rfl ?_
                          refine r_index_slN rfl rfl rfl rfl rfl rfl (by omega) ?_
                          refine r_field_pp rfl rfl rfl rfl rfl (by decide) ?_
                          refine r_load_pp rfl rfl rfl rfl ?_
                          refine mvI rfl ?_
                          refine r_bin rfl rfl rfl ?_
                          refine r_nil ?_
                          refine i_then ?_
                          refine t_cond_dec rfl (fun hc10 => ?_) (fun hc10 => ?_)
                          ·
                            have htx := hr.sacksR (nth f.turnings n) (nth_mem (by omega))
                            refine t_region ?_
                            refine mvI rfl ?_
                            refine r_field_pp rfl rfl rfl rfl rfl (by decide) ?_
                            refine r_load_pp rfl rfl rfl rfl ?_
                            refine mvI rfl ?_
                            refine r_index_slN rfl rfl rfl rfl rfl rfl (by omega) ?_
                            refine r_field_pp rfl rfl rfl rfl rfl (by decide) ?_
                            refine r_load_pp rfl rfl rfl rfl ?_
                            refine r_add rfl rfl (by omega) (by omega) ?_
                            refine asI rfl ?_
                            refine r_nil ?_
                            refine i_block ?_
                            refine i_then ?_
                            refine t_region ?_
                            refine mvI rfl ?_
                            refine r_add rfl rfl (by omega) (by omega) ?_
                            refine asI rfl ?_
                            refine r_nil ?_
                            refine i_round (n + 1) ?_ (by omega)
                            (refine Ent.mk' ?_ ?_ <;> (repeat' (first | exact allSub_zero | exact allTags_nil | refine allSub_succ' ?_ (Ty.sub_any _) | refine allSub_succ' ?_ (Ty.sub_refl _) | refine allSub_succ' ?_ ?_)))
                            all_goals skip
                            exact Ty.sub_int (by simp only [takenM]; rw [take_nth (by omega), List.map_append, List.sum_append]; simp [hc10])
                          ·
                            refine t_skip ?_
                            refine i_block ?_
                            refine i_then ?_
                            refine t_region ?_
                            refine mvI rfl ?_
                            refine r_add rfl rfl (by omega) (by omega) ?_
                            refine asI rfl ?_
                            refine r_nil ?_
                            refine i_round (n + 1) ?_ (by omega)
                            (refine Ent.mk' ?_ ?_ <;> (repeat' (first | exact allSub_zero | exact allTags_nil | refine allSub_succ' ?_ (Ty.sub_any _) | refine allSub_succ' ?_ (Ty.sub_refl _) | refine allSub_succ' ?_ ?_)))
                            all_goals skip
                            exact Ty.sub_int (by simp only [takenM]; rw [take_nth (by omega), List.map_append, List.sum_append]; simp [hc10])
                        ·
                          refine t_exit ?_
                          refine i_then_exit ?_
                          refine i_then_exit ?_
                          refine i_block_exit rfl ?_
                          refine i_then ?_
                          refine t_seq ?_
                          refine t_region ?_
                          refine mvI rfl ?_
                          refine r_bin rfl rfl rfl ?_
                          refine mvB rfl ?_
                          apply r_guard (s := 144) rfl rfl rfl
                          · intro hg; apply opT_of; (refine mvI rfl ?_); refine r_nil ?_; exact rfl
                          · exact rfl
                          · exact rfl
                          apply r_guard (s := 144) rfl rfl rfl
                          · intro hg; apply opT_of; (refine r_field_pp rfl rfl rfl rfl rfl (by decide) ?_); refine r_nil ?_; exact rfl
                          · exact rfl
                          · exact rfl
                          apply r_guard (s := 144) rfl rfl rfl
                          · intro hg; apply opT_strip (s := 146) rfl (by (rw [hg]; rfl)); apply opT_of; (refine r_load_pp rfl rfl rfl rfl ?_); refine r_nil ?_; exact rfl
                          · exact rfl
                          · exact rfl
                          apply r_guard (s := 144) rfl rfl rfl
                          · intro hg; apply opT_of; (refine mvI rfl ?_); refine r_nil ?_; exact rfl
                          · exact rfl
                          · exact rfl
                          apply r_guard (s := 144) rfl rfl rfl
                          · intro hg; apply opT_strip (s := 147) rfl (by (rw [hg]; rfl)); apply opT_strip (s := 148) rfl (by (rw [hg]; rfl)); apply opT_of; (refine r_index_slN rfl rfl rfl rfl rfl rfl (by omega) ?_); refine r_nil ?_; exact rfl
                          · exact rfl
                          · exact rfl
                          apply r_guard (s := 144) rfl rfl rfl
                          · intro hg; apply opT_strip (s := 149) rfl (by (rw [hg]; rfl)); apply opT_of; (refine r_field_pp rfl rfl rfl rfl rfl (by decide) ?_); refine r_nil ?_; exact rfl
                          · exact rfl
                          · exact rfl
                          apply r_guard (s := 144) rfl rfl rfl
                          · intro hg; apply opT_strip (s := 150) rfl (by (rw [hg]; rfl)); apply opT_of; (refine r_load_pp rfl rfl rfl rfl ?_); refine r_nil ?_; exact rfl
                          · exact rfl
                          · exact rfl
                          apply r_guard (s := 144) rfl rfl rfl
                          · intro hg; apply opT_strip (s := 145) rfl (by (rw [hg]; rfl)); apply opT_strip (s := 151) rfl (by (rw [hg]; rfl)); apply opT_of; (refine r_bin rfl rfl rfl ?_); refine r_nil ?_; exact rfl
                          · exact rfl
                          · exact rfl
                          refine r_or rfl rfl ?_
                          refine r_nil ?_
                          refine i_then ?_
                          refine t_cond rfl (fun hc11 => ?_) (fun hc11 => ?_)
                          ·
                            refine t_seq ?_
                            refine t_region ?_
                            refine asI rfl ?_
                            refine r_nil ?_
                            refine i_then ?_
                            refine t_ret ?_
                            refine i_block_ret ?_
                            refine i_then_ret ?_
                            refine i_then_ret ?_
                            refine i_block_ret ?_
                            refine i_then_ret ?_
                            refine i_rp1 rfl rfl ?_
                            all_goals skip
                            exact ret_eq rfl rfl (congrArg (Ty.int .i64) (by rw [linkedM, if_neg (ng (any_neg k1.2 (by omega))), if_neg (ng (any_neg k2.2 (by omega))), if_neg (ng (any_neg k3.2 (by omega))), if_pos (iot_any_pos (k := k4.1) (by omega) (by rw [Int.toNat_natCast, getD_nth, Flr.wrongAt, ← List.take_of_length_le (l := (nth f.bins k4.1).shares) (i := m) (by omega), ← List.take_of_length_le (l := f.turnings) (i := n) (by omega)]; exact hc11))]))
                          ·
                            refine t_skip ?_
                            refine i_block ?_
                            refine i_then ?_
                            refine t_region ?_
                            refine mvI rfl ?_
                            refine r_add rfl rfl (by omega) (by omega) ?_
                            refine asI rfl ?_
                            refine r_nil ?_
                            refine i_round (⟨k4.1 + 1, ext_lt k4.2 (by rw [Flr.wrongAt, ← List.take_of_length_le (l := (nth f.bins k4.1).shares) (i := m) (by omega), ← List.take_of_length_le (l := f.turnings) (i := n) (by omega)]; exact hc11)⟩) ?_ (by show f.bins.length - (k4.1 + 1) < f.bins.length - k4.1; omega)
                            (refine Ent.mk' ?_ ?_ <;> (repeat' (first | exact allSub_zero | exact allTags_nil | refine allSub_succ' ?_ (Ty.sub_any _) | refine allSub_succ' ?_ (Ty.sub_refl _))))
                            all_goals skip
                ·
                  refine t_exit ?_
                  refine i_then_exit ?_
                  refine i_then_exit ?_
                  refine i_block_exit rfl ?_
                  refine i_then ?_
                  refine t_seq ?_
                  refine t_seq ?_
                  refine t_region ?_
                  refine asI rfl ?_
                  refine r_nil ?_
                  refine i_then ?_
                  refine t_block ?_
                  refine t_loop (fun (k5 : {k : Nat // ∀ j : Nat, j < k → decide ((j : Int) ∈ aheadM f j) = false}) => live [(1, Ty.pp (flrTys f)), (11, Ty.int .i64 (k5.1 : Nat))] []) (fun k5 => f.turnings.length - k5.1) (⟨0, fun j hj => absurd hj (Nat.not_lt_zero _)⟩) ?_ fun k5 => ?_
                  · (refine Ent.mk' ?_ ?_ <;> (repeat' (first | exact allSub_zero | exact allTags_nil | refine allSub_succ' ?_ (Ty.sub_any _) | refine allSub_succ' ?_ (Ty.sub_refl _))))
                  ·
                    refine t_seq ?_
                    refine t_seq ?_
                    refine t_region ?_
                    refine mvI rfl ?_
                    refine r_field_pp rfl rfl rfl rfl rfl (by decide) ?_
                    refine r_load_pp rfl rfl rfl rfl ?_
                    refine r_len rfl rfl rfl ?_
                    refine r_bin rfl rfl rfl ?_
                    refine r_nil ?_
                    refine i_then ?_
                    refine t_cond_dec rfl (fun hc12 => ?_) (fun hc12 => ?_)
                    ·
                      refine t_skip ?_
                      refine i_then ?_
                      refine t_seq ?_
                      refine t_block ?_
                      refine t_seq ?_
                      refine t_region ?_
                      refine r_load_ppN rfl rfl rfl (by exact Nat.le_of_ble_eq_true rfl) ?_
                      refine mvI rfl ?_
                      refine r_call (c_Ahead f hs _) rfl rfl rfl rfl rfl ?_
                      refine mvI rfl ?_
                      refine r_call (c_has _ _) rfl rfl rfl rfl rfl ?_
                      refine r_nil ?_
                      refine i_then ?_
                      refine t_cond_dec rfl (fun hc13 => ?_) (fun hc13 => ?_)
                      ·
                        refine t_seq ?_
                        refine t_region ?_
                        refine asI rfl ?_
                        refine r_nil ?_
                        refine i_then ?_
                        refine t_ret ?_
                        refine i_block_ret ?_
                        refine i_then_ret ?_
                        refine i_then_ret ?_
                        refine i_block_ret ?_
                        refine i_then_ret ?_
                        refine i_rp1 rfl rfl ?_
                        all_goals skip
                        exact ret_eq rfl rfl (congrArg (Ty.int .i64) (by rw [linkedM, if_neg (ng (any_neg k1.2 (by omega))), if_neg (ng (any_neg k2.2 (by omega))), if_neg (ng (any_neg k3.2 (by omega))), if_neg (ng (iot_any_neg fun k hk => by rw [Int.toNat_natCast, getD_nth]; exact k4.2 k (by omega))), if_pos (iot_any_pos (k := k5.1) (by omega) (decide_eq_true hc13))]))
                      ·
                        refine t_skip ?_
                        refine i_block ?_
                        refine i_then ?_
                        refine t_region ?_
                        refine mvI rfl ?_
                        refine r_add rfl rfl (by omega) (by omega) ?_
                        refine asI rfl ?_
                        refine r_nil ?_
                        refine i_round (⟨k5.1 + 1, ext_lt k5.2 (decide_eq_false hc13)⟩) ?_ (by show f.turnings.length - (k5.1 + 1) < f.turnings.length - k5.1; omega)
                        (refine Ent.mk' ?_ ?_ <;> (repeat' (first | exact allSub_zero | exact allTags_nil | refine allSub_succ' ?_ (Ty.sub_any _) | refine allSub_succ' ?_ (Ty.sub_refl _))))
                        all_goals skip
                    ·
                      refine t_exit ?_
                      refine i_then_exit ?_
                      refine i_then_exit ?_
                      refine i_block_exit rfl ?_
                      refine i_then ?_
                      refine t_seq ?_
                      refine t_region ?_
                      refine asI rfl ?_
                      refine r_nil ?_
                      refine i_then ?_
                      refine t_ret ?_
                      refine i_rp1 rfl rfl ?_
                      all_goals skip
                      exact ret_eq rfl rfl (congrArg (Ty.int .i64) (by rw [linkedM, if_neg (ng (any_neg k1.2 (by omega))), if_neg (ng (any_neg k2.2 (by omega))), if_neg (ng (any_neg k3.2 (by omega))), if_neg (ng (iot_any_neg fun k hk => by rw [Int.toNat_natCast, getD_nth]; exact k4.2 k (by omega))), if_neg (ng (iot_any_neg fun k hk => k5.2 k (by omega)))]))
end Go.Proofs.YtifgbnbkimcchaaGreat

namespace Go.Proofs.YtifgbnbkimcchaaGreat
open Go.T
def orderM (f : Flr) (order : List Int) : Int :=
  if (order.length : Int) ≠ f.turnings.length then 2
  else if order.any fun x => decide (x < 0 ∨ x ≥ f.turnings.length) then 1
  else if (iot order.length).any fun i => decide (nth order i.toNat ∈ order.take i.toNat) then 5
  else if (iot order.length).any fun i => (aheadM f (nth order i.toNat)).any fun y => !decide (y ∈ order.take i.toNat) then 4
  else 0
def Flr.Named (f : Flr) : Prop := ∀ t ∈ f.turnings, (-1 ≤ t.src ∧ t.src < f.bins.length) ∧ (-1 ≤ t.dst ∧ t.dst < f.bins.length)
def half1 (t : Trn) (s : List Int) : List Int := if t.src ≥ 0 then s.set t.src.toNat (nth s t.src.toNat - t.sacks) else s
def half2 (t : Trn) (s : List Int) : List Int := if t.dst ≥ 0 then s.set t.dst.toNat (nth s t.dst.toNat + t.sacks) else s
def stepS (f : Flr) (s : List Int) (i : Int) : List Int := half2 (nth f.turnings i.toNat) (half1 (nth f.turnings i.toNat) s)
theorem half1_len (t : Trn) (s : List Int) : (half1 t s).length = s.length := by unfold half1; split <;> simp
theorem half2_len (t : Trn) (s : List Int) : (half2 t s).length = s.length := by unfold half2; split <;> simp
def stateM (f : Flr) (order : List Int) (k : Nat) : List Int := (order.take k).foldl (stepS f) (f.bins.map Bin.has)
theorem stepS_len (f : Flr) (s : List Int) (i : Int) : (stepS f s i).length = s.length := by
  rw [stepS, half2_len, half1_len]
theorem foldS_len (f : Flr) : ∀ (l : List Int) (s : List Int), (l.foldl (stepS f) s).length = s.length
  | [], _ => rfl
  | i :: l, s => by rw [List.foldl_cons, foldS_len f l, stepS_len]
theorem stateM_len (f : Flr) (order : List Int) (k : Nat) : (stateM f order k).length = f.bins.length := by simp [stateM, foldS_len]
theorem stateM_succ {f : Flr} {order : List Int} {k : Nat} (h : k < order.length) : stateM f order (k + 1) = stepS f (stateM f order k) (nth order k) := by
  simp only [stateM]; rw [take_nth h, List.foldl_append]; rfl
def Abs (B : Int) (s : List Int) : Prop := ∀ x ∈ s, -B ≤ x ∧ x ≤ B
theorem abs_set {B B' : Int} {s : List Int} (h : Abs B s) (hB : B ≤ B') {k : Nat} {x : Int} (hx : -B' ≤ x ∧ x ≤ B') : Abs B' (s.set k x) := by
  intro y hy
  rcases List.mem_or_eq_of_mem_set hy with h1 | rfl
  · have := h y h1; omega
  · exact hx
theorem abs_nth {B : Int} (hB : 0 ≤ B) {s : List Int} (h : Abs B s) (k : Nat) : -B ≤ nth s k ∧ nth s k ≤ B := by
  rcases Nat.lt_or_ge k s.length with hk | hk
  · exact h _ (nth_mem hk)
  · have : nth s k = 0 := by unfold nth; rw [List.getD_eq_getElem?_getD, List.getElem?_eq_none hk]; rfl
    omega
theorem abs_half1 {t : Trn} (hx : 1 ≤ t.sacks ∧ t.sacks ≤ 300) {B : Int} (hB : 0 ≤ B) {s : List Int} (h : Abs B s) : Abs (B + 300) (half1 t s) := by
  unfold half1
  split
  · have := abs_nth hB h t.src.toNat
    exact abs_set h (by omega) (by omega)
  · intro x hx; have := h x hx; omega
theorem abs_half2 {t : Trn} (hx : 1 ≤ t.sacks ∧ t.sacks ≤ 300) {B : Int} (hB : 0 ≤ B) {s : List Int} (h : Abs B s) : Abs (B + 300) (half2 t s) := by
  unfold half2
  split
  · have := abs_nth hB h t.dst.toNat
    exact abs_set h (by omega) (by omega)
  · intro x hx; have := h x hx; omega
theorem abs_step {f : Flr} (hr : f.Ranged) {B : Int} (hB : 0 ≤ B) {s : List Int} (h : Abs B s) {i : Int} (hi : i.toNat < f.turnings.length) : Abs (B + 600) (stepS f s i) := by
  have hx := hr.sacksR _ (nth_mem hi)
  have := abs_half2 hx (by omega) (abs_half1 hx hB h)
  intro x hx; have := this x hx; omega
theorem abs_fold {f : Flr} (hr : f.Ranged) : ∀ (l : List Int) (B : Int) (s : List Int), 0 ≤ B → Abs B s → (∀ x ∈ l, 0 ≤ x ∧ x < f.turnings.length) → Abs (B + 600 * l.length) (l.foldl (stepS f) s)
  | [], B, s, _, h, _ => by simpa using h
  | i :: l, B, s, hB, h, hl => by
    have h1 := hl i List.mem_cons_self
    have := abs_fold hr l (B + 600) (stepS f s i) (by omega) (abs_step hr hB h (by omega)) fun x hx => hl x (List.mem_cons_of_mem _ hx)
    rw [List.foldl_cons]
    intro x hx
    have := this x hx
    simp only [List.length_cons]
    omega
theorem stateM_abs {f : Flr} (hr : f.Ranged) {order : List Int} (ho : ∀ x ∈ order, 0 ≤ x ∧ x < f.turnings.length) (hl : order.length ≤ 20) (k : Nat) : Abs 12300 (stateM f order k) := by
  have := abs_fold hr (order.take k) 300 (f.bins.map Bin.has) (by omega) (fun x hx => by
    obtain ⟨b, hb, rfl⟩ := List.mem_map.1 hx
    have := hr.hasR b hb; omega) fun x hx => ho x (List.mem_of_mem_take hx)
  intro x hx
  have := this x hx
  rw [List.length_take] at this
  omega
def sumT (f : Flr) (s : List Int) (i b : Nat) : Int := ((List.range i).map fun q => nth s q * nth (nth f.bins q).shares b).sum
theorem sumT_succ (f : Flr) (s : List Int) (i b : Nat) : sumT f s (i + 1) b = sumT f s i b + nth s i * nth (nth f.bins i).shares b := by
  simp [sumT, List.range_succ]
theorem mul_bound {a c B : Int} (h : -B ≤ a ∧ a ≤ B) (hc : 0 ≤ c ∧ c ≤ 4) : -(4 * B) ≤ a * c ∧ a * c ≤ 4 * B := by
  have : c = 0 ∨ c = 1 ∨ c = 2 ∨ c = 3 ∨ c = 4 := by omega
  rcases this with rfl | rfl | rfl | rfl | rfl <;> omega
theorem share_bound {f : Flr} (hr : f.Ranged) {i b : Nat} (hi : i < f.bins.length) : 0 ≤ nth (nth f.bins i).shares b ∧ nth (nth f.bins i).shares b ≤ 4 := by
  rcases Nat.lt_or_ge b (nth f.bins i).shares.length with hk | hk
  · exact hr.sharesR _ (nth_mem hi) _ (nth_mem hk)
  · have : nth (nth f.bins i).shares b = 0 := by
      show (nth f.bins i).shares.getD b default = 0
      rw [List.getD_eq_getElem?_getD, List.getElem?_eq_none hk]; rfl
    omega
theorem sumT_bound {f : Flr} (hr : f.Ranged) {s : List Int} (h : Abs 12300 s) : ∀ (i b : Nat), i ≤ f.bins.length → -(49200 * i) ≤ sumT f s i b ∧ sumT f s i b ≤ 49200 * i
  | 0, b, _ => by simp [sumT]
  | i + 1, b, hi => by
    rw [sumT_succ]
    have h1 := sumT_bound hr h i b (by omega)
    have h2 := mul_bound (abs_nth (by omega) h i) (share_bound hr (b := b) (show i < f.bins.length by omega))
    omega
def partM (f : Flr) (s : List Int) (i j : Nat) : List Int := (List.range f.bears.length).map fun b => if b < j then sumT f s (i + 1) b else sumT f s i b
def loadM (f : Flr) (s : List Int) : List Int := (List.range f.bears.length).map fun b => sumT f s f.bins.length b
def loadsM (f : Flr) (order : List Int) : List (List Int) := (List.range (order.length + 1)).map fun k => loadM f (stateM f order k)
theorem partM_len (f : Flr) (s : List Int) (i j : Nat) : (partM f s i j).length = f.bears.length := by simp [partM]
theorem part_full (f : Flr) (s : List Int) (i j : Nat) (hj : f.bears.length ≤ j) : partM f s i j = partM f s (i + 1) 0 := by
  simp only [partM]
  refine List.map_congr_left fun b hb => ?_
  have := List.mem_range.1 hb
  rw [if_pos (by omega), if_neg (by omega)]
theorem part_start (f : Flr) (s : List Int) : List.replicate f.bears.length 0 = partM f s 0 0 := by
  refine List.ext_getElem (by simp [partM]) fun k h1 h2 => ?_
  simp [partM, sumT]
theorem part_load (f : Flr) (s : List Int) : partM f s f.bins.length 0 = loadM f s := by simp [partM, loadM]
theorem nth_part {f : Flr} {s : List Int} {i j : Nat} (hj : j < f.bears.length) : nth (partM f s i j) j = sumT f s i j := by
  rw [nth_lt (by rw [partM_len]; exact hj)]
  simp [partM]
theorem part_set {f : Flr} {s : List Int} {i j : Nat} {x : Int} (hj : j < f.bears.length) (hx : x = sumT f s (i + 1) j) : (partM f s i j).set j x = partM f s i (j + 1) := by
  refine List.ext_getElem (by simp [partM_len]) fun k h1 h2 => ?_
  rw [List.getElem_set]
  simp only [partM, List.getElem_map, List.getElem_range]
  by_cases e : j = k
  · subst e; rw [if_pos rfl, if_pos (by omega)]; exact hx
  · rw [if_neg e]
    by_cases h : k < j
    · rw [if_pos h, if_pos (by omega)]
    · rw [if_neg h, if_neg (by omega)]
end Go.Proofs.YtifgbnbkimcchaaGreat

namespace Go.Proofs.YtifgbnbkimcchaaGreat
open Go Go.T
attribute [local irreducible] dInt dBool dSl dPp dPtr dAgg dTup dClo dAny dEx dStr dGd dCells dVec dVs dRow dOp nth Tri Into TOps Ctr bodyPost Exit.then Exit.inBlock Code.wp Code.wpIn
set_option maxRecDepth 100000 in
theorem c_rCheck (f : Flr) (hs : f.Small) : Ctr Tryz.prog 10 [flrT f] (Ty.int .i64 (checkM f)) := by
  refine fn_intro Tryz.func10 rfl (by decide) Tryz.ntmps10 (by exact Nat.le_of_ble_eq_true rfl) fun w0 M0 => ?_
  have hs1 := hs.bears; have hs2 := hs.bins; have hs3 := hs.turnings; have hs4 := hs.rules
  refine t_seq ?_
  refine t_region ?_
  refine r_box_agg rfl ?_
  refine asI rfl ?_
  refine r_nil ?_
  refine i_then ?_
  refine t_seq ?_
  refine t_seq ?_
  refine t_region ?_
  refine r_field_pp rfl rfl rfl rfl rfl (by decide) ?_
  refine r_load_pp rfl rfl rfl rfl ?_
  refine r_len rfl rfl rfl ?_
  refine r_call (c_off _ _ _) rfl rfl rfl rfl rfl ?_
  refine mvB rfl ?_
  apply r_guard (s := 12) rfl rfl rfl
  · intro hg; apply opT_of; (refine r_field_pp rfl rfl rfl rfl rfl (by decide) ?_); refine r_nil ?_; exact rfl
  · exact rfl
  · exact rfl
  apply r_guard (s := 12) rfl rfl rfl
  · intro hg; apply opT_strip (s := 13) rfl (by (rw [hg]; rfl)); apply opT_of; (refine r_load_pp rfl rfl rfl rfl ?_); refine r_nil ?_; exact rfl
  · exact rfl
  · exact rfl
  apply r_guard (s := 12) rfl rfl rfl
  · intro hg; apply opT_strip (s := 14) rfl (by (rw [hg]; rfl)); apply opT_of; (refine r_len rfl rfl rfl ?_); refine r_nil ?_; exact rfl
  · exact rfl
  · exact rfl
  apply r_guard (s := 12) rfl rfl rfl
  · intro hg; apply opT_strip (s := 15) rfl (by (rw [hg]; rfl)); apply opT_of; (refine r_bin rfl rfl rfl ?_); refine r_nil ?_; exact rfl
  · exact rfl
  · exact rfl
  refine r_or rfl rfl ?_
  refine mvB rfl ?_
  apply r_guard (s := 18) rfl rfl rfl
  · intro hg; apply opT_of; (refine r_field_pp rfl rfl rfl rfl rfl (by decide) ?_); refine r_nil ?_; exact rfl
  · exact rfl
  · exact rfl
  apply r_guard (s := 18) rfl rfl rfl
  · intro hg; apply opT_strip (s := 19) rfl (by (rw [hg]; rfl)); apply opT_of; (refine r_load_pp rfl rfl rfl rfl ?_); refine r_nil ?_; exact rfl
  · exact rfl
  · exact rfl
  apply r_guard (s := 18) rfl rfl rfl
  · intro hg; apply opT_strip (s := 20) rfl (by (rw [hg]; rfl)); apply opT_of; (refine r_len rfl rfl rfl ?_); refine r_nil ?_; exact rfl
  · exact rfl
  · exact rfl
  apply r_guard (s := 18) rfl rfl rfl
  · intro hg; apply opT_strip (s := 21) rfl (by (rw [hg]; rfl)); apply opT_of; (refine r_bin rfl rfl rfl ?_); refine r_nil ?_; exact rfl
  · exact rfl
  · exact rfl
  refine r_or rfl rfl ?_
  refine mvB rfl ?_
  apply r_guard (s := 24) rfl rfl rfl
  · intro hg; apply opT_of; (refine r_field_pp rfl rfl rfl rfl rfl (by decide) ?_); refine r_nil ?_; exact rfl
  · exact rfl
  · exact rfl
  apply r_guard (s := 24) rfl rfl rfl
  · intro hg; apply opT_strip (s := 25) rfl (by (rw [hg]; rfl)); apply opT_of; (refine r_load_pp rfl rfl rfl rfl ?_); refine r_nil ?_; exact rfl
  · exact rfl
  · exact rfl
  apply r_guard (s := 24) rfl rfl rfl
  · intro hg; apply opT_strip (s := 26) rfl (by (rw [hg]; rfl)); apply opT_of; (refine r_len rfl rfl rfl ?_); refine r_nil ?_; exact rfl
  · exact rfl
  · exact rfl
  apply r_guard (s := 24) rfl rfl rfl
  · intro hg; apply opT_strip (s := 27) rfl (by (rw [hg]; rfl)); apply opT_of; (refine r_bin rfl rfl rfl ?_); refine r_nil ?_; exact rfl
  · exact rfl
  · exact rfl
  refine r_or rfl rfl ?_
  refine r_nil ?_
  refine i_then ?_
  refine t_cond rfl (fun hc1 => ?_) (fun hc1 => ?_)
  ·
    refine t_seq ?_
    refine t_region ?_
    refine asI rfl ?_
    refine r_nil ?_
    refine i_then ?_
    refine t_ret ?_
    refine i_then_ret ?_
    refine i_rp1 rfl rfl ?_
    all_goals skip
    exact ret_eq rfl rfl (congrArg (Ty.int .i64) (by rw [checkM, if_pos (show f.many = true from hc1)]))
  ·
    refine t_skip ?_
    refine i_then ?_
    refine t_seq ?_
    refine t_seq ?_
    refine t_region ?_
    refine asI rfl ?_
    refine r_nil ?_
    refine i_then ?_
    refine t_block ?_
    refine t_loop (fun (k1 : {k : Nat // ∀ b ∈ f.bins.take k, (!decide ((b.shares.length : Int) = f.bears.length)) = false}) => live [(1, Ty.pp (flrTys f)), (3, Ty.int .i64 (k1.1 : Nat))] []) (fun k1 => f.bins.length - k1.1) (⟨0, by simp⟩) ?_ fun k1 => ?_
    · (refine Ent.mk' ?_ ?_ <;> (repeat' (first | exact allSub_zero | exact allTags_nil | refine allSub_succ' ?_ (Ty.sub_any _) | refine allSub_succ' ?_ (Ty.sub_refl _))))
    ·
      refine t_seq ?_
      refine t_seq ?_
      refine t_region ?_
      refine mvI rfl ?_
      refine r_field_pp rfl rfl rfl rfl rfl (by decide) ?_
      refine r_load_pp rfl rfl rfl rfl ?_
      refine r_len rfl rfl rfl ?_
      refine r_bin rfl rfl rfl ?_
      refine r_nil ?_
      refine i_then ?_
      refine t_cond_dec rfl (fun hc2 => ?_) (fun hc2 => ?_)
      ·
        refine t_skip ?_
        refine i_then ?_
        refine t_seq ?_
        refine t_block ?_
        refine t_seq ?_
        refine t_draw mixed rfl ?_
        refine r_field_pp rfl rfl rfl rfl rfl (by decide) ?_
        refine r_load_pp rfl rfl rfl rfl ?_
        refine mvI rfl ?_
        refine r_index_slN rfl rfl rfl rfl rfl rfl (by omega) ?_
        refine r_field_pp rfl rfl rfl rfl rfl (by decide) ?_
        refine r_load_pp rfl rfl rfl rfl ?_
        refine r_len rfl rfl rfl ?_
        refine r_field_pp rfl rfl rfl rfl rfl (by decide) ?_
        refine r_load_pp rfl rfl rfl rfl ?_
        refine r_len rfl rfl rfl ?_
        refine r_bin rfl rfl rfl ?_
        refine r_nil ?_
        refine ⟨by kernel_rfl, ?_⟩
        refine i_then ?_
        refine t_cond_ndec rfl (fun hc3 => ?_) (fun hc3 => ?_)
        ·
          refine t_seq ?_
          refine t_region ?_
          refine asI rfl ?_
          refine r_nil ?_
          refine i_then ?_
          refine t_ret ?_
          refine i_block_ret ?_
          refine i_then_ret ?_
          refine i_then_ret ?_
          refine i_block_ret ?_
          refine i_then_ret ?_
          refine i_rp1 rfl rfl ?_
          all_goals skip
          exact ret_eq rfl rfl (congrArg (Ty.int .i64) (by rw [checkM, if_neg (ng (show f.many = false from hc1)), if_pos (any_at (q := fun b : Bin => !decide ((b.shares.length : Int) = f.bears.length)) (k := k1.1) (by omega) (by rw [decide_eq_false hc3]; rfl))]))
        ·
          refine t_skip ?_
          refine i_block ?_
          refine i_then ?_
          refine t_region ?_
          refine mvI rfl ?_
          refine r_add rfl rfl (by omega) (by omega) ?_
          refine asI rfl ?_
          refine r_nil ?_
          refine i_round (⟨k1.1 + 1, ext_false k1.2 (by omega) (by rw [decide_eq_true hc3]; rfl)⟩) ?_ (by show f.bins.length - (k1.1 + 1) < f.bins.length - k1.1; omega)
          (refine Ent.mk' ?_ ?_ <;> (repeat' (first | exact allSub_zero | exact allTags_nil | refine allSub_succ' ?_ (Ty.sub_any _) | refine allSub_succ' ?_ (Ty.sub_refl _))))
          all_goals skip
      ·
        refine t_exit ?_
        refine i_then_exit ?_
        refine i_then_exit ?_
        refine i_block_exit rfl ?_
        refine i_then ?_
        refine t_seq ?_
        refine t_seq ?_
        refine t_region ?_
        refine asI rfl ?_
        refine r_nil ?_
        refine i_then ?_
        refine t_block ?_
        refine t_loop (fun (k2 : {k : Nat // ∀ n ∈ f.bears.take k, offB n 0 4000 = false}) => live [(1, Ty.pp (flrTys f)), (4, Ty.int .i64 (k2.1 : Nat))] []) (fun k2 => f.bears.length - k2.1) (⟨0, by simp⟩) ?_ fun k2 => ?_
        · (refine Ent.mk' ?_ ?_ <;> (repeat' (first | exact allSub_zero | exact allTags_nil | refine allSub_succ' ?_ (Ty.sub_any _) | refine allSub_succ' ?_ (Ty.sub_refl _))))
        ·
          refine t_seq ?_
          refine t_seq ?_
          refine t_region ?_
          refine mvI rfl ?_
          refine r_field_pp rfl rfl rfl rfl rfl (by decide) ?_
          refine r_load_pp rfl rfl rfl rfl ?_
          refine r_len rfl rfl rfl ?_
          refine r_bin rfl rfl rfl ?_
          refine r_nil ?_
          refine i_then ?_
          refine t_cond_dec rfl (fun hc4 => ?_) (fun hc4 => ?_)
          ·
            refine t_skip ?_
            refine i_then ?_
            refine t_seq ?_
            refine t_block ?_
            refine t_seq ?_
            refine t_region ?_
            refine r_field_pp rfl rfl rfl rfl rfl (by decide) ?_
            refine r_load_pp rfl rfl rfl rfl ?_
            refine mvI rfl ?_
            refine r_index_slN rfl rfl rfl rfl rfl rfl (by omega) ?_
            refine r_load_pp rfl rfl rfl rfl ?_
            refine r_call (c_off _ _ _) rfl rfl rfl rfl rfl ?_
            refine r_nil ?_
            refine i_then ?_
            refine t_cond rfl (fun hc5 => ?_) (fun hc5 => ?_)
            ·
              refine t_seq ?_
              refine t_region ?_
              refine asI rfl ?_
              refine r_nil ?_
              refine i_then ?_
              refine t_ret ?_
              refine i_block_ret ?_
              refine i_then_ret ?_
              refine i_then_ret ?_
              refine i_block_ret ?_
              refine i_then_ret ?_
              refine i_rp1 rfl rfl ?_
              all_goals skip
              exact ret_eq rfl rfl (congrArg (Ty.int .i64) (by rw [checkM, if_neg (ng (show f.many = false from hc1)), if_neg (ng (any_neg k1.2 (by omega))), if_pos (any_at (q := fun n => offB n 0 4000) (k := k2.1) (by omega) hc5)]))
            ·
              refine t_skip ?_
              refine i_block ?_
              refine i_then ?_
              refine t_region ?_
              refine mvI rfl ?_
              refine r_add rfl rfl (by omega) (by omega) ?_
              refine asI rfl ?_
              refine r_nil ?_
              refine i_round (⟨k2.1 + 1, ext_false k2.2 (by omega) hc5⟩) ?_ (by show f.bears.length - (k2.1 + 1) < f.bears.length - k2.1; omega)
              (refine Ent.mk' ?_ ?_ <;> (repeat' (first | exact allSub_zero | exact allTags_nil | refine allSub_succ' ?_ (Ty.sub_any _) | refine allSub_succ' ?_ (Ty.sub_refl _))))
              all_goals skip
          ·
            refine t_exit ?_
            refine i_then_exit ?_
            refine i_then_exit ?_
            refine i_block_exit rfl ?_
            refine i_then ?_
            refine t_seq ?_
            refine t_seq ?_
            refine t_region ?_
            refine asI rfl ?_
            refine r_nil ?_
            refine i_then ?_
            refine t_block ?_
            refine t_loop (fun (k3 : {k : Nat // ∀ b ∈ f.bins.take k, (offB b.has 0 300 || b.shares.any fun n => offB n 0 4) = false}) => live [(1, Ty.pp (flrTys f)), (5, Ty.int .i64 (k3.1 : Nat))] []) (fun k3 => f.bins.length - k3.1) (⟨0, by simp⟩) ?_ fun k3 => ?_
            · (refine Ent.mk' ?_ ?_ <;> (repeat' (first | exact allSub_zero | exact allTags_nil | refine allSub_succ' ?_ (Ty.sub_any _) | refine allSub_succ' ?_ (Ty.sub_refl _))))
            ·
              refine t_seq ?_
              refine t_seq ?_
              refine t_region ?_
              refine mvI rfl ?_
              refine r_field_pp rfl rfl rfl rfl rfl (by decide) ?_
              refine r_load_pp rfl rfl rfl rfl ?_
              refine r_len rfl rfl rfl ?_
              refine r_bin rfl rfl rfl ?_
              refine r_nil ?_
              refine i_then ?_
              refine t_cond_dec rfl (fun hc6 => ?_) (fun hc6 => ?_)
              ·
                refine t_skip ?_
                refine i_then ?_
                refine t_seq ?_
                refine t_block ?_
                refine t_seq ?_
                refine t_seq ?_
                refine t_region ?_
                refine r_field_pp rfl rfl rfl rfl rfl (by decide) ?_
                refine r_load_pp rfl rfl rfl rfl ?_
                refine mvI rfl ?_
                refine r_index_slN rfl rfl rfl rfl rfl rfl (by omega) ?_
                refine r_field_pp rfl rfl rfl rfl rfl (by decide) ?_
                refine r_load_pp rfl rfl rfl rfl ?_
                refine r_call (c_off _ _ _) rfl rfl rfl rfl rfl ?_
                refine r_nil ?_
                refine i_then ?_
                refine t_cond rfl (fun hc7 => ?_) (fun hc7 => ?_)
                ·
                  refine t_seq ?_
                  refine t_region ?_
                  refine asI rfl ?_
                  refine r_nil ?_
                  refine i_then ?_
                  refine t_ret ?_
                  refine i_then_ret ?_
                  refine i_block_ret ?_
                  refine i_then_ret ?_
                  refine i_then_ret ?_
                  refine i_block_ret ?_
                  refine i_then_ret ?_
                  refine i_rp1 rfl rfl ?_
                  all_goals skip
                  exact ret_eq rfl rfl (congrArg (Ty.int .i64) (by rw [checkM, if_neg (ng (show f.many = false from hc1)), if_neg (ng (any_neg k1.2 (by omega))), if_neg (ng (any_neg k2.2 (by omega))), if_pos (any_at (q := fun b : Bin => offB b.has 0 300 || b.shares.any fun n => offB n 0 4) (k := k3.1) (by omega) (by rw [show offB (nth f.bins k3.1).has 0 300 = true from hc7]; rfl))]))
                ·
                  refine t_skip ?_
                  refine i_then ?_
                  refine t_seq ?_
                  have hsl : (nth f.bins k3.1).shares.length = f.bears.length := by have := any_none (any_neg k1.2 (by omega)) (nth_mem (xs := f.bins) (k := k3.1) (by omega)); simp only [Bool.not_eq_false', decide_eq_true_eq] at this; omega
                  refine t_region ?_
                  refine asI rfl ?_
                  refine r_nil ?_
                  refine i_then ?_
                  refine t_block ?_
                  refine t_loop (fun (m : {m : Nat // ∀ n ∈ (nth f.bins k3.1).shares.take m, offB n 0 4 = false}) => live [(1, Ty.pp (flrTys f)), (5, Ty.int .i64 (k3.1 : Nat)), (6, Ty.int .i64 (m.1 : Nat))] []) (fun m => f.bears.length - m.1) (⟨0, by simp⟩) ?_ fun m => ?_
                  · (refine Ent.mk' ?_ ?_ <;> (repeat' (first | exact allSub_zero | exact allTags_nil | refine allSub_succ' ?_ (Ty.sub_any _) | refine allSub_succ' ?_ (Ty.sub_refl _))))
                  ·
                    refine t_seq ?_
                    refine t_seq ?_
                    refine t_region ?_
                    refine mvI rfl ?_
                    refine r_field_pp rfl rfl rfl rfl rfl (by decide) ?_
                    refine r_load_pp rfl rfl rfl rfl ?_
                    refine r_len rfl rfl rfl ?_
                    refine r_bin rfl rfl rfl ?_
                    refine r_nil ?_
                    refine i_then ?_
                    refine t_cond_dec rfl (fun hc8 => ?_) (fun hc8 => ?_)
                    ·
                      refine t_skip ?_
                      refine i_then ?_
                      refine t_seq ?_
                      refine t_block ?_
                      refine t_seq ?_
                      refine t_region ?_
                      refine r_field_pp rfl rfl rfl rfl rfl (by decide) ?_
                      refine r_load_pp rfl rfl rfl rfl ?_
                      refine mvI rfl ?_
                      refine r_index_slN rfl rfl rfl rfl rfl rfl (by omega) ?_
                      refine r_field_pp rfl rfl rfl rfl rfl (by decide) ?_
                      refine r_load_pp rfl rfl rfl rfl ?_
                      refine mvI rfl ?_
                      refine r_index_slN rfl rfl rfl rfl rfl rfl (by omega) ?_
                      refine r_load_pp rfl rfl rfl rfl ?_
                      refine r_call (c_off _ _ _) rfl rfl rfl rfl rfl ?_
                      refine r_nil ?_
                      refine i_then ?_
                      refine t_cond rfl (fun hc9 => ?_) (fun hc9 => ?_)
                      ·
                        refine t_seq ?_
                        refine t_region ?_
                        refine asI rfl ?_
                        refine r_nil ?_
                        refine i_then ?_
                        refine t_ret ?_
                        refine i_block_ret ?_
                        refine i_then_ret ?_
                        refine i_then_ret ?_
                        refine i_block_ret ?_
                        refine i_block_ret ?_
                        refine i_then_ret ?_
                        refine i_then_ret ?_
                        refine i_block_ret ?_
                        refine i_then_ret ?_
                        refine i_rp1 rfl rfl ?_
                        all_goals skip
                        exact ret_eq rfl rfl (congrArg (Ty.int .i64) (by rw [checkM, if_neg (ng (show f.many = false from hc1)), if_neg (ng (any_neg k1.2 (by omega))), if_neg (ng (any_neg k2.2 (by omega))), if_pos (any_at (q := fun b : Bin => offB b.has 0 300 || b.shares.any fun n => offB n 0 4) (k := k3.1) (by omega) (by rw [any_at (q := fun n => offB n 0 4) (k := m.1) (by omega) hc9, Bool.or_true]))]))
                      ·
                        refine t_skip ?_
                        refine i_block ?_
                        refine i_then ?_
                        refine t_region ?_
                        refine mvI rfl ?_
                        refine r_add rfl rfl (by omega) (by omega) ?_
                        refine asI rfl ?_
                        refine r_nil ?_
                        refine i_round (⟨m.1 + 1, ext_false m.2 (by omega) hc9⟩) ?_ (by show f.bears.length - (m.1 + 1) < f.bears.length - m.1; omega)
                        (refine Ent.mk' ?_ ?_ <;> (repeat' (first | exact allSub_zero | exact allTags_nil | refine allSub_succ' ?_ (Ty.sub_any _) | refine allSub_succ' ?_ (Ty.sub_refl _))))
                        all_goals skip
                    ·
                      refine t_exit ?_
                      refine i_then_exit ?_
                      refine i_then_exit ?_
                      refine i_block_exit rfl ?_
                      refine i_block ?_
                      refine i_then ?_
                      refine t_region ?_
                      refine mvI rfl ?_
                      refine r_add rfl rfl (by omega) (by omega) ?_
                      refine asI rfl ?_
                      refine r_nil ?_
                      refine i_round (⟨k3.1 + 1, ext_false k3.2 (by omega) (by rw [show offB (nth f.bins k3.1).has 0 300 = false from hc7, any_neg m.2 (by omega)]; rfl)⟩) ?_ (by show f.bins.length - (k3.1 + 1) < f.bins.length - k3.1; omega)
                      (refine Ent.mk' ?_ ?_ <;> (repeat' (first | exact allSub_zero | exact allTags_nil | refine allSub_succ' ?_ (Ty.sub_any _) | refine allSub_succ' ?_ (Ty.sub_refl _))))
                      all_goals skip
              ·
                refine t_exit ?_
                refine i_then_exit ?_
                refine i_then_exit ?_
                refine i_block_exit rfl ?_
                refine i_then ?_
                refine t_seq ?_
                refine t_seq ?_
                refine t_region ?_
                refine asI rfl ?_
                refine r_nil ?_
                refine i_then ?_
                refine t_block ?_
                refine t_loop (fun (k5 : {k : Nat // ∀ t ∈ f.turnings.take k, offB t.sacks 1 300 = false}) => live [(1, Ty.pp (flrTys f)), (7, Ty.int .i64 (k5.1 : Nat))] []) (fun k5 => f.turnings.length - k5.1) (⟨0, by simp⟩) ?_ fun k5 => ?_
                · (refine Ent.mk' ?_ ?_ <;> (repeat' (first | exact allSub_zero | exact allTags_nil | refine allSub_succ' ?_ (Ty.sub_any _) | refine allSub_succ' ?_ (Ty.sub_refl _))))
                ·
                  refine t_seq ?_
                  refine t_seq ?_
                  refine t_region ?_
                  refine mvI rfl ?_
                  refine r_field_pp rfl rfl rfl rfl rfl (by decide) ?_
                  refine r_load_pp rfl rfl rfl rfl ?_
                  refine r_len rfl rfl rfl ?_
                  refine r_bin rfl rfl rfl ?_
                  refine r_nil ?_
                  refine i_then ?_
                  refine t_cond_dec rfl (fun hc10 => ?_) (fun hc10 => ?_)
                  ·
                    refine t_skip ?_
                    refine i_then ?_
                    refine t_seq ?_
                    refine t_block ?_
                    refine t_seq ?_
                    refine t_region ?_
                    refine r_field_pp rfl rfl rfl rfl rfl (by decide) ?_
                    refine r_load_pp rfl rfl rfl rfl ?_
                    refine mvI rfl ?_
                    refine r_index_slN rfl rfl rfl rfl rfl rfl (by omega) ?_
                    refine r_field_pp rfl rfl rfl rfl rfl (by decide) ?_
                    refine r_load_pp rfl rfl rfl rfl ?_
                    refine r_call (c_off _ _ _) rfl rfl rfl rfl rfl ?_
                    refine r_nil ?_
                    refine i_then ?_
                    refine t_cond rfl (fun hc11 => ?_) (fun hc11 => ?_)
                    ·
                      refine t_seq ?_
                      refine t_region ?_
                      refine asI rfl ?_
                      refine r_nil ?_
                      refine i_then ?_
                      refine t_ret ?_
                      refine i_block_ret ?_
                      refine i_then_ret ?_
                      refine i_then_ret ?_
                      refine i_block_ret ?_
                      refine i_then_ret ?_
                      refine i_rp1 rfl rfl ?_
                      all_goals skip
                      exact ret_eq rfl rfl (congrArg (Ty.int .i64) (by rw [checkM, if_neg (ng (show f.many = false from hc1)), if_neg (ng (any_neg k1.2 (by omega))), if_neg (ng (any_neg k2.2 (by omega))), if_neg (ng (any_neg k3.2 (by omega))), if_pos (any_at (q := fun t : Trn => offB t.sacks 1 300) (k := k5.1) (by omega) hc11)]))
                    ·
                      refine t_skip ?_
                      refine i_block ?_
                      refine i_then ?_
                      refine t_region ?_
                      refine mvI rfl ?_
                      refine r_add rfl rfl (by omega) (by omega) ?_
                      refine asI rfl ?_
                      refine r_nil ?_
                      refine i_round (⟨k5.1 + 1, ext_false k5.2 (by omega) hc11⟩) ?_ (by show f.turnings.length - (k5.1 + 1) < f.turnings.length - k5.1; omega)
                      (refine Ent.mk' ?_ ?_ <;> (repeat' (first | exact allSub_zero | exact allTags_nil | refine allSub_succ' ?_ (Ty.sub_any _) | refine allSub_succ' ?_ (Ty.sub_refl _))))
                      all_goals skip
                  ·
                    refine t_exit ?_
                    refine i_then_exit ?_
                    refine i_then_exit ?_
                    refine i_block_exit rfl ?_
                    refine i_then ?_
                    refine t_seq ?_
                    have hr := ranged_of (f := f) hc1 (any_neg k1.2 (by omega)) (any_neg k2.2 (by omega)) (any_neg k3.2 (by omega)) (any_neg k5.2 (by omega))
                    refine t_region ?_
                    refine r_load_ppN rfl rfl rfl (by exact Nat.le_of_ble_eq_true rfl) ?_
                    refine r_call (c_linked f hs hr) rfl rfl rfl rfl rfl ?_
                    refine asI rfl ?_
                    refine r_nil ?_
                    refine i_then ?_
                    refine t_ret ?_
                    refine i_rp1 rfl rfl ?_
                    all_goals skip
                    exact ret_eq rfl rfl (congrArg (Ty.int .i64) (by rw [checkM, if_neg (ng (show f.many = false from hc1)), if_neg (ng (any_neg k1.2 (by omega))), if_neg (ng (any_neg k2.2 (by omega))), if_neg (ng (any_neg k3.2 (by omega))), if_neg (ng (any_neg k5.2 (by omega)))]))
set_option maxRecDepth 100000 in
theorem c_rOrder (f : Flr) (hs : f.Small) (order : List Int) (hl : order.length ≤ 20) : Ctr Tryz.prog 27 [flrT f, Ty.sl I64 order] (Ty.int .i64 (orderM f order)) := by
  refine fn_intro Tryz.func27 rfl (by decide) Tryz.ntmps27 (by exact Nat.le_of_ble_eq_true rfl) fun w0 M0 => ?_
  have hs1 := hs.bears; have hs2 := hs.bins; have hs3 := hs.turnings; have hs4 := hs.rules
  refine t_seq ?_
  refine t_region ?_
  refine r_box_agg rfl ?_
  refine asI rfl ?_
  refine r_nil ?_
  refine i_then ?_
  refine t_seq ?_
  refine t_seq ?_
  refine t_region ?_
  refine mvS rfl ?_
  refine r_len rfl rfl rfl ?_
  refine r_field_pp rfl rfl rfl rfl rfl (by decide) ?_
  refine r_load_pp rfl rfl rfl rfl ?_
  refine r_len rfl rfl rfl ?_
  refine r_bin rfl rfl rfl ?_
  refine r_nil ?_
  refine i_then ?_
  refine t_cond_ndec rfl (fun hc1 => ?_) (fun hc1 => ?_)
  ·
    refine t_seq ?_
    refine t_region ?_
    refine asI rfl ?_
    refine r_nil ?_
    refine i_then ?_
    refine t_ret ?_
    refine i_then_ret ?_
    refine i_rp1 rfl rfl ?_
    all_goals skip
    exact ret_eq rfl rfl (congrArg (Ty.int .i64) (by rw [orderM, if_pos hc1]))
  ·
    refine t_skip ?_
    refine i_then ?_
    refine t_seq ?_
    refine t_seq ?_
    refine t_region ?_
    refine asI rfl ?_
    refine r_nil ?_
    refine i_then ?_
    refine t_block ?_
    refine t_loop (fun (k1 : {k : Nat // ∀ x ∈ order.take k, decide (x < 0 ∨ x ≥ f.turnings.length) = false}) => live [(1, Ty.sl I64 order), (2, Ty.pp (flrTys f)), (5, Ty.int .i64 (k1.1 : Nat))] []) (fun k1 => order.length - k1.1) (⟨0, by simp⟩) ?_ fun k1 => ?_
    · (refine Ent.mk' ?_ ?_ <;> (repeat' (first | exact allSub_zero | exact allTags_nil | refine allSub_succ' ?_ (Ty.sub_any _) | refine allSub_succ' ?_ (Ty.sub_refl _))))
    ·
      refine t_seq ?_
      refine t_seq ?_
      refine t_region ?_
      refine mvI rfl ?_
      refine mvS rfl ?_
      refine r_len rfl rfl rfl ?_
      refine r_bin rfl rfl rfl ?_
      refine r_nil ?_
      refine i_then ?_
      refine t_cond_dec rfl (fun hc2 => ?_) (fun hc2 => ?_)
      ·
        refine t_skip ?_
        refine i_then ?_
        refine t_seq ?_
        refine t_block ?_
        refine t_seq ?_
        refine t_draw mixed rfl ?_
        refine r_load_ppN rfl rfl rfl (by exact Nat.le_of_ble_eq_true rfl) ?_
        refine mvS rfl ?_
        refine mvI rfl ?_
        refine r_index_slN rfl rfl rfl rfl rfl rfl (by omega) ?_
        refine r_load_pp rfl rfl rfl rfl ?_
        refine r_call (c_There f hs _) rfl rfl rfl rfl rfl ?_
        refine r_bin rfl rfl rfl ?_
        refine r_nil ?_
        refine ⟨by kernel_rfl, ?_⟩
        refine i_then ?_
        refine t_cond_ndec rfl (fun hc3 => ?_) (fun hc3 => ?_)
        ·
          refine t_seq ?_
          refine t_region ?_
          refine asI rfl ?_
          refine r_nil ?_
          refine i_then ?_
          refine t_ret ?_
          refine i_block_ret ?_
          refine i_then_ret ?_
          refine i_then_ret ?_
          refine i_block_ret ?_
          refine i_then_ret ?_
          refine i_rp1 rfl rfl ?_
          all_goals skip
          exact ret_eq rfl rfl (congrArg (Ty.int .i64) (by rw [orderM, if_neg (Classical.not_not.2 hc1), if_pos (any_at (q := fun x => decide (x < 0 ∨ x ≥ (f.turnings.length : Int))) (k := k1.1) (by omega) (decide_eq_true (Classical.byContradiction fun h => hc3 (if_neg h))))]))
        ·
          refine t_skip ?_
          refine i_block ?_
          refine i_then ?_
          refine t_region ?_
          refine mvI rfl ?_
          refine r_add rfl rfl (by omega) (by omega) ?_
          refine asI rfl ?_
          refine r_nil ?_
          refine i_round (⟨k1.1 + 1, ext_false k1.2 (by omega) (by apply decide_eq_false; intro h; rw [if_pos h] at hc3; exact absurd hc3 (by decide))⟩) ?_ (by show order.length - (k1.1 + 1) < order.length - k1.1; omega)
          (refine Ent.mk' ?_ ?_ <;> (repeat' (first | exact allSub_zero | exact allTags_nil | refine allSub_succ' ?_ (Ty.sub_any _) | refine allSub_succ' ?_ (Ty.sub_refl _))))
          all_goals skip
      ·
        refine t_exit ?_
        refine i_then_exit ?_
        refine i_then_exit ?_
        refine i_block_exit rfl ?_
        refine i_then ?_
        refine t_seq ?_
        refine t_seq ?_
        refine t_region ?_
        refine asI rfl ?_
        refine r_nil ?_
        refine i_then ?_
        refine t_block ?_
        refine t_loop (fun (k2 : {k : Nat // ∀ j, j < k → decide (nth order j ∈ order.take j) = false}) => live [(1, Ty.sl I64 order), (2, Ty.pp (flrTys f)), (6, Ty.int .i64 (k2.1 : Nat))] []) (fun k2 => order.length - k2.1) (⟨0, fun j hj => absurd hj (Nat.not_lt_zero _)⟩) ?_ fun k2 => ?_
        · (refine Ent.mk' ?_ ?_ <;> (repeat' (first | exact allSub_zero | exact allTags_nil | refine allSub_succ' ?_ (Ty.sub_any _) | refine allSub_succ' ?_ (Ty.sub_refl _))))
        ·
          refine t_seq ?_
          refine t_seq ?_
          refine t_region ?_
          refine mvI rfl ?_
          refine mvS rfl ?_
          refine r_len rfl rfl rfl ?_
          refine r_bin rfl rfl rfl ?_
          refine r_nil ?_
          refine i_then ?_
          refine t_cond_dec rfl (fun hc4 => ?_) (fun hc4 => ?_)
          ·
            refine t_skip ?_
            refine i_then ?_
            refine t_seq ?_
            refine t_block ?_
            refine t_seq ?_
            refine t_draw mixed rfl ?_
            refine mvS rfl ?_
            refine mvI rfl ?_
            refine r_cut_hi rfl rfl rfl rfl rfl rfl (by omega) ?_
            refine mvS rfl ?_
            refine mvI rfl ?_
            refine r_index_slN rfl rfl rfl rfl rfl rfl (by omega) ?_
            refine r_load_pp rfl rfl rfl rfl ?_
            refine r_call (c_has _ _) rfl rfl rfl rfl rfl ?_
            refine r_nil ?_
            refine ⟨by kernel_rfl, ?_⟩
            refine i_then ?_
            refine t_cond_dec rfl (fun hc5 => ?_) (fun hc5 => ?_)
            ·
              refine t_seq ?_
              refine t_region ?_
              refine asI rfl ?_
              refine r_nil ?_
              refine i_then ?_
              refine t_ret ?_
              refine i_block_ret ?_
              refine i_then_ret ?_
              refine i_then_ret ?_
              refine i_block_ret ?_
              refine i_then_ret ?_
              refine i_rp1 rfl rfl ?_
              all_goals skip
              exact ret_eq rfl rfl (congrArg (Ty.int .i64) (by rw [orderM, if_neg (Classical.not_not.2 hc1), if_neg (ng (any_neg k1.2 (by omega))), if_pos (iot_any_pos (k := k2.1) (by omega) (by rw [Int.toNat_natCast]; exact decide_eq_true hc5))]))
            ·
              refine t_skip ?_
              refine i_block ?_
              refine i_then ?_
              refine t_region ?_
              refine mvI rfl ?_
              refine r_add rfl rfl (by omega) (by omega) ?_
              refine asI rfl ?_
              refine r_nil ?_
              refine i_round (⟨k2.1 + 1, ext_lt k2.2 (decide_eq_false hc5)⟩) ?_ (by show order.length - (k2.1 + 1) < order.length - k2.1; omega)
              (refine Ent.mk' ?_ ?_ <;> (repeat' (first | exact allSub_zero | exact allTags_nil | refine allSub_succ' ?_ (Ty.sub_any _) | refine allSub_succ' ?_ (Ty.sub_refl _))))
              all_goals skip
          ·
            refine t_exit ?_
            refine i_then_exit ?_
            refine i_then_exit ?_
            refine i_block_exit rfl ?_
            refine i_then ?_
            refine t_seq ?_
            refine t_seq ?_
            refine t_region ?_
            refine asI rfl ?_
            refine r_nil ?_
            refine i_then ?_
            refine t_block ?_
            refine t_loop (fun (k3 : {k : Nat // ∀ j, j < k → ((aheadM f (nth order j)).any fun y => !decide (y ∈ order.take j)) = false}) => live [(1, Ty.sl I64 order), (2, Ty.pp (flrTys f)), (7, Ty.int .i64 (k3.1 : Nat))] []) (fun k3 => order.length - k3.1) (⟨0, fun j hj => absurd hj (Nat.not_lt_zero _)⟩) ?_ fun k3 => ?_
            · (refine Ent.mk' ?_ ?_ <;> (repeat' (first | exact allSub_zero | exact allTags_nil | refine allSub_succ' ?_ (Ty.sub_any _) | refine allSub_succ' ?_ (Ty.sub_refl _))))
            ·
              refine t_seq ?_
              refine t_seq ?_
              refine t_region ?_
              refine mvI rfl ?_
              refine mvS rfl ?_
              refine r_len rfl rfl rfl ?_
              refine r_bin rfl rfl rfl ?_
              refine r_nil ?_
              refine i_then ?_
              refine t_cond_dec rfl (fun hc6 => ?_) (fun hc6 => ?_)
              ·
                refine t_skip ?_
                refine i_then ?_
                refine t_seq ?_
                refine t_block ?_
                refine t_seq ?_
                refine t_draw mixed rfl ?_
                refine r_load_ppN rfl rfl rfl (by exact Nat.le_of_ble_eq_true rfl) ?_
                refine mvS rfl ?_
                refine mvI rfl ?_
                refine r_index_slN rfl rfl rfl rfl rfl rfl (by omega) ?_
                refine r_load_pp rfl rfl rfl rfl ?_
                refine r_call (c_Ahead f hs _) rfl rfl rfl rfl rfl ?_
                refine asS rfl ?_
                refine r_nil ?_
                refine ⟨by kernel_rfl, ?_⟩
                refine i_then ?_
                refine t_seq ?_
                refine t_region ?_
                refine asI rfl ?_
                refine r_nil ?_
                refine i_then ?_
                refine t_block ?_
                refine t_loop (fun (m : {m : Nat // ∀ y ∈ (aheadM f (nth order k3.1)).take m, (!decide (y ∈ order.take k3.1)) = false}) => live [(1, Ty.sl I64 order), (2, Ty.pp (flrTys f)), (7, Ty.int .i64 (k3.1 : Nat)), (8, Ty.sl I64 (aheadM f (nth order k3.1))), (9, Ty.int .i64 (m.1 : Nat))] []) (fun m => (aheadM f (nth order k3.1)).length - m.1) (⟨0, by simp⟩) ?_ fun m => ?_
                · (refine Ent.mk' ?_ ?_ <;> (repeat' (first | exact allSub_zero | exact allTags_nil | refine allSub_succ' ?_ (Ty.sub_any _) | refine allSub_succ' ?_ (Ty.sub_refl _))))
                ·
                  refine t_seq ?_
                  refine t_seq ?_
                  have hal := List.length_filter_le (fun x => decide (x ∈ reachAll f (nth order k3.1))) (iot f.turnings.length); rw [iot_len] at hal; change (aheadM f (nth order k3.1)).length ≤ _ at hal
                  refine t_region ?_
                  refine mvI rfl ?_
                  refine mvS rfl ?_
                  refine r_len rfl rfl rfl ?_
                  refine r_bin rfl rfl rfl ?_
                  refine r_nil ?_
                  refine i_then ?_
                  refine t_cond_dec rfl (fun hc7 => ?_) (fun hc7 => ?_)
                  ·
                    refine t_skip ?_
                    refine i_then ?_
                    refine t_seq ?_
                    refine t_block ?_
                    refine t_seq ?_
                    refine t_draw mixed rfl ?_
                    refine mvS rfl ?_
                    refine mvI rfl ?_
                    refine r_cut_hi rfl rfl rfl rfl rfl rfl (by omega) ?_
                    refine mvS rfl ?_
                    refine mvI rfl ?_
                    refine r_index_slN rfl rfl rfl rfl rfl rfl (by omega) ?_
                    refine r_load_pp rfl rfl rfl rfl ?_
                    refine r_call (c_has _ _) rfl rfl rfl rfl rfl ?_
                    refine r_not rfl ?_
                    refine r_nil ?_
                    refine ⟨by kernel_rfl, ?_⟩
                    refine i_then ?_
                    refine t_cond_ndec rfl (fun hc8 => ?_) (fun hc8 => ?_)
                    ·
                      refine t_seq ?_
                      refine t_region ?_
                      refine asI rfl ?_
                      refine r_nil ?_
                      refine i_then ?_
                      refine t_ret ?_
                      refine i_block_ret ?_
                      refine i_then_ret ?_
                      refine i_then_ret ?_
                      refine i_block_ret ?_
                      refine i_block_ret ?_
                      refine i_then_ret ?_
                      refine i_then_ret ?_
                      refine i_block_ret ?_
                      refine i_then_ret ?_
                      refine i_rp1 rfl rfl ?_
                      all_goals skip
                      exact ret_eq rfl rfl (congrArg (Ty.int .i64) (by rw [orderM, if_neg (Classical.not_not.2 hc1), if_neg (ng (any_neg k1.2 (by omega))), if_neg (ng (iot_any_neg fun k hk => by rw [Int.toNat_natCast]; exact k2.2 k (by omega))), if_pos (iot_any_pos (k := k3.1) (by omega) (by rw [Int.toNat_natCast]; exact any_at (q := fun y => !decide (y ∈ order.take k3.1)) (k := m.1) (by omega) (by rw [decide_eq_false hc8]; rfl)))]))
                    ·
                      refine t_skip ?_
                      refine i_block ?_
                      refine i_then ?_
                      refine t_region ?_
                      refine mvI rfl ?_
                      refine r_add rfl rfl (by omega) (by omega) ?_
                      refine asI rfl ?_
                      refine r_nil ?_
                      refine i_round (⟨m.1 + 1, ext_false m.2 (by omega) (by rw [decide_eq_true hc8]; rfl)⟩) ?_ (by show (aheadM f (nth order k3.1)).length - (m.1 + 1) < (aheadM f (nth order k3.1)).length - m.1; omega)
                      (refine Ent.mk' ?_ ?_ <;> (repeat' (first | exact allSub_zero | exact allTags_nil | refine allSub_succ' ?_ (Ty.sub_any _) | refine allSub_succ' ?_ (Ty.sub_refl _))))
                      all_goals skip
                  ·
                    refine t_exit ?_
                    refine i_then_exit ?_
                    refine i_then_exit ?_
                    refine i_block_exit rfl ?_
                    refine i_block ?_
                    refine i_then ?_
                    refine t_region ?_
                    refine mvI rfl ?_
                    refine r_add rfl rfl (by omega) (by omega) ?_
                    refine asI rfl ?_
                    refine r_nil ?_
                    refine i_round (⟨k3.1 + 1, ext_lt k3.2 (any_neg m.2 (by omega))⟩) ?_ (by show order.length - (k3.1 + 1) < order.length - k3.1; omega)
                    (refine Ent.mk' ?_ ?_ <;> (repeat' (first | exact allSub_zero | exact allTags_nil | refine allSub_succ' ?_ (Ty.sub_any _) | refine allSub_succ' ?_ (Ty.sub_refl _))))
                    all_goals skip
              ·
                refine t_exit ?_
                refine i_then_exit ?_
                refine i_then_exit ?_
                refine i_block_exit rfl ?_
                refine i_then ?_
                refine t_seq ?_
                refine t_region ?_
                refine asI rfl ?_
                refine r_nil ?_
                refine i_then ?_
                refine t_ret ?_
                refine i_rp1 rfl rfl ?_
                all_goals skip
                exact ret_eq rfl rfl (congrArg (Ty.int .i64) (by rw [orderM, if_neg (Classical.not_not.2 hc1), if_neg (ng (any_neg k1.2 (by omega))), if_neg (ng (iot_any_neg fun k hk => by rw [Int.toNat_natCast]; exact k2.2 k (by omega))), if_neg (ng (iot_any_neg fun k hk => by rw [Int.toNat_natCast]; exact k3.2 k (by omega)))]))
end Go.Proofs.YtifgbnbkimcchaaGreat

namespace Go.Proofs.YtifgbnbkimcchaaGreat
open Go Go.T
attribute [local irreducible] dInt dBool dSl dPp dPtr dAgg dTup dClo dAny dEx dStr dGd dCells dVec dVs dRow dOp nth Tri Into TOps Ctr bodyPost Exit.then Exit.inBlock Code.wp Code.wpIn
set_option maxRecDepth 100000 in
theorem c_rLoads (f : Flr) (hs : f.Small) (hr : f.Ranged) (hn : f.Named) (order : List Int) (ho : ∀ x ∈ order, 0 ≤ x ∧ x < f.turnings.length) (hl : order.length ≤ 20) : Ctr Tryz.prog 26 [flrT f, Ty.sl I64 order] (Ty.sl RowE (loadsM f order)) := by
  refine fn_intro Tryz.func26 rfl (by decide) Tryz.ntmps26 (by exact Nat.le_of_ble_eq_true rfl) fun w0 M0 => ?_
  have hs1 := hs.bears; have hs2 := hs.bins; have hs3 := hs.turnings; have hs4 := hs.rules
  have hbn := hr.bins; have hbe := hr.bears
  refine t_seq ?_
  refine t_region ?_
  refine r_box_agg rfl ?_
  refine asX rfl ?_
  refine r_nil ?_
  refine i_then ?_
  refine t_seq ?_
  refine t_region ?_
  refine asX rfl ?_
  refine r_nil ?_
  refine i_then ?_
  refine t_seq ?_
  refine t_seq ?_
  refine t_region ?_
  refine asI rfl ?_
  refine r_nil ?_
  refine i_then ?_
  refine t_block ?_
  refine t_loop (fun (k : Nat) => live [(1, Ty.sl I64 order), (2, Ty.pp (flrTys f)), (5, Ty.row I64 3 29 ((f.bins.take k).map Bin.has)), (6, Ty.int .i64 (k : Nat))] []) (fun k => f.bins.length - k) (0) ?_ fun k => ?_
  · (refine Ent.mk' ?_ ?_ <;> (repeat' (first | exact allSub_zero | exact allTags_nil | refine allSub_succ' ?_ (Ty.sub_any _) | refine allSub_succ' ?_ (Ty.sub_refl _) | refine allSub_succ' ?_ Ty.nil_row)))
  ·
    refine t_seq ?_
    refine t_seq ?_
    refine t_region ?_
    refine mvI rfl ?_
    refine r_field_pp rfl rfl rfl rfl rfl (by decide) ?_
    refine r_load_pp rfl rfl rfl rfl ?_
    refine r_len rfl rfl rfl ?_
    refine r_bin rfl rfl rfl ?_
    refine r_nil ?_
    refine i_then ?_
    refine t_cond_dec rfl (fun hc1 => ?_) (fun hc1 => ?_)
    ·
      refine t_skip ?_
      refine i_then ?_
      refine t_seq ?_
      refine t_block ?_
      refine t_region ?_
      refine mvR rfl ?_
      refine r_field_pp rfl rfl rfl rfl rfl (by decide) ?_
      refine r_load_pp rfl rfl rfl rfl ?_
      refine mvI rfl ?_
      refine r_index_slN rfl rfl rfl rfl rfl rfl (by omega) ?_
      refine r_field_pp rfl rfl rfl rfl rfl (by decide) ?_
      refine r_load_pp rfl rfl rfl rfl ?_
      refine r_buildSlice (E := I64) (xs := [_]) rfl rfl rfl rfl rfl (by decide) (by decide) (by repeat (first | exact (Parts.nil : Parts _ _ [] _) | (show Parts _ _ ((_, _) :: _) _; apply Parts.one; (· exact (rfl : _ = Ty.int _ _)); (· exact rfl)))) (by exact rfl) rfl ?_
      refine r_append rfl rfl (by decide) rfl rfl rfl rfl rfl rfl (by decide) (by (simp <;> omega)) (by (simp <;> omega)) ?_
      refine asR rfl ?_
      refine r_nil ?_
      refine i_block ?_
      refine i_then ?_
      refine t_region ?_
      refine mvI rfl ?_
      refine r_add rfl rfl (by omega) (by omega) ?_
      refine asI rfl ?_
      refine r_nil ?_
      refine i_round (k + 1) ?_ (by omega)
      (refine Ent.mk' ?_ ?_ <;> (repeat' (first | exact allSub_zero | exact allTags_nil | refine allSub_succ' ?_ (Ty.sub_any _) | refine allSub_succ' ?_ (Ty.sub_refl _) | refine allSub_succ' ?_ ?_)))
      all_goals skip
      exact Ty.sub_row (by rw [take_nth (by omega), List.map_append]; rfl)
    ·
      refine t_exit ?_
      refine i_then_exit ?_
      refine i_then_exit ?_
      refine i_block_exit rfl ?_
      refine i_then ?_
      refine t_seq ?_
      refine t_region ?_
      refine asX rfl ?_
      refine r_nil ?_
      refine i_then ?_
      refine t_seq ?_
      refine t_seq ?_
      refine t_own (s := 5) rfl rfl ?_
      refine t_region ?_
      refine asI rfl ?_
      refine r_nil ?_
      refine i_then ?_
      refine t_block ?_
      refine t_loop (fun (m : {m : Nat // m ≤ order.length + 1}) => live [(1, Ty.sl I64 order), (2, Ty.pp (flrTys f)), (5, Ty.vs 29 f.bins.length), (7, Ty.row RowE 22 118 ((List.range m.1).map fun k => loadM f (stateM f order k))), (8, Ty.int .i64 (m.1 : Nat))] [(29, Cont.vec I64 3 (stateM f order (m.1 - 1)))]) (fun m => order.length + 1 - m.1) (⟨0, by omega⟩) ?_ fun m => ?_
      · (refine Ent.mk' ?_ ?_ <;> (repeat' (first | exact allSub_zero | exact allTags_nil | refine allSub_succ' ?_ (Ty.sub_any _) | refine allSub_succ' ?_ (Ty.sub_refl _) | refine allSub_succ' ?_ Ty.nil_row | refine allTags_cons rfl ?_ ?_ | refine allSub_succ' ?_ ?_)))
        all_goals first | exact Ty.sub_eq (congrArg (Ty.vs 29) (by simp only [List.length_map, List.length_take]; omega)) | exact Cont.sub_vec (by rw [List.take_of_length_le (by omega)]; rfl)
      ·
        refine t_seq ?_
        refine t_seq ?_
        refine t_region ?_
        refine mvI rfl ?_
        refine mvS rfl ?_
        refine r_len rfl rfl rfl ?_
        refine r_bin rfl rfl rfl ?_
        refine r_nil ?_
        refine i_then ?_
        refine t_cond_dec rfl (fun hc2 => ?_) (fun hc2 => ?_)
        ·
          refine t_skip ?_
          refine i_then ?_
          refine t_seq ?_
          refine t_block ?_
          refine t_join (J := live [(1, Ty.sl I64 order), (2, Ty.pp (flrTys f)), (5, Ty.vs 29 f.bins.length), (7, Ty.row RowE 22 118 ((List.range m.1).map fun k => loadM f (stateM f order k))), (8, Ty.int .i64 (m.1 : Nat))] [(29, Cont.vec I64 3 (stateM f order m.1))]) ?_ ?_
          ·
            refine t_seq ?_
            refine t_region ?_
            refine mvI rfl ?_
            refine r_bin rfl rfl rfl ?_
            refine r_nil ?_
            refine i_then ?_
            refine t_cond_dec rfl (fun hc3 => ?_) (fun hc3 => ?_)
            ·
              refine t_seq ?_
              have he : ((m.1 : Int) - 1).toNat = m.1 - 1 := by omega
              have hox := ho _ (nth_mem (xs := order) (k := ((m.1 : Int) - 1).toNat) (by omega))
              have hnx := hn _ (nth_mem (xs := f.turnings) (k := (nth order ((m.1 : Int) - 1).toNat).toNat) (by omega))
              have hsx := hr.sacksR _ (nth_mem (xs := f.turnings) (k := (nth order ((m.1 : Int) - 1).toNat).toNat) (by omega))
              have hab := stateM_abs hr ho hl (m.1 - 1)
              have hst : stateM f order m.1 = half2 (nth f.turnings (nth order ((m.1 : Int) - 1).toNat).toNat) (half1 (nth f.turnings (nth order ((m.1 : Int) - 1).toNat).toNat) (stateM f order (m.1 - 1))) := by have := stateM_succ (f := f) (order := order) (k := m.1 - 1) (by omega); rw [show m.1 - 1 + 1 = m.1 by omega] at this; rw [this, he]; rfl
              have hlen := stateM_len f order (m.1 - 1)
              have hlen1 := half1_len (nth f.turnings (nth order ((m.1 : Int) - 1).toNat).toNat) (stateM f order (m.1 - 1))
              refine t_draw mixed rfl ?_
              refine r_field_pp rfl rfl rfl rfl rfl (by decide) ?_
              refine r_load_pp rfl rfl rfl rfl ?_
              refine mvS rfl ?_
              refine mvI rfl ?_
              refine r_sub rfl rfl (by omega) (by omega) ?_
              refine r_index_sl rfl rfl rfl rfl rfl rfl (by omega) (by omega) ?_
              refine r_load_pp rfl rfl rfl rfl ?_
              refine r_index_sl rfl rfl rfl rfl rfl rfl (by omega) (by omega) ?_
              refine r_load_ppN rfl rfl rfl (by exact Nat.le_of_ble_eq_true rfl) ?_
              refine r_alloc rfl (by exact List.cons_ne_nil _ _) rfl ?_
              refine r_storeN rfl rfl (by decide) rfl rfl rfl rfl rfl rfl ?_
              refine r_nil ?_
              refine ⟨by kernel_rfl, ?_⟩
              refine i_then ?_
              refine t_join (J := live [(1, Ty.sl I64 order), (2, Ty.pp (flrTys f)), (5, Ty.vs 29 f.bins.length), (7, Ty.row RowE 22 118 ((List.range m.1).map fun k => loadM f (stateM f order k))), (8, Ty.int .i64 (m.1 : Nat)), (9, Ty.ptr 10 0)] [(29, Cont.vec I64 3 (half1 (nth f.turnings (nth order ((m.1 : Int) - 1).toNat).toNat) (stateM f order (m.1 - 1)))), (10, Cont.cells 100 (TrnE.tys (nth f.turnings (nth order ((m.1 : Int) - 1).toNat).toNat)))]) ?_ ?_
              ·
                refine t_seq ?_
                refine t_region ?_
                refine r_field_ptr rfl rfl rfl rfl rfl (by decide) ?_
                refine r_load_ptr rfl rfl (by decide) rfl rfl rfl ?_
                refine r_bin rfl rfl rfl ?_
                refine r_nil ?_
                refine i_then ?_
                refine t_cond_dec rfl (fun hc4 => ?_) (fun hc4 => ?_)
                ·
                  have hb1 := abs_nth (by omega) hab (nth f.turnings (nth order ((m.1 : Int) - 1).toNat).toNat).src.toNat
                  refine t_draw mixed rfl ?_
                  refine mvV rfl ?_
                  refine r_field_ptr rfl rfl rfl rfl rfl (by decide) ?_
                  refine r_load_ptr rfl rfl (by decide) rfl rfl rfl ?_
                  refine mvV rfl ?_
                  refine r_field_ptr rfl rfl rfl rfl rfl (by decide) ?_
                  refine r_load_ptr rfl rfl (by decide) rfl rfl rfl ?_
                  refine r_index_vsI rfl rfl rfl rfl rfl (by omega) (by omega) ?_
                  refine r_load_vecB rfl rfl rfl (by decide) rfl rfl (by omega) rfl ?_
                  refine r_field_ptr rfl rfl rfl rfl rfl (by decide) ?_
                  refine r_load_ptr rfl rfl (by decide) rfl rfl rfl ?_
                  refine r_sub rfl rfl (by omega) (by omega) ?_
                  refine r_index_vsI rfl rfl rfl rfl rfl (by omega) (by omega) ?_
                  refine r_store_vecB rfl rfl rfl (by decide) rfl rfl (by exact (rfl : _ = Ty.int _ _)) rfl (by omega) (by decide) rfl rfl ?_
                  refine r_nil ?_
                  refine ⟨by kernel_rfl, ?_⟩
                  refine i_join ?_
                  (refine Ent.mk' ?_ ?_ <;> (repeat' (first | exact allSub_zero | exact allTags_nil | refine allSub_succ' ?_ (Ty.sub_any _) | refine allSub_succ' ?_ (Ty.sub_refl _) | refine allTags_cons rfl (Cont.sub_refl _) ?_ | refine allTags_cons rfl ?_ ?_)))
                  exact Cont.sub_vec (by rw [half1, if_pos hc4])
                ·
                  refine t_skip ?_
                  refine i_join ?_
                  (refine Ent.mk' ?_ ?_ <;> (repeat' (first | exact allSub_zero | exact allTags_nil | refine allSub_succ' ?_ (Ty.sub_any _) | refine allSub_succ' ?_ (Ty.sub_refl _) | refine allTags_cons rfl (Cont.sub_refl _) ?_ | refine allTags_cons rfl ?_ ?_)))
                  exact Cont.sub_vec (by rw [half1, if_neg hc4])
              ·
                refine t_seq ?_
                refine t_region ?_
                refine r_field_ptr rfl rfl rfl rfl rfl (by decide) ?_
                refine r_load_ptr rfl rfl (by decide) rfl rfl rfl ?_
                refine r_bin rfl rfl rfl ?_
                refine r_nil ?_
                refine i_then ?_
                refine t_cond_dec rfl (fun hc5 => ?_) (fun hc5 => ?_)
                ·
                  have hb2 := abs_nth (by omega) (abs_half1 hsx (by omega) hab) (nth f.turnings (nth order ((m.1 : Int) - 1).toNat).toNat).dst.toNat
                  refine t_draw mixed rfl ?_
                  refine mvV rfl ?_
                  refine r_field_ptr rfl rfl rfl rfl rfl (by decide) ?_
                  refine r_load_ptr rfl rfl (by decide) rfl rfl rfl ?_
                  refine mvV rfl ?_
                  refine r_field_ptr rfl rfl rfl rfl rfl (by decide) ?_
                  refine r_load_ptr rfl rfl (by decide) rfl rfl rfl ?_
                  refine r_index_vsI rfl rfl rfl rfl rfl (by omega) (by omega) ?_
                  refine r_load_vecB rfl rfl rfl (by decide) rfl rfl (by omega) rfl ?_
                  refine r_field_ptr rfl rfl rfl rfl rfl (by decide) ?_
                  refine r_load_ptr rfl rfl (by decide) rfl rfl rfl ?_
                  refine r_add rfl rfl (by omega) (by omega) ?_
                  refine r_index_vsI rfl rfl rfl rfl rfl (by omega) (by omega) ?_
                  refine r_store_vecB rfl rfl rfl (by decide) rfl rfl (by exact (rfl : _ = Ty.int _ _)) rfl (by omega) (by decide) rfl rfl ?_
                  refine r_nil ?_
                  refine ⟨by kernel_rfl, ?_⟩
                  refine i_join ?_
                  (refine Ent.mk' ?_ ?_ <;> (repeat' (first | exact allSub_zero | exact allTags_nil | refine allSub_succ' ?_ (Ty.sub_any _) | refine allSub_succ' ?_ (Ty.sub_refl _) | refine allTags_cons rfl ?_ ?_)))
                  exact Cont.sub_vec (by rw [hst, half2, if_pos hc5])
                ·
                  refine t_skip ?_
                  refine i_join ?_
                  (refine Ent.mk' ?_ ?_ <;> (repeat' (first | exact allSub_zero | exact allTags_nil | refine allSub_succ' ?_ (Ty.sub_any _) | refine allSub_succ' ?_ (Ty.sub_refl _) | refine allTags_cons rfl ?_ ?_)))
                  exact Cont.sub_vec (by rw [hst, half2, if_neg hc5])
            ·
              refine t_skip ?_
              refine i_join ?_
              (refine Ent.mk' ?_ ?_ <;> (repeat' (first | exact allSub_zero | exact allTags_nil | refine allSub_succ' ?_ (Ty.sub_any _) | refine allSub_succ' ?_ (Ty.sub_refl _) | refine allTags_cons rfl ?_ ?_)))
              exact Cont.sub_vec (by rw [show m.1 = 0 by omega])
          ·
            refine t_seq ?_
            refine t_region ?_
            refine r_field_pp rfl rfl rfl rfl rfl (by decide) ?_
            refine r_load_pp rfl rfl rfl rfl ?_
            refine r_len rfl rfl rfl ?_
            refine r_makeV (E := I64) rfl rfl rfl rfl rfl rfl rfl (by decide) rfl (by omega) (by (dsimp only; omega)) (by omega) ?_
            refine asV rfl ?_
            refine r_nil ?_
            refine i_then ?_
            refine t_seq ?_
            refine t_seq ?_
            refine t_region ?_
            refine asI rfl ?_
            refine r_nil ?_
            refine i_then ?_
            refine t_block ?_
            refine t_loop (fun (i : {i : Nat // i ≤ f.bins.length}) => live [(1, Ty.sl I64 order), (2, Ty.pp (flrTys f)), (5, Ty.vs 29 f.bins.length), (7, Ty.row RowE 22 118 ((List.range m.1).map fun k => loadM f (stateM f order k))), (8, Ty.int .i64 (m.1 : Nat)), (10, Ty.vs 80 f.bears.length), (11, Ty.int .i64 (i.1 : Nat))] [(29, Cont.vec I64 3 (stateM f order m.1)), (80, Cont.vec I64 3 (partM f (stateM f order m.1) i.1 0))]) (fun i => f.bins.length - i.1) (⟨0, by omega⟩) ?_ fun i => ?_
            · (refine Ent.mk' ?_ ?_ <;> (repeat' (first | exact allSub_zero | exact allTags_nil | refine allSub_succ' ?_ (Ty.sub_any _) | refine allSub_succ' ?_ (Ty.sub_refl _) | refine allTags_cons rfl (Cont.sub_refl _) ?_ | refine allTags_cons rfl ?_ ?_)))
              exact Cont.sub_vec (part_start f _)
            ·
              refine t_seq ?_
              refine t_seq ?_
              refine t_region ?_
              refine mvI rfl ?_
              refine mvV rfl ?_
              refine r_len_vs rfl rfl rfl ?_
              refine r_bin rfl rfl rfl ?_
              refine r_nil ?_
              refine i_then ?_
              refine t_cond_dec rfl (fun hc6 => ?_) (fun hc6 => ?_)
              ·
                refine t_skip ?_
                refine i_then ?_
                refine t_seq ?_
                refine t_block ?_
                refine t_seq ?_
                refine t_region ?_
                refine asI rfl ?_
                refine r_nil ?_
                refine i_then ?_
                refine t_block ?_
                refine t_loop (fun (j : Nat) => live [(1, Ty.sl I64 order), (2, Ty.pp (flrTys f)), (5, Ty.vs 29 f.bins.length), (7, Ty.row RowE 22 118 ((List.range m.1).map fun k => loadM f (stateM f order k))), (8, Ty.int .i64 (m.1 : Nat)), (10, Ty.vs 80 f.bears.length), (11, Ty.int .i64 (i.1 : Nat)), (12, Ty.int .i64 (j : Nat))] [(29, Cont.vec I64 3 (stateM f order m.1)), (80, Cont.vec I64 3 (partM f (stateM f order m.1) i.1 j))]) (fun j => f.bears.length - j) (0) ?_ fun j => ?_
                · (refine Ent.mk' ?_ ?_ <;> (repeat' (first | exact allSub_zero | exact allTags_nil | refine allSub_succ' ?_ (Ty.sub_any _) | refine allSub_succ' ?_ (Ty.sub_refl _) | refine allTags_cons rfl (Cont.sub_refl _) ?_)))
                ·
                  refine t_seq ?_
                  refine t_seq ?_
                  refine t_region ?_
                  refine mvI rfl ?_
                  refine mvV rfl ?_
                  refine r_len_vs rfl rfl rfl ?_
                  refine r_bin rfl rfl rfl ?_
                  refine r_nil ?_
                  refine i_then ?_
                  refine t_cond_dec rfl (fun hc7 => ?_) (fun hc7 => ?_)
                  ·
                    refine t_skip ?_
                    refine i_then ?_
                    refine t_seq ?_
                    refine t_block ?_
                    have hsh := hr.shares _ (nth_mem (xs := f.bins) (k := i.1) (by omega))
                    have hab := stateM_abs hr ho hl m.1
                    have hm := mul_bound (abs_nth (by omega) hab i.1) (share_bound hr (b := j) (show i.1 < f.bins.length by omega))
                    have hp := sumT_bound hr hab i.1 j (by omega)
                    have hq : nth (partM f (stateM f order m.1) i.1 j) j = sumT f (stateM f order m.1) i.1 j := nth_part (by omega)
                    have hpl := partM_len f (stateM f order m.1) i.1 j
                    have hlen := stateM_len f order m.1
                    refine t_draw mixed rfl ?_
                    refine mvV rfl ?_
                    refine mvI rfl ?_
                    refine mvV rfl ?_
                    refine mvI rfl ?_
                    refine r_index_vs rfl rfl rfl rfl rfl (by omega) ?_
                    refine r_load_vecB rfl rfl rfl (by decide) rfl rfl (by omega) rfl ?_
                    refine mvV rfl ?_
                    refine mvI rfl ?_
                    refine r_index_vs rfl rfl rfl rfl rfl (by omega) ?_
                    refine r_load_vecB rfl rfl rfl (by decide) rfl rfl (by omega) rfl ?_
                    refine r_field_pp rfl rfl rfl rfl rfl (by decide) ?_
                    refine r_load_pp rfl rfl rfl rfl ?_
                    refine mvI rfl ?_
                    refine r_index_slN rfl rfl rfl rfl rfl rfl (by omega) ?_
                    refine r_field_pp rfl rfl rfl rfl rfl (by decide) ?_
                    refine r_load_pp rfl rfl rfl rfl ?_
                    refine mvI rfl ?_
                    refine r_index_slN rfl rfl rfl rfl rfl rfl (by omega) ?_
                    refine r_load_pp rfl rfl rfl rfl ?_
                    refine r_mul rfl rfl (by omega) (by omega) ?_
                    refine r_add rfl rfl (by omega) (by omega) ?_
                    refine r_index_vs rfl rfl rfl rfl rfl (by omega) ?_
                    refine r_store_vecB rfl rfl rfl (by decide) rfl rfl (by exact (rfl : _ = Ty.int _ _)) rfl (by omega) (by decide) rfl rfl ?_
                    refine r_nil ?_
                    refine ⟨by kernel_rfl, ?_⟩
                    refine i_block ?_
                    refine i_then ?_
                    refine t_region ?_
                    refine mvI rfl ?_
                    refine r_add rfl rfl (by omega) (by omega) ?_
                    refine asI rfl ?_
                    refine r_nil ?_
                    refine i_round (j + 1) ?_ (by omega)
                    (refine Ent.mk' ?_ ?_ <;> (repeat' (first | exact allSub_zero | exact allTags_nil | refine allSub_succ' ?_ (Ty.sub_any _) | refine allSub_succ' ?_ (Ty.sub_refl _) | refine allTags_cons rfl (Cont.sub_refl _) ?_ | refine allTags_cons rfl ?_ ?_)))
                    all_goals skip
                    exact Cont.sub_vec (part_set (by omega) (by rw [hq, sumT_succ]))
                  ·
                    refine t_exit ?_
                    refine i_then_exit ?_
                    refine i_then_exit ?_
                    refine i_block_exit rfl ?_
                    refine i_block ?_
                    refine i_then ?_
                    refine t_region ?_
                    refine mvI rfl ?_
                    refine r_add rfl rfl (by omega) (by omega) ?_
                    refine asI rfl ?_
                    refine r_nil ?_
                    refine i_round (⟨i.1 + 1, by omega⟩) ?_ (by show f.bins.length - (i.1 + 1) < f.bins.length - i.1; omega)
                    (refine Ent.mk' ?_ ?_ <;> (repeat' (first | exact allSub_zero | exact allTags_nil | refine allSub_succ' ?_ (Ty.sub_any _) | refine allSub_succ' ?_ (Ty.sub_refl _) | refine allTags_cons rfl (Cont.sub_refl _) ?_ | refine allTags_cons rfl ?_ ?_)))
                    all_goals skip
                    exact Cont.sub_vec (part_full f _ _ _ (by omega))
              ·
                refine t_exit ?_
                refine i_then_exit ?_
                refine i_then_exit ?_
                refine i_block_exit rfl ?_
                refine i_then ?_
                have hrl : ((List.range m.1).map fun k => loadM f (stateM f order k)).length = m.1 := by simp
                refine t_pub (tg := 80) [(10, Ty.sl I64 (partM f (stateM f order m.1) i.1 0))] (by decide) rfl ⟨pub_vs rfl rfl (partM_len _ _ _ _) (by decide), trivial⟩ ?_
                refine t_region ?_
                refine mvR rfl ?_
                refine mvS rfl ?_
                refine r_buildSlice (E := RowE) (xs := [_]) rfl rfl rfl rfl rfl (by decide) (by decide) (by repeat (first | exact (Parts.nil : Parts _ _ [] _) | (show Parts _ _ ((_, _) :: _) _; apply Parts.one; (· exact (rfl : _ = Ty.sl _ _)); (· exact rfl)))) (by exact rfl) rfl ?_
                refine r_append rfl rfl (by decide) rfl rfl rfl rfl rfl rfl (by decide) (by (simp <;> omega)) (by (simp <;> omega)) ?_
                refine asR rfl ?_
                refine r_nil ?_
                refine i_block ?_
                refine i_then ?_
                refine t_region ?_
                refine mvI rfl ?_
                refine r_add rfl rfl (by omega) (by omega) ?_
                refine asI rfl ?_
                refine r_nil ?_
                refine i_round (⟨m.1 + 1, by omega⟩) ?_ (by show order.length + 1 - (m.1 + 1) < order.length + 1 - m.1; omega)
                (refine Ent.mk' ?_ ?_ <;> (repeat' (first | exact allSub_zero | exact allTags_nil | refine allSub_succ' ?_ (Ty.sub_any _) | refine allSub_succ' ?_ (Ty.sub_refl _) | refine allTags_cons rfl (Cont.sub_refl _) ?_ | refine allSub_succ' ?_ ?_)))
                all_goals skip
                all_goals exact Ty.sub_row (by rw [List.range_succ, List.map_append, show i.1 = f.bins.length by omega, part_load]; rfl)
        ·
          refine t_exit ?_
          refine i_then_exit ?_
          refine i_then_exit ?_
          refine i_block_exit rfl ?_
          refine i_then ?_
          refine t_seq ?_
          refine t_region ?_
          refine mvR rfl ?_
          refine asR rfl ?_
          refine r_nil ?_
          refine i_then ?_
          refine t_ret ?_
          refine i_rp1 rfl rfl ?_
          all_goals skip
          exact ret_row_eq (by decide) (by rw [show m.1 = order.length + 1 by omega]; rfl)
end Go.Proofs.YtifgbnbkimcchaaGreat

namespace Go.Proofs.YtifgbnbkimcchaaGreat
open Go.T
theorem loadsM_len (f : Flr) (order : List Int) : (loadsM f order).length = order.length + 1 := by simp [loadsM]
theorem nth_map_range {α : Type} [Inhabited α] {n k : Nat} (g : Nat → α) (h : k < n) : nth ((List.range n).map g) k = g k := by
  rw [nth_lt (by simpa using h)]; simp
theorem nth_loads {f : Flr} {order : List Int} {k : Nat} (h : k ≤ order.length) : nth (loadsM f order) k = loadM f (stateM f order k) := nth_map_range _ (by omega)
theorem loadM_len (f : Flr) (s : List Int) : (loadM f s).length = f.bears.length := by simp [loadM]
theorem row_len {f : Flr} {order : List Int} {k : Nat} (h : k ≤ order.length) : (nth (loadsM f order) k).length = f.bears.length := by rw [nth_loads h, loadM_len]
theorem nth_out {l : List Int} {k : Nat} (h : l.length ≤ k) : nth l k = 0 := by
  show l.getD k default = 0
  rw [List.getD_eq_getElem?_getD, List.getElem?_eq_none h]; rfl
theorem loadM_bound {f : Flr} (hr : f.Ranged) {s : List Int} (h : Abs 12300 s) (b : Nat) : -300000 ≤ nth (loadM f s) b ∧ nth (loadM f s) b ≤ 300000 := by
  rcases Nat.lt_or_ge b f.bears.length with hb | hb
  · rw [loadM, nth_map_range _ hb]
    have := sumT_bound hr h f.bins.length b (Nat.le_refl _)
    have := hr.bins; omega
  · rw [nth_out (by rw [loadM_len]; exact hb)]; omega
theorem load_bound {f : Flr} (hr : f.Ranged) {order : List Int} (ho : ∀ x ∈ order, 0 ≤ x ∧ x < f.turnings.length) (hl : order.length ≤ 20) {k : Nat} (h : k ≤ order.length) (b : Nat) : -300000 ≤ nth (nth (loadsM f order) k) b ∧ nth (nth (loadsM f order) k) b ≤ 300000 := by
  rw [nth_loads h]; exact loadM_bound hr (stateM_abs hr ho hl k) b
theorem bear_bound {f : Flr} (hr : f.Ranged) (b : Nat) : 0 ≤ nth f.bears b ∧ nth f.bears b ≤ 4000 := by
  rcases Nat.lt_or_ge b f.bears.length with hb | hb
  · exact hr.bearsR _ (nth_mem hb)
  · rw [nth_out hb]; omega
def addM (f : Flr) (t : Int) (b : Nat) : Int := nth (nth (loadsM f [t]) 1) b - nth (nth (loadsM f [t]) 0) b
def minRow (f : Flr) (l : List Int) (j : Nat) (n : Int) : Int := (List.range j).foldl (fun n b => min n (nth f.bears b - nth l b)) n
theorem minRow_succ (f : Flr) (l : List Int) (j : Nat) (n : Int) : minRow f l (j + 1) n = min (minRow f l j n) (nth f.bears j - nth l j) := by
  simp [minRow, List.range_succ]
def marginUp (f : Flr) (ls : List (List Int)) (k : Nat) : Int := (ls.take k).foldl (fun n l => minRow f l f.bears.length n) (nth f.bears 0 - nth (nth ls 0) 0)
def marginM (f : Flr) (order : List Int) : Int := marginUp f (loadsM f order) (order.length + 1)
def breakRow (f : Flr) (l : List Int) : Option Nat := (List.range f.bears.length).find? fun b => decide (nth l b > nth f.bears b)
def breakM (f : Flr) (order : List Int) : Option (Nat × Nat) := (List.range (order.length + 1)).findSome? fun k => (breakRow f (nth (loadsM f order) k)).map fun b => (k, b)
def breakT (f : Flr) (order : List Int) : Int := match breakM f order with | some x => (x.1 : Int) | none => 0
def breakB (f : Flr) (order : List Int) : Int := match breakM f order with | some x => (x.2 : Int) | none => 0
end Go.Proofs.YtifgbnbkimcchaaGreat

namespace Go.Proofs.YtifgbnbkimcchaaGreat
open Go Go.T
attribute [local irreducible] dInt dBool dSl dPp dPtr dAgg dTup dClo dAny dEx dStr dGd dCells dVec dVs dRow dOp nth Tri Into TOps Ctr bodyPost Exit.then Exit.inBlock Code.wp Code.wpIn
set_option maxRecDepth 100000 in
theorem c_Adds (f : Flr) (hs : f.Small) (hr : f.Ranged) (hn : f.Named) (t b : Nat) (ht : t < f.turnings.length) (hb : b < f.bears.length) : Ctr Tryz.prog 71 [flrT f, Ty.int .i64 (t : Nat), Ty.int .i64 (b : Nat)] (Ty.int .i64 (addM f t b)) := by
  refine fn_intro Tryz.func71 rfl (by decide) Tryz.ntmps71 (by exact Nat.le_of_ble_eq_true rfl) fun w0 M0 => ?_
  have hs1 := hs.bears; have hs2 := hs.bins; have hs3 := hs.turnings; have hs4 := hs.rules
  have ho : ∀ x ∈ [(t : Int)], 0 ≤ x ∧ x < (f.turnings.length : Int) := by intro x hx; rw [List.mem_singleton.1 hx]; omega
  have h0 := load_bound hr ho (by simp) (k := 0) (by simp) b
  have h1 := load_bound hr ho (by simp) (k := 1) (by simp) b
  have hl := loadsM_len f [(t : Int)]
  have hl0 := row_len (f := f) (order := [(t : Int)]) (k := 0) (by simp)
  have hl1 := row_len (f := f) (order := [(t : Int)]) (k := 1) (by simp)
  simp only [List.length_cons, List.length_nil] at hl
  refine t_seq ?_
  refine t_region ?_
  refine r_box_agg rfl ?_
  refine asI rfl ?_
  refine r_nil ?_
  refine i_then ?_
  refine t_seq ?_
  refine t_region ?_
  refine r_load_ppN rfl rfl rfl (by exact Nat.le_of_ble_eq_true rfl) ?_
  refine mvI rfl ?_
  refine r_buildSlice (E := I64) (xs := [_]) rfl rfl rfl rfl rfl (by decide) (by decide) (by repeat (first | exact (Parts.nil : Parts _ _ [] _) | (show Parts _ _ ((_, _) :: _) _; apply Parts.one; (· exact (rfl : _ = Ty.int _ _)); (· exact rfl)))) (by exact rfl) rfl ?_
  refine r_call (c_rLoads f hs hr hn [(t : Int)] (by intro x hx; rw [List.mem_singleton.1 hx]; omega) (by simp)) rfl rfl rfl rfl rfl ?_
  refine asS rfl ?_
  refine r_nil ?_
  refine i_then ?_
  refine t_seq ?_
  refine t_draw mixed rfl ?_
  refine mvS rfl ?_
  refine r_index_slN (i := 1) rfl rfl rfl rfl rfl rfl (by omega) ?_
  refine r_load_pp rfl rfl rfl rfl ?_
  refine mvI rfl ?_
  refine r_index_slN rfl rfl rfl rfl rfl rfl (by omega) ?_
  refine r_load_pp rfl rfl rfl rfl ?_
  refine mvS rfl ?_
  refine r_index_slN (i := 0) rfl rfl rfl rfl rfl rfl (by omega) ?_
  refine r_load_pp rfl rfl rfl rfl ?_
  refine mvI rfl ?_
  refine r_index_slN rfl rfl rfl rfl rfl rfl (by omega) ?_
  refine r_load_pp rfl rfl rfl rfl ?_
  refine r_sub rfl rfl (by omega) (by omega) ?_
  refine asI rfl ?_
  refine r_nil ?_
  refine ⟨by kernel_rfl, ?_⟩
  refine i_then ?_
  refine t_ret ?_
  refine i_rp1 rfl rfl ?_
  all_goals exact ret_refl rfl rfl
end Go.Proofs.YtifgbnbkimcchaaGreat

namespace Go.Proofs.YtifgbnbkimcchaaGreat
open Go.T
def readyM (f : Flr) (done : List Int) (t : Int) : Bool := !decide (t ∈ done) && (aheadM f t).all fun a => decide (a ∈ done)
def ordersM (f : Flr) : Nat → List Int → List (List Int)
  | 0, _ => []
  | n + 1, done => if done.length = f.turnings.length then [done] else (iot f.turnings.length).flatMap fun t => if readyM f done t = true then ordersM f n (done ++ [t]) else []
theorem flat_bound {α : Type} {g : Int → List α} {B : Nat} : ∀ (l : List Int), (∀ x ∈ l, (g x).length ≤ B) → (l.flatMap g).length ≤ l.length * B
  | [], _ => by simp
  | x :: l, h => by
    have h1 := h x List.mem_cons_self
    have h2 := flat_bound l fun y hy => h y (List.mem_cons_of_mem _ hy)
    rw [List.flatMap_cons, List.length_append, List.length_cons, Nat.succ_mul]; omega
theorem ordersM_len {f : Flr} (h8 : f.turnings.length ≤ 8) : ∀ (n : Nat) (done : List Int), (ordersM f n done).length ≤ 8 ^ n
  | 0, _ => by simp [ordersM]
  | n + 1, done => by
    rw [ordersM]
    split
    · have : 1 ≤ 8 ^ (n + 1) := Nat.one_le_pow _ _ (by omega)
      simpa using this
    · have := flat_bound (g := fun t => if readyM f done t = true then ordersM f n (done ++ [t]) else []) (B := 8 ^ n) (iot f.turnings.length) fun x _ => by
        show (if readyM f done x = true then ordersM f n (done ++ [x]) else []).length ≤ 8 ^ n
        split
        · exact ordersM_len h8 n _
        · simp
      rw [iot_len] at this
      refine Nat.le_trans this ?_
      rw [Nat.pow_succ, Nat.mul_comm (8 ^ n) 8]
      exact Nat.mul_le_mul_right _ h8
theorem pow8 {n : Nat} (h : n ≤ 9) : 8 ^ n ≤ 134217728 := Nat.le_trans (Nat.pow_le_pow_right (by omega) h) (by decide)
theorem part_orders {f : Flr} (h8 : f.turnings.length ≤ 8) (n : Nat) (hn : n ≤ 9) (done : List Int) {k : Nat} (hk : k ≤ f.turnings.length) : ((iot k).flatMap fun t => if readyM f done t = true then ordersM f n (done ++ [t]) else []).length ≤ 1073741824 := by
  have := flat_bound (g := fun t => if readyM f done t = true then ordersM f n (done ++ [t]) else []) (B := 134217728) (iot k) fun x _ => by
    show (if readyM f done x = true then ordersM f n (done ++ [x]) else []).length ≤ 134217728
    split
    · exact Nat.le_trans (ordersM_len h8 n _) (pow8 hn)
    · simp
  rw [iot_len] at this
  refine Nat.le_trans this (Nat.le_trans (Nat.mul_le_mul_right _ (show k ≤ 8 by omega)) (by decide))
def keepM (f : Flr) (orders : List (List Int)) : List (List Int) := orders.filter fun l => decide (marginM f l ≥ 0)
def firstsM (f : Flr) (keeping : List (List Int)) : List Int := (iot f.turnings.length).filter fun t => keeping.any fun l => decide (nth l 0 = t)
def mustM (keeping : List (List Int)) (a b : Int) : Bool := keeping.all fun l => decide (b ∉ l.takeWhile fun x => !decide (x = a))
end Go.Proofs.YtifgbnbkimcchaaGreat

namespace Go.Proofs.YtifgbnbkimcchaaGreat
open Go Go.T
attribute [local irreducible] dInt dBool dSl dPp dPtr dAgg dTup dClo dAny dEx dStr dGd dCells dVec dVs dRow dOp nth Tri Into TOps Ctr bodyPost Exit.then Exit.inBlock Code.wp Code.wpIn
theorem not_ready {f : Flr} {done : List Int} {t : Int} (h : t ∈ done ∨ ((aheadM f t).all fun a => decide (a ∈ done)) = false) : readyM f done t = false := by
  unfold readyM
  rcases h with h | h
  · rw [decide_eq_true h]; rfl
  · rw [h, Bool.and_false]
theorem is_ready {f : Flr} {done : List Int} {t : Int} (h : t ∉ done) (h' : ((aheadM f t).all fun a => decide (a ∈ done)) = true) : readyM f done t = true := by
  rw [readyM, decide_eq_false h, h']; rfl
set_option maxRecDepth 100000 in
theorem c_Orders (f : Flr) (hs : f.Small) (h8 : f.turnings.length ≤ 8) (n : Nat) (hn : n ≤ 9) (done : List Int) (h : f.turnings.length < done.length + n) (hd : done.length ≤ f.turnings.length) : Ctr Tryz.prog 11 [flrT f, Ty.sl I64 done] (Ty.sl RowE (ordersM f n done)) := by
  induction n generalizing done
  case zero => exact absurd h (by omega)
  rename_i n ih
  refine fn_intro Tryz.func11 rfl (by decide) Tryz.ntmps11 (by exact Nat.le_of_ble_eq_true rfl) fun w0 M0 => ?_
  have hs1 := hs.bears; have hs2 := hs.bins; have hs3 := hs.turnings; have hs4 := hs.rules
  have hp8 := pow8 (n := n) (by omega)
  refine t_seq ?_
  refine t_region ?_
  refine r_box_agg rfl ?_
  refine asX rfl ?_
  refine r_nil ?_
  refine i_then ?_
  refine t_seq ?_
  refine t_seq ?_
  refine t_region ?_
  refine mvS rfl ?_
  refine r_len rfl rfl rfl ?_
  refine r_field_pp rfl rfl rfl rfl rfl (by decide) ?_
  refine r_load_pp rfl rfl rfl rfl ?_
  refine r_len rfl rfl rfl ?_
  refine r_bin rfl rfl rfl ?_
  refine r_nil ?_
  refine i_then ?_
  refine t_cond_dec rfl (fun hc1 => ?_) (fun hc1 => ?_)
  ·
    refine t_seq ?_
    refine t_region ?_
    refine mvS rfl ?_
    refine r_buildSlice (E := RowE) (xs := [_]) rfl rfl rfl rfl rfl (by decide) (by decide) (by repeat (first | exact (Parts.nil : Parts _ _ [] _) | (show Parts _ _ ((_, _) :: _) _; apply Parts.one; (· exact (rfl : _ = Ty.sl _ _)); (· exact rfl)))) (by exact rfl) rfl ?_
    refine asS rfl ?_
    refine r_nil ?_
    refine i_then ?_
    refine t_ret ?_
    refine i_then_ret ?_
    refine i_rp1 rfl rfl ?_
    all_goals skip
    exact ret_eq rfl rfl (congrArg (Ty.sl RowE) (by rw [ordersM, if_pos (by omega)]))
  ·
    refine t_skip ?_
    refine i_then ?_
    refine t_seq ?_
    refine t_region ?_
    refine asX rfl ?_
    refine r_nil ?_
    refine i_then ?_
    refine t_seq ?_
    refine t_seq ?_
    refine t_region ?_
    refine asI rfl ?_
    refine r_nil ?_
    refine i_then ?_
    refine t_block ?_
    refine t_loop (fun (k : {k : Nat // k ≤ f.turnings.length}) => live [(1, Ty.sl I64 done), (2, Ty.pp (flrTys f)), (5, Ty.row RowE 22 57 ((iot k.1).flatMap fun t => if readyM f done t = true then ordersM f n (done ++ [t]) else [])), (6, Ty.int .i64 (k.1 : Nat))] []) (fun k => f.turnings.length - k.1) (⟨0, by omega⟩) ?_ fun k => ?_
    · (refine Ent.mk' ?_ ?_ <;> (repeat' (first | exact allSub_zero | exact allTags_nil | refine allSub_succ' ?_ (Ty.sub_any _) | refine allSub_succ' ?_ (Ty.sub_refl _) | refine allSub_succ' ?_ Ty.nil_row)))
    ·
      have hrl := part_orders h8 n (by omega) done k.2
      refine t_seq ?_
      refine t_seq ?_
      refine t_region ?_
      refine mvI rfl ?_
      refine r_field_pp rfl rfl rfl rfl rfl (by decide) ?_
      refine r_load_pp rfl rfl rfl rfl ?_
      refine r_len rfl rfl rfl ?_
      refine r_bin rfl rfl rfl ?_
      refine r_nil ?_
      refine i_then ?_
      refine t_cond_dec rfl (fun hc2 => ?_) (fun hc2 => ?_)
      ·
        refine t_skip ?_
        refine i_then ?_
        refine t_seq ?_
        refine t_block ?_
        refine t_seq ?_
        refine t_seq ?_
        refine t_region ?_
        refine mvS rfl ?_
        refine mvI rfl ?_
        refine r_call (c_has _ _) rfl rfl rfl rfl rfl ?_
        refine r_nil ?_
        refine i_then ?_
        refine t_cond_dec rfl (fun hc3 => ?_) (fun hc3 => ?_)
        ·
          refine t_exit ?_
          refine i_then_exit ?_
          refine i_block_exit rfl ?_
          refine i_then ?_
          refine t_region ?_
          refine mvI rfl ?_
          refine r_add rfl rfl (by omega) (by omega) ?_
          refine asI rfl ?_
          refine r_nil ?_
          refine i_round (⟨k.1 + 1, by omega⟩) ?_ (by show f.turnings.length - (k.1 + 1) < f.turnings.length - k.1; omega)
          (refine Ent.mk' ?_ ?_ <;> (repeat' (first | exact allSub_zero | exact allTags_nil | refine allSub_succ' ?_ (Ty.sub_any _) | refine allSub_succ' ?_ (Ty.sub_refl _) | refine allSub_succ' ?_ ?_)))
          all_goals skip
          refine Ty.sub_row ?_; rw [iot_succ, List.flatMap_append, List.flatMap_cons, List.flatMap_nil, List.append_nil]; (rw [if_neg (ng (not_ready (.inl hc3))), List.append_nil]; done)
        ·
          refine t_skip ?_
          refine i_then ?_
          refine t_seq ?_
          refine t_region ?_
          refine asB rfl ?_
          refine r_nil ?_
          refine i_then ?_
          refine t_seq ?_
          refine t_region ?_
          refine r_load_ppN rfl rfl rfl (by exact Nat.le_of_ble_eq_true rfl) ?_
          refine mvI rfl ?_
          refine r_call (c_Ahead f hs _) rfl rfl rfl rfl rfl ?_
          refine asS rfl ?_
          refine r_nil ?_
          refine i_then ?_
          refine t_seq ?_
          refine t_seq ?_
          refine t_region ?_
          refine asI rfl ?_
          refine r_nil ?_
          refine i_then ?_
          refine t_block ?_
          refine t_loop (fun (m : {m : Nat // m ≤ (aheadM f (k.1 : Nat)).length}) => live [(1, Ty.sl I64 done), (2, Ty.pp (flrTys f)), (5, Ty.row RowE 22 57 ((iot k.1).flatMap fun t => if readyM f done t = true then ordersM f n (done ++ [t]) else [])), (6, Ty.int .i64 (k.1 : Nat)), (7, Ty.bool (((aheadM f (k.1 : Nat)).take m.1).all fun a => decide (a ∈ done))), (8, Ty.sl I64 (aheadM f (k.1 : Nat))), (9, Ty.int .i64 (m.1 : Nat))] []) (fun m => (aheadM f (k.1 : Nat)).length - m.1) (⟨0, by omega⟩) ?_ fun m => ?_
          · (refine Ent.mk' ?_ ?_ <;> (repeat' (first | exact allSub_zero | exact allTags_nil | refine allSub_succ' ?_ (Ty.sub_any _) | refine allSub_succ' ?_ (Ty.sub_refl _))))
          ·
            refine t_seq ?_
            refine t_seq ?_
            have hal := List.length_filter_le (fun x => decide (x ∈ reachAll f (k.1 : Nat))) (iot f.turnings.length)
            rw [iot_len] at hal
            change (aheadM f (k.1 : Nat)).length ≤ _ at hal
            refine t_region ?_
            refine mvI rfl ?_
            refine mvS rfl ?_
            refine r_len rfl rfl rfl ?_
            refine r_bin rfl rfl rfl ?_
            refine r_nil ?_
            refine i_then ?_
            refine t_cond_dec rfl (fun hc4 => ?_) (fun hc4 => ?_)
            ·
              refine t_skip ?_
              refine i_then ?_
              refine t_seq ?_
              refine t_block ?_
              refine t_region ?_
              refine mvB rfl ?_
              refine mvB rfl ?_
              apply r_guard (s := 38) rfl rfl rfl
              · intro hg; apply opT_of; (refine mvS rfl ?_); refine r_nil ?_; exact rfl
              · exact rfl
              · exact rfl
              apply r_guard (s := 38) rfl rfl rfl
              · intro hg; apply opT_of; (refine mvS rfl ?_); refine r_nil ?_; exact rfl
              · exact rfl
              · exact rfl
              apply r_guard (s := 38) rfl rfl rfl
              · intro hg; apply opT_of; (refine mvI rfl ?_); refine r_nil ?_; exact rfl
              · exact rfl
              · exact rfl
              apply r_guard (s := 38) rfl rfl rfl
              · intro hg; apply opT_strip (s := 40) rfl (by (rw [hg]; rfl)); apply opT_strip (s := 41) rfl (by (rw [hg]; rfl)); apply opT_of; (refine r_index_slN rfl rfl rfl rfl rfl rfl (by omega) ?_); refine r_nil ?_; exact rfl
              · exact rfl
              · exact rfl
              apply r_guard (s := 38) rfl rfl rfl
              · intro hg; apply opT_strip (s := 42) rfl (by (rw [hg]; rfl)); apply opT_of; (refine r_load_pp rfl rfl rfl rfl ?_); refine r_nil ?_; exact rfl
              · exact rfl
              · exact rfl
              apply r_guard (s := 38) rfl rfl rfl
              · intro hg; apply opT_strip (s := 39) rfl (by (rw [hg]; rfl)); apply opT_strip (s := 43) rfl (by (rw [hg]; rfl)); apply opT_of; (refine r_call (c_has _ _) rfl rfl rfl rfl rfl ?_); refine r_nil ?_; exact rfl
              · exact rfl
              · exact rfl
              refine r_and rfl rfl ?_
              refine asB rfl ?_
              refine r_nil ?_
              refine i_block ?_
              refine i_then ?_
              refine t_region ?_
              refine mvI rfl ?_
              refine r_add rfl rfl (by omega) (by omega) ?_
              refine asI rfl ?_
              refine r_nil ?_
              refine i_round (⟨m.1 + 1, by omega⟩) ?_ (by show (aheadM f (k.1 : Nat)).length - (m.1 + 1) < (aheadM f (k.1 : Nat)).length - m.1; omega)
              (refine Ent.mk' ?_ ?_ <;> (repeat' (first | exact allSub_zero | exact allTags_nil | refine allSub_succ' ?_ (Ty.sub_any _) | refine allSub_succ' ?_ (Ty.sub_refl _) | refine allSub_succ' ?_ ?_)))
              all_goals skip
              exact Ty.sub_bool (by rw [take_nth (by omega), List.all_append]; simp)
            ·
              refine t_exit ?_
              refine i_then_exit ?_
              refine i_then_exit ?_
              refine i_block_exit rfl ?_
              refine i_then ?_
              refine t_seq ?_
              have hall : ((aheadM f (k.1 : Nat)).take m.1).all (fun a => decide (a ∈ done)) = (aheadM f (k.1 : Nat)).all fun a => decide (a ∈ done) := by rw [List.take_of_length_le (by omega)]
              refine t_region ?_
              refine mvB rfl ?_
              refine r_nil ?_
              refine i_then ?_
              refine t_cond rfl (fun hc5 => ?_) (fun hc5 => ?_)
              ·
                have hO := ordersM_len h8 n (done ++ [(k.1 : Int)])
                refine t_draw mixed rfl ?_
                refine mvR rfl ?_
                refine r_load_ppN rfl rfl rfl (by exact Nat.le_of_ble_eq_true rfl) ?_
                refine r_buildRow (E := I64) rfl rfl rfl rfl ?_
                refine mvS rfl ?_
                refine r_retag 52 (opT_append (Ty.sub_refl _) rfl (by decide) rfl rfl rfl rfl rfl rfl (by decide) (by (simp <;> omega)) (by (simp <;> omega))) (by decide) (by decide) rfl ?_
                refine mvI rfl ?_
                refine r_buildSlice (E := I64) (xs := [_]) rfl rfl rfl rfl rfl (by decide) (by decide) (by repeat (first | exact (Parts.nil : Parts _ _ [] _) | (show Parts _ _ ((_, _) :: _) _; apply Parts.one; (· exact (rfl : _ = Ty.int _ _)); (· exact rfl)))) (by exact rfl) rfl ?_
                refine r_retag 55 (opT_append (Ty.sub_refl _) rfl (by decide) rfl rfl rfl rfl rfl rfl (by decide) (by (simp <;> omega)) (by (simp <;> omega))) (by decide) (by decide) rfl ?_
                refine r_callP [55] (ih (by omega) (done ++ [(k.1 : Int)]) (by rw [List.length_append]; simp only [List.length_cons, List.length_nil]; omega) (by rw [List.length_append]; simp only [List.length_cons, List.length_nil]; omega)) rfl (by repeat (first | exact lends_nil | refine lends_cons (lend_pub rfl rfl) ?_ | refine lends_cons (lend_row rfl) ?_)) rfl rfl (by intro u hu; rw [List.mem_singleton.1 hu]; exact ⟨by decide, fun h => by cases h⟩) ?_
                refine r_append rfl rfl (by decide) rfl rfl rfl rfl rfl rfl (by decide) (by (dsimp only; omega)) (by omega) ?_
                refine asR rfl ?_
                refine r_nil ?_
                refine ⟨by kernel_rfl, ?_⟩
                refine i_block ?_
                refine i_then ?_
                refine t_region ?_
                refine mvI rfl ?_
                refine r_add rfl rfl (by omega) (by omega) ?_
                refine asI rfl ?_
                refine r_nil ?_
                refine i_round (⟨k.1 + 1, by omega⟩) ?_ (by show f.turnings.length - (k.1 + 1) < f.turnings.length - k.1; omega)
                (refine Ent.mk' ?_ ?_ <;> (repeat' (first | exact allSub_zero | exact allTags_nil | refine allSub_succ' ?_ (Ty.sub_any _) | refine allSub_succ' ?_ (Ty.sub_refl _) | refine allSub_succ' ?_ ?_)))
                all_goals skip
                refine Ty.sub_row ?_; rw [iot_succ, List.flatMap_append, List.flatMap_cons, List.flatMap_nil, List.append_nil]; (rw [if_pos (is_ready hc3 (hall ▸ hc5))]; done)
              ·
                refine t_skip ?_
                refine i_block ?_
                refine i_then ?_
                refine t_region ?_
                refine mvI rfl ?_
                refine r_add rfl rfl (by omega) (by omega) ?_
                refine asI rfl ?_
                refine r_nil ?_
                refine i_round (⟨k.1 + 1, by omega⟩) ?_ (by show f.turnings.length - (k.1 + 1) < f.turnings.length - k.1; omega)
                (refine Ent.mk' ?_ ?_ <;> (repeat' (first | exact allSub_zero | exact allTags_nil | refine allSub_succ' ?_ (Ty.sub_any _) | refine allSub_succ' ?_ (Ty.sub_refl _) | refine allSub_succ' ?_ ?_)))
                all_goals skip
                refine Ty.sub_row ?_; rw [iot_succ, List.flatMap_append, List.flatMap_cons, List.flatMap_nil, List.append_nil]; (rw [if_neg (ng (not_ready (.inr (hall ▸ hc5)))), List.append_nil]; done)
      ·
        refine t_exit ?_
        refine i_then_exit ?_
        refine i_then_exit ?_
        refine i_block_exit rfl ?_
        refine i_then ?_
        refine t_seq ?_
        refine t_region ?_
        refine mvR rfl ?_
        refine asR rfl ?_
        refine r_nil ?_
        refine i_then ?_
        refine t_ret ?_
        refine i_rp1 rfl rfl ?_
        all_goals skip
        exact ret_row_eq (by decide) (by rw [ordersM, if_neg (by omega), show k.1 = f.turnings.length by omega])
end Go.Proofs.YtifgbnbkimcchaaGreat

namespace Go.Proofs.YtifgbnbkimcchaaGreat
open Go.T
def payS (t : Int) (st : Int × Int × Int) (p : Pay) : Option (Int × Int × Int) :=
  if p.src = t ∧ p.much > st.1 then none
  else if p.dst = t ∧ p.much > st.2.1 then none
  else some (if p.src = t then st.1 - p.much else st.1, if p.dst = t then st.2.1 - p.much else st.2.1, if p.src = t then st.2.2 - p.much else st.2.2)
def paysS (t : Int) (pays : List Pay) (st : Int × Int × Int) : Option (Int × Int × Int) := pays.foldl (fun o p => o.bind fun s => payS t s p) (some st)
def turn0 (f : Flr) (b : Nat) (t : Nat) (bound : Int) : Int × Int × Int := (max 0 (addM f t b), max 0 (-(addM f t b)), if addM f t b > 0 then bound + addM f t b else bound)
def turnS (f : Flr) (b : Nat) (pays : List Pay) (o : Option Int) (t : Nat) : Option Int := o.bind fun bound => (paysS t pays (turn0 f b t bound)).map fun s => s.2.2
def boundUp (f : Flr) (b : Nat) (pays : List Pay) (k : Nat) : Option Int := (List.range k).foldl (turnS f b pays) (some (nth (nth (loadsM f []) 0) b))
def boundsR (f : Flr) (b : Nat) (pays : List Pay) : Int × Int :=
  if pays.any fun p => decide (p.src < 0 ∨ p.src ≥ f.turnings.length) || decide (p.dst < 0 ∨ p.dst ≥ f.turnings.length) then (0, 1)
  else if pays.any fun p => decide (p.much < 1) then (0, 3)
  else if pays.any fun p => !decide (p.dst ∈ aheadM f p.src) then (0, 4)
  else match boundUp f b pays f.turnings.length with
    | none => (0, 8)
    | some n => (n, 0)
theorem pays_none (t : Int) : ∀ l : List Pay, l.foldl (fun o p => o.bind fun s => payS t s p) none = none
  | [] => rfl
  | _ :: l => pays_none t l
theorem paysS_succ {t : Int} {pays : List Pay} {st s : Int × Int × Int} {k : Nat} (hk : k < pays.length) (h : paysS t (pays.take k) st = some s) : paysS t (pays.take (k + 1)) st = payS t s (nth pays k) := by
  unfold paysS at h ⊢
  rw [take_nth hk, List.foldl_append, h]; rfl
theorem paysS_stop {t : Int} {pays : List Pay} {st s : Int × Int × Int} {k : Nat} (hk : k < pays.length) (h : paysS t (pays.take k) st = some s) (hn : payS t s (nth pays k) = none) : paysS t pays st = none := by
  have := paysS_succ hk h
  rw [hn] at this
  have e : paysS t pays st = (pays.drop (k + 1)).foldl (fun o p => o.bind fun s => payS t s p) (paysS t (pays.take (k + 1)) st) := by
    unfold paysS; rw [← List.foldl_append, List.take_append_drop]
  rw [e, this, pays_none]
theorem boundUp_succ {f : Flr} {b : Nat} {pays : List Pay} {k : Nat} {n : Int} (h : boundUp f b pays k = some n) : boundUp f b pays (k + 1) = (paysS k pays (turn0 f b k n)).map fun s => s.2.2 := by
  unfold boundUp at h ⊢
  rw [List.range_succ, List.foldl_append, h]; rfl
theorem boundUp_stop {f : Flr} {b : Nat} {pays : List Pay} {k m : Nat} (hk : k ≤ m) (h : boundUp f b pays k = none) : boundUp f b pays m = none := by
  induction m with
  | zero => rw [show k = 0 by omega] at h; exact h
  | succ m ih =>
    rcases Nat.lt_or_ge m k with h1 | h1
    · rw [show m + 1 = k by omega]; exact h
    · have := ih h1
      unfold boundUp at this ⊢
      rw [List.range_succ, List.foldl_append, this]; rfl
theorem add_bound {f : Flr} (hr : f.Ranged) {t : Nat} (ht : t < f.turnings.length) (b : Nat) : -600000 ≤ addM f t b ∧ addM f t b ≤ 600000 := by
  have ho : ∀ x ∈ [(t : Int)], 0 ≤ x ∧ x < (f.turnings.length : Int) := by intro x hx; rw [List.mem_singleton.1 hx]; omega
  have h0 := load_bound hr ho (by simp) (k := 0) (by simp) b
  have h1 := load_bound hr ho (by simp) (k := 1) (by simp) b
  unfold addM; omega
theorem payS_none1 {t : Int} {st : Int × Int × Int} {p : Pay} (h : p.src = t) (h' : p.much > st.1) : payS t st p = none := by rw [payS, if_pos ⟨h, h'⟩]
theorem payS_none2 {t : Int} {st : Int × Int × Int} {p : Pay} (h : p.dst = t) (h' : p.much > st.2.1) : payS t st p = none := by
  rw [payS]; split
  · rfl
  · rw [if_pos ⟨h, h'⟩]
theorem payS_some {t : Int} {st : Int × Int × Int} {p : Pay} (h : p.src = t → ¬ p.much > st.1) (h' : p.dst = t → ¬ p.much > st.2.1) : payS t st p = some (if p.src = t then st.1 - p.much else st.1, if p.dst = t then st.2.1 - p.much else st.2.1, if p.src = t then st.2.2 - p.much else st.2.2) := by
  rw [payS, if_neg (fun x => h x.1 x.2), if_neg (fun x => h' x.1 x.2)]
end Go.Proofs.YtifgbnbkimcchaaGreat
