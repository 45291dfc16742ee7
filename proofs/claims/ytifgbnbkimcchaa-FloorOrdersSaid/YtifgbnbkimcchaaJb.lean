/- Lemmas: the program and the reference walked, plain laws. -/
import Derived.Test.YtifgbnbkimcchaaJa
namespace Go.Proofs.Ytifgbnbkimcchaa
open Go Go.T
attribute [local irreducible] dInt dBool dSl dPp dPtr dAgg dTup dClo dAny dEx dStr dGd dCells dVec dVs dRow dOp nth Tri Into TOps Ctr bodyPost Exit.then Exit.inBlock Code.wp Code.wpIn
set_option maxRecDepth 100000 in
theorem c_IndexFunc_int (l : List Int) (t : Ty) (h1 : t.one = true) (q : Int → Bool) (hd : t.deps = []) (hc : t.cdeps = []) (hf : ∀ x ∈ l, Cal Try.prog t [Ty.int .i64 x] (Ty.bool (q x))) : Ctr Try.prog 113 [Ty.sl I64 l, t] (Ty.int .i64 (fidx q l)) := by
  refine fn_intro Try.func113 rfl (by decide) Try.ntmps113 (by exact Nat.le_of_ble_eq_true rfl) fun w0 M0 => ?_
  refine t_fact (s := 0) rfl rfl sl_len fun hl => ?_
  refine t_seq ?_
  refine t_region ?_
  refine asI rfl ?_
  refine r_nil ?_
  refine i_then ?_
  refine t_seq ?_
  refine t_seq ?_
  refine t_region ?_
  refine mvS rfl ?_
  refine r_len rfl rfl rfl ?_
  refine mvI rfl ?_
  refine r_nil ?_
  refine i_then ?_
  refine t_block ?_
  refine t_loop (fun (k : {k : Nat // ∀ x ∈ l.take k, q x = false}) => live [(0, Ty.sl I64 l), (1, t), (7, Ty.int .i64 l.length), (8, Ty.int .i64 (k.1 : Nat))] []) (fun k => l.length - k.1) (⟨0, by simp⟩) ?_ fun k => ?_
  · (refine Ent.mk' ?_ ?_ <;> (repeat' (first | exact allSub_zero | exact allTags_nil | refine allSub_succ' ?_ (Ty.sub_any _) | refine allSub_succ' ?_ (Ty.sub_refl _))))
  ·
    refine t_seq ?_
    refine t_region ?_
    refine r_bin rfl rfl rfl ?_
    refine r_nil ?_
    refine i_then ?_
    refine t_seq ?_
    refine t_cond_dec rfl (fun hc1 => ?_) (fun hc1 => ?_)
    ·
      refine t_skip ?_
      refine i_then ?_
      refine t_seq ?_
      refine t_block ?_
      refine t_seq ?_
      refine t_region ?_
      refine mvI rfl ?_
      refine asI rfl ?_
      refine r_nil ?_
      refine i_then ?_
      refine t_seq ?_
      refine t_region ?_
      refine r_move (ty := t) rfl ?_
      refine mvS rfl ?_
      refine mvI rfl ?_
      refine r_index_slN rfl rfl rfl rfl rfl rfl (by omega) ?_
      refine r_load_pp rfl rfl rfl rfl ?_
      refine r_callc rfl (hf _ (nth_mem (by omega))) rfl ?_
      refine r_nil ?_
      refine i_then ?_
      refine t_cond rfl (fun hc2 => ?_) (fun hc2 => ?_)
      ·
        refine t_seq ?_
        refine t_region ?_
        refine mvI rfl ?_
        refine asI rfl ?_
        refine r_nil ?_
        refine i_then ?_
        refine t_ret ?_
        refine i_block_ret ?_
        refine i_then_ret ?_
        refine i_then_ret ?_
        refine i_block_ret ?_
        refine i_then_ret ?_
        refine i_rp1 rfl rfl ?_
        all_goals skip
        exact ret_eq rfl rfl (congrArg (Ty.int .i64) (fidx_found (by omega) k.2 (by rw [← nth_lt]; exact hc2)).symm)
      ·
        refine t_skip ?_
        refine i_block ?_
        refine i_then ?_
        refine t_region ?_
        refine r_add rfl rfl (by omega) (by omega) ?_
        refine mvI rfl ?_
        refine r_nil ?_
        refine i_round (⟨k.1 + 1, by rw [take_nth (by omega)]; intro x hx; rcases List.mem_append.1 hx with h | h; exact k.2 x h; rw [List.mem_singleton.1 h]; exact hc2⟩) ?_ (by show l.length - (k.1 + 1) < l.length - k.1; omega)
        (refine Ent.mk' ?_ ?_ <;> (repeat' (first | exact allSub_zero | exact allTags_nil | refine allSub_succ' ?_ (Ty.sub_any _) | refine allSub_succ' ?_ (Ty.sub_refl _))))
        all_goals skip
    ·
      refine t_exit ?_
      refine i_then_exit ?_
      refine i_then_exit ?_
      refine i_block_exit rfl ?_
      refine i_then ?_
      refine t_seq ?_
      refine t_region ?_
      refine asI rfl ?_
      refine r_nil ?_
      refine i_then ?_
      refine t_ret ?_
      refine i_rp1 rfl rfl ?_
      all_goals skip
      exact ret_eq rfl rfl (congrArg (Ty.int .i64) (fidx_none (by have := k.2; rwa [List.take_of_length_le (by omega)] at this)).symm)
set_option maxRecDepth 100000 in
theorem c_ContainsFunc_int (l : List Int) (t : Ty) (h1 : t.one = true) (q : Int → Bool) (hd : t.deps = []) (hc : t.cdeps = []) (hf : ∀ x ∈ l, Cal Try.prog t [Ty.int .i64 x] (Ty.bool (q x))) : Ctr Try.prog 61 [Ty.sl I64 l, t] (Ty.bool (l.any q)) := by
  refine fn_intro Try.func61 rfl (by decide) Try.ntmps61 (by exact Nat.le_of_ble_eq_true rfl) fun w0 M0 => ?_
  refine t_seq ?_
  refine t_region ?_
  refine asB rfl ?_
  refine r_nil ?_
  refine i_then ?_
  refine t_seq ?_
  refine t_region ?_
  refine mvS rfl ?_
  refine r_move (ty := t) rfl ?_
  refine r_call (c_IndexFunc_int l t h1 q hd hc hf) rfl (by exact deps_cons rfl (deps_cons hd rfl)) (by exact cdeps_cons rfl (cdeps_cons hc rfl)) rfl rfl ?_
  refine r_bin rfl rfl rfl ?_
  refine asB rfl ?_
  refine r_nil ?_
  refine i_then ?_
  refine t_ret ?_
  refine i_rp1 rfl rfl ?_
  all_goals skip
  exact ret_eq rfl rfl (congrArg Ty.bool (fidx_ge q l))
set_option maxRecDepth 100000 in
theorem c_every1_int (x : Int) (t : Ty) (h1 : t.one = true) (b : Bool) (hd : t.deps = []) (hc : t.cdeps = []) (hf : Cal Try.prog t [Ty.int .i64 x] (Ty.bool b)) : Ctr Try.prog 153 [Ty.int .i64 x, Ty.pp [t]] (Ty.bool (!b)) := by
  refine fn_intro Try.func153 rfl (by decide) Try.ntmps153 (by exact Nat.le_of_ble_eq_true rfl) fun w0 M0 => ?_
  refine t_seq ?_
  refine t_region ?_
  refine asB rfl ?_
  refine r_nil ?_
  refine i_then ?_
  refine t_seq ?_
  refine t_region ?_
  refine r_load_pp rfl rfl rfl rfl ?_
  refine mvI rfl ?_
  refine r_callc rfl hf rfl ?_
  refine r_not rfl ?_
  refine asB rfl ?_
  refine r_nil ?_
  refine i_then ?_
  refine t_ret ?_
  refine i_rp1 rfl rfl ?_
  all_goals exact ret_refl rfl rfl
set_option maxRecDepth 100000 in
theorem c_every_int (l : List Int) (t : Ty) (h1 : t.one = true) (q : Int → Bool) (hd : t.deps = []) (hc : t.cdeps = []) (hf : ∀ x ∈ l, Cal Try.prog t [Ty.int .i64 x] (Ty.bool (q x))) : Ctr Try.prog 127 [Ty.sl I64 l, t] (Ty.bool (l.all q)) := by
  refine fn_intro Try.func127 rfl (by decide) Try.ntmps127 (by exact Nat.le_of_ble_eq_true rfl) fun w0 M0 => ?_
  refine t_seq ?_
  refine t_region ?_
  refine r_box_one (ty := t) rfl h1 ?_
  refine asB rfl ?_
  refine r_nil ?_
  refine i_then ?_
  refine t_seq ?_
  refine t_region ?_
  refine mvS rfl ?_
  refine r_makeFunc rfl ?_
  refine r_call (c_ContainsFunc_int l (Ty.clo _ [Ty.pp [t]]) rfl (fun x => !q x) (by exact deps_cons (deps_cons hd rfl) rfl) (by exact cdeps_cons (cdeps_cons hc rfl) rfl) fun x hx => cal_clo (c_every1_int x t h1 (q x) hd hc (hf x hx)) rfl rfl (by exact deps_cons (deps_cons hd rfl) rfl) (by exact cdeps_cons (cdeps_cons hc rfl) rfl) rfl rfl) rfl (by exact deps_cons rfl (deps_cons (deps_cons (deps_cons hd rfl) rfl) rfl)) (by exact cdeps_cons rfl (cdeps_cons (cdeps_cons (cdeps_cons hc rfl) rfl) rfl)) rfl rfl ?_
  refine r_not rfl ?_
  refine asB rfl ?_
  refine r_nil ?_
  refine i_then ?_
  refine t_ret ?_
  refine i_rp1 rfl rfl ?_
  all_goals skip
  exact ret_eq rfl rfl (congrArg Ty.bool (any_not q l))
set_option maxRecDepth 100000 in
theorem c_IndexFunc_bin (l : List Bin) (t : Ty) (h1 : t.one = true) (q : Bin → Bool) (hd : t.deps = []) (hc : t.cdeps = []) (hf : ∀ x ∈ l, Cal Try.prog t [Ty.agg (BinE.tys x)] (Ty.bool (q x))) : Ctr Try.prog 119 [Ty.sl BinE l, t] (Ty.int .i64 (fidx q l)) := by
  refine fn_intro Try.func119 rfl (by decide) Try.ntmps119 (by exact Nat.le_of_ble_eq_true rfl) fun w0 M0 => ?_
  refine t_fact (s := 0) rfl rfl sl_len fun hl => ?_
  refine t_seq ?_
  refine t_region ?_
  refine asI rfl ?_
  refine r_nil ?_
  refine i_then ?_
  refine t_seq ?_
  refine t_seq ?_
  refine t_region ?_
  refine mvS rfl ?_
  refine r_len rfl rfl rfl ?_
  refine mvI rfl ?_
  refine r_nil ?_
  refine i_then ?_
  refine t_block ?_
  refine t_loop (fun (k : {k : Nat // ∀ x ∈ l.take k, q x = false}) => live [(0, Ty.sl BinE l), (1, t), (7, Ty.int .i64 l.length), (8, Ty.int .i64 (k.1 : Nat))] []) (fun k => l.length - k.1) (⟨0, by simp⟩) ?_ fun k => ?_
  · (refine Ent.mk' ?_ ?_ <;> (repeat' (first | exact allSub_zero | exact allTags_nil | refine allSub_succ' ?_ (Ty.sub_any _) | refine allSub_succ' ?_ (Ty.sub_refl _))))
  ·
    refine t_seq ?_
    refine t_region ?_
    refine r_bin rfl rfl rfl ?_
    refine r_nil ?_
    refine i_then ?_
    refine t_seq ?_
    refine t_cond_dec rfl (fun hc1 => ?_) (fun hc1 => ?_)
    ·
      refine t_skip ?_
      refine i_then ?_
      refine t_seq ?_
      refine t_block ?_
      refine t_seq ?_
      refine t_region ?_
      refine mvI rfl ?_
      refine asI rfl ?_
      refine r_nil ?_
      refine i_then ?_
      refine t_seq ?_
      refine t_region ?_
      refine r_move (ty := t) rfl ?_
      refine mvS rfl ?_
      refine mvI rfl ?_
      refine r_index_slN rfl rfl rfl rfl rfl rfl (by omega) ?_
      refine r_load_ppN rfl rfl rfl (by exact Nat.le_of_ble_eq_true rfl) ?_
      refine r_callc rfl (hf _ (nth_mem (by omega))) rfl ?_
      refine r_nil ?_
      refine i_then ?_
      refine t_cond rfl (fun hc2 => ?_) (fun hc2 => ?_)
      ·
        refine t_seq ?_
        refine t_region ?_
        refine mvI rfl ?_
        refine asI rfl ?_
        refine r_nil ?_
        refine i_then ?_
        refine t_ret ?_
        refine i_block_ret ?_
        refine i_then_ret ?_
        refine i_then_ret ?_
        refine i_block_ret ?_
        refine i_then_ret ?_
        refine i_rp1 rfl rfl ?_
        all_goals skip
        exact ret_eq rfl rfl (congrArg (Ty.int .i64) (fidx_found (by omega) k.2 (by rw [← nth_lt]; exact hc2)).symm)
      ·
        refine t_skip ?_
        refine i_block ?_
        refine i_then ?_
        refine t_region ?_
        refine r_add rfl rfl (by omega) (by omega) ?_
        refine mvI rfl ?_
        refine r_nil ?_
        refine i_round (⟨k.1 + 1, by rw [take_nth (by omega)]; intro x hx; rcases List.mem_append.1 hx with h | h; exact k.2 x h; rw [List.mem_singleton.1 h]; exact hc2⟩) ?_ (by show l.length - (k.1 + 1) < l.length - k.1; omega)
        (refine Ent.mk' ?_ ?_ <;> (repeat' (first | exact allSub_zero | exact allTags_nil | refine allSub_succ' ?_ (Ty.sub_any _) | refine allSub_succ' ?_ (Ty.sub_refl _))))
        all_goals skip
    ·
      refine t_exit ?_
      refine i_then_exit ?_
      refine i_then_exit ?_
      refine i_block_exit rfl ?_
      refine i_then ?_
      refine t_seq ?_
      refine t_region ?_
      refine asI rfl ?_
      refine r_nil ?_
      refine i_then ?_
      refine t_ret ?_
      refine i_rp1 rfl rfl ?_
      all_goals skip
      exact ret_eq rfl rfl (congrArg (Ty.int .i64) (fidx_none (by have := k.2; rwa [List.take_of_length_le (by omega)] at this)).symm)
set_option maxRecDepth 100000 in
theorem c_ContainsFunc_bin (l : List Bin) (t : Ty) (h1 : t.one = true) (q : Bin → Bool) (hd : t.deps = []) (hc : t.cdeps = []) (hf : ∀ x ∈ l, Cal Try.prog t [Ty.agg (BinE.tys x)] (Ty.bool (q x))) : Ctr Try.prog 73 [Ty.sl BinE l, t] (Ty.bool (l.any q)) := by
  refine fn_intro Try.func73 rfl (by decide) Try.ntmps73 (by exact Nat.le_of_ble_eq_true rfl) fun w0 M0 => ?_
  refine t_seq ?_
  refine t_region ?_
  refine asB rfl ?_
  refine r_nil ?_
  refine i_then ?_
  refine t_seq ?_
  refine t_region ?_
  refine mvS rfl ?_
  refine r_move (ty := t) rfl ?_
  refine r_call (c_IndexFunc_bin l t h1 q hd hc hf) rfl (by exact deps_cons rfl (deps_cons hd rfl)) (by exact cdeps_cons rfl (cdeps_cons hc rfl)) rfl rfl ?_
  refine r_bin rfl rfl rfl ?_
  refine asB rfl ?_
  refine r_nil ?_
  refine i_then ?_
  refine t_ret ?_
  refine i_rp1 rfl rfl ?_
  all_goals skip
  exact ret_eq rfl rfl (congrArg Ty.bool (fidx_ge q l))
set_option maxRecDepth 100000 in
theorem c_every1_bin (x : Bin) (t : Ty) (h1 : t.one = true) (b : Bool) (hd : t.deps = []) (hc : t.cdeps = []) (hf : Cal Try.prog t [Ty.agg (BinE.tys x)] (Ty.bool b)) : Ctr Try.prog 154 [Ty.agg (BinE.tys x), Ty.pp [t]] (Ty.bool (!b)) := by
  refine fn_intro Try.func154 rfl (by decide) Try.ntmps154 (by exact Nat.le_of_ble_eq_true rfl) fun w0 M0 => ?_
  refine t_seq ?_
  refine t_region ?_
  refine r_box_agg rfl ?_
  refine asB rfl ?_
  refine r_nil ?_
  refine i_then ?_
  refine t_seq ?_
  refine t_region ?_
  refine r_load_pp rfl rfl rfl rfl ?_
  refine r_load_ppN rfl rfl rfl (by exact Nat.le_of_ble_eq_true rfl) ?_
  refine r_callc rfl hf rfl ?_
  refine r_not rfl ?_
  refine asB rfl ?_
  refine r_nil ?_
  refine i_then ?_
  refine t_ret ?_
  refine i_rp1 rfl rfl ?_
  all_goals exact ret_refl rfl rfl
set_option maxRecDepth 100000 in
theorem c_every_bin (l : List Bin) (t : Ty) (h1 : t.one = true) (q : Bin → Bool) (hd : t.deps = []) (hc : t.cdeps = []) (hf : ∀ x ∈ l, Cal Try.prog t [Ty.agg (BinE.tys x)] (Ty.bool (q x))) : Ctr Try.prog 129 [Ty.sl BinE l, t] (Ty.bool (l.all q)) := by
  refine fn_intro Try.func129 rfl (by decide) Try.ntmps129 (by exact Nat.le_of_ble_eq_true rfl) fun w0 M0 => ?_
  refine t_seq ?_
  refine t_region ?_
  refine r_box_one (ty := t) rfl h1 ?_
  refine asB rfl ?_
  refine r_nil ?_
  refine i_then ?_
  refine t_seq ?_
  refine t_region ?_
  refine mvS rfl ?_
  refine r_makeFunc rfl ?_
  refine r_call (c_ContainsFunc_bin l (Ty.clo _ [Ty.pp [t]]) rfl (fun x => !q x) (by exact deps_cons (deps_cons hd rfl) rfl) (by exact cdeps_cons (cdeps_cons hc rfl) rfl) fun x hx => cal_clo (c_every1_bin x t h1 (q x) hd hc (hf x hx)) rfl rfl (by exact deps_cons (deps_cons hd rfl) rfl) (by exact cdeps_cons (cdeps_cons hc rfl) rfl) rfl rfl) rfl (by exact deps_cons rfl (deps_cons (deps_cons (deps_cons hd rfl) rfl) rfl)) (by exact cdeps_cons rfl (cdeps_cons (cdeps_cons (cdeps_cons hc rfl) rfl) rfl)) rfl rfl ?_
  refine r_not rfl ?_
  refine asB rfl ?_
  refine r_nil ?_
  refine i_then ?_
  refine t_ret ?_
  refine i_rp1 rfl rfl ?_
  all_goals skip
  exact ret_eq rfl rfl (congrArg Ty.bool (any_not q l))
set_option maxRecDepth 100000 in
theorem c_IndexFunc_trn (l : List Trn) (t : Ty) (h1 : t.one = true) (q : Trn → Bool) (hd : t.deps = []) (hc : t.cdeps = []) (hf : ∀ x ∈ l, Cal Try.prog t [Ty.agg (TrnE.tys x)] (Ty.bool (q x))) : Ctr Try.prog 162 [Ty.sl TrnE l, t] (Ty.int .i64 (fidx q l)) := by
  refine fn_intro Try.func162 rfl (by decide) Try.ntmps162 (by exact Nat.le_of_ble_eq_true rfl) fun w0 M0 => ?_
  refine t_fact (s := 0) rfl rfl sl_len fun hl => ?_
  refine t_seq ?_
  refine t_region ?_
  refine asI rfl ?_
  refine r_nil ?_
  refine i_then ?_
  refine t_seq ?_
  refine t_seq ?_
  refine t_region ?_
  refine mvS rfl ?_
  refine r_len rfl rfl rfl ?_
  refine mvI rfl ?_
  refine r_nil ?_
  refine i_then ?_
  refine t_block ?_
  refine t_loop (fun (k : {k : Nat // ∀ x ∈ l.take k, q x = false}) => live [(0, Ty.sl TrnE l), (1, t), (7, Ty.int .i64 l.length), (8, Ty.int .i64 (k.1 : Nat))] []) (fun k => l.length - k.1) (⟨0, by simp⟩) ?_ fun k => ?_
  · (refine Ent.mk' ?_ ?_ <;> (repeat' (first | exact allSub_zero | exact allTags_nil | refine allSub_succ' ?_ (Ty.sub_any _) | refine allSub_succ' ?_ (Ty.sub_refl _))))
  ·
    refine t_seq ?_
    refine t_region ?_
    refine r_bin rfl rfl rfl ?_
    refine r_nil ?_
    refine i_then ?_
    refine t_seq ?_
    refine t_cond_dec rfl (fun hc1 => ?_) (fun hc1 => ?_)
    ·
      refine t_skip ?_
      refine i_then ?_
      refine t_seq ?_
      refine t_block ?_
      refine t_seq ?_
      refine t_region ?_
      refine mvI rfl ?_
      refine asI rfl ?_
      refine r_nil ?_
      refine i_then ?_
      refine t_seq ?_
      refine t_region ?_
      refine r_move (ty := t) rfl ?_
      refine mvS rfl ?_
      refine mvI rfl ?_
      refine r_index_slN rfl rfl rfl rfl rfl rfl (by omega) ?_
      refine r_load_ppN rfl rfl rfl (by exact Nat.le_of_ble_eq_true rfl) ?_
      refine r_callc rfl (hf _ (nth_mem (by omega))) rfl ?_
      refine r_nil ?_
      refine i_then ?_
      refine t_cond rfl (fun hc2 => ?_) (fun hc2 => ?_)
      ·
        refine t_seq ?_
        refine t_region ?_
        refine mvI rfl ?_
        refine asI rfl ?_
        refine r_nil ?_
        refine i_then ?_
        refine t_ret ?_
        refine i_block_ret ?_
        refine i_then_ret ?_
        refine i_then_ret ?_
        refine i_block_ret ?_
        refine i_then_ret ?_
        refine i_rp1 rfl rfl ?_
        all_goals skip
        exact ret_eq rfl rfl (congrArg (Ty.int .i64) (fidx_found (by omega) k.2 (by rw [← nth_lt]; exact hc2)).symm)
      ·
        refine t_skip ?_
        refine i_block ?_
        refine i_then ?_
        refine t_region ?_
        refine r_add rfl rfl (by omega) (by omega) ?_
        refine mvI rfl ?_
        refine r_nil ?_
        refine i_round (⟨k.1 + 1, by rw [take_nth (by omega)]; intro x hx; rcases List.mem_append.1 hx with h | h; exact k.2 x h; rw [List.mem_singleton.1 h]; exact hc2⟩) ?_ (by show l.length - (k.1 + 1) < l.length - k.1; omega)
        (refine Ent.mk' ?_ ?_ <;> (repeat' (first | exact allSub_zero | exact allTags_nil | refine allSub_succ' ?_ (Ty.sub_any _) | refine allSub_succ' ?_ (Ty.sub_refl _))))
        all_goals skip
    ·
      refine t_exit ?_
      refine i_then_exit ?_
      refine i_then_exit ?_
      refine i_block_exit rfl ?_
      refine i_then ?_
      refine t_seq ?_
      refine t_region ?_
      refine asI rfl ?_
      refine r_nil ?_
      refine i_then ?_
      refine t_ret ?_
      refine i_rp1 rfl rfl ?_
      all_goals skip
      exact ret_eq rfl rfl (congrArg (Ty.int .i64) (fidx_none (by have := k.2; rwa [List.take_of_length_le (by omega)] at this)).symm)
set_option maxRecDepth 100000 in
theorem c_ContainsFunc_trn (l : List Trn) (t : Ty) (h1 : t.one = true) (q : Trn → Bool) (hd : t.deps = []) (hc : t.cdeps = []) (hf : ∀ x ∈ l, Cal Try.prog t [Ty.agg (TrnE.tys x)] (Ty.bool (q x))) : Ctr Try.prog 155 [Ty.sl TrnE l, t] (Ty.bool (l.any q)) := by
  refine fn_intro Try.func155 rfl (by decide) Try.ntmps155 (by exact Nat.le_of_ble_eq_true rfl) fun w0 M0 => ?_
  refine t_seq ?_
  refine t_region ?_
  refine asB rfl ?_
  refine r_nil ?_
  refine i_then ?_
  refine t_seq ?_
  refine t_region ?_
  refine mvS rfl ?_
  refine r_move (ty := t) rfl ?_
  refine r_call (c_IndexFunc_trn l t h1 q hd hc hf) rfl (by exact deps_cons rfl (deps_cons hd rfl)) (by exact cdeps_cons rfl (cdeps_cons hc rfl)) rfl rfl ?_
  refine r_bin rfl rfl rfl ?_
  refine asB rfl ?_
  refine r_nil ?_
  refine i_then ?_
  refine t_ret ?_
  refine i_rp1 rfl rfl ?_
  all_goals skip
  exact ret_eq rfl rfl (congrArg Ty.bool (fidx_ge q l))
set_option maxRecDepth 100000 in
theorem c_every1_trn (x : Trn) (t : Ty) (h1 : t.one = true) (b : Bool) (hd : t.deps = []) (hc : t.cdeps = []) (hf : Cal Try.prog t [Ty.agg (TrnE.tys x)] (Ty.bool b)) : Ctr Try.prog 156 [Ty.agg (TrnE.tys x), Ty.pp [t]] (Ty.bool (!b)) := by
  refine fn_intro Try.func156 rfl (by decide) Try.ntmps156 (by exact Nat.le_of_ble_eq_true rfl) fun w0 M0 => ?_
  refine t_seq ?_
  refine t_region ?_
  refine r_box_agg rfl ?_
  refine asB rfl ?_
  refine r_nil ?_
  refine i_then ?_
  refine t_seq ?_
  refine t_region ?_
  refine r_load_pp rfl rfl rfl rfl ?_
  refine r_load_ppN rfl rfl rfl (by exact Nat.le_of_ble_eq_true rfl) ?_
  refine r_callc rfl hf rfl ?_
  refine r_not rfl ?_
  refine asB rfl ?_
  refine r_nil ?_
  refine i_then ?_
  refine t_ret ?_
  refine i_rp1 rfl rfl ?_
  all_goals exact ret_refl rfl rfl
set_option maxRecDepth 100000 in
theorem c_every_trn (l : List Trn) (t : Ty) (h1 : t.one = true) (q : Trn → Bool) (hd : t.deps = []) (hc : t.cdeps = []) (hf : ∀ x ∈ l, Cal Try.prog t [Ty.agg (TrnE.tys x)] (Ty.bool (q x))) : Ctr Try.prog 132 [Ty.sl TrnE l, t] (Ty.bool (l.all q)) := by
  refine fn_intro Try.func132 rfl (by decide) Try.ntmps132 (by exact Nat.le_of_ble_eq_true rfl) fun w0 M0 => ?_
  refine t_seq ?_
  refine t_region ?_
  refine r_box_one (ty := t) rfl h1 ?_
  refine asB rfl ?_
  refine r_nil ?_
  refine i_then ?_
  refine t_seq ?_
  refine t_region ?_
  refine mvS rfl ?_
  refine r_makeFunc rfl ?_
  refine r_call (c_ContainsFunc_trn l (Ty.clo _ [Ty.pp [t]]) rfl (fun x => !q x) (by exact deps_cons (deps_cons hd rfl) rfl) (by exact cdeps_cons (cdeps_cons hc rfl) rfl) fun x hx => cal_clo (c_every1_trn x t h1 (q x) hd hc (hf x hx)) rfl rfl (by exact deps_cons (deps_cons hd rfl) rfl) (by exact cdeps_cons (cdeps_cons hc rfl) rfl) rfl rfl) rfl (by exact deps_cons rfl (deps_cons (deps_cons (deps_cons hd rfl) rfl) rfl)) (by exact cdeps_cons rfl (cdeps_cons (cdeps_cons (cdeps_cons hc rfl) rfl) rfl)) rfl rfl ?_
  refine r_not rfl ?_
  refine asB rfl ?_
  refine r_nil ?_
  refine i_then ?_
  refine t_ret ?_
  refine i_rp1 rfl rfl ?_
  all_goals skip
  exact ret_eq rfl rfl (congrArg Ty.bool (any_not q l))
set_option maxRecDepth 100000 in
theorem c_IndexFunc_rul (l : List Rul) (t : Ty) (h1 : t.one = true) (q : Rul → Bool) (hd : t.deps = []) (hc : t.cdeps = []) (hf : ∀ x ∈ l, Cal Try.prog t [Ty.agg (RulE.tys x)] (Ty.bool (q x))) : Ctr Try.prog 160 [Ty.sl RulE l, t] (Ty.int .i64 (fidx q l)) := by
  refine fn_intro Try.func160 rfl (by decide) Try.ntmps160 (by exact Nat.le_of_ble_eq_true rfl) fun w0 M0 => ?_
  refine t_fact (s := 0) rfl rfl sl_len fun hl => ?_
  refine t_seq ?_
  refine t_region ?_
  refine asI rfl ?_
  refine r_nil ?_
  refine i_then ?_
  refine t_seq ?_
  refine t_seq ?_
  refine t_region ?_
  refine mvS rfl ?_
  refine r_len rfl rfl rfl ?_
  refine mvI rfl ?_
  refine r_nil ?_
  refine i_then ?_
  refine t_block ?_
  refine t_loop (fun (k : {k : Nat // ∀ x ∈ l.take k, q x = false}) => live [(0, Ty.sl RulE l), (1, t), (7, Ty.int .i64 l.length), (8, Ty.int .i64 (k.1 : Nat))] []) (fun k => l.length - k.1) (⟨0, by simp⟩) ?_ fun k => ?_
  · (refine Ent.mk' ?_ ?_ <;> (repeat' (first | exact allSub_zero | exact allTags_nil | refine allSub_succ' ?_ (Ty.sub_any _) | refine allSub_succ' ?_ (Ty.sub_refl _))))
  ·
    refine t_seq ?_
    refine t_region ?_
    refine r_bin rfl rfl rfl ?_
    refine r_nil ?_
    refine i_then ?_
    refine t_seq ?_
    refine t_cond_dec rfl (fun hc1 => ?_) (fun hc1 => ?_)
    ·
      refine t_skip ?_
      refine i_then ?_
      refine t_seq ?_
      refine t_block ?_
      refine t_seq ?_
      refine t_region ?_
      refine mvI rfl ?_
      refine asI rfl ?_
      refine r_nil ?_
      refine i_then ?_
      refine t_seq ?_
      refine t_region ?_
      refine r_move (ty := t) rfl ?_
      refine mvS rfl ?_
      refine mvI rfl ?_
      refine r_index_slN rfl rfl rfl rfl rfl rfl (by omega) ?_
      refine r_load_ppN rfl rfl rfl (by exact Nat.le_of_ble_eq_true rfl) ?_
      refine r_callc rfl (hf _ (nth_mem (by omega))) rfl ?_
      refine r_nil ?_
      refine i_then ?_
      refine t_cond rfl (fun hc2 => ?_) (fun hc2 => ?_)
      ·
        refine t_seq ?_
        refine t_region ?_
        refine mvI rfl ?_
        refine asI rfl ?_
        refine r_nil ?_
        refine i_then ?_
        refine t_ret ?_
        refine i_block_ret ?_
        refine i_then_ret ?_
        refine i_then_ret ?_
        refine i_block_ret ?_
        refine i_then_ret ?_
        refine i_rp1 rfl rfl ?_
        all_goals skip
        exact ret_eq rfl rfl (congrArg (Ty.int .i64) (fidx_found (by omega) k.2 (by rw [← nth_lt]; exact hc2)).symm)
      ·
        refine t_skip ?_
        refine i_block ?_
        refine i_then ?_
        refine t_region ?_
        refine r_add rfl rfl (by omega) (by omega) ?_
        refine mvI rfl ?_
        refine r_nil ?_
        refine i_round (⟨k.1 + 1, by rw [take_nth (by omega)]; intro x hx; rcases List.mem_append.1 hx with h | h; exact k.2 x h; rw [List.mem_singleton.1 h]; exact hc2⟩) ?_ (by show l.length - (k.1 + 1) < l.length - k.1; omega)
        (refine Ent.mk' ?_ ?_ <;> (repeat' (first | exact allSub_zero | exact allTags_nil | refine allSub_succ' ?_ (Ty.sub_any _) | refine allSub_succ' ?_ (Ty.sub_refl _))))
        all_goals skip
    ·
      refine t_exit ?_
      refine i_then_exit ?_
      refine i_then_exit ?_
      refine i_block_exit rfl ?_
      refine i_then ?_
      refine t_seq ?_
      refine t_region ?_
      refine asI rfl ?_
      refine r_nil ?_
      refine i_then ?_
      refine t_ret ?_
      refine i_rp1 rfl rfl ?_
      all_goals skip
      exact ret_eq rfl rfl (congrArg (Ty.int .i64) (fidx_none (by have := k.2; rwa [List.take_of_length_le (by omega)] at this)).symm)
set_option maxRecDepth 100000 in
theorem c_ContainsFunc_rul (l : List Rul) (t : Ty) (h1 : t.one = true) (q : Rul → Bool) (hd : t.deps = []) (hc : t.cdeps = []) (hf : ∀ x ∈ l, Cal Try.prog t [Ty.agg (RulE.tys x)] (Ty.bool (q x))) : Ctr Try.prog 147 [Ty.sl RulE l, t] (Ty.bool (l.any q)) := by
  refine fn_intro Try.func147 rfl (by decide) Try.ntmps147 (by exact Nat.le_of_ble_eq_true rfl) fun w0 M0 => ?_
  refine t_seq ?_
  refine t_region ?_
  refine asB rfl ?_
  refine r_nil ?_
  refine i_then ?_
  refine t_seq ?_
  refine t_region ?_
  refine mvS rfl ?_
  refine r_move (ty := t) rfl ?_
  refine r_call (c_IndexFunc_rul l t h1 q hd hc hf) rfl (by exact deps_cons rfl (deps_cons hd rfl)) (by exact cdeps_cons rfl (cdeps_cons hc rfl)) rfl rfl ?_
  refine r_bin rfl rfl rfl ?_
  refine asB rfl ?_
  refine r_nil ?_
  refine i_then ?_
  refine t_ret ?_
  refine i_rp1 rfl rfl ?_
  all_goals skip
  exact ret_eq rfl rfl (congrArg Ty.bool (fidx_ge q l))
set_option maxRecDepth 100000 in
theorem c_every1_rul (x : Rul) (t : Ty) (h1 : t.one = true) (b : Bool) (hd : t.deps = []) (hc : t.cdeps = []) (hf : Cal Try.prog t [Ty.agg (RulE.tys x)] (Ty.bool b)) : Ctr Try.prog 157 [Ty.agg (RulE.tys x), Ty.pp [t]] (Ty.bool (!b)) := by
  refine fn_intro Try.func157 rfl (by decide) Try.ntmps157 (by exact Nat.le_of_ble_eq_true rfl) fun w0 M0 => ?_
  refine t_seq ?_
  refine t_region ?_
  refine r_box_agg rfl ?_
  refine asB rfl ?_
  refine r_nil ?_
  refine i_then ?_
  refine t_seq ?_
  refine t_region ?_
  refine r_load_pp rfl rfl rfl rfl ?_
  refine r_load_ppN rfl rfl rfl (by exact Nat.le_of_ble_eq_true rfl) ?_
  refine r_callc rfl hf rfl ?_
  refine r_not rfl ?_
  refine asB rfl ?_
  refine r_nil ?_
  refine i_then ?_
  refine t_ret ?_
  refine i_rp1 rfl rfl ?_
  all_goals exact ret_refl rfl rfl
set_option maxRecDepth 100000 in
theorem c_every_rul (l : List Rul) (t : Ty) (h1 : t.one = true) (q : Rul → Bool) (hd : t.deps = []) (hc : t.cdeps = []) (hf : ∀ x ∈ l, Cal Try.prog t [Ty.agg (RulE.tys x)] (Ty.bool (q x))) : Ctr Try.prog 138 [Ty.sl RulE l, t] (Ty.bool (l.all q)) := by
  refine fn_intro Try.func138 rfl (by decide) Try.ntmps138 (by exact Nat.le_of_ble_eq_true rfl) fun w0 M0 => ?_
  refine t_seq ?_
  refine t_region ?_
  refine r_box_one (ty := t) rfl h1 ?_
  refine asB rfl ?_
  refine r_nil ?_
  refine i_then ?_
  refine t_seq ?_
  refine t_region ?_
  refine mvS rfl ?_
  refine r_makeFunc rfl ?_
  refine r_call (c_ContainsFunc_rul l (Ty.clo _ [Ty.pp [t]]) rfl (fun x => !q x) (by exact deps_cons (deps_cons hd rfl) rfl) (by exact cdeps_cons (cdeps_cons hc rfl) rfl) fun x hx => cal_clo (c_every1_rul x t h1 (q x) hd hc (hf x hx)) rfl rfl (by exact deps_cons (deps_cons hd rfl) rfl) (by exact cdeps_cons (cdeps_cons hc rfl) rfl) rfl rfl) rfl (by exact deps_cons rfl (deps_cons (deps_cons (deps_cons hd rfl) rfl) rfl)) (by exact cdeps_cons rfl (cdeps_cons (cdeps_cons (cdeps_cons hc rfl) rfl) rfl)) rfl rfl ?_
  refine r_not rfl ?_
  refine asB rfl ?_
  refine r_nil ?_
  refine i_then ?_
  refine t_ret ?_
  refine i_rp1 rfl rfl ?_
  all_goals skip
  exact ret_eq rfl rfl (congrArg Ty.bool (any_not q l))
set_option maxRecDepth 100000 in
theorem c_IndexFunc_pay (l : List Pay) (t : Ty) (h1 : t.one = true) (q : Pay → Bool) (hd : t.deps = []) (hc : t.cdeps = []) (hf : ∀ x ∈ l, Cal Try.prog t [Ty.agg (PayE.tys x)] (Ty.bool (q x))) : Ctr Try.prog 152 [Ty.sl PayE l, t] (Ty.int .i64 (fidx q l)) := by
  refine fn_intro Try.func152 rfl (by decide) Try.ntmps152 (by exact Nat.le_of_ble_eq_true rfl) fun w0 M0 => ?_
  refine t_fact (s := 0) rfl rfl sl_len fun hl => ?_
  refine t_seq ?_
  refine t_region ?_
  refine asI rfl ?_
  refine r_nil ?_
  refine i_then ?_
  refine t_seq ?_
  refine t_seq ?_
  refine t_region ?_
  refine mvS rfl ?_
  refine r_len rfl rfl rfl ?_
  refine mvI rfl ?_
  refine r_nil ?_
  refine i_then ?_
  refine t_block ?_
  refine t_loop (fun (k : {k : Nat // ∀ x ∈ l.take k, q x = false}) => live [(0, Ty.sl PayE l), (1, t), (7, Ty.int .i64 l.length), (8, Ty.int .i64 (k.1 : Nat))] []) (fun k => l.length - k.1) (⟨0, by simp⟩) ?_ fun k => ?_
  · (refine Ent.mk' ?_ ?_ <;> (repeat' (first | exact allSub_zero | exact allTags_nil | refine allSub_succ' ?_ (Ty.sub_any _) | refine allSub_succ' ?_ (Ty.sub_refl _))))
  ·
    refine t_seq ?_
    refine t_region ?_
    refine r_bin rfl rfl rfl ?_
    refine r_nil ?_
    refine i_then ?_
    refine t_seq ?_
    refine t_cond_dec rfl (fun hc1 => ?_) (fun hc1 => ?_)
    ·
      refine t_skip ?_
      refine i_then ?_
      refine t_seq ?_
      refine t_block ?_
      refine t_seq ?_
      refine t_region ?_
      refine mvI rfl ?_
      refine asI rfl ?_
      refine r_nil ?_
      refine i_then ?_
      refine t_seq ?_
      refine t_region ?_
      refine r_move (ty := t) rfl ?_
      refine mvS rfl ?_
      refine mvI rfl ?_
      refine r_index_slN rfl rfl rfl rfl rfl rfl (by omega) ?_
      refine r_load_ppN rfl rfl rfl (by exact Nat.le_of_ble_eq_true rfl) ?_
      refine r_callc rfl (hf _ (nth_mem (by omega))) rfl ?_
      refine r_nil ?_
      refine i_then ?_
      refine t_cond rfl (fun hc2 => ?_) (fun hc2 => ?_)
      ·
        refine t_seq ?_
        refine t_region ?_
        refine mvI rfl ?_
        refine asI rfl ?_
        refine r_nil ?_
        refine i_then ?_
        refine t_ret ?_
        refine i_block_ret ?_
        refine i_then_ret ?_
        refine i_then_ret ?_
        refine i_block_ret ?_
        refine i_then_ret ?_
        refine i_rp1 rfl rfl ?_
        all_goals skip
        exact ret_eq rfl rfl (congrArg (Ty.int .i64) (fidx_found (by omega) k.2 (by rw [← nth_lt]; exact hc2)).symm)
      ·
        refine t_skip ?_
        refine i_block ?_
        refine i_then ?_
        refine t_region ?_
        refine r_add rfl rfl (by omega) (by omega) ?_
        refine mvI rfl ?_
        refine r_nil ?_
        refine i_round (⟨k.1 + 1, by rw [take_nth (by omega)]; intro x hx; rcases List.mem_append.1 hx with h | h; exact k.2 x h; rw [List.mem_singleton.1 h]; exact hc2⟩) ?_ (by show l.length - (k.1 + 1) < l.length - k.1; omega)
        (refine Ent.mk' ?_ ?_ <;> (repeat' (first | exact allSub_zero | exact allTags_nil | refine allSub_succ' ?_ (Ty.sub_any _) | refine allSub_succ' ?_ (Ty.sub_refl _))))
        all_goals skip
    ·
      refine t_exit ?_
      refine i_then_exit ?_
      refine i_then_exit ?_
      refine i_block_exit rfl ?_
      refine i_then ?_
      refine t_seq ?_
      refine t_region ?_
      refine asI rfl ?_
      refine r_nil ?_
      refine i_then ?_
      refine t_ret ?_
      refine i_rp1 rfl rfl ?_
      all_goals skip
      exact ret_eq rfl rfl (congrArg (Ty.int .i64) (fidx_none (by have := k.2; rwa [List.take_of_length_le (by omega)] at this)).symm)
set_option maxRecDepth 100000 in
theorem c_ContainsFunc_pay (l : List Pay) (t : Ty) (h1 : t.one = true) (q : Pay → Bool) (hd : t.deps = []) (hc : t.cdeps = []) (hf : ∀ x ∈ l, Cal Try.prog t [Ty.agg (PayE.tys x)] (Ty.bool (q x))) : Ctr Try.prog 122 [Ty.sl PayE l, t] (Ty.bool (l.any q)) := by
  refine fn_intro Try.func122 rfl (by decide) Try.ntmps122 (by exact Nat.le_of_ble_eq_true rfl) fun w0 M0 => ?_
  refine t_seq ?_
  refine t_region ?_
  refine asB rfl ?_
  refine r_nil ?_
  refine i_then ?_
  refine t_seq ?_
  refine t_region ?_
  refine mvS rfl ?_
  refine r_move (ty := t) rfl ?_
  refine r_call (c_IndexFunc_pay l t h1 q hd hc hf) rfl (by exact deps_cons rfl (deps_cons hd rfl)) (by exact cdeps_cons rfl (cdeps_cons hc rfl)) rfl rfl ?_
  refine r_bin rfl rfl rfl ?_
  refine asB rfl ?_
  refine r_nil ?_
  refine i_then ?_
  refine t_ret ?_
  refine i_rp1 rfl rfl ?_
  all_goals skip
  exact ret_eq rfl rfl (congrArg Ty.bool (fidx_ge q l))
set_option maxRecDepth 100000 in
theorem c_every1_pay (x : Pay) (t : Ty) (h1 : t.one = true) (b : Bool) (hd : t.deps = []) (hc : t.cdeps = []) (hf : Cal Try.prog t [Ty.agg (PayE.tys x)] (Ty.bool b)) : Ctr Try.prog 123 [Ty.agg (PayE.tys x), Ty.pp [t]] (Ty.bool (!b)) := by
  refine fn_intro Try.func123 rfl (by decide) Try.ntmps123 (by exact Nat.le_of_ble_eq_true rfl) fun w0 M0 => ?_
  refine t_seq ?_
  refine t_region ?_
  refine r_box_agg rfl ?_
  refine asB rfl ?_
  refine r_nil ?_
  refine i_then ?_
  refine t_seq ?_
  refine t_region ?_
  refine r_load_pp rfl rfl rfl rfl ?_
  refine r_load_ppN rfl rfl rfl (by exact Nat.le_of_ble_eq_true rfl) ?_
  refine r_callc rfl hf rfl ?_
  refine r_not rfl ?_
  refine asB rfl ?_
  refine r_nil ?_
  refine i_then ?_
  refine t_ret ?_
  refine i_rp1 rfl rfl ?_
  all_goals exact ret_refl rfl rfl
set_option maxRecDepth 100000 in
theorem c_every_pay (l : List Pay) (t : Ty) (h1 : t.one = true) (q : Pay → Bool) (hd : t.deps = []) (hc : t.cdeps = []) (hf : ∀ x ∈ l, Cal Try.prog t [Ty.agg (PayE.tys x)] (Ty.bool (q x))) : Ctr Try.prog 85 [Ty.sl PayE l, t] (Ty.bool (l.all q)) := by
  refine fn_intro Try.func85 rfl (by decide) Try.ntmps85 (by exact Nat.le_of_ble_eq_true rfl) fun w0 M0 => ?_
  refine t_seq ?_
  refine t_region ?_
  refine r_box_one (ty := t) rfl h1 ?_
  refine asB rfl ?_
  refine r_nil ?_
  refine i_then ?_
  refine t_seq ?_
  refine t_region ?_
  refine mvS rfl ?_
  refine r_makeFunc rfl ?_
  refine r_call (c_ContainsFunc_pay l (Ty.clo _ [Ty.pp [t]]) rfl (fun x => !q x) (by exact deps_cons (deps_cons hd rfl) rfl) (by exact cdeps_cons (cdeps_cons hc rfl) rfl) fun x hx => cal_clo (c_every1_pay x t h1 (q x) hd hc (hf x hx)) rfl rfl (by exact deps_cons (deps_cons hd rfl) rfl) (by exact cdeps_cons (cdeps_cons hc rfl) rfl) rfl rfl) rfl (by exact deps_cons rfl (deps_cons (deps_cons (deps_cons hd rfl) rfl) rfl)) (by exact cdeps_cons rfl (cdeps_cons (cdeps_cons (cdeps_cons hc rfl) rfl) rfl)) rfl rfl ?_
  refine r_not rfl ?_
  refine asB rfl ?_
  refine r_nil ?_
  refine i_then ?_
  refine t_ret ?_
  refine i_rp1 rfl rfl ?_
  all_goals skip
  exact ret_eq rfl rfl (congrArg Ty.bool (any_not q l))
end Go.Proofs.Ytifgbnbkimcchaa

namespace Go.Proofs.Ytifgbnbkimcchaa
open Go Go.T
attribute [local irreducible] dInt dBool dSl dPp dPtr dAgg dTup dClo dAny dEx dStr dGd dCells dVec dVs dRow dOp nth Tri Into TOps Ctr bodyPost Exit.then Exit.inBlock Code.wp Code.wpIn
theorem trn_eq (a b : Trn) : (decide (a.src = b.src) && (decide (a.dst = b.dst) && decide (a.sacks = b.sacks))) = decide (a = b) := by
  cases a; cases b; simp [Bool.decide_and]
theorem rul_eq (a b : Rul) : (decide (a.fst = b.fst) && decide (a.nxt = b.nxt)) = decide (a = b) := by
  cases a; cases b; simp [Bool.decide_and]
theorem not_b {b : Bool} (h : (!b) = true) : b = false := by cases b <;> first | rfl | cases h
theorem not_not_b {b : Bool} (h : (!b) = false) : b = true := by cases b <;> first | rfl | cases h
theorem ne_of_nth {α : Type} [Inhabited α] {a b : List α} {k : Nat} (h : nth a k ≠ nth b k) : a ≠ b := fun e => h (by rw [e])
structure Flr.Small (f : Flr) : Prop where
  bears : f.bears.length ≤ 8
  bins : f.bins.length ≤ 9
  turnings : f.turnings.length ≤ 11
  rules : f.rules.length ≤ 21
  shares : ∀ b ∈ f.bins, b.shares.length ≤ 8
set_option maxRecDepth 100000 in
theorem c_Dup_int (l : List Int) (h : l.length ≤ 1000) : Ctr Try.prog 44 [Ty.sl I64 l] (Ty.sl I64 l) := by
  refine fn_intro Try.func44 rfl (by decide) Try.ntmps44 (by exact Nat.le_of_ble_eq_true rfl) fun w0 M0 => ?_
  refine t_seq ?_
  refine t_region ?_
  refine asX rfl ?_
  refine r_nil ?_
  refine i_then ?_
  refine t_seq ?_
  refine t_region ?_
  refine mvS rfl ?_
  refine r_len rfl rfl rfl ?_
  refine r_make0 (E := I64) rfl rfl rfl rfl rfl rfl rfl (by decide) rfl (by omega) (by (dsimp only; omega)) (by omega) ?_
  refine mvS rfl ?_
  refine r_append rfl rfl (by decide) rfl rfl rfl rfl rfl rfl (by decide) (by (simp <;> omega)) (by (simp <;> omega)) ?_
  refine asR rfl ?_
  refine r_nil ?_
  refine i_then ?_
  refine t_ret ?_
  refine i_rp1 rfl rfl ?_
  all_goals exact ret_row (by decide)
set_option maxRecDepth 100000 in
theorem c_Equal_int (a b : List Int) : Ctr Try.prog 76 [Ty.sl I64 a, Ty.sl I64 b] (Ty.bool (decide (a = b))) := by
  refine fn_intro Try.func76 rfl (by decide) Try.ntmps76 (by exact Nat.le_of_ble_eq_true rfl) fun w0 M0 => ?_
  refine t_fact (s := 0) rfl rfl sl_len fun ha => ?_
  refine t_fact (s := 1) rfl rfl sl_len fun hb => ?_
  refine t_seq ?_
  refine t_region ?_
  refine asB rfl ?_
  refine r_nil ?_
  refine i_then ?_
  refine t_seq ?_
  refine t_seq ?_
  refine t_region ?_
  refine mvS rfl ?_
  refine r_len rfl rfl rfl ?_
  refine mvS rfl ?_
  refine r_len rfl rfl rfl ?_
  refine r_bin rfl rfl rfl ?_
  refine r_nil ?_
  refine i_then ?_
  refine t_cond_ndec rfl (fun hc1 => ?_) (fun hc1 => ?_)
  ·
    try (simp only [Classical.not_not] at hc1)
    refine t_seq ?_
    refine t_region ?_
    refine asB rfl ?_
    refine r_nil ?_
    refine i_then ?_
    refine t_ret ?_
    refine i_then_ret ?_
    refine i_rp1 rfl rfl ?_
    all_goals skip
    exact ret_eq rfl rfl (congrArg Ty.bool (by rw [eq_comm, decide_eq_false_iff_not]; intro e; subst e; exact hc1 rfl))
  ·
    try (simp only [Classical.not_not] at hc1)
    refine t_skip ?_
    refine i_then ?_
    refine t_seq ?_
    refine t_seq ?_
    refine t_region ?_
    refine mvS rfl ?_
    refine r_len rfl rfl rfl ?_
    refine mvI rfl ?_
    refine r_nil ?_
    refine i_then ?_
    refine t_block ?_
    refine t_loop (fun (k : {k : Nat // a.take k = b.take k}) => live [(0, Ty.sl I64 a), (1, Ty.sl I64 b), (12, Ty.int .i64 a.length), (13, Ty.int .i64 (k.1 : Nat))] []) (fun k => a.length - k.1) (⟨0, by simp⟩) ?_ fun k => ?_
    · (refine Ent.mk' ?_ ?_ <;> (repeat' (first | exact allSub_zero | exact allTags_nil | refine allSub_succ' ?_ (Ty.sub_any _) | refine allSub_succ' ?_ (Ty.sub_refl _))))
    ·
      have hlen : a.length = b.length := by omega
      refine t_seq ?_
      refine t_region ?_
      refine r_bin rfl rfl rfl ?_
      refine r_nil ?_
      refine i_then ?_
      refine t_seq ?_
      refine t_cond_dec rfl (fun hc2 => ?_) (fun hc2 => ?_)
      ·
        try (simp only [Classical.not_not] at hc2)
        refine t_skip ?_
        refine i_then ?_
        refine t_seq ?_
        refine t_block ?_
        refine t_seq ?_
        refine t_region ?_
        refine mvI rfl ?_
        refine asI rfl ?_
        refine r_nil ?_
        refine i_then ?_
        refine t_seq ?_
        refine t_draw mixed rfl ?_
        refine mvS rfl ?_
        refine mvI rfl ?_
        refine r_index_slN rfl rfl rfl rfl rfl rfl (by omega) ?_
        refine r_load_pp rfl rfl rfl rfl ?_
        refine mvS rfl ?_
        refine mvI rfl ?_
        refine r_index_slN rfl rfl rfl rfl rfl rfl (by omega) ?_
        refine r_load_pp rfl rfl rfl rfl ?_
        refine r_bin rfl rfl rfl ?_
        refine r_nil ?_
        refine ⟨by kernel_rfl, ?_⟩
        refine i_then ?_
        refine t_cond_ndec rfl (fun hc3 => ?_) (fun hc3 => ?_)
        ·
          try (simp only [Classical.not_not] at hc3)
          refine t_seq ?_
          refine t_region ?_
          refine asB rfl ?_
          refine r_nil ?_
          refine i_then ?_
          refine t_ret ?_
          refine i_block_ret ?_
          refine i_then_ret ?_
          refine i_then_ret ?_
          refine i_block_ret ?_
          refine i_then_ret ?_
          refine i_rp1 rfl rfl ?_
          all_goals skip
          exact ret_eq rfl rfl (congrArg Ty.bool (by rw [eq_comm, decide_eq_false_iff_not]; exact ne_of_nth (k := k.1) (hc3)))
        ·
          try (simp only [Classical.not_not] at hc3)
          refine t_skip ?_
          refine i_block ?_
          refine i_then ?_
          refine t_region ?_
          refine r_add rfl rfl (by omega) (by omega) ?_
          refine mvI rfl ?_
          refine r_nil ?_
          refine i_round (⟨k.1 + 1, by rw [take_nth (by omega), take_nth (by omega), k.2, hc3]⟩) ?_ (by show a.length - (k.1 + 1) < a.length - k.1; omega)
          (refine Ent.mk' ?_ ?_ <;> (repeat' (first | exact allSub_zero | exact allTags_nil | refine allSub_succ' ?_ (Ty.sub_any _) | refine allSub_succ' ?_ (Ty.sub_refl _))))
          all_goals skip
      ·
        try (simp only [Classical.not_not] at hc2)
        refine t_exit ?_
        refine i_then_exit ?_
        refine i_then_exit ?_
        refine i_block_exit rfl ?_
        refine i_then ?_
        refine t_seq ?_
        refine t_region ?_
        refine asB rfl ?_
        refine r_nil ?_
        refine i_then ?_
        refine t_ret ?_
        refine i_rp1 rfl rfl ?_
        all_goals skip
        exact ret_eq rfl rfl (congrArg Ty.bool (by rw [eq_comm, decide_eq_true_eq]; have := k.2; rwa [List.take_of_length_le (by omega), List.take_of_length_le (by omega)] at this))
set_option maxRecDepth 100000 in
theorem c_Eq_int (a b : List Int) : Ctr Try.prog 37 [Ty.sl I64 a, Ty.sl I64 b] (Ty.bool (decide (a = b))) := by
  refine fn_intro Try.func37 rfl (by decide) Try.ntmps37 (by exact Nat.le_of_ble_eq_true rfl) fun w0 M0 => ?_
  refine t_seq ?_
  refine t_region ?_
  refine asB rfl ?_
  refine r_nil ?_
  refine i_then ?_
  refine t_seq ?_
  refine t_region ?_
  refine mvS rfl ?_
  refine mvS rfl ?_
  refine r_call (c_Equal_int _ _) rfl rfl rfl rfl rfl ?_
  refine asB rfl ?_
  refine r_nil ?_
  refine i_then ?_
  refine t_ret ?_
  refine i_rp1 rfl rfl ?_
  all_goals exact ret_refl rfl rfl
set_option maxRecDepth 100000 in
theorem c_Dup_trn (l : List Trn) (h : l.length ≤ 1000) : Ctr Try.prog 77 [Ty.sl TrnE l] (Ty.sl TrnE l) := by
  refine fn_intro Try.func77 rfl (by decide) Try.ntmps77 (by exact Nat.le_of_ble_eq_true rfl) fun w0 M0 => ?_
  refine t_seq ?_
  refine t_region ?_
  refine asX rfl ?_
  refine r_nil ?_
  refine i_then ?_
  refine t_seq ?_
  refine t_region ?_
  refine mvS rfl ?_
  refine r_len rfl rfl rfl ?_
  refine r_make0 (E := TrnE) rfl rfl rfl rfl rfl rfl rfl (by decide) rfl (by omega) (by (dsimp only; omega)) (by omega) ?_
  refine mvS rfl ?_
  refine r_append rfl rfl (by decide) rfl rfl rfl rfl rfl rfl (by decide) (by (simp <;> omega)) (by (simp <;> omega)) ?_
  refine asR rfl ?_
  refine r_nil ?_
  refine i_then ?_
  refine t_ret ?_
  refine i_rp1 rfl rfl ?_
  all_goals exact ret_row (by decide)
set_option maxRecDepth 100000 in
theorem c_Equal_trn (a b : List Trn) : Ctr Try.prog 124 [Ty.sl TrnE a, Ty.sl TrnE b] (Ty.bool (decide (a = b))) := by
  refine fn_intro Try.func124 rfl (by decide) Try.ntmps124 (by exact Nat.le_of_ble_eq_true rfl) fun w0 M0 => ?_
  refine t_fact (s := 0) rfl rfl sl_len fun ha => ?_
  refine t_fact (s := 1) rfl rfl sl_len fun hb => ?_
  refine t_seq ?_
  refine t_region ?_
  refine asB rfl ?_
  refine r_nil ?_
  refine i_then ?_
  refine t_seq ?_
  refine t_seq ?_
  refine t_region ?_
  refine mvS rfl ?_
  refine r_len rfl rfl rfl ?_
  refine mvS rfl ?_
  refine r_len rfl rfl rfl ?_
  refine r_bin rfl rfl rfl ?_
  refine r_nil ?_
  refine i_then ?_
  refine t_cond_ndec rfl (fun hc1 => ?_) (fun hc1 => ?_)
  ·
    try (simp only [Classical.not_not] at hc1)
    refine t_seq ?_
    refine t_region ?_
    refine asB rfl ?_
    refine r_nil ?_
    refine i_then ?_
    refine t_ret ?_
    refine i_then_ret ?_
    refine i_rp1 rfl rfl ?_
    all_goals skip
    exact ret_eq rfl rfl (congrArg Ty.bool (by rw [eq_comm, decide_eq_false_iff_not]; intro e; subst e; exact hc1 rfl))
  ·
    try (simp only [Classical.not_not] at hc1)
    refine t_skip ?_
    refine i_then ?_
    refine t_seq ?_
    refine t_seq ?_
    refine t_region ?_
    refine mvS rfl ?_
    refine r_len rfl rfl rfl ?_
    refine mvI rfl ?_
    refine r_nil ?_
    refine i_then ?_
    refine t_block ?_
    refine t_loop (fun (k : {k : Nat // a.take k = b.take k}) => live [(0, Ty.sl TrnE a), (1, Ty.sl TrnE b), (12, Ty.int .i64 a.length), (13, Ty.int .i64 (k.1 : Nat))] []) (fun k => a.length - k.1) (⟨0, by simp⟩) ?_ fun k => ?_
    · (refine Ent.mk' ?_ ?_ <;> (repeat' (first | exact allSub_zero | exact allTags_nil | refine allSub_succ' ?_ (Ty.sub_any _) | refine allSub_succ' ?_ (Ty.sub_refl _))))
    ·
      have hlen : a.length = b.length := by omega
      refine t_seq ?_
      refine t_region ?_
      refine r_bin rfl rfl rfl ?_
      refine r_nil ?_
      refine i_then ?_
      refine t_seq ?_
      refine t_cond_dec rfl (fun hc2 => ?_) (fun hc2 => ?_)
      ·
        try (simp only [Classical.not_not] at hc2)
        refine t_skip ?_
        refine i_then ?_
        refine t_seq ?_
        refine t_block ?_
        refine t_seq ?_
        refine t_region ?_
        refine mvI rfl ?_
        refine asI rfl ?_
        refine r_nil ?_
        refine i_then ?_
        refine t_seq ?_
        refine t_draw mixed rfl ?_
        refine mvS rfl ?_
        refine mvI rfl ?_
        refine r_index_slN rfl rfl rfl rfl rfl rfl (by omega) ?_
        refine r_load_ppN rfl rfl rfl (by exact Nat.le_of_ble_eq_true rfl) ?_
        refine mvS rfl ?_
        refine mvI rfl ?_
        refine r_index_slN rfl rfl rfl rfl rfl rfl (by omega) ?_
        refine r_load_ppN rfl rfl rfl (by exact Nat.le_of_ble_eq_true rfl) ?_
        refine r_neq_A (eqt99 _ _ _ _ _ _) rfl rfl ?_
        refine r_nil ?_
        refine ⟨by kernel_rfl, ?_⟩
        refine i_then ?_
        refine t_cond rfl (fun hc3 => ?_) (fun hc3 => ?_)
        ·
          try (simp only [Classical.not_not] at hc3)
          refine t_seq ?_
          refine t_region ?_
          refine asB rfl ?_
          refine r_nil ?_
          refine i_then ?_
          refine t_ret ?_
          refine i_block_ret ?_
          refine i_then_ret ?_
          refine i_then_ret ?_
          refine i_block_ret ?_
          refine i_then_ret ?_
          refine i_rp1 rfl rfl ?_
          all_goals skip
          exact ret_eq rfl rfl (congrArg Ty.bool (by rw [eq_comm, decide_eq_false_iff_not]; exact ne_of_nth (k := k.1) (of_decide_eq_false (by rw [← trn_eq]; exact not_b hc3))))
        ·
          try (simp only [Classical.not_not] at hc3)
          refine t_skip ?_
          refine i_block ?_
          refine i_then ?_
          refine t_region ?_
          refine r_add rfl rfl (by omega) (by omega) ?_
          refine mvI rfl ?_
          refine r_nil ?_
          refine i_round (⟨k.1 + 1, by have e : nth a k.1 = nth b k.1 := of_decide_eq_true (by rw [← trn_eq]; exact not_not_b hc3); rw [take_nth (by omega), take_nth (by omega), k.2, e]⟩) ?_ (by show a.length - (k.1 + 1) < a.length - k.1; omega)
          (refine Ent.mk' ?_ ?_ <;> (repeat' (first | exact allSub_zero | exact allTags_nil | refine allSub_succ' ?_ (Ty.sub_any _) | refine allSub_succ' ?_ (Ty.sub_refl _))))
          all_goals skip
      ·
        try (simp only [Classical.not_not] at hc2)
        refine t_exit ?_
        refine i_then_exit ?_
        refine i_then_exit ?_
        refine i_block_exit rfl ?_
        refine i_then ?_
        refine t_seq ?_
        refine t_region ?_
        refine asB rfl ?_
        refine r_nil ?_
        refine i_then ?_
        refine t_ret ?_
        refine i_rp1 rfl rfl ?_
        all_goals skip
        exact ret_eq rfl rfl (congrArg Ty.bool (by rw [eq_comm, decide_eq_true_eq]; have := k.2; rwa [List.take_of_length_le (by omega), List.take_of_length_le (by omega)] at this))
set_option maxRecDepth 100000 in
theorem c_Eq_trn (a b : List Trn) : Ctr Try.prog 91 [Ty.sl TrnE a, Ty.sl TrnE b] (Ty.bool (decide (a = b))) := by
  refine fn_intro Try.func91 rfl (by decide) Try.ntmps91 (by exact Nat.le_of_ble_eq_true rfl) fun w0 M0 => ?_
  refine t_seq ?_
  refine t_region ?_
  refine asB rfl ?_
  refine r_nil ?_
  refine i_then ?_
  refine t_seq ?_
  refine t_region ?_
  refine mvS rfl ?_
  refine mvS rfl ?_
  refine r_call (c_Equal_trn _ _) rfl rfl rfl rfl rfl ?_
  refine asB rfl ?_
  refine r_nil ?_
  refine i_then ?_
  refine t_ret ?_
  refine i_rp1 rfl rfl ?_
  all_goals exact ret_refl rfl rfl
set_option maxRecDepth 100000 in
theorem c_Dup_rul (l : List Rul) (h : l.length ≤ 1000) : Ctr Try.prog 78 [Ty.sl RulE l] (Ty.sl RulE l) := by
  refine fn_intro Try.func78 rfl (by decide) Try.ntmps78 (by exact Nat.le_of_ble_eq_true rfl) fun w0 M0 => ?_
  refine t_seq ?_
  refine t_region ?_
  refine asX rfl ?_
  refine r_nil ?_
  refine i_then ?_
  refine t_seq ?_
  refine t_region ?_
  refine mvS rfl ?_
  refine r_len rfl rfl rfl ?_
  refine r_make0 (E := RulE) rfl rfl rfl rfl rfl rfl rfl (by decide) rfl (by omega) (by (dsimp only; omega)) (by omega) ?_
  refine mvS rfl ?_
  refine r_append rfl rfl (by decide) rfl rfl rfl rfl rfl rfl (by decide) (by (simp <;> omega)) (by (simp <;> omega)) ?_
  refine asR rfl ?_
  refine r_nil ?_
  refine i_then ?_
  refine t_ret ?_
  refine i_rp1 rfl rfl ?_
  all_goals exact ret_row (by decide)
set_option maxRecDepth 100000 in
theorem c_Equal_rul (a b : List Rul) : Ctr Try.prog 125 [Ty.sl RulE a, Ty.sl RulE b] (Ty.bool (decide (a = b))) := by
  refine fn_intro Try.func125 rfl (by decide) Try.ntmps125 (by exact Nat.le_of_ble_eq_true rfl) fun w0 M0 => ?_
  refine t_fact (s := 0) rfl rfl sl_len fun ha => ?_
  refine t_fact (s := 1) rfl rfl sl_len fun hb => ?_
  refine t_seq ?_
  refine t_region ?_
  refine asB rfl ?_
  refine r_nil ?_
  refine i_then ?_
  refine t_seq ?_
  refine t_seq ?_
  refine t_region ?_
  refine mvS rfl ?_
  refine r_len rfl rfl rfl ?_
  refine mvS rfl ?_
  refine r_len rfl rfl rfl ?_
  refine r_bin rfl rfl rfl ?_
  refine r_nil ?_
  refine i_then ?_
  refine t_cond_ndec rfl (fun hc1 => ?_) (fun hc1 => ?_)
  ·
    try (simp only [Classical.not_not] at hc1)
    refine t_seq ?_
    refine t_region ?_
    refine asB rfl ?_
    refine r_nil ?_
    refine i_then ?_
    refine t_ret ?_
    refine i_then_ret ?_
    refine i_rp1 rfl rfl ?_
    all_goals skip
    exact ret_eq rfl rfl (congrArg Ty.bool (by rw [eq_comm, decide_eq_false_iff_not]; intro e; subst e; exact hc1 rfl))
  ·
    try (simp only [Classical.not_not] at hc1)
    refine t_skip ?_
    refine i_then ?_
    refine t_seq ?_
    refine t_seq ?_
    refine t_region ?_
    refine mvS rfl ?_
    refine r_len rfl rfl rfl ?_
    refine mvI rfl ?_
    refine r_nil ?_
    refine i_then ?_
    refine t_block ?_
    refine t_loop (fun (k : {k : Nat // a.take k = b.take k}) => live [(0, Ty.sl RulE a), (1, Ty.sl RulE b), (12, Ty.int .i64 a.length), (13, Ty.int .i64 (k.1 : Nat))] []) (fun k => a.length - k.1) (⟨0, by simp⟩) ?_ fun k => ?_
    · (refine Ent.mk' ?_ ?_ <;> (repeat' (first | exact allSub_zero | exact allTags_nil | refine allSub_succ' ?_ (Ty.sub_any _) | refine allSub_succ' ?_ (Ty.sub_refl _))))
    ·
      have hlen : a.length = b.length := by omega
      refine t_seq ?_
      refine t_region ?_
      refine r_bin rfl rfl rfl ?_
      refine r_nil ?_
      refine i_then ?_
      refine t_seq ?_
      refine t_cond_dec rfl (fun hc2 => ?_) (fun hc2 => ?_)
      ·
        try (simp only [Classical.not_not] at hc2)
        refine t_skip ?_
        refine i_then ?_
        refine t_seq ?_
        refine t_block ?_
        refine t_seq ?_
        refine t_region ?_
        refine mvI rfl ?_
        refine asI rfl ?_
        refine r_nil ?_
        refine i_then ?_
        refine t_seq ?_
        refine t_draw mixed rfl ?_
        refine mvS rfl ?_
        refine mvI rfl ?_
        refine r_index_slN rfl rfl rfl rfl rfl rfl (by omega) ?_
        refine r_load_ppN rfl rfl rfl (by exact Nat.le_of_ble_eq_true rfl) ?_
        refine mvS rfl ?_
        refine mvI rfl ?_
        refine r_index_slN rfl rfl rfl rfl rfl rfl (by omega) ?_
        refine r_load_ppN rfl rfl rfl (by exact Nat.le_of_ble_eq_true rfl) ?_
        refine r_neq_A (eqt69 _ _ _ _) rfl rfl ?_
        refine r_nil ?_
        refine ⟨by kernel_rfl, ?_⟩
        refine i_then ?_
        refine t_cond rfl (fun hc3 => ?_) (fun hc3 => ?_)
        ·
          try (simp only [Classical.not_not] at hc3)
          refine t_seq ?_
          refine t_region ?_
          refine asB rfl ?_
          refine r_nil ?_
          refine i_then ?_
          refine t_ret ?_
          refine i_block_ret ?_
          refine i_then_ret ?_
          refine i_then_ret ?_
          refine i_block_ret ?_
          refine i_then_ret ?_
          refine i_rp1 rfl rfl ?_
          all_goals skip
          exact ret_eq rfl rfl (congrArg Ty.bool (by rw [eq_comm, decide_eq_false_iff_not]; exact ne_of_nth (k := k.1) (of_decide_eq_false (by rw [← rul_eq]; exact not_b hc3))))
        ·
          try (simp only [Classical.not_not] at hc3)
          refine t_skip ?_
          refine i_block ?_
          refine i_then ?_
          refine t_region ?_
          refine r_add rfl rfl (by omega) (by omega) ?_
          refine mvI rfl ?_
          refine r_nil ?_
          refine i_round (⟨k.1 + 1, by have e : nth a k.1 = nth b k.1 := of_decide_eq_true (by rw [← rul_eq]; exact not_not_b hc3); rw [take_nth (by omega), take_nth (by omega), k.2, e]⟩) ?_ (by show a.length - (k.1 + 1) < a.length - k.1; omega)
          (refine Ent.mk' ?_ ?_ <;> (repeat' (first | exact allSub_zero | exact allTags_nil | refine allSub_succ' ?_ (Ty.sub_any _) | refine allSub_succ' ?_ (Ty.sub_refl _))))
          all_goals skip
      ·
        try (simp only [Classical.not_not] at hc2)
        refine t_exit ?_
        refine i_then_exit ?_
        refine i_then_exit ?_
        refine i_block_exit rfl ?_
        refine i_then ?_
        refine t_seq ?_
        refine t_region ?_
        refine asB rfl ?_
        refine r_nil ?_
        refine i_then ?_
        refine t_ret ?_
        refine i_rp1 rfl rfl ?_
        all_goals skip
        exact ret_eq rfl rfl (congrArg Ty.bool (by rw [eq_comm, decide_eq_true_eq]; have := k.2; rwa [List.take_of_length_le (by omega), List.take_of_length_le (by omega)] at this))
set_option maxRecDepth 100000 in
theorem c_Eq_rul (a b : List Rul) : Ctr Try.prog 92 [Ty.sl RulE a, Ty.sl RulE b] (Ty.bool (decide (a = b))) := by
  refine fn_intro Try.func92 rfl (by decide) Try.ntmps92 (by exact Nat.le_of_ble_eq_true rfl) fun w0 M0 => ?_
  refine t_seq ?_
  refine t_region ?_
  refine asB rfl ?_
  refine r_nil ?_
  refine i_then ?_
  refine t_seq ?_
  refine t_region ?_
  refine mvS rfl ?_
  refine mvS rfl ?_
  refine r_call (c_Equal_rul _ _) rfl rfl rfl rfl rfl ?_
  refine asB rfl ?_
  refine r_nil ?_
  refine i_then ?_
  refine t_ret ?_
  refine i_rp1 rfl rfl ?_
  all_goals exact ret_refl rfl rfl
end Go.Proofs.Ytifgbnbkimcchaa

namespace Go.Proofs.Ytifgbnbkimcchaa
open Go Go.T
attribute [local irreducible] dInt dBool dSl dPp dPtr dAgg dTup dClo dAny dEx dStr dGd dCells dVec dVs dRow dOp nth Tri Into TOps Ctr bodyPost Exit.then Exit.inBlock Code.wp Code.wpIn
theorem bin_eq (a b : Bin) : (decide (a.has = b.has) && decide (a.shares = b.shares)) = decide (a = b) := by
  cases a; cases b; simp [Bool.decide_and]
theorem flr_eq (a b : Flr) : (((decide (a.bears = b.bears) && decide (a.turnings = b.turnings)) && decide (a.rules = b.rules)) && decide (a.bins = b.bins)) = decide (a = b) := by
  cases a; cases b; simp only [Flr.mk.injEq, ← Bool.decide_and, decide_eq_decide]; exact ⟨fun h => ⟨h.1.1.1, h.2, h.1.1.2, h.1.2⟩, fun h => ⟨⟨⟨h.1, h.2.2.1⟩, h.2.2.2⟩, h.2.1⟩⟩
def Flr.great (f : Flr) : Bool := decide ((f.bears.length : Int) > 8) || decide ((f.bins.length : Int) > 9) || decide ((f.turnings.length : Int) > 11) || decide ((f.rules.length : Int) > 20) || f.bins.any fun b => decide ((b.shares.length : Int) > 8)
def two (r : List Rul) : Flr := ⟨[400, 300], [⟨60, [4, 0]⟩, ⟨30, [2, 2]⟩, ⟨0, [0, 4]⟩], [⟨0, 1, 40⟩, ⟨1, 2, 30⟩, ⟨-1, 0, 40⟩], r⟩
set_option maxRecDepth 100000 in
theorem c_EqualFunc_bin (a b : List Bin) (f : Nat) (hf : ∀ x y, Ctr Try.prog f [Ty.agg (BinE.tys x), Ty.agg (BinE.tys y)] (Ty.bool (decide (x = y)))) : Ctr Try.prog 93 [Ty.sl BinE a, Ty.sl BinE b, Ty.clo f []] (Ty.bool (decide (a = b))) := by
  refine fn_intro Try.func93 rfl (by decide) Try.ntmps93 (by exact Nat.le_of_ble_eq_true rfl) fun w0 M0 => ?_
  refine t_fact (s := 0) rfl rfl sl_len fun ha => ?_
  refine t_fact (s := 1) rfl rfl sl_len fun hb => ?_
  refine t_seq ?_
  refine t_region ?_
  refine asB rfl ?_
  refine r_nil ?_
  refine i_then ?_
  refine t_seq ?_
  refine t_seq ?_
  refine t_region ?_
  refine mvS rfl ?_
  refine r_len rfl rfl rfl ?_
  refine mvS rfl ?_
  refine r_len rfl rfl rfl ?_
  refine r_bin rfl rfl rfl ?_
  refine r_nil ?_
  refine i_then ?_
  refine t_cond_ndec rfl (fun hc1 => ?_) (fun hc1 => ?_)
  ·
    try (simp only [Classical.not_not] at hc1)
    refine t_seq ?_
    refine t_region ?_
    refine asB rfl ?_
    refine r_nil ?_
    refine i_then ?_
    refine t_ret ?_
    refine i_then_ret ?_
    refine i_rp1 rfl rfl ?_
    all_goals skip
    exact ret_eq rfl rfl (congrArg Ty.bool (by rw [eq_comm, decide_eq_false_iff_not]; intro e; subst e; exact hc1 rfl))
  ·
    try (simp only [Classical.not_not] at hc1)
    refine t_skip ?_
    refine i_then ?_
    refine t_seq ?_
    refine t_seq ?_
    refine t_region ?_
    refine mvS rfl ?_
    refine r_len rfl rfl rfl ?_
    refine mvI rfl ?_
    refine r_nil ?_
    refine i_then ?_
    refine t_block ?_
    refine t_loop (fun (k : {k : Nat // a.take k = b.take k}) => live [(0, Ty.sl BinE a), (1, Ty.sl BinE b), (2, Ty.clo f []), (15, Ty.sl BinE a), (16, Ty.int .i64 a.length), (17, Ty.int .i64 (k.1 : Nat))] []) (fun k => a.length - k.1) (⟨0, by simp⟩) ?_ fun k => ?_
    · (refine Ent.mk' ?_ ?_ <;> (repeat' (first | exact allSub_zero | exact allTags_nil | refine allSub_succ' ?_ (Ty.sub_any _) | refine allSub_succ' ?_ (Ty.sub_refl _))))
    ·
      have hlen : a.length = b.length := by omega
      refine t_seq ?_
      refine t_region ?_
      refine r_bin rfl rfl rfl ?_
      refine r_nil ?_
      refine i_then ?_
      refine t_seq ?_
      refine t_cond_dec rfl (fun hc2 => ?_) (fun hc2 => ?_)
      ·
        try (simp only [Classical.not_not] at hc2)
        refine t_skip ?_
        refine i_then ?_
        refine t_seq ?_
        refine t_block ?_
        refine t_seq ?_
        refine t_region ?_
        refine mvI rfl ?_
        refine r_index_slN rfl rfl rfl rfl rfl rfl (by omega) ?_
        refine r_load_ppN rfl rfl rfl (by exact Nat.le_of_ble_eq_true rfl) ?_
        refine r_alloc rfl (by exact List.cons_ne_nil _ _) rfl ?_
        refine asI rfl ?_
        refine r_storeN rfl rfl (by decide) rfl rfl rfl rfl rfl rfl ?_
        refine r_nil ?_
        refine i_then ?_
        refine t_seq ?_
        refine t_region ?_
        refine mvS rfl ?_
        refine mvI rfl ?_
        refine r_index_slN rfl rfl rfl rfl rfl rfl (by omega) ?_
        refine r_load_ppN rfl rfl rfl (by exact Nat.le_of_ble_eq_true rfl) ?_
        refine r_alloc rfl (by exact List.cons_ne_nil _ _) rfl ?_
        refine r_storeN rfl rfl (by decide) rfl rfl rfl rfl rfl rfl ?_
        refine r_nil ?_
        refine i_then ?_
        refine t_seq ?_
        refine t_region ?_
        refine mvF rfl ?_
        refine r_load_ptrN rfl rfl (by decide) rfl rfl (by exact Nat.le_of_ble_eq_true rfl) ?_
        refine r_load_ptrN rfl rfl (by decide) rfl rfl (by exact Nat.le_of_ble_eq_true rfl) ?_
        refine r_callv rfl (hf _ _) rfl rfl rfl rfl rfl ?_
        refine r_not rfl ?_
        refine r_nil ?_
        refine i_then ?_
        refine t_cond_ndec rfl (fun hc3 => ?_) (fun hc3 => ?_)
        ·
          try (simp only [Classical.not_not] at hc3)
          refine t_seq ?_
          refine t_region ?_
          refine asB rfl ?_
          refine r_nil ?_
          refine i_then ?_
          refine t_ret ?_
          refine i_block_ret ?_
          refine i_then_ret ?_
          refine i_then_ret ?_
          refine i_block_ret ?_
          refine i_then_ret ?_
          refine i_rp1 rfl rfl ?_
          all_goals skip
          exact ret_eq rfl rfl (congrArg Ty.bool (by rw [eq_comm, decide_eq_false_iff_not]; exact ne_of_nth (k := k.1) hc3))
        ·
          try (simp only [Classical.not_not] at hc3)
          refine t_skip ?_
          refine i_block ?_
          refine i_then ?_
          refine t_region ?_
          refine r_add rfl rfl (by omega) (by omega) ?_
          refine mvI rfl ?_
          refine r_nil ?_
          refine i_round (⟨k.1 + 1, by have e : nth a k.1 = nth b k.1 := hc3; rw [take_nth (by omega), take_nth (by omega), k.2, e]⟩) ?_ (by show a.length - (k.1 + 1) < a.length - k.1; omega)
          (refine Ent.mk' ?_ ?_ <;> (repeat' (first | exact allSub_zero | exact allTags_nil | refine allSub_succ' ?_ (Ty.sub_any _) | refine allSub_succ' ?_ (Ty.sub_refl _))))
          all_goals skip
      ·
        try (simp only [Classical.not_not] at hc2)
        refine t_exit ?_
        refine i_then_exit ?_
        refine i_then_exit ?_
        refine i_block_exit rfl ?_
        refine i_then ?_
        refine t_seq ?_
        refine t_region ?_
        refine asB rfl ?_
        refine r_nil ?_
        refine i_then ?_
        refine t_ret ?_
        refine i_rp1 rfl rfl ?_
        all_goals skip
        exact ret_eq rfl rfl (congrArg Ty.bool (by rw [eq_comm, decide_eq_true_eq]; have := k.2; rwa [List.take_of_length_le (by omega), List.take_of_length_le (by omega)] at this))
set_option maxRecDepth 100000 in
theorem c_same1 (a b : Bin) : Ctr Try.prog 94 [Ty.agg (BinE.tys a), Ty.agg (BinE.tys b)] (Ty.bool (decide (a = b))) := by
  refine fn_intro Try.func94 rfl (by decide) Try.ntmps94 (by exact Nat.le_of_ble_eq_true rfl) fun w0 M0 => ?_
  refine t_seq ?_
  refine t_region ?_
  refine r_box_agg rfl ?_
  refine r_box_agg rfl ?_
  refine asB rfl ?_
  refine r_nil ?_
  refine i_then ?_
  refine t_seq ?_
  refine t_region ?_
  refine r_field_pp rfl rfl rfl rfl rfl (by decide) ?_
  refine r_load_pp rfl rfl rfl rfl ?_
  refine r_field_pp rfl rfl rfl rfl rfl (by decide) ?_
  refine r_load_pp rfl rfl rfl rfl ?_
  refine r_bin rfl rfl rfl ?_
  refine mvB rfl ?_
  apply r_guard (s := 10) rfl rfl rfl
  · intro hg; apply opT_of; (refine r_field_pp rfl rfl rfl rfl rfl (by decide) ?_); refine r_nil ?_; exact rfl
  · exact rfl
  · exact rfl
  apply r_guard (s := 10) rfl rfl rfl
  · intro hg; apply opT_strip (s := 11) rfl (by (rw [hg]; rfl)); apply opT_of; (refine r_load_pp rfl rfl rfl rfl ?_); refine r_nil ?_; exact rfl
  · exact rfl
  · exact rfl
  apply r_guard (s := 10) rfl rfl rfl
  · intro hg; apply opT_of; (refine r_field_pp rfl rfl rfl rfl rfl (by decide) ?_); refine r_nil ?_; exact rfl
  · exact rfl
  · exact rfl
  apply r_guard (s := 10) rfl rfl rfl
  · intro hg; apply opT_strip (s := 13) rfl (by (rw [hg]; rfl)); apply opT_of; (refine r_load_pp rfl rfl rfl rfl ?_); refine r_nil ?_; exact rfl
  · exact rfl
  · exact rfl
  apply r_guard (s := 10) rfl rfl rfl
  · intro hg; apply opT_strip (s := 12) rfl (by (rw [hg]; rfl)); apply opT_strip (s := 14) rfl (by (rw [hg]; rfl)); apply opT_of; (refine r_call (c_Eq_int _ _) rfl rfl rfl rfl rfl ?_); refine r_nil ?_; exact rfl
  · exact rfl
  · exact rfl
  refine r_and rfl rfl ?_
  refine asB rfl ?_
  refine r_nil ?_
  refine i_then ?_
  refine t_ret ?_
  refine i_rp1 rfl rfl ?_
  all_goals skip
  exact ret_eq rfl rfl (congrArg Ty.bool (bin_eq a b))
set_option maxRecDepth 100000 in
theorem c_same (a b : Flr) : Ctr Try.prog 24 [flrT a, flrT b] (Ty.bool (decide (a = b))) := by
  refine fn_intro Try.func24 rfl (by decide) Try.ntmps24 (by exact Nat.le_of_ble_eq_true rfl) fun w0 M0 => ?_
  refine t_seq ?_
  refine t_region ?_
  refine r_box_agg rfl ?_
  refine r_box_agg rfl ?_
  refine asB rfl ?_
  refine r_nil ?_
  refine i_then ?_
  refine t_seq ?_
  refine t_region ?_
  refine r_field_pp rfl rfl rfl rfl rfl (by decide) ?_
  refine r_load_pp rfl rfl rfl rfl ?_
  refine r_field_pp rfl rfl rfl rfl rfl (by decide) ?_
  refine r_load_pp rfl rfl rfl rfl ?_
  refine r_call (c_Eq_int _ _) rfl rfl rfl rfl rfl ?_
  refine mvB rfl ?_
  apply r_guard (s := 10) rfl rfl rfl
  · intro hg; apply opT_of; (refine r_field_pp rfl rfl rfl rfl rfl (by decide) ?_); refine r_nil ?_; exact rfl
  · exact rfl
  · exact rfl
  apply r_guard (s := 10) rfl rfl rfl
  · intro hg; apply opT_strip (s := 11) rfl (by (rw [hg]; rfl)); apply opT_of; (refine r_load_pp rfl rfl rfl rfl ?_); refine r_nil ?_; exact rfl
  · exact rfl
  · exact rfl
  apply r_guard (s := 10) rfl rfl rfl
  · intro hg; apply opT_of; (refine r_field_pp rfl rfl rfl rfl rfl (by decide) ?_); refine r_nil ?_; exact rfl
  · exact rfl
  · exact rfl
  apply r_guard (s := 10) rfl rfl rfl
  · intro hg; apply opT_strip (s := 13) rfl (by (rw [hg]; rfl)); apply opT_of; (refine r_load_pp rfl rfl rfl rfl ?_); refine r_nil ?_; exact rfl
  · exact rfl
  · exact rfl
  apply r_guard (s := 10) rfl rfl rfl
  · intro hg; apply opT_strip (s := 12) rfl (by (rw [hg]; rfl)); apply opT_strip (s := 14) rfl (by (rw [hg]; rfl)); apply opT_of; (refine r_call (c_Eq_trn _ _) rfl rfl rfl rfl rfl ?_); refine r_nil ?_; exact rfl
  · exact rfl
  · exact rfl
  refine r_and rfl rfl ?_
  refine mvB rfl ?_
  apply r_guard (s := 17) rfl rfl rfl
  · intro hg; apply opT_of; (refine r_field_pp rfl rfl rfl rfl rfl (by decide) ?_); refine r_nil ?_; exact rfl
  · exact rfl
  · exact rfl
  apply r_guard (s := 17) rfl rfl rfl
  · intro hg; apply opT_strip (s := 18) rfl (by (rw [hg]; rfl)); apply opT_of; (refine r_load_pp rfl rfl rfl rfl ?_); refine r_nil ?_; exact rfl
  · exact rfl
  · exact rfl
  apply r_guard (s := 17) rfl rfl rfl
  · intro hg; apply opT_of; (refine r_field_pp rfl rfl rfl rfl rfl (by decide) ?_); refine r_nil ?_; exact rfl
  · exact rfl
  · exact rfl
  apply r_guard (s := 17) rfl rfl rfl
  · intro hg; apply opT_strip (s := 20) rfl (by (rw [hg]; rfl)); apply opT_of; (refine r_load_pp rfl rfl rfl rfl ?_); refine r_nil ?_; exact rfl
  · exact rfl
  · exact rfl
  apply r_guard (s := 17) rfl rfl rfl
  · intro hg; apply opT_strip (s := 19) rfl (by (rw [hg]; rfl)); apply opT_strip (s := 21) rfl (by (rw [hg]; rfl)); apply opT_of; (refine r_call (c_Eq_rul _ _) rfl rfl rfl rfl rfl ?_); refine r_nil ?_; exact rfl
  · exact rfl
  · exact rfl
  refine r_and rfl rfl ?_
  refine mvB rfl ?_
  apply r_guard (s := 24) rfl rfl rfl
  · intro hg; apply opT_of; (refine r_field_pp rfl rfl rfl rfl rfl (by decide) ?_); refine r_nil ?_; exact rfl
  · exact rfl
  · exact rfl
  apply r_guard (s := 24) rfl rfl rfl
  · intro hg; apply opT_strip (s := 25) rfl (by (rw [hg]; rfl)); apply opT_of; (refine r_load_pp rfl rfl rfl rfl ?_); refine r_nil ?_; exact rfl
  · exact rfl
  · exact rfl
  apply r_guard (s := 24) rfl rfl rfl
  · intro hg; apply opT_of; (refine r_field_pp rfl rfl rfl rfl rfl (by decide) ?_); refine r_nil ?_; exact rfl
  · exact rfl
  · exact rfl
  apply r_guard (s := 24) rfl rfl rfl
  · intro hg; apply opT_strip (s := 27) rfl (by (rw [hg]; rfl)); apply opT_of; (refine r_load_pp rfl rfl rfl rfl ?_); refine r_nil ?_; exact rfl
  · exact rfl
  · exact rfl
  apply r_guard (s := 24) rfl rfl rfl
  · intro hg; apply opT_strip (s := 26) rfl (by (rw [hg]; rfl)); apply opT_strip (s := 28) rfl (by (rw [hg]; rfl)); apply opT_of; (refine r_call (c_EqualFunc_bin _ _ _ c_same1) rfl rfl rfl rfl rfl ?_); refine r_nil ?_; exact rfl
  · exact rfl
  · exact rfl
  refine r_and rfl rfl ?_
  refine asB rfl ?_
  refine r_nil ?_
  refine i_then ?_
  refine t_ret ?_
  refine i_rp1 rfl rfl ?_
  all_goals skip
  exact ret_eq rfl rfl (congrArg Ty.bool (flr_eq a b))
set_option maxRecDepth 100000 in
theorem c_Own (f : Flr) (hs : f.Small) : Ctr Try.prog 15 [flrT f] (flrT f) := by
  refine fn_intro Try.func15 rfl (by decide) Try.ntmps15 (by exact Nat.le_of_ble_eq_true rfl) fun w0 M0 => ?_
  have hs1 := hs.bears; have hs2 := hs.bins; have hs3 := hs.turnings; have hs4 := hs.rules
  refine t_seq ?_
  refine t_region ?_
  refine r_box_agg rfl ?_
  refine r_alloc rfl (by exact List.cons_ne_nil _ _) rfl ?_
  refine r_nil ?_
  refine i_then ?_
  refine t_seq ?_
  refine t_draw mixed rfl ?_
  refine r_field_pp rfl rfl rfl rfl rfl (by decide) ?_
  refine r_load_pp rfl rfl rfl rfl ?_
  refine r_call (c_Dup_int f.bears (by have := hs.bears; omega)) rfl rfl rfl rfl rfl ?_
  refine r_field_pp rfl rfl rfl rfl rfl (by decide) ?_
  refine r_load_pp rfl rfl rfl rfl ?_
  refine r_call (c_Dup_trn f.turnings (by have := hs.turnings; omega)) rfl rfl rfl rfl rfl ?_
  refine r_field_pp rfl rfl rfl rfl rfl (by decide) ?_
  refine r_load_pp rfl rfl rfl rfl ?_
  refine r_call (c_Dup_rul f.rules (by have := hs.rules; omega)) rfl rfl rfl rfl rfl ?_
  refine r_build rfl rfl (by exact List.cons_ne_nil _ _) rfl (by repeat (first | exact (Parts.nil : Parts _ _ [] _) | (show Parts _ _ ((_, _) :: _) _; apply Parts.one; (· exact (rfl : _ = Ty.sl _ _)); (· exact rfl)))) (by exact (rfl : _ = some [_, _, _, _])) ?_
  refine r_alloc rfl (by exact List.cons_ne_nil _ _) rfl ?_
  refine r_storeN rfl rfl (by decide) rfl rfl rfl rfl rfl rfl ?_
  refine r_nil ?_
  refine ⟨by kernel_rfl, ?_⟩
  refine i_then ?_
  refine t_seq ?_
  refine t_seq ?_
  refine t_region ?_
  refine r_field_pp rfl rfl rfl rfl rfl (by decide) ?_
  refine r_load_pp rfl rfl rfl rfl ?_
  refine r_len rfl rfl rfl ?_
  refine mvI rfl ?_
  refine r_nil ?_
  refine i_then ?_
  refine t_block ?_
  refine t_loop (fun (k : Nat) => live [(2, Ty.ptr 3 0), (3, Ty.ptr 4 0), (17, Ty.sl BinE f.bins), (18, Ty.int .i64 f.bins.length), (19, Ty.int .i64 (k : Nat))] [(3, Cont.cells 27 [Ty.ex (.slice none 0 0), Ty.ex (.slice none 0 0), Ty.ex (.slice none 0 0), Ty.ex (.slice none 0 0)]), (4, Cont.cells 27 [Ty.sl I64 f.bears, Ty.row BinE 79 33 (f.bins.take k), Ty.sl TrnE f.turnings, Ty.sl RulE f.rules])]) (fun k => f.bins.length - k) (0) ?_ fun k => ?_
  · (refine Ent.mk' ?_ ?_ <;> (repeat' (first | exact allSub_zero | exact allTags_nil | exact subs_nil | refine allSub_succ' ?_ (Ty.sub_any _) | refine allSub_succ' ?_ (Ty.sub_refl _) | refine allTags_cons rfl (Cont.sub_refl _) ?_ | refine allTags_cons rfl (Cont.sub_subs ?_) ?_ | refine subs_cons ?_ (Ty.sub_refl _) | refine subs_cons ?_ Ty.nil_row)))
  ·
    have hb := hs.bins
    refine t_seq ?_
    refine t_region ?_
    refine r_bin rfl rfl rfl ?_
    refine r_nil ?_
    refine i_then ?_
    refine t_seq ?_
    refine t_cond_dec rfl (fun hc1 => ?_) (fun hc1 => ?_)
    ·
      refine t_skip ?_
      refine i_then ?_
      refine t_seq ?_
      refine t_block ?_
      refine t_seq ?_
      refine t_region ?_
      refine r_index_slN rfl rfl rfl rfl rfl rfl (by omega) ?_
      refine r_load_ppN rfl rfl rfl (by exact Nat.le_of_ble_eq_true rfl) ?_
      refine r_alloc rfl (by exact List.cons_ne_nil _ _) rfl ?_
      refine r_storeN rfl rfl (by decide) rfl rfl rfl rfl rfl rfl ?_
      refine r_nil ?_
      refine i_then ?_
      refine t_draw mixed rfl ?_
      refine r_field_ptr rfl rfl rfl rfl rfl (by decide) ?_
      refine r_load_ptr rfl rfl (by decide) rfl rfl rfl ?_
      refine r_field_ptr rfl rfl rfl rfl rfl (by decide) ?_
      refine r_load_ptr rfl rfl (by decide) rfl rfl rfl ?_
      refine r_field_ptr rfl rfl rfl rfl rfl (by decide) ?_
      refine r_load_ptr rfl rfl (by decide) rfl rfl rfl ?_
      refine r_call (c_Dup_int (nth f.bins k).shares (by have := hs.shares _ (nth_mem (xs := f.bins) (k := k) (by omega)); omega)) rfl rfl rfl rfl rfl ?_
      refine r_build rfl rfl (by exact List.cons_ne_nil _ _) rfl (by repeat (first | exact (Parts.nil : Parts _ _ [] _) | (show Parts _ _ ((_, _) :: _) _; apply Parts.one; (· first | exact (rfl : _ = Ty.int _ _) | exact (rfl : _ = Ty.sl _ _)); (· exact rfl)))) (by exact (rfl : _ = some [_, _])) ?_
      refine r_buildSlice (E := BinE) (xs := [nth f.bins k]) rfl rfl rfl rfl rfl (by decide) (by decide) (by repeat (first | exact (Parts.nil : Parts _ _ [] _) | (show Parts _ _ ((_, _) :: _) _; apply Parts.agg; (· exact (rfl : _ = Ty.agg _))))) (by exact rfl) rfl ?_
      refine r_append rfl rfl (by decide) rfl rfl rfl rfl rfl rfl (by decide) (by (simp <;> omega)) (by (simp <;> omega)) ?_
      refine r_field_ptr rfl rfl rfl rfl rfl (by decide) ?_
      refine r_store1 rfl rfl (by decide) rfl rfl (by exact (rfl : _ = Ty.row _ _ _ _)) rfl (by exact Nat.le_of_ble_eq_true rfl) rfl rfl (by exact rfl) ?_
      refine r_nil ?_
      refine ⟨by kernel_rfl, ?_⟩
      refine i_block ?_
      refine i_then ?_
      refine t_region ?_
      refine r_add rfl rfl (by omega) (by omega) ?_
      refine mvI rfl ?_
      refine r_nil ?_
      refine i_round (k + 1) ?_ (by omega)
      (refine Ent.mk' ?_ ?_ <;> (repeat' (first | exact allSub_zero | exact allTags_nil | exact subs_nil | refine allSub_succ' ?_ (Ty.sub_any _) | refine allSub_succ' ?_ (Ty.sub_refl _) | refine allTags_cons rfl (Cont.sub_refl _) ?_ | refine allTags_cons rfl (Cont.sub_subs ?_) ?_ | refine subs_cons ?_ (Ty.sub_refl _) | refine subs_cons ?_ ?_)))
      all_goals exact Ty.sub_row (take_nth (by omega)).symm
    ·
      refine t_exit ?_
      refine i_then_exit ?_
      refine i_then_exit ?_
      refine i_block_exit rfl ?_
      refine i_then ?_
      refine t_seq ?_
      refine t_region ?_
      refine r_load_ptrN rfl rfl (by decide) rfl rfl (by exact Nat.le_of_ble_eq_true rfl) ?_
      refine r_storeN rfl rfl (by decide) rfl rfl rfl rfl rfl rfl ?_
      refine r_nil ?_
      refine i_then ?_
      refine t_ret ?_
      refine i_rcell rfl rfl rfl rfl (by decide) rfl rfl rfl ?_
      exact ret_agg (ts := flrTys f) (rets_cons (ret_refl rfl rfl) (rets_cons (ret_row_eq (by decide) (List.take_of_length_le (by omega))) (rets_cons (ret_refl rfl rfl) (rets_cons (ret_refl rfl rfl) rets_nil))))
set_option maxRecDepth 100000 in
theorem c_great1 (b : Bin) : Ctr Try.prog 74 [Ty.agg (BinE.tys b)] (Ty.bool (decide ((b.shares.length : Int) > 8))) := by
  refine fn_intro Try.func74 rfl (by decide) Try.ntmps74 (by exact Nat.le_of_ble_eq_true rfl) fun w0 M0 => ?_
  refine t_seq ?_
  refine t_region ?_
  refine r_box_agg rfl ?_
  refine asB rfl ?_
  refine r_nil ?_
  refine i_then ?_
  refine t_seq ?_
  refine t_region ?_
  refine r_field_pp rfl rfl rfl rfl rfl (by decide) ?_
  refine r_load_pp rfl rfl rfl rfl ?_
  refine r_len rfl rfl rfl ?_
  refine r_bin rfl rfl rfl ?_
  refine asB rfl ?_
  refine r_nil ?_
  refine i_then ?_
  refine t_ret ?_
  refine i_rp1 rfl rfl ?_
  all_goals exact ret_refl rfl rfl
set_option maxRecDepth 100000 in
theorem c_great (f : Flr) : Ctr Try.prog 13 [flrT f] (Ty.bool f.great) := by
  refine fn_intro Try.func13 rfl (by decide) Try.ntmps13 (by exact Nat.le_of_ble_eq_true rfl) fun w0 M0 => ?_
  refine t_seq ?_
  refine t_region ?_
  refine r_box_agg rfl ?_
  refine asB rfl ?_
  refine r_nil ?_
  refine i_then ?_
  refine t_seq ?_
  refine t_region ?_
  refine r_field_pp rfl rfl rfl rfl rfl (by decide) ?_
  refine r_load_pp rfl rfl rfl rfl ?_
  refine r_len rfl rfl rfl ?_
  refine r_bin rfl rfl rfl ?_
  refine mvB rfl ?_
  apply r_guard (s := 7) rfl rfl rfl
  · intro hg; apply opT_of; (refine r_field_pp rfl rfl rfl rfl rfl (by decide) ?_); refine r_nil ?_; exact rfl
  · exact rfl
  · exact rfl
  apply r_guard (s := 7) rfl rfl rfl
  · intro hg; apply opT_strip (s := 8) rfl (by (rw [hg]; rfl)); apply opT_of; (refine r_load_pp rfl rfl rfl rfl ?_); refine r_nil ?_; exact rfl
  · exact rfl
  · exact rfl
  apply r_guard (s := 7) rfl rfl rfl
  · intro hg; apply opT_strip (s := 9) rfl (by (rw [hg]; rfl)); apply opT_of; (refine r_len rfl rfl rfl ?_); refine r_nil ?_; exact rfl
  · exact rfl
  · exact rfl
  apply r_guard (s := 7) rfl rfl rfl
  · intro hg; apply opT_strip (s := 10) rfl (by (rw [hg]; rfl)); apply opT_of; (refine r_bin rfl rfl rfl ?_); refine r_nil ?_; exact rfl
  · exact rfl
  · exact rfl
  refine r_or rfl rfl ?_
  refine mvB rfl ?_
  apply r_guard (s := 13) rfl rfl rfl
  · intro hg; apply opT_of; (refine r_field_pp rfl rfl rfl rfl rfl (by decide) ?_); refine r_nil ?_; exact rfl
  · exact rfl
  · exact rfl
  apply r_guard (s := 13) rfl rfl rfl
  · intro hg; apply opT_strip (s := 14) rfl (by (rw [hg]; rfl)); apply opT_of; (refine r_load_pp rfl rfl rfl rfl ?_); refine r_nil ?_; exact rfl
  · exact rfl
  · exact rfl
  apply r_guard (s := 13) rfl rfl rfl
  · intro hg; apply opT_strip (s := 15) rfl (by (rw [hg]; rfl)); apply opT_of; (refine r_len rfl rfl rfl ?_); refine r_nil ?_; exact rfl
  · exact rfl
  · exact rfl
  apply r_guard (s := 13) rfl rfl rfl
  · intro hg; apply opT_strip (s := 16) rfl (by (rw [hg]; rfl)); apply opT_of; (refine r_bin rfl rfl rfl ?_); refine r_nil ?_; exact rfl
  · exact rfl
  · exact rfl
  refine r_or rfl rfl ?_
  refine mvB rfl ?_
  apply r_guard (s := 19) rfl rfl rfl
  · intro hg; apply opT_of; (refine r_field_pp rfl rfl rfl rfl rfl (by decide) ?_); refine r_nil ?_; exact rfl
  · exact rfl
  · exact rfl
  apply r_guard (s := 19) rfl rfl rfl
  · intro hg; apply opT_strip (s := 20) rfl (by (rw [hg]; rfl)); apply opT_of; (refine r_load_pp rfl rfl rfl rfl ?_); refine r_nil ?_; exact rfl
  · exact rfl
  · exact rfl
  apply r_guard (s := 19) rfl rfl rfl
  · intro hg; apply opT_strip (s := 21) rfl (by (rw [hg]; rfl)); apply opT_of; (refine r_len rfl rfl rfl ?_); refine r_nil ?_; exact rfl
  · exact rfl
  · exact rfl
  apply r_guard (s := 19) rfl rfl rfl
  · intro hg; apply opT_strip (s := 22) rfl (by (rw [hg]; rfl)); apply opT_of; (refine r_bin rfl rfl rfl ?_); refine r_nil ?_; exact rfl
  · exact rfl
  · exact rfl
  refine r_or rfl rfl ?_
  refine mvB rfl ?_
  apply r_guard (s := 25) rfl rfl rfl
  · intro hg; apply opT_of; (refine r_field_pp rfl rfl rfl rfl rfl (by decide) ?_); refine r_nil ?_; exact rfl
  · exact rfl
  · exact rfl
  apply r_guard (s := 25) rfl rfl rfl
  · intro hg; apply opT_strip (s := 26) rfl (by (rw [hg]; rfl)); apply opT_of; (refine r_load_pp rfl rfl rfl rfl ?_); refine r_nil ?_; exact rfl
  · exact rfl
  · exact rfl
  apply r_guard (s := 25) rfl rfl rfl
  · intro hg; apply opT_strip (s := 27) rfl (by (rw [hg]; rfl)); apply opT_of; (refine r_call (c_ContainsFunc_bin f.bins (Ty.clo _ []) rfl (fun b => decide ((b.shares.length : Int) > 8)) rfl rfl fun b _ => cal_clo (c_great1 b) rfl rfl rfl rfl rfl rfl) rfl rfl rfl rfl rfl ?_); refine r_nil ?_; exact rfl
  · exact rfl
  · exact rfl
  refine r_or rfl rfl ?_
  refine asB rfl ?_
  refine r_nil ?_
  refine i_then ?_
  refine t_ret ?_
  refine i_rp1 rfl rfl ?_
  all_goals exact ret_refl rfl rfl
set_option maxRecDepth 100000 in
theorem c_Two (r : List Rul) : Ctr Try.prog 75 [Ty.sl RulE r] (flrT (two r)) := by
  refine fn_intro Try.func75 rfl (by decide) Try.ntmps75 (by exact Nat.le_of_ble_eq_true rfl) fun w0 M0 => ?_
  refine t_seq ?_
  refine t_region ?_
  refine r_alloc rfl (by exact List.cons_ne_nil _ _) rfl ?_
  refine r_nil ?_
  refine i_then ?_
  refine t_seq ?_
  refine t_region ?_
  refine r_buildSlice (E := I64) (xs := [400, 300]) rfl rfl rfl rfl rfl (by decide) (by decide) (by repeat (first | exact (Parts.nil : Parts _ _ [] _) | (show Parts _ _ ((_, _) :: _) _; apply Parts.one; (· exact (rfl : _ = Ty.int _ _)); (· exact rfl)))) (by exact rfl) rfl ?_
  refine r_buildSlice (E := I64) (xs := [4, 0]) rfl rfl rfl rfl rfl (by decide) (by decide) (by repeat (first | exact (Parts.nil : Parts _ _ [] _) | (show Parts _ _ ((_, _) :: _) _; apply Parts.one; (· exact (rfl : _ = Ty.int _ _)); (· exact rfl)))) (by exact rfl) rfl ?_
  refine r_build rfl rfl (by exact List.cons_ne_nil _ _) rfl (by repeat (first | exact (Parts.nil : Parts _ _ [] _) | (show Parts _ _ ((_, _) :: _) _; apply Parts.one; (· first | exact (rfl : _ = Ty.int _ _) | exact (rfl : _ = Ty.sl _ _)); (· exact rfl)))) (by exact (rfl : _ = some [_, _])) ?_
  refine r_buildSlice (E := I64) (xs := [2, 2]) rfl rfl rfl rfl rfl (by decide) (by decide) (by repeat (first | exact (Parts.nil : Parts _ _ [] _) | (show Parts _ _ ((_, _) :: _) _; apply Parts.one; (· exact (rfl : _ = Ty.int _ _)); (· exact rfl)))) (by exact rfl) rfl ?_
  refine r_build rfl rfl (by exact List.cons_ne_nil _ _) rfl (by repeat (first | exact (Parts.nil : Parts _ _ [] _) | (show Parts _ _ ((_, _) :: _) _; apply Parts.one; (· first | exact (rfl : _ = Ty.int _ _) | exact (rfl : _ = Ty.sl _ _)); (· exact rfl)))) (by exact (rfl : _ = some [_, _])) ?_
  refine r_buildSlice (E := I64) (xs := [0, 4]) rfl rfl rfl rfl rfl (by decide) (by decide) (by repeat (first | exact (Parts.nil : Parts _ _ [] _) | (show Parts _ _ ((_, _) :: _) _; apply Parts.one; (· exact (rfl : _ = Ty.int _ _)); (· exact rfl)))) (by exact rfl) rfl ?_
  refine r_build rfl rfl (by exact List.cons_ne_nil _ _) rfl (by repeat (first | exact (Parts.nil : Parts _ _ [] _) | (show Parts _ _ ((_, _) :: _) _; apply Parts.one; (· exact (rfl : _ = Ty.sl _ _)); (· exact rfl)))) (by exact (rfl : _ = some [_, _])) ?_
  refine r_buildSlice (E := BinE) (xs := [⟨60, [4, 0]⟩, ⟨30, [2, 2]⟩, ⟨0, [0, 4]⟩]) rfl rfl rfl rfl rfl (by decide) (by decide) (by repeat (first | exact (Parts.nil : Parts _ _ [] _) | (show Parts _ _ ((_, _) :: _) _; apply Parts.agg; (· exact (rfl : _ = Ty.agg _))))) (by exact rfl) rfl ?_
  refine r_build rfl rfl (by exact List.cons_ne_nil _ _) rfl (by repeat (first | exact (Parts.nil : Parts _ _ [] _) | (show Parts _ _ ((_, _) :: _) _; apply Parts.one; (· exact (rfl : _ = Ty.int _ _)); (· exact rfl)))) (by exact (rfl : _ = some [_, _, _])) ?_
  refine r_build rfl rfl (by exact List.cons_ne_nil _ _) rfl (by repeat (first | exact (Parts.nil : Parts _ _ [] _) | (show Parts _ _ ((_, _) :: _) _; apply Parts.one; (· exact (rfl : _ = Ty.int _ _)); (· exact rfl)))) (by exact (rfl : _ = some [_, _, _])) ?_
  refine r_build rfl rfl (by exact List.cons_ne_nil _ _) rfl (by repeat (first | exact (Parts.nil : Parts _ _ [] _) | (show Parts _ _ ((_, _) :: _) _; apply Parts.one; (· exact (rfl : _ = Ty.int _ _)); (· exact rfl)))) (by exact (rfl : _ = some [_, _, _])) ?_
  refine r_buildSlice (E := TrnE) (xs := [⟨0, 1, 40⟩, ⟨1, 2, 30⟩, ⟨-1, 0, 40⟩]) rfl rfl rfl rfl rfl (by decide) (by decide) (by repeat (first | exact (Parts.nil : Parts _ _ [] _) | (show Parts _ _ ((_, _) :: _) _; apply Parts.agg; (· exact (rfl : _ = Ty.agg _))))) (by exact rfl) rfl ?_
  refine mvS rfl ?_
  refine r_build rfl rfl (by exact List.cons_ne_nil _ _) rfl (by repeat (first | exact (Parts.nil : Parts _ _ [] _) | (show Parts _ _ ((_, _) :: _) _; apply Parts.one; (· exact (rfl : _ = Ty.sl _ _)); (· exact rfl)))) (by exact (rfl : _ = some [_, _, _, _])) ?_
  refine r_storeN rfl rfl (by decide) rfl rfl rfl rfl rfl rfl ?_
  refine r_nil ?_
  refine i_then ?_
  refine t_ret ?_
  refine i_rcell rfl rfl rfl rfl (by decide) rfl rfl rfl ?_
  exact ret_agg (ts := flrTys (two r)) (rets_cons (ret_refl rfl rfl) (rets_cons (ret_refl rfl rfl) (rets_cons (ret_refl rfl rfl) (rets_cons (ret_refl rfl rfl) rets_nil))))
end Go.Proofs.Ytifgbnbkimcchaa

namespace Go.Proofs.Ytifgbnbkimcchaa
def iot (n : Nat) : List Int := (List.range n).map fun (k : Nat) => (k : Int)
theorem iot_succ (n : Nat) : iot (n + 1) = iot n ++ [(n : Int)] := by simp [iot, List.range_succ]
theorem iot_len (n : Nat) : (iot n).length = n := by simp [iot]
theorem mem_iot {n : Nat} {x : Int} : x ∈ iot n ↔ 0 ≤ x ∧ x < n := by
  simp only [iot, List.mem_map, List.mem_range]
  constructor
  · rintro ⟨k, hk, rfl⟩; omega
  · rintro ⟨h1, h2⟩; exact ⟨x.toNat, by omega, by omega⟩
def unk (rules : List Rul) (known : List Int) : Nat := rules.countP fun r => decide (r.fst ∉ known)
def rstep (rec : Int → List Int → List Int) (t : Int) (kn : List Int) (r : Rul) : List Int := if r.nxt = t ∧ r.fst ∉ kn then rec r.fst (kn ++ [r.fst]) else kn
def reachM (rules : List Rul) : Nat → Int → List Int → List Int
  | 0, _, known => known
  | n + 1, t, known => rules.foldl (rstep (reachM rules n) t) known
theorem unk_mono {rules : List Rul} {a b : List Int} (h : ∀ x ∈ a, x ∈ b) : unk rules b ≤ unk rules a := by
  refine List.countP_mono_left fun r _ hr => ?_
  simp only [decide_eq_true_eq] at hr ⊢
  exact fun hx => hr (h _ hx)
theorem unk_add {rules : List Rul} {kn : List Int} {r : Rul} (hr : r ∈ rules) (h : r.fst ∉ kn) : unk rules (kn ++ [r.fst]) + 1 ≤ unk rules kn := by
  unfold unk
  induction rules with
  | nil => cases hr
  | cons q l ih =>
    simp only [List.countP_cons]
    have hle : List.countP (fun r_1 => decide (r_1.fst ∉ kn ++ [r.fst])) l ≤ List.countP (fun r => decide (r.fst ∉ kn)) l := unk_mono (rules := l) fun x hx => List.mem_append_left _ hx
    rcases List.mem_cons.1 hr with rfl | hr
    · rw [if_neg (by simp), if_pos (by simpa using h)]; omega
    · have := ih hr
      have : (if decide (q.fst ∉ kn ++ [r.fst]) = true then 1 else 0) ≤ (if decide (q.fst ∉ kn) = true then 1 else 0) := by
        by_cases h1 : q.fst ∈ kn
        · rw [if_neg (by simp [h1]), if_neg (by simp [h1])]; omega
        · rw [if_pos (show decide (q.fst ∉ kn) = true by simpa using h1)]; split <;> omega
      omega
def Grew (rules : List Rul) (a b : List Int) : Prop := (∀ x ∈ a, x ∈ b) ∧ b.length + unk rules b ≤ a.length + unk rules a
theorem Grew.refl (rules : List Rul) (a : List Int) : Grew rules a a := ⟨fun _ h => h, Nat.le_refl _⟩
theorem Grew.trans {rules : List Rul} {a b c : List Int} (h : Grew rules a b) (h' : Grew rules b c) : Grew rules a c := ⟨fun x hx => h'.1 x (h.1 x hx), Nat.le_trans h'.2 h.2⟩
theorem grew_add {rules : List Rul} {kn : List Int} {r : Rul} (hr : r ∈ rules) (h : r.fst ∉ kn) : Grew rules kn (kn ++ [r.fst]) :=
  ⟨fun x hx => List.mem_append_left _ hx, by have := unk_add hr h; simp; omega⟩
theorem grew_fold {rules : List Rul} {rec : Int → List Int → List Int} {t : Int} (hrec : ∀ t kn, Grew rules kn (rec t kn)) : ∀ (l : List Rul), (∀ r ∈ l, r ∈ rules) → ∀ kn, Grew rules kn (l.foldl (rstep rec t) kn)
  | [], _, kn => .refl _ _
  | r :: l, hl, kn => by
    refine Grew.trans ?_ (grew_fold hrec l (fun x hx => hl x (List.mem_cons_of_mem _ hx)) _)
    unfold rstep
    split
    · rename_i h
      exact (grew_add (hl r List.mem_cons_self) h.2).trans (hrec _ _)
    · exact .refl _ _
theorem grew_reach (rules : List Rul) : ∀ (n : Nat) (t : Int) (kn : List Int), Grew rules kn (reachM rules n t kn)
  | 0, _, _ => .refl _ _
  | n + 1, _, kn => grew_fold (grew_reach rules n) rules (fun _ h => h) kn
def reachAll (f : Flr) (t : Int) : List Int := reachM f.rules (f.rules.length + 1) t []
def aheadM (f : Flr) (t : Int) : List Int := (iot f.turnings.length).filter fun k => decide (k ∈ reachAll f t)
theorem unk_le (rules : List Rul) (kn : List Int) : unk rules kn ≤ rules.length := List.countP_le_length
end Go.Proofs.Ytifgbnbkimcchaa

namespace Go.Proofs.Ytifgbnbkimcchaa
open Go Go.T
attribute [local irreducible] dInt dBool dSl dPp dPtr dAgg dTup dClo dAny dEx dStr dGd dCells dVec dVs dRow dOp nth Tri Into TOps Ctr bodyPost Exit.then Exit.inBlock Code.wp Code.wpIn
set_option maxRecDepth 100000 in
theorem c_theirs (f : Flr) (hs : f.Small) : Ctr Try.prog 17 [flrT f] (flrT f) := by
  refine fn_intro Try.func17 rfl (by decide) Try.ntmps17 (by exact Nat.le_of_ble_eq_true rfl) fun w0 M0 => ?_
  have hs1 := hs.bears; have hs2 := hs.bins; have hs3 := hs.turnings; have hs4 := hs.rules
  have hb := hs.bins; have ht := hs.turnings; have hr := hs.rules
  refine t_seq ?_
  refine t_region ?_
  refine r_box_agg rfl ?_
  refine r_alloc rfl (by exact List.cons_ne_nil _ _) rfl ?_
  refine r_nil ?_
  refine i_then ?_
  refine t_seq ?_
  refine t_region ?_
  refine r_field_pp rfl rfl rfl rfl rfl (by decide) ?_
  refine r_load_pp rfl rfl rfl rfl ?_
  refine r_call (c_Dup_int f.bears (by have := hs.bears; omega)) rfl rfl rfl rfl rfl ?_
  refine r_build rfl rfl (by exact List.cons_ne_nil _ _) rfl (by repeat (first | exact (Parts.nil : Parts _ _ [] _) | (show Parts _ _ ((_, _) :: _) _; apply Parts.one; (· exact (rfl : _ = Ty.sl _ _)); (· exact rfl)))) (by exact (rfl : _ = some [_, _, _, _])) ?_
  refine r_alloc rfl (by exact List.cons_ne_nil _ _) rfl ?_
  refine r_storeN rfl rfl (by decide) rfl rfl rfl rfl rfl rfl ?_
  refine r_nil ?_
  refine i_then ?_
  refine t_seq ?_
  refine t_seq ?_
  refine t_region ?_
  refine r_field_pp rfl rfl rfl rfl rfl (by decide) ?_
  refine r_load_pp rfl rfl rfl rfl ?_
  refine r_len rfl rfl rfl ?_
  refine mvI rfl ?_
  refine r_nil ?_
  refine i_then ?_
  refine t_block ?_
  refine t_loop (fun (k : Nat) => live [(1, Ty.pp (flrTys f)), (2, Ty.ptr 3 0), (3, Ty.ptr 4 0), (15, Ty.sl BinE f.bins), (16, Ty.int .i64 f.bins.length), (17, Ty.int .i64 (k : Nat))] [(3, Cont.cells 39 [Ty.ex (.slice none 0 0), Ty.ex (.slice none 0 0), Ty.ex (.slice none 0 0), Ty.ex (.slice none 0 0)]), (4, Cont.cells 39 [Ty.sl I64 f.bears, Ty.row BinE 123 26 (f.bins.take k), Ty.ex (.slice none 0 0), Ty.ex (.slice none 0 0)])]) (fun k => f.bins.length - k) (0) ?_ fun k => ?_
  · (refine Ent.mk' ?_ ?_ <;> (repeat' (first | exact allSub_zero | exact allTags_nil | exact subs_nil | refine allSub_succ' ?_ (Ty.sub_any _) | refine allSub_succ' ?_ (Ty.sub_refl _) | refine allTags_cons rfl (Cont.sub_refl _) ?_ | refine allTags_cons rfl (Cont.sub_subs ?_) ?_ | refine subs_cons ?_ (Ty.sub_refl _) | refine subs_cons ?_ Ty.nil_row)))
  ·
    refine t_seq ?_
    refine t_region ?_
    refine r_bin rfl rfl rfl ?_
    refine r_nil ?_
    refine i_then ?_
    refine t_seq ?_
    refine t_cond_dec rfl (fun hc1 => ?_) (fun hc1 => ?_)
    ·
      refine t_skip ?_
      refine i_then ?_
      refine t_seq ?_
      refine t_block ?_
      refine t_seq ?_
      refine t_region ?_
      refine r_index_slN rfl rfl rfl rfl rfl rfl (by omega) ?_
      refine r_load_ppN rfl rfl rfl (by exact Nat.le_of_ble_eq_true rfl) ?_
      refine r_alloc rfl (by exact List.cons_ne_nil _ _) rfl ?_
      refine r_storeN rfl rfl (by decide) rfl rfl rfl rfl rfl rfl ?_
      refine r_nil ?_
      refine i_then ?_
      refine t_region ?_
      refine r_field_ptr rfl rfl rfl rfl rfl (by decide) ?_
      refine r_load_ptr rfl rfl (by decide) rfl rfl rfl ?_
      refine r_load_ptrN rfl rfl (by decide) rfl rfl (by exact Nat.le_of_ble_eq_true rfl) ?_
      refine r_buildSlice (E := BinE) (xs := [nth f.bins k]) rfl rfl rfl rfl rfl (by decide) (by decide) (by repeat (first | exact (Parts.nil : Parts _ _ [] _) | (show Parts _ _ ((_, _) :: _) _; apply Parts.agg; (· exact (rfl : _ = Ty.agg _))))) (by exact rfl) rfl ?_
      refine r_append rfl rfl (by decide) rfl rfl rfl rfl rfl rfl (by decide) (by (simp <;> omega)) (by (simp <;> omega)) ?_
      refine r_field_ptr rfl rfl rfl rfl rfl (by decide) ?_
      refine r_store1 rfl rfl (by decide) rfl rfl (by exact (rfl : _ = Ty.row _ _ _ _)) rfl (by exact Nat.le_of_ble_eq_true rfl) rfl rfl (by exact rfl) ?_
      refine r_nil ?_
      refine i_block ?_
      refine i_then ?_
      refine t_region ?_
      refine r_add rfl rfl (by omega) (by omega) ?_
      refine mvI rfl ?_
      refine r_nil ?_
      refine i_round (k + 1) ?_ (by omega)
      (refine Ent.mk' ?_ ?_ <;> (repeat' (first | exact allSub_zero | exact allTags_nil | exact subs_nil | refine allSub_succ' ?_ (Ty.sub_any _) | refine allSub_succ' ?_ (Ty.sub_refl _) | refine allTags_cons rfl (Cont.sub_refl _) ?_ | refine allTags_cons rfl (Cont.sub_subs ?_) ?_ | refine subs_cons ?_ (Ty.sub_refl _) | refine subs_cons ?_ ?_)))
      all_goals exact Ty.sub_row (take_nth (by omega)).symm
    ·
      refine t_exit ?_
      refine i_then_exit ?_
      refine i_then_exit ?_
      refine i_block_exit rfl ?_
      refine i_then ?_
      refine t_seq ?_
      refine t_seq ?_
      refine t_region ?_
      refine r_field_pp rfl rfl rfl rfl rfl (by decide) ?_
      refine r_load_pp rfl rfl rfl rfl ?_
      refine r_len rfl rfl rfl ?_
      refine mvI rfl ?_
      refine r_nil ?_
      refine i_then ?_
      refine t_block ?_
      refine t_loop (fun (k : Nat) => live [(1, Ty.pp (flrTys f)), (2, Ty.ptr 3 0), (3, Ty.ptr 4 0), (29, Ty.sl TrnE f.turnings), (30, Ty.int .i64 f.turnings.length), (31, Ty.int .i64 (k : Nat))] [(3, Cont.cells 39 [Ty.ex (.slice none 0 0), Ty.ex (.slice none 0 0), Ty.ex (.slice none 0 0), Ty.ex (.slice none 0 0)]), (4, Cont.cells 39 [Ty.sl I64 f.bears, Ty.row BinE 123 26 f.bins, Ty.row TrnE 124 40 (f.turnings.take k), Ty.ex (.slice none 0 0)])]) (fun k => f.turnings.length - k) (0) ?_ fun k => ?_
      · (refine Ent.mk' ?_ ?_ <;> (repeat' (first | exact allSub_zero | exact allTags_nil | exact subs_nil | refine allSub_succ' ?_ (Ty.sub_any _) | refine allSub_succ' ?_ (Ty.sub_refl _) | refine allTags_cons rfl (Cont.sub_refl _) ?_ | refine allTags_cons rfl (Cont.sub_subs ?_) ?_ | refine subs_cons ?_ (Ty.sub_refl _) | refine subs_cons ?_ Ty.nil_row | refine subs_cons ?_ ?_)))
        exact Ty.sub_row (List.take_of_length_le (by omega))
      ·
        refine t_seq ?_
        refine t_region ?_
        refine r_bin rfl rfl rfl ?_
        refine r_nil ?_
        refine i_then ?_
        refine t_seq ?_
        refine t_cond_dec rfl (fun hc2 => ?_) (fun hc2 => ?_)
        ·
          refine t_skip ?_
          refine i_then ?_
          refine t_seq ?_
          refine t_block ?_
          refine t_seq ?_
          refine t_region ?_
          refine r_index_slN rfl rfl rfl rfl rfl rfl (by omega) ?_
          refine r_load_ppN rfl rfl rfl (by exact Nat.le_of_ble_eq_true rfl) ?_
          refine r_alloc rfl (by exact List.cons_ne_nil _ _) rfl ?_
          refine r_storeN rfl rfl (by decide) rfl rfl rfl rfl rfl rfl ?_
          refine r_nil ?_
          refine i_then ?_
          refine t_region ?_
          refine r_field_ptr rfl rfl rfl rfl rfl (by decide) ?_
          refine r_load_ptr rfl rfl (by decide) rfl rfl rfl ?_
          refine r_load_ptrN rfl rfl (by decide) rfl rfl (by exact Nat.le_of_ble_eq_true rfl) ?_
          refine r_buildSlice (E := TrnE) (xs := [nth f.turnings k]) rfl rfl rfl rfl rfl (by decide) (by decide) (by repeat (first | exact (Parts.nil : Parts _ _ [] _) | (show Parts _ _ ((_, _) :: _) _; apply Parts.agg; (· exact (rfl : _ = Ty.agg _))))) (by exact rfl) rfl ?_
          refine r_append rfl rfl (by decide) rfl rfl rfl rfl rfl rfl (by decide) (by (simp <;> omega)) (by (simp <;> omega)) ?_
          refine r_field_ptr rfl rfl rfl rfl rfl (by decide) ?_
          refine r_store1 rfl rfl (by decide) rfl rfl (by exact (rfl : _ = Ty.row _ _ _ _)) rfl (by exact Nat.le_of_ble_eq_true rfl) rfl rfl (by exact rfl) ?_
          refine r_nil ?_
          refine i_block ?_
          refine i_then ?_
          refine t_region ?_
          refine r_add rfl rfl (by omega) (by omega) ?_
          refine mvI rfl ?_
          refine r_nil ?_
          refine i_round (k + 1) ?_ (by omega)
          (refine Ent.mk' ?_ ?_ <;> (repeat' (first | exact allSub_zero | exact allTags_nil | exact subs_nil | refine allSub_succ' ?_ (Ty.sub_any _) | refine allSub_succ' ?_ (Ty.sub_refl _) | refine allTags_cons rfl (Cont.sub_refl _) ?_ | refine allTags_cons rfl (Cont.sub_subs ?_) ?_ | refine subs_cons ?_ (Ty.sub_refl _) | refine subs_cons ?_ ?_)))
          all_goals exact Ty.sub_row (take_nth (by omega)).symm
        ·
          refine t_exit ?_
          refine i_then_exit ?_
          refine i_then_exit ?_
          refine i_block_exit rfl ?_
          refine i_then ?_
          refine t_seq ?_
          refine t_seq ?_
          refine t_region ?_
          refine r_field_pp rfl rfl rfl rfl rfl (by decide) ?_
          refine r_load_pp rfl rfl rfl rfl ?_
          refine r_len rfl rfl rfl ?_
          refine mvI rfl ?_
          refine r_nil ?_
          refine i_then ?_
          refine t_block ?_
          refine t_loop (fun (k : Nat) => live [(1, Ty.pp (flrTys f)), (2, Ty.ptr 3 0), (3, Ty.ptr 4 0), (43, Ty.sl RulE f.rules), (44, Ty.int .i64 f.rules.length), (45, Ty.int .i64 (k : Nat))] [(3, Cont.cells 39 [Ty.ex (.slice none 0 0), Ty.ex (.slice none 0 0), Ty.ex (.slice none 0 0), Ty.ex (.slice none 0 0)]), (4, Cont.cells 39 [Ty.sl I64 f.bears, Ty.row BinE 123 26 f.bins, Ty.row TrnE 124 40 f.turnings, Ty.row RulE 73 54 (f.rules.take k)])]) (fun k => f.rules.length - k) (0) ?_ fun k => ?_
          · (refine Ent.mk' ?_ ?_ <;> (repeat' (first | exact allSub_zero | exact allTags_nil | exact subs_nil | refine allSub_succ' ?_ (Ty.sub_any _) | refine allSub_succ' ?_ (Ty.sub_refl _) | refine allTags_cons rfl (Cont.sub_refl _) ?_ | refine allTags_cons rfl (Cont.sub_subs ?_) ?_ | refine subs_cons ?_ (Ty.sub_refl _) | refine subs_cons ?_ Ty.nil_row | refine subs_cons ?_ ?_)))
            exact Ty.sub_row (List.take_of_length_le (by omega))
          ·
            refine t_seq ?_
            refine t_region ?_
            refine r_bin rfl rfl rfl ?_
            refine r_nil ?_
            refine i_then ?_
            refine t_seq ?_
            refine t_cond_dec rfl (fun hc3 => ?_) (fun hc3 => ?_)
            ·
              refine t_skip ?_
              refine i_then ?_
              refine t_seq ?_
              refine t_block ?_
              refine t_seq ?_
              refine t_region ?_
              refine r_index_slN rfl rfl rfl rfl rfl rfl (by omega) ?_
              refine r_load_ppN rfl rfl rfl (by exact Nat.le_of_ble_eq_true rfl) ?_
              refine r_alloc rfl (by exact List.cons_ne_nil _ _) rfl ?_
              refine r_storeN rfl rfl (by decide) rfl rfl rfl rfl rfl rfl ?_
              refine r_nil ?_
              refine i_then ?_
              refine t_region ?_
              refine r_field_ptr rfl rfl rfl rfl rfl (by decide) ?_
              refine r_load_ptr rfl rfl (by decide) rfl rfl rfl ?_
              refine r_load_ptrN rfl rfl (by decide) rfl rfl (by exact Nat.le_of_ble_eq_true rfl) ?_
              refine r_buildSlice (E := RulE) (xs := [nth f.rules k]) rfl rfl rfl rfl rfl (by decide) (by decide) (by repeat (first | exact (Parts.nil : Parts _ _ [] _) | (show Parts _ _ ((_, _) :: _) _; apply Parts.agg; (· exact (rfl : _ = Ty.agg _))))) (by exact rfl) rfl ?_
              refine r_append rfl rfl (by decide) rfl rfl rfl rfl rfl rfl (by decide) (by (simp <;> omega)) (by (simp <;> omega)) ?_
              refine r_field_ptr rfl rfl rfl rfl rfl (by decide) ?_
              refine r_store1 rfl rfl (by decide) rfl rfl (by exact (rfl : _ = Ty.row _ _ _ _)) rfl (by exact Nat.le_of_ble_eq_true rfl) rfl rfl (by exact rfl) ?_
              refine r_nil ?_
              refine i_block ?_
              refine i_then ?_
              refine t_region ?_
              refine r_add rfl rfl (by omega) (by omega) ?_
              refine mvI rfl ?_
              refine r_nil ?_
              refine i_round (k + 1) ?_ (by omega)
              (refine Ent.mk' ?_ ?_ <;> (repeat' (first | exact allSub_zero | exact allTags_nil | exact subs_nil | refine allSub_succ' ?_ (Ty.sub_any _) | refine allSub_succ' ?_ (Ty.sub_refl _) | refine allTags_cons rfl (Cont.sub_refl _) ?_ | refine allTags_cons rfl (Cont.sub_subs ?_) ?_ | refine subs_cons ?_ (Ty.sub_refl _) | refine subs_cons ?_ ?_)))
              all_goals exact Ty.sub_row (take_nth (by omega)).symm
            ·
              refine t_exit ?_
              refine i_then_exit ?_
              refine i_then_exit ?_
              refine i_block_exit rfl ?_
              refine i_then ?_
              refine t_seq ?_
              refine t_region ?_
              refine r_load_ptrN rfl rfl (by decide) rfl rfl (by exact Nat.le_of_ble_eq_true rfl) ?_
              refine r_storeN rfl rfl (by decide) rfl rfl rfl rfl rfl rfl ?_
              refine r_nil ?_
              refine i_then ?_
              refine t_ret ?_
              refine i_rcell rfl rfl rfl rfl (by decide) rfl rfl rfl ?_
              exact ret_agg (ts := flrTys f) (rets_cons (ret_refl rfl rfl) (rets_cons (ret_row (by decide)) (rets_cons (ret_row (by decide)) (rets_cons (ret_row_eq (by decide) (List.take_of_length_le (by omega))) rets_nil))))
set_option maxRecDepth 100000 in
theorem c_off (n lo hi : Int) : Ctr Try.prog 79 [Ty.int .i64 n, Ty.int .i64 lo, Ty.int .i64 hi] (Ty.bool (decide (n < lo) || decide (n > hi))) := by
  refine fn_intro Try.func79 rfl (by decide) Try.ntmps79 (by exact Nat.le_of_ble_eq_true rfl) fun w0 M0 => ?_
  refine t_seq ?_
  refine t_region ?_
  refine asB rfl ?_
  refine r_nil ?_
  refine i_then ?_
  refine t_seq ?_
  refine t_region ?_
  refine mvI rfl ?_
  refine mvI rfl ?_
  refine r_bin rfl rfl rfl ?_
  refine mvB rfl ?_
  apply r_guard (s := 10) rfl rfl rfl
  · intro hg; apply opT_of; (refine mvI rfl ?_); refine r_nil ?_; exact rfl
  · exact rfl
  · exact rfl
  apply r_guard (s := 10) rfl rfl rfl
  · intro hg; apply opT_of; (refine mvI rfl ?_); refine r_nil ?_; exact rfl
  · exact rfl
  · exact rfl
  apply r_guard (s := 10) rfl rfl rfl
  · intro hg; apply opT_strip (s := 11) rfl (by (rw [hg]; rfl)); apply opT_strip (s := 12) rfl (by (rw [hg]; rfl)); apply opT_of; (refine r_bin rfl rfl rfl ?_); refine r_nil ?_; exact rfl
  · exact rfl
  · exact rfl
  refine r_or rfl rfl ?_
  refine asB rfl ?_
  refine r_nil ?_
  refine i_then ?_
  refine t_ret ?_
  refine i_rp1 rfl rfl ?_
  all_goals exact ret_refl rfl rfl
set_option maxRecDepth 100000 in
theorem c_has (l : List Int) (n : Int) : Ctr Try.prog 81 [Ty.sl I64 l, Ty.int .i64 n] (Ty.bool (decide (n ∈ l))) := by
  refine fn_intro Try.func81 rfl (by decide) Try.ntmps81 (by exact Nat.le_of_ble_eq_true rfl) fun w0 M0 => ?_
  refine t_fact (s := 0) rfl rfl sl_len fun hl => ?_
  refine t_seq ?_
  refine t_region ?_
  refine asB rfl ?_
  refine r_nil ?_
  refine i_then ?_
  refine t_seq ?_
  refine t_seq ?_
  refine t_region ?_
  refine asI rfl ?_
  refine r_nil ?_
  refine i_then ?_
  refine t_block ?_
  refine t_loop (fun (k : {k : Nat // n ∉ l.take k}) => live [(0, Ty.sl I64 l), (1, Ty.int .i64 n), (5, Ty.int .i64 (k.1 : Nat))] []) (fun k => l.length - k.1) (⟨0, by simp⟩) ?_ fun k => ?_
  · (refine Ent.mk' ?_ ?_ <;> (repeat' (first | exact allSub_zero | exact allTags_nil | refine allSub_succ' ?_ (Ty.sub_any _) | refine allSub_succ' ?_ (Ty.sub_refl _))))
  ·
    refine t_seq ?_
    refine t_seq ?_
    refine t_region ?_
    refine mvI rfl ?_
    refine mvS rfl ?_
    refine r_len rfl rfl rfl ?_
    refine r_bin rfl rfl rfl ?_
    refine r_nil ?_
    refine i_then ?_
    refine t_cond_dec rfl (fun hc1 => ?_) (fun hc1 => ?_)
    ·
      refine t_skip ?_
      refine i_then ?_
      refine t_seq ?_
      refine t_block ?_
      refine t_seq ?_
      refine t_region ?_
      refine mvS rfl ?_
      refine mvI rfl ?_
      refine r_index_slN rfl rfl rfl rfl rfl rfl (by omega) ?_
      refine r_load_pp rfl rfl rfl rfl ?_
      refine mvI rfl ?_
      refine r_bin rfl rfl rfl ?_
      refine r_nil ?_
      refine i_then ?_
      refine t_cond_dec rfl (fun hc2 => ?_) (fun hc2 => ?_)
      ·
        refine t_seq ?_
        refine t_region ?_
        refine asB rfl ?_
        refine r_nil ?_
        refine i_then ?_
        refine t_ret ?_
        refine i_block_ret ?_
        refine i_then_ret ?_
        refine i_then_ret ?_
        refine i_block_ret ?_
        refine i_then_ret ?_
        refine i_rp1 rfl rfl ?_
        all_goals skip
        exact ret_eq rfl rfl (congrArg Ty.bool (decide_eq_true (hc2 ▸ nth_mem (by omega))).symm)
      ·
        refine t_skip ?_
        refine i_block ?_
        refine i_then ?_
        refine t_region ?_
        refine mvI rfl ?_
        refine r_add rfl rfl (by omega) (by omega) ?_
        refine asI rfl ?_
        refine r_nil ?_
        refine i_round (⟨k.1 + 1, by rw [take_nth (by omega), List.mem_append, List.mem_singleton]; rintro (h | h); exact k.2 h; exact hc2 h.symm⟩) ?_ (by show l.length - (k.1 + 1) < l.length - k.1; omega)
        (refine Ent.mk' ?_ ?_ <;> (repeat' (first | exact allSub_zero | exact allTags_nil | refine allSub_succ' ?_ (Ty.sub_any _) | refine allSub_succ' ?_ (Ty.sub_refl _))))
        all_goals skip
    ·
      refine t_exit ?_
      refine i_then_exit ?_
      refine i_then_exit ?_
      refine i_block_exit rfl ?_
      refine i_then ?_
      refine t_seq ?_
      refine t_region ?_
      refine asB rfl ?_
      refine r_nil ?_
      refine i_then ?_
      refine t_ret ?_
      refine i_rp1 rfl rfl ?_
      all_goals skip
      exact ret_eq rfl rfl (congrArg Ty.bool (decide_eq_false (by have := k.2; rwa [List.take_of_length_le (by omega)] at this)).symm)
set_option maxRecDepth 100000 in
theorem c_There (f : Flr) (hs : f.Small) (t : Int) : Ctr Try.prog 30 [flrT f, Ty.int .i64 t] (Ty.int .i64 (if t < 0 ∨ t ≥ f.turnings.length then 1 else 0)) := by
  refine fn_intro Try.func30 rfl (by decide) Try.ntmps30 (by exact Nat.le_of_ble_eq_true rfl) fun w0 M0 => ?_
  have hs1 := hs.bears; have hs2 := hs.bins; have hs3 := hs.turnings; have hs4 := hs.rules
  refine t_seq ?_
  refine t_region ?_
  refine r_box_agg rfl ?_
  refine asI rfl ?_
  refine r_nil ?_
  refine i_then ?_
  refine t_seq ?_
  refine t_seq ?_
  refine t_region ?_
  refine mvI rfl ?_
  refine r_field_pp rfl rfl rfl rfl rfl (by decide) ?_
  refine r_load_pp rfl rfl rfl rfl ?_
  refine r_len rfl rfl rfl ?_
  refine r_sub rfl rfl (by omega) (by omega) ?_
  refine r_call (c_off _ _ _) rfl rfl rfl rfl rfl ?_
  refine r_nil ?_
  refine i_then ?_
  refine t_cond rfl (fun hc1 => ?_) (fun hc1 => ?_)
  ·
    refine t_seq ?_
    refine t_region ?_
    refine asI rfl ?_
    refine r_nil ?_
    refine i_then ?_
    refine t_ret ?_
    refine i_then_ret ?_
    refine i_rp1 rfl rfl ?_
    all_goals skip
    exact ret_eq rfl rfl (congrArg (Ty.int .i64) (by rw [if_pos]; simp only [Bool.or_eq_true, decide_eq_true_eq] at hc1; omega))
  ·
    refine t_skip ?_
    refine i_then ?_
    refine t_seq ?_
    refine t_region ?_
    refine asI rfl ?_
    refine r_nil ?_
    refine i_then ?_
    refine t_ret ?_
    refine i_rp1 rfl rfl ?_
    all_goals skip
    exact ret_eq rfl rfl (congrArg (Ty.int .i64) (by rw [if_neg]; simp only [Bool.or_eq_false_iff, decide_eq_false_iff_not] at hc1; omega))
end Go.Proofs.Ytifgbnbkimcchaa

namespace Go.Proofs.Ytifgbnbkimcchaa
theorem any_pos {α : Type} {q : α → Bool} {l : List α} {x : α} (hx : x ∈ l) (h : q x = true) : l.any q = true := List.any_eq_true.2 ⟨x, hx, h⟩
theorem any_neg {α : Type} {q : α → Bool} {l : List α} {k : Nat} (h : ∀ x ∈ l.take k, q x = false) (hk : l.length ≤ k) : l.any q = false := by
  rw [List.take_of_length_le hk] at h
  rw [Bool.eq_false_iff]; intro hc
  obtain ⟨x, hx, hq⟩ := List.any_eq_true.1 hc
  rw [h x hx] at hq; cases hq
theorem any_none {α : Type} {q : α → Bool} {l : List α} (h : l.any q = false) {x : α} (hx : x ∈ l) : q x = false := by
  cases hq : q x with
  | false => rfl
  | true => rw [any_pos hx hq] at h; cases h
def offB (n lo hi : Int) : Bool := decide (n < lo) || decide (n > hi)
theorem offB_false {n lo hi : Int} (h : offB n lo hi = false) : lo ≤ n ∧ n ≤ hi := by
  simp only [offB, Bool.or_eq_false_iff, decide_eq_false_iff_not] at h; omega
def Flr.many (f : Flr) : Bool := offB f.bears.length 1 4 || decide ((f.bins.length : Int) > 6) || decide ((f.turnings.length : Int) > 8) || decide ((f.rules.length : Int) > 16)
def takenM (f : Flr) (ts : List Trn) (i : Int) : Int := (ts.map fun t => if t.src = i then t.sacks else 0).sum
def Flr.wrongAt (f : Flr) (i : Nat) (b : Bin) : Bool := !decide (b.shares.sum = 4) || decide (takenM f f.turnings i > b.has)
def linkedM (f : Flr) : Int :=
  if f.turnings.any fun t => offB t.src (-1) (f.bins.length - 1) || offB t.dst (-1) (f.bins.length - 1) then 1
  else if f.rules.any fun r => offB r.fst 0 (f.turnings.length - 1) || offB r.nxt 0 (f.turnings.length - 1) then 1
  else if f.turnings.any fun t => decide (t.src = t.dst) then 5
  else if (iot f.bins.length).any fun i => f.wrongAt i.toNat (f.bins.getD i.toNat default) then 8
  else if (iot f.turnings.length).any fun t => decide (t ∈ aheadM f t) then 7
  else 0
def checkM (f : Flr) : Int :=
  if f.many then 2
  else if f.bins.any fun b => !decide ((b.shares.length : Int) = f.bears.length) then 2
  else if f.bears.any fun n => offB n 0 4000 then 3
  else if f.bins.any fun b => offB b.has 0 300 || b.shares.any fun n => offB n 0 4 then 3
  else if f.turnings.any fun t => offB t.sacks 1 300 then 3
  else linkedM f
structure Flr.Ranged (f : Flr) : Prop where
  bears1 : 1 ≤ f.bears.length
  bears : f.bears.length ≤ 4
  bins : f.bins.length ≤ 6
  turnings : f.turnings.length ≤ 8
  rules : f.rules.length ≤ 16
  shares : ∀ b ∈ f.bins, b.shares.length = f.bears.length
  bearsR : ∀ n ∈ f.bears, 0 ≤ n ∧ n ≤ 4000
  hasR : ∀ b ∈ f.bins, 0 ≤ b.has ∧ b.has ≤ 300
  sharesR : ∀ b ∈ f.bins, ∀ n ∈ b.shares, 0 ≤ n ∧ n ≤ 4
  sacksR : ∀ t ∈ f.turnings, 1 ≤ t.sacks ∧ t.sacks ≤ 300
theorem ranged_of {f : Flr} (h1 : f.many = false) (h2 : (f.bins.any fun b => !decide ((b.shares.length : Int) = f.bears.length)) = false) (h3 : (f.bears.any fun n => offB n 0 4000) = false)
    (h4 : (f.bins.any fun b => offB b.has 0 300 || b.shares.any fun n => offB n 0 4) = false) (h5 : (f.turnings.any fun t => offB t.sacks 1 300) = false) : f.Ranged := by
  simp only [Flr.many, Bool.or_eq_false_iff, decide_eq_false_iff_not] at h1
  have h0 := offB_false h1.1.1.1
  refine ⟨by omega, by omega, by omega, by omega, by omega, fun b hb => ?_, fun n hn => offB_false (any_none h3 hn), fun b hb => ?_, fun b hb n hn => ?_, fun t ht => offB_false (any_none h5 ht)⟩
  · have := any_none h2 hb
    simp only [Bool.not_eq_false', decide_eq_true_eq] at this; omega
  · have := any_none h4 hb
    simp only [Bool.or_eq_false_iff] at this; exact offB_false this.1
  · have := any_none h4 hb
    simp only [Bool.or_eq_false_iff] at this; exact offB_false (any_none this.2 hn)
theorem sum_bound {l : List Int} {lo hi : Int} (h : ∀ n ∈ l, lo ≤ n ∧ n ≤ hi) : lo * l.length ≤ l.sum ∧ l.sum ≤ hi * l.length := by
  induction l with
  | nil => simp
  | cons a l ih =>
    obtain ⟨h1, h2⟩ := h a List.mem_cons_self
    obtain ⟨h3, h4⟩ := ih fun n hn => h n (List.mem_cons_of_mem _ hn)
    simp only [List.sum_cons, List.length_cons, Int.natCast_add, Int.mul_add, Int.natCast_one, Int.mul_one]
    omega
theorem taken_bound {f : Flr} (hr : f.Ranged) (k : Nat) (i : Int) : 0 ≤ takenM f (f.turnings.take k) i ∧ takenM f (f.turnings.take k) i ≤ 2400 := by
  have h := sum_bound (l := (f.turnings.take k).map fun t => if t.src = i then t.sacks else 0) (lo := 0) (hi := 300) fun n hn => by
    obtain ⟨t, ht, rfl⟩ := List.mem_map.1 hn
    have := hr.sacksR t (List.mem_of_mem_take ht)
    split <;> omega
  have := hr.turnings
  simp only [List.length_map, List.length_take] at h
  unfold takenM; omega
theorem take_bound {l : List Int} {lo hi : Int} (h : ∀ n ∈ l, lo ≤ n ∧ n ≤ hi) (k : Nat) : lo * (l.take k).length ≤ (l.take k).sum ∧ (l.take k).sum ≤ hi * (l.take k).length :=
  sum_bound fun n hn => h n (List.mem_of_mem_take hn)
end Go.Proofs.Ytifgbnbkimcchaa

namespace Go.Proofs.Ytifgbnbkimcchaa
open Go Go.T
theorem getD_nth {α : Type} [Inhabited α] (l : List α) (k : Nat) : l.getD k default = nth l k := rfl
attribute [local irreducible] dInt dBool dSl dPp dPtr dAgg dTup dClo dAny dEx dStr dGd dCells dVec dVs dRow dOp nth Tri Into TOps Ctr bodyPost Exit.then Exit.inBlock Code.wp Code.wpIn
theorem ext_false {α : Type} [Inhabited α] {q : α → Bool} {l : List α} {k : Nat} (h : ∀ x ∈ l.take k, q x = false) (hk : k < l.length) (hq : q (nth l k) = false) : ∀ x ∈ l.take (k + 1), q x = false := by
  intro x hx
  rw [take_nth hk] at hx
  rcases List.mem_append.1 hx with hx | hx
  · exact h x hx
  · rw [List.mem_singleton.1 hx]; exact hq
theorem any_at {α : Type} [Inhabited α] {q : α → Bool} {l : List α} {k : Nat} (hk : k < l.length) (hq : q (nth l k) = true) : l.any q = true := any_pos (nth_mem hk) hq
theorem ng {b : Bool} (h : b = false) : ¬ b = true := by rw [h]; decide
theorem iot_any_pos {n k : Nat} {q : Int → Bool} (hk : k < n) (h : q k = true) : (iot n).any q = true := any_pos (mem_iot.2 ⟨by omega, by omega⟩) h
theorem iot_any_neg {n : Nat} {q : Int → Bool} (h : ∀ k : Nat, k < n → q k = false) : (iot n).any q = false := by
  rw [Bool.eq_false_iff]; intro hc
  obtain ⟨x, hx, hq⟩ := List.any_eq_true.1 hc
  obtain ⟨h1, h2⟩ := mem_iot.1 hx
  have := h x.toNat (by omega)
  rw [Int.toNat_of_nonneg h1, hq] at this; cases this
theorem ext_lt {p : Nat → Prop} {k : Nat} (h : ∀ j, j < k → p j) (hk : p k) : ∀ j, j < k + 1 → p j := fun j hj => by
  rcases Nat.lt_or_ge j k with h1 | h1
  · exact h j h1
  · rwa [show j = k by omega]
set_option maxRecDepth 100000 in
theorem c_reach (f : Flr) (hs : f.Small) (n : Nat) (t : Int) (kn : List Int) (h : unk f.rules kn < n) (hk : kn.length + unk f.rules kn ≤ 100) : CtrR Try.prog 102 1000 [flrT f, Ty.int .i64 t, Ty.row I64 3 1000 kn] (Ty.row I64 3 1000 (reachM f.rules n t kn)) := by
  induction n generalizing t kn
  case zero => exact absurd h (Nat.not_lt_zero _)
  rename_i n ih
  refine fnR_intro Try.func102 rfl (by decide) Try.ntmps102 (by exact Nat.le_of_ble_eq_true rfl) fun w0 M0 => ?_
  have hs1 := hs.bears; have hs2 := hs.bins; have hs3 := hs.turnings; have hs4 := hs.rules
  refine t_seq ?_
  refine t_region ?_
  refine r_box_agg rfl ?_
  refine asX rfl ?_
  refine r_nil ?_
  refine i_then ?_
  refine t_seq ?_
  refine t_seq ?_
  refine t_region ?_
  refine asI rfl ?_
  refine r_nil ?_
  refine i_then ?_
  refine t_block ?_
  refine t_loop (fun (k : Nat) => live [(1, Ty.int .i64 t), (2, Ty.row I64 3 1000 ((f.rules.take k).foldl (rstep (reachM f.rules n) t) kn)), (3, Ty.pp (flrTys f)), (7, Ty.int .i64 (k : Nat))] []) (fun k => f.rules.length - k) (0) ?_ fun k => ?_
  · (refine Ent.mk' ?_ ?_ <;> (repeat' (first | exact allSub_zero | exact allTags_nil | refine allSub_succ' ?_ (Ty.sub_any _) | refine allSub_succ' ?_ (Ty.sub_refl _))))
  ·
    have hg : Grew f.rules kn ((f.rules.take k).foldl (rstep (reachM f.rules n) t) kn) := grew_fold (grew_reach _ n) _ (fun x hx => List.mem_of_mem_take hx) kn
    have hg2 := hg.2
    have hg3 := unk_mono (rules := f.rules) hg.1
    refine t_seq ?_
    refine t_seq ?_
    refine t_region ?_
    refine mvI rfl ?_
    refine r_field_pp rfl rfl rfl rfl rfl (by decide) ?_
    refine r_load_pp rfl rfl rfl rfl ?_
    refine r_len rfl rfl rfl ?_
    refine r_bin rfl rfl rfl ?_
    refine r_nil ?_
    refine i_then ?_
    refine t_cond_dec rfl (fun hc1 => ?_) (fun hc1 => ?_)
    ·
      try (simp only [Bool.and_eq_true, Bool.and_eq_false_iff, decide_eq_true_eq, decide_eq_false_iff_not, Bool.not_eq_true', Bool.not_eq_false'] at hc1)
      refine t_skip ?_
      refine i_then ?_
      refine t_seq ?_
      refine t_block ?_
      refine t_seq ?_
      refine t_region ?_
      refine r_field_pp rfl rfl rfl rfl rfl (by decide) ?_
      refine r_load_pp rfl rfl rfl rfl ?_
      refine mvI rfl ?_
      refine r_index_slN rfl rfl rfl rfl rfl rfl (by omega) ?_
      refine r_load_ppN rfl rfl rfl (by exact Nat.le_of_ble_eq_true rfl) ?_
      refine r_alloc rfl (by exact List.cons_ne_nil _ _) rfl ?_
      refine r_storeN rfl rfl (by decide) rfl rfl rfl rfl rfl rfl ?_
      refine r_nil ?_
      refine i_then ?_
      refine t_seq ?_
      refine t_region ?_
      refine r_field_ptr rfl rfl rfl rfl rfl (by decide) ?_
      refine r_load_ptr rfl rfl (by decide) rfl rfl rfl ?_
      refine mvI rfl ?_
      refine r_bin rfl rfl rfl ?_
      refine mvB rfl ?_
      apply r_guard (s := 25) rfl rfl rfl
      · intro hg; apply opT_of; (refine mvR rfl ?_); refine r_nil ?_; exact rfl
      · exact rfl
      · exact rfl
      apply r_guard (s := 25) rfl rfl rfl
      · intro hg; apply opT_of; (refine r_field_ptr rfl rfl rfl rfl rfl (by decide) ?_); refine r_nil ?_; exact rfl
      · exact rfl
      · exact rfl
      apply r_guard (s := 25) rfl rfl rfl
      · intro hg; apply opT_strip (s := 27) rfl (by (rw [hg]; rfl)); apply opT_of; (refine r_load_ptr rfl rfl (by decide) rfl rfl rfl ?_); refine r_nil ?_; exact rfl
      · exact rfl
      · exact rfl
      apply r_guard (s := 25) rfl rfl rfl
      · intro hg; apply opT_strip (s := 26) rfl (by (rw [hg]; rfl)); apply opT_strip (s := 28) rfl (by (rw [hg]; rfl)); apply opT_of; (refine r_callL [1000] (c_has _ _) rfl (by repeat (first | exact lends_nil | refine lends_cons (lend_pub rfl rfl) ?_ | refine lends_cons (lend_row rfl) ?_)) (by exact plain_bool _) ?_); refine r_nil ?_; exact rfl
      · exact rfl
      · exact rfl
      apply r_guard (s := 25) rfl rfl rfl
      · intro hg; apply opT_strip (s := 29) rfl (by (rw [hg]; rfl)); apply opT_of; (refine r_not rfl ?_); refine r_nil ?_; exact rfl
      · exact rfl
      · exact rfl
      refine r_and rfl rfl ?_
      refine r_nil ?_
      refine i_then ?_
      refine t_cond rfl (fun hc2 => ?_) (fun hc2 => ?_)
      ·
        try (simp only [Bool.and_eq_true, Bool.and_eq_false_iff, decide_eq_true_eq, decide_eq_false_iff_not, Bool.not_eq_true', Bool.not_eq_false'] at hc2)
        have hu := unk_add (nth_mem (xs := f.rules) (k := k) (by omega)) hc2.2
        refine t_draw mixed rfl ?_
        refine r_load_ppN rfl rfl rfl (by exact Nat.le_of_ble_eq_true rfl) ?_
        refine r_field_ptr rfl rfl rfl rfl rfl (by decide) ?_
        refine r_load_ptr rfl rfl (by decide) rfl rfl rfl ?_
        refine mvR rfl ?_
        refine r_field_ptr rfl rfl rfl rfl rfl (by decide) ?_
        refine r_load_ptr rfl rfl (by decide) rfl rfl rfl ?_
        refine r_buildSlice (E := I64) (xs := [_]) rfl rfl rfl rfl rfl (by decide) (by decide) (by repeat (first | exact (Parts.nil : Parts _ _ [] _) | (show Parts _ _ ((_, _) :: _) _; apply Parts.one; (· exact (rfl : _ = Ty.int _ _)); (· exact rfl)))) (by exact rfl) rfl ?_
        refine r_retag 40 (opT_append (Ty.sub_refl _) rfl (by decide) rfl rfl rfl rfl rfl rfl (by decide) (by (simp <;> omega)) (by (simp <;> omega))) (by decide) (by decide) rfl ?_
        refine r_retag 41 (opT_callR 40 (pre := [flrT f, Ty.int .i64 (nth f.rules k).fst]) (ih (nth f.rules k).fst ((f.rules.take k).foldl (rstep (reachM f.rules n) t) kn ++ [(nth f.rules k).fst]) (by omega) (by rw [List.length_append]; simp only [List.length_cons, List.length_nil]; omega)) rfl (Ty.sub_refl _) rfl rfl (by decide) (by decide) rfl) (by decide) (by decide) rfl ?_
        refine asR rfl ?_
        refine r_nil ?_
        refine ⟨by kernel_rfl, ?_⟩
        refine i_block ?_
        refine i_then ?_
        refine t_region ?_
        refine mvI rfl ?_
        refine r_add rfl rfl (by omega) (by omega) ?_
        refine asI rfl ?_
        refine r_nil ?_
        refine i_retag 41 1000 [(2, _)] ⟨re_to rfl, trivial⟩ (by decide) (by decide) rfl rfl ?_
        refine i_round (k + 1) ?_ (by omega)
        (refine Ent.mk' ?_ ?_ <;> (repeat' (first | exact allSub_zero | exact allTags_nil | refine allSub_succ' ?_ (Ty.sub_any _) | refine allSub_succ' ?_ (Ty.sub_refl _) | refine allSub_succ' ?_ ?_)))
        all_goals skip
        exact Ty.sub_row (by rw [take_nth (by omega), List.foldl_append]; simp only [List.foldl_cons, List.foldl_nil, rstep]; rw [if_pos hc2])
      ·
        try (simp only [Bool.and_eq_true, Bool.and_eq_false_iff, decide_eq_true_eq, decide_eq_false_iff_not, Bool.not_eq_true', Bool.not_eq_false'] at hc2)
        refine t_skip ?_
        refine i_block ?_
        refine i_then ?_
        refine t_region ?_
        refine mvI rfl ?_
        refine r_add rfl rfl (by omega) (by omega) ?_
        refine asI rfl ?_
        refine r_nil ?_
        skip
        refine i_round (k + 1) ?_ (by omega)
        (refine Ent.mk' ?_ ?_ <;> (repeat' (first | exact allSub_zero | exact allTags_nil | refine allSub_succ' ?_ (Ty.sub_any _) | refine allSub_succ' ?_ (Ty.sub_refl _) | refine allSub_succ' ?_ ?_)))
        all_goals skip
        exact Ty.sub_row (by rw [take_nth (by omega), List.foldl_append]; simp only [List.foldl_cons, List.foldl_nil, rstep]; rw [if_neg (fun h => hc2.elim (fun a => a h.1) (fun b => h.2 b))])
    ·
      try (simp only [Bool.and_eq_true, Bool.and_eq_false_iff, decide_eq_true_eq, decide_eq_false_iff_not, Bool.not_eq_true', Bool.not_eq_false'] at hc1)
      refine t_exit ?_
      refine i_then_exit ?_
      refine i_then_exit ?_
      refine i_block_exit rfl ?_
      refine i_then ?_
      refine t_seq ?_
      refine t_region ?_
      refine mvR rfl ?_
      refine asR rfl ?_
      refine r_nil ?_
      refine i_then ?_
      refine t_ret ?_
      refine i_rrow rfl rfl ?_
      exact Ty.sub_row (by rw [List.take_of_length_le (by omega)]; rfl)
set_option maxRecDepth 100000 in
theorem c_Ahead (f : Flr) (hs : f.Small) (t : Int) : Ctr Try.prog 39 [flrT f, Ty.int .i64 t] (Ty.sl I64 (aheadM f t)) := by
  refine fn_intro Try.func39 rfl (by decide) Try.ntmps39 (by exact Nat.le_of_ble_eq_true rfl) fun w0 M0 => ?_
  have hs1 := hs.bears; have hs2 := hs.bins; have hs3 := hs.turnings; have hs4 := hs.rules
  refine t_seq ?_
  refine t_region ?_
  refine r_box_agg rfl ?_
  refine asX rfl ?_
  refine r_nil ?_
  refine i_then ?_
  refine t_seq ?_
  refine t_region ?_
  refine r_load_ppN rfl rfl rfl (by exact Nat.le_of_ble_eq_true rfl) ?_
  refine mvI rfl ?_
  refine r_callR 11 (pre := [flrT f, Ty.int .i64 t]) (c_reach f hs (f.rules.length + 1) t [] (by have := unk_le f.rules []; omega) (by have := unk_le f.rules []; have := hs.rules; simp; omega)) rfl Ty.nil_row rfl rfl (by decide) (by decide) rfl ?_
  refine asR rfl ?_
  refine r_nil ?_
  refine i_then ?_
  refine t_seq ?_
  refine t_region ?_
  refine asX rfl ?_
  refine r_nil ?_
  refine i_then ?_
  refine t_seq ?_
  refine t_seq ?_
  refine t_region ?_
  refine asI rfl ?_
  refine r_nil ?_
  refine i_then ?_
  refine t_block ?_
  refine t_loop (fun (k : {k : Nat // k ≤ f.turnings.length}) => live [(2, Ty.pp (flrTys f)), (5, Ty.row I64 3 11 (reachAll f t)), (6, Ty.row I64 3 25 ((iot k.1).filter fun x => decide (x ∈ reachAll f t))), (7, Ty.int .i64 (k.1 : Nat))] []) (fun k => f.turnings.length - k.1) (⟨0, Nat.zero_le _⟩) ?_ fun k => ?_
  · (refine Ent.mk' ?_ ?_ <;> (repeat' (first | exact allSub_zero | exact allTags_nil | refine allSub_succ' ?_ (Ty.sub_any _) | refine allSub_succ' ?_ (Ty.sub_refl _) | refine allSub_succ' ?_ Ty.nil_row)))
  ·
    have hfl := List.length_filter_le (fun x => decide (x ∈ reachAll f t)) (iot k.1)
    rw [iot_len] at hfl
    refine t_seq ?_
    refine t_seq ?_
    refine t_region ?_
    refine mvI rfl ?_
    refine r_field_pp rfl rfl rfl rfl rfl (by decide) ?_
    refine r_load_pp rfl rfl rfl rfl ?_
    refine r_len rfl rfl rfl ?_
    refine r_bin rfl rfl rfl ?_
    refine r_nil ?_
    refine i_then ?_
    refine t_cond_dec rfl (fun hc1 => ?_) (fun hc1 => ?_)
    ·
      refine t_skip ?_
      refine i_then ?_
      refine t_seq ?_
      refine t_block ?_
      refine t_seq ?_
      refine t_region ?_
      refine mvR rfl ?_
      refine mvI rfl ?_
      refine r_callL [11] (c_has _ _) rfl (by repeat (first | exact lends_nil | refine lends_cons (lend_pub rfl rfl) ?_ | refine lends_cons (lend_row rfl) ?_)) (by exact plain_bool _) ?_
      refine r_nil ?_
      refine i_then ?_
      refine t_cond_dec rfl (fun hc2 => ?_) (fun hc2 => ?_)
      ·
        refine t_region ?_
        refine mvR rfl ?_
        refine mvI rfl ?_
        refine r_buildSlice (E := I64) (xs := [_]) rfl rfl rfl rfl rfl (by decide) (by decide) (by repeat (first | exact (Parts.nil : Parts _ _ [] _) | (show Parts _ _ ((_, _) :: _) _; apply Parts.one; (· exact (rfl : _ = Ty.int _ _)); (· exact rfl)))) (by exact rfl) rfl ?_
        refine r_append rfl rfl (by decide) rfl rfl rfl rfl rfl rfl (by decide) (by (simp <;> omega)) (by (simp <;> omega)) ?_
        refine asR rfl ?_
        refine r_nil ?_
        refine i_block ?_
        refine i_then ?_
        refine t_region ?_
        refine mvI rfl ?_
        refine r_add rfl rfl (by omega) (by omega) ?_
        refine asI rfl ?_
        refine r_nil ?_
        refine i_round (⟨k.1 + 1, by omega⟩) ?_ (by show f.turnings.length - (k.1 + 1) < f.turnings.length - k.1; omega)
        (refine Ent.mk' ?_ ?_ <;> (repeat' (first | exact allSub_zero | exact allTags_nil | refine allSub_succ' ?_ (Ty.sub_any _) | refine allSub_succ' ?_ (Ty.sub_refl _) | refine allSub_succ' ?_ ?_)))
        all_goals skip
        exact Ty.sub_row (by rw [iot_succ, List.filter_append]; simp [hc2])
      ·
        refine t_skip ?_
        refine i_block ?_
        refine i_then ?_
        refine t_region ?_
        refine mvI rfl ?_
        refine r_add rfl rfl (by omega) (by omega) ?_
        refine asI rfl ?_
        refine r_nil ?_
        refine i_round (⟨k.1 + 1, by omega⟩) ?_ (by show f.turnings.length - (k.1 + 1) < f.turnings.length - k.1; omega)
        (refine Ent.mk' ?_ ?_ <;> (repeat' (first | exact allSub_zero | exact allTags_nil | refine allSub_succ' ?_ (Ty.sub_any _) | refine allSub_succ' ?_ (Ty.sub_refl _) | refine allSub_succ' ?_ ?_)))
        all_goals skip
        exact Ty.sub_row (by rw [iot_succ, List.filter_append]; simp [hc2])
    ·
      refine t_exit ?_
      refine i_then_exit ?_
      refine i_then_exit ?_
      refine i_block_exit rfl ?_
      refine i_then ?_
      refine t_seq ?_
      refine t_region ?_
      refine mvR rfl ?_
      refine asR rfl ?_
      refine r_nil ?_
      refine i_then ?_
      refine t_ret ?_
      refine i_rp1 rfl rfl ?_
      all_goals skip
      exact ret_row_eq (by decide) (by rw [show k.1 = f.turnings.length by omega]; rfl)
set_option maxRecDepth 100000 in
theorem c_linked (f : Flr) (hs : f.Small) (hr : f.Ranged) : Ctr Try.prog 80 [flrT f] (Ty.int .i64 (linkedM f)) := by
  refine fn_intro Try.func80 rfl (by decide) Try.ntmps80 (by exact Nat.le_of_ble_eq_true rfl) fun w0 M0 => ?_
  have hs1 := hs.bears; have hs2 := hs.bins; have hs3 := hs.turnings; have hs4 := hs.rules
  refine t_seq ?_
  refine t_region ?_
  refine r_box_agg rfl ?_
  refine asI rfl ?_
  refine r_nil ?_
  refine i_then ?_
  refine t_seq ?_
  refine t_seq ?_
  refine t_region ?_
  refine asI rfl ?_
  refine r_nil ?_
  refine i_then ?_
  refine t_block ?_
  refine t_loop (fun (k1 : {k : Nat // ∀ t ∈ f.turnings.take k, (offB t.src (-1) (f.bins.length - 1) || offB t.dst (-1) (f.bins.length - 1)) = false}) => live [(1, Ty.pp (flrTys f)), (3, Ty.int .i64 (k1.1 : Nat))] []) (fun k1 => f.turnings.length - k1.1) (⟨0, by simp⟩) ?_ fun k1 => ?_
  · (refine Ent.mk' ?_ ?_ <;> (repeat' (first | exact allSub_zero | exact allTags_nil | refine allSub_succ' ?_ (Ty.sub_any _) | refine allSub_succ' ?_ (Ty.sub_refl _))))
  ·
    refine t_seq ?_
    refine t_seq ?_
    refine t_region ?_
    refine mvI rfl ?_
    refine r_field_pp rfl rfl rfl rfl rfl (by decide) ?_
    refine r_load_pp rfl rfl rfl rfl ?_
    refine r_len rfl rfl rfl ?_
    refine r_bin rfl rfl rfl ?_
    refine r_nil ?_
    refine i_then ?_
    refine t_cond_dec rfl (fun hc1 => ?_) (fun hc1 => ?_)
    ·
      refine t_skip ?_
      refine i_then ?_
      refine t_seq ?_
      refine t_block ?_
      refine t_seq ?_
      refine t_draw mixed rfl ?_
      refine r_field_pp rfl rfl rfl rfl rfl (by decide) ?_
      refine r_load_pp rfl rfl rfl rfl ?_
      refine mvI rfl ?_
      refine r_index_slN rfl rfl rfl rfl rfl rfl (by omega) ?_
      refine r_field_pp rfl rfl rfl rfl rfl (by decide) ?_
      refine r_load_pp rfl rfl rfl rfl ?_
      refine r_field_pp rfl rfl rfl rfl rfl (by decide) ?_
      refine r_load_pp rfl rfl rfl rfl ?_
      refine r_len rfl rfl rfl ?_
      refine r_sub rfl rfl (by omega) (by omega) ?_
      refine r_call (c_off _ _ _) rfl rfl rfl rfl rfl ?_
      refine mvB rfl ?_
      apply r_guard (s := 30) rfl rfl rfl
      · intro hg; apply opT_of; (refine r_field_pp rfl rfl rfl rfl rfl (by decide) ?_); refine r_nil ?_; exact rfl
      · exact rfl
      · exact rfl
      apply r_guard (s := 30) rfl rfl rfl
      · intro hg; apply opT_strip (s := 31) rfl (by (rw [hg]; rfl)); apply opT_of; (refine r_load_pp rfl rfl rfl rfl ?_); refine r_nil ?_; exact rfl
      · exact rfl
      · exact rfl
      apply r_guard (s := 30) rfl rfl rfl
      · intro hg; apply opT_of; (refine mvI rfl ?_); refine r_nil ?_; exact rfl
      · exact rfl
      · exact rfl
      apply r_guard (s := 30) rfl rfl rfl
      · intro hg; apply opT_strip (s := 32) rfl (by (rw [hg]; rfl)); apply opT_strip (s := 33) rfl (by (rw [hg]; rfl)); apply opT_of; (refine r_index_slN rfl rfl rfl rfl rfl rfl (by omega) ?_); refine r_nil ?_; exact rfl
      · exact rfl
      · exact rfl
      apply r_guard (s := 30) rfl rfl rfl
      · intro hg; apply opT_strip (s := 34) rfl (by (rw [hg]; rfl)); apply opT_of; (refine r_field_pp rfl rfl rfl rfl rfl (by decide) ?_); refine r_nil ?_; exact rfl
      · exact rfl
      · exact rfl
      apply r_guard (s := 30) rfl rfl rfl
      · intro hg; apply opT_strip (s := 35) rfl (by (rw [hg]; rfl)); apply opT_of; (refine r_load_pp rfl rfl rfl rfl ?_); refine r_nil ?_; exact rfl
      · exact rfl
      · exact rfl
      apply r_guard (s := 30) rfl rfl rfl
      · intro hg; apply opT_of; (refine r_field_pp rfl rfl rfl rfl rfl (by decide) ?_); refine r_nil ?_; exact rfl
      · exact rfl
      · exact rfl
      apply r_guard (s := 30) rfl rfl rfl
      · intro hg; apply opT_strip (s := 37) rfl (by (rw [hg]; rfl)); apply opT_of; (refine r_load_pp rfl rfl rfl rfl ?_); refine r_nil ?_; exact rfl
      · exact rfl
      · exact rfl
      apply r_guard (s := 30) rfl rfl rfl
      · intro hg; apply opT_strip (s := 38) rfl (by (rw [hg]; rfl)); apply opT_of; (refine r_len rfl rfl rfl ?_); refine r_nil ?_; exact rfl
      · exact rfl
      · exact rfl
      apply r_guard (s := 30) rfl rfl rfl
      · intro hg; apply opT_strip (s := 39) rfl (by (rw [hg]; rfl)); apply opT_of; (refine r_sub rfl rfl (by omega) (by omega) ?_); refine r_nil ?_; exact rfl
      · exact rfl
      · exact rfl
      apply r_guard (s := 30) rfl rfl rfl
      · intro hg; apply opT_strip (s := 36) rfl (by (rw [hg]; rfl)); apply opT_strip (s := 40) rfl (by (rw [hg]; rfl)); apply opT_of; (refine r_call (c_off _ _ _) rfl rfl rfl rfl rfl ?_); refine r_nil ?_; exact rfl
      · exact rfl
      · exact rfl
      refine r_or rfl rfl ?_
      refine r_nil ?_
      refine ⟨by kernel_rfl, ?_⟩
      refine i_then ?_
      refine t_cond rfl (fun hc2 => ?_) (fun hc2 => ?_)
      ·
        refine t_seq ?_
        refine t_region ?_
        refine asI rfl ?_
        refine r_nil ?_
        refine i_then ?_
        refine t_ret ?_
        refine i_block_ret ?_
        refine i_then_ret ?_
        refine i_then_ret ?_
        refine i_block_ret ?_
        refine i_then_ret ?_
        refine i_rp1 rfl rfl ?_
        all_goals skip
        exact ret_eq rfl rfl (congrArg (Ty.int .i64) (by rw [linkedM, if_pos (any_at (by omega) hc2)]))
      ·
        refine t_skip ?_
        refine i_block ?_
        refine i_then ?_
        refine t_region ?_
        refine mvI rfl ?_
        refine r_add rfl rfl (by omega) (by omega) ?_
        refine asI rfl ?_
        refine r_nil ?_
        refine i_round (⟨k1.1 + 1, ext_false k1.2 (by omega) hc2⟩) ?_ (by show f.turnings.length - (k1.1 + 1) < f.turnings.length - k1.1; omega)
        (refine Ent.mk' ?_ ?_ <;> (repeat' (first | exact allSub_zero | exact allTags_nil | refine allSub_succ' ?_ (Ty.sub_any _) | refine allSub_succ' ?_ (Ty.sub_refl _))))
        all_goals skip
    ·
      refine t_exit ?_
      refine i_then_exit ?_
      refine i_then_exit ?_
      refine i_block_exit rfl ?_
      refine i_then ?_
      refine t_seq ?_
      refine t_seq ?_
      refine t_region ?_
      refine asI rfl ?_
      refine r_nil ?_
      refine i_then ?_
      refine t_block ?_
      refine t_loop (fun (k2 : {k : Nat // ∀ r ∈ f.rules.take k, (offB r.fst 0 (f.turnings.length - 1) || offB r.nxt 0 (f.turnings.length - 1)) = false}) => live [(1, Ty.pp (flrTys f)), (4, Ty.int .i64 (k2.1 : Nat))] []) (fun k2 => f.rules.length - k2.1) (⟨0, by simp⟩) ?_ fun k2 => ?_
      · (refine Ent.mk' ?_ ?_ <;> (repeat' (first | exact allSub_zero | exact allTags_nil | refine allSub_succ' ?_ (Ty.sub_any _) | refine allSub_succ' ?_ (Ty.sub_refl _))))
      ·
        refine t_seq ?_
        refine t_seq ?_
        refine t_region ?_
        refine mvI rfl ?_
        refine r_field_pp rfl rfl rfl rfl rfl (by decide) ?_
        refine r_load_pp rfl rfl rfl rfl ?_
        refine r_len rfl rfl rfl ?_
        refine r_bin rfl rfl rfl ?_
        refine r_nil ?_
        refine i_then ?_
        refine t_cond_dec rfl (fun hc3 => ?_) (fun hc3 => ?_)
        ·
          refine t_skip ?_
          refine i_then ?_
          refine t_seq ?_
          refine t_block ?_
          refine t_seq ?_
          refine t_draw mixed rfl ?_
          refine r_field_pp rfl rfl rfl rfl rfl (by decide) ?_
          refine r_load_pp rfl rfl rfl rfl ?_
          refine mvI rfl ?_
          refine r_index_slN rfl rfl rfl rfl rfl rfl (by omega) ?_
          refine r_field_pp rfl rfl rfl rfl rfl (by decide) ?_
          refine r_load_pp rfl rfl rfl rfl ?_
          refine r_field_pp rfl rfl rfl rfl rfl (by decide) ?_
          refine r_load_pp rfl rfl rfl rfl ?_
          refine r_len rfl rfl rfl ?_
          refine r_sub rfl rfl (by omega) (by omega) ?_
          refine r_call (c_off _ _ _) rfl rfl rfl rfl rfl ?_
          refine mvB rfl ?_
          apply r_guard (s := 61) rfl rfl rfl
          · intro hg; apply opT_of; (refine r_field_pp rfl rfl rfl rfl rfl (by decide) ?_); refine r_nil ?_; exact rfl
          · exact rfl
          · exact rfl
          apply r_guard (s := 61) rfl rfl rfl
          · intro hg; apply opT_strip (s := 62) rfl (by (rw [hg]; rfl)); apply opT_of; (refine r_load_pp rfl rfl rfl rfl ?_); refine r_nil ?_; exact rfl
          · exact rfl
          · exact rfl
          apply r_guard (s := 61) rfl rfl rfl
          · intro hg; apply opT_of; (refine mvI rfl ?_); refine r_nil ?_; exact rfl
          · exact rfl
          · exact rfl
          apply r_guard (s := 61) rfl rfl rfl
          · intro hg; apply opT_strip (s := 63) rfl (by (rw [hg]; rfl)); apply opT_strip (s := 64) rfl (by (rw [hg]; rfl)); apply opT_of; (refine r_index_slN rfl rfl rfl rfl rfl rfl (by omega) ?_); refine r_nil ?_; exact rfl
          · exact rfl
          · exact rfl
          apply r_guard (s := 61) rfl rfl rfl
          · intro hg; apply opT_strip (s := 65) rfl (by (rw [hg]; rfl)); apply opT_of; (refine r_field_pp rfl rfl rfl rfl rfl (by decide) ?_); refine r_nil ?_; exact rfl
          · exact rfl
          · exact rfl
          apply r_guard (s := 61) rfl rfl rfl
          · intro hg; apply opT_strip (s := 66) rfl (by (rw [hg]; rfl)); apply opT_of; (refine r_load_pp rfl rfl rfl rfl ?_); refine r_nil ?_; exact rfl
          · exact rfl
          · exact rfl
          apply r_guard (s := 61) rfl rfl rfl
          · intro hg; apply opT_of; (refine r_field_pp rfl rfl rfl rfl rfl (by decide) ?_); refine r_nil ?_; exact rfl
          · exact rfl
          · exact rfl
          apply r_guard (s := 61) rfl rfl rfl
          · intro hg; apply opT_strip (s := 68) rfl (by (rw [hg]; rfl)); apply opT_of; (refine r_load_pp rfl rfl rfl rfl ?_); refine r_nil ?_; exact rfl
          · exact rfl
          · exact rfl
          apply r_guard (s := 61) rfl rfl rfl
          · intro hg; apply opT_strip (s := 69) rfl (by (rw [hg]; rfl)); apply opT_of; (refine r_len rfl rfl rfl ?_); refine r_nil ?_; exact rfl
          · exact rfl
          · exact rfl
          apply r_guard (s := 61) rfl rfl rfl
          · intro hg; apply opT_strip (s := 70) rfl (by (rw [hg]; rfl)); apply opT_of; (refine r_sub rfl rfl (by omega) (by omega) ?_); refine r_nil ?_; exact rfl
          · exact rfl
          · exact rfl
          apply r_guard (s := 61) rfl rfl rfl
          · intro hg; apply opT_strip (s := 67) rfl (by (rw [hg]; rfl)); apply opT_strip (s := 71) rfl (by (rw [hg]; rfl)); apply opT_of; (refine r_call (c_off _ _ _) rfl rfl rfl rfl rfl ?_); refine r_nil ?_; exact rfl
          · exact rfl
          · exact rfl
          refine r_or rfl rfl ?_
          refine r_nil ?_
          refine ⟨by kernel_rfl, ?_⟩
          refine i_then ?_
          refine t_cond rfl (fun hc4 => ?_) (fun hc4 => ?_)
          ·
            refine t_seq ?_
            refine t_region ?_
            refine asI rfl ?_
            refine r_nil ?_
            refine i_then ?_
            refine t_ret ?_
            refine i_block_ret ?_
            refine i_then_ret ?_
            refine i_then_ret ?_
            refine i_block_ret ?_
            refine i_then_ret ?_
            refine i_rp1 rfl rfl ?_
            all_goals skip
            exact ret_eq rfl rfl (congrArg (Ty.int .i64) (by rw [linkedM, if_neg (ng (any_neg k1.2 (by omega))), if_pos (any_at (by omega) hc4)]))
          ·
            refine t_skip ?_
            refine i_block ?_
            refine i_then ?_
            refine t_region ?_
            refine mvI rfl ?_
            refine r_add rfl rfl (by omega) (by omega) ?_
            refine asI rfl ?_
            refine r_nil ?_
            refine i_round (⟨k2.1 + 1, ext_false k2.2 (by omega) hc4⟩) ?_ (by show f.rules.length - (k2.1 + 1) < f.rules.length - k2.1; omega)
            (refine Ent.mk' ?_ ?_ <;> (repeat' (first | exact allSub_zero | exact allTags_nil | refine allSub_succ' ?_ (Ty.sub_any _) | refine allSub_succ' ?_ (Ty.sub_refl _))))
            all_goals skip
        ·
          refine t_exit ?_
          refine i_then_exit ?_
          refine i_then_exit ?_
          refine i_block_exit rfl ?_
          refine i_then ?_
          refine t_seq ?_
          refine t_seq ?_
          refine t_region ?_
          refine asI rfl ?_
          refine r_nil ?_
          refine i_then ?_
          refine t_block ?_
          refine t_loop (fun (k3 : {k : Nat // ∀ t ∈ f.turnings.take k, decide (t.src = t.dst) = false}) => live [(1, Ty.pp (flrTys f)), (5, Ty.int .i64 (k3.1 : Nat))] []) (fun k3 => f.turnings.length - k3.1) (⟨0, by simp⟩) ?_ fun k3 => ?_
          · (refine Ent.mk' ?_ ?_ <;> (repeat' (first | exact allSub_zero | exact allTags_nil | refine allSub_succ' ?_ (Ty.sub_any _) | refine allSub_succ' ?_ (Ty.sub_refl _))))
          ·
            refine t_seq ?_
            refine t_seq ?_
            refine t_region ?_
            refine mvI rfl ?_
            refine r_field_pp rfl rfl rfl rfl rfl (by decide) ?_
            refine r_load_pp rfl rfl rfl rfl ?_
            refine r_len rfl rfl rfl ?_
            refine r_bin rfl rfl rfl ?_
            refine r_nil ?_
            refine i_then ?_
            refine t_cond_dec rfl (fun hc5 => ?_) (fun hc5 => ?_)
            ·
              refine t_skip ?_
              refine i_then ?_
              refine t_seq ?_
              refine t_block ?_
              refine t_seq ?_
              refine t_draw mixed rfl ?_
              refine r_field_pp rfl rfl rfl rfl rfl (by decide) ?_
              refine r_load_pp rfl rfl rfl rfl ?_
              refine mvI rfl ?_
              refine r_index_slN rfl rfl rfl rfl rfl rfl (by omega) ?_
              refine r_field_pp rfl rfl rfl rfl rfl (by decide) ?_
              refine r_load_pp rfl rfl rfl rfl ?_
              refine r_field_pp rfl rfl rfl rfl rfl (by decide) ?_
              refine r_load_pp rfl rfl rfl rfl ?_
              refine mvI rfl ?_
              refine r_index_slN rfl rfl rfl rfl rfl rfl (by omega) ?_
              refine r_field_pp rfl rfl rfl rfl rfl (by decide) ?_
              refine r_load_pp rfl rfl rfl rfl ?_
              refine r_bin rfl rfl rfl ?_
              refine r_nil ?_
              refine ⟨by kernel_rfl, ?_⟩
              refine i_then ?_
              refine t_cond_dec rfl (fun hc6 => ?_) (fun hc6 => ?_)
              ·
                refine t_seq ?_
                refine t_region ?_
                refine asI rfl ?_
                refine r_nil ?_
                refine i_then ?_
                refine t_ret ?_
                refine i_block_ret ?_
                refine i_then_ret ?_
                refine i_then_ret ?_
                refine i_block_ret ?_
                refine i_then_ret ?_
                refine i_rp1 rfl rfl ?_
                all_goals skip
                exact ret_eq rfl rfl (congrArg (Ty.int .i64) (by rw [linkedM, if_neg (ng (any_neg k1.2 (by omega))), if_neg (ng (any_neg k2.2 (by omega))), if_pos (any_at (q := fun t : Trn => decide (t.src = t.dst)) (k := k3.1) (by omega) (decide_eq_true hc6))]))
              ·
                refine t_skip ?_
                refine i_block ?_
                refine i_then ?_
                refine t_region ?_
                refine mvI rfl ?_
                refine r_add rfl rfl (by omega) (by omega) ?_
                refine asI rfl ?_
                refine r_nil ?_
                refine i_round (⟨k3.1 + 1, ext_false k3.2 (by omega) (decide_eq_false hc6)⟩) ?_ (by show f.turnings.length - (k3.1 + 1) < f.turnings.length - k3.1; omega)
                (refine Ent.mk' ?_ ?_ <;> (repeat' (first | exact allSub_zero | exact allTags_nil | refine allSub_succ' ?_ (Ty.sub_any _) | refine allSub_succ' ?_ (Ty.sub_refl _))))
                all_goals skip
            ·
              refine t_exit ?_
              refine i_then_exit ?_
              refine i_then_exit ?_
              refine i_block_exit rfl ?_
              refine i_then ?_
              refine t_seq ?_
              refine t_seq ?_
              refine t_region ?_
              refine asI rfl ?_
              refine r_nil ?_
              refine i_then ?_
              refine t_block ?_
              refine t_loop (fun (k4 : {k : Nat // ∀ j, j < k → f.wrongAt j (nth f.bins j) = false}) => live [(1, Ty.pp (flrTys f)), (6, Ty.int .i64 (k4.1 : Nat))] []) (fun k4 => f.bins.length - k4.1) (⟨0, fun j hj => absurd hj (Nat.not_lt_zero _)⟩) ?_ fun k4 => ?_
              · (refine Ent.mk' ?_ ?_ <;> (repeat' (first | exact allSub_zero | exact allTags_nil | refine allSub_succ' ?_ (Ty.sub_any _) | refine allSub_succ' ?_ (Ty.sub_refl _))))
              ·
                have hbl := hr.bears
                refine t_seq ?_
                refine t_seq ?_
                refine t_region ?_
                refine mvI rfl ?_
                refine r_field_pp rfl rfl rfl rfl rfl (by decide) ?_
                refine r_load_pp rfl rfl rfl rfl ?_
                refine r_len rfl rfl rfl ?_
                refine r_bin rfl rfl rfl ?_
                refine r_nil ?_
                refine i_then ?_
                refine t_cond_dec rfl (fun hc7 => ?_) (fun hc7 => ?_)
                ·
                  refine t_skip ?_
                  refine i_then ?_
                  refine t_seq ?_
                  refine t_block ?_
                  refine t_seq ?_
                  have hsl : (nth f.bins k4.1).shares.length = f.bears.length := hr.shares _ (nth_mem (by omega))
                  refine t_region ?_
                  refine asI rfl ?_
                  refine asI rfl ?_
                  refine r_nil ?_
                  refine i_then ?_
                  refine t_seq ?_
                  refine t_seq ?_
                  refine t_region ?_
                  refine asI rfl ?_
                  refine r_nil ?_
                  refine i_then ?_
                  refine t_block ?_
                  refine t_loop (fun (m : Nat) => live [(1, Ty.pp (flrTys f)), (6, Ty.int .i64 (k4.1 : Nat)), (7, Ty.int .i64 ((nth f.bins k4.1).shares.take m).sum), (8, Ty.int .i64 0), (9, Ty.int .i64 (m : Nat))] []) (fun m => f.bears.length - m) (0) ?_ fun m => ?_
                  · (refine Ent.mk' ?_ ?_ <;> (repeat' (first | exact allSub_zero | exact allTags_nil | refine allSub_succ' ?_ (Ty.sub_any _) | refine allSub_succ' ?_ (Ty.sub_refl _))))
                  ·
                    have hsb := take_bound (hr.sharesR (nth f.bins k4.1) (nth_mem (by omega))) m
                    simp only [List.length_take] at hsb
                    refine t_seq ?_
                    refine t_seq ?_
                    refine t_region ?_
                    refine mvI rfl ?_
                    refine r_field_pp rfl rfl rfl rfl rfl (by decide) ?_
                    refine r_load_pp rfl rfl rfl rfl ?_
                    refine r_len rfl rfl rfl ?_
                    refine r_bin rfl rfl rfl ?_
                    refine r_nil ?_
                    refine i_then ?_
                    refine t_cond_dec rfl (fun hc8 => ?_) (fun hc8 => ?_)
                    ·
                      refine t_skip ?_
                      refine i_then ?_
                      refine t_seq ?_
                      refine t_block ?_
                      have hsx := hr.sharesR (nth f.bins k4.1) (nth_mem (by omega)) (nth (nth f.bins k4.1).shares m) (nth_mem (by omega))
                      refine t_region ?_
                      refine mvI rfl ?_
                      refine r_field_pp rfl rfl rfl rfl rfl (by decide) ?_
                      refine r_load_pp rfl rfl rfl rfl ?_
                      refine mvI rfl ?_
                      refine r_index_slN rfl rfl rfl rfl rfl rfl (by omega) ?_
                      refine r_field_pp rfl rfl rfl rfl rfl (by decide) ?_
                      refine r_load_pp rfl rfl rfl rfl ?_
                      refine mvI rfl ?_
                      refine r_index_slN rfl rfl rfl rfl rfl rfl (by omega) ?_
                      refine r_load_pp rfl rfl rfl rfl ?_
                      refine r_add rfl rfl (by omega) (by omega) ?_
                      refine asI rfl ?_
                      refine r_nil ?_
                      refine i_block ?_
                      refine i_then ?_
                      refine t_region ?_
                      refine mvI rfl ?_
                      refine r_add rfl rfl (by omega) (by omega) ?_
                      refine asI rfl ?_
                      refine r_nil ?_
                      refine i_round (m + 1) ?_ (by omega)
                      (refine Ent.mk' ?_ ?_ <;> (repeat' (first | exact allSub_zero | exact allTags_nil | refine allSub_succ' ?_ (Ty.sub_any _) | refine allSub_succ' ?_ (Ty.sub_refl _) | refine allSub_succ' ?_ ?_)))
                      all_goals skip
                      exact Ty.sub_int (by rw [take_nth (by omega), List.sum_append]; simp)
                    ·
                      refine t_exit ?_
                      refine i_then_exit ?_
                      refine i_then_exit ?_
                      refine i_block_exit rfl ?_
                      refine i_then ?_
                      refine t_seq ?_
                      refine t_seq ?_
                      refine t_region ?_
                      refine asI rfl ?_
                      refine r_nil ?_
                      refine i_then ?_
                      refine t_block ?_
                      refine t_loop (fun (n : Nat) => live [(1, Ty.pp (flrTys f)), (6, Ty.int .i64 (k4.1 : Nat)), (7, Ty.int .i64 ((nth f.bins k4.1).shares.take m).sum), (8, Ty.int .i64 (takenM f (f.turnings.take n) k4.1)), (10, Ty.int .i64 (n : Nat))] []) (fun n => f.turnings.length - n) (0) ?_ fun n => ?_
                      · (refine Ent.mk' ?_ ?_ <;> (repeat' (first | exact allSub_zero | exact allTags_nil | refine allSub_succ' ?_ (Ty.sub_any _) | refine allSub_succ' ?_ (Ty.sub_refl _))))
                      ·
                        have htb := taken_bound hr n k4.1
                        refine t_seq ?_
                        refine t_seq ?_
                        refine t_region ?_
                        refine mvI rfl ?_
                        refine r_field_pp rfl rfl rfl rfl rfl (by decide) ?_
                        refine r_load_pp rfl rfl rfl rfl ?_
                        refine r_len rfl rfl rfl ?_
                        refine r_bin rfl rfl rfl ?_
                        refine r_nil ?_
                        refine i_then ?_
                        refine t_cond_dec rfl (fun hc9 => ?_) (fun hc9 => ?_)
                        ·
                          refine t_skip ?_
                          refine i_then ?_
                          refine t_seq ?_
                          refine t_block ?_
                          refine t_seq ?_
                          refine t_region ?_
                          refine r_field_pp rfl rfl rfl rfl rfl (by decide) ?_
                          refine r_load_pp rfl rfl rfl rfl ?_
                          refine mvI rfl ?_
                          refine r_index_slN rfl rfl rfl rfl rfl rfl (by omega) ?_
                          refine r_field_pp rfl rfl rfl rfl rfl (by decide) ?_
                          refine r_load_pp rfl rfl rfl rfl ?_
                          refine mvI rfl ?_
                          refine r_bin rfl rfl rfl ?_
                          refine r_nil ?_
                          refine i_then ?_
                          refine t_cond_dec rfl (fun hc10 => ?_) (fun hc10 => ?_)
                          ·
                            have htx := hr.sacksR (nth f.turnings n) (nth_mem (by omega))
                            refine t_region ?_
                            refine mvI rfl ?_
                            refine r_field_pp rfl rfl rfl rfl rfl (by decide) ?_
                            refine r_load_pp rfl rfl rfl rfl ?_
                            refine mvI rfl ?_
                            refine r_index_slN rfl rfl rfl rfl rfl rfl (by omega) ?_
                            refine r_field_pp rfl rfl rfl rfl rfl (by decide) ?_
                            refine r_load_pp rfl rfl rfl rfl ?_
                            refine r_add rfl rfl (by omega) (by omega) ?_
                            refine asI rfl ?_
                            refine r_nil ?_
                            refine i_block ?_
                            refine i_then ?_
                            refine t_region ?_
                            refine mvI rfl ?_
                            refine r_add rfl rfl (by omega) (by omega) ?_
                            refine asI rfl ?_
                            refine r_nil ?_
                            refine i_round (n + 1) ?_ (by omega)
                            (refine Ent.mk' ?_ ?_ <;> (repeat' (first | exact allSub_zero | exact allTags_nil | refine allSub_succ' ?_ (Ty.sub_any _) | refine allSub_succ' ?_ (Ty.sub_refl _) | refine allSub_succ' ?_ ?_)))
                            all_goals skip
                            exact Ty.sub_int (by simp only [takenM]; rw [take_nth (by omega), List.map_append, List.sum_append]; simp [hc10])
                          ·
                            refine t_skip ?_
                            refine i_block ?_
                            refine i_then ?_
                            refine t_region ?_
                            refine mvI rfl ?_
                            refine r_add rfl rfl (by omega) (by omega) ?_
                            refine asI rfl ?_
                            refine r_nil ?_
                            refine i_round (n + 1) ?_ (by omega)
                            (refine Ent.mk' ?_ ?_ <;> (repeat' (first | exact allSub_zero | exact allTags_nil | refine allSub_succ' ?_ (Ty.sub_any _) | refine allSub_succ' ?_ (Ty.sub_refl _) | refine allSub_succ' ?_ ?_)))
                            all_goals skip
                            exact Ty.sub_int (by simp only [takenM]; rw [take_nth (by omega), List.map_append, List.sum_append]; simp [hc10])
                        ·
                          refine t_exit ?_
                          refine i_then_exit ?_
                          refine i_then_exit ?_
                          refine i_block_exit rfl ?_
                          refine i_then ?_
                          refine t_seq ?_
                          refine t_region ?_
                          refine mvI rfl ?_
                          refine r_bin rfl rfl rfl ?_
                          refine mvB rfl ?_
                          apply r_guard (s := 144) rfl rfl rfl
                          · intro hg; apply opT_of; (refine mvI rfl ?_); refine r_nil ?_; exact rfl
                          · exact rfl
                          · exact rfl
                          apply r_guard (s := 144) rfl rfl rfl
                          · intro hg; apply opT_of; (refine r_field_pp rfl rfl rfl rfl rfl (by decide) ?_); refine r_nil ?_; exact rfl
                          · exact rfl
                          · exact rfl
                          apply r_guard (s := 144) rfl rfl rfl
                          · intro hg; apply opT_strip (s := 146) rfl (by (rw [hg]; rfl)); apply opT_of; (refine r_load_pp rfl rfl rfl rfl ?_); refine r_nil ?_; exact rfl
                          · exact rfl
                          · exact rfl
                          apply r_guard (s := 144) rfl rfl rfl
                          · intro hg; apply opT_of; (refine mvI rfl ?_); refine r_nil ?_; exact rfl
                          · exact rfl
                          · exact rfl
                          apply r_guard (s := 144) rfl rfl rfl
                          · intro hg; apply opT_strip (s := 147) rfl (by (rw [hg]; rfl)); apply opT_strip (s := 148) rfl (by (rw [hg]; rfl)); apply opT_of; (refine r_index_slN rfl rfl rfl rfl rfl rfl (by omega) ?_); refine r_nil ?_; exact rfl
                          · exact rfl
                          · exact rfl
                          apply r_guard (s := 144) rfl rfl rfl
                          · intro hg; apply opT_strip (s := 149) rfl (by (rw [hg]; rfl)); apply opT_of; (refine r_field_pp rfl rfl rfl rfl rfl (by decide) ?_); refine r_nil ?_; exact rfl
                          · exact rfl
                          · exact rfl
                          apply r_guard (s := 144) rfl rfl rfl
                          · intro hg; apply opT_strip (s := 150) rfl (by (rw [hg]; rfl)); apply opT_of; (refine r_load_pp rfl rfl rfl rfl ?_); refine r_nil ?_; exact rfl
                          · exact rfl
                          · exact rfl
                          apply r_guard (s := 144) rfl rfl rfl
                          · intro hg; apply opT_strip (s := 145) rfl (by (rw [hg]; rfl)); apply opT_strip (s := 151) rfl (by (rw [hg]; rfl)); apply opT_of; (refine r_bin rfl rfl rfl ?_); refine r_nil ?_; exact rfl
                          · exact rfl
                          · exact rfl
                          refine r_or rfl rfl ?_
                          refine r_nil ?_
                          refine i_then ?_
                          refine t_cond rfl (fun hc11 => ?_) (fun hc11 => ?_)
                          ·
                            refine t_seq ?_
                            refine t_region ?_
                            refine asI rfl ?_
                            refine r_nil ?_
                            refine i_then ?_
                            refine t_ret ?_
                            refine i_block_ret ?_
                            refine i_then_ret ?_
                            refine i_then_ret ?_
                            refine i_block_ret ?_
                            refine i_then_ret ?_
                            refine i_rp1 rfl rfl ?_
                            all_goals skip
                            exact ret_eq rfl rfl (congrArg (Ty.int .i64) (by rw [linkedM, if_neg (ng (any_neg k1.2 (by omega))), if_neg (ng (any_neg k2.2 (by omega))), if_neg (ng (any_neg k3.2 (by omega))), if_pos (iot_any_pos (k := k4.1) (by omega) (by rw [Int.toNat_natCast, getD_nth, Flr.wrongAt, ← List.take_of_length_le (l := (nth f.bins k4.1).shares) (i := m) (by omega), ← List.take_of_length_le (l := f.turnings) (i := n) (by omega)]; exact hc11))]))
                          ·
                            refine t_skip ?_
                            refine i_block ?_
                            refine i_then ?_
                            refine t_region ?_
                            refine mvI rfl ?_
                            refine r_add rfl rfl (by omega) (by omega) ?_
                            refine asI rfl ?_
                            refine r_nil ?_
                            refine i_round (⟨k4.1 + 1, ext_lt k4.2 (by rw [Flr.wrongAt, ← List.take_of_length_le (l := (nth f.bins k4.1).shares) (i := m) (by omega), ← List.take_of_length_le (l := f.turnings) (i := n) (by omega)]; exact hc11)⟩) ?_ (by show f.bins.length - (k4.1 + 1) < f.bins.length - k4.1; omega)
                            (refine Ent.mk' ?_ ?_ <;> (repeat' (first | exact allSub_zero | exact allTags_nil | refine allSub_succ' ?_ (Ty.sub_any _) | refine allSub_succ' ?_ (Ty.sub_refl _))))
                            all_goals skip
                ·
                  refine t_exit ?_
                  refine i_then_exit ?_
                  refine i_then_exit ?_
                  refine i_block_exit rfl ?_
                  refine i_then ?_
                  refine t_seq ?_
                  refine t_seq ?_
                  refine t_region ?_
                  refine asI rfl ?_
                  refine r_nil ?_
                  refine i_then ?_
                  refine t_block ?_
                  refine t_loop (fun (k5 : {k : Nat // ∀ j : Nat, j < k → decide ((j : Int) ∈ aheadM f j) = false}) => live [(1, Ty.pp (flrTys f)), (11, Ty.int .i64 (k5.1 : Nat))] []) (fun k5 => f.turnings.length - k5.1) (⟨0, fun j hj => absurd hj (Nat.not_lt_zero _)⟩) ?_ fun k5 => ?_
                  · (refine Ent.mk' ?_ ?_ <;> (repeat' (first | exact allSub_zero | exact allTags_nil | refine allSub_succ' ?_ (Ty.sub_any _) | refine allSub_succ' ?_ (Ty.sub_refl _))))
                  ·
                    refine t_seq ?_
                    refine t_seq ?_
                    refine t_region ?_
                    refine mvI rfl ?_
                    refine r_field_pp rfl rfl rfl rfl rfl (by decide) ?_
                    refine r_load_pp rfl rfl rfl rfl ?_
                    refine r_len rfl rfl rfl ?_
                    refine r_bin rfl rfl rfl ?_
                    refine r_nil ?_
                    refine i_then ?_
                    refine t_cond_dec rfl (fun hc12 => ?_) (fun hc12 => ?_)
                    ·
                      refine t_skip ?_
                      refine i_then ?_
                      refine t_seq ?_
                      refine t_block ?_
                      refine t_seq ?_
                      refine t_region ?_
                      refine r_load_ppN rfl rfl rfl (by exact Nat.le_of_ble_eq_true rfl) ?_
                      refine mvI rfl ?_
                      refine r_call (c_Ahead f hs _) rfl rfl rfl rfl rfl ?_
                      refine mvI rfl ?_
                      refine r_call (c_has _ _) rfl rfl rfl rfl rfl ?_
                      refine r_nil ?_
                      refine i_then ?_
                      refine t_cond_dec rfl (fun hc13 => ?_) (fun hc13 => ?_)
                      ·
                        refine t_seq ?_
                        refine t_region ?_
                        refine asI rfl ?_
                        refine r_nil ?_
                        refine i_then ?_
                        refine t_ret ?_
                        refine i_block_ret ?_
                        refine i_then_ret ?_
                        refine i_then_ret ?_
                        refine i_block_ret ?_
                        refine i_then_ret ?_
                        refine i_rp1 rfl rfl ?_
                        all_goals skip
                        exact ret_eq rfl rfl (congrArg (Ty.int .i64) (by rw [linkedM, if_neg (ng (any_neg k1.2 (by omega))), if_neg (ng (any_neg k2.2 (by omega))), if_neg (ng (any_neg k3.2 (by omega))), if_neg (ng (iot_any_neg fun k hk => by rw [Int.toNat_natCast, getD_nth]; exact k4.2 k (by omega))), if_pos (iot_any_pos (k := k5.1) (by omega) (decide_eq_true hc13))]))
                      ·
                        refine t_skip ?_
                        refine i_block ?_
                        refine i_then ?_
                        refine t_region ?_
                        refine mvI rfl ?_
                        refine r_add rfl rfl (by omega) (by omega) ?_
                        refine asI rfl ?_
                        refine r_nil ?_
                        refine i_round (⟨k5.1 + 1, ext_lt k5.2 (decide_eq_false hc13)⟩) ?_ (by show f.turnings.length - (k5.1 + 1) < f.turnings.length - k5.1; omega)
                        (refine Ent.mk' ?_ ?_ <;> (repeat' (first | exact allSub_zero | exact allTags_nil | refine allSub_succ' ?_ (Ty.sub_any _) | refine allSub_succ' ?_ (Ty.sub_refl _))))
                        all_goals skip
                    ·
                      refine t_exit ?_
                      refine i_then_exit ?_
                      refine i_then_exit ?_
                      refine i_block_exit rfl ?_
                      refine i_then ?_
                      refine t_seq ?_
                      refine t_region ?_
                      refine asI rfl ?_
                      refine r_nil ?_
                      refine i_then ?_
                      refine t_ret ?_
                      refine i_rp1 rfl rfl ?_
                      all_goals skip
                      exact ret_eq rfl rfl (congrArg (Ty.int .i64) (by rw [linkedM, if_neg (ng (any_neg k1.2 (by omega))), if_neg (ng (any_neg k2.2 (by omega))), if_neg (ng (any_neg k3.2 (by omega))), if_neg (ng (iot_any_neg fun k hk => by rw [Int.toNat_natCast, getD_nth]; exact k4.2 k (by omega))), if_neg (ng (iot_any_neg fun k hk => k5.2 k (by omega)))]))
end Go.Proofs.Ytifgbnbkimcchaa

namespace Go.Proofs.Ytifgbnbkimcchaa
open Go.T
def orderM (f : Flr) (order : List Int) : Int :=
  if (order.length : Int) ≠ f.turnings.length then 2
  else if order.any fun x => decide (x < 0 ∨ x ≥ f.turnings.length) then 1
  else if (iot order.length).any fun i => decide (nth order i.toNat ∈ order.take i.toNat) then 5
  else if (iot order.length).any fun i => (aheadM f (nth order i.toNat)).any fun y => !decide (y ∈ order.take i.toNat) then 4
  else 0
def Flr.Named (f : Flr) : Prop := ∀ t ∈ f.turnings, (-1 ≤ t.src ∧ t.src < f.bins.length) ∧ (-1 ≤ t.dst ∧ t.dst < f.bins.length)
def half1 (t : Trn) (s : List Int) : List Int := if t.src ≥ 0 then s.set t.src.toNat (nth s t.src.toNat - t.sacks) else s
def half2 (t : Trn) (s : List Int) : List Int := if t.dst ≥ 0 then s.set t.dst.toNat (nth s t.dst.toNat + t.sacks) else s
def stepS (f : Flr) (s : List Int) (i : Int) : List Int := half2 (nth f.turnings i.toNat) (half1 (nth f.turnings i.toNat) s)
theorem half1_len (t : Trn) (s : List Int) : (half1 t s).length = s.length := by unfold half1; split <;> simp
theorem half2_len (t : Trn) (s : List Int) : (half2 t s).length = s.length := by unfold half2; split <;> simp
def stateM (f : Flr) (order : List Int) (k : Nat) : List Int := (order.take k).foldl (stepS f) (f.bins.map Bin.has)
theorem stepS_len (f : Flr) (s : List Int) (i : Int) : (stepS f s i).length = s.length := by
  rw [stepS, half2_len, half1_len]
theorem foldS_len (f : Flr) : ∀ (l : List Int) (s : List Int), (l.foldl (stepS f) s).length = s.length
  | [], _ => rfl
  | i :: l, s => by rw [List.foldl_cons, foldS_len f l, stepS_len]
theorem stateM_len (f : Flr) (order : List Int) (k : Nat) : (stateM f order k).length = f.bins.length := by simp [stateM, foldS_len]
theorem stateM_succ {f : Flr} {order : List Int} {k : Nat} (h : k < order.length) : stateM f order (k + 1) = stepS f (stateM f order k) (nth order k) := by
  simp only [stateM]; rw [take_nth h, List.foldl_append]; rfl
def Abs (B : Int) (s : List Int) : Prop := ∀ x ∈ s, -B ≤ x ∧ x ≤ B
theorem abs_set {B B' : Int} {s : List Int} (h : Abs B s) (hB : B ≤ B') {k : Nat} {x : Int} (hx : -B' ≤ x ∧ x ≤ B') : Abs B' (s.set k x) := by
  intro y hy
  rcases List.mem_or_eq_of_mem_set hy with h1 | rfl
  · have := h y h1; omega
  · exact hx
theorem abs_nth {B : Int} (hB : 0 ≤ B) {s : List Int} (h : Abs B s) (k : Nat) : -B ≤ nth s k ∧ nth s k ≤ B := by
  rcases Nat.lt_or_ge k s.length with hk | hk
  · exact h _ (nth_mem hk)
  · have : nth s k = 0 := by unfold nth; rw [List.getD_eq_getElem?_getD, List.getElem?_eq_none hk]; rfl
    omega
theorem abs_half1 {t : Trn} (hx : 1 ≤ t.sacks ∧ t.sacks ≤ 300) {B : Int} (hB : 0 ≤ B) {s : List Int} (h : Abs B s) : Abs (B + 300) (half1 t s) := by
  unfold half1
  split
  · have := abs_nth hB h t.src.toNat
    exact abs_set h (by omega) (by omega)
  · intro x hx; have := h x hx; omega
theorem abs_half2 {t : Trn} (hx : 1 ≤ t.sacks ∧ t.sacks ≤ 300) {B : Int} (hB : 0 ≤ B) {s : List Int} (h : Abs B s) : Abs (B + 300) (half2 t s) := by
  unfold half2
  split
  · have := abs_nth hB h t.dst.toNat
    exact abs_set h (by omega) (by omega)
  · intro x hx; have := h x hx; omega
theorem abs_step {f : Flr} (hr : f.Ranged) {B : Int} (hB : 0 ≤ B) {s : List Int} (h : Abs B s) {i : Int} (hi : i.toNat < f.turnings.length) : Abs (B + 600) (stepS f s i) := by
  have hx := hr.sacksR _ (nth_mem hi)
  have := abs_half2 hx (by omega) (abs_half1 hx hB h)
  intro x hx; have := this x hx; omega
theorem abs_fold {f : Flr} (hr : f.Ranged) : ∀ (l : List Int) (B : Int) (s : List Int), 0 ≤ B → Abs B s → (∀ x ∈ l, 0 ≤ x ∧ x < f.turnings.length) → Abs (B + 600 * l.length) (l.foldl (stepS f) s)
  | [], B, s, _, h, _ => by simpa using h
  | i :: l, B, s, hB, h, hl => by
    have h1 := hl i List.mem_cons_self
    have := abs_fold hr l (B + 600) (stepS f s i) (by omega) (abs_step hr hB h (by omega)) fun x hx => hl x (List.mem_cons_of_mem _ hx)
    rw [List.foldl_cons]
    intro x hx
    have := this x hx
    simp only [List.length_cons]
    omega
theorem stateM_abs {f : Flr} (hr : f.Ranged) {order : List Int} (ho : ∀ x ∈ order, 0 ≤ x ∧ x < f.turnings.length) (hl : order.length ≤ 20) (k : Nat) : Abs 12300 (stateM f order k) := by
  have := abs_fold hr (order.take k) 300 (f.bins.map Bin.has) (by omega) (fun x hx => by
    obtain ⟨b, hb, rfl⟩ := List.mem_map.1 hx
    have := hr.hasR b hb; omega) fun x hx => ho x (List.mem_of_mem_take hx)
  intro x hx
  have := this x hx
  rw [List.length_take] at this
  omega
def sumT (f : Flr) (s : List Int) (i b : Nat) : Int := ((List.range i).map fun q => nth s q * nth (nth f.bins q).shares b).sum
theorem sumT_succ (f : Flr) (s : List Int) (i b : Nat) : sumT f s (i + 1) b = sumT f s i b + nth s i * nth (nth f.bins i).shares b := by
  simp [sumT, List.range_succ]
theorem mul_bound {a c B : Int} (h : -B ≤ a ∧ a ≤ B) (hc : 0 ≤ c ∧ c ≤ 4) : -(4 * B) ≤ a * c ∧ a * c ≤ 4 * B := by
  have : c = 0 ∨ c = 1 ∨ c = 2 ∨ c = 3 ∨ c = 4 := by omega
  rcases this with rfl | rfl | rfl | rfl | rfl <;> omega
theorem share_bound {f : Flr} (hr : f.Ranged) {i b : Nat} (hi : i < f.bins.length) : 0 ≤ nth (nth f.bins i).shares b ∧ nth (nth f.bins i).shares b ≤ 4 := by
  rcases Nat.lt_or_ge b (nth f.bins i).shares.length with hk | hk
  · exact hr.sharesR _ (nth_mem hi) _ (nth_mem hk)
  · have : nth (nth f.bins i).shares b = 0 := by
      show (nth f.bins i).shares.getD b default = 0
      rw [List.getD_eq_getElem?_getD, List.getElem?_eq_none hk]; rfl
    omega
theorem sumT_bound {f : Flr} (hr : f.Ranged) {s : List Int} (h : Abs 12300 s) : ∀ (i b : Nat), i ≤ f.bins.length → -(49200 * i) ≤ sumT f s i b ∧ sumT f s i b ≤ 49200 * i
  | 0, b, _ => by simp [sumT]
  | i + 1, b, hi => by
    rw [sumT_succ]
    have h1 := sumT_bound hr h i b (by omega)
    have h2 := mul_bound (abs_nth (by omega) h i) (share_bound hr (b := b) (show i < f.bins.length by omega))
    omega
def partM (f : Flr) (s : List Int) (i j : Nat) : List Int := (List.range f.bears.length).map fun b => if b < j then sumT f s (i + 1) b else sumT f s i b
def loadM (f : Flr) (s : List Int) : List Int := (List.range f.bears.length).map fun b => sumT f s f.bins.length b
def loadsM (f : Flr) (order : List Int) : List (List Int) := (List.range (order.length + 1)).map fun k => loadM f (stateM f order k)
theorem partM_len (f : Flr) (s : List Int) (i j : Nat) : (partM f s i j).length = f.bears.length := by simp [partM]
theorem part_full (f : Flr) (s : List Int) (i j : Nat) (hj : f.bears.length ≤ j) : partM f s i j = partM f s (i + 1) 0 := by
  simp only [partM]
  refine List.map_congr_left fun b hb => ?_
  have := List.mem_range.1 hb
  rw [if_pos (by omega), if_neg (by omega)]
theorem part_start (f : Flr) (s : List Int) : List.replicate f.bears.length 0 = partM f s 0 0 := by
  refine List.ext_getElem (by simp [partM]) fun k h1 h2 => ?_
  simp [partM, sumT]
theorem part_load (f : Flr) (s : List Int) : partM f s f.bins.length 0 = loadM f s := by simp [partM, loadM]
theorem nth_part {f : Flr} {s : List Int} {i j : Nat} (hj : j < f.bears.length) : nth (partM f s i j) j = sumT f s i j := by
  rw [nth_lt (by rw [partM_len]; exact hj)]
  simp [partM]
theorem part_set {f : Flr} {s : List Int} {i j : Nat} {x : Int} (hj : j < f.bears.length) (hx : x = sumT f s (i + 1) j) : (partM f s i j).set j x = partM f s i (j + 1) := by
  refine List.ext_getElem (by simp [partM_len]) fun k h1 h2 => ?_
  rw [List.getElem_set]
  simp only [partM, List.getElem_map, List.getElem_range]
  by_cases e : j = k
  · subst e; rw [if_pos rfl, if_pos (by omega)]; exact hx
  · rw [if_neg e]
    by_cases h : k < j
    · rw [if_pos h, if_pos (by omega)]
    · rw [if_neg h, if_neg (by omega)]
end Go.Proofs.Ytifgbnbkimcchaa

namespace Go.Proofs.Ytifgbnbkimcchaa
open Go Go.T
attribute [local irreducible] dInt dBool dSl dPp dPtr dAgg dTup dClo dAny dEx dStr dGd dCells dVec dVs dRow dOp nth Tri Into TOps Ctr bodyPost Exit.then Exit.inBlock Code.wp Code.wpIn
set_option maxRecDepth 100000 in
theorem c_rCheck (f : Flr) (hs : f.Small) : Ctr Try.prog 18 [flrT f] (Ty.int .i64 (checkM f)) := by
  refine fn_intro Try.func18 rfl (by decide) Try.ntmps18 (by exact Nat.le_of_ble_eq_true rfl) fun w0 M0 => ?_
  have hs1 := hs.bears; have hs2 := hs.bins; have hs3 := hs.turnings; have hs4 := hs.rules
  refine t_seq ?_
  refine t_region ?_
  refine r_box_agg rfl ?_
  refine asI rfl ?_
  refine r_nil ?_
  refine i_then ?_
  refine t_seq ?_
  refine t_seq ?_
  refine t_region ?_
  refine r_field_pp rfl rfl rfl rfl rfl (by decide) ?_
  refine r_load_pp rfl rfl rfl rfl ?_
  refine r_len rfl rfl rfl ?_
  refine r_call (c_off _ _ _) rfl rfl rfl rfl rfl ?_
  refine mvB rfl ?_
  apply r_guard (s := 12) rfl rfl rfl
  · intro hg; apply opT_of; (refine r_field_pp rfl rfl rfl rfl rfl (by decide) ?_); refine r_nil ?_; exact rfl
  · exact rfl
  · exact rfl
  apply r_guard (s := 12) rfl rfl rfl
  · intro hg; apply opT_strip (s := 13) rfl (by (rw [hg]; rfl)); apply opT_of; (refine r_load_pp rfl rfl rfl rfl ?_); refine r_nil ?_; exact rfl
  · exact rfl
  · exact rfl
  apply r_guard (s := 12) rfl rfl rfl
  · intro hg; apply opT_strip (s := 14) rfl (by (rw [hg]; rfl)); apply opT_of; (refine r_len rfl rfl rfl ?_); refine r_nil ?_; exact rfl
  · exact rfl
  · exact rfl
  apply r_guard (s := 12) rfl rfl rfl
  · intro hg; apply opT_strip (s := 15) rfl (by (rw [hg]; rfl)); apply opT_of; (refine r_bin rfl rfl rfl ?_); refine r_nil ?_; exact rfl
  · exact rfl
  · exact rfl
  refine r_or rfl rfl ?_
  refine mvB rfl ?_
  apply r_guard (s := 18) rfl rfl rfl
  · intro hg; apply opT_of; (refine r_field_pp rfl rfl rfl rfl rfl (by decide) ?_); refine r_nil ?_; exact rfl
  · exact rfl
  · exact rfl
  apply r_guard (s := 18) rfl rfl rfl
  · intro hg; apply opT_strip (s := 19) rfl (by (rw [hg]; rfl)); apply opT_of; (refine r_load_pp rfl rfl rfl rfl ?_); refine r_nil ?_; exact rfl
  · exact rfl
  · exact rfl
  apply r_guard (s := 18) rfl rfl rfl
  · intro hg; apply opT_strip (s := 20) rfl (by (rw [hg]; rfl)); apply opT_of; (refine r_len rfl rfl rfl ?_); refine r_nil ?_; exact rfl
  · exact rfl
  · exact rfl
  apply r_guard (s := 18) rfl rfl rfl
  · intro hg; apply opT_strip (s := 21) rfl (by (rw [hg]; rfl)); apply opT_of; (refine r_bin rfl rfl rfl ?_); refine r_nil ?_; exact rfl
  · exact rfl
  · exact rfl
  refine r_or rfl rfl ?_
  refine mvB rfl ?_
  apply r_guard (s := 24) rfl rfl rfl
  · intro hg; apply opT_of; (refine r_field_pp rfl rfl rfl rfl rfl (by decide) ?_); refine r_nil ?_; exact rfl
  · exact rfl
  · exact rfl
  apply r_guard (s := 24) rfl rfl rfl
  · intro hg; apply opT_strip (s := 25) rfl (by (rw [hg]; rfl)); apply opT_of; (refine r_load_pp rfl rfl rfl rfl ?_); refine r_nil ?_; exact rfl
  · exact rfl
  · exact rfl
  apply r_guard (s := 24) rfl rfl rfl
  · intro hg; apply opT_strip (s := 26) rfl (by (rw [hg]; rfl)); apply opT_of; (refine r_len rfl rfl rfl ?_); refine r_nil ?_; exact rfl
  · exact rfl
  · exact rfl
  apply r_guard (s := 24) rfl rfl rfl
  · intro hg; apply opT_strip (s := 27) rfl (by (rw [hg]; rfl)); apply opT_of; (refine r_bin rfl rfl rfl ?_); refine r_nil ?_; exact rfl
  · exact rfl
  · exact rfl
  refine r_or rfl rfl ?_
  refine r_nil ?_
  refine i_then ?_
  refine t_cond rfl (fun hc1 => ?_) (fun hc1 => ?_)
  ·
    refine t_seq ?_
    refine t_region ?_
    refine asI rfl ?_
    refine r_nil ?_
    refine i_then ?_
    refine t_ret ?_
    refine i_then_ret ?_
    refine i_rp1 rfl rfl ?_
    all_goals skip
    exact ret_eq rfl rfl (congrArg (Ty.int .i64) (by rw [checkM, if_pos (show f.many = true from hc1)]))
  ·
    refine t_skip ?_
    refine i_then ?_
    refine t_seq ?_
    refine t_seq ?_
    refine t_region ?_
    refine asI rfl ?_
    refine r_nil ?_
    refine i_then ?_
    refine t_block ?_
    refine t_loop (fun (k1 : {k : Nat // ∀ b ∈ f.bins.take k, (!decide ((b.shares.length : Int) = f.bears.length)) = false}) => live [(1, Ty.pp (flrTys f)), (3, Ty.int .i64 (k1.1 : Nat))] []) (fun k1 => f.bins.length - k1.1) (⟨0, by simp⟩) ?_ fun k1 => ?_
    · (refine Ent.mk' ?_ ?_ <;> (repeat' (first | exact allSub_zero | exact allTags_nil | refine allSub_succ' ?_ (Ty.sub_any _) | refine allSub_succ' ?_ (Ty.sub_refl _))))
    ·
      refine t_seq ?_
      refine t_seq ?_
      refine t_region ?_
      refine mvI rfl ?_
      refine r_field_pp rfl rfl rfl rfl rfl (by decide) ?_
      refine r_load_pp rfl rfl rfl rfl ?_
      refine r_len rfl rfl rfl ?_
      refine r_bin rfl rfl rfl ?_
      refine r_nil ?_
      refine i_then ?_
      refine t_cond_dec rfl (fun hc2 => ?_) (fun hc2 => ?_)
      ·
        refine t_skip ?_
        refine i_then ?_
        refine t_seq ?_
        refine t_block ?_
        refine t_seq ?_
        refine t_draw mixed rfl ?_
        refine r_field_pp rfl rfl rfl rfl rfl (by decide) ?_
        refine r_load_pp rfl rfl rfl rfl ?_
        refine mvI rfl ?_
        refine r_index_slN rfl rfl rfl rfl rfl rfl (by omega) ?_
        refine r_field_pp rfl rfl rfl rfl rfl (by decide) ?_
        refine r_load_pp rfl rfl rfl rfl ?_
        refine r_len rfl rfl rfl ?_
        refine r_field_pp rfl rfl rfl rfl rfl (by decide) ?_
        refine r_load_pp rfl rfl rfl rfl ?_
        refine r_len rfl rfl rfl ?_
        refine r_bin rfl rfl rfl ?_
        refine r_nil ?_
        refine ⟨by kernel_rfl, ?_⟩
        refine i_then ?_
        refine t_cond_ndec rfl (fun hc3 => ?_) (fun hc3 => ?_)
        ·
          refine t_seq ?_
          refine t_region ?_
          refine asI rfl ?_
          refine r_nil ?_
          refine i_then ?_
          refine t_ret ?_
          refine i_block_ret ?_
          refine i_then_ret ?_
          refine i_then_ret ?_
          refine i_block_ret ?_
          refine i_then_ret ?_
          refine i_rp1 rfl rfl ?_
          all_goals skip
          exact ret_eq rfl rfl (congrArg (Ty.int .i64) (by rw [checkM, if_neg (ng (show f.many = false from hc1)), if_pos (any_at (q := fun b : Bin => !decide ((b.shares.length : Int) = f.bears.length)) (k := k1.1) (by omega) (by rw [decide_eq_false hc3]; rfl))]))
        ·
          refine t_skip ?_
          refine i_block ?_
          refine i_then ?_
          refine t_region ?_
          refine mvI rfl ?_
          refine r_add rfl rfl (by omega) (by omega) ?_
          refine asI rfl ?_
          refine r_nil ?_
          refine i_round (⟨k1.1 + 1, ext_false k1.2 (by omega) (by rw [decide_eq_true hc3]; rfl)⟩) ?_ (by show f.bins.length - (k1.1 + 1) < f.bins.length - k1.1; omega)
          (refine Ent.mk' ?_ ?_ <;> (repeat' (first | exact allSub_zero | exact allTags_nil | refine allSub_succ' ?_ (Ty.sub_any _) | refine allSub_succ' ?_ (Ty.sub_refl _))))
          all_goals skip
      ·
        refine t_exit ?_
        refine i_then_exit ?_
        refine i_then_exit ?_
        refine i_block_exit rfl ?_
        refine i_then ?_
        refine t_seq ?_
        refine t_seq ?_
        refine t_region ?_
        refine asI rfl ?_
        refine r_nil ?_
        refine i_then ?_
        refine t_block ?_
        refine t_loop (fun (k2 : {k : Nat // ∀ n ∈ f.bears.take k, offB n 0 4000 = false}) => live [(1, Ty.pp (flrTys f)), (4, Ty.int .i64 (k2.1 : Nat))] []) (fun k2 => f.bears.length - k2.1) (⟨0, by simp⟩) ?_ fun k2 => ?_
        · (refine Ent.mk' ?_ ?_ <;> (repeat' (first | exact allSub_zero | exact allTags_nil | refine allSub_succ' ?_ (Ty.sub_any _) | refine allSub_succ' ?_ (Ty.sub_refl _))))
        ·
          refine t_seq ?_
          refine t_seq ?_
          refine t_region ?_
          refine mvI rfl ?_
          refine r_field_pp rfl rfl rfl rfl rfl (by decide) ?_
          refine r_load_pp rfl rfl rfl rfl ?_
          refine r_len rfl rfl rfl ?_
          refine r_bin rfl rfl rfl ?_
          refine r_nil ?_
          refine i_then ?_
          refine t_cond_dec rfl (fun hc4 => ?_) (fun hc4 => ?_)
          ·
            refine t_skip ?_
            refine i_then ?_
            refine t_seq ?_
            refine t_block ?_
            refine t_seq ?_
            refine t_region ?_
            refine r_field_pp rfl rfl rfl rfl rfl (by decide) ?_
            refine r_load_pp rfl rfl rfl rfl ?_
            refine mvI rfl ?_
            refine r_index_slN rfl rfl rfl rfl rfl rfl (by omega) ?_
            refine r_load_pp rfl rfl rfl rfl ?_
            refine r_call (c_off _ _ _) rfl rfl rfl rfl rfl ?_
            refine r_nil ?_
            refine i_then ?_
            refine t_cond rfl (fun hc5 => ?_) (fun hc5 => ?_)
            ·
              refine t_seq ?_
              refine t_region ?_
              refine asI rfl ?_
              refine r_nil ?_
              refine i_then ?_
              refine t_ret ?_
              refine i_block_ret ?_
              refine i_then_ret ?_
              refine i_then_ret ?_
              refine i_block_ret ?_
              refine i_then_ret ?_
              refine i_rp1 rfl rfl ?_
              all_goals skip
              exact ret_eq rfl rfl (congrArg (Ty.int .i64) (by rw [checkM, if_neg (ng (show f.many = false from hc1)), if_neg (ng (any_neg k1.2 (by omega))), if_pos (any_at (q := fun n => offB n 0 4000) (k := k2.1) (by omega) hc5)]))
            ·
              refine t_skip ?_
              refine i_block ?_
              refine i_then ?_
              refine t_region ?_
              refine mvI rfl ?_
              refine r_add rfl rfl (by omega) (by omega) ?_
              refine asI rfl ?_
              refine r_nil ?_
              refine i_round (⟨k2.1 + 1, ext_false k2.2 (by omega) hc5⟩) ?_ (by show f.bears.length - (k2.1 + 1) < f.bears.length - k2.1; omega)
              (refine Ent.mk' ?_ ?_ <;> (repeat' (first | exact allSub_zero | exact allTags_nil | refine allSub_succ' ?_ (Ty.sub_any _) | refine allSub_succ' ?_ (Ty.sub_refl _))))
              all_goals skip
          ·
            refine t_exit ?_
            refine i_then_exit ?_
            refine i_then_exit ?_
            refine i_block_exit rfl ?_
            refine i_then ?_
            refine t_seq ?_
            refine t_seq ?_
            refine t_region ?_
            refine asI rfl ?_
            refine r_nil ?_
            refine i_then ?_
            refine t_block ?_
            refine t_loop (fun (k3 : {k : Nat // ∀ b ∈ f.bins.take k, (offB b.has 0 300 || b.shares.any fun n => offB n 0 4) = false}) => live [(1, Ty.pp (flrTys f)), (5, Ty.int .i64 (k3.1 : Nat))] []) (fun k3 => f.bins.length - k3.1) (⟨0, by simp⟩) ?_ fun k3 => ?_
            · (refine Ent.mk' ?_ ?_ <;> (repeat' (first | exact allSub_zero | exact allTags_nil | refine allSub_succ' ?_ (Ty.sub_any _) | refine allSub_succ' ?_ (Ty.sub_refl _))))
            ·
              refine t_seq ?_
              refine t_seq ?_
              refine t_region ?_
              refine mvI rfl ?_
              refine r_field_pp rfl rfl rfl rfl rfl (by decide) ?_
              refine r_load_pp rfl rfl rfl rfl ?_
              refine r_len rfl rfl rfl ?_
              refine r_bin rfl rfl rfl ?_
              refine r_nil ?_
              refine i_then ?_
              refine t_cond_dec rfl (fun hc6 => ?_) (fun hc6 => ?_)
              ·
                refine t_skip ?_
                refine i_then ?_
                refine t_seq ?_
                refine t_block ?_
                refine t_seq ?_
                refine t_seq ?_
                refine t_region ?_
                refine r_field_pp rfl rfl rfl rfl rfl (by decide) ?_
                refine r_load_pp rfl rfl rfl rfl ?_
                refine mvI rfl ?_
                refine r_index_slN rfl rfl rfl rfl rfl rfl (by omega) ?_
                refine r_field_pp rfl rfl rfl rfl rfl (by decide) ?_
                refine r_load_pp rfl rfl rfl rfl ?_
                refine r_call (c_off _ _ _) rfl rfl rfl rfl rfl ?_
                refine r_nil ?_
                refine i_then ?_
                refine t_cond rfl (fun hc7 => ?_) (fun hc7 => ?_)
                ·
                  refine t_seq ?_
                  refine t_region ?_
                  refine asI rfl ?_
                  refine r_nil ?_
                  refine i_then ?_
                  refine t_ret ?_
                  refine i_then_ret ?_
                  refine i_block_ret ?_
                  refine i_then_ret ?_
                  refine i_then_ret ?_
                  refine i_block_ret ?_
                  refine i_then_ret ?_
                  refine i_rp1 rfl rfl ?_
                  all_goals skip
                  exact ret_eq rfl rfl (congrArg (Ty.int .i64) (by rw [checkM, if_neg (ng (show f.many = false from hc1)), if_neg (ng (any_neg k1.2 (by omega))), if_neg (ng (any_neg k2.2 (by omega))), if_pos (any_at (q := fun b : Bin => offB b.has 0 300 || b.shares.any fun n => offB n 0 4) (k := k3.1) (by omega) (by rw [show offB (nth f.bins k3.1).has 0 300 = true from hc7]; rfl))]))
                ·
                  refine t_skip ?_
                  refine i_then ?_
                  refine t_seq ?_
                  have hsl : (nth f.bins k3.1).shares.length = f.bears.length := by have := any_none (any_neg k1.2 (by omega)) (nth_mem (xs := f.bins) (k := k3.1) (by omega)); simp only [Bool.not_eq_false', decide_eq_true_eq] at this; omega
                  refine t_region ?_
                  refine asI rfl ?_
                  refine r_nil ?_
                  refine i_then ?_
                  refine t_block ?_
                  refine t_loop (fun (m : {m : Nat // ∀ n ∈ (nth f.bins k3.1).shares.take m, offB n 0 4 = false}) => live [(1, Ty.pp (flrTys f)), (5, Ty.int .i64 (k3.1 : Nat)), (6, Ty.int .i64 (m.1 : Nat))] []) (fun m => f.bears.length - m.1) (⟨0, by simp⟩) ?_ fun m => ?_
                  · (refine Ent.mk' ?_ ?_ <;> (repeat' (first | exact allSub_zero | exact allTags_nil | refine allSub_succ' ?_ (Ty.sub_any _) | refine allSub_succ' ?_ (Ty.sub_refl _))))
                  ·
                    refine t_seq ?_
                    refine t_seq ?_
                    refine t_region ?_
                    refine mvI rfl ?_
                    refine r_field_pp rfl rfl rfl rfl rfl (by decide) ?_
                    refine r_load_pp rfl rfl rfl rfl ?_
                    refine r_len rfl rfl rfl ?_
                    refine r_bin rfl rfl rfl ?_
                    refine r_nil ?_
                    refine i_then ?_
                    refine t_cond_dec rfl (fun hc8 => ?_) (fun hc8 => ?_)
                    ·
                      refine t_skip ?_
                      refine i_then ?_
                      refine t_seq ?_
                      refine t_block ?_
                      refine t_seq ?_
                      refine t_region ?_
                      refine r_field_pp rfl rfl rfl rfl rfl (by decide) ?_
                      refine r_load_pp rfl rfl rfl rfl ?_
                      refine mvI rfl ?_
                      refine r_index_slN rfl rfl rfl rfl rfl rfl (by omega) ?_
                      refine r_field_pp rfl rfl rfl rfl rfl (by decide) ?_
                      refine r_load_pp rfl rfl rfl rfl ?_
                      refine mvI rfl ?_
                      refine r_index_slN rfl rfl rfl rfl rfl rfl (by omega) ?_
                      refine r_load_pp rfl rfl rfl rfl ?_
                      refine r_call (c_off _ _ _) rfl rfl rfl rfl rfl ?_
                      refine r_nil ?_
                      refine i_then ?_
                      refine t_cond rfl (fun hc9 => ?_) (fun hc9 => ?_)
                      ·
                        refine t_seq ?_
                        refine t_region ?_
                        refine asI rfl ?_
                        refine r_nil ?_
                        refine i_then ?_
                        refine t_ret ?_
                        refine i_block_ret ?_
                        refine i_then_ret ?_
                        refine i_then_ret ?_
                        refine i_block_ret ?_
                        refine i_block_ret ?_
                        refine i_then_ret ?_
                        refine i_then_ret ?_
                        refine i_block_ret ?_
                        refine i_then_ret ?_
                        refine i_rp1 rfl rfl ?_
                        all_goals skip
                        exact ret_eq rfl rfl (congrArg (Ty.int .i64) (by rw [checkM, if_neg (ng (show f.many = false from hc1)), if_neg (ng (any_neg k1.2 (by omega))), if_neg (ng (any_neg k2.2 (by omega))), if_pos (any_at (q := fun b : Bin => offB b.has 0 300 || b.shares.any fun n => offB n 0 4) (k := k3.1) (by omega) (by rw [any_at (q := fun n => offB n 0 4) (k := m.1) (by omega) hc9, Bool.or_true]))]))
                      ·
                        refine t_skip ?_
                        refine i_block ?_
                        refine i_then ?_
                        refine t_region ?_
                        refine mvI rfl ?_
                        refine r_add rfl rfl (by omega) (by omega) ?_
                        refine asI rfl ?_
                        refine r_nil ?_
                        refine i_round (⟨m.1 + 1, ext_false m.2 (by omega) hc9⟩) ?_ (by show f.bears.length - (m.1 + 1) < f.bears.length - m.1; omega)
                        (refine Ent.mk' ?_ ?_ <;> (repeat' (first | exact allSub_zero | exact allTags_nil | refine allSub_succ' ?_ (Ty.sub_any _) | refine allSub_succ' ?_ (Ty.sub_refl _))))
                        all_goals skip
                    ·
                      refine t_exit ?_
                      refine i_then_exit ?_
                      refine i_then_exit ?_
                      refine i_block_exit rfl ?_
                      refine i_block ?_
                      refine i_then ?_
                      refine t_region ?_
                      refine mvI rfl ?_
                      refine r_add rfl rfl (by omega) (by omega) ?_
                      refine asI rfl ?_
                      refine r_nil ?_
                      refine i_round (⟨k3.1 + 1, ext_false k3.2 (by omega) (by rw [show offB (nth f.bins k3.1).has 0 300 = false from hc7, any_neg m.2 (by omega)]; rfl)⟩) ?_ (by show f.bins.length - (k3.1 + 1) < f.bins.length - k3.1; omega)
                      (refine Ent.mk' ?_ ?_ <;> (repeat' (first | exact allSub_zero | exact allTags_nil | refine allSub_succ' ?_ (Ty.sub_any _) | refine allSub_succ' ?_ (Ty.sub_refl _))))
                      all_goals skip
              ·
                refine t_exit ?_
                refine i_then_exit ?_
                refine i_then_exit ?_
                refine i_block_exit rfl ?_
                refine i_then ?_
                refine t_seq ?_
                refine t_seq ?_
                refine t_region ?_
                refine asI rfl ?_
                refine r_nil ?_
                refine i_then ?_
                refine t_block ?_
                refine t_loop (fun (k5 : {k : Nat // ∀ t ∈ f.turnings.take k, offB t.sacks 1 300 = false}) => live [(1, Ty.pp (flrTys f)), (7, Ty.int .i64 (k5.1 : Nat))] []) (fun k5 => f.turnings.length - k5.1) (⟨0, by simp⟩) ?_ fun k5 => ?_
                · (refine Ent.mk' ?_ ?_ <;> (repeat' (first | exact allSub_zero | exact allTags_nil | refine allSub_succ' ?_ (Ty.sub_any _) | refine allSub_succ' ?_ (Ty.sub_refl _))))
                ·
                  refine t_seq ?_
                  refine t_seq ?_
                  refine t_region ?_
                  refine mvI rfl ?_
                  refine r_field_pp rfl rfl rfl rfl rfl (by decide) ?_
                  refine r_load_pp rfl rfl rfl rfl ?_
                  refine r_len rfl rfl rfl ?_
                  refine r_bin rfl rfl rfl ?_
                  refine r_nil ?_
                  refine i_then ?_
                  refine t_cond_dec rfl (fun hc10 => ?_) (fun hc10 => ?_)
                  ·
                    refine t_skip ?_
                    refine i_then ?_
                    refine t_seq ?_
                    refine t_block ?_
                    refine t_seq ?_
                    refine t_region ?_
                    refine r_field_pp rfl rfl rfl rfl rfl (by decide) ?_
                    refine r_load_pp rfl rfl rfl rfl ?_
                    refine mvI rfl ?_
                    refine r_index_slN rfl rfl rfl rfl rfl rfl (by omega) ?_
                    refine r_field_pp rfl rfl rfl rfl rfl (by decide) ?_
                    refine r_load_pp rfl rfl rfl rfl ?_
                    refine r_call (c_off _ _ _) rfl rfl rfl rfl rfl ?_
                    refine r_nil ?_
                    refine i_then ?_
                    refine t_cond rfl (fun hc11 => ?_) (fun hc11 => ?_)
                    ·
                      refine t_seq ?_
                      refine t_region ?_
                      refine asI rfl ?_
                      refine r_nil ?_
                      refine i_then ?_
                      refine t_ret ?_
                      refine i_block_ret ?_
                      refine i_then_ret ?_
                      refine i_then_ret ?_
                      refine i_block_ret ?_
                      refine i_then_ret ?_
                      refine i_rp1 rfl rfl ?_
                      all_goals skip
                      exact ret_eq rfl rfl (congrArg (Ty.int .i64) (by rw [checkM, if_neg (ng (show f.many = false from hc1)), if_neg (ng (any_neg k1.2 (by omega))), if_neg (ng (any_neg k2.2 (by omega))), if_neg (ng (any_neg k3.2 (by omega))), if_pos (any_at (q := fun t : Trn => offB t.sacks 1 300) (k := k5.1) (by omega) hc11)]))
                    ·
                      refine t_skip ?_
                      refine i_block ?_
                      refine i_then ?_
                      refine t_region ?_
                      refine mvI rfl ?_
                      refine r_add rfl rfl (by omega) (by omega) ?_
                      refine asI rfl ?_
                      refine r_nil ?_
                      refine i_round (⟨k5.1 + 1, ext_false k5.2 (by omega) hc11⟩) ?_ (by show f.turnings.length - (k5.1 + 1) < f.turnings.length - k5.1; omega)
                      (refine Ent.mk' ?_ ?_ <;> (repeat' (first | exact allSub_zero | exact allTags_nil | refine allSub_succ' ?_ (Ty.sub_any _) | refine allSub_succ' ?_ (Ty.sub_refl _))))
                      all_goals skip
                  ·
                    refine t_exit ?_
                    refine i_then_exit ?_
                    refine i_then_exit ?_
                    refine i_block_exit rfl ?_
                    refine i_then ?_
                    refine t_seq ?_
                    have hr := ranged_of (f := f) hc1 (any_neg k1.2 (by omega)) (any_neg k2.2 (by omega)) (any_neg k3.2 (by omega)) (any_neg k5.2 (by omega))
                    refine t_region ?_
                    refine r_load_ppN rfl rfl rfl (by exact Nat.le_of_ble_eq_true rfl) ?_
                    refine r_call (c_linked f hs hr) rfl rfl rfl rfl rfl ?_
                    refine asI rfl ?_
                    refine r_nil ?_
                    refine i_then ?_
                    refine t_ret ?_
                    refine i_rp1 rfl rfl ?_
                    all_goals skip
                    exact ret_eq rfl rfl (congrArg (Ty.int .i64) (by rw [checkM, if_neg (ng (show f.many = false from hc1)), if_neg (ng (any_neg k1.2 (by omega))), if_neg (ng (any_neg k2.2 (by omega))), if_neg (ng (any_neg k3.2 (by omega))), if_neg (ng (any_neg k5.2 (by omega)))]))
set_option maxRecDepth 100000 in
theorem c_rOrder (f : Flr) (hs : f.Small) (order : List Int) (hl : order.length ≤ 20) : Ctr Try.prog 38 [flrT f, Ty.sl I64 order] (Ty.int .i64 (orderM f order)) := by
  refine fn_intro Try.func38 rfl (by decide) Try.ntmps38 (by exact Nat.le_of_ble_eq_true rfl) fun w0 M0 => ?_
  have hs1 := hs.bears; have hs2 := hs.bins; have hs3 := hs.turnings; have hs4 := hs.rules
  refine t_seq ?_
  refine t_region ?_
  refine r_box_agg rfl ?_
  refine asI rfl ?_
  refine r_nil ?_
  refine i_then ?_
  refine t_seq ?_
  refine t_seq ?_
  refine t_region ?_
  refine mvS rfl ?_
  refine r_len rfl rfl rfl ?_
  refine r_field_pp rfl rfl rfl rfl rfl (by decide) ?_
  refine r_load_pp rfl rfl rfl rfl ?_
  refine r_len rfl rfl rfl ?_
  refine r_bin rfl rfl rfl ?_
  refine r_nil ?_
  refine i_then ?_
  refine t_cond_ndec rfl (fun hc1 => ?_) (fun hc1 => ?_)
  ·
    refine t_seq ?_
    refine t_region ?_
    refine asI rfl ?_
    refine r_nil ?_
    refine i_then ?_
    refine t_ret ?_
    refine i_then_ret ?_
    refine i_rp1 rfl rfl ?_
    all_goals skip
    exact ret_eq rfl rfl (congrArg (Ty.int .i64) (by rw [orderM, if_pos hc1]))
  ·
    refine t_skip ?_
    refine i_then ?_
    refine t_seq ?_
    refine t_seq ?_
    refine t_region ?_
    refine asI rfl ?_
    refine r_nil ?_
    refine i_then ?_
    refine t_block ?_
    refine t_loop (fun (k1 : {k : Nat // ∀ x ∈ order.take k, decide (x < 0 ∨ x ≥ f.turnings.length) = false}) => live [(1, Ty.sl I64 order), (2, Ty.pp (flrTys f)), (5, Ty.int .i64 (k1.1 : Nat))] []) (fun k1 => order.length - k1.1) (⟨0, by simp⟩) ?_ fun k1 => ?_
    · (refine Ent.mk' ?_ ?_ <;> (repeat' (first | exact allSub_zero | exact allTags_nil | refine allSub_succ' ?_ (Ty.sub_any _) | refine allSub_succ' ?_ (Ty.sub_refl _))))
    ·
      refine t_seq ?_
      refine t_seq ?_
      refine t_region ?_
      refine mvI rfl ?_
      refine mvS rfl ?_
      refine r_len rfl rfl rfl ?_
      refine r_bin rfl rfl rfl ?_
      refine r_nil ?_
      refine i_then ?_
      refine t_cond_dec rfl (fun hc2 => ?_) (fun hc2 => ?_)
      ·
        refine t_skip ?_
        refine i_then ?_
        refine t_seq ?_
        refine t_block ?_
        refine t_seq ?_
        refine t_draw mixed rfl ?_
        refine r_load_ppN rfl rfl rfl (by exact Nat.le_of_ble_eq_true rfl) ?_
        refine mvS rfl ?_
        refine mvI rfl ?_
        refine r_index_slN rfl rfl rfl rfl rfl rfl (by omega) ?_
        refine r_load_pp rfl rfl rfl rfl ?_
        refine r_call (c_There f hs _) rfl rfl rfl rfl rfl ?_
        refine r_bin rfl rfl rfl ?_
        refine r_nil ?_
        refine ⟨by kernel_rfl, ?_⟩
        refine i_then ?_
        refine t_cond_ndec rfl (fun hc3 => ?_) (fun hc3 => ?_)
        ·
          refine t_seq ?_
          refine t_region ?_
          refine asI rfl ?_
          refine r_nil ?_
          refine i_then ?_
          refine t_ret ?_
          refine i_block_ret ?_
          refine i_then_ret ?_
          refine i_then_ret ?_
          refine i_block_ret ?_
          refine i_then_ret ?_
          refine i_rp1 rfl rfl ?_
          all_goals skip
          exact ret_eq rfl rfl (congrArg (Ty.int .i64) (by rw [orderM, if_neg (Classical.not_not.2 hc1), if_pos (any_at (q := fun x => decide (x < 0 ∨ x ≥ (f.turnings.length : Int))) (k := k1.1) (by omega) (decide_eq_true (Classical.byContradiction fun h => hc3 (if_neg h))))]))
        ·
          refine t_skip ?_
          refine i_block ?_
          refine i_then ?_
          refine t_region ?_
          refine mvI rfl ?_
          refine r_add rfl rfl (by omega) (by omega) ?_
          refine asI rfl ?_
          refine r_nil ?_
          refine i_round (⟨k1.1 + 1, ext_false k1.2 (by omega) (by apply decide_eq_false; intro h; rw [if_pos h] at hc3; exact absurd hc3 (by decide))⟩) ?_ (by show order.length - (k1.1 + 1) < order.length - k1.1; omega)
          (refine Ent.mk' ?_ ?_ <;> (repeat' (first | exact allSub_zero | exact allTags_nil | refine allSub_succ' ?_ (Ty.sub_any _) | refine allSub_succ' ?_ (Ty.sub_refl _))))
          all_goals skip
      ·
        refine t_exit ?_
        refine i_then_exit ?_
        refine i_then_exit ?_
        refine i_block_exit rfl ?_
        refine i_then ?_
        refine t_seq ?_
        refine t_seq ?_
        refine t_region ?_
        refine asI rfl ?_
        refine r_nil ?_
        refine i_then ?_
        refine t_block ?_
        refine t_loop (fun (k2 : {k : Nat // ∀ j, j < k → decide (nth order j ∈ order.take j) = false}) => live [(1, Ty.sl I64 order), (2, Ty.pp (flrTys f)), (6, Ty.int .i64 (k2.1 : Nat))] []) (fun k2 => order.length - k2.1) (⟨0, fun j hj => absurd hj (Nat.not_lt_zero _)⟩) ?_ fun k2 => ?_
        · (refine Ent.mk' ?_ ?_ <;> (repeat' (first | exact allSub_zero | exact allTags_nil | refine allSub_succ' ?_ (Ty.sub_any _) | refine allSub_succ' ?_ (Ty.sub_refl _))))
        ·
          refine t_seq ?_
          refine t_seq ?_
          refine t_region ?_
          refine mvI rfl ?_
          refine mvS rfl ?_
          refine r_len rfl rfl rfl ?_
          refine r_bin rfl rfl rfl ?_
          refine r_nil ?_
          refine i_then ?_
          refine t_cond_dec rfl (fun hc4 => ?_) (fun hc4 => ?_)
          ·
            refine t_skip ?_
            refine i_then ?_
            refine t_seq ?_
            refine t_block ?_
            refine t_seq ?_
            refine t_draw mixed rfl ?_
            refine mvS rfl ?_
            refine mvI rfl ?_
            refine r_cut_hi rfl rfl rfl rfl rfl rfl (by omega) ?_
            refine mvS rfl ?_
            refine mvI rfl ?_
            refine r_index_slN rfl rfl rfl rfl rfl rfl (by omega) ?_
            refine r_load_pp rfl rfl rfl rfl ?_
            refine r_call (c_has _ _) rfl rfl rfl rfl rfl ?_
            refine r_nil ?_
            refine ⟨by kernel_rfl, ?_⟩
            refine i_then ?_
            refine t_cond_dec rfl (fun hc5 => ?_) (fun hc5 => ?_)
            ·
              refine t_seq ?_
              refine t_region ?_
              refine asI rfl ?_
              refine r_nil ?_
              refine i_then ?_
              refine t_ret ?_
              refine i_block_ret ?_
              refine i_then_ret ?_
              refine i_then_ret ?_
              refine i_block_ret ?_
              refine i_then_ret ?_
              refine i_rp1 rfl rfl ?_
              all_goals skip
              exact ret_eq rfl rfl (congrArg (Ty.int .i64) (by rw [orderM, if_neg (Classical.not_not.2 hc1), if_neg (ng (any_neg k1.2 (by omega))), if_pos (iot_any_pos (k := k2.1) (by omega) (by rw [Int.toNat_natCast]; exact decide_eq_true hc5))]))
            ·
              refine t_skip ?_
              refine i_block ?_
              refine i_then ?_
              refine t_region ?_
              refine mvI rfl ?_
              refine r_add rfl rfl (by omega) (by omega) ?_
              refine asI rfl ?_
              refine r_nil ?_
              refine i_round (⟨k2.1 + 1, ext_lt k2.2 (decide_eq_false hc5)⟩) ?_ (by show order.length - (k2.1 + 1) < order.length - k2.1; omega)
              (refine Ent.mk' ?_ ?_ <;> (repeat' (first | exact allSub_zero | exact allTags_nil | refine allSub_succ' ?_ (Ty.sub_any _) | refine allSub_succ' ?_ (Ty.sub_refl _))))
              all_goals skip
          ·
            refine t_exit ?_
            refine i_then_exit ?_
            refine i_then_exit ?_
            refine i_block_exit rfl ?_
            refine i_then ?_
            refine t_seq ?_
            refine t_seq ?_
            refine t_region ?_
            refine asI rfl ?_
            refine r_nil ?_
            refine i_then ?_
            refine t_block ?_
            refine t_loop (fun (k3 : {k : Nat // ∀ j, j < k → ((aheadM f (nth order j)).any fun y => !decide (y ∈ order.take j)) = false}) => live [(1, Ty.sl I64 order), (2, Ty.pp (flrTys f)), (7, Ty.int .i64 (k3.1 : Nat))] []) (fun k3 => order.length - k3.1) (⟨0, fun j hj => absurd hj (Nat.not_lt_zero _)⟩) ?_ fun k3 => ?_
            · (refine Ent.mk' ?_ ?_ <;> (repeat' (first | exact allSub_zero | exact allTags_nil | refine allSub_succ' ?_ (Ty.sub_any _) | refine allSub_succ' ?_ (Ty.sub_refl _))))
            ·
              refine t_seq ?_
              refine t_seq ?_
              refine t_region ?_
              refine mvI rfl ?_
              refine mvS rfl ?_
              refine r_len rfl rfl rfl ?_
              refine r_bin rfl rfl rfl ?_
              refine r_nil ?_
              refine i_then ?_
              refine t_cond_dec rfl (fun hc6 => ?_) (fun hc6 => ?_)
              ·
                refine t_skip ?_
                refine i_then ?_
                refine t_seq ?_
                refine t_block ?_
                refine t_seq ?_
                refine t_draw mixed rfl ?_
                refine r_load_ppN rfl rfl rfl (by exact Nat.le_of_ble_eq_true rfl) ?_
                refine mvS rfl ?_
                refine mvI rfl ?_
                refine r_index_slN rfl rfl rfl rfl rfl rfl (by omega) ?_
                refine r_load_pp rfl rfl rfl rfl ?_
                refine r_call (c_Ahead f hs _) rfl rfl rfl rfl rfl ?_
                refine asS rfl ?_
                refine r_nil ?_
                refine ⟨by kernel_rfl, ?_⟩
                refine i_then ?_
                refine t_seq ?_
                refine t_region ?_
                refine asI rfl ?_
                refine r_nil ?_
                refine i_then ?_
                refine t_block ?_
                refine t_loop (fun (m : {m : Nat // ∀ y ∈ (aheadM f (nth order k3.1)).take m, (!decide (y ∈ order.take k3.1)) = false}) => live [(1, Ty.sl I64 order), (2, Ty.pp (flrTys f)), (7, Ty.int .i64 (k3.1 : Nat)), (8, Ty.sl I64 (aheadM f (nth order k3.1))), (9, Ty.int .i64 (m.1 : Nat))] []) (fun m => (aheadM f (nth order k3.1)).length - m.1) (⟨0, by simp⟩) ?_ fun m => ?_
                · (refine Ent.mk' ?_ ?_ <;> (repeat' (first | exact allSub_zero | exact allTags_nil | refine allSub_succ' ?_ (Ty.sub_any _) | refine allSub_succ' ?_ (Ty.sub_refl _))))
                ·
                  refine t_seq ?_
                  refine t_seq ?_
                  have hal := List.length_filter_le (fun x => decide (x ∈ reachAll f (nth order k3.1))) (iot f.turnings.length); rw [iot_len] at hal; change (aheadM f (nth order k3.1)).length ≤ _ at hal
                  refine t_region ?_
                  refine mvI rfl ?_
                  refine mvS rfl ?_
                  refine r_len rfl rfl rfl ?_
                  refine r_bin rfl rfl rfl ?_
                  refine r_nil ?_
                  refine i_then ?_
                  refine t_cond_dec rfl (fun hc7 => ?_) (fun hc7 => ?_)
                  ·
                    refine t_skip ?_
                    refine i_then ?_
                    refine t_seq ?_
                    refine t_block ?_
                    refine t_seq ?_
                    refine t_draw mixed rfl ?_
                    refine mvS rfl ?_
                    refine mvI rfl ?_
                    refine r_cut_hi rfl rfl rfl rfl rfl rfl (by omega) ?_
                    refine mvS rfl ?_
                    refine mvI rfl ?_
                    refine r_index_slN rfl rfl rfl rfl rfl rfl (by omega) ?_
                    refine r_load_pp rfl rfl rfl rfl ?_
                    refine r_call (c_has _ _) rfl rfl rfl rfl rfl ?_
                    refine r_not rfl ?_
                    refine r_nil ?_
                    refine ⟨by kernel_rfl, ?_⟩
                    refine i_then ?_
                    refine t_cond_ndec rfl (fun hc8 => ?_) (fun hc8 => ?_)
                    ·
                      refine t_seq ?_
                      refine t_region ?_
                      refine asI rfl ?_
                      refine r_nil ?_
                      refine i_then ?_
                      refine t_ret ?_
                      refine i_block_ret ?_
                      refine i_then_ret ?_
                      refine i_then_ret ?_
                      refine i_block_ret ?_
                      refine i_block_ret ?_
                      refine i_then_ret ?_
                      refine i_then_ret ?_
                      refine i_block_ret ?_
                      refine i_then_ret ?_
                      refine i_rp1 rfl rfl ?_
                      all_goals skip
                      exact ret_eq rfl rfl (congrArg (Ty.int .i64) (by rw [orderM, if_neg (Classical.not_not.2 hc1), if_neg (ng (any_neg k1.2 (by omega))), if_neg (ng (iot_any_neg fun k hk => by rw [Int.toNat_natCast]; exact k2.2 k (by omega))), if_pos (iot_any_pos (k := k3.1) (by omega) (by rw [Int.toNat_natCast]; exact any_at (q := fun y => !decide (y ∈ order.take k3.1)) (k := m.1) (by omega) (by rw [decide_eq_false hc8]; rfl)))]))
                    ·
                      refine t_skip ?_
                      refine i_block ?_
                      refine i_then ?_
                      refine t_region ?_
                      refine mvI rfl ?_
                      refine r_add rfl rfl (by omega) (by omega) ?_
                      refine asI rfl ?_
                      refine r_nil ?_
                      refine i_round (⟨m.1 + 1, ext_false m.2 (by omega) (by rw [decide_eq_true hc8]; rfl)⟩) ?_ (by show (aheadM f (nth order k3.1)).length - (m.1 + 1) < (aheadM f (nth order k3.1)).length - m.1; omega)
                      (refine Ent.mk' ?_ ?_ <;> (repeat' (first | exact allSub_zero | exact allTags_nil | refine allSub_succ' ?_ (Ty.sub_any _) | refine allSub_succ' ?_ (Ty.sub_refl _))))
                      all_goals skip
                  ·
                    refine t_exit ?_
                    refine i_then_exit ?_
                    refine i_then_exit ?_
                    refine i_block_exit rfl ?_
                    refine i_block ?_
                    refine i_then ?_
                    refine t_region ?_
                    refine mvI rfl ?_
                    refine r_add rfl rfl (by omega) (by omega) ?_
                    refine asI rfl ?_
                    refine r_nil ?_
                    refine i_round (⟨k3.1 + 1, ext_lt k3.2 (any_neg m.2 (by omega))⟩) ?_ (by show order.length - (k3.1 + 1) < order.length - k3.1; omega)
                    (refine Ent.mk' ?_ ?_ <;> (repeat' (first | exact allSub_zero | exact allTags_nil | refine allSub_succ' ?_ (Ty.sub_any _) | refine allSub_succ' ?_ (Ty.sub_refl _))))
                    all_goals skip
              ·
                refine t_exit ?_
                refine i_then_exit ?_
                refine i_then_exit ?_
                refine i_block_exit rfl ?_
                refine i_then ?_
                refine t_seq ?_
                refine t_region ?_
                refine asI rfl ?_
                refine r_nil ?_
                refine i_then ?_
                refine t_ret ?_
                refine i_rp1 rfl rfl ?_
                all_goals skip
                exact ret_eq rfl rfl (congrArg (Ty.int .i64) (by rw [orderM, if_neg (Classical.not_not.2 hc1), if_neg (ng (any_neg k1.2 (by omega))), if_neg (ng (iot_any_neg fun k hk => by rw [Int.toNat_natCast]; exact k2.2 k (by omega))), if_neg (ng (iot_any_neg fun k hk => by rw [Int.toNat_natCast]; exact k3.2 k (by omega)))]))
end Go.Proofs.Ytifgbnbkimcchaa

namespace Go.Proofs.Ytifgbnbkimcchaa
open Go Go.T
attribute [local irreducible] dInt dBool dSl dPp dPtr dAgg dTup dClo dAny dEx dStr dGd dCells dVec dVs dRow dOp nth Tri Into TOps Ctr bodyPost Exit.then Exit.inBlock Code.wp Code.wpIn
set_option maxRecDepth 100000 in
theorem c_rLoads (f : Flr) (hs : f.Small) (hr : f.Ranged) (hn : f.Named) (order : List Int) (ho : ∀ x ∈ order, 0 ≤ x ∧ x < f.turnings.length) (hl : order.length ≤ 20) : Ctr Try.prog 45 [flrT f, Ty.sl I64 order] (Ty.sl RowE (loadsM f order)) := by
  refine fn_intro Try.func45 rfl (by decide) Try.ntmps45 (by exact Nat.le_of_ble_eq_true rfl) fun w0 M0 => ?_
  have hs1 := hs.bears; have hs2 := hs.bins; have hs3 := hs.turnings; have hs4 := hs.rules
  have hbn := hr.bins; have hbe := hr.bears
  refine t_seq ?_
  refine t_region ?_
  refine r_box_agg rfl ?_
  refine asX rfl ?_
  refine r_nil ?_
  refine i_then ?_
  refine t_seq ?_
  refine t_region ?_
  refine asX rfl ?_
  refine r_nil ?_
  refine i_then ?_
  refine t_seq ?_
  refine t_seq ?_
  refine t_region ?_
  refine asI rfl ?_
  refine r_nil ?_
  refine i_then ?_
  refine t_block ?_
  refine t_loop (fun (k : Nat) => live [(1, Ty.sl I64 order), (2, Ty.pp (flrTys f)), (5, Ty.row I64 3 29 ((f.bins.take k).map Bin.has)), (6, Ty.int .i64 (k : Nat))] []) (fun k => f.bins.length - k) (0) ?_ fun k => ?_
  · (refine Ent.mk' ?_ ?_ <;> (repeat' (first | exact allSub_zero | exact allTags_nil | refine allSub_succ' ?_ (Ty.sub_any _) | refine allSub_succ' ?_ (Ty.sub_refl _) | refine allSub_succ' ?_ Ty.nil_row)))
  ·
    refine t_seq ?_
    refine t_seq ?_
    refine t_region ?_
    refine mvI rfl ?_
    refine r_field_pp rfl rfl rfl rfl rfl (by decide) ?_
    refine r_load_pp rfl rfl rfl rfl ?_
    refine r_len rfl rfl rfl ?_
    refine r_bin rfl rfl rfl ?_
    refine r_nil ?_
    refine i_then ?_
    refine t_cond_dec rfl (fun hc1 => ?_) (fun hc1 => ?_)
    ·
      refine t_skip ?_
      refine i_then ?_
      refine t_seq ?_
      refine t_block ?_
      refine t_region ?_
      refine mvR rfl ?_
      refine r_field_pp rfl rfl rfl rfl rfl (by decide) ?_
      refine r_load_pp rfl rfl rfl rfl ?_
      refine mvI rfl ?_
      refine r_index_slN rfl rfl rfl rfl rfl rfl (by omega) ?_
      refine r_field_pp rfl rfl rfl rfl rfl (by decide) ?_
      refine r_load_pp rfl rfl rfl rfl ?_
      refine r_buildSlice (E := I64) (xs := [_]) rfl rfl rfl rfl rfl (by decide) (by decide) (by repeat (first | exact (Parts.nil : Parts _ _ [] _) | (show Parts _ _ ((_, _) :: _) _; apply Parts.one; (· exact (rfl : _ = Ty.int _ _)); (· exact rfl)))) (by exact rfl) rfl ?_
      refine r_append rfl rfl (by decide) rfl rfl rfl rfl rfl rfl (by decide) (by (simp <;> omega)) (by (simp <;> omega)) ?_
      refine asR rfl ?_
      refine r_nil ?_
      refine i_block ?_
      refine i_then ?_
      refine t_region ?_
      refine mvI rfl ?_
      refine r_add rfl rfl (by omega) (by omega) ?_
      refine asI rfl ?_
      refine r_nil ?_
      refine i_round (k + 1) ?_ (by omega)
      (refine Ent.mk' ?_ ?_ <;> (repeat' (first | exact allSub_zero | exact allTags_nil | refine allSub_succ' ?_ (Ty.sub_any _) | refine allSub_succ' ?_ (Ty.sub_refl _) | refine allSub_succ' ?_ ?_)))
      all_goals skip
      exact Ty.sub_row (by rw [take_nth (by omega), List.map_append]; rfl)
    ·
      refine t_exit ?_
      refine i_then_exit ?_
      refine i_then_exit ?_
      refine i_block_exit rfl ?_
      refine i_then ?_
      refine t_seq ?_
      refine t_region ?_
      refine asX rfl ?_
      refine r_nil ?_
      refine i_then ?_
      refine t_seq ?_
      refine t_seq ?_
      refine t_own (s := 5) rfl rfl ?_
      refine t_region ?_
      refine asI rfl ?_
      refine r_nil ?_
      refine i_then ?_
      refine t_block ?_
      refine t_loop (fun (m : {m : Nat // m ≤ order.length + 1}) => live [(1, Ty.sl I64 order), (2, Ty.pp (flrTys f)), (5, Ty.vs 29 f.bins.length), (7, Ty.row RowE 22 118 ((List.range m.1).map fun k => loadM f (stateM f order k))), (8, Ty.int .i64 (m.1 : Nat))] [(29, Cont.vec I64 3 (stateM f order (m.1 - 1)))]) (fun m => order.length + 1 - m.1) (⟨0, by omega⟩) ?_ fun m => ?_
      · (refine Ent.mk' ?_ ?_ <;> (repeat' (first | exact allSub_zero | exact allTags_nil | refine allSub_succ' ?_ (Ty.sub_any _) | refine allSub_succ' ?_ (Ty.sub_refl _) | refine allSub_succ' ?_ Ty.nil_row | refine allTags_cons rfl ?_ ?_ | refine allSub_succ' ?_ ?_)))
        all_goals first | exact Ty.sub_eq (congrArg (Ty.vs 29) (by simp only [List.length_map, List.length_take]; omega)) | exact Cont.sub_vec (by rw [List.take_of_length_le (by omega)]; rfl)
      ·
        refine t_seq ?_
        refine t_seq ?_
        refine t_region ?_
        refine mvI rfl ?_
        refine mvS rfl ?_
        refine r_len rfl rfl rfl ?_
        refine r_bin rfl rfl rfl ?_
        refine r_nil ?_
        refine i_then ?_
        refine t_cond_dec rfl (fun hc2 => ?_) (fun hc2 => ?_)
        ·
          refine t_skip ?_
          refine i_then ?_
          refine t_seq ?_
          refine t_block ?_
          refine t_join (J := live [(1, Ty.sl I64 order), (2, Ty.pp (flrTys f)), (5, Ty.vs 29 f.bins.length), (7, Ty.row RowE 22 118 ((List.range m.1).map fun k => loadM f (stateM f order k))), (8, Ty.int .i64 (m.1 : Nat))] [(29, Cont.vec I64 3 (stateM f order m.1))]) ?_ ?_
          ·
            refine t_seq ?_
            refine t_region ?_
            refine mvI rfl ?_
            refine r_bin rfl rfl rfl ?_
            refine r_nil ?_
            refine i_then ?_
            refine t_cond_dec rfl (fun hc3 => ?_) (fun hc3 => ?_)
            ·
              refine t_seq ?_
              have he : ((m.1 : Int) - 1).toNat = m.1 - 1 := by omega
              have hox := ho _ (nth_mem (xs := order) (k := ((m.1 : Int) - 1).toNat) (by omega))
              have hnx := hn _ (nth_mem (xs := f.turnings) (k := (nth order ((m.1 : Int) - 1).toNat).toNat) (by omega))
              have hsx := hr.sacksR _ (nth_mem (xs := f.turnings) (k := (nth order ((m.1 : Int) - 1).toNat).toNat) (by omega))
              have hab := stateM_abs hr ho hl (m.1 - 1)
              have hst : stateM f order m.1 = half2 (nth f.turnings (nth order ((m.1 : Int) - 1).toNat).toNat) (half1 (nth f.turnings (nth order ((m.1 : Int) - 1).toNat).toNat) (stateM f order (m.1 - 1))) := by have := stateM_succ (f := f) (order := order) (k := m.1 - 1) (by omega); rw [show m.1 - 1 + 1 = m.1 by omega] at this; rw [this, he]; rfl
              have hlen := stateM_len f order (m.1 - 1)
              have hlen1 := half1_len (nth f.turnings (nth order ((m.1 : Int) - 1).toNat).toNat) (stateM f order (m.1 - 1))
              refine t_draw mixed rfl ?_
              refine r_field_pp rfl rfl rfl rfl rfl (by decide) ?_
              refine r_load_pp rfl rfl rfl rfl ?_
              refine mvS rfl ?_
              refine mvI rfl ?_
              refine r_sub rfl rfl (by omega) (by omega) ?_
              refine r_index_sl rfl rfl rfl rfl rfl rfl (by omega) (by omega) ?_
              refine r_load_pp rfl rfl rfl rfl ?_
              refine r_index_sl rfl rfl rfl rfl rfl rfl (by omega) (by omega) ?_
              refine r_load_ppN rfl rfl rfl (by exact Nat.le_of_ble_eq_true rfl) ?_
              refine r_alloc rfl (by exact List.cons_ne_nil _ _) rfl ?_
              refine r_storeN rfl rfl (by decide) rfl rfl rfl rfl rfl rfl ?_
              refine r_nil ?_
              refine ⟨by kernel_rfl, ?_⟩
              refine i_then ?_
              refine t_join (J := live [(1, Ty.sl I64 order), (2, Ty.pp (flrTys f)), (5, Ty.vs 29 f.bins.length), (7, Ty.row RowE 22 118 ((List.range m.1).map fun k => loadM f (stateM f order k))), (8, Ty.int .i64 (m.1 : Nat)), (9, Ty.ptr 10 0)] [(29, Cont.vec I64 3 (half1 (nth f.turnings (nth order ((m.1 : Int) - 1).toNat).toNat) (stateM f order (m.1 - 1)))), (10, Cont.cells 124 (TrnE.tys (nth f.turnings (nth order ((m.1 : Int) - 1).toNat).toNat)))]) ?_ ?_
              ·
                refine t_seq ?_
                refine t_region ?_
                refine r_field_ptr rfl rfl rfl rfl rfl (by decide) ?_
                refine r_load_ptr rfl rfl (by decide) rfl rfl rfl ?_
                refine r_bin rfl rfl rfl ?_
                refine r_nil ?_
                refine i_then ?_
                refine t_cond_dec rfl (fun hc4 => ?_) (fun hc4 => ?_)
                ·
                  have hb1 := abs_nth (by omega) hab (nth f.turnings (nth order ((m.1 : Int) - 1).toNat).toNat).src.toNat
                  refine t_draw mixed rfl ?_
                  refine mvV rfl ?_
                  refine r_field_ptr rfl rfl rfl rfl rfl (by decide) ?_
                  refine r_load_ptr rfl rfl (by decide) rfl rfl rfl ?_
                  refine mvV rfl ?_
                  refine r_field_ptr rfl rfl rfl rfl rfl (by decide) ?_
                  refine r_load_ptr rfl rfl (by decide) rfl rfl rfl ?_
                  refine r_index_vsI rfl rfl rfl rfl rfl (by omega) (by omega) ?_
                  refine r_load_vecB rfl rfl rfl (by decide) rfl rfl (by omega) rfl ?_
                  refine r_field_ptr rfl rfl rfl rfl rfl (by decide) ?_
                  refine r_load_ptr rfl rfl (by decide) rfl rfl rfl ?_
                  refine r_sub rfl rfl (by omega) (by omega) ?_
                  refine r_index_vsI rfl rfl rfl rfl rfl (by omega) (by omega) ?_
                  refine r_store_vecB rfl rfl rfl (by decide) rfl rfl (by exact (rfl : _ = Ty.int _ _)) rfl (by omega) (by decide) rfl rfl ?_
                  refine r_nil ?_
                  refine ⟨by kernel_rfl, ?_⟩
                  refine i_join ?_
                  (refine Ent.mk' ?_ ?_ <;> (repeat' (first | exact allSub_zero | exact allTags_nil | refine allSub_succ' ?_ (Ty.sub_any _) | refine allSub_succ' ?_ (Ty.sub_refl _) | refine allTags_cons rfl (Cont.sub_refl _) ?_ | refine allTags_cons rfl ?_ ?_)))
                  exact Cont.sub_vec (by rw [half1, if_pos hc4])
                ·
                  refine t_skip ?_
                  refine i_join ?_
                  (refine Ent.mk' ?_ ?_ <;> (repeat' (first | exact allSub_zero | exact allTags_nil | refine allSub_succ' ?_ (Ty.sub_any _) | refine allSub_succ' ?_ (Ty.sub_refl _) | refine allTags_cons rfl (Cont.sub_refl _) ?_ | refine allTags_cons rfl ?_ ?_)))
                  exact Cont.sub_vec (by rw [half1, if_neg hc4])
              ·
                refine t_seq ?_
                refine t_region ?_
                refine r_field_ptr rfl rfl rfl rfl rfl (by decide) ?_
                refine r_load_ptr rfl rfl (by decide) rfl rfl rfl ?_
                refine r_bin rfl rfl rfl ?_
                refine r_nil ?_
                refine i_then ?_
                refine t_cond_dec rfl (fun hc5 => ?_) (fun hc5 => ?_)
                ·
                  have hb2 := abs_nth (by omega) (abs_half1 hsx (by omega) hab) (nth f.turnings (nth order ((m.1 : Int) - 1).toNat).toNat).dst.toNat
                  refine t_draw mixed rfl ?_
                  refine mvV rfl ?_
                  refine r_field_ptr rfl rfl rfl rfl rfl (by decide) ?_
                  refine r_load_ptr rfl rfl (by decide) rfl rfl rfl ?_
                  refine mvV rfl ?_
                  refine r_field_ptr rfl rfl rfl rfl rfl (by decide) ?_
                  refine r_load_ptr rfl rfl (by decide) rfl rfl rfl ?_
                  refine r_index_vsI rfl rfl rfl rfl rfl (by omega) (by omega) ?_
                  refine r_load_vecB rfl rfl rfl (by decide) rfl rfl (by omega) rfl ?_
                  refine r_field_ptr rfl rfl rfl rfl rfl (by decide) ?_
                  refine r_load_ptr rfl rfl (by decide) rfl rfl rfl ?_
                  refine r_add rfl rfl (by omega) (by omega) ?_
                  refine r_index_vsI rfl rfl rfl rfl rfl (by omega) (by omega) ?_
                  refine r_store_vecB rfl rfl rfl (by decide) rfl rfl (by exact (rfl : _ = Ty.int _ _)) rfl (by omega) (by decide) rfl rfl ?_
                  refine r_nil ?_
                  refine ⟨by kernel_rfl, ?_⟩
                  refine i_join ?_
                  (refine Ent.mk' ?_ ?_ <;> (repeat' (first | exact allSub_zero | exact allTags_nil | refine allSub_succ' ?_ (Ty.sub_any _) | refine allSub_succ' ?_ (Ty.sub_refl _) | refine allTags_cons rfl ?_ ?_)))
                  exact Cont.sub_vec (by rw [hst, half2, if_pos hc5])
                ·
                  refine t_skip ?_
                  refine i_join ?_
                  (refine Ent.mk' ?_ ?_ <;> (repeat' (first | exact allSub_zero | exact allTags_nil | refine allSub_succ' ?_ (Ty.sub_any _) | refine allSub_succ' ?_ (Ty.sub_refl _) | refine allTags_cons rfl ?_ ?_)))
                  exact Cont.sub_vec (by rw [hst, half2, if_neg hc5])
            ·
              refine t_skip ?_
              refine i_join ?_
              (refine Ent.mk' ?_ ?_ <;> (repeat' (first | exact allSub_zero | exact allTags_nil | refine allSub_succ' ?_ (Ty.sub_any _) | refine allSub_succ' ?_ (Ty.sub_refl _) | refine allTags_cons rfl ?_ ?_)))
              exact Cont.sub_vec (by rw [show m.1 = 0 by omega])
          ·
            refine t_seq ?_
            refine t_region ?_
            refine r_field_pp rfl rfl rfl rfl rfl (by decide) ?_
            refine r_load_pp rfl rfl rfl rfl ?_
            refine r_len rfl rfl rfl ?_
            refine r_makeV (E := I64) rfl rfl rfl rfl rfl rfl rfl (by decide) rfl (by omega) (by (dsimp only; omega)) (by omega) ?_
            refine asV rfl ?_
            refine r_nil ?_
            refine i_then ?_
            refine t_seq ?_
            refine t_seq ?_
            refine t_region ?_
            refine asI rfl ?_
            refine r_nil ?_
            refine i_then ?_
            refine t_block ?_
            refine t_loop (fun (i : {i : Nat // i ≤ f.bins.length}) => live [(1, Ty.sl I64 order), (2, Ty.pp (flrTys f)), (5, Ty.vs 29 f.bins.length), (7, Ty.row RowE 22 118 ((List.range m.1).map fun k => loadM f (stateM f order k))), (8, Ty.int .i64 (m.1 : Nat)), (10, Ty.vs 80 f.bears.length), (11, Ty.int .i64 (i.1 : Nat))] [(29, Cont.vec I64 3 (stateM f order m.1)), (80, Cont.vec I64 3 (partM f (stateM f order m.1) i.1 0))]) (fun i => f.bins.length - i.1) (⟨0, by omega⟩) ?_ fun i => ?_
            · (refine Ent.mk' ?_ ?_ <;> (repeat' (first | exact allSub_zero | exact allTags_nil | refine allSub_succ' ?_ (Ty.sub_any _) | refine allSub_succ' ?_ (Ty.sub_refl _) | refine allTags_cons rfl (Cont.sub_refl _) ?_ | refine allTags_cons rfl ?_ ?_)))
              exact Cont.sub_vec (part_start f _)
            ·
              refine t_seq ?_
              refine t_seq ?_
              refine t_region ?_
              refine mvI rfl ?_
              refine mvV rfl ?_
              refine r_len_vs rfl rfl rfl ?_
              refine r_bin rfl rfl rfl ?_
              refine r_nil ?_
              refine i_then ?_
              refine t_cond_dec rfl (fun hc6 => ?_) (fun hc6 => ?_)
              ·
                refine t_skip ?_
                refine i_then ?_
                refine t_seq ?_
                refine t_block ?_
                refine t_seq ?_
                refine t_region ?_
                refine asI rfl ?_
                refine r_nil ?_
                refine i_then ?_
                refine t_block ?_
                refine t_loop (fun (j : Nat) => live [(1, Ty.sl I64 order), (2, Ty.pp (flrTys f)), (5, Ty.vs 29 f.bins.length), (7, Ty.row RowE 22 118 ((List.range m.1).map fun k => loadM f (stateM f order k))), (8, Ty.int .i64 (m.1 : Nat)), (10, Ty.vs 80 f.bears.length), (11, Ty.int .i64 (i.1 : Nat)), (12, Ty.int .i64 (j : Nat))] [(29, Cont.vec I64 3 (stateM f order m.1)), (80, Cont.vec I64 3 (partM f (stateM f order m.1) i.1 j))]) (fun j => f.bears.length - j) (0) ?_ fun j => ?_
                · (refine Ent.mk' ?_ ?_ <;> (repeat' (first | exact allSub_zero | exact allTags_nil | refine allSub_succ' ?_ (Ty.sub_any _) | refine allSub_succ' ?_ (Ty.sub_refl _) | refine allTags_cons rfl (Cont.sub_refl _) ?_)))
                ·
                  refine t_seq ?_
                  refine t_seq ?_
                  refine t_region ?_
                  refine mvI rfl ?_
                  refine mvV rfl ?_
                  refine r_len_vs rfl rfl rfl ?_
                  refine r_bin rfl rfl rfl ?_
                  refine r_nil ?_
                  refine i_then ?_
                  refine t_cond_dec rfl (fun hc7 => ?_) (fun hc7 => ?_)
                  ·
                    refine t_skip ?_
                    refine i_then ?_
                    refine t_seq ?_
                    refine t_block ?_
                    have hsh := hr.shares _ (nth_mem (xs := f.bins) (k := i.1) (by omega))
                    have hab := stateM_abs hr ho hl m.1
                    have hm := mul_bound (abs_nth (by omega) hab i.1) (share_bound hr (b := j) (show i.1 < f.bins.length by omega))
                    have hp := sumT_bound hr hab i.1 j (by omega)
                    have hq : nth (partM f (stateM f order m.1) i.1 j) j = sumT f (stateM f order m.1) i.1 j := nth_part (by omega)
                    have hpl := partM_len f (stateM f order m.1) i.1 j
                    have hlen := stateM_len f order m.1
                    refine t_draw mixed rfl ?_
                    refine mvV rfl ?_
                    refine mvI rfl ?_
                    refine mvV rfl ?_
                    refine mvI rfl ?_
                    refine r_index_vs rfl rfl rfl rfl rfl (by omega) ?_
                    refine r_load_vecB rfl rfl rfl (by decide) rfl rfl (by omega) rfl ?_
                    refine mvV rfl ?_
                    refine mvI rfl ?_
                    refine r_index_vs rfl rfl rfl rfl rfl (by omega) ?_
                    refine r_load_vecB rfl rfl rfl (by decide) rfl rfl (by omega) rfl ?_
                    refine r_field_pp rfl rfl rfl rfl rfl (by decide) ?_
                    refine r_load_pp rfl rfl rfl rfl ?_
                    refine mvI rfl ?_
                    refine r_index_slN rfl rfl rfl rfl rfl rfl (by omega) ?_
                    refine r_field_pp rfl rfl rfl rfl rfl (by decide) ?_
                    refine r_load_pp rfl rfl rfl rfl ?_
                    refine mvI rfl ?_
                    refine r_index_slN rfl rfl rfl rfl rfl rfl (by omega) ?_
                    refine r_load_pp rfl rfl rfl rfl ?_
                    refine r_mul rfl rfl (by omega) (by omega) ?_
                    refine r_add rfl rfl (by omega) (by omega) ?_
                    refine r_index_vs rfl rfl rfl rfl rfl (by omega) ?_
                    refine r_store_vecB rfl rfl rfl (by decide) rfl rfl (by exact (rfl : _ = Ty.int _ _)) rfl (by omega) (by decide) rfl rfl ?_
                    refine r_nil ?_
                    refine ⟨by kernel_rfl, ?_⟩
                    refine i_block ?_
                    refine i_then ?_
                    refine t_region ?_
                    refine mvI rfl ?_
                    refine r_add rfl rfl (by omega) (by omega) ?_
                    refine asI rfl ?_
                    refine r_nil ?_
                    refine i_round (j + 1) ?_ (by omega)
                    (refine Ent.mk' ?_ ?_ <;> (repeat' (first | exact allSub_zero | exact allTags_nil | refine allSub_succ' ?_ (Ty.sub_any _) | refine allSub_succ' ?_ (Ty.sub_refl _) | refine allTags_cons rfl (Cont.sub_refl _) ?_ | refine allTags_cons rfl ?_ ?_)))
                    all_goals skip
                    exact Cont.sub_vec (part_set (by omega) (by rw [hq, sumT_succ]))
                  ·
                    refine t_exit ?_
                    refine i_then_exit ?_
                    refine i_then_exit ?_
                    refine i_block_exit rfl ?_
                    refine i_block ?_
                    refine i_then ?_
                    refine t_region ?_
                    refine mvI rfl ?_
                    refine r_add rfl rfl (by omega) (by omega) ?_
                    refine asI rfl ?_
                    refine r_nil ?_
                    refine i_round (⟨i.1 + 1, by omega⟩) ?_ (by show f.bins.length - (i.1 + 1) < f.bins.length - i.1; omega)
                    (refine Ent.mk' ?_ ?_ <;> (repeat' (first | exact allSub_zero | exact allTags_nil | refine allSub_succ' ?_ (Ty.sub_any _) | refine allSub_succ' ?_ (Ty.sub_refl _) | refine allTags_cons rfl (Cont.sub_refl _) ?_ | refine allTags_cons rfl ?_ ?_)))
                    all_goals skip
                    exact Cont.sub_vec (part_full f _ _ _ (by omega))
              ·
                refine t_exit ?_
                refine i_then_exit ?_
                refine i_then_exit ?_
                refine i_block_exit rfl ?_
                refine i_then ?_
                have hrl : ((List.range m.1).map fun k => loadM f (stateM f order k)).length = m.1 := by simp
                refine t_pub (tg := 80) [(10, Ty.sl I64 (partM f (stateM f order m.1) i.1 0))] (by decide) rfl ⟨pub_vs rfl rfl (partM_len _ _ _ _) (by decide), trivial⟩ ?_
                refine t_region ?_
                refine mvR rfl ?_
                refine mvS rfl ?_
                refine r_buildSlice (E := RowE) (xs := [_]) rfl rfl rfl rfl rfl (by decide) (by decide) (by repeat (first | exact (Parts.nil : Parts _ _ [] _) | (show Parts _ _ ((_, _) :: _) _; apply Parts.one; (· exact (rfl : _ = Ty.sl _ _)); (· exact rfl)))) (by exact rfl) rfl ?_
                refine r_append rfl rfl (by decide) rfl rfl rfl rfl rfl rfl (by decide) (by (simp <;> omega)) (by (simp <;> omega)) ?_
                refine asR rfl ?_
                refine r_nil ?_
                refine i_block ?_
                refine i_then ?_
                refine t_region ?_
                refine mvI rfl ?_
                refine r_add rfl rfl (by omega) (by omega) ?_
                refine asI rfl ?_
                refine r_nil ?_
                refine i_round (⟨m.1 + 1, by omega⟩) ?_ (by show order.length + 1 - (m.1 + 1) < order.length + 1 - m.1; omega)
                (refine Ent.mk' ?_ ?_ <;> (repeat' (first | exact allSub_zero | exact allTags_nil | refine allSub_succ' ?_ (Ty.sub_any _) | refine allSub_succ' ?_ (Ty.sub_refl _) | refine allTags_cons rfl (Cont.sub_refl _) ?_ | refine allSub_succ' ?_ ?_)))
                all_goals skip
                all_goals exact Ty.sub_row (by rw [List.range_succ, List.map_append, show i.1 = f.bins.length by omega, part_load]; rfl)
        ·
          refine t_exit ?_
          refine i_then_exit ?_
          refine i_then_exit ?_
          refine i_block_exit rfl ?_
          refine i_then ?_
          refine t_seq ?_
          refine t_region ?_
          refine mvR rfl ?_
          refine asR rfl ?_
          refine r_nil ?_
          refine i_then ?_
          refine t_ret ?_
          refine i_rp1 rfl rfl ?_
          all_goals skip
          exact ret_row_eq (by decide) (by rw [show m.1 = order.length + 1 by omega]; rfl)
end Go.Proofs.Ytifgbnbkimcchaa

namespace Go.Proofs.Ytifgbnbkimcchaa
open Go.T
theorem loadsM_len (f : Flr) (order : List Int) : (loadsM f order).length = order.length + 1 := by simp [loadsM]
theorem nth_map_range {α : Type} [Inhabited α] {n k : Nat} (g : Nat → α) (h : k < n) : nth ((List.range n).map g) k = g k := by
  rw [nth_lt (by simpa using h)]; simp
theorem nth_loads {f : Flr} {order : List Int} {k : Nat} (h : k ≤ order.length) : nth (loadsM f order) k = loadM f (stateM f order k) := nth_map_range _ (by omega)
theorem loadM_len (f : Flr) (s : List Int) : (loadM f s).length = f.bears.length := by simp [loadM]
theorem row_len {f : Flr} {order : List Int} {k : Nat} (h : k ≤ order.length) : (nth (loadsM f order) k).length = f.bears.length := by rw [nth_loads h, loadM_len]
theorem nth_out {l : List Int} {k : Nat} (h : l.length ≤ k) : nth l k = 0 := by
  show l.getD k default = 0
  rw [List.getD_eq_getElem?_getD, List.getElem?_eq_none h]; rfl
theorem loadM_bound {f : Flr} (hr : f.Ranged) {s : List Int} (h : Abs 12300 s) (b : Nat) : -300000 ≤ nth (loadM f s) b ∧ nth (loadM f s) b ≤ 300000 := by
  rcases Nat.lt_or_ge b f.bears.length with hb | hb
  · rw [loadM, nth_map_range _ hb]
    have := sumT_bound hr h f.bins.length b (Nat.le_refl _)
    have := hr.bins; omega
  · rw [nth_out (by rw [loadM_len]; exact hb)]; omega
theorem load_bound {f : Flr} (hr : f.Ranged) {order : List Int} (ho : ∀ x ∈ order, 0 ≤ x ∧ x < f.turnings.length) (hl : order.length ≤ 20) {k : Nat} (h : k ≤ order.length) (b : Nat) : -300000 ≤ nth (nth (loadsM f order) k) b ∧ nth (nth (loadsM f order) k) b ≤ 300000 := by
  rw [nth_loads h]; exact loadM_bound hr (stateM_abs hr ho hl k) b
theorem bear_bound {f : Flr} (hr : f.Ranged) (b : Nat) : 0 ≤ nth f.bears b ∧ nth f.bears b ≤ 4000 := by
  rcases Nat.lt_or_ge b f.bears.length with hb | hb
  · exact hr.bearsR _ (nth_mem hb)
  · rw [nth_out hb]; omega
def addM (f : Flr) (t : Int) (b : Nat) : Int := nth (nth (loadsM f [t]) 1) b - nth (nth (loadsM f [t]) 0) b
def minRow (f : Flr) (l : List Int) (j : Nat) (n : Int) : Int := (List.range j).foldl (fun n b => min n (nth f.bears b - nth l b)) n
theorem minRow_succ (f : Flr) (l : List Int) (j : Nat) (n : Int) : minRow f l (j + 1) n = min (minRow f l j n) (nth f.bears j - nth l j) := by
  simp [minRow, List.range_succ]
def marginUp (f : Flr) (ls : List (List Int)) (k : Nat) : Int := (ls.take k).foldl (fun n l => minRow f l f.bears.length n) (nth f.bears 0 - nth (nth ls 0) 0)
theorem marginUp_succ {f : Flr} {ls : List (List Int)} {k : Nat} (h : k < ls.length) : marginUp f ls (k + 1) = minRow f (nth ls k) f.bears.length (marginUp f ls k) := by
  simp only [marginUp]; rw [take_nth h, List.foldl_append]; rfl
def marginM (f : Flr) (order : List Int) : Int := marginUp f (loadsM f order) (order.length + 1)
def breakRow (f : Flr) (l : List Int) : Option Nat := (List.range f.bears.length).find? fun b => decide (nth l b > nth f.bears b)
def breakM (f : Flr) (order : List Int) : Option (Nat × Nat) := (List.range (order.length + 1)).findSome? fun k => (breakRow f (nth (loadsM f order) k)).map fun b => (k, b)
theorem find_range_some {n k : Nat} {p : Nat → Bool} (hk : k < n) (hp : p k = true) (h : ∀ j, j < k → p j = false) : (List.range n).find? p = some k := by
  rw [List.find?_range_eq_some]; exact ⟨hp, by simpa using hk, fun j hj => by simp [h j hj]⟩
theorem find_range_none {n : Nat} {p : Nat → Bool} (h : ∀ j, j < n → p j = false) : (List.range n).find? p = none := by
  rw [List.find?_eq_none]; intro x hx; rw [h x (List.mem_range.1 hx)]; decide
theorem findSome_range_some {α : Type} {n k : Nat} {p : Nat → Option α} {x : α} (hk : k < n) (hp : p k = some x) (h : ∀ j, j < k → p j = none) : (List.range n).findSome? p = some x := by
  induction n with
  | zero => omega
  | succ n ih =>
    rw [List.range_succ, List.findSome?_append]
    rcases Nat.lt_or_ge k n with hlt | hge
    · rw [ih hlt]; rfl
    · have : k = n := by omega
      subst this
      have : (List.range k).findSome? p = none := by rw [List.findSome?_eq_none_iff]; intro j hj; exact h j (List.mem_range.1 hj)
      rw [this]; simp [hp]
theorem findSome_range_none {α : Type} {n : Nat} {p : Nat → Option α} (h : ∀ j, j < n → p j = none) : (List.range n).findSome? p = none := by
  rw [List.findSome?_eq_none_iff]; intro j hj; exact h j (List.mem_range.1 hj)
def breakT (f : Flr) (order : List Int) : Int := match breakM f order with | some x => (x.1 : Int) | none => 0
def breakB (f : Flr) (order : List Int) : Int := match breakM f order with | some x => (x.2 : Int) | none => 0
theorem breakM_some {f : Flr} {order : List Int} {k b : Nat} (hk : k ≤ order.length) (hb : b < f.bears.length) (h : nth (nth (loadsM f order) k) b > nth f.bears b) (h1 : ∀ j, j < k → breakRow f (nth (loadsM f order) j) = none) (h2 : ∀ j, j < b → ¬ nth (nth (loadsM f order) k) j > nth f.bears j) : breakM f order = some (k, b) :=
  findSome_range_some (k := k) (by omega) (by rw [breakRow, find_range_some hb (decide_eq_true h) fun j hj => decide_eq_false (h2 j hj)]; rfl) fun j hj => by rw [h1 j hj]; rfl
theorem breakM_none {f : Flr} {order : List Int} (h1 : ∀ j, j ≤ order.length → breakRow f (nth (loadsM f order) j) = none) : breakM f order = none :=
  findSome_range_none fun j hj => by rw [h1 j (by omega)]; rfl
theorem breakRow_none {f : Flr} {l : List Int} (h : ∀ j, j < f.bears.length → ¬ nth l j > nth f.bears j) : breakRow f l = none := find_range_none fun j hj => decide_eq_false (h j hj)
end Go.Proofs.Ytifgbnbkimcchaa

namespace Go.Proofs.Ytifgbnbkimcchaa
open Go Go.T
attribute [local irreducible] dInt dBool dSl dPp dPtr dAgg dTup dClo dAny dEx dStr dGd dCells dVec dVs dRow dOp nth Tri Into TOps Ctr bodyPost Exit.then Exit.inBlock Code.wp Code.wpIn
set_option maxRecDepth 100000 in
theorem c_rMargin (f : Flr) (hs : f.Small) (hr : f.Ranged) (hn : f.Named) (order : List Int) (ho : ∀ x ∈ order, 0 ≤ x ∧ x < f.turnings.length) (hl : order.length ≤ 20) : Ctr Try.prog 28 [flrT f, Ty.sl I64 order] (Ty.int .i64 (marginM f order)) := by
  refine fn_intro Try.func28 rfl (by decide) Try.ntmps28 (by exact Nat.le_of_ble_eq_true rfl) fun w0 M0 => ?_
  have hs1 := hs.bears; have hs2 := hs.bins; have hs3 := hs.turnings; have hs4 := hs.rules
  have h0 := load_bound hr ho hl (k := 0) (Nat.zero_le _) 0
  have hb0 := bear_bound hr 0
  have hl1 := loadsM_len f order
  have hl2 := row_len (f := f) (order := order) (k := 0) (Nat.zero_le _)
  have hb1 := hr.bears1
  refine t_seq ?_
  refine t_region ?_
  refine r_box_agg rfl ?_
  refine asI rfl ?_
  refine r_nil ?_
  refine i_then ?_
  refine t_seq ?_
  refine t_region ?_
  refine r_load_ppN rfl rfl rfl (by exact Nat.le_of_ble_eq_true rfl) ?_
  refine mvS rfl ?_
  refine r_call (c_rLoads f hs hr hn order ho hl) rfl rfl rfl rfl rfl ?_
  refine asS rfl ?_
  refine r_nil ?_
  refine i_then ?_
  refine t_seq ?_
  refine t_draw mixed rfl ?_
  refine r_field_pp rfl rfl rfl rfl rfl (by decide) ?_
  refine r_load_pp rfl rfl rfl rfl ?_
  refine r_index_slN (i := 0) rfl rfl rfl rfl rfl rfl (by omega) ?_
  refine r_load_pp rfl rfl rfl rfl ?_
  refine mvS rfl ?_
  refine r_index_slN (i := 0) rfl rfl rfl rfl rfl rfl (by omega) ?_
  refine r_load_pp rfl rfl rfl rfl ?_
  refine r_index_slN (i := 0) rfl rfl rfl rfl rfl rfl (by omega) ?_
  refine r_load_pp rfl rfl rfl rfl ?_
  refine r_sub rfl rfl (by omega) (by omega) ?_
  refine asI rfl ?_
  refine r_nil ?_
  refine ⟨by kernel_rfl, ?_⟩
  refine i_then ?_
  refine t_seq ?_
  refine t_seq ?_
  refine t_region ?_
  refine asI rfl ?_
  refine r_nil ?_
  refine i_then ?_
  refine t_block ?_
  refine t_loop (fun (k : {k : Nat // k ≤ order.length + 1}) => live [(2, Ty.pp (flrTys f)), (5, Ty.sl RowE (loadsM f order)), (6, Ty.int .i64 (marginUp f (loadsM f order) k.1)), (7, Ty.int .i64 (k.1 : Nat))] []) (fun k => order.length + 1 - k.1) (⟨0, by omega⟩) ?_ fun k => ?_
  · (refine Ent.mk' ?_ ?_ <;> (repeat' (first | exact allSub_zero | exact allTags_nil | refine allSub_succ' ?_ (Ty.sub_any _) | refine allSub_succ' ?_ (Ty.sub_refl _))))
  ·
    refine t_seq ?_
    refine t_seq ?_
    refine t_region ?_
    refine mvI rfl ?_
    refine mvS rfl ?_
    refine r_len rfl rfl rfl ?_
    refine r_bin rfl rfl rfl ?_
    refine r_nil ?_
    refine i_then ?_
    refine t_cond_dec rfl (fun hc1 => ?_) (fun hc1 => ?_)
    ·
      refine t_skip ?_
      refine i_then ?_
      refine t_seq ?_
      refine t_block ?_
      refine t_seq ?_
      refine t_region ?_
      refine asI rfl ?_
      refine r_nil ?_
      refine i_then ?_
      refine t_block ?_
      refine t_loop (fun (j : {j : Nat // j ≤ f.bears.length}) => live [(2, Ty.pp (flrTys f)), (5, Ty.sl RowE (loadsM f order)), (6, Ty.int .i64 (minRow f (nth (loadsM f order) k.1) j.1 (marginUp f (loadsM f order) k.1))), (7, Ty.int .i64 (k.1 : Nat)), (8, Ty.int .i64 (j.1 : Nat))] []) (fun j => f.bears.length - j.1) (⟨0, by omega⟩) ?_ fun j => ?_
      · (refine Ent.mk' ?_ ?_ <;> (repeat' (first | exact allSub_zero | exact allTags_nil | refine allSub_succ' ?_ (Ty.sub_any _) | refine allSub_succ' ?_ (Ty.sub_refl _))))
      ·
        refine t_seq ?_
        refine t_seq ?_
        refine t_region ?_
        refine mvI rfl ?_
        refine r_field_pp rfl rfl rfl rfl rfl (by decide) ?_
        refine r_load_pp rfl rfl rfl rfl ?_
        refine r_len rfl rfl rfl ?_
        refine r_bin rfl rfl rfl ?_
        refine r_nil ?_
        refine i_then ?_
        refine t_cond_dec rfl (fun hc2 => ?_) (fun hc2 => ?_)
        ·
          refine t_skip ?_
          refine i_then ?_
          refine t_seq ?_
          refine t_block ?_
          have hb := bear_bound hr j.1
          have hlb := load_bound hr ho hl (k := k.1) (by omega) j.1
          have hlr := row_len (f := f) (order := order) (k := k.1) (by omega)
          refine t_draw mixed rfl ?_
          refine mvI rfl ?_
          refine r_field_pp rfl rfl rfl rfl rfl (by decide) ?_
          refine r_load_pp rfl rfl rfl rfl ?_
          refine mvI rfl ?_
          refine r_index_slN rfl rfl rfl rfl rfl rfl (by omega) ?_
          refine r_load_pp rfl rfl rfl rfl ?_
          refine mvS rfl ?_
          refine mvI rfl ?_
          refine r_index_slN rfl rfl rfl rfl rfl rfl (by omega) ?_
          refine r_load_pp rfl rfl rfl rfl ?_
          refine mvI rfl ?_
          refine r_index_slN rfl rfl rfl rfl rfl rfl (by omega) ?_
          refine r_load_pp rfl rfl rfl rfl ?_
          refine r_sub rfl rfl (by omega) (by omega) ?_
          refine r_min rfl rfl ?_
          refine asI rfl ?_
          refine r_nil ?_
          refine ⟨by kernel_rfl, ?_⟩
          refine i_block ?_
          refine i_then ?_
          refine t_region ?_
          refine mvI rfl ?_
          refine r_add rfl rfl (by omega) (by omega) ?_
          refine asI rfl ?_
          refine r_nil ?_
          refine i_round (⟨j.1 + 1, by omega⟩) ?_ (by show f.bears.length - (j.1 + 1) < f.bears.length - j.1; omega)
          (refine Ent.mk' ?_ ?_ <;> (repeat' (first | exact allSub_zero | exact allTags_nil | refine allSub_succ' ?_ (Ty.sub_any _) | refine allSub_succ' ?_ (Ty.sub_refl _) | refine allSub_succ' ?_ ?_)))
          all_goals skip
          exact Ty.sub_int (by rw [minRow_succ])
        ·
          refine t_exit ?_
          refine i_then_exit ?_
          refine i_then_exit ?_
          refine i_block_exit rfl ?_
          refine i_block ?_
          refine i_then ?_
          refine t_region ?_
          refine mvI rfl ?_
          refine r_add rfl rfl (by omega) (by omega) ?_
          refine asI rfl ?_
          refine r_nil ?_
          refine i_round (⟨k.1 + 1, by omega⟩) ?_ (by show order.length + 1 - (k.1 + 1) < order.length + 1 - k.1; omega)
          (refine Ent.mk' ?_ ?_ <;> (repeat' (first | exact allSub_zero | exact allTags_nil | refine allSub_succ' ?_ (Ty.sub_any _) | refine allSub_succ' ?_ (Ty.sub_refl _) | refine allSub_succ' ?_ ?_)))
          all_goals skip
          exact Ty.sub_int (by rw [marginUp_succ (by omega), show j.1 = f.bears.length by omega])
    ·
      refine t_exit ?_
      refine i_then_exit ?_
      refine i_then_exit ?_
      refine i_block_exit rfl ?_
      refine i_then ?_
      refine t_seq ?_
      refine t_region ?_
      refine mvI rfl ?_
      refine asI rfl ?_
      refine r_nil ?_
      refine i_then ?_
      refine t_ret ?_
      refine i_rp1 rfl rfl ?_
      all_goals skip
      exact ret_eq rfl rfl (congrArg (Ty.int .i64) (by rw [show k.1 = order.length + 1 by omega]; rfl))
set_option maxRecDepth 100000 in
theorem c_rBreaks (f : Flr) (hs : f.Small) (hr : f.Ranged) (hn : f.Named) (order : List Int) (ho : ∀ x ∈ order, 0 ≤ x ∧ x < f.turnings.length) (hl : order.length ≤ 20) : Ctr Try.prog 46 [flrT f, Ty.sl I64 order] (Ty.tup [Ty.int .i64 (breakT f order), Ty.int .i64 (breakB f order), Ty.bool (breakM f order).isSome]) := by
  refine fn_intro Try.func46 rfl (by decide) Try.ntmps46 (by exact Nat.le_of_ble_eq_true rfl) fun w0 M0 => ?_
  have hs1 := hs.bears; have hs2 := hs.bins; have hs3 := hs.turnings; have hs4 := hs.rules
  have hl1 := loadsM_len f order
  refine t_seq ?_
  refine t_region ?_
  refine r_box_agg rfl ?_
  refine asI rfl ?_
  refine asI rfl ?_
  refine asB rfl ?_
  refine r_nil ?_
  refine i_then ?_
  refine t_seq ?_
  refine t_region ?_
  refine r_load_ppN rfl rfl rfl (by exact Nat.le_of_ble_eq_true rfl) ?_
  refine mvS rfl ?_
  refine r_call (c_rLoads f hs hr hn order ho hl) rfl rfl rfl rfl rfl ?_
  refine asS rfl ?_
  refine r_nil ?_
  refine i_then ?_
  refine t_seq ?_
  refine t_seq ?_
  refine t_region ?_
  refine asI rfl ?_
  refine r_nil ?_
  refine i_then ?_
  refine t_block ?_
  refine t_loop (fun (k : {k : Nat // ∀ j, j < k → breakRow f (nth (loadsM f order) j) = none}) => live [(2, Ty.pp (flrTys f)), (7, Ty.sl RowE (loadsM f order)), (8, Ty.int .i64 (k.1 : Nat))] []) (fun k => order.length + 1 - k.1) (⟨0, fun j hj => absurd hj (Nat.not_lt_zero _)⟩) ?_ fun k => ?_
  · (refine Ent.mk' ?_ ?_ <;> (repeat' (first | exact allSub_zero | exact allTags_nil | refine allSub_succ' ?_ (Ty.sub_any _) | refine allSub_succ' ?_ (Ty.sub_refl _))))
  ·
    refine t_seq ?_
    refine t_seq ?_
    refine t_region ?_
    refine mvI rfl ?_
    refine mvS rfl ?_
    refine r_len rfl rfl rfl ?_
    refine r_bin rfl rfl rfl ?_
    refine r_nil ?_
    refine i_then ?_
    refine t_cond_dec rfl (fun hc1 => ?_) (fun hc1 => ?_)
    ·
      refine t_skip ?_
      refine i_then ?_
      refine t_seq ?_
      refine t_block ?_
      refine t_seq ?_
      refine t_region ?_
      refine asI rfl ?_
      refine r_nil ?_
      refine i_then ?_
      refine t_block ?_
      refine t_loop (fun (j : {j : Nat // ∀ q, q < j → ¬ nth (nth (loadsM f order) k.1) q > nth f.bears q}) => live [(2, Ty.pp (flrTys f)), (7, Ty.sl RowE (loadsM f order)), (8, Ty.int .i64 (k.1 : Nat)), (9, Ty.int .i64 (j.1 : Nat))] []) (fun j => f.bears.length - j.1) (⟨0, fun j hj => absurd hj (Nat.not_lt_zero _)⟩) ?_ fun j => ?_
      · (refine Ent.mk' ?_ ?_ <;> (repeat' (first | exact allSub_zero | exact allTags_nil | refine allSub_succ' ?_ (Ty.sub_any _) | refine allSub_succ' ?_ (Ty.sub_refl _))))
      ·
        refine t_seq ?_
        refine t_seq ?_
        refine t_region ?_
        refine mvI rfl ?_
        refine r_field_pp rfl rfl rfl rfl rfl (by decide) ?_
        refine r_load_pp rfl rfl rfl rfl ?_
        refine r_len rfl rfl rfl ?_
        refine r_bin rfl rfl rfl ?_
        refine r_nil ?_
        refine i_then ?_
        refine t_cond_dec rfl (fun hc2 => ?_) (fun hc2 => ?_)
        ·
          refine t_skip ?_
          refine i_then ?_
          refine t_seq ?_
          refine t_block ?_
          refine t_seq ?_
          have hlr := row_len (f := f) (order := order) (k := k.1) (by omega)
          refine t_draw mixed rfl ?_
          refine mvS rfl ?_
          refine mvI rfl ?_
          refine r_index_slN rfl rfl rfl rfl rfl rfl (by omega) ?_
          refine r_load_pp rfl rfl rfl rfl ?_
          refine mvI rfl ?_
          refine r_index_slN rfl rfl rfl rfl rfl rfl (by omega) ?_
          refine r_load_pp rfl rfl rfl rfl ?_
          refine r_field_pp rfl rfl rfl rfl rfl (by decide) ?_
          refine r_load_pp rfl rfl rfl rfl ?_
          refine mvI rfl ?_
          refine r_index_slN rfl rfl rfl rfl rfl rfl (by omega) ?_
          refine r_load_pp rfl rfl rfl rfl ?_
          refine r_bin rfl rfl rfl ?_
          refine r_nil ?_
          refine ⟨by kernel_rfl, ?_⟩
          refine i_then ?_
          refine t_cond_dec rfl (fun hc3 => ?_) (fun hc3 => ?_)
          ·
            refine t_seq ?_
            refine t_region ?_
            refine mvI rfl ?_
            refine mvI rfl ?_
            refine asI rfl ?_
            refine asI rfl ?_
            refine asB rfl ?_
            refine r_nil ?_
            refine i_then ?_
            refine t_ret ?_
            refine i_block_ret ?_
            refine i_then_ret ?_
            refine i_then_ret ?_
            refine i_block_ret ?_
            refine i_block_ret ?_
            refine i_then_ret ?_
            refine i_then_ret ?_
            refine i_block_ret ?_
            refine i_then_ret ?_
            refine i_rp3 rfl rfl rfl rfl ?_ ?_ ?_
            all_goals skip
            have hbm := breakM_some (f := f) (order := order) (k := k.1) (b := j.1) (by omega) (by omega) hc3 k.2 j.2
            · exact ret_eq rfl rfl (congrArg (Ty.int .i64) (by rw [breakT, hbm]))
            · exact ret_eq rfl rfl (congrArg (Ty.int .i64) (by rw [breakB, breakM_some (f := f) (order := order) (k := k.1) (b := j.1) (by omega) (by omega) hc3 k.2 j.2]))
            · exact ret_eq rfl rfl (congrArg Ty.bool (by rw [breakM_some (f := f) (order := order) (k := k.1) (b := j.1) (by omega) (by omega) hc3 k.2 j.2]; rfl))
          ·
            refine t_skip ?_
            refine i_block ?_
            refine i_then ?_
            refine t_region ?_
            refine mvI rfl ?_
            refine r_add rfl rfl (by omega) (by omega) ?_
            refine asI rfl ?_
            refine r_nil ?_
            refine i_round (⟨j.1 + 1, ext_lt j.2 hc3⟩) ?_ (by show f.bears.length - (j.1 + 1) < f.bears.length - j.1; omega)
            (refine Ent.mk' ?_ ?_ <;> (repeat' (first | exact allSub_zero | exact allTags_nil | refine allSub_succ' ?_ (Ty.sub_any _) | refine allSub_succ' ?_ (Ty.sub_refl _))))
            all_goals skip
        ·
          refine t_exit ?_
          refine i_then_exit ?_
          refine i_then_exit ?_
          refine i_block_exit rfl ?_
          refine i_block ?_
          refine i_then ?_
          refine t_region ?_
          refine mvI rfl ?_
          refine r_add rfl rfl (by omega) (by omega) ?_
          refine asI rfl ?_
          refine r_nil ?_
          refine i_round (⟨k.1 + 1, ext_lt k.2 (breakRow_none fun q hq => j.2 q (by omega))⟩) ?_ (by show order.length + 1 - (k.1 + 1) < order.length + 1 - k.1; omega)
          (refine Ent.mk' ?_ ?_ <;> (repeat' (first | exact allSub_zero | exact allTags_nil | refine allSub_succ' ?_ (Ty.sub_any _) | refine allSub_succ' ?_ (Ty.sub_refl _))))
          all_goals skip
    ·
      refine t_exit ?_
      refine i_then_exit ?_
      refine i_then_exit ?_
      refine i_block_exit rfl ?_
      refine i_then ?_
      refine t_seq ?_
      refine t_region ?_
      refine asI rfl ?_
      refine asI rfl ?_
      refine asB rfl ?_
      refine r_nil ?_
      refine i_then ?_
      refine t_ret ?_
      refine i_rp3 rfl rfl rfl rfl ?_ ?_ ?_
      all_goals skip
      · exact ret_eq rfl rfl (congrArg (Ty.int .i64) (by rw [breakT, breakM_none fun j hj => k.2 j (by omega)]))
      · exact ret_eq rfl rfl (congrArg (Ty.int .i64) (by rw [breakB, breakM_none fun j hj => k.2 j (by omega)]))
      · exact ret_eq rfl rfl (congrArg Ty.bool (by rw [breakM_none fun j hj => k.2 j (by omega)]; rfl))
end Go.Proofs.Ytifgbnbkimcchaa

namespace Go.Proofs.Ytifgbnbkimcchaa
open Go.T
def readyM (f : Flr) (done : List Int) (t : Int) : Bool := !decide (t ∈ done) && (aheadM f t).all fun a => decide (a ∈ done)
def ordersM (f : Flr) : Nat → List Int → List (List Int)
  | 0, _ => []
  | n + 1, done => if done.length = f.turnings.length then [done] else (iot f.turnings.length).flatMap fun t => if readyM f done t = true then ordersM f n (done ++ [t]) else []
def keepM (f : Flr) (orders : List (List Int)) : List (List Int) := orders.filter fun l => decide (marginM f l ≥ 0)
def firstsM (f : Flr) (keeping : List (List Int)) : List Int := (iot f.turnings.length).filter fun t => keeping.any fun l => decide (nth l 0 = t)
def mustM (keeping : List (List Int)) (a b : Int) : Bool := keeping.all fun l => decide (b ∉ l.takeWhile fun x => !decide (x = a))
end Go.Proofs.Ytifgbnbkimcchaa

namespace Go.Proofs.Ytifgbnbkimcchaa
open Go Go.T
attribute [local irreducible] dInt dBool dSl dPp dPtr dAgg dTup dClo dAny dEx dStr dGd dCells dVec dVs dRow dOp nth Tri Into TOps Ctr bodyPost Exit.then Exit.inBlock Code.wp Code.wpIn
end Go.Proofs.Ytifgbnbkimcchaa

namespace Go.Proofs.Ytifgbnbkimcchaa
open Go.T
def payS (t : Int) (st : Int × Int × Int) (p : Pay) : Option (Int × Int × Int) :=
  if p.src = t ∧ p.much > st.1 then none
  else if p.dst = t ∧ p.much > st.2.1 then none
  else some (if p.src = t then st.1 - p.much else st.1, if p.dst = t then st.2.1 - p.much else st.2.1, if p.src = t then st.2.2 - p.much else st.2.2)
def paysS (t : Int) (pays : List Pay) (st : Int × Int × Int) : Option (Int × Int × Int) := pays.foldl (fun o p => o.bind fun s => payS t s p) (some st)
def turn0 (f : Flr) (b : Nat) (t : Nat) (bound : Int) : Int × Int × Int := (max 0 (addM f t b), max 0 (-(addM f t b)), if addM f t b > 0 then bound + addM f t b else bound)
def turnS (f : Flr) (b : Nat) (pays : List Pay) (o : Option Int) (t : Nat) : Option Int := o.bind fun bound => (paysS t pays (turn0 f b t bound)).map fun s => s.2.2
def boundUp (f : Flr) (b : Nat) (pays : List Pay) (k : Nat) : Option Int := (List.range k).foldl (turnS f b pays) (some (nth (nth (loadsM f []) 0) b))
def boundsR (f : Flr) (b : Nat) (pays : List Pay) : Int × Int :=
  if pays.any fun p => decide (p.src < 0 ∨ p.src ≥ f.turnings.length) || decide (p.dst < 0 ∨ p.dst ≥ f.turnings.length) then (0, 1)
  else if pays.any fun p => decide (p.much < 1) then (0, 3)
  else if pays.any fun p => !decide (p.dst ∈ aheadM f p.src) then (0, 4)
  else match boundUp f b pays f.turnings.length with
    | none => (0, 8)
    | some n => (n, 0)
end Go.Proofs.Ytifgbnbkimcchaa

namespace Go.Proofs.Ytifgbnbkimcchaa
open Go Go.T
attribute [local irreducible] dInt dBool dSl dPp dPtr dAgg dTup dClo dAny dEx dStr dGd dCells dVec dVs dRow dOp nth Tri Into TOps Ctr bodyPost Exit.then Exit.inBlock Code.wp Code.wpIn
end Go.Proofs.Ytifgbnbkimcchaa

namespace Go.T
open Go Go.RowKit
def andNotN (a b : Nat) : Nat := (BitVec.ofNat 64 a &&& ~~~BitVec.ofNat 64 b).toNat
theorem wrap_nat {n : Nat} (h : n < 9223372036854775808) : IntKind.i64.wrap (n : Int) = n := IntWalk.i64_in _ (by omega)
theorem bits_and {a b : Nat} (ha : a < 9223372036854775808) (hb : b < 9223372036854775808) : bits .and .i64 a b = ((a &&& b : Nat) : Int) := by
  have h : (BitVec.ofInt 64 (a : Int) &&& BitVec.ofInt 64 (b : Int)).toNat = a &&& b := by
    rw [BitVec.ofInt_natCast, BitVec.ofInt_natCast, BitVec.toNat_and, BitVec.toNat_ofNat, BitVec.toNat_ofNat, Nat.mod_eq_of_lt (by omega), Nat.mod_eq_of_lt (by omega)]
  show IntKind.i64.wrap (((BitVec.ofInt 64 (a : Int) &&& BitVec.ofInt 64 (b : Int)).toNat : Nat) : Int) = _
  rw [h, wrap_nat (Nat.lt_of_le_of_lt Nat.and_le_left ha)]
theorem bits_or {a b : Nat} (ha : a < 9223372036854775808) (hb : b < 9223372036854775808) : bits .or .i64 a b = ((a ||| b : Nat) : Int) := by
  have h : (BitVec.ofInt 64 (a : Int) ||| BitVec.ofInt 64 (b : Int)).toNat = a ||| b := by
    rw [BitVec.ofInt_natCast, BitVec.ofInt_natCast, BitVec.toNat_or, BitVec.toNat_ofNat, BitVec.toNat_ofNat, Nat.mod_eq_of_lt (by omega), Nat.mod_eq_of_lt (by omega)]
  show IntKind.i64.wrap (((BitVec.ofInt 64 (a : Int) ||| BitVec.ofInt 64 (b : Int)).toNat : Nat) : Int) = _
  rw [h, wrap_nat (show a ||| b < 2 ^ 63 from Nat.or_lt_two_pow (by omega) (by omega))]
theorem andNot_le (a b : Nat) (ha : a < 9223372036854775808) : andNotN a b ≤ a := by
  unfold andNotN
  rw [BitVec.toNat_and, BitVec.toNat_ofNat, Nat.mod_eq_of_lt (by omega)]
  exact Nat.and_le_left
theorem bits_andNot {a b : Nat} (ha : a < 9223372036854775808) : bits .andNot .i64 a b = ((andNotN a b : Nat) : Int) := by
  show IntKind.i64.wrap (((BitVec.ofInt 64 (a : Int) &&& ~~~BitVec.ofInt 64 (b : Int)).toNat : Nat) : Int) = _
  rw [BitVec.ofInt_natCast, BitVec.ofInt_natCast]
  exact wrap_nat (Nat.lt_of_le_of_lt (andNot_le a b ha) ha)
theorem andNot_zero {a b : Nat} (ha : a < 9223372036854775808) (hb : b < 9223372036854775808) : andNotN a b = 0 ↔ ∀ i, a.testBit i = true → b.testBit i = true := by
  have key : ∀ i, (andNotN a b).testBit i = (a.testBit i && !b.testBit i) := fun i => by
    unfold andNotN
    rw [← BitVec.getLsbD, BitVec.getLsbD_and, BitVec.getLsbD_not, BitVec.getLsbD_ofNat, BitVec.getLsbD_ofNat]
    by_cases hi : i < 64
    · simp [hi]
    · have : a.testBit i = false := Nat.testBit_lt_two_pow (Nat.lt_of_lt_of_le ha (Nat.le_trans (by decide : 9223372036854775808 ≤ 2 ^ 64) (Nat.pow_le_pow_right (by omega) (by omega))))
      simp [hi, this]
  constructor
  · intro h i hi
    have := key i
    rw [h, hi] at this
    simp at this; exact this
  · intro h
    refine Nat.eq_of_testBit_eq fun i => ?_
    rw [key]
    cases hi : a.testBit i with
    | false => simp
    | true => simp [h i hi]
theorem one_shl {i : Nat} (h : i ≤ 62) : 1 <<< i < 9223372036854775808 := by
  rw [Nat.shiftLeft_eq, Nat.one_mul]
  exact Nat.pow_lt_pow_right (by omega) (show i < 63 by omega)
section
variable {P : Program} {fr : Fr} {ops : Array Oper} {A : As} {rest : List Oper} {K : As → List (As × Fx) → Prop} {d : Nat} {t ty' ty2 : TypeId} {p : String} {e : Array Edge} {x y : Operand}
theorem r_andN {a b : Nat} (hx : A.op fr x = .int .i64 (a : Nat)) (hy : A.op fr y = .int .i64 (b : Nat)) (h1 : a < 9223372036854775808) (h2 : b < 9223372036854775808)
    (h : TOps P fr ops rest (A.set d (.int .i64 ((a &&& b : Nat) : Int))) fun A' l' => K A' ((A, { d := some d, ty := .int .i64 ((a &&& b : Nat) : Int), rs := opR x ++ opR y }) :: l')) : TOps P fr ops (⟨some d, .binOp .and ty' x y ty2, t, p, e, none⟩ :: rest) A K :=
  r_bin (op := .and) hx hy (ty := .int .i64 ((a &&& b : Nat) : Int)) (by show some _ = some _; rw [bits_and h1 h2]) h
theorem r_orN {a b : Nat} (hx : A.op fr x = .int .i64 (a : Nat)) (hy : A.op fr y = .int .i64 (b : Nat)) (h1 : a < 9223372036854775808) (h2 : b < 9223372036854775808)
    (h : TOps P fr ops rest (A.set d (.int .i64 ((a ||| b : Nat) : Int))) fun A' l' => K A' ((A, { d := some d, ty := .int .i64 ((a ||| b : Nat) : Int), rs := opR x ++ opR y }) :: l')) : TOps P fr ops (⟨some d, .binOp .or ty' x y ty2, t, p, e, none⟩ :: rest) A K :=
  r_bin (op := .or) hx hy (ty := .int .i64 ((a ||| b : Nat) : Int)) (by show some _ = some _; rw [bits_or h1 h2]) h
theorem r_andNotN {a b : Nat} (hx : A.op fr x = .int .i64 (a : Nat)) (hy : A.op fr y = .int .i64 (b : Nat)) (h1 : a < 9223372036854775808)
    (h : TOps P fr ops rest (A.set d (.int .i64 ((andNotN a b : Nat) : Int))) fun A' l' => K A' ((A, { d := some d, ty := .int .i64 ((andNotN a b : Nat) : Int), rs := opR x ++ opR y }) :: l')) : TOps P fr ops (⟨some d, .binOp .andNot ty' x y ty2, t, p, e, none⟩ :: rest) A K :=
  r_bin (op := .andNot) hx hy (ty := .int .i64 ((andNotN a b : Nat) : Int)) (by show some _ = some _; rw [bits_andNot h1]) h
theorem r_shrN {a b : Nat} (hx : A.op fr x = .int .i64 (a : Nat)) (hy : A.op fr y = .int .i64 (b : Nat)) (h1 : b ≤ 63)
    (h : TOps P fr ops rest (A.set d (.int .i64 ((a >>> b : Nat) : Int))) fun A' l' => K A' ((A, { d := some d, ty := .int .i64 ((a >>> b : Nat) : Int), rs := opR x ++ opR y }) :: l')) : TOps P fr ops (⟨some d, .binOp .shr ty' x y ty2, t, p, e, none⟩ :: rest) A K := by
  have e : ((a : Int) / 2 ^ (b : Int).toNat) = ((a >>> b : Nat) : Int) := by rw [Nat.shiftRight_eq_div_pow]; simp
  refine r_shr hx hy (Int.natCast_nonneg _) (by show (b : Int) ≤ ((64 : Nat) : Int); omega) ?_
  rw [e]; exact h
theorem r_shlN {a b : Nat} (hx : A.op fr x = .int .i64 (a : Nat)) (hy : A.op fr y = .int .i64 (b : Nat)) (h1 : b ≤ 63) (h2 : a <<< b < 9223372036854775808)
    (h : TOps P fr ops rest (A.set d (.int .i64 ((a <<< b : Nat) : Int))) fun A' l' => K A' ((A, { d := some d, ty := .int .i64 ((a <<< b : Nat) : Int), rs := opR x ++ opR y }) :: l')) : TOps P fr ops (⟨some d, .binOp .shl ty' x y ty2, t, p, e, none⟩ :: rest) A K := by
  have e : IntKind.i64.wrap ((a : Int) * 2 ^ (b : Int).toNat) = ((a <<< b : Nat) : Int) := by
    have : ((a : Int) * 2 ^ (b : Int).toNat) = ((a <<< b : Nat) : Int) := by rw [Nat.shiftLeft_eq]; simp
    rw [this, wrap_nat h2]
  refine r_shl hx hy (Int.natCast_nonneg _) (by show (b : Int) ≤ ((64 : Nat) : Int); omega) ?_
  rw [e]; exact h
end
end Go.T

namespace Go.Proofs.Ytifgbnbkimcchaa
open Go.T
def bitsUp (s k : Nat) : List Int := ((List.range k).filter fun i => s.testBit i).map fun (i : Nat) => (i : Int)
def membersM (s : Nat) : List Int := bitsUp s 8
theorem bitsUp_succ (s k : Nat) : bitsUp s (k + 1) = bitsUp s k ++ if s.testBit k = true then [(k : Int)] else [] := by
  unfold bitsUp
  rw [List.range_succ, List.filter_append, List.map_append]
  congr 1
  by_cases h : s.testBit k = true
  · simp [h]
  · simp [h]
theorem shift_bit (s i : Nat) : ((s >>> i) &&& 1 = 1) ↔ s.testBit i = true := by
  rw [Nat.testBit, Nat.and_comm]
  have : (1 &&& s >>> i) = s >>> i % 2 := by rw [Nat.and_comm]; exact Nat.and_one_is_mod _
  rw [this]
  have := Nat.mod_two_eq_zero_or_one (s >>> i)
  constructor
  · intro h; rw [h]; rfl
  · intro h
    rcases this with h0 | h1
    · rw [h0] at h; cases h
    · exact h1
theorem bits_end {s i : Nat} (h : s >>> i = 0) : ∀ j, i ≤ j → s.testBit j = false := by
  intro j hj
  have : s.testBit j = (s >>> i).testBit (j - i) := by rw [Nat.testBit_shiftRight]; congr 1; omega
  rw [this, h, Nat.zero_testBit]
theorem bitsUp_end {s i : Nat} (h : s >>> i = 0) : ∀ k, i ≤ k → bitsUp s k = bitsUp s i := by
  intro k hk
  induction k with
  | zero => rw [show i = 0 by omega]
  | succ k ih =>
    rcases Nat.lt_or_ge k i with h1 | h1
    · rw [show k + 1 = i by omega]
    · rw [bitsUp_succ, ih h1, if_neg (by rw [bits_end h k h1]; decide), List.append_nil]
theorem shift8 {s i : Nat} (hs : s < 256) (h : s >>> i > 0) : i < 8 := by
  rcases Nat.lt_or_ge i 8 with h1 | h1
  · exact h1
  · exfalso
    have : s >>> i = 0 := by
      rw [Nat.shiftRight_eq_div_pow]
      exact Nat.div_eq_of_lt (Nat.lt_of_lt_of_le hs (Nat.le_trans (by decide : 256 ≤ 2 ^ 8) (Nat.pow_le_pow_right (by omega) h1)))
    omega
theorem bitsUp_len (s k : Nat) : (bitsUp s k).length ≤ k := by
  have := List.length_filter_le (fun i => s.testBit i) (List.range k)
  simpa [bitsUp] using this
def leastM (n : Int) (l : List Int) : Int := l.foldl min n
def inB (n lo hi : Int) : Bool := decide (n ≥ lo) && decide (n ≤ hi)
end Go.Proofs.Ytifgbnbkimcchaa

namespace Go.Proofs.Ytifgbnbkimcchaa
open Go Go.T
attribute [local irreducible] dInt dBool dSl dPp dPtr dAgg dTup dClo dAny dEx dStr dGd dCells dVec dVs dRow dOp nth Tri Into TOps Ctr bodyPost Exit.then Exit.inBlock Code.wp Code.wpIn
set_option maxRecDepth 100000 in
theorem c_in (n lo hi : Int) : Ctr Try.prog 121 [Ty.int .i64 n, Ty.int .i64 lo, Ty.int .i64 hi] (Ty.bool (inB n lo hi)) := by
  refine fn_intro Try.func121 rfl (by decide) Try.ntmps121 (by exact Nat.le_of_ble_eq_true rfl) fun w0 M0 => ?_
  refine t_seq ?_
  refine t_region ?_
  refine asB rfl ?_
  refine r_nil ?_
  refine i_then ?_
  refine t_seq ?_
  refine t_region ?_
  refine mvI rfl ?_
  refine mvI rfl ?_
  refine r_bin rfl rfl rfl ?_
  refine mvB rfl ?_
  apply r_guard (s := 10) rfl rfl rfl
  · intro hg; apply opT_of; (refine mvI rfl ?_); refine r_nil ?_; exact rfl
  · exact rfl
  · exact rfl
  apply r_guard (s := 10) rfl rfl rfl
  · intro hg; apply opT_of; (refine mvI rfl ?_); refine r_nil ?_; exact rfl
  · exact rfl
  · exact rfl
  apply r_guard (s := 10) rfl rfl rfl
  · intro hg; apply opT_strip (s := 11) rfl (by (rw [hg]; rfl)); apply opT_strip (s := 12) rfl (by (rw [hg]; rfl)); apply opT_of; (refine r_bin rfl rfl rfl ?_); refine r_nil ?_; exact rfl
  · exact rfl
  · exact rfl
  refine r_and rfl rfl ?_
  refine asB rfl ?_
  refine r_nil ?_
  refine i_then ?_
  refine t_ret ?_
  refine i_rp1 rfl rfl ?_
  all_goals exact ret_refl rfl rfl
set_option maxRecDepth 100000 in
theorem c_sum (l : List Int) (hl : l.length ≤ 100) (hb : ∀ n ∈ l, 0 ≤ n ∧ n ≤ 4000) : Ctr Try.prog 142 [Ty.sl I64 l] (Ty.int .i64 l.sum) := by
  refine fn_intro Try.func142 rfl (by decide) Try.ntmps142 (by exact Nat.le_of_ble_eq_true rfl) fun w0 M0 => ?_
  refine t_seq ?_
  refine t_region ?_
  refine asI rfl ?_
  refine r_nil ?_
  refine i_then ?_
  refine t_seq ?_
  refine t_region ?_
  refine asI rfl ?_
  refine r_nil ?_
  refine i_then ?_
  refine t_seq ?_
  refine t_seq ?_
  refine t_region ?_
  refine mvS rfl ?_
  refine r_len rfl rfl rfl ?_
  refine mvI rfl ?_
  refine r_nil ?_
  refine i_then ?_
  refine t_block ?_
  refine t_loop (fun (k : Nat) => live [(3, Ty.int .i64 (l.take k).sum), (6, Ty.sl I64 l), (7, Ty.int .i64 l.length), (8, Ty.int .i64 k)] []) (fun k => l.length - k) (0) ?_ fun k => ?_
  · (refine Ent.mk' ?_ ?_ <;> (repeat' (first | exact allSub_zero | exact allTags_nil | refine allSub_succ' ?_ (Ty.sub_any _) | refine allSub_succ' ?_ (Ty.sub_refl _))))
  ·
    have hsb := take_bound hb k
    rw [List.length_take] at hsb
    refine t_seq ?_
    refine t_region ?_
    refine r_bin rfl rfl rfl ?_
    refine r_nil ?_
    refine i_then ?_
    refine t_seq ?_
    refine t_cond_dec rfl (fun hc1 => ?_) (fun hc1 => ?_)
    ·
      refine t_skip ?_
      refine i_then ?_
      refine t_seq ?_
      refine t_block ?_
      refine t_seq ?_
      have hx := hb _ (nth_mem (xs := l) (k := k) (by omega))
      refine t_region ?_
      refine r_index_slN rfl rfl rfl rfl rfl rfl (by omega) ?_
      refine r_load_pp rfl rfl rfl rfl ?_
      refine asI rfl ?_
      refine r_nil ?_
      refine i_then ?_
      refine t_region ?_
      refine mvI rfl ?_
      refine mvI rfl ?_
      refine r_add rfl rfl (by omega) (by omega) ?_
      refine asI rfl ?_
      refine r_nil ?_
      refine i_block ?_
      refine i_then ?_
      refine t_region ?_
      refine r_add rfl rfl (by omega) (by omega) ?_
      refine mvI rfl ?_
      refine r_nil ?_
      refine i_round (k + 1) ?_ (by omega)
      (refine Ent.mk' ?_ ?_ <;> (repeat' (first | exact allSub_zero | exact allTags_nil | refine allSub_succ' ?_ (Ty.sub_any _) | refine allSub_succ' ?_ (Ty.sub_refl _) | refine allSub_succ' ?_ ?_)))
      all_goals skip
      exact Ty.sub_int (by rw [take_nth (by omega), List.sum_append]; simp)
    ·
      refine t_exit ?_
      refine i_then_exit ?_
      refine i_then_exit ?_
      refine i_block_exit rfl ?_
      refine i_then ?_
      refine t_seq ?_
      refine t_region ?_
      refine mvI rfl ?_
      refine asI rfl ?_
      refine r_nil ?_
      refine i_then ?_
      refine t_ret ?_
      refine i_rp1 rfl rfl ?_
      all_goals skip
      exact ret_eq rfl rfl (congrArg (Ty.int .i64) (by rw [List.take_of_length_le (by omega)]))
set_option maxRecDepth 100000 in
theorem c_least (n : Int) (l : List Int) : Ctr Try.prog 100 [Ty.int .i64 n, Ty.sl I64 l] (Ty.int .i64 (leastM n l)) := by
  refine fn_intro Try.func100 rfl (by decide) Try.ntmps100 (by exact Nat.le_of_ble_eq_true rfl) fun w0 M0 => ?_
  refine t_fact (s := 1) rfl rfl sl_len fun hl => ?_
  refine t_seq ?_
  refine t_region ?_
  refine asI rfl ?_
  refine r_nil ?_
  refine i_then ?_
  refine t_seq ?_
  refine t_seq ?_
  refine t_region ?_
  refine mvS rfl ?_
  refine r_len rfl rfl rfl ?_
  refine mvI rfl ?_
  refine r_nil ?_
  refine i_then ?_
  refine t_block ?_
  refine t_loop (fun (k : Nat) => live [(0, Ty.int .i64 (leastM n (l.take k))), (7, Ty.sl I64 l), (8, Ty.int .i64 l.length), (9, Ty.int .i64 k)] []) (fun k => l.length - k) (0) ?_ fun k => ?_
  · (refine Ent.mk' ?_ ?_ <;> (repeat' (first | exact allSub_zero | exact allTags_nil | refine allSub_succ' ?_ (Ty.sub_any _) | refine allSub_succ' ?_ (Ty.sub_refl _))))
  ·
    refine t_seq ?_
    refine t_region ?_
    refine r_bin rfl rfl rfl ?_
    refine r_nil ?_
    refine i_then ?_
    refine t_seq ?_
    refine t_cond_dec rfl (fun hc1 => ?_) (fun hc1 => ?_)
    ·
      refine t_skip ?_
      refine i_then ?_
      refine t_seq ?_
      refine t_block ?_
      refine t_seq ?_
      refine t_region ?_
      refine r_index_slN rfl rfl rfl rfl rfl rfl (by omega) ?_
      refine r_load_pp rfl rfl rfl rfl ?_
      refine asI rfl ?_
      refine r_nil ?_
      refine i_then ?_
      refine t_region ?_
      refine mvI rfl ?_
      refine mvI rfl ?_
      refine r_min rfl rfl ?_
      refine asI rfl ?_
      refine r_nil ?_
      refine i_block ?_
      refine i_then ?_
      refine t_region ?_
      refine r_add rfl rfl (by omega) (by omega) ?_
      refine mvI rfl ?_
      refine r_nil ?_
      refine i_round (k + 1) ?_ (by omega)
      (refine Ent.mk' ?_ ?_ <;> (repeat' (first | exact allSub_zero | exact allTags_nil | refine allSub_succ' ?_ (Ty.sub_any _) | refine allSub_succ' ?_ (Ty.sub_refl _) | refine allSub_succ' ?_ ?_)))
      all_goals skip
      exact Ty.sub_int (by simp only [leastM]; rw [take_nth (by omega), List.foldl_append]; rfl)
    ·
      refine t_exit ?_
      refine i_then_exit ?_
      refine i_then_exit ?_
      refine i_block_exit rfl ?_
      refine i_then ?_
      refine t_seq ?_
      refine t_region ?_
      refine mvI rfl ?_
      refine asI rfl ?_
      refine r_nil ?_
      refine i_then ?_
      refine t_ret ?_
      refine i_rp1 rfl rfl ?_
      all_goals skip
      exact ret_eq rfl rfl (congrArg (Ty.int .i64) (by rw [List.take_of_length_le (by omega)]))
set_option maxRecDepth 100000 in
theorem c_members (s : Nat) (hs : s < 256) : Ctr Try.prog 103 [Ty.int .i64 (s : Nat)] (Ty.sl I64 (membersM s)) := by
  refine fn_intro Try.func103 rfl (by decide) Try.ntmps103 (by exact Nat.le_of_ble_eq_true rfl) fun w0 M0 => ?_
  refine t_seq ?_
  refine t_region ?_
  refine asX rfl ?_
  refine r_nil ?_
  refine i_then ?_
  refine t_seq ?_
  refine t_region ?_
  refine asX rfl ?_
  refine r_nil ?_
  refine i_then ?_
  refine t_seq ?_
  refine t_seq ?_
  refine t_region ?_
  refine asI rfl ?_
  refine r_nil ?_
  refine i_then ?_
  refine t_block ?_
  refine t_loop (fun (i : {i : Nat // i ≤ 8}) => live [(0, Ty.int .i64 (s : Nat)), (3, Ty.row I64 3 20 (bitsUp s i.1)), (4, Ty.int .i64 (i.1 : Nat))] []) (fun i => 8 - i.1) (⟨0, by omega⟩) ?_ fun i => ?_
  · (refine Ent.mk' ?_ ?_ <;> (repeat' (first | exact allSub_zero | exact allTags_nil | refine allSub_succ' ?_ (Ty.sub_any _) | refine allSub_succ' ?_ (Ty.sub_refl _) | refine allSub_succ' ?_ Ty.nil_row)))
  ·
    have hbl := bitsUp_len s i.1
    have hsi : s >>> i.1 ≤ s := Nat.shiftRight_le s i.1
    refine t_seq ?_
    refine t_seq ?_
    refine t_region ?_
    refine mvI rfl ?_
    refine mvI rfl ?_
    refine r_shrN rfl rfl (by omega) ?_
    refine r_bin rfl rfl rfl ?_
    refine r_nil ?_
    refine i_then ?_
    refine t_cond_dec rfl (fun hc1 => ?_) (fun hc1 => ?_)
    ·
      refine t_skip ?_
      refine i_then ?_
      refine t_seq ?_
      refine t_block ?_
      refine t_seq ?_
      refine t_region ?_
      refine mvI rfl ?_
      refine mvI rfl ?_
      refine r_shrN rfl rfl (by omega) ?_
      refine r_andN (b := 1) rfl rfl (by omega) (by omega) ?_
      refine r_bin rfl rfl rfl ?_
      refine r_nil ?_
      refine i_then ?_
      refine t_cond_dec rfl (fun hc2 => ?_) (fun hc2 => ?_)
      ·
        refine t_region ?_
        refine mvR rfl ?_
        refine mvI rfl ?_
        refine r_buildSlice (E := I64) (xs := [_]) rfl rfl rfl rfl rfl (by decide) (by decide) (by repeat (first | exact (Parts.nil : Parts _ _ [] _) | (show Parts _ _ ((_, _) :: _) _; apply Parts.one; (· exact (rfl : _ = Ty.int _ _)); (· exact rfl)))) (by exact rfl) rfl ?_
        refine r_append rfl rfl (by decide) rfl rfl rfl rfl rfl rfl (by decide) (by (simp <;> omega)) (by (simp <;> omega)) ?_
        refine asR rfl ?_
        refine r_nil ?_
        refine i_block ?_
        refine i_then ?_
        refine t_region ?_
        refine mvI rfl ?_
        refine r_add rfl rfl (by omega) (by omega) ?_
        refine asI rfl ?_
        refine r_nil ?_
        refine i_round (⟨i.1 + 1, by have := shift8 (i := i.1) hs (Int.natCast_pos.1 hc1); omega⟩) ?_ (by show 8 - (i.1 + 1) < 8 - i.1; have := shift8 (i := i.1) hs (Int.natCast_pos.1 hc1); omega)
        (refine Ent.mk' ?_ ?_ <;> (repeat' (first | exact allSub_zero | exact allTags_nil | refine allSub_succ' ?_ (Ty.sub_any _) | refine allSub_succ' ?_ (Ty.sub_refl _) | refine allSub_succ' ?_ ?_)))
        all_goals skip
        refine Ty.sub_row ?_; rw [bitsUp_succ]; (rw [if_pos ((shift_bit s i.1).1 (by exact_mod_cast hc2))]; done)
      ·
        refine t_skip ?_
        refine i_block ?_
        refine i_then ?_
        refine t_region ?_
        refine mvI rfl ?_
        refine r_add rfl rfl (by omega) (by omega) ?_
        refine asI rfl ?_
        refine r_nil ?_
        refine i_round (⟨i.1 + 1, by have := shift8 (i := i.1) hs (Int.natCast_pos.1 hc1); omega⟩) ?_ (by show 8 - (i.1 + 1) < 8 - i.1; have := shift8 (i := i.1) hs (Int.natCast_pos.1 hc1); omega)
        (refine Ent.mk' ?_ ?_ <;> (repeat' (first | exact allSub_zero | exact allTags_nil | refine allSub_succ' ?_ (Ty.sub_any _) | refine allSub_succ' ?_ (Ty.sub_refl _) | refine allSub_succ' ?_ ?_)))
        all_goals skip
        refine Ty.sub_row ?_; rw [bitsUp_succ]; (rw [if_neg (fun h => hc2 (by exact_mod_cast (shift_bit s i.1).2 h)), List.append_nil]; done)
    ·
      refine t_exit ?_
      refine i_then_exit ?_
      refine i_then_exit ?_
      refine i_block_exit rfl ?_
      refine i_then ?_
      refine t_seq ?_
      refine t_region ?_
      refine mvR rfl ?_
      refine asR rfl ?_
      refine r_nil ?_
      refine i_then ?_
      refine t_ret ?_
      refine i_rp1 rfl rfl ?_
      all_goals skip
      exact ret_row_eq (by decide) (bitsUp_end (Nat.eq_zero_of_not_pos fun h => hc1 (Int.natCast_pos.2 h)) 8 i.2).symm
set_option maxRecDepth 100000 in
theorem c_turning (f : Flr) (hs : f.Small) (t : Int) : Ctr Try.prog 87 [flrT f, Ty.int .i64 t] (Ty.bool (inB t 0 (f.turnings.length - 1))) := by
  refine fn_intro Try.func87 rfl (by decide) Try.ntmps87 (by exact Nat.le_of_ble_eq_true rfl) fun w0 M0 => ?_
  have hs1 := hs.bears; have hs2 := hs.bins; have hs3 := hs.turnings; have hs4 := hs.rules
  refine t_seq ?_
  refine t_region ?_
  refine r_box_agg rfl ?_
  refine asB rfl ?_
  refine r_nil ?_
  refine i_then ?_
  refine t_seq ?_
  refine t_region ?_
  refine mvI rfl ?_
  refine r_field_pp rfl rfl rfl rfl rfl (by decide) ?_
  refine r_load_pp rfl rfl rfl rfl ?_
  refine r_len rfl rfl rfl ?_
  refine r_sub rfl rfl (by omega) (by omega) ?_
  refine r_call (c_in _ _ _) rfl rfl rfl rfl rfl ?_
  refine asB rfl ?_
  refine r_nil ?_
  refine i_then ?_
  refine t_ret ?_
  refine i_rp1 rfl rfl ?_
  all_goals exact ret_refl rfl rfl
set_option maxRecDepth 100000 in
theorem c_bay (f : Flr) (hs : f.Small) (t : Int) : Ctr Try.prog 84 [flrT f, Ty.int .i64 t] (Ty.bool (inB t 0 (f.bears.length - 1))) := by
  refine fn_intro Try.func84 rfl (by decide) Try.ntmps84 (by exact Nat.le_of_ble_eq_true rfl) fun w0 M0 => ?_
  have hs1 := hs.bears; have hs2 := hs.bins; have hs3 := hs.turnings; have hs4 := hs.rules
  refine t_seq ?_
  refine t_region ?_
  refine r_box_agg rfl ?_
  refine asB rfl ?_
  refine r_nil ?_
  refine i_then ?_
  refine t_seq ?_
  refine t_region ?_
  refine mvI rfl ?_
  refine r_field_pp rfl rfl rfl rfl rfl (by decide) ?_
  refine r_load_pp rfl rfl rfl rfl ?_
  refine r_len rfl rfl rfl ?_
  refine r_sub rfl rfl (by omega) (by omega) ?_
  refine r_call (c_in _ _ _) rfl rfl rfl rfl rfl ?_
  refine asB rfl ?_
  refine r_nil ?_
  refine i_then ?_
  refine t_ret ?_
  refine i_rp1 rfl rfl ?_
  all_goals exact ret_refl rfl rfl
set_option maxRecDepth 100000 in
theorem c_named (f : Flr) (hs : f.Small) (t : Int) : Ctr Try.prog 137 [flrT f, Ty.int .i64 t] (Ty.bool (inB t (-1) (f.bins.length - 1))) := by
  refine fn_intro Try.func137 rfl (by decide) Try.ntmps137 (by exact Nat.le_of_ble_eq_true rfl) fun w0 M0 => ?_
  have hs1 := hs.bears; have hs2 := hs.bins; have hs3 := hs.turnings; have hs4 := hs.rules
  refine t_seq ?_
  refine t_region ?_
  refine r_box_agg rfl ?_
  refine asB rfl ?_
  refine r_nil ?_
  refine i_then ?_
  refine t_seq ?_
  refine t_region ?_
  refine mvI rfl ?_
  refine r_field_pp rfl rfl rfl rfl rfl (by decide) ?_
  refine r_load_pp rfl rfl rfl rfl ?_
  refine r_len rfl rfl rfl ?_
  refine r_sub rfl rfl (by omega) (by omega) ?_
  refine r_call (c_in _ _ _) rfl rfl rfl rfl rfl ?_
  refine asB rfl ?_
  refine r_nil ?_
  refine i_then ?_
  refine t_ret ?_
  refine i_rp1 rfl rfl ?_
  all_goals exact ret_refl rfl rfl
set_option maxRecDepth 100000 in
theorem c_taken (f : Flr) (hs : f.Small) (hr : f.Ranged) (i : Int) : Ctr Try.prog 143 [flrT f, Ty.int .i64 i] (Ty.int .i64 (takenM f f.turnings i)) := by
  refine fn_intro Try.func143 rfl (by decide) Try.ntmps143 (by exact Nat.le_of_ble_eq_true rfl) fun w0 M0 => ?_
  have hs1 := hs.bears; have hs2 := hs.bins; have hs3 := hs.turnings; have hs4 := hs.rules
  refine t_seq ?_
  refine t_region ?_
  refine r_box_agg rfl ?_
  refine asI rfl ?_
  refine r_nil ?_
  refine i_then ?_
  refine t_seq ?_
  refine t_region ?_
  refine asI rfl ?_
  refine r_nil ?_
  refine i_then ?_
  refine t_seq ?_
  refine t_seq ?_
  refine t_region ?_
  refine r_field_pp rfl rfl rfl rfl rfl (by decide) ?_
  refine r_load_pp rfl rfl rfl rfl ?_
  refine r_len rfl rfl rfl ?_
  refine mvI rfl ?_
  refine r_nil ?_
  refine i_then ?_
  refine t_block ?_
  refine t_loop (fun (n : Nat) => live [(1, Ty.int .i64 i), (5, Ty.int .i64 (takenM f (f.turnings.take n) i)), (9, Ty.sl TrnE f.turnings), (10, Ty.int .i64 f.turnings.length), (11, Ty.int .i64 (n : Nat))] []) (fun n => f.turnings.length - n) (0) ?_ fun n => ?_
  · (refine Ent.mk' ?_ ?_ <;> (repeat' (first | exact allSub_zero | exact allTags_nil | refine allSub_succ' ?_ (Ty.sub_any _) | refine allSub_succ' ?_ (Ty.sub_refl _))))
  ·
    have htb := taken_bound hr n i
    refine t_seq ?_
    refine t_region ?_
    refine r_bin rfl rfl rfl ?_
    refine r_nil ?_
    refine i_then ?_
    refine t_seq ?_
    refine t_cond_dec rfl (fun hc1 => ?_) (fun hc1 => ?_)
    ·
      refine t_skip ?_
      refine i_then ?_
      refine t_seq ?_
      refine t_block ?_
      refine t_seq ?_
      refine t_region ?_
      refine r_index_slN rfl rfl rfl rfl rfl rfl (by omega) ?_
      refine r_load_ppN rfl rfl rfl (by exact Nat.le_of_ble_eq_true rfl) ?_
      refine r_alloc rfl (by exact List.cons_ne_nil _ _) rfl ?_
      refine r_storeN rfl rfl (by decide) rfl rfl rfl rfl rfl rfl ?_
      refine r_nil ?_
      refine i_then ?_
      refine t_seq ?_
      refine t_region ?_
      refine r_field_ptr rfl rfl rfl rfl rfl (by decide) ?_
      refine r_load_ptr rfl rfl (by decide) rfl rfl rfl ?_
      refine mvI rfl ?_
      refine r_bin rfl rfl rfl ?_
      refine r_nil ?_
      refine i_then ?_
      refine t_cond_dec rfl (fun hc2 => ?_) (fun hc2 => ?_)
      ·
        have htx := hr.sacksR (nth f.turnings n) (nth_mem (by omega))
        refine t_region ?_
        refine mvI rfl ?_
        refine r_field_ptr rfl rfl rfl rfl rfl (by decide) ?_
        refine r_load_ptr rfl rfl (by decide) rfl rfl rfl ?_
        refine r_add rfl rfl (by omega) (by omega) ?_
        refine asI rfl ?_
        refine r_nil ?_
        refine i_block ?_
        refine i_then ?_
        refine t_region ?_
        refine r_add rfl rfl (by omega) (by omega) ?_
        refine mvI rfl ?_
        refine r_nil ?_
        refine i_round (n + 1) ?_ (by omega)
        (refine Ent.mk' ?_ ?_ <;> (repeat' (first | exact allSub_zero | exact allTags_nil | refine allSub_succ' ?_ (Ty.sub_any _) | refine allSub_succ' ?_ (Ty.sub_refl _) | refine allSub_succ' ?_ ?_)))
        all_goals skip
        exact Ty.sub_int (by simp only [takenM]; rw [take_nth (by omega), List.map_append, List.sum_append]; simp [hc2])
      ·
        refine t_skip ?_
        refine i_block ?_
        refine i_then ?_
        refine t_region ?_
        refine r_add rfl rfl (by omega) (by omega) ?_
        refine mvI rfl ?_
        refine r_nil ?_
        refine i_round (n + 1) ?_ (by omega)
        (refine Ent.mk' ?_ ?_ <;> (repeat' (first | exact allSub_zero | exact allTags_nil | refine allSub_succ' ?_ (Ty.sub_any _) | refine allSub_succ' ?_ (Ty.sub_refl _) | refine allSub_succ' ?_ ?_)))
        all_goals skip
        exact Ty.sub_int (by simp only [takenM]; rw [take_nth (by omega), List.map_append, List.sum_append]; simp [hc2])
    ·
      refine t_exit ?_
      refine i_then_exit ?_
      refine i_then_exit ?_
      refine i_block_exit rfl ?_
      refine i_then ?_
      refine t_seq ?_
      refine t_region ?_
      refine mvI rfl ?_
      refine asI rfl ?_
      refine r_nil ?_
      refine i_then ?_
      refine t_ret ?_
      refine i_rp1 rfl rfl ?_
      all_goals skip
      exact ret_eq rfl rfl (congrArg (Ty.int .i64) (by rw [List.take_of_length_le (by omega)]))
set_option maxRecDepth 100000 in
theorem c_share (f : Flr) (hs : f.Small) (hr : f.Ranged) (i : Int) (b : Nat) (hi : -1 ≤ i ∧ i < f.bins.length) (hb : b < f.bears.length) : Ctr Try.prog 120 [flrT f, Ty.int .i64 i, Ty.int .i64 (b : Nat)] (Ty.int .i64 (if i = -1 then 0 else nth (nth f.bins i.toNat).shares b)) := by
  refine fn_intro Try.func120 rfl (by decide) Try.ntmps120 (by exact Nat.le_of_ble_eq_true rfl) fun w0 M0 => ?_
  have hs1 := hs.bears; have hs2 := hs.bins; have hs3 := hs.turnings; have hs4 := hs.rules
  refine t_seq ?_
  refine t_region ?_
  refine r_box_agg rfl ?_
  refine asI rfl ?_
  refine r_nil ?_
  refine i_then ?_
  refine t_seq ?_
  refine t_seq ?_
  refine t_region ?_
  refine mvI rfl ?_
  refine r_bin rfl rfl rfl ?_
  refine r_nil ?_
  refine i_then ?_
  refine t_cond_dec rfl (fun hc1 => ?_) (fun hc1 => ?_)
  ·
    refine t_seq ?_
    refine t_region ?_
    refine asI rfl ?_
    refine r_nil ?_
    refine i_then ?_
    refine t_ret ?_
    refine i_then_ret ?_
    refine i_rp1 rfl rfl ?_
    all_goals skip
    exact ret_eq rfl rfl (congrArg (Ty.int .i64) (by rw [if_pos hc1]))
  ·
    refine t_skip ?_
    refine i_then ?_
    refine t_seq ?_
    have hsl := hr.shares _ (nth_mem (xs := f.bins) (k := i.toNat) (by omega))
    refine t_region ?_
    refine r_field_pp rfl rfl rfl rfl rfl (by decide) ?_
    refine r_load_pp rfl rfl rfl rfl ?_
    refine mvI rfl ?_
    refine r_index_sl rfl rfl rfl rfl rfl rfl (by omega) (by omega) ?_
    refine r_field_pp rfl rfl rfl rfl rfl (by decide) ?_
    refine r_load_pp rfl rfl rfl rfl ?_
    refine mvI rfl ?_
    refine r_index_slN rfl rfl rfl rfl rfl rfl (by omega) ?_
    refine r_load_pp rfl rfl rfl rfl ?_
    refine asI rfl ?_
    refine r_nil ?_
    refine i_then ?_
    refine t_ret ?_
    refine i_rp1 rfl rfl ?_
    all_goals skip
    exact ret_eq rfl rfl (congrArg (Ty.int .i64) (by rw [if_neg hc1]))
set_option maxRecDepth 100000 in
theorem c_right1 (f : Flr) (b : Bin) : Ctr Try.prog 130 [Ty.agg (BinE.tys b), Ty.pp (flrTys f)] (Ty.bool (decide ((b.shares.length : Int) = f.bears.length))) := by
  refine fn_intro Try.func130 rfl (by decide) Try.ntmps130 (by exact Nat.le_of_ble_eq_true rfl) fun w0 M0 => ?_
  refine t_seq ?_
  refine t_region ?_
  refine r_box_agg rfl ?_
  refine asB rfl ?_
  refine r_nil ?_
  refine i_then ?_
  refine t_seq ?_
  refine t_region ?_
  refine r_field_pp rfl rfl rfl rfl rfl (by decide) ?_
  refine r_load_pp rfl rfl rfl rfl ?_
  refine r_len rfl rfl rfl ?_
  refine r_field_pp rfl rfl rfl rfl rfl (by decide) ?_
  refine r_load_pp rfl rfl rfl rfl ?_
  refine r_len rfl rfl rfl ?_
  refine r_bin rfl rfl rfl ?_
  refine asB rfl ?_
  refine r_nil ?_
  refine i_then ?_
  refine t_ret ?_
  refine i_rp1 rfl rfl ?_
  all_goals exact ret_refl rfl rfl
set_option maxRecDepth 100000 in
theorem c_right2 (n : Int) : Ctr Try.prog 131 [Ty.int .i64 n] (Ty.bool (inB n 0 4000)) := by
  refine fn_intro Try.func131 rfl (by decide) Try.ntmps131 (by exact Nat.le_of_ble_eq_true rfl) fun w0 M0 => ?_
  refine t_seq ?_
  refine t_region ?_
  refine asB rfl ?_
  refine r_nil ?_
  refine i_then ?_
  refine t_seq ?_
  refine t_region ?_
  refine mvI rfl ?_
  refine r_call (c_in _ _ _) rfl rfl rfl rfl rfl ?_
  refine asB rfl ?_
  refine r_nil ?_
  refine i_then ?_
  refine t_ret ?_
  refine i_rp1 rfl rfl ?_
  all_goals exact ret_refl rfl rfl
set_option maxRecDepth 100000 in
theorem c_right3 (t : Trn) : Ctr Try.prog 133 [Ty.agg (TrnE.tys t)] (Ty.bool (inB t.sacks 1 300)) := by
  refine fn_intro Try.func133 rfl (by decide) Try.ntmps133 (by exact Nat.le_of_ble_eq_true rfl) fun w0 M0 => ?_
  refine t_seq ?_
  refine t_region ?_
  refine r_box_agg rfl ?_
  refine asB rfl ?_
  refine r_nil ?_
  refine i_then ?_
  refine t_seq ?_
  refine t_region ?_
  refine r_field_pp rfl rfl rfl rfl rfl (by decide) ?_
  refine r_load_pp rfl rfl rfl rfl ?_
  refine r_call (c_in _ _ _) rfl rfl rfl rfl rfl ?_
  refine asB rfl ?_
  refine r_nil ?_
  refine i_then ?_
  refine t_ret ?_
  refine i_rp1 rfl rfl ?_
  all_goals exact ret_refl rfl rfl
set_option maxRecDepth 100000 in
theorem c_right41 (n : Int) : Ctr Try.prog 135 [Ty.int .i64 n] (Ty.bool (inB n 0 4)) := by
  refine fn_intro Try.func135 rfl (by decide) Try.ntmps135 (by exact Nat.le_of_ble_eq_true rfl) fun w0 M0 => ?_
  refine t_seq ?_
  refine t_region ?_
  refine asB rfl ?_
  refine r_nil ?_
  refine i_then ?_
  refine t_seq ?_
  refine t_region ?_
  refine mvI rfl ?_
  refine r_call (c_in _ _ _) rfl rfl rfl rfl rfl ?_
  refine asB rfl ?_
  refine r_nil ?_
  refine i_then ?_
  refine t_ret ?_
  refine i_rp1 rfl rfl ?_
  all_goals exact ret_refl rfl rfl
set_option maxRecDepth 100000 in
theorem c_right4 (b : Bin) : Ctr Try.prog 134 [Ty.agg (BinE.tys b)] (Ty.bool (inB b.has 0 300 && b.shares.all fun n => inB n 0 4)) := by
  refine fn_intro Try.func134 rfl (by decide) Try.ntmps134 (by exact Nat.le_of_ble_eq_true rfl) fun w0 M0 => ?_
  refine t_seq ?_
  refine t_region ?_
  refine r_box_agg rfl ?_
  refine asB rfl ?_
  refine r_nil ?_
  refine i_then ?_
  refine t_seq ?_
  refine t_region ?_
  refine r_field_pp rfl rfl rfl rfl rfl (by decide) ?_
  refine r_load_pp rfl rfl rfl rfl ?_
  refine r_call (c_in _ _ _) rfl rfl rfl rfl rfl ?_
  refine mvB rfl ?_
  apply r_guard (s := 6) rfl rfl rfl
  · intro hg; apply opT_of; (refine r_field_pp rfl rfl rfl rfl rfl (by decide) ?_); refine r_nil ?_; exact rfl
  · exact rfl
  · exact rfl
  apply r_guard (s := 6) rfl rfl rfl
  · intro hg; apply opT_strip (s := 7) rfl (by (rw [hg]; rfl)); apply opT_of; (refine r_load_pp rfl rfl rfl rfl ?_); refine r_nil ?_; exact rfl
  · exact rfl
  · exact rfl
  apply r_guard (s := 6) rfl rfl rfl
  · intro hg; apply opT_strip (s := 8) rfl (by (rw [hg]; rfl)); apply opT_of; (refine r_call (c_every_int b.shares (Ty.clo _ []) rfl (fun n => inB n 0 4) rfl rfl fun n _ => cal_clo (c_right41 n) rfl rfl rfl rfl rfl rfl) rfl rfl rfl rfl rfl ?_); refine r_nil ?_; exact rfl
  · exact rfl
  · exact rfl
  refine r_and rfl rfl ?_
  refine asB rfl ?_
  refine r_nil ?_
  refine i_then ?_
  refine t_ret ?_
  refine i_rp1 rfl rfl ?_
  all_goals exact ret_refl rfl rfl
set_option maxRecDepth 100000 in
theorem c_right5 (f : Flr) (hs : f.Small) (t : Trn) : Ctr Try.prog 136 [Ty.agg (TrnE.tys t), Ty.pp (flrTys f)] (Ty.bool (inB t.src (-1) (f.bins.length - 1) && inB t.dst (-1) (f.bins.length - 1))) := by
  refine fn_intro Try.func136 rfl (by decide) Try.ntmps136 (by exact Nat.le_of_ble_eq_true rfl) fun w0 M0 => ?_
  have hs1 := hs.bears; have hs2 := hs.bins; have hs3 := hs.turnings; have hs4 := hs.rules
  refine t_seq ?_
  refine t_region ?_
  refine r_box_agg rfl ?_
  refine asB rfl ?_
  refine r_nil ?_
  refine i_then ?_
  refine t_seq ?_
  refine t_region ?_
  refine r_load_ppN rfl rfl rfl (by exact Nat.le_of_ble_eq_true rfl) ?_
  refine r_field_pp rfl rfl rfl rfl rfl (by decide) ?_
  refine r_load_pp rfl rfl rfl rfl ?_
  refine r_call (c_named f hs _) rfl rfl rfl rfl rfl ?_
  refine mvB rfl ?_
  apply r_guard (s := 8) rfl rfl rfl
  · intro hg; apply opT_of; (refine r_load_ppN rfl rfl rfl (by exact Nat.le_of_ble_eq_true rfl) ?_); refine r_nil ?_; exact rfl
  · exact rfl
  · exact rfl
  apply r_guard (s := 8) rfl rfl rfl
  · intro hg; apply opT_of; (refine r_field_pp rfl rfl rfl rfl rfl (by decide) ?_); refine r_nil ?_; exact rfl
  · exact rfl
  · exact rfl
  apply r_guard (s := 8) rfl rfl rfl
  · intro hg; apply opT_strip (s := 10) rfl (by (rw [hg]; rfl)); apply opT_of; (refine r_load_pp rfl rfl rfl rfl ?_); refine r_nil ?_; exact rfl
  · exact rfl
  · exact rfl
  apply r_guard (s := 8) rfl rfl rfl
  · intro hg; apply opT_strip (s := 9) rfl (by (rw [hg]; rfl)); apply opT_strip (s := 11) rfl (by (rw [hg]; rfl)); apply opT_of; (refine r_call (c_named f hs _) rfl rfl rfl rfl rfl ?_); refine r_nil ?_; exact rfl
  · exact rfl
  · exact rfl
  refine r_and rfl rfl ?_
  refine asB rfl ?_
  refine r_nil ?_
  refine i_then ?_
  refine t_ret ?_
  refine i_rp1 rfl rfl ?_
  all_goals exact ret_refl rfl rfl
set_option maxRecDepth 100000 in
theorem c_right7 (t : Trn) : Ctr Try.prog 140 [Ty.agg (TrnE.tys t)] (Ty.bool (!decide (t.src = t.dst))) := by
  refine fn_intro Try.func140 rfl (by decide) Try.ntmps140 (by exact Nat.le_of_ble_eq_true rfl) fun w0 M0 => ?_
  refine t_seq ?_
  refine t_region ?_
  refine r_box_agg rfl ?_
  refine asB rfl ?_
  refine r_nil ?_
  refine i_then ?_
  refine t_seq ?_
  refine t_region ?_
  refine r_field_pp rfl rfl rfl rfl rfl (by decide) ?_
  refine r_load_pp rfl rfl rfl rfl ?_
  refine r_field_pp rfl rfl rfl rfl rfl (by decide) ?_
  refine r_load_pp rfl rfl rfl rfl ?_
  refine r_bin rfl rfl rfl ?_
  refine asB rfl ?_
  refine r_nil ?_
  refine i_then ?_
  refine t_ret ?_
  refine i_rp1 rfl rfl ?_
  all_goals exact ret_refl rfl rfl
set_option maxRecDepth 100000 in
theorem c_right8 (b : Bin) (hl : b.shares.length ≤ 100) (hb : ∀ n ∈ b.shares, 0 ≤ n ∧ n ≤ 4000) : Ctr Try.prog 141 [Ty.agg (BinE.tys b)] (Ty.bool (decide (b.shares.sum = 4))) := by
  refine fn_intro Try.func141 rfl (by decide) Try.ntmps141 (by exact Nat.le_of_ble_eq_true rfl) fun w0 M0 => ?_
  refine t_seq ?_
  refine t_region ?_
  refine r_box_agg rfl ?_
  refine asB rfl ?_
  refine r_nil ?_
  refine i_then ?_
  refine t_seq ?_
  refine t_region ?_
  refine r_field_pp rfl rfl rfl rfl rfl (by decide) ?_
  refine r_load_pp rfl rfl rfl rfl ?_
  refine r_call (c_sum b.shares hl hb) rfl rfl rfl rfl rfl ?_
  refine r_bin rfl rfl rfl ?_
  refine asB rfl ?_
  refine r_nil ?_
  refine i_then ?_
  refine t_ret ?_
  refine i_rp1 rfl rfl ?_
  all_goals exact ret_refl rfl rfl
end Go.Proofs.Ytifgbnbkimcchaa
