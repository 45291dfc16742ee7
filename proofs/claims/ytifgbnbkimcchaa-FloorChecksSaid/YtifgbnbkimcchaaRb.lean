/- Lemmas: the program and the reference walked, plain laws. -/
import Derived.Test.YtifgbnbkimcchaaRa
namespace Go.Proofs.Ytifgbnbkimcchaa
open Go Go.T
attribute [local irreducible] dInt dBool dSl dPp dPtr dAgg dTup dClo dAny dEx dStr dGd dCells dVec dVs dRow dOp nth Tri Into TOps Ctr bodyPost Exit.then Exit.inBlock Code.wp Code.wpIn
theorem trn_eq (a b : Trn) : (decide (a.src = b.src) && (decide (a.dst = b.dst) && decide (a.sacks = b.sacks))) = decide (a = b) := by
  cases a; cases b; simp [Bool.decide_and]
theorem rul_eq (a b : Rul) : (decide (a.fst = b.fst) && decide (a.nxt = b.nxt)) = decide (a = b) := by
  cases a; cases b; simp [Bool.decide_and]
theorem not_b {b : Bool} (h : (!b) = true) : b = false := by cases b <;> first | rfl | cases h
theorem not_not_b {b : Bool} (h : (!b) = false) : b = true := by cases b <;> first | rfl | cases h
theorem ne_of_nth {α : Type} [Inhabited α] {a b : List α} {k : Nat} (h : nth a k ≠ nth b k) : a ≠ b := fun e => h (by rw [e])
structure Flr.Small (f : Flr) : Prop where
  bears : f.bears.length ≤ 8
  bins : f.bins.length ≤ 9
  turnings : f.turnings.length ≤ 11
  rules : f.rules.length ≤ 21
  shares : ∀ b ∈ f.bins, b.shares.length ≤ 8
set_option maxRecDepth 100000 in
theorem c_Dup_int (l : List Int) (h : l.length ≤ 1000) : Ctr Try.prog 44 [Ty.sl I64 l] (Ty.sl I64 l) := by
  refine fn_intro Try.func44 rfl (by decide) Try.ntmps44 (by exact Nat.le_of_ble_eq_true rfl) fun w0 M0 => ?_
  refine t_seq ?_
  refine t_region ?_
  refine asX rfl ?_
  refine r_nil ?_
  refine i_then ?_
  refine t_seq ?_
  refine t_region ?_
  refine mvS rfl ?_
  refine r_len rfl rfl rfl ?_
  refine r_make0 (E := I64) rfl rfl rfl rfl rfl rfl rfl (by decide) rfl (by omega) (by (dsimp only; omega)) (by omega) ?_
  refine mvS rfl ?_
  refine r_append rfl rfl (by decide) rfl rfl rfl rfl rfl rfl (by decide) (by (simp <;> omega)) (by (simp <;> omega)) ?_
  refine asR rfl ?_
  refine r_nil ?_
  refine i_then ?_
  refine t_ret ?_
  refine i_rp1 rfl rfl ?_
  all_goals exact ret_row (by decide)
set_option maxRecDepth 100000 in
theorem c_Equal_int (a b : List Int) : Ctr Try.prog 76 [Ty.sl I64 a, Ty.sl I64 b] (Ty.bool (decide (a = b))) := by
  refine fn_intro Try.func76 rfl (by decide) Try.ntmps76 (by exact Nat.le_of_ble_eq_true rfl) fun w0 M0 => ?_
  refine t_fact (s := 0) rfl rfl sl_len fun ha => ?_
  refine t_fact (s := 1) rfl rfl sl_len fun hb => ?_
  refine t_seq ?_
  refine t_region ?_
  refine asB rfl ?_
  refine r_nil ?_
  refine i_then ?_
  refine t_seq ?_
  refine t_seq ?_
  refine t_region ?_
  refine mvS rfl ?_
  refine r_len rfl rfl rfl ?_
  refine mvS rfl ?_
  refine r_len rfl rfl rfl ?_
  refine r_bin rfl rfl rfl ?_
  refine r_nil ?_
  refine i_then ?_
  refine t_cond_ndec rfl (fun hc1 => ?_) (fun hc1 => ?_)
  ·
    try (simp only [Classical.not_not] at hc1)
    refine t_seq ?_
    refine t_region ?_
    refine asB rfl ?_
    refine r_nil ?_
    refine i_then ?_
    refine t_ret ?_
    refine i_then_ret ?_
    refine i_rp1 rfl rfl ?_
    all_goals skip
    exact ret_eq rfl rfl (congrArg Ty.bool (by rw [eq_comm, decide_eq_false_iff_not]; intro e; subst e; exact hc1 rfl))
  ·
    try (simp only [Classical.not_not] at hc1)
    refine t_skip ?_
    refine i_then ?_
    refine t_seq ?_
    refine t_seq ?_
    refine t_region ?_
    refine mvS rfl ?_
    refine r_len rfl rfl rfl ?_
    refine mvI rfl ?_
    refine r_nil ?_
    refine i_then ?_
    refine t_block ?_
    refine t_loop (fun (k : {k : Nat // a.take k = b.take k}) => live [(0, Ty.sl I64 a), (1, Ty.sl I64 b), (12, Ty.int .i64 a.length), (13, Ty.int .i64 (k.1 : Nat))] []) (fun k => a.length - k.1) (⟨0, by simp⟩) ?_ fun k => ?_
    · (refine Ent.mk' ?_ ?_ <;> (repeat' (first | exact allSub_zero | exact allTags_nil | refine allSub_succ' ?_ (Ty.sub_any _) | refine allSub_succ' ?_ (Ty.sub_refl _))))
    ·
      have hlen : a.length = b.length := by omega
      refine t_seq ?_
      refine t_region ?_
      refine r_bin rfl rfl rfl ?_
      refine r_nil ?_
      refine i_then ?_
      refine t_seq ?_
      refine t_cond_dec rfl (fun hc2 => ?_) (fun hc2 => ?_)
      ·
        try (simp only [Classical.not_not] at hc2)
        refine t_skip ?_
        refine i_then ?_
        refine t_seq ?_
        refine t_block ?_
        refine t_seq ?_
        refine t_region ?_
        refine mvI rfl ?_
        refine asI rfl ?_
        refine r_nil ?_
        refine i_then ?_
        refine t_seq ?_
        refine t_draw mixed rfl ?_
        refine mvS rfl ?_
        refine mvI rfl ?_
        refine r_index_slN rfl rfl rfl rfl rfl rfl (by omega) ?_
        refine r_load_pp rfl rfl rfl rfl ?_
        refine mvS rfl ?_
        refine mvI rfl ?_
        refine r_index_slN rfl rfl rfl rfl rfl rfl (by omega) ?_
        refine r_load_pp rfl rfl rfl rfl ?_
        refine r_bin rfl rfl rfl ?_
        refine r_nil ?_
        refine ⟨by kernel_rfl, ?_⟩
        refine i_then ?_
        refine t_cond_ndec rfl (fun hc3 => ?_) (fun hc3 => ?_)
        ·
          try (simp only [Classical.not_not] at hc3)
          refine t_seq ?_
          refine t_region ?_
          refine asB rfl ?_
          refine r_nil ?_
          refine i_then ?_
          refine t_ret ?_
          refine i_block_ret ?_
          refine i_then_ret ?_
          refine i_then_ret ?_
          refine i_block_ret ?_
          refine i_then_ret ?_
          refine i_rp1 rfl rfl ?_
          all_goals skip
          exact ret_eq rfl rfl (congrArg Ty.bool (by rw [eq_comm, decide_eq_false_iff_not]; exact ne_of_nth (k := k.1) (hc3)))
        ·
          try (simp only [Classical.not_not] at hc3)
          refine t_skip ?_
          refine i_block ?_
          refine i_then ?_
          refine t_region ?_
          refine r_add rfl rfl (by omega) (by omega) ?_
          refine mvI rfl ?_
          refine r_nil ?_
          refine i_round (⟨k.1 + 1, by rw [take_nth (by omega), take_nth (by omega), k.2, hc3]⟩) ?_ (by show a.length - (k.1 + 1) < a.length - k.1; omega)
          (refine Ent.mk' ?_ ?_ <;> (repeat' (first | exact allSub_zero | exact allTags_nil | refine allSub_succ' ?_ (Ty.sub_any _) | refine allSub_succ' ?_ (Ty.sub_refl _))))
          all_goals skip
      ·
        try (simp only [Classical.not_not] at hc2)
        refine t_exit ?_
        refine i_then_exit ?_
        refine i_then_exit ?_
        refine i_block_exit rfl ?_
        refine i_then ?_
        refine t_seq ?_
        refine t_region ?_
        refine asB rfl ?_
        refine r_nil ?_
        refine i_then ?_
        refine t_ret ?_
        refine i_rp1 rfl rfl ?_
        all_goals skip
        exact ret_eq rfl rfl (congrArg Ty.bool (by rw [eq_comm, decide_eq_true_eq]; have := k.2; rwa [List.take_of_length_le (by omega), List.take_of_length_le (by omega)] at this))
set_option maxRecDepth 100000 in
theorem c_Eq_int (a b : List Int) : Ctr Try.prog 37 [Ty.sl I64 a, Ty.sl I64 b] (Ty.bool (decide (a = b))) := by
  refine fn_intro Try.func37 rfl (by decide) Try.ntmps37 (by exact Nat.le_of_ble_eq_true rfl) fun w0 M0 => ?_
  refine t_seq ?_
  refine t_region ?_
  refine asB rfl ?_
  refine r_nil ?_
  refine i_then ?_
  refine t_seq ?_
  refine t_region ?_
  refine mvS rfl ?_
  refine mvS rfl ?_
  refine r_call (c_Equal_int _ _) rfl rfl rfl rfl rfl ?_
  refine asB rfl ?_
  refine r_nil ?_
  refine i_then ?_
  refine t_ret ?_
  refine i_rp1 rfl rfl ?_
  all_goals exact ret_refl rfl rfl
set_option maxRecDepth 100000 in
theorem c_Dup_trn (l : List Trn) (h : l.length ≤ 1000) : Ctr Try.prog 77 [Ty.sl TrnE l] (Ty.sl TrnE l) := by
  refine fn_intro Try.func77 rfl (by decide) Try.ntmps77 (by exact Nat.le_of_ble_eq_true rfl) fun w0 M0 => ?_
  refine t_seq ?_
  refine t_region ?_
  refine asX rfl ?_
  refine r_nil ?_
  refine i_then ?_
  refine t_seq ?_
  refine t_region ?_
  refine mvS rfl ?_
  refine r_len rfl rfl rfl ?_
  refine r_make0 (E := TrnE) rfl rfl rfl rfl rfl rfl rfl (by decide) rfl (by omega) (by (dsimp only; omega)) (by omega) ?_
  refine mvS rfl ?_
  refine r_append rfl rfl (by decide) rfl rfl rfl rfl rfl rfl (by decide) (by (simp <;> omega)) (by (simp <;> omega)) ?_
  refine asR rfl ?_
  refine r_nil ?_
  refine i_then ?_
  refine t_ret ?_
  refine i_rp1 rfl rfl ?_
  all_goals exact ret_row (by decide)
set_option maxRecDepth 100000 in
theorem c_Equal_trn (a b : List Trn) : Ctr Try.prog 124 [Ty.sl TrnE a, Ty.sl TrnE b] (Ty.bool (decide (a = b))) := by
  refine fn_intro Try.func124 rfl (by decide) Try.ntmps124 (by exact Nat.le_of_ble_eq_true rfl) fun w0 M0 => ?_
  refine t_fact (s := 0) rfl rfl sl_len fun ha => ?_
  refine t_fact (s := 1) rfl rfl sl_len fun hb => ?_
  refine t_seq ?_
  refine t_region ?_
  refine asB rfl ?_
  refine r_nil ?_
  refine i_then ?_
  refine t_seq ?_
  refine t_seq ?_
  refine t_region ?_
  refine mvS rfl ?_
  refine r_len rfl rfl rfl ?_
  refine mvS rfl ?_
  refine r_len rfl rfl rfl ?_
  refine r_bin rfl rfl rfl ?_
  refine r_nil ?_
  refine i_then ?_
  refine t_cond_ndec rfl (fun hc1 => ?_) (fun hc1 => ?_)
  ·
    try (simp only [Classical.not_not] at hc1)
    refine t_seq ?_
    refine t_region ?_
    refine asB rfl ?_
    refine r_nil ?_
    refine i_then ?_
    refine t_ret ?_
    refine i_then_ret ?_
    refine i_rp1 rfl rfl ?_
    all_goals skip
    exact ret_eq rfl rfl (congrArg Ty.bool (by rw [eq_comm, decide_eq_false_iff_not]; intro e; subst e; exact hc1 rfl))
  ·
    try (simp only [Classical.not_not] at hc1)
    refine t_skip ?_
    refine i_then ?_
    refine t_seq ?_
    refine t_seq ?_
    refine t_region ?_
    refine mvS rfl ?_
    refine r_len rfl rfl rfl ?_
    refine mvI rfl ?_
    refine r_nil ?_
    refine i_then ?_
    refine t_block ?_
    refine t_loop (fun (k : {k : Nat // a.take k = b.take k}) => live [(0, Ty.sl TrnE a), (1, Ty.sl TrnE b), (12, Ty.int .i64 a.length), (13, Ty.int .i64 (k.1 : Nat))] []) (fun k => a.length - k.1) (⟨0, by simp⟩) ?_ fun k => ?_
    · (refine Ent.mk' ?_ ?_ <;> (repeat' (first | exact allSub_zero | exact allTags_nil | refine allSub_succ' ?_ (Ty.sub_any _) | refine allSub_succ' ?_ (Ty.sub_refl _))))
    ·
      have hlen : a.length = b.length := by omega
      refine t_seq ?_
      refine t_region ?_
      refine r_bin rfl rfl rfl ?_
      refine r_nil ?_
      refine i_then ?_
      refine t_seq ?_
      refine t_cond_dec rfl (fun hc2 => ?_) (fun hc2 => ?_)
      ·
        try (simp only [Classical.not_not] at hc2)
        refine t_skip ?_
        refine i_then ?_
        refine t_seq ?_
        refine t_block ?_
        refine t_seq ?_
        refine t_region ?_
        refine mvI rfl ?_
        refine asI rfl ?_
        refine r_nil ?_
        refine i_then ?_
        refine t_seq ?_
        refine t_draw mixed rfl ?_
        refine mvS rfl ?_
        refine mvI rfl ?_
        refine r_index_slN rfl rfl rfl rfl rfl rfl (by omega) ?_
        refine r_load_ppN rfl rfl rfl (by exact Nat.le_of_ble_eq_true rfl) ?_
        refine mvS rfl ?_
        refine mvI rfl ?_
        refine r_index_slN rfl rfl rfl rfl rfl rfl (by omega) ?_
        refine r_load_ppN rfl rfl rfl (by exact Nat.le_of_ble_eq_true rfl) ?_
        refine r_neq_A (eqt99 _ _ _ _ _ _) rfl rfl ?_
        refine r_nil ?_
        refine ⟨by kernel_rfl, ?_⟩
        refine i_then ?_
        refine t_cond rfl (fun hc3 => ?_) (fun hc3 => ?_)
        ·
          try (simp only [Classical.not_not] at hc3)
          refine t_seq ?_
          refine t_region ?_
          refine asB rfl ?_
          refine r_nil ?_
          refine i_then ?_
          refine t_ret ?_
          refine i_block_ret ?_
          refine i_then_ret ?_
          refine i_then_ret ?_
          refine i_block_ret ?_
          refine i_then_ret ?_
          refine i_rp1 rfl rfl ?_
          all_goals skip
          exact ret_eq rfl rfl (congrArg Ty.bool (by rw [eq_comm, decide_eq_false_iff_not]; exact ne_of_nth (k := k.1) (of_decide_eq_false (by rw [← trn_eq]; exact not_b hc3))))
        ·
          try (simp only [Classical.not_not] at hc3)
          refine t_skip ?_
          refine i_block ?_
          refine i_then ?_
          refine t_region ?_
          refine r_add rfl rfl (by omega) (by omega) ?_
          refine mvI rfl ?_
          refine r_nil ?_
          refine i_round (⟨k.1 + 1, by have e : nth a k.1 = nth b k.1 := of_decide_eq_true (by rw [← trn_eq]; exact not_not_b hc3); rw [take_nth (by omega), take_nth (by omega), k.2, e]⟩) ?_ (by show a.length - (k.1 + 1) < a.length - k.1; omega)
          (refine Ent.mk' ?_ ?_ <;> (repeat' (first | exact allSub_zero | exact allTags_nil | refine allSub_succ' ?_ (Ty.sub_any _) | refine allSub_succ' ?_ (Ty.sub_refl _))))
          all_goals skip
      ·
        try (simp only [Classical.not_not] at hc2)
        refine t_exit ?_
        refine i_then_exit ?_
        refine i_then_exit ?_
        refine i_block_exit rfl ?_
        refine i_then ?_
        refine t_seq ?_
        refine t_region ?_
        refine asB rfl ?_
        refine r_nil ?_
        refine i_then ?_
        refine t_ret ?_
        refine i_rp1 rfl rfl ?_
        all_goals skip
        exact ret_eq rfl rfl (congrArg Ty.bool (by rw [eq_comm, decide_eq_true_eq]; have := k.2; rwa [List.take_of_length_le (by omega), List.take_of_length_le (by omega)] at this))
set_option maxRecDepth 100000 in
theorem c_Eq_trn (a b : List Trn) : Ctr Try.prog 91 [Ty.sl TrnE a, Ty.sl TrnE b] (Ty.bool (decide (a = b))) := by
  refine fn_intro Try.func91 rfl (by decide) Try.ntmps91 (by exact Nat.le_of_ble_eq_true rfl) fun w0 M0 => ?_
  refine t_seq ?_
  refine t_region ?_
  refine asB rfl ?_
  refine r_nil ?_
  refine i_then ?_
  refine t_seq ?_
  refine t_region ?_
  refine mvS rfl ?_
  refine mvS rfl ?_
  refine r_call (c_Equal_trn _ _) rfl rfl rfl rfl rfl ?_
  refine asB rfl ?_
  refine r_nil ?_
  refine i_then ?_
  refine t_ret ?_
  refine i_rp1 rfl rfl ?_
  all_goals exact ret_refl rfl rfl
set_option maxRecDepth 100000 in
theorem c_Dup_rul (l : List Rul) (h : l.length ≤ 1000) : Ctr Try.prog 78 [Ty.sl RulE l] (Ty.sl RulE l) := by
  refine fn_intro Try.func78 rfl (by decide) Try.ntmps78 (by exact Nat.le_of_ble_eq_true rfl) fun w0 M0 => ?_
  refine t_seq ?_
  refine t_region ?_
  refine asX rfl ?_
  refine r_nil ?_
  refine i_then ?_
  refine t_seq ?_
  refine t_region ?_
  refine mvS rfl ?_
  refine r_len rfl rfl rfl ?_
  refine r_make0 (E := RulE) rfl rfl rfl rfl rfl rfl rfl (by decide) rfl (by omega) (by (dsimp only; omega)) (by omega) ?_
  refine mvS rfl ?_
  refine r_append rfl rfl (by decide) rfl rfl rfl rfl rfl rfl (by decide) (by (simp <;> omega)) (by (simp <;> omega)) ?_
  refine asR rfl ?_
  refine r_nil ?_
  refine i_then ?_
  refine t_ret ?_
  refine i_rp1 rfl rfl ?_
  all_goals exact ret_row (by decide)
set_option maxRecDepth 100000 in
theorem c_Equal_rul (a b : List Rul) : Ctr Try.prog 125 [Ty.sl RulE a, Ty.sl RulE b] (Ty.bool (decide (a = b))) := by
  refine fn_intro Try.func125 rfl (by decide) Try.ntmps125 (by exact Nat.le_of_ble_eq_true rfl) fun w0 M0 => ?_
  refine t_fact (s := 0) rfl rfl sl_len fun ha => ?_
  refine t_fact (s := 1) rfl rfl sl_len fun hb => ?_
  refine t_seq ?_
  refine t_region ?_
  refine asB rfl ?_
  refine r_nil ?_
  refine i_then ?_
  refine t_seq ?_
  refine t_seq ?_
  refine t_region ?_
  refine mvS rfl ?_
  refine r_len rfl rfl rfl ?_
  refine mvS rfl ?_
  refine r_len rfl rfl rfl ?_
  refine r_bin rfl rfl rfl ?_
  refine r_nil ?_
  refine i_then ?_
  refine t_cond_ndec rfl (fun hc1 => ?_) (fun hc1 => ?_)
  ·
    try (simp only [Classical.not_not] at hc1)
    refine t_seq ?_
    refine t_region ?_
    refine asB rfl ?_
    refine r_nil ?_
    refine i_then ?_
    refine t_ret ?_
    refine i_then_ret ?_
    refine i_rp1 rfl rfl ?_
    all_goals skip
    exact ret_eq rfl rfl (congrArg Ty.bool (by rw [eq_comm, decide_eq_false_iff_not]; intro e; subst e; exact hc1 rfl))
  ·
    try (simp only [Classical.not_not] at hc1)
    refine t_skip ?_
    refine i_then ?_
    refine t_seq ?_
    refine t_seq ?_
    refine t_region ?_
    refine mvS rfl ?_
    refine r_len rfl rfl rfl ?_
    refine mvI rfl ?_
    refine r_nil ?_
    refine i_then ?_
    refine t_block ?_
    refine t_loop (fun (k : {k : Nat // a.take k = b.take k}) => live [(0, Ty.sl RulE a), (1, Ty.sl RulE b), (12, Ty.int .i64 a.length), (13, Ty.int .i64 (k.1 : Nat))] []) (fun k => a.length - k.1) (⟨0, by simp⟩) ?_ fun k => ?_
    · (refine Ent.mk' ?_ ?_ <;> (repeat' (first | exact allSub_zero | exact allTags_nil | refine allSub_succ' ?_ (Ty.sub_any _) | refine allSub_succ' ?_ (Ty.sub_refl _))))
    ·
      have hlen : a.length = b.length := by omega
      refine t_seq ?_
      refine t_region ?_
      refine r_bin rfl rfl rfl ?_
      refine r_nil ?_
      refine i_then ?_
      refine t_seq ?_
      refine t_cond_dec rfl (fun hc2 => ?_) (fun hc2 => ?_)
      ·
        try (simp only [Classical.not_not] at hc2)
        refine t_skip ?_
        refine i_then ?_
        refine t_seq ?_
        refine t_block ?_
        refine t_seq ?_
        refine t_region ?_
        refine mvI rfl ?_
        refine asI rfl ?_
        refine r_nil ?_
        refine i_then ?_
        refine t_seq ?_
        refine t_draw mixed rfl ?_
        refine mvS rfl ?_
        refine mvI rfl ?_
        refine r_index_slN rfl rfl rfl rfl rfl rfl (by omega) ?_
        refine r_load_ppN rfl rfl rfl (by exact Nat.le_of_ble_eq_true rfl) ?_
        refine mvS rfl ?_
        refine mvI rfl ?_
        refine r_index_slN rfl rfl rfl rfl rfl rfl (by omega) ?_
        refine r_load_ppN rfl rfl rfl (by exact Nat.le_of_ble_eq_true rfl) ?_
        refine r_neq_A (eqt69 _ _ _ _) rfl rfl ?_
        refine r_nil ?_
        refine ⟨by kernel_rfl, ?_⟩
        refine i_then ?_
        refine t_cond rfl (fun hc3 => ?_) (fun hc3 => ?_)
        ·
          try (simp only [Classical.not_not] at hc3)
          refine t_seq ?_
          refine t_region ?_
          refine asB rfl ?_
          refine r_nil ?_
          refine i_then ?_
          refine t_ret ?_
          refine i_block_ret ?_
          refine i_then_ret ?_
          refine i_then_ret ?_
          refine i_block_ret ?_
          refine i_then_ret ?_
          refine i_rp1 rfl rfl ?_
          all_goals skip
          exact ret_eq rfl rfl (congrArg Ty.bool (by rw [eq_comm, decide_eq_false_iff_not]; exact ne_of_nth (k := k.1) (of_decide_eq_false (by rw [← rul_eq]; exact not_b hc3))))
        ·
          try (simp only [Classical.not_not] at hc3)
          refine t_skip ?_
          refine i_block ?_
          refine i_then ?_
          refine t_region ?_
          refine r_add rfl rfl (by omega) (by omega) ?_
          refine mvI rfl ?_
          refine r_nil ?_
          refine i_round (⟨k.1 + 1, by have e : nth a k.1 = nth b k.1 := of_decide_eq_true (by rw [← rul_eq]; exact not_not_b hc3); rw [take_nth (by omega), take_nth (by omega), k.2, e]⟩) ?_ (by show a.length - (k.1 + 1) < a.length - k.1; omega)
          (refine Ent.mk' ?_ ?_ <;> (repeat' (first | exact allSub_zero | exact allTags_nil | refine allSub_succ' ?_ (Ty.sub_any _) | refine allSub_succ' ?_ (Ty.sub_refl _))))
          all_goals skip
      ·
        try (simp only [Classical.not_not] at hc2)
        refine t_exit ?_
        refine i_then_exit ?_
        refine i_then_exit ?_
        refine i_block_exit rfl ?_
        refine i_then ?_
        refine t_seq ?_
        refine t_region ?_
        refine asB rfl ?_
        refine r_nil ?_
        refine i_then ?_
        refine t_ret ?_
        refine i_rp1 rfl rfl ?_
        all_goals skip
        exact ret_eq rfl rfl (congrArg Ty.bool (by rw [eq_comm, decide_eq_true_eq]; have := k.2; rwa [List.take_of_length_le (by omega), List.take_of_length_le (by omega)] at this))
set_option maxRecDepth 100000 in
theorem c_Eq_rul (a b : List Rul) : Ctr Try.prog 92 [Ty.sl RulE a, Ty.sl RulE b] (Ty.bool (decide (a = b))) := by
  refine fn_intro Try.func92 rfl (by decide) Try.ntmps92 (by exact Nat.le_of_ble_eq_true rfl) fun w0 M0 => ?_
  refine t_seq ?_
  refine t_region ?_
  refine asB rfl ?_
  refine r_nil ?_
  refine i_then ?_
  refine t_seq ?_
  refine t_region ?_
  refine mvS rfl ?_
  refine mvS rfl ?_
  refine r_call (c_Equal_rul _ _) rfl rfl rfl rfl rfl ?_
  refine asB rfl ?_
  refine r_nil ?_
  refine i_then ?_
  refine t_ret ?_
  refine i_rp1 rfl rfl ?_
  all_goals exact ret_refl rfl rfl
end Go.Proofs.Ytifgbnbkimcchaa

namespace Go.Proofs.Ytifgbnbkimcchaa
open Go Go.T
attribute [local irreducible] dInt dBool dSl dPp dPtr dAgg dTup dClo dAny dEx dStr dGd dCells dVec dVs dRow dOp nth Tri Into TOps Ctr bodyPost Exit.then Exit.inBlock Code.wp Code.wpIn
theorem bin_eq (a b : Bin) : (decide (a.has = b.has) && decide (a.shares = b.shares)) = decide (a = b) := by
  cases a; cases b; simp [Bool.decide_and]
theorem flr_eq (a b : Flr) : (((decide (a.bears = b.bears) && decide (a.turnings = b.turnings)) && decide (a.rules = b.rules)) && decide (a.bins = b.bins)) = decide (a = b) := by
  cases a; cases b; simp only [Flr.mk.injEq, ← Bool.decide_and, decide_eq_decide]; exact ⟨fun h => ⟨h.1.1.1, h.2, h.1.1.2, h.1.2⟩, fun h => ⟨⟨⟨h.1, h.2.2.1⟩, h.2.2.2⟩, h.2.1⟩⟩
def Flr.great (f : Flr) : Bool := decide ((f.bears.length : Int) > 8) || decide ((f.bins.length : Int) > 9) || decide ((f.turnings.length : Int) > 11) || decide ((f.rules.length : Int) > 20) || f.bins.any fun b => decide ((b.shares.length : Int) > 8)
def two (r : List Rul) : Flr := ⟨[400, 300], [⟨60, [4, 0]⟩, ⟨30, [2, 2]⟩, ⟨0, [0, 4]⟩], [⟨0, 1, 40⟩, ⟨1, 2, 30⟩, ⟨-1, 0, 40⟩], r⟩
set_option maxRecDepth 100000 in
theorem c_EqualFunc_bin (a b : List Bin) (f : Nat) (hf : ∀ x y, Ctr Try.prog f [Ty.agg (BinE.tys x), Ty.agg (BinE.tys y)] (Ty.bool (decide (x = y)))) : Ctr Try.prog 93 [Ty.sl BinE a, Ty.sl BinE b, Ty.clo f []] (Ty.bool (decide (a = b))) := by
  refine fn_intro Try.func93 rfl (by decide) Try.ntmps93 (by exact Nat.le_of_ble_eq_true rfl) fun w0 M0 => ?_
  refine t_fact (s := 0) rfl rfl sl_len fun ha => ?_
  refine t_fact (s := 1) rfl rfl sl_len fun hb => ?_
  refine t_seq ?_
  refine t_region ?_
  refine asB rfl ?_
  refine r_nil ?_
  refine i_then ?_
  refine t_seq ?_
  refine t_seq ?_
  refine t_region ?_
  refine mvS rfl ?_
  refine r_len rfl rfl rfl ?_
  refine mvS rfl ?_
  refine r_len rfl rfl rfl ?_
  refine r_bin rfl rfl rfl ?_
  refine r_nil ?_
  refine i_then ?_
  refine t_cond_ndec rfl (fun hc1 => ?_) (fun hc1 => ?_)
  ·
    try (simp only [Classical.not_not] at hc1)
    refine t_seq ?_
    refine t_region ?_
    refine asB rfl ?_
    refine r_nil ?_
    refine i_then ?_
    refine t_ret ?_
    refine i_then_ret ?_
    refine i_rp1 rfl rfl ?_
    all_goals skip
    exact ret_eq rfl rfl (congrArg Ty.bool (by rw [eq_comm, decide_eq_false_iff_not]; intro e; subst e; exact hc1 rfl))
  ·
    try (simp only [Classical.not_not] at hc1)
    refine t_skip ?_
    refine i_then ?_
    refine t_seq ?_
    refine t_seq ?_
    refine t_region ?_
    refine mvS rfl ?_
    refine r_len rfl rfl rfl ?_
    refine mvI rfl ?_
    refine r_nil ?_
    refine i_then ?_
    refine t_block ?_
    refine t_loop (fun (k : {k : Nat // a.take k = b.take k}) => live [(0, Ty.sl BinE a), (1, Ty.sl BinE b), (2, Ty.clo f []), (15, Ty.sl BinE a), (16, Ty.int .i64 a.length), (17, Ty.int .i64 (k.1 : Nat))] []) (fun k => a.length - k.1) (⟨0, by simp⟩) ?_ fun k => ?_
    · (refine Ent.mk' ?_ ?_ <;> (repeat' (first | exact allSub_zero | exact allTags_nil | refine allSub_succ' ?_ (Ty.sub_any _) | refine allSub_succ' ?_ (Ty.sub_refl _))))
    ·
      have hlen : a.length = b.length := by omega
      refine t_seq ?_
      refine t_region ?_
      refine r_bin rfl rfl rfl ?_
      refine r_nil ?_
      refine i_then ?_
      refine t_seq ?_
      refine t_cond_dec rfl (fun hc2 => ?_) (fun hc2 => ?_)
      ·
        try (simp only [Classical.not_not] at hc2)
        refine t_skip ?_
        refine i_then ?_
        refine t_seq ?_
        refine t_block ?_
        refine t_seq ?_
        refine t_region ?_
        refine mvI rfl ?_
        refine r_index_slN rfl rfl rfl rfl rfl rfl (by omega) ?_
        refine r_load_ppN rfl rfl rfl (by exact Nat.le_of_ble_eq_true rfl) ?_
        refine r_alloc rfl (by exact List.cons_ne_nil _ _) rfl ?_
        refine asI rfl ?_
        refine r_storeN rfl rfl (by decide) rfl rfl rfl rfl rfl rfl ?_
        refine r_nil ?_
        refine i_then ?_
        refine t_seq ?_
        refine t_region ?_
        refine mvS rfl ?_
        refine mvI rfl ?_
        refine r_index_slN rfl rfl rfl rfl rfl rfl (by omega) ?_
        refine r_load_ppN rfl rfl rfl (by exact Nat.le_of_ble_eq_true rfl) ?_
        refine r_alloc rfl (by exact List.cons_ne_nil _ _) rfl ?_
        refine r_storeN rfl rfl (by decide) rfl rfl rfl rfl rfl rfl ?_
        refine r_nil ?_
        refine i_then ?_
        refine t_seq ?_
        refine t_region ?_
        refine mvF rfl ?_
        refine r_load_ptrN rfl rfl (by decide) rfl rfl (by exact Nat.le_of_ble_eq_true rfl) ?_
        refine r_load_ptrN rfl rfl (by decide) rfl rfl (by exact Nat.le_of_ble_eq_true rfl) ?_
        refine r_callv rfl (hf _ _) rfl rfl rfl rfl rfl ?_
        refine r_not rfl ?_
        refine r_nil ?_
        refine i_then ?_
        refine t_cond_ndec rfl (fun hc3 => ?_) (fun hc3 => ?_)
        ·
          try (simp only [Classical.not_not] at hc3)
          refine t_seq ?_
          refine t_region ?_
          refine asB rfl ?_
          refine r_nil ?_
          refine i_then ?_
          refine t_ret ?_
          refine i_block_ret ?_
          refine i_then_ret ?_
          refine i_then_ret ?_
          refine i_block_ret ?_
          refine i_then_ret ?_
          refine i_rp1 rfl rfl ?_
          all_goals skip
          exact ret_eq rfl rfl (congrArg Ty.bool (by rw [eq_comm, decide_eq_false_iff_not]; exact ne_of_nth (k := k.1) hc3))
        ·
          try (simp only [Classical.not_not] at hc3)
          refine t_skip ?_
          refine i_block ?_
          refine i_then ?_
          refine t_region ?_
          refine r_add rfl rfl (by omega) (by omega) ?_
          refine mvI rfl ?_
          refine r_nil ?_
          refine i_round (⟨k.1 + 1, by have e : nth a k.1 = nth b k.1 := hc3; rw [take_nth (by omega), take_nth (by omega), k.2, e]⟩) ?_ (by show a.length - (k.1 + 1) < a.length - k.1; omega)
          (refine Ent.mk' ?_ ?_ <;> (repeat' (first | exact allSub_zero | exact allTags_nil | refine allSub_succ' ?_ (Ty.sub_any _) | refine allSub_succ' ?_ (Ty.sub_refl _))))
          all_goals skip
      ·
        try (simp only [Classical.not_not] at hc2)
        refine t_exit ?_
        refine i_then_exit ?_
        refine i_then_exit ?_
        refine i_block_exit rfl ?_
        refine i_then ?_
        refine t_seq ?_
        refine t_region ?_
        refine asB rfl ?_
        refine r_nil ?_
        refine i_then ?_
        refine t_ret ?_
        refine i_rp1 rfl rfl ?_
        all_goals skip
        exact ret_eq rfl rfl (congrArg Ty.bool (by rw [eq_comm, decide_eq_true_eq]; have := k.2; rwa [List.take_of_length_le (by omega), List.take_of_length_le (by omega)] at this))
set_option maxRecDepth 100000 in
theorem c_same1 (a b : Bin) : Ctr Try.prog 94 [Ty.agg (BinE.tys a), Ty.agg (BinE.tys b)] (Ty.bool (decide (a = b))) := by
  refine fn_intro Try.func94 rfl (by decide) Try.ntmps94 (by exact Nat.le_of_ble_eq_true rfl) fun w0 M0 => ?_
  refine t_seq ?_
  refine t_region ?_
  refine r_box_agg rfl ?_
  refine r_box_agg rfl ?_
  refine asB rfl ?_
  refine r_nil ?_
  refine i_then ?_
  refine t_seq ?_
  refine t_region ?_
  refine r_field_pp rfl rfl rfl rfl rfl (by decide) ?_
  refine r_load_pp rfl rfl rfl rfl ?_
  refine r_field_pp rfl rfl rfl rfl rfl (by decide) ?_
  refine r_load_pp rfl rfl rfl rfl ?_
  refine r_bin rfl rfl rfl ?_
  refine mvB rfl ?_
  apply r_guard (s := 10) rfl rfl rfl
  · intro hg; apply opT_of; (refine r_field_pp rfl rfl rfl rfl rfl (by decide) ?_); refine r_nil ?_; exact rfl
  · exact rfl
  · exact rfl
  apply r_guard (s := 10) rfl rfl rfl
  · intro hg; apply opT_strip (s := 11) rfl (by (rw [hg]; rfl)); apply opT_of; (refine r_load_pp rfl rfl rfl rfl ?_); refine r_nil ?_; exact rfl
  · exact rfl
  · exact rfl
  apply r_guard (s := 10) rfl rfl rfl
  · intro hg; apply opT_of; (refine r_field_pp rfl rfl rfl rfl rfl (by decide) ?_); refine r_nil ?_; exact rfl
  · exact rfl
  · exact rfl
  apply r_guard (s := 10) rfl rfl rfl
  · intro hg; apply opT_strip (s := 13) rfl (by (rw [hg]; rfl)); apply opT_of; (refine r_load_pp rfl rfl rfl rfl ?_); refine r_nil ?_; exact rfl
  · exact rfl
  · exact rfl
  apply r_guard (s := 10) rfl rfl rfl
  · intro hg; apply opT_strip (s := 12) rfl (by (rw [hg]; rfl)); apply opT_strip (s := 14) rfl (by (rw [hg]; rfl)); apply opT_of; (refine r_call (c_Eq_int _ _) rfl rfl rfl rfl rfl ?_); refine r_nil ?_; exact rfl
  · exact rfl
  · exact rfl
  refine r_and rfl rfl ?_
  refine asB rfl ?_
  refine r_nil ?_
  refine i_then ?_
  refine t_ret ?_
  refine i_rp1 rfl rfl ?_
  all_goals skip
  exact ret_eq rfl rfl (congrArg Ty.bool (bin_eq a b))
set_option maxRecDepth 100000 in
theorem c_same (a b : Flr) : Ctr Try.prog 24 [flrT a, flrT b] (Ty.bool (decide (a = b))) := by
  refine fn_intro Try.func24 rfl (by decide) Try.ntmps24 (by exact Nat.le_of_ble_eq_true rfl) fun w0 M0 => ?_
  refine t_seq ?_
  refine t_region ?_
  refine r_box_agg rfl ?_
  refine r_box_agg rfl ?_
  refine asB rfl ?_
  refine r_nil ?_
  refine i_then ?_
  refine t_seq ?_
  refine t_region ?_
  refine r_field_pp rfl rfl rfl rfl rfl (by decide) ?_
  refine r_load_pp rfl rfl rfl rfl ?_
  refine r_field_pp rfl rfl rfl rfl rfl (by decide) ?_
  refine r_load_pp rfl rfl rfl rfl ?_
  refine r_call (c_Eq_int _ _) rfl rfl rfl rfl rfl ?_
  refine mvB rfl ?_
  apply r_guard (s := 10) rfl rfl rfl
  · intro hg; apply opT_of; (refine r_field_pp rfl rfl rfl rfl rfl (by decide) ?_); refine r_nil ?_; exact rfl
  · exact rfl
  · exact rfl
  apply r_guard (s := 10) rfl rfl rfl
  · intro hg; apply opT_strip (s := 11) rfl (by (rw [hg]; rfl)); apply opT_of; (refine r_load_pp rfl rfl rfl rfl ?_); refine r_nil ?_; exact rfl
  · exact rfl
  · exact rfl
  apply r_guard (s := 10) rfl rfl rfl
  · intro hg; apply opT_of; (refine r_field_pp rfl rfl rfl rfl rfl (by decide) ?_); refine r_nil ?_; exact rfl
  · exact rfl
  · exact rfl
  apply r_guard (s := 10) rfl rfl rfl
  · intro hg; apply opT_strip (s := 13) rfl (by (rw [hg]; rfl)); apply opT_of; (refine r_load_pp rfl rfl rfl rfl ?_); refine r_nil ?_; exact rfl
  · exact rfl
  · exact rfl
  apply r_guard (s := 10) rfl rfl rfl
  · intro hg; apply opT_strip (s := 12) rfl (by (rw [hg]; rfl)); apply opT_strip (s := 14) rfl (by (rw [hg]; rfl)); apply opT_of; (refine r_call (c_Eq_trn _ _) rfl rfl rfl rfl rfl ?_); refine r_nil ?_; exact rfl
  · exact rfl
  · exact rfl
  refine r_and rfl rfl ?_
  refine mvB rfl ?_
  apply r_guard (s := 17) rfl rfl rfl
  · intro hg; apply opT_of; (refine r_field_pp rfl rfl rfl rfl rfl (by decide) ?_); refine r_nil ?_; exact rfl
  · exact rfl
  · exact rfl
  apply r_guard (s := 17) rfl rfl rfl
  · intro hg; apply opT_strip (s := 18) rfl (by (rw [hg]; rfl)); apply opT_of; (refine r_load_pp rfl rfl rfl rfl ?_); refine r_nil ?_; exact rfl
  · exact rfl
  · exact rfl
  apply r_guard (s := 17) rfl rfl rfl
  · intro hg; apply opT_of; (refine r_field_pp rfl rfl rfl rfl rfl (by decide) ?_); refine r_nil ?_; exact rfl
  · exact rfl
  · exact rfl
  apply r_guard (s := 17) rfl rfl rfl
  · intro hg; apply opT_strip (s := 20) rfl (by (rw [hg]; rfl)); apply opT_of; (refine r_load_pp rfl rfl rfl rfl ?_); refine r_nil ?_; exact rfl
  · exact rfl
  · exact rfl
  apply r_guard (s := 17) rfl rfl rfl
  · intro hg; apply opT_strip (s := 19) rfl (by (rw [hg]; rfl)); apply opT_strip (s := 21) rfl (by (rw [hg]; rfl)); apply opT_of; (refine r_call (c_Eq_rul _ _) rfl rfl rfl rfl rfl ?_); refine r_nil ?_; exact rfl
  · exact rfl
  · exact rfl
  refine r_and rfl rfl ?_
  refine mvB rfl ?_
  apply r_guard (s := 24) rfl rfl rfl
  · intro hg; apply opT_of; (refine r_field_pp rfl rfl rfl rfl rfl (by decide) ?_); refine r_nil ?_; exact rfl
  · exact rfl
  · exact rfl
  apply r_guard (s := 24) rfl rfl rfl
  · intro hg; apply opT_strip (s := 25) rfl (by (rw [hg]; rfl)); apply opT_of; (refine r_load_pp rfl rfl rfl rfl ?_); refine r_nil ?_; exact rfl
  · exact rfl
  · exact rfl
  apply r_guard (s := 24) rfl rfl rfl
  · intro hg; apply opT_of; (refine r_field_pp rfl rfl rfl rfl rfl (by decide) ?_); refine r_nil ?_; exact rfl
  · exact rfl
  · exact rfl
  apply r_guard (s := 24) rfl rfl rfl
  · intro hg; apply opT_strip (s := 27) rfl (by (rw [hg]; rfl)); apply opT_of; (refine r_load_pp rfl rfl rfl rfl ?_); refine r_nil ?_; exact rfl
  · exact rfl
  · exact rfl
  apply r_guard (s := 24) rfl rfl rfl
  · intro hg; apply opT_strip (s := 26) rfl (by (rw [hg]; rfl)); apply opT_strip (s := 28) rfl (by (rw [hg]; rfl)); apply opT_of; (refine r_call (c_EqualFunc_bin _ _ _ c_same1) rfl rfl rfl rfl rfl ?_); refine r_nil ?_; exact rfl
  · exact rfl
  · exact rfl
  refine r_and rfl rfl ?_
  refine asB rfl ?_
  refine r_nil ?_
  refine i_then ?_
  refine t_ret ?_
  refine i_rp1 rfl rfl ?_
  all_goals skip
  exact ret_eq rfl rfl (congrArg Ty.bool (flr_eq a b))
set_option maxRecDepth 100000 in
theorem c_Own (f : Flr) (hs : f.Small) : Ctr Try.prog 15 [flrT f] (flrT f) := by
  refine fn_intro Try.func15 rfl (by decide) Try.ntmps15 (by exact Nat.le_of_ble_eq_true rfl) fun w0 M0 => ?_
  have hs1 := hs.bears; have hs2 := hs.bins; have hs3 := hs.turnings; have hs4 := hs.rules
  refine t_seq ?_
  refine t_region ?_
  refine r_box_agg rfl ?_
  refine r_alloc rfl (by exact List.cons_ne_nil _ _) rfl ?_
  refine r_nil ?_
  refine i_then ?_
  refine t_seq ?_
  refine t_draw mixed rfl ?_
  refine r_field_pp rfl rfl rfl rfl rfl (by decide) ?_
  refine r_load_pp rfl rfl rfl rfl ?_
  refine r_call (c_Dup_int f.bears (by have := hs.bears; omega)) rfl rfl rfl rfl rfl ?_
  refine r_field_pp rfl rfl rfl rfl rfl (by decide) ?_
  refine r_load_pp rfl rfl rfl rfl ?_
  refine r_call (c_Dup_trn f.turnings (by have := hs.turnings; omega)) rfl rfl rfl rfl rfl ?_
  refine r_field_pp rfl rfl rfl rfl rfl (by decide) ?_
  refine r_load_pp rfl rfl rfl rfl ?_
  refine r_call (c_Dup_rul f.rules (by have := hs.rules; omega)) rfl rfl rfl rfl rfl ?_
  refine r_build rfl rfl (by exact List.cons_ne_nil _ _) rfl (by repeat (first | exact (Parts.nil : Parts _ _ [] _) | (show Parts _ _ ((_, _) :: _) _; apply Parts.one; (· exact (rfl : _ = Ty.sl _ _)); (· exact rfl)))) (by exact (rfl : _ = some [_, _, _, _])) ?_
  refine r_alloc rfl (by exact List.cons_ne_nil _ _) rfl ?_
  refine r_storeN rfl rfl (by decide) rfl rfl rfl rfl rfl rfl ?_
  refine r_nil ?_
  refine ⟨by kernel_rfl, ?_⟩
  refine i_then ?_
  refine t_seq ?_
  refine t_seq ?_
  refine t_region ?_
  refine r_field_pp rfl rfl rfl rfl rfl (by decide) ?_
  refine r_load_pp rfl rfl rfl rfl ?_
  refine r_len rfl rfl rfl ?_
  refine mvI rfl ?_
  refine r_nil ?_
  refine i_then ?_
  refine t_block ?_
  refine t_loop (fun (k : Nat) => live [(2, Ty.ptr 3 0), (3, Ty.ptr 4 0), (17, Ty.sl BinE f.bins), (18, Ty.int .i64 f.bins.length), (19, Ty.int .i64 (k : Nat))] [(3, Cont.cells 27 [Ty.ex (.slice none 0 0), Ty.ex (.slice none 0 0), Ty.ex (.slice none 0 0), Ty.ex (.slice none 0 0)]), (4, Cont.cells 27 [Ty.sl I64 f.bears, Ty.row BinE 79 33 (f.bins.take k), Ty.sl TrnE f.turnings, Ty.sl RulE f.rules])]) (fun k => f.bins.length - k) (0) ?_ fun k => ?_
  · (refine Ent.mk' ?_ ?_ <;> (repeat' (first | exact allSub_zero | exact allTags_nil | exact subs_nil | refine allSub_succ' ?_ (Ty.sub_any _) | refine allSub_succ' ?_ (Ty.sub_refl _) | refine allTags_cons rfl (Cont.sub_refl _) ?_ | refine allTags_cons rfl (Cont.sub_subs ?_) ?_ | refine subs_cons ?_ (Ty.sub_refl _) | refine subs_cons ?_ Ty.nil_row)))
  ·
    have hb := hs.bins
    refine t_seq ?_
    refine t_region ?_
    refine r_bin rfl rfl rfl ?_
    refine r_nil ?_
    refine i_then ?_
    refine t_seq ?_
    refine t_cond_dec rfl (fun hc1 => ?_) (fun hc1 => ?_)
    ·
      refine t_skip ?_
      refine i_then ?_
      refine t_seq ?_
      refine t_block ?_
      refine t_seq ?_
      refine t_region ?_
      refine r_index_slN rfl rfl rfl rfl rfl rfl (by omega) ?_
      refine r_load_ppN rfl rfl rfl (by exact Nat.le_of_ble_eq_true rfl) ?_
      refine r_alloc rfl (by exact List.cons_ne_nil _ _) rfl ?_
      refine r_storeN rfl rfl (by decide) rfl rfl rfl rfl rfl rfl ?_
      refine r_nil ?_
      refine i_then ?_
      refine t_draw mixed rfl ?_
      refine r_field_ptr rfl rfl rfl rfl rfl (by decide) ?_
      refine r_load_ptr rfl rfl (by decide) rfl rfl rfl ?_
      refine r_field_ptr rfl rfl rfl rfl rfl (by decide) ?_
      refine r_load_ptr rfl rfl (by decide) rfl rfl rfl ?_
      refine r_field_ptr rfl rfl rfl rfl rfl (by decide) ?_
      refine r_load_ptr rfl rfl (by decide) rfl rfl rfl ?_
      refine r_call (c_Dup_int (nth f.bins k).shares (by have := hs.shares _ (nth_mem (xs := f.bins) (k := k) (by omega)); omega)) rfl rfl rfl rfl rfl ?_
      refine r_build rfl rfl (by exact List.cons_ne_nil _ _) rfl (by repeat (first | exact (Parts.nil : Parts _ _ [] _) | (show Parts _ _ ((_, _) :: _) _; apply Parts.one; (· first | exact (rfl : _ = Ty.int _ _) | exact (rfl : _ = Ty.sl _ _)); (· exact rfl)))) (by exact (rfl : _ = some [_, _])) ?_
      refine r_buildSlice (E := BinE) (xs := [nth f.bins k]) rfl rfl rfl rfl rfl (by decide) (by decide) (by repeat (first | exact (Parts.nil : Parts _ _ [] _) | (show Parts _ _ ((_, _) :: _) _; apply Parts.agg; (· exact (rfl : _ = Ty.agg _))))) (by exact rfl) rfl ?_
      refine r_append rfl rfl (by decide) rfl rfl rfl rfl rfl rfl (by decide) (by (simp <;> omega)) (by (simp <;> omega)) ?_
      refine r_field_ptr rfl rfl rfl rfl rfl (by decide) ?_
      refine r_store1 rfl rfl (by decide) rfl rfl (by exact (rfl : _ = Ty.row _ _ _ _)) rfl (by exact Nat.le_of_ble_eq_true rfl) rfl rfl (by exact rfl) ?_
      refine r_nil ?_
      refine ⟨by kernel_rfl, ?_⟩
      refine i_block ?_
      refine i_then ?_
      refine t_region ?_
      refine r_add rfl rfl (by omega) (by omega) ?_
      refine mvI rfl ?_
      refine r_nil ?_
      refine i_round (k + 1) ?_ (by omega)
      (refine Ent.mk' ?_ ?_ <;> (repeat' (first | exact allSub_zero | exact allTags_nil | exact subs_nil | refine allSub_succ' ?_ (Ty.sub_any _) | refine allSub_succ' ?_ (Ty.sub_refl _) | refine allTags_cons rfl (Cont.sub_refl _) ?_ | refine allTags_cons rfl (Cont.sub_subs ?_) ?_ | refine subs_cons ?_ (Ty.sub_refl _) | refine subs_cons ?_ ?_)))
      all_goals exact Ty.sub_row (take_nth (by omega)).symm
    ·
      refine t_exit ?_
      refine i_then_exit ?_
      refine i_then_exit ?_
      refine i_block_exit rfl ?_
      refine i_then ?_
      refine t_seq ?_
      refine t_region ?_
      refine r_load_ptrN rfl rfl (by decide) rfl rfl (by exact Nat.le_of_ble_eq_true rfl) ?_
      refine r_storeN rfl rfl (by decide) rfl rfl rfl rfl rfl rfl ?_
      refine r_nil ?_
      refine i_then ?_
      refine t_ret ?_
      refine i_rcell rfl rfl rfl rfl (by decide) rfl rfl rfl ?_
      exact ret_agg (ts := flrTys f) (rets_cons (ret_refl rfl rfl) (rets_cons (ret_row_eq (by decide) (List.take_of_length_le (by omega))) (rets_cons (ret_refl rfl rfl) (rets_cons (ret_refl rfl rfl) rets_nil))))
set_option maxRecDepth 100000 in
theorem c_great1 (b : Bin) : Ctr Try.prog 74 [Ty.agg (BinE.tys b)] (Ty.bool (decide ((b.shares.length : Int) > 8))) := by
  refine fn_intro Try.func74 rfl (by decide) Try.ntmps74 (by exact Nat.le_of_ble_eq_true rfl) fun w0 M0 => ?_
  refine t_seq ?_
  refine t_region ?_
  refine r_box_agg rfl ?_
  refine asB rfl ?_
  refine r_nil ?_
  refine i_then ?_
  refine t_seq ?_
  refine t_region ?_
  refine r_field_pp rfl rfl rfl rfl rfl (by decide) ?_
  refine r_load_pp rfl rfl rfl rfl ?_
  refine r_len rfl rfl rfl ?_
  refine r_bin rfl rfl rfl ?_
  refine asB rfl ?_
  refine r_nil ?_
  refine i_then ?_
  refine t_ret ?_
  refine i_rp1 rfl rfl ?_
  all_goals exact ret_refl rfl rfl
set_option maxRecDepth 100000 in
theorem c_great (f : Flr) : Ctr Try.prog 13 [flrT f] (Ty.bool f.great) := by
  refine fn_intro Try.func13 rfl (by decide) Try.ntmps13 (by exact Nat.le_of_ble_eq_true rfl) fun w0 M0 => ?_
  refine t_seq ?_
  refine t_region ?_
  refine r_box_agg rfl ?_
  refine asB rfl ?_
  refine r_nil ?_
  refine i_then ?_
  refine t_seq ?_
  refine t_region ?_
  refine r_field_pp rfl rfl rfl rfl rfl (by decide) ?_
  refine r_load_pp rfl rfl rfl rfl ?_
  refine r_len rfl rfl rfl ?_
  refine r_bin rfl rfl rfl ?_
  refine mvB rfl ?_
  apply r_guard (s := 7) rfl rfl rfl
  · intro hg; apply opT_of; (refine r_field_pp rfl rfl rfl rfl rfl (by decide) ?_); refine r_nil ?_; exact rfl
  · exact rfl
  · exact rfl
  apply r_guard (s := 7) rfl rfl rfl
  · intro hg; apply opT_strip (s := 8) rfl (by (rw [hg]; rfl)); apply opT_of; (refine r_load_pp rfl rfl rfl rfl ?_); refine r_nil ?_; exact rfl
  · exact rfl
  · exact rfl
  apply r_guard (s := 7) rfl rfl rfl
  · intro hg; apply opT_strip (s := 9) rfl (by (rw [hg]; rfl)); apply opT_of; (refine r_len rfl rfl rfl ?_); refine r_nil ?_; exact rfl
  · exact rfl
  · exact rfl
  apply r_guard (s := 7) rfl rfl rfl
  · intro hg; apply opT_strip (s := 10) rfl (by (rw [hg]; rfl)); apply opT_of; (refine r_bin rfl rfl rfl ?_); refine r_nil ?_; exact rfl
  · exact rfl
  · exact rfl
  refine r_or rfl rfl ?_
  refine mvB rfl ?_
  apply r_guard (s := 13) rfl rfl rfl
  · intro hg; apply opT_of; (refine r_field_pp rfl rfl rfl rfl rfl (by decide) ?_); refine r_nil ?_; exact rfl
  · exact rfl
  · exact rfl
  apply r_guard (s := 13) rfl rfl rfl
  · intro hg; apply opT_strip (s := 14) rfl (by (rw [hg]; rfl)); apply opT_of; (refine r_load_pp rfl rfl rfl rfl ?_); refine r_nil ?_; exact rfl
  · exact rfl
  · exact rfl
  apply r_guard (s := 13) rfl rfl rfl
  · intro hg; apply opT_strip (s := 15) rfl (by (rw [hg]; rfl)); apply opT_of; (refine r_len rfl rfl rfl ?_); refine r_nil ?_; exact rfl
  · exact rfl
  · exact rfl
  apply r_guard (s := 13) rfl rfl rfl
  · intro hg; apply opT_strip (s := 16) rfl (by (rw [hg]; rfl)); apply opT_of; (refine r_bin rfl rfl rfl ?_); refine r_nil ?_; exact rfl
  · exact rfl
  · exact rfl
  refine r_or rfl rfl ?_
  refine mvB rfl ?_
  apply r_guard (s := 19) rfl rfl rfl
  · intro hg; apply opT_of; (refine r_field_pp rfl rfl rfl rfl rfl (by decide) ?_); refine r_nil ?_; exact rfl
  · exact rfl
  · exact rfl
  apply r_guard (s := 19) rfl rfl rfl
  · intro hg; apply opT_strip (s := 20) rfl (by (rw [hg]; rfl)); apply opT_of; (refine r_load_pp rfl rfl rfl rfl ?_); refine r_nil ?_; exact rfl
  · exact rfl
  · exact rfl
  apply r_guard (s := 19) rfl rfl rfl
  · intro hg; apply opT_strip (s := 21) rfl (by (rw [hg]; rfl)); apply opT_of; (refine r_len rfl rfl rfl ?_); refine r_nil ?_; exact rfl
  · exact rfl
  · exact rfl
  apply r_guard (s := 19) rfl rfl rfl
  · intro hg; apply opT_strip (s := 22) rfl (by (rw [hg]; rfl)); apply opT_of; (refine r_bin rfl rfl rfl ?_); refine r_nil ?_; exact rfl
  · exact rfl
  · exact rfl
  refine r_or rfl rfl ?_
  refine mvB rfl ?_
  apply r_guard (s := 25) rfl rfl rfl
  · intro hg; apply opT_of; (refine r_field_pp rfl rfl rfl rfl rfl (by decide) ?_); refine r_nil ?_; exact rfl
  · exact rfl
  · exact rfl
  apply r_guard (s := 25) rfl rfl rfl
  · intro hg; apply opT_strip (s := 26) rfl (by (rw [hg]; rfl)); apply opT_of; (refine r_load_pp rfl rfl rfl rfl ?_); refine r_nil ?_; exact rfl
  · exact rfl
  · exact rfl
  apply r_guard (s := 25) rfl rfl rfl
  · intro hg; apply opT_strip (s := 27) rfl (by (rw [hg]; rfl)); apply opT_of; (refine r_call (c_ContainsFunc_bin f.bins (Ty.clo _ []) rfl (fun b => decide ((b.shares.length : Int) > 8)) rfl rfl fun b _ => cal_clo (c_great1 b) rfl rfl rfl rfl rfl rfl) rfl rfl rfl rfl rfl ?_); refine r_nil ?_; exact rfl
  · exact rfl
  · exact rfl
  refine r_or rfl rfl ?_
  refine asB rfl ?_
  refine r_nil ?_
  refine i_then ?_
  refine t_ret ?_
  refine i_rp1 rfl rfl ?_
  all_goals exact ret_refl rfl rfl
set_option maxRecDepth 100000 in
theorem c_Two (r : List Rul) : Ctr Try.prog 75 [Ty.sl RulE r] (flrT (two r)) := by
  refine fn_intro Try.func75 rfl (by decide) Try.ntmps75 (by exact Nat.le_of_ble_eq_true rfl) fun w0 M0 => ?_
  refine t_seq ?_
  refine t_region ?_
  refine r_alloc rfl (by exact List.cons_ne_nil _ _) rfl ?_
  refine r_nil ?_
  refine i_then ?_
  refine t_seq ?_
  refine t_region ?_
  refine r_buildSlice (E := I64) (xs := [400, 300]) rfl rfl rfl rfl rfl (by decide) (by decide) (by repeat (first | exact (Parts.nil : Parts _ _ [] _) | (show Parts _ _ ((_, _) :: _) _; apply Parts.one; (· exact (rfl : _ = Ty.int _ _)); (· exact rfl)))) (by exact rfl) rfl ?_
  refine r_buildSlice (E := I64) (xs := [4, 0]) rfl rfl rfl rfl rfl (by decide) (by decide) (by repeat (first | exact (Parts.nil : Parts _ _ [] _) | (show Parts _ _ ((_, _) :: _) _; apply Parts.one; (· exact (rfl : _ = Ty.int _ _)); (· exact rfl)))) (by exact rfl) rfl ?_
  refine r_build rfl rfl (by exact List.cons_ne_nil _ _) rfl (by repeat (first | exact (Parts.nil : Parts _ _ [] _) | (show Parts _ _ ((_, _) :: _) _; apply Parts.one; (· first | exact (rfl : _ = Ty.int _ _) | exact (rfl : _ = Ty.sl _ _)); (· exact rfl)))) (by exact (rfl : _ = some [_, _])) ?_
  refine r_buildSlice (E := I64) (xs := [2, 2]) rfl rfl rfl rfl rfl (by decide) (by decide) (by repeat (first | exact (Parts.nil : Parts _ _ [] _) | (show Parts _ _ ((_, _) :: _) _; apply Parts.one; (· exact (rfl : _ = Ty.int _ _)); (· exact rfl)))) (by exact rfl) rfl ?_
  refine r_build rfl rfl (by exact List.cons_ne_nil _ _) rfl (by repeat (first | exact (Parts.nil : Parts _ _ [] _) | (show Parts _ _ ((_, _) :: _) _; apply Parts.one; (· first | exact (rfl : _ = Ty.int _ _) | exact (rfl : _ = Ty.sl _ _)); (· exact rfl)))) (by exact (rfl : _ = some [_, _])) ?_
  refine r_buildSlice (E := I64) (xs := [0, 4]) rfl rfl rfl rfl rfl (by decide) (by decide) (by repeat (first | exact (Parts.nil : Parts _ _ [] _) | (show Parts _ _ ((_, _) :: _) _; apply Parts.one; (· exact (rfl : _ = Ty.int _ _)); (· exact rfl)))) (by exact rfl) rfl ?_
  refine r_build rfl rfl (by exact List.cons_ne_nil _ _) rfl (by repeat (first | exact (Parts.nil : Parts _ _ [] _) | (show Parts _ _ ((_, _) :: _) _; apply Parts.one; (· exact (rfl : _ = Ty.sl _ _)); (· exact rfl)))) (by exact (rfl : _ = some [_, _])) ?_
  refine r_buildSlice (E := BinE) (xs := [⟨60, [4, 0]⟩, ⟨30, [2, 2]⟩, ⟨0, [0, 4]⟩]) rfl rfl rfl rfl rfl (by decide) (by decide) (by repeat (first | exact (Parts.nil : Parts _ _ [] _) | (show Parts _ _ ((_, _) :: _) _; apply Parts.agg; (· exact (rfl : _ = Ty.agg _))))) (by exact rfl) rfl ?_
  refine r_build rfl rfl (by exact List.cons_ne_nil _ _) rfl (by repeat (first | exact (Parts.nil : Parts _ _ [] _) | (show Parts _ _ ((_, _) :: _) _; apply Parts.one; (· exact (rfl : _ = Ty.int _ _)); (· exact rfl)))) (by exact (rfl : _ = some [_, _, _])) ?_
  refine r_build rfl rfl (by exact List.cons_ne_nil _ _) rfl (by repeat (first | exact (Parts.nil : Parts _ _ [] _) | (show Parts _ _ ((_, _) :: _) _; apply Parts.one; (· exact (rfl : _ = Ty.int _ _)); (· exact rfl)))) (by exact (rfl : _ = some [_, _, _])) ?_
  refine r_build rfl rfl (by exact List.cons_ne_nil _ _) rfl (by repeat (first | exact (Parts.nil : Parts _ _ [] _) | (show Parts _ _ ((_, _) :: _) _; apply Parts.one; (· exact (rfl : _ = Ty.int _ _)); (· exact rfl)))) (by exact (rfl : _ = some [_, _, _])) ?_
  refine r_buildSlice (E := TrnE) (xs := [⟨0, 1, 40⟩, ⟨1, 2, 30⟩, ⟨-1, 0, 40⟩]) rfl rfl rfl rfl rfl (by decide) (by decide) (by repeat (first | exact (Parts.nil : Parts _ _ [] _) | (show Parts _ _ ((_, _) :: _) _; apply Parts.agg; (· exact (rfl : _ = Ty.agg _))))) (by exact rfl) rfl ?_
  refine mvS rfl ?_
  refine r_build rfl rfl (by exact List.cons_ne_nil _ _) rfl (by repeat (first | exact (Parts.nil : Parts _ _ [] _) | (show Parts _ _ ((_, _) :: _) _; apply Parts.one; (· exact (rfl : _ = Ty.sl _ _)); (· exact rfl)))) (by exact (rfl : _ = some [_, _, _, _])) ?_
  refine r_storeN rfl rfl (by decide) rfl rfl rfl rfl rfl rfl ?_
  refine r_nil ?_
  refine i_then ?_
  refine t_ret ?_
  refine i_rcell rfl rfl rfl rfl (by decide) rfl rfl rfl ?_
  exact ret_agg (ts := flrTys (two r)) (rets_cons (ret_refl rfl rfl) (rets_cons (ret_refl rfl rfl) (rets_cons (ret_refl rfl rfl) (rets_cons (ret_refl rfl rfl) rets_nil))))
end Go.Proofs.Ytifgbnbkimcchaa

namespace Go.Proofs.Ytifgbnbkimcchaa
def iot (n : Nat) : List Int := (List.range n).map fun (k : Nat) => (k : Int)
theorem iot_succ (n : Nat) : iot (n + 1) = iot n ++ [(n : Int)] := by simp [iot, List.range_succ]
theorem iot_len (n : Nat) : (iot n).length = n := by simp [iot]
theorem mem_iot {n : Nat} {x : Int} : x ∈ iot n ↔ 0 ≤ x ∧ x < n := by
  simp only [iot, List.mem_map, List.mem_range]
  constructor
  · rintro ⟨k, hk, rfl⟩; omega
  · rintro ⟨h1, h2⟩; exact ⟨x.toNat, by omega, by omega⟩
def unk (rules : List Rul) (known : List Int) : Nat := rules.countP fun r => decide (r.fst ∉ known)
def rstep (rec : Int → List Int → List Int) (t : Int) (kn : List Int) (r : Rul) : List Int := if r.nxt = t ∧ r.fst ∉ kn then rec r.fst (kn ++ [r.fst]) else kn
def reachM (rules : List Rul) : Nat → Int → List Int → List Int
  | 0, _, known => known
  | n + 1, t, known => rules.foldl (rstep (reachM rules n) t) known
theorem unk_mono {rules : List Rul} {a b : List Int} (h : ∀ x ∈ a, x ∈ b) : unk rules b ≤ unk rules a := by
  refine List.countP_mono_left fun r _ hr => ?_
  simp only [decide_eq_true_eq] at hr ⊢
  exact fun hx => hr (h _ hx)
theorem unk_add {rules : List Rul} {kn : List Int} {r : Rul} (hr : r ∈ rules) (h : r.fst ∉ kn) : unk rules (kn ++ [r.fst]) + 1 ≤ unk rules kn := by
  unfold unk
  induction rules with
  | nil => cases hr
  | cons q l ih =>
    simp only [List.countP_cons]
    have hle : List.countP (fun r_1 => decide (r_1.fst ∉ kn ++ [r.fst])) l ≤ List.countP (fun r => decide (r.fst ∉ kn)) l := unk_mono (rules := l) fun x hx => List.mem_append_left _ hx
    rcases List.mem_cons.1 hr with rfl | hr
    · rw [if_neg (by simp), if_pos (by simpa using h)]; omega
    · have := ih hr
      have : (if decide (q.fst ∉ kn ++ [r.fst]) = true then 1 else 0) ≤ (if decide (q.fst ∉ kn) = true then 1 else 0) := by
        by_cases h1 : q.fst ∈ kn
        · rw [if_neg (by simp [h1]), if_neg (by simp [h1])]; omega
        · rw [if_pos (show decide (q.fst ∉ kn) = true by simpa using h1)]; split <;> omega
      omega
def Grew (rules : List Rul) (a b : List Int) : Prop := (∀ x ∈ a, x ∈ b) ∧ b.length + unk rules b ≤ a.length + unk rules a
theorem Grew.refl (rules : List Rul) (a : List Int) : Grew rules a a := ⟨fun _ h => h, Nat.le_refl _⟩
theorem Grew.trans {rules : List Rul} {a b c : List Int} (h : Grew rules a b) (h' : Grew rules b c) : Grew rules a c := ⟨fun x hx => h'.1 x (h.1 x hx), Nat.le_trans h'.2 h.2⟩
theorem grew_add {rules : List Rul} {kn : List Int} {r : Rul} (hr : r ∈ rules) (h : r.fst ∉ kn) : Grew rules kn (kn ++ [r.fst]) :=
  ⟨fun x hx => List.mem_append_left _ hx, by have := unk_add hr h; simp; omega⟩
theorem grew_fold {rules : List Rul} {rec : Int → List Int → List Int} {t : Int} (hrec : ∀ t kn, Grew rules kn (rec t kn)) : ∀ (l : List Rul), (∀ r ∈ l, r ∈ rules) → ∀ kn, Grew rules kn (l.foldl (rstep rec t) kn)
  | [], _, kn => .refl _ _
  | r :: l, hl, kn => by
    refine Grew.trans ?_ (grew_fold hrec l (fun x hx => hl x (List.mem_cons_of_mem _ hx)) _)
    unfold rstep
    split
    · rename_i h
      exact (grew_add (hl r List.mem_cons_self) h.2).trans (hrec _ _)
    · exact .refl _ _
theorem grew_reach (rules : List Rul) : ∀ (n : Nat) (t : Int) (kn : List Int), Grew rules kn (reachM rules n t kn)
  | 0, _, _ => .refl _ _
  | n + 1, _, kn => grew_fold (grew_reach rules n) rules (fun _ h => h) kn
def reachAll (f : Flr) (t : Int) : List Int := reachM f.rules (f.rules.length + 1) t []
def aheadM (f : Flr) (t : Int) : List Int := (iot f.turnings.length).filter fun k => decide (k ∈ reachAll f t)
theorem unk_le (rules : List Rul) (kn : List Int) : unk rules kn ≤ rules.length := List.countP_le_length
end Go.Proofs.Ytifgbnbkimcchaa

namespace Go.Proofs.Ytifgbnbkimcchaa
open Go Go.T
attribute [local irreducible] dInt dBool dSl dPp dPtr dAgg dTup dClo dAny dEx dStr dGd dCells dVec dVs dRow dOp nth Tri Into TOps Ctr bodyPost Exit.then Exit.inBlock Code.wp Code.wpIn
set_option maxRecDepth 100000 in
theorem c_theirs (f : Flr) (hs : f.Small) : Ctr Try.prog 17 [flrT f] (flrT f) := by
  refine fn_intro Try.func17 rfl (by decide) Try.ntmps17 (by exact Nat.le_of_ble_eq_true rfl) fun w0 M0 => ?_
  have hs1 := hs.bears; have hs2 := hs.bins; have hs3 := hs.turnings; have hs4 := hs.rules
  have hb := hs.bins; have ht := hs.turnings; have hr := hs.rules
  refine t_seq ?_
  refine t_region ?_
  refine r_box_agg rfl ?_
  refine r_alloc rfl (by exact List.cons_ne_nil _ _) rfl ?_
  refine r_nil ?_
  refine i_then ?_
  refine t_seq ?_
  refine t_region ?_
  refine r_field_pp rfl rfl rfl rfl rfl (by decide) ?_
  refine r_load_pp rfl rfl rfl rfl ?_
  refine r_call (c_Dup_int f.bears (by have := hs.bears; omega)) rfl rfl rfl rfl rfl ?_
  refine r_build rfl rfl (by exact List.cons_ne_nil _ _) rfl (by repeat (first | exact (Parts.nil : Parts _ _ [] _) | (show Parts _ _ ((_, _) :: _) _; apply Parts.one; (· exact (rfl : _ = Ty.sl _ _)); (· exact rfl)))) (by exact (rfl : _ = some [_, _, _, _])) ?_
  refine r_alloc rfl (by exact List.cons_ne_nil _ _) rfl ?_
  refine r_storeN rfl rfl (by decide) rfl rfl rfl rfl rfl rfl ?_
  refine r_nil ?_
  refine i_then ?_
  refine t_seq ?_
  refine t_seq ?_
  refine t_region ?_
  refine r_field_pp rfl rfl rfl rfl rfl (by decide) ?_
  refine r_load_pp rfl rfl rfl rfl ?_
  refine r_len rfl rfl rfl ?_
  refine mvI rfl ?_
  refine r_nil ?_
  refine i_then ?_
  refine t_block ?_
  refine t_loop (fun (k : Nat) => live [(1, Ty.pp (flrTys f)), (2, Ty.ptr 3 0), (3, Ty.ptr 4 0), (15, Ty.sl BinE f.bins), (16, Ty.int .i64 f.bins.length), (17, Ty.int .i64 (k : Nat))] [(3, Cont.cells 39 [Ty.ex (.slice none 0 0), Ty.ex (.slice none 0 0), Ty.ex (.slice none 0 0), Ty.ex (.slice none 0 0)]), (4, Cont.cells 39 [Ty.sl I64 f.bears, Ty.row BinE 123 26 (f.bins.take k), Ty.ex (.slice none 0 0), Ty.ex (.slice none 0 0)])]) (fun k => f.bins.length - k) (0) ?_ fun k => ?_
  · (refine Ent.mk' ?_ ?_ <;> (repeat' (first | exact allSub_zero | exact allTags_nil | exact subs_nil | refine allSub_succ' ?_ (Ty.sub_any _) | refine allSub_succ' ?_ (Ty.sub_refl _) | refine allTags_cons rfl (Cont.sub_refl _) ?_ | refine allTags_cons rfl (Cont.sub_subs ?_) ?_ | refine subs_cons ?_ (Ty.sub_refl _) | refine subs_cons ?_ Ty.nil_row)))
  ·
    refine t_seq ?_
    refine t_region ?_
    refine r_bin rfl rfl rfl ?_
    refine r_nil ?_
    refine i_then ?_
    refine t_seq ?_
    refine t_cond_dec rfl (fun hc1 => ?_) (fun hc1 => ?_)
    ·
      refine t_skip ?_
      refine i_then ?_
      refine t_seq ?_
      refine t_block ?_
      refine t_seq ?_
      refine t_region ?_
      refine r_index_slN rfl rfl rfl rfl rfl rfl (by omega) ?_
      refine r_load_ppN rfl rfl rfl (by exact Nat.le_of_ble_eq_true rfl) ?_
      refine r_alloc rfl (by exact List.cons_ne_nil _ _) rfl ?_
      refine r_storeN rfl rfl (by decide) rfl rfl rfl rfl rfl rfl ?_
      refine r_nil ?_
      refine i_then ?_
      refine t_region ?_
      refine r_field_ptr rfl rfl rfl rfl rfl (by decide) ?_
      refine r_load_ptr rfl rfl (by decide) rfl rfl rfl ?_
      refine r_load_ptrN rfl rfl (by decide) rfl rfl (by exact Nat.le_of_ble_eq_true rfl) ?_
      refine r_buildSlice (E := BinE) (xs := [nth f.bins k]) rfl rfl rfl rfl rfl (by decide) (by decide) (by repeat (first | exact (Parts.nil : Parts _ _ [] _) | (show Parts _ _ ((_, _) :: _) _; apply Parts.agg; (· exact (rfl : _ = Ty.agg _))))) (by exact rfl) rfl ?_
      refine r_append rfl rfl (by decide) rfl rfl rfl rfl rfl rfl (by decide) (by (simp <;> omega)) (by (simp <;> omega)) ?_
      refine r_field_ptr rfl rfl rfl rfl rfl (by decide) ?_
      refine r_store1 rfl rfl (by decide) rfl rfl (by exact (rfl : _ = Ty.row _ _ _ _)) rfl (by exact Nat.le_of_ble_eq_true rfl) rfl rfl (by exact rfl) ?_
      refine r_nil ?_
      refine i_block ?_
      refine i_then ?_
      refine t_region ?_
      refine r_add rfl rfl (by omega) (by omega) ?_
      refine mvI rfl ?_
      refine r_nil ?_
      refine i_round (k + 1) ?_ (by omega)
      (refine Ent.mk' ?_ ?_ <;> (repeat' (first | exact allSub_zero | exact allTags_nil | exact subs_nil | refine allSub_succ' ?_ (Ty.sub_any _) | refine allSub_succ' ?_ (Ty.sub_refl _) | refine allTags_cons rfl (Cont.sub_refl _) ?_ | refine allTags_cons rfl (Cont.sub_subs ?_) ?_ | refine subs_cons ?_ (Ty.sub_refl _) | refine subs_cons ?_ ?_)))
      all_goals exact Ty.sub_row (take_nth (by omega)).symm
    ·
      refine t_exit ?_
      refine i_then_exit ?_
      refine i_then_exit ?_
      refine i_block_exit rfl ?_
      refine i_then ?_
      refine t_seq ?_
      refine t_seq ?_
      refine t_region ?_
      refine r_field_pp rfl rfl rfl rfl rfl (by decide) ?_
      refine r_load_pp rfl rfl rfl rfl ?_
      refine r_len rfl rfl rfl ?_
      refine mvI rfl ?_
      refine r_nil ?_
      refine i_then ?_
      refine t_block ?_
      refine t_loop (fun (k : Nat) => live [(1, Ty.pp (flrTys f)), (2, Ty.ptr 3 0), (3, Ty.ptr 4 0), (29, Ty.sl TrnE f.turnings), (30, Ty.int .i64 f.turnings.length), (31, Ty.int .i64 (k : Nat))] [(3, Cont.cells 39 [Ty.ex (.slice none 0 0), Ty.ex (.slice none 0 0), Ty.ex (.slice none 0 0), Ty.ex (.slice none 0 0)]), (4, Cont.cells 39 [Ty.sl I64 f.bears, Ty.row BinE 123 26 f.bins, Ty.row TrnE 124 40 (f.turnings.take k), Ty.ex (.slice none 0 0)])]) (fun k => f.turnings.length - k) (0) ?_ fun k => ?_
      · (refine Ent.mk' ?_ ?_ <;> (repeat' (first | exact allSub_zero | exact allTags_nil | exact subs_nil | refine allSub_succ' ?_ (Ty.sub_any _) | refine allSub_succ' ?_ (Ty.sub_refl _) | refine allTags_cons rfl (Cont.sub_refl _) ?_ | refine allTags_cons rfl (Cont.sub_subs ?_) ?_ | refine subs_cons ?_ (Ty.sub_refl _) | refine subs_cons ?_ Ty.nil_row | refine subs_cons ?_ ?_)))
        exact Ty.sub_row (List.take_of_length_le (by omega))
      ·
        refine t_seq ?_
        refine t_region ?_
        refine r_bin rfl rfl rfl ?_
        refine r_nil ?_
        refine i_then ?_
        refine t_seq ?_
        refine t_cond_dec rfl (fun hc2 => ?_) (fun hc2 => ?_)
        ·
          refine t_skip ?_
          refine i_then ?_
          refine t_seq ?_
          refine t_block ?_
          refine t_seq ?_
          refine t_region ?_
          refine r_index_slN rfl rfl rfl rfl rfl rfl (by omega) ?_
          refine r_load_ppN rfl rfl rfl (by exact Nat.le_of_ble_eq_true rfl) ?_
          refine r_alloc rfl (by exact List.cons_ne_nil _ _) rfl ?_
          refine r_storeN rfl rfl (by decide) rfl rfl rfl rfl rfl rfl ?_
          refine r_nil ?_
          refine i_then ?_
          refine t_region ?_
          refine r_field_ptr rfl rfl rfl rfl rfl (by decide) ?_
          refine r_load_ptr rfl rfl (by decide) rfl rfl rfl ?_
          refine r_load_ptrN rfl rfl (by decide) rfl rfl (by exact Nat.le_of_ble_eq_true rfl) ?_
          refine r_buildSlice (E := TrnE) (xs := [nth f.turnings k]) rfl rfl rfl rfl rfl (by decide) (by decide) (by repeat (first | exact (Parts.nil : Parts _ _ [] _) | (show Parts _ _ ((_, _) :: _) _; apply Parts.agg; (· exact (rfl : _ = Ty.agg _))))) (by exact rfl) rfl ?_
          refine r_append rfl rfl (by decide) rfl rfl rfl rfl rfl rfl (by decide) (by (simp <;> omega)) (by (simp <;> omega)) ?_
          refine r_field_ptr rfl rfl rfl rfl rfl (by decide) ?_
          refine r_store1 rfl rfl (by decide) rfl rfl (by exact (rfl : _ = Ty.row _ _ _ _)) rfl (by exact Nat.le_of_ble_eq_true rfl) rfl rfl (by exact rfl) ?_
          refine r_nil ?_
          refine i_block ?_
          refine i_then ?_
          refine t_region ?_
          refine r_add rfl rfl (by omega) (by omega) ?_
          refine mvI rfl ?_
          refine r_nil ?_
          refine i_round (k + 1) ?_ (by omega)
          (refine Ent.mk' ?_ ?_ <;> (repeat' (first | exact allSub_zero | exact allTags_nil | exact subs_nil | refine allSub_succ' ?_ (Ty.sub_any _) | refine allSub_succ' ?_ (Ty.sub_refl _) | refine allTags_cons rfl (Cont.sub_refl _) ?_ | refine allTags_cons rfl (Cont.sub_subs ?_) ?_ | refine subs_cons ?_ (Ty.sub_refl _) | refine subs_cons ?_ ?_)))
          all_goals exact Ty.sub_row (take_nth (by omega)).symm
        ·
          refine t_exit ?_
          refine i_then_exit ?_
          refine i_then_exit ?_
          refine i_block_exit rfl ?_
          refine i_then ?_
          refine t_seq ?_
          refine t_seq ?_
          refine t_region ?_
          refine r_field_pp rfl rfl rfl rfl rfl (by decide) ?_
          refine r_load_pp rfl rfl rfl rfl ?_
          refine r_len rfl rfl rfl ?_
          refine mvI rfl ?_
          refine r_nil ?_
          refine i_then ?_
          refine t_block ?_
          refine t_loop (fun (k : Nat) => live [(1, Ty.pp (flrTys f)), (2, Ty.ptr 3 0), (3, Ty.ptr 4 0), (43, Ty.sl RulE f.rules), (44, Ty.int .i64 f.rules.length), (45, Ty.int .i64 (k : Nat))] [(3, Cont.cells 39 [Ty.ex (.slice none 0 0), Ty.ex (.slice none 0 0), Ty.ex (.slice none 0 0), Ty.ex (.slice none 0 0)]), (4, Cont.cells 39 [Ty.sl I64 f.bears, Ty.row BinE 123 26 f.bins, Ty.row TrnE 124 40 f.turnings, Ty.row RulE 73 54 (f.rules.take k)])]) (fun k => f.rules.length - k) (0) ?_ fun k => ?_
          · (refine Ent.mk' ?_ ?_ <;> (repeat' (first | exact allSub_zero | exact allTags_nil | exact subs_nil | refine allSub_succ' ?_ (Ty.sub_any _) | refine allSub_succ' ?_ (Ty.sub_refl _) | refine allTags_cons rfl (Cont.sub_refl _) ?_ | refine allTags_cons rfl (Cont.sub_subs ?_) ?_ | refine subs_cons ?_ (Ty.sub_refl _) | refine subs_cons ?_ Ty.nil_row | refine subs_cons ?_ ?_)))
            exact Ty.sub_row (List.take_of_length_le (by omega))
          ·
            refine t_seq ?_
            refine t_region ?_
            refine r_bin rfl rfl rfl ?_
            refine r_nil ?_
            refine i_then ?_
            refine t_seq ?_
            refine t_cond_dec rfl (fun hc3 => ?_) (fun hc3 => ?_)
            ·
              refine t_skip ?_
              refine i_then ?_
              refine t_seq ?_
              refine t_block ?_
              refine t_seq ?_
              refine t_region ?_
              refine r_index_slN rfl rfl rfl rfl rfl rfl (by omega) ?_
              refine r_load_ppN rfl rfl rfl (by exact Nat.le_of_ble_eq_true rfl) ?_
              refine r_alloc rfl (by exact List.cons_ne_nil _ _) rfl ?_
              refine r_storeN rfl rfl (by decide) rfl rfl rfl rfl rfl rfl ?_
              refine r_nil ?_
              refine i_then ?_
              refine t_region ?_
              refine r_field_ptr rfl rfl rfl rfl rfl (by decide) ?_
              refine r_load_ptr rfl rfl (by decide) rfl rfl rfl ?_
              refine r_load_ptrN rfl rfl (by decide) rfl rfl (by exact Nat.le_of_ble_eq_true rfl) ?_
              refine r_buildSlice (E := RulE) (xs := [nth f.rules k]) rfl rfl rfl rfl rfl (by decide) (by decide) (by repeat (first | exact (Parts.nil : Parts _ _ [] _) | (show Parts _ _ ((_, _) :: _) _; apply Parts.agg; (· exact (rfl : _ = Ty.agg _))))) (by exact rfl) rfl ?_
              refine r_append rfl rfl (by decide) rfl rfl rfl rfl rfl rfl (by decide) (by (simp <;> omega)) (by (simp <;> omega)) ?_
              refine r_field_ptr rfl rfl rfl rfl rfl (by decide) ?_
              refine r_store1 rfl rfl (by decide) rfl rfl (by exact (rfl : _ = Ty.row _ _ _ _)) rfl (by exact Nat.le_of_ble_eq_true rfl) rfl rfl (by exact rfl) ?_
              refine r_nil ?_
              refine i_block ?_
              refine i_then ?_
              refine t_region ?_
              refine r_add rfl rfl (by omega) (by omega) ?_
              refine mvI rfl ?_
              refine r_nil ?_
              refine i_round (k + 1) ?_ (by omega)
              (refine Ent.mk' ?_ ?_ <;> (repeat' (first | exact allSub_zero | exact allTags_nil | exact subs_nil | refine allSub_succ' ?_ (Ty.sub_any _) | refine allSub_succ' ?_ (Ty.sub_refl _) | refine allTags_cons rfl (Cont.sub_refl _) ?_ | refine allTags_cons rfl (Cont.sub_subs ?_) ?_ | refine subs_cons ?_ (Ty.sub_refl _) | refine subs_cons ?_ ?_)))
              all_goals exact Ty.sub_row (take_nth (by omega)).symm
            ·
              refine t_exit ?_
              refine i_then_exit ?_
              refine i_then_exit ?_
              refine i_block_exit rfl ?_
              refine i_then ?_
              refine t_seq ?_
              refine t_region ?_
              refine r_load_ptrN rfl rfl (by decide) rfl rfl (by exact Nat.le_of_ble_eq_true rfl) ?_
              refine r_storeN rfl rfl (by decide) rfl rfl rfl rfl rfl rfl ?_
              refine r_nil ?_
              refine i_then ?_
              refine t_ret ?_
              refine i_rcell rfl rfl rfl rfl (by decide) rfl rfl rfl ?_
              exact ret_agg (ts := flrTys f) (rets_cons (ret_refl rfl rfl) (rets_cons (ret_row (by decide)) (rets_cons (ret_row (by decide)) (rets_cons (ret_row_eq (by decide) (List.take_of_length_le (by omega))) rets_nil))))
set_option maxRecDepth 100000 in
theorem c_off (n lo hi : Int) : Ctr Try.prog 79 [Ty.int .i64 n, Ty.int .i64 lo, Ty.int .i64 hi] (Ty.bool (decide (n < lo) || decide (n > hi))) := by
  refine fn_intro Try.func79 rfl (by decide) Try.ntmps79 (by exact Nat.le_of_ble_eq_true rfl) fun w0 M0 => ?_
  refine t_seq ?_
  refine t_region ?_
  refine asB rfl ?_
  refine r_nil ?_
  refine i_then ?_
  refine t_seq ?_
  refine t_region ?_
  refine mvI rfl ?_
  refine mvI rfl ?_
  refine r_bin rfl rfl rfl ?_
  refine mvB rfl ?_
  apply r_guard (s := 10) rfl rfl rfl
  · intro hg; apply opT_of; (refine mvI rfl ?_); refine r_nil ?_; exact rfl
  · exact rfl
  · exact rfl
  apply r_guard (s := 10) rfl rfl rfl
  · intro hg; apply opT_of; (refine mvI rfl ?_); refine r_nil ?_; exact rfl
  · exact rfl
  · exact rfl
  apply r_guard (s := 10) rfl rfl rfl
  · intro hg; apply opT_strip (s := 11) rfl (by (rw [hg]; rfl)); apply opT_strip (s := 12) rfl (by (rw [hg]; rfl)); apply opT_of; (refine r_bin rfl rfl rfl ?_); refine r_nil ?_; exact rfl
  · exact rfl
  · exact rfl
  refine r_or rfl rfl ?_
  refine asB rfl ?_
  refine r_nil ?_
  refine i_then ?_
  refine t_ret ?_
  refine i_rp1 rfl rfl ?_
  all_goals exact ret_refl rfl rfl
set_option maxRecDepth 100000 in
theorem c_has (l : List Int) (n : Int) : Ctr Try.prog 81 [Ty.sl I64 l, Ty.int .i64 n] (Ty.bool (decide (n ∈ l))) := by
  refine fn_intro Try.func81 rfl (by decide) Try.ntmps81 (by exact Nat.le_of_ble_eq_true rfl) fun w0 M0 => ?_
  refine t_fact (s := 0) rfl rfl sl_len fun hl => ?_
  refine t_seq ?_
  refine t_region ?_
  refine asB rfl ?_
  refine r_nil ?_
  refine i_then ?_
  refine t_seq ?_
  refine t_seq ?_
  refine t_region ?_
  refine asI rfl ?_
  refine r_nil ?_
  refine i_then ?_
  refine t_block ?_
  refine t_loop (fun (k : {k : Nat // n ∉ l.take k}) => live [(0, Ty.sl I64 l), (1, Ty.int .i64 n), (5, Ty.int .i64 (k.1 : Nat))] []) (fun k => l.length - k.1) (⟨0, by simp⟩) ?_ fun k => ?_
  · (refine Ent.mk' ?_ ?_ <;> (repeat' (first | exact allSub_zero | exact allTags_nil | refine allSub_succ' ?_ (Ty.sub_any _) | refine allSub_succ' ?_ (Ty.sub_refl _))))
  ·
    refine t_seq ?_
    refine t_seq ?_
    refine t_region ?_
    refine mvI rfl ?_
    refine mvS rfl ?_
    refine r_len rfl rfl rfl ?_
    refine r_bin rfl rfl rfl ?_
    refine r_nil ?_
    refine i_then ?_
    refine t_cond_dec rfl (fun hc1 => ?_) (fun hc1 => ?_)
    ·
      refine t_skip ?_
      refine i_then ?_
      refine t_seq ?_
      refine t_block ?_
      refine t_seq ?_
      refine t_region ?_
      refine mvS rfl ?_
      refine mvI rfl ?_
      refine r_index_slN rfl rfl rfl rfl rfl rfl (by omega) ?_
      refine r_load_pp rfl rfl rfl rfl ?_
      refine mvI rfl ?_
      refine r_bin rfl rfl rfl ?_
      refine r_nil ?_
      refine i_then ?_
      refine t_cond_dec rfl (fun hc2 => ?_) (fun hc2 => ?_)
      ·
        refine t_seq ?_
        refine t_region ?_
        refine asB rfl ?_
        refine r_nil ?_
        refine i_then ?_
        refine t_ret ?_
        refine i_block_ret ?_
        refine i_then_ret ?_
        refine i_then_ret ?_
        refine i_block_ret ?_
        refine i_then_ret ?_
        refine i_rp1 rfl rfl ?_
        all_goals skip
        exact ret_eq rfl rfl (congrArg Ty.bool (decide_eq_true (hc2 ▸ nth_mem (by omega))).symm)
      ·
        refine t_skip ?_
        refine i_block ?_
        refine i_then ?_
        refine t_region ?_
        refine mvI rfl ?_
        refine r_add rfl rfl (by omega) (by omega) ?_
        refine asI rfl ?_
        refine r_nil ?_
        refine i_round (⟨k.1 + 1, by rw [take_nth (by omega), List.mem_append, List.mem_singleton]; rintro (h | h); exact k.2 h; exact hc2 h.symm⟩) ?_ (by show l.length - (k.1 + 1) < l.length - k.1; omega)
        (refine Ent.mk' ?_ ?_ <;> (repeat' (first | exact allSub_zero | exact allTags_nil | refine allSub_succ' ?_ (Ty.sub_any _) | refine allSub_succ' ?_ (Ty.sub_refl _))))
        all_goals skip
    ·
      refine t_exit ?_
      refine i_then_exit ?_
      refine i_then_exit ?_
      refine i_block_exit rfl ?_
      refine i_then ?_
      refine t_seq ?_
      refine t_region ?_
      refine asB rfl ?_
      refine r_nil ?_
      refine i_then ?_
      refine t_ret ?_
      refine i_rp1 rfl rfl ?_
      all_goals skip
      exact ret_eq rfl rfl (congrArg Ty.bool (decide_eq_false (by have := k.2; rwa [List.take_of_length_le (by omega)] at this)).symm)
set_option maxRecDepth 100000 in
theorem c_There (f : Flr) (hs : f.Small) (t : Int) : Ctr Try.prog 30 [flrT f, Ty.int .i64 t] (Ty.int .i64 (if t < 0 ∨ t ≥ f.turnings.length then 1 else 0)) := by
  refine fn_intro Try.func30 rfl (by decide) Try.ntmps30 (by exact Nat.le_of_ble_eq_true rfl) fun w0 M0 => ?_
  have hs1 := hs.bears; have hs2 := hs.bins; have hs3 := hs.turnings; have hs4 := hs.rules
  refine t_seq ?_
  refine t_region ?_
  refine r_box_agg rfl ?_
  refine asI rfl ?_
  refine r_nil ?_
  refine i_then ?_
  refine t_seq ?_
  refine t_seq ?_
  refine t_region ?_
  refine mvI rfl ?_
  refine r_field_pp rfl rfl rfl rfl rfl (by decide) ?_
  refine r_load_pp rfl rfl rfl rfl ?_
  refine r_len rfl rfl rfl ?_
  refine r_sub rfl rfl (by omega) (by omega) ?_
  refine r_call (c_off _ _ _) rfl rfl rfl rfl rfl ?_
  refine r_nil ?_
  refine i_then ?_
  refine t_cond rfl (fun hc1 => ?_) (fun hc1 => ?_)
  ·
    refine t_seq ?_
    refine t_region ?_
    refine asI rfl ?_
    refine r_nil ?_
    refine i_then ?_
    refine t_ret ?_
    refine i_then_ret ?_
    refine i_rp1 rfl rfl ?_
    all_goals skip
    exact ret_eq rfl rfl (congrArg (Ty.int .i64) (by rw [if_pos]; simp only [Bool.or_eq_true, decide_eq_true_eq] at hc1; omega))
  ·
    refine t_skip ?_
    refine i_then ?_
    refine t_seq ?_
    refine t_region ?_
    refine asI rfl ?_
    refine r_nil ?_
    refine i_then ?_
    refine t_ret ?_
    refine i_rp1 rfl rfl ?_
    all_goals skip
    exact ret_eq rfl rfl (congrArg (Ty.int .i64) (by rw [if_neg]; simp only [Bool.or_eq_false_iff, decide_eq_false_iff_not] at hc1; omega))
end Go.Proofs.Ytifgbnbkimcchaa

namespace Go.Proofs.Ytifgbnbkimcchaa
theorem any_pos {α : Type} {q : α → Bool} {l : List α} {x : α} (hx : x ∈ l) (h : q x = true) : l.any q = true := List.any_eq_true.2 ⟨x, hx, h⟩
theorem any_neg {α : Type} {q : α → Bool} {l : List α} {k : Nat} (h : ∀ x ∈ l.take k, q x = false) (hk : l.length ≤ k) : l.any q = false := by
  rw [List.take_of_length_le hk] at h
  rw [Bool.eq_false_iff]; intro hc
  obtain ⟨x, hx, hq⟩ := List.any_eq_true.1 hc
  rw [h x hx] at hq; cases hq
theorem any_none {α : Type} {q : α → Bool} {l : List α} (h : l.any q = false) {x : α} (hx : x ∈ l) : q x = false := by
  cases hq : q x with
  | false => rfl
  | true => rw [any_pos hx hq] at h; cases h
def offB (n lo hi : Int) : Bool := decide (n < lo) || decide (n > hi)
theorem offB_false {n lo hi : Int} (h : offB n lo hi = false) : lo ≤ n ∧ n ≤ hi := by
  simp only [offB, Bool.or_eq_false_iff, decide_eq_false_iff_not] at h; omega
def Flr.many (f : Flr) : Bool := offB f.bears.length 1 4 || decide ((f.bins.length : Int) > 6) || decide ((f.turnings.length : Int) > 8) || decide ((f.rules.length : Int) > 16)
def takenM (f : Flr) (ts : List Trn) (i : Int) : Int := (ts.map fun t => if t.src = i then t.sacks else 0).sum
def Flr.wrongAt (f : Flr) (i : Nat) (b : Bin) : Bool := !decide (b.shares.sum = 4) || decide (takenM f f.turnings i > b.has)
def linkedM (f : Flr) : Int :=
  if f.turnings.any fun t => offB t.src (-1) (f.bins.length - 1) || offB t.dst (-1) (f.bins.length - 1) then 1
  else if f.rules.any fun r => offB r.fst 0 (f.turnings.length - 1) || offB r.nxt 0 (f.turnings.length - 1) then 1
  else if f.turnings.any fun t => decide (t.src = t.dst) then 5
  else if (iot f.bins.length).any fun i => f.wrongAt i.toNat (f.bins.getD i.toNat default) then 8
  else if (iot f.turnings.length).any fun t => decide (t ∈ aheadM f t) then 7
  else 0
def checkM (f : Flr) : Int :=
  if f.many then 2
  else if f.bins.any fun b => !decide ((b.shares.length : Int) = f.bears.length) then 2
  else if f.bears.any fun n => offB n 0 4000 then 3
  else if f.bins.any fun b => offB b.has 0 300 || b.shares.any fun n => offB n 0 4 then 3
  else if f.turnings.any fun t => offB t.sacks 1 300 then 3
  else linkedM f
structure Flr.Ranged (f : Flr) : Prop where
  bears1 : 1 ≤ f.bears.length
  bears : f.bears.length ≤ 4
  bins : f.bins.length ≤ 6
  turnings : f.turnings.length ≤ 8
  rules : f.rules.length ≤ 16
  shares : ∀ b ∈ f.bins, b.shares.length = f.bears.length
  bearsR : ∀ n ∈ f.bears, 0 ≤ n ∧ n ≤ 4000
  hasR : ∀ b ∈ f.bins, 0 ≤ b.has ∧ b.has ≤ 300
  sharesR : ∀ b ∈ f.bins, ∀ n ∈ b.shares, 0 ≤ n ∧ n ≤ 4
  sacksR : ∀ t ∈ f.turnings, 1 ≤ t.sacks ∧ t.sacks ≤ 300
theorem ranged_of {f : Flr} (h1 : f.many = false) (h2 : (f.bins.any fun b => !decide ((b.shares.length : Int) = f.bears.length)) = false) (h3 : (f.bears.any fun n => offB n 0 4000) = false)
    (h4 : (f.bins.any fun b => offB b.has 0 300 || b.shares.any fun n => offB n 0 4) = false) (h5 : (f.turnings.any fun t => offB t.sacks 1 300) = false) : f.Ranged := by
  simp only [Flr.many, Bool.or_eq_false_iff, decide_eq_false_iff_not] at h1
  have h0 := offB_false h1.1.1.1
  refine ⟨by omega, by omega, by omega, by omega, by omega, fun b hb => ?_, fun n hn => offB_false (any_none h3 hn), fun b hb => ?_, fun b hb n hn => ?_, fun t ht => offB_false (any_none h5 ht)⟩
  · have := any_none h2 hb
    simp only [Bool.not_eq_false', decide_eq_true_eq] at this; omega
  · have := any_none h4 hb
    simp only [Bool.or_eq_false_iff] at this; exact offB_false this.1
  · have := any_none h4 hb
    simp only [Bool.or_eq_false_iff] at this; exact offB_false (any_none this.2 hn)
theorem sum_bound {l : List Int} {lo hi : Int} (h : ∀ n ∈ l, lo ≤ n ∧ n ≤ hi) : lo * l.length ≤ l.sum ∧ l.sum ≤ hi * l.length := by
  induction l with
  | nil => simp
  | cons a l ih =>
    obtain ⟨h1, h2⟩ := h a List.mem_cons_self
    obtain ⟨h3, h4⟩ := ih fun n hn => h n (List.mem_cons_of_mem _ hn)
    simp only [List.sum_cons, List.length_cons, Int.natCast_add, Int.mul_add, Int.natCast_one, Int.mul_one]
    omega
theorem taken_bound {f : Flr} (hr : f.Ranged) (k : Nat) (i : Int) : 0 ≤ takenM f (f.turnings.take k) i ∧ takenM f (f.turnings.take k) i ≤ 2400 := by
  have h := sum_bound (l := (f.turnings.take k).map fun t => if t.src = i then t.sacks else 0) (lo := 0) (hi := 300) fun n hn => by
    obtain ⟨t, ht, rfl⟩ := List.mem_map.1 hn
    have := hr.sacksR t (List.mem_of_mem_take ht)
    split <;> omega
  have := hr.turnings
  simp only [List.length_map, List.length_take] at h
  unfold takenM; omega
theorem take_bound {l : List Int} {lo hi : Int} (h : ∀ n ∈ l, lo ≤ n ∧ n ≤ hi) (k : Nat) : lo * (l.take k).length ≤ (l.take k).sum ∧ (l.take k).sum ≤ hi * (l.take k).length :=
  sum_bound fun n hn => h n (List.mem_of_mem_take hn)
end Go.Proofs.Ytifgbnbkimcchaa

namespace Go.Proofs.Ytifgbnbkimcchaa
open Go Go.T
theorem getD_nth {α : Type} [Inhabited α] (l : List α) (k : Nat) : l.getD k default = nth l k := rfl
attribute [local irreducible] dInt dBool dSl dPp dPtr dAgg dTup dClo dAny dEx dStr dGd dCells dVec dVs dRow dOp nth Tri Into TOps Ctr bodyPost Exit.then Exit.inBlock Code.wp Code.wpIn
theorem ext_false {α : Type} [Inhabited α] {q : α → Bool} {l : List α} {k : Nat} (h : ∀ x ∈ l.take k, q x = false) (hk : k < l.length) (hq : q (nth l k) = false) : ∀ x ∈ l.take (k + 1), q x = false := by
  intro x hx
  rw [take_nth hk] at hx
  rcases List.mem_append.1 hx with hx | hx
  · exact h x hx
  · rw [List.mem_singleton.1 hx]; exact hq
theorem any_at {α : Type} [Inhabited α] {q : α → Bool} {l : List α} {k : Nat} (hk : k < l.length) (hq : q (nth l k) = true) : l.any q = true := any_pos (nth_mem hk) hq
theorem ng {b : Bool} (h : b = false) : ¬ b = true := by rw [h]; decide
theorem iot_any_pos {n k : Nat} {q : Int → Bool} (hk : k < n) (h : q k = true) : (iot n).any q = true := any_pos (mem_iot.2 ⟨by omega, by omega⟩) h
theorem iot_any_neg {n : Nat} {q : Int → Bool} (h : ∀ k : Nat, k < n → q k = false) : (iot n).any q = false := by
  rw [Bool.eq_false_iff]; intro hc
  obtain ⟨x, hx, hq⟩ := List.any_eq_true.1 hc
  obtain ⟨h1, h2⟩ := mem_iot.1 hx
  have := h x.toNat (by omega)
  rw [Int.toNat_of_nonneg h1, hq] at this; cases this
theorem ext_lt {p : Nat → Prop} {k : Nat} (h : ∀ j, j < k → p j) (hk : p k) : ∀ j, j < k + 1 → p j := fun j hj => by
  rcases Nat.lt_or_ge j k with h1 | h1
  · exact h j h1
  · rwa [show j = k by omega]
set_option maxRecDepth 100000 in
theorem c_reach (f : Flr) (hs : f.Small) (n : Nat) (t : Int) (kn : List Int) (h : unk f.rules kn < n) (hk : kn.length + unk f.rules kn ≤ 100) : CtrR Try.prog 102 1000 [flrT f, Ty.int .i64 t, Ty.row I64 3 1000 kn] (Ty.row I64 3 1000 (reachM f.rules n t kn)) := by
  induction n generalizing t kn
  case zero => exact absurd h (Nat.not_lt_zero _)
  rename_i n ih
  refine fnR_intro Try.func102 rfl (by decide) Try.ntmps102 (by exact Nat.le_of_ble_eq_true rfl) fun w0 M0 => ?_
  have hs1 := hs.bears; have hs2 := hs.bins; have hs3 := hs.turnings; have hs4 := hs.rules
  refine t_seq ?_
  refine t_region ?_
  refine r_box_agg rfl ?_
  refine asX rfl ?_
  refine r_nil ?_
  refine i_then ?_
  refine t_seq ?_
  refine t_seq ?_
  refine t_region ?_
  refine asI rfl ?_
  refine r_nil ?_
  refine i_then ?_
  refine t_block ?_
  refine t_loop (fun (k : Nat) => live [(1, Ty.int .i64 t), (2, Ty.row I64 3 1000 ((f.rules.take k).foldl (rstep (reachM f.rules n) t) kn)), (3, Ty.pp (flrTys f)), (7, Ty.int .i64 (k : Nat))] []) (fun k => f.rules.length - k) (0) ?_ fun k => ?_
  · (refine Ent.mk' ?_ ?_ <;> (repeat' (first | exact allSub_zero | exact allTags_nil | refine allSub_succ' ?_ (Ty.sub_any _) | refine allSub_succ' ?_ (Ty.sub_refl _))))
  ·
    have hg : Grew f.rules kn ((f.rules.take k).foldl (rstep (reachM f.rules n) t) kn) := grew_fold (grew_reach _ n) _ (fun x hx => List.mem_of_mem_take hx) kn
    have hg2 := hg.2
    have hg3 := unk_mono (rules := f.rules) hg.1
    refine t_seq ?_
    refine t_seq ?_
    refine t_region ?_
    refine mvI rfl ?_
    refine r_field_pp rfl rfl rfl rfl rfl (by decide) ?_
    refine r_load_pp rfl rfl rfl rfl ?_
    refine r_len rfl rfl rfl ?_
    refine r_bin rfl rfl rfl ?_
    refine r_nil ?_
    refine i_then ?_
    refine t_cond_dec rfl (fun hc1 => ?_) (fun hc1 => ?_)
    ·
      try (simp only [Bool.and_eq_true, Bool.and_eq_false_iff, decide_eq_true_eq, decide_eq_false_iff_not, Bool.not_eq_true', Bool.not_eq_false'] at hc1)
      refine t_skip ?_
      refine i_then ?_
      refine t_seq ?_
      refine t_block ?_
      refine t_seq ?_
      refine t_region ?_
      refine r_field_pp rfl rfl rfl rfl rfl (by decide) ?_
      refine r_load_pp rfl rfl rfl rfl ?_
      refine mvI rfl ?_
      refine r_index_slN rfl rfl rfl rfl rfl rfl (by omega) ?_
      refine r_load_ppN rfl rfl rfl (by exact Nat.le_of_ble_eq_true rfl) ?_
      refine r_alloc rfl (by exact List.cons_ne_nil _ _) rfl ?_
      refine r_storeN rfl rfl (by decide) rfl rfl rfl rfl rfl rfl ?_
      refine r_nil ?_
      refine i_then ?_
      refine t_seq ?_
      refine t_region ?_
      refine r_field_ptr rfl rfl rfl rfl rfl (by decide) ?_
      refine r_load_ptr rfl rfl (by decide) rfl rfl rfl ?_
      refine mvI rfl ?_
      refine r_bin rfl rfl rfl ?_
      refine mvB rfl ?_
      apply r_guard (s := 25) rfl rfl rfl
      · intro hg; apply opT_of; (refine mvR rfl ?_); refine r_nil ?_; exact rfl
      · exact rfl
      · exact rfl
      apply r_guard (s := 25) rfl rfl rfl
      · intro hg; apply opT_of; (refine r_field_ptr rfl rfl rfl rfl rfl (by decide) ?_); refine r_nil ?_; exact rfl
      · exact rfl
      · exact rfl
      apply r_guard (s := 25) rfl rfl rfl
      · intro hg; apply opT_strip (s := 27) rfl (by (rw [hg]; rfl)); apply opT_of; (refine r_load_ptr rfl rfl (by decide) rfl rfl rfl ?_); refine r_nil ?_; exact rfl
      · exact rfl
      · exact rfl
      apply r_guard (s := 25) rfl rfl rfl
      · intro hg; apply opT_strip (s := 26) rfl (by (rw [hg]; rfl)); apply opT_strip (s := 28) rfl (by (rw [hg]; rfl)); apply opT_of; (refine r_callL [1000] (c_has _ _) rfl (by repeat (first | exact lends_nil | refine lends_cons (lend_pub rfl rfl) ?_ | refine lends_cons (lend_row rfl) ?_)) (by exact plain_bool _) ?_); refine r_nil ?_; exact rfl
      · exact rfl
      · exact rfl
      apply r_guard (s := 25) rfl rfl rfl
      · intro hg; apply opT_strip (s := 29) rfl (by (rw [hg]; rfl)); apply opT_of; (refine r_not rfl ?_); refine r_nil ?_; exact rfl
      · exact rfl
      · exact rfl
      refine r_and rfl rfl ?_
      refine r_nil ?_
      refine i_then ?_
      refine t_cond rfl (fun hc2 => ?_) (fun hc2 => ?_)
      ·
        try (simp only [Bool.and_eq_true, Bool.and_eq_false_iff, decide_eq_true_eq, decide_eq_false_iff_not, Bool.not_eq_true', Bool.not_eq_false'] at hc2)
        have hu := unk_add (nth_mem (xs := f.rules) (k := k) (by omega)) hc2.2
        refine t_draw mixed rfl ?_
        refine r_load_ppN rfl rfl rfl (by exact Nat.le_of_ble_eq_true rfl) ?_
        refine r_field_ptr rfl rfl rfl rfl rfl (by decide) ?_
        refine r_load_ptr rfl rfl (by decide) rfl rfl rfl ?_
        refine mvR rfl ?_
        refine r_field_ptr rfl rfl rfl rfl rfl (by decide) ?_
        refine r_load_ptr rfl rfl (by decide) rfl rfl rfl ?_
        refine r_buildSlice (E := I64) (xs := [_]) rfl rfl rfl rfl rfl (by decide) (by decide) (by repeat (first | exact (Parts.nil : Parts _ _ [] _) | (show Parts _ _ ((_, _) :: _) _; apply Parts.one; (· exact (rfl : _ = Ty.int _ _)); (· exact rfl)))) (by exact rfl) rfl ?_
        refine r_retag 40 (opT_append (Ty.sub_refl _) rfl (by decide) rfl rfl rfl rfl rfl rfl (by decide) (by (simp <;> omega)) (by (simp <;> omega))) (by decide) (by decide) rfl ?_
        refine r_retag 41 (opT_callR 40 (pre := [flrT f, Ty.int .i64 (nth f.rules k).fst]) (ih (nth f.rules k).fst ((f.rules.take k).foldl (rstep (reachM f.rules n) t) kn ++ [(nth f.rules k).fst]) (by omega) (by rw [List.length_append]; simp only [List.length_cons, List.length_nil]; omega)) rfl (Ty.sub_refl _) rfl rfl (by decide) (by decide) rfl) (by decide) (by decide) rfl ?_
        refine asR rfl ?_
        refine r_nil ?_
        refine ⟨by kernel_rfl, ?_⟩
        refine i_block ?_
        refine i_then ?_
        refine t_region ?_
        refine mvI rfl ?_
        refine r_add rfl rfl (by omega) (by omega) ?_
        refine asI rfl ?_
        refine r_nil ?_
        refine i_retag 41 1000 [(2, _)] ⟨re_to rfl, trivial⟩ (by decide) (by decide) rfl rfl ?_
        refine i_round (k + 1) ?_ (by omega)
        (refine Ent.mk' ?_ ?_ <;> (repeat' (first | exact allSub_zero | exact allTags_nil | refine allSub_succ' ?_ (Ty.sub_any _) | refine allSub_succ' ?_ (Ty.sub_refl _) | refine allSub_succ' ?_ ?_)))
        all_goals skip
        exact Ty.sub_row (by rw [take_nth (by omega), List.foldl_append]; simp only [List.foldl_cons, List.foldl_nil, rstep]; rw [if_pos hc2])
      ·
        try (simp only [Bool.and_eq_true, Bool.and_eq_false_iff, decide_eq_true_eq, decide_eq_false_iff_not, Bool.not_eq_true', Bool.not_eq_false'] at hc2)
        refine t_skip ?_
        refine i_block ?_
        refine i_then ?_
        refine t_region ?_
        refine mvI rfl ?_
        refine r_add rfl rfl (by omega) (by omega) ?_
        refine asI rfl ?_
        refine r_nil ?_
        skip
        refine i_round (k + 1) ?_ (by omega)
        (refine Ent.mk' ?_ ?_ <;> (repeat' (first | exact allSub_zero | exact allTags_nil | refine allSub_succ' ?_ (Ty.sub_any _) | refine allSub_succ' ?_ (Ty.sub_refl _) | refine allSub_succ' ?_ ?_)))
        all_goals skip
        exact Ty.sub_row (by rw [take_nth (by omega), List.foldl_append]; simp only [List.foldl_cons, List.foldl_nil, rstep]; rw [if_neg (fun h => hc2.elim (fun a => a h.1) (fun b => h.2 b))])
    ·
      try (simp only [Bool.and_eq_true, Bool.and_eq_false_iff, decide_eq_true_eq, decide_eq_false_iff_not, Bool.not_eq_true', Bool.not_eq_false'] at hc1)
      refine t_exit ?_
      refine i_then_exit ?_
      refine i_then_exit ?_
      refine i_block_exit rfl ?_
      refine i_then ?_
      refine t_seq ?_
      refine t_region ?_
      refine mvR rfl ?_
      refine asR rfl ?_
      refine r_nil ?_
      refine i_then ?_
      refine t_ret ?_
      refine i_rrow rfl rfl ?_
      exact Ty.sub_row (by rw [List.take_of_length_le (by omega)]; rfl)
set_option maxRecDepth 100000 in
theorem c_Ahead (f : Flr) (hs : f.Small) (t : Int) : Ctr Try.prog 39 [flrT f, Ty.int .i64 t] (Ty.sl I64 (aheadM f t)) := by
  refine fn_intro Try.func39 rfl (by decide) Try.ntmps39 (by exact Nat.le_of_ble_eq_true rfl) fun w0 M0 => ?_
  have hs1 := hs.bears; have hs2 := hs.bins; have hs3 := hs.turnings; have hs4 := hs.rules
  refine t_seq ?_
  refine t_region ?_
  refine r_box_agg rfl ?_
  refine asX rfl ?_
  refine r_nil ?_
  refine i_then ?_
  refine t_seq ?_
  refine t_region ?_
  refine r_load_ppN rfl rfl rfl (by exact Nat.le_of_ble_eq_true rfl) ?_
  refine mvI rfl ?_
  refine r_callR 11 (pre := [flrT f, Ty.int .i64 t]) (c_reach f hs (f.rules.length + 1) t [] (by have := unk_le f.rules []; omega) (by have := unk_le f.rules []; have := hs.rules; simp; omega)) rfl Ty.nil_row rfl rfl (by decide) (by decide) rfl ?_
  refine asR rfl ?_
  refine r_nil ?_
  refine i_then ?_
  refine t_seq ?_
  refine t_region ?_
  refine asX rfl ?_
  refine r_nil ?_
  refine i_then ?_
  refine t_seq ?_
  refine t_seq ?_
  refine t_region ?_
  refine asI rfl ?_
  refine r_nil ?_
  refine i_then ?_
  refine t_block ?_
  refine t_loop (fun (k : {k : Nat // k ≤ f.turnings.length}) => live [(2, Ty.pp (flrTys f)), (5, Ty.row I64 3 11 (reachAll f t)), (6, Ty.row I64 3 25 ((iot k.1).filter fun x => decide (x ∈ reachAll f t))), (7, Ty.int .i64 (k.1 : Nat))] []) (fun k => f.turnings.length - k.1) (⟨0, Nat.zero_le _⟩) ?_ fun k => ?_
  · (refine Ent.mk' ?_ ?_ <;> (repeat' (first | exact allSub_zero | exact allTags_nil | refine allSub_succ' ?_ (Ty.sub_any _) | refine allSub_succ' ?_ (Ty.sub_refl _) | refine allSub_succ' ?_ Ty.nil_row)))
  ·
    have hfl := List.length_filter_le (fun x => decide (x ∈ reachAll f t)) (iot k.1)
    rw [iot_len] at hfl
    refine t_seq ?_
    refine t_seq ?_
    refine t_region ?_
    refine mvI rfl ?_
    refine r_field_pp rfl rfl rfl rfl rfl (by decide) ?_
    refine r_load_pp rfl rfl rfl rfl ?_
    refine r_len rfl rfl rfl ?_
    refine r_bin rfl rfl rfl ?_
    refine r_nil ?_
    refine i_then ?_
    refine t_cond_dec rfl (fun hc1 => ?_) (fun hc1 => ?_)
    ·
      refine t_skip ?_
      refine i_then ?_
      refine t_seq ?_
      refine t_block ?_
      refine t_seq ?_
      refine t_region ?_
      refine mvR rfl ?_
      refine mvI rfl ?_
      refine r_callL [11] (c_has _ _) rfl (by repeat (first | exact lends_nil | refine lends_cons (lend_pub rfl rfl) ?_ | refine lends_cons (lend_row rfl) ?_)) (by exact plain_bool _) ?_
      refine r_nil ?_
      refine i_then ?_
      refine t_cond_dec rfl (fun hc2 => ?_) (fun hc2 => ?_)
      ·
        refine t_region ?_
        refine mvR rfl ?_
        refine mvI rfl ?_
        refine r_buildSlice (E := I64) (xs := [_]) rfl rfl rfl rfl rfl (by decide) (by decide) (by repeat (first | exact (Parts.nil : Parts _ _ [] _) | (show Parts _ _ ((_, _) :: _) _; apply Parts.one; (· exact (rfl : _ = Ty.int _ _)); (· exact rfl)))) (by exact rfl) rfl ?_
        refine r_append rfl rfl (by decide) rfl rfl rfl rfl rfl rfl (by decide) (by (simp <;> omega)) (by (simp <;> omega)) ?_
        refine asR rfl ?_
        refine r_nil ?_
        refine i_block ?_
        refine i_then ?_
        refine t_region ?_
        refine mvI rfl ?_
        refine r_add rfl rfl (by omega) (by omega) ?_
        refine asI rfl ?_
        refine r_nil ?_
        refine i_round (⟨k.1 + 1, by omega⟩) ?_ (by show f.turnings.length - (k.1 + 1) < f.turnings.length - k.1; omega)
        (refine Ent.mk' ?_ ?_ <;> (repeat' (first | exact allSub_zero | exact allTags_nil | refine allSub_succ' ?_ (Ty.sub_any _) | refine allSub_succ' ?_ (Ty.sub_refl _) | refine allSub_succ' ?_ ?_)))
        all_goals skip
        exact Ty.sub_row (by rw [iot_succ, List.filter_append]; simp [hc2])
      ·
        refine t_skip ?_
        refine i_block ?_
        refine i_then ?_
        refine t_region ?_
        refine mvI rfl ?_
        refine r_add rfl rfl (by omega) (by omega) ?_
        refine asI rfl ?_
        refine r_nil ?_
        refine i_round (⟨k.1 + 1, by omega⟩) ?_ (by show f.turnings.length - (k.1 + 1) < f.turnings.length - k.1; omega)
        (refine Ent.mk' ?_ ?_ <;> (repeat' (first | exact allSub_zero | exact allTags_nil | refine allSub_succ' ?_ (Ty.sub_any _) | refine allSub_succ' ?_ (Ty.sub_refl _) | refine allSub_succ' ?_ ?_)))
        all_goals skip
        exact Ty.sub_row (by rw [iot_succ, List.filter_append]; simp [hc2])
    ·
      refine t_exit ?_
      refine i_then_exit ?_
      refine i_then_exit ?_
      refine i_block_exit rfl ?_
      refine i_then ?_
      refine t_seq ?_
      refine t_region ?_
      refine mvR rfl ?_
      refine asR rfl ?_
      refine r_nil ?_
      refine i_then ?_
      refine t_ret ?_
      refine i_rp1 rfl rfl ?_
      all_goals skip
      exact ret_row_eq (by decide) (by rw [show k.1 = f.turnings.length by omega]; rfl)
set_option maxRecDepth 100000 in
theorem c_linked (f : Flr) (hs : f.Small) (hr : f.Ranged) : Ctr Try.prog 80 [flrT f] (Ty.int .i64 (linkedM f)) := by
  refine fn_intro Try.func80 rfl (by decide) Try.ntmps80 (by exact Nat.le_of_ble_eq_true rfl) fun w0 M0 => ?_
  have hs1 := hs.bears; have hs2 := hs.bins; have hs3 := hs.turnings; have hs4 := hs.rules
  refine t_seq ?_
  refine t_region ?_
  refine r_box_agg rfl ?_
  refine asI rfl ?_
  refine r_nil ?_
  refine i_then ?_
  refine t_seq ?_
  refine t_seq ?_
  refine t_region ?_
  refine asI rfl ?_
  refine r_nil ?_
  refine i_then ?_
  refine t_block ?_
  refine t_loop (fun (k1 : {k : Nat // ∀ t ∈ f.turnings.take k, (offB t.src (-1) (f.bins.length - 1) || offB t.dst (-1) (f.bins.length - 1)) = false}) => live [(1, Ty.pp (flrTys f)), (3, Ty.int .i64 (k1.1 : Nat))] []) (fun k1 => f.turnings.length - k1.1) (⟨0, by simp⟩) ?_ fun k1 => ?_
  · (refine Ent.mk' ?_ ?_ <;> (repeat' (first | exact allSub_zero | exact allTags_nil | refine allSub_succ' ?_ (Ty.sub_any _) | refine allSub_succ' ?_ (Ty.sub_refl _))))
  ·
    refine t_seq ?_
    refine t_seq ?_
    refine t_region ?_
    refine mvI rfl ?_
    refine r_field_pp rfl rfl rfl rfl rfl (by decide) ?_
    refine r_load_pp rfl rfl rfl rfl ?_
    refine r_len rfl rfl rfl ?_
    refine r_bin rfl rfl rfl ?_
    refine r_nil ?_
    refine i_then ?_
    refine t_cond_dec rfl (fun hc1 => ?_) (fun hc1 => ?_)
    ·
      refine t_skip ?_
      refine i_then ?_
      refine t_seq ?_
      refine t_block ?_
      refine t_seq ?_
      refine t_draw mixed rfl ?_
      refine r_field_pp rfl rfl rfl rfl rfl (by decide) ?_
      refine r_load_pp rfl rfl rfl rfl ?_
      refine mvI rfl ?_
      refine r_index_slN rfl rfl rfl rfl rfl rfl (by omega) ?_
      refine r_field_pp rfl rfl rfl rfl rfl (by decide) ?_
      refine r_load_pp rfl rfl rfl rfl ?_
      refine r_field_pp rfl rfl rfl rfl rfl (by decide) ?_
      refine r_load_pp rfl rfl rfl rfl ?_
      refine r_len rfl rfl rfl ?_
      refine r_sub rfl rfl (by omega) (by omega) ?_
      refine r_call (c_off _ _ _) rfl rfl rfl rfl rfl ?_
      refine mvB rfl ?_
      apply r_guard (s := 30) rfl rfl rfl
      · intro hg; apply opT_of; (refine r_field_pp rfl rfl rfl rfl rfl (by decide) ?_); refine r_nil ?_; exact rfl
      · exact rfl
      · exact rfl
      apply r_guard (s := 30) rfl rfl rfl
      · intro hg; apply opT_strip (s := 31) rfl (by (rw [hg]; rfl)); apply opT_of; (refine r_load_pp rfl rfl rfl rfl ?_); refine r_nil ?_; exact rfl
      · exact rfl
      · exact rfl
      apply r_guard (s := 30) rfl rfl rfl
      · intro hg; apply opT_of; (refine mvI rfl ?_); refine r_nil ?_; exact rfl
      · exact rfl
      · exact rfl
      apply r_guard (s := 30) rfl rfl rfl
      · intro hg; apply opT_strip (s := 32) rfl (by (rw [hg]; rfl)); apply opT_strip (s := 33) rfl (by (rw [hg]; rfl)); apply opT_of; (refine r_index_slN rfl rfl rfl rfl rfl rfl (by omega) ?_); refine r_nil ?_; exact rfl
      · exact rfl
      · exact rfl
      apply r_guard (s := 30) rfl rfl rfl
      · intro hg; apply opT_strip (s := 34) rfl (by (rw [hg]; rfl)); apply opT_of; (refine r_field_pp rfl rfl rfl rfl rfl (by decide) ?_); refine r_nil ?_; exact rfl
      · exact rfl
      · exact rfl
      apply r_guard (s := 30) rfl rfl rfl
      · intro hg; apply opT_strip (s := 35) rfl (by (rw [hg]; rfl)); apply opT_of; (refine r_load_pp rfl rfl rfl rfl ?_); refine r_nil ?_; exact rfl
      · exact rfl
      · exact rfl
      apply r_guard (s := 30) rfl rfl rfl
      · intro hg; apply opT_of; (refine r_field_pp rfl rfl rfl rfl rfl (by decide) ?_); refine r_nil ?_; exact rfl
      · exact rfl
      · exact rfl
      apply r_guard (s := 30) rfl rfl rfl
      · intro hg; apply opT_strip (s := 37) rfl (by (rw [hg]; rfl)); apply opT_of; (refine r_load_pp rfl rfl rfl rfl ?_); refine r_nil ?_; exact rfl
      · exact rfl
      · exact rfl
      apply r_guard (s := 30) rfl rfl rfl
      · intro hg; apply opT_strip (s := 38) rfl (by (rw [hg]; rfl)); apply opT_of; (refine r_len rfl rfl rfl ?_); refine r_nil ?_; exact rfl
      · exact rfl
      · exact rfl
      apply r_guard (s := 30) rfl rfl rfl
      · intro hg; apply opT_strip (s := 39) rfl (by (rw [hg]; rfl)); apply opT_of; (refine r_sub rfl rfl (by omega) (by omega) ?_); refine r_nil ?_; exact rfl
      · exact rfl
      · exact rfl
      apply r_guard (s := 30) rfl rfl rfl
      · intro hg; apply opT_strip (s := 36) rfl (by (rw [hg]; rfl)); apply opT_strip (s := 40) rfl (by (rw [hg]; rfl)); apply opT_of; (refine r_call (c_off _ _ _) rfl rfl rfl rfl rfl ?_); refine r_nil ?_; exact rfl
      · exact rfl
      · exact rfl
      refine r_or rfl rfl ?_
      refine r_nil ?_
      refine ⟨by kernel_rfl, ?_⟩
      refine i_then ?_
      refine t_cond rfl (fun hc2 => ?_) (fun hc2 => ?_)
      ·
        refine t_seq ?_
        refine t_region ?_
        refine asI rfl ?_
        refine r_nil ?_
        refine i_then ?_
        refine t_ret ?_
        refine i_block_ret ?_
        refine i_then_ret ?_
        refine i_then_ret ?_
        refine i_block_ret ?_
        refine i_then_ret ?_
        refine i_rp1 rfl rfl ?_
        all_goals skip
        exact ret_eq rfl rfl (congrArg (Ty.int .i64) (by rw [linkedM, if_pos (any_at (by omega) hc2)]))
      ·
        refine t_skip ?_
        refine i_block ?_
        refine i_then ?_
        refine t_region ?_
        refine mvI rfl ?_
        refine r_add rfl rfl (by omega) (by omega) ?_
        refine asI rfl ?_
        refine r_nil ?_
        refine i_round (⟨k1.1 + 1, ext_false k1.2 (by omega) hc2⟩) ?_ (by show f.turnings.length - (k1.1 + 1) < f.turnings.length - k1.1; omega)
        (refine Ent.mk' ?_ ?_ <;> (repeat' (first | exact allSub_zero | exact allTags_nil | refine allSub_succ' ?_ (Ty.sub_any _) | refine allSub_succ' ?_ (Ty.sub_refl _))))
        all_goals skip
    ·
      refine t_exit ?_
      refine i_then_exit ?_
      refine i_then_exit ?_
      refine i_block_exit rfl ?_
      refine i_then ?_
      refine t_seq ?_
      refine t_seq ?_
      refine t_region ?_
      refine asI rfl ?_
      refine r_nil ?_
      refine i_then ?_
      refine t_block ?_
      refine t_loop (fun (k2 : {k : Nat // ∀ r ∈ f.rules.take k, (offB r.fst 0 (f.turnings.length - 1) || offB r.nxt 0 (f.turnings.length - 1)) = false}) => live [(1, Ty.pp (flrTys f)), (4, Ty.int .i64 (k2.1 : Nat))] []) (fun k2 => f.rules.length - k2.1) (⟨0, by simp⟩) ?_ fun k2 => ?_
      · (refine Ent.mk' ?_ ?_ <;> (repeat' (first | exact allSub_zero | exact allTags_nil | refine allSub_succ' ?_ (Ty.sub_any _) | refine allSub_succ' ?_ (Ty.sub_refl _))))
      ·
        refine t_seq ?_
        refine t_seq ?_
        refine t_region ?_
        refine mvI rfl ?_
        refine r_field_pp rfl rfl rfl rfl rfl (by decide) ?_
        refine r_load_pp rfl rfl rfl rfl ?_
        refine r_len rfl rfl rfl ?_
        refine r_bin rfl rfl rfl ?_
        refine r_nil ?_
        refine i_then ?_
        refine t_cond_dec rfl (fun hc3 => ?_) (fun hc3 => ?_)
        ·
          refine t_skip ?_
          refine i_then ?_
          refine t_seq ?_
          refine t_block ?_
          refine t_seq ?_
          refine t_draw mixed rfl ?_
          refine r_field_pp rfl rfl rfl rfl rfl (by decide) ?_
          refine r_load_pp rfl rfl rfl rfl ?_
          refine mvI rfl ?_
          refine r_index_slN rfl rfl rfl rfl rfl rfl (by omega) ?_
          refine r_field_pp rfl rfl rfl rfl rfl (by decide) ?_
          refine r_load_pp rfl rfl rfl rfl ?_
          refine r_field_pp rfl rfl rfl rfl rfl (by decide) ?_
          refine r_load_pp rfl rfl rfl rfl ?_
          refine r_len rfl rfl rfl ?_
          refine r_sub rfl rfl (by omega) (by omega) ?_
          refine r_call (c_off _ _ _) rfl rfl rfl rfl rfl ?_
          refine mvB rfl ?_
          apply r_guard (s := 61) rfl rfl rfl
          · intro hg; apply opT_of; (refine r_field_pp rfl rfl rfl rfl rfl (by decide) ?_); refine r_nil ?_; exact rfl
          · exact rfl
          · exact rfl
          apply r_guard (s := 61) rfl rfl rfl
          · intro hg; apply opT_strip (s := 62) rfl (by (rw [hg]; rfl)); apply opT_of; (refine r_load_pp rfl rfl rfl rfl ?_); refine r_nil ?_; exact rfl
          · exact rfl
          · exact rfl
          apply r_guard (s := 61) rfl rfl rfl
          · intro hg; apply opT_of; (refine mvI rfl ?_); refine r_nil ?_; exact rfl
          · exact rfl
          · exact rfl
          apply r_guard (s := 61) rfl rfl rfl
          · intro hg; apply opT_strip (s := 63) rfl (by (rw [hg]; rfl)); apply opT_strip (s := 64) rfl (by (rw [hg]; rfl)); apply opT_of; (refine r_index_slN rfl rfl rfl rfl rfl rfl (by omega) ?_); refine r_nil ?_; exact rfl
          · exact rfl
          · exact rfl
          apply r_guard (s := 61) rfl rfl rfl
          · intro hg; apply opT_strip (s := 65) rfl (by (rw [hg]; rfl)); apply opT_of; (refine r_field_pp rfl rfl rfl rfl rfl (by decide) ?_); refine r_nil ?_; exact rfl
          · exact rfl
          · exact rfl
          apply r_guard (s := 61) rfl rfl rfl
          · intro hg; apply opT_strip (s := 66) rfl (by (rw [hg]; rfl)); apply opT_of; (refine r_load_pp rfl rfl rfl rfl ?_); refine r_nil ?_; exact rfl
          · exact rfl
          · exact rfl
          apply r_guard (s := 61) rfl rfl rfl
          · intro hg; apply opT_of; (refine r_field_pp rfl rfl rfl rfl rfl (by decide) ?_); refine r_nil ?_; exact rfl
          · exact rfl
          · exact rfl
          apply r_guard (s := 61) rfl rfl rfl
          · intro hg; apply opT_strip (s := 68) rfl (by (rw [hg]; rfl)); apply opT_of; (refine r_load_pp rfl rfl rfl rfl ?_); refine r_nil ?_; exact rfl
          · exact rfl
          · exact rfl
          apply r_guard (s := 61) rfl rfl rfl
          · intro hg; apply opT_strip (s := 69) rfl (by (rw [hg]; rfl)); apply opT_of; (refine r_len rfl rfl rfl ?_); refine r_nil ?_; exact rfl
          · exact rfl
          · exact rfl
          apply r_guard (s := 61) rfl rfl rfl
          · intro hg; apply opT_strip (s := 70) rfl (by (rw [hg]; rfl)); apply opT_of; (refine r_sub rfl rfl (by omega) (by omega) ?_); refine r_nil ?_; exact rfl
          · exact rfl
          · exact rfl
          apply r_guard (s := 61) rfl rfl rfl
          · intro hg; apply opT_strip (s := 67) rfl (by (rw [hg]; rfl)); apply opT_strip (s := 71) rfl (by (rw [hg]; rfl)); apply opT_of; (refine r_call (c_off _ _ _) rfl rfl rfl rfl rfl ?_); refine r_nil ?_; exact rfl
          · exact rfl
          · exact rfl
          refine r_or rfl rfl ?_
          refine r_nil ?_
          refine ⟨by kernel_rfl, ?_⟩
          refine i_then ?_
          refine t_cond rfl (fun hc4 => ?_) (fun hc4 => ?_)
          ·
            refine t_seq ?_
            refine t_region ?_
            refine asI rfl ?_
            refine r_nil ?_
            refine i_then ?_
            refine t_ret ?_
            refine i_block_ret ?_
            refine i_then_ret ?_
            refine i_then_ret ?_
            refine i_block_ret ?_
            refine i_then_ret ?_
            refine i_rp1 rfl rfl ?_
            all_goals skip
            exact ret_eq rfl rfl (congrArg (Ty.int .i64) (by rw [linkedM, if_neg (ng (any_neg k1.2 (by omega))), if_pos (any_at (by omega) hc4)]))
          ·
            refine t_skip ?_
            refine i_block ?_
            refine i_then ?_
            refine t_region ?_
            refine mvI rfl ?_
            refine r_add rfl rfl (by omega) (by omega) ?_
            refine asI rfl ?_
            refine r_nil ?_
            refine i_round (⟨k2.1 + 1, ext_false k2.2 (by omega) hc4⟩) ?_ (by show f.rules.length - (k2.1 + 1) < f.rules.length - k2.1; omega)
            (refine Ent.mk' ?_ ?_ <;> (repeat' (first | exact allSub_zero | exact allTags_nil | refine allSub_succ' ?_ (Ty.sub_any _) | refine allSub_succ' ?_ (Ty.sub_refl _))))
            all_goals skip
        ·
          refine t_exit ?_
          refine i_then_exit ?_
          refine i_then_exit ?_
          refine i_block_exit rfl ?_
          refine i_then ?_
          refine t_seq ?_
          refine t_seq ?_
          refine t_region ?_
          refine asI rfl ?_
          refine r_nil ?_
          refine i_then ?_
          refine t_block ?_
          refine t_loop (fun (k3 : {k : Nat // ∀ t ∈ f.turnings.take k, decide (t.src = t.dst) = false}) => live [(1, Ty.pp (flrTys f)), (5, Ty.int .i64 (k3.1 : Nat))] []) (fun k3 => f.turnings.length - k3.1) (⟨0, by simp⟩) ?_ fun k3 => ?_
          · (refine Ent.mk' ?_ ?_ <;> (repeat' (first | exact allSub_zero | exact allTags_nil | refine allSub_succ' ?_ (Ty.sub_any _) | refine allSub_succ' ?_ (Ty.sub_refl _))))
          ·
            refine t_seq ?_
            refine t_seq ?_
            refine t_region ?_
            refine mvI rfl ?_
            refine r_field_pp rfl rfl rfl rfl rfl (by decide) ?_
            refine r_load_pp rfl rfl rfl rfl ?_
            refine r_len rfl rfl rfl ?_
            refine r_bin rfl rfl rfl ?_
            refine r_nil ?_
            refine i_then ?_
            refine t_cond_dec rfl (fun hc5 => ?_) (fun hc5 => ?_)
            ·
              refine t_skip ?_
              refine i_then ?_
              refine t_seq ?_
              refine t_block ?_
              refine t_seq ?_
              refine t_draw mixed rfl ?_
              refine r_field_pp rfl rfl rfl rfl rfl (by decide) ?_
              refine r_load_pp rfl rfl rfl rfl ?_
              refine mvI rfl ?_
              refine r_index_slN rfl rfl rfl rfl rfl rfl (by omega) ?_
              refine r_field_pp rfl rfl rfl rfl rfl (by decide) ?_
              refine r_load_pp rfl rfl rfl rfl ?_
              refine r_field_pp rfl rfl rfl rfl rfl (by decide) ?_
              refine r_load_pp rfl rfl rfl rfl ?_
              refine mvI rfl ?_
              refine r_index_slN rfl rfl rfl rfl rfl rfl (by omega) ?_
              refine r_field_pp rfl rfl rfl rfl rfl (by decide) ?_
              refine r_load_pp rfl rfl rfl rfl ?_
              refine r_bin rfl rfl rfl ?_
              refine r_nil ?_
              refine ⟨by kernel_rfl, ?_⟩
              refine i_then ?_
              refine t_cond_dec rfl (fun hc6 => ?_) (fun hc6 => ?_)
              ·
                refine t_seq ?_
                refine t_region ?_
                refine asI rfl ?_
                refine r_nil ?_
                refine i_then ?_
                refine t_ret ?_
                refine i_block_ret ?_
                refine i_then_ret ?_
                refine i_then_ret ?_
                refine i_block_ret ?_
                refine i_then_ret ?_
                refine i_rp1 rfl rfl ?_
                all_goals skip
                exact ret_eq rfl rfl (congrArg (Ty.int .i64) (by rw [linkedM, if_neg (ng (any_neg k1.2 (by omega))), if_neg (ng (any_neg k2.2 (by omega))), if_pos (any_at (q := fun t : Trn => decide (t.src = t.dst)) (k := k3.1) (by omega) (decide_eq_true hc6))]))
              ·
                refine t_skip ?_
                refine i_block ?_
                refine i_then ?_
                refine t_region ?_
                refine mvI rfl ?_
                refine r_add rfl rfl (by omega) (by omega) ?_
                refine asI rfl ?_
                refine r_nil ?_
                refine i_round (⟨k3.1 + 1, ext_false k3.2 (by omega) (decide_eq_false hc6)⟩) ?_ (by show f.turnings.length - (k3.1 + 1) < f.turnings.length - k3.1; omega)
                (refine Ent.mk' ?_ ?_ <;> (repeat' (first | exact allSub_zero | exact allTags_nil | refine allSub_succ' ?_ (Ty.sub_any _) | refine allSub_succ' ?_ (Ty.sub_refl _))))
                all_goals skip
            ·
              refine t_exit ?_
              refine i_then_exit ?_
              refine i_then_exit ?_
              refine i_block_exit rfl ?_
              refine i_then ?_
              refine t_seq ?_
              refine t_seq ?_
              refine t_region ?_
              refine asI rfl ?_
              refine r_nil ?_
              refine i_then ?_
              refine t_block ?_
              refine t_loop (fun (k4 : {k : Nat // ∀ j, j < k → f.wrongAt j (nth f.bins j) = false}) => live [(1, Ty.pp (flrTys f)), (6, Ty.int .i64 (k4.1 : Nat))] []) (fun k4 => f.bins.length - k4.1) (⟨0, fun j hj => absurd hj (Nat.not_lt_zero _)⟩) ?_ fun k4 => ?_
              · (refine Ent.mk' ?_ ?_ <;> (repeat' (first | exact allSub_zero | exact allTags_nil | refine allSub_succ' ?_ (Ty.sub_any _) | refine allSub_succ' ?_ (Ty.sub_refl _))))
              ·
                have hbl := hr.bears
                refine t_seq ?_
                refine t_seq ?_
                refine t_region ?_
                refine mvI rfl ?_
                refine r_field_pp rfl rfl rfl rfl rfl (by decide) ?_
                refine r_load_pp rfl rfl rfl rfl ?_
                refine r_len rfl rfl rfl ?_
                refine r_bin rfl rfl rfl ?_
                refine r_nil ?_
                refine i_then ?_
                refine t_cond_dec rfl (fun hc7 => ?_) (fun hc7 => ?_)
                ·
                  refine t_skip ?_
                  refine i_then ?_
                  refine t_seq ?_
                  refine t_block ?_
                  refine t_seq ?_
                  have hsl : (nth f.bins k4.1).shares.length = f.bears.length := hr.shares _ (nth_mem (by omega))
                  refine t_region ?_
                  refine asI rfl ?_
                  refine asI rfl ?_
                  refine r_nil ?_
                  refine i_then ?_
                  refine t_seq ?_
                  refine t_seq ?_
                  refine t_region ?_
                  refine asI rfl ?_
                  refine r_nil ?_
                  refine i_then ?_
                  refine t_block ?_
                  refine t_loop (fun (m : Nat) => live [(1, Ty.pp (flrTys f)), (6, Ty.int .i64 (k4.1 : Nat)), (7, Ty.int .i64 ((nth f.bins k4.1).shares.take m).sum), (8, Ty.int .i64 0), (9, Ty.int .i64 (m : Nat))] []) (fun m => f.bears.length - m) (0) ?_ fun m => ?_
                  · (refine Ent.mk' ?_ ?_ <;> (repeat' (first | exact allSub_zero | exact allTags_nil | refine allSub_succ' ?_ (Ty.sub_any _) | refine allSub_succ' ?_ (Ty.sub_refl _))))
                  ·
                    have hsb := take_bound (hr.sharesR (nth f.bins k4.1) (nth_mem (by omega))) m
                    simp only [List.length_take] at hsb
                    refine t_seq ?_
                    refine t_seq ?_
                    refine t_region ?_
                    refine mvI rfl ?_
                    refine r_field_pp rfl rfl rfl rfl rfl (by decide) ?_
                    refine r_load_pp rfl rfl rfl rfl ?_
                    refine r_len rfl rfl rfl ?_
                    refine r_bin rfl rfl rfl ?_
                    refine r_nil ?_
                    refine i_then ?_
                    refine t_cond_dec rfl (fun hc8 => ?_) (fun hc8 => ?_)
                    ·
                      refine t_skip ?_
                      refine i_then ?_
                      refine t_seq ?_
                      refine t_block ?_
                      have hsx := hr.sharesR (nth f.bins k4.1) (nth_mem (by omega)) (nth (nth f.bins k4.1).shares m) (nth_mem (by omega))
                      refine t_region ?_
                      refine mvI rfl ?_
                      refine r_field_pp rfl rfl rfl rfl rfl (by decide) ?_
                      refine r_load_pp rfl rfl rfl rfl ?_
                      refine mvI rfl ?_
                      refine r_index_slN rfl rfl rfl rfl rfl rfl (by omega) ?_
                      refine r_field_pp rfl rfl rfl rfl rfl (by decide) ?_
                      refine r_load_pp rfl rfl rfl rfl ?_
                      refine mvI rfl ?_
                      refine r_index_slN rfl rfl rfl rfl rfl rfl (by omega) ?_
                      refine r_load_pp rfl rfl rfl rfl ?_
                      refine r_add rfl rfl (by omega) (by omega) ?_
                      refine asI rfl ?_
                      refine r_nil ?_
                      refine i_block ?_
                      refine i_then ?_
                      refine t_region ?_
                      refine mvI rfl ?_
                      refine r_add rfl rfl (by omega) (by omega) ?_
                      refine asI rfl ?_
                      refine r_nil ?_
                      refine i_round (m + 1) ?_ (by omega)
                      (refine Ent.mk' ?_ ?_ <;> (repeat' (first | exact allSub_zero | exact allTags_nil | refine allSub_succ' ?_ (Ty.sub_any _) | refine allSub_succ' ?_ (Ty.sub_refl _) | refine allSub_succ' ?_ ?_)))
                      all_goals skip
                      exact Ty.sub_int (by rw [take_nth (by omega), List.sum_append]; simp)
                    ·
                      refine t_exit ?_
                      refine i_then_exit ?_
                      refine i_then_exit ?_
                      refine i_block_exit rfl ?_
                      refine i_then ?_
                      refine t_seq ?_
                      refine t_seq ?_
                      refine t_region ?_
                      refine asI rfl ?_
                      refine r_nil ?_
                      refine i_then ?_
                      refine t_block ?_
                      refine t_loop (fun (n : Nat) => live [(1, Ty.pp (flrTys f)), (6, Ty.int .i64 (k4.1 : Nat)), (7, Ty.int .i64 ((nth f.bins k4.1).shares.take m).sum), (8, Ty.int .i64 (takenM f (f.turnings.take n) k4.1)), (10, Ty.int .i64 (n : Nat))] []) (fun n => f.turnings.length - n) (0) ?_ fun n => ?_
                      · (refine Ent.mk' ?_ ?_ <;> (repeat' (first | exact allSub_zero | exact allTags_nil | refine allSub_succ' ?_ (Ty.sub_any _) | refine allSub_succ' ?_ (Ty.sub_refl _))))
                      ·
                        have htb := taken_bound hr n k4.1
                        refine t_seq ?_
                        refine t_seq ?_
                        refine t_region ?_
                        refine mvI rfl ?_
                        refine r_field_pp rfl rfl rfl rfl rfl (by decide) ?_
                        refine r_load_pp rfl rfl rfl rfl ?_
                        refine r_len rfl rfl rfl ?_
                        refine r_bin rfl rfl rfl ?_
                        refine r_nil ?_
                        refine i_then ?_
                        refine t_cond_dec rfl (fun hc9 => ?_) (fun hc9 => ?_)
                        ·
                          refine t_skip ?_
                          refine i_then ?_
                          refine t_seq ?_
                          refine t_block ?_
                          refine t_seq ?_
                          refine t_region ?_
                          refine r_field_pp rfl rfl rfl rfl rfl (by decide) ?_
                          refine r_load_pp rfl rfl rfl rfl ?_
                          refine mvI rfl ?_
                          refine r_index_slN rfl rfl rfl rfl rfl rfl (by omega) ?_
                          refine r_field_pp rfl rfl rfl rfl rfl (by decide) ?_
                          refine r_load_pp rfl rfl rfl rfl ?_
                          refine mvI rfl ?_
                          refine r_bin rfl rfl rfl ?_
                          refine r_nil ?_
                          refine i_then ?_
                          refine t_cond_dec rfl (fun hc10 => ?_) (fun hc10 => ?_)
                          ·
                            have htx := hr.sacksR (nth f.turnings n) (nth_mem (by omega))
                            refine t_region ?_
                            refine mvI rfl ?_
                            refine r_field_pp rfl rfl rfl rfl rfl (by decide) ?_
                            refine r_load_pp rfl rfl rfl rfl ?_
                            refine mvI rfl ?_
                            refine r_index_slN rfl rfl rfl rfl rfl rfl (by omega) ?_
                            refine r_field_pp rfl rfl rfl rfl rfl (by decide) ?_
                            refine r_load_pp rfl rfl rfl rfl ?_
                            refine r_add rfl rfl (by omega) (by omega) ?_
                            refine asI rfl ?_
                            refine r_nil ?_
                            refine i_block ?_
                            refine i_then ?_
                            refine t_region ?_
                            refine mvI rfl ?_
                            refine r_add rfl rfl (by omega) (by omega) ?_
                            refine asI rfl ?_
                            refine r_nil ?_
                            refine i_round (n + 1) ?_ (by omega)
                            (refine Ent.mk' ?_ ?_ <;> (repeat' (first | exact allSub_zero | exact allTags_nil | refine allSub_succ' ?_ (Ty.sub_any _) | refine allSub_succ' ?_ (Ty.sub_refl _) | refine allSub_succ' ?_ ?_)))
                            all_goals skip
                            exact Ty.sub_int (by simp only [takenM]; rw [take_nth (by omega), List.map_append, List.sum_append]; simp [hc10])
                          ·
                            refine t_skip ?_
                            refine i_block ?_
                            refine i_then ?_
                            refine t_region ?_
                            refine mvI rfl ?_
                            refine r_add rfl rfl (by omega) (by omega) ?_
                            refine asI rfl ?_
                            refine r_nil ?_
                            refine i_round (n + 1) ?_ (by omega)
                            (refine Ent.mk' ?_ ?_ <;> (repeat' (first | exact allSub_zero | exact allTags_nil | refine allSub_succ' ?_ (Ty.sub_any _) | refine allSub_succ' ?_ (Ty.sub_refl _) | refine allSub_succ' ?_ ?_)))
                            all_goals skip
                            exact Ty.sub_int (by simp only [takenM]; rw [take_nth (by omega), List.map_append, List.sum_append]; simp [hc10])
                        ·
                          refine t_exit ?_
                          refine i_then_exit ?_
                          refine i_then_exit ?_
                          refine i_block_exit rfl ?_
                          refine i_then ?_
                          refine t_seq ?_
                          refine t_region ?_
                          refine mvI rfl ?_
                          refine r_bin rfl rfl rfl ?_
                          refine mvB rfl ?_
                          apply r_guard (s := 144) rfl rfl rfl
                          · intro hg; apply opT_of; (refine mvI rfl ?_); refine r_nil ?_; exact rfl
                          · exact rfl
                          · exact rfl
                          apply r_guard (s := 144) rfl rfl rfl
                          · intro hg; apply opT_of; (refine r_field_pp rfl rfl rfl rfl rfl (by decide) ?_); refine r_nil ?_; exact rfl
                          · exact rfl
                          · exact rfl
                          apply r_guard (s := 144) rfl rfl rfl
                          · intro hg; apply opT_strip (s := 146) rfl (by (rw [hg]; rfl)); apply opT_of; (refine r_load_pp rfl rfl rfl rfl ?_); refine r_nil ?_; exact rfl
                          · exact rfl
                          · exact rfl
                          apply r_guard (s := 144) rfl rfl rfl
                          · intro hg; apply opT_of; (refine mvI rfl ?_); refine r_nil ?_; exact rfl
                          · exact rfl
                          · exact rfl
                          apply r_guard (s := 144) rfl rfl rfl
                          · intro hg; apply opT_strip (s := 147) rfl (by (rw [hg]; rfl)); apply opT_strip (s := 148) rfl (by (rw [hg]; rfl)); apply opT_of; (refine r_index_slN rfl rfl rfl rfl rfl rfl (by omega) ?_); refine r_nil ?_; exact rfl
                          · exact rfl
                          · exact rfl
                          apply r_guard (s := 144) rfl rfl rfl
                          · intro hg; apply opT_strip (s := 149) rfl (by (rw [hg]; rfl)); apply opT_of; (refine r_field_pp rfl rfl rfl rfl rfl (by decide) ?_); refine r_nil ?_; exact rfl
                          · exact rfl
                          · exact rfl
                          apply r_guard (s := 144) rfl rfl rfl
                          · intro hg; apply opT_strip (s := 150) rfl (by (rw [hg]; rfl)); apply opT_of; (refine r_load_pp rfl rfl rfl rfl ?_); refine r_nil ?_; exact rfl
                          · exact rfl
                          · exact rfl
                          apply r_guard (s := 144) rfl rfl rfl
                          · intro hg; apply opT_strip (s := 145) rfl (by (rw [hg]; rfl)); apply opT_strip (s := 151) rfl (by (rw [hg]; rfl)); apply opT_of; (refine r_bin rfl rfl rfl ?_); refine r_nil ?_; exact rfl
                          · exact rfl
                          · exact rfl
                          refine r_or rfl rfl ?_
                          refine r_nil ?_
                          refine i_then ?_
                          refine t_cond rfl (fun hc11 => ?_) (fun hc11 => ?_)
                          ·
                            refine t_seq ?_
                            refine t_region ?_
                            refine asI rfl ?_
                            refine r_nil ?_
                            refine i_then ?_
                            refine t_ret ?_
                            refine i_block_ret ?_
                            refine i_then_ret ?_
                            refine i_then_ret ?_
                            refine i_block_ret ?_
                            refine i_then_ret ?_
                            refine i_rp1 rfl rfl ?_
                            all_goals skip
                            exact ret_eq rfl rfl (congrArg (Ty.int .i64) (by rw [linkedM, if_neg (ng (any_neg k1.2 (by omega))), if_neg (ng (any_neg k2.2 (by omega))), if_neg (ng (any_neg k3.2 (by omega))), if_pos (iot_any_pos (k := k4.1) (by omega) (by rw [Int.toNat_natCast, getD_nth, Flr.wrongAt, ← List.take_of_length_le (l := (nth f.bins k4.1).shares) (i := m) (by omega), ← List.take_of_length_le (l := f.turnings) (i := n) (by omega)]; exact hc11))]))
                          ·
                            refine t_skip ?_
                            refine i_block ?_
                            refine i_then ?_
                            refine t_region ?_
                            refine mvI rfl ?_
                            refine r_add rfl rfl (by omega) (by omega) ?_
                            refine asI rfl ?_
                            refine r_nil ?_
                            refine i_round (⟨k4.1 + 1, ext_lt k4.2 (by rw [Flr.wrongAt, ← List.take_of_length_le (l := (nth f.bins k4.1).shares) (i := m) (by omega), ← List.take_of_length_le (l := f.turnings) (i := n) (by omega)]; exact hc11)⟩) ?_ (by show f.bins.length - (k4.1 + 1) < f.bins.length - k4.1; omega)
                            (refine Ent.mk' ?_ ?_ <;> (repeat' (first | exact allSub_zero | exact allTags_nil | refine allSub_succ' ?_ (Ty.sub_any _) | refine allSub_succ' ?_ (Ty.sub_refl _))))
                            all_goals skip
                ·
                  refine t_exit ?_
                  refine i_then_exit ?_
                  refine i_then_exit ?_
                  refine i_block_exit rfl ?_
                  refine i_then ?_
                  refine t_seq ?_
                  refine t_seq ?_
                  refine t_region ?_
                  refine asI rfl ?_
                  refine r_nil ?_
                  refine i_then ?_
                  refine t_block ?_
                  refine t_loop (fun (k5 : {k : Nat // ∀ j : Nat, j < k → decide ((j : Int) ∈ aheadM f j) = false}) => live [(1, Ty.pp (flrTys f)), (11, Ty.int .i64 (k5.1 : Nat))] []) (fun k5 => f.turnings.length - k5.1) (⟨0, fun j hj => absurd hj (Nat.not_lt_zero _)⟩) ?_ fun k5 => ?_
                  · (refine Ent.mk' ?_ ?_ <;> (repeat' (first | exact allSub_zero | exact allTags_nil | refine allSub_succ' ?_ (Ty.sub_any _) | refine allSub_succ' ?_ (Ty.sub_refl _))))
                  ·
                    refine t_seq ?_
                    refine t_seq ?_
                    refine t_region ?_
                    refine mvI rfl ?_
                    refine r_field_pp rfl rfl rfl rfl rfl (by decide) ?_
                    refine r_load_pp rfl rfl rfl rfl ?_
                    refine r_len rfl rfl rfl ?_
                    refine r_bin rfl rfl rfl ?_
                    refine r_nil ?_
                    refine i_then ?_
                    refine t_cond_dec rfl (fun hc12 => ?_) (fun hc12 => ?_)
                    ·
                      refine t_skip ?_
                      refine i_then ?_
                      refine t_seq ?_
                      refine t_block ?_
                      refine t_seq ?_
                      refine t_region ?_
                      refine r_load_ppN rfl rfl rfl (by exact Nat.le_of_ble_eq_true rfl) ?_
                      refine mvI rfl ?_
                      refine r_call (c_Ahead f hs _) rfl rfl rfl rfl rfl ?_
                      refine mvI rfl ?_
                      refine r_call (c_has _ _) rfl rfl rfl rfl rfl ?_
                      refine r_nil ?_
                      refine i_then ?_
                      refine t_cond_dec rfl (fun hc13 => ?_) (fun hc13 => ?_)
                      ·
                        refine t_seq ?_
                        refine t_region ?_
                        refine asI rfl ?_
                        refine r_nil ?_
                        refine i_then ?_
                        refine t_ret ?_
                        refine i_block_ret ?_
                        refine i_then_ret ?_
                        refine i_then_ret ?_
                        refine i_block_ret ?_
                        refine i_then_ret ?_
                        refine i_rp1 rfl rfl ?_
                        all_goals skip
                        exact ret_eq rfl rfl (congrArg (Ty.int .i64) (by rw [linkedM, if_neg (ng (any_neg k1.2 (by omega))), if_neg (ng (any_neg k2.2 (by omega))), if_neg (ng (any_neg k3.2 (by omega))), if_neg (ng (iot_any_neg fun k hk => by rw [Int.toNat_natCast, getD_nth]; exact k4.2 k (by omega))), if_pos (iot_any_pos (k := k5.1) (by omega) (decide_eq_true hc13))]))
                      ·
                        refine t_skip ?_
                        refine i_block ?_
                        refine i_then ?_
                        refine t_region ?_
                        refine mvI rfl ?_
                        refine r_add rfl rfl (by omega) (by omega) ?_
                        refine asI rfl ?_
                        refine r_nil ?_
                        refine i_round (⟨k5.1 + 1, ext_lt k5.2 (decide_eq_false hc13)⟩) ?_ (by show f.turnings.length - (k5.1 + 1) < f.turnings.length - k5.1; omega)
                        (refine Ent.mk' ?_ ?_ <;> (repeat' (first | exact allSub_zero | exact allTags_nil | refine allSub_succ' ?_ (Ty.sub_any _) | refine allSub_succ' ?_ (Ty.sub_refl _))))
                        all_goals skip
                    ·
                      refine t_exit ?_
                      refine i_then_exit ?_
                      refine i_then_exit ?_
                      refine i_block_exit rfl ?_
                      refine i_then ?_
                      refine t_seq ?_
                      refine t_region ?_
                      refine asI rfl ?_
                      refine r_nil ?_
                      refine i_then ?_
                      refine t_ret ?_
                      refine i_rp1 rfl rfl ?_
                      all_goals skip
                      exact ret_eq rfl rfl (congrArg (Ty.int .i64) (by rw [linkedM, if_neg (ng (any_neg k1.2 (by omega))), if_neg (ng (any_neg k2.2 (by omega))), if_neg (ng (any_neg k3.2 (by omega))), if_neg (ng (iot_any_neg fun k hk => by rw [Int.toNat_natCast, getD_nth]; exact k4.2 k (by omega))), if_neg (ng (iot_any_neg fun k hk => k5.2 k (by omega)))]))
end Go.Proofs.Ytifgbnbkimcchaa

namespace Go.Proofs.Ytifgbnbkimcchaa
open Go.T
def orderM (f : Flr) (order : List Int) : Int :=
  if (order.length : Int) ≠ f.turnings.length then 2
  else if order.any fun x => decide (x < 0 ∨ x ≥ f.turnings.length) then 1
  else if (iot order.length).any fun i => decide (nth order i.toNat ∈ order.take i.toNat) then 5
  else if (iot order.length).any fun i => (aheadM f (nth order i.toNat)).any fun y => !decide (y ∈ order.take i.toNat) then 4
  else 0
def Flr.Named (f : Flr) : Prop := ∀ t ∈ f.turnings, (-1 ≤ t.src ∧ t.src < f.bins.length) ∧ (-1 ≤ t.dst ∧ t.dst < f.bins.length)
def half1 (t : Trn) (s : List Int) : List Int := if t.src ≥ 0 then s.set t.src.toNat (nth s t.src.toNat - t.sacks) else s
def half2 (t : Trn) (s : List Int) : List Int := if t.dst ≥ 0 then s.set t.dst.toNat (nth s t.dst.toNat + t.sacks) else s
def stepS (f : Flr) (s : List Int) (i : Int) : List Int := half2 (nth f.turnings i.toNat) (half1 (nth f.turnings i.toNat) s)
def stateM (f : Flr) (order : List Int) (k : Nat) : List Int := (order.take k).foldl (stepS f) (f.bins.map Bin.has)
def Abs (B : Int) (s : List Int) : Prop := ∀ x ∈ s, -B ≤ x ∧ x ≤ B
def sumT (f : Flr) (s : List Int) (i b : Nat) : Int := ((List.range i).map fun q => nth s q * nth (nth f.bins q).shares b).sum
theorem share_bound {f : Flr} (hr : f.Ranged) {i b : Nat} (hi : i < f.bins.length) : 0 ≤ nth (nth f.bins i).shares b ∧ nth (nth f.bins i).shares b ≤ 4 := by
  rcases Nat.lt_or_ge b (nth f.bins i).shares.length with hk | hk
  · exact hr.sharesR _ (nth_mem hi) _ (nth_mem hk)
  · have : nth (nth f.bins i).shares b = 0 := by
      show (nth f.bins i).shares.getD b default = 0
      rw [List.getD_eq_getElem?_getD, List.getElem?_eq_none hk]; rfl
    omega
def partM (f : Flr) (s : List Int) (i j : Nat) : List Int := (List.range f.bears.length).map fun b => if b < j then sumT f s (i + 1) b else sumT f s i b
def loadM (f : Flr) (s : List Int) : List Int := (List.range f.bears.length).map fun b => sumT f s f.bins.length b
def loadsM (f : Flr) (order : List Int) : List (List Int) := (List.range (order.length + 1)).map fun k => loadM f (stateM f order k)
end Go.Proofs.Ytifgbnbkimcchaa

namespace Go.Proofs.Ytifgbnbkimcchaa
open Go Go.T
attribute [local irreducible] dInt dBool dSl dPp dPtr dAgg dTup dClo dAny dEx dStr dGd dCells dVec dVs dRow dOp nth Tri Into TOps Ctr bodyPost Exit.then Exit.inBlock Code.wp Code.wpIn
set_option maxRecDepth 100000 in
theorem c_rCheck (f : Flr) (hs : f.Small) : Ctr Try.prog 18 [flrT f] (Ty.int .i64 (checkM f)) := by
  refine fn_intro Try.func18 rfl (by decide) Try.ntmps18 (by exact Nat.le_of_ble_eq_true rfl) fun w0 M0 => ?_
  have hs1 := hs.bears; have hs2 := hs.bins; have hs3 := hs.turnings; have hs4 := hs.rules
  refine t_seq ?_
  refine t_region ?_
  refine r_box_agg rfl ?_
  refine asI rfl ?_
  refine r_nil ?_
  refine i_then ?_
  refine t_seq ?_
  refine t_seq ?_
  refine t_region ?_
  refine r_field_pp rfl rfl rfl rfl rfl (by decide) ?_
  refine r_load_pp rfl rfl rfl rfl ?_
  refine r_len rfl rfl rfl ?_
  refine r_call (c_off _ _ _) rfl rfl rfl rfl rfl ?_
  refine mvB rfl ?_
  apply r_guard (s := 12) rfl rfl rfl
  · intro hg; apply opT_of; (refine r_field_pp rfl rfl rfl rfl rfl (by decide) ?_); refine r_nil ?_; exact rfl
  · exact rfl
  · exact rfl
  apply r_guard (s := 12) rfl rfl rfl
  · intro hg; apply opT_strip (s := 13) rfl (by (rw [hg]; rfl)); apply opT_of; (refine r_load_pp rfl rfl rfl rfl ?_); refine r_nil ?_; exact rfl
  · exact rfl
  · exact rfl
  apply r_guard (s := 12) rfl rfl rfl
  · intro hg; apply opT_strip (s := 14) rfl (by (rw [hg]; rfl)); apply opT_of; (refine r_len rfl rfl rfl ?_); refine r_nil ?_; exact rfl
  · exact rfl
  · exact rfl
  apply r_guard (s := 12) rfl rfl rfl
  · intro hg; apply opT_strip (s := 15) rfl (by (rw [hg]; rfl)); apply opT_of; (refine r_bin rfl rfl rfl ?_); refine r_nil ?_; exact rfl
  · exact rfl
  · exact rfl
  refine r_or rfl rfl ?_
  refine mvB rfl ?_
  apply r_guard (s := 18) rfl rfl rfl
  · intro hg; apply opT_of; (refine r_field_pp rfl rfl rfl rfl rfl (by decide) ?_); refine r_nil ?_; exact rfl
  · exact rfl
  · exact rfl
  apply r_guard (s := 18) rfl rfl rfl
  · intro hg; apply opT_strip (s := 19) rfl (by (rw [hg]; rfl)); apply opT_of; (refine r_load_pp rfl rfl rfl rfl ?_); refine r_nil ?_; exact rfl
  · exact rfl
  · exact rfl
  apply r_guard (s := 18) rfl rfl rfl
  · intro hg; apply opT_strip (s := 20) rfl (by (rw [hg]; rfl)); apply opT_of; (refine r_len rfl rfl rfl ?_); refine r_nil ?_; exact rfl
  · exact rfl
  · exact rfl
  apply r_guard (s := 18) rfl rfl rfl
  · intro hg; apply opT_strip (s := 21) rfl (by (rw [hg]; rfl)); apply opT_of; (refine r_bin rfl rfl rfl ?_); refine r_nil ?_; exact rfl
  · exact rfl
  · exact rfl
  refine r_or rfl rfl ?_
  refine mvB rfl ?_
  apply r_guard (s := 24) rfl rfl rfl
  · intro hg; apply opT_of; (refine r_field_pp rfl rfl rfl rfl rfl (by decide) ?_); refine r_nil ?_; exact rfl
  · exact rfl
  · exact rfl
  apply r_guard (s := 24) rfl rfl rfl
  · intro hg; apply opT_strip (s := 25) rfl (by (rw [hg]; rfl)); apply opT_of; (refine r_load_pp rfl rfl rfl rfl ?_); refine r_nil ?_; exact rfl
  · exact rfl
  · exact rfl
  apply r_guard (s := 24) rfl rfl rfl
  · intro hg; apply opT_strip (s := 26) rfl (by (rw [hg]; rfl)); apply opT_of; (refine r_len rfl rfl rfl ?_); refine r_nil ?_; exact rfl
  · exact rfl
  · exact rfl
  apply r_guard (s := 24) rfl rfl rfl
  · intro hg; apply opT_strip (s := 27) rfl (by (rw [hg]; rfl)); apply opT_of; (refine r_bin rfl rfl rfl ?_); refine r_nil ?_; exact rfl
  · exact rfl
  · exact rfl
  refine r_or rfl rfl ?_
  refine r_nil ?_
  refine i_then ?_
  refine t_cond rfl (fun hc1 => ?_) (fun hc1 => ?_)
  ·
    refine t_seq ?_
    refine t_region ?_
    refine asI rfl ?_
    refine r_nil ?_
    refine i_then ?_
    refine t_ret ?_
    refine i_then_ret ?_
    refine i_rp1 rfl rfl ?_
    all_goals skip
    exact ret_eq rfl rfl (congrArg (Ty.int .i64) (by rw [checkM, if_pos (show f.many = true from hc1)]))
  ·
    refine t_skip ?_
    refine i_then ?_
    refine t_seq ?_
    refine t_seq ?_
    refine t_region ?_
    refine asI rfl ?_
    refine r_nil ?_
    refine i_then ?_
    refine t_block ?_
    refine t_loop (fun (k1 : {k : Nat // ∀ b ∈ f.bins.take k, (!decide ((b.shares.length : Int) = f.bears.length)) = false}) => live [(1, Ty.pp (flrTys f)), (3, Ty.int .i64 (k1.1 : Nat))] []) (fun k1 => f.bins.length - k1.1) (⟨0, by simp⟩) ?_ fun k1 => ?_
    · (refine Ent.mk' ?_ ?_ <;> (repeat' (first | exact allSub_zero | exact allTags_nil | refine allSub_succ' ?_ (Ty.sub_any _) | refine allSub_succ' ?_ (Ty.sub_refl _))))
    ·
      refine t_seq ?_
      refine t_seq ?_
      refine t_region ?_
      refine mvI rfl ?_
      refine r_field_pp rfl rfl rfl rfl rfl (by decide) ?_
      refine r_load_pp rfl rfl rfl rfl ?_
      refine r_len rfl rfl rfl ?_
      refine r_bin rfl rfl rfl ?_
      refine r_nil ?_
      refine i_then ?_
      refine t_cond_dec rfl (fun hc2 => ?_) (fun hc2 => ?_)
      ·
        refine t_skip ?_
        refine i_then ?_
        refine t_seq ?_
        refine t_block ?_
        refine t_seq ?_
        refine t_draw mixed rfl ?_
        refine r_field_pp rfl rfl rfl rfl rfl (by decide) ?_
        refine r_load_pp rfl rfl rfl rfl ?_
        refine mvI rfl ?_
        refine r_index_slN rfl rfl rfl rfl rfl rfl (by omega) ?_
        refine r_field_pp rfl rfl rfl rfl rfl (by decide) ?_
        refine r_load_pp rfl rfl rfl rfl ?_
        refine r_len rfl rfl rfl ?_
        refine r_field_pp rfl rfl rfl rfl rfl (by decide) ?_
        refine r_load_pp rfl rfl rfl rfl ?_
        refine r_len rfl rfl rfl ?_
        refine r_bin rfl rfl rfl ?_
        refine r_nil ?_
        refine ⟨by kernel_rfl, ?_⟩
        refine i_then ?_
        refine t_cond_ndec rfl (fun hc3 => ?_) (fun hc3 => ?_)
        ·
          refine t_seq ?_
          refine t_region ?_
          refine asI rfl ?_
          refine r_nil ?_
          refine i_then ?_
          refine t_ret ?_
          refine i_block_ret ?_
          refine i_then_ret ?_
          refine i_then_ret ?_
          refine i_block_ret ?_
          refine i_then_ret ?_
          refine i_rp1 rfl rfl ?_
          all_goals skip
          exact ret_eq rfl rfl (congrArg (Ty.int .i64) (by rw [checkM, if_neg (ng (show f.many = false from hc1)), if_pos (any_at (q := fun b : Bin => !decide ((b.shares.length : Int) = f.bears.length)) (k := k1.1) (by omega) (by rw [decide_eq_false hc3]; rfl))]))
        ·
          refine t_skip ?_
          refine i_block ?_
          refine i_then ?_
          refine t_region ?_
          refine mvI rfl ?_
          refine r_add rfl rfl (by omega) (by omega) ?_
          refine asI rfl ?_
          refine r_nil ?_
          refine i_round (⟨k1.1 + 1, ext_false k1.2 (by omega) (by rw [decide_eq_true hc3]; rfl)⟩) ?_ (by show f.bins.length - (k1.1 + 1) < f.bins.length - k1.1; omega)
          (refine Ent.mk' ?_ ?_ <;> (repeat' (first | exact allSub_zero | exact allTags_nil | refine allSub_succ' ?_ (Ty.sub_any _) | refine allSub_succ' ?_ (Ty.sub_refl _))))
          all_goals skip
      ·
        refine t_exit ?_
        refine i_then_exit ?_
        refine i_then_exit ?_
        refine i_block_exit rfl ?_
        refine i_then ?_
        refine t_seq ?_
        refine t_seq ?_
        refine t_region ?_
        refine asI rfl ?_
        refine r_nil ?_
        refine i_then ?_
        refine t_block ?_
        refine t_loop (fun (k2 : {k : Nat // ∀ n ∈ f.bears.take k, offB n 0 4000 = false}) => live [(1, Ty.pp (flrTys f)), (4, Ty.int .i64 (k2.1 : Nat))] []) (fun k2 => f.bears.length - k2.1) (⟨0, by simp⟩) ?_ fun k2 => ?_
        · (refine Ent.mk' ?_ ?_ <;> (repeat' (first | exact allSub_zero | exact allTags_nil | refine allSub_succ' ?_ (Ty.sub_any _) | refine allSub_succ' ?_ (Ty.sub_refl _))))
        ·
          refine t_seq ?_
          refine t_seq ?_
          refine t_region ?_
          refine mvI rfl ?_
          refine r_field_pp rfl rfl rfl rfl rfl (by decide) ?_
          refine r_load_pp rfl rfl rfl rfl ?_
          refine r_len rfl rfl rfl ?_
          refine r_bin rfl rfl rfl ?_
          refine r_nil ?_
          refine i_then ?_
          refine t_cond_dec rfl (fun hc4 => ?_) (fun hc4 => ?_)
          ·
            refine t_skip ?_
            refine i_then ?_
            refine t_seq ?_
            refine t_block ?_
            refine t_seq ?_
            refine t_region ?_
            refine r_field_pp rfl rfl rfl rfl rfl (by decide) ?_
            refine r_load_pp rfl rfl rfl rfl ?_
            refine mvI rfl ?_
            refine r_index_slN rfl rfl rfl rfl rfl rfl (by omega) ?_
            refine r_load_pp rfl rfl rfl rfl ?_
            refine r_call (c_off _ _ _) rfl rfl rfl rfl rfl ?_
            refine r_nil ?_
            refine i_then ?_
            refine t_cond rfl (fun hc5 => ?_) (fun hc5 => ?_)
            ·
              refine t_seq ?_
              refine t_region ?_
              refine asI rfl ?_
              refine r_nil ?_
              refine i_then ?_
              refine t_ret ?_
              refine i_block_ret ?_
              refine i_then_ret ?_
              refine i_then_ret ?_
              refine i_block_ret ?_
              refine i_then_ret ?_
              refine i_rp1 rfl rfl ?_
              all_goals skip
              exact ret_eq rfl rfl (congrArg (Ty.int .i64) (by rw [checkM, if_neg (ng (show f.many = false from hc1)), if_neg (ng (any_neg k1.2 (by omega))), if_pos (any_at (q := fun n => offB n 0 4000) (k := k2.1) (by omega) hc5)]))
            ·
              refine t_skip ?_
              refine i_block ?_
              refine i_then ?_
              refine t_region ?_
              refine mvI rfl ?_
              refine r_add rfl rfl (by omega) (by omega) ?_
              refine asI rfl ?_
              refine r_nil ?_
              refine i_round (⟨k2.1 + 1, ext_false k2.2 (by omega) hc5⟩) ?_ (by show f.bears.length - (k2.1 + 1) < f.bears.length - k2.1; omega)
              (refine Ent.mk' ?_ ?_ <;> (repeat' (first | exact allSub_zero | exact allTags_nil | refine allSub_succ' ?_ (Ty.sub_any _) | refine allSub_succ' ?_ (Ty.sub_refl _))))
              all_goals skip
          ·
            refine t_exit ?_
            refine i_then_exit ?_
            refine i_then_exit ?_
            refine i_block_exit rfl ?_
            refine i_then ?_
            refine t_seq ?_
            refine t_seq ?_
            refine t_region ?_
            refine asI rfl ?_
            refine r_nil ?_
            refine i_then ?_
            refine t_block ?_
            refine t_loop (fun (k3 : {k : Nat // ∀ b ∈ f.bins.take k, (offB b.has 0 300 || b.shares.any fun n => offB n 0 4) = false}) => live [(1, Ty.pp (flrTys f)), (5, Ty.int .i64 (k3.1 : Nat))] []) (fun k3 => f.bins.length - k3.1) (⟨0, by simp⟩) ?_ fun k3 => ?_
            · (refine Ent.mk' ?_ ?_ <;> (repeat' (first | exact allSub_zero | exact allTags_nil | refine allSub_succ' ?_ (Ty.sub_any _) | refine allSub_succ' ?_ (Ty.sub_refl _))))
            ·
              refine t_seq ?_
              refine t_seq ?_
              refine t_region ?_
              refine mvI rfl ?_
              refine r_field_pp rfl rfl rfl rfl rfl (by decide) ?_
              refine r_load_pp rfl rfl rfl rfl ?_
              refine r_len rfl rfl rfl ?_
              refine r_bin rfl rfl rfl ?_
              refine r_nil ?_
              refine i_then ?_
              refine t_cond_dec rfl (fun hc6 => ?_) (fun hc6 => ?_)
              ·
                refine t_skip ?_
                refine i_then ?_
                refine t_seq ?_
                refine t_block ?_
                refine t_seq ?_
                refine t_seq ?_
                refine t_region ?_
                refine r_field_pp rfl rfl rfl rfl rfl (by decide) ?_
                refine r_load_pp rfl rfl rfl rfl ?_
                refine mvI rfl ?_
                refine r_index_slN rfl rfl rfl rfl rfl rfl (by omega) ?_
                refine r_field_pp rfl rfl rfl rfl rfl (by decide) ?_
                refine r_load_pp rfl rfl rfl rfl ?_
                refine r_call (c_off _ _ _) rfl rfl rfl rfl rfl ?_
                refine r_nil ?_
                refine i_then ?_
                refine t_cond rfl (fun hc7 => ?_) (fun hc7 => ?_)
                ·
                  refine t_seq ?_
                  refine t_region ?_
                  refine asI rfl ?_
                  refine r_nil ?_
                  refine i_then ?_
                  refine t_ret ?_
                  refine i_then_ret ?_
                  refine i_block_ret ?_
                  refine i_then_ret ?_
                  refine i_then_ret ?_
                  refine i_block_ret ?_
                  refine i_then_ret ?_
                  refine i_rp1 rfl rfl ?_
                  all_goals skip
                  exact ret_eq rfl rfl (congrArg (Ty.int .i64) (by rw [checkM, if_neg (ng (show f.many = false from hc1)), if_neg (ng (any_neg k1.2 (by omega))), if_neg (ng (any_neg k2.2 (by omega))), if_pos (any_at (q := fun b : Bin => offB b.has 0 300 || b.shares.any fun n => offB n 0 4) (k := k3.1) (by omega) (by rw [show offB (nth f.bins k3.1).has 0 300 = true from hc7]; rfl))]))
                ·
                  refine t_skip ?_
                  refine i_then ?_
                  refine t_seq ?_
                  have hsl : (nth f.bins k3.1).shares.length = f.bears.length := by have := any_none (any_neg k1.2 (by omega)) (nth_mem (xs := f.bins) (k := k3.1) (by omega)); simp only [Bool.not_eq_false', decide_eq_true_eq] at this; omega
                  refine t_region ?_
                  refine asI rfl ?_
                  refine r_nil ?_
                  refine i_then ?_
                  refine t_block ?_
                  refine t_loop (fun (m : {m : Nat // ∀ n ∈ (nth f.bins k3.1).shares.take m, offB n 0 4 = false}) => live [(1, Ty.pp (flrTys f)), (5, Ty.int .i64 (k3.1 : Nat)), (6, Ty.int .i64 (m.1 : Nat))] []) (fun m => f.bears.length - m.1) (⟨0, by simp⟩) ?_ fun m => ?_
                  · (refine Ent.mk' ?_ ?_ <;> (repeat' (first | exact allSub_zero | exact allTags_nil | refine allSub_succ' ?_ (Ty.sub_any _) | refine allSub_succ' ?_ (Ty.sub_refl _))))
                  ·
                    refine t_seq ?_
                    refine t_seq ?_
                    refine t_region ?_
                    refine mvI rfl ?_
                    refine r_field_pp rfl rfl rfl rfl rfl (by decide) ?_
                    refine r_load_pp rfl rfl rfl rfl ?_
                    refine r_len rfl rfl rfl ?_
                    refine r_bin rfl rfl rfl ?_
                    refine r_nil ?_
                    refine i_then ?_
                    refine t_cond_dec rfl (fun hc8 => ?_) (fun hc8 => ?_)
                    ·
                      refine t_skip ?_
                      refine i_then ?_
                      refine t_seq ?_
                      refine t_block ?_
                      refine t_seq ?_
                      refine t_region ?_
                      refine r_field_pp rfl rfl rfl rfl rfl (by decide) ?_
                      refine r_load_pp rfl rfl rfl rfl ?_
                      refine mvI rfl ?_
                      refine r_index_slN rfl rfl rfl rfl rfl rfl (by omega) ?_
                      refine r_field_pp rfl rfl rfl rfl rfl (by decide) ?_
                      refine r_load_pp rfl rfl rfl rfl ?_
                      refine mvI rfl ?_
                      refine r_index_slN rfl rfl rfl rfl rfl rfl (by omega) ?_
                      refine r_load_pp rfl rfl rfl rfl ?_
                      refine r_call (c_off _ _ _) rfl rfl rfl rfl rfl ?_
                      refine r_nil ?_
                      refine i_then ?_
                      refine t_cond rfl (fun hc9 => ?_) (fun hc9 => ?_)
                      ·
                        refine t_seq ?_
                        refine t_region ?_
                        refine asI rfl ?_
                        refine r_nil ?_
                        refine i_then ?_
                        refine t_ret ?_
                        refine i_block_ret ?_
                        refine i_then_ret ?_
                        refine i_then_ret ?_
                        refine i_block_ret ?_
                        refine i_block_ret ?_
                        refine i_then_ret ?_
                        refine i_then_ret ?_
                        refine i_block_ret ?_
                        refine i_then_ret ?_
                        refine i_rp1 rfl rfl ?_
                        all_goals skip
                        exact ret_eq rfl rfl (congrArg (Ty.int .i64) (by rw [checkM, if_neg (ng (show f.many = false from hc1)), if_neg (ng (any_neg k1.2 (by omega))), if_neg (ng (any_neg k2.2 (by omega))), if_pos (any_at (q := fun b : Bin => offB b.has 0 300 || b.shares.any fun n => offB n 0 4) (k := k3.1) (by omega) (by rw [any_at (q := fun n => offB n 0 4) (k := m.1) (by omega) hc9, Bool.or_true]))]))
                      ·
                        refine t_skip ?_
                        refine i_block ?_
                        refine i_then ?_
                        refine t_region ?_
                        refine mvI rfl ?_
                        refine r_add rfl rfl (by omega) (by omega) ?_
                        refine asI rfl ?_
                        refine r_nil ?_
                        refine i_round (⟨m.1 + 1, ext_false m.2 (by omega) hc9⟩) ?_ (by show f.bears.length - (m.1 + 1) < f.bears.length - m.1; omega)
                        (refine Ent.mk' ?_ ?_ <;> (repeat' (first | exact allSub_zero | exact allTags_nil | refine allSub_succ' ?_ (Ty.sub_any _) | refine allSub_succ' ?_ (Ty.sub_refl _))))
                        all_goals skip
                    ·
                      refine t_exit ?_
                      refine i_then_exit ?_
                      refine i_then_exit ?_
                      refine i_block_exit rfl ?_
                      refine i_block ?_
                      refine i_then ?_
                      refine t_region ?_
                      refine mvI rfl ?_
                      refine r_add rfl rfl (by omega) (by omega) ?_
                      refine asI rfl ?_
                      refine r_nil ?_
                      refine i_round (⟨k3.1 + 1, ext_false k3.2 (by omega) (by rw [show offB (nth f.bins k3.1).has 0 300 = false from hc7, any_neg m.2 (by omega)]; rfl)⟩) ?_ (by show f.bins.length - (k3.1 + 1) < f.bins.length - k3.1; omega)
                      (refine Ent.mk' ?_ ?_ <;> (repeat' (first | exact allSub_zero | exact allTags_nil | refine allSub_succ' ?_ (Ty.sub_any _) | refine allSub_succ' ?_ (Ty.sub_refl _))))
                      all_goals skip
              ·
                refine t_exit ?_
                refine i_then_exit ?_
                refine i_then_exit ?_
                refine i_block_exit rfl ?_
                refine i_then ?_
                refine t_seq ?_
                refine t_seq ?_
                refine t_region ?_
                refine asI rfl ?_
                refine r_nil ?_
                refine i_then ?_
                refine t_block ?_
                refine t_loop (fun (k5 : {k : Nat // ∀ t ∈ f.turnings.take k, offB t.sacks 1 300 = false}) => live [(1, Ty.pp (flrTys f)), (7, Ty.int .i64 (k5.1 : Nat))] []) (fun k5 => f.turnings.length - k5.1) (⟨0, by simp⟩) ?_ fun k5 => ?_
                · (refine Ent.mk' ?_ ?_ <;> (repeat' (first | exact allSub_zero | exact allTags_nil | refine allSub_succ' ?_ (Ty.sub_any _) | refine allSub_succ' ?_ (Ty.sub_refl _))))
                ·
                  refine t_seq ?_
                  refine t_seq ?_
                  refine t_region ?_
                  refine mvI rfl ?_
                  refine r_field_pp rfl rfl rfl rfl rfl (by decide) ?_
                  refine r_load_pp rfl rfl rfl rfl ?_
                  refine r_len rfl rfl rfl ?_
                  refine r_bin rfl rfl rfl ?_
                  refine r_nil ?_
                  refine i_then ?_
                  refine t_cond_dec rfl (fun hc10 => ?_) (fun hc10 => ?_)
                  ·
                    refine t_skip ?_
                    refine i_then ?_
                    refine t_seq ?_
                    refine t_block ?_
                    refine t_seq ?_
                    refine t_region ?_
                    refine r_field_pp rfl rfl rfl rfl rfl (by decide) ?_
                    refine r_load_pp rfl rfl rfl rfl ?_
                    refine mvI rfl ?_
                    refine r_index_slN rfl rfl rfl rfl rfl rfl (by omega) ?_
                    refine r_field_pp rfl rfl rfl rfl rfl (by decide) ?_
                    refine r_load_pp rfl rfl rfl rfl ?_
                    refine r_call (c_off _ _ _) rfl rfl rfl rfl rfl ?_
                    refine r_nil ?_
                    refine i_then ?_
                    refine t_cond rfl (fun hc11 => ?_) (fun hc11 => ?_)
                    ·
                      refine t_seq ?_
                      refine t_region ?_
                      refine asI rfl ?_
                      refine r_nil ?_
                      refine i_then ?_
                      refine t_ret ?_
                      refine i_block_ret ?_
                      refine i_then_ret ?_
                      refine i_then_ret ?_
                      refine i_block_ret ?_
                      refine i_then_ret ?_
                      refine i_rp1 rfl rfl ?_
                      all_goals skip
                      exact ret_eq rfl rfl (congrArg (Ty.int .i64) (by rw [checkM, if_neg (ng (show f.many = false from hc1)), if_neg (ng (any_neg k1.2 (by omega))), if_neg (ng (any_neg k2.2 (by omega))), if_neg (ng (any_neg k3.2 (by omega))), if_pos (any_at (q := fun t : Trn => offB t.sacks 1 300) (k := k5.1) (by omega) hc11)]))
                    ·
                      refine t_skip ?_
                      refine i_block ?_
                      refine i_then ?_
                      refine t_region ?_
                      refine mvI rfl ?_
                      refine r_add rfl rfl (by omega) (by omega) ?_
                      refine asI rfl ?_
                      refine r_nil ?_
                      refine i_round (⟨k5.1 + 1, ext_false k5.2 (by omega) hc11⟩) ?_ (by show f.turnings.length - (k5.1 + 1) < f.turnings.length - k5.1; omega)
                      (refine Ent.mk' ?_ ?_ <;> (repeat' (first | exact allSub_zero | exact allTags_nil | refine allSub_succ' ?_ (Ty.sub_any _) | refine allSub_succ' ?_ (Ty.sub_refl _))))
                      all_goals skip
                  ·
                    refine t_exit ?_
                    refine i_then_exit ?_
                    refine i_then_exit ?_
                    refine i_block_exit rfl ?_
                    refine i_then ?_
                    refine t_seq ?_
                    have hr := ranged_of (f := f) hc1 (any_neg k1.2 (by omega)) (any_neg k2.2 (by omega)) (any_neg k3.2 (by omega)) (any_neg k5.2 (by omega))
                    refine t_region ?_
                    refine r_load_ppN rfl rfl rfl (by exact Nat.le_of_ble_eq_true rfl) ?_
                    refine r_call (c_linked f hs hr) rfl rfl rfl rfl rfl ?_
                    refine asI rfl ?_
                    refine r_nil ?_
                    refine i_then ?_
                    refine t_ret ?_
                    refine i_rp1 rfl rfl ?_
                    all_goals skip
                    exact ret_eq rfl rfl (congrArg (Ty.int .i64) (by rw [checkM, if_neg (ng (show f.many = false from hc1)), if_neg (ng (any_neg k1.2 (by omega))), if_neg (ng (any_neg k2.2 (by omega))), if_neg (ng (any_neg k3.2 (by omega))), if_neg (ng (any_neg k5.2 (by omega)))]))
end Go.Proofs.Ytifgbnbkimcchaa

namespace Go.Proofs.Ytifgbnbkimcchaa
open Go Go.T
attribute [local irreducible] dInt dBool dSl dPp dPtr dAgg dTup dClo dAny dEx dStr dGd dCells dVec dVs dRow dOp nth Tri Into TOps Ctr bodyPost Exit.then Exit.inBlock Code.wp Code.wpIn
end Go.Proofs.Ytifgbnbkimcchaa

namespace Go.Proofs.Ytifgbnbkimcchaa
open Go.T
theorem nth_map_range {α : Type} [Inhabited α] {n k : Nat} (g : Nat → α) (h : k < n) : nth ((List.range n).map g) k = g k := by
  rw [nth_lt (by simpa using h)]; simp
theorem nth_out {l : List Int} {k : Nat} (h : l.length ≤ k) : nth l k = 0 := by
  show l.getD k default = 0
  rw [List.getD_eq_getElem?_getD, List.getElem?_eq_none h]; rfl
theorem bear_bound {f : Flr} (hr : f.Ranged) (b : Nat) : 0 ≤ nth f.bears b ∧ nth f.bears b ≤ 4000 := by
  rcases Nat.lt_or_ge b f.bears.length with hb | hb
  · exact hr.bearsR _ (nth_mem hb)
  · rw [nth_out hb]; omega
def addM (f : Flr) (t : Int) (b : Nat) : Int := nth (nth (loadsM f [t]) 1) b - nth (nth (loadsM f [t]) 0) b
def minRow (f : Flr) (l : List Int) (j : Nat) (n : Int) : Int := (List.range j).foldl (fun n b => min n (nth f.bears b - nth l b)) n
theorem minRow_succ (f : Flr) (l : List Int) (j : Nat) (n : Int) : minRow f l (j + 1) n = min (minRow f l j n) (nth f.bears j - nth l j) := by
  simp [minRow, List.range_succ]
def marginUp (f : Flr) (ls : List (List Int)) (k : Nat) : Int := (ls.take k).foldl (fun n l => minRow f l f.bears.length n) (nth f.bears 0 - nth (nth ls 0) 0)
def marginM (f : Flr) (order : List Int) : Int := marginUp f (loadsM f order) (order.length + 1)
def breakRow (f : Flr) (l : List Int) : Option Nat := (List.range f.bears.length).find? fun b => decide (nth l b > nth f.bears b)
def breakM (f : Flr) (order : List Int) : Option (Nat × Nat) := (List.range (order.length + 1)).findSome? fun k => (breakRow f (nth (loadsM f order) k)).map fun b => (k, b)
def breakT (f : Flr) (order : List Int) : Int := match breakM f order with | some x => (x.1 : Int) | none => 0
def breakB (f : Flr) (order : List Int) : Int := match breakM f order with | some x => (x.2 : Int) | none => 0
end Go.Proofs.Ytifgbnbkimcchaa

namespace Go.Proofs.Ytifgbnbkimcchaa
open Go Go.T
attribute [local irreducible] dInt dBool dSl dPp dPtr dAgg dTup dClo dAny dEx dStr dGd dCells dVec dVs dRow dOp nth Tri Into TOps Ctr bodyPost Exit.then Exit.inBlock Code.wp Code.wpIn
end Go.Proofs.Ytifgbnbkimcchaa

namespace Go.Proofs.Ytifgbnbkimcchaa
open Go.T
def readyM (f : Flr) (done : List Int) (t : Int) : Bool := !decide (t ∈ done) && (aheadM f t).all fun a => decide (a ∈ done)
def ordersM (f : Flr) : Nat → List Int → List (List Int)
  | 0, _ => []
  | n + 1, done => if done.length = f.turnings.length then [done] else (iot f.turnings.length).flatMap fun t => if readyM f done t = true then ordersM f n (done ++ [t]) else []
def keepM (f : Flr) (orders : List (List Int)) : List (List Int) := orders.filter fun l => decide (marginM f l ≥ 0)
def firstsM (f : Flr) (keeping : List (List Int)) : List Int := (iot f.turnings.length).filter fun t => keeping.any fun l => decide (nth l 0 = t)
def mustM (keeping : List (List Int)) (a b : Int) : Bool := keeping.all fun l => decide (b ∉ l.takeWhile fun x => !decide (x = a))
end Go.Proofs.Ytifgbnbkimcchaa

namespace Go.Proofs.Ytifgbnbkimcchaa
open Go Go.T
attribute [local irreducible] dInt dBool dSl dPp dPtr dAgg dTup dClo dAny dEx dStr dGd dCells dVec dVs dRow dOp nth Tri Into TOps Ctr bodyPost Exit.then Exit.inBlock Code.wp Code.wpIn
end Go.Proofs.Ytifgbnbkimcchaa

namespace Go.Proofs.Ytifgbnbkimcchaa
open Go.T
def payS (t : Int) (st : Int × Int × Int) (p : Pay) : Option (Int × Int × Int) :=
  if p.src = t ∧ p.much > st.1 then none
  else if p.dst = t ∧ p.much > st.2.1 then none
  else some (if p.src = t then st.1 - p.much else st.1, if p.dst = t then st.2.1 - p.much else st.2.1, if p.src = t then st.2.2 - p.much else st.2.2)
def paysS (t : Int) (pays : List Pay) (st : Int × Int × Int) : Option (Int × Int × Int) := pays.foldl (fun o p => o.bind fun s => payS t s p) (some st)
def turn0 (f : Flr) (b : Nat) (t : Nat) (bound : Int) : Int × Int × Int := (max 0 (addM f t b), max 0 (-(addM f t b)), if addM f t b > 0 then bound + addM f t b else bound)
def turnS (f : Flr) (b : Nat) (pays : List Pay) (o : Option Int) (t : Nat) : Option Int := o.bind fun bound => (paysS t pays (turn0 f b t bound)).map fun s => s.2.2
def boundUp (f : Flr) (b : Nat) (pays : List Pay) (k : Nat) : Option Int := (List.range k).foldl (turnS f b pays) (some (nth (nth (loadsM f []) 0) b))
def boundsR (f : Flr) (b : Nat) (pays : List Pay) : Int × Int :=
  if pays.any fun p => decide (p.src < 0 ∨ p.src ≥ f.turnings.length) || decide (p.dst < 0 ∨ p.dst ≥ f.turnings.length) then (0, 1)
  else if pays.any fun p => decide (p.much < 1) then (0, 3)
  else if pays.any fun p => !decide (p.dst ∈ aheadM f p.src) then (0, 4)
  else match boundUp f b pays f.turnings.length with
    | none => (0, 8)
    | some n => (n, 0)
end Go.Proofs.Ytifgbnbkimcchaa

namespace Go.Proofs.Ytifgbnbkimcchaa
open Go Go.T
attribute [local irreducible] dInt dBool dSl dPp dPtr dAgg dTup dClo dAny dEx dStr dGd dCells dVec dVs dRow dOp nth Tri Into TOps Ctr bodyPost Exit.then Exit.inBlock Code.wp Code.wpIn
end Go.Proofs.Ytifgbnbkimcchaa

namespace Go.T
open Go Go.RowKit
def andNotN (a b : Nat) : Nat := (BitVec.ofNat 64 a &&& ~~~BitVec.ofNat 64 b).toNat
theorem wrap_nat {n : Nat} (h : n < 9223372036854775808) : IntKind.i64.wrap (n : Int) = n := IntWalk.i64_in _ (by omega)
theorem bits_and {a b : Nat} (ha : a < 9223372036854775808) (hb : b < 9223372036854775808) : bits .and .i64 a b = ((a &&& b : Nat) : Int) := by
  have h : (BitVec.ofInt 64 (a : Int) &&& BitVec.ofInt 64 (b : Int)).toNat = a &&& b := by
    rw [BitVec.ofInt_natCast, BitVec.ofInt_natCast, BitVec.toNat_and, BitVec.toNat_ofNat, BitVec.toNat_ofNat, Nat.mod_eq_of_lt (by omega), Nat.mod_eq_of_lt (by omega)]
  show IntKind.i64.wrap (((BitVec.ofInt 64 (a : Int) &&& BitVec.ofInt 64 (b : Int)).toNat : Nat) : Int) = _
  rw [h, wrap_nat (Nat.lt_of_le_of_lt Nat.and_le_left ha)]
theorem bits_or {a b : Nat} (ha : a < 9223372036854775808) (hb : b < 9223372036854775808) : bits .or .i64 a b = ((a ||| b : Nat) : Int) := by
  have h : (BitVec.ofInt 64 (a : Int) ||| BitVec.ofInt 64 (b : Int)).toNat = a ||| b := by
    rw [BitVec.ofInt_natCast, BitVec.ofInt_natCast, BitVec.toNat_or, BitVec.toNat_ofNat, BitVec.toNat_ofNat, Nat.mod_eq_of_lt (by omega), Nat.mod_eq_of_lt (by omega)]
  show IntKind.i64.wrap (((BitVec.ofInt 64 (a : Int) ||| BitVec.ofInt 64 (b : Int)).toNat : Nat) : Int) = _
  rw [h, wrap_nat (show a ||| b < 2 ^ 63 from Nat.or_lt_two_pow (by omega) (by omega))]
theorem andNot_le (a b : Nat) (ha : a < 9223372036854775808) : andNotN a b ≤ a := by
  unfold andNotN
  rw [BitVec.toNat_and, BitVec.toNat_ofNat, Nat.mod_eq_of_lt (by omega)]
  exact Nat.and_le_left
theorem bits_andNot {a b : Nat} (ha : a < 9223372036854775808) : bits .andNot .i64 a b = ((andNotN a b : Nat) : Int) := by
  show IntKind.i64.wrap (((BitVec.ofInt 64 (a : Int) &&& ~~~BitVec.ofInt 64 (b : Int)).toNat : Nat) : Int) = _
  rw [BitVec.ofInt_natCast, BitVec.ofInt_natCast]
  exact wrap_nat (Nat.lt_of_le_of_lt (andNot_le a b ha) ha)
theorem one_shl {i : Nat} (h : i ≤ 62) : 1 <<< i < 9223372036854775808 := by
  rw [Nat.shiftLeft_eq, Nat.one_mul]
  exact Nat.pow_lt_pow_right (by omega) (show i < 63 by omega)
section
variable {P : Program} {fr : Fr} {ops : Array Oper} {A : As} {rest : List Oper} {K : As → List (As × Fx) → Prop} {d : Nat} {t ty' ty2 : TypeId} {p : String} {e : Array Edge} {x y : Operand}
theorem r_andN {a b : Nat} (hx : A.op fr x = .int .i64 (a : Nat)) (hy : A.op fr y = .int .i64 (b : Nat)) (h1 : a < 9223372036854775808) (h2 : b < 9223372036854775808)
    (h : TOps P fr ops rest (A.set d (.int .i64 ((a &&& b : Nat) : Int))) fun A' l' => K A' ((A, { d := some d, ty := .int .i64 ((a &&& b : Nat) : Int), rs := opR x ++ opR y }) :: l')) : TOps P fr ops (⟨some d, .binOp .and ty' x y ty2, t, p, e, none⟩ :: rest) A K :=
  r_bin (op := .and) hx hy (ty := .int .i64 ((a &&& b : Nat) : Int)) (by show some _ = some _; rw [bits_and h1 h2]) h
theorem r_orN {a b : Nat} (hx : A.op fr x = .int .i64 (a : Nat)) (hy : A.op fr y = .int .i64 (b : Nat)) (h1 : a < 9223372036854775808) (h2 : b < 9223372036854775808)
    (h : TOps P fr ops rest (A.set d (.int .i64 ((a ||| b : Nat) : Int))) fun A' l' => K A' ((A, { d := some d, ty := .int .i64 ((a ||| b : Nat) : Int), rs := opR x ++ opR y }) :: l')) : TOps P fr ops (⟨some d, .binOp .or ty' x y ty2, t, p, e, none⟩ :: rest) A K :=
  r_bin (op := .or) hx hy (ty := .int .i64 ((a ||| b : Nat) : Int)) (by show some _ = some _; rw [bits_or h1 h2]) h
theorem r_andNotN {a b : Nat} (hx : A.op fr x = .int .i64 (a : Nat)) (hy : A.op fr y = .int .i64 (b : Nat)) (h1 : a < 9223372036854775808)
    (h : TOps P fr ops rest (A.set d (.int .i64 ((andNotN a b : Nat) : Int))) fun A' l' => K A' ((A, { d := some d, ty := .int .i64 ((andNotN a b : Nat) : Int), rs := opR x ++ opR y }) :: l')) : TOps P fr ops (⟨some d, .binOp .andNot ty' x y ty2, t, p, e, none⟩ :: rest) A K :=
  r_bin (op := .andNot) hx hy (ty := .int .i64 ((andNotN a b : Nat) : Int)) (by show some _ = some _; rw [bits_andNot h1]) h
theorem r_shrN {a b : Nat} (hx : A.op fr x = .int .i64 (a : Nat)) (hy : A.op fr y = .int .i64 (b : Nat)) (h1 : b ≤ 63)
    (h : TOps P fr ops rest (A.set d (.int .i64 ((a >>> b : Nat) : Int))) fun A' l' => K A' ((A, { d := some d, ty := .int .i64 ((a >>> b : Nat) : Int), rs := opR x ++ opR y }) :: l')) : TOps P fr ops (⟨some d, .binOp .shr ty' x y ty2, t, p, e, none⟩ :: rest) A K := by
  have e : ((a : Int) / 2 ^ (b : Int).toNat) = ((a >>> b : Nat) : Int) := by rw [Nat.shiftRight_eq_div_pow]; simp
  refine r_shr hx hy (Int.natCast_nonneg _) (by show (b : Int) ≤ ((64 : Nat) : Int); omega) ?_
  rw [e]; exact h
theorem r_shlN {a b : Nat} (hx : A.op fr x = .int .i64 (a : Nat)) (hy : A.op fr y = .int .i64 (b : Nat)) (h1 : b ≤ 63) (h2 : a <<< b < 9223372036854775808)
    (h : TOps P fr ops rest (A.set d (.int .i64 ((a <<< b : Nat) : Int))) fun A' l' => K A' ((A, { d := some d, ty := .int .i64 ((a <<< b : Nat) : Int), rs := opR x ++ opR y }) :: l')) : TOps P fr ops (⟨some d, .binOp .shl ty' x y ty2, t, p, e, none⟩ :: rest) A K := by
  have e : IntKind.i64.wrap ((a : Int) * 2 ^ (b : Int).toNat) = ((a <<< b : Nat) : Int) := by
    have : ((a : Int) * 2 ^ (b : Int).toNat) = ((a <<< b : Nat) : Int) := by rw [Nat.shiftLeft_eq]; simp
    rw [this, wrap_nat h2]
  refine r_shl hx hy (Int.natCast_nonneg _) (by show (b : Int) ≤ ((64 : Nat) : Int); omega) ?_
  rw [e]; exact h
end
end Go.T

namespace Go.Proofs.Ytifgbnbkimcchaa
open Go.T
def bitsUp (s k : Nat) : List Int := ((List.range k).filter fun i => s.testBit i).map fun (i : Nat) => (i : Int)
def membersM (s : Nat) : List Int := bitsUp s 8
theorem bitsUp_succ (s k : Nat) : bitsUp s (k + 1) = bitsUp s k ++ if s.testBit k = true then [(k : Int)] else [] := by
  unfold bitsUp
  rw [List.range_succ, List.filter_append, List.map_append]
  congr 1
  by_cases h : s.testBit k = true
  · simp [h]
  · simp [h]
theorem shift_bit (s i : Nat) : ((s >>> i) &&& 1 = 1) ↔ s.testBit i = true := by
  rw [Nat.testBit, Nat.and_comm]
  have : (1 &&& s >>> i) = s >>> i % 2 := by rw [Nat.and_comm]; exact Nat.and_one_is_mod _
  rw [this]
  have := Nat.mod_two_eq_zero_or_one (s >>> i)
  constructor
  · intro h; rw [h]; rfl
  · intro h
    rcases this with h0 | h1
    · rw [h0] at h; cases h
    · exact h1
theorem bits_end {s i : Nat} (h : s >>> i = 0) : ∀ j, i ≤ j → s.testBit j = false := by
  intro j hj
  have : s.testBit j = (s >>> i).testBit (j - i) := by rw [Nat.testBit_shiftRight]; congr 1; omega
  rw [this, h, Nat.zero_testBit]
theorem bitsUp_end {s i : Nat} (h : s >>> i = 0) : ∀ k, i ≤ k → bitsUp s k = bitsUp s i := by
  intro k hk
  induction k with
  | zero => rw [show i = 0 by omega]
  | succ k ih =>
    rcases Nat.lt_or_ge k i with h1 | h1
    · rw [show k + 1 = i by omega]
    · rw [bitsUp_succ, ih h1, if_neg (by rw [bits_end h k h1]; decide), List.append_nil]
theorem shift8 {s i : Nat} (hs : s < 256) (h : s >>> i > 0) : i < 8 := by
  rcases Nat.lt_or_ge i 8 with h1 | h1
  · exact h1
  · exfalso
    have : s >>> i = 0 := by
      rw [Nat.shiftRight_eq_div_pow]
      exact Nat.div_eq_of_lt (Nat.lt_of_lt_of_le hs (Nat.le_trans (by decide : 256 ≤ 2 ^ 8) (Nat.pow_le_pow_right (by omega) h1)))
    omega
theorem bitsUp_len (s k : Nat) : (bitsUp s k).length ≤ k := by
  have := List.length_filter_le (fun i => s.testBit i) (List.range k)
  simpa [bitsUp] using this
def leastM (n : Int) (l : List Int) : Int := l.foldl min n
def inB (n lo hi : Int) : Bool := decide (n ≥ lo) && decide (n ≤ hi)
end Go.Proofs.Ytifgbnbkimcchaa

namespace Go.Proofs.Ytifgbnbkimcchaa
open Go Go.T
attribute [local irreducible] dInt dBool dSl dPp dPtr dAgg dTup dClo dAny dEx dStr dGd dCells dVec dVs dRow dOp nth Tri Into TOps Ctr bodyPost Exit.then Exit.inBlock Code.wp Code.wpIn
set_option maxRecDepth 100000 in
theorem c_in (n lo hi : Int) : Ctr Try.prog 121 [Ty.int .i64 n, Ty.int .i64 lo, Ty.int .i64 hi] (Ty.bool (inB n lo hi)) := by
  refine fn_intro Try.func121 rfl (by decide) Try.ntmps121 (by exact Nat.le_of_ble_eq_true rfl) fun w0 M0 => ?_
  refine t_seq ?_
  refine t_region ?_
  refine asB rfl ?_
  refine r_nil ?_
  refine i_then ?_
  refine t_seq ?_
  refine t_region ?_
  refine mvI rfl ?_
  refine mvI rfl ?_
  refine r_bin rfl rfl rfl ?_
  refine mvB rfl ?_
  apply r_guard (s := 10) rfl rfl rfl
  · intro hg; apply opT_of; (refine mvI rfl ?_); refine r_nil ?_; exact rfl
  · exact rfl
  · exact rfl
  apply r_guard (s := 10) rfl rfl rfl
  · intro hg; apply opT_of; (refine mvI rfl ?_); refine r_nil ?_; exact rfl
  · exact rfl
  · exact rfl
  apply r_guard (s := 10) rfl rfl rfl
  · intro hg; apply opT_strip (s := 11) rfl (by (rw [hg]; rfl)); apply opT_strip (s := 12) rfl (by (rw [hg]; rfl)); apply opT_of; (refine r_bin rfl rfl rfl ?_); refine r_nil ?_; exact rfl
  · exact rfl
  · exact rfl
  refine r_and rfl rfl ?_
  refine asB rfl ?_
  refine r_nil ?_
  refine i_then ?_
  refine t_ret ?_
  refine i_rp1 rfl rfl ?_
  all_goals exact ret_refl rfl rfl
set_option maxRecDepth 100000 in
theorem c_sum (l : List Int) (hl : l.length ≤ 100) (hb : ∀ n ∈ l, 0 ≤ n ∧ n ≤ 4000) : Ctr Try.prog 142 [Ty.sl I64 l] (Ty.int .i64 l.sum) := by
  refine fn_intro Try.func142 rfl (by decide) Try.ntmps142 (by exact Nat.le_of_ble_eq_true rfl) fun w0 M0 => ?_
  refine t_seq ?_
  refine t_region ?_
  refine asI rfl ?_
  refine r_nil ?_
  refine i_then ?_
  refine t_seq ?_
  refine t_region ?_
  refine asI rfl ?_
  refine r_nil ?_
  refine i_then ?_
  refine t_seq ?_
  refine t_seq ?_
  refine t_region ?_
  refine mvS rfl ?_
  refine r_len rfl rfl rfl ?_
  refine mvI rfl ?_
  refine r_nil ?_
  refine i_then ?_
  refine t_block ?_
  refine t_loop (fun (k : Nat) => live [(3, Ty.int .i64 (l.take k).sum), (6, Ty.sl I64 l), (7, Ty.int .i64 l.length), (8, Ty.int .i64 k)] []) (fun k => l.length - k) (0) ?_ fun k => ?_
  · (refine Ent.mk' ?_ ?_ <;> (repeat' (first | exact allSub_zero | exact allTags_nil | refine allSub_succ' ?_ (Ty.sub_any _) | refine allSub_succ' ?_ (Ty.sub_refl _))))
  ·
    have hsb := take_bound hb k
    rw [List.length_take] at hsb
    refine t_seq ?_
    refine t_region ?_
    refine r_bin rfl rfl rfl ?_
    refine r_nil ?_
    refine i_then ?_
    refine t_seq ?_
    refine t_cond_dec rfl (fun hc1 => ?_) (fun hc1 => ?_)
    ·
      refine t_skip ?_
      refine i_then ?_
      refine t_seq ?_
      refine t_block ?_
      refine t_seq ?_
      have hx := hb _ (nth_mem (xs := l) (k := k) (by omega))
      refine t_region ?_
      refine r_index_slN rfl rfl rfl rfl rfl rfl (by omega) ?_
      refine r_load_pp rfl rfl rfl rfl ?_
      refine asI rfl ?_
      refine r_nil ?_
      refine i_then ?_
      refine t_region ?_
      refine mvI rfl ?_
      refine mvI rfl ?_
      refine r_add rfl rfl (by omega) (by omega) ?_
      refine asI rfl ?_
      refine r_nil ?_
      refine i_block ?_
      refine i_then ?_
      refine t_region ?_
      refine r_add rfl rfl (by omega) (by omega) ?_
      refine mvI rfl ?_
      refine r_nil ?_
      refine i_round (k + 1) ?_ (by omega)
      (refine Ent.mk' ?_ ?_ <;> (repeat' (first | exact allSub_zero | exact allTags_nil | refine allSub_succ' ?_ (Ty.sub_any _) | refine allSub_succ' ?_ (Ty.sub_refl _) | refine allSub_succ' ?_ ?_)))
      all_goals skip
      exact Ty.sub_int (by rw [take_nth (by omega), List.sum_append]; simp)
    ·
      refine t_exit ?_
      refine i_then_exit ?_
      refine i_then_exit ?_
      refine i_block_exit rfl ?_
      refine i_then ?_
      refine t_seq ?_
      refine t_region ?_
      refine mvI rfl ?_
      refine asI rfl ?_
      refine r_nil ?_
      refine i_then ?_
      refine t_ret ?_
      refine i_rp1 rfl rfl ?_
      all_goals skip
      exact ret_eq rfl rfl (congrArg (Ty.int .i64) (by rw [List.take_of_length_le (by omega)]))
set_option maxRecDepth 100000 in
theorem c_least (n : Int) (l : List Int) : Ctr Try.prog 100 [Ty.int .i64 n, Ty.sl I64 l] (Ty.int .i64 (leastM n l)) := by
  refine fn_intro Try.func100 rfl (by decide) Try.ntmps100 (by exact Nat.le_of_ble_eq_true rfl) fun w0 M0 => ?_
  refine t_fact (s := 1) rfl rfl sl_len fun hl => ?_
  refine t_seq ?_
  refine t_region ?_
  refine asI rfl ?_
  refine r_nil ?_
  refine i_then ?_
  refine t_seq ?_
  refine t_seq ?_
  refine t_region ?_
  refine mvS rfl ?_
  refine r_len rfl rfl rfl ?_
  refine mvI rfl ?_
  refine r_nil ?_
  refine i_then ?_
  refine t_block ?_
  refine t_loop (fun (k : Nat) => live [(0, Ty.int .i64 (leastM n (l.take k))), (7, Ty.sl I64 l), (8, Ty.int .i64 l.length), (9, Ty.int .i64 k)] []) (fun k => l.length - k) (0) ?_ fun k => ?_
  · (refine Ent.mk' ?_ ?_ <;> (repeat' (first | exact allSub_zero | exact allTags_nil | refine allSub_succ' ?_ (Ty.sub_any _) | refine allSub_succ' ?_ (Ty.sub_refl _))))
  ·
    refine t_seq ?_
    refine t_region ?_
    refine r_bin rfl rfl rfl ?_
    refine r_nil ?_
    refine i_then ?_
    refine t_seq ?_
    refine t_cond_dec rfl (fun hc1 => ?_) (fun hc1 => ?_)
    ·
      refine t_skip ?_
      refine i_then ?_
      refine t_seq ?_
      refine t_block ?_
      refine t_seq ?_
      refine t_region ?_
      refine r_index_slN rfl rfl rfl rfl rfl rfl (by omega) ?_
      refine r_load_pp rfl rfl rfl rfl ?_
      refine asI rfl ?_
      refine r_nil ?_
      refine i_then ?_
      refine t_region ?_
      refine mvI rfl ?_
      refine mvI rfl ?_
      refine r_min rfl rfl ?_
      refine asI rfl ?_
      refine r_nil ?_
      refine i_block ?_
      refine i_then ?_
      refine t_region ?_
      refine r_add rfl rfl (by omega) (by omega) ?_
      refine mvI rfl ?_
      refine r_nil ?_
      refine i_round (k + 1) ?_ (by omega)
      (refine Ent.mk' ?_ ?_ <;> (repeat' (first | exact allSub_zero | exact allTags_nil | refine allSub_succ' ?_ (Ty.sub_any _) | refine allSub_succ' ?_ (Ty.sub_refl _) | refine allSub_succ' ?_ ?_)))
      all_goals skip
      exact Ty.sub_int (by simp only [leastM]; rw [take_nth (by omega), List.foldl_append]; rfl)
    ·
      refine t_exit ?_
      refine i_then_exit ?_
      refine i_then_exit ?_
      refine i_block_exit rfl ?_
      refine i_then ?_
      refine t_seq ?_
      refine t_region ?_
      refine mvI rfl ?_
      refine asI rfl ?_
      refine r_nil ?_
      refine i_then ?_
      refine t_ret ?_
      refine i_rp1 rfl rfl ?_
      all_goals skip
      exact ret_eq rfl rfl (congrArg (Ty.int .i64) (by rw [List.take_of_length_le (by omega)]))
set_option maxRecDepth 100000 in
theorem c_members (s : Nat) (hs : s < 256) : Ctr Try.prog 103 [Ty.int .i64 (s : Nat)] (Ty.sl I64 (membersM s)) := by
  refine fn_intro Try.func103 rfl (by decide) Try.ntmps103 (by exact Nat.le_of_ble_eq_true rfl) fun w0 M0 => ?_
  refine t_seq ?_
  refine t_region ?_
  refine asX rfl ?_
  refine r_nil ?_
  refine i_then ?_
  refine t_seq ?_
  refine t_region ?_
  refine asX rfl ?_
  refine r_nil ?_
  refine i_then ?_
  refine t_seq ?_
  refine t_seq ?_
  refine t_region ?_
  refine asI rfl ?_
  refine r_nil ?_
  refine i_then ?_
  refine t_block ?_
  refine t_loop (fun (i : {i : Nat // i ≤ 8}) => live [(0, Ty.int .i64 (s : Nat)), (3, Ty.row I64 3 20 (bitsUp s i.1)), (4, Ty.int .i64 (i.1 : Nat))] []) (fun i => 8 - i.1) (⟨0, by omega⟩) ?_ fun i => ?_
  · (refine Ent.mk' ?_ ?_ <;> (repeat' (first | exact allSub_zero | exact allTags_nil | refine allSub_succ' ?_ (Ty.sub_any _) | refine allSub_succ' ?_ (Ty.sub_refl _) | refine allSub_succ' ?_ Ty.nil_row)))
  ·
    have hbl := bitsUp_len s i.1
    have hsi : s >>> i.1 ≤ s := Nat.shiftRight_le s i.1
    refine t_seq ?_
    refine t_seq ?_
    refine t_region ?_
    refine mvI rfl ?_
    refine mvI rfl ?_
    refine r_shrN rfl rfl (by omega) ?_
    refine r_bin rfl rfl rfl ?_
    refine r_nil ?_
    refine i_then ?_
    refine t_cond_dec rfl (fun hc1 => ?_) (fun hc1 => ?_)
    ·
      refine t_skip ?_
      refine i_then ?_
      refine t_seq ?_
      refine t_block ?_
      refine t_seq ?_
      refine t_region ?_
      refine mvI rfl ?_
      refine mvI rfl ?_
      refine r_shrN rfl rfl (by omega) ?_
      refine r_andN (b := 1) rfl rfl (by omega) (by omega) ?_
      refine r_bin rfl rfl rfl ?_
      refine r_nil ?_
      refine i_then ?_
      refine t_cond_dec rfl (fun hc2 => ?_) (fun hc2 => ?_)
      ·
        refine t_region ?_
        refine mvR rfl ?_
        refine mvI rfl ?_
        refine r_buildSlice (E := I64) (xs := [_]) rfl rfl rfl rfl rfl (by decide) (by decide) (by repeat (first | exact (Parts.nil : Parts _ _ [] _) | (show Parts _ _ ((_, _) :: _) _; apply Parts.one; (· exact (rfl : _ = Ty.int _ _)); (· exact rfl)))) (by exact rfl) rfl ?_
        refine r_append rfl rfl (by decide) rfl rfl rfl rfl rfl rfl (by decide) (by (simp <;> omega)) (by (simp <;> omega)) ?_
        refine asR rfl ?_
        refine r_nil ?_
        refine i_block ?_
        refine i_then ?_
        refine t_region ?_
        refine mvI rfl ?_
        refine r_add rfl rfl (by omega) (by omega) ?_
        refine asI rfl ?_
        refine r_nil ?_
        refine i_round (⟨i.1 + 1, by have := shift8 (i := i.1) hs (Int.natCast_pos.1 hc1); omega⟩) ?_ (by show 8 - (i.1 + 1) < 8 - i.1; have := shift8 (i := i.1) hs (Int.natCast_pos.1 hc1); omega)
        (refine Ent.mk' ?_ ?_ <;> (repeat' (first | exact allSub_zero | exact allTags_nil | refine allSub_succ' ?_ (Ty.sub_any _) | refine allSub_succ' ?_ (Ty.sub_refl _) | refine allSub_succ' ?_ ?_)))
        all_goals skip
        refine Ty.sub_row ?_; rw [bitsUp_succ]; (rw [if_pos ((shift_bit s i.1).1 (by exact_mod_cast hc2))]; done)
      ·
        refine t_skip ?_
        refine i_block ?_
        refine i_then ?_
        refine t_region ?_
        refine mvI rfl ?_
        refine r_add rfl rfl (by omega) (by omega) ?_
        refine asI rfl ?_
        refine r_nil ?_
        refine i_round (⟨i.1 + 1, by have := shift8 (i := i.1) hs (Int.natCast_pos.1 hc1); omega⟩) ?_ (by show 8 - (i.1 + 1) < 8 - i.1; have := shift8 (i := i.1) hs (Int.natCast_pos.1 hc1); omega)
        (refine Ent.mk' ?_ ?_ <;> (repeat' (first | exact allSub_zero | exact allTags_nil | refine allSub_succ' ?_ (Ty.sub_any _) | refine allSub_succ' ?_ (Ty.sub_refl _) | refine allSub_succ' ?_ ?_)))
        all_goals skip
        refine Ty.sub_row ?_; rw [bitsUp_succ]; (rw [if_neg (fun h => hc2 (by exact_mod_cast (shift_bit s i.1).2 h)), List.append_nil]; done)
    ·
      refine t_exit ?_
      refine i_then_exit ?_
      refine i_then_exit ?_
      refine i_block_exit rfl ?_
      refine i_then ?_
      refine t_seq ?_
      refine t_region ?_
      refine mvR rfl ?_
      refine asR rfl ?_
      refine r_nil ?_
      refine i_then ?_
      refine t_ret ?_
      refine i_rp1 rfl rfl ?_
      all_goals skip
      exact ret_row_eq (by decide) (bitsUp_end (Nat.eq_zero_of_not_pos fun h => hc1 (Int.natCast_pos.2 h)) 8 i.2).symm
set_option maxRecDepth 100000 in
theorem c_turning (f : Flr) (hs : f.Small) (t : Int) : Ctr Try.prog 87 [flrT f, Ty.int .i64 t] (Ty.bool (inB t 0 (f.turnings.length - 1))) := by
  refine fn_intro Try.func87 rfl (by decide) Try.ntmps87 (by exact Nat.le_of_ble_eq_true rfl) fun w0 M0 => ?_
  have hs1 := hs.bears; have hs2 := hs.bins; have hs3 := hs.turnings; have hs4 := hs.rules
  refine t_seq ?_
  refine t_region ?_
  refine r_box_agg rfl ?_
  refine asB rfl ?_
  refine r_nil ?_
  refine i_then ?_
  refine t_seq ?_
  refine t_region ?_
  refine mvI rfl ?_
  refine r_field_pp rfl rfl rfl rfl rfl (by decide) ?_
  refine r_load_pp rfl rfl rfl rfl ?_
  refine r_len rfl rfl rfl ?_
  refine r_sub rfl rfl (by omega) (by omega) ?_
  refine r_call (c_in _ _ _) rfl rfl rfl rfl rfl ?_
  refine asB rfl ?_
  refine r_nil ?_
  refine i_then ?_
  refine t_ret ?_
  refine i_rp1 rfl rfl ?_
  all_goals exact ret_refl rfl rfl
set_option maxRecDepth 100000 in
theorem c_bay (f : Flr) (hs : f.Small) (t : Int) : Ctr Try.prog 84 [flrT f, Ty.int .i64 t] (Ty.bool (inB t 0 (f.bears.length - 1))) := by
  refine fn_intro Try.func84 rfl (by decide) Try.ntmps84 (by exact Nat.le_of_ble_eq_true rfl) fun w0 M0 => ?_
  have hs1 := hs.bears; have hs2 := hs.bins; have hs3 := hs.turnings; have hs4 := hs.rules
  refine t_seq ?_
  refine t_region ?_
  refine r_box_agg rfl ?_
  refine asB rfl ?_
  refine r_nil ?_
  refine i_then ?_
  refine t_seq ?_
  refine t_region ?_
  refine mvI rfl ?_
  refine r_field_pp rfl rfl rfl rfl rfl (by decide) ?_
  refine r_load_pp rfl rfl rfl rfl ?_
  refine r_len rfl rfl rfl ?_
  refine r_sub rfl rfl (by omega) (by omega) ?_
  refine r_call (c_in _ _ _) rfl rfl rfl rfl rfl ?_
  refine asB rfl ?_
  refine r_nil ?_
  refine i_then ?_
  refine t_ret ?_
  refine i_rp1 rfl rfl ?_
  all_goals exact ret_refl rfl rfl
set_option maxRecDepth 100000 in
theorem c_named (f : Flr) (hs : f.Small) (t : Int) : Ctr Try.prog 137 [flrT f, Ty.int .i64 t] (Ty.bool (inB t (-1) (f.bins.length - 1))) := by
  refine fn_intro Try.func137 rfl (by decide) Try.ntmps137 (by exact Nat.le_of_ble_eq_true rfl) fun w0 M0 => ?_
  have hs1 := hs.bears; have hs2 := hs.bins; have hs3 := hs.turnings; have hs4 := hs.rules
  refine t_seq ?_
  refine t_region ?_
  refine r_box_agg rfl ?_
  refine asB rfl ?_
  refine r_nil ?_
  refine i_then ?_
  refine t_seq ?_
  refine t_region ?_
  refine mvI rfl ?_
  refine r_field_pp rfl rfl rfl rfl rfl (by decide) ?_
  refine r_load_pp rfl rfl rfl rfl ?_
  refine r_len rfl rfl rfl ?_
  refine r_sub rfl rfl (by omega) (by omega) ?_
  refine r_call (c_in _ _ _) rfl rfl rfl rfl rfl ?_
  refine asB rfl ?_
  refine r_nil ?_
  refine i_then ?_
  refine t_ret ?_
  refine i_rp1 rfl rfl ?_
  all_goals exact ret_refl rfl rfl
set_option maxRecDepth 100000 in
theorem c_taken (f : Flr) (hs : f.Small) (hr : f.Ranged) (i : Int) : Ctr Try.prog 143 [flrT f, Ty.int .i64 i] (Ty.int .i64 (takenM f f.turnings i)) := by
  refine fn_intro Try.func143 rfl (by decide) Try.ntmps143 (by exact Nat.le_of_ble_eq_true rfl) fun w0 M0 => ?_
  have hs1 := hs.bears; have hs2 := hs.bins; have hs3 := hs.turnings; have hs4 := hs.rules
  refine t_seq ?_
  refine t_region ?_
  refine r_box_agg rfl ?_
  refine asI rfl ?_
  refine r_nil ?_
  refine i_then ?_
  refine t_seq ?_
  refine t_region ?_
  refine asI rfl ?_
  refine r_nil ?_
  refine i_then ?_
  refine t_seq ?_
  refine t_seq ?_
  refine t_region ?_
  refine r_field_pp rfl rfl rfl rfl rfl (by decide) ?_
  refine r_load_pp rfl rfl rfl rfl ?_
  refine r_len rfl rfl rfl ?_
  refine mvI rfl ?_
  refine r_nil ?_
  refine i_then ?_
  refine t_block ?_
  refine t_loop (fun (n : Nat) => live [(1, Ty.int .i64 i), (5, Ty.int .i64 (takenM f (f.turnings.take n) i)), (9, Ty.sl TrnE f.turnings), (10, Ty.int .i64 f.turnings.length), (11, Ty.int .i64 (n : Nat))] []) (fun n => f.turnings.length - n) (0) ?_ fun n => ?_
  · (refine Ent.mk' ?_ ?_ <;> (repeat' (first | exact allSub_zero | exact allTags_nil | refine allSub_succ' ?_ (Ty.sub_any _) | refine allSub_succ' ?_ (Ty.sub_refl _))))
  ·
    have htb := taken_bound hr n i
    refine t_seq ?_
    refine t_region ?_
    refine r_bin rfl rfl rfl ?_
    refine r_nil ?_
    refine i_then ?_
    refine t_seq ?_
    refine t_cond_dec rfl (fun hc1 => ?_) (fun hc1 => ?_)
    ·
      refine t_skip ?_
      refine i_then ?_
      refine t_seq ?_
      refine t_block ?_
      refine t_seq ?_
      refine t_region ?_
      refine r_index_slN rfl rfl rfl rfl rfl rfl (by omega) ?_
      refine r_load_ppN rfl rfl rfl (by exact Nat.le_of_ble_eq_true rfl) ?_
      refine r_alloc rfl (by exact List.cons_ne_nil _ _) rfl ?_
      refine r_storeN rfl rfl (by decide) rfl rfl rfl rfl rfl rfl ?_
      refine r_nil ?_
      refine i_then ?_
      refine t_seq ?_
      refine t_region ?_
      refine r_field_ptr rfl rfl rfl rfl rfl (by decide) ?_
      refine r_load_ptr rfl rfl (by decide) rfl rfl rfl ?_
      refine mvI rfl ?_
      refine r_bin rfl rfl rfl ?_
      refine r_nil ?_
      refine i_then ?_
      refine t_cond_dec rfl (fun hc2 => ?_) (fun hc2 => ?_)
      ·
        have htx := hr.sacksR (nth f.turnings n) (nth_mem (by omega))
        refine t_region ?_
        refine mvI rfl ?_
        refine r_field_ptr rfl rfl rfl rfl rfl (by decide) ?_
        refine r_load_ptr rfl rfl (by decide) rfl rfl rfl ?_
        refine r_add rfl rfl (by omega) (by omega) ?_
        refine asI rfl ?_
        refine r_nil ?_
        refine i_block ?_
        refine i_then ?_
        refine t_region ?_
        refine r_add rfl rfl (by omega) (by omega) ?_
        refine mvI rfl ?_
        refine r_nil ?_
        refine i_round (n + 1) ?_ (by omega)
        (refine Ent.mk' ?_ ?_ <;> (repeat' (first | exact allSub_zero | exact allTags_nil | refine allSub_succ' ?_ (Ty.sub_any _) | refine allSub_succ' ?_ (Ty.sub_refl _) | refine allSub_succ' ?_ ?_)))
        all_goals skip
        exact Ty.sub_int (by simp only [takenM]; rw [take_nth (by omega), List.map_append, List.sum_append]; simp [hc2])
      ·
        refine t_skip ?_
        refine i_block ?_
        refine i_then ?_
        refine t_region ?_
        refine r_add rfl rfl (by omega) (by omega) ?_
        refine mvI rfl ?_
        refine r_nil ?_
        refine i_round (n + 1) ?_ (by omega)
        (refine Ent.mk' ?_ ?_ <;> (repeat' (first | exact allSub_zero | exact allTags_nil | refine allSub_succ' ?_ (Ty.sub_any _) | refine allSub_succ' ?_ (Ty.sub_refl _) | refine allSub_succ' ?_ ?_)))
        all_goals skip
        exact Ty.sub_int (by simp only [takenM]; rw [take_nth (by omega), List.map_append, List.sum_append]; simp [hc2])
    ·
      refine t_exit ?_
      refine i_then_exit ?_
      refine i_then_exit ?_
      refine i_block_exit rfl ?_
      refine i_then ?_
      refine t_seq ?_
      refine t_region ?_
      refine mvI rfl ?_
      refine asI rfl ?_
      refine r_nil ?_
      refine i_then ?_
      refine t_ret ?_
      refine i_rp1 rfl rfl ?_
      all_goals skip
      exact ret_eq rfl rfl (congrArg (Ty.int .i64) (by rw [List.take_of_length_le (by omega)]))
set_option maxRecDepth 100000 in
theorem c_share (f : Flr) (hs : f.Small) (hr : f.Ranged) (i : Int) (b : Nat) (hi : -1 ≤ i ∧ i < f.bins.length) (hb : b < f.bears.length) : Ctr Try.prog 120 [flrT f, Ty.int .i64 i, Ty.int .i64 (b : Nat)] (Ty.int .i64 (if i = -1 then 0 else nth (nth f.bins i.toNat).shares b)) := by
  refine fn_intro Try.func120 rfl (by decide) Try.ntmps120 (by exact Nat.le_of_ble_eq_true rfl) fun w0 M0 => ?_
  have hs1 := hs.bears; have hs2 := hs.bins; have hs3 := hs.turnings; have hs4 := hs.rules
  refine t_seq ?_
  refine t_region ?_
  refine r_box_agg rfl ?_
  refine asI rfl ?_
  refine r_nil ?_
  refine i_then ?_
  refine t_seq ?_
  refine t_seq ?_
  refine t_region ?_
  refine mvI rfl ?_
  refine r_bin rfl rfl rfl ?_
  refine r_nil ?_
  refine i_then ?_
  refine t_cond_dec rfl (fun hc1 => ?_) (fun hc1 => ?_)
  ·
    refine t_seq ?_
    refine t_region ?_
    refine asI rfl ?_
    refine r_nil ?_
    refine i_then ?_
    refine t_ret ?_
    refine i_then_ret ?_
    refine i_rp1 rfl rfl ?_
    all_goals skip
    exact ret_eq rfl rfl (congrArg (Ty.int .i64) (by rw [if_pos hc1]))
  ·
    refine t_skip ?_
    refine i_then ?_
    refine t_seq ?_
    have hsl := hr.shares _ (nth_mem (xs := f.bins) (k := i.toNat) (by omega))
    refine t_region ?_
    refine r_field_pp rfl rfl rfl rfl rfl (by decide) ?_
    refine r_load_pp rfl rfl rfl rfl ?_
    refine mvI rfl ?_
    refine r_index_sl rfl rfl rfl rfl rfl rfl (by omega) (by omega) ?_
    refine r_field_pp rfl rfl rfl rfl rfl (by decide) ?_
    refine r_load_pp rfl rfl rfl rfl ?_
    refine mvI rfl ?_
    refine r_index_slN rfl rfl rfl rfl rfl rfl (by omega) ?_
    refine r_load_pp rfl rfl rfl rfl ?_
    refine asI rfl ?_
    refine r_nil ?_
    refine i_then ?_
    refine t_ret ?_
    refine i_rp1 rfl rfl ?_
    all_goals skip
    exact ret_eq rfl rfl (congrArg (Ty.int .i64) (by rw [if_neg hc1]))
set_option maxRecDepth 100000 in
theorem c_right1 (f : Flr) (b : Bin) : Ctr Try.prog 130 [Ty.agg (BinE.tys b), Ty.pp (flrTys f)] (Ty.bool (decide ((b.shares.length : Int) = f.bears.length))) := by
  refine fn_intro Try.func130 rfl (by decide) Try.ntmps130 (by exact Nat.le_of_ble_eq_true rfl) fun w0 M0 => ?_
  refine t_seq ?_
  refine t_region ?_
  refine r_box_agg rfl ?_
  refine asB rfl ?_
  refine r_nil ?_
  refine i_then ?_
  refine t_seq ?_
  refine t_region ?_
  refine r_field_pp rfl rfl rfl rfl rfl (by decide) ?_
  refine r_load_pp rfl rfl rfl rfl ?_
  refine r_len rfl rfl rfl ?_
  refine r_field_pp rfl rfl rfl rfl rfl (by decide) ?_
  refine r_load_pp rfl rfl rfl rfl ?_
  refine r_len rfl rfl rfl ?_
  refine r_bin rfl rfl rfl ?_
  refine asB rfl ?_
  refine r_nil ?_
  refine i_then ?_
  refine t_ret ?_
  refine i_rp1 rfl rfl ?_
  all_goals exact ret_refl rfl rfl
set_option maxRecDepth 100000 in
theorem c_right2 (n : Int) : Ctr Try.prog 131 [Ty.int .i64 n] (Ty.bool (inB n 0 4000)) := by
  refine fn_intro Try.func131 rfl (by decide) Try.ntmps131 (by exact Nat.le_of_ble_eq_true rfl) fun w0 M0 => ?_
  refine t_seq ?_
  refine t_region ?_
  refine asB rfl ?_
  refine r_nil ?_
  refine i_then ?_
  refine t_seq ?_
  refine t_region ?_
  refine mvI rfl ?_
  refine r_call (c_in _ _ _) rfl rfl rfl rfl rfl ?_
  refine asB rfl ?_
  refine r_nil ?_
  refine i_then ?_
  refine t_ret ?_
  refine i_rp1 rfl rfl ?_
  all_goals exact ret_refl rfl rfl
set_option maxRecDepth 100000 in
theorem c_right3 (t : Trn) : Ctr Try.prog 133 [Ty.agg (TrnE.tys t)] (Ty.bool (inB t.sacks 1 300)) := by
  refine fn_intro Try.func133 rfl (by decide) Try.ntmps133 (by exact Nat.le_of_ble_eq_true rfl) fun w0 M0 => ?_
  refine t_seq ?_
  refine t_region ?_
  refine r_box_agg rfl ?_
  refine asB rfl ?_
  refine r_nil ?_
  refine i_then ?_
  refine t_seq ?_
  refine t_region ?_
  refine r_field_pp rfl rfl rfl rfl rfl (by decide) ?_
  refine r_load_pp rfl rfl rfl rfl ?_
  refine r_call (c_in _ _ _) rfl rfl rfl rfl rfl ?_
  refine asB rfl ?_
  refine r_nil ?_
  refine i_then ?_
  refine t_ret ?_
  refine i_rp1 rfl rfl ?_
  all_goals exact ret_refl rfl rfl
set_option maxRecDepth 100000 in
theorem c_right41 (n : Int) : Ctr Try.prog 135 [Ty.int .i64 n] (Ty.bool (inB n 0 4)) := by
  refine fn_intro Try.func135 rfl (by decide) Try.ntmps135 (by exact Nat.le_of_ble_eq_true rfl) fun w0 M0 => ?_
  refine t_seq ?_
  refine t_region ?_
  refine asB rfl ?_
  refine r_nil ?_
  refine i_then ?_
  refine t_seq ?_
  refine t_region ?_
  refine mvI rfl ?_
  refine r_call (c_in _ _ _) rfl rfl rfl rfl rfl ?_
  refine asB rfl ?_
  refine r_nil ?_
  refine i_then ?_
  refine t_ret ?_
  refine i_rp1 rfl rfl ?_
  all_goals exact ret_refl rfl rfl
set_option maxRecDepth 100000 in
theorem c_right4 (b : Bin) : Ctr Try.prog 134 [Ty.agg (BinE.tys b)] (Ty.bool (inB b.has 0 300 && b.shares.all fun n => inB n 0 4)) := by
  refine fn_intro Try.func134 rfl (by decide) Try.ntmps134 (by exact Nat.le_of_ble_eq_true rfl) fun w0 M0 => ?_
  refine t_seq ?_
  refine t_region ?_
  refine r_box_agg rfl ?_
  refine asB rfl ?_
  refine r_nil ?_
  refine i_then ?_
  refine t_seq ?_
  refine t_region ?_
  refine r_field_pp rfl rfl rfl rfl rfl (by decide) ?_
  refine r_load_pp rfl rfl rfl rfl ?_
  refine r_call (c_in _ _ _) rfl rfl rfl rfl rfl ?_
  refine mvB rfl ?_
  apply r_guard (s := 6) rfl rfl rfl
  · intro hg; apply opT_of; (refine r_field_pp rfl rfl rfl rfl rfl (by decide) ?_); refine r_nil ?_; exact rfl
  · exact rfl
  · exact rfl
  apply r_guard (s := 6) rfl rfl rfl
  · intro hg; apply opT_strip (s := 7) rfl (by (rw [hg]; rfl)); apply opT_of; (refine r_load_pp rfl rfl rfl rfl ?_); refine r_nil ?_; exact rfl
  · exact rfl
  · exact rfl
  apply r_guard (s := 6) rfl rfl rfl
  · intro hg; apply opT_strip (s := 8) rfl (by (rw [hg]; rfl)); apply opT_of; (refine r_call (c_every_int b.shares (Ty.clo _ []) rfl (fun n => inB n 0 4) rfl rfl fun n _ => cal_clo (c_right41 n) rfl rfl rfl rfl rfl rfl) rfl rfl rfl rfl rfl ?_); refine r_nil ?_; exact rfl
  · exact rfl
  · exact rfl
  refine r_and rfl rfl ?_
  refine asB rfl ?_
  refine r_nil ?_
  refine i_then ?_
  refine t_ret ?_
  refine i_rp1 rfl rfl ?_
  all_goals exact ret_refl rfl rfl
set_option maxRecDepth 100000 in
theorem c_right5 (f : Flr) (hs : f.Small) (t : Trn) : Ctr Try.prog 136 [Ty.agg (TrnE.tys t), Ty.pp (flrTys f)] (Ty.bool (inB t.src (-1) (f.bins.length - 1) && inB t.dst (-1) (f.bins.length - 1))) := by
  refine fn_intro Try.func136 rfl (by decide) Try.ntmps136 (by exact Nat.le_of_ble_eq_true rfl) fun w0 M0 => ?_
  have hs1 := hs.bears; have hs2 := hs.bins; have hs3 := hs.turnings; have hs4 := hs.rules
  refine t_seq ?_
  refine t_region ?_
  refine r_box_agg rfl ?_
  refine asB rfl ?_
  refine r_nil ?_
  refine i_then ?_
  refine t_seq ?_
  refine t_region ?_
  refine r_load_ppN rfl rfl rfl (by exact Nat.le_of_ble_eq_true rfl) ?_
  refine r_field_pp rfl rfl rfl rfl rfl (by decide) ?_
  refine r_load_pp rfl rfl rfl rfl ?_
  refine r_call (c_named f hs _) rfl rfl rfl rfl rfl ?_
  refine mvB rfl ?_
  apply r_guard (s := 8) rfl rfl rfl
  · intro hg; apply opT_of; (refine r_load_ppN rfl rfl rfl (by exact Nat.le_of_ble_eq_true rfl) ?_); refine r_nil ?_; exact rfl
  · exact rfl
  · exact rfl
  apply r_guard (s := 8) rfl rfl rfl
  · intro hg; apply opT_of; (refine r_field_pp rfl rfl rfl rfl rfl (by decide) ?_); refine r_nil ?_; exact rfl
  · exact rfl
  · exact rfl
  apply r_guard (s := 8) rfl rfl rfl
  · intro hg; apply opT_strip (s := 10) rfl (by (rw [hg]; rfl)); apply opT_of; (refine r_load_pp rfl rfl rfl rfl ?_); refine r_nil ?_; exact rfl
  · exact rfl
  · exact rfl
  apply r_guard (s := 8) rfl rfl rfl
  · intro hg; apply opT_strip (s := 9) rfl (by (rw [hg]; rfl)); apply opT_strip (s := 11) rfl (by (rw [hg]; rfl)); apply opT_of; (refine r_call (c_named f hs _) rfl rfl rfl rfl rfl ?_); refine r_nil ?_; exact rfl
  · exact rfl
  · exact rfl
  refine r_and rfl rfl ?_
  refine asB rfl ?_
  refine r_nil ?_
  refine i_then ?_
  refine t_ret ?_
  refine i_rp1 rfl rfl ?_
  all_goals exact ret_refl rfl rfl
set_option maxRecDepth 100000 in
theorem c_right7 (t : Trn) : Ctr Try.prog 140 [Ty.agg (TrnE.tys t)] (Ty.bool (!decide (t.src = t.dst))) := by
  refine fn_intro Try.func140 rfl (by decide) Try.ntmps140 (by exact Nat.le_of_ble_eq_true rfl) fun w0 M0 => ?_
  refine t_seq ?_
  refine t_region ?_
  refine r_box_agg rfl ?_
  refine asB rfl ?_
  refine r_nil ?_
  refine i_then ?_
  refine t_seq ?_
  refine t_region ?_
  refine r_field_pp rfl rfl rfl rfl rfl (by decide) ?_
  refine r_load_pp rfl rfl rfl rfl ?_
  refine r_field_pp rfl rfl rfl rfl rfl (by decide) ?_
  refine r_load_pp rfl rfl rfl rfl ?_
  refine r_bin rfl rfl rfl ?_
  refine asB rfl ?_
  refine r_nil ?_
  refine i_then ?_
  refine t_ret ?_
  refine i_rp1 rfl rfl ?_
  all_goals exact ret_refl rfl rfl
set_option maxRecDepth 100000 in
theorem c_right8 (b : Bin) (hl : b.shares.length ≤ 100) (hb : ∀ n ∈ b.shares, 0 ≤ n ∧ n ≤ 4000) : Ctr Try.prog 141 [Ty.agg (BinE.tys b)] (Ty.bool (decide (b.shares.sum = 4))) := by
  refine fn_intro Try.func141 rfl (by decide) Try.ntmps141 (by exact Nat.le_of_ble_eq_true rfl) fun w0 M0 => ?_
  refine t_seq ?_
  refine t_region ?_
  refine r_box_agg rfl ?_
  refine asB rfl ?_
  refine r_nil ?_
  refine i_then ?_
  refine t_seq ?_
  refine t_region ?_
  refine r_field_pp rfl rfl rfl rfl rfl (by decide) ?_
  refine r_load_pp rfl rfl rfl rfl ?_
  refine r_call (c_sum b.shares hl hb) rfl rfl rfl rfl rfl ?_
  refine r_bin rfl rfl rfl ?_
  refine asB rfl ?_
  refine r_nil ?_
  refine i_then ?_
  refine t_ret ?_
  refine i_rp1 rfl rfl ?_
  all_goals exact ret_refl rfl rfl
end Go.Proofs.Ytifgbnbkimcchaa

namespace Go.Proofs.Ytifgbnbkimcchaa
open Go.T
def right1 (f : Flr) : Bool := !inB f.bears.length 1 4 || decide ((f.bins.length : Int) > 6) || decide ((f.turnings.length : Int) > 8) || decide ((f.rules.length : Int) > 16) || !f.bins.all fun b => decide ((b.shares.length : Int) = f.bears.length)
def right2 (f : Flr) : Bool := (!f.bears.all fun n => inB n 0 4000) || !f.turnings.all fun t => inB t.sacks 1 300
def right3 (f : Flr) : Bool := !f.bins.all fun b => inB b.has 0 300 && b.shares.all fun n => inB n 0 4
def right4 (f : Flr) : Bool := (!f.turnings.all fun t => inB t.src (-1) (f.bins.length - 1) && inB t.dst (-1) (f.bins.length - 1)) || !f.rules.all fun r => inB r.fst 0 (f.turnings.length - 1) && inB r.nxt 0 (f.turnings.length - 1)
def right5 (f : Flr) : Bool := !f.turnings.all fun t => !decide (t.src = t.dst)
def right6 (f : Flr) : Bool := !f.bins.all fun b => decide (b.shares.sum = 4)
def right7 (f : Flr) : Bool := (iot f.bins.length).any fun i => decide (takenM f f.turnings i > (nth f.bins i.toNat).has)
def rightM (f : Flr) : Int := if right1 f then 2 else if right2 f then 3 else if right3 f then 3 else if right4 f then 1 else if right5 f then 5 else if right6 f then 8 else if right7 f then 8 else 0
theorem inB_true {n lo hi : Int} (h : inB n lo hi = true) : lo ≤ n ∧ n ≤ hi := by
  simp only [inB, Bool.and_eq_true, decide_eq_true_eq] at h; exact h
theorem ranged_right {f : Flr} (h1 : right1 f = false) (h2 : right2 f = false) (h3 : right3 f = false) : f.Ranged := by
  simp only [right1, Bool.or_eq_false_iff, decide_eq_false_iff_not, Bool.not_eq_false'] at h1
  simp only [right2, Bool.or_eq_false_iff, Bool.not_eq_false', List.all_eq_true] at h2
  simp only [right3, Bool.not_eq_false', List.all_eq_true, Bool.and_eq_true] at h3
  obtain ⟨⟨⟨⟨a, b⟩, c⟩, d⟩, e⟩ := h1
  have ha := inB_true a
  simp only [List.all_eq_true, decide_eq_true_eq] at e
  exact ⟨by omega, by omega, by omega, by omega, by omega, fun x hx => by have := e x hx; omega, fun n hn => inB_true (h2.1 n hn), fun x hx => inB_true (h3 x hx).1, fun x hx n hn => inB_true ((h3 x hx).2 n hn), fun t ht => inB_true (h2.2 t ht)⟩
end Go.Proofs.Ytifgbnbkimcchaa

namespace Go.Proofs.Ytifgbnbkimcchaa
open Go Go.T
attribute [local irreducible] dInt dBool dSl dPp dPtr dAgg dTup dClo dAny dEx dStr dGd dCells dVec dVs dRow dOp nth Tri Into TOps Ctr bodyPost Exit.then Exit.inBlock Code.wp Code.wpIn
set_option maxRecDepth 100000 in
theorem c_right6 (f : Flr) (hs : f.Small) (r : Rul) : Ctr Try.prog 139 [Ty.agg (RulE.tys r), Ty.pp [Ty.mth 87 [flrT f]]] (Ty.bool (inB r.fst 0 (f.turnings.length - 1) && inB r.nxt 0 (f.turnings.length - 1))) := by
  refine fn_intro Try.func139 rfl (by decide) Try.ntmps139 (by exact Nat.le_of_ble_eq_true rfl) fun w0 M0 => ?_
  have hs1 := hs.bears; have hs2 := hs.bins; have hs3 := hs.turnings; have hs4 := hs.rules
  refine t_seq ?_
  refine t_region ?_
  refine r_box_agg rfl ?_
  refine asB rfl ?_
  refine r_nil ?_
  refine i_then ?_
  refine t_seq ?_
  refine t_region ?_
  refine r_load_pp rfl rfl rfl rfl ?_
  refine r_field_pp rfl rfl rfl rfl rfl (by decide) ?_
  refine r_load_pp rfl rfl rfl rfl ?_
  refine r_callc rfl (cal_mth (c_turning f hs r.fst) rfl rfl rfl rfl rfl rfl) rfl ?_
  refine mvB rfl ?_
  apply r_guard (s := 8) rfl rfl rfl
  · intro hg; apply opT_of; (refine r_load_pp rfl rfl rfl rfl ?_); refine r_nil ?_; exact rfl
  · exact rfl
  · exact rfl
  apply r_guard (s := 8) rfl rfl rfl
  · intro hg; apply opT_of; (refine r_field_pp rfl rfl rfl rfl rfl (by decide) ?_); refine r_nil ?_; exact rfl
  · exact rfl
  · exact rfl
  apply r_guard (s := 8) rfl rfl rfl
  · intro hg; apply opT_strip (s := 10) rfl (by (rw [hg]; rfl)); apply opT_of; (refine r_load_pp rfl rfl rfl rfl ?_); refine r_nil ?_; exact rfl
  · exact rfl
  · exact rfl
  apply r_guard (s := 8) rfl rfl rfl
  · intro hg; apply opT_strip (s := 9) rfl (by (rw [hg]; rfl)); apply opT_strip (s := 11) rfl (by (rw [hg]; rfl)); apply opT_of; (refine r_callc rfl (cal_mth (c_turning f hs r.nxt) rfl rfl rfl rfl rfl rfl) rfl ?_); refine r_nil ?_; exact rfl
  · exact rfl
  · exact rfl
  refine r_and rfl rfl ?_
  refine asB rfl ?_
  refine r_nil ?_
  refine i_then ?_
  refine t_ret ?_
  refine i_rp1 rfl rfl ?_
  all_goals exact ret_refl rfl rfl
set_option maxRecDepth 100000 in
theorem c_right (f : Flr) (hs : f.Small) : Ctr Try.prog 106 [flrT f] (Ty.int .i64 (rightM f)) := by
  refine fn_intro Try.func106 rfl (by decide) Try.ntmps106 (by exact Nat.le_of_ble_eq_true rfl) fun w0 M0 => ?_
  have hs1 := hs.bears; have hs2 := hs.bins; have hs3 := hs.turnings; have hs4 := hs.rules
  refine t_seq ?_
  refine t_region ?_
  refine r_box_agg rfl ?_
  refine asI rfl ?_
  refine r_nil ?_
  refine i_then ?_
  refine t_seq ?_
  refine t_region ?_
  refine r_load_ppN rfl rfl rfl (by exact Nat.le_of_ble_eq_true rfl) ?_
  refine r_makeMth (l := [flrT f]) rfl ?_
  refine r_alloc rfl (by exact List.cons_ne_nil _ _) rfl ?_
  refine r_store1 rfl rfl (by decide) rfl rfl (by exact (rfl : _ = Ty.mth _ _)) rfl (by exact Nat.le_of_ble_eq_true rfl) rfl rfl (by exact (rfl : _ = [_])) ?_
  refine r_nil ?_
  refine i_then ?_
  refine t_seq ?_
  refine t_block ?_
  refine t_seq ?_
  refine t_pub (tg := 4) [(3, Ty.pp [Ty.mth 87 [flrT f]])] (by decide) rfl ⟨pub_ptr (T := 106) (tg := 4) (off := 0) (l := [Ty.mth 87 [flrT f]]) rfl rfl rfl (by decide), trivial⟩ ?_
  refine t_region ?_
  refine r_field_pp rfl rfl rfl rfl rfl (by decide) ?_
  refine r_load_pp rfl rfl rfl rfl ?_
  refine r_len rfl rfl rfl ?_
  refine r_call (c_in _ _ _) rfl rfl rfl rfl rfl ?_
  refine r_not rfl ?_
  refine mvB rfl ?_
  apply r_guard (s := 14) rfl rfl rfl
  · intro hg; apply opT_of; (refine r_field_pp rfl rfl rfl rfl rfl (by decide) ?_); refine r_nil ?_; exact rfl
  · exact rfl
  · exact rfl
  apply r_guard (s := 14) rfl rfl rfl
  · intro hg; apply opT_strip (s := 15) rfl (by (rw [hg]; rfl)); apply opT_of; (refine r_load_pp rfl rfl rfl rfl ?_); refine r_nil ?_; exact rfl
  · exact rfl
  · exact rfl
  apply r_guard (s := 14) rfl rfl rfl
  · intro hg; apply opT_strip (s := 16) rfl (by (rw [hg]; rfl)); apply opT_of; (refine r_len rfl rfl rfl ?_); refine r_nil ?_; exact rfl
  · exact rfl
  · exact rfl
  apply r_guard (s := 14) rfl rfl rfl
  · intro hg; apply opT_strip (s := 17) rfl (by (rw [hg]; rfl)); apply opT_of; (refine r_bin rfl rfl rfl ?_); refine r_nil ?_; exact rfl
  · exact rfl
  · exact rfl
  refine r_or rfl rfl ?_
  refine mvB rfl ?_
  apply r_guard (s := 20) rfl rfl rfl
  · intro hg; apply opT_of; (refine r_field_pp rfl rfl rfl rfl rfl (by decide) ?_); refine r_nil ?_; exact rfl
  · exact rfl
  · exact rfl
  apply r_guard (s := 20) rfl rfl rfl
  · intro hg; apply opT_strip (s := 21) rfl (by (rw [hg]; rfl)); apply opT_of; (refine r_load_pp rfl rfl rfl rfl ?_); refine r_nil ?_; exact rfl
  · exact rfl
  · exact rfl
  apply r_guard (s := 20) rfl rfl rfl
  · intro hg; apply opT_strip (s := 22) rfl (by (rw [hg]; rfl)); apply opT_of; (refine r_len rfl rfl rfl ?_); refine r_nil ?_; exact rfl
  · exact rfl
  · exact rfl
  apply r_guard (s := 20) rfl rfl rfl
  · intro hg; apply opT_strip (s := 23) rfl (by (rw [hg]; rfl)); apply opT_of; (refine r_bin rfl rfl rfl ?_); refine r_nil ?_; exact rfl
  · exact rfl
  · exact rfl
  refine r_or rfl rfl ?_
  refine mvB rfl ?_
  apply r_guard (s := 26) rfl rfl rfl
  · intro hg; apply opT_of; (refine r_field_pp rfl rfl rfl rfl rfl (by decide) ?_); refine r_nil ?_; exact rfl
  · exact rfl
  · exact rfl
  apply r_guard (s := 26) rfl rfl rfl
  · intro hg; apply opT_strip (s := 27) rfl (by (rw [hg]; rfl)); apply opT_of; (refine r_load_pp rfl rfl rfl rfl ?_); refine r_nil ?_; exact rfl
  · exact rfl
  · exact rfl
  apply r_guard (s := 26) rfl rfl rfl
  · intro hg; apply opT_strip (s := 28) rfl (by (rw [hg]; rfl)); apply opT_of; (refine r_len rfl rfl rfl ?_); refine r_nil ?_; exact rfl
  · exact rfl
  · exact rfl
  apply r_guard (s := 26) rfl rfl rfl
  · intro hg; apply opT_strip (s := 29) rfl (by (rw [hg]; rfl)); apply opT_of; (refine r_bin rfl rfl rfl ?_); refine r_nil ?_; exact rfl
  · exact rfl
  · exact rfl
  refine r_or rfl rfl ?_
  refine mvB rfl ?_
  apply r_guard (s := 32) rfl rfl rfl
  · intro hg; apply opT_of; (refine r_field_pp rfl rfl rfl rfl rfl (by decide) ?_); refine r_nil ?_; exact rfl
  · exact rfl
  · exact rfl
  apply r_guard (s := 32) rfl rfl rfl
  · intro hg; apply opT_strip (s := 33) rfl (by (rw [hg]; rfl)); apply opT_of; (refine r_load_pp rfl rfl rfl rfl ?_); refine r_nil ?_; exact rfl
  · exact rfl
  · exact rfl
  apply r_guard (s := 32) rfl rfl rfl
  · intro hg; apply opT_of; (refine r_makeFunc rfl ?_); refine r_nil ?_; exact rfl
  · exact rfl
  · exact rfl
  apply r_guard (s := 32) rfl rfl rfl
  · intro hg; apply opT_strip (s := 34) rfl (by (rw [hg]; rfl)); apply opT_strip (s := 35) rfl (by (rw [hg]; rfl)); apply opT_of; (refine r_call (c_every_bin f.bins (Ty.clo _ [Ty.pp (flrTys f)]) rfl (fun b => decide ((b.shares.length : Int) = f.bears.length)) rfl rfl fun b _ => cal_clo (c_right1 f b) rfl rfl rfl rfl rfl rfl) rfl rfl rfl rfl rfl ?_); refine r_nil ?_; exact rfl
  · exact rfl
  · exact rfl
  apply r_guard (s := 32) rfl rfl rfl
  · intro hg; apply opT_strip (s := 36) rfl (by (rw [hg]; rfl)); apply opT_of; (refine r_not rfl ?_); refine r_nil ?_; exact rfl
  · exact rfl
  · exact rfl
  refine r_or rfl rfl ?_
  refine asB rfl ?_
  refine r_nil ?_
  refine i_then ?_
  refine t_cond rfl (fun hc1 => ?_) (fun hc1 => ?_)
  ·
    refine t_seq ?_
    refine t_region ?_
    refine asI rfl ?_
    refine r_nil ?_
    refine i_then ?_
    refine t_ret ?_
    refine i_block_ret ?_
    refine i_then_ret ?_
    refine i_rp1 rfl rfl ?_
    all_goals skip
    exact ret_eq rfl rfl (congrArg (Ty.int .i64) (by rw [rightM, if_pos (show right1 f = true from hc1)]))
  ·
    refine t_seq ?_
    refine t_region ?_
    refine r_field_pp rfl rfl rfl rfl rfl (by decide) ?_
    refine r_load_pp rfl rfl rfl rfl ?_
    refine r_call (c_every_int f.bears (Ty.clo _ []) rfl (fun n => inB n 0 4000) rfl rfl fun n _ => cal_clo (c_right2 n) rfl rfl rfl rfl rfl rfl) rfl rfl rfl rfl rfl ?_
    refine r_not rfl ?_
    refine mvB rfl ?_
    apply r_guard (s := 44) rfl rfl rfl
    · intro hg; apply opT_of; (refine r_field_pp rfl rfl rfl rfl rfl (by decide) ?_); refine r_nil ?_; exact rfl
    · exact rfl
    · exact rfl
    apply r_guard (s := 44) rfl rfl rfl
    · intro hg; apply opT_strip (s := 45) rfl (by (rw [hg]; rfl)); apply opT_of; (refine r_load_pp rfl rfl rfl rfl ?_); refine r_nil ?_; exact rfl
    · exact rfl
    · exact rfl
    apply r_guard (s := 44) rfl rfl rfl
    · intro hg; apply opT_strip (s := 46) rfl (by (rw [hg]; rfl)); apply opT_of; (refine r_call (c_every_trn f.turnings (Ty.clo _ []) rfl (fun t => inB t.sacks 1 300) rfl rfl fun t _ => cal_clo (c_right3 t) rfl rfl rfl rfl rfl rfl) rfl rfl rfl rfl rfl ?_); refine r_nil ?_; exact rfl
    · exact rfl
    · exact rfl
    apply r_guard (s := 44) rfl rfl rfl
    · intro hg; apply opT_strip (s := 47) rfl (by (rw [hg]; rfl)); apply opT_of; (refine r_not rfl ?_); refine r_nil ?_; exact rfl
    · exact rfl
    · exact rfl
    refine r_or rfl rfl ?_
    refine asB rfl ?_
    refine r_nil ?_
    refine i_then ?_
    refine t_cond rfl (fun hc2 => ?_) (fun hc2 => ?_)
    ·
      refine t_seq ?_
      refine t_region ?_
      refine asI rfl ?_
      refine r_nil ?_
      refine i_then ?_
      refine t_ret ?_
      refine i_block_ret ?_
      refine i_then_ret ?_
      refine i_rp1 rfl rfl ?_
      all_goals skip
      exact ret_eq rfl rfl (congrArg (Ty.int .i64) (by rw [rightM, if_neg (ng (show right1 f = false from hc1)), if_pos (show right2 f = true from hc2)]))
    ·
      refine t_seq ?_
      refine t_region ?_
      refine r_field_pp rfl rfl rfl rfl rfl (by decide) ?_
      refine r_load_pp rfl rfl rfl rfl ?_
      refine r_call (c_every_bin f.bins (Ty.clo _ []) rfl (fun b => inB b.has 0 300 && b.shares.all fun n => inB n 0 4) rfl rfl fun b _ => cal_clo (c_right4 b) rfl rfl rfl rfl rfl rfl) rfl rfl rfl rfl rfl ?_
      refine r_not rfl ?_
      refine asB rfl ?_
      refine r_nil ?_
      refine i_then ?_
      refine t_cond rfl (fun hc3 => ?_) (fun hc3 => ?_)
      ·
        refine t_seq ?_
        refine t_region ?_
        refine asI rfl ?_
        refine r_nil ?_
        refine i_then ?_
        refine t_ret ?_
        refine i_block_ret ?_
        refine i_then_ret ?_
        refine i_rp1 rfl rfl ?_
        all_goals skip
        exact ret_eq rfl rfl (congrArg (Ty.int .i64) (by rw [rightM, if_neg (ng (show right1 f = false from hc1)), if_neg (ng (show right2 f = false from hc2)), if_pos (show right3 f = true from hc3)]))
      ·
        refine t_seq ?_
        refine t_region ?_
        refine r_field_pp rfl rfl rfl rfl rfl (by decide) ?_
        refine r_load_pp rfl rfl rfl rfl ?_
        refine r_makeFunc rfl ?_
        refine r_call (c_every_trn f.turnings (Ty.clo _ [Ty.pp (flrTys f)]) rfl (fun t => inB t.src (-1) (f.bins.length - 1) && inB t.dst (-1) (f.bins.length - 1)) rfl rfl fun t _ => cal_clo (c_right5 f hs t) rfl rfl rfl rfl rfl rfl) rfl rfl rfl rfl rfl ?_
        refine r_not rfl ?_
        refine mvB rfl ?_
        apply r_guard (s := 61) rfl rfl rfl
        · intro hg; apply opT_of; (refine r_field_pp rfl rfl rfl rfl rfl (by decide) ?_); refine r_nil ?_; exact rfl
        · exact rfl
        · exact rfl
        apply r_guard (s := 61) rfl rfl rfl
        · intro hg; apply opT_strip (s := 62) rfl (by (rw [hg]; rfl)); apply opT_of; (refine r_load_pp rfl rfl rfl rfl ?_); refine r_nil ?_; exact rfl
        · exact rfl
        · exact rfl
        apply r_guard (s := 61) rfl rfl rfl
        · intro hg; apply opT_of; (refine r_makeFunc rfl ?_); refine r_nil ?_; exact rfl
        · exact rfl
        · exact rfl
        apply r_guard (s := 61) rfl rfl rfl
        · intro hg; apply opT_strip (s := 63) rfl (by (rw [hg]; rfl)); apply opT_strip (s := 64) rfl (by (rw [hg]; rfl)); apply opT_of; (refine r_call (c_every_rul f.rules (Ty.clo _ [Ty.pp [Ty.mth 87 [flrT f]]]) rfl (fun r => inB r.fst 0 (f.turnings.length - 1) && inB r.nxt 0 (f.turnings.length - 1)) rfl rfl fun r _ => cal_clo (c_right6 f hs r) rfl rfl rfl rfl rfl rfl) rfl rfl rfl rfl rfl ?_); refine r_nil ?_; exact rfl
        · exact rfl
        · exact rfl
        apply r_guard (s := 61) rfl rfl rfl
        · intro hg; apply opT_strip (s := 65) rfl (by (rw [hg]; rfl)); apply opT_of; (refine r_not rfl ?_); refine r_nil ?_; exact rfl
        · exact rfl
        · exact rfl
        refine r_or rfl rfl ?_
        refine asB rfl ?_
        refine r_nil ?_
        refine i_then ?_
        refine t_cond rfl (fun hc4 => ?_) (fun hc4 => ?_)
        ·
          refine t_seq ?_
          refine t_region ?_
          refine asI rfl ?_
          refine r_nil ?_
          refine i_then ?_
          refine t_ret ?_
          refine i_block_ret ?_
          refine i_then_ret ?_
          refine i_rp1 rfl rfl ?_
          all_goals skip
          exact ret_eq rfl rfl (congrArg (Ty.int .i64) (by rw [rightM, if_neg (ng (show right1 f = false from hc1)), if_neg (ng (show right2 f = false from hc2)), if_neg (ng (show right3 f = false from hc3)), if_pos (show right4 f = true from hc4)]))
        ·
          refine t_seq ?_
          refine t_region ?_
          refine r_field_pp rfl rfl rfl rfl rfl (by decide) ?_
          refine r_load_pp rfl rfl rfl rfl ?_
          refine r_call (c_every_trn f.turnings (Ty.clo _ []) rfl (fun t => !decide (t.src = t.dst)) rfl rfl fun t _ => cal_clo (c_right7 t) rfl rfl rfl rfl rfl rfl) rfl rfl rfl rfl rfl ?_
          refine r_not rfl ?_
          refine asB rfl ?_
          refine r_nil ?_
          refine i_then ?_
          refine t_cond rfl (fun hc5 => ?_) (fun hc5 => ?_)
          ·
            refine t_seq ?_
            refine t_region ?_
            refine asI rfl ?_
            refine r_nil ?_
            refine i_then ?_
            refine t_ret ?_
            refine i_block_ret ?_
            refine i_then_ret ?_
            refine i_rp1 rfl rfl ?_
            all_goals skip
            exact ret_eq rfl rfl (congrArg (Ty.int .i64) (by rw [rightM, if_neg (ng (show right1 f = false from hc1)), if_neg (ng (show right2 f = false from hc2)), if_neg (ng (show right3 f = false from hc3)), if_neg (ng (show right4 f = false from hc4)), if_pos (show right5 f = true from hc5)]))
          ·
            refine t_seq ?_
            have hr : f.Ranged := ranged_right hc1 hc2 hc3
            have hr4 := hr.bears
            refine t_region ?_
            refine r_field_pp rfl rfl rfl rfl rfl (by decide) ?_
            refine r_load_pp rfl rfl rfl rfl ?_
            refine r_call (c_every_bin f.bins (Ty.clo _ []) rfl (fun b => decide (b.shares.sum = 4)) rfl rfl fun b hb => cal_clo (c_right8 b (by have := hr.shares b hb; omega) (fun n hn => by have := hr.sharesR b hb n hn; omega)) rfl rfl rfl rfl rfl rfl) rfl rfl rfl rfl rfl ?_
            refine r_not rfl ?_
            refine asB rfl ?_
            refine r_nil ?_
            refine i_then ?_
            refine t_cond rfl (fun hc6 => ?_) (fun hc6 => ?_)
            ·
              refine t_seq ?_
              refine t_region ?_
              refine asI rfl ?_
              refine r_nil ?_
              refine i_then ?_
              refine t_ret ?_
              refine i_block_ret ?_
              refine i_then_ret ?_
              refine i_rp1 rfl rfl ?_
              all_goals skip
              exact ret_eq rfl rfl (congrArg (Ty.int .i64) (by rw [rightM, if_neg (ng (show right1 f = false from hc1)), if_neg (ng (show right2 f = false from hc2)), if_neg (ng (show right3 f = false from hc3)), if_neg (ng (show right4 f = false from hc4)), if_neg (ng (show right5 f = false from hc5)), if_pos (show right6 f = true from hc6)]))
            ·
              refine t_skip ?_
              refine i_block ?_
              refine i_then ?_
              refine t_seq ?_
              refine t_seq ?_
              refine t_region ?_
              refine r_field_pp rfl rfl rfl rfl rfl (by decide) ?_
              refine r_load_pp rfl rfl rfl rfl ?_
              refine r_len rfl rfl rfl ?_
              refine mvI rfl ?_
              refine r_nil ?_
              refine i_then ?_
              refine t_block ?_
              refine t_loop (fun (k : {k : Nat // ∀ j, j < k → decide (takenM f f.turnings j > (nth f.bins j).has) = false}) => live [(1, Ty.pp (flrTys f)), (79, Ty.sl BinE f.bins), (80, Ty.int .i64 f.bins.length), (81, Ty.int .i64 (k.1 : Nat))] []) (fun k => f.bins.length - k.1) (⟨0, fun j hj => absurd hj (Nat.not_lt_zero _)⟩) ?_ fun k => ?_
              · (refine Ent.mk' ?_ ?_ <;> (repeat' (first | exact allSub_zero | exact allTags_nil | refine allSub_succ' ?_ (Ty.sub_any _) | refine allSub_succ' ?_ (Ty.sub_refl _))))
              ·
                refine t_seq ?_
                refine t_region ?_
                refine r_bin rfl rfl rfl ?_
                refine r_nil ?_
                refine i_then ?_
                refine t_seq ?_
                refine t_cond_dec rfl (fun hc7 => ?_) (fun hc7 => ?_)
                ·
                  refine t_skip ?_
                  refine i_then ?_
                  refine t_seq ?_
                  refine t_block ?_
                  refine t_seq ?_
                  refine t_region ?_
                  refine mvI rfl ?_
                  refine r_index_slN rfl rfl rfl rfl rfl rfl (by omega) ?_
                  refine r_load_ppN rfl rfl rfl (by exact Nat.le_of_ble_eq_true rfl) ?_
                  refine r_alloc rfl (by exact List.cons_ne_nil _ _) rfl ?_
                  refine asI rfl ?_
                  refine r_storeN rfl rfl (by decide) rfl rfl rfl rfl rfl rfl ?_
                  refine r_nil ?_
                  refine i_then ?_
                  refine t_seq ?_
                  refine t_draw mixed rfl ?_
                  refine r_load_ppN rfl rfl rfl (by exact Nat.le_of_ble_eq_true rfl) ?_
                  refine mvI rfl ?_
                  refine r_call (c_taken f hs hr _) rfl rfl rfl rfl rfl ?_
                  refine r_field_ptr rfl rfl rfl rfl rfl (by decide) ?_
                  refine r_load_ptr rfl rfl (by decide) rfl rfl rfl ?_
                  refine r_bin rfl rfl rfl ?_
                  refine r_nil ?_
                  refine ⟨by kernel_rfl, ?_⟩
                  refine i_then ?_
                  refine t_cond_dec rfl (fun hc8 => ?_) (fun hc8 => ?_)
                  ·
                    refine t_seq ?_
                    refine t_region ?_
                    refine asI rfl ?_
                    refine r_nil ?_
                    refine i_then ?_
                    refine t_ret ?_
                    refine i_block_ret ?_
                    refine i_then_ret ?_
                    refine i_then_ret ?_
                    refine i_block_ret ?_
                    refine i_then_ret ?_
                    refine i_rp1 rfl rfl ?_
                    all_goals skip
                    exact ret_eq rfl rfl (congrArg (Ty.int .i64) (by rw [rightM, if_neg (ng (show right1 f = false from hc1)), if_neg (ng (show right2 f = false from hc2)), if_neg (ng (show right3 f = false from hc3)), if_neg (ng (show right4 f = false from hc4)), if_neg (ng (show right5 f = false from hc5)), if_neg (ng (show right6 f = false from hc6)), if_pos (show right7 f = true from iot_any_pos (k := k.1) (by omega) (by rw [Int.toNat_natCast]; exact decide_eq_true hc8))]))
                  ·
                    refine t_skip ?_
                    refine i_block ?_
                    refine i_then ?_
                    refine t_region ?_
                    refine r_add rfl rfl (by omega) (by omega) ?_
                    refine mvI rfl ?_
                    refine r_nil ?_
                    refine i_round (⟨k.1 + 1, ext_lt k.2 (decide_eq_false hc8)⟩) ?_ (by show f.bins.length - (k.1 + 1) < f.bins.length - k.1; omega)
                    (refine Ent.mk' ?_ ?_ <;> (repeat' (first | exact allSub_zero | exact allTags_nil | refine allSub_succ' ?_ (Ty.sub_any _) | refine allSub_succ' ?_ (Ty.sub_refl _))))
                    all_goals skip
                ·
                  refine t_exit ?_
                  refine i_then_exit ?_
                  refine i_then_exit ?_
                  refine i_block_exit rfl ?_
                  refine i_then ?_
                  refine t_seq ?_
                  refine t_region ?_
                  refine asI rfl ?_
                  refine r_nil ?_
                  refine i_then ?_
                  refine t_ret ?_
                  refine i_rp1 rfl rfl ?_
                  all_goals skip
                  exact ret_eq rfl rfl (congrArg (Ty.int .i64) (by rw [rightM, if_neg (ng (show right1 f = false from hc1)), if_neg (ng (show right2 f = false from hc2)), if_neg (ng (show right3 f = false from hc3)), if_neg (ng (show right4 f = false from hc4)), if_neg (ng (show right5 f = false from hc5)), if_neg (ng (show right6 f = false from hc6)), if_neg (ng (show right7 f = false from iot_any_neg fun j hj => by rw [Int.toNat_natCast]; exact k.2 j (by omega)))]))
end Go.Proofs.Ytifgbnbkimcchaa

namespace Go.T
open Go Go.RowKit
section
variable {P : Program} {fr : Fr} {ops : Array Oper} {A : As} {rest : List Oper} {K : As → List (As × Fx) → Prop} {d : Nat} {t ty' : TypeId} {p : String} {e : Array Edge} [T : Tab P]
variable {α : Type} [Inhabited α] {E : El α} {xs : List α} {x y : Operand} {tg i o s Tb : Nat} {ti : TI} {ty : Ty} {z : α}
theorem r_index_ptrI {off n : Nat} {k : IntKind} {j : Int} {te : TI} {el : Nat} (hx : A.op fr x = .ptr tg off) (hy : A.op fr y = .int k j) (hT : T.tab[ty']? = some ti) (hk : ti.k = .array n el) (hE : T.tab[el]? = some te) (h0 : 0 ≤ j) (h1 : j.toNat < n)
    (h : TOps P fr ops rest (A.set d (.ptr tg (off + j.toNat * te.size))) fun A' l' => K A' ((A, { d := some d, ty := .ptr tg (off + j.toNat * te.size), rs := opR x ++ opR y }) :: l')) : TOps P fr ops (⟨some d, .indexAddr ty' x y, t, p, e, none⟩ :: rest) A K :=
  tops_pure (opT_pure rfl rfl fun a w M _ hr _ => by
    obtain ⟨hdx, hdy⟩ := op2 hr
    rw [hx] at hdx; rw [hy] at hdy
    obtain ⟨b, hb, ex⟩ := hdx
    have ey : a.eval y = .int k j := hdy
    exact ⟨_, by simp only [execOp, ex, ey, Sem.run_bind, run_index_array hT hk hE h0 h1]; rfl, b, hb, rfl⟩) h
end
end Go.T

namespace Go.Proofs.Ytifgbnbkimcchaa
open Go.T
def N64 : El Nat := El.mk' 1 (fun n => [Ty.int .i64 (n : Nat)]) (fun _ => rfl) (fun _ => ⟨rfl, rfl, rfl⟩)
def stepR (out : List Nat) (r : Rul) : List Nat := out.set r.nxt.toNat (nth out r.nxt.toNat ||| (nth out r.fst.toNat ||| 1 <<< r.fst.toNat))
def roundR (f : Flr) (out : List Nat) : List Nat := f.rules.foldl stepR out
def iterR (f : Flr) : Nat → List Nat → List Nat
  | 0, out => out
  | n + 1, out => if roundR f out = out then out else iterR f n (roundR f out)
def aheadP (f : Flr) : List Nat := iterR f 2041 (List.replicate 8 0)
def Flr.Ruled (f : Flr) : Prop := f.turnings.length ≤ 8 ∧ ∀ r ∈ f.rules, (0 ≤ r.fst ∧ r.fst < f.turnings.length) ∧ (0 ≤ r.nxt ∧ r.nxt < f.turnings.length)
structure Sets (out : List Nat) : Prop where
  len : out.length = 8
  lt : ∀ e ∈ out, e < 256
theorem Sets.nth {out : List Nat} (h : Sets out) (k : Nat) : T.nth out k < 256 := by
  rcases Nat.lt_or_ge k out.length with hk | hk
  · exact h.lt _ (nth_mem hk)
  · have : T.nth out k = 0 := by
      show out.getD k default = 0
      rw [List.getD_eq_getElem?_getD, List.getElem?_eq_none hk]; rfl
    omega
theorem new_set {out : List Nat} (h : Sets out) {a b : Nat} (hb : b < 8) : T.nth out a ||| (T.nth out b ||| 1 <<< b) < 256 := by
  refine Nat.or_lt_two_pow (n := 8) (h.nth a) (Nat.or_lt_two_pow (h.nth b) ?_)
  rw [Nat.shiftLeft_eq, Nat.one_mul]
  exact Nat.pow_lt_pow_right (by omega) hb
theorem sets_step {out : List Nat} (h : Sets out) {r : Rul} (hr : r.fst.toNat < 8) : Sets (stepR out r) :=
  ⟨by rw [stepR, List.length_set, h.len], fun e he => by
    rcases List.mem_or_eq_of_mem_set he with h1 | rfl
    · exact h.lt e h1
    · exact new_set h hr⟩
theorem le_or (a b : Nat) : a ≤ a ||| b := Nat.left_le_or
theorem sum_set {l : List Nat} {k v : Nat} (hk : k < l.length) (h : nth l k ≤ v) : l.sum ≤ (l.set k v).sum ∧ ((l.set k v).sum = l.sum → l.set k v = l) := by
  induction l generalizing k with
  | nil => simp at hk
  | cons x l ih =>
    cases k with
    | zero =>
      have h : x ≤ v := h
      simp only [List.set_cons_zero, List.sum_cons]
      exact ⟨by omega, fun e => by rw [show v = x by omega]⟩
    | succ k =>
      obtain ⟨h1, h2⟩ := ih (k := k) (by simpa using hk) h
      simp only [List.set_cons_succ, List.sum_cons]
      exact ⟨by omega, fun e => by rw [h2 (by omega)]⟩
theorem step_grow {out : List Nat} (h : Sets out) {r : Rul} (hr : r.nxt.toNat < 8) : out.sum ≤ (stepR out r).sum ∧ ((stepR out r).sum = out.sum → stepR out r = out) :=
  sum_set (by rw [h.len]; exact hr) (le_or _ _)
theorem fold_grow : ∀ (l : List Rul) (out : List Nat), Sets out → (∀ r ∈ l, r.fst.toNat < 8 ∧ r.nxt.toNat < 8) → Sets (l.foldl stepR out) ∧ out.sum ≤ (l.foldl stepR out).sum ∧ ((l.foldl stepR out).sum = out.sum → l.foldl stepR out = out)
  | [], out, h, _ => ⟨h, Nat.le_refl _, fun _ => rfl⟩
  | r :: l, out, h, hl => by
    have hr := hl r List.mem_cons_self
    obtain ⟨a1, a2⟩ := step_grow h hr.2
    obtain ⟨b1, b2, b3⟩ := fold_grow l (stepR out r) (sets_step h hr.1) fun x hx => hl x (List.mem_cons_of_mem _ hx)
    rw [List.foldl_cons]
    refine ⟨b1, by omega, fun e => ?_⟩
    have e1 := a2 (by omega)
    rw [e1] at b3 e ⊢
    exact b3 e
theorem ruled8 {f : Flr} (h : f.Ruled) : ∀ r ∈ f.rules, r.fst.toNat < 8 ∧ r.nxt.toNat < 8 := fun r hr => by
  have := h.2 r hr; have := h.1; omega
theorem sets_sum {out : List Nat} (h : Sets out) : out.sum ≤ 2040 := by
  have : ∀ l : List Nat, (∀ e ∈ l, e < 256) → l.sum ≤ 255 * l.length := fun l => by
    induction l with
    | nil => intro _; simp
    | cons x l ih => intro hl; have := ih fun e he => hl e (List.mem_cons_of_mem _ he); have := hl x List.mem_cons_self; simp only [List.sum_cons, List.length_cons]; omega
  have := this out h.lt
  rw [h.len] at this; omega
theorem iter_next {f : Flr} (hf : f.Ruled) {n : Nat} {out : List Nat} (h : Sets out) (hn : 2040 < n + out.sum) (hne : roundR f out ≠ out) : ∃ m, n = m + 1 ∧ iterR f n out = iterR f m (roundR f out) ∧ Sets (roundR f out) ∧ 2040 < m + (roundR f out).sum := by
  obtain ⟨a, b, c⟩ := fold_grow f.rules out h (ruled8 hf)
  have hs := sets_sum h
  have hlt : out.sum < (roundR f out).sum := Nat.lt_of_le_of_ne b fun e => hne (c e.symm)
  obtain ⟨m, rfl⟩ : ∃ m, n = m + 1 := ⟨n - 1, by omega⟩
  exact ⟨m, rfl, by rw [iterR, if_neg hne], a, by omega⟩
theorem iter_end {f : Flr} {n : Nat} {out : List Nat} (h : Sets out) (hn : 2040 < n + out.sum) (he : roundR f out = out) : iterR f n out = out := by
  cases n with
  | zero => have := sets_sum h; omega
  | succ n => rw [iterR, if_pos he]
theorem sets_start : Sets (List.replicate 8 0) := ⟨rfl, by decide⟩
end Go.Proofs.Ytifgbnbkimcchaa

namespace Go.Proofs.Ytifgbnbkimcchaa
open Go Go.T Go.RowKit
theorem und133 : Try.prog.underlying 133 = some (.array 8 3) := by kernel_rfl
theorem eqv133 (a0 a1 a2 a3 a4 a5 a6 a7 b0 b1 b2 b3 b4 b5 b6 b7 : Int) (w : World) : (Op.equal 133 (.agg #[.int .i64 a0, .int .i64 a1, .int .i64 a2, .int .i64 a3, .int .i64 a4, .int .i64 a5, .int .i64 a6, .int .i64 a7]) (.agg #[.int .i64 b0, .int .i64 b1, .int .i64 b2, .int .i64 b3, .int .i64 b4, .int .i64 b5, .int .i64 b6, .int .i64 b7])).run Try.prog w = .ok ((decide (a0 = b0) && (decide (a1 = b1) && (decide (a2 = b2) && (decide (a3 = b3) && (decide (a4 = b4) && (decide (a5 = b5) && (decide (a6 = b6) && decide (a7 = b7))))))))) w := by
  have hs : Try.prog.stoodInHeld 133 = false := by kernel_rfl
  have e3 : ∀ (x y : Int) (w : World), (Op.equalIn 9999 3 (.int .i64 x) (.int .i64 y)).run Try.prog w = .ok (decide (x = y)) w := fun x y w => eqIn_int 9998 Try.underlying3
  have g3 : ∀ w, (isAgg 3).run Try.prog w = .ok false w := fun w => by simp [isAgg, run_underlying Try.underlying3]
  unfold Op.equal Op.maxDepth
  rw [Op.equalIn]
  simp only [Sem.run_bind, run_underlying und133, Result.andThen_ok]
  simp [hs, part, g3, e3]
  rw [show List.range' 0 8 = [0, 1, 2, 3, 4, 5, 6, 7] from rfl]
  simp [List.forIn_cons, g3, e3]
  by_cases h0 : a0 = b0
  case neg => simp [h0]
  rw [if_pos h0]
  by_cases h1 : a1 = b1
  case neg => simp [h1]
  rw [if_pos h1]
  by_cases h2 : a2 = b2
  case neg => simp [h2]
  rw [if_pos h2]
  by_cases h3 : a3 = b3
  case neg => simp [h3]
  rw [if_pos h3]
  by_cases h4 : a4 = b4
  case neg => simp [h4]
  rw [if_pos h4]
  by_cases h5 : a5 = b5
  case neg => simp [h5]
  rw [if_pos h5]
  by_cases h6 : a6 = b6
  case neg => simp [h6]
  rw [if_pos h6]
  by_cases h7 : a7 = b7
  case neg => simp [h7]
  rw [if_pos h7]
  simp [h0, h1, h2, h3, h4, h5, h6, h7]
theorem eqn133 (xs ys : List Nat) (hx : xs.length = 8) (hy : ys.length = 8) : EqT Try.prog 133 (xs.flatMap N64.tys) (ys.flatMap N64.tys) (decide (xs = ys)) := by
  match xs, hx with
  | [a0, a1, a2, a3, a4, a5, a6, a7], _ =>
    match ys, hy with
    | [b0, b1, b2, b3, b4, b5, b6, b7], _ =>
      refine ⟨by kernel_rfl, fun w M cs ds h1 h2 => ?_⟩
      obtain ⟨cs⟩ := cs
      obtain ⟨ds⟩ := ds
      match cs, ds, h1, h2 with
      | [ua0, ua1, ua2, ua3, ua4, ua5, ua6, ua7], [vb0, vb1, vb2, vb3, vb4, vb5, vb6, vb7], h1, h2 =>
        change dens w M [Ty.int .i64 a0, Ty.int .i64 a1, Ty.int .i64 a2, Ty.int .i64 a3, Ty.int .i64 a4, Ty.int .i64 a5, Ty.int .i64 a6, Ty.int .i64 a7] _ at h1
        change dens w M [Ty.int .i64 b0, Ty.int .i64 b1, Ty.int .i64 b2, Ty.int .i64 b3, Ty.int .i64 b4, Ty.int .i64 b5, Ty.int .i64 b6, Ty.int .i64 b7] _ at h2
        simp only [dens, Ty.int, dInt, and_true] at h1 h2
        obtain ⟨rfl, rfl, rfl, rfl, rfl, rfl, rfl, rfl⟩ := h1
        obtain ⟨rfl, rfl, rfl, rfl, rfl, rfl, rfl, rfl⟩ := h2
        rw [eqv133]
        congr 1
        simp only [List.cons.injEq, and_true, Bool.decide_and, Int.natCast_inj]
end Go.Proofs.Ytifgbnbkimcchaa

namespace Go.T
open Go Go.RowKit
section
variable {P : Program} {fr : Fr} {ops : Array Oper} {A : As} {rest : List Oper} {K : As → List (As × Fx) → Prop} {d : Nat} {t ty' ty2 : TypeId} {p : String} {e : Array Edge} [T : Tab P]
variable {α : Type} [Inhabited α] {E : El α} {xs ys : List α} {x y : Operand} {tg i o s Tb : Nat} {ti : TI} {ty : Ty} {z : α}
theorem r_load_vecN (hx : A.op fr x = .ptr tg 0) (hc : A.tag tg = some (.vec E Tb xs)) (h1 : Tag1 tg) (hT : T.tab[ty']? = some ti) (ha : ti.k.agg = true) (hsz : xs.length * E.size = ti.size) (hne : xs ≠ [])
    (h : TOps P fr ops rest (A.set d (.arr E xs)) fun A' l' => K A' ((A, { d := some d, ty := .arr E xs, rs := opR x, rt := [tg] }) :: l')) : TOps P fr ops (⟨some d, .load ty' x, t, p, e, none⟩ :: rest) A K :=
  tops_pure (opT_pure rfl rfl fun a w M wf hr ht => by
    have _ := (inferInstance : Inhabited α)
    have := op_den (x := x) (fun _ h => h) hr
    rw [hx] at this
    obtain ⟨b, hb, e⟩ := this
    rcases vec_den hc w M ht with h0 | ⟨b', cs, hb', hh, hd⟩
    · exact absurd h0 hne
    obtain ⟨u, rfl⟩ : ∃ u, tg = u + 1 := ⟨tg - 1, by omega⟩
    have := wf.inj b b' u (by omega) hb hb'
    subst this
    have hlen := dens_len hd
    rw [flat_len] at hlen hd
    refine ⟨.agg (cs.toList.take (xs.length * E.size)).toArray, ?_, _, rfl, by simpa using hd⟩
    have := run_loadN (P := P) hT ha (w := w) (b := b) (off := 0) (cs := cs.toList.take (xs.length * E.size)) (by rw [hlen, hsz]) (fun j v hj => by
      rw [List.getElem?_take] at hj
      split at hj
      · simpa [World.cell?, hh] using hj
      · cases hj)
    simp [execOp, e, this]) h
theorem r_indexa {n j : Nat} {k : IntKind} {te : TI} {el : Nat} (hx : A.op fr x = .arr E xs) (hy : A.op fr y = .int k j) (hT : T.tab[ty']? = some ti) (hk : ti.k = .array n el) (hE : T.tab[el]? = some te) (ha : te.k.agg = false) (hs : te.size = E.size) (h1 : j < n) (hi : j < xs.length) (hl : (E.tys (nth xs j))[0]? = some ty)
    (h : TOps P fr ops rest (A.set d ty) fun A' l' => K A' ((A, { d := some d, ty := ty, rs := opR x ++ opR y }) :: l')) : TOps P fr ops (⟨some d, .index ty' x y, t, p, e, none⟩ :: rest) A K :=
  tops_pure (opT_pure rfl rfl fun a w M _ hr _ => by
    obtain ⟨hdx, hdy⟩ := op2 hr
    rw [hx] at hdx; rw [hy] at hdy
    obtain ⟨cs, ex, hd⟩ := hdx
    have ey : a.eval y = .int k j := hdy
    obtain ⟨v, hv, hdv⟩ := dens_get hd (j * te.size) ty (by have := flat_elem E xs hi 0 ty hl; rwa [Nat.add_zero, ← hs] at this)
    obtain ⟨_, D, _, hD, hkd, _⟩ := tab_info hT
    rw [hk] at hkd
    cases D <;> simp only [TK.of, reduceCtorEq, TK.array.injEq] at hkd
    obtain ⟨e1, e2⟩ := hkd
    subst e1; subst e2
    have hv' : cs[j * te.size]? = some v := by simpa using hv
    exact ⟨v, by simp [execOp, Instr.index, asIntOf, ex, ey, run_underlying hD, run_sizeOf' hE, part, run_isAgg' hE, ha, hv', h1], hdv⟩) h
omit T in
theorem r_eqla {c : Bool} (hE : EqT P ty' (xs.flatMap E.tys) (ys.flatMap E.tys) c) (hx : A.op fr x = .arr E xs) (hy : A.op fr y = .arr E ys)
    (h : TOps P fr ops rest (A.set d (.bool c)) fun A' l' => K A' ((A, { d := some d, ty := .bool c, rs := opR x ++ opR y }) :: l')) : TOps P fr ops (⟨some d, .binOp .eql ty' x y ty2, t, p, e, none⟩ :: rest) A K :=
  tops_pure (opT_pure rfl rfl fun a w M _ hrd _ => by
    have _ := (inferInstance : Inhabited α)
    obtain ⟨hdx, hdy⟩ := op2 hrd
    rw [hx] at hdx; rw [hy] at hdy
    obtain ⟨cs, ex, h1⟩ := hdx
    obtain ⟨ds, ey, h2⟩ := hdy
    exact ⟨.bool c, by simp only [execOp, ex, ey]; simp [eqGuard, hE.1, binOp, hE.2 w M cs ds h1 h2], rfl⟩) h
theorem r_store_arr {l : List Ty} (hx : A.op fr x = .ptr tg 0) (hc : A.tag tg = some (.cells Tb l)) (h1 : Tag1 tg) (hT : T.tab[ty']? = some ti) (hy : A.op fr y = .arr E xs) (hsz : xs.length * E.size = ti.size) (hlen : l.length = ti.size)
    (h : TOps P fr ops rest (A.after { d := none, S := [tg], sets := [(tg, .vec E Tb xs)], rs := opR x ++ opR y, rt := [tg] }) fun A' l'' => K A' ((A, { d := none, S := [tg], sets := [(tg, .vec E Tb xs)], rs := opR x ++ opR y, rt := [tg] }) :: l'')) :
    TOps P fr ops (⟨none, .store ty' x y, t, p, e, none⟩ :: rest) A K := by
  have _ := (inferInstance : Inhabited α)
  refine ⟨_, opT_unit rfl rfl rfl (by simp) (by simpa using h1.1) (by simp) fun a w M wf hr ht => ?_, h⟩
  obtain ⟨hdx, hdy⟩ := op2 hr
  rw [hx] at hdx; rw [hy] at hdy
  obtain ⟨b, hb, ex⟩ := hdx
  obtain ⟨vs, ey, hvs⟩ := hdy
  obtain ⟨b', cs, hb', hh, hd⟩ := ht _ (tag_mem hc) (by simp)
  obtain ⟨u, rfl⟩ : ∃ u, tg = u + 1 := ⟨tg - 1, by omega⟩
  have := wf.inj b b' u (by omega) hb hb'
  subst this
  have hl1 := dens_len hd
  have hl2 := dens_len hvs
  rw [flat_len] at hl2
  obtain ⟨h1', h2', h3'⟩ := store_le (cs' := vs) (Tb := Tb) wf hb _ rfl
  have hones : ∀ v ∈ vs.toList, v.oneCell' = true := dens_ones hvs (flat_ones E xs)
  refine ⟨_, ?_, M, h1', h2', trivial, ?_⟩
  · have hst := run_storeCells_all (P := P) (w := w) (b := b) (Tb := Tb) vs.toList [] cs hh (by simp at hl1 hl2 ⊢; omega) (by simp) hones
    have hsz' : vs.size = ti.size := by simp at hl2; omega
    simp only [List.length_nil, List.nil_append] at hst
    simp [execOp, Instr.storeAt, Instr.sureAddr, ex, ey, storeVar, Value.cells, run_sizeOf' hT, hsz', hst]
  · intro z hz
    simp only [List.mem_singleton] at hz
    subst hz
    exact dVec_of ⟨b, vs, hb, h3', dens_mono h2' (by intro _ _ h; cases h) (by rw [E.flat_cdeps]; intro _ h; cases h) hvs⟩
end
section
variable {P : Program} {A : As} {fn : Func} {n : Nat} {w0 : World} {M0 : Tags} [T : Tab P]
theorem i_rcella {α : Type} {E : El α} {xs : List α} {tm ty tg Tb : Nat} {ti : TI} (hr : fn.results = #[.cell tm ty]) (ht : Nat.blt tm n = true) (hx : A.slots tm = .ptr tg 0) (hc : A.tag tg = some (.vec E Tb xs)) (h1 : Tag1 tg) (hT : T.tab[ty]? = some ti) (ha : ti.k.agg = true) (hsz : xs.length * E.size = ti.size) (hne : xs ≠ []) :
    Into ⟨n, w0, M0, [], .plain⟩ A (bodyPost P fn (retPost w0 M0 (.arr E xs)) .ret) := by
  intro a w ⟨M, ok, hsl, htg⟩
  have hd := hsl tm (by simpa using ht)
  rw [hx] at hd
  obtain ⟨b, hb, e⟩ := hd
  have hv : dVec E Tb xs w M tg := htg _ (tag_mem hc)
  rcases hv with h0 | ⟨b', cs, hb', hh, hds⟩
  · exact absurd h0 hne
  obtain ⟨u, rfl⟩ : ∃ u, tg = u + 1 := ⟨tg - 1, by omega⟩
  have := ok.wf.inj b b' u (by omega) hb hb'
  subst this
  have hlen := dens_len hds
  rw [flat_len] at hlen hds
  have hload := run_loadN (P := P) hT ha (w := w) (b := b) (off := 0) (cs := cs.toList.take (xs.length * E.size)) (by rw [hlen, hsz]) (fun j v hj => by
    rw [List.getElem?_take] at hj
    split at hj
    · simpa [World.cell?, hh] using hj
    · cases hj)
  have hload' : (loadVar ty ⟨b, 0, none⟩).run P w = .ok (.agg (cs.toList.take (xs.length * E.size)).toArray) w := by simpa [Instr.loadAt, Instr.sureAddr] using hload
  refine ⟨ok.nodefers (by simp), .agg (cs.toList.take (xs.length * E.size)).toArray, ?_, _, pubM M, rfl, pubM_wf ok.wf, base_pub (fr := ⟨n, w0, M0, [], .plain⟩) (fun _ h => h) ok.base, (ret_refl rfl rfl : RetSub (Ty.arr E xs) (Ty.arr E xs)) _ _ _ ok.wf ⟨_, rfl, by simpa using hds⟩⟩
  have e' : a.tmps.getD tm undef = .pointer (some ⟨b, 0, none⟩) := e
  have e'' : a.tmps[tm]?.getD undef = .pointer (some ⟨b, 0, none⟩) := by rw [← Array.getD_eq_getD_getElem?]; exact e'
  simp [results, hr, e'', asAddr, hload']
end
section
variable {P : Program} {fr : Fr} {ops : Array Oper} {A : As} {rest : List Oper} {K : As → List (As × Fx) → Prop} {d : Nat} {t ty' ty2 : TypeId} {p : String} {e : Array Edge} {x y : Operand}
theorem r_shlI {a : Nat} {b : Int} (hx : A.op fr x = .int .i64 (a : Nat)) (hy : A.op fr y = .int .i64 b) (h0 : 0 ≤ b) (h1 : b ≤ 63) (h2 : a <<< b.toNat < 9223372036854775808)
    (h : TOps P fr ops rest (A.set d (.int .i64 ((a <<< b.toNat : Nat) : Int))) fun A' l' => K A' ((A, { d := some d, ty := .int .i64 ((a <<< b.toNat : Nat) : Int), rs := opR x ++ opR y }) :: l')) : TOps P fr ops (⟨some d, .binOp .shl ty' x y ty2, t, p, e, none⟩ :: rest) A K :=
  r_shlN (b := b.toNat) hx (by rw [hy, Int.toNat_of_nonneg h0]) (by omega) h2 h
end
end Go.T

namespace Go.T
open Go Go.RowKit
structure Re (ρ : List (Nat × Nat)) (M M' : Tags) : Prop where
  none : ∀ b, M b = none → M' b = none
  some : ∀ x ∈ ρ, ∀ b, M b = some x.1 → M' b = some x.2
def Conv (ρ : List (Nat × Nat)) (s t : Ty) : Prop := ∀ w M M' v, Wf w M → Wf w M' → Re ρ M M' → s.den w M v → t.den w M' v
def Convs (ρ : List (Nat × Nat)) : List Ty → List Ty → Prop
  | [], [] => True
  | s :: ss, t :: ts => Conv ρ s t ∧ Convs ρ ss ts
  | _, _ => False
theorem cv_nil {ρ : List (Nat × Nat)} : Convs ρ [] [] := trivial
theorem cv_cons {ρ : List (Nat × Nat)} {s t : Ty} {ss ts : List Ty} (h' : Convs ρ ss ts) (h : Conv ρ s t) : Convs ρ (s :: ss) (t :: ts) := ⟨h, h'⟩
theorem convs_dens {ρ : List (Nat × Nat)} {w : World} {M M' : Tags} (wf : Wf w M) (wf' : Wf w M') (hre : Re ρ M M') : ∀ {ss ts : List Ty} {vs : List Value}, Convs ρ ss ts → dens w M ss vs → dens w M' ts vs
  | [], [], [], _, _ => trivial
  | _ :: _, _ :: _, _ :: _, ⟨h, h'⟩, ⟨h1, h2⟩ => ⟨h _ _ _ _ wf wf' hre h1, convs_dens wf wf' hre h' h2⟩
theorem cv_pub {ρ : List (Nat × Nat)} {t : Ty} (h1 : t.deps = []) (h2 : t.cdeps = []) : Conv ρ t t := fun w M M' v _ _ hre h =>
  t.mono (S := fun _ => True) (K := fun _ => True) ⟨Nat.le_refl _, rfl, rfl, rfl, fun b _ hm => ⟨hre.none b hm, rfl⟩, fun b t _ h => absurd trivial h⟩ (by rw [h1]; intro _ h; cases h) (by rw [h2]; intro _ h; cases h) h
theorem cv_eq {ρ : List (Nat × Nat)} {s t : Ty} (h1 : t.deps = []) (h2 : t.cdeps = []) (h : s = t) : Conv ρ s t := by subst h; exact cv_pub h1 h2
theorem cv_row {ρ : List (Nat × Nat)} {α : Type} {E : El α} {T a b : Nat} {xs : List α} (h : (a, b) ∈ ρ) : Conv ρ (.row E T a xs) (.row E T b xs) := fun _ _ _ _ _ _ hre hr =>
  row_tags hr (fun k hk => hre.some _ h k hk) hre.none
theorem cv_nilrow {ρ : List (Nat × Nat)} {α : Type} {E : El α} {T b : Nat} : Conv ρ (.ex (.slice none 0 0)) (.row E T b ([] : List α)) := fun _ _ _ _ _ _ _ h => Ty.nil_row _ _ _ h
theorem cv_vs {ρ : List (Nat × Nat)} {a b n : Nat} (h : (a, b) ∈ ρ) : Conv ρ (.vs a n) (.vs b n) := fun _ _ _ _ _ _ hre hv =>
  hv.imp id fun ⟨k, c, hk, e, h1, h2⟩ => ⟨k, c, hre.some _ h k hk, e, h1, h2⟩
theorem cv_agg {ρ : List (Nat × Nat)} {l l' : List Ty} (h : Convs ρ l l') : Conv ρ (.agg l) (.agg l') := fun _ _ _ _ wf wf' hre ⟨cs, e, hd⟩ => ⟨cs, e, convs_dens wf wf' hre h hd⟩
theorem cv_tup {ρ : List (Nat × Nat)} {l l' : List Ty} (h : Convs ρ l l') : Conv ρ (.tup l) (.tup l') := fun _ _ _ _ wf wf' hre ⟨cs, e, hd⟩ => ⟨cs, e, convs_dens wf wf' hre h hd⟩
def ConvC (ρ : List (Nat × Nat)) (a : Nat) (C : Cont) (b : Nat) (D : Cont) : Prop := ∀ w M M', Wf w M → Wf w M' → Re ρ M M' → C.den w M a → D.den w M' b
theorem conv_nodeps {w : World} {M M' : Tags} (hre : ∀ b, M b = none → M' b = none) {l : List Ty} {vs : List Value} (h1 : depsOf l = []) (h2 : cdepsOf l = []) (h : dens w M l vs) : dens w M' l vs :=
  dens_mono (S := fun _ => True) (K := fun _ => True) ⟨Nat.le_refl _, rfl, rfl, rfl, fun b _ hm => ⟨hre b hm, rfl⟩, fun b t _ h => absurd trivial h⟩ (by rw [h1]; intro _ h; cases h) (by rw [h2]; intro _ h; cases h) h
theorem cc_vec {ρ : List (Nat × Nat)} {a b T : Nat} {α : Type} {E : El α} {xs ys : List α} (h : (a, b) ∈ ρ) (e : xs = ys) : ConvC ρ a (.vec E T xs) b (.vec E T ys) := fun _ _ _ _ _ hre hd => by
  subst e
  exact hd.imp id fun ⟨k, cs, h1, h2, h3⟩ => ⟨k, cs, hre.some _ h k h1, h2, conv_nodeps hre.none (E.flat_deps _) (E.flat_cdeps _) h3⟩
def ConvCs (ρ : List (Nat × Nat)) (src : List (Nat × Cont)) : List (Nat × Cont) → Prop
  | [] => True
  | (b, D) :: r => (∃ a C, (a, C) ∈ src ∧ ConvC ρ a C b D) ∧ ConvCs ρ src r
def keepPost (F : List Nat) (post : List (Nat × Cont)) (w0 : World) (M0 : Tags) (res : Ty) (e : Ending) (w' : World) : Prop :=
  ∃ r M', e = .returned r ∧ Wf w' M' ∧ Le (fun t => 1 ≤ t) (fun t => 1 ≤ t ∧ t ∉ F) w0 M0 w' M' ∧ res.den w' M' r ∧ ∀ x ∈ post, x.2.den w' M' x.1
def CtrG (P : Program) (f : FuncId) (F : List Nat) (pre : List (Nat × Cont)) (args : List Ty) (post : List (Nat × Cont)) (res : Ty) : Prop :=
  (∃ fn, P.funcs[f]? = some fn ∧ (fn.name == "runtime.NumGoroutine") = false ∧ fn.body.isNone = false) ∧
  ∀ w M vs, Wf w M → dens w M args vs → (∀ x ∈ pre, x.2.den w M x.1) → Calls P f vs.toArray w (keepPost F post w M res)
section
variable {P : Program} {fr : Fr} {ops : Array Oper} {A : As} {rest : List Oper} {K : As → List (As × Fx) → Prop} {d : Nat} {t ty' : TypeId} {p : String} {e : Array Edge}
def entryG (args : List Ty) (pre : List (Nat × Cont)) : As := ⟨fun c => (args[c]?).getD Ty.any, pre⟩
theorem fnG_intro {f : FuncId} {fn : Func} {c : Code} {F : List Nat} {pre post : List (Nat × Cont)} {args : List Ty} {res : Ty} {n : Nat} (hf : P.funcs[f]? = some fn) (hb : fn.body = some c) (hn : (fn.name == "runtime.NumGoroutine") = false) (hnt : fn.ntmps = n) (hl : args.length ≤ n)
    (h : ∀ w0 M0, Tri P ⟨n, w0, M0, F, .plain⟩ c (entryG args pre) (bodyPost P fn (keepPost F post w0 M0 res))) : CtrG P f F pre args post res := by
  refine ⟨⟨fn, hf, hn, by rw [hb]; rfl⟩, fun w M vs wf hd hpre => calls_of_wp hf hb (wpIn_wide.1 (h w M _ _ ?_))⟩
  have hlen := dens_len hd
  refine ⟨M, ⟨wf, Le.refl _ _ _ _, by simp [hnt, hlen]; omega, Defs.nil⟩, fun c hc => ?_, hpre⟩
  simp only [entryG]
  cases ha : args[c]? with
  | none => trivial
  | some ty =>
    obtain ⟨v, hv, hdv⟩ := dens_get hd c ty ha
    have : (vs.toArray ++ Array.replicate (fn.ntmps - vs.toArray.size) undef).getD c undef = v := by
      have hlt : c < vs.length := (List.getElem?_eq_some_iff.1 hv).1
      rw [Array.getD_eq_getD_getElem?, Array.getElem?_append_left (by simpa using hlt)]
      simp [hv]
    rw [this]; exact hdv
def pubG (L : List Nat) (M : Tags) : Tags := fun b => match M b with | none => none | some t => if t = 0 ∨ t ∈ L then some t else none
theorem pubG_none {L : List Nat} {M : Tags} {b : Nat} (h : M b = none) : pubG L M b = none := by simp [pubG, h]
theorem pubG_in {L : List Nat} {M : Tags} {b t : Nat} (h : M b = some t) (ht : t = 0 ∨ t ∈ L) : pubG L M b = some t := by simp [pubG, h, ht]
theorem pubG_some {L : List Nat} {M : Tags} {b t : Nat} (h : pubG L M b = some t) : M b = some t := by
  unfold pubG at h
  split at h
  · cases h
  · rename_i u hu
    split at h
    · rw [← h]; exact hu
    · cases h
theorem pubG_wf {L : List Nat} {w : World} {M : Tags} (wf : Wf w M) : Wf w (pubG L M) :=
  ⟨fun b t h => wf.lt b t (pubG_some h), fun b b' t ht1 h h' => wf.inj b b' t ht1 (pubG_some h) (pubG_some h')⟩
def idRe (L : List Nat) : List (Nat × Nat) := L.map fun x => (x, x)
theorem pubG_re {L : List Nat} {M : Tags} : Re (idRe L) M (pubG L M) :=
  ⟨fun b h => pubG_none h, fun x hx b h => by
    obtain ⟨y, hy, rfl⟩ := List.mem_map.1 hx
    exact pubG_in h (.inr hy)⟩
def RetG (L : List Nat) (s t : Ty) : Prop := ∀ w M v, Wf w M → s.den w M v → t.den w (pubG L M) v
theorem rg_cv {L : List Nat} {s t : Ty} (h : Conv (idRe L) s t) : RetG L s t := fun w M v wf hs => h w M _ v wf (pubG_wf wf) pubG_re hs
def RetCs (A : As) (L : List Nat) : List (Nat × Cont) → Prop
  | [] => True
  | (b, D) :: r => (∃ C, A.tag b = some C ∧ ConvC (idRe L) b C b D) ∧ RetCs A L r
theorem rc_nil {L : List Nat} : RetCs A L [] := trivial
theorem rc_cons {L : List Nat} {b : Nat} {C D : Cont} {r : List (Nat × Cont)} (h : A.tag b = some C) (hc : ConvC (idRe L) b C b D) (h' : RetCs A L r) : RetCs A L ((b, D) :: r) := ⟨⟨C, h, hc⟩, h'⟩
theorem rc_get {L : List Nat} {w : World} {M : Tags} (wf : Wf w M) (ht : ∀ x ∈ A.tags, x.2.den w M x.1) : ∀ {r : List (Nat × Cont)}, RetCs A L r → ∀ x ∈ r, x.2.den w (pubG L M) x.1
  | (b, D) :: r, ⟨⟨C, h, hc⟩, h'⟩, x, hx => by
    rcases List.mem_cons.1 hx with rfl | hx
    · exact hc w M _ wf (pubG_wf wf) pubG_re (ht _ (tag_mem h))
    · exact rc_get wf ht h' x hx
theorem base_pubG {L : List Nat} {fr : Fr} {w : World} {M : Tags} (hL : ∀ t ∈ fr.pass, t ∈ L) (hb : fr.base w M) : Le fr.kd.canS (fun t => 1 ≤ t ∧ t ∉ fr.pass) fr.w0 fr.M0 w (pubG L M) :=
  ⟨hb.size, hb.os, hb.tape, hb.out, fun b hlt hm => ⟨pubG_none (hb.pub b hlt hm).1, (hb.pub b hlt hm).2⟩, fun b t hm ht => by
    obtain ⟨h1, h2⟩ := hb.own b t hm ht
    refine ⟨pubG_in h1 ?_, fun hs => h2 hs⟩
    by_cases h0 : t = 0
    · exact .inl h0
    · refine .inr (hL t ?_)
      by_cases h : t ∈ fr.pass
      · exact h
      · exact absurd ⟨by omega, h⟩ ht⟩
section
variable {fn : Func} {n : Nat} {w0 : World} {M0 : Tags} {F : List Nat} {post : List (Nat × Cont)}
theorem g_ret1 (L : List Nat) {tm : Nat} {res : Ty} (hr : fn.results = #[.tmp tm]) (htm : Nat.blt tm n = true) (hL : ∀ t ∈ F, t ∈ L) (hp : RetCs A L post) (hs : RetG L (A.slots tm) res) : Into ⟨n, w0, M0, F, .plain⟩ A (bodyPost P fn (keepPost F post w0 M0 res) .ret) := by
  intro a w ⟨M, ok, hsl, ht⟩
  exact ⟨ok.nodefers (by simp), _, results_tmp hr _ _ _, _, pubG L M, rfl, pubG_wf ok.wf, base_pubG hL ok.base, hs _ _ _ ok.wf (hsl tm (by simpa using htm)), rc_get ok.wf ht hp⟩
end
theorem run_callFuncG {f : FuncId} {F : List Nat} {pre post : List (Nat × Cont)} {args : List Ty} {res : Ty} (hF : CtrG P f F pre args post res) (vs : Array Value) (w : World) : (callFunc f vs).run P w = .ok (.enter f vs) w := by
  obtain ⟨⟨fn, hf, hn, hb⟩, _⟩ := hF
  have hn' : fn.name ≠ "runtime.NumGoroutine" := by simpa using hn
  have hb' : fn.body ≠ none := fun h => by rw [h] at hb; cases hb
  simp [callFunc, hf, hn', hb']
def giveG (ρ : List (Nat × Nat)) (M : Tags) : Tags := fun b => match M b with | none => none | some t => some ((ρ.lookup t).getD 0)
def reOk (ρ : List (Nat × Nat)) : Bool := ρ.all fun x => Nat.ble 1 x.1 && (Nat.ble 1 x.2 && (Nat.blt x.1 4096 == Nat.blt x.2 4096 && ρ.all fun y => (x.1 == y.1) == (x.2 == y.2)))
theorem reOk_spec {ρ : List (Nat × Nat)} (h : reOk ρ = true) : ∀ x ∈ ρ, 1 ≤ x.1 ∧ 1 ≤ x.2 ∧ ∀ y ∈ ρ, (x.1 = y.1 ↔ x.2 = y.2) := by
  intro x hx
  simp only [reOk, List.all_eq_true, Bool.and_eq_true, Nat.ble_eq, beq_iff_eq] at h
  obtain ⟨h1, h2, _, h3⟩ := h x hx
  refine ⟨h1, h2, fun y hy => ?_⟩
  have := h3 y hy
  rw [Bool.eq_iff_iff] at this
  simpa using this
theorem reOk_fam {ρ : List (Nat × Nat)} (h : reOk ρ = true) {a b : Nat} (hm : (a, b) ∈ ρ) : a < 4096 ↔ b < 4096 := by
  simp only [reOk, List.all_eq_true, Bool.and_eq_true, beq_iff_eq] at h
  have := (h _ hm).2.2.1
  rw [Bool.eq_iff_iff] at this
  simpa using this
theorem lookup_mem' {ρ : List (Nat × Nat)} {a b : Nat} (h : ρ.lookup a = some b) : (a, b) ∈ ρ := by
  induction ρ with
  | nil => cases h
  | cons x l ih =>
    obtain ⟨k, v⟩ := x
    rw [List.lookup_cons] at h
    by_cases e : a = k
    · subst e; simp at h; subst h; exact List.mem_cons_self
    · have : (a == k) = false := by simpa using e
      rw [this] at h; exact List.mem_cons_of_mem _ (ih h)
theorem mem_lookup' {ρ : List (Nat × Nat)} (h : reOk ρ = true) {a b : Nat} (hm : (a, b) ∈ ρ) : ρ.lookup a = some b := by
  cases hl : ρ.lookup a with
  | none =>
    exfalso
    induction ρ with
    | nil => cases hm
    | cons x l ih =>
      obtain ⟨k, v⟩ := x
      rw [List.lookup_cons] at hl
      by_cases e : a = k
      · subst e; simp at hl
      · have e' : (a == k) = false := by simpa using e
        rw [e'] at hl
        rcases List.mem_cons.1 hm with hm | hm
        · exact e (congrArg Prod.fst hm)
        · refine ih ?_ hm hl
          simp only [reOk, List.all_eq_true, List.mem_cons, forall_eq_or_imp, Bool.and_eq_true] at h ⊢
          exact fun x hx => ⟨(h.2 x hx).1, (h.2 x hx).2.1, (h.2 x hx).2.2.1, (h.2 x hx).2.2.2.2⟩
  | some c =>
    have := ((reOk_spec h _ hm).2.2 _ (lookup_mem' hl)).1 rfl
    exact congrArg some this.symm
theorem giveG_some {ρ : List (Nat × Nat)} {M : Tags} {b g : Nat} (h : giveG ρ M b = some g) (h1 : 1 ≤ g) : ∃ t, M b = some t ∧ (t, g) ∈ ρ := by
  unfold giveG at h
  split at h
  · cases h
  · rename_i t ht
    cases hl : ρ.lookup t with
    | none => rw [hl] at h; injection h with h; simp at h; omega
    | some c => rw [hl] at h; injection h with h; simp at h; subst h; exact ⟨t, ht, lookup_mem' hl⟩
theorem giveG_none {ρ : List (Nat × Nat)} {M : Tags} {b : Nat} (h : M b = none) : giveG ρ M b = none := by simp [giveG, h]
theorem giveG_in {ρ : List (Nat × Nat)} (hr : reOk ρ = true) {M : Tags} {b t g : Nat} (h : M b = some t) (hm : (t, g) ∈ ρ) : giveG ρ M b = some g := by simp [giveG, h, mem_lookup' hr hm]
theorem giveG_out {ρ : List (Nat × Nat)} {M : Tags} {b t : Nat} (h : M b = some t) (hm : ρ.lookup t = none) : giveG ρ M b = some 0 := by simp [giveG, h, hm]
theorem giveG_wf {ρ : List (Nat × Nat)} (hr : reOk ρ = true) {w : World} {M : Tags} (wf : Wf w M) : Wf w (giveG ρ M) := by
  refine ⟨fun b t h => ?_, fun b b' t ht1 h h' => ?_⟩
  · cases hm : M b with
    | none => rw [giveG_none hm] at h; cases h
    | some u => exact wf.lt b u hm
  · obtain ⟨u, hu, m⟩ := giveG_some h (by omega)
    obtain ⟨u', hu', m'⟩ := giveG_some h' (by omega)
    have e : u = u' := ((reOk_spec hr _ m).2.2 _ m').2 rfl
    subst e
    obtain ⟨v, rfl⟩ : ∃ v, u = v + 1 := ⟨u - 1, by have := (reOk_spec hr _ m).1; omega⟩
    exact wf.inj b b' v (by have := reOk_fam hr m; omega) hu hu'
theorem giveG_re {ρ : List (Nat × Nat)} (hr : reOk ρ = true) {M : Tags} : Re ρ M (giveG ρ M) := ⟨fun _ h => giveG_none h, fun _ hx _ h => giveG_in hr h hx⟩
def swapRe (ρ : List (Nat × Nat)) : List (Nat × Nat) := ρ.map fun x => (x.2, x.1)
theorem swap_ok {ρ : List (Nat × Nat)} (h : reOk ρ = true) : reOk (swapRe ρ) = true := by
  simp only [reOk, swapRe, List.all_eq_true, Bool.and_eq_true, List.mem_map] at h ⊢
  rintro _ ⟨x, hx, rfl⟩
  obtain ⟨h1, h2, h4, h3⟩ := h x hx
  refine ⟨h2, h1, by simpa using (beq_iff_eq.1 h4).symm, ?_⟩
  rintro _ ⟨y, hy, rfl⟩
  have := h3 y hy
  simp only [beq_iff_eq] at this ⊢
  exact this.symm
def backG (w : World) (ρ : List (Nat × Nat)) (mv : List Nat) (M M' : Tags) : Tags := fun b =>
  if b < w.heap.size ∧ (∀ t, M b = some t → t ∉ mv) then M b else (M' b).bind fun g => (swapRe ρ).lookup g
theorem callG_left {ρ : List (Nat × Nat)} {mv F : List Nat} {w w' : World} {M M' : Tags} (hr : reOk ρ = true) (hmv : ∀ x ∈ ρ, x.1 ∈ mv ∨ x.2 ∈ F) (hmr : ∀ t ∈ mv, ∃ g, (t, g) ∈ ρ) (wf : Wf w M) (wf' : Wf w' M') (le : Le (fun t => 1 ≤ t) (fun t => 1 ≤ t ∧ t ∉ F) w (giveG ρ M) w' M') :
    Wf w' (backG w ρ mv M M') ∧ Le (· ∈ ρ.map Prod.fst) (· ∈ mv) w M w' (backG w ρ mv M M') ∧ Re (swapRe ρ) M' (backG w ρ mv M M') := by
  have hsw := swap_ok hr
  have memsw : ∀ {t g : Nat}, (t, g) ∈ ρ → (g, t) ∈ swapRe ρ := fun h => List.mem_map.2 ⟨_, h, rfl⟩
  have memsw' : ∀ {t g : Nat}, (g, t) ∈ swapRe ρ → (t, g) ∈ ρ := fun h => by
    obtain ⟨⟨a, b⟩, hx, he⟩ := List.mem_map.1 h
    injection he with h1 h2
    subst h1; subst h2; exact hx
  -- an old block whose tag stays
  have old : ∀ b t, M b = some t → t ∉ mv → M' b = some ((ρ.lookup t).getD 0) := fun b t hm hn => by
    cases hl : ρ.lookup t with
    | none => exact (le.own b 0 (giveG_out hm hl) (by omega)).1
    | some g =>
      have hx := lookup_mem' hl
      have hg : g ∈ F := (hmv _ hx).resolve_left hn
      exact (le.own b g (giveG_in hr hm hx) (fun h => h.2 hg)).1
  have key : ∀ b, M' b = none → backG w ρ mv M M' b = none := fun b h => by
    unfold backG
    split
    · rename_i hc
      cases hm : M b with
      | none => rfl
      | some t => rw [old b t hm (hc.2 t hm)] at h; cases h
    · rw [h]; rfl
  have key2 : ∀ t g, (t, g) ∈ ρ → ∀ b, M' b = some g → backG w ρ mv M M' b = some t := fun t g hx b h => by
    have h1 := (reOk_spec hr _ hx)
    unfold backG
    split
    · rename_i hc
      cases hm : M b with
      | none =>
        have := (le.pub b hc.1 (giveG_none hm)).1
        rw [this] at h; cases h
      | some u =>
        have h2 := old b u hm (hc.2 u hm)
        rw [h2] at h
        injection h with h
        cases hl : ρ.lookup u with
        | none => rw [hl] at h; simp at h; omega
        | some c =>
          rw [hl] at h; simp at h; subst h
          have := (h1.2.2 _ (lookup_mem' hl)).2 rfl
          exact congrArg some this.symm
    · rw [h]; exact mem_lookup' hsw (memsw hx)
  refine ⟨⟨fun b t h => ?_, fun b b' t ht1 h h' => ?_⟩, ⟨le.size, le.os, le.tape, le.out, fun b hb hm => ?_, fun b t hm hk => ?_⟩, ⟨key, fun x hx b h => key2 _ _ (memsw' hx) b h⟩⟩
  · unfold backG at h
    split at h
    · rename_i hc; exact Nat.lt_of_lt_of_le hc.1 le.size
    · obtain ⟨g, hg, _⟩ := Option.bind_eq_some_iff.1 h
      exact wf'.lt b g hg
  · -- injective
    have part : ∀ b, backG w ρ mv M M' b = some (t + 1) → (M b = some (t + 1) ∧ t + 1 ∉ mv) ∨ ∃ g, (t + 1, g) ∈ ρ ∧ M' b = some g ∧ 1 ≤ g := fun b h => by
      unfold backG at h
      split at h
      · rename_i hc; exact .inl ⟨h, hc.2 _ h⟩
      · obtain ⟨g, hg, hl⟩ := Option.bind_eq_some_iff.1 h
        have hx := memsw' (lookup_mem' hl)
        exact .inr ⟨g, hx, hg, (reOk_spec hr _ hx).2.1⟩
    have both : ∀ b b' g, (t + 1, g) ∈ ρ → M' b = some g → 1 ≤ g → (M b' = some (t + 1) ∧ t + 1 ∉ mv) → b = b' := fun b b' g hx hg h1 ⟨hm, hn⟩ => by
      have h2 := old b' _ hm hn
      rw [mem_lookup' hr hx] at h2
      simp at h2
      obtain ⟨v, rfl⟩ : ∃ v, g = v + 1 := ⟨g - 1, by omega⟩
      exact wf'.inj b b' v (by have := reOk_fam hr hx; omega) hg h2
    rcases part b h with h1 | ⟨g, hx, hg, h1⟩ <;> rcases part b' h' with h2 | ⟨g', hx', hg', h2⟩
    · exact wf.inj b b' t ht1 h1.1 h2.1
    · exact (both b' b g' hx' hg' h2 h1).symm
    · exact both b b' g hx hg h1 h2
    · have : g = g' := ((reOk_spec hr _ hx).2.2 _ hx').1 rfl
      subst this
      obtain ⟨v, rfl⟩ : ∃ v, g = v + 1 := ⟨g - 1, by omega⟩
      exact wf'.inj b b' v (by have := reOk_fam hr hx; omega) hg hg'
  · obtain ⟨h1, h2⟩ := le.pub b hb (giveG_none hm)
    exact ⟨key b h1, h2⟩
  · have hb := wf.lt b t hm
    refine ⟨?_, fun hs => ?_⟩
    · unfold backG
      rw [if_pos ⟨hb, fun u hu => by rw [hm] at hu; injection hu with hu; exact hu ▸ hk⟩]; exact hm
    · have hl : ρ.lookup t = none := by
        cases hl : ρ.lookup t with
        | none => rfl
        | some c => exact absurd (List.mem_map.2 ⟨_, lookup_mem' hl, rfl⟩) hs
      exact (le.own b 0 (giveG_out hm hl) (by omega)).2 (by omega)
def gOk (fr : Fr) (ρ : List (Nat × Nat)) (mv F : List Nat) : Bool :=
  reOk ρ && (ρ.all (fun x => mv.contains x.1 || F.contains x.2) && mv.all fun t => Nat.ble 1 t && (!fr.pass.contains t && ρ.any fun x => x.1 == t))
def fxG (d : Option Nat) (res : Ty) (ρ : List (Nat × Nat)) (mv : List Nat) (sets : List (Nat × Cont)) (rs : List Nat) : Fx := { d := d, ty := res, S := ρ.map Prod.fst, K := mv, sets := sets, rs := rs, rt := ρ.map Prod.fst }
def PreCs (A : As) (ρ : List (Nat × Nat)) : List (Nat × Cont) → Prop
  | [] => True
  | (b, D) :: r => (∃ a C, (a, b) ∈ ρ ∧ A.tag a = some C ∧ ConvC ρ a C b D) ∧ PreCs A ρ r
theorem pre_nil {ρ : List (Nat × Nat)} : PreCs A ρ [] := trivial
theorem pre_get {ρ : List (Nat × Nat)} {w : World} {M M' : Tags} (wf : Wf w M) (wf' : Wf w M') (hre : Re ρ M M') (ht : ∀ x ∈ A.tags, x.1 ∈ ρ.map Prod.fst → x.2.den w M x.1) : ∀ {r : List (Nat × Cont)}, PreCs A ρ r → ∀ x ∈ r, x.2.den w M' x.1
  | (b, D) :: r, ⟨⟨a, C, hm, h, hc⟩, h'⟩, x, hx => by
    rcases List.mem_cons.1 hx with rfl | hx
    · exact hc w M M' wf wf' hre (ht _ (tag_mem h) (List.mem_map.2 ⟨_, hm, rfl⟩))
    · exact pre_get wf wf' hre ht h' x hx
def PostCs (post : List (Nat × Cont)) (ρ : List (Nat × Nat)) : List (Nat × Cont) → Prop
  | [] => True
  | (a, D) :: r => (∃ b C, (a, b) ∈ ρ ∧ post.lookup b = some C ∧ ConvC (swapRe ρ) b C a D) ∧ PostCs post ρ r
theorem post_nil {ρ : List (Nat × Nat)} {post : List (Nat × Cont)} : PostCs post ρ [] := trivial
theorem post_cons {ρ : List (Nat × Nat)} {a b : Nat} {C D : Cont} {post r : List (Nat × Cont)} (hm : (a, b) ∈ ρ) (h : post.lookup b = some C) (hc : ConvC (swapRe ρ) b C a D) (h' : PostCs post ρ r) : PostCs post ρ ((a, D) :: r) := ⟨⟨b, C, hm, h, hc⟩, h'⟩
theorem post_get {ρ : List (Nat × Nat)} {post : List (Nat × Cont)} {w : World} {M M' : Tags} (wf : Wf w M) (wf' : Wf w M') (hre : Re (swapRe ρ) M M') (ht : ∀ x ∈ post, x.2.den w M x.1) : ∀ {r : List (Nat × Cont)}, PostCs post ρ r → ∀ x ∈ r, x.1 ∈ ρ.map Prod.fst ∧ x.2.den w M' x.1
  | (a, D) :: r, ⟨⟨b, C, hm, h, hc⟩, h'⟩, x, hx => by
    rcases List.mem_cons.1 hx with rfl | hx
    · exact ⟨List.mem_map.2 ⟨_, hm, rfl⟩, hc w M M' wf wf' hre (ht _ (tag_mem (A := ⟨fun _ => Ty.any, post⟩) h))⟩
    · exact post_get wf wf' hre ht h' x hx
theorem post_tags {ρ : List (Nat × Nat)} {post : List (Nat × Cont)} : ∀ {r : List (Nat × Cont)}, PostCs post ρ r → ∀ x ∈ r, x.1 ∈ ρ.map Prod.fst
  | (a, D) :: r, ⟨⟨b, C, hm, h, hc⟩, h'⟩, x, hx => by
    rcases List.mem_cons.1 hx with rfl | hx
    · exact List.mem_map.2 ⟨_, hm, rfl⟩
    · exact post_tags h' x hx
theorem opT_callG (ρ : List (Nat × Nat)) (mv : List Nat) {f : FuncId} {F : List Nat} {pre post sets : List (Nat × Cont)} {args ss : List Ty} {res res' : Ty} (hF : CtrG P f F pre args post res) {dst : Option Nat} {call : Call} {rs : List Nat}
    (hrun : ∀ (a : Act) w M, Wf w M → (∀ c ∈ rs, c < fr.n → (A.slots c).den w M (a.tmps.getD c undef)) → ∃ vs : List Value, (execOp a.eval ⟨dst, .call call, t, p, e, none⟩).run P w = .ok (.enter f vs.toArray) w ∧ dens w M ss vs)
    (hok : gOk fr ρ mv F = true) (ha : Convs ρ ss args) (hpre : PreCs A ρ pre) (hpost : PostCs post ρ sets) (hres : Conv (swapRe ρ) res res') :
    OpT P fr ops ⟨dst, .call call, t, p, e, none⟩ A (fxG dst res' ρ mv sets rs) := by
  simp only [gOk, Bool.and_eq_true] at hok
  obtain ⟨hr, hmv, hmr⟩ := hok
  simp only [List.all_eq_true, Bool.or_eq_true, List.contains_iff_mem] at hmv
  simp only [List.all_eq_true, Bool.and_eq_true, Nat.ble_eq, List.any_eq_true, beq_iff_eq, Bool.not_eq_true', ← Bool.not_eq_true, List.contains_iff_mem] at hmr
  refine ⟨rfl, fun x hx => .inl (post_tags hpost x hx), fun u hu => ?_, fun u hu => ⟨(hmr u hu).1, (hmr u hu).2.1⟩, fun a w M wf _ hrd htg => ?_⟩
  · obtain ⟨x, hx, rfl⟩ := List.mem_map.1 hu
    exact (reOk_spec hr x hx).1
  rw [if_pos (by simp [Region.wanted])]
  obtain ⟨vs, hrun, hd⟩ := hrun a w M wf hrd
  have wfg := giveG_wf hr wf
  have hc := hF.2 w _ vs wfg (convs_dens wf wfg (giveG_re hr) ha hd) (pre_get wf wfg (giveG_re hr) htg hpre)
  refine wp_in_enter hrun ?_
  refine hc.mono fun en w' ⟨r, M', he, wf', le, hden, hp⟩ => ?_
  obtain ⟨h1, h2, h3⟩ := callG_left (mv := mv) hr hmv (fun u hu => by obtain ⟨x, hx, e⟩ := (hmr u hu).2.2; exact ⟨x.2, by rw [← e]; exact hx⟩) wf wf' le
  exact ⟨r, he, r, rfl, _, h1, h2, hres _ _ _ _ wf' h1 h3 hden, fun x hx => (post_get wf' h1 h3 hp hpost x hx).2⟩
theorem run_call_hrun {f : FuncId} {F : List Nat} {pre post : List (Nat × Cont)} {args : List Ty} {res : Ty} (hF : CtrG P f F pre args post res) {dst : Option Nat} {xs : List Operand} {ats : Array TypeId} {ss : List Ty} (hx : opsTy A fr xs = ss) (a : Act) (w : World) (M : Tags) (_ : Wf w M)
    (hrd : ∀ c ∈ xs.flatMap opR, c < fr.n → (A.slots c).den w M (a.tmps.getD c undef)) : ∃ vs : List Value, (execOp a.eval ⟨dst, .call ⟨.value (.func f), xs.toArray, ats⟩, t, p, e, none⟩).run P w = .ok (.enter f vs.toArray) w ∧ dens w M ss vs := by
  refine ⟨xs.map a.eval, ?_, hx ▸ opsTy_dens hrd fun x hx c hc => List.mem_flatMap.2 ⟨x, hx, hc⟩⟩
  simp [execOp, resolve, Act.eval, Deferred.ofValue, invoke, run_callFuncG hF]
theorem r_callG (ρ : List (Nat × Nat)) (mv : List Nat) (sets : List (Nat × Cont)) {f : FuncId} {F : List Nat} {pre post : List (Nat × Cont)} {args ss : List Ty} {res res' : Ty} (hF : CtrG P f F pre args post res) {dst : Option Nat} {xs : List Operand} {ats : Array TypeId}
    (hx : opsTy A fr xs = ss) (hok : gOk fr ρ mv F = true) (ha : Convs ρ ss args) (hpre : PreCs A ρ pre) (hpost : PostCs post ρ sets) (hres : Conv (swapRe ρ) res res')
    (h : TOps P fr ops rest (A.after (fxG dst res' ρ mv sets (xs.flatMap opR))) fun A' l => K A' ((A, fxG dst res' ρ mv sets (xs.flatMap opR)) :: l)) : TOps P fr ops (⟨dst, .call ⟨.value (.func f), xs.toArray, ats⟩, t, p, e, none⟩ :: rest) A K :=
  ⟨_, opT_callG ρ mv hF (run_call_hrun hF hx) hok ha hpre hpost hres, h⟩
end
end Go.T

namespace Go.T
open Go Go.RowKit
def mget {κ β : Type} [DecidableEq κ] : List (κ × β) → κ → Option β
  | [], _ => none
  | x :: l, k => if x.1 = k then some x.2 else mget l k
def mput {κ β : Type} [DecidableEq κ] : List (κ × β) → κ → β → List (κ × β)
  | [], k, v => [(k, v)]
  | x :: l, k, v => if x.1 = k then (k, v) :: l else x :: mput l k v
theorem mget_mput {κ β : Type} [DecidableEq κ] (l : List (κ × β)) (k : κ) (v : β) (k' : κ) : mget (mput l k v) k' = if k = k' then some v else mget l k' := by
  induction l with
  | nil => simp [mput, mget]
  | cons x l ih =>
    simp only [mput]
    by_cases h : x.1 = k
    · subst h; simp only [if_true, mget]; by_cases h2 : x.1 = k' <;> simp [h2]
    · rw [if_neg h]; simp only [mget, ih]
      by_cases h2 : x.1 = k'
      · subst h2; rw [if_pos rfl, if_pos rfl, if_neg (fun e => h e.symm)]
      · rw [if_neg h2, if_neg h2]
def mpos {κ β : Type} [DecidableEq κ] : List (κ × β) → κ → Option Nat
  | [], _ => none
  | x :: l, k => if x.1 = k then some 0 else (mpos l k).map (· + 1)
structure KeyK (P : Program) (kt : TypeId) (κ : Type) [DecidableEq κ] where
  enc : κ → Value
  find : ∀ (k : κ) (ks : List κ) (es : List MapEntry) (w : World), es.map (·.key) = ks.map enc →
    (Instr.findKey kt (enc k) es).run P w = .ok ((ks.findIdx? (fun x => decide (x = k))).bind fun i => (es[i]?).map fun e => (i, e.val)) w
  check : ∀ (b : Bool) (k : κ) (w : World), (Instr.checkKey b 10000 kt (enc k)).run P w = .ok () w
  same : ∀ k, Instr.sameBits 10000 (enc k) (enc k) = true
theorem findNow_int (kt : IntKind) (k : Int) : ∀ (ks : List Int) (es : List MapEntry) (i : Nat), es.map (·.key) = ks.map (Value.int kt) →
    Instr.findNow (.int kt) (.int kt k) es i = some ((ks.findIdx? (fun x => decide (x = k))).bind fun j => (es[j]?).map fun e => (i + j, e.val))
  | [], [], i, _ => rfl
  | [], e :: es, i, h => by cases h
  | x :: ks, [], i, h => by cases h
  | x :: ks, e :: es, i, h => by
    simp only [List.map_cons, List.cons.injEq] at h
    obtain ⟨h1, h2⟩ := h
    rw [Instr.findNow, h1]
    simp only [Instr.sameNow, if_true]
    by_cases hx : x = k
    · subst hx; simp [List.findIdx?_cons]
    · have hb : (k == x) = false := by rw [beq_eq_false_iff_ne]; exact fun e => hx e.symm
      rw [hb, findNow_int kt k ks es (i + 1) h2]
      simp only [List.findIdx?_cons, decide_eq_false hx, Bool.false_eq_true, if_false]
      cases (ks.findIdx? fun x => decide (x = k)) with
      | none => rfl
      | some j => simp [Nat.add_assoc, Nat.add_comm]; rw [show j + (i + 1) = i + (j + 1) from by omega]
theorem check_int {P : Program} (kt : TypeId) (q : IntKind) (h : P.underlying kt = some (.int q)) (b : Bool) (k : Int) (n : Nat) (w : World) : (Instr.checkKey b (n + 1) kt (.int q k)).run P w = .ok () w := by simp [Instr.checkKey, underlying, h]
theorem same_int (q : IntKind) (k : Int) (n : Nat) : Instr.sameBits n (.int q k) (.int q k) = true := by cases n <;> simp [Instr.sameBits]
def intKey (P : Program) (kt : TypeId) (q : IntKind) (h : P.underlying kt = some (.int q)) : KeyK P kt Int where
  enc := Value.int q
  find k ks es w he := by
    have := findNow_int q k ks es 0 he
    simp [Instr.findKey, underlying, h, this]
  check b k w := check_int kt q h b k 9999 w
  same k := same_int q k 10000
section
variable {κ β : Type} [DecidableEq κ]
def mapAt (enc : κ → Value) (vt : β → Ty) (kvs : List (κ × β)) (w : World) (M : Tags) (b : Nat) : Prop :=
  ∃ es clock, w.heap[b]? = some (.map es clock) ∧ es.toList.map (·.key) = kvs.map (fun x => enc x.1) ∧ dens w M (kvs.map fun x => vt x.2) (es.toList.map (·.val))
theorem mapAt_mono {enc : κ → Value} {vt : β → Ty} (hv : ∀ v, (vt v).deps = [] ∧ (vt v).cdeps = []) {kvs : List (κ × β)} {S K : Nat → Prop} {w w' : World} {M M' : Tags} {b : Nat} (le : Le S K w M w' M') (hb : w'.heap[b]? = w.heap[b]?) (h : mapAt enc vt kvs w M b) : mapAt enc vt kvs w' M' b := by
  have _ := (inferInstance : DecidableEq κ)
  obtain ⟨es, clock, h1, h2, h3⟩ := h
  refine ⟨es, clock, hb.trans h1, h2, dens_mono le (fun u hu => ?_) (fun u hu => ?_) h3⟩
  · simp only [depsOf, List.mem_flatMap, List.mem_map] at hu
    obtain ⟨t, ⟨x, _, rfl⟩, hu⟩ := hu
    rw [(hv x.2).1] at hu; cases hu
  · simp only [cdepsOf, List.mem_flatMap, List.mem_map] at hu
    obtain ⟨t, ⟨x, _, rfl⟩, hu⟩ := hu
    rw [(hv x.2).2] at hu; cases hu
structure VT (β : Type) where
  ty : β → Ty
  nodeps : ∀ v, (ty v).deps = [] ∧ (ty v).cdeps = []
def VI64 : VT Int := ⟨fun n => Ty.int .i64 n, fun _ => ⟨rfl, rfl⟩⟩
def VBool : VT Bool := ⟨fun b => Ty.bool b, fun _ => ⟨rfl, rfl⟩⟩
def dMap (enc : κ → Value) (V : VT β) (kvs : List (κ × β)) (w : World) (M : Tags) (t : Nat) : Prop := ∃ b, M b = some t ∧ mapAt enc V.ty kvs w M b
def Cont.mp (enc : κ → Value) (V : VT β) (kvs : List (κ × β)) : Cont :=
  { den := dMap enc V kvs
    mono := fun le _ _ hs hk ⟨b, h1, h2⟩ => let ⟨h3, h4⟩ := le.own b _ h1 hk; ⟨b, h3, mapAt_mono V.nodeps le (h4 hs) h2⟩ }
theorem Cont.sub_mp {enc : κ → Value} {V : VT β} {k1 k2 : List (κ × β)} (h : k1 = k2) : (Cont.mp enc V k1).Sub (Cont.mp enc V k2) := by subst h; exact Cont.sub_refl _
def dMp (tg : Nat) (_ : World) (M : Tags) (v : Value) : Prop := ∃ b, v = .map (some b) ∧ M b = some tg
def Ty.mp (tg : Nat) : Ty := ⟨dMp tg, [tg], [], fun le hk _ ⟨b, e, h⟩ => ⟨b, e, (le.own b tg h (hk tg (by simp))).1⟩, true, fun _ ⟨_, e, _⟩ => e ▸ rfl⟩
def dPm (enc : κ → Value) (V : VT β) (kvs : List (κ × β)) (w : World) (M : Tags) (v : Value) : Prop := ∃ b, v = .map (some b) ∧ M b = none ∧ b < w.heap.size ∧ mapAt enc V.ty kvs w M b
def Ty.pm (enc : κ → Value) (V : VT β) (kvs : List (κ × β)) : Ty := ⟨dPm enc V kvs, [], [], fun le _ _ ⟨b, e, h, hb, h2⟩ => let ⟨h3, h4⟩ := le.pub b hb h; ⟨b, e, h3, Nat.lt_of_lt_of_le hb le.size, mapAt_mono V.nodeps le h4 h2⟩, true, fun _ ⟨_, e, _⟩ => e ▸ rfl⟩
end
section
variable {P : Program} {κ β : Type} [DecidableEq κ]
theorem mget_pos (kvs : List (κ × β)) (k : κ) (i : Nat) (h : (kvs.map Prod.fst).findIdx? (fun x => decide (x = k)) = some i) : ∃ v, kvs[i]? = some (k, v) ∧ mget kvs k = some v ∧ ∀ z, mput kvs k z = kvs.set i (k, z) := by
  induction kvs generalizing i with
  | nil => cases h
  | cons x l ih =>
    rw [List.map_cons, List.findIdx?_cons] at h
    by_cases hx : x.1 = k
    · subst hx
      simp at h; subst h
      exact ⟨x.2, by simp, by simp [mget], fun z => by simp [mput]⟩
    · rw [decide_eq_false hx] at h
      simp only [Bool.false_eq_true, if_false, Option.map_eq_some_iff] at h
      obtain ⟨j, hj, rfl⟩ := h
      obtain ⟨v, h1, h2, h3⟩ := ih j hj
      exact ⟨v, by simpa using h1, by simp [mget, hx, h2], fun z => by simp [mput, hx, h3]⟩
theorem mget_none (kvs : List (κ × β)) (k : κ) (h : (kvs.map Prod.fst).findIdx? (fun x => decide (x = k)) = none) : mget kvs k = none ∧ ∀ z, mput kvs k z = kvs ++ [(k, z)] := by
  induction kvs with
  | nil => exact ⟨rfl, fun _ => rfl⟩
  | cons x l ih =>
    rw [List.map_cons, List.findIdx?_cons] at h
    by_cases hx : x.1 = k
    · simp [hx] at h
    · rw [decide_eq_false hx] at h
      simp only [Bool.false_eq_true, if_false, Option.map_eq_none_iff] at h
      obtain ⟨h1, h2⟩ := ih h
      exact ⟨by simp [mget, hx, h1], fun z => by simp [mput, hx, h2]⟩
theorem run_find {kt : TypeId} (KK : KeyK P kt κ) {vt : β → Ty} {kvs : List (κ × β)} {w : World} {M : Tags} {es : Array MapEntry} (h2 : es.toList.map (·.key) = kvs.map (fun x => KK.enc x.1)) (h3 : dens w M (kvs.map fun x => vt x.2) (es.toList.map (·.val))) (k : κ) :
    (∃ i v e, (kvs.map Prod.fst).findIdx? (fun x => decide (x = k)) = some i ∧ mget kvs k = some v ∧ es[i]? = some e ∧ e.key = KK.enc k ∧ (vt v).den w M e.val ∧ (Instr.findKey kt (KK.enc k) es.toList).run P w = .ok (some (i, e.val)) w) ∨
    ((kvs.map Prod.fst).findIdx? (fun x => decide (x = k)) = none ∧ mget kvs k = none ∧ (Instr.findKey kt (KK.enc k) es.toList).run P w = .ok none w) := by
  have hf := KK.find k (kvs.map Prod.fst) es.toList w (by rw [h2, List.map_map]; rfl)
  cases hi : (kvs.map Prod.fst).findIdx? (fun x => decide (x = k)) with
  | none => right; rw [hi] at hf; exact ⟨rfl, (mget_none kvs k hi).1, hf⟩
  | some i =>
    left
    rw [hi] at hf
    obtain ⟨v, hv, hg, _⟩ := mget_pos kvs k i hi
    have hl : i < es.toList.length := by
      have := congrArg List.length h2
      rw [List.length_map, List.length_map] at this
      rw [this]; exact (List.getElem?_eq_some_iff.1 hv).1
    obtain ⟨u, hu, hd⟩ := dens_get h3 i (vt v) (by rw [List.getElem?_map, hv]; rfl)
    rw [List.getElem?_map, List.getElem?_eq_getElem hl] at hu
    injection hu with hu
    have hk := congrArg (fun l : List Value => l[i]?) h2
    simp only [List.getElem?_map, hv, List.getElem?_eq_getElem hl, Option.map_some] at hk
    injection hk with hk
    refine ⟨i, v, es.toList[i], rfl, hg, ?_, hk, hu ▸ hd, ?_⟩
    · rw [← Array.getElem?_toList, List.getElem?_eq_getElem hl]
    · rw [hf]; show Result.ok ((es.toList[i]?).map _) w = _; rw [List.getElem?_eq_getElem hl]; rfl
end
def zeroOf (P : Program) (t : TypeId) : Option Value := (P.info? t).bind (·.zero)
theorem run_zeroOf {P : Program} {t : TypeId} {z : Value} (h : zeroOf P t = some z) (w : World) : (zeroValue t).run P w = .ok z w := by
  unfold zeroOf at h
  cases hi : P.info? t with
  | none => rw [hi] at h; cases h
  | some i =>
    rw [hi] at h
    have h' : i.zero = some z := h
    simp [zeroValue, typeInfo, hi, h']
def mapOf (P : Program) (t : TypeId) : Option (TypeId × TypeId) := match P.underlying t with | some (.map k e) => some (k, e) | _ => none
theorem mapOf_und {P : Program} {t k e : TypeId} (h : mapOf P t = some (k, e)) : P.underlying t = some (.map k e) := by
  unfold mapOf at h
  split at h
  · rename_i k' e' hu; injection h with h; injection h with h1 h2; subst h1; subst h2; exact hu
  · cases h
section
variable {P : Program} {fr : Fr} {ops : Array Oper} {A : As} {rest : List Oper} {K : As → List (As × Fx) → Prop} {d : Nat} {t mt kt et : TypeId} {p : String} {e : Array Edge}
variable {κ β : Type} [DecidableEq κ]
theorem r_makeMap (enc : κ → Value) (V : VT β) (hm : mapOf P mt = some (kt, et)) (hp : fr.pass.contains (d + 1) = false)
    (h : TOps P fr ops rest (A.after { d := some d, ty := .mp (d + 1), K := [d + 1], sets := [(d + 1, .mp enc V [])] }) fun A' l' => K A' ((A, { d := some d, ty := .mp (d + 1), K := [d + 1], sets := [(d + 1, .mp enc V [])] }) :: l')) :
    TOps P fr ops (⟨some d, .makeMap mt none, t, p, e, none⟩ :: rest) A K := by
  refine ⟨_, ⟨rfl, (by simp), (by simp), (fun u hu => ?_), fun a w M wf _ _ _ => ?_⟩, h⟩
  · rw [List.mem_singleton.1 hu]; exact ⟨by omega, by simpa using hp⟩
  rw [if_pos (by simp [Region.wanted])]
  have hrun : (execOp a.eval ⟨some d, .makeMap mt none, t, p, e, none⟩).run P w = .ok (.value (.map (some w.heap.size))) { w with heap := w.heap.push (.map #[] 0) } := by
    simp [execOp, Instr.makeMap, newObj, Sem.run]
  refine wp_in_value hrun ?_
  refine ⟨_, rfl, fun b => if b = w.heap.size then some (d + 1) else if M b = some (d + 1) then none else M b, ⟨fun b u hb => ?_, fun b b' u ht1 hb hb' => ?_⟩, ⟨by simp, rfl, rfl, rfl, fun b hlt hm => ⟨?_, ?_⟩, fun b u hm hk => ⟨?_, fun _ => ?_⟩⟩, ⟨_, rfl, by simp⟩, fun x hx => ?_⟩
  · simp only [Array.size_push]
    split at hb
    · omega
    · split at hb
      · cases hb
      · have := wf.lt b u hb; omega
  · by_cases h1 : b = w.heap.size <;> by_cases h2 : b' = w.heap.size
    · rw [h1, h2]
    · exfalso
      simp only [h1, h2, if_true, if_false] at hb hb'
      injection hb with hb
      split at hb'
      · cases hb'
      · rename_i hn; rw [← hb] at hb'; exact hn hb'
    · exfalso
      simp only [h1, h2, if_true, if_false] at hb hb'
      injection hb' with hb'
      split at hb
      · cases hb
      · rename_i hn; rw [← hb'] at hb; exact hn hb
    · simp only [h1, h2, if_false] at hb hb'
      split at hb
      · cases hb
      · split at hb'
        · cases hb'
        · exact wf.inj b b' u ht1 hb hb'
  · rw [if_neg (by omega), if_neg (by rw [hm]; simp)]; exact hm
  · simp [Array.getElem?_push]; intro h; omega
  · have hlt := wf.lt b u hm
    rw [if_neg (by omega), if_neg (by rw [hm]; intro h; injection h with h; exact hk (by simp [h]))]; exact hm
  · have hlt := wf.lt b u hm
    simp [Array.getElem?_push]; intro h; omega
  · rw [List.mem_singleton.1 hx]
    exact ⟨w.heap.size, by simp, #[], 0, by simp, rfl, trivial⟩
theorem run_lookup {w : World} {M : Tags} {b : Nat} (KK : KeyK P kt κ) (V : VT β) {kvs : List (κ × β)} {z0 : β} {zv : Value} (hm : mapOf P mt = some (kt, et)) (hz : zeroOf P et = some zv) (hzd : (V.ty z0).den w M zv) (h : mapAt KK.enc V.ty kvs w M b) (k : κ) :
    (∃ v, (Instr.lookup mt (.map (some b)) (KK.enc k) false).run P w = .ok v w ∧ (V.ty ((mget kvs k).getD z0)).den w M v) ∧
    ∃ v, (Instr.lookup mt (.map (some b)) (KK.enc k) true).run P w = .ok (.tuple #[v, .bool (mget kvs k).isSome]) w ∧ (V.ty ((mget kvs k).getD z0)).den w M v := by
  obtain ⟨es, clock, h1, h2, h3⟩ := h
  have hu := mapOf_und hm
  have hzr := run_zeroOf hz
  rcases run_find KK h2 h3 k with ⟨i, v, en, _, hg, _, _, hd, hf⟩ | ⟨_, hg, hf⟩
  · rw [hg]
    refine ⟨⟨en.val, ?_, hd⟩, en.val, ?_, hd⟩ <;> simp [Instr.lookup, underlying, hu, getObj, Sem.run, h1, KK.check, hf]
  · rw [hg]
    refine ⟨⟨zv, ?_, hzd⟩, zv, ?_, hzd⟩ <;> simp [Instr.lookup, underlying, hu, getObj, Sem.run, h1, KK.check, hf, hzr]
theorem mp_at {x : Operand} {tg : Nat} {enc : κ → Value} {V : VT β} {kvs : List (κ × β)} (hx : A.op fr x = .mp tg) (hc : A.tag tg = some (.mp enc V kvs)) (h1 : Tag1 tg) {a : Act} {w : World} {M : Tags} {rs : List Nat} (wf : Wf w M) (hr : ∀ c ∈ opR x, c ∈ rs) (hrd : ∀ c ∈ rs, c < fr.n → (A.slots c).den w M (a.tmps.getD c undef)) (htg : ∀ y ∈ A.tags, y.1 ∈ [tg] → y.2.den w M y.1) :
    ∃ b, a.eval x = .map (some b) ∧ M b = some tg ∧ mapAt enc V.ty kvs w M b := by
  have hxd := op_den hr hrd
  rw [hx] at hxd
  obtain ⟨b, e1, e2⟩ := hxd
  obtain ⟨b', h2, h3⟩ := htg _ (tag_mem hc) (by simp)
  obtain ⟨u, rfl⟩ : ∃ u, tg = u + 1 := ⟨tg - 1, by omega⟩
  have : b = b' := wf.inj b b' u (by omega) e2 h2
  subst this
  exact ⟨b, e1, e2, h3⟩
def KeyAt (kty : Ty) (v : Value) : Prop := ∀ w M x, kty.den w M x → x = v
theorem key_int {q : IntKind} {n : Int} : KeyAt (.int q n) (.int q n) := fun _ _ _ h => h
theorem r_lookup {x y : Operand} {tg : Nat} {kty : Ty} {k : κ} (KK : KeyK P kt κ) {V : VT β} {kvs : List (κ × β)} {z0 : β} {zv : Value} (hx : A.op fr x = .mp tg) (hc : A.tag tg = some (.mp KK.enc V kvs)) (h1 : Tag1 tg) (hy : A.op fr y = kty) (hk : KeyAt kty (KK.enc k)) (hm : mapOf P mt = some (kt, et)) (hz : zeroOf P et = some zv) (hzd : ∀ w M, (V.ty z0).den w M zv)
    (h : TOps P fr ops rest (A.set d (V.ty ((mget kvs k).getD z0))) fun A' l' => K A' ((A, { d := some d, ty := V.ty ((mget kvs k).getD z0), rs := opR x ++ opR y, rt := [tg] }) :: l')) :
    TOps P fr ops (⟨some d, .lookup mt x y false, t, p, e, none⟩ :: rest) A K :=
  tops_pure (opT_pure rfl rfl fun a w M wf hrd htg => by
    obtain ⟨b, e1, _, h3⟩ := mp_at hx hc h1 wf (fun c hc => List.mem_append_left _ hc) hrd htg
    have hyd := op_den (fun c hc => List.mem_append_right (opR x) hc) hrd
    rw [hy] at hyd
    obtain ⟨v, hv, hd⟩ := (run_lookup KK V hm hz (hzd w M) h3 k).1
    refine ⟨v, ?_, hd⟩
    simp only [execOp, e1, hk _ _ _ hyd]
    simp [hv]) h
theorem r_lookupP {x y : Operand} {kty : Ty} {k : κ} (KK : KeyK P kt κ) {V : VT β} {kvs : List (κ × β)} {z0 : β} {zv : Value} (hx : A.op fr x = .pm KK.enc V kvs) (hy : A.op fr y = kty) (hk : KeyAt kty (KK.enc k)) (hm : mapOf P mt = some (kt, et)) (hz : zeroOf P et = some zv) (hzd : ∀ w M, (V.ty z0).den w M zv)
    (h : TOps P fr ops rest (A.set d (V.ty ((mget kvs k).getD z0))) fun A' l' => K A' ((A, { d := some d, ty := V.ty ((mget kvs k).getD z0), rs := opR x ++ opR y }) :: l')) :
    TOps P fr ops (⟨some d, .lookup mt x y false, t, p, e, none⟩ :: rest) A K :=
  tops_pure (opT_pure (rt := []) rfl rfl fun a w M wf hrd _ => by
    have hxd := op_den (fun c hc => List.mem_append_left (opR y) hc) hrd
    rw [hx] at hxd
    obtain ⟨b, e1, _, _, h3⟩ := hxd
    have hyd := op_den (fun c hc => List.mem_append_right (opR x) hc) hrd
    rw [hy] at hyd
    obtain ⟨v, hv, hd⟩ := (run_lookup KK V hm hz (hzd w M) h3 k).1
    refine ⟨v, ?_, hd⟩
    simp only [execOp, e1, hk _ _ _ hyd]
    simp [hv]) h
theorem r_mapUpdate {x y z : Operand} {tg : Nat} {kty vty : Ty} {k : κ} {v : β} (KK : KeyK P kt κ) {V : VT β} {kvs : List (κ × β)} (hx : A.op fr x = .mp tg) (hc : A.tag tg = some (.mp KK.enc V kvs)) (h1 : Tag1 tg) (hy : A.op fr y = kty) (hk : KeyAt kty (KK.enc k)) (hz : A.op fr z = vty) (hv : vty = V.ty v) (hm : mapOf P mt = some (kt, et))
    (h : TOps P fr ops rest (A.after { d := none, S := [tg], sets := [(tg, .mp KK.enc V (mput kvs k v))], rs := opR x ++ (opR y ++ opR z), rt := [tg] }) fun A' l' => K A' ((A, { d := none, S := [tg], sets := [(tg, .mp KK.enc V (mput kvs k v))], rs := opR x ++ (opR y ++ opR z), rt := [tg] }) :: l')) :
    TOps P fr ops (⟨none, .mapUpdate mt x y z, t, p, e, none⟩ :: rest) A K := by
  subst hv
  refine ⟨_, ⟨rfl, (fun x hx => .inl (by rw [List.mem_singleton.1 hx]; exact List.mem_singleton.2 rfl)), (fun u hu => by rw [List.mem_singleton.1 hu]; exact h1.1), (by simp), fun a w M wf _ hrd htg => ?_⟩, h⟩
  rw [if_pos (by simp [Region.wanted])]
  obtain ⟨b, e1, e2, es, clock, h3, h4, h5⟩ := mp_at hx hc h1 wf (fun c hc => List.mem_append_left _ hc) hrd htg
  have hyd := op_den (fun c hc => List.mem_append_right (opR x) (List.mem_append_left (opR z) hc)) hrd
  have hzd := op_den (fun c hc => List.mem_append_right (opR x) (List.mem_append_right (opR y) hc)) hrd
  rw [hy] at hyd
  rw [hz] at hzd
  have hu := mapOf_und hm
  have hblt : b < w.heap.size := wf.lt b _ e2
  -- whatever is put there
  have fin : ∀ (es' : Array MapEntry) (clock' : Nat), es'.toList.map (·.key) = (mput kvs k v).map (fun x => KK.enc x.1) → dens w M ((mput kvs k v).map fun x => V.ty x.2) (es'.toList.map (·.val)) →
      (Instr.mapUpdate mt (.map (some b)) (KK.enc k) (a.eval z)).run P w = .ok () { w with heap := w.heap.setIfInBounds b (.map es' clock') } →
      Oper.wpIn fr.kd.fence 0 P ⟨none, .mapUpdate mt x y z, t, p, e, none⟩ a w (fun a' w' => ∃ v', a' = a.put none v' ∧ Fx.left { d := none, S := [tg], sets := [(tg, .mp KK.enc V (mput kvs k v))], rs := opR x ++ (opR y ++ opR z), rt := [tg] } w M w' v') (fun _ _ _ => False) := by
    intro es' clock' hk' hd' hrun
    have hr : (execOp a.eval ⟨none, .mapUpdate mt x y z, t, p, e, none⟩).run P w = .ok .skip { w with heap := w.heap.setIfInBounds b (.map es' clock') } := by
      simp only [execOp, e1, hk _ _ _ hyd]
      simp [hrun]
    refine wp_in_skip hr ?_
    have le : Le (· ∈ [tg]) (· ∈ ([] : List Nat)) w M { w with heap := w.heap.setIfInBounds b (.map es' clock') } M := by
      refine ⟨by simp, rfl, rfl, rfl, fun b2 hlt hm2 => ⟨hm2, ?_⟩, fun b2 u hm2 _ => ⟨hm2, fun hs => ?_⟩⟩
      · have : b ≠ b2 := fun h => by subst h; rw [e2] at hm2; cases hm2
        simp [Array.getElem?_setIfInBounds, this]
      · have : b ≠ b2 := fun h => by subst h; rw [e2] at hm2; injection hm2 with hm2; exact hs (by simp [hm2])
        simp [Array.getElem?_setIfInBounds, this]
    refine ⟨undef, rfl, M, ⟨fun b2 u h => by simpa using wf.lt b2 u h, wf.inj⟩, le, trivial, fun x hx => ?_⟩
    rw [List.mem_singleton.1 hx]
    refine ⟨b, e2, es', clock', by simp [hblt], hk', ?_⟩
    refine dens_mono le (fun _ _ => by simp) (fun u hu => ?_) hd'
    simp only [cdepsOf, List.mem_flatMap, List.mem_map] at hu
    obtain ⟨t', ⟨x', _, rfl⟩, hu⟩ := hu
    rw [(V.nodeps x'.2).2] at hu; cases hu
  rcases run_find KK h4 h5 k with ⟨i, v0, en, hi, hg, hen, hkey, hd, hf⟩ | ⟨hi, hg, hf⟩
  · obtain ⟨v1, hv1, _, hput⟩ := mget_pos kvs k i hi
    have hil : i < es.size := (Array.getElem?_eq_some_iff.1 hen).1
    refine fin (es.modify i fun e => { e with key := KK.enc k, val := a.eval z }) clock ?_ ?_ ?_
    · rw [hput, List.map_set]
      have : (es.modify i fun e => { e with key := KK.enc k, val := a.eval z }).toList = es.toList.set i { en with key := KK.enc k, val := a.eval z } := by
        rw [Array.toList_modify, List.modify_eq_set, Array.getElem?_toList, hen]; rfl
      rw [this, List.map_set, h4]
    · rw [hput, List.map_set]
      have : (es.modify i fun e => { e with key := KK.enc k, val := a.eval z }).toList = es.toList.set i { en with key := KK.enc k, val := a.eval z } := by
        rw [Array.toList_modify, List.modify_eq_set, Array.getElem?_toList, hen]; rfl
      rw [this, List.map_set]
      exact dens_set h5 hzd
    · simp [Instr.mapUpdate, underlying, hu, getObj, setObj, Sem.run, h3, KK.check, hf, hen, hkey, Instr.keyThatStays, KK.same]
  · obtain ⟨_, hput⟩ := mget_none kvs k hi
    refine fin (es.push { key := KK.enc k, val := a.eval z, born := clock }) (clock + 1) ?_ ?_ ?_
    · rw [hput]; simp [h4]
    · rw [hput]; simp only [Array.toList_push, List.map_append, List.map_cons, List.map_nil]
      exact dens_append h5 ⟨hzd, trivial⟩
    · simp [Instr.mapUpdate, underlying, hu, getObj, setObj, Sem.run, h3, KK.check, hf]
end
section
variable {P : Program} {fr : Fr} {A : As} {Q : Exit → Act → World → Prop} {c : Code} {κ β : Type} [DecidableEq κ]
theorem pub_mp {enc : κ → Value} {V : VT β} {kvs : List (κ × β)} {tg s : Nat} (hx : A.slots s = .mp tg) (hc : A.tag tg = some (.mp enc V kvs)) (h1 : Tag1 tg) : PubTo A tg s (.pm enc V kvs) := by
  intro w M v wf ht hv
  rw [hx] at hv
  obtain ⟨b, e1, e2⟩ := hv
  obtain ⟨b', h2, h3⟩ := ht _ (tag_mem hc)
  obtain ⟨u, rfl⟩ : ∃ u, tg = u + 1 := ⟨tg - 1, by omega⟩
  have : b = b' := wf.inj b b' u (by omega) e2 h2
  subst this
  exact ⟨b, e1, by simp [pubTag, e2], wf.lt b _ e2, mapAt_mono V.nodeps (pubTag_le (tg := u + 1)) rfl h3⟩
end
end Go.T
