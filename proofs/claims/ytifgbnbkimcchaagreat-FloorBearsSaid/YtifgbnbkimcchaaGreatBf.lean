/- Lemmas: the program and the reference walked, plain laws. -/
import Derived.Test.YtifgbnbkimcchaaGreatBe
namespace Go.Proofs.YtifgbnbkimcchaaGreat
open Go Go.T
set_option maxHeartbeats 2000000
theorem pay_in0 {f : Flr} (hp : checkP f = 0) {b : Nat} (hb : b < f.bears.length) : payE f b = 0 := by
  unfold payE openE
  rw [if_neg (by rw [hp]; decide)]
  have : inB (b : Int) 0 (f.bears.length - 1) = true := by unfold inB; simp; omega
  rw [this]; rfl
theorem bounds_pays {f : Flr} (hp : checkP f = 0) {b : Nat} (hb : b < f.bears.length) : boundsP f b (paysL f b) = (heavyV f b, 0) ∧ boundV f b (paysL f b) = (heavyV f b, true) := by
  obtain ⟨h1, h2⟩ := pays_most hp hb
  obtain ⟨b1, b2, _⟩ := bounds_holds hp hb (paysL f b)
  have e := b1.2 h1
  exact ⟨Prod.ext ((b2 e).trans h2) e, by rw [bound_yes h1, h2]⟩
theorem paysL_len {f : Flr} (hp : checkP f = 0) (b : Nat) : (paysL f b).length ≤ 64 := by
  have h8 := (check_right hp).ranged.turnings
  have := paysUp_len (ledT f b) h8 f.turnings.length
  rw [← paysL_eq] at this; omega
def ordT (f : Flr) (t : List Int) (k : Nat) : List (List Int) := (List.range k).map (tryO f (skFill t))
theorem ordT_succ (f : Flr) (t : List Int) (k : Nat) : ordT f t k ++ [tryO f (skFill t) k] = ordT f t (k + 1) := by unfold ordT; rw [List.range_succ, List.map_append]; rfl
theorem ordT_len (f : Flr) (t : List Int) (k : Nat) : (ordT f t k).length = k := by simp [ordT]
theorem ordT_nth (f : Flr) (t : List Int) {k i : Nat} (h : i < k) : nth (ordT f t k) i = tryO f (skFill t) i := nth_map_range _ h
theorem ordT_zero (f : Flr) (t : List Int) : [] = ordT f t 0 := rfl
theorem set_cut {l : List Int} {T k : Nat} (hinc : Inc l) (hr : 0 ≤ nth l k ∧ nth l k < T) (hk : k < l.length) : ((decide (nth l k < 0) || decide ((T : Int) ≤ nth l k)) || (decide ((0 : Int) < (k : Int)) && decide (nth l k ≤ nth l ((k : Int) - 1).toNat))) = false := by
  rw [decide_eq_false (show ¬ nth l k < 0 by omega), decide_eq_false (show ¬ (T : Int) ≤ nth l k by omega)]
  cases k with
  | zero => simp
  | succ m =>
    have := hinc m hk
    rw [show (((m + 1 : Nat) : Int) - 1).toNat = m by omega, decide_eq_false (show ¬ nth l (m + 1) ≤ nth l m by omega)]
    simp
theorem bear_cut {f : Flr} (hp : checkP f = 0) {n : Nat} (hb : n < f.bears.length) {a t : Int} (ht : t ∈ membersM (topS f n)) : ((!decide (a = t) && decide (a ∈ aheadM f t)) && !decide (a ∈ membersM (topS f n))) = false := by
  by_cases h : a ∈ aheadM f t
  · rw [decide_eq_true (heavy_closed hp hb ht h)]; simp
  · rw [decide_eq_false h]; simp
theorem brk_cut {f : Flr} (hp : checkP f = 0) {n : Nat} (hb : n < f.bears.length) : (decide (nth f.bears n < heavyV f n) && !decide (brkE f (worstL f n) = 0)) = false := by
  by_cases hg : nth f.bears n < heavyV f n
  · rw [worst_brk hp hb hg]; simp
  · rw [decide_eq_false hg]; rfl
attribute [local irreducible] dInt dBool dSl dPp dPtr dAgg dTup dClo dAny dEx dStr dGd dCells dVec dVs dRow dOp nth Tri Into TOps Ctr bodyPost Exit.then Exit.inBlock Code.wp Code.wpIn dWhen dPa dPe dAo dArr dMp dPm dMap dCJ CtrG CtrI OpY keepPost iterPost bodyPostM roundQ
theorem b_risk {f : Flr} (hp : checkP f = 0) (hs : f.Small) : Ctr Tryz.prog 18 [flrT f] (Ty.tup [Ty.sl I64 (riskUp f f.bears.length), Ty.int .i64 0]) := by
  have h := c_Risk f hs
  rw [hp, show riskR f = riskUp f f.bears.length from if_pos hp] at h; exact h
theorem b_check {f : Flr} (hp : checkP f = 0) (hs : f.Small) : Ctr Tryz.prog 33 [flrT f] (Ty.int .i64 0) := by
  have h := c_Check f hs
  rw [hp] at h; exact h
theorem b_most {f : Flr} (hp : checkP f = 0) (hs : f.Small) {b : Nat} (hb : b < f.bears.length) : Ctr Tryz.prog 14 [flrT f, Ty.int .i64 (b : Nat)] (Ty.tup [Ty.int .i64 (heavyV f b), Ty.int .i64 0]) := by
  have h := c_Most f hs b
  rw [most_in hp hb] at h; exact h
theorem b_heavy {f : Flr} (hp : checkP f = 0) (hs : f.Small) {b : Nat} (hb : b < f.bears.length) : Ctr Tryz.prog 15 [flrT f, Ty.int .i64 (b : Nat)] (Ty.tup [Ty.sl I64 (membersM (topS f b)), Ty.int .i64 0]) := by
  have h := c_Heaviest f hs b
  rw [pay_in0 hp hb, ← heavy_in (pay_in0 hp hb)] at h; exact h
theorem b_worst {f : Flr} (hp : checkP f = 0) (hs : f.Small) {b : Nat} (hb : b < f.bears.length) : Ctr Tryz.prog 16 [flrT f, Ty.int .i64 (b : Nat)] (Ty.tup [Ty.sl I64 (worstL f b), Ty.int .i64 0]) := by
  have h := c_Worst f hs b
  rw [pay_in0 hp hb, show worstR f (b : Nat) = worstL f b from if_pos (pay_in0 hp hb)] at h; exact h
theorem b_pays {f : Flr} (hp : checkP f = 0) (hs : f.Small) {b : Nat} (hb : b < f.bears.length) : Ctr Tryz.prog 17 [flrT f, Ty.int .i64 (b : Nat)] (Ty.tup [Ty.sl PayE (paysL f b), Ty.int .i64 0]) := by
  have h := c_Payments f hs b
  rw [payR_in (pay_in0 hp hb), pay_in0 hp hb] at h; exact h
theorem b_bounds {f : Flr} (hp : checkP f = 0) (hs : f.Small) {b : Nat} (hb : b < f.bears.length) : Ctr Tryz.prog 40 [flrT f, Ty.int .i64 (b : Nat), Ty.sl PayE (paysL f b)] (Ty.tup [Ty.int .i64 (heavyV f b), Ty.int .i64 0]) := by
  have h := c_Bounds f hs b (paysL f b) (by have := paysL_len hp b; omega)
  rw [(bounds_pays hp hb).1] at h; exact h
theorem b_bound {f : Flr} (hp : checkP f = 0) {b : Nat} (hb : b < f.bears.length) : Ctr Tryz.prog 41 [flrT f, Ty.int .i64 (b : Nat), Ty.sl PayE (paysL f b)] (Ty.tup [Ty.int .i64 (heavyV f b), Ty.bool true]) := by
  have h := c_bound5 f hp b hb (paysL f b) (by have := paysL_len hp b; omega)
  rw [(bounds_pays hp hb).2] at h; exact h
theorem b_allowed {f : Flr} (hp : checkP f = 0) {b : Nat} (hb : b < f.bears.length) : Ctr Tryz.prog 42 [flrT f, Ty.sl I64 (worstL f b)] (Ty.bool true) := by
  have h8 := nt8 hp
  have h := c_allowed5 f (worstL f b) (by omega)
  rw [allowed_law hp, decide_eq_true (worst_order hp hb)] at h; exact h
attribute [local irreducible] tryS tryO Md.flr heavyV paysL worstL topS riskUp boundV boundsP ordT brkE brkT brkB
set_option maxRecDepth 100000 in
theorem c_FloorBears (g t : List Int) : Ctr Tryz.prog 5 [Ty.sl U8 g, Ty.sl U8 t] (Ty.bool true) := by
  refine fn_intro Tryz.func5 rfl (by decide) Tryz.ntmps5 (by exact Nat.le_of_ble_eq_true rfl) fun w0 M0 => ?_
  refine t_seq ?_
  refine t_region ?_
  refine asB rfl ?_
  refine r_nil ?_
  refine i_then ?_
  refine t_seq ?_
  obtain ⟨f, s1, hp, _, hM⟩ := made5 g 8 (Nat.le_refl 8)
  have hr := check_right hp
  have hs := small_right hr
  have h8 := hr.ranged.turnings
  have hb4 := hr.ranged.bears
  have hrl := risk_len f f.bears.length
  refine t_region ?_
  refine mvS rfl ?_
  refine r_callG [(35, 10)] [35] [(35, Cont.cells 138 (skTys (skFill g)))] (c_Fill g) rfl rfl (by repeat (first | exact cv_nil | refine cv_cons ?_ ?_ | exact cv_pub rfl rfl)) pre_nil (post_cons (a := 35) (b := 10) (by exact List.mem_cons_self) rfl (cc_cells_eq (by exact List.mem_cons_self) rfl rfl rfl) post_nil) (cv_ptr (by exact List.mem_cons_self)) ?_
  refine r_callG [(35, 1000)] [] [(35, Cont.cells 138 (skTys (s1)))] (hM) rfl rfl (by repeat (first | exact cv_nil | refine cv_cons ?_ ?_ | exact cv_ptr List.mem_cons_self | exact cv_pub rfl rfl)) (pre_cons (a := 35) (b := 1000) (by exact List.mem_cons_self) rfl (cc_cells_eq (by exact List.mem_cons_self) rfl rfl rfl) pre_nil) (post_cons (a := 35) (b := 1000) (by exact List.mem_cons_self) rfl (cc_cells_eq (by exact List.mem_cons_self) rfl rfl rfl) post_nil) (cv_pub rfl rfl) ?_
  refine r_alloc rfl (by exact List.cons_ne_nil _ _) rfl ?_
  refine r_storeN rfl rfl (by decide) rfl rfl rfl rfl rfl rfl ?_
  refine r_nil ?_
  refine i_then ?_
  refine t_seq ?_
  refine t_region ?_
  refine r_load_ptrN rfl rfl (by decide) rfl rfl (by exact Nat.le_of_ble_eq_true rfl) ?_
  refine r_call (b_risk hp hs) rfl rfl rfl rfl rfl ?_
  refine mvT rfl ?_
  refine r_extract rfl rfl ?_
  refine r_extract rfl rfl ?_
  refine asS rfl ?_
  refine asI rfl ?_
  refine r_nil ?_
  refine i_then ?_
  refine t_seq ?_
  refine t_seq ?_
  refine t_region ?_
  refine r_load_ptrN rfl rfl (by decide) rfl rfl (by exact Nat.le_of_ble_eq_true rfl) ?_
  refine r_call (b_check hp hs) rfl rfl rfl rfl rfl ?_
  refine r_bin rfl rfl rfl ?_
  refine mvB rfl ?_
  apply r_guard (s := 44) rfl rfl rfl
  · intro hg; apply opT_of; (refine mvI rfl ?_); refine r_nil ?_; exact rfl
  · exact rfl
  · exact rfl
  apply r_guard (s := 44) rfl rfl rfl
  · intro hg; apply opT_strip (s := 45) rfl (by (rw [hg]; rfl)); apply opT_of; (refine r_bin rfl rfl rfl ?_); refine r_nil ?_; exact rfl
  · exact rfl
  · exact rfl
  refine r_or rfl rfl ?_
  refine mvB rfl ?_
  apply r_guard (s := 48) rfl rfl rfl
  · intro hg; apply opT_of; (refine mvS rfl ?_); refine r_nil ?_; exact rfl
  · exact rfl
  · exact rfl
  apply r_guard (s := 48) rfl rfl rfl
  · intro hg; apply opT_strip (s := 49) rfl (by (rw [hg]; rfl)); apply opT_of; (refine r_call (c_IsSorted (riskUp f f.bears.length) (inc_risk f _) (by omega)) rfl rfl rfl rfl rfl ?_); refine r_nil ?_; exact rfl
  · exact rfl
  · exact rfl
  apply r_guard (s := 48) rfl rfl rfl
  · intro hg; apply opT_strip (s := 50) rfl (by (rw [hg]; rfl)); apply opT_of; (refine r_not rfl ?_); refine r_nil ?_; exact rfl
  · exact rfl
  · exact rfl
  refine r_or rfl rfl ?_
  refine mvB rfl ?_
  apply r_guard (s := 53) rfl rfl rfl
  · intro hg; apply opT_of; (refine mvS rfl ?_); refine r_nil ?_; exact rfl
  · exact rfl
  · exact rfl
  apply r_guard (s := 53) rfl rfl rfl
  · intro hg; apply opT_strip (s := 54) rfl (by (rw [hg]; rfl)); apply opT_of; (refine r_call (c_Clone_int (riskUp f f.bears.length) (by omega)) rfl rfl rfl rfl rfl ?_); refine r_nil ?_; exact rfl
  · exact rfl
  · exact rfl
  apply r_guard (s := 53) rfl rfl rfl
  · intro hg; apply opT_strip (s := 55) rfl (by (rw [hg]; rfl)); apply opT_of; (refine r_call (c_Compact_inc (riskUp f f.bears.length) (inc_risk f _) (by omega)) rfl rfl rfl rfl rfl ?_); refine r_nil ?_; exact rfl
  · exact rfl
  · exact rfl
  apply r_guard (s := 53) rfl rfl rfl
  · intro hg; apply opT_strip (s := 56) rfl (by (rw [hg]; rfl)); apply opT_of; (refine r_len rfl rfl rfl ?_); refine r_nil ?_; exact rfl
  · exact rfl
  · exact rfl
  apply r_guard (s := 53) rfl rfl rfl
  · intro hg; apply opT_of; (refine mvS rfl ?_); refine r_nil ?_; exact rfl
  · exact rfl
  · exact rfl
  apply r_guard (s := 53) rfl rfl rfl
  · intro hg; apply opT_strip (s := 58) rfl (by (rw [hg]; rfl)); apply opT_of; (refine r_len rfl rfl rfl ?_); refine r_nil ?_; exact rfl
  · exact rfl
  · exact rfl
  apply r_guard (s := 53) rfl rfl rfl
  · intro hg; apply opT_strip (s := 57) rfl (by (rw [hg]; rfl)); apply opT_strip (s := 59) rfl (by (rw [hg]; rfl)); apply opT_of; (refine r_bin rfl rfl rfl ?_); refine r_nil ?_; exact rfl
  · exact rfl
  · exact rfl
  refine r_or rfl rfl ?_
  refine r_nil ?_
  refine i_then ?_
  refine t_cond_ff rfl (by simp) ?_
  refine t_skip ?_
  refine i_then ?_
  refine t_seq ?_
  refine t_region ?_
  refine mvS rfl ?_
  refine r_callG [(64, 10)] [64] [(64, Cont.cells 138 (skTys (skFill t)))] (c_Fill t) rfl rfl (by repeat (first | exact cv_nil | refine cv_cons ?_ ?_ | exact cv_pub rfl rfl)) pre_nil (post_cons (a := 64) (b := 10) (by exact List.mem_cons_self) rfl (cc_cells_eq (by exact List.mem_cons_self) rfl rfl rfl) post_nil) (cv_ptr (by exact List.mem_cons_self)) ?_
  refine asO rfl ?_
  refine r_nil ?_
  refine i_then ?_
  refine t_seq ?_
  refine t_region ?_
  refine asX rfl ?_
  refine r_nil ?_
  refine i_then ?_
  refine t_seq ?_
  refine t_seq ?_
  refine t_region ?_
  refine mvI rfl ?_
  refine r_nil ?_
  refine i_then ?_
  refine t_block ?_
  refine t_loop (fun (k : {k : Nat // k ≤ 6}) => live [(5, Ty.ptr 6 0), (6, Ty.sl I64 (riskUp f f.bears.length)), (8, Ty.ptr 64 0), (9, Ty.row RowE 22 72 (ordT f t k.1)), (64, Ty.int .i64 (k.1 : Nat))] [(6, Cont.cells 27 (flrTys f)), (64, Cont.cells 138 (skTys (tryS f (skFill t) k.1)))]) (fun k => 6 - k.1) (⟨0, by omega⟩) ?_ fun k => ?_
  · (refine Ent.mk' ?_ ?_ <;> (repeat' (first | exact allSub_zero | exact allTags_nil | exact subs_nil | refine allSub_succ' ?_ (Ty.sub_any _) | refine allSub_succ' ?_ (Ty.sub_refl _) | refine allTags_cons rfl (Cont.sub_refl _) ?_ | refine allTags_cons rfl (Cont.sub_subs ?_) ?_ | refine subs_cons ?_ ?_ | refine allSub_succ' ?_ ?_)))
    all_goals first | exact Ty.sub_int (congrArg Sk.mixed (tryS_zero f (skFill t))) | exact Ty.sub_int (congrArg Sk.taken (tryS_zero f (skFill t))) | exact Ty.sub_sl (congrArg Sk.grain (tryS_zero f (skFill t))) | exact nil_row_eq (ordT_zero f t)
  ·
    have hk := k.2
    have hol := ordT_len f t k.1
    refine t_seq ?_
    refine t_region ?_
    refine r_bin rfl rfl rfl ?_
    refine r_nil ?_
    refine i_then ?_
    refine t_seq ?_
    refine t_cond_dec rfl (fun hc2 => ?_) (fun hc2 => ?_)
    ·
      refine t_skip ?_
      refine i_then ?_
      refine t_seq ?_
      refine t_block ?_
      refine t_region ?_
      refine mvR rfl ?_
      refine mvO rfl ?_
      refine r_load_ptrN rfl rfl (by decide) rfl rfl (by exact Nat.le_of_ble_eq_true rfl) ?_
      refine r_callG [(64, 1000)] [] [(64, Cont.cells 138 (skTys (tryS f (skFill t) (k.1 + 1))))] (c_try f hp t k.1 (by omega)) rfl rfl (by repeat (first | exact cv_nil | refine cv_cons ?_ ?_ | exact cv_ptr List.mem_cons_self | exact cv_pub rfl rfl)) (pre_cons (a := 64) (b := 1000) (by exact List.mem_cons_self) rfl (cc_cells_eq (by exact List.mem_cons_self) rfl rfl rfl) pre_nil) (post_cons (a := 64) (b := 1000) (by exact List.mem_cons_self) rfl (cc_cells_eq (by exact List.mem_cons_self) rfl rfl rfl) post_nil) (cv_pub rfl rfl) ?_
      refine r_buildSlice (E := RowE) (xs := [tryO f (skFill t) k.1]) rfl rfl rfl rfl rfl (by decide) (by decide) (by repeat (first | exact (Parts.nil : Parts _ _ [] _) | (show Parts _ _ ((_, _) :: _) _; apply Parts.one; (· exact (rfl : _ = Ty.sl _ _)); (· exact rfl)))) (by exact rfl) rfl ?_
      refine r_append rfl rfl (by decide) rfl rfl rfl rfl rfl rfl (by decide) (by (simp <;> omega)) (by (simp <;> omega)) ?_
      refine asR rfl ?_
      refine r_nil ?_
      refine i_block ?_
      refine i_then ?_
      refine t_region ?_
      refine r_add rfl rfl (by omega) (by omega) ?_
      refine mvI rfl ?_
      refine r_nil ?_
      refine i_round (⟨k.1 + 1, by omega⟩) ?_ (by show 6 - (k.1 + 1) < 6 - k.1; omega)
      (refine Ent.mk' ?_ ?_ <;> (repeat' (first | exact allSub_zero | exact allTags_nil | refine allSub_succ' ?_ (Ty.sub_any _) | refine allSub_succ' ?_ (Ty.sub_refl _) | refine allTags_cons rfl (Cont.sub_refl _) ?_ | refine allSub_succ' ?_ ?_)))
      all_goals skip
      all_goals exact Ty.sub_row (ordT_succ f t k.1)
    ·
      refine t_exit ?_
      refine i_then_exit ?_
      refine i_then_exit ?_
      refine i_block_exit rfl ?_
      refine i_then ?_
      refine t_seq ?_
      refine t_seq ?_
      obtain ⟨k, hk2⟩ := k
      obtain rfl : k = 6 := by have hx : ¬ (k : Int) < 6 := hc2; omega
      refine t_region ?_
      refine r_field_ptr rfl rfl rfl rfl rfl (by decide) ?_
      refine r_load_ptr rfl rfl (by decide) rfl rfl rfl ?_
      refine r_len rfl rfl rfl ?_
      refine mvI rfl ?_
      refine r_nil ?_
      refine i_then ?_
      refine t_block ?_
      refine t_loop (fun (n : {n : Nat // n ≤ f.bears.length}) => live [(5, Ty.ptr 6 0), (6, Ty.sl I64 (riskUp f f.bears.length)), (9, Ty.row RowE 22 72 (ordT f t 6)), (74, Ty.sl I64 f.bears), (75, Ty.int .i64 f.bears.length), (76, Ty.int .i64 (n.1 : Nat))] [(6, Cont.cells 27 (flrTys f))]) (fun n => f.bears.length - n.1) (⟨0, by omega⟩) ?_ fun n => ?_
      · (refine Ent.mk' ?_ ?_ <;> (repeat' (first | exact allSub_zero | exact allTags_nil | refine allSub_succ' ?_ (Ty.sub_any _) | refine allSub_succ' ?_ (Ty.sub_refl _) | refine allTags_cons rfl (Cont.sub_refl _) ?_)))
      ·
        have hn := n.2
        have hol := ordT_len f t 6
        refine t_seq ?_
        refine t_region ?_
        refine r_bin rfl rfl rfl ?_
        refine r_nil ?_
        refine i_then ?_
        refine t_seq ?_
        refine t_cond_dec rfl (fun hc3 => ?_) (fun hc3 => ?_)
        ·
          refine t_skip ?_
          refine i_then ?_
          refine t_seq ?_
          refine t_block ?_
          refine t_seq ?_
          refine t_region ?_
          refine mvI rfl ?_
          refine r_index_slN rfl rfl rfl rfl rfl rfl (by omega) ?_
          refine r_load_pp rfl rfl rfl rfl ?_
          refine asI rfl ?_
          refine asI rfl ?_
          refine r_nil ?_
          refine i_then ?_
          refine t_seq ?_
          have hb : n.1 < f.bears.length := by omega
          have hwo := worst_order hp hb
          have hto := answers hp hwo
          have hwl := small_len hto hp
          have hml := members_len (topS f n.1)
          have hbs := best_spec hp hb
          have hrm := rep_members hp hbs.2.1 hbs.2.2.1
          refine t_region ?_
          refine r_load_ptrN rfl rfl (by decide) rfl rfl (by exact Nat.le_of_ble_eq_true rfl) ?_
          refine mvI rfl ?_
          refine r_call (b_most hp hs hb) rfl rfl rfl rfl rfl ?_
          refine mvT rfl ?_
          refine r_extract rfl rfl ?_
          refine r_extract rfl rfl ?_
          refine asI rfl ?_
          refine asI rfl ?_
          refine r_nil ?_
          refine i_then ?_
          refine t_seq ?_
          refine t_region ?_
          refine r_load_ptrN rfl rfl (by decide) rfl rfl (by exact Nat.le_of_ble_eq_true rfl) ?_
          refine mvI rfl ?_
          refine r_call (b_heavy hp hs hb) rfl rfl rfl rfl rfl ?_
          refine mvT rfl ?_
          refine r_extract rfl rfl ?_
          refine r_extract rfl rfl ?_
          refine asS rfl ?_
          refine asI rfl ?_
          refine r_nil ?_
          refine i_then ?_
          refine t_seq ?_
          refine t_region ?_
          refine r_load_ptrN rfl rfl (by decide) rfl rfl (by exact Nat.le_of_ble_eq_true rfl) ?_
          refine mvI rfl ?_
          refine r_call (b_worst hp hs hb) rfl rfl rfl rfl rfl ?_
          refine mvT rfl ?_
          refine r_extract rfl rfl ?_
          refine r_extract rfl rfl ?_
          refine asS rfl ?_
          refine asI rfl ?_
          refine r_nil ?_
          refine i_then ?_
          refine t_seq ?_
          refine t_region ?_
          refine r_load_ptrN rfl rfl (by decide) rfl rfl (by exact Nat.le_of_ble_eq_true rfl) ?_
          refine mvI rfl ?_
          refine r_call (b_pays hp hs hb) rfl rfl rfl rfl rfl ?_
          refine mvT rfl ?_
          refine r_extract rfl rfl ?_
          refine r_extract rfl rfl ?_
          refine asS rfl ?_
          refine asI rfl ?_
          refine r_nil ?_
          refine i_then ?_
          refine t_seq ?_
          refine t_region ?_
          refine r_load_ptrN rfl rfl (by decide) rfl rfl (by exact Nat.le_of_ble_eq_true rfl) ?_
          refine mvI rfl ?_
          refine mvS rfl ?_
          refine r_call (b_bounds hp hs hb) rfl rfl rfl rfl rfl ?_
          refine mvT rfl ?_
          refine r_extract rfl rfl ?_
          refine r_extract rfl rfl ?_
          refine asI rfl ?_
          refine asI rfl ?_
          refine r_nil ?_
          refine i_then ?_
          refine t_seq ?_
          refine t_region ?_
          refine r_load_ptrN rfl rfl (by decide) rfl rfl (by exact Nat.le_of_ble_eq_true rfl) ?_
          refine mvI rfl ?_
          refine mvS rfl ?_
          refine r_call (b_bound hp hb) rfl rfl rfl rfl rfl ?_
          refine mvT rfl ?_
          refine r_extract rfl rfl ?_
          refine r_extract rfl rfl ?_
          refine asI rfl ?_
          refine asB rfl ?_
          refine r_nil ?_
          refine i_then ?_
          refine t_seq ?_
          refine t_seq ?_
          refine t_region ?_
          refine mvI rfl ?_
          refine r_bin rfl rfl rfl ?_
          refine mvB rfl ?_
          apply r_guard (s := 121) rfl rfl rfl
          · intro hg; apply opT_of; (refine mvI rfl ?_); refine r_nil ?_; exact rfl
          · exact rfl
          · exact rfl
          apply r_guard (s := 121) rfl rfl rfl
          · intro hg; apply opT_strip (s := 122) rfl (by (rw [hg]; rfl)); apply opT_of; (refine r_bin rfl rfl rfl ?_); refine r_nil ?_; exact rfl
          · exact rfl
          · exact rfl
          refine r_or rfl rfl ?_
          refine mvB rfl ?_
          apply r_guard (s := 125) rfl rfl rfl
          · intro hg; apply opT_of; (refine mvI rfl ?_); refine r_nil ?_; exact rfl
          · exact rfl
          · exact rfl
          apply r_guard (s := 125) rfl rfl rfl
          · intro hg; apply opT_strip (s := 126) rfl (by (rw [hg]; rfl)); apply opT_of; (refine r_bin rfl rfl rfl ?_); refine r_nil ?_; exact rfl
          · exact rfl
          · exact rfl
          refine r_or rfl rfl ?_
          refine mvB rfl ?_
          apply r_guard (s := 129) rfl rfl rfl
          · intro hg; apply opT_of; (refine mvI rfl ?_); refine r_nil ?_; exact rfl
          · exact rfl
          · exact rfl
          apply r_guard (s := 129) rfl rfl rfl
          · intro hg; apply opT_strip (s := 130) rfl (by (rw [hg]; rfl)); apply opT_of; (refine r_bin rfl rfl rfl ?_); refine r_nil ?_; exact rfl
          · exact rfl
          · exact rfl
          refine r_or rfl rfl ?_
          refine mvB rfl ?_
          apply r_guard (s := 133) rfl rfl rfl
          · intro hg; apply opT_of; (refine mvI rfl ?_); refine r_nil ?_; exact rfl
          · exact rfl
          · exact rfl
          apply r_guard (s := 133) rfl rfl rfl
          · intro hg; apply opT_strip (s := 134) rfl (by (rw [hg]; rfl)); apply opT_of; (refine r_bin rfl rfl rfl ?_); refine r_nil ?_; exact rfl
          · exact rfl
          · exact rfl
          refine r_or rfl rfl ?_
          refine mvB rfl ?_
          apply r_guard (s := 137) rfl rfl rfl
          · intro hg; apply opT_of; (refine mvI rfl ?_); refine r_nil ?_; exact rfl
          · exact rfl
          · exact rfl
          apply r_guard (s := 137) rfl rfl rfl
          · intro hg; apply opT_of; (refine mvI rfl ?_); refine r_nil ?_; exact rfl
          · exact rfl
          · exact rfl
          apply r_guard (s := 137) rfl rfl rfl
          · intro hg; apply opT_strip (s := 138) rfl (by (rw [hg]; rfl)); apply opT_strip (s := 139) rfl (by (rw [hg]; rfl)); apply opT_of; (refine r_bin rfl rfl rfl ?_); refine r_nil ?_; exact rfl
          · exact rfl
          · exact rfl
          refine r_or rfl rfl ?_
          refine mvB rfl ?_
          apply r_guard (s := 142) rfl rfl rfl
          · intro hg; apply opT_of; (refine mvB rfl ?_); refine r_nil ?_; exact rfl
          · exact rfl
          · exact rfl
          apply r_guard (s := 142) rfl rfl rfl
          · intro hg; apply opT_strip (s := 143) rfl (by (rw [hg]; rfl)); apply opT_of; (refine r_not rfl ?_); refine r_nil ?_; exact rfl
          · exact rfl
          · exact rfl
          refine r_or rfl rfl ?_
          refine mvB rfl ?_
          apply r_guard (s := 146) rfl rfl rfl
          · intro hg; apply opT_of; (refine mvI rfl ?_); refine r_nil ?_; exact rfl
          · exact rfl
          · exact rfl
          apply r_guard (s := 146) rfl rfl rfl
          · intro hg; apply opT_of; (refine mvI rfl ?_); refine r_nil ?_; exact rfl
          · exact rfl
          · exact rfl
          apply r_guard (s := 146) rfl rfl rfl
          · intro hg; apply opT_strip (s := 147) rfl (by (rw [hg]; rfl)); apply opT_strip (s := 148) rfl (by (rw [hg]; rfl)); apply opT_of; (refine r_bin rfl rfl rfl ?_); refine r_nil ?_; exact rfl
          · exact rfl
          · exact rfl
          refine r_or rfl rfl ?_
          refine mvB rfl ?_
          apply r_guard (s := 151) rfl rfl rfl
          · intro hg; apply opT_of; (refine r_load_ptrN rfl rfl (by decide) rfl rfl (by exact Nat.le_of_ble_eq_true rfl) ?_); refine r_nil ?_; exact rfl
          · exact rfl
          · exact rfl
          apply r_guard (s := 151) rfl rfl rfl
          · intro hg; apply opT_of; (refine mvS rfl ?_); refine r_nil ?_; exact rfl
          · exact rfl
          · exact rfl
          apply r_guard (s := 151) rfl rfl rfl
          · intro hg; apply opT_strip (s := 152) rfl (by (rw [hg]; rfl)); apply opT_strip (s := 153) rfl (by (rw [hg]; rfl)); apply opT_of; (refine r_call (b_allowed hp hb) rfl rfl rfl rfl rfl ?_); refine r_nil ?_; exact rfl
          · exact rfl
          · exact rfl
          apply r_guard (s := 151) rfl rfl rfl
          · intro hg; apply opT_strip (s := 154) rfl (by (rw [hg]; rfl)); apply opT_of; (refine r_not rfl ?_); refine r_nil ?_; exact rfl
          · exact rfl
          · exact rfl
          refine r_or rfl rfl ?_
          refine mvB rfl ?_
          apply r_guard (s := 157) rfl rfl rfl
          · intro hg; apply opT_of; (refine r_load_ptrN rfl rfl (by decide) rfl rfl (by exact Nat.le_of_ble_eq_true rfl) ?_); refine r_nil ?_; exact rfl
          · exact rfl
          · exact rfl
          apply r_guard (s := 157) rfl rfl rfl
          · intro hg; apply opT_of; (refine mvS rfl ?_); refine r_nil ?_; exact rfl
          · exact rfl
          · exact rfl
          apply r_guard (s := 157) rfl rfl rfl
          · intro hg; apply opT_of; (refine mvI rfl ?_); refine r_nil ?_; exact rfl
          · exact rfl
          · exact rfl
          apply r_guard (s := 157) rfl rfl rfl
          · intro hg; apply opT_strip (s := 158) rfl (by (rw [hg]; rfl)); apply opT_strip (s := 159) rfl (by (rw [hg]; rfl)); apply opT_strip (s := 160) rfl (by (rw [hg]; rfl)); apply opT_of; (refine r_call (c_loads5 f hr (worstL f n.1) hto.rng hwl n.1 hb) rfl rfl rfl rfl rfl ?_); refine r_nil ?_; exact rfl
          · exact rfl
          · exact rfl
          apply r_guard (s := 157) rfl rfl rfl
          · intro hg; apply opT_strip (s := 161) rfl (by (rw [hg]; rfl)); apply opT_of; (refine r_call (c_Max_int (loadsO f (worstL f n.1) n.1) (by rw [loadsO_len]; omega)) rfl rfl rfl rfl rfl ?_); refine r_nil ?_; exact rfl
          · exact rfl
          · exact rfl
          apply r_guard (s := 157) rfl rfl rfl
          · intro hg; apply opT_of; (refine mvI rfl ?_); refine r_nil ?_; exact rfl
          · exact rfl
          · exact rfl
          apply r_guard (s := 157) rfl rfl rfl
          · intro hg; apply opT_strip (s := 162) rfl (by (rw [hg]; rfl)); apply opT_strip (s := 163) rfl (by (rw [hg]; rfl)); apply opT_of; (refine r_bin rfl rfl rfl ?_); refine r_nil ?_; exact rfl
          · exact rfl
          · exact rfl
          refine r_or rfl rfl ?_
          refine mvB rfl ?_
          apply r_guard (s := 166) rfl rfl rfl
          · intro hg; apply opT_of; (refine mvS rfl ?_); refine r_nil ?_; exact rfl
          · exact rfl
          · exact rfl
          apply r_guard (s := 166) rfl rfl rfl
          · intro hg; apply opT_of; (refine mvI rfl ?_); refine r_nil ?_; exact rfl
          · exact rfl
          · exact rfl
          apply r_guard (s := 166) rfl rfl rfl
          · intro hg; apply opT_strip (s := 167) rfl (by (rw [hg]; rfl)); apply opT_strip (s := 168) rfl (by (rw [hg]; rfl)); apply opT_of; (refine r_call (c_Contains_int (riskUp f f.bears.length) (n.1 : Nat)) rfl rfl rfl rfl rfl ?_); refine r_nil ?_; exact rfl
          · exact rfl
          · exact rfl
          apply r_guard (s := 166) rfl rfl rfl
          · intro hg; apply opT_of; (refine mvI rfl ?_); refine r_nil ?_; exact rfl
          · exact rfl
          · exact rfl
          apply r_guard (s := 166) rfl rfl rfl
          · intro hg; apply opT_of; (refine mvI rfl ?_); refine r_nil ?_; exact rfl
          · exact rfl
          · exact rfl
          apply r_guard (s := 166) rfl rfl rfl
          · intro hg; apply opT_strip (s := 170) rfl (by (rw [hg]; rfl)); apply opT_strip (s := 171) rfl (by (rw [hg]; rfl)); apply opT_of; (refine r_bin rfl rfl rfl ?_); refine r_nil ?_; exact rfl
          · exact rfl
          · exact rfl
          apply r_guard (s := 166) rfl rfl rfl
          · intro hg; apply opT_strip (s := 169) rfl (by (rw [hg]; rfl)); apply opT_strip (s := 172) rfl (by (rw [hg]; rfl)); apply opT_of; (refine r_neq_B und4 rfl rfl ?_); refine r_nil ?_; exact rfl
          · exact rfl
          · exact rfl
          refine r_or rfl rfl ?_
          refine r_nil ?_
          refine i_then ?_
          refine t_cond_ff rfl (by rw [worst_max hp hb, show decide (((n.1 : Nat) : Int) ∈ riskUp f f.bears.length) = decide (nth f.bears n.1 < heavyV f n.1) from decide_eq_decide.2 (risk_mem hb)]; simp) ?_
          refine t_skip ?_
          refine i_then ?_
          refine t_seq ?_
          refine t_seq ?_
          refine t_region ?_
          refine mvS rfl ?_
          refine r_len rfl rfl rfl ?_
          refine mvI rfl ?_
          refine r_nil ?_
          refine i_then ?_
          refine t_block ?_
          refine t_loop (fun (k : {k : Nat // k ≤ (membersM (topS f n.1)).length}) => live [(5, Ty.ptr 6 0), (6, Ty.sl I64 (riskUp f f.bears.length)), (9, Ty.row RowE 22 72 (ordT f t 6)), (10, Ty.int .i64 (n.1 : Nat)), (11, Ty.int .i64 (nth f.bears n.1)), (12, Ty.int .i64 (heavyV f n.1)), (14, Ty.sl I64 (membersM (topS f n.1))), (16, Ty.sl I64 (worstL f n.1)), (74, Ty.sl I64 f.bears), (75, Ty.int .i64 f.bears.length), (76, Ty.int .i64 (n.1 : Nat)), (175, Ty.sl I64 (membersM (topS f n.1))), (176, Ty.int .i64 (membersM (topS f n.1)).length), (177, Ty.int .i64 (k.1 : Nat))] [(6, Cont.cells 27 (flrTys f))]) (fun k => (membersM (topS f n.1)).length - k.1) (⟨0, by omega⟩) ?_ fun k => ?_
          · (refine Ent.mk' ?_ ?_ <;> (repeat' (first | exact allSub_zero | exact allTags_nil | refine allSub_succ' ?_ (Ty.sub_any _) | refine allSub_succ' ?_ (Ty.sub_refl _) | refine allTags_cons rfl (Cont.sub_refl _) ?_)))
          ·
            have hk := k.2
            refine t_seq ?_
            refine t_region ?_
            refine r_bin rfl rfl rfl ?_
            refine r_nil ?_
            refine i_then ?_
            refine t_seq ?_
            refine t_cond_dec rfl (fun hc5 => ?_) (fun hc5 => ?_)
            ·
              refine t_skip ?_
              refine i_then ?_
              refine t_seq ?_
              refine t_block ?_
              refine t_seq ?_
              refine t_region ?_
              refine mvI rfl ?_
              refine r_index_slN rfl rfl rfl rfl rfl rfl (by omega) ?_
              refine r_load_pp rfl rfl rfl rfl ?_
              refine asI rfl ?_
              refine asI rfl ?_
              refine r_nil ?_
              refine i_then ?_
              refine t_seq ?_
              refine t_seq ?_
              have hxr := hrm.rng _ (nth_mem (xs := membersM (topS f n.1)) (k := k.1) (by omega))
              refine t_region ?_
              refine mvI rfl ?_
              refine r_bin rfl rfl rfl ?_
              refine mvB rfl ?_
              apply r_guard (s := 184) rfl rfl rfl
              · intro hg; apply opT_of; (refine mvI rfl ?_); refine r_nil ?_; exact rfl
              · exact rfl
              · exact rfl
              apply r_guard (s := 184) rfl rfl rfl
              · intro hg; apply opT_of; (refine r_field_ptr rfl rfl rfl rfl rfl (by decide) ?_); refine r_nil ?_; exact rfl
              · exact rfl
              · exact rfl
              apply r_guard (s := 184) rfl rfl rfl
              · intro hg; apply opT_strip (s := 186) rfl (by (rw [hg]; rfl)); apply opT_of; (refine r_load_ptr rfl rfl (by decide) rfl rfl rfl ?_); refine r_nil ?_; exact rfl
              · exact rfl
              · exact rfl
              apply r_guard (s := 184) rfl rfl rfl
              · intro hg; apply opT_strip (s := 187) rfl (by (rw [hg]; rfl)); apply opT_of; (refine r_len rfl rfl rfl ?_); refine r_nil ?_; exact rfl
              · exact rfl
              · exact rfl
              apply r_guard (s := 184) rfl rfl rfl
              · intro hg; apply opT_strip (s := 185) rfl (by (rw [hg]; rfl)); apply opT_strip (s := 188) rfl (by (rw [hg]; rfl)); apply opT_of; (refine r_bin rfl rfl rfl ?_); refine r_nil ?_; exact rfl
              · exact rfl
              · exact rfl
              refine r_or rfl rfl ?_
              refine mvB rfl ?_
              apply r_guard (s := 191) rfl rfl rfl
              · intro hg; apply opT_of; (refine mvI rfl ?_); refine r_nil ?_; exact rfl
              · exact rfl
              · exact rfl
              apply r_guard (s := 191) rfl rfl rfl
              · intro hg; apply opT_strip (s := 192) rfl (by (rw [hg]; rfl)); apply opT_of; (refine r_bin rfl rfl rfl ?_); refine r_nil ?_; exact rfl
              · exact rfl
              · exact rfl
              apply r_guard (s := 191) rfl rfl rfl
              · intro hg; apply opT_strip (s := 193) rfl (by (rw [hg]; rfl)); apply opT_of; (refine mvB rfl ?_); refine r_nil ?_; exact rfl
              · exact rfl
              · exact rfl
              apply r_guardG (s := 194) rfl rfl rfl
              · intro hg1 hg2; apply opT_of; (refine mvI rfl ?_); refine r_nil ?_; exact rfl
              · exact rfl
              · exact rfl
              apply r_guardG (s := 194) rfl rfl rfl
              · intro hg1 hg2; apply opT_of; (refine mvS rfl ?_); refine r_nil ?_; exact rfl
              · exact rfl
              · exact rfl
              apply r_guardG (s := 194) rfl rfl rfl
              · intro hg1 hg2; apply opT_of; (refine mvI rfl ?_); refine r_nil ?_; exact rfl
              · exact rfl
              · exact rfl
              apply r_guardG (s := 194) rfl rfl rfl
              · intro hg1 hg2; apply opT_strip (s := 197) rfl (by (rw [hg1, hg2]; rfl)); apply opT_of; (refine r_sub rfl rfl (by omega) (by omega) ?_); refine r_nil ?_; exact rfl
              · exact rfl
              · exact rfl
              apply r_guardG (s := 194) rfl rfl rfl
              · intro hg1 hg2; apply opT_strip (s := 196) rfl (by (rw [hg1, hg2]; rfl)); apply opT_strip (s := 198) rfl (by (rw [hg1, hg2]; rfl)); apply opT_of; (refine r_index_sl rfl rfl rfl rfl rfl rfl (by have := of_decide_eq_true hg2; omega) (by have := of_decide_eq_true hg2; omega) ?_); refine r_nil ?_; exact rfl
              · exact rfl
              · exact rfl
              apply r_guardG (s := 194) rfl rfl rfl
              · intro hg1 hg2; apply opT_strip (s := 199) rfl (by (rw [hg1, hg2]; rfl)); apply opT_of; (refine r_load_pp rfl rfl rfl rfl ?_); refine r_nil ?_; exact rfl
              · exact rfl
              · exact rfl
              apply r_guardG (s := 194) rfl rfl rfl
              · intro hg1 hg2; apply opT_strip (s := 195) rfl (by (rw [hg1, hg2]; rfl)); apply opT_strip (s := 200) rfl (by (rw [hg1, hg2]; rfl)); apply opT_of; (refine r_bin rfl rfl rfl ?_); refine r_nil ?_; exact rfl
              · exact rfl
              · exact rfl
              apply r_guard (s := 191) rfl rfl rfl
              · intro hg; apply opT_strip (s := 194) rfl (by (rw [hg]; rfl)); apply opT_stripG (s := 201) rfl (by (rw [hg]; rfl)); apply opT_of; (refine r_and rfl rfl ?_); refine r_nil ?_; exact rfl
              · exact rfl
              · exact rfl
              refine r_or rfl rfl ?_
              refine r_nil ?_
              refine i_then ?_
              refine t_cond_ff rfl (set_cut (inc_members _) hxr (by omega)) ?_
              refine t_skip ?_
              refine i_then ?_
              refine t_seq ?_
              refine t_region ?_
              refine r_field_ptr rfl rfl rfl rfl rfl (by decide) ?_
              refine r_load_ptr rfl rfl (by decide) rfl rfl rfl ?_
              refine r_len rfl rfl rfl ?_
              refine mvI rfl ?_
              refine r_nil ?_
              refine i_then ?_
              refine t_block ?_
              refine t_loop (fun (a : {a : Nat // a ≤ f.turnings.length}) => live [(5, Ty.ptr 6 0), (6, Ty.sl I64 (riskUp f f.bears.length)), (9, Ty.row RowE 22 72 (ordT f t 6)), (10, Ty.int .i64 (n.1 : Nat)), (11, Ty.int .i64 (nth f.bears n.1)), (12, Ty.int .i64 (heavyV f n.1)), (14, Ty.sl I64 (membersM (topS f n.1))), (16, Ty.sl I64 (worstL f n.1)), (25, Ty.int .i64 (nth (membersM (topS f n.1)) k.1)), (74, Ty.sl I64 f.bears), (75, Ty.int .i64 f.bears.length), (76, Ty.int .i64 (n.1 : Nat)), (175, Ty.sl I64 (membersM (topS f n.1))), (176, Ty.int .i64 (membersM (topS f n.1)).length), (177, Ty.int .i64 (k.1 : Nat)), (206, Ty.int .i64 f.turnings.length), (207, Ty.int .i64 (a.1 : Nat))] [(6, Cont.cells 27 (flrTys f))]) (fun a => f.turnings.length - a.1) (⟨0, by omega⟩) ?_ fun a => ?_
              · (refine Ent.mk' ?_ ?_ <;> (repeat' (first | exact allSub_zero | exact allTags_nil | refine allSub_succ' ?_ (Ty.sub_any _) | refine allSub_succ' ?_ (Ty.sub_refl _) | refine allTags_cons rfl (Cont.sub_refl _) ?_)))
              ·
                have ha := a.2
                refine t_seq ?_
                refine t_region ?_
                refine r_bin rfl rfl rfl ?_
                refine r_nil ?_
                refine i_then ?_
                refine t_seq ?_
                refine t_cond_dec rfl (fun hc7 => ?_) (fun hc7 => ?_)
                ·
                  refine t_skip ?_
                  refine i_then ?_
                  refine t_seq ?_
                  refine t_block ?_
                  refine t_seq ?_
                  refine t_region ?_
                  refine mvI rfl ?_
                  refine asI rfl ?_
                  refine r_nil ?_
                  refine i_then ?_
                  refine t_seq ?_
                  refine t_region ?_
                  refine r_load_ptrN rfl rfl (by decide) rfl rfl (by exact Nat.le_of_ble_eq_true rfl) ?_
                  refine mvI rfl ?_
                  refine mvI rfl ?_
                  refine r_call (c_ahead5 f hr (a.1 : Nat) (nth (membersM (topS f n.1)) k.1) (by omega) (by omega)) rfl rfl rfl rfl rfl ?_
                  refine mvB rfl ?_
                  apply r_guard (s := 214) rfl rfl rfl
                  · intro hg; apply opT_of; (refine mvS rfl ?_); refine r_nil ?_; exact rfl
                  · exact rfl
                  · exact rfl
                  apply r_guard (s := 214) rfl rfl rfl
                  · intro hg; apply opT_of; (refine mvI rfl ?_); refine r_nil ?_; exact rfl
                  · exact rfl
                  · exact rfl
                  apply r_guard (s := 214) rfl rfl rfl
                  · intro hg; apply opT_strip (s := 215) rfl (by (rw [hg]; rfl)); apply opT_strip (s := 216) rfl (by (rw [hg]; rfl)); apply opT_of; (refine r_call (c_Contains_int (membersM (topS f n.1)) (a.1 : Nat)) rfl rfl rfl rfl rfl ?_); refine r_nil ?_; exact rfl
                  · exact rfl
                  · exact rfl
                  apply r_guard (s := 214) rfl rfl rfl
                  · intro hg; apply opT_strip (s := 217) rfl (by (rw [hg]; rfl)); apply opT_of; (refine r_not rfl ?_); refine r_nil ?_; exact rfl
                  · exact rfl
                  · exact rfl
                  refine r_and rfl rfl ?_
                  refine r_nil ?_
                  refine i_then ?_
                  refine t_cond_ff rfl (bear_cut hp hb (nth_mem (xs := membersM (topS f n.1)) (k := k.1) (by omega))) ?_
                  refine t_skip ?_
                  refine i_block ?_
                  refine i_then ?_
                  refine t_region ?_
                  refine r_add rfl rfl (by omega) (by omega) ?_
                  refine mvI rfl ?_
                  refine r_nil ?_
                  refine i_round (⟨a.1 + 1, by omega⟩) ?_ (by show f.turnings.length - (a.1 + 1) < f.turnings.length - a.1; omega)
                  (refine Ent.mk' ?_ ?_ <;> (repeat' (first | exact allSub_zero | exact allTags_nil | refine allSub_succ' ?_ (Ty.sub_any _) | refine allSub_succ' ?_ (Ty.sub_refl _) | refine allTags_cons rfl (Cont.sub_refl _) ?_)))
                  all_goals skip
                ·
                  refine t_exit ?_
                  refine i_then_exit ?_
                  refine i_then_exit ?_
                  refine i_block_exit rfl ?_
                  refine i_block ?_
                  refine i_then ?_
                  refine t_region ?_
                  refine r_add rfl rfl (by omega) (by omega) ?_
                  refine mvI rfl ?_
                  refine r_nil ?_
                  refine i_round (⟨k.1 + 1, by omega⟩) ?_ (by show (membersM (topS f n.1)).length - (k.1 + 1) < (membersM (topS f n.1)).length - k.1; omega)
                  (refine Ent.mk' ?_ ?_ <;> (repeat' (first | exact allSub_zero | exact allTags_nil | refine allSub_succ' ?_ (Ty.sub_any _) | refine allSub_succ' ?_ (Ty.sub_refl _) | refine allTags_cons rfl (Cont.sub_refl _) ?_)))
                  all_goals skip
            ·
              refine t_exit ?_
              refine i_then_exit ?_
              refine i_then_exit ?_
              refine i_block_exit rfl ?_
              refine i_then ?_
              refine t_seq ?_
              refine t_seq ?_
              refine t_region ?_
              refine r_load_ptrN rfl rfl (by decide) rfl rfl (by exact Nat.le_of_ble_eq_true rfl) ?_
              refine mvS rfl ?_
              refine mvI rfl ?_
              refine r_call (c_loads5 f hr (membersM (topS f n.1)) hrm.rng (by omega) n.1 hb) rfl rfl rfl rfl rfl ?_
              refine asS rfl ?_
              refine r_nil ?_
              refine i_then ?_
              refine t_seq ?_
              refine t_region ?_
              refine mvS rfl ?_
              refine mvS rfl ?_
              refine r_len rfl rfl rfl ?_
              refine r_index_slN rfl rfl rfl rfl rfl rfl (by rw [loadsO_len]; omega) ?_
              refine r_load_pp rfl rfl rfl rfl ?_
              refine mvI rfl ?_
              refine r_bin rfl rfl rfl ?_
              refine r_nil ?_
              refine i_then ?_
              refine t_cond_ff rfl (by rw [loadsO_nth f n.1 (Nat.le_refl _), heavy_load hp hb]; simp) ?_
              refine t_skip ?_
              refine i_then ?_
              refine t_seq ?_
              refine t_seq ?_
              refine t_region ?_
              refine mvR rfl ?_
              refine r_len_row rfl rfl rfl ?_
              refine mvI rfl ?_
              refine r_nil ?_
              refine i_then ?_
              refine t_block ?_
              refine t_loop (fun (k : {k : Nat // k ≤ 6}) => live [(5, Ty.ptr 6 0), (6, Ty.sl I64 (riskUp f f.bears.length)), (9, Ty.row RowE 22 72 (ordT f t 6)), (10, Ty.int .i64 (n.1 : Nat)), (11, Ty.int .i64 (nth f.bears n.1)), (12, Ty.int .i64 (heavyV f n.1)), (16, Ty.sl I64 (worstL f n.1)), (74, Ty.sl I64 f.bears), (75, Ty.int .i64 f.bears.length), (76, Ty.int .i64 (n.1 : Nat)), (233, Ty.row RowE 22 72 (ordT f t 6)), (234, Ty.int .i64 6), (235, Ty.int .i64 (k.1 : Nat))] [(6, Cont.cells 27 (flrTys f))]) (fun k => 6 - k.1) (⟨0, by omega⟩) ?_ fun k => ?_
              · (refine Ent.mk' ?_ ?_ <;> (repeat' (first | exact allSub_zero | exact allTags_nil | refine allSub_succ' ?_ (Ty.sub_any _) | refine allSub_succ' ?_ (Ty.sub_refl _) | refine allTags_cons rfl (Cont.sub_refl _) ?_ | refine allSub_succ' ?_ ?_)))
                all_goals exact Ty.sub_int (by rw [ordT_len]; rfl)
              ·
                have hk := k.2
                refine t_seq ?_
                refine t_region ?_
                refine r_bin rfl rfl rfl ?_
                refine r_nil ?_
                refine i_then ?_
                refine t_seq ?_
                refine t_cond_dec rfl (fun hc10 => ?_) (fun hc10 => ?_)
                ·
                  refine t_skip ?_
                  refine i_then ?_
                  refine t_seq ?_
                  refine t_block ?_
                  refine t_seq ?_
                  refine t_region ?_
                  refine r_index_rowN rfl rfl rfl rfl rfl rfl (by omega) ?_
                  refine r_load_op rfl rfl rfl rfl ?_
                  refine asS rfl ?_
                  refine r_nil ?_
                  refine i_then ?_
                  refine t_seq ?_
                  have hlo := tryO_right hp (skFill t) k.1
                  have hta := answers hp hlo
                  have htl := small_len hta hp
                  refine t_as (s := 29) rfl (Ty.sub_sl (ordT_nth f t (show k.1 < 6 by omega))) ?_
                  refine t_region ?_
                  refine r_load_ptrN rfl rfl (by decide) rfl rfl (by exact Nat.le_of_ble_eq_true rfl) ?_
                  refine mvS rfl ?_
                  refine mvI rfl ?_
                  refine r_call (c_loads5 f hr (tryO f (skFill t) k.1) hta.rng htl n.1 hb) rfl rfl rfl rfl rfl ?_
                  refine r_call (c_Max_int (loadsO f (tryO f (skFill t) k.1) n.1) (by rw [loadsO_len]; omega)) rfl rfl rfl rfl rfl ?_
                  refine mvI rfl ?_
                  refine r_bin rfl rfl rfl ?_
                  refine r_nil ?_
                  refine i_then ?_
                  refine t_cond_ff rfl (decide_eq_false (by have := order_le hp hb hlo; omega)) ?_
                  refine t_skip ?_
                  refine i_block ?_
                  refine i_then ?_
                  refine t_region ?_
                  refine r_add rfl rfl (by omega) (by omega) ?_
                  refine mvI rfl ?_
                  refine r_nil ?_
                  refine i_round (⟨k.1 + 1, by omega⟩) ?_ (by show 6 - (k.1 + 1) < 6 - k.1; omega)
                  (refine Ent.mk' ?_ ?_ <;> (repeat' (first | exact allSub_zero | exact allTags_nil | refine allSub_succ' ?_ (Ty.sub_any _) | refine allSub_succ' ?_ (Ty.sub_refl _) | refine allTags_cons rfl (Cont.sub_refl _) ?_)))
                  all_goals skip
                ·
                  refine t_exit ?_
                  refine i_then_exit ?_
                  refine i_then_exit ?_
                  refine i_block_exit rfl ?_
                  refine i_then ?_
                  refine t_seq ?_
                  refine t_region ?_
                  refine r_load_ptrN rfl rfl (by decide) rfl rfl (by exact Nat.le_of_ble_eq_true rfl) ?_
                  refine mvS rfl ?_
                  refine r_call (c_Breaks f hs (worstL f n.1) hwl) rfl rfl rfl rfl rfl ?_
                  refine mvT rfl ?_
                  refine r_extract rfl rfl ?_
                  refine r_extract rfl rfl ?_
                  refine r_extract rfl rfl ?_
                  refine asI rfl ?_
                  refine asI rfl ?_
                  refine asI rfl ?_
                  refine r_nil ?_
                  refine i_then ?_
                  refine t_seq ?_
                  refine t_region ?_
                  refine mvI rfl ?_
                  refine mvI rfl ?_
                  refine r_bin rfl rfl rfl ?_
                  refine mvB rfl ?_
                  apply r_guard (s := 257) rfl rfl rfl
                  · intro hg; apply opT_of; (refine mvI rfl ?_); refine r_nil ?_; exact rfl
                  · exact rfl
                  · exact rfl
                  apply r_guard (s := 257) rfl rfl rfl
                  · intro hg; apply opT_strip (s := 258) rfl (by (rw [hg]; rfl)); apply opT_of; (refine r_bin rfl rfl rfl ?_); refine r_nil ?_; exact rfl
                  · exact rfl
                  · exact rfl
                  refine r_and rfl rfl ?_
                  refine r_nil ?_
                  refine i_then ?_
                  refine t_cond_ff rfl (brk_cut hp hb) ?_
                  refine t_skip ?_
                  refine i_block ?_
                  refine i_then ?_
                  refine t_region ?_
                  refine r_add rfl rfl (by omega) (by omega) ?_
                  refine mvI rfl ?_
                  refine r_nil ?_
                  refine i_round (⟨n.1 + 1, by omega⟩) ?_ (by show f.bears.length - (n.1 + 1) < f.bears.length - n.1; omega)
                  (refine Ent.mk' ?_ ?_ <;> (repeat' (first | exact allSub_zero | exact allTags_nil | refine allSub_succ' ?_ (Ty.sub_any _) | refine allSub_succ' ?_ (Ty.sub_refl _) | refine allTags_cons rfl (Cont.sub_refl _) ?_)))
                  all_goals skip
        ·
          refine t_exit ?_
          refine i_then_exit ?_
          refine i_then_exit ?_
          refine i_block_exit rfl ?_
          refine i_then ?_
          refine t_seq ?_
          refine t_region ?_
          refine mvS rfl ?_
          refine r_len rfl rfl rfl ?_
          refine r_field_ptr rfl rfl rfl rfl rfl (by decide) ?_
          refine r_load_ptr rfl rfl (by decide) rfl rfl rfl ?_
          refine r_len rfl rfl rfl ?_
          refine r_bin rfl rfl rfl ?_
          refine mvB rfl ?_
          apply r_guard (s := 268) rfl rfl rfl
          · intro hg; apply opT_of; (refine r_call (c_awake) rfl rfl rfl rfl rfl ?_); refine r_nil ?_; exact rfl
          · exact rfl
          · exact rfl
          refine r_and rfl rfl ?_
          refine asB rfl ?_
          refine r_nil ?_
          refine i_then ?_
          refine t_ret ?_
          refine i_rp1 rfl rfl ?_
          all_goals skip
          all_goals exact ret_eq rfl rfl (congrArg Ty.bool (by rw [decide_eq_true (show ((riskUp f f.bears.length).length : Int) ≤ f.bears.length by omega)]; rfl))
end Go.Proofs.YtifgbnbkimcchaaGreat

namespace Go.T
open Go Go.RowKit Go.ChangeShapes Go.WideShapes Go.ChangeAt
def pubs : Tags := fun _ => none
theorem wf_pubs (w : World) : Wf w pubs := ⟨fun _ _ h => (by cases h), fun _ _ _ h => (by cases h)⟩
theorem pubs_zero : ∀ b t, pubs b = some t → t = 0 := fun _ _ h => by cases h
structure Rd {α : Type} (P : Program) (e : TypeId) (E : El α) : Prop where
  size : P.cellsOf e = E.size
  pos : 0 < E.size
  rd : ∀ {H : Type} {enc : TypeId × Value → H} {w : World} {base : Nat} {held : Bool} {n : Nat} {cs : List Value} {y : DataW H × List MemPlace}, DataW.trod enc P w base (fun _ => true) held n e cs = some y → ∃ x, dens w pubs (E.tys x) cs
section
variable {H : Type} {enc : TypeId × Value → H} {P : Program} {w : World} {base : Nat} {held : Bool} {α : Type} {E : El α} {t e : TypeId} {n : Nat} {cs : List Value} {y : DataW H × List MemPlace}
theorem rd_sl (hR : Rd P e E) (ht : P.underlying t = some (.slice e)) (h : DataW.trod enc P w base (fun _ => true) held n t cs = some y) : ∃ v xs, cs = [v] ∧ (Ty.sl E xs).den w pubs v := by
  rcases Go.Deep.open_slice ht h with ⟨rfl, _⟩ | ⟨a, len, cap, m, k, D, Pl, rfl, _, hl, hm, hmm, _, hel⟩
  · exact ⟨_, [], rfl, none, 0, rfl, Nat.le_refl _, Nat.zero_le _, fun h => absurd h (Nat.lt_irrefl _)⟩
  have hlm : len ≤ m := by rw [hmm]; simpa using hl
  have hX : ∀ i : Fin len, ∃ x : α, ∃ cs', w.cells? base (a.add (i.1 * P.cellsOf e)) (P.cellsOf e) = some cs' ∧ dens w pubs (E.tys x) cs' := fun i => by
    obtain ⟨cs', h1, h2⟩ := hel i.1 (Nat.lt_of_lt_of_le i.2 hlm)
    obtain ⟨x, hx⟩ := hR.rd h2
    exact ⟨x, cs', h1, hx⟩
  let X : Fin len → α := fun i => (hX i).choose
  have hXs : ∀ i : Fin len, ∃ cs', w.cells? base (a.add (i.1 * P.cellsOf e)) (P.cellsOf e) = some cs' ∧ dens w pubs (E.tys (X i)) cs' := fun i => (hX i).choose_spec
  have hlen : (List.ofFn X).length = len := by simp
  refine ⟨_, List.ofFn X, rfl, some a, cap, by rw [hlen], by rw [hlen]; exact hl, hm, fun h0 => ?_⟩
  rw [hlen] at h0
  have hcell : ∀ (i : Fin len) (j : Nat) (u : Ty), (E.tys (X i))[j]? = some u → ∃ v, w.cell? (a.add (i.1 * E.size + j)) = some v ∧ u.den w pubs v := fun i j u hu => by
    obtain ⟨cs', h1, h2⟩ := hXs i
    obtain ⟨v, hv, hd⟩ := dens_get h2 j u hu
    obtain ⟨_, g1, g2⟩ := World.cells?_some h1
    have hj : j < P.cellsOf e := by
      rw [hR.size, ← E.len (X i)]
      exact (List.getElem?_eq_some_iff.1 hu).1
    refine ⟨v, ?_, hd⟩
    have := g2 j hj
    rw [Go.Deep.add_add, hv, hR.size] at this
    exact this
  have hsz := hR.pos
  have hfirst : ∃ v, w.cell? (a.add 0) = some v := by
    obtain ⟨u, hu⟩ : ∃ u, (E.tys (X ⟨0, h0⟩))[0]? = some u := ⟨_, List.getElem?_eq_getElem (by rw [E.len]; exact hsz)⟩
    obtain ⟨v, hv, _⟩ := hcell ⟨0, h0⟩ 0 u hu
    exact ⟨v, by simpa using hv⟩
  obtain ⟨b, off, sp⟩ := a
  obtain ⟨v0, hv0⟩ := hfirst
  have hsp : sp = none := by simpa [Addr.add] using World.cell?_spot hv0
  subst hsp
  have hb : b < w.heap.size := by
    obtain ⟨cs', h1, _⟩ := hXs ⟨0, h0⟩
    have := World.cells?_block h1 (by rw [hR.size]; exact hsz)
    simpa [Addr.add] using this
  refine ⟨b, off, rfl, rfl, hb, fun i u hu => ?_⟩
  have hi : i < len * E.size := by
    have := (List.getElem?_eq_some_iff.1 hu).1
    rw [flat_len, hlen] at this; exact this
  have hk : i / E.size < len := Nat.div_lt_of_lt_mul (by rw [Nat.mul_comm]; exact hi)
  have hj : i % E.size < E.size := Nat.mod_lt _ hsz
  have hij : i / E.size * E.size + i % E.size = i := by rw [Nat.mul_comm]; exact Nat.div_add_mod i E.size
  have hu2 := hu
  rw [← hij, flat_get E _ _ _ (by rw [hlen]; exact hk) hj, List.getElem?_ofFn, dif_pos hk] at hu2
  obtain ⟨v, hv, hd⟩ := hcell ⟨i / E.size, hk⟩ (i % E.size) u hu2
  refine ⟨v, ?_, hd⟩
  rw [← Go.WideShapes.add_plain]
  rw [hij] at hv
  exact hv
theorem rd_sl1 {c : Value} (hR : Rd P e E) (ht : P.underlying t = some (.slice e)) (h : DataW.trod enc P w base (fun _ => true) held n t [c] = some y) : ∃ xs, (Ty.sl E xs).den w pubs c := by
  obtain ⟨v, xs, e, hd⟩ := rd_sl hR ht h
  exact ⟨xs, by rw [show c = v by simpa using e]; exact hd⟩
end
section
variable {w w' : World} {S K : Nat → Prop} {M' : Tags}
theorem le_block (le : Le S K w pubs w' M') {b : Nat} (hb : b < w.heap.size) : w'.heap[b]? = w.heap[b]? := (le.pub b hb rfl).2
theorem le_same (le : Le S K w pubs w' M') {p : MemPlace} (hp : p.block < w.heap.size) : w.sameAt w' p := by
  cases p with
  | cell b o => exact World.cell?_of_block (w := w) (le_block le hp)
  | map b => exact le_block le hp
theorem le_kept (le : Le S K w pubs w' M') (may : MemPlace → Prop) : w.keptBut w' may := by
  refine ⟨le.os, le.out, fun i hi => ?_⟩
  have e := le_block le hi
  rw [e]
  split
  · rename_i h1 h2
    rw [h1] at h2
    simp only [Option.some.injEq, Obj.cells.injEq] at h2
    obtain ⟨rfl, rfl, rfl⟩ := h2
    exact ⟨rfl, rfl, rfl, fun _ _ => rfl⟩
  · rename_i h1 h2
    rw [h1] at h2
    simp only [Option.some.injEq, Obj.map.injEq] at h2
    exact Or.inr ⟨h2.1.symm, h2.2.symm⟩
  · rfl
theorem le_frozen (le : Le S K w pubs w' M') {a : Addr} (ha : a.block < w.heap.size) : w'.frozen? a = w.frozen? a := by
  unfold World.frozen?
  rw [le_block le ha]
end
section
variable {H : Type} {enc : TypeId × Value → H} {P : Program}
theorem trodAll_stays (hl : laidOutB P = true) {w w' : World} {sp : Nat → Bool} : ∀ {ts : List TypeId} {vs : List Value} {ds : List (DataW H)} {ps : List MemPlace}, (∀ t ∈ ts, P.readableRec t = true ∧ t < P.types.size) →
    DataW.TrodAll enc P w 0 (fun _ => true) true ts vs ds ps → (∀ p ∈ ps, w.sameAt w' p) → (∀ p ∈ ps, sp p.block = true) → DataW.TrodAll enc P w' 0 sp true ts vs ds ps
  | [], [], [], _, _, h, _, _ => h
  | t :: ts, v :: vs, d :: ds, _, ht, ⟨p, q, h1, h2, e⟩, hs, hsp => by
    subst e
    have h0 := ht t List.mem_cons_self
    exact ⟨p, q, Go.WideElems.Trod_stays hl h0.1 h0.2 h1 (fun x hx => hs x (List.mem_append_left _ hx)) (fun x hx => hsp x (List.mem_append_left _ hx)),
      trodAll_stays hl (fun t h => ht t (List.mem_cons_of_mem _ h)) h2 (fun x hx => hs x (List.mem_append_right _ hx)) (fun x hx => hsp x (List.mem_append_right _ hx)), rfl⟩
theorem post_true {f : Func} {s : ChangeSpec} {apart fresh handsOn again : Bool} {W W' : World} {args : Array Value} {ds : List (DataW H)} {before : List MemPlace} {S K : Nat → Prop} {M' : Tags}
    (hl : laidOutB P = true) (hv : s.vars = []) (hrd : ∀ t ∈ f.params.toList, P.readableRec t = true ∧ t < P.types.size) {tb : TypeId} (htb : P.underlying tb = some .bool) (hrt : f.resultTypes = #[tb])
    (hW : DataW.Whole enc P f.params.toList s.vars apart W args.toList ds [] before) (hres : (s.fn H (ds ++ [])).results = [.lit (.bool true)]) (hargs : (s.fn H (ds ++ [])).args = ds) (hvars : (s.fn H (ds ++ [])).vars = [])
    (le : Le S K W pubs W' M') : s.post enc P f apart fresh handsOn again W args (.bool true) W' := by
  have hW0 := hW
  obtain ⟨p, q, hA, hV, hb, hfz, hn⟩ := hW0
  have hlt := DataW.TrodAll.lt hA
  have hq : q = [] := by rw [hv] at hV; exact (trodVars_none hV).2
  subst hq
  have hbp : before = p := by rw [hb]; simp
  have hre : ∀ (b : Nat) (sp : Nat → Bool) (hd : Bool), DataW.TrodAll enc P W' b sp hd f.resultTypes.toList ((Value.bool true).resultList f.resultTypes.size) (s.fn H (ds ++ [])).results [] := fun b sp hd => by
    rw [hrt, hres]; exact trodAll_mk1 (shut_bool htb true)
  have har : ∀ sp : Nat → Bool, (∀ x ∈ p, sp x.block = true) → DataW.TrodAll enc P W' 0 sp true f.params.toList args.toList (s.fn H (ds ++ [])).args p := fun sp hsp => by
    rw [hargs]; exact trodAll_stays hl hrd hA (fun x hx => le_same le (hlt x hx)) hsp
  have hva : ∀ sp : Nat → Bool, DataW.TrodVars enc P W' sp s.vars (s.fn H (ds ++ [])).vars [] := fun sp => by
    rw [hvars, hv]; exact rfl
  have hok : ∀ (j : Nat) (t : TypeId) (r : Value), f.resultTypes[j]? = some t → ((Value.bool true).resultList f.resultTypes.size)[j]? = some r → Value.okWide P W' .any 0 t r := by
    exact ok_one (by rw [hrt]) rfl (okWide_bool_mk htb true)
  refine ⟨ds, [], before, [], p, [], hW, hre _ _ _, har _ (fun x hx => by simpa using hlt x hx), hva _, World.keptBut_mono (fun x hx => hx) (le_kept le _), fun _ => ?_⟩
  refine ⟨hok, _, _, ([] ++ p) ++ [], ⟨[] ++ p, [], trodAll_append (har _ (fun _ _ => rfl)) (hre _ _ _), hva _, rfl, ?_, ?_⟩, ?_⟩
  · intro b off hp
    have hp' : MemPlace.cell b off ∈ p := by simpa using hp
    rw [le_frozen le (hlt _ hp')]
    exact hfz b off (by rw [hbp]; exact hp')
  · intro ha
    have := hn ha
    rw [hbp] at this
    simpa using this
  · intro x hx _
    rw [hbp]
    simpa using hx
end
end Go.T

namespace Go.Proofs.YtifgbnbkimcchaaGreat
open Go Go.T Go.RowKit Go.ChangeShapes Go.WideShapes Go.ChangeAt
section
variable {H : Type} {enc : TypeId × Value → H} {W : World} {base : Nat} {held : Bool} {v : Value} {d : DataW H} {p : List MemPlace}
end
end Go.Proofs.YtifgbnbkimcchaaGreat

namespace Go.Proofs.YtifgbnbkimcchaaGreat
open Go Go.T Go.RowKit Go.ChangeShapes Go.WideShapes Go.ChangeAt
theorem rdU8 : Rd Tryz.prog 5 U8 := ⟨by kernel_rfl, by decide, fun h => by
  obtain ⟨i, rfl, _⟩ := DataW.trod_int Tryz.underlying5 h
  exact ⟨i, rfl, trivial⟩⟩
section
variable {H : Type} {enc : TypeId × Value → H} {W : World} {base : Nat} {held : Bool} {v : Value} {d : DataW H} {p : List MemPlace}
set_option maxRecDepth 100000 in
theorem rd_bytes (hv : Value.okWide Tryz.prog W .any base 79 v) (h : DataW.Trod enc Tryz.prog W 0 (fun _ => true) held 79 v d p) : ∃ l, (Ty.sl U8 l).den W pubs v := by
  obtain ⟨a, len, cap, rfl⟩ := okWide_slice Tryz.underlying79 hv
  obtain ⟨n, hn⟩ := h
  exact rd_sl1 rdU8 Tryz.underlying79 (by simpa [Value.cells] using hn)
end
end Go.Proofs.YtifgbnbkimcchaaGreat
