/- Lemmas: the program and the reference walked, plain laws. -/
import Derived.Test.YtjjndkenddigiaaDoorGc
namespace Go.Proofs.YtjjndkenddigiaaDoor
open Go Go.T
set_option maxHeartbeats 1000000
def KI : KeyK Tryd.prog 3 Int := intKey Tryd.prog 3 .i64 Tryd.underlying3
theorem keyI (n : Int) : KeyAt (Ty.int .i64 n) (KI.enc n) := key_int
theorem mapT126 : mapOf Tryd.prog 126 = some (3, 4) := by kernel_rfl
theorem zero4 : zeroOf Tryd.prog 4 = some (.bool false) := by kernel_rfl
theorem vb_zero : ∀ w M, (VBool.ty false).den w M (.bool false) := fun _ _ => rfl
attribute [local irreducible] tearB metK tearP
attribute [local irreducible] dInt dBool dSl dPp dPtr dAgg dTup dClo dAny dEx dStr dGd dCells dVec dVs dRow dOp nth Tri Into TOps Ctr bodyPost Exit.then Exit.inBlock Code.wp Code.wpIn dPa dArr dMp dMap CtrG keepPost iterPost bodyPostM roundQ
set_option maxRecDepth 100000 in
theorem c_Tear1 (text : Byt) (hl : text.length ≤ 1000000) (n : Int) : Ctr Tryd.prog 76 [Ty.int .i64 n, Ty.pp [Ty.str (bs text)]] (Ty.bool (inB n 0 ((text.length : Int) - 1))) := by
  refine fn_intro Tryd.func76 rfl (by decide) Tryd.ntmps76 (by exact Nat.le_of_ble_eq_true rfl) fun w0 M0 => ?_
  refine t_seq ?_
  refine t_region ?_
  refine asB rfl ?_
  refine r_nil ?_
  refine i_then ?_
  refine t_seq ?_
  refine t_region ?_
  refine mvI rfl ?_
  refine r_load_pp rfl rfl rfl rfl ?_
  refine r_lenS rfl rfl rfl ?_
  refine r_sub rfl rfl (by omega) (by omega) ?_
  refine r_call (c_in _ _ _) rfl rfl rfl rfl rfl ?_
  refine asB rfl ?_
  refine r_nil ?_
  refine i_then ?_
  refine t_ret ?_
  refine i_rp1 rfl rfl ?_
  all_goals exact ret_refl rfl rfl
set_option maxRecDepth 100000 in
theorem c_Tear (text : Byt) (l : List Int) (hl : l.length ≤ 1000000) : Ctr Tryd.prog 34 [Ty.str (bs text), Ty.sl I64 l] (Ty.tup [Ty.str (bs (tearV text l).1), Ty.int .i64 (tearV text l).2]) := by
  refine fn_intro Tryd.func34 rfl (by decide) Tryd.ntmps34 (by exact Nat.le_of_ble_eq_true rfl) fun w0 M0 => ?_
  refine t_seq ?_
  refine t_region ?_
  refine r_box_one (ty := Ty.str (bs text)) rfl rfl ?_
  refine asS' rfl ?_
  refine asI rfl ?_
  refine r_nil ?_
  refine i_then ?_
  refine t_seq ?_
  refine t_seq ?_
  refine t_region ?_
  refine r_load_pp rfl rfl rfl rfl ?_
  refine r_lenS rfl rfl rfl ?_
  refine r_bin rfl rfl rfl ?_
  refine r_nil ?_
  refine i_then ?_
  refine t_cond_dec rfl (fun hc1 => ?_) (fun hc1 => ?_)
  ·
    refine t_seq ?_
    refine t_region ?_
    refine asS' rfl ?_
    refine asI rfl ?_
    refine r_nil ?_
    refine i_then ?_
    refine t_ret ?_
    refine i_then_ret ?_
    refine i_rp2 rfl rfl rfl ?_ ?_
    all_goals skip
    all_goals (rw [te1 hc1]; exact ret_refl rfl rfl)
  ·
    refine t_skip ?_
    refine i_then ?_
    refine t_seq ?_
    refine t_seq ?_
    have htl : text.length ≤ 1000000 := by omega
    refine t_region ?_
    refine mvS rfl ?_
    refine r_makeFunc rfl ?_
    refine r_call (c_every_int l (Ty.clo _ [Ty.pp [Ty.str (bs text)]]) rfl (fun n => inB n 0 ((text.length : Int) - 1)) rfl rfl fun x _ => cal_clo (c_Tear1 text htl x) rfl rfl rfl rfl rfl rfl) rfl rfl rfl rfl rfl ?_
    refine r_not rfl ?_
    refine r_nil ?_
    refine i_then ?_
    refine t_cond rfl (fun hc2 => ?_) (fun hc2 => ?_)
    ·
      refine t_seq ?_
      refine t_region ?_
      refine asS' rfl ?_
      refine asI rfl ?_
      refine r_nil ?_
      refine i_then ?_
      refine t_ret ?_
      refine i_then_ret ?_
      refine i_rp2 rfl rfl rfl ?_ ?_
      all_goals skip
      all_goals (rw [te2 hc1 (off_yes hc2)]; exact ret_refl rfl rfl)
    ·
      refine t_skip ?_
      refine i_then ?_
      refine t_seq ?_
      refine t_region ?_
      refine r_makeMap (Value.int .i64) VBool mapT126 rfl ?_
      refine asM rfl ?_
      refine r_nil ?_
      refine i_then ?_
      refine t_seq ?_
      refine t_seq ?_
      refine t_region ?_
      refine mvS rfl ?_
      refine r_len rfl rfl rfl ?_
      refine mvI rfl ?_
      refine r_nil ?_
      refine i_then ?_
      refine t_block ?_
      refine t_loop (fun (k : {k : Nat // k ≤ l.length}) => live [(1, Ty.sl I64 l), (2, Ty.pp [Ty.str (bs text)]), (6, Ty.mp 19), (19, Ty.sl I64 l), (20, Ty.int .i64 l.length), (21, Ty.int .i64 (k.1 : Nat))] [(19, Cont.mp (Value.int .i64) VBool (metK l k.1))]) (fun k => l.length - k.1) (⟨0, Nat.zero_le _⟩) ?_ fun k => ?_
      · (refine Ent.mk' ?_ ?_ <;> (repeat' (first | exact allSub_zero | exact allTags_nil | refine allSub_succ' ?_ (Ty.sub_any _) | refine allSub_succ' ?_ (Ty.sub_refl _) | refine allTags_cons rfl ?_ ?_)))
        all_goals exact Cont.sub_mp (metK_0 l)
      ·
        refine t_seq ?_
        refine t_region ?_
        refine r_bin rfl rfl rfl ?_
        refine r_nil ?_
        refine i_then ?_
        refine t_seq ?_
        refine t_cond_dec rfl (fun hc3 => ?_) (fun hc3 => ?_)
        ·
          refine t_skip ?_
          refine i_then ?_
          refine t_seq ?_
          refine t_block ?_
          refine t_seq ?_
          have hk : k.1 < l.length := by omega
          refine t_region ?_
          refine r_index_slN rfl rfl rfl rfl rfl rfl (by omega) ?_
          refine r_load_pp rfl rfl rfl rfl ?_
          refine asI rfl ?_
          refine r_nil ?_
          refine i_then ?_
          refine t_region ?_
          refine mvM rfl ?_
          refine mvI rfl ?_
          refine r_mapUpdate KI rfl rfl (by decide) rfl (keyI _) rfl rfl mapT126 ?_
          refine r_nil ?_
          refine i_block ?_
          refine i_then ?_
          refine t_region ?_
          refine r_add rfl rfl (by omega) (by omega) ?_
          refine mvI rfl ?_
          refine r_nil ?_
          refine i_round (⟨k.1 + 1, by omega⟩) ?_ (by show l.length - (k.1 + 1) < l.length - k.1; omega)
          (refine Ent.mk' ?_ ?_ <;> (repeat' (first | exact allSub_zero | exact allTags_nil | refine allSub_succ' ?_ (Ty.sub_any _) | refine allSub_succ' ?_ (Ty.sub_refl _) | refine allTags_cons rfl ?_ ?_)))
          all_goals skip
          all_goals exact Cont.sub_mp (metK_succ hk).symm
        ·
          refine t_exit ?_
          refine i_then_exit ?_
          refine i_then_exit ?_
          refine i_block_exit rfl ?_
          refine i_then ?_
          refine t_seq ?_
          refine t_seq ?_
          refine t_region ?_
          refine mvM rfl ?_
          refine r_lenMp rfl rfl (by decide) mapT126 ?_
          refine mvS rfl ?_
          refine r_len rfl rfl rfl ?_
          refine r_bin rfl rfl rfl ?_
          refine r_nil ?_
          refine i_then ?_
          refine t_cond_dec rfl (fun hc4 => ?_) (fun hc4 => ?_)
          ·
            refine t_seq ?_
            refine t_region ?_
            refine asS' rfl ?_
            refine asI rfl ?_
            refine r_nil ?_
            refine i_then ?_
            refine t_ret ?_
            refine i_then_ret ?_
            refine i_rp2 rfl rfl rfl ?_ ?_
            all_goals skip
            all_goals (rw [te3 hc1 (off_no hc2) (met_dup k.2 hc3 hc4)]; exact ret_refl rfl rfl)
          ·
            refine t_skip ?_
            refine i_then ?_
            refine t_seq ?_
            have hml : maxLen = 9223372036854775807 := rfl
            refine t_region ?_
            refine r_load_pp rfl rfl rfl rfl ?_
            refine r_convSB rfl rfl rfl rfl rfl Tryd.underlying5 (by omega) rfl ?_
            refine r_assign rfl ?_
            refine r_nil ?_
            refine i_then ?_
            refine t_seq ?_
            refine t_seq ?_
            refine t_region ?_
            refine r_move rfl ?_
            refine r_len_vs rfl rfl rfl ?_
            refine mvI rfl ?_
            refine r_nil ?_
            refine i_then ?_
            refine t_block ?_
            refine t_loop (fun (j : {j : Nat // j ≤ text.length}) => live [(6, Ty.mp 19), (9, Ty.vs 35 text.length), (35, Ty.vs 35 text.length), (36, Ty.int .i64 text.length), (37, Ty.int .i64 (j.1 : Nat))] [(19, Cont.mp (Value.int .i64) VBool (metK l k.1)), (35, Cont.bv 5 (tearP text l j.1))]) (fun j => text.length - j.1) (⟨0, Nat.zero_le _⟩) ?_ fun j => ?_
            · (refine Ent.mk' ?_ ?_ <;> (repeat' (first | exact allSub_zero | exact allTags_nil | refine allSub_succ' ?_ (Ty.sub_any _) | refine allSub_succ' ?_ (Ty.sub_refl _) | refine allTags_cons rfl (Cont.sub_refl _) ?_ | refine allTags_cons rfl ?_ ?_)))
              all_goals exact Cont.sub_bv (tp_0 text l)
            ·
              refine t_seq ?_
              refine t_region ?_
              refine r_bin rfl rfl rfl ?_
              refine r_nil ?_
              refine i_then ?_
              refine t_seq ?_
              refine t_cond_dec rfl (fun hc5 => ?_) (fun hc5 => ?_)
              ·
                refine t_skip ?_
                refine i_then ?_
                refine t_seq ?_
                refine t_block ?_
                refine t_seq ?_
                have hj : j.1 < text.length := by omega
                refine t_region ?_
                refine mvI rfl ?_
                refine asI rfl ?_
                refine r_nil ?_
                refine i_then ?_
                refine t_seq ?_
                refine t_region ?_
                refine mvM rfl ?_
                refine mvI rfl ?_
                refine r_lookup KI (z0 := false) rfl rfl (by decide) rfl (keyI _) mapT126 zero4 vb_zero ?_
                refine r_nil ?_
                refine i_then ?_
                refine t_cond rfl (fun hc6 => ?_) (fun hc6 => ?_)
                ·
                  refine t_region ?_
                  refine r_move rfl ?_
                  refine mvI rfl ?_
                  refine r_index_vs rfl rfl rfl rfl rfl (by omega) ?_
                  refine r_store_bv (i := j.1) (z := 63) rfl (Nat.mul_one _) rfl (by decide) rfl rfl rfl rfl (by rw [tp_len j.2]; exact hj) ?_
                  refine r_nil ?_
                  refine i_block ?_
                  refine i_then ?_
                  refine t_region ?_
                  refine r_add rfl rfl (by omega) (by omega) ?_
                  refine mvI rfl ?_
                  refine r_nil ?_
                  refine i_round (⟨j.1 + 1, by omega⟩) ?_ (by show text.length - (j.1 + 1) < text.length - j.1; omega)
                  (refine Ent.mk' ?_ ?_ <;> (repeat' (first | exact allSub_zero | exact allTags_nil | refine allSub_succ' ?_ (Ty.sub_any _) | refine allSub_succ' ?_ (Ty.sub_refl _) | refine allTags_cons rfl (Cont.sub_refl _) ?_ | refine allTags_cons rfl ?_ ?_)))
                  all_goals skip
                  all_goals exact Cont.sub_bv (tp_yes hj (met_in k.2 hc3 hc6))
                ·
                  refine t_skip ?_
                  refine i_block ?_
                  refine i_then ?_
                  refine t_region ?_
                  refine r_add rfl rfl (by omega) (by omega) ?_
                  refine mvI rfl ?_
                  refine r_nil ?_
                  refine i_round (⟨j.1 + 1, by omega⟩) ?_ (by show text.length - (j.1 + 1) < text.length - j.1; omega)
                  (refine Ent.mk' ?_ ?_ <;> (repeat' (first | exact allSub_zero | exact allTags_nil | refine allSub_succ' ?_ (Ty.sub_any _) | refine allSub_succ' ?_ (Ty.sub_refl _) | refine allTags_cons rfl (Cont.sub_refl _) ?_ | refine allTags_cons rfl ?_ ?_)))
                  all_goals skip
                  all_goals exact Cont.sub_bv (tp_no hj (met_out k.2 hc3 hc6))
              ·
                refine t_exit ?_
                refine i_then_exit ?_
                refine i_then_exit ?_
                refine i_block_exit rfl ?_
                refine i_then ?_
                refine t_seq ?_
                refine t_region ?_
                refine r_move rfl ?_
                refine r_convBS rfl rfl (by decide) (tp_len j.2).symm rfl rfl rfl rfl Tryd.underlying5 ?_
                refine asS' rfl ?_
                refine asI rfl ?_
                refine r_nil ?_
                refine i_then ?_
                refine t_ret ?_
                refine i_rp2 rfl rfl rfl ?_ ?_
                all_goals skip
                all_goals (rw [te4 hc1 (off_no hc2) (met_nod k.2 hc3 hc4), tp_end (by omega)]; exact ret_refl rfl rfl)
end Go.Proofs.YtjjndkenddigiaaDoor

namespace Go.Proofs.YtjjndkenddigiaaDoor
open Go Go.T
set_option maxHeartbeats 1000000
def BookE : El Book := El.mk' 3 bokTys (fun _ => rfl) (fun _ => ⟨rfl, rfl, rfl⟩)
def difB (a b : Book) (i : Nat) : Bool := (((!inB (i : Int) 0 ((a.rows.length : Int) - 1) || !inB (i : Int) 0 ((b.rows.length : Int) - 1)) || !((nth a.rows i).struck == (nth b.rows i).struck)) || !decide ((nth a.rows i).nums = (nth b.rows i).nums))
def difL (a b : Book) (n : Nat) : List Int := ((List.range n).filter (difB a b)).map fun i => ((i : Nat) : Int)
def maxN (a b : Book) : Nat := max a.rows.length b.rows.length
def difE (a b : Book) : Int := if bokY a ≠ 0 then bokY a else bokY b
def difV (a b : Book) : List Int × Int := if difE a b ≠ 0 then ([], difE a b) else if (!decide (a.form.widths = b.form.widths) || !decide (a.form.lines = b.form.lines)) = true then ([], 7) else (difL a b (maxN a b), 0)
theorem dif_yes {a b : Book} {i : Nat} (h : difB a b i = true) : difL a b i ++ [(i : Int)] = difL a b (i + 1) := by
  unfold difL; rw [List.range_succ, List.filter_append, List.map_append]; simp [h]
theorem dif_no {a b : Book} {i : Nat} (h : difB a b i = false) : difL a b i = difL a b (i + 1) := by
  unfold difL; rw [List.range_succ, List.filter_append, List.map_append]; simp [h]
theorem dif_len (a b : Book) (n : Nat) : (difL a b n).length ≤ n := by
  unfold difL; rw [List.length_map]
  exact Nat.le_trans (List.length_filter_le _ _) (by simp)
theorem eq_1 {a b : List Int} (h : ¬ (a.length : Int) = (b.length : Int)) : false = decide (a = b) := (decide_eq_false (fun e => h (by rw [e]))).symm
theorem eq_2 {a b : List Int} {k : Nat} (h : ¬ nth a k = nth b k) : false = decide (a = b) := (decide_eq_false (fun e => h (by rw [e]))).symm
theorem eq_3 {a b : List Int} {k : Nat} (h : (a.length : Int) = (b.length : Int)) (hk : k ≤ a.length) (h2 : ∀ j, j < k → nth a j = nth b j) (h3 : ¬ (k : Int) < (a.length : Int)) : true = decide (a = b) :=
  (decide_eq_true (List.ext_getElem (by omega) fun j q1 q2 => by rw [nth_getElem q1, nth_getElem q2]; exact h2 j (by omega))).symm
theorem dv_1 {a b : Book} {k : Nat} (hk : k < 2) (h : ∀ j, j < k → bokY (nth [a, b] j) = 0) (h2 : ¬ bokY (nth [a, b] k) = 0) : difV a b = ([], bokY (nth [a, b] k)) := by
  have e : difE a b = bokY (nth [a, b] k) := by
    match k, hk, h, h2 with
    | 0, _, _, h2 => exact if_pos h2
    | 1, _, h, _ => exact if_neg (fun e => e (h 0 (by omega)))
  unfold difV; rw [e, if_pos h2]
theorem dv_0 {a b : Book} (hA : BookOk a) (hB : BookOk b) : ¬ difE a b ≠ 0 := by
  unfold difE; rw [if_neg (fun e => e (bokY_zero.2 hA))]; exact fun e => e (bokY_zero.2 hB)
theorem dv_2 {a b : Book} (hA : BookOk a) (hB : BookOk b) (h : (!decide (a.form.widths = b.form.widths) || !decide (a.form.lines = b.form.lines)) = true) : difV a b = ([], 7) := by
  unfold difV; rw [if_neg (dv_0 hA hB), if_pos h]
theorem dv_3 {a b : Book} {i : Nat} (hA : BookOk a) (hB : BookOk b) (h : (!decide (a.form.widths = b.form.widths) || !decide (a.form.lines = b.form.lines)) = false) (hi : i ≤ maxN a b) (h2 : ¬ (i : Int) < (maxN a b : Nat)) : difV a b = (difL a b i, 0) := by
  unfold difV; rw [if_neg (dv_0 hA hB), if_neg (by rw [h]; decide), show maxN a b = i by omega]
theorem dv_m (a b : Book) : [(b.rows.length : Int)].foldl max (a.rows.length : Int) = (maxN a b : Nat) := by
  show max (a.rows.length : Int) (b.rows.length : Int) = ((max a.rows.length b.rows.length : Nat) : Int)
  omega
theorem lt_0 {m n i : Nat} (h : (!inB (i : Int) 0 ((m : Int) - 1) || !inB (i : Int) 0 ((n : Int) - 1)) = false) : i < m ∧ i < n := by
  simp only [Bool.or_eq_false_iff, Bool.not_eq_false'] at h
  have h1 := inB_true.1 h.1
  have h2 := inB_true.1 h.2
  omega
theorem lt_3 {m n i : Nat} {c : Bool} (h : (!inB (i : Int) 0 ((m : Int) - 1) || !inB (i : Int) 0 ((n : Int) - 1) || c) = false) : i < m ∧ i < n := lt_0 (by rw [Bool.or_eq_false_iff] at h; exact h.1)
def difQ (a b : Book) : List Int × Int := if (!decide (a.form.lines = b.form.lines) || !decide (a.form.widths = b.form.widths)) = true then ([], 7) else (difL a b (maxN a b), 0)
theorem dq_1 {a b : Book} (h : (!decide (a.form.lines = b.form.lines) || !decide (a.form.widths = b.form.widths)) = true) : difQ a b = ([], 7) := if_pos h
theorem dq_2 {a b : Book} {i : Nat} (h : (!decide (a.form.lines = b.form.lines) || !decide (a.form.widths = b.form.widths)) = false) (hi : i ≤ maxN a b) (h2 : ¬ (i : Int) < max (a.rows.length : Int) (b.rows.length : Int)) : difQ a b = (difL a b i, 0) := by
  unfold difQ; rw [if_neg (by rw [h]; decide), show maxN a b = i by unfold maxN at *; omega]
theorem dq_lt {m n i : Nat} (h : (decide ((i : Int) ≥ m) || decide ((i : Int) ≥ n)) = false) : i < m ∧ i < n := by simp at h; omega
theorem dq_lt3 {m n i : Nat} {c : Bool} (h : (decide ((i : Int) ≥ m) || decide ((i : Int) ≥ n) || c) = false) : i < m ∧ i < n := dq_lt (by rw [Bool.or_eq_false_iff] at h; exact h.1)
theorem dq_b {a b : Book} {i : Nat} : (((decide ((i : Int) ≥ (a.rows.length : Int)) || decide ((i : Int) ≥ (b.rows.length : Int))) || !((nth a.rows i).struck == (nth b.rows i).struck)) || !decide ((nth a.rows i).nums = (nth b.rows i).nums)) = difB a b i := by
  have e : ∀ n : Nat, decide ((i : Int) ≥ (n : Int)) = !inB (i : Int) 0 ((n : Int) - 1) := fun n => by
    cases hb : inB (i : Int) 0 ((n : Int) - 1) with
    | true => have := inB_true.1 hb; simp; omega
    | false =>
      have : ¬ ((0 : Int) ≤ i ∧ (i : Int) ≤ (n : Int) - 1) := fun h => by rw [inB_true.2 h] at hb; cases hb
      simp; omega
  unfold difB; rw [e, e]
theorem two_0 {a b : Book} (h : bokY (nth [a, b] 0) = 0) : bokY a = 0 := h
theorem two_1 {a b : Book} (h : bokY (nth [a, b] 1) = 0) : bokY b = 0 := h
theorem two_at {p : Book → Prop} {a b : Book} (ha : p a) (hb : p b) {k : Nat} (h : k < 2) : p (nth [a, b] k) := by
  match k, h with
  | 0, _ => exact ha
  | 1, _ => exact hb
attribute [local irreducible] dInt dBool dSl dPp dPtr dAgg dTup dClo dAny dEx dStr dGd dCells dVec dVs dRow dOp nth Tri Into TOps Ctr bodyPost Exit.then Exit.inBlock Code.wp Code.wpIn dPa dArr dMp dMap CtrG keepPost iterPost bodyPostM roundQ
set_option maxRecDepth 100000 in
theorem c_has (b : Book) (hl : b.rows.length ≤ 1000000) (i : Int) : Ctr Tryd.prog 73 [bokT b, Ty.int .i64 i] (Ty.bool (inB i 0 ((b.rows.length : Int) - 1))) := by
  refine fn_intro Tryd.func73 rfl (by decide) Tryd.ntmps73 (by exact Nat.le_of_ble_eq_true rfl) fun w0 M0 => ?_
  refine t_seq ?_
  refine t_region ?_
  refine r_box_agg rfl ?_
  refine asB rfl ?_
  refine r_nil ?_
  refine i_then ?_
  refine t_seq ?_
  refine t_region ?_
  refine mvI rfl ?_
  refine r_field_pp rfl rfl rfl rfl rfl (by decide) ?_
  refine r_load_pp rfl rfl rfl rfl ?_
  refine r_len rfl rfl rfl ?_
  refine r_sub rfl rfl (by omega) (by omega) ?_
  refine r_call (c_in _ _ _) rfl rfl rfl rfl rfl ?_
  refine asB rfl ?_
  refine r_nil ?_
  refine i_then ?_
  refine t_ret ?_
  refine i_rp1 rfl rfl ?_
  all_goals exact ret_refl rfl rfl
set_option maxRecDepth 100000 in
theorem c_equal (a b : List Int) : Ctr Tryd.prog 70 [Ty.sl I64 a, Ty.sl I64 b] (Ty.bool (decide (a = b))) := by
  refine fn_intro Tryd.func70 rfl (by decide) Tryd.ntmps70 (by exact Nat.le_of_ble_eq_true rfl) fun w0 M0 => ?_
  refine t_fact (s := 0) rfl rfl sl_len fun hla => ?_
  refine t_fact (s := 1) rfl rfl sl_len fun hlb => ?_
  refine t_seq ?_
  refine t_region ?_
  refine asB rfl ?_
  refine r_nil ?_
  refine i_then ?_
  refine t_seq ?_
  refine t_seq ?_
  refine t_region ?_
  refine mvS rfl ?_
  refine r_len rfl rfl rfl ?_
  refine mvS rfl ?_
  refine r_len rfl rfl rfl ?_
  refine r_bin rfl rfl rfl ?_
  refine r_nil ?_
  refine i_then ?_
  refine t_cond_ndec rfl (fun hc1 => ?_) (fun hc1 => ?_)
  ·
    refine t_seq ?_
    refine t_region ?_
    refine asB rfl ?_
    refine r_nil ?_
    refine i_then ?_
    refine t_ret ?_
    refine i_then_ret ?_
    refine i_rp1 rfl rfl ?_
    all_goals skip
    exact ret_eq rfl rfl (congrArg Ty.bool (eq_1 hc1))
  ·
    refine t_skip ?_
    refine i_then ?_
    refine t_seq ?_
    refine t_seq ?_
    refine t_region ?_
    refine asI rfl ?_
    refine r_nil ?_
    refine i_then ?_
    refine t_block ?_
    refine t_loop (fun (k : {k : Nat // k ≤ a.length ∧ ∀ j, j < k → nth a j = nth b j}) => live [(0, Ty.sl I64 a), (1, Ty.sl I64 b), (5, Ty.int .i64 (k.1 : Nat))] []) (fun k => a.length - k.1) (⟨0, Nat.zero_le _, fun j hj => absurd hj (Nat.not_lt_zero _)⟩) ?_ fun k => ?_
    · (refine Ent.mk' ?_ ?_ <;> (repeat' (first | exact allSub_zero | exact allTags_nil | refine allSub_succ' ?_ (Ty.sub_any _) | refine allSub_succ' ?_ (Ty.sub_refl _))))
    ·
      refine t_seq ?_
      refine t_seq ?_
      refine t_region ?_
      refine mvI rfl ?_
      refine mvS rfl ?_
      refine r_len rfl rfl rfl ?_
      refine r_bin rfl rfl rfl ?_
      refine r_nil ?_
      refine i_then ?_
      refine t_cond_dec rfl (fun hc2 => ?_) (fun hc2 => ?_)
      ·
        refine t_skip ?_
        refine i_then ?_
        refine t_seq ?_
        refine t_block ?_
        refine t_seq ?_
        refine t_draw mixed rfl ?_
        refine mvS rfl ?_
        refine mvI rfl ?_
        refine r_index_slN rfl rfl rfl rfl rfl rfl (by omega) ?_
        refine r_load_pp rfl rfl rfl rfl ?_
        refine mvS rfl ?_
        refine mvI rfl ?_
        refine r_index_slN rfl rfl rfl rfl rfl rfl (by omega) ?_
        refine r_load_pp rfl rfl rfl rfl ?_
        refine r_bin rfl rfl rfl ?_
        refine r_nil ?_
        refine ⟨by kernel_rfl, ?_⟩
        refine i_then ?_
        refine t_cond_ndec rfl (fun hc3 => ?_) (fun hc3 => ?_)
        ·
          refine t_seq ?_
          refine t_region ?_
          refine asB rfl ?_
          refine r_nil ?_
          refine i_then ?_
          refine t_ret ?_
          refine i_block_ret ?_
          refine i_then_ret ?_
          refine i_then_ret ?_
          refine i_block_ret ?_
          refine i_then_ret ?_
          refine i_rp1 rfl rfl ?_
          all_goals skip
          exact ret_eq rfl rfl (congrArg Ty.bool (eq_2 hc3))
        ·
          refine t_skip ?_
          refine i_block ?_
          refine i_then ?_
          refine t_region ?_
          refine mvI rfl ?_
          refine r_add rfl rfl (by omega) (by omega) ?_
          refine asI rfl ?_
          refine r_nil ?_
          refine i_round (⟨k.1 + 1, by omega, fun j hj => by by_cases e : j = k.1; (· rw [e]; exact hc3); (· exact k.2.2 j (by omega))⟩) ?_ (by show a.length - (k.1 + 1) < a.length - k.1; omega)
          (refine Ent.mk' ?_ ?_ <;> (repeat' (first | exact allSub_zero | exact allTags_nil | refine allSub_succ' ?_ (Ty.sub_any _) | refine allSub_succ' ?_ (Ty.sub_refl _))))
          all_goals skip
      ·
        refine t_exit ?_
        refine i_then_exit ?_
        refine i_then_exit ?_
        refine i_block_exit rfl ?_
        refine i_then ?_
        refine t_seq ?_
        refine t_region ?_
        refine asB rfl ?_
        refine r_nil ?_
        refine i_then ?_
        refine t_ret ?_
        refine i_rp1 rfl rfl ?_
        all_goals skip
        exact ret_eq rfl rfl (congrArg Ty.bool (eq_3 hc1 k.2.1 k.2.2 hc2))
set_option maxRecDepth 100000 in
theorem c_Differ (a b : Book) (ha : ∀ r ∈ a.rows, Rng r.nums) (hb : ∀ r ∈ b.rows, Rng r.nums) : Ctr Tryd.prog 29 [bokT a, bokT b] (Ty.tup [Ty.sl I64 (difV a b).1, Ty.int .i64 (difV a b).2]) := by
  refine fn_intro Tryd.func29 rfl (by decide) Tryd.ntmps29 (by exact Nat.le_of_ble_eq_true rfl) fun w0 M0 => ?_
  refine t_seq ?_
  refine t_region ?_
  refine r_box_agg rfl ?_
  refine r_box_agg rfl ?_
  refine asX rfl ?_
  refine asI rfl ?_
  refine r_nil ?_
  refine i_then ?_
  refine t_seq ?_
  refine t_seq ?_
  refine t_region ?_
  refine r_load_ppN rfl rfl rfl (by exact Nat.le_of_ble_eq_true rfl) ?_
  refine r_load_ppN rfl rfl rfl (by exact Nat.le_of_ble_eq_true rfl) ?_
  refine r_buildSlice (E := BookE) (xs := [_, _]) rfl rfl rfl rfl rfl (by decide) (by decide) (by repeat (first | exact (Parts.nil : Parts _ _ [] _) | (show Parts _ _ ((_, _) :: _) _; apply Parts.agg; (· exact (rfl : _ = Ty.agg _))))) (by exact rfl) rfl ?_
  refine r_len rfl rfl rfl ?_
  refine mvI rfl ?_
  refine r_nil ?_
  refine i_then ?_
  refine t_block ?_
  refine t_loop (fun (k : {k : Nat // k ≤ 2 ∧ ∀ j, j < k → bokY (nth [a, b] j) = 0}) => live [(2, Ty.pp (bokTys a)), (3, Ty.pp (bokTys b)), (13, Ty.sl BookE [a, b]), (14, Ty.int .i64 2), (15, Ty.int .i64 (k.1 : Nat))] []) (fun k => 2 - k.1) (⟨0, Nat.zero_le _, fun j hj => absurd hj (Nat.not_lt_zero _)⟩) ?_ fun k => ?_
  · (refine Ent.mk' ?_ ?_ <;> (repeat' (first | exact allSub_zero | exact allTags_nil | refine allSub_succ' ?_ (Ty.sub_any _) | refine allSub_succ' ?_ (Ty.sub_refl _))))
  ·
    refine t_seq ?_
    refine t_region ?_
    refine r_bin rfl rfl rfl ?_
    refine r_nil ?_
    refine i_then ?_
    refine t_seq ?_
    refine t_cond_dec rfl (fun hc1 => ?_) (fun hc1 => ?_)
    ·
      refine t_skip ?_
      refine i_then ?_
      refine t_seq ?_
      refine t_block ?_
      refine t_seq ?_
      have hk : k.1 < 2 := by omega
      have hkr : ∀ r ∈ (nth [a, b] k.1).rows, Rng r.nums := two_at (p := fun b => ∀ r ∈ b.rows, Rng r.nums) ha hb hk
      refine t_region ?_
      refine r_index_slN rfl rfl rfl rfl rfl rfl (by omega) ?_
      refine r_load_ppN rfl rfl rfl (by exact Nat.le_of_ble_eq_true rfl) ?_
      refine r_alloc rfl (by exact List.cons_ne_nil _ _) rfl ?_
      refine r_storeN rfl rfl (by decide) rfl rfl rfl rfl rfl rfl ?_
      refine r_nil ?_
      refine i_then ?_
      refine t_seq ?_
      refine t_region ?_
      refine r_load_ptrN rfl rfl (by decide) rfl rfl (by exact Nat.le_of_ble_eq_true rfl) ?_
      refine r_call (c_Check _ hkr) rfl rfl rfl rfl rfl ?_
      refine asI rfl ?_
      refine r_nil ?_
      refine i_then ?_
      refine t_seq ?_
      refine t_region ?_
      refine mvI rfl ?_
      refine r_bin rfl rfl rfl ?_
      refine r_nil ?_
      refine i_then ?_
      refine t_cond_ndec rfl (fun hc2 => ?_) (fun hc2 => ?_)
      ·
        refine t_seq ?_
        refine t_region ?_
        refine mvI rfl ?_
        refine asX rfl ?_
        refine asI rfl ?_
        refine r_nil ?_
        refine i_then ?_
        refine t_ret ?_
        refine i_block_ret ?_
        refine i_then_ret ?_
        refine i_then_ret ?_
        refine i_block_ret ?_
        refine i_then_ret ?_
        refine i_rp2 rfl rfl rfl ?_ ?_
        all_goals skip
        all_goals (rw [dv_1 hk k.2.2 hc2]; first | exact ret_refl rfl rfl | exact ret_nil)
      ·
        refine t_skip ?_
        refine i_block ?_
        refine i_then ?_
        refine t_region ?_
        refine r_add rfl rfl (by omega) (by omega) ?_
        refine mvI rfl ?_
        refine r_nil ?_
        refine i_round (⟨k.1 + 1, by omega, fun j hj => by by_cases e : j = k.1; (· rw [e]; exact hc2); (· exact k.2.2 j (by omega))⟩) ?_ (by show 2 - (k.1 + 1) < 2 - k.1; omega)
        (refine Ent.mk' ?_ ?_ <;> (repeat' (first | exact allSub_zero | exact allTags_nil | refine allSub_succ' ?_ (Ty.sub_any _) | refine allSub_succ' ?_ (Ty.sub_refl _))))
        all_goals skip
    ·
      refine t_exit ?_
      refine i_then_exit ?_
      refine i_then_exit ?_
      refine i_block_exit rfl ?_
      refine i_then ?_
      refine t_seq ?_
      refine t_seq ?_
      have hA : BookOk a := bokY_zero.1 (two_0 (k.2.2 0 (by omega)))
      have hB : BookOk b := bokY_zero.1 (two_1 (k.2.2 1 (by omega)))
      have hfa := hA.few
      have hfb := hB.few
      refine t_region ?_
      refine r_field_pp rfl rfl rfl rfl rfl (by decide) ?_
      refine r_field_pp rfl rfl rfl rfl rfl (by decide) ?_
      refine r_load_pp rfl rfl rfl rfl ?_
      refine r_field_pp rfl rfl rfl rfl rfl (by decide) ?_
      refine r_field_pp rfl rfl rfl rfl rfl (by decide) ?_
      refine r_load_pp rfl rfl rfl rfl ?_
      refine r_call (c_Equal_int _ _) rfl rfl rfl rfl rfl ?_
      refine r_not rfl ?_
      refine mvB rfl ?_
      apply r_guard (s := 33) rfl rfl rfl
      · intro hg; apply opT_of; (try have hq := lt_0 hg); (try have hq := lt_3 hg); (refine r_field_pp rfl rfl rfl rfl rfl (by decide) ?_); refine r_nil ?_; exact rfl
      · exact rfl
      · exact rfl
      apply r_guard (s := 33) rfl rfl rfl
      · intro hg; apply opT_strip (s := 34) rfl (by (rw [hg]; rfl)); apply opT_of; (try have hq := lt_0 hg); (try have hq := lt_3 hg); (refine r_field_pp rfl rfl rfl rfl rfl (by decide) ?_); refine r_nil ?_; exact rfl
      · exact rfl
      · exact rfl
      apply r_guard (s := 33) rfl rfl rfl
      · intro hg; apply opT_strip (s := 35) rfl (by (rw [hg]; rfl)); apply opT_of; (try have hq := lt_0 hg); (try have hq := lt_3 hg); (refine r_load_pp rfl rfl rfl rfl ?_); refine r_nil ?_; exact rfl
      · exact rfl
      · exact rfl
      apply r_guard (s := 33) rfl rfl rfl
      · intro hg; apply opT_of; (try have hq := lt_0 hg); (try have hq := lt_3 hg); (refine r_field_pp rfl rfl rfl rfl rfl (by decide) ?_); refine r_nil ?_; exact rfl
      · exact rfl
      · exact rfl
      apply r_guard (s := 33) rfl rfl rfl
      · intro hg; apply opT_strip (s := 37) rfl (by (rw [hg]; rfl)); apply opT_of; (try have hq := lt_0 hg); (try have hq := lt_3 hg); (refine r_field_pp rfl rfl rfl rfl rfl (by decide) ?_); refine r_nil ?_; exact rfl
      · exact rfl
      · exact rfl
      apply r_guard (s := 33) rfl rfl rfl
      · intro hg; apply opT_strip (s := 38) rfl (by (rw [hg]; rfl)); apply opT_of; (try have hq := lt_0 hg); (try have hq := lt_3 hg); (refine r_load_pp rfl rfl rfl rfl ?_); refine r_nil ?_; exact rfl
      · exact rfl
      · exact rfl
      apply r_guard (s := 33) rfl rfl rfl
      · intro hg; apply opT_strip (s := 36) rfl (by (rw [hg]; rfl)); apply opT_strip (s := 39) rfl (by (rw [hg]; rfl)); apply opT_of; (try have hq := lt_0 hg); (try have hq := lt_3 hg); (refine r_bin rfl rfl rfl ?_); refine r_nil ?_; exact rfl
      · exact rfl
      · exact rfl
      refine r_or rfl rfl ?_
      refine r_nil ?_
      refine i_then ?_
      refine t_cond rfl (fun hc3 => ?_) (fun hc3 => ?_)
      ·
        refine t_seq ?_
        refine t_region ?_
        refine asX rfl ?_
        refine asI rfl ?_
        refine r_nil ?_
        refine i_then ?_
        refine t_ret ?_
        refine i_then_ret ?_
        refine i_rp2 rfl rfl rfl ?_ ?_
        all_goals skip
        all_goals (rw [dv_2 hA hB hc3]; first | exact ret_refl rfl rfl | exact ret_nil)
      ·
        refine t_skip ?_
        refine i_then ?_
        refine t_seq ?_
        refine t_region ?_
        refine asX rfl ?_
        refine r_nil ?_
        refine i_then ?_
        refine t_seq ?_
        refine t_seq ?_
        refine t_region ?_
        refine r_field_pp rfl rfl rfl rfl rfl (by decide) ?_
        refine r_load_pp rfl rfl rfl rfl ?_
        refine r_len rfl rfl rfl ?_
        refine r_field_pp rfl rfl rfl rfl rfl (by decide) ?_
        refine r_load_pp rfl rfl rfl rfl ?_
        refine r_len rfl rfl rfl ?_
        refine r_buildSlice (E := I64) (xs := [_]) rfl rfl rfl rfl rfl (by decide) (by decide) (by repeat (first | exact (Parts.nil : Parts _ _ [] _) | (show Parts _ _ ((_, _) :: _) _; apply Parts.one; (· exact (rfl : _ = Ty.int _ _)); (· exact rfl)))) (by exact rfl) rfl ?_
        refine r_call (c_greatest _ _) rfl rfl rfl rfl rfl ?_
        refine mvI rfl ?_
        refine r_nil ?_
        refine i_then ?_
        refine t_block ?_
        refine t_loop (fun (i : {i : Nat // i ≤ maxN a b}) => live [(2, Ty.pp (bokTys a)), (3, Ty.pp (bokTys b)), (9, Ty.row I64 3 98 (difL a b i.1)), (49, Ty.int .i64 (maxN a b : Nat)), (50, Ty.int .i64 (i.1 : Nat))] []) (fun i => maxN a b - i.1) (⟨0, Nat.zero_le _⟩) ?_ fun i => ?_
        · (refine Ent.mk' ?_ ?_ <;> (repeat' (first | exact allSub_zero | exact allTags_nil | refine allSub_succ' ?_ (Ty.sub_any _) | refine allSub_succ' ?_ (Ty.sub_refl _) | refine allSub_succ' ?_ Ty.nil_row | refine allSub_succ' ?_ ?_)))
          all_goals exact Ty.sub_int (dv_m a b)
        ·
          have hdl := dif_len a b i.1
          have hmx : maxN a b ≤ 12 := by unfold maxN; omega
          have hil := i.2
          refine t_seq ?_
          refine t_region ?_
          refine r_bin rfl rfl rfl ?_
          refine r_nil ?_
          refine i_then ?_
          refine t_seq ?_
          refine t_cond_dec rfl (fun hc4 => ?_) (fun hc4 => ?_)
          ·
            refine t_skip ?_
            refine i_then ?_
            refine t_seq ?_
            refine t_block ?_
            refine t_seq ?_
            refine t_region ?_
            refine mvI rfl ?_
            refine asI rfl ?_
            refine r_nil ?_
            refine i_then ?_
            refine t_seq ?_
            refine t_draw mixed rfl ?_
            refine r_load_ppN rfl rfl rfl (by exact Nat.le_of_ble_eq_true rfl) ?_
            refine mvI rfl ?_
            refine r_call (c_has _ (by omega) _) rfl rfl rfl rfl rfl ?_
            refine r_not rfl ?_
            refine mvB rfl ?_
            apply r_guard (s := 57) rfl rfl rfl
            · intro hg; apply opT_of; (try have hq := lt_0 hg); (try have hq := lt_3 hg); (refine r_load_ppN rfl rfl rfl (by exact Nat.le_of_ble_eq_true rfl) ?_); refine r_nil ?_; exact rfl
            · exact rfl
            · exact rfl
            apply r_guard (s := 57) rfl rfl rfl
            · intro hg; apply opT_of; (try have hq := lt_0 hg); (try have hq := lt_3 hg); (refine mvI rfl ?_); refine r_nil ?_; exact rfl
            · exact rfl
            · exact rfl
            apply r_guard (s := 57) rfl rfl rfl
            · intro hg; apply opT_strip (s := 58) rfl (by (rw [hg]; rfl)); apply opT_strip (s := 59) rfl (by (rw [hg]; rfl)); apply opT_of; (try have hq := lt_0 hg); (try have hq := lt_3 hg); (refine r_call (c_has _ (by omega) _) rfl rfl rfl rfl rfl ?_); refine r_nil ?_; exact rfl
            · exact rfl
            · exact rfl
            apply r_guard (s := 57) rfl rfl rfl
            · intro hg; apply opT_strip (s := 60) rfl (by (rw [hg]; rfl)); apply opT_of; (try have hq := lt_0 hg); (try have hq := lt_3 hg); (refine r_not rfl ?_); refine r_nil ?_; exact rfl
            · exact rfl
            · exact rfl
            refine r_or rfl rfl ?_
            refine mvB rfl ?_
            apply r_guard (s := 63) rfl rfl rfl
            · intro hg; apply opT_of; (try have hq := lt_0 hg); (try have hq := lt_3 hg); (refine r_field_pp rfl rfl rfl rfl rfl (by decide) ?_); refine r_nil ?_; exact rfl
            · exact rfl
            · exact rfl
            apply r_guard (s := 63) rfl rfl rfl
            · intro hg; apply opT_strip (s := 64) rfl (by (rw [hg]; rfl)); apply opT_of; (try have hq := lt_0 hg); (try have hq := lt_3 hg); (refine r_load_pp rfl rfl rfl rfl ?_); refine r_nil ?_; exact rfl
            · exact rfl
            · exact rfl
            apply r_guard (s := 63) rfl rfl rfl
            · intro hg; apply opT_of; (try have hq := lt_0 hg); (try have hq := lt_3 hg); (refine mvI rfl ?_); refine r_nil ?_; exact rfl
            · exact rfl
            · exact rfl
            apply r_guard (s := 63) rfl rfl rfl
            · intro hg; apply opT_strip (s := 65) rfl (by (rw [hg]; rfl)); apply opT_strip (s := 66) rfl (by (rw [hg]; rfl)); apply opT_of; (try have hq := lt_0 hg); (try have hq := lt_3 hg); (refine r_index_slN rfl rfl rfl rfl rfl rfl (by omega) ?_); refine r_nil ?_; exact rfl
            · exact rfl
            · exact rfl
            apply r_guard (s := 63) rfl rfl rfl
            · intro hg; apply opT_strip (s := 67) rfl (by (rw [hg]; rfl)); apply opT_of; (try have hq := lt_0 hg); (try have hq := lt_3 hg); (refine r_field_pp rfl rfl rfl rfl rfl (by decide) ?_); refine r_nil ?_; exact rfl
            · exact rfl
            · exact rfl
            apply r_guard (s := 63) rfl rfl rfl
            · intro hg; apply opT_strip (s := 68) rfl (by (rw [hg]; rfl)); apply opT_of; (try have hq := lt_0 hg); (try have hq := lt_3 hg); (refine r_load_pp rfl rfl rfl rfl ?_); refine r_nil ?_; exact rfl
            · exact rfl
            · exact rfl
            apply r_guard (s := 63) rfl rfl rfl
            · intro hg; apply opT_of; (try have hq := lt_0 hg); (try have hq := lt_3 hg); (refine r_field_pp rfl rfl rfl rfl rfl (by decide) ?_); refine r_nil ?_; exact rfl
            · exact rfl
            · exact rfl
            apply r_guard (s := 63) rfl rfl rfl
            · intro hg; apply opT_strip (s := 70) rfl (by (rw [hg]; rfl)); apply opT_of; (try have hq := lt_0 hg); (try have hq := lt_3 hg); (refine r_load_pp rfl rfl rfl rfl ?_); refine r_nil ?_; exact rfl
            · exact rfl
            · exact rfl
            apply r_guard (s := 63) rfl rfl rfl
            · intro hg; apply opT_of; (try have hq := lt_0 hg); (try have hq := lt_3 hg); (refine mvI rfl ?_); refine r_nil ?_; exact rfl
            · exact rfl
            · exact rfl
            apply r_guard (s := 63) rfl rfl rfl
            · intro hg; apply opT_strip (s := 71) rfl (by (rw [hg]; rfl)); apply opT_strip (s := 72) rfl (by (rw [hg]; rfl)); apply opT_of; (try have hq := lt_0 hg); (try have hq := lt_3 hg); (refine r_index_slN rfl rfl rfl rfl rfl rfl (by omega) ?_); refine r_nil ?_; exact rfl
            · exact rfl
            · exact rfl
            apply r_guard (s := 63) rfl rfl rfl
            · intro hg; apply opT_strip (s := 73) rfl (by (rw [hg]; rfl)); apply opT_of; (try have hq := lt_0 hg); (try have hq := lt_3 hg); (refine r_field_pp rfl rfl rfl rfl rfl (by decide) ?_); refine r_nil ?_; exact rfl
            · exact rfl
            · exact rfl
            apply r_guard (s := 63) rfl rfl rfl
            · intro hg; apply opT_strip (s := 74) rfl (by (rw [hg]; rfl)); apply opT_of; (try have hq := lt_0 hg); (try have hq := lt_3 hg); (refine r_load_pp rfl rfl rfl rfl ?_); refine r_nil ?_; exact rfl
            · exact rfl
            · exact rfl
            apply r_guard (s := 63) rfl rfl rfl
            · intro hg; apply opT_strip (s := 69) rfl (by (rw [hg]; rfl)); apply opT_strip (s := 75) rfl (by (rw [hg]; rfl)); apply opT_of; (try have hq := lt_0 hg); (try have hq := lt_3 hg); (refine r_neq_B und4 rfl rfl ?_); refine r_nil ?_; exact rfl
            · exact rfl
            · exact rfl
            refine r_or rfl rfl ?_
            refine mvB rfl ?_
            apply r_guard (s := 78) rfl rfl rfl
            · intro hg; apply opT_of; (try have hq := lt_0 hg); (try have hq := lt_3 hg); (refine r_field_pp rfl rfl rfl rfl rfl (by decide) ?_); refine r_nil ?_; exact rfl
            · exact rfl
            · exact rfl
            apply r_guard (s := 78) rfl rfl rfl
            · intro hg; apply opT_strip (s := 79) rfl (by (rw [hg]; rfl)); apply opT_of; (try have hq := lt_0 hg); (try have hq := lt_3 hg); (refine r_load_pp rfl rfl rfl rfl ?_); refine r_nil ?_; exact rfl
            · exact rfl
            · exact rfl
            apply r_guard (s := 78) rfl rfl rfl
            · intro hg; apply opT_of; (try have hq := lt_0 hg); (try have hq := lt_3 hg); (refine mvI rfl ?_); refine r_nil ?_; exact rfl
            · exact rfl
            · exact rfl
            apply r_guard (s := 78) rfl rfl rfl
            · intro hg; apply opT_strip (s := 80) rfl (by (rw [hg]; rfl)); apply opT_strip (s := 81) rfl (by (rw [hg]; rfl)); apply opT_of; (try have hq := lt_0 hg); (try have hq := lt_3 hg); (refine r_index_slN rfl rfl rfl rfl rfl rfl (by omega) ?_); refine r_nil ?_; exact rfl
            · exact rfl
            · exact rfl
            apply r_guard (s := 78) rfl rfl rfl
            · intro hg; apply opT_strip (s := 82) rfl (by (rw [hg]; rfl)); apply opT_of; (try have hq := lt_0 hg); (try have hq := lt_3 hg); (refine r_field_pp rfl rfl rfl rfl rfl (by decide) ?_); refine r_nil ?_; exact rfl
            · exact rfl
            · exact rfl
            apply r_guard (s := 78) rfl rfl rfl
            · intro hg; apply opT_strip (s := 83) rfl (by (rw [hg]; rfl)); apply opT_of; (try have hq := lt_0 hg); (try have hq := lt_3 hg); (refine r_load_pp rfl rfl rfl rfl ?_); refine r_nil ?_; exact rfl
            · exact rfl
            · exact rfl
            apply r_guard (s := 78) rfl rfl rfl
            · intro hg; apply opT_of; (try have hq := lt_0 hg); (try have hq := lt_3 hg); (refine r_field_pp rfl rfl rfl rfl rfl (by decide) ?_); refine r_nil ?_; exact rfl
            · exact rfl
            · exact rfl
            apply r_guard (s := 78) rfl rfl rfl
            · intro hg; apply opT_strip (s := 85) rfl (by (rw [hg]; rfl)); apply opT_of; (try have hq := lt_0 hg); (try have hq := lt_3 hg); (refine r_load_pp rfl rfl rfl rfl ?_); refine r_nil ?_; exact rfl
            · exact rfl
            · exact rfl
            apply r_guard (s := 78) rfl rfl rfl
            · intro hg; apply opT_of; (try have hq := lt_0 hg); (try have hq := lt_3 hg); (refine mvI rfl ?_); refine r_nil ?_; exact rfl
            · exact rfl
            · exact rfl
            apply r_guard (s := 78) rfl rfl rfl
            · intro hg; apply opT_strip (s := 86) rfl (by (rw [hg]; rfl)); apply opT_strip (s := 87) rfl (by (rw [hg]; rfl)); apply opT_of; (try have hq := lt_0 hg); (try have hq := lt_3 hg); (refine r_index_slN rfl rfl rfl rfl rfl rfl (by omega) ?_); refine r_nil ?_; exact rfl
            · exact rfl
            · exact rfl
            apply r_guard (s := 78) rfl rfl rfl
            · intro hg; apply opT_strip (s := 88) rfl (by (rw [hg]; rfl)); apply opT_of; (try have hq := lt_0 hg); (try have hq := lt_3 hg); (refine r_field_pp rfl rfl rfl rfl rfl (by decide) ?_); refine r_nil ?_; exact rfl
            · exact rfl
            · exact rfl
            apply r_guard (s := 78) rfl rfl rfl
            · intro hg; apply opT_strip (s := 89) rfl (by (rw [hg]; rfl)); apply opT_of; (try have hq := lt_0 hg); (try have hq := lt_3 hg); (refine r_load_pp rfl rfl rfl rfl ?_); refine r_nil ?_; exact rfl
            · exact rfl
            · exact rfl
            apply r_guard (s := 78) rfl rfl rfl
            · intro hg; apply opT_strip (s := 84) rfl (by (rw [hg]; rfl)); apply opT_strip (s := 90) rfl (by (rw [hg]; rfl)); apply opT_of; (try have hq := lt_0 hg); (try have hq := lt_3 hg); (refine r_call (c_Equal_int _ _) rfl rfl rfl rfl rfl ?_); refine r_nil ?_; exact rfl
            · exact rfl
            · exact rfl
            apply r_guard (s := 78) rfl rfl rfl
            · intro hg; apply opT_strip (s := 91) rfl (by (rw [hg]; rfl)); apply opT_of; (try have hq := lt_0 hg); (try have hq := lt_3 hg); (refine r_not rfl ?_); refine r_nil ?_; exact rfl
            · exact rfl
            · exact rfl
            refine r_or rfl rfl ?_
            refine r_nil ?_
            refine ⟨by kernel_rfl, ?_⟩
            refine i_then ?_
            refine t_cond rfl (fun hc5 => ?_) (fun hc5 => ?_)
            ·
              refine t_region ?_
              refine mvR rfl ?_
              refine mvI rfl ?_
              refine r_buildSlice (E := I64) (xs := [_]) rfl rfl rfl rfl rfl (by decide) (by decide) (by repeat (first | exact (Parts.nil : Parts _ _ [] _) | (show Parts _ _ ((_, _) :: _) _; apply Parts.one; (· exact (rfl : _ = Ty.int _ _)); (· exact rfl)))) (by exact rfl) rfl ?_
              refine r_append rfl rfl (by decide) rfl rfl rfl rfl rfl rfl (by decide) (by (simp <;> omega)) (by (simp <;> omega)) ?_
              refine asR rfl ?_
              refine r_nil ?_
              refine i_block ?_
              refine i_then ?_
              refine t_region ?_
              refine r_add rfl rfl (by omega) (by omega) ?_
              refine mvI rfl ?_
              refine r_nil ?_
              refine i_round (⟨i.1 + 1, by omega⟩) ?_ (by show maxN a b - (i.1 + 1) < maxN a b - i.1; omega)
              (refine Ent.mk' ?_ ?_ <;> (repeat' (first | exact allSub_zero | exact allTags_nil | refine allSub_succ' ?_ (Ty.sub_any _) | refine allSub_succ' ?_ (Ty.sub_refl _) | refine allSub_succ' ?_ ?_)))
              all_goals skip
              all_goals exact Ty.sub_row (dif_yes hc5)
            ·
              refine t_skip ?_
              refine i_block ?_
              refine i_then ?_
              refine t_region ?_
              refine r_add rfl rfl (by omega) (by omega) ?_
              refine mvI rfl ?_
              refine r_nil ?_
              refine i_round (⟨i.1 + 1, by omega⟩) ?_ (by show maxN a b - (i.1 + 1) < maxN a b - i.1; omega)
              (refine Ent.mk' ?_ ?_ <;> (repeat' (first | exact allSub_zero | exact allTags_nil | refine allSub_succ' ?_ (Ty.sub_any _) | refine allSub_succ' ?_ (Ty.sub_refl _) | refine allSub_succ' ?_ ?_)))
              all_goals skip
              all_goals exact Ty.sub_row (dif_no hc5)
          ·
            refine t_exit ?_
            refine i_then_exit ?_
            refine i_then_exit ?_
            refine i_block_exit rfl ?_
            refine i_then ?_
            refine t_seq ?_
            refine t_region ?_
            refine mvR rfl ?_
            refine asR rfl ?_
            refine asI rfl ?_
            refine r_nil ?_
            refine i_then ?_
            refine t_ret ?_
            refine i_rp2 rfl rfl rfl ?_ ?_
            all_goals skip
            all_goals (rw [dv_3 hA hB hc3 i.2 hc4]; first | exact ret_refl rfl rfl | exact ret_row (by decide))
set_option maxRecDepth 100000 in
theorem c_rDiffer (a b : Book) (ha : a.rows.length ≤ 1000000) (hb : b.rows.length ≤ 1000000) : Ctr Tryd.prog 28 [bokT a, bokT b] (Ty.tup [Ty.sl I64 (difQ a b).1, Ty.int .i64 (difQ a b).2]) := by
  refine fn_intro Tryd.func28 rfl (by decide) Tryd.ntmps28 (by exact Nat.le_of_ble_eq_true rfl) fun w0 M0 => ?_
  refine t_seq ?_
  refine t_region ?_
  refine r_box_agg rfl ?_
  refine r_box_agg rfl ?_
  refine asX rfl ?_
  refine asI rfl ?_
  refine r_nil ?_
  refine i_then ?_
  refine t_seq ?_
  refine t_seq ?_
  refine t_region ?_
  refine r_field_pp rfl rfl rfl rfl rfl (by decide) ?_
  refine r_field_pp rfl rfl rfl rfl rfl (by decide) ?_
  refine r_load_pp rfl rfl rfl rfl ?_
  refine r_field_pp rfl rfl rfl rfl rfl (by decide) ?_
  refine r_field_pp rfl rfl rfl rfl rfl (by decide) ?_
  refine r_load_pp rfl rfl rfl rfl ?_
  refine r_bin rfl rfl rfl ?_
  refine mvB rfl ?_
  apply r_guard (s := 15) rfl rfl rfl
  · intro hg; apply opT_of; (try have hq := dq_lt hg); (try have hq := dq_lt3 hg); (refine r_field_pp rfl rfl rfl rfl rfl (by decide) ?_); refine r_nil ?_; exact rfl
  · exact rfl
  · exact rfl
  apply r_guard (s := 15) rfl rfl rfl
  · intro hg; apply opT_strip (s := 16) rfl (by (rw [hg]; rfl)); apply opT_of; (try have hq := dq_lt hg); (try have hq := dq_lt3 hg); (refine r_field_pp rfl rfl rfl rfl rfl (by decide) ?_); refine r_nil ?_; exact rfl
  · exact rfl
  · exact rfl
  apply r_guard (s := 15) rfl rfl rfl
  · intro hg; apply opT_strip (s := 17) rfl (by (rw [hg]; rfl)); apply opT_of; (try have hq := dq_lt hg); (try have hq := dq_lt3 hg); (refine r_load_pp rfl rfl rfl rfl ?_); refine r_nil ?_; exact rfl
  · exact rfl
  · exact rfl
  apply r_guard (s := 15) rfl rfl rfl
  · intro hg; apply opT_of; (try have hq := dq_lt hg); (try have hq := dq_lt3 hg); (refine r_field_pp rfl rfl rfl rfl rfl (by decide) ?_); refine r_nil ?_; exact rfl
  · exact rfl
  · exact rfl
  apply r_guard (s := 15) rfl rfl rfl
  · intro hg; apply opT_strip (s := 19) rfl (by (rw [hg]; rfl)); apply opT_of; (try have hq := dq_lt hg); (try have hq := dq_lt3 hg); (refine r_field_pp rfl rfl rfl rfl rfl (by decide) ?_); refine r_nil ?_; exact rfl
  · exact rfl
  · exact rfl
  apply r_guard (s := 15) rfl rfl rfl
  · intro hg; apply opT_strip (s := 20) rfl (by (rw [hg]; rfl)); apply opT_of; (try have hq := dq_lt hg); (try have hq := dq_lt3 hg); (refine r_load_pp rfl rfl rfl rfl ?_); refine r_nil ?_; exact rfl
  · exact rfl
  · exact rfl
  apply r_guard (s := 15) rfl rfl rfl
  · intro hg; apply opT_strip (s := 18) rfl (by (rw [hg]; rfl)); apply opT_strip (s := 21) rfl (by (rw [hg]; rfl)); apply opT_of; (try have hq := dq_lt hg); (try have hq := dq_lt3 hg); (refine r_call (c_equal _ _) rfl rfl rfl rfl rfl ?_); refine r_nil ?_; exact rfl
  · exact rfl
  · exact rfl
  apply r_guard (s := 15) rfl rfl rfl
  · intro hg; apply opT_strip (s := 22) rfl (by (rw [hg]; rfl)); apply opT_of; (try have hq := dq_lt hg); (try have hq := dq_lt3 hg); (refine r_not rfl ?_); refine r_nil ?_; exact rfl
  · exact rfl
  · exact rfl
  refine r_or rfl rfl ?_
  refine r_nil ?_
  refine i_then ?_
  refine t_cond rfl (fun hc1 => ?_) (fun hc1 => ?_)
  ·
    refine t_seq ?_
    refine t_region ?_
    refine asX rfl ?_
    refine asI rfl ?_
    refine r_nil ?_
    refine i_then ?_
    refine t_ret ?_
    refine i_then_ret ?_
    refine i_rp2 rfl rfl rfl ?_ ?_
    all_goals skip
    all_goals (rw [dq_1 hc1]; first | exact ret_refl rfl rfl | exact ret_nil)
  ·
    refine t_skip ?_
    refine i_then ?_
    refine t_seq ?_
    refine t_region ?_
    refine asX rfl ?_
    refine r_nil ?_
    refine i_then ?_
    refine t_seq ?_
    refine t_seq ?_
    refine t_region ?_
    refine asI rfl ?_
    refine r_nil ?_
    refine i_then ?_
    refine t_block ?_
    refine t_loop (fun (i : {i : Nat // i ≤ maxN a b}) => live [(2, Ty.pp (bokTys a)), (3, Ty.pp (bokTys b)), (6, Ty.row I64 3 83 (difL a b i.1)), (7, Ty.int .i64 (i.1 : Nat))] []) (fun i => maxN a b - i.1) (⟨0, Nat.zero_le _⟩) ?_ fun i => ?_
    · (refine Ent.mk' ?_ ?_ <;> (repeat' (first | exact allSub_zero | exact allTags_nil | refine allSub_succ' ?_ (Ty.sub_any _) | refine allSub_succ' ?_ (Ty.sub_refl _) | refine allSub_succ' ?_ Ty.nil_row)))
      all_goals trace_state
    ·
      have hdl := dif_len a b i.1
      have hmx : maxN a b ≤ 1000000 := by unfold maxN; omega
      have hil := i.2
      refine t_seq ?_
      refine t_seq ?_
      refine t_region ?_
      refine mvI rfl ?_
      refine r_field_pp rfl rfl rfl rfl rfl (by decide) ?_
      refine r_load_pp rfl rfl rfl rfl ?_
      refine r_len rfl rfl rfl ?_
      refine r_field_pp rfl rfl rfl rfl rfl (by decide) ?_
      refine r_load_pp rfl rfl rfl rfl ?_
      refine r_len rfl rfl rfl ?_
      refine r_max rfl rfl ?_
      refine r_bin rfl rfl rfl ?_
      refine r_nil ?_
      refine i_then ?_
      refine t_cond_dec rfl (fun hc2 => ?_) (fun hc2 => ?_)
      ·
        refine t_skip ?_
        refine i_then ?_
        refine t_seq ?_
        refine t_block ?_
        refine t_seq ?_
        refine t_draw mixed rfl ?_
        refine mvI rfl ?_
        refine r_field_pp rfl rfl rfl rfl rfl (by decide) ?_
        refine r_load_pp rfl rfl rfl rfl ?_
        refine r_len rfl rfl rfl ?_
        refine r_bin rfl rfl rfl ?_
        refine mvB rfl ?_
        apply r_guard (s := 41) rfl rfl rfl
        · intro hg; apply opT_of; (try have hq := dq_lt hg); (try have hq := dq_lt3 hg); (refine mvI rfl ?_); refine r_nil ?_; exact rfl
        · exact rfl
        · exact rfl
        apply r_guard (s := 41) rfl rfl rfl
        · intro hg; apply opT_of; (try have hq := dq_lt hg); (try have hq := dq_lt3 hg); (refine r_field_pp rfl rfl rfl rfl rfl (by decide) ?_); refine r_nil ?_; exact rfl
        · exact rfl
        · exact rfl
        apply r_guard (s := 41) rfl rfl rfl
        · intro hg; apply opT_strip (s := 43) rfl (by (rw [hg]; rfl)); apply opT_of; (try have hq := dq_lt hg); (try have hq := dq_lt3 hg); (refine r_load_pp rfl rfl rfl rfl ?_); refine r_nil ?_; exact rfl
        · exact rfl
        · exact rfl
        apply r_guard (s := 41) rfl rfl rfl
        · intro hg; apply opT_strip (s := 44) rfl (by (rw [hg]; rfl)); apply opT_of; (try have hq := dq_lt hg); (try have hq := dq_lt3 hg); (refine r_len rfl rfl rfl ?_); refine r_nil ?_; exact rfl
        · exact rfl
        · exact rfl
        apply r_guard (s := 41) rfl rfl rfl
        · intro hg; apply opT_strip (s := 42) rfl (by (rw [hg]; rfl)); apply opT_strip (s := 45) rfl (by (rw [hg]; rfl)); apply opT_of; (try have hq := dq_lt hg); (try have hq := dq_lt3 hg); (refine r_bin rfl rfl rfl ?_); refine r_nil ?_; exact rfl
        · exact rfl
        · exact rfl
        refine r_or rfl rfl ?_
        refine mvB rfl ?_
        apply r_guard (s := 48) rfl rfl rfl
        · intro hg; apply opT_of; (try have hq := dq_lt hg); (try have hq := dq_lt3 hg); (refine r_field_pp rfl rfl rfl rfl rfl (by decide) ?_); refine r_nil ?_; exact rfl
        · exact rfl
        · exact rfl
        apply r_guard (s := 48) rfl rfl rfl
        · intro hg; apply opT_strip (s := 49) rfl (by (rw [hg]; rfl)); apply opT_of; (try have hq := dq_lt hg); (try have hq := dq_lt3 hg); (refine r_load_pp rfl rfl rfl rfl ?_); refine r_nil ?_; exact rfl
        · exact rfl
        · exact rfl
        apply r_guard (s := 48) rfl rfl rfl
        · intro hg; apply opT_of; (try have hq := dq_lt hg); (try have hq := dq_lt3 hg); (refine mvI rfl ?_); refine r_nil ?_; exact rfl
        · exact rfl
        · exact rfl
        apply r_guard (s := 48) rfl rfl rfl
        · intro hg; apply opT_strip (s := 50) rfl (by (rw [hg]; rfl)); apply opT_strip (s := 51) rfl (by (rw [hg]; rfl)); apply opT_of; (try have hq := dq_lt hg); (try have hq := dq_lt3 hg); (refine r_index_slN rfl rfl rfl rfl rfl rfl (by omega) ?_); refine r_nil ?_; exact rfl
        · exact rfl
        · exact rfl
        apply r_guard (s := 48) rfl rfl rfl
        · intro hg; apply opT_strip (s := 52) rfl (by (rw [hg]; rfl)); apply opT_of; (try have hq := dq_lt hg); (try have hq := dq_lt3 hg); (refine r_field_pp rfl rfl rfl rfl rfl (by decide) ?_); refine r_nil ?_; exact rfl
        · exact rfl
        · exact rfl
        apply r_guard (s := 48) rfl rfl rfl
        · intro hg; apply opT_strip (s := 53) rfl (by (rw [hg]; rfl)); apply opT_of; (try have hq := dq_lt hg); (try have hq := dq_lt3 hg); (refine r_load_pp rfl rfl rfl rfl ?_); refine r_nil ?_; exact rfl
        · exact rfl
        · exact rfl
        apply r_guard (s := 48) rfl rfl rfl
        · intro hg; apply opT_of; (try have hq := dq_lt hg); (try have hq := dq_lt3 hg); (refine r_field_pp rfl rfl rfl rfl rfl (by decide) ?_); refine r_nil ?_; exact rfl
        · exact rfl
        · exact rfl
        apply r_guard (s := 48) rfl rfl rfl
        · intro hg; apply opT_strip (s := 55) rfl (by (rw [hg]; rfl)); apply opT_of; (try have hq := dq_lt hg); (try have hq := dq_lt3 hg); (refine r_load_pp rfl rfl rfl rfl ?_); refine r_nil ?_; exact rfl
        · exact rfl
        · exact rfl
        apply r_guard (s := 48) rfl rfl rfl
        · intro hg; apply opT_of; (try have hq := dq_lt hg); (try have hq := dq_lt3 hg); (refine mvI rfl ?_); refine r_nil ?_; exact rfl
        · exact rfl
        · exact rfl
        apply r_guard (s := 48) rfl rfl rfl
        · intro hg; apply opT_strip (s := 56) rfl (by (rw [hg]; rfl)); apply opT_strip (s := 57) rfl (by (rw [hg]; rfl)); apply opT_of; (try have hq := dq_lt hg); (try have hq := dq_lt3 hg); (refine r_index_slN rfl rfl rfl rfl rfl rfl (by omega) ?_); refine r_nil ?_; exact rfl
        · exact rfl
        · exact rfl
        apply r_guard (s := 48) rfl rfl rfl
        · intro hg; apply opT_strip (s := 58) rfl (by (rw [hg]; rfl)); apply opT_of; (try have hq := dq_lt hg); (try have hq := dq_lt3 hg); (refine r_field_pp rfl rfl rfl rfl rfl (by decide) ?_); refine r_nil ?_; exact rfl
        · exact rfl
        · exact rfl
        apply r_guard (s := 48) rfl rfl rfl
        · intro hg; apply opT_strip (s := 59) rfl (by (rw [hg]; rfl)); apply opT_of; (try have hq := dq_lt hg); (try have hq := dq_lt3 hg); (refine r_load_pp rfl rfl rfl rfl ?_); refine r_nil ?_; exact rfl
        · exact rfl
        · exact rfl
        apply r_guard (s := 48) rfl rfl rfl
        · intro hg; apply opT_strip (s := 54) rfl (by (rw [hg]; rfl)); apply opT_strip (s := 60) rfl (by (rw [hg]; rfl)); apply opT_of; (try have hq := dq_lt hg); (try have hq := dq_lt3 hg); (refine r_neq_B und4 rfl rfl ?_); refine r_nil ?_; exact rfl
        · exact rfl
        · exact rfl
        refine r_or rfl rfl ?_
        refine mvB rfl ?_
        apply r_guard (s := 63) rfl rfl rfl
        · intro hg; apply opT_of; (try have hq := dq_lt hg); (try have hq := dq_lt3 hg); (refine r_field_pp rfl rfl rfl rfl rfl (by decide) ?_); refine r_nil ?_; exact rfl
        · exact rfl
        · exact rfl
        apply r_guard (s := 63) rfl rfl rfl
        · intro hg; apply opT_strip (s := 64) rfl (by (rw [hg]; rfl)); apply opT_of; (try have hq := dq_lt hg); (try have hq := dq_lt3 hg); (refine r_load_pp rfl rfl rfl rfl ?_); refine r_nil ?_; exact rfl
        · exact rfl
        · exact rfl
        apply r_guard (s := 63) rfl rfl rfl
        · intro hg; apply opT_of; (try have hq := dq_lt hg); (try have hq := dq_lt3 hg); (refine mvI rfl ?_); refine r_nil ?_; exact rfl
        · exact rfl
        · exact rfl
        apply r_guard (s := 63) rfl rfl rfl
        · intro hg; apply opT_strip (s := 65) rfl (by (rw [hg]; rfl)); apply opT_strip (s := 66) rfl (by (rw [hg]; rfl)); apply opT_of; (try have hq := dq_lt hg); (try have hq := dq_lt3 hg); (refine r_index_slN rfl rfl rfl rfl rfl rfl (by omega) ?_); refine r_nil ?_; exact rfl
        · exact rfl
        · exact rfl
        apply r_guard (s := 63) rfl rfl rfl
        · intro hg; apply opT_strip (s := 67) rfl (by (rw [hg]; rfl)); apply opT_of; (try have hq := dq_lt hg); (try have hq := dq_lt3 hg); (refine r_field_pp rfl rfl rfl rfl rfl (by decide) ?_); refine r_nil ?_; exact rfl
        · exact rfl
        · exact rfl
        apply r_guard (s := 63) rfl rfl rfl
        · intro hg; apply opT_strip (s := 68) rfl (by (rw [hg]; rfl)); apply opT_of; (try have hq := dq_lt hg); (try have hq := dq_lt3 hg); (refine r_load_pp rfl rfl rfl rfl ?_); refine r_nil ?_; exact rfl
        · exact rfl
        · exact rfl
        apply r_guard (s := 63) rfl rfl rfl
        · intro hg; apply opT_of; (try have hq := dq_lt hg); (try have hq := dq_lt3 hg); (refine r_field_pp rfl rfl rfl rfl rfl (by decide) ?_); refine r_nil ?_; exact rfl
        · exact rfl
        · exact rfl
        apply r_guard (s := 63) rfl rfl rfl
        · intro hg; apply opT_strip (s := 70) rfl (by (rw [hg]; rfl)); apply opT_of; (try have hq := dq_lt hg); (try have hq := dq_lt3 hg); (refine r_load_pp rfl rfl rfl rfl ?_); refine r_nil ?_; exact rfl
        · exact rfl
        · exact rfl
        apply r_guard (s := 63) rfl rfl rfl
        · intro hg; apply opT_of; (try have hq := dq_lt hg); (try have hq := dq_lt3 hg); (refine mvI rfl ?_); refine r_nil ?_; exact rfl
        · exact rfl
        · exact rfl
        apply r_guard (s := 63) rfl rfl rfl
        · intro hg; apply opT_strip (s := 71) rfl (by (rw [hg]; rfl)); apply opT_strip (s := 72) rfl (by (rw [hg]; rfl)); apply opT_of; (try have hq := dq_lt hg); (try have hq := dq_lt3 hg); (refine r_index_slN rfl rfl rfl rfl rfl rfl (by omega) ?_); refine r_nil ?_; exact rfl
        · exact rfl
        · exact rfl
        apply r_guard (s := 63) rfl rfl rfl
        · intro hg; apply opT_strip (s := 73) rfl (by (rw [hg]; rfl)); apply opT_of; (try have hq := dq_lt hg); (try have hq := dq_lt3 hg); (refine r_field_pp rfl rfl rfl rfl rfl (by decide) ?_); refine r_nil ?_; exact rfl
        · exact rfl
        · exact rfl
        apply r_guard (s := 63) rfl rfl rfl
        · intro hg; apply opT_strip (s := 74) rfl (by (rw [hg]; rfl)); apply opT_of; (try have hq := dq_lt hg); (try have hq := dq_lt3 hg); (refine r_load_pp rfl rfl rfl rfl ?_); refine r_nil ?_; exact rfl
        · exact rfl
        · exact rfl
        apply r_guard (s := 63) rfl rfl rfl
        · intro hg; apply opT_strip (s := 69) rfl (by (rw [hg]; rfl)); apply opT_strip (s := 75) rfl (by (rw [hg]; rfl)); apply opT_of; (try have hq := dq_lt hg); (try have hq := dq_lt3 hg); (refine r_call (c_equal _ _) rfl rfl rfl rfl rfl ?_); refine r_nil ?_; exact rfl
        · exact rfl
        · exact rfl
        apply r_guard (s := 63) rfl rfl rfl
        · intro hg; apply opT_strip (s := 76) rfl (by (rw [hg]; rfl)); apply opT_of; (try have hq := dq_lt hg); (try have hq := dq_lt3 hg); (refine r_not rfl ?_); refine r_nil ?_; exact rfl
        · exact rfl
        · exact rfl
        refine r_or rfl rfl ?_
        refine r_nil ?_
        refine ⟨by kernel_rfl, ?_⟩
        refine i_then ?_
        refine t_cond rfl (fun hc3 => ?_) (fun hc3 => ?_)
        ·
          refine t_region ?_
          refine mvR rfl ?_
          refine mvI rfl ?_
          refine r_buildSlice (E := I64) (xs := [_]) rfl rfl rfl rfl rfl (by decide) (by decide) (by repeat (first | exact (Parts.nil : Parts _ _ [] _) | (show Parts _ _ ((_, _) :: _) _; apply Parts.one; (· exact (rfl : _ = Ty.int _ _)); (· exact rfl)))) (by exact rfl) rfl ?_
          refine r_append rfl rfl (by decide) rfl rfl rfl rfl rfl rfl (by decide) (by (simp <;> omega)) (by (simp <;> omega)) ?_
          refine asR rfl ?_
          refine r_nil ?_
          refine i_block ?_
          refine i_then ?_
          refine t_region ?_
          refine mvI rfl ?_
          refine r_add rfl rfl (by omega) (by omega) ?_
          refine asI rfl ?_
          refine r_nil ?_
          refine i_round (⟨i.1 + 1, by unfold maxN; omega⟩) ?_ (by show maxN a b - (i.1 + 1) < maxN a b - i.1; unfold maxN; omega)
          (refine Ent.mk' ?_ ?_ <;> (repeat' (first | exact allSub_zero | exact allTags_nil | refine allSub_succ' ?_ (Ty.sub_any _) | refine allSub_succ' ?_ (Ty.sub_refl _) | refine allSub_succ' ?_ ?_)))
          all_goals skip
          all_goals exact Ty.sub_row (dif_yes (dq_b.symm.trans hc3))
        ·
          refine t_skip ?_
          refine i_block ?_
          refine i_then ?_
          refine t_region ?_
          refine mvI rfl ?_
          refine r_add rfl rfl (by omega) (by omega) ?_
          refine asI rfl ?_
          refine r_nil ?_
          refine i_round (⟨i.1 + 1, by unfold maxN; omega⟩) ?_ (by show maxN a b - (i.1 + 1) < maxN a b - i.1; unfold maxN; omega)
          (refine Ent.mk' ?_ ?_ <;> (repeat' (first | exact allSub_zero | exact allTags_nil | refine allSub_succ' ?_ (Ty.sub_any _) | refine allSub_succ' ?_ (Ty.sub_refl _) | refine allSub_succ' ?_ ?_)))
          all_goals skip
          all_goals exact Ty.sub_row (dif_no (dq_b.symm.trans hc3))
      ·
        refine t_exit ?_
        refine i_then_exit ?_
        refine i_then_exit ?_
        refine i_block_exit rfl ?_
        refine i_then ?_
        refine t_seq ?_
        refine t_region ?_
        refine mvR rfl ?_
        refine asR rfl ?_
        refine asI rfl ?_
        refine r_nil ?_
        refine i_then ?_
        refine t_ret ?_
        refine i_rp2 rfl rfl rfl ?_ ?_
        all_goals skip
        all_goals (rw [dq_2 hc1 i.2 hc2]; first | exact ret_refl rfl rfl | exact ret_row (by decide))
end Go.Proofs.YtjjndkenddigiaaDoor

namespace Go.Proofs.YtjjndkenddigiaaDoor
open Go Go.T
end Go.Proofs.YtjjndkenddigiaaDoor

namespace Go.Proofs.YtjjndkenddigiaaDoor
open Go Go.T
set_option maxHeartbeats 1000000

attribute [local irreducible] dInt dBool dSl dPp dPtr dAgg dTup dClo dAny dEx dStr dGd dCells dVec dVs dRow dOp nth Tri Into TOps Ctr bodyPost Exit.then Exit.inBlock Code.wp Code.wpIn dPa dArr dMp dMap CtrG keepPost iterPost bodyPostM roundQ
end Go.Proofs.YtjjndkenddigiaaDoor

namespace Go.Proofs.YtjjndkenddigiaaDoor
open Go Go.T
end Go.Proofs.YtjjndkenddigiaaDoor

namespace Go.Proofs.YtjjndkenddigiaaDoor
open Go Go.T
set_option maxHeartbeats 1000000
attribute [local irreducible] sumC
attribute [local irreducible] dInt dBool dSl dPp dPtr dAgg dTup dClo dAny dEx dStr dGd dCells dVec dVs dRow dOp nth Tri Into TOps Ctr bodyPost Exit.then Exit.inBlock Code.wp Code.wpIn dPa dArr dMp dMap CtrG keepPost iterPost bodyPostM roundQ
end Go.Proofs.YtjjndkenddigiaaDoor

namespace Go.Proofs.YtjjndkenddigiaaDoor
open Go Go.T
set_option maxHeartbeats 1000000
attribute [local irreducible] sumC lnP lineB
attribute [local irreducible] dInt dBool dSl dPp dPtr dAgg dTup dClo dAny dEx dStr dGd dCells dVec dVs dRow dOp nth Tri Into TOps Ctr bodyPost Exit.then Exit.inBlock Code.wp Code.wpIn dPa dArr dMp dMap CtrG keepPost iterPost bodyPostM roundQ
end Go.Proofs.YtjjndkenddigiaaDoor

namespace Go.Proofs.YtjjndkenddigiaaDoor
open Go Go.T
def filS (f : BForm) (p : Rdr) (s t : Byt) : List (Byt × Rdr) := (fillR f p t).map fun x => (s ++ x.1, x.2)
def allF (f : BForm) (text : Byt) : List (Byt × Rdr) := fillR f Rdr.new text
theorem fil_all (f : BForm) (text : Byt) : filS f Rdr.new [] text = allF f text := by
  unfold filS allF
  induction fillR f Rdr.new text with
  | nil => rfl
  | cons x l ih => rw [List.map_cons, ih]; rfl
theorem fil_nil {f : BForm} {p : Rdr} {s : Byt} : filS f p s [] = if wholeR p = true then [(s, p)] else [] := by
  unfold filS fillR; split <;> simp
theorem fil_step {f : BForm} {p : Rdr} {s t : Byt} {c : UInt8} (h : c ≠ 63) (hc : c ∈ canR f p) : filS f p s (c :: t) = filS f (nextR f p c) (s ++ [c]) t := by
  unfold filS
  rw [fillR, if_pos h, show stepR f p c = some (nextR f p c) from if_pos hc]
  simp only [List.map_map]
  apply List.map_congr_left
  intro x _; simp
theorem fil_stop {f : BForm} {p : Rdr} {s t : Byt} {c : UInt8} (h : c ≠ 63) (hc : c ∉ canR f p) : filS f p s (c :: t) = [] := by
  unfold filS
  rw [fillR, if_pos h, show stepR f p c = none from if_neg hc]; rfl
theorem fil_torn {f : BForm} {p : Rdr} {s t : Byt} : filS f p s (63 :: t) = (canR f p).flatMap fun d => filS f (nextR f p d) (s ++ [d]) t := by
  unfold filS
  rw [fillR, if_neg (by decide), List.map_flatMap]
  congr 1
  funext d
  rw [List.map_map]
  apply List.map_congr_left
  intro x _; simp
def upF (f : BForm) (p : Rdr) (s t : Byt) (j : Nat) : List (Byt × Rdr) := ((canR f p).take j).flatMap fun d => filS f (nextR f p d) (s ++ [d]) t
theorem up_zero (f : BForm) (p : Rdr) (s t : Byt) : upF f p s t 0 = [] := by simp [upF]
theorem up_succ {f : BForm} {p : Rdr} {s t : Byt} {j : Nat} (h : j < (canR f p).length) : upF f p s t (j + 1) = upF f p s t j ++ filS f (nextR f p (nth (canR f p) j)) (s ++ [nth (canR f p) j]) t := by
  unfold upF; rw [take_nth h, List.flatMap_append]; simp
theorem up_all {f : BForm} {p : Rdr} {s t : Byt} : upF f p s t (canR f p).length = filS f p s (63 :: t) := by
  unfold upF; rw [List.take_length, fil_torn]
theorem up_pre {f : BForm} {p : Rdr} {s t : Byt} {j : Nat} (h : j < (canR f p).length) : upF f p s t j ++ filS f (nextR f p (nth (canR f p) j)) (s ++ [nth (canR f p) j]) t <+: filS f p s (63 :: t) := by
  rw [← up_succ h, fil_torn]
  refine ⟨((canR f p).drop (j + 1)).flatMap fun d => filS f (nextR f p d) (s ++ [d]) t, ?_⟩
  unfold upF
  rw [← List.flatMap_append, List.take_append_drop]
theorem pre_drop {α : Type} {l a b : List α} {k : Nat} (h : a ++ b <+: l.drop k) : b <+: l.drop (k + a.length) := by
  obtain ⟨r, e⟩ := h
  refine ⟨r, ?_⟩
  rw [← List.drop_drop, ← e, List.append_assoc, List.drop_left]
theorem pre_get {α : Type} {l : List α} {x : α} {k : Nat} (h : [x] <+: l.drop k) : l[k]? = some x := by
  obtain ⟨r, e⟩ := h
  have := congrArg List.head? e
  rw [List.head?_drop] at this
  exact this.symm
theorem drop_cons' {a : Byt} {k : Nat} (h : k < a.length) : a.drop k = nth a k :: a.drop (k + 1) := drop_nth h
def rdrPl (f : BForm) (p : Rdr) : List Ty := [Ty.sl I64 f.widths, Ty.int .i64 f.lines, Ty.int .i64 p.rows, Ty.int .i64 p.page, Ty.bool p.begun, Ty.bool p.closed, Ty.int .i64 p.column, Ty.int .i64 p.offset, Ty.int .i64 p.number, Ty.bool p.digits, Ty.sl BRowE p.read, Ty.str (bs p.must)]
def encF (f : BForm) (x : Byt × Rdr) : List Ty := [Ty.str (bs x.1), Ty.pp (rdrPl f x.2)]
theorem fillR_ok {f : BForm} : ∀ (t : Byt) (p : Rdr), RdrOk f p → ∀ x ∈ fillR f p t, RdrOk f x.2 ∧ wholeR x.2 = true ∧ x.1.length = t.length
  | [], p, ho, x, hx => by
    rw [fillR] at hx
    split at hx
    · rename_i hw; rw [List.mem_singleton.1 hx]; exact ⟨ho, hw, rfl⟩
    · cases hx
  | c :: t, p, ho, x, hx => by
    rw [fillR] at hx
    split at hx
    · rename_i hc
      unfold stepR at hx
      split at hx
      · cases hx
      · rename_i q hq
        split at hq
        · rename_i hm
          injection hq with hq
          subst hq
          obtain ⟨y, hy, rfl⟩ := List.mem_map.1 hx
          obtain ⟨h1, h2, h3⟩ := fillR_ok t _ (next_ok ho hm) y hy
          exact ⟨h1, h2, by simp [h3]⟩
        · cases hq
    · obtain ⟨d, hd, hx⟩ := List.mem_flatMap.1 hx
      obtain ⟨y, hy, rfl⟩ := List.mem_map.1 hx
      obtain ⟨h1, h2, h3⟩ := fillR_ok t _ (next_ok ho hd) y hy
      exact ⟨h1, h2, by simp [h3]⟩
end Go.Proofs.YtjjndkenddigiaaDoor

namespace Go.T
open Go Go.RowKit
def viewF (Mc : Tags) (g : Option Nat) (own : Nat → Option Nat) : Tags := fun b => match Mc b with | none => none | some u => if u < Zt then some 7000 else if some b = g then some 1000 else match own b with | some t => some t | none => some 5000
structure OwnF (Mc : Tags) (g : Option Nat) (own : Nat → Option Nat) : Prop where
  at' : ∀ b t, own b = some t → Mc b = some (Zt + b) ∧ some b ≠ g ∧ 1001 < t ∧ t < 1010
  inj : ∀ b b' t, own b = some t → own b' = some t → b = b'
section
variable {Mc : Tags} {g : Option Nat} {own : Nat → Option Nat} {b : Nat}
theorem viewF_none (h : viewF Mc g own b = none) : Mc b = none := by
  unfold viewF at h
  split at h
  · assumption
  · split at h
    · cases h
    · split at h
      · cases h
      · split at h <;> cases h
theorem viewF_none' (h : Mc b = none) : viewF Mc g own b = none := by simp [viewF, h]
theorem viewF_g {b : Nat} (h : Mc b = some (Zt + b)) : viewF Mc (some b) own b = some 1000 := by
  have : ¬ Zt + b < Zt := by omega
  simp [viewF, h, this]
theorem viewF_own {t : Nat} (ho : OwnF Mc g own) (h : own b = some t) : viewF Mc g own b = some t := by
  obtain ⟨h1, h2, _⟩ := ho.at' b t h
  have : ¬ Zt + b < Zt := by omega
  simp [viewF, h1, h2, this, h]
theorem viewF_old (h : Mc b = some (Zt + b)) (hg : some b ≠ g) (ho : own b = none) : viewF Mc g own b = some 5000 := by
  have : ¬ Zt + b < Zt := by omega
  simp [viewF, h, hg, this, ho]
theorem viewF_wf {w : World} (wf : Wf w Mc) (ho : OwnF Mc g own) : Wf w (viewF Mc g own) := by
  refine ⟨fun b t h => ?_, fun b b' t ht h h' => ?_, wf.amb.same fun b h => viewF_none' h⟩
  · cases hm : Mc b with
    | none => rw [viewF_none' hm] at h; cases h
    | some u => exact wf.lt b u hm
  · have key : ∀ b, viewF Mc g own b = some (t + 1) → (some b = g ∧ t + 1 = 1000) ∨ own b = some (t + 1) := fun b h => by
      unfold viewF at h
      split at h
      · cases h
      · split at h
        · injection h with h; omega
        · split at h
          · injection h with h; rename_i hg; exact .inl ⟨hg, h.symm⟩
          · split at h
            · rename_i q hq; injection h with h; subst h; exact .inr hq
            · injection h with h; omega
    rcases key b h with ⟨e1, e2⟩ | e1 <;> rcases key b' h' with ⟨e3, e4⟩ | e3
    · rw [← e3] at e1; injection e1
    · have := (ho.at' _ _ e3).2.2.1; omega
    · have := (ho.at' _ _ e1).2.2.1; omega
    · exact ho.inj _ _ _ e1 e3
theorem viewF_ck {w : World} {J : World → Tags → Prop} (wf : Wf w Mc) (z : ZOk Mc) (hj : J w Mc) : dCK J w (viewF Mc g own) := by
  refine ⟨Mc, wf, z, hj, fun b h => viewF_none h, fun b u _ h hu => ?_⟩
  unfold viewF at h
  split at h
  · cases h
  · rename_i v hv
    split at h
    · injection h with h; exact absurd h.symm hu
    · rw [hv]; congr 1; exact z b v hv (by omega)
end
def takeF (own : Nat → Option Nat) (t : Nat) : Prop := t < Zt ∨ ∃ b, t = Zt + b ∧ own b ≠ none
def yPostF (own : Nat → Option Nat) (w : World) (Mc : Tags) (J1 Jx : World → Tags → Prop) (e : Ending) (w' : World) : Prop :=
  ∃ M', Wf w' M' ∧ ZOk M' ∧ Le (takeF own) (takeF own) w Mc w' M' ∧ ((e = .returned (.bool true) ∧ J1 w' M') ∨ (e = .returned (.bool false) ∧ Jx w' M'))
def MoreF (P : Program) (f : FuncId) (T : Nat) (capTys args : List Ty) (J0 J1 Jx : World → Tags → Prop) : Prop :=
  (∃ fn, P.funcs[f]? = some fn ∧ (fn.name == "runtime.NumGoroutine") = false ∧ fn.body.isNone = false) ∧
  ∀ (w : World) (Mc : Tags) (g : Nat) (own : Nat → Option Nat) (vs cs cs' : List Value), Wf w Mc → ZOk Mc → OwnF Mc (some g) own → dens w (viewF Mc (some g) own) args vs → dens w Mc capTys cs → dens w Mc capTys cs' → Mc g = some (Zt + g) →
    w.heap[g]? = some (.cells #[.func (.func f) #[] (cs' ++ [gp g]).toArray] T (0, 0)) → J0 w Mc →
    Calls P f (vs ++ (cs ++ [gp g])).toArray w (yPostF own w Mc J1 Jx)
def FndC (P : Program) (fv : Value) (encs : List (List Ty)) (J : Nat → World → Tags → Prop) (Jx : World → Tags → Prop) : Prop :=
  ∃ fid cs, fv = .func (.func fid) #[] cs ∧ (∃ fn, P.funcs[fid]? = some fn ∧ (fn.name == "runtime.NumGoroutine") = false ∧ fn.body.isNone = false) ∧
  ∀ (k : Nat) (tys : List Ty), encs[k]? = some tys → ∀ w Mc vs, Wf w Mc → ZOk Mc → J k w Mc → dens w Mc tys vs → Calls P fid (vs ++ cs.toList).toArray w (yPost w Mc (J (k + 1)) Jx)
def oldF (Mc : Tags) (g : Nat) (own : Nat → Option Nat) (b : Nat) : Prop := Mc b = some (Zt + b) ∧ b ≠ g ∧ own b = none
section
variable {P : Program}
theorem moreF_intro {f : FuncId} {fn : Func} {c : Code} {T : Nat} {capTys args : List Ty} {J0 J1 Jx : World → Tags → Prop} {n : Nat} (h0 : Cb J0) (hf : P.funcs[f]? = some fn) (hb : fn.body = some c) (hn : (fn.name == "runtime.NumGoroutine") = false) (hnt : fn.ntmps = n) (hl : (args ++ (capTys ++ [Ty.ptr 1000 0])).length ≤ n)
    (h3 : depsOf capTys = []) (h4 : cdepsOf capTys = [])
    (h : ∀ w Mc g own cs', Wf w Mc → ZOk Mc → OwnF Mc (some g) own → Mc g = some (Zt + g) → w.heap[g]? = some (.cells #[.func (.func f) #[] (cs' ++ [gp g]).toArray] T (0, 0)) →
      Tri P ⟨n, w, viewF Mc (some g) own, [7000, 5000, 1000], .marks⟩ c (entryG (args ++ (capTys ++ [Ty.ptr 1000 0])) [(7000, .ck h0), (1000, .cells T [.ex (.func (.func f) #[] (cs' ++ [gp g]).toArray)]), (1001, .me g T (.func (.func f) #[] (cs' ++ [gp g]).toArray) capTys cs' h3 h4), (5000, .snap w (oldF Mc g own))]) (bodyPostM Fence.wide 0 P fn (yPostF own w Mc J1 Jx))) : MoreF P f T capTys args J0 J1 Jx := by
  refine ⟨⟨fn, hf, hn, by rw [hb]; rfl⟩, fun w Mc g own vs cs cs' wf z ho hv hcs hcs' hg hh hj => callsIn_wide.1 (callsIn_of_wp_marks (n := 0) hf hb trivial (h w Mc g own cs' wf z ho hg hh _ _ ?_))⟩
  have hnn : ∀ b, Mc b = none → viewF Mc (some g) own b = none := fun b hb => viewF_none' hb
  have hg0 : viewF Mc (some g) own g = some 1000 := viewF_g hg
  have hall : dens w (viewF Mc (some g) own) (args ++ (capTys ++ [Ty.ptr 1000 0])) (vs ++ (cs ++ [gp g])) := dens_append hv (dens_append (conv_nodeps hnn h3 h4 hcs) ⟨⟨g, hg0, rfl⟩, trivial⟩)
  have hlen := dens_len hall
  refine ⟨viewF Mc (some g) own, ⟨viewF_wf wf ho, Le.refl _ _ _ _, by simp [hnt]; simp at hlen hl; omega, Defs.nil⟩, fun c hc => ?_, fun x hx => ?_⟩
  · simp only [entryG]
    cases ha : (args ++ (capTys ++ [Ty.ptr 1000 0]))[c]? with
    | none => trivial
    | some ty =>
      obtain ⟨v, hv, hdv⟩ := dens_get hall c ty ha
      have : ((vs ++ (cs ++ [gp g])).toArray ++ Array.replicate (fn.ntmps - (vs ++ (cs ++ [gp g])).toArray.size) undef).getD c undef = v := by
        have hlt : c < (vs ++ (cs ++ [gp g])).length := (List.getElem?_eq_some_iff.1 hv).1
        rw [Array.getD_eq_getD_getElem?, Array.getElem?_append_left (by simpa using hlt), List.getElem?_toArray, hv]; rfl
      rw [this]; exact hdv
  · simp only [entryG, List.mem_cons, List.not_mem_nil, or_false] at hx
    rcases hx with rfl | rfl | rfl | rfl
    · exact ⟨rfl, viewF_ck wf z hj⟩
    · exact ⟨g, _, hg0, hh, rfl, trivial⟩
    · exact ⟨hg0, hh, conv_nodeps hnn h3 h4 hcs'⟩
    · intro b ⟨hb1, hb2, hb3⟩
      exact ⟨viewF_old hb1 (by simpa using hb2) hb3, rfl⟩
section
variable {A : As} {fn : Func} {n : Nat} {J1 Jx : World → Tags → Prop}
theorem fret_le {w w' : World} {Mc M Mc' : Tags} {g T : Nat} {own : Nat → Option Nat} {v : Value} {tys : List Ty} {cs : List Value} {h3 : depsOf tys = []} {h4 : cdepsOf tys = []} (z : ZOk Mc) (wf : Wf w Mc) (hg : w.heap[g]? = some (.cells #[v] T (0, 0)))
    (hb : Le (fun t => 1 ≤ t) (fun t => 1 ≤ t ∧ t ∉ [7000, 5000, 1000]) w (viewF Mc (some g) own) w' M) (hm : (Cont.me g T v tys cs h3 h4).den w' M 1001) (ho : (Cont.snap w (oldF Mc g own)).den w' M 5000) (k1 : ∀ b, M b = none → Mc' b = none) (k2 : ∀ b u, b < w'.heap.size → M b = some u → u ≠ 7000 → Mc' b = some (Zt + b)) :
    Le (takeF own) (takeF own) w Mc w' Mc' := by
  refine ⟨hb.size, hb.os, hb.tape, hb.out, fun b hlt h => ?_, fun b t h ht => ?_⟩
  · obtain ⟨a, c⟩ := hb.pub b hlt (viewF_none' h)
    exact ⟨k1 b a, c⟩
  · have hz : ¬ t < Zt := fun e => ht (.inl e)
    have e := z b t h (by omega)
    subst e
    have hlt : b < w'.heap.size := Nat.lt_of_lt_of_le (wf.lt b _ h) hb.size
    have hno : own b = none := Classical.byContradiction fun e => ht (.inr ⟨b, rfl, e⟩)
    by_cases e : b = g
    · subst e
      exact ⟨k2 b 1000 hlt hm.1 (by decide), fun _ => hm.2.1.trans hg.symm⟩
    · obtain ⟨a, c⟩ := ho b ⟨h, e, hno⟩
      exact ⟨k2 b 5000 hlt a (by decide), fun _ => c⟩
variable [T : Tab P]
theorem results_cell1 {tm ty b : Nat} {ti : TI} {v : Value} {w : World} {tmps : Array Value} (hr : fn.results = #[.cell tm ty]) (hT : T.tab[ty]? = some ti) (ha : ti.k.agg = false) (e : tmps.getD tm undef = .pointer (some ⟨b, 0, none⟩)) (hc : w.cell? ⟨b, 0, none⟩ = some v) : (results fn tmps).run P w = .ok v w := by
  have hload : (loadVar ty ⟨b, 0, none⟩).run P w = .ok v w := by
    have := run_load1 (P := P) hT ha (w := w) (b := b) (off := 0) hc
    simpa [Instr.loadAt, Instr.sureAddr] using this
  have e'' : tmps[tm]?.getD undef = .pointer (some ⟨b, 0, none⟩) := by rw [← Array.getD_eq_getD_getElem?]; exact e
  simp [results, hr, e'', asAddr, hload]
theorem cell_at {tm tg Tb : Nat} {ty : Ty} {w : World} {M : Tags} {x : Value} (wf : Wf w M) (hx : (Ty.ptr tg 0).den w M x) (hc : (Cont.cells Tb [ty]).den w M tg) (h1 : Tag1 tg) : ∃ b v, x = .pointer (some ⟨b, 0, none⟩) ∧ w.cell? ⟨b, 0, none⟩ = some v ∧ ty.den w M v := by
  obtain ⟨b, hb, e⟩ := hx
  obtain ⟨b', ⟨cs⟩, hb', hh, hds⟩ := hc
  obtain ⟨u, rfl⟩ : ∃ u, tg = u + 1 := ⟨tg - 1, by have := h1.1; omega⟩
  have := wf.inj b b' u h1.2 hb hb'
  subst this
  match cs, hds with
  | [v], ⟨hv, _⟩ => exact ⟨b, v, e, by simp [World.cell?, hh], hv⟩
theorem i_retFy {tm ty tg Tb g Tg : Nat} {ti : TI} {w : World} {Mc : Tags} {own : Nat → Option Nat} {v : Value} {tys : List Ty} {cs : List Value} {t : Ty} {h3 : depsOf tys = []} {h4 : cdepsOf tys = []} {h1 : Cb J1} {hx : Cb Jx} (z : ZOk Mc) (wf : Wf w Mc) (hg : w.heap[g]? = some (.cells #[v] Tg (0, 0))) (hr : fn.results = #[.cell tm ty]) (htm : Nat.blt tm n = true) (hs : A.slots tm = .ptr tg 0) (hc : A.tag tg = some (.cells Tb [t])) (h1' : Tag1 tg) (hT : T.tab[ty]? = some ti) (ha : ti.k.agg = false) (hm : A.tag 1001 = some (.me g Tg v tys cs h3 h4)) (ho : A.tag 5000 = some (.snap w (oldF Mc g own))) (ht : t.Sub (.yb true h1 hx)) :
    Into ⟨n, w, viewF Mc (some g) own, [7000, 5000, 1000], .plain⟩ A (bodyPost P fn (yPostF own w Mc J1 Jx) .ret) := by
  intro a w' ⟨M, ok, hsl, htg⟩
  have hd := hsl tm (by simpa using htm)
  rw [hs] at hd
  obtain ⟨b, x, e, hcl, hdx⟩ := cell_at (tm := tm) ok.wf hd (htg _ (tag_mem hc)) h1'
  have hres := results_cell1 (P := P) (fn := fn) hr hT ha e hcl
  rcases ht _ _ _ hdx with ⟨ev, Mc', wf', z', hj, k1, k2⟩ | ⟨ev, Mc', wf', z', hj, k1, k2⟩
  · exact ⟨ok.nodefers (by simp), _, hres, Mc', wf', z', fret_le (h3 := h3) (h4 := h4) z wf hg ok.base (htg _ (tag_mem hm)) (htg _ (tag_mem ho)) k1 k2, .inl ⟨by rw [ev], hj⟩⟩
  · exact ⟨ok.nodefers (by simp), _, hres, Mc', wf', z', fret_le (h3 := h3) (h4 := h4) z wf hg ok.base (htg _ (tag_mem hm)) (htg _ (tag_mem ho)) k1 k2, .inr ⟨by rw [ev]; rfl, hj⟩⟩
theorem i_retFt {tm ty tg Tb g Tg : Nat} {ti : TI} {w : World} {Mc : Tags} {own : Nat → Option Nat} {v : Value} {tys : List Ty} {cs : List Value} {h3 : depsOf tys = []} {h4 : cdepsOf tys = []} {J : World → Tags → Prop} {hj : Cb J} (z : ZOk Mc) (wf : Wf w Mc) (e : J = J1) (hg : w.heap[g]? = some (.cells #[v] Tg (0, 0))) (hr : fn.results = #[.cell tm ty]) (htm : Nat.blt tm n = true) (hs : A.slots tm = .ptr tg 0) (hc : A.tag tg = some (.cells Tb [.bool true])) (h1' : Tag1 tg) (hT : T.tab[ty]? = some ti) (ha : ti.k.agg = false) (hm : A.tag 1001 = some (.me g Tg v tys cs h3 h4)) (ho : A.tag 5000 = some (.snap w (oldF Mc g own))) (hk : A.tag 7000 = some (.ck hj)) :
    Into ⟨n, w, viewF Mc (some g) own, [7000, 5000, 1000], .plain⟩ A (bodyPost P fn (yPostF own w Mc J1 Jx) .ret) := by
  subst e
  intro a w' ⟨M, ok, hsl, htg⟩
  have hd := hsl tm (by simpa using htm)
  rw [hs] at hd
  obtain ⟨b, x, e, hcl, hdx⟩ := cell_at (tm := tm) ok.wf hd (htg _ (tag_mem hc)) h1'
  have hres := results_cell1 (P := P) (fn := fn) hr hT ha e hcl
  have ev : x = .bool true := hdx
  obtain ⟨_, Mc', wf', z', hj, k1, k2⟩ := htg _ (tag_mem hk)
  exact ⟨ok.nodefers (by simp), _, hres, Mc', wf', z', fret_le (h3 := h3) (h4 := h4) z wf hg ok.base (htg _ (tag_mem hm)) (htg _ (tag_mem ho)) k1 k2, .inl ⟨by rw [ev], hj⟩⟩
theorem i_retFx {tm ty tg Tb g Tg : Nat} {ti : TI} {w : World} {Mc : Tags} {own : Nat → Option Nat} {v : Value} {tys : List Ty} {cs : List Value} {h3 : depsOf tys = []} {h4 : cdepsOf tys = []} {hx : Cb Jx} (z : ZOk Mc) (wf : Wf w Mc) (hg : w.heap[g]? = some (.cells #[v] Tg (0, 0))) (hr : fn.results = #[.cell tm ty]) (htm : Nat.blt tm n = true) (hs : A.slots tm = .ptr tg 0) (hc : A.tag tg = some (.cells Tb [.bool false])) (h1' : Tag1 tg) (hT : T.tab[ty]? = some ti) (ha : ti.k.agg = false) (hm : A.tag 1001 = some (.me g Tg v tys cs h3 h4)) (ho : A.tag 5000 = some (.snap w (oldF Mc g own))) (hk : A.tag 7000 = some (.ck hx)) :
    Into ⟨n, w, viewF Mc (some g) own, [7000, 5000, 1000], .plain⟩ A (bodyPost P fn (yPostF own w Mc J1 Jx) .ret) := by
  intro a w' ⟨M, ok, hsl, htg⟩
  have hd := hsl tm (by simpa using htm)
  rw [hs] at hd
  obtain ⟨b, x, e, hcl, hdx⟩ := cell_at (tm := tm) ok.wf hd (htg _ (tag_mem hc)) h1'
  have hres := results_cell1 (P := P) (fn := fn) hr hT ha e hcl
  have ev : x = .bool false := hdx
  obtain ⟨_, Mc', wf', z', hj, k1, k2⟩ := htg _ (tag_mem hk)
  exact ⟨ok.nodefers (by simp), _, hres, Mc', wf', z', fret_le (h3 := h3) (h4 := h4) z wf hg ok.base (htg _ (tag_mem hm)) (htg _ (tag_mem ho)) k1 k2, .inr ⟨by rw [ev], hj⟩⟩
end
variable {fr : Fr} {ops : Array Oper} {A : As} {rest : List Oper} {K : As → List (As × Fx) → Prop} {d : Nat} {t ty' : TypeId} {p : String} {e : Array Edge}
theorem r_callFnd {c k : Nat} {fv : Value} {encs : List (List Ty)} {J : Nat → World → Tags → Prop} {Jx : World → Tags → Prop} (hJ : ∀ k, Cb (J k)) (hJx : Cb Jx) (hF : FndC P fv encs J Jx) {xs : List Operand} {ats : Array TypeId} {tys : List Ty}
    (hc : A.op fr (.tmp c) = .ex fv) (hx : opsTy A fr xs = tys) (hd : depsOf tys = []) (hdc : cdepsOf tys = []) (hk : encs[k]? = some tys) (ht : A.tag 7000 = some (.ck (hJ k)))
    (h : TOps P fr ops rest (A.after { d := some d, ty := .yb true (hJ (k + 1)) hJx, S := [7000], rs := c :: xs.flatMap opR, rt := [7000] }) fun A' l' => K A' ((A, { d := some d, ty := .yb true (hJ (k + 1)) hJx, S := [7000], rs := c :: xs.flatMap opR, rt := [7000] }) :: l')) :
    TOps P fr ops (⟨some d, .call ⟨.value (.tmp c), xs.toArray, ats⟩, t, p, e, none⟩ :: rest) A K := by
  refine ⟨{ d := some d, ty := .yb true (hJ (k + 1)) hJx, S := [7000], rs := c :: xs.flatMap opR, rt := [7000] }, ⟨rfl, by simp, by simp, by simp, fun a w M wf hsz hrd htg => ?_⟩, h⟩
  rw [if_pos (by simp [Region.wanted])]
  have hcv := op_den (x := .tmp c) (rs := c :: xs.flatMap opR) (fun u hu => by exact (List.mem_singleton.1 hu) ▸ List.mem_cons_self) hrd
  rw [hc] at hcv
  obtain ⟨fid, cs, efv, ⟨fn, hf, hn, hb⟩, hcall⟩ := hF
  subst efv
  have hcv : a.eval (.tmp c) = .func (.func fid) #[] cs := hcv
  obtain ⟨_, Mc, wfc, z, hj, h1, h2⟩ := htg _ (tag_mem ht) (by simp)
  have hv : dens w Mc tys (xs.map a.eval) := conv_nodeps h1 hd hdc (hx ▸ opsTy_dens (rs := c :: xs.flatMap opR) hrd fun x hx c hc => List.mem_cons_of_mem _ (List.mem_flatMap.2 ⟨x, hx, hc⟩))
  have hn' : fn.name ≠ "runtime.NumGoroutine" := by simpa using hn
  have hb' : fn.body ≠ none := fun h => by rw [h] at hb; cases hb
  refine wp_in_enter (f := fid) (args := (xs.map a.eval ++ cs.toList).toArray) (by simp [execOp, resolve, hcv, Deferred.ofValue, invoke, callFunc, hf, hn', hb']) ((hcall k tys hk w Mc _ wfc z hj hv).mono fun en w' ⟨Mc', wf', z', le, hor⟩ => ?_)
  obtain ⟨g1, g2, g3, g4⟩ := backY_ok wf wf' h1 h2 le
  rcases hor with ⟨rfl, hj'⟩ | ⟨rfl, hj'⟩
  · exact ⟨.bool true, rfl, .bool true, rfl, _, g1, g2, .inl ⟨rfl, Mc', wf', z', hj', g3, g4⟩, by simp⟩
  · exact ⟨.bool false, rfl, .bool false, rfl, _, g1, g2, .inr ⟨rfl, Mc', wf', z', hj', g3, g4⟩, by simp⟩
def ownM (M : Tags) (ρ : List (Nat × Nat)) (b : Nat) : Option Nat := (M b).bind fun t => ρ.lookup t
def handOk (fr : Fr) (ρ : List (Nat × Nat)) (tg : Nat) : Bool := reOk ρ && ρ.all fun x => !fr.pass.contains x.1 && (!(x.1 == 7000) && (!(x.1 == tg) && (Nat.blt 1001 x.2 && Nat.blt x.2 1010)))
theorem handOk_spec {fr : Fr} {ρ : List (Nat × Nat)} {tg : Nat} (h : handOk fr ρ tg = true) : reOk ρ = true ∧ ∀ x ∈ ρ, x.1 ∉ fr.pass ∧ x.1 ≠ 7000 ∧ x.1 ≠ tg ∧ 1001 < x.2 ∧ x.2 < 1010 := by
  simp only [handOk, Bool.and_eq_true, List.all_eq_true, Bool.not_eq_true', Nat.blt_eq, beq_eq_false_iff_ne] at h
  refine ⟨h.1, fun x hx => ?_⟩
  obtain ⟨h1, h2, h3, h4, h5⟩ := h.2 x hx
  exact ⟨by simpa using h1, h2, h3, h4, h5⟩
def backF (w : World) (ρ : List (Nat × Nat)) (M Mc' : Tags) : Tags := fun b => if b < w.heap.size ∧ ownM M ρ b = none then M b else (Mc' b).map fun _ => 7000
theorem hand_view {w : World} {M Mc : Tags} {ρ : List (Nat × Nat)} {tg g : Nat} {fr : Fr} (hok : handOk fr ρ tg = true) (wf : Wf w M) (hg : M g = some tg) (h1 : ∀ b, M b = none → Mc b = none) (h2 : ∀ b u, b < w.heap.size → M b = some u → u ≠ 7000 → Mc b = some (Zt + b)) :
    OwnF Mc (some g) (ownM M ρ) ∧ Re ρ M (viewF Mc (some g) (ownM M ρ)) := by
  obtain ⟨hr, hq⟩ := handOk_spec hok
  have part : ∀ b t, ownM M ρ b = some t → ∃ u, M b = some u ∧ (u, t) ∈ ρ := fun b t h => by
    obtain ⟨u, hu, hl⟩ := Option.bind_eq_some_iff.1 h
    exact ⟨u, hu, lookup_mem' hl⟩
  have how : OwnF Mc (some g) (ownM M ρ) := by
    refine ⟨fun b t h => ?_, fun b b' t h h' => ?_⟩
    · obtain ⟨u, hu, hm⟩ := part b t h
      obtain ⟨_, e2, e3, e4, e5⟩ := hq _ hm
      refine ⟨h2 b u (wf.lt b u hu) hu e2, fun e => ?_, e4, e5⟩
      injection e with e
      subst e
      rw [hu] at hg; injection hg with hg; exact e3 hg
    · obtain ⟨u, hu, hm⟩ := part b t h
      obtain ⟨u', hu', hm'⟩ := part b' t h'
      have e : u = u' := ((reOk_spec hr _ hm).2.2 _ hm').2 rfl
      subst e
      obtain ⟨v, rfl⟩ : ∃ v, u = v + 1 := ⟨u - 1, by have := (reOk_spec hr _ hm).1; omega⟩
      exact wf.inj b b' v (by have := reOk_fam hr hm; have := (hq _ hm).2.2.2.2; omega) hu hu'
  refine ⟨how, ⟨fun b h => viewF_none' (h1 b h), fun x hx b h => viewF_own how ?_⟩⟩
  unfold ownM
  rw [h]; exact mem_lookup' hr hx
theorem backF_ok {w w' : World} {M Mc Mc' : Tags} {ρ : List (Nat × Nat)} (wf : Wf w M) (wf' : Wf w' Mc') (h1 : ∀ b, M b = none → Mc b = none) (h2 : ∀ b u, b < w.heap.size → M b = some u → u ≠ 7000 → Mc b = some (Zt + b)) (le : Le (takeF (ownM M ρ)) (takeF (ownM M ρ)) w Mc w' Mc') :
    Wf w' (backF w ρ M Mc') ∧ Le (· ∈ [7000]) (· ∈ ρ.map Prod.fst) w M w' (backF w ρ M Mc') ∧ (∀ b, backF w ρ M Mc' b = none → Mc' b = none) ∧ ∀ b u, b < w'.heap.size → backF w ρ M Mc' b = some u → u ≠ 7000 → Mc' b = some (Zt + b) := by
  have pubK : ∀ b, M b = none → ownM M ρ b = none := fun b h => by simp [ownM, h]
  have keep : ∀ b u, M b = some u → u ∉ ρ.map Prod.fst → ownM M ρ b = none := fun b u h hu => by
    unfold ownM
    rw [h]
    show ρ.lookup u = none
    cases hl : ρ.lookup u with
    | none => rfl
    | some c => exact absurd (List.mem_map.2 ⟨_, lookup_mem' hl, rfl⟩) hu
  have stay : ∀ b u, M b = some u → ownM M ρ b = none → u ≠ 7000 → Mc' b = some (Zt + b) ∧ w'.heap[b]? = w.heap[b]? := fun b u h ho hu => by
    have ht : ¬ takeF (ownM M ρ) (Zt + b) := by
      rintro (h | ⟨q, h, hq⟩)
      · omega
      · have : q = b := by omega
        subst this; exact hq ho
    obtain ⟨a, c⟩ := le.own b _ (h2 b u (wf.lt b u h) h hu) ht
    exact ⟨a, c ht⟩
  unfold backF
  refine ⟨⟨fun b u h => ?_, fun b b' u ht1 h h' => ?_, wf.amb.of fun b hb hm => ⟨by simp [hb, hm, pubK b hm], (le.pub b hb (h1 b hm)).2⟩⟩, ⟨le.size, le.os, le.tape, le.out, fun b hb hm => ⟨by simp [hb, hm, pubK b hm], (le.pub b hb (h1 b hm)).2⟩, fun b u hm hk => ⟨?_, fun hs => ?_⟩⟩, fun b h => ?_, fun b u _ h hu => ?_⟩
  · split at h
    · rename_i hc; exact Nat.lt_of_lt_of_le hc.1 le.size
    · obtain ⟨v, hv, _⟩ := Option.map_eq_some_iff.1 h
      exact wf'.lt b v hv
  · have part : ∀ b, (if b < w.heap.size ∧ ownM M ρ b = none then M b else (Mc' b).map fun _ => 7000) = some (u + 1) → M b = some (u + 1) := fun b h => by
      split at h
      · exact h
      · obtain ⟨v, _, hv⟩ := Option.map_eq_some_iff.1 h
        omega
    exact wf.inj b b' u ht1 (part b h) (part b' h')
  · rw [if_pos ⟨wf.lt b u hm, keep b u hm hk⟩]; exact hm
  · have hu : u ≠ 7000 := fun e => hs (by simp [e])
    exact (stay b u hm (keep b u hm hk) hu).2
  · split at h
    · rename_i hc; exact (le.pub b hc.1 (h1 b h)).1
    · simpa using h
  · split at h
    · rename_i hc; exact (stay b u h hc.2 hu).1
    · obtain ⟨v, _, hv⟩ := Option.map_eq_some_iff.1 h
      exact absurd hv.symm hu
theorem run_callFuncF {f : FuncId} {T : Nat} {capTys args : List Ty} {J0 J1 Jx : World → Tags → Prop} (hF : MoreF P f T capTys args J0 J1 Jx) (vs : Array Value) (w : World) : (callFunc f vs).run P w = .ok (.enter f vs) w := by
  obtain ⟨⟨fn, hf, hn, hb⟩, _⟩ := hF
  have hn' : fn.name ≠ "runtime.NumGoroutine" := by simpa using hn
  have hb' : fn.body ≠ none := fun h => by rw [h] at hb; cases hb
  simp [callFunc, hf, hn', hb']
theorem r_callF (ρ : List (Nat × Nat)) {c f T g : Nat} {capTys args ss : List Ty} {cs' : List Value} {J0 J1 Jx : World → Tags → Prop} (h0 : Cb J0) (h1 : Cb J1) (hx : Cb Jx) (hM : MoreF P f T capTys args J0 J1 Jx) {h3 : depsOf capTys = []} {h4 : cdepsOf capTys = []} {xs : List Operand} {ats : Array TypeId}
    (hc : A.op fr (.tmp c) = .ex (.func (.func f) #[] (cs' ++ [gp g]).toArray)) (hxs : opsTy A fr xs = ss) (hl : Convs ρ ss args) (hok : handOk fr ρ 1000 = true)
    (hme : A.tag 1001 = some (.me g T (.func (.func f) #[] (cs' ++ [gp g]).toArray) capTys cs' h3 h4)) (hck : A.tag 7000 = some (.ck h0))
    (h : TOps P fr ops rest (A.after { d := some d, ty := .yb true h1 hx, S := [7000], K := ρ.map Prod.fst, rs := c :: xs.flatMap opR, rt := [7000, 1001] }) fun A' l' => K A' ((A, { d := some d, ty := .yb true h1 hx, S := [7000], K := ρ.map Prod.fst, rs := c :: xs.flatMap opR, rt := [7000, 1001] }) :: l')) :
    TOps P fr ops (⟨some d, .call ⟨.value (.tmp c), xs.toArray, ats⟩, t, p, e, none⟩ :: rest) A K := by
  obtain ⟨hro, hq⟩ := handOk_spec hok
  refine ⟨{ d := some d, ty := .yb true h1 hx, S := [7000], K := ρ.map Prod.fst, rs := c :: xs.flatMap opR, rt := [7000, 1001] }, ⟨rfl, by simp, by simp, fun u hu => by
    obtain ⟨x, hx, rfl⟩ := List.mem_map.1 hu
    exact ⟨(reOk_spec hro x hx).1, (hq x hx).1⟩, fun a w M wf hsz hrd htg => ?_⟩, h⟩
  rw [if_pos (by simp [Region.wanted])]
  have hcv := op_den (x := .tmp c) (rs := c :: xs.flatMap opR) (fun u hu => by exact (List.mem_singleton.1 hu) ▸ List.mem_cons_self) hrd
  rw [hc] at hcv
  have hcv : a.eval (.tmp c) = .func (.func f) #[] (cs' ++ [gp g]).toArray := hcv
  obtain ⟨e1, e2, e3⟩ := htg _ (tag_mem hme) (by simp)
  obtain ⟨_, Mc, wfc, z, hj, k1, k2⟩ := htg _ (tag_mem hck) (by simp)
  have hg : g < w.heap.size := (Array.getElem?_eq_some_iff.1 e2).1
  obtain ⟨how, hre⟩ := hand_view hok wf e1 k1 k2
  have hv : dens w (viewF Mc (some g) (ownM M ρ)) args (xs.map a.eval) := convs_dens wf (viewF_wf wfc how) hre hl (hxs ▸ opsTy_dens (rs := c :: xs.flatMap opR) hrd fun x hx c hc => List.mem_cons_of_mem _ (List.mem_flatMap.2 ⟨x, hx, hc⟩))
  have hcs : dens w Mc capTys cs' := conv_nodeps k1 h3 h4 e3
  have hcall := hM.2 w Mc g (ownM M ρ) _ cs' cs' wfc z how hv hcs hcs (k2 g 1000 hg e1 (by decide)) e2 hj
  refine wp_in_enter (f := f) (args := (xs.map a.eval ++ (cs' ++ [gp g])).toArray) (by simp [execOp, resolve, hcv, Deferred.ofValue, invoke, run_callFuncF hM]) (hcall.mono fun en w' ⟨Mc', wf', z', le, hor⟩ => ?_)
  obtain ⟨g1, g2, g3, g4⟩ := backF_ok wf wf' k1 k2 le
  rcases hor with ⟨rfl, hj'⟩ | ⟨rfl, hj'⟩
  · exact ⟨.bool true, rfl, .bool true, rfl, _, g1, g2, .inl ⟨rfl, Mc', wf', z', hj', g3, g4⟩, by simp⟩
  · exact ⟨.bool false, rfl, .bool false, rfl, _, g1, g2, .inr ⟨rfl, Mc', wf', z', hj', g3, g4⟩, by simp⟩
theorem r_callF0 (ρ : List (Nat × Nat)) {dst : Option Nat} {c f T tg : Nat} {capTys args ss : List Ty} {J0 J1 Jx : World → Tags → Prop} (h0 : Cb J0) (h1 : Cb J1) (hx : Cb Jx) (hM : MoreF P f T capTys args J0 J1 Jx) (h3 : depsOf capTys = []) (h4 : cdepsOf capTys = []) {xs : List Operand} {ats : Array TypeId}
    (hc : A.op fr (.tmp c) = .clo f (capTys ++ [.ptr tg 0])) (hxs : opsTy A fr xs = ss) (hl : Convs ρ ss args) (hok : handOk fr ρ tg = true)
    (hcell : A.tag tg = some (.cells T [.clo f (capTys ++ [.ptr tg 0])])) (htg1 : Tag1 tg) (hck : A.tag 7000 = some (.ck h0))
    (h : TOps P fr ops rest (A.after { d := dst, ty := Ty.any, S := [7000], K := ρ.map Prod.fst, sets := [(7000, Cont.ce h1 hx)], rs := c :: xs.flatMap opR, rt := [7000, tg] }) fun A' l' => K A' ((A, { d := dst, ty := Ty.any, S := [7000], K := ρ.map Prod.fst, sets := [(7000, Cont.ce h1 hx)], rs := c :: xs.flatMap opR, rt := [7000, tg] }) :: l')) :
    TOps P fr ops (⟨dst, .call ⟨.value (.tmp c), xs.toArray, ats⟩, t, p, e, none⟩ :: rest) A K := by
  obtain ⟨hro, hq⟩ := handOk_spec hok
  refine ⟨_, ⟨rfl, by simp, by simp, fun u hu => by
    obtain ⟨x, hx, rfl⟩ := List.mem_map.1 hu
    exact ⟨(reOk_spec hro x hx).1, (hq x hx).1⟩, fun a w M wf hsz hrd htg => ?_⟩, h⟩
  rw [if_pos (by simp [Region.wanted])]
  have hcv := op_den (x := .tmp c) (rs := c :: xs.flatMap opR) (fun u hu => by exact (List.mem_singleton.1 hu) ▸ List.mem_cons_self) hrd
  rw [hc] at hcv
  obtain ⟨⟨cl⟩, ev, hcl⟩ := hcv
  have split : ∀ (l : List Value), dens w M (capTys ++ [.ptr tg 0]) l → ∃ cs b, l = cs ++ [gp b] ∧ dens w M capTys cs ∧ M b = some tg := fun l hl => by
    have hlen := dens_len hl
    rw [List.length_append, List.length_singleton] at hlen
    have g1 := dens_take capTys.length hl
    have g2 := dens_drop capTys.length hl
    rw [List.take_left] at g1
    rw [List.drop_left] at g2
    have e1 : (l.drop capTys.length).length = 1 := by rw [List.length_drop]; omega
    obtain ⟨v, hv⟩ := List.length_eq_one_iff.1 e1
    rw [hv] at g2
    obtain ⟨⟨b, hb, ev⟩, _⟩ := g2
    exact ⟨_, b, by subst ev; have h9 := List.take_append_drop capTys.length l; rw [hv] at h9; exact h9.symm, g1, hb⟩
  obtain ⟨cs, g, rfl, hcs, hg⟩ := split _ hcl
  obtain ⟨b', ⟨cells⟩, hb', hh, hdd⟩ := htg _ (tag_mem hcell) (by simp)
  obtain ⟨u, rfl⟩ : ∃ u, tg = u + 1 := ⟨tg - 1, by have := htg1.1; omega⟩
  have hbg : g = b' := wf.inj g b' u htg1.2 hg hb'
  subst hbg
  obtain ⟨v', rfl⟩ : ∃ v', cells = [v'] := by
    have hlen := dens_len hdd
    exact List.length_eq_one_iff.1 (by simpa using hlen)
  obtain ⟨⟨⟨cl'⟩, ev', hcl'⟩, _⟩ := hdd
  obtain ⟨cs', g', rfl, hcs', hg'⟩ := split _ hcl'
  have hgg : g' = g := wf.inj g' g u htg1.2 hg' hg
  subst hgg
  subst ev'
  obtain ⟨_, Mc, wfc, z, hj, k1, k2⟩ := htg _ (tag_mem hck) (by simp)
  have hgs : g' < w.heap.size := (Array.getElem?_eq_some_iff.1 hh).1
  have hcv : a.eval (.tmp c) = .func (.func f) #[] (cs ++ [gp g']).toArray := ev
  obtain ⟨how, hre⟩ := hand_view hok wf hg k1 k2
  have hv : dens w (viewF Mc (some g') (ownM M ρ)) args (xs.map a.eval) := convs_dens wf (viewF_wf wfc how) hre hl (hxs ▸ opsTy_dens (rs := c :: xs.flatMap opR) hrd fun x hx c hc => List.mem_cons_of_mem _ (List.mem_flatMap.2 ⟨x, hx, hc⟩))
  have hcall := hM.2 w Mc g' (ownM M ρ) _ cs cs' wfc z how hv (conv_nodeps k1 h3 h4 hcs) (conv_nodeps k1 h3 h4 hcs') (k2 g' _ hgs hg (by have := htg1.2; omega)) hh hj
  refine wp_in_enter (f := f) (args := (xs.map a.eval ++ (cs ++ [gp g'])).toArray) (by simp [execOp, resolve, hcv, Deferred.ofValue, invoke, run_callFuncF hM]) (hcall.mono fun en w' ⟨Mc', wf', z', le, hor⟩ => ?_)
  obtain ⟨g1, g2, g3, g4⟩ := backF_ok wf wf' k1 k2 le
  rcases hor with ⟨rfl, hj'⟩ | ⟨rfl, hj'⟩
  · exact ⟨.bool true, rfl, .bool true, rfl, _, g1, g2, trivial, fun x hx => by rw [List.mem_singleton.1 hx]; exact ⟨rfl, .inl ⟨Mc', wf', z', hj', g3, g4⟩⟩⟩
  · exact ⟨.bool false, rfl, .bool false, rfl, _, g1, g2, trivial, fun x hx => by rw [List.mem_singleton.1 hx]; exact ⟨rfl, .inr ⟨Mc', wf', z', hj', g3, g4⟩⟩⟩
end
end Go.T

namespace Go.T
open Go Go.RowKit
def CtrFd (P : Program) (f : FuncId) (args : Value → List Ty) (encs : List (List Ty)) : Prop :=
  (∃ fn, P.funcs[f]? = some fn ∧ (fn.name == "runtime.NumGoroutine") = false ∧ fn.body.isNone = false) ∧
  ∀ fv J Jx, (∀ k, Cb (J k)) → Cb Jx → FndC P fv encs J Jx → ∀ w M us, Wf w M → ZOk M → dens w M (args fv) us → J 0 w M → Calls P f us.toArray w (izPost w M encs.length J Jx)
theorem CtrG.ex {P : Program} {f : FuncId} {F : List Nat} {pre post : List (Nat × Cont)} {args : List Ty} {res : Ty} (h : CtrG P f F pre args post res) : ∃ fn, P.funcs[f]? = some fn ∧ (fn.name == "runtime.NumGoroutine") = false ∧ fn.body.isNone = false := h.1
section
variable {P : Program}
theorem fnFd_intro {f : FuncId} {fn : Func} {c : Code} {args : Value → List Ty} {encs : List (List Ty)} {n : Nat} (hf : P.funcs[f]? = some fn) (hb : fn.body = some c) (hn : (fn.name == "runtime.NumGoroutine") = false) (hnt : fn.ntmps = n) (hl : ∀ v, (args v).length ≤ n) (hdd : ∀ v, depsOf (args v) = [] ∧ cdepsOf (args v) = [])
    (h : ∀ fv J Jx (hJ : ∀ k, Cb (J k)) (hJx : Cb Jx), FndC P fv encs J Jx → ∀ w0 Mc, Wf w0 Mc → ZOk Mc → Tri P ⟨n, w0, startM Mc none, [7000, 5000], .plain⟩ c (entryG (args fv) [(7000, .ck (hJ 0)), (5000, .snap w0 (oldZ Mc))]) (bodyPost P fn (izPost w0 Mc encs.length J Jx))) : CtrFd P f args encs := by
  refine ⟨⟨fn, hf, hn, by rw [hb]; rfl⟩, fun fv J Jx hJ hJx hF w Mc vs wf z hd hj => calls_of_wp hf hb (wpIn_wide.1 (h fv J Jx hJ hJx hF w Mc wf z _ _ ?_))⟩
  have hall : dens w (startM Mc none) (args fv) vs := conv_nodeps (fun b hb => startM_none' hb) (hdd fv).1 (hdd fv).2 hd
  have hlen := dens_len hall
  have hl := hl fv
  refine ⟨startM Mc none, ⟨startM_wf wf, Le.refl _ _ _ _, by simp [hnt, hlen]; omega, Defs.nil⟩, fun c hc => ?_, fun x hx => ?_⟩
  · simp only [entryG]
    cases ha : (args fv)[c]? with
    | none => trivial
    | some ty =>
      obtain ⟨v, hv, hdv⟩ := dens_get hall c ty ha
      have : (vs.toArray ++ Array.replicate (fn.ntmps - vs.toArray.size) undef).getD c undef = v := by
        have hlt : c < vs.length := (List.getElem?_eq_some_iff.1 hv).1
        rw [Array.getD_eq_getD_getElem?, Array.getElem?_append_left (by simpa using hlt)]
        simp [hv]
      rw [this]; exact hdv
  · simp only [entryG, List.mem_cons, List.not_mem_nil, or_false] at hx
    rcases hx with rfl | rfl
    · exact ⟨rfl, startM_ck wf z hj⟩
    · intro b hb
      refine ⟨?_, rfl⟩
      have : ¬ Zt + b < Zt := by omega
      have hb : Mc b = some (Zt + b) := hb
      simp [startM, hb, this]
theorem i_retFd {A : As} {fn : Func} {n m k : Nat} {w0 : World} {Mc : Tags} {J : Nat → World → Tags → Prop} {Jx : World → Tags → Prop} {hJ : ∀ k, Cb (J k)} {h1 : Cb (J k)} {hx : Cb Jx} (z : ZOk Mc) (wf : Wf w0 Mc) (e : k = m) (hr : fn.results = #[]) (ht : A.tag 7000 = some (.ce h1 hx)) (ho : A.tag 5000 = some (.snap w0 (oldZ Mc))) : Into ⟨n, w0, startM Mc none, [7000, 5000], .plain⟩ A (bodyPost P fn (izPost w0 Mc m J Jx) .normal) := by
  subst e
  intro a w' ⟨M, ok, hsl, htg⟩
  obtain ⟨_, h | h⟩ := htg _ (tag_mem ht)
  · obtain ⟨Mc', wf', z', hj, k1, k2⟩ := h
    exact ⟨ok.nodefers (by simp), _, results_none hr _ _ _, _, Mc', rfl, wf', z', zret_le z wf ok.base (htg _ (tag_mem ho)) k1 k2, .inl hj⟩
  · obtain ⟨Mc', wf', z', hj, k1, k2⟩ := h
    exact ⟨ok.nodefers (by simp), _, results_none hr _ _ _, _, Mc', rfl, wf', z', zret_le z wf ok.base (htg _ (tag_mem ho)) k1 k2, .inr hj⟩
def JF (p : Prop) (S K : List Nat) (w1 : World) (M1 : Tags) (tgs : List (Nat × Cont)) (w : World) (M : Tags) : Prop :=
  p ∧ Le (· ∈ S) (· ∈ K) w1 M1 w M ∧ ∀ x ∈ tgs, x.2.den w M x.1
theorem JF_cb {p : Prop} {S K : List Nat} {w1 : World} {M1 : Tags} {tgs : List (Nat × Cont)} (hM : ∀ b u, M1 b = some u → u < Zt) (ht : tagsOk tgs = true) : Cb (JF p S K w1 M1 tgs) := by
  intro w M w' M' wf' le ⟨hp, h1, h2⟩
  refine ⟨hp, ⟨Nat.le_trans h1.size le.size, le.os.trans h1.os, le.tape.trans h1.tape, le.out.trans h1.out, fun b hb hm => ?_, fun b t hm hk => ?_⟩, fun x hx => ?_⟩
  · obtain ⟨a, c⟩ := h1.pub b hb hm
    obtain ⟨a', c'⟩ := le.pub b (Nat.lt_of_lt_of_le hb h1.size) a
    exact ⟨a', c'.trans c⟩
  · have := hM b t hm
    obtain ⟨a, c⟩ := h1.own b t hm hk
    obtain ⟨a', c'⟩ := le.own b t a (by omega)
    exact ⟨a', fun hs => (c' (by omega)).trans (c hs)⟩
  · obtain ⟨⟨_, e2⟩, e3, e4⟩ := tagsOk_spec ht x hx
    exact x.2.mono le (fun t ht hz => by have := (e3 t ht).2; omega) (fun t ht hz => by have := (e4 t ht).2; omega) (by omega) (by omega) (h2 x hx)
theorem fnd_of {fid : FuncId} {encs : List (List Ty)} {caps : List Ty} {cs : Array Value} {S K mv F : List Nat} {w1 : World} {M1 : Tags} {px : Prop} {ok : Nat → Prop} {tgs : Nat → List (Nat × Cont)} {tgx : List (Nat × Cont)} {ρ : List (Nat × Nat)} {pre post : Nat → List (Nat × Cont)} {argsF : Nat → List Ty} {go : Nat → Bool}
    (hex : ∃ fn, P.funcs[fid]? = some fn ∧ (fn.name == "runtime.NumGoroutine") = false ∧ fn.body.isNone = false)
    (hG : ∀ k, ok k → k < encs.length → CtrG P fid F (pre k) (argsF k) (post k) (Ty.bool (go k)))
    (hcs : dens w1 M1 caps cs.toList) (hdk : disj (depsOf caps) K = true) (hds : disj (cdepsOf caps) S = true)
    (hr : reOk ρ = true) (hmv : ∀ x ∈ ρ, x.1 ∈ mv ∨ x.2 ∈ F) (hmr : ∀ t ∈ mv, ∃ g, (t, g) ∈ ρ) (hS : ∀ t ∈ ρ.map Prod.fst, t ∈ S ∧ t < Zt) (hK : ∀ t ∈ mv, t ∈ K ∧ t < Zt)
    (hpub : ∀ tys ∈ encs, depsOf tys = [] ∧ cdepsOf tys = [])
    (harg : ∀ k tys, encs[k]? = some tys → Convs ρ (tys ++ caps) (argsF k))
    (hpre : ∀ k, PreCs ⟨anyT, tgs k⟩ ρ (pre k))
    (hpost1 : ∀ k, ok k → go k = true → PostCs (post k) ρ (tgs (k + 1))) (hpostx : ∀ k, ok k → go k = false → PostCs (post k) ρ tgx)
    (hok1 : ∀ k, ok k → k < encs.length → go k = true → ok (k + 1)) (hokx : ∀ k, ok k → k < encs.length → go k = false → px) :
    FndC P (.func (.func fid) #[] cs) encs (fun k => JF (ok k) S K w1 M1 (tgs k)) (JF px S K w1 M1 tgx) := by
  refine ⟨fid, cs, rfl, hex, fun k tys hk w Mc vs wf z ⟨hok, hle, htg⟩ hv => ?_⟩
  have hkl : k < encs.length := (List.getElem?_eq_some_iff.1 hk).1
  have hcs' : dens w Mc caps cs.toList := dens_mono hle (fun t ht hk => disj_spec hdk t ht hk) (fun t ht hs => disj_spec hds t ht hs) hcs
  have wfg := giveG_wf hr wf
  have hre := giveG_re hr (M := Mc)
  have hc := (hG k hok hkl).2 w _ (vs ++ cs.toList) wfg (convs_dens wf wfg hre (harg k tys hk) (dens_append hv hcs')) (pre_get (A := ⟨anyT, tgs k⟩) wf wfg hre (fun x hx _ => htg x hx) (hpre k))
  refine hc.mono fun en w' ⟨r, M', he, wf', le, hden, hp⟩ => ?_
  obtain ⟨h1, h2, h3⟩ := callG_left (mv := mv) hr hmv hmr wf wf' le
  have hz : ZOk (backG w ρ mv Mc M') := fun b u h hu => by
    unfold backG at h
    split at h
    · exact z b u h hu
    · obtain ⟨q, _, hl⟩ := Option.bind_eq_some_iff.1 h
      have hm := lookup_mem' hl
      obtain ⟨x, hx, e⟩ := List.mem_map.1 hm
      injection e with e1 e2
      have := (hS x.1 (List.mem_map.2 ⟨x, hx, rfl⟩)).2
      omega
  have hleN : Le (· ∈ S) (· ∈ K) w1 M1 w' (backG w ρ mv Mc M') := (hle.trans h2).weaken (fun t ht => ht.elim id fun h => (hS t h).1) (fun t ht => ht.elim id fun h => (hK t h).1)
  have hleZ : Le (fun t => t < Zt) (fun t => t < Zt) w Mc w' (backG w ρ mv Mc M') := h2.weaken (fun t ht => (hS t ht).2) (fun t ht => (hK t ht).2)
  have er : r = .bool (go k) := hden
  cases hgo : go k with
  | true => exact ⟨_, h1, hz, hleZ, .inl ⟨by rw [he, er, hgo], hok1 k hok hkl hgo, hleN, fun x hx => (post_get wf' h1 h3 hp (hpost1 k hok hgo) x hx).2⟩⟩
  | false => exact ⟨_, h1, hz, hleZ, .inr ⟨by rw [he, er, hgo], hokx k hok hkl hgo, hleN, fun x hx => (post_get wf' h1 h3 hp (hpostx k hok hgo) x hx).2⟩⟩
variable {fr : Fr} {ops : Array Oper} {A : As} {rest : List Oper} {K' : As → List (As × Fx) → Prop} {d : Nat} {t ty' : TypeId} {p : String} {e : Array Edge}
theorem opT_callFd {dst : Option Nat} {f fid : FuncId} {args : Value → List Ty} {encs : List (List Ty)} {xs : List Operand} {ats : Array TypeId} {ss caps : List Ty} {S K mv F : List Nat} {px : Prop} {ok : Nat → Prop} {tgs : Nat → List (Nat × Cont)} {tgx sets : List (Nat × Cont)} {ρ : List (Nat × Nat)} {pre post : Nat → List (Nat × Cont)} {argsF : Nat → List Ty} {go : Nat → Bool}
    (hF : CtrFd P f args encs) (hx : opsTy A fr xs = ss) (hfv : ∀ w M vs, dens w M ss vs → ∃ cs : Array Value, dens w M caps cs.toList ∧ dens w M (args (.func (.func fid) #[] cs)) vs) (hdd : ∀ v, depsOf (args v) = [] ∧ cdepsOf (args v) = [])
    (hex : ∃ fn, P.funcs[fid]? = some fn ∧ (fn.name == "runtime.NumGoroutine") = false ∧ fn.body.isNone = false)
    (hG : ∀ k, ok k → k < encs.length → CtrG P fid F (pre k) (argsF k) (post k) (Ty.bool (go k)))
    (hdk : disj (depsOf caps) K = true) (hds : disj (cdepsOf caps) S = true) (hcz : inZ (depsOf caps) = true)
    (hr : reOk ρ = true) (hmv : ∀ x ∈ ρ, x.1 ∈ mv ∨ x.2 ∈ F) (hmr : ∀ t ∈ mv, ∃ g, (t, g) ∈ ρ) (hS : ∀ t ∈ ρ.map Prod.fst, t ∈ S ∧ t < Zt) (hK : ∀ t ∈ mv, t ∈ K ∧ t < Zt)
    (hpub : ∀ tys ∈ encs, depsOf tys = [] ∧ cdepsOf tys = [])
    (harg : ∀ k tys, encs[k]? = some tys → Convs ρ (tys ++ caps) (argsF k))
    (hpre : ∀ k, PreCs ⟨anyT, tgs k⟩ ρ (pre k))
    (hpost1 : ∀ k, ok k → go k = true → PostCs (post k) ρ (tgs (k + 1))) (hpostx : ∀ k, ok k → go k = false → PostCs (post k) ρ tgx)
    (hok0 : ok 0) (hok1 : ∀ k, ok k → k < encs.length → go k = true → ok (k + 1)) (hokx : ∀ k, ok k → k < encs.length → go k = false → px)
    (htk : ∀ k, tagsOk (tgs k) = true) (htx : tagsOk tgx = true) (hc0 : allTags A (tgs 0)) (hS1 : ∀ t ∈ S, 1 ≤ t) (hK1 : ∀ t ∈ K, 1 ≤ t ∧ t ∉ fr.pass)
    (hout : ∀ x ∈ sets, x.1 ∈ S ∨ x.1 ∈ K) (hts : tagsOk sets = true) (hend : ok encs.length → ∀ w M, (∀ x ∈ tgs encs.length, x.2.den w M x.1) → ∀ x ∈ sets, x.2.den w M x.1) (hendx : px → ∀ w M, (∀ x ∈ tgx, x.2.den w M x.1) → ∀ x ∈ sets, x.2.den w M x.1) :
    OpT P fr ops ⟨dst, .call ⟨.value (.func f), xs.toArray, ats⟩, t, p, e, none⟩ A { d := dst, ty := Ty.any, S := S, K := K, sets := sets, rs := xs.flatMap opR, rt := A.tags.map Prod.fst } := by
  refine ⟨rfl, hout, hS1, hK1, fun a w M wf hsz hrd htg => ?_⟩
  rw [if_pos (by simp [Region.wanted])]
  have hvs : dens w M ss (xs.map a.eval) := hx ▸ opsTy_dens (rs := xs.flatMap opR) hrd fun x hx c hc => List.mem_flatMap.2 ⟨x, hx, hc⟩
  obtain ⟨cs, hcs, hav⟩ := hfv w M _ hvs
  have wfz := foldZ_wf wf
  have hzz : ZOk (foldZ M) := fun b u h hu => by have := foldZ_u h; omega
  have hle : Le (fun t => Zt ≤ t) (fun t => Zt ≤ t) w M w (foldZ M) := ⟨Nat.le_refl _, rfl, rfl, rfl, fun b _ hm => ⟨foldZ_none hm, rfl⟩, fun b u hm hk => ⟨foldZ_lt hm (Nat.lt_of_not_le hk), fun _ => rfl⟩⟩
  have hlt : ∀ b u, foldZ M b = some u → u < Zt := fun b u h => foldZ_u h
  have hcs' : dens w (foldZ M) caps cs.toList := dens_mono (S := fun _ => False) (K := fun t => Zt ≤ t) ⟨Nat.le_refl _, rfl, rfl, rfl, hle.pub, fun b u hm hk => ⟨(hle.own b u hm hk).1, fun _ => rfl⟩⟩ (fun t ht hz => by have := (inZ_spec hcz t ht).2; omega) (fun _ _ h => h) hcs
  have htg0 : ∀ x ∈ tgs 0, x.2.den w (foldZ M) x.1 := fun x hx => by
    obtain ⟨C, hC, hsub⟩ := allTags_get hc0 x hx
    have hm := tag_mem hC
    obtain ⟨⟨_, e2⟩, e3, e4⟩ := tagsOk_spec (htk 0) x hx
    refine x.2.mono (S := fun _ => False) (K := fun t => Zt ≤ t) ⟨Nat.le_refl _, rfl, rfl, rfl, hle.pub, fun b u hm hk => ⟨(hle.own b u hm hk).1, fun _ => rfl⟩⟩ (fun t ht hz => by have := (e3 t ht).2; omega) (fun _ _ h => h) (fun h => h) (by omega) (hsub _ _ _ (htg _ hm (List.mem_map.2 ⟨_, hm, rfl⟩)))
  have hfnd := fnd_of (P := P) (px := px) (ok := ok) (w1 := w) (M1 := foldZ M) hex hG hcs' hdk hds hr hmv hmr hS hK hpub harg hpre hpost1 hpostx hok1 hokx
  have hcall := hF.2 _ _ _ (fun k => JF_cb hlt (htk k)) (JF_cb hlt htx) hfnd w (foldZ M) _ wfz hzz (conv_nodeps (fun b h => foldZ_none h) (hdd _).1 (hdd _).2 hav) ⟨hok0, Le.refl _ _ _ _, htg0⟩
  have hrun : (execOp a.eval ⟨dst, .call ⟨.value (.func f), xs.toArray, ats⟩, t, p, e, none⟩).run P w = .ok (.enter f (xs.map a.eval).toArray) w := by
    obtain ⟨⟨fn, hf, hn, hb⟩, _⟩ := hF
    have hn' : fn.name ≠ "runtime.NumGoroutine" := by simpa using hn
    have hb' : fn.body ≠ none := fun h => by rw [h] at hb; cases hb
    simp [execOp, resolve, Act.eval, Deferred.ofValue, invoke, callFunc, hf, hn', hb']
  refine wp_in_enter hrun (hcall.mono fun en w' ⟨r, M', he, wf', z', leZ, hor⟩ => ?_)
  -- what holds in either case
  have key : Le (· ∈ S) (· ∈ K) w (foldZ M) w' M' ∧ ∀ x ∈ sets, x.2.den w' M' x.1 := by
    rcases hor with ⟨h1, h2, h3⟩ | ⟨h1, h2, h3⟩
    · exact ⟨h2, hend h1 _ _ h3⟩
    · exact ⟨h2, hendx h1 _ _ h3⟩
  obtain ⟨kl, ks⟩ := key
  have kept : ∀ b u, M b = some u → Zt ≤ u → backZ w M M' b = some u := fun b u h hu => by unfold backZ; rw [h]; simp [wf.lt b u h, hu]
  have other : ∀ b, (∀ u, M b = some u → u < Zt) → backZ w M M' b = foldZ M' b := fun b h => by
    unfold backZ
    cases hm : M b with
    | none => rfl
    | some u => have := h u hm; simp only; rw [if_neg (by omega)]
  have high : ∀ b u, M b = some u → Zt ≤ u → M' b = some 0 ∧ w'.heap[b]? = w.heap[b]? := fun b u h hu => by
    obtain ⟨a1, c1⟩ := kl.own b 0 (foldZ_ge h hu) (fun h => by have := (hK1 0 h).1; omega)
    exact ⟨a1, c1 (fun h => by have := hS1 0 h; omega)⟩
  have wf2 : Wf w' (backZ w M M') := by
    refine ⟨fun b u h => ?_, fun b b' u ht1 h h' => ?_, wf.amb.of fun b hb hm => ?_⟩
    · unfold backZ at h
      split at h
      · split at h
        · rename_i hc; exact Nat.lt_of_lt_of_le hc.1 kl.size
        · exact (foldZ_wf wf').lt b u h
      · exact (foldZ_wf wf').lt b u h
    · have part : ∀ b, backZ w M M' b = some (u + 1) → foldZ M' b = some (u + 1) := fun b h => by
        unfold backZ at h
        split at h
        · split at h
          · injection h with h
            rename_i v hc hcc
            subst h
            exact absurd hcc.2 (by have : Zt = 1000000 := rfl; omega)
          · exact h
        · exact h
      exact (foldZ_wf wf').inj b b' u ht1 (part b h) (part b' h')
    · obtain ⟨a1, c1⟩ := kl.pub b hb (foldZ_none hm)
      exact ⟨by rw [other b (fun u hu => by rw [hm] at hu; cases hu)]; exact foldZ_none a1, c1⟩
  have le2 : Le (· ∈ S) (· ∈ K) w M w' (backZ w M M') := by
    refine ⟨kl.size, kl.os, kl.tape, kl.out, fun b hb hm => ?_, fun b u hm hk => ?_⟩
    · obtain ⟨a1, c1⟩ := kl.pub b hb (foldZ_none hm)
      exact ⟨by rw [other b (fun u hu => by rw [hm] at hu; cases hu)]; exact foldZ_none a1, c1⟩
    · rcases Nat.lt_or_ge u Zt with hu | hu
      · obtain ⟨a1, c1⟩ := kl.own b u (foldZ_lt hm hu) hk
        exact ⟨by rw [other b (fun v hv => by rw [hm] at hv; injection hv with hv; omega)]; exact foldZ_lt a1 hu, c1⟩
      · exact ⟨kept b u hm hu, fun _ => (high b u hm hu).2⟩
  refine ⟨r, he, r, rfl, _, wf2, le2, trivial, fun x hx => ?_⟩
  obtain ⟨⟨e1, e2⟩, e3, e4⟩ := tagsOk_spec hts x hx
  refine x.2.mono (w := w') (M := M') (S := fun _ => False) (K := fun u => Zt ≤ u ∨ u = 0) ⟨Nat.le_refl _, rfl, rfl, rfl, fun b hb hm => ⟨?_, rfl⟩, fun b u hm hk => ⟨?_, fun _ => rfl⟩⟩ (fun u hu hz => by have := e3 u hu; omega) (fun _ _ h => h) (fun h => h) (by omega) (ks x hx)
  · rcases hmb : M b with _ | v
    · rw [other b (fun u hu => by rw [hmb] at hu; cases hu)]; exact foldZ_none hm
    · rcases Nat.lt_or_ge v Zt with hv | hv
      · rw [other b (fun u hu => by rw [hmb] at hu; injection hu with hu; omega)]; exact foldZ_none hm
      · have := (high b v hmb hv).1; rw [this] at hm; cases hm
  · have hu : u < Zt := Nat.lt_of_not_le fun h => hk (.inl h)
    rcases hmb : M b with _ | v
    · rw [other b (fun u hu => by rw [hmb] at hu; cases hu)]; exact foldZ_lt hm hu
    · rcases Nat.lt_or_ge v Zt with hv | hv
      · rw [other b (fun u hu => by rw [hmb] at hu; injection hu with hu; omega)]; exact foldZ_lt hm hu
      · have := (high b v hmb hv).1
        rw [this] at hm
        injection hm with hm
        exact absurd (.inr hm.symm) hk
theorem r_op {o : Oper} {f : Fx} (h' : OpT P fr ops o A f) (h : TOps P fr ops rest (A.after f) fun A' l' => K' A' ((A, f) :: l')) : TOps P fr ops (o :: rest) A K' := ⟨f, h', h⟩
end
end Go.T

namespace Go.T
open Go Go.RowKit
section
variable {P : Program} {fr : Fr} {ops : Array Oper} {A : As} {rest : List Oper} {K : As → List (As × Fx) → Prop} {d : Nat} {t ty' : TypeId} {p : String} {e : Array Edge} {x y : Operand} {ti te ts : TI} {el tg : Nat} [T : Tab P]
theorem r_convRS {src : TypeId} {a : Byt} (hx : A.op fr x = .row UB el tg a) (hS : T.tab[src]? = some ts) (hks : ts.k = .slice el) (hT : T.tab[ty']? = some ti) (hk : ti.k = .string) (hu : P.underlying el = some (.int .u8))
    (h : TOps P fr ops rest (A.set d (.str (bs a))) fun A' l' => K A' ((A, { d := some d, ty := .str (bs a), rs := opR x }) :: l')) : TOps P fr ops (⟨some d, .convert src ty' x, t, p, e, none⟩ :: rest) A K :=
  tops_pure (opT_pure rfl rfl fun ac w M wf hr _ => by
    have hdx := op_den (x := x) (fun _ h => h) hr
    rw [hx] at hdx
    obtain ⟨_, D, _, hD, hkd, _⟩ := tab_info hS
    rw [hks] at hkd
    cases D <;> simp only [TK.of, reduceCtorEq, TK.slice.injEq] at hkd
    subst hkd
    obtain ⟨cs, hown, hd, hM⟩ := hdx
    rcases hown.2 with ⟨ex, h0⟩ | ⟨g, cap, cur, ex, _, hh, hn, hm, hsz, htk⟩
    · have ha : a = [] := List.length_eq_zero_iff.1 h0
      subst ha
      refine ⟨.string (bs []), ?_, rfl⟩
      simp only [execOp, ex, Sem.run_bind, run_convert_bytes_string w src ty' _ none 0 0 hD hu (tab_string hT hk)]
      rfl
    · have hrun := run_convert_bytes_back (P := P) w src ty' _ ⟨g, 0, none⟩ cap a hD hu (tab_string hT hk) (fun j hj => by
        rw [Addr.add_lit]
        have hj2 : j < a.length := hj
        obtain ⟨u, hu, hdu⟩ := dens_get hd (j * 1 + 0) _ (flat_elem UB a hj2 0 (Ty.int .u8 ((nth a j).toNat : Int)) rfl)
        have hu2 : u = .int .u8 ((nth a j).toNat : Int) := hdu
        subst hu2
        rw [← htk, List.getElem?_take] at hu
        split at hu
        · rw [Nat.mul_one, Nat.add_zero] at hu
          rw [nth_lt hj2] at hu
          simpa [World.cell?, hh] using hu
        · cases hu)
      exact ⟨.string (bs a), by simp only [execOp, ex, Sem.run_bind, hrun]; rfl, rfl⟩) h
theorem r_loadFact {D off Tb : Nat} {l tys : List Ty} {vs : List Value} {v : Value} {ty : Ty} {h1 : depsOf tys = []} {h2 : cdepsOf tys = []} (tg : Nat) (hx : A.op fr x = .ptr D off) (hc : A.tag D = some (.cells Tb l)) (hD : Tag1 D) (hT : T.tab[ty']? = some ti) (ha : ti.k.agg = false) (hl : l[off]? = some (.ex v)) (hv : A.tag tg = some (Cont.fact tys vs h1 h2)) (hvs : vs[off]? = some v) (hty : tys[off]? = some ty)
    (h : TOps P fr ops rest (A.set d ty) fun A' l => K A' ((A, { d := some d, ty := ty, rs := opR x, rt := [D, tg] }) :: l)) : TOps P fr ops (⟨some d, .load ty' x, t, p, e, none⟩ :: rest) A K :=
  tops_pure (opT_pure rfl rfl fun a w M wf hr ht => by
    have := op_den (x := x) (fun _ h => h) hr
    rw [hx] at this
    obtain ⟨b, hb, e⟩ := this
    obtain ⟨u, hu, hd⟩ := own_cell wf hD hb (ht _ (tag_mem hc) (by simp)) hl
    have hd : u = v := hd
    subst hd
    have hf : dens w M tys vs := ht _ (tag_mem hv) (by simp)
    obtain ⟨u2, hu2, hd2⟩ := dens_get hf off ty hty
    rw [hvs] at hu2
    injection hu2 with hu2
    subst hu2
    exact ⟨u, by simp [execOp, e, run_load1 hT ha hu], hd2⟩) h
theorem r_loadFactN {D Tb : Nat} {tys : List Ty} {vs : List Value} {h1 : depsOf tys = []} {h2 : cdepsOf tys = []} (tg : Nat) (hx : A.op fr x = .ptr D 0) (hc : A.tag D = some (.cells Tb (vs.map Ty.ex))) (hD : Tag1 D) (hT : T.tab[ty']? = some ti) (ha : ti.k.agg = true) (hl : vs.length = ti.size) (hv : A.tag tg = some (Cont.fact tys vs h1 h2))
    (h : TOps P fr ops rest (A.set d (.agg tys)) fun A' l => K A' ((A, { d := some d, ty := .agg tys, rs := opR x, rt := [D, tg] }) :: l)) : TOps P fr ops (⟨some d, .load ty' x, t, p, e, none⟩ :: rest) A K :=
  tops_pure (opT_pure rfl rfl fun a w M wf hr ht => by
    have := op_den (x := x) (fun _ h => h) hr
    rw [hx] at this
    obtain ⟨b, hb, e⟩ := this
    obtain ⟨b', cs, hb', hh, hd⟩ := ht _ (tag_mem hc) (by simp)
    obtain ⟨u, rfl⟩ : ∃ u, D = u + 1 := ⟨D - 1, by have := hD.1; omega⟩
    have := wf.inj b b' u hD.2 hb hb'
    subst this
    have hcs := dens_ex_eq hd
    have hf : dens w M tys vs := ht _ (tag_mem hv) (by simp)
    have hload := run_loadN (P := P) hT ha (w := w) (b := b) (off := 0) (cs := vs) hl fun j v hj => by
      rw [← hcs] at hj
      simpa [World.cell?, hh] using hj
    exact ⟨.agg vs.toArray, by simp [execOp, e, hload], _, rfl, by simpa using hf⟩) h
omit T in
theorem r_box_own1 {ty : Ty} (hx : A.op fr x = ty) (h1 : ty.one = true) (hp : fr.pass.contains (d + 1) = false) (hdp : disj ty.deps [d + 1] = true)
    (h : TOps P fr ops rest (A.after { d := some d, ty := .ptr (d + 1) 0, K := [d + 1], sets := [(d + 1, .cells ty' [ty])], rs := opR x }) fun A' l' => K A' ((A, { d := some d, ty := .ptr (d + 1) 0, K := [d + 1], sets := [(d + 1, .cells ty' [ty])], rs := opR x }) :: l')) :
    TOps P fr ops (⟨some d, .box ty' x, t, p, e, none⟩ :: rest) A K := by
  refine ⟨_, opT_mem rfl rfl (by simp) (by simp) (by simp at hp ⊢; exact hp) fun a w M wf hr _ => ?_, h⟩
  have hd := op_den (x := x) (fun _ h => h) hr
  rw [hx] at hd
  have hone := ty.isOne h1 hd
  have hcells : (a.eval x).cells = #[a.eval x] := by
    cases hv : a.eval x <;> first | rfl | (rw [hv] at hone; simp [Value.oneCell'] at hone)
  obtain ⟨h1, h2, h3⟩ := le_alloc wf (.cells #[a.eval x] ty') (d + 1)
  refine ⟨.pointer (some ⟨w.heap.size, 0, none⟩), w.alloc (.cells #[a.eval x] ty'), ?_, _, h1, h2, ⟨_, h3, rfl⟩, ?_⟩
  · simp [execOp, Instr.box, newVar, newRow, newObj, Sem.run, hcells]
  · intro x hx
    simp only [List.mem_singleton] at hx
    subst hx
    exact ⟨w.heap.size, #[a.eval _], h3, alloc_new _ _, ty.mono h2 (disj_spec hdp) (by intro _ _ h; cases h) hd, trivial⟩
end
section
variable {P : Program} {fr : Fr} {A : As} {Q : Exit → Act → World → Prop} {c : Code}
theorem t_factTo (tg' : Nat) {tg : Nat} {tys tys' : List Ty} {vs : List Value} {h1 : depsOf tys = []} {h2 : cdepsOf tys = []} (h3 : depsOf tys' = []) (h4 : cdepsOf tys' = []) (hf : A.tag tg = some (Cont.fact tys vs h1 h2)) (hs : ∀ w M, dens w M tys vs → dens w M tys' vs)
    (h : Tri P fr c ⟨A.slots, (tg', Cont.fact tys' vs h3 h4) :: A.tags⟩ Q) : Tri P fr c A Q := by
  intro a w ⟨M, ok, hsl, htg⟩
  refine h a w ⟨M, ok, hsl, fun x hx => ?_⟩
  rcases List.mem_cons.1 hx with rfl | hx
  · have : dens w M tys vs := htg _ (tag_mem hf)
    exact hs _ _ this
  · exact htg x hx
end
end Go.T

namespace Go.Proofs.YtjjndkenddigiaaDoor
open Go Go.T
set_option maxHeartbeats 2000000
def finC (text : Byt) (fv : Value) : List Ty := [Ty.pp [Ty.str (bs text), Ty.ex fv]]
structure FIx (f : BForm) (text : Byt) (L0 : List (Byt × Rdr)) where
  s : Byt
  p : Rdr
  ok : RdrOk f p
  le : s.length ≤ text.length
  same : filS f p s (text.drop s.length) = L0
theorem cv_rdr {ρ : List (Nat × Nat)} {f : BForm} {p : Rdr} {a b : Nat} (h : (a, b) ∈ ρ) : Conv ρ (Ty.agg (rdrT f p a)) (Ty.agg (rdrT f p b)) :=
  cv_agg (cv_cons (cv_cons (cv_cons (cv_cons (cv_cons (cv_cons (cv_cons (cv_cons (cv_cons (cv_cons (cv_cons (cv_cons cv_nil (cv_pub rfl rfl)) (cv_row h)) (cv_pub rfl rfl)) (cv_pub rfl rfl)) (cv_pub rfl rfl)) (cv_pub rfl rfl)) (cv_pub rfl rfl)) (cv_pub rfl rfl)) (cv_pub rfl rfl)) (cv_pub rfl rfl)) (cv_pub rfl rfl)) (cv_pub rfl rfl))
theorem cc_rdrP {ρ : List (Nat × Nat)} {a b T : Nat} {f : BForm} {p : Rdr} {l : List Ty} (h : (a, b) ∈ ρ) (e : l = rdrPl f p) : ConvC ρ a (.cells T l) b (.cells T (rdrPl f p)) := by
  subst e
  exact cc_cells_eq h rfl rfl rfl
theorem fi_end {f : BForm} {text : Byt} {L0 : List (Byt × Rdr)} (x : FIx f text L0) (h : ¬ (x.s.length : Int) < (text.length : Int)) : L0 = if wholeR x.p = true then [(x.s, x.p)] else [] := by
  have e : text.drop x.s.length = [] := List.drop_of_length_le (by omega)
  have := x.same
  rw [e, fil_nil] at this
  exact this.symm
theorem fi_stop {f : BForm} {text : Byt} {L0 : List (Byt × Rdr)} (x : FIx f text L0) (h : x.s.length < text.length) (h2 : ¬ ((nth text x.s.length).toNat : Int) = 63) (h3 : ¬ nth text x.s.length ∈ canR f x.p) : L0 = [] := by
  rw [← x.same, drop_cons' h]
  exact fil_stop (fun e => h2 (by rw [e]; rfl)) h3
def FIx.next {f : BForm} {text : Byt} {L0 : List (Byt × Rdr)} (x : FIx f text L0) (h : x.s.length < text.length) (h2 : ¬ ((nth text x.s.length).toNat : Int) = 63) (h3 : nth text x.s.length ∈ canR f x.p) : FIx f text L0 :=
  ⟨x.s ++ [nth text x.s.length], nextR f x.p (nth text x.s.length), next_ok x.ok h3, by simp; omega, by
    have h0 := x.same
    rw [drop_cons' h, fil_step (fun e => h2 (by rw [e]; rfl)) h3] at h0
    simpa using h0⟩
theorem fi_torn {f : BForm} {text : Byt} {L0 : List (Byt × Rdr)} (x : FIx f text L0) (h : x.s.length < text.length) (h2 : ((nth text x.s.length).toNat : Int) = 63) : filS f x.p x.s (63 :: text.drop (x.s.length + 1)) = L0 := by
  have e : nth text x.s.length = 63 := UInt8.toNat_inj.1 (by show _ = 63; omega)
  have h0 := x.same
  rw [drop_cons' h, e] at h0
  exact h0
theorem fi_sub {f : BForm} {text : Byt} {L0 AL : List (Byt × Rdr)} {m0 : Nat} (x : FIx f text L0) (h : x.s.length < text.length) (h2 : ((nth text x.s.length).toNat : Int) = 63) (hp : L0 <+: AL.drop m0) {k : Nat} (hk : k < (canR f x.p).length) :
    filS f (nextR f x.p (nth (canR f x.p) k)) (x.s ++ [nth (canR f x.p) k]) (text.drop (x.s ++ [nth (canR f x.p) k]).length) <+: AL.drop (m0 + (upF f x.p x.s (text.drop (x.s.length + 1)) k).length) := by
  have h1 := up_pre (f := f) (p := x.p) (s := x.s) (t := text.drop (x.s.length + 1)) hk
  rw [fi_torn x h h2] at h1
  have := pre_drop (List.IsPrefix.trans h1 hp)
  simpa using this
theorem fi_up {f : BForm} {text : Byt} {L0 : List (Byt × Rdr)} {m0 : Nat} (x : FIx f text L0) {k : Nat} (hk : k < (canR f x.p).length) :
    m0 + (upF f x.p x.s (text.drop (x.s.length + 1)) k).length + (filS f (nextR f x.p (nth (canR f x.p) k)) (x.s ++ [nth (canR f x.p) k]) (text.drop (x.s ++ [nth (canR f x.p) k]).length)).length = m0 + (upF f x.p x.s (text.drop (x.s.length + 1)) (k + 1)).length := by
  rw [up_succ hk, List.length_append]; simp; omega
theorem plain_UB : ∀ x : UInt8, ∀ t ∈ UB.tys x, t.Plain := fun x t ht => by
  rw [show t = Ty.int .u8 (x.toNat : Int) from List.mem_singleton.1 ht]; exact plain_int _ _
attribute [local irreducible] figC canR numF digF' pushN letB lineB figR nextR stepQ sumL wholeR filS upF fillR
attribute [local irreducible] dInt dBool dSl dPp dPtr dAgg dTup dClo dAny dEx dStr dGd dCells dVec dVs dRow dOp nth Tri Into TOps Ctr bodyPost Exit.then Exit.inBlock Code.wp Code.wpIn dPa dArr dMp dMap CtrG keepPost iterPost bodyPostM roundQ
set_option maxRecDepth 100000 in
theorem k_Clone_rows (l : List BRow) (h : l.length ≤ 1000) : CtrG Tryd.prog 97 [] [] [Ty.sl BRowE l] [] (Ty.row BRowE 86 6 l) := by
  refine fnG_intro Tryd.func97 rfl (by decide) Tryd.ntmps97 (by exact Nat.le_of_ble_eq_true rfl) fun w0 M0 => ?_
  refine t_seq ?_
  refine t_region ?_
  refine asX rfl ?_
  refine r_nil ?_
  refine i_then ?_
  refine t_seq ?_
  refine t_seq ?_
  refine t_region ?_
  refine mvS rfl ?_
  refine r_eqnil und28 rfl ?_
  refine r_nil ?_
  refine i_then ?_
  refine t_cond_nb rfl (fun hc1 => ?_) (fun hc1 => ?_)
  ·
    refine t_seq ?_
    refine t_region ?_
    refine asX rfl ?_
    refine r_nil ?_
    refine i_then ?_
    refine t_ret ?_
    refine i_then_ret ?_
    refine g_ret1 [6] rfl rfl (by decide) (by repeat (exact rc_nil)) ?_
    all_goals skip
    all_goals (obtain rfl : l = [] := hc1; exact rg_cv cv_nilrow)
  ·
    refine t_skip ?_
    refine i_then ?_
    refine t_seq ?_
    refine t_region ?_
    refine r_buildRow (E := BRowE) rfl rfl rfl rfl ?_
    refine mvS rfl ?_
    refine r_append rfl rfl (by decide) rfl rfl rfl rfl rfl rfl (by decide) (by (simp <;> omega)) (by (simp <;> omega)) ?_
    refine asR rfl ?_
    refine r_nil ?_
    refine i_then ?_
    refine t_ret ?_
    refine g_ret1 [6] rfl rfl (by decide) (by repeat (exact rc_nil)) ?_
    all_goals skip
    all_goals exact rg_cv (cv_row (by decide))
set_option maxRecDepth 100000 in
theorem k_Clone_u8 (l : Byt) (h : l.length ≤ 65536) : CtrG Tryd.prog 98 [] [] [Ty.sl UB l] [] (Ty.row UB 5 6 l) := by
  refine fnG_intro Tryd.func98 rfl (by decide) Tryd.ntmps98 (by exact Nat.le_of_ble_eq_true rfl) fun w0 M0 => ?_
  refine t_seq ?_
  refine t_region ?_
  refine asX rfl ?_
  refine r_nil ?_
  refine i_then ?_
  refine t_seq ?_
  refine t_seq ?_
  refine t_region ?_
  refine mvS rfl ?_
  refine r_eqnil und27 rfl ?_
  refine r_nil ?_
  refine i_then ?_
  refine t_cond_nb rfl (fun hc1 => ?_) (fun hc1 => ?_)
  ·
    refine t_seq ?_
    refine t_region ?_
    refine asX rfl ?_
    refine r_nil ?_
    refine i_then ?_
    refine t_ret ?_
    refine i_then_ret ?_
    refine g_ret1 [6] rfl rfl (by decide) (by repeat (exact rc_nil)) ?_
    all_goals skip
    all_goals (obtain rfl : l = [] := hc1; exact rg_cv cv_nilrow)
  ·
    refine t_skip ?_
    refine i_then ?_
    refine t_seq ?_
    refine t_region ?_
    refine r_buildRow (E := UB) rfl rfl rfl rfl ?_
    refine mvS rfl ?_
    refine r_append rfl rfl (by decide) rfl rfl rfl rfl rfl rfl (by decide) (by (simp <;> omega)) (by (simp <;> omega)) ?_
    refine asR rfl ?_
    refine r_nil ?_
    refine i_then ?_
    refine t_ret ?_
    refine g_ret1 [6] rfl rfl (by decide) (by repeat (exact rc_nil)) ?_
    all_goals skip
    all_goals exact rg_cv (cv_row (by decide))
set_option maxRecDepth 100000 in
theorem k_canP (f : BForm) (p : Rdr) : CtrG Tryd.prog 91 [1000] [(1000, Cont.cells 140 (rdrPl f p))] [Ty.ptr 1000 0] [(1000, Cont.cells 140 (rdrPl f p))] (Ty.clo 108 [Ty.pp [Ty.ptr 1000 0]]) := by
  refine fnG_intro Tryd.func91 rfl (by decide) Tryd.ntmps91 (by exact Nat.le_of_ble_eq_true rfl) fun w0 M0 => ?_
  refine t_seq ?_
  refine t_region ?_
  refine r_box_one (ty := Ty.ptr 1000 0) rfl rfl ?_
  refine asX rfl ?_
  refine r_nil ?_
  refine i_then ?_
  refine t_seq ?_
  refine t_region ?_
  refine r_makeFunc rfl ?_
  refine asF rfl ?_
  refine r_nil ?_
  refine i_then ?_
  refine t_ret ?_
  refine g_ret1 [1000] rfl rfl (by decide) ?_ ?_
  exact rc_cons rfl (cc_rdrP (by decide) rfl) rc_nil
  all_goals skip
  all_goals exact rg_cv (cv_clo (cv_cons cv_nil (cv_pp (cv_cons cv_nil (cv_ptr (by decide))))))
set_option maxRecDepth 100000 in
theorem c_wholeP (f : BForm) (p : Rdr) : Ctr Tryd.prog 56 [Ty.pp (rdrPl f p)] (Ty.bool (wholeR p)) := by
  refine fn_intro Tryd.func56 rfl (by decide) Tryd.ntmps56 (by exact Nat.le_of_ble_eq_true rfl) fun w0 M0 => ?_
  refine t_seq ?_
  refine t_region ?_
  refine asB rfl ?_
  refine r_nil ?_
  refine i_then ?_
  refine t_seq ?_
  refine t_region ?_
  refine mvP rfl ?_
  refine r_nilCheck_pp rfl ?_
  refine r_field_pp rfl rfl rfl rfl rfl (by decide) ?_
  refine r_field_pp rfl rfl rfl rfl rfl (by decide) ?_
  refine r_load_pp rfl rfl rfl rfl ?_
  refine mvB rfl ?_
  apply r_guard (s := 8) rfl rfl rfl
  · intro hg; apply opT_of; (refine mvP rfl ?_); refine r_nil ?_; exact rfl
  · exact rfl
  · exact rfl
  apply r_guard (s := 8) rfl rfl rfl
  · intro hg; apply opT_strip (s := 9) rfl (by (rw [hg]; rfl)); apply opT_of; (refine r_nilCheck_pp rfl ?_); refine r_nil ?_; exact rfl
  · exact rfl
  · exact rfl
  apply r_guard (s := 8) rfl rfl rfl
  · intro hg; apply opT_strip (s := 10) rfl (by (rw [hg]; rfl)); apply opT_of; (refine r_field_pp rfl rfl rfl rfl rfl (by decide) ?_); refine r_nil ?_; exact rfl
  · exact rfl
  · exact rfl
  apply r_guard (s := 8) rfl rfl rfl
  · intro hg; apply opT_strip (s := 11) rfl (by (rw [hg]; rfl)); apply opT_of; (refine r_load_pp rfl rfl rfl rfl ?_); refine r_nil ?_; exact rfl
  · exact rfl
  · exact rfl
  apply r_guard (s := 8) rfl rfl rfl
  · intro hg; apply opT_strip (s := 12) rfl (by (rw [hg]; rfl)); apply opT_of; (refine r_eqlS rfl rfl ?_); refine r_nil ?_; exact rfl
  · exact rfl
  · exact rfl
  refine r_and rfl rfl ?_
  refine asB rfl ?_
  refine r_nil ?_
  refine i_then ?_
  refine t_ret ?_
  refine i_rp1 rfl rfl ?_
  all_goals skip
  all_goals exact ret_eq rfl rfl (congrArg Ty.bool (whole_eq p))
set_option maxRecDepth 100000 in
theorem c_fillS (f : BForm) (text : Byt) (hl : text.length ≤ 65536) (AL : List (Byt × Rdr)) (fv : Value) (J : Nat → World → Tags → Prop) (Jx : World → Tags → Prop) (hJ : ∀ k, Cb (J k)) (hJx : Cb Jx) (hF : FndC Tryd.prog fv (AL.map (encF f)) J Jx) (s : Byt) (p : Rdr) (m0 : Nat) (ho : RdrOk f p) (hs : s.length ≤ text.length) (hp : filS f p s (text.drop s.length) <+: AL.drop m0) (ih : ∀ (s' : Byt) (p' : Rdr) (k' : Nat), text.length - s'.length < text.length - s.length → s'.length ≤ text.length → RdrOk f p' → filS f p' s' (text.drop s'.length) <+: AL.drop k' → MoreF Tryd.prog 96 147 (finC text fv) [Ty.row UB 5 1002 s', Ty.agg (rdrT f p' 1003)] (J k') (J (k' + (filS f p' s' (text.drop s'.length)).length)) Jx) : MoreF Tryd.prog 96 147 (finC text fv) [Ty.row UB 5 1002 s, Ty.agg (rdrT f p 1003)] (J (m0)) (J (m0 + (filS f p s (text.drop s.length)).length)) Jx := by
  refine moreF_intro (hJ (m0)) Tryd.func96 rfl (by decide) Tryd.ntmps96 (by exact Nat.le_of_ble_eq_true rfl) rfl rfl fun w0 Mc g own cs0 wf0 z0 how0 hg0 hh0 => ?_
  refine t_seq ?_
  refine t_region ?_
  refine r_box_own1 (ty := Ty.row UB 5 1002 s) rfl rfl rfl rfl ?_
  refine r_box_own rfl rfl rfl ?_
  refine r_alloc rfl (by exact List.cons_ne_nil _ _) rfl ?_
  refine r_nil ?_
  refine i_then ?_
  refine t_seq ?_
  refine t_seq ?_
  refine t_region ?_
  refine r_load_ptr rfl rfl (by decide) rfl rfl rfl ?_
  refine r_len_row rfl rfl rfl ?_
  refine asI rfl ?_
  refine r_nil ?_
  refine i_then ?_
  refine t_block ?_
  refine t_loop (fun (x : {x : FIx f text (filS f p s (text.drop s.length)) // s.length ≤ x.s.length}) => live [(2, Ty.pp [Ty.str (bs text), Ty.ex fv]), (3, Ty.ptr 1000 0), (4, Ty.ptr 5 0), (5, Ty.ptr 6 0), (6, Ty.ptr 7 0), (7, Ty.int .i64 (x.1.s.length : Nat))] [(5, Cont.cells 27 [Ty.row UB 5 1002 x.1.s]), (6, Cont.cells 140 (rdrT f x.1.p 1003)), (7, Cont.cells 4 [Ty.bool false]), (7000, Cont.ck (hJ m0)), (1000, Cont.cells 147 [Ty.ex (.func (.func 96) #[] (cs0 ++ [gp g]).toArray)]), (1001, Cont.me g 147 (.func (.func 96) #[] (cs0 ++ [gp g]).toArray) (finC text fv) cs0 rfl rfl), (5000, Cont.snap w0 (oldF Mc g own))]) (fun x => text.length - x.1.s.length) (⟨⟨s, p, ho, hs, rfl⟩, Nat.le_refl _⟩) ?_ fun x => ?_
  · (refine Ent.mk' ?_ ?_ <;> (repeat' (first | exact allSub_zero | exact allTags_nil | refine allSub_succ' ?_ (Ty.sub_any _) | refine allSub_succ' ?_ (Ty.sub_refl _) | refine allTags_cons rfl (Cont.sub_refl _) ?_)))
    all_goals trace_state
  ·
    have hxl := x.1.le
    have hxs := x.2
    have hlp := x.1.ok.len
    refine t_seq ?_
    refine t_seq ?_
    refine t_region ?_
    refine mvI rfl ?_
    refine r_field_pp rfl rfl rfl rfl rfl (by decide) ?_
    refine r_load_pp rfl rfl rfl rfl ?_
    refine r_lenS rfl rfl rfl ?_
    refine r_bin rfl rfl rfl ?_
    refine r_nil ?_
    refine i_then ?_
    refine t_cond_dec rfl (fun hc1 => ?_) (fun hc1 => ?_)
    ·
      refine t_skip ?_
      refine i_then ?_
      refine t_seq ?_
      refine t_block ?_
      refine t_seq ?_
      have hlt : x.1.s.length < text.length := by omega
      refine t_region ?_
      refine r_field_pp rfl rfl rfl rfl rfl (by decide) ?_
      refine r_load_pp rfl rfl rfl rfl ?_
      refine mvI rfl ?_
      refine r_idxS (i := x.1.s.length) rfl rfl rfl rfl hlt ?_
      refine asI rfl ?_
      refine r_nil ?_
      refine i_then ?_
      refine t_seq ?_
      refine t_seq ?_
      refine t_region ?_
      refine mvI rfl ?_
      refine r_bin rfl rfl rfl ?_
      refine r_nil ?_
      refine i_then ?_
      refine t_cond_ndec rfl (fun hc2 => ?_) (fun hc2 => ?_)
      ·
        refine t_seq ?_
        refine t_seq ?_
        refine t_region ?_
        refine mvI rfl ?_
        refine r_callG [(6, 1000), (1003, 1001)] [1003] [(6, Cont.cells 140 (rdrT f (stepQ f x.1.p (nth text x.1.s.length)) 1003))] (k_step f _ x.1.ok (nth text x.1.s.length)) rfl rfl (by repeat (first | exact cv_nil | refine cv_cons ?_ ?_ | exact cv_ptr List.mem_cons_self | exact cv_pub rfl rfl)) (pre_cons (a := 6) (b := 1000) (by exact List.mem_cons_self) rfl (cc_rdr (by exact List.mem_cons_self) (List.mem_cons_of_mem _ List.mem_cons_self) rfl) pre_nil) (post_cons (a := 6) (b := 1000) (by exact List.mem_cons_self) rfl (cc_rdr (by exact List.mem_cons_self) (List.mem_cons_of_mem _ List.mem_cons_self) rfl) post_nil) (cv_pub rfl rfl) ?_
        refine r_not rfl ?_
        refine r_nil ?_
        refine i_then ?_
        refine t_cond_ndec rfl (fun hc3 => ?_) (fun hc3 => ?_)
        ·
          refine t_seq ?_
          refine t_region ?_
          refine r_store1 rfl rfl (by decide) rfl rfl (by exact (rfl : _ = Ty.bool _)) rfl (by exact Nat.le_of_ble_eq_true rfl) rfl rfl (by exact (rfl : _ = [_])) ?_
          refine r_nil ?_
          refine i_then ?_
          refine t_ret ?_
          refine i_then_ret ?_
          refine i_then_ret ?_
          refine i_block_ret ?_
          refine i_then_ret ?_
          refine i_then_ret ?_
          refine i_block_ret ?_
          refine i_then_ret ?_
          refine m_ret rfl ?_
          exact i_retFt (hj := hJ _) z0 wf0 (congrArg J (by rw [fi_stop x.1 hlt hc2 hc3]; rfl)) hh0 rfl rfl rfl rfl (by decide) rfl rfl rfl rfl rfl
        ·
          refine t_skip ?_
          refine i_then ?_
          refine t_seq ?_
          refine t_asC (tg := 6) (D := Cont.cells 140 (rdrT f (nextR f x.1.p (nth text x.1.s.length)) 1003)) rfl (by rw [stepQ_yes hc3]; exact Cont.sub_refl _) ?_
          refine t_region ?_
          refine r_load_ptr rfl rfl (by decide) rfl rfl rfl ?_
          refine mvI rfl ?_
          refine r_buildSlice (E := UB) (xs := [_]) rfl rfl rfl rfl rfl (by decide) (by decide) (by repeat (first | exact (Parts.nil : Parts _ _ [] _) | (show Parts _ _ ((_, _) :: _) _; apply Parts.one; (· exact (rfl : _ = Ty.int _ _)); (· exact rfl)))) (by exact rfl) rfl ?_
          refine r_append rfl rfl (by decide) rfl rfl rfl rfl rfl rfl (by decide) (by (simp <;> omega)) (by (simp <;> omega)) ?_
          refine r_store1 rfl rfl (by decide) rfl rfl (by exact (rfl : _ = Ty.row _ _ _ _)) rfl (by exact Nat.le_of_ble_eq_true rfl) rfl rfl (by exact (rfl : _ = [_])) ?_
          refine r_nil ?_
          refine i_then ?_
          refine t_exit ?_
          refine i_then_exit ?_
          refine i_block_exit rfl ?_
          refine i_then ?_
          refine t_region ?_
          refine mvI rfl ?_
          refine r_add rfl rfl (by omega) (by omega) ?_
          refine asI rfl ?_
          refine r_nil ?_
          refine i_round (⟨x.1.next hlt hc2 hc3, by show s.length ≤ (x.1.s ++ [_]).length; simp; omega⟩) ?_ (by show text.length - (x.1.s ++ [nth text x.1.s.length]).length < text.length - x.1.s.length; simp; omega)
          (refine Ent.mk' ?_ ?_ <;> (repeat' (first | exact allSub_zero | exact allTags_nil | refine allSub_succ' ?_ (Ty.sub_any _) | refine allSub_succ' ?_ (Ty.sub_refl _) | refine allTags_cons rfl (Cont.sub_refl _) ?_ | refine allSub_succ' ?_ ?_)))
          all_goals skip
          all_goals exact Ty.sub_int (by show ((x.1.s.length : Nat) : Int) + 1 = (((x.1.s ++ [nth text x.1.s.length]).length : Nat) : Int); simp)
      ·
        refine t_skip ?_
        refine i_then ?_
        refine t_seq ?_
        refine t_seq ?_
        refine t_pubC (tg := 1003) [] [(6, Cont.cells 140 (rdrPl f x.1.p))] (by decide) rfl trivial ⟨pubC_cells rfl rfl ⟨pubTy_same rfl, pubTy_same rfl, pubTy_same rfl, pubTy_same rfl, pubTy_same rfl, pubTy_same rfl, pubTy_same rfl, pubTy_same rfl, pubTy_same rfl, pubTy_same rfl, pubTy_row, pubTy_same rfl, trivial⟩, trivial⟩ ?_
        refine t_region ?_
        refine r_callG (res' := Ty.clo 108 [Ty.pp [Ty.ptr 6 0]]) [(6, 1000)] [] [(6, Cont.cells 140 (rdrPl f x.1.p))] (k_canP f x.1.p) rfl rfl (cv_cons cv_nil (cv_ptr (by exact List.mem_cons_self))) (pre_cons (a := 6) (b := 1000) (by exact List.mem_cons_self) rfl (cc_rdrP (by exact List.mem_cons_self) rfl) pre_nil) (post_cons (a := 6) (b := 1000) (by exact List.mem_cons_self) rfl (cc_rdrP (by exact List.mem_cons_self) rfl) post_nil) (cv_clo (cv_cons cv_nil (cv_pp (cv_cons cv_nil (cv_ptr (by exact List.mem_cons_self)))))) ?_
        refine r_nil ?_
        refine i_then ?_
        refine t_name (D := 6) (Tb := 140) (tys := rdrPl f x.1.p) (r := []) rfl rfl rfl (by decide) fun vs hvs => ?_
        obtain ⟨v0, v1, v2, v3, v4, v5, v6, v7, v8, v9, v10, v11, rfl⟩ := twelve hvs rfl
        refine t_factTo 4001 (tg := 4000) (tys := rdrPl f x.1.p) (tys' := rdrPl f x.1.p) (vs := [v0, v1, v2, v3, v4, v5, v6, v7, v8, v9, v10, v11]) rfl rfl rfl (fun _ _ h => h) ?_
        refine t_factTo 4000 (tg := 4001) (tys := rdrPl f x.1.p) (tys' := rdrN f x.1.p v10) (vs := [v0, v1, v2, v3, v4, v5, v6, v7, v8, v9, v10, v11]) rfl rfl rfl (fun _ _ ⟨h0, h1, h2, h3, h4, h5, h6, h7, h8, h9, _, h11⟩ => ⟨h0, h1, h2, h3, h4, h5, h6, h7, h8, h9, (dens_ex [v10]).1, h11⟩) ?_
        refine t_block ?_
        refine t_rangeFuncT (ps := [34]) (lk [(2, Ty.pp [Ty.str (bs text), Ty.ex fv]), (3, Ty.ptr 1000 0), (4, Ty.ptr 5 0), (5, Ty.ptr 6 0), (6, Ty.ptr 7 0)]) (fun k => [(6, Cont.cells 140 [Ty.ex v0, Ty.ex v1, Ty.ex v2, Ty.ex v3, Ty.ex v4, Ty.ex v5, Ty.ex v6, Ty.ex v7, Ty.ex v8, Ty.ex v9, Ty.ex v10, Ty.ex v11]), (4000, Cont.fact (rdrN f x.1.p v10) [v0, v1, v2, v3, v4, v5, v6, v7, v8, v9, v10, v11] rfl rfl), (4001, Cont.fact (rdrPl f x.1.p) [v0, v1, v2, v3, v4, v5, v6, v7, v8, v9, v10, v11] rfl rfl), (5, Cont.cells 27 [Ty.row UB 5 1002 x.1.s]), (7, Cont.cells 4 [Ty.bool false]), (7000, Cont.ck (hJ (m0 + (upF f x.1.p x.1.s (text.drop (x.1.s.length + 1)) k).length))), (1000, Cont.cells 147 [Ty.ex (.func (.func 96) #[] (cs0 ++ [gp g]).toArray)]), (1001, Cont.me g 147 (.func (.func 96) #[] (cs0 ++ [gp g]).toArray) (finC text fv) cs0 rfl rfl), (5000, Cont.snap w0 (oldF Mc g own))]) true [(7, Cont.cells 4 [Ty.bool false]), (7000, Cont.ck hJx), (1001, Cont.me g 147 (.func (.func 96) #[] (cs0 ++ [gp g]).toArray) (finC text fv) cs0 rfl rfl), (5000, Cont.snap w0 (oldF Mc g own))] [7000, 5000, 1000, 1001, 1002, 4000, 4001, 5, 6, 7] rfl rfl ((c_can1 f x.1.p x.1.ok v10 0 6 [v0, v1, v2, v3, v4, v5, v6, v7, v8, v9, v10, v11]).1) (ranges_X (D := 6) (n := 60) (sd := 5) (r := fun k => []) (fun b => c_can1 f x.1.p x.1.ok v10 b 6 [v0, v1, v2, v3, v4, v5, v6, v7, v8, v9, v10, v11]) (by decide) (by decide) rfl (fun k => List.mem_cons_self) (List.mem_cons_of_mem _ List.mem_cons_self)) (deps_lt rfl) (deps_lt rfl) (by decide) (by intro t ht; obtain ⟨y, _, rfl⟩ := List.mem_map.1 ht; exact ⟨rfl, rfl, rfl⟩) rfl rfl (fun _ => rfl) rfl ?_ ?_ ?_ ?_
        · (refine Ent.mk' ?_ ?_ <;> (repeat' (first | exact allSub_zero | exact allTags_nil | refine allSub_succ' ?_ (Ty.sub_any _) | refine allSub_succ' ?_ (Ty.sub_refl _) | refine allTags_cons rfl (Cont.sub_refl _) ?_ | refine allTags_cons rfl ?_ ?_)))
          all_goals exact ck_eq hJ (by rw [up_zero]; rfl)
        · intro k tys hk
          obtain ⟨hk1, rfl⟩ := enc_get hk
          have hmem := nth_mem hk1
          refine ⟨live [(2, Ty.pp [Ty.str (bs text), Ty.ex fv]), (3, Ty.ptr 1000 0), (4, Ty.ptr 5 0), (5, Ty.ptr 6 0), (6, Ty.ptr 7 0), (9, Ty.int .u8 ((nth (canR f x.1.p) k).toNat : Int))] [(6, Cont.cells 140 [Ty.ex v0, Ty.ex v1, Ty.ex v2, Ty.ex v3, Ty.ex v4, Ty.ex v5, Ty.ex v6, Ty.ex v7, Ty.ex v8, Ty.ex v9, Ty.ex v10, Ty.ex v11]), (4000, Cont.fact (rdrN f x.1.p v10) [v0, v1, v2, v3, v4, v5, v6, v7, v8, v9, v10, v11] rfl rfl), (4001, Cont.fact (rdrPl f x.1.p) [v0, v1, v2, v3, v4, v5, v6, v7, v8, v9, v10, v11] rfl rfl), (5, Cont.cells 27 [Ty.row UB 5 1002 x.1.s]), (7, Cont.cells 4 [Ty.bool false]), (7000, Cont.ck (hJ (m0 + (upF f x.1.p x.1.s (text.drop (x.1.s.length + 1)) k).length))), (1000, Cont.cells 147 [Ty.ex (.func (.func 96) #[] (cs0 ++ [gp g]).toArray)]), (1001, Cont.me g 147 (.func (.func 96) #[] (cs0 ++ [gp g]).toArray) (finC text fv) cs0 rfl rfl), (5000, Cont.snap w0 (oldF Mc g own))], fun l w M => ?_, fun l w M => ?_⟩
          ·
            refine t_region ?_
            refine asI rfl ?_
            refine r_nil ?_
            refine i_join ?_
            (refine Ent.mk' ?_ ?_ <;> (repeat' (first | exact allSub_zero | exact allTags_nil | refine allSub_succ' ?_ (Ty.sub_any _) | refine allSub_succ' ?_ (Ty.sub_refl _) | refine allTags_cons rfl (Cont.sub_refl _) ?_)))
          ·
            refine t_block ?_
            refine t_seq ?_
            refine t_region ?_
            refine r_loadFactN (tys := rdrPl f x.1.p) (vs := [v0, v1, v2, v3, v4, v5, v6, v7, v8, v9, v10, v11]) 4001 rfl rfl (by decide) rfl rfl rfl rfl ?_
            refine r_alloc rfl (by exact List.cons_ne_nil _ _) rfl ?_
            refine r_storeN rfl rfl (by decide) rfl rfl rfl rfl rfl rfl ?_
            refine r_nil ?_
            refine i_then ?_
            refine t_seq ?_
            refine t_region ?_
            refine r_field_ptr rfl rfl rfl rfl rfl (by decide) ?_
            refine r_loadFact 4001 rfl rfl (by decide) rfl rfl rfl rfl rfl rfl ?_
            refine r_callG [(39, 6)] [39] [] (k_Clone_rows x.1.p.read (by omega)) rfl rfl (by repeat (first | exact cv_nil | refine cv_cons ?_ ?_ | exact cv_pub rfl rfl)) pre_nil post_nil (cv_row (by exact List.mem_cons_self)) ?_
            refine r_field_ptr rfl rfl rfl rfl rfl (by decide) ?_
            refine r_store1 rfl rfl (by decide) rfl rfl (by exact (rfl : _ = Ty.row _ _ _ _)) rfl (by exact Nat.le_of_ble_eq_true rfl) rfl rfl (by exact rfl) ?_
            refine r_nil ?_
            refine i_then ?_
            refine t_seq ?_
            refine t_forget (B := live [(2, Ty.pp [Ty.str (bs text), Ty.ex fv]), (3, Ty.ptr 1000 0), (4, Ty.ptr 5 0), (5, Ty.ptr 6 0), (6, Ty.ptr 7 0), (9, Ty.int .u8 ((nth (canR f x.1.p) k).toNat : Int)), (10, Ty.ptr 11 0)] [(11, Cont.cells 140 (rdrT f (x.1.p) 39)), (6, Cont.cells 140 [Ty.ex v0, Ty.ex v1, Ty.ex v2, Ty.ex v3, Ty.ex v4, Ty.ex v5, Ty.ex v6, Ty.ex v7, Ty.ex v8, Ty.ex v9, Ty.ex v10, Ty.ex v11]), (4000, Cont.fact (rdrN f x.1.p v10) [v0, v1, v2, v3, v4, v5, v6, v7, v8, v9, v10, v11] rfl rfl), (4001, Cont.fact (rdrPl f x.1.p) [v0, v1, v2, v3, v4, v5, v6, v7, v8, v9, v10, v11] rfl rfl), (5, Cont.cells 27 [Ty.row UB 5 1002 x.1.s]), (7, Cont.cells 4 [Ty.bool false]), (7000, Cont.ck (hJ (m0 + (upF f x.1.p x.1.s (text.drop (x.1.s.length + 1)) k).length))), (1000, Cont.cells 147 [Ty.ex (.func (.func 96) #[] (cs0 ++ [gp g]).toArray)]), (1001, Cont.me g 147 (.func (.func 96) #[] (cs0 ++ [gp g]).toArray) (finC text fv) cs0 rfl rfl), (5000, Cont.snap w0 (oldF Mc g own))]) ?_ ?_
            · (refine Ent.mk' ?_ ?_ <;> (repeat' (first | exact allSub_zero | exact allTags_nil | refine allSub_succ' ?_ (Ty.sub_any _) | refine allSub_succ' ?_ (Ty.sub_refl _) | refine allTags_cons rfl (Cont.sub_refl _) ?_)))
            refine t_region ?_
            refine mvI rfl ?_
            refine r_callG [(11, 1000), (39, 1001)] [39] [(11, Cont.cells 140 (rdrT f (nextR f x.1.p (nth (canR f x.1.p) k)) 39))] (k_step f _ x.1.ok (nth (canR f x.1.p) k)) rfl rfl (by repeat (first | exact cv_nil | refine cv_cons ?_ ?_ | exact cv_ptr List.mem_cons_self | exact cv_pub rfl rfl)) (pre_cons (a := 11) (b := 1000) (by exact List.mem_cons_self) rfl (cc_rdr (by exact List.mem_cons_self) (List.mem_cons_of_mem _ List.mem_cons_self) rfl) pre_nil) (post_cons (a := 11) (b := 1000) (by exact List.mem_cons_self) rfl (cc_rdr (by exact List.mem_cons_self) (List.mem_cons_of_mem _ List.mem_cons_self) (by rw [stepQ_yes hmem])) post_nil) (cv_pub rfl rfl) ?_
            refine r_nil ?_
            refine i_then ?_
            refine t_seq ?_
            refine t_forget (B := live [(2, Ty.pp [Ty.str (bs text), Ty.ex fv]), (3, Ty.ptr 1000 0), (4, Ty.ptr 5 0), (5, Ty.ptr 6 0), (6, Ty.ptr 7 0), (9, Ty.int .u8 ((nth (canR f x.1.p) k).toNat : Int)), (10, Ty.ptr 11 0)] [(11, Cont.cells 140 (rdrT f (nextR f x.1.p (nth (canR f x.1.p) k)) 39)), (6, Cont.cells 140 [Ty.ex v0, Ty.ex v1, Ty.ex v2, Ty.ex v3, Ty.ex v4, Ty.ex v5, Ty.ex v6, Ty.ex v7, Ty.ex v8, Ty.ex v9, Ty.ex v10, Ty.ex v11]), (4000, Cont.fact (rdrN f x.1.p v10) [v0, v1, v2, v3, v4, v5, v6, v7, v8, v9, v10, v11] rfl rfl), (4001, Cont.fact (rdrPl f x.1.p) [v0, v1, v2, v3, v4, v5, v6, v7, v8, v9, v10, v11] rfl rfl), (5, Cont.cells 27 [Ty.row UB 5 1002 x.1.s]), (7, Cont.cells 4 [Ty.bool false]), (7000, Cont.ck (hJ (m0 + (upF f x.1.p x.1.s (text.drop (x.1.s.length + 1)) k).length))), (1000, Cont.cells 147 [Ty.ex (.func (.func 96) #[] (cs0 ++ [gp g]).toArray)]), (1001, Cont.me g 147 (.func (.func 96) #[] (cs0 ++ [gp g]).toArray) (finC text fv) cs0 rfl rfl), (5000, Cont.snap w0 (oldF Mc g own))]) ?_ ?_
            · (refine Ent.mk' ?_ ?_ <;> (repeat' (first | exact allSub_zero | exact allTags_nil | refine allSub_succ' ?_ (Ty.sub_any _) | refine allSub_succ' ?_ (Ty.sub_refl _) | refine allTags_cons rfl (Cont.sub_refl _) ?_)))
            refine t_draw mixed rfl ?_
            refine r_load_ptr rfl rfl (by decide) rfl rfl rfl ?_
            refine r_load_ptr rfl rfl (by decide) rfl rfl rfl ?_
            refine r_callGL [1002] 45 (k_Clone_u8 x.1.s (by omega)) rfl (by repeat (first | exact lends_nil | refine lends_cons (lend_row rfl) ?_)) plain_UB (by decide) (by decide) rfl ?_
            refine mvI rfl ?_
            refine r_buildSlice (E := UB) (xs := [_]) rfl rfl rfl rfl rfl (by decide) (by decide) (by repeat (first | exact (Parts.nil : Parts _ _ [] _) | (show Parts _ _ ((_, _) :: _) _; apply Parts.one; (· exact (rfl : _ = Ty.int _ _)); (· exact rfl)))) (by exact rfl) rfl ?_
            refine r_append rfl rfl (by decide) rfl rfl rfl rfl rfl rfl (by decide) (by (simp <;> omega)) (by (simp <;> omega)) ?_
            refine r_load_ptrN rfl rfl (by decide) rfl rfl (by exact Nat.le_of_ble_eq_true rfl) ?_
            refine r_callF (ss := [Ty.row UB 5 45 (x.1.s ++ [nth (canR f x.1.p) k]), Ty.agg (rdrT f (nextR f x.1.p (nth (canR f x.1.p) k)) 39)]) [(45, 1002), (39, 1003)] (hJ (m0 + (upF f x.1.p x.1.s (text.drop (x.1.s.length + 1)) k).length)) (hJ _) hJx (ih (x.1.s ++ [nth (canR f x.1.p) k]) (nextR f x.1.p (nth (canR f x.1.p) k)) (m0 + (upF f x.1.p x.1.s (text.drop (x.1.s.length + 1)) k).length) (by simp; omega) (by simp; omega) (next_ok x.1.ok hmem) (fi_sub x.1 hlt hc2 hp hk1)) rfl rfl (cv_cons (cv_cons cv_nil (cv_rdr (List.mem_cons_of_mem _ List.mem_cons_self))) (cv_row List.mem_cons_self)) rfl rfl rfl ?_
            refine r_notY (h1 := hJ _) (hx := hJx) rfl ?_
            refine r_nil ?_
            refine ⟨by kernel_rfl, ?_⟩
            refine i_then ?_
            refine t_condY (h1 := hJ _) (hx := hJx) rfl ?_ ?_
            ·
              refine t_seq ?_
              refine t_region ?_
              refine r_store1 rfl rfl (by decide) rfl rfl (by exact (rfl : _ = Ty.bool _)) rfl (by exact Nat.le_of_ble_eq_true rfl) rfl rfl (by exact (rfl : _ = [_])) ?_
              refine r_nil ?_
              refine i_then ?_
              refine t_ret ?_
              refine i_block_ret ?_
              refine q_ret ?_
              (refine Ent.mk' ?_ ?_ <;> (repeat' (first | exact allSub_zero | exact allTags_nil | refine allSub_succ' ?_ (Ty.sub_any _) | refine allTags_cons rfl (Cont.sub_refl _) ?_)))
            ·
              refine t_skip ?_
              refine i_block ?_
              refine q_normal ?_
              (refine Ent.mk' ?_ ?_ <;> (repeat' (first | exact allSub_zero | exact allTags_nil | refine allSub_succ' ?_ (Ty.sub_any _) | refine allTags_cons rfl (Cont.sub_refl _) ?_ | refine allTags_cons rfl ?_ ?_)))
              all_goals exact ck_eq hJ (fi_up x.1 hk1)
        ·
          refine i_block ?_
          refine i_then ?_
          refine t_seq ?_
          refine t_region ?_
          refine r_store1 rfl rfl (by decide) rfl rfl (by exact (rfl : _ = Ty.bool _)) rfl (by exact Nat.le_of_ble_eq_true rfl) rfl rfl (by exact (rfl : _ = [_])) ?_
          refine r_nil ?_
          refine i_then ?_
          refine t_ret ?_
          refine i_block_ret ?_
          refine i_then_ret ?_
          refine i_then_ret ?_
          refine i_block_ret ?_
          refine i_then_ret ?_
          refine m_ret rfl ?_
          exact i_retFt (hj := hJ _) z0 wf0 (congrArg J (by rw [List.length_map, up_all, fi_torn x.1 hlt hc2])) hh0 rfl rfl rfl rfl (by decide) rfl rfl rfl rfl rfl
        · intro _
          refine i_block_ret ?_
          refine i_then_ret ?_
          refine i_block_ret ?_
          refine i_then_ret ?_
          refine i_then_ret ?_
          refine i_block_ret ?_
          refine i_then_ret ?_
          refine m_ret rfl ?_
          exact i_retFx (hx := hJx) z0 wf0 hh0 rfl rfl rfl rfl (by decide) rfl rfl rfl rfl rfl
    ·
      refine t_exit ?_
      refine i_then_exit ?_
      refine i_then_exit ?_
      refine i_block_exit rfl ?_
      refine i_then ?_
      refine t_seq ?_
      refine t_pubC (tg := 1003) [] [(6, Cont.cells 140 (rdrPl f x.1.p))] (by decide) rfl trivial ⟨pubC_cells rfl rfl ⟨pubTy_same rfl, pubTy_same rfl, pubTy_same rfl, pubTy_same rfl, pubTy_same rfl, pubTy_same rfl, pubTy_same rfl, pubTy_same rfl, pubTy_same rfl, pubTy_same rfl, pubTy_row, pubTy_same rfl, trivial⟩, trivial⟩ ?_
      refine t_pub (tg := 6) [(5, Ty.pp (rdrPl f x.1.p))] (by decide) rfl ⟨pub_ptr (T := 140) (tg := 6) (off := 0) (l := rdrPl f x.1.p) rfl rfl rfl (by decide), trivial⟩ ?_
      refine t_region ?_
      refine r_call (c_wholeP _ _) rfl rfl rfl rfl rfl ?_
      refine r_not rfl ?_
      refine mvB rfl ?_
      cases hsp : (wholeR x.1.p)
      ·
        refine r_off rfl rfl rfl rfl ?_
        refine r_off rfl rfl rfl rfl ?_
        refine r_off rfl rfl rfl rfl ?_
        refine r_off rfl rfl rfl rfl ?_
        refine r_off rfl rfl rfl rfl ?_
        refine r_pkT rfl rfl ?_
        refine r_store1 (ty := Ty.bool true) rfl rfl (by decide) rfl rfl rfl rfl (by exact Nat.le_of_ble_eq_true rfl) rfl rfl (by exact (rfl : _ = [_])) ?_
        refine r_nil ?_
        refine i_then ?_
        refine t_ret ?_
        refine m_ret rfl ?_
        exact i_retFt (hj := hJ _) z0 wf0 (congrArg J (by rw [fi_end x.1 hc1, hsp]; rfl)) hh0 rfl rfl rfl rfl (by decide) rfl rfl rfl rfl rfl
      ·
        (refine r_on rfl rfl rfl (by apply opT_of; (refine r_field_pp rfl rfl rfl rfl rfl (by decide) ?_); refine r_nil ?_; exact rfl) ?_)
        (refine r_on rfl rfl rfl (by apply opT_of; (refine r_load_pp rfl rfl rfl rfl ?_); refine r_nil ?_; exact rfl) ?_)
        (refine r_on rfl rfl rfl (by apply opT_of; (refine r_load_ptr rfl rfl (by decide) rfl rfl rfl ?_); refine r_nil ?_; exact rfl) ?_)
        (refine r_on rfl rfl rfl (by apply opT_of; (refine r_convRS rfl rfl rfl rfl rfl Tryd.underlying5 ?_); refine r_nil ?_; exact rfl) ?_)
        (refine r_on rfl rfl rfl (by apply opT_of; (refine r_callFnd hJ hJx hF rfl rfl rfl rfl (by rw [List.getElem?_map, pre_get (by have h := hp; rw [fi_end x.1 hc1, hsp] at h; exact h)]; rfl) rfl ?_); refine r_nil ?_; exact rfl) ?_)
        refine r_pkF rfl rfl ?_
        refine r_store1 (ty := Ty.yb true (hJ (m0 + 1)) hJx) rfl rfl (by decide) rfl rfl rfl rfl (by exact Nat.le_of_ble_eq_true rfl) rfl rfl (by exact (rfl : _ = [_])) ?_
        refine r_nil ?_
        refine i_then ?_
        refine t_ret ?_
        refine m_ret rfl ?_
        exact i_retFy (h1 := hJ _) (hx := hJx) z0 wf0 hh0 rfl rfl rfl rfl (by decide) rfl rfl rfl rfl (Ty.sub_yb (h1 := hJ (m0 + 1)) (congrArg J (by rw [fi_end x.1 hc1, hsp]; rfl)))
end Go.Proofs.YtjjndkenddigiaaDoor

namespace Go.Proofs.YtjjndkenddigiaaDoor
open Go Go.T
theorem figs_few (a : Bool) : (figs a).length ≤ 10 := by cases a <;> decide
theorem can_few (f : BForm) (p : Rdr) : (canR f p).length ≤ 11 := by
  unfold canR
  split
  · simp
  · split
    · rw [figC_eq, List.length_append]
      have := figs_few (ctnB f p)
      split <;> simp <;> omega
    · split
      · split <;> simp
      · rw [List.length_append]
        split <;> split <;> simp
theorem flat_le {α β : Type} {n : Nat} (g : α → List β) : ∀ (l : List α), (∀ x ∈ l, (g x).length ≤ n) → (l.flatMap g).length ≤ l.length * n
  | [], _ => by simp
  | x :: l, h => by
    rw [List.flatMap_cons, List.length_append, List.length_cons, Nat.succ_mul]
    have := flat_le g l fun y hy => h y (List.mem_cons_of_mem _ hy)
    have := h x List.mem_cons_self
    omega
theorem fil_few {f : BForm} : ∀ (t : Byt) (p : Rdr), (fillR f p t).length ≤ 11 ^ tornN t
  | [], p => by
    rw [fillR]; split <;> simp [tornN]
  | c :: t, p => by
    rw [fillR]
    split
    · rename_i hc
      have e : tornN (c :: t) = tornN t := by unfold tornN; rw [List.count_cons_of_ne (by exact hc)]
      rw [e]
      split
      · simp
      · rw [List.length_map]; exact fil_few t _
    · rename_i hc
      have hc : c = 63 := by simpa using hc
      have e : tornN (c :: t) = tornN t + 1 := by unfold tornN; rw [hc, List.count_cons_self]
      rw [e, Nat.pow_succ, Nat.mul_comm]
      refine Nat.le_trans (flat_le (n := 11 ^ tornN t) _ _ fun d _ => ?_) (Nat.mul_le_mul_right _ (can_few f p))
      rw [List.length_map]; exact fil_few t _
theorem all_few {f : BForm} {text : Byt} (h : (tornN text : Int) ≤ 4) : (allF f text).length ≤ 14641 := by
  have h1 := fil_few (f := f) text Rdr.new
  have h2 : 11 ^ tornN text ≤ 11 ^ 4 := Nat.pow_le_pow_right (by omega) (by omega)
  unfold allF; omega
end Go.Proofs.YtjjndkenddigiaaDoor

namespace Go.Proofs.YtjjndkenddigiaaDoor
open Go Go.T
set_option maxHeartbeats 2000000
theorem c_fill1 (f : BForm) (text : Byt) (hl : text.length ≤ 65536) (AL : List (Byt × Rdr)) (fv : Value) (J : Nat → World → Tags → Prop) (Jx : World → Tags → Prop) (hJ : ∀ k, Cb (J k)) (hJx : Cb Jx) (hF : FndC Tryd.prog fv (AL.map (encF f)) J Jx) : ∀ (n : Nat) (s : Byt) (p : Rdr) (m0 : Nat), text.length - s.length ≤ n → RdrOk f p → s.length ≤ text.length → filS f p s (text.drop s.length) <+: AL.drop m0 →
    MoreF Tryd.prog 96 147 (finC text fv) [Ty.row UB 5 1002 s, Ty.agg (rdrT f p 1003)] (J m0) (J (m0 + (filS f p s (text.drop s.length)).length)) Jx
  | 0, s, p, m0, hn, ho, hs, hp => c_fillS f text hl AL fv J Jx hJ hJx hF s p m0 ho hs hp fun s' p' k' h _ _ _ => absurd h (by omega)
  | n + 1, s, p, m0, hn, ho, hs, hp => c_fillS f text hl AL fv J Jx hJ hJx hF s p m0 ho hs hp fun s' p' k' h h2 h3 h4 => c_fill1 f text hl AL fv J Jx hJ hJx hF n s' p' k' (by omega) h3 h2 h4
def finT (f : BForm) (text : Byt) (fv : Value) : List Ty := [Ty.agg [Ty.str (bs text), Ty.ex fv], frmT f]
theorem fin_hfv {f : BForm} {text : Byt} {fid : FuncId} {caps : List Ty} (w : World) (M : Tags) (vs : List Value) (h : dens w M [Ty.agg [Ty.str (bs text), Ty.clo fid caps], frmT f] vs) : ∃ cs : Array Value, dens w M caps cs.toList ∧ dens w M (finT f text (.func (.func fid) #[] cs)) vs := by
  match vs, h with
  | [v, u], ⟨⟨zs, e, ha⟩, h2, _⟩ =>
    obtain ⟨zs⟩ := zs
    match zs, ha with
    | [a1, a2], ⟨h3, ⟨cs, e2, h4⟩, _⟩ => exact ⟨cs, h4, ⟨⟨_, e, h3, e2, trivial⟩, h2, trivial⟩⟩
theorem allE_pub (f : BForm) (l : List (Byt × Rdr)) : ∀ tys ∈ l.map (encF f), depsOf tys = [] ∧ cdepsOf tys = [] := by
  intro t ht
  obtain ⟨y, _, rfl⟩ := List.mem_map.1 ht
  exact ⟨rfl, rfl⟩
def cntV (f : BForm) (text : Byt) : Int × Int := if tornE f text ≠ 0 then (0, tornE f text) else ((((allF f text).length : Nat) : Int), 0)
def filL (f : BForm) (text : Byt) (k : Nat) : List Byt := ((allF f text).take k).map Prod.fst
def filV (f : BForm) (text : Byt) : List Byt × Int := if tornE f text ≠ 0 then ([], tornE f text) else (filL f text 2, 0)
def resB (f : BForm) (text : Byt) (k : Nat) : Book := if k = 0 then Book.zero else ⟨f, (nth (allF f text) (k - 1)).2.read⟩
def resV (f : BForm) (text : Byt) : Book × Int := if tornE f text ≠ 0 then (Book.zero, tornE f text) else if (allF f text).length = 0 then (Book.zero, 6) else if (allF f text).length = 1 then (resB f text 1, 0) else (Book.zero, 7)
theorem cnt_1 {f : BForm} {text : Byt} (h : ¬ tornE f text = 0) : cntV f text = (0, tornE f text) := if_pos h
theorem cnt_2 {f : BForm} {text : Byt} (h : tornE f text = 0) : cntV f text = ((((allF f text).length : Nat) : Int), 0) := if_neg (fun e => e h)
theorem fv_1 {f : BForm} {text : Byt} (h : ¬ tornE f text = 0) : filV f text = ([], tornE f text) := if_pos h
theorem fv_2 {f : BForm} {text : Byt} (h : tornE f text = 0) : filV f text = (filL f text 2, 0) := if_neg (fun e => e h)
theorem rv_1 {f : BForm} {text : Byt} (h : ¬ tornE f text = 0) : resV f text = (Book.zero, tornE f text) := if_pos h
theorem rv_2 {f : BForm} {text : Byt} (h : tornE f text = 0) (h2 : ((min 2 (allF f text).length : Nat) : Int) = 0) : resV f text = (Book.zero, 6) := by
  unfold resV; rw [if_neg (fun e => e h), if_pos (by omega)]
theorem rv_3 {f : BForm} {text : Byt} (h : tornE f text = 0) (h2 : ¬ ((min 2 (allF f text).length : Nat) : Int) = 0) (h3 : ((min 2 (allF f text).length : Nat) : Int) = 1) : resV f text = (resB f text (min 2 (allF f text).length), 0) := by
  unfold resV; rw [if_neg (fun e => e h), if_neg (by omega), if_pos (by omega), show min 2 (allF f text).length = 1 by omega]
theorem rv_4 {f : BForm} {text : Byt} (h : tornE f text = 0) (h2 : ¬ ((min 2 (allF f text).length : Nat) : Int) = 0) (h3 : ¬ ((min 2 (allF f text).length : Nat) : Int) = 1) : resV f text = (Book.zero, 7) := by
  unfold resV; rw [if_neg (fun e => e h), if_neg (by omega), if_neg (by omega)]
theorem torn_ok {f : BForm} {text : Byt} (h : tornE f text = 0) : FormOk f ∧ text.length ≤ 65536 ∧ (tornN text : Int) ≤ 4 := by
  unfold tornE at h
  split at h
  · rename_i h1; exact absurd h h1
  · rename_i h1
    split at h
    · cases h
    · rename_i h2
      split at h
      · cases h
      · rename_i h3
        exact ⟨frmY_zero.1 (by simpa using h1), by omega, by omega⟩
theorem all_ok {f : BForm} {text : Byt} (hf : FormOk f) {k : Nat} (hk : k < (allF f text).length) : RdrOk f (nth (allF f text) k).2 := (fillR_ok text _ (new_ok hf) _ (nth_mem hk)).1
theorem enc_at {f : BForm} {text : Byt} {k : Nat} {tys : List Ty} (h : ((allF f text).map (encF f))[k]? = some tys) : k < (allF f text).length ∧ tys = encF f (nth (allF f text) k) := enc_get h
theorem filL_succ {f : BForm} {text : Byt} {k : Nat} (hk : k < (allF f text).length) : filL f text (k + 1) = filL f text k ++ [(nth (allF f text) k).1] := by
  unfold filL; rw [take_nth hk, List.map_append]; rfl
theorem filL_all {f : BForm} {text : Byt} (h : (allF f text).length < 2) : filL f text (allF f text).length = filL f text 2 := by
  unfold filL; rw [List.take_of_length_le (Nat.le_refl _), List.take_of_length_le (by omega)]
theorem filL_len (f : BForm) (text : Byt) (k : Nat) : (filL f text k).length ≤ k := by unfold filL; rw [List.length_map, List.length_take]; omega
theorem fil_nil0 {f : BForm} {text : Byt} : (Ty.ex (.slice none 0 0)).Sub (Ty.row StrE 9 500 (filL f text 0)) := by
  rw [show filL f text 0 = [] from by simp [filL]]; exact Ty.nil_row
theorem res_zero {f : BForm} {text : Byt} : Subs [Ty.ex (.slice none 0 0), Ty.int .i64 0, Ty.ex (.slice none 0 0)] (bokTys (resB f text 0)) := ⟨Ty.nil_sl, Ty.sub_refl _, Ty.nil_sl, trivial⟩
theorem resB_succ (f : BForm) (text : Byt) (k : Nat) : resB f text (k + 1) = ⟨f, (nth (allF f text) k).2.read⟩ := by unfold resB; rw [if_neg (by omega)]; rfl
theorem res_b (k : Nat) : decide ((k : Int) + 1 < 2) = decide (k + 1 < 2) := by rw [decide_eq_decide]; omega
theorem fil_b (l : List Byt) (s : Byt) : decide (((l ++ [s]).length : Int) < 2) = decide ((l.length : Int) + 1 < 2) := by simp
theorem filL_len2 {f : BForm} {text : Byt} {k : Nat} (h : k < (allF f text).length) : (filL f text k).length = k := by unfold filL; rw [List.length_map, List.length_take]; omega
theorem fil_px {f : BForm} {text : Byt} {k : Nat} (h : k < 2) (h2 : ¬ k + 1 < 2) : PostCs [(1000, Cont.cells 44 [Ty.row StrE 9 1001 (filL f text (k + 1))])] [(8, 1000), (500, 1001)] [(8, Cont.cells 44 [Ty.row StrE 9 500 (filL f text 2)])] := by
  obtain rfl : k = 1 := by omega
  exact post_cons (a := 8) (b := 1000) (by decide) rfl (cc_cells (by decide) (cv_cons cv_nil (cv_row (by decide)))) post_nil
theorem res_px {f : BForm} {text : Byt} {k : Nat} (h : k < 2) (h2 : ¬ k + 1 < 2) : PostCs [(1000, Cont.cells 30 (bokTys (resB f text (k + 1)))), (1001, Cont.cells 3 [Ty.int .i64 ((k + 1 : Nat) : Int)])] [(8, 1000), (9, 1001)] [(8, Cont.cells 30 (bokTys (resB f text 2))), (9, Cont.cells 3 [Ty.int .i64 ((2 : Nat) : Int)])] := by
  obtain rfl : k = 1 := by omega
  exact post_cons (a := 8) (b := 1000) (by decide) rfl (cc_cells_eq (by decide) rfl rfl rfl) (post_cons (a := 9) (b := 1001) (by decide) rfl (cc_cells_eq (by decide) rfl rfl rfl) post_nil)
attribute [local irreducible] allF tornE wholeR cntV filV resV filL resB
attribute [local irreducible] dInt dBool dSl dPp dPtr dAgg dTup dClo dAny dEx dStr dGd dCells dVec dVs dRow dOp nth Tri Into TOps Ctr bodyPost Exit.then Exit.inBlock Code.wp Code.wpIn dPa dArr dMp dMap CtrG keepPost iterPost bodyPostM roundQ
set_option maxRecDepth 100000 in
theorem c_fill (f : BForm) (hf : FormOk f) (text : Byt) (hl : text.length ≤ 65536) : CtrFd Tryd.prog 64 (fun fv => (finT f text fv)) ((allF f text).map (encF f)) := by
  refine fnFd_intro Tryd.func64 rfl (by decide) Tryd.ntmps64 (fun _ => by exact Nat.le_of_ble_eq_true rfl) (fun _ => ⟨rfl, rfl⟩) fun fv J Jx hJ hJx hF w0 Mc wf0 z0 => ?_
  refine t_seq ?_
  refine t_region ?_
  refine r_box_agg rfl ?_
  refine r_box_agg rfl ?_
  refine r_nil ?_
  refine i_then ?_
  refine t_seq ?_
  refine t_region ?_
  refine r_alloc rfl (by exact List.cons_ne_nil _ _) rfl ?_
  refine r_nil ?_
  refine i_then ?_
  refine t_seq ?_
  refine t_region ?_
  refine r_makeFunc rfl ?_
  refine r_store1 rfl rfl (by decide) rfl rfl (by exact (rfl : _ = Ty.clo _ _)) rfl (by exact Nat.le_of_ble_eq_true rfl) rfl rfl (by exact (rfl : _ = [_])) ?_
  refine r_nil ?_
  refine i_then ?_
  refine t_draw mixed rfl ?_
  refine r_load_ptr rfl rfl (by decide) rfl rfl rfl ?_
  refine r_load_ppN rfl rfl rfl (by exact Nat.le_of_ble_eq_true rfl) ?_
  refine r_callG [(9, 6), (500, 5)] [9, 500] [(9, Cont.cells 140 (rdrT f Rdr.new 500))] (k_opened f) rfl rfl (by repeat (first | exact cv_nil | refine cv_cons ?_ ?_ | exact cv_pub rfl rfl)) pre_nil (post_cons (a := 9) (b := 6) (by exact List.mem_cons_self) rfl (cc_rdr (by exact List.mem_cons_self) (List.mem_cons_of_mem _ List.mem_cons_self) rfl) post_nil) (cv_ptr (by exact List.mem_cons_self)) ?_
  refine r_nilCheck_ptr rfl ?_
  refine r_load_ptrN rfl rfl (by decide) rfl rfl (by exact Nat.le_of_ble_eq_true rfl) ?_
  refine r_callF0 (tg := 5) (ss := [Ty.ex (.slice none 0 0), Ty.agg (rdrT f Rdr.new 500)]) [(500, 1003)] (hJ 0) (hJ (0 + (filS f Rdr.new [] (text.drop ([] : Byt).length)).length)) hJx (c_fill1 f text hl (allF f text) fv J Jx hJ hJx hF text.length [] Rdr.new 0 (by simp) (new_ok hf) (Nat.zero_le _) (by rw [List.length_nil, List.drop_zero, fil_all, List.drop_zero]; exact List.prefix_rfl)) rfl rfl rfl rfl (cv_cons (cv_cons cv_nil (cv_rdr List.mem_cons_self)) cv_nilrow) rfl rfl (by decide) rfl ?_
  refine r_nil ?_
  refine ⟨by kernel_rfl, ?_⟩
  exact i_retFd (hJ := hJ) (h1 := hJ _) (hx := hJx) z0 wf0 (by rw [List.length_nil, List.drop_zero, fil_all, List.length_map, Nat.zero_add]) rfl rfl rfl
set_option maxRecDepth 100000 in
theorem k_Count1 (k : Nat) (h : k ≤ 100000) : CtrG Tryd.prog 63 [1000] [(1000, Cont.cells 3 [Ty.int .i64 (k : Nat)])] [Ty.any, Ty.any, Ty.ptr 1000 0] [(1000, Cont.cells 3 [Ty.int .i64 ((k + 1 : Nat) : Int)])] (Ty.bool true) := by
  refine fnG_intro Tryd.func63 rfl (by decide) Tryd.ntmps63 (by exact Nat.le_of_ble_eq_true rfl) fun w0 M0 => ?_
  refine t_seq ?_
  refine t_region ?_
  refine asB rfl ?_
  refine r_nil ?_
  refine i_then ?_
  refine t_seq ?_
  refine t_region ?_
  refine r_load_ptr rfl rfl (by decide) rfl rfl rfl ?_
  refine r_add rfl rfl (by omega) (by omega) ?_
  refine r_store1 rfl rfl (by decide) rfl rfl (by exact (rfl : _ = Ty.int _ _)) rfl (by exact Nat.le_of_ble_eq_true rfl) rfl rfl (by exact (rfl : _ = [_])) ?_
  refine r_nil ?_
  refine i_then ?_
  refine t_seq ?_
  refine t_region ?_
  refine asB rfl ?_
  refine r_nil ?_
  refine i_then ?_
  refine t_ret ?_
  refine g_ret1 [1000] rfl rfl (by decide) ?_ ?_
  exact rc_cons rfl (cc_cells_eq (by decide) rfl rfl rfl) rc_nil
  all_goals exact rg_cv (cv_pub rfl rfl)
set_option maxRecDepth 100000 in
theorem c_Count (f : BForm) (text : Byt) : Ctr Tryd.prog 19 [frmT f, Ty.str (bs text)] (Ty.tup [Ty.int .i64 (cntV f text).1, Ty.int .i64 (cntV f text).2]) := by
  refine fn_intro Tryd.func19 rfl (by decide) Tryd.ntmps19 (by exact Nat.le_of_ble_eq_true rfl) fun w0 M0 => ?_
  refine t_seq ?_
  refine t_region ?_
  refine r_box_agg rfl ?_
  refine asI rfl ?_
  refine asI rfl ?_
  refine r_nil ?_
  refine i_then ?_
  refine t_seq ?_
  refine t_seq ?_
  refine t_region ?_
  refine r_load_ppN rfl rfl rfl (by exact Nat.le_of_ble_eq_true rfl) ?_
  refine mvS' rfl ?_
  refine r_call (c_torn _ _) rfl rfl rfl rfl rfl ?_
  refine asI rfl ?_
  refine r_nil ?_
  refine i_then ?_
  refine t_seq ?_
  refine t_region ?_
  refine mvI rfl ?_
  refine r_bin rfl rfl rfl ?_
  refine r_nil ?_
  refine i_then ?_
  refine t_cond_ndec rfl (fun hc1 => ?_) (fun hc1 => ?_)
  ·
    refine t_seq ?_
    refine t_region ?_
    refine mvI rfl ?_
    refine asI rfl ?_
    refine asI rfl ?_
    refine r_nil ?_
    refine i_then ?_
    refine t_ret ?_
    refine i_then_ret ?_
    refine i_rp2 rfl rfl rfl ?_ ?_
    all_goals skip
    all_goals (rw [cnt_1 hc1]; exact ret_refl rfl rfl)
  ·
    refine t_skip ?_
    refine i_then ?_
    refine t_seq ?_
    refine t_region ?_
    refine r_alloc rfl (by exact List.cons_ne_nil _ _) rfl ?_
    refine r_store1 rfl rfl (by decide) rfl rfl (by exact (rfl : _ = Ty.int _ _)) rfl (by exact Nat.le_of_ble_eq_true rfl) rfl rfl (by exact (rfl : _ = [_])) ?_
    refine r_nil ?_
    refine i_then ?_
    refine t_seq ?_
    obtain ⟨hf, hl, h4⟩ := torn_ok hc1
    have hfew := all_few (f := f) h4
    refine t_region ?_
    refine mvS' rfl ?_
    refine r_makeFunc rfl ?_
    refine r_build rfl rfl (by exact List.cons_ne_nil _ _) rfl (by repeat (first | exact (Parts.nil : Parts _ _ [] _) | (show Parts _ _ ((_, _) :: _) _; apply Parts.one; (· first | exact (rfl : _ = Ty.clo _ _) | exact (rfl : _ = Ty.str _)); (· exact rfl)))) (by exact (rfl : _ = some [_, _])) ?_
    refine r_load_ppN rfl rfl rfl (by exact Nat.le_of_ble_eq_true rfl) ?_
    refine r_op (opT_callFd (fid := 63) (caps := [Ty.ptr 8 0]) (S := [8]) (K := []) (mv := []) (F := [1000]) (px := False) (ok := fun _ => True) (tgs := fun k => [(8, Cont.cells 3 [Ty.int .i64 (k : Nat)])]) (tgx := []) (sets := [(8, Cont.cells 3 [Ty.int .i64 ((allF f text).length : Nat)])]) (ρ := [(8, 1000)]) (pre := fun k => [(1000, Cont.cells 3 [Ty.int .i64 (k : Nat)])]) (post := fun k => [(1000, Cont.cells 3 [Ty.int .i64 ((k + 1 : Nat) : Int)])]) (argsF := fun _ => [Ty.any, Ty.any, Ty.ptr 1000 0]) (go := fun _ => true) (c_fill f hf text hl) rfl fin_hfv (fun _ => ⟨rfl, rfl⟩) (k_Count1 0 (by decide)).ex (fun k _ hk => k_Count1 k (by rw [List.length_map] at hk; omega)) rfl rfl rfl rfl (by decide) (by intro t h; cases h) (by decide) (by decide) (allE_pub f _) (fun k tys hk => by obtain ⟨_, rfl⟩ := enc_at hk; exact cv_cons (cv_cons (cv_cons cv_nil (cv_ptr (by decide))) cv_any) cv_any) (fun k => pre_cons (a := 8) (by decide) rfl (cc_cells_eq (by decide) rfl rfl rfl) pre_nil) (fun k _ _ => post_cons (a := 8) (b := 1000) (by decide) rfl (cc_cells_eq (by decide) rfl rfl rfl) post_nil) (fun k _ h => by cases h) trivial (fun _ _ _ _ => trivial) (fun _ _ _ h => by cases h) (fun _ => rfl) rfl (allTags_cons rfl (Cont.sub_subs ⟨Ty.sub_int rfl, trivial⟩) allTags_nil) (by decide) (by intro t h; cases h) (by simp) rfl (fun _ w M h x hx => by rw [List.length_map] at h; exact h x hx) (fun h => h.elim)) ?_
    refine r_nil ?_
    refine i_then ?_
    refine t_seq ?_
    refine t_region ?_
    refine r_load_ptr rfl rfl (by decide) rfl rfl rfl ?_
    refine asI rfl ?_
    refine asI rfl ?_
    refine r_nil ?_
    refine i_then ?_
    refine t_ret ?_
    refine i_rp2 rfl rfl rfl ?_ ?_
    all_goals skip
    all_goals (rw [cnt_2 hc1]; exact ret_refl rfl rfl)
set_option maxRecDepth 100000 in
theorem k_Fillings1 (s : Byt) (l : List Byt) (h : l.length ≤ 2) : CtrG Tryd.prog 65 [1000] [(1000, Cont.cells 44 [Ty.row StrE 9 1001 l])] [Ty.str (bs s), Ty.any, Ty.ptr 1000 0] [(1000, Cont.cells 44 [Ty.row StrE 9 1001 (l ++ [s])])] (Ty.bool (decide (((l.length : Nat) : Int) + 1 < 2))) := by
  refine fnG_intro Tryd.func65 rfl (by decide) Tryd.ntmps65 (by exact Nat.le_of_ble_eq_true rfl) fun w0 M0 => ?_
  refine t_seq ?_
  refine t_region ?_
  refine asB rfl ?_
  refine r_nil ?_
  refine i_then ?_
  refine t_seq ?_
  refine t_region ?_
  refine r_load_ptr rfl rfl (by decide) rfl rfl rfl ?_
  refine mvS' rfl ?_
  refine r_buildSlice (E := StrE) (xs := [_]) rfl rfl rfl rfl rfl (by decide) (by decide) (by repeat (first | exact (Parts.nil : Parts _ _ [] _) | (show Parts _ _ ((_, _) :: _) _; apply Parts.one; (· exact (rfl : _ = Ty.str _)); (· exact rfl)))) (by exact rfl) rfl ?_
  refine r_append rfl rfl (by decide) rfl rfl rfl rfl rfl rfl (by decide) (by (simp <;> omega)) (by (simp <;> omega)) ?_
  refine r_store1 rfl rfl (by decide) rfl rfl (by exact (rfl : _ = Ty.row _ _ _ _)) rfl (by exact Nat.le_of_ble_eq_true rfl) rfl rfl (by exact (rfl : _ = [_])) ?_
  refine r_nil ?_
  refine i_then ?_
  refine t_seq ?_
  refine t_region ?_
  refine r_load_ptr rfl rfl (by decide) rfl rfl rfl ?_
  refine r_len_row rfl rfl rfl ?_
  refine r_bin rfl rfl rfl ?_
  refine asB rfl ?_
  refine r_nil ?_
  refine i_then ?_
  refine t_ret ?_
  refine g_ret1 [1000, 1001] rfl rfl (by decide) ?_ ?_
  exact rc_cons rfl (cc_cells (by decide) (cv_cons cv_nil (cv_row (by decide)))) rc_nil
  all_goals skip
  all_goals exact rg_cv (cv_sub rfl rfl (Ty.sub_bool (fil_b _ _)))
theorem fil_ctr {f : BForm} {text : Byt} {k : Nat} (hk : k < (allF f text).length) (h2 : k < 2) : CtrG Tryd.prog 65 [1000] [(1000, Cont.cells 44 [Ty.row StrE 9 1001 (filL f text k)])] [Ty.str (bs (nth (allF f text) k).1), Ty.any, Ty.ptr 1000 0] [(1000, Cont.cells 44 [Ty.row StrE 9 1001 (filL f text (k + 1))])] (Ty.bool (decide (k + 1 < 2))) := by
  have h := k_Fillings1 (nth (allF f text) k).1 (filL f text k) (by have := filL_len f text k; omega)
  rw [← filL_succ hk, filL_len2 hk] at h
  rwa [show decide ((k : Int) + 1 < 2) = decide (k + 1 < 2) from by rw [decide_eq_decide]; omega] at h
set_option maxRecDepth 100000 in
theorem c_Fillings (f : BForm) (text : Byt) : Ctr Tryd.prog 20 [frmT f, Ty.str (bs text)] (Ty.tup [Ty.sl StrE (filV f text).1, Ty.int .i64 (filV f text).2]) := by
  refine fn_intro Tryd.func20 rfl (by decide) Tryd.ntmps20 (by exact Nat.le_of_ble_eq_true rfl) fun w0 M0 => ?_
  refine t_seq ?_
  refine t_region ?_
  refine r_box_agg rfl ?_
  refine asX rfl ?_
  refine asI rfl ?_
  refine r_nil ?_
  refine i_then ?_
  refine t_seq ?_
  refine t_seq ?_
  refine t_region ?_
  refine r_load_ppN rfl rfl rfl (by exact Nat.le_of_ble_eq_true rfl) ?_
  refine mvS' rfl ?_
  refine r_call (c_torn _ _) rfl rfl rfl rfl rfl ?_
  refine asI rfl ?_
  refine r_nil ?_
  refine i_then ?_
  refine t_seq ?_
  refine t_region ?_
  refine mvI rfl ?_
  refine r_bin rfl rfl rfl ?_
  refine r_nil ?_
  refine i_then ?_
  refine t_cond_ndec rfl (fun hc1 => ?_) (fun hc1 => ?_)
  ·
    refine t_seq ?_
    refine t_region ?_
    refine mvI rfl ?_
    refine asX rfl ?_
    refine asI rfl ?_
    refine r_nil ?_
    refine i_then ?_
    refine t_ret ?_
    refine i_then_ret ?_
    refine i_rp2 rfl rfl rfl ?_ ?_
    all_goals skip
    all_goals (rw [fv_1 hc1]; first | exact ret_refl rfl rfl | exact ret_nil)
  ·
    refine t_skip ?_
    refine i_then ?_
    refine t_seq ?_
    refine t_region ?_
    refine r_alloc rfl (by exact List.cons_ne_nil _ _) rfl ?_
    refine r_nil ?_
    refine i_then ?_
    refine t_seq ?_
    obtain ⟨hf, hl, h4⟩ := torn_ok hc1
    have hfew := all_few (f := f) h4
    refine t_region ?_
    refine mvS' rfl ?_
    refine r_makeFunc rfl ?_
    refine r_build rfl rfl (by exact List.cons_ne_nil _ _) rfl (by repeat (first | exact (Parts.nil : Parts _ _ [] _) | (show Parts _ _ ((_, _) :: _) _; apply Parts.one; (· first | exact (rfl : _ = Ty.clo _ _) | exact (rfl : _ = Ty.str _)); (· exact rfl)))) (by exact (rfl : _ = some [_, _])) ?_
    refine r_load_ppN rfl rfl rfl (by exact Nat.le_of_ble_eq_true rfl) ?_
    refine r_op (opT_callFd (fid := 65) (caps := [Ty.ptr 8 0]) (S := [8, 500]) (K := [500]) (mv := [500]) (F := [1000]) (px := 2 ≤ (allF f text).length) (ok := fun k => k < 2) (tgs := fun k => [(8, Cont.cells 44 [Ty.row StrE 9 500 (filL f text k)])]) (tgx := [(8, Cont.cells 44 [Ty.row StrE 9 500 (filL f text 2)])]) (sets := [(8, Cont.cells 44 [Ty.row StrE 9 500 (filL f text 2)])]) (ρ := [(8, 1000), (500, 1001)]) (pre := fun k => [(1000, Cont.cells 44 [Ty.row StrE 9 1001 (filL f text k)])]) (post := fun k => [(1000, Cont.cells 44 [Ty.row StrE 9 1001 (filL f text (k + 1))])]) (argsF := fun k => [Ty.str (bs (nth (allF f text) k).1), Ty.any, Ty.ptr 1000 0]) (go := fun k => decide (k + 1 < 2)) (c_fill f hf text hl) rfl fin_hfv (fun _ => ⟨rfl, rfl⟩) (k_Fillings1 [] [] (by decide)).ex (fun k h2 hk => by rw [List.length_map] at hk; exact fil_ctr hk h2) rfl rfl rfl rfl (by decide) (by intro t h; rw [List.mem_singleton.1 h]; exact ⟨1001, by decide⟩) (by decide) (by decide) (allE_pub f _) (fun k tys hk => by obtain ⟨_, rfl⟩ := enc_at hk; exact cv_cons (cv_cons (cv_cons cv_nil (cv_ptr (by decide))) cv_any) (cv_pub rfl rfl)) (fun k => pre_cons (a := 8) (by decide) rfl (cc_cells (by decide) (cv_cons cv_nil (cv_row (by decide)))) pre_nil) (fun k _ _ => post_cons (a := 8) (b := 1000) (by decide) rfl (cc_cells (by decide) (cv_cons cv_nil (cv_row (by decide)))) post_nil) (fun k h2 hg => fil_px h2 (of_decide_eq_false hg)) (by decide) (fun k _ _ hg => of_decide_eq_true hg) (fun k h1 h2 hg => by have hg := of_decide_eq_false hg; rw [List.length_map] at h2; omega) (fun _ => rfl) rfl (allTags_cons rfl (Cont.sub_subs ⟨fil_nil0, trivial⟩) allTags_nil) (by decide) (by intro t h; rw [List.mem_singleton.1 h]; exact ⟨by decide, by simp⟩) (by simp) rfl (fun hlt w M h x hx => by rw [List.length_map] at h hlt; rw [filL_all hlt] at h; exact h x hx) (fun _ w M h x hx => h x hx)) ?_
    refine r_nil ?_
    refine i_then ?_
    refine t_seq ?_
    refine t_region ?_
    refine r_load_ptr rfl rfl (by decide) rfl rfl rfl ?_
    refine asR rfl ?_
    refine asI rfl ?_
    refine r_nil ?_
    refine i_then ?_
    refine t_ret ?_
    refine i_rp2 rfl rfl rfl ?_ ?_
    all_goals skip
    all_goals (rw [fv_2 hc1]; first | exact ret_row (by decide) | exact ret_refl rfl rfl)
set_option maxRecDepth 100000 in
theorem c_bookP (f : BForm) (p : Rdr) (h : p.read.length ≤ 13) (hw : f.widths.length ≤ 1000) (hn : ∀ r ∈ p.read, r.nums.length ≤ 1000) : Ctr Tryd.prog 57 [Ty.pp (rdrPl f p)] (bokT ⟨f, p.read⟩) := by
  refine fn_intro Tryd.func57 rfl (by decide) Tryd.ntmps57 (by exact Nat.le_of_ble_eq_true rfl) fun w0 M0 => ?_
  refine t_seq ?_
  refine t_region ?_
  refine r_alloc rfl (by exact List.cons_ne_nil _ _) rfl ?_
  refine r_nil ?_
  refine i_then ?_
  refine t_seq ?_
  refine t_draw mixed rfl ?_
  refine mvP rfl ?_
  refine r_nilCheck_pp rfl ?_
  refine r_field_pp rfl rfl rfl rfl rfl (by decide) ?_
  refine r_load_ppN rfl rfl rfl (by exact Nat.le_of_ble_eq_true rfl) ?_
  refine mvP rfl ?_
  refine r_nilCheck_pp rfl ?_
  refine r_field_pp rfl rfl rfl rfl rfl (by decide) ?_
  refine r_load_pp rfl rfl rfl rfl ?_
  refine r_build rfl rfl (by exact List.cons_ne_nil _ _) rfl (by repeat (first | exact (Parts.nil : Parts _ _ [] _) | (show Parts _ _ ((_, _) :: _) _; apply Parts.one; (· exact (rfl : _ = Ty.sl _ _)); (· exact rfl)) | (show Parts _ _ ((_, _) :: _) _; apply Parts.agg; (· exact (rfl : _ = Ty.agg _))))) (by exact (rfl : _ = some [_, _, _])) ?_
  refine r_call (c_own ⟨f, p.read⟩ h hw hn) rfl rfl rfl rfl rfl ?_
  refine r_storeN rfl rfl (by decide) rfl rfl rfl rfl rfl rfl ?_
  refine r_nil ?_
  refine ⟨by kernel_rfl, ?_⟩
  refine i_then ?_
  refine t_ret ?_
  refine i_rcell rfl rfl rfl rfl (by decide) rfl rfl rfl ?_
  exact ret_refl rfl rfl
set_option maxRecDepth 100000 in
theorem k_Restore1 (f : BForm) (p : Rdr) (h : p.read.length ≤ 13) (hw : f.widths.length ≤ 1000) (hn : ∀ r ∈ p.read, r.nums.length ≤ 1000) (b : Book) (k : Nat) (hk : k ≤ 2) : CtrG Tryd.prog 66 [1000, 1001] [(1000, Cont.cells 30 (bokTys b)), (1001, Cont.cells 3 [Ty.int .i64 (k : Nat)])] [Ty.any, Ty.pp (rdrPl f p), Ty.ptr 1000 0, Ty.ptr 1001 0] [(1000, Cont.cells 30 (bokTys ⟨f, p.read⟩)), (1001, Cont.cells 3 [Ty.int .i64 ((k + 1 : Nat) : Int)])] (Ty.bool (decide (k + 1 < 2))) := by
  refine fnG_intro Tryd.func66 rfl (by decide) Tryd.ntmps66 (by exact Nat.le_of_ble_eq_true rfl) fun w0 M0 => ?_
  refine t_seq ?_
  refine t_region ?_
  refine asB rfl ?_
  refine r_nil ?_
  refine i_then ?_
  refine t_seq ?_
  refine t_region ?_
  refine mvP rfl ?_
  refine r_call (c_bookP f p h hw hn) rfl rfl rfl rfl rfl ?_
  refine r_storeN rfl rfl (by decide) rfl rfl rfl rfl rfl rfl ?_
  refine r_nil ?_
  refine i_then ?_
  refine t_seq ?_
  refine t_region ?_
  refine r_load_ptr rfl rfl (by decide) rfl rfl rfl ?_
  refine r_add rfl rfl (by omega) (by omega) ?_
  refine r_store1 rfl rfl (by decide) rfl rfl (by exact (rfl : _ = Ty.int _ _)) rfl (by exact Nat.le_of_ble_eq_true rfl) rfl rfl (by exact (rfl : _ = [_])) ?_
  refine r_nil ?_
  refine i_then ?_
  refine t_seq ?_
  refine t_region ?_
  refine r_load_ptr rfl rfl (by decide) rfl rfl rfl ?_
  refine r_bin rfl rfl rfl ?_
  refine asB rfl ?_
  refine r_nil ?_
  refine i_then ?_
  refine t_ret ?_
  refine g_ret1 [1000, 1001] rfl rfl (by decide) ?_ ?_
  exact rc_cons rfl (cc_cells_eq (by decide) rfl rfl rfl) (rc_cons rfl (cc_cells_eq (by decide) rfl rfl rfl) rc_nil)
  all_goals skip
  all_goals exact rg_cv (cv_sub rfl rfl (Ty.sub_bool (res_b k)))
theorem res_ctr {f : BForm} {text : Byt} {k : Nat} (hf : FormOk f) (ho : RdrOk f (nth (allF f text) k).2) (h2 : k < 2) : CtrG Tryd.prog 66 [1000, 1001] [(1000, Cont.cells 30 (bokTys (resB f text k))), (1001, Cont.cells 3 [Ty.int .i64 (k : Nat)])] [Ty.any, Ty.pp (rdrPl f (nth (allF f text) k).2), Ty.ptr 1000 0, Ty.ptr 1001 0] [(1000, Cont.cells 30 (bokTys (resB f text (k + 1)))), (1001, Cont.cells 3 [Ty.int .i64 ((k + 1 : Nat) : Int)])] (Ty.bool (decide (k + 1 < 2))) := by
  have h := k_Restore1 f (nth (allF f text) k).2 ho.len (by have := hf.n2; omega) ho.num_len (resB f text k) k (by omega)
  rwa [← resB_succ] at h
set_option maxRecDepth 100000 in
theorem c_Restore (f : BForm) (text : Byt) : Ctr Tryd.prog 21 [frmT f, Ty.str (bs text)] (Ty.tup [bokT (resV f text).1, Ty.int .i64 (resV f text).2]) := by
  refine fn_intro Tryd.func21 rfl (by decide) Tryd.ntmps21 (by exact Nat.le_of_ble_eq_true rfl) fun w0 M0 => ?_
  refine t_seq ?_
  refine t_region ?_
  refine r_box_agg rfl ?_
  refine r_alloc rfl (by exact List.cons_ne_nil _ _) rfl ?_
  refine asI rfl ?_
  refine r_nil ?_
  refine i_then ?_
  refine t_seq ?_
  refine t_seq ?_
  refine t_region ?_
  refine r_load_ppN rfl rfl rfl (by exact Nat.le_of_ble_eq_true rfl) ?_
  refine mvS' rfl ?_
  refine r_call (c_torn _ _) rfl rfl rfl rfl rfl ?_
  refine asI rfl ?_
  refine r_nil ?_
  refine i_then ?_
  refine t_seq ?_
  refine t_region ?_
  refine mvI rfl ?_
  refine r_bin rfl rfl rfl ?_
  refine r_nil ?_
  refine i_then ?_
  refine t_cond_ndec rfl (fun hc1 => ?_) (fun hc1 => ?_)
  ·
    refine t_seq ?_
    refine t_region ?_
    refine r_build rfl rfl (by exact List.cons_ne_nil _ _) rfl (by repeat (exact (Parts.nil : Parts _ _ [] _))) (by exact (rfl : _ = some [_, _, _])) ?_
    refine mvI rfl ?_
    refine r_storeN rfl rfl (by decide) rfl rfl rfl rfl rfl rfl ?_
    refine asI rfl ?_
    refine r_nil ?_
    refine i_then ?_
    refine t_ret ?_
    refine i_then_ret ?_
    refine i_rcell2 rfl rfl rfl rfl rfl (by decide) rfl rfl rfl ?_ ?_
    all_goals skip
    all_goals (rw [rv_1 hc1]; first | exact ret_sub rfl rfl zero_bok | exact ret_refl rfl rfl)
  ·
    refine t_skip ?_
    refine i_then ?_
    refine t_seq ?_
    refine t_region ?_
    refine r_alloc rfl (by exact List.cons_ne_nil _ _) rfl ?_
    refine r_nil ?_
    refine i_then ?_
    refine t_seq ?_
    refine t_region ?_
    refine r_alloc rfl (by exact List.cons_ne_nil _ _) rfl ?_
    refine r_store1 rfl rfl (by decide) rfl rfl (by exact (rfl : _ = Ty.int _ _)) rfl (by exact Nat.le_of_ble_eq_true rfl) rfl rfl (by exact (rfl : _ = [_])) ?_
    refine r_nil ?_
    refine i_then ?_
    refine t_seq ?_
    obtain ⟨hf, hl, h4⟩ := torn_ok hc1
    have hfew := all_few (f := f) h4
    refine t_region ?_
    refine mvS' rfl ?_
    refine r_makeFunc rfl ?_
    refine r_build rfl rfl (by exact List.cons_ne_nil _ _) rfl (by repeat (first | exact (Parts.nil : Parts _ _ [] _) | (show Parts _ _ ((_, _) :: _) _; apply Parts.one; (· first | exact (rfl : _ = Ty.clo _ _) | exact (rfl : _ = Ty.str _)); (· exact rfl)))) (by exact (rfl : _ = some [_, _])) ?_
    refine r_load_ppN rfl rfl rfl (by exact Nat.le_of_ble_eq_true rfl) ?_
    refine r_op (opT_callFd (fid := 66) (caps := [Ty.ptr 8 0, Ty.ptr 9 0]) (S := [8, 9]) (K := []) (mv := []) (F := [1000, 1001]) (px := 2 ≤ (allF f text).length) (ok := fun k => k < 2) (tgs := fun k => [(8, Cont.cells 30 (bokTys (resB f text k))), (9, Cont.cells 3 [Ty.int .i64 (k : Nat)])]) (tgx := [(8, Cont.cells 30 (bokTys (resB f text 2))), (9, Cont.cells 3 [Ty.int .i64 ((2 : Nat) : Int)])]) (sets := [(8, Cont.cells 30 (bokTys (resB f text (min 2 (allF f text).length)))), (9, Cont.cells 3 [Ty.int .i64 ((min 2 (allF f text).length : Nat) : Int)])]) (ρ := [(8, 1000), (9, 1001)]) (pre := fun k => [(1000, Cont.cells 30 (bokTys (resB f text k))), (1001, Cont.cells 3 [Ty.int .i64 (k : Nat)])]) (post := fun k => [(1000, Cont.cells 30 (bokTys (resB f text (k + 1)))), (1001, Cont.cells 3 [Ty.int .i64 ((k + 1 : Nat) : Int)])]) (argsF := fun k => [Ty.any, Ty.pp (rdrPl f (nth (allF f text) k).2), Ty.ptr 1000 0, Ty.ptr 1001 0]) (go := fun k => decide (k + 1 < 2)) (c_fill f hf text hl) rfl fin_hfv (fun _ => ⟨rfl, rfl⟩) (k_Restore1 f Rdr.new (by decide) (by have := hf.n2; omega) (by intro r h; cases h) Book.zero 0 (by decide)).ex (fun k h2 hk => by rw [List.length_map] at hk; have ho := all_ok hf hk; exact res_ctr hf ho h2) rfl rfl rfl rfl (by decide) (by intro t h; cases h) (by decide) (by decide) (allE_pub f _) (fun k tys hk => by obtain ⟨_, rfl⟩ := enc_at hk; exact cv_cons (cv_cons (cv_cons (cv_cons cv_nil (cv_ptr (by decide))) (cv_ptr (by decide))) (cv_pub rfl rfl)) cv_any) (fun k => pre_cons (a := 8) (by decide) rfl (cc_cells_eq (by decide) rfl rfl rfl) (pre_cons (a := 9) (by decide) rfl (cc_cells_eq (by decide) rfl rfl rfl) pre_nil)) (fun k _ _ => post_cons (a := 8) (b := 1000) (by decide) rfl (cc_cells_eq (by decide) rfl rfl rfl) (post_cons (a := 9) (b := 1001) (by decide) rfl (cc_cells_eq (by decide) rfl rfl rfl) post_nil)) (fun k h2 hg => res_px h2 (of_decide_eq_false hg)) (by decide) (fun k _ _ hg => of_decide_eq_true hg) (fun k h1 h2 hg => by have hg := of_decide_eq_false hg; rw [List.length_map] at h2; omega) (fun _ => rfl) rfl (allTags_cons rfl (Cont.sub_subs res_zero) (allTags_cons rfl (Cont.sub_subs ⟨Ty.sub_int rfl, trivial⟩) allTags_nil)) (by decide) (by intro t h; cases h) (by simp) rfl (fun hlt w M h x hx => by rw [List.length_map] at h hlt; rw [show min 2 (allF f text).length = (allF f text).length by omega] at hx; exact h x hx) (fun hge w M h x hx => by rw [show min 2 (allF f text).length = 2 by omega] at hx; exact h x hx)) ?_
    refine r_nil ?_
    refine i_then ?_
    refine t_seq ?_
    refine t_seq ?_
    refine t_region ?_
    refine r_load_ptr rfl rfl (by decide) rfl rfl rfl ?_
    refine r_nil ?_
    refine i_then ?_
    refine t_block ?_
    refine t_seq ?_
    refine t_region ?_
    refine r_bin rfl rfl rfl ?_
    refine asB rfl ?_
    refine r_nil ?_
    refine i_then ?_
    refine t_cond_dec rfl (fun hc2 => ?_) (fun hc2 => ?_)
    ·
      refine t_seq ?_
      refine t_region ?_
      refine r_build rfl rfl (by exact List.cons_ne_nil _ _) rfl (by repeat (exact (Parts.nil : Parts _ _ [] _))) (by exact (rfl : _ = some [_, _, _])) ?_
      refine r_storeN rfl rfl (by decide) rfl rfl rfl rfl rfl rfl ?_
      refine asI rfl ?_
      refine r_nil ?_
      refine i_then ?_
      refine t_ret ?_
      refine i_block_ret ?_
      refine i_then_ret ?_
      refine i_rcell2 rfl rfl rfl rfl rfl (by decide) rfl rfl rfl ?_ ?_
      all_goals skip
      all_goals (rw [rv_2 hc1 hc2]; first | exact ret_sub rfl rfl zero_bok | exact ret_refl rfl rfl)
    ·
      refine t_seq ?_
      refine t_region ?_
      refine r_bin rfl rfl rfl ?_
      refine asB rfl ?_
      refine r_nil ?_
      refine i_then ?_
      refine t_cond_dec rfl (fun hc3 => ?_) (fun hc3 => ?_)
      ·
        refine t_seq ?_
        refine t_region ?_
        refine r_load_ptrN rfl rfl (by decide) rfl rfl (by exact Nat.le_of_ble_eq_true rfl) ?_
        refine r_storeN rfl rfl (by decide) rfl rfl rfl rfl rfl rfl ?_
        refine asI rfl ?_
        refine r_nil ?_
        refine i_then ?_
        refine t_ret ?_
        refine i_block_ret ?_
        refine i_then_ret ?_
        refine i_rcell2 rfl rfl rfl rfl rfl (by decide) rfl rfl rfl ?_ ?_
        all_goals skip
        all_goals (rw [rv_3 hc1 hc2 hc3]; exact ret_refl rfl rfl)
      ·
        refine t_skip ?_
        refine i_block ?_
        refine i_then ?_
        refine t_seq ?_
        refine t_region ?_
        refine r_build rfl rfl (by exact List.cons_ne_nil _ _) rfl (by repeat (exact (Parts.nil : Parts _ _ [] _))) (by exact (rfl : _ = some [_, _, _])) ?_
        refine r_storeN rfl rfl (by decide) rfl rfl rfl rfl rfl rfl ?_
        refine asI rfl ?_
        refine r_nil ?_
        refine i_then ?_
        refine t_ret ?_
        refine i_rcell2 rfl rfl rfl rfl rfl (by decide) rfl rfl rfl ?_ ?_
        all_goals skip
        all_goals (rw [rv_4 hc1 hc2 hc3]; first | exact ret_sub rfl rfl zero_bok | exact ret_refl rfl rfl)
end Go.Proofs.YtjjndkenddigiaaDoor

namespace Go.Proofs.YtjjndkenddigiaaDoor
open Go Go.T Go.RowKit
def bTwo : Book := ⟨⟨[3, 2], 2⟩, [⟨[12, 5], false⟩, ⟨[100, 40], false⟩, ⟨[7, 0], true⟩]⟩
def tTwo : Byt := [32, 32, 49, 50, 124, 32, 53, 124, 107, 10, 32, 49, 48, 48, 124, 52, 48, 124, 114, 10, 61, 32, 32, 49, 49, 50, 124, 32, 32, 52, 53, 124, 10, 43, 32, 32, 49, 49, 50, 124, 32, 32, 52, 53, 124, 10, 45, 32, 32, 55, 124, 32, 48, 124, 106, 10, 61, 32, 32, 49, 49, 50, 124, 32, 32, 52, 53, 124, 10]
def tTwo1 : Byt := tTwo.take 8 ++ [106] ++ tTwo.drop 9
def tTwo2 : Byt := tTwo.take 34
def tTwo3 : Byt := [32, 32, 63, 50, 124, 32, 53, 124, 63, 10, 32, 49, 48, 48, 124, 52, 48, 124, 114, 10, 61, 32, 32, 49, 49, 50, 124, 32, 32, 52, 53, 124, 10, 43, 32, 32, 49, 49, 50, 124, 32, 32, 52, 53, 124, 10, 45, 32, 32, 55, 124, 32, 48, 124, 106, 10, 61, 32, 32, 49, 49, 50, 124, 32, 32, 52, 53, 124, 10]
def fOne : BForm := ⟨[1], 1⟩
def tOne : Byt := [32, 63, 124, 63, 10, 61, 32, 32, 63, 124, 10]
def lOne : List Byt := [[32, 48, 124, 97, 10, 61, 32, 32, 48, 124, 10], [32, 49, 124, 98, 10, 61, 32, 32, 49, 124, 10]]
theorem aw1 : printV bTwo = tTwo := by kernel_rfl
theorem aw1' : bokY bTwo = 0 := by kernel_rfl
theorem aw2 : parV bTwo.form tTwo1 = (Book.zero, 8, 11) := by kernel_rfl
theorem aw3 : parV bTwo.form tTwo2 = (Book.zero, 34, 11) := by kernel_rfl
theorem aw4 : tearV tTwo [2, 8] = (tTwo3, 0) := by kernel_rfl
theorem aw5 : allF bTwo.form tTwo3 = [(tTwo, (runR bTwo.form Rdr.new tTwo).2)] := by kernel_rfl
theorem aw5' : (runR bTwo.form Rdr.new tTwo).2.read = bTwo.rows := by kernel_rfl
theorem aw6 : (allF fOne tOne).length = 10 := by kernel_rfl
theorem aw7 : ((allF fOne tOne).take 2).map Prod.fst = lOne := by kernel_rfl
theorem aw8 : footV bTwo = [[112, 45], [112, 45]] := by kernel_rfl
end Go.Proofs.YtjjndkenddigiaaDoor

namespace Go.Proofs.YtjjndkenddigiaaDoor
open Go Go.T
set_option maxHeartbeats 4000000
theorem pubTy_row_eq {A : As} {α : Type} {E : El α} {T tg : Nat} {xs ys : List α} (h : xs = ys) : PubTy A tg (Ty.row E T tg xs) (Ty.sl E ys) := by subst h; exact pubTy_row
theorem row_eqB (a b : BRow) : ((a.struck == b.struck) && decide (a.nums = b.nums)) = decide (a = b) := by
  cases a; cases b; rw [Bool.eq_iff_iff]; simp [and_comm]
theorem sameB_eq (a b : Book) : ((decide (a.form.widths = b.form.widths) && decide (a.form.lines = b.form.lines)) && decide (a.rows = b.rows)) = decide (a = b) := by
  obtain ⟨⟨aw, al⟩, ar⟩ := a
  obtain ⟨⟨bw, bl⟩, br⟩ := b
  rw [Bool.eq_iff_iff]; simp [and_assoc]
def greatB (b : Book) : Bool := (decide ((b.form.widths.length : Int) > 8) || decide ((b.rows.length : Int) > 16)) || b.rows.any fun r => decide ((r.nums.length : Int) > 8)
theorem not_great {b : Book} (h : greatB b = false) : b.form.widths.length ≤ 8 ∧ b.rows.length ≤ 16 ∧ ∀ r ∈ b.rows, r.nums.length ≤ 8 := by
  unfold greatB at h
  simp only [Bool.or_eq_false_iff, decide_eq_false_iff_not, List.any_eq_false, decide_eq_true_eq] at h
  exact ⟨by omega, by omega, fun r hr => by have := h.2 r hr; omega⟩
theorem aw_res : resV bTwo.form tTwo3 = (bTwo, 0) := by
  have e1 : tornE bTwo.form tTwo3 = 0 := by kernel_rfl
  unfold resV resB
  rw [aw5, e1]
  have := aw5'
  rw [if_neg (by decide), if_neg (by decide), if_pos (by decide), if_neg (by decide)]
  show ((⟨bTwo.form, (runR bTwo.form Rdr.new tTwo).2.read⟩ : Book), (0 : Int)) = _
  rw [this]
theorem aw_cnt : cntV fOne tOne = (10, 0) := by
  have e1 : tornE fOne tOne = 0 := by kernel_rfl
  unfold cntV; rw [aw6, e1]; rfl
theorem aw_fil : filV fOne tOne = (lOne, 0) := by
  have e1 : tornE fOne tOne = 0 := by kernel_rfl
  unfold filV filL; rw [aw7, e1]; rfl
attribute [local irreducible] printV parV tearV cntV filV resV footV bokY
attribute [local irreducible] dInt dBool dSl dPp dPtr dAgg dTup dClo dAny dEx dStr dGd dCells dVec dVs dRow dOp nth Tri Into TOps Ctr bodyPost Exit.then Exit.inBlock Code.wp Code.wpIn dPa dArr dMp dMap CtrG keepPost iterPost bodyPostM roundQ
set_option maxRecDepth 100000 in
theorem c_same1 (a b : BRow) : Ctr Tryd.prog 60 [rowT a, rowT b] (Ty.bool (decide (a = b))) := by
  refine fn_intro Tryd.func60 rfl (by decide) Tryd.ntmps60 (by exact Nat.le_of_ble_eq_true rfl) fun w0 M0 => ?_
  refine t_seq ?_
  refine t_region ?_
  refine r_box_agg rfl ?_
  refine r_box_agg rfl ?_
  refine asB rfl ?_
  refine r_nil ?_
  refine i_then ?_
  refine t_seq ?_
  refine t_region ?_
  refine r_field_pp rfl rfl rfl rfl rfl (by decide) ?_
  refine r_load_pp rfl rfl rfl rfl ?_
  refine r_field_pp rfl rfl rfl rfl rfl (by decide) ?_
  refine r_load_pp rfl rfl rfl rfl ?_
  refine r_eql_B und4 rfl rfl ?_
  refine mvB rfl ?_
  apply r_guard (s := 10) rfl rfl rfl
  · intro hg; apply opT_of; (refine r_field_pp rfl rfl rfl rfl rfl (by decide) ?_); refine r_nil ?_; exact rfl
  · exact rfl
  · exact rfl
  apply r_guard (s := 10) rfl rfl rfl
  · intro hg; apply opT_strip (s := 11) rfl (by (rw [hg]; rfl)); apply opT_of; (refine r_load_pp rfl rfl rfl rfl ?_); refine r_nil ?_; exact rfl
  · exact rfl
  · exact rfl
  apply r_guard (s := 10) rfl rfl rfl
  · intro hg; apply opT_of; (refine r_field_pp rfl rfl rfl rfl rfl (by decide) ?_); refine r_nil ?_; exact rfl
  · exact rfl
  · exact rfl
  apply r_guard (s := 10) rfl rfl rfl
  · intro hg; apply opT_strip (s := 13) rfl (by (rw [hg]; rfl)); apply opT_of; (refine r_load_pp rfl rfl rfl rfl ?_); refine r_nil ?_; exact rfl
  · exact rfl
  · exact rfl
  apply r_guard (s := 10) rfl rfl rfl
  · intro hg; apply opT_strip (s := 12) rfl (by (rw [hg]; rfl)); apply opT_strip (s := 14) rfl (by (rw [hg]; rfl)); apply opT_of; (refine r_call (c_Eq_int _ _) rfl rfl rfl rfl rfl ?_); refine r_nil ?_; exact rfl
  · exact rfl
  · exact rfl
  refine r_and rfl rfl ?_
  refine asB rfl ?_
  refine r_nil ?_
  refine i_then ?_
  refine t_ret ?_
  refine i_rp1 rfl rfl ?_
  all_goals skip
  exact ret_eq rfl rfl (congrArg Ty.bool (row_eqB a b))
set_option maxRecDepth 100000 in
theorem c_EqualFunc (a b : List BRow) : Ctr Tryd.prog 59 [Ty.sl BRowE a, Ty.sl BRowE b, Ty.clo 60 []] (Ty.bool (decide (a = b))) := by
  refine fn_intro Tryd.func59 rfl (by decide) Tryd.ntmps59 (by exact Nat.le_of_ble_eq_true rfl) fun w0 M0 => ?_
  refine t_fact (s := 0) rfl rfl sl_len fun ha => ?_
  refine t_fact (s := 1) rfl rfl sl_len fun hb => ?_
  refine t_seq ?_
  refine t_region ?_
  refine asB rfl ?_
  refine r_nil ?_
  refine i_then ?_
  refine t_seq ?_
  refine t_seq ?_
  refine t_region ?_
  refine mvS rfl ?_
  refine r_len rfl rfl rfl ?_
  refine mvS rfl ?_
  refine r_len rfl rfl rfl ?_
  refine r_bin rfl rfl rfl ?_
  refine r_nil ?_
  refine i_then ?_
  refine t_cond_ndec rfl (fun hc1 => ?_) (fun hc1 => ?_)
  ·
    try (simp only [Classical.not_not] at hc1)
    refine t_seq ?_
    refine t_region ?_
    refine asB rfl ?_
    refine r_nil ?_
    refine i_then ?_
    refine t_ret ?_
    refine i_then_ret ?_
    refine i_rp1 rfl rfl ?_
    all_goals skip
    exact ret_eq rfl rfl (congrArg Ty.bool (by rw [eq_comm, decide_eq_false_iff_not]; intro e; subst e; exact hc1 rfl))
  ·
    try (simp only [Classical.not_not] at hc1)
    refine t_skip ?_
    refine i_then ?_
    refine t_seq ?_
    refine t_seq ?_
    refine t_region ?_
    refine mvS rfl ?_
    refine r_len rfl rfl rfl ?_
    refine mvI rfl ?_
    refine r_nil ?_
    refine i_then ?_
    refine t_block ?_
    refine t_loop (fun (k : {k : Nat // a.take k = b.take k}) => live [(1, Ty.sl BRowE b), (2, Ty.clo 60 []), (15, Ty.sl BRowE a), (16, Ty.int .i64 a.length), (17, Ty.int .i64 (k.1 : Nat))] []) (fun k => a.length - k.1) (⟨0, by simp⟩) ?_ fun k => ?_
    · (refine Ent.mk' ?_ ?_ <;> (repeat' (first | exact allSub_zero | exact allTags_nil | refine allSub_succ' ?_ (Ty.sub_any _) | refine allSub_succ' ?_ (Ty.sub_refl _))))
    ·
      have hlen : a.length = b.length := by omega
      refine t_seq ?_
      refine t_region ?_
      refine r_bin rfl rfl rfl ?_
      refine r_nil ?_
      refine i_then ?_
      refine t_seq ?_
      refine t_cond_dec rfl (fun hc2 => ?_) (fun hc2 => ?_)
      ·
        try (simp only [Classical.not_not] at hc2)
        refine t_skip ?_
        refine i_then ?_
        refine t_seq ?_
        refine t_block ?_
        refine t_seq ?_
        refine t_region ?_
        refine mvI rfl ?_
        refine r_index_slN rfl rfl rfl rfl rfl rfl (by omega) ?_
        refine r_load_ppN rfl rfl rfl (by exact Nat.le_of_ble_eq_true rfl) ?_
        refine r_alloc rfl (by exact List.cons_ne_nil _ _) rfl ?_
        refine asI rfl ?_
        refine r_storeN rfl rfl (by decide) rfl rfl rfl rfl rfl rfl ?_
        refine r_nil ?_
        refine i_then ?_
        refine t_seq ?_
        refine t_region ?_
        refine mvS rfl ?_
        refine mvI rfl ?_
        refine r_index_slN rfl rfl rfl rfl rfl rfl (by omega) ?_
        refine r_load_ppN rfl rfl rfl (by exact Nat.le_of_ble_eq_true rfl) ?_
        refine r_alloc rfl (by exact List.cons_ne_nil _ _) rfl ?_
        refine r_storeN rfl rfl (by decide) rfl rfl rfl rfl rfl rfl ?_
        refine r_nil ?_
        refine i_then ?_
        refine t_seq ?_
        refine t_region ?_
        refine mvF rfl ?_
        refine r_load_ptrN rfl rfl (by decide) rfl rfl (by exact Nat.le_of_ble_eq_true rfl) ?_
        refine r_load_ptrN rfl rfl (by decide) rfl rfl (by exact Nat.le_of_ble_eq_true rfl) ?_
        refine r_callv rfl (c_same1 (nth a k.1) (nth b k.1)) rfl rfl rfl rfl rfl ?_
        refine r_not rfl ?_
        refine r_nil ?_
        refine i_then ?_
        refine t_cond_ndec rfl (fun hc3 => ?_) (fun hc3 => ?_)
        ·
          try (simp only [Classical.not_not] at hc3)
          refine t_seq ?_
          refine t_region ?_
          refine asB rfl ?_
          refine r_nil ?_
          refine i_then ?_
          refine t_ret ?_
          refine i_block_ret ?_
          refine i_then_ret ?_
          refine i_then_ret ?_
          refine i_block_ret ?_
          refine i_then_ret ?_
          refine i_rp1 rfl rfl ?_
          all_goals skip
          exact ret_eq rfl rfl (congrArg Ty.bool (by rw [eq_comm, decide_eq_false_iff_not]; exact ne_of_nth (k := k.1) (hc3)))
        ·
          try (simp only [Classical.not_not] at hc3)
          refine t_skip ?_
          refine i_block ?_
          refine i_then ?_
          refine t_region ?_
          refine r_add rfl rfl (by omega) (by omega) ?_
          refine mvI rfl ?_
          refine r_nil ?_
          refine i_round (⟨k.1 + 1, by rw [take_nth (by omega), take_nth (by omega), k.2, hc3]⟩) ?_ (by show a.length - (k.1 + 1) < a.length - k.1; omega)
          (refine Ent.mk' ?_ ?_ <;> (repeat' (first | exact allSub_zero | exact allTags_nil | refine allSub_succ' ?_ (Ty.sub_any _) | refine allSub_succ' ?_ (Ty.sub_refl _))))
          all_goals skip
      ·
        try (simp only [Classical.not_not] at hc2)
        refine t_exit ?_
        refine i_then_exit ?_
        refine i_then_exit ?_
        refine i_block_exit rfl ?_
        refine i_then ?_
        refine t_seq ?_
        refine t_region ?_
        refine asB rfl ?_
        refine r_nil ?_
        refine i_then ?_
        refine t_ret ?_
        refine i_rp1 rfl rfl ?_
        all_goals skip
        exact ret_eq rfl rfl (congrArg Ty.bool (by rw [eq_comm, decide_eq_true_eq]; have := k.2; rwa [List.take_of_length_le (by omega), List.take_of_length_le (by omega)] at this))
set_option maxRecDepth 100000 in
theorem c_same (a b : Book) : Ctr Tryd.prog 17 [bokT a, bokT b] (Ty.bool (decide (a = b))) := by
  refine fn_intro Tryd.func17 rfl (by decide) Tryd.ntmps17 (by exact Nat.le_of_ble_eq_true rfl) fun w0 M0 => ?_
  refine t_seq ?_
  refine t_region ?_
  refine r_box_agg rfl ?_
  refine r_box_agg rfl ?_
  refine asB rfl ?_
  refine r_nil ?_
  refine i_then ?_
  refine t_seq ?_
  refine t_region ?_
  refine r_field_pp rfl rfl rfl rfl rfl (by decide) ?_
  refine r_field_pp rfl rfl rfl rfl rfl (by decide) ?_
  refine r_load_pp rfl rfl rfl rfl ?_
  refine r_field_pp rfl rfl rfl rfl rfl (by decide) ?_
  refine r_field_pp rfl rfl rfl rfl rfl (by decide) ?_
  refine r_load_pp rfl rfl rfl rfl ?_
  refine r_call (c_Eq_int _ _) rfl rfl rfl rfl rfl ?_
  refine mvB rfl ?_
  apply r_guard (s := 12) rfl rfl rfl
  · intro hg; apply opT_of; (refine r_field_pp rfl rfl rfl rfl rfl (by decide) ?_); refine r_nil ?_; exact rfl
  · exact rfl
  · exact rfl
  apply r_guard (s := 12) rfl rfl rfl
  · intro hg; apply opT_strip (s := 13) rfl (by (rw [hg]; rfl)); apply opT_of; (refine r_field_pp rfl rfl rfl rfl rfl (by decide) ?_); refine r_nil ?_; exact rfl
  · exact rfl
  · exact rfl
  apply r_guard (s := 12) rfl rfl rfl
  · intro hg; apply opT_strip (s := 14) rfl (by (rw [hg]; rfl)); apply opT_of; (refine r_load_pp rfl rfl rfl rfl ?_); refine r_nil ?_; exact rfl
  · exact rfl
  · exact rfl
  apply r_guard (s := 12) rfl rfl rfl
  · intro hg; apply opT_of; (refine r_field_pp rfl rfl rfl rfl rfl (by decide) ?_); refine r_nil ?_; exact rfl
  · exact rfl
  · exact rfl
  apply r_guard (s := 12) rfl rfl rfl
  · intro hg; apply opT_strip (s := 16) rfl (by (rw [hg]; rfl)); apply opT_of; (refine r_field_pp rfl rfl rfl rfl rfl (by decide) ?_); refine r_nil ?_; exact rfl
  · exact rfl
  · exact rfl
  apply r_guard (s := 12) rfl rfl rfl
  · intro hg; apply opT_strip (s := 17) rfl (by (rw [hg]; rfl)); apply opT_of; (refine r_load_pp rfl rfl rfl rfl ?_); refine r_nil ?_; exact rfl
  · exact rfl
  · exact rfl
  apply r_guard (s := 12) rfl rfl rfl
  · intro hg; apply opT_strip (s := 15) rfl (by (rw [hg]; rfl)); apply opT_strip (s := 18) rfl (by (rw [hg]; rfl)); apply opT_of; (refine r_bin rfl rfl rfl ?_); refine r_nil ?_; exact rfl
  · exact rfl
  · exact rfl
  refine r_and rfl rfl ?_
  refine mvB rfl ?_
  apply r_guard (s := 21) rfl rfl rfl
  · intro hg; apply opT_of; (refine r_field_pp rfl rfl rfl rfl rfl (by decide) ?_); refine r_nil ?_; exact rfl
  · exact rfl
  · exact rfl
  apply r_guard (s := 21) rfl rfl rfl
  · intro hg; apply opT_strip (s := 22) rfl (by (rw [hg]; rfl)); apply opT_of; (refine r_load_pp rfl rfl rfl rfl ?_); refine r_nil ?_; exact rfl
  · exact rfl
  · exact rfl
  apply r_guard (s := 21) rfl rfl rfl
  · intro hg; apply opT_of; (refine r_field_pp rfl rfl rfl rfl rfl (by decide) ?_); refine r_nil ?_; exact rfl
  · exact rfl
  · exact rfl
  apply r_guard (s := 21) rfl rfl rfl
  · intro hg; apply opT_strip (s := 24) rfl (by (rw [hg]; rfl)); apply opT_of; (refine r_load_pp rfl rfl rfl rfl ?_); refine r_nil ?_; exact rfl
  · exact rfl
  · exact rfl
  apply r_guard (s := 21) rfl rfl rfl
  · intro hg; apply opT_strip (s := 23) rfl (by (rw [hg]; rfl)); apply opT_strip (s := 25) rfl (by (rw [hg]; rfl)); apply opT_of; (refine r_call (c_EqualFunc a.rows b.rows) rfl rfl rfl rfl rfl ?_); refine r_nil ?_; exact rfl
  · exact rfl
  · exact rfl
  refine r_and rfl rfl ?_
  refine asB rfl ?_
  refine r_nil ?_
  refine i_then ?_
  refine t_ret ?_
  refine i_rp1 rfl rfl ?_
  all_goals skip
  all_goals exact ret_eq rfl rfl (congrArg Ty.bool (sameB_eq a b))
set_option maxRecDepth 100000 in
theorem c_great1 (r : BRow) : Ctr Tryd.prog 68 [rowT r] (Ty.bool (decide ((r.nums.length : Int) > 8))) := by
  refine fn_intro Tryd.func68 rfl (by decide) Tryd.ntmps68 (by exact Nat.le_of_ble_eq_true rfl) fun w0 M0 => ?_
  refine t_seq ?_
  refine t_region ?_
  refine r_box_agg rfl ?_
  refine asB rfl ?_
  refine r_nil ?_
  refine i_then ?_
  refine t_seq ?_
  refine t_region ?_
  refine r_field_pp rfl rfl rfl rfl rfl (by decide) ?_
  refine r_load_pp rfl rfl rfl rfl ?_
  refine r_len rfl rfl rfl ?_
  refine r_bin rfl rfl rfl ?_
  refine asB rfl ?_
  refine r_nil ?_
  refine i_then ?_
  refine t_ret ?_
  refine i_rp1 rfl rfl ?_
  all_goals exact ret_refl rfl rfl
  skip
set_option maxRecDepth 100000 in
theorem c_great (b : Book) : Ctr Tryd.prog 24 [bokT b] (Ty.bool (greatB b)) := by
  refine fn_intro Tryd.func24 rfl (by decide) Tryd.ntmps24 (by exact Nat.le_of_ble_eq_true rfl) fun w0 M0 => ?_
  refine t_seq ?_
  refine t_region ?_
  refine r_box_agg rfl ?_
  refine asB rfl ?_
  refine r_nil ?_
  refine i_then ?_
  refine t_seq ?_
  refine t_region ?_
  refine r_field_pp rfl rfl rfl rfl rfl (by decide) ?_
  refine r_field_pp rfl rfl rfl rfl rfl (by decide) ?_
  refine r_load_pp rfl rfl rfl rfl ?_
  refine r_len rfl rfl rfl ?_
  refine r_bin rfl rfl rfl ?_
  refine mvB rfl ?_
  apply r_guard (s := 8) rfl rfl rfl
  · intro hg; apply opT_of; (refine r_field_pp rfl rfl rfl rfl rfl (by decide) ?_); refine r_nil ?_; exact rfl
  · exact rfl
  · exact rfl
  apply r_guard (s := 8) rfl rfl rfl
  · intro hg; apply opT_strip (s := 9) rfl (by (rw [hg]; rfl)); apply opT_of; (refine r_load_pp rfl rfl rfl rfl ?_); refine r_nil ?_; exact rfl
  · exact rfl
  · exact rfl
  apply r_guard (s := 8) rfl rfl rfl
  · intro hg; apply opT_strip (s := 10) rfl (by (rw [hg]; rfl)); apply opT_of; (refine r_len rfl rfl rfl ?_); refine r_nil ?_; exact rfl
  · exact rfl
  · exact rfl
  apply r_guard (s := 8) rfl rfl rfl
  · intro hg; apply opT_strip (s := 11) rfl (by (rw [hg]; rfl)); apply opT_of; (refine r_bin rfl rfl rfl ?_); refine r_nil ?_; exact rfl
  · exact rfl
  · exact rfl
  refine r_or rfl rfl ?_
  refine mvB rfl ?_
  apply r_guard (s := 14) rfl rfl rfl
  · intro hg; apply opT_of; (refine r_field_pp rfl rfl rfl rfl rfl (by decide) ?_); refine r_nil ?_; exact rfl
  · exact rfl
  · exact rfl
  apply r_guard (s := 14) rfl rfl rfl
  · intro hg; apply opT_strip (s := 15) rfl (by (rw [hg]; rfl)); apply opT_of; (refine r_load_pp rfl rfl rfl rfl ?_); refine r_nil ?_; exact rfl
  · exact rfl
  · exact rfl
  apply r_guard (s := 14) rfl rfl rfl
  · intro hg; apply opT_strip (s := 16) rfl (by (rw [hg]; rfl)); apply opT_of; (refine r_call (c_ContainsFunc_row b.rows (Ty.clo 68 []) rfl (fun r => decide ((r.nums.length : Int) > 8)) rfl rfl fun x _ => cal_clo (c_great1 x) rfl rfl rfl rfl rfl rfl) rfl rfl rfl rfl rfl ?_); refine r_nil ?_; exact rfl
  · exact rfl
  · exact rfl
  refine r_or rfl rfl ?_
  refine asB rfl ?_
  refine r_nil ?_
  refine i_then ?_
  refine t_ret ?_
  refine i_rp1 rfl rfl ?_
  all_goals exact ret_refl rfl rfl
  all_goals trace_state
set_option maxRecDepth 100000 in
theorem c_Own (b : Book) (hw : b.form.widths.length ≤ 1000) (hl : b.rows.length ≤ 1000) (hn : ∀ r ∈ b.rows, r.nums.length ≤ 1000) : Ctr Tryd.prog 25 [bokT b] (bokT b) := by
  refine fn_intro Tryd.func25 rfl (by decide) Tryd.ntmps25 (by exact Nat.le_of_ble_eq_true rfl) fun w0 M0 => ?_
  refine t_seq ?_
  refine t_region ?_
  refine r_box_agg rfl ?_
  refine r_alloc rfl (by exact List.cons_ne_nil _ _) rfl ?_
  refine r_nil ?_
  refine i_then ?_
  refine t_seq ?_
  refine t_draw mixed rfl ?_
  refine r_field_pp rfl rfl rfl rfl rfl (by decide) ?_
  refine r_field_pp rfl rfl rfl rfl rfl (by decide) ?_
  refine r_load_pp rfl rfl rfl rfl ?_
  refine r_call (c_Dup_int b.form.widths hw) rfl rfl rfl rfl rfl ?_
  refine r_field_pp rfl rfl rfl rfl rfl (by decide) ?_
  refine r_field_pp rfl rfl rfl rfl rfl (by decide) ?_
  refine r_load_pp rfl rfl rfl rfl ?_
  refine r_build rfl rfl (by exact List.cons_ne_nil _ _) rfl (by repeat (first | exact (Parts.nil : Parts _ _ [] _) | (show Parts _ _ ((_, _) :: _) _; apply Parts.one; (· first | exact (rfl : _ = Ty.int _ _) | exact (rfl : _ = Ty.sl _ _)); (· exact rfl)))) (by exact (rfl : _ = some [_, _])) ?_
  refine r_build rfl rfl (by exact List.cons_ne_nil _ _) rfl (by repeat (first | exact (Parts.nil : Parts _ _ [] _) | (show Parts _ _ ((_, _) :: _) _; apply Parts.agg; (· exact (rfl : _ = Ty.agg _))))) (by exact (rfl : _ = some [_, _, _])) ?_
  refine r_alloc rfl (by exact List.cons_ne_nil _ _) rfl ?_
  refine r_storeN rfl rfl (by decide) rfl rfl rfl rfl rfl rfl ?_
  refine r_nil ?_
  refine ⟨by kernel_rfl, ?_⟩
  refine i_then ?_
  refine t_seq ?_
  refine t_seq ?_
  refine t_region ?_
  refine r_field_pp rfl rfl rfl rfl rfl (by decide) ?_
  refine r_load_pp rfl rfl rfl rfl ?_
  refine r_len rfl rfl rfl ?_
  refine mvI rfl ?_
  refine r_nil ?_
  refine i_then ?_
  refine t_block ?_
  refine t_loop (fun (k : {k : Nat // k ≤ b.rows.length}) => live [(1, Ty.pp (bokTys b)), (2, Ty.ptr 3 0), (3, Ty.ptr 4 0), (16, Ty.sl BRowE b.rows), (17, Ty.int .i64 b.rows.length), (18, Ty.int .i64 (k.1 : Nat))] [(3, Cont.cells 30 [Ty.ex (.slice none 0 0), Ty.int .i64 0, Ty.ex (.slice none 0 0)]), (4, Cont.cells 30 [Ty.sl I64 b.form.widths, Ty.int .i64 b.form.lines, Ty.row BRowE 86 32 (b.rows.take k.1)])]) (fun k => b.rows.length - k.1) (⟨0, by omega⟩) ?_ fun k => ?_
  · (refine Ent.mk' ?_ ?_ <;> (repeat' (first | exact allSub_zero | exact allTags_nil | exact subs_nil | refine allSub_succ' ?_ (Ty.sub_any _) | refine allSub_succ' ?_ (Ty.sub_refl _) | refine allTags_cons rfl (Cont.sub_refl _) ?_ | refine allTags_cons rfl (Cont.sub_subs ?_) ?_ | refine subs_cons ?_ (Ty.sub_refl _) | refine subs_cons ?_ Ty.nil_row)))
    all_goals trace_state
  ·
    have hk := k.2
    have htl : (b.rows.take k.1).length = k.1 := by rw [List.length_take]; omega
    refine t_seq ?_
    refine t_region ?_
    refine r_bin rfl rfl rfl ?_
    refine r_nil ?_
    refine i_then ?_
    refine t_seq ?_
    refine t_cond_dec rfl (fun hc1 => ?_) (fun hc1 => ?_)
    ·
      refine t_skip ?_
      refine i_then ?_
      refine t_seq ?_
      refine t_block ?_
      refine t_seq ?_
      refine t_region ?_
      refine r_index_slN rfl rfl rfl rfl rfl rfl (by omega) ?_
      refine r_load_ppN rfl rfl rfl (by exact Nat.le_of_ble_eq_true rfl) ?_
      refine r_alloc rfl (by exact List.cons_ne_nil _ _) rfl ?_
      refine r_storeN rfl rfl (by decide) rfl rfl rfl rfl rfl rfl ?_
      refine r_nil ?_
      refine i_then ?_
      have hnk := hn _ (nth_mem (xs := b.rows) (k := k.1) (by omega))
      refine t_draw mixed rfl ?_
      refine r_field_ptr rfl rfl rfl rfl rfl (by decide) ?_
      refine r_load_ptr rfl rfl (by decide) rfl rfl rfl ?_
      refine r_field_ptr rfl rfl rfl rfl rfl (by decide) ?_
      refine r_load_ptr rfl rfl (by decide) rfl rfl rfl ?_
      refine r_call (c_Dup_int (nth b.rows k.1).nums hnk) rfl rfl rfl rfl rfl ?_
      refine r_field_ptr rfl rfl rfl rfl rfl (by decide) ?_
      refine r_load_ptr rfl rfl (by decide) rfl rfl rfl ?_
      refine r_build rfl rfl (by exact List.cons_ne_nil _ _) rfl (by repeat (first | exact (Parts.nil : Parts _ _ [] _) | (show Parts _ _ ((_, _) :: _) _; apply Parts.one; (· first | exact (rfl : _ = Ty.sl _ _) | exact (rfl : _ = Ty.bool _)); (· exact rfl)))) (by exact (rfl : _ = some [_, _])) ?_
      refine r_buildSlice (E := BRowE) (xs := [nth b.rows k.1]) rfl rfl rfl rfl rfl (by decide) (by decide) (by repeat (first | exact (Parts.nil : Parts _ _ [] _) | (show Parts _ _ ((_, _) :: _) _; apply Parts.agg; (· exact (rfl : _ = Ty.agg _))))) (by exact rfl) rfl ?_
      refine r_append rfl rfl (by decide) rfl rfl rfl rfl rfl rfl (by decide) (by (simp <;> omega)) (by (simp <;> omega)) ?_
      refine r_field_ptr rfl rfl rfl rfl rfl (by decide) ?_
      refine r_store1 rfl rfl (by decide) rfl rfl (by exact (rfl : _ = Ty.row _ _ _ _)) rfl (by exact Nat.le_of_ble_eq_true rfl) rfl rfl (by exact rfl) ?_
      refine r_nil ?_
      refine ⟨by kernel_rfl, ?_⟩
      refine i_block ?_
      refine i_then ?_
      refine t_region ?_
      refine r_add rfl rfl (by omega) (by omega) ?_
      refine mvI rfl ?_
      refine r_nil ?_
      refine i_round (⟨k.1 + 1, by omega⟩) ?_ (by show b.rows.length - (k.1 + 1) < b.rows.length - k.1; omega)
      (refine Ent.mk' ?_ ?_ <;> (repeat' (first | exact allSub_zero | exact allTags_nil | exact subs_nil | refine allSub_succ' ?_ (Ty.sub_any _) | refine allSub_succ' ?_ (Ty.sub_refl _) | refine allTags_cons rfl (Cont.sub_refl _) ?_ | refine allTags_cons rfl (Cont.sub_subs ?_) ?_ | refine subs_cons ?_ (Ty.sub_refl _) | refine subs_cons ?_ ?_)))
      all_goals exact Ty.sub_row (take_nth (by omega)).symm
      all_goals trace_state
    ·
      refine t_exit ?_
      refine i_then_exit ?_
      refine i_then_exit ?_
      refine i_block_exit rfl ?_
      refine i_then ?_
      refine t_seq ?_
      refine t_pubC (tg := 32) [] [(4, Cont.cells 30 (bokTys b))] (by decide) rfl trivial ⟨pubC_cells rfl rfl ⟨pubTy_same rfl, pubTy_same rfl, pubTy_row_eq (List.take_of_length_le (by have := k.2; omega)), trivial⟩, trivial⟩ ?_
      refine t_region ?_
      refine r_load_ptrN rfl rfl (by decide) rfl rfl (by exact Nat.le_of_ble_eq_true rfl) ?_
      refine r_storeN rfl rfl (by decide) rfl rfl rfl rfl rfl rfl ?_
      refine r_nil ?_
      refine i_then ?_
      refine t_ret ?_
      refine i_rcell rfl rfl rfl rfl (by decide) rfl rfl rfl ?_
      all_goals exact ret_refl rfl rfl
set_option maxRecDepth 100000 in
theorem c_theirs (b : Book) (hl : b.rows.length ≤ 1000) : Ctr Tryd.prog 27 [bokT b] (bokT b) := by
  refine fn_intro Tryd.func27 rfl (by decide) Tryd.ntmps27 (by exact Nat.le_of_ble_eq_true rfl) fun w0 M0 => ?_
  refine t_seq ?_
  refine t_region ?_
  refine r_box_agg rfl ?_
  refine r_alloc rfl (by exact List.cons_ne_nil _ _) rfl ?_
  refine r_nil ?_
  refine i_then ?_
  refine t_seq ?_
  refine t_region ?_
  refine r_field_pp rfl rfl rfl rfl rfl (by decide) ?_
  refine r_load_ppN rfl rfl rfl (by exact Nat.le_of_ble_eq_true rfl) ?_
  refine r_build rfl rfl (by exact List.cons_ne_nil _ _) rfl (by repeat (first | exact (Parts.nil : Parts _ _ [] _) | (show Parts _ _ ((_, _) :: _) _; apply Parts.agg; (· exact (rfl : _ = Ty.agg _))))) (by exact (rfl : _ = some [_, _, _])) ?_
  refine r_alloc rfl (by exact List.cons_ne_nil _ _) rfl ?_
  refine r_storeN rfl rfl (by decide) rfl rfl rfl rfl rfl rfl ?_
  refine r_nil ?_
  refine i_then ?_
  refine t_seq ?_
  refine t_seq ?_
  refine t_region ?_
  refine r_field_pp rfl rfl rfl rfl rfl (by decide) ?_
  refine r_load_pp rfl rfl rfl rfl ?_
  refine r_len rfl rfl rfl ?_
  refine mvI rfl ?_
  refine r_nil ?_
  refine i_then ?_
  refine t_block ?_
  refine t_loop (fun (k : {k : Nat // k ≤ b.rows.length}) => live [(1, Ty.pp (bokTys b)), (2, Ty.ptr 3 0), (3, Ty.ptr 4 0), (10, Ty.sl BRowE b.rows), (11, Ty.int .i64 b.rows.length), (12, Ty.int .i64 (k.1 : Nat))] [(3, Cont.cells 60 [Ty.ex (.slice none 0 0), Ty.int .i64 0, Ty.ex (.slice none 0 0)]), (4, Cont.cells 60 [Ty.sl I64 b.form.widths, Ty.int .i64 b.form.lines, Ty.row BRowE 121 21 (b.rows.take k.1)])]) (fun k => b.rows.length - k.1) (⟨0, by omega⟩) ?_ fun k => ?_
  · (refine Ent.mk' ?_ ?_ <;> (repeat' (first | exact allSub_zero | exact allTags_nil | exact subs_nil | refine allSub_succ' ?_ (Ty.sub_any _) | refine allSub_succ' ?_ (Ty.sub_refl _) | refine allTags_cons rfl (Cont.sub_refl _) ?_ | refine allTags_cons rfl (Cont.sub_subs ?_) ?_ | refine subs_cons ?_ (Ty.sub_refl _) | refine subs_cons ?_ Ty.nil_row)))
    all_goals trace_state
  ·
    have hk := k.2
    have htl : (b.rows.take k.1).length = k.1 := by rw [List.length_take]; omega
    refine t_seq ?_
    refine t_region ?_
    refine r_bin rfl rfl rfl ?_
    refine r_nil ?_
    refine i_then ?_
    refine t_seq ?_
    refine t_cond_dec rfl (fun hc1 => ?_) (fun hc1 => ?_)
    ·
      refine t_skip ?_
      refine i_then ?_
      refine t_seq ?_
      refine t_block ?_
      refine t_seq ?_
      refine t_region ?_
      refine r_index_slN rfl rfl rfl rfl rfl rfl (by omega) ?_
      refine r_load_ppN rfl rfl rfl (by exact Nat.le_of_ble_eq_true rfl) ?_
      refine r_alloc rfl (by exact List.cons_ne_nil _ _) rfl ?_
      refine r_storeN rfl rfl (by decide) rfl rfl rfl rfl rfl rfl ?_
      refine r_nil ?_
      refine i_then ?_
      refine t_region ?_
      refine r_field_ptr rfl rfl rfl rfl rfl (by decide) ?_
      refine r_load_ptr rfl rfl (by decide) rfl rfl rfl ?_
      refine r_load_ptrN rfl rfl (by decide) rfl rfl (by exact Nat.le_of_ble_eq_true rfl) ?_
      refine r_buildSlice (E := BRowE) (xs := [nth b.rows k.1]) rfl rfl rfl rfl rfl (by decide) (by decide) (by repeat (first | exact (Parts.nil : Parts _ _ [] _) | (show Parts _ _ ((_, _) :: _) _; apply Parts.agg; (· exact (rfl : _ = Ty.agg _))))) (by exact rfl) rfl ?_
      refine r_append rfl rfl (by decide) rfl rfl rfl rfl rfl rfl (by decide) (by (simp <;> omega)) (by (simp <;> omega)) ?_
      refine r_field_ptr rfl rfl rfl rfl rfl (by decide) ?_
      refine r_store1 rfl rfl (by decide) rfl rfl (by exact (rfl : _ = Ty.row _ _ _ _)) rfl (by exact Nat.le_of_ble_eq_true rfl) rfl rfl (by exact rfl) ?_
      refine r_nil ?_
      refine i_block ?_
      refine i_then ?_
      refine t_region ?_
      refine r_add rfl rfl (by omega) (by omega) ?_
      refine mvI rfl ?_
      refine r_nil ?_
      refine i_round (⟨k.1 + 1, by omega⟩) ?_ (by show b.rows.length - (k.1 + 1) < b.rows.length - k.1; omega)
      (refine Ent.mk' ?_ ?_ <;> (repeat' (first | exact allSub_zero | exact allTags_nil | exact subs_nil | refine allSub_succ' ?_ (Ty.sub_any _) | refine allSub_succ' ?_ (Ty.sub_refl _) | refine allTags_cons rfl (Cont.sub_refl _) ?_ | refine allTags_cons rfl (Cont.sub_subs ?_) ?_ | refine subs_cons ?_ (Ty.sub_refl _) | refine subs_cons ?_ ?_)))
      all_goals exact Ty.sub_row (take_nth (by omega)).symm
      all_goals trace_state
    ·
      refine t_exit ?_
      refine i_then_exit ?_
      refine i_then_exit ?_
      refine i_block_exit rfl ?_
      refine i_then ?_
      refine t_seq ?_
      refine t_pubC (tg := 21) [] [(4, Cont.cells 60 (bokTys b))] (by decide) rfl trivial ⟨pubC_cells rfl rfl ⟨pubTy_same rfl, pubTy_same rfl, pubTy_row_eq (List.take_of_length_le (by have := k.2; omega)), trivial⟩, trivial⟩ ?_
      refine t_region ?_
      refine r_load_ptrN rfl rfl (by decide) rfl rfl (by exact Nat.le_of_ble_eq_true rfl) ?_
      refine r_storeN rfl rfl (by decide) rfl rfl rfl rfl rfl rfl ?_
      refine r_nil ?_
      refine i_then ?_
      refine t_ret ?_
      refine i_rcell rfl rfl rfl rfl (by decide) rfl rfl rfl ?_
      all_goals exact ret_refl rfl rfl
set_option maxRecDepth 100000 in
theorem c_Two : Ctr Tryd.prog 40 [] (Ty.tup [bokT bTwo, Ty.str (bs tTwo)]) := by
  refine fn_intro Tryd.func40 rfl (by decide) Tryd.ntmps40 (by exact Nat.le_of_ble_eq_true rfl) fun w0 M0 => ?_
  refine t_seq ?_
  refine t_region ?_
  refine r_alloc rfl (by exact List.cons_ne_nil _ _) rfl ?_
  refine asS' rfl ?_
  refine r_nil ?_
  refine i_then ?_
  refine t_seq ?_
  refine t_region ?_
  refine r_buildSlice (E := I64) (xs := [_, _]) rfl rfl rfl rfl rfl (by decide) (by decide) (by repeat (first | exact (Parts.nil : Parts _ _ [] _) | (show Parts _ _ ((_, _) :: _) _; apply Parts.one; (· exact (rfl : _ = Ty.int _ _)); (· exact rfl)))) (by exact rfl) rfl ?_
  refine r_build rfl rfl (by exact List.cons_ne_nil _ _) rfl (by repeat (first | exact (Parts.nil : Parts _ _ [] _) | (show Parts _ _ ((_, _) :: _) _; apply Parts.one; (· first | exact (rfl : _ = Ty.int _ _) | exact (rfl : _ = Ty.sl _ _)); (· exact rfl)))) (by exact (rfl : _ = some [_, _])) ?_
  refine r_buildSlice (E := I64) (xs := [_, _]) rfl rfl rfl rfl rfl (by decide) (by decide) (by repeat (first | exact (Parts.nil : Parts _ _ [] _) | (show Parts _ _ ((_, _) :: _) _; apply Parts.one; (· exact (rfl : _ = Ty.int _ _)); (· exact rfl)))) (by exact rfl) rfl ?_
  refine r_build rfl rfl (by exact List.cons_ne_nil _ _) rfl (by repeat (first | exact (Parts.nil : Parts _ _ [] _) | (show Parts _ _ ((_, _) :: _) _; apply Parts.one; (· exact (rfl : _ = Ty.sl _ _)); (· exact rfl)))) (by exact (rfl : _ = some [_, _])) ?_
  refine r_buildSlice (E := I64) (xs := [_, _]) rfl rfl rfl rfl rfl (by decide) (by decide) (by repeat (first | exact (Parts.nil : Parts _ _ [] _) | (show Parts _ _ ((_, _) :: _) _; apply Parts.one; (· exact (rfl : _ = Ty.int _ _)); (· exact rfl)))) (by exact rfl) rfl ?_
  refine r_build rfl rfl (by exact List.cons_ne_nil _ _) rfl (by repeat (first | exact (Parts.nil : Parts _ _ [] _) | (show Parts _ _ ((_, _) :: _) _; apply Parts.one; (· exact (rfl : _ = Ty.sl _ _)); (· exact rfl)))) (by exact (rfl : _ = some [_, _])) ?_
  refine r_buildSlice (E := I64) (xs := [_, _]) rfl rfl rfl rfl rfl (by decide) (by decide) (by repeat (first | exact (Parts.nil : Parts _ _ [] _) | (show Parts _ _ ((_, _) :: _) _; apply Parts.one; (· exact (rfl : _ = Ty.int _ _)); (· exact rfl)))) (by exact rfl) rfl ?_
  refine r_build rfl rfl (by exact List.cons_ne_nil _ _) rfl (by repeat (first | exact (Parts.nil : Parts _ _ [] _) | (show Parts _ _ ((_, _) :: _) _; apply Parts.one; (· first | exact (rfl : _ = Ty.sl _ _) | exact (rfl : _ = Ty.bool _)); (· exact rfl)))) (by exact (rfl : _ = some [_, _])) ?_
  refine r_buildSlice (E := BRowE) (xs := bTwo.rows) rfl rfl rfl rfl rfl (by decide) (by decide) (by repeat (first | exact (Parts.nil : Parts _ _ [] _) | (show Parts _ _ ((_, _) :: _) _; apply Parts.agg; (· exact (rfl : _ = Ty.agg _))))) (by exact rfl) rfl ?_
  refine r_build rfl rfl (by exact List.cons_ne_nil _ _) rfl (by repeat (first | exact (Parts.nil : Parts _ _ [] _) | (show Parts _ _ ((_, _) :: _) _; apply Parts.one; (· exact (rfl : _ = Ty.sl _ _)); (· exact rfl)) | (show Parts _ _ ((_, _) :: _) _; apply Parts.agg; (· exact (rfl : _ = Ty.agg _))))) (by exact (rfl : _ = some [_, _, _])) ?_
  refine r_storeN rfl rfl (by decide) rfl rfl rfl rfl rfl rfl ?_
  refine asS' rfl ?_
  refine r_nil ?_
  refine i_then ?_
  refine t_ret ?_
  refine i_rcell2 rfl rfl rfl rfl rfl (by decide) rfl rfl rfl ?_ ?_
  all_goals exact ret_refl rfl rfl
  all_goals trace_state
theorem two_rng : ∀ r ∈ bTwo.rows, Rng r.nums := by unfold Rng; decide
theorem c_aw1 : Ctr Tryd.prog 14 [bokT bTwo] (Ty.tup [Ty.str (bs tTwo), Ty.int .i64 0]) := by
  have h := c_Print bTwo two_rng
  rwa [aw1, aw1'] at h
theorem c_aw2 : Ctr Tryd.prog 15 [frmT bTwo.form, Ty.str (bs tTwo1)] (Ty.tup [bokT Book.zero, Ty.int .i64 8, Ty.int .i64 11]) := by
  have h := c_Parse bTwo.form tTwo1 (by decide)
  unfold parT at h
  rwa [aw2] at h
theorem c_aw3 : Ctr Tryd.prog 15 [frmT bTwo.form, Ty.str (bs tTwo2)] (Ty.tup [bokT Book.zero, Ty.int .i64 34, Ty.int .i64 11]) := by
  have h := c_Parse bTwo.form tTwo2 (by decide)
  unfold parT at h
  rwa [aw3] at h
theorem c_aw4 : Ctr Tryd.prog 34 [Ty.str (bs tTwo), Ty.sl I64 [2, 8]] (Ty.tup [Ty.str (bs tTwo3), Ty.int .i64 0]) := by
  have h := c_Tear tTwo [2, 8] (by decide)
  rwa [aw4] at h
theorem c_aw5 : Ctr Tryd.prog 21 [frmT bTwo.form, Ty.str (bs tTwo3)] (Ty.tup [bokT bTwo, Ty.int .i64 0]) := by
  have h := c_Restore bTwo.form tTwo3
  rwa [aw_res] at h
theorem c_aw6 : Ctr Tryd.prog 19 [frmT fOne, Ty.str (bs tOne)] (Ty.tup [Ty.int .i64 10, Ty.int .i64 0]) := by
  have h := c_Count fOne tOne
  rwa [aw_cnt] at h
theorem c_aw7 : Ctr Tryd.prog 20 [frmT fOne, Ty.str (bs tOne)] (Ty.tup [Ty.sl StrE lOne, Ty.int .i64 0]) := by
  have h := c_Fillings fOne tOne
  rwa [aw_fil] at h
theorem c_aw8 : Ctr Tryd.prog 41 [bokT bTwo] (Ty.tup [Ty.sl RowE [[112, 45], [112, 45]], Ty.int .i64 0]) := by
  have h := c_Foots bTwo two_rng
  rwa [aw8, aw1'] at h
set_option maxRecDepth 100000 in
theorem c_awake : Ctr Tryd.prog 11 [] (Ty.bool true) := by
  refine fn_intro Tryd.func11 rfl (by decide) Tryd.ntmps11 (by exact Nat.le_of_ble_eq_true rfl) fun w0 M0 => ?_
  refine t_seq ?_
  refine t_region ?_
  refine asB rfl ?_
  refine r_nil ?_
  refine i_then ?_
  refine t_seq ?_
  refine t_region ?_
  refine r_call (c_Two) rfl rfl rfl rfl rfl ?_
  refine mvT rfl ?_
  refine r_extract rfl rfl ?_
  refine r_extract rfl rfl ?_
  refine r_alloc rfl (by exact List.cons_ne_nil _ _) rfl ?_
  refine r_storeN rfl rfl (by decide) rfl rfl rfl rfl rfl rfl ?_
  refine asS' rfl ?_
  refine r_nil ?_
  refine i_then ?_
  refine t_seq ?_
  refine t_pub (tg := 2) [(1, Ty.pp (bokTys bTwo))] (by decide) rfl ⟨pub_ptr (T := 30) (tg := 2) (off := 0) (l := bokTys bTwo) rfl rfl rfl (by decide), trivial⟩ ?_
  refine t_region ?_
  refine r_load_ppN rfl rfl rfl (by exact Nat.le_of_ble_eq_true rfl) ?_
  refine r_call c_aw1 rfl rfl rfl rfl rfl ?_
  refine mvT rfl ?_
  refine r_extract rfl rfl ?_
  refine r_extract rfl rfl ?_
  refine asS' rfl ?_
  refine asI rfl ?_
  refine r_nil ?_
  refine i_then ?_
  refine t_seq ?_
  refine t_forget (B := live [(1, Ty.pp (bokTys bTwo)), (2, Ty.str (bs tTwo)), (3, Ty.str (bs tTwo)), (4, Ty.int .i64 0)] []) ?_ ?_
  · (refine Ent.mk' ?_ ?_ <;> (repeat' (first | exact allSub_zero | exact allTags_nil | refine allSub_succ' ?_ (Ty.sub_any _) | refine allSub_succ' ?_ (Ty.sub_refl _))))
  refine t_draw mixed rfl ?_
  refine r_field_pp rfl rfl rfl rfl rfl (by decide) ?_
  refine r_load_ppN rfl rfl rfl (by exact Nat.le_of_ble_eq_true rfl) ?_
  refine mvS' rfl ?_
  refine r_cutS_hi (hi := 8) rfl rfl rfl rfl (by decide) ?_
  refine r_catS rfl rfl (by decide) ?_
  refine mvS' rfl ?_
  refine r_cutS_lo (lo := 9) rfl rfl rfl rfl (by decide) ?_
  refine r_catS rfl rfl (by decide) ?_
  refine r_call c_aw2 rfl rfl rfl rfl rfl ?_
  refine mvT rfl ?_
  refine r_extract rfl rfl ?_
  refine r_extract rfl rfl ?_
  refine r_extract rfl rfl ?_
  refine r_alloc rfl (by exact List.cons_ne_nil _ _) rfl ?_
  refine r_storeN rfl rfl (by decide) rfl rfl rfl rfl rfl rfl ?_
  refine asI rfl ?_
  refine asI rfl ?_
  refine r_nil ?_
  refine ⟨by kernel_rfl, ?_⟩
  refine i_then ?_
  refine t_seq ?_
  refine t_forget (B := live [(1, Ty.pp (bokTys bTwo)), (2, Ty.str (bs tTwo)), (3, Ty.str (bs tTwo)), (4, Ty.int .i64 0), (6, Ty.int .i64 8), (7, Ty.int .i64 11)] []) ?_ ?_
  · (refine Ent.mk' ?_ ?_ <;> (repeat' (first | exact allSub_zero | exact allTags_nil | refine allSub_succ' ?_ (Ty.sub_any _) | refine allSub_succ' ?_ (Ty.sub_refl _))))
  refine t_draw mixed rfl ?_
  refine r_field_pp rfl rfl rfl rfl rfl (by decide) ?_
  refine r_load_ppN rfl rfl rfl (by exact Nat.le_of_ble_eq_true rfl) ?_
  refine mvS' rfl ?_
  refine r_cutS_hi (hi := 34) rfl rfl rfl rfl (by decide) ?_
  refine r_call c_aw3 rfl rfl rfl rfl rfl ?_
  refine mvT rfl ?_
  refine r_extract rfl rfl ?_
  refine r_extract rfl rfl ?_
  refine r_extract rfl rfl ?_
  refine r_alloc rfl (by exact List.cons_ne_nil _ _) rfl ?_
  refine r_storeN rfl rfl (by decide) rfl rfl rfl rfl rfl rfl ?_
  refine asI rfl ?_
  refine asI rfl ?_
  refine r_nil ?_
  refine ⟨by kernel_rfl, ?_⟩
  refine i_then ?_
  refine t_seq ?_
  refine t_forget (B := live [(1, Ty.pp (bokTys bTwo)), (2, Ty.str (bs tTwo)), (3, Ty.str (bs tTwo)), (4, Ty.int .i64 0), (6, Ty.int .i64 8), (7, Ty.int .i64 11), (9, Ty.int .i64 34), (10, Ty.int .i64 11)] []) ?_ ?_
  · (refine Ent.mk' ?_ ?_ <;> (repeat' (first | exact allSub_zero | exact allTags_nil | refine allSub_succ' ?_ (Ty.sub_any _) | refine allSub_succ' ?_ (Ty.sub_refl _))))
  refine t_region ?_
  refine mvS' rfl ?_
  refine r_buildSlice (E := I64) (xs := [_, _]) rfl rfl rfl rfl rfl (by decide) (by decide) (by repeat (first | exact (Parts.nil : Parts _ _ [] _) | (show Parts _ _ ((_, _) :: _) _; apply Parts.one; (· exact (rfl : _ = Ty.int _ _)); (· exact rfl)))) (by exact rfl) rfl ?_
  refine r_call c_aw4 rfl rfl rfl rfl rfl ?_
  refine mvT rfl ?_
  refine r_extract rfl rfl ?_
  refine r_extract rfl rfl ?_
  refine asS' rfl ?_
  refine asI rfl ?_
  refine r_nil ?_
  refine i_then ?_
  refine t_seq ?_
  refine t_region ?_
  refine r_field_pp rfl rfl rfl rfl rfl (by decide) ?_
  refine r_load_ppN rfl rfl rfl (by exact Nat.le_of_ble_eq_true rfl) ?_
  refine mvS' rfl ?_
  refine r_call c_aw5 rfl rfl rfl rfl rfl ?_
  refine mvT rfl ?_
  refine r_extract rfl rfl ?_
  refine r_extract rfl rfl ?_
  refine r_alloc rfl (by exact List.cons_ne_nil _ _) rfl ?_
  refine r_storeN rfl rfl (by decide) rfl rfl rfl rfl rfl rfl ?_
  refine asI rfl ?_
  refine r_nil ?_
  refine i_then ?_
  refine t_seq ?_
  refine t_forget (B := live [(1, Ty.pp (bokTys bTwo)), (2, Ty.str (bs tTwo)), (3, Ty.str (bs tTwo)), (4, Ty.int .i64 0), (6, Ty.int .i64 8), (7, Ty.int .i64 11), (9, Ty.int .i64 34), (10, Ty.int .i64 11), (12, Ty.int .i64 0), (13, Ty.ptr 14 0), (14, Ty.int .i64 0)] [(14, Cont.cells 30 (bokTys bTwo))]) ?_ ?_
  · (refine Ent.mk' ?_ ?_ <;> (repeat' (first | exact allSub_zero | exact allTags_nil | refine allSub_succ' ?_ (Ty.sub_any _) | refine allSub_succ' ?_ (Ty.sub_refl _) | refine allTags_cons rfl (Cont.sub_refl _) ?_)))
  refine t_pub (tg := 14) [(13, Ty.pp (bokTys bTwo))] (by decide) rfl ⟨pub_ptr (T := 30) (tg := 14) (off := 0) (l := bokTys bTwo) rfl rfl rfl (by decide), trivial⟩ ?_
  refine t_region ?_
  refine r_buildSlice (E := I64) (xs := [_]) rfl rfl rfl rfl rfl (by decide) (by decide) (by repeat (first | exact (Parts.nil : Parts _ _ [] _) | (show Parts _ _ ((_, _) :: _) _; apply Parts.one; (· exact (rfl : _ = Ty.int _ _)); (· exact rfl)))) (by exact rfl) rfl ?_
  refine r_build rfl rfl (by exact List.cons_ne_nil _ _) rfl (by repeat (first | exact (Parts.nil : Parts _ _ [] _) | (show Parts _ _ ((_, _) :: _) _; apply Parts.one; (· first | exact (rfl : _ = Ty.int _ _) | exact (rfl : _ = Ty.sl _ _)); (· exact rfl)))) (by exact (rfl : _ = some [_, _])) ?_
  refine r_alloc rfl (by exact List.cons_ne_nil _ _) rfl ?_
  refine r_storeN rfl rfl (by decide) rfl rfl rfl rfl rfl rfl ?_
  refine r_nil ?_
  refine i_then ?_
  refine t_seq ?_
  refine t_region ?_
  refine r_load_ptrN rfl rfl (by decide) rfl rfl (by exact Nat.le_of_ble_eq_true rfl) ?_
  refine r_call c_aw6 rfl rfl rfl rfl rfl ?_
  refine mvT rfl ?_
  refine r_extract rfl rfl ?_
  refine r_extract rfl rfl ?_
  refine asI rfl ?_
  refine asI rfl ?_
  refine r_nil ?_
  refine i_then ?_
  refine t_seq ?_
  refine t_region ?_
  refine r_load_ptrN rfl rfl (by decide) rfl rfl (by exact Nat.le_of_ble_eq_true rfl) ?_
  refine r_call c_aw7 rfl rfl rfl rfl rfl ?_
  refine mvT rfl ?_
  refine r_extract rfl rfl ?_
  refine r_extract rfl rfl ?_
  refine asS rfl ?_
  refine asI rfl ?_
  refine r_nil ?_
  refine i_then ?_
  refine t_seq ?_
  refine t_region ?_
  refine r_load_ppN rfl rfl rfl (by exact Nat.le_of_ble_eq_true rfl) ?_
  refine r_call c_aw8 rfl rfl rfl rfl rfl ?_
  refine mvT rfl ?_
  refine r_extract rfl rfl ?_
  refine r_extract rfl rfl ?_
  refine asS rfl ?_
  refine asI rfl ?_
  refine r_nil ?_
  refine i_then ?_
  refine t_seq ?_
  refine t_forget (B := live [(1, Ty.pp (bokTys bTwo)), (2, Ty.str (bs tTwo)), (3, Ty.str (bs tTwo)), (4, Ty.int .i64 0), (6, Ty.int .i64 8), (7, Ty.int .i64 11), (9, Ty.int .i64 34), (10, Ty.int .i64 11), (12, Ty.int .i64 0), (13, Ty.pp (bokTys bTwo)), (14, Ty.int .i64 0), (16, Ty.int .i64 10), (17, Ty.int .i64 0), (18, Ty.sl StrE lOne), (19, Ty.int .i64 0), (20, Ty.sl RowE [[112, 45], [112, 45]]), (21, Ty.int .i64 0)] []) ?_ ?_
  · (refine Ent.mk' ?_ ?_ <;> (repeat' (first | exact allSub_zero | exact allTags_nil | refine allSub_succ' ?_ (Ty.sub_any _) | refine allSub_succ' ?_ (Ty.sub_refl _))))
  refine t_region ?_
  refine mvI rfl ?_
  refine r_bin rfl rfl rfl ?_
  refine mvB rfl ?_
  apply r_guard (s := 85) rfl rfl rfl
  · intro hg; apply opT_of; (refine mvI rfl ?_); refine r_nil ?_; exact rfl
  · exact rfl
  · exact rfl
  apply r_guard (s := 85) rfl rfl rfl
  · intro hg; apply opT_strip (s := 86) rfl (by exact hg); apply opT_of; (refine r_bin rfl rfl rfl ?_); refine r_nil ?_; exact rfl
  · exact rfl
  · exact rfl
  refine r_and rfl rfl ?_
  refine mvB rfl ?_
  apply r_guard (s := 89) rfl rfl rfl
  · intro hg; apply opT_of; (refine mvI rfl ?_); refine r_nil ?_; exact rfl
  · exact rfl
  · exact rfl
  apply r_guard (s := 89) rfl rfl rfl
  · intro hg; apply opT_strip (s := 90) rfl (by exact hg); apply opT_of; (refine r_bin rfl rfl rfl ?_); refine r_nil ?_; exact rfl
  · exact rfl
  · exact rfl
  refine r_and rfl rfl ?_
  refine mvB rfl ?_
  apply r_guard (s := 93) rfl rfl rfl
  · intro hg; apply opT_of; (refine mvI rfl ?_); refine r_nil ?_; exact rfl
  · exact rfl
  · exact rfl
  apply r_guard (s := 93) rfl rfl rfl
  · intro hg; apply opT_strip (s := 94) rfl (by exact hg); apply opT_of; (refine r_bin rfl rfl rfl ?_); refine r_nil ?_; exact rfl
  · exact rfl
  · exact rfl
  refine r_and rfl rfl ?_
  refine mvB rfl ?_
  apply r_guard (s := 97) rfl rfl rfl
  · intro hg; apply opT_of; (refine mvI rfl ?_); refine r_nil ?_; exact rfl
  · exact rfl
  · exact rfl
  apply r_guard (s := 97) rfl rfl rfl
  · intro hg; apply opT_strip (s := 98) rfl (by exact hg); apply opT_of; (refine r_bin rfl rfl rfl ?_); refine r_nil ?_; exact rfl
  · exact rfl
  · exact rfl
  refine r_and rfl rfl ?_
  refine mvB rfl ?_
  apply r_guard (s := 101) rfl rfl rfl
  · intro hg; apply opT_of; (refine mvI rfl ?_); refine r_nil ?_; exact rfl
  · exact rfl
  · exact rfl
  apply r_guard (s := 101) rfl rfl rfl
  · intro hg; apply opT_strip (s := 102) rfl (by exact hg); apply opT_of; (refine r_bin rfl rfl rfl ?_); refine r_nil ?_; exact rfl
  · exact rfl
  · exact rfl
  refine r_and rfl rfl ?_
  refine mvB rfl ?_
  apply r_guard (s := 105) rfl rfl rfl
  · intro hg; apply opT_of; (refine mvI rfl ?_); refine r_nil ?_; exact rfl
  · exact rfl
  · exact rfl
  apply r_guard (s := 105) rfl rfl rfl
  · intro hg; apply opT_strip (s := 106) rfl (by exact hg); apply opT_of; (refine r_bin rfl rfl rfl ?_); refine r_nil ?_; exact rfl
  · exact rfl
  · exact rfl
  refine r_and rfl rfl ?_
  refine mvB rfl ?_
  apply r_guard (s := 109) rfl rfl rfl
  · intro hg; apply opT_of; (refine mvI rfl ?_); refine r_nil ?_; exact rfl
  · exact rfl
  · exact rfl
  apply r_guard (s := 109) rfl rfl rfl
  · intro hg; apply opT_strip (s := 110) rfl (by exact hg); apply opT_of; (refine r_bin rfl rfl rfl ?_); refine r_nil ?_; exact rfl
  · exact rfl
  · exact rfl
  refine r_and rfl rfl ?_
  refine mvB rfl ?_
  apply r_guard (s := 113) rfl rfl rfl
  · intro hg; apply opT_of; (refine mvS' rfl ?_); refine r_nil ?_; exact rfl
  · exact rfl
  · exact rfl
  apply r_guard (s := 113) rfl rfl rfl
  · intro hg; apply opT_of; (refine mvS' rfl ?_); refine r_nil ?_; exact rfl
  · exact rfl
  · exact rfl
  apply r_guard (s := 113) rfl rfl rfl
  · intro hg; apply opT_strip (s := 114) rfl (by exact hg); apply opT_strip (s := 115) rfl (by exact hg); apply opT_of; (refine r_eqlS rfl rfl ?_); refine r_nil ?_; exact rfl
  · exact rfl
  · exact rfl
  refine r_and rfl rfl ?_
  refine mvB rfl ?_
  apply r_guard (s := 118) rfl rfl rfl
  · intro hg; apply opT_of; (refine mvI rfl ?_); refine r_nil ?_; exact rfl
  · exact rfl
  · exact rfl
  apply r_guard (s := 118) rfl rfl rfl
  · intro hg; apply opT_strip (s := 119) rfl (by exact hg); apply opT_of; (refine r_bin rfl rfl rfl ?_); refine r_nil ?_; exact rfl
  · exact rfl
  · exact rfl
  refine r_and rfl rfl ?_
  refine mvB rfl ?_
  apply r_guard (s := 122) rfl rfl rfl
  · intro hg; apply opT_of; (refine mvI rfl ?_); refine r_nil ?_; exact rfl
  · exact rfl
  · exact rfl
  apply r_guard (s := 122) rfl rfl rfl
  · intro hg; apply opT_strip (s := 123) rfl (by exact hg); apply opT_of; (refine r_bin rfl rfl rfl ?_); refine r_nil ?_; exact rfl
  · exact rfl
  · exact rfl
  refine r_and rfl rfl ?_
  refine mvB rfl ?_
  apply r_guard (s := 126) rfl rfl rfl
  · intro hg; apply opT_of; (refine r_load_ppN rfl rfl rfl (by exact Nat.le_of_ble_eq_true rfl) ?_); refine r_nil ?_; exact rfl
  · exact rfl
  · exact rfl
  apply r_guard (s := 126) rfl rfl rfl
  · intro hg; apply opT_of; (refine r_load_ppN rfl rfl rfl (by exact Nat.le_of_ble_eq_true rfl) ?_); refine r_nil ?_; exact rfl
  · exact rfl
  · exact rfl
  apply r_guard (s := 126) rfl rfl rfl
  · intro hg; apply opT_strip (s := 127) rfl (by exact hg); apply opT_strip (s := 128) rfl (by exact hg); apply opT_of; (refine r_call (c_same _ _) rfl rfl rfl rfl rfl ?_); refine r_nil ?_; exact rfl
  · exact rfl
  · exact rfl
  refine r_and rfl rfl ?_
  refine mvB rfl ?_
  apply r_guard (s := 131) rfl rfl rfl
  · intro hg; apply opT_of; (refine mvI rfl ?_); refine r_nil ?_; exact rfl
  · exact rfl
  · exact rfl
  apply r_guard (s := 131) rfl rfl rfl
  · intro hg; apply opT_strip (s := 132) rfl (by exact hg); apply opT_of; (refine r_bin rfl rfl rfl ?_); refine r_nil ?_; exact rfl
  · exact rfl
  · exact rfl
  refine r_and rfl rfl ?_
  refine mvB rfl ?_
  apply r_guard (s := 135) rfl rfl rfl
  · intro hg; apply opT_of; (refine mvS rfl ?_); refine r_nil ?_; exact rfl
  · exact rfl
  · exact rfl
  apply r_guard (s := 135) rfl rfl rfl
  · intro hg; apply opT_of; (refine r_buildSlice (E := StrE) (xs := lOne) rfl rfl rfl rfl rfl (by decide) (by decide) (by repeat (first | exact (Parts.nil : Parts _ _ [] _) | (show Parts _ _ ((_, _) :: _) _; apply Parts.one; (· exact (rfl : _ = Ty.str _)); (· exact rfl)))) (by exact rfl) rfl ?_); refine r_nil ?_; exact rfl
  · exact rfl
  · exact rfl
  apply r_guard (s := 135) rfl rfl rfl
  · intro hg; apply opT_strip (s := 136) rfl (by exact hg); apply opT_strip (s := 137) rfl (by exact hg); apply opT_of; (refine r_call (c_Equal_str _ _) rfl rfl rfl rfl rfl ?_); refine r_nil ?_; exact rfl
  · exact rfl
  · exact rfl
  refine r_and rfl rfl ?_
  refine mvB rfl ?_
  apply r_guard (s := 140) rfl rfl rfl
  · intro hg; apply opT_of; (refine mvS rfl ?_); refine r_nil ?_; exact rfl
  · exact rfl
  · exact rfl
  apply r_guard (s := 140) rfl rfl rfl
  · intro hg; apply opT_of; (refine r_buildSlice (E := I64) (xs := [_, _]) rfl rfl rfl rfl rfl (by decide) (by decide) (by repeat (first | exact (Parts.nil : Parts _ _ [] _) | (show Parts _ _ ((_, _) :: _) _; apply Parts.one; (· exact (rfl : _ = Ty.int _ _)); (· exact rfl)))) (by exact rfl) rfl ?_); refine r_nil ?_; exact rfl
  · exact rfl
  · exact rfl
  apply r_guard (s := 140) rfl rfl rfl
  · intro hg; apply opT_of; (refine r_buildSlice (E := I64) (xs := [_, _]) rfl rfl rfl rfl rfl (by decide) (by decide) (by repeat (first | exact (Parts.nil : Parts _ _ [] _) | (show Parts _ _ ((_, _) :: _) _; apply Parts.one; (· exact (rfl : _ = Ty.int _ _)); (· exact rfl)))) (by exact rfl) rfl ?_); refine r_nil ?_; exact rfl
  · exact rfl
  · exact rfl
  apply r_guard (s := 140) rfl rfl rfl
  · intro hg; apply opT_strip (s := 142) rfl (by exact hg); apply opT_strip (s := 143) rfl (by exact hg); apply opT_of; (refine r_buildSlice (E := RowE) (xs := [[112, 45], [112, 45]]) rfl rfl rfl rfl rfl (by decide) (by decide) (by repeat (first | exact (Parts.nil : Parts _ _ [] _) | (show Parts _ _ ((_, _) :: _) _; apply Parts.one; (· exact (rfl : _ = Ty.sl _ _)); (· exact rfl)))) (by exact rfl) rfl ?_); refine r_nil ?_; exact rfl
  · exact rfl
  · exact rfl
  apply r_guard (s := 140) rfl rfl rfl
  · intro hg; apply opT_strip (s := 141) rfl (by exact hg); apply opT_strip (s := 144) rfl (by exact hg); apply opT_of; (refine r_call (c_EqRows _ _) rfl rfl rfl rfl rfl ?_); refine r_nil ?_; exact rfl
  · exact rfl
  · exact rfl
  refine r_and rfl rfl ?_
  refine asB rfl ?_
  refine r_nil ?_
  refine i_then ?_
  refine t_ret ?_
  refine i_rp1 rfl rfl ?_
  all_goals exact ret_refl rfl rfl
  all_goals trace_state
end Go.Proofs.YtjjndkenddigiaaDoor

namespace Go.Proofs.YtjjndkenddigiaaDoor
open Go Go.T
set_option maxHeartbeats 2000000
theorem dif_1 {a b : Book} (h : bokY a = 0) (h2 : bokY b = 0) : difV a b = difQ a b := by
  have e : difE a b = 0 := by unfold difE; rw [if_neg (fun e => e h)]; exact h2
  unfold difV difQ
  rw [if_neg (fun e' => e' e), Bool.or_comm]
theorem dif_2 {a b : Book} (h : bokY a = 0) (h2 : ¬ bokY b = 0) : difV a b = ([], bokY b) := by
  have e : difE a b = bokY b := by unfold difE; rw [if_neg (fun e => e h)]
  unfold difV
  rw [e, if_pos h2]
theorem dif_3 {a b : Book} (h : ¬ bokY a = 0) : difV a b = ([], bokY a) := by
  have e : difE a b = bokY a := by unfold difE; rw [if_pos h]
  unfold difV
  rw [e, if_pos h]
attribute [local irreducible] difV difQ bokY
attribute [local irreducible] dInt dBool dSl dPp dPtr dAgg dTup dClo dAny dEx dStr dGd dCells dVec dVs dRow dOp nth Tri Into TOps Ctr bodyPost Exit.then Exit.inBlock Code.wp Code.wpIn dPa dArr dMp dMap CtrG keepPost iterPost bodyPostM roundQ
set_option maxRecDepth 100000 in
theorem c_BookDiffers (a b : Book) (ha : ∀ r ∈ a.rows, Rng r.nums) (hb : ∀ r ∈ b.rows, Rng r.nums) : Ctr Tryd.prog 7 [bokT a, bokT b] (Ty.bool true) := by
  refine fn_intro Tryd.func7 rfl (by decide) Tryd.ntmps7 (by exact Nat.le_of_ble_eq_true rfl) fun w0 M0 => ?_
  refine t_seq ?_
  refine t_region ?_
  refine r_box_agg rfl ?_
  refine r_box_agg rfl ?_
  refine asB rfl ?_
  refine r_nil ?_
  refine i_then ?_
  refine t_seq ?_
  refine t_seq ?_
  refine t_region ?_
  refine r_load_ppN rfl rfl rfl (by exact Nat.le_of_ble_eq_true rfl) ?_
  refine r_call (c_great _) rfl rfl rfl rfl rfl ?_
  refine mvB rfl ?_
  apply r_guard (s := 13) rfl rfl rfl
  · intro hg; apply opT_of; (refine r_load_ppN rfl rfl rfl (by exact Nat.le_of_ble_eq_true rfl) ?_); refine r_nil ?_; exact rfl
  · exact rfl
  · exact rfl
  apply r_guard (s := 13) rfl rfl rfl
  · intro hg; apply opT_strip (s := 14) rfl (by (rw [hg]; rfl)); apply opT_of; (refine r_call (c_great b) rfl rfl rfl rfl rfl ?_); refine r_nil ?_; exact rfl
  · exact rfl
  · exact rfl
  refine r_or rfl rfl ?_
  refine r_nil ?_
  refine i_then ?_
  refine t_cond rfl (fun hc1 => ?_) (fun hc1 => ?_)
  ·
    refine t_seq ?_
    refine t_region ?_
    refine r_call (c_awake) rfl rfl rfl rfl rfl ?_
    refine asB rfl ?_
    refine r_nil ?_
    refine i_then ?_
    refine t_ret ?_
    refine i_then_ret ?_
    refine i_rp1 rfl rfl ?_
    all_goals exact ret_refl rfl rfl
    all_goals trace_state
  ·
    refine t_skip ?_
    refine i_then ?_
    refine t_seq ?_
    have hg2 := Bool.or_eq_false_iff.1 hc1
    obtain ⟨ha1, ha2, ha3⟩ := not_great hg2.1
    obtain ⟨hb1, hb2, hb3⟩ := not_great hg2.2
    refine t_draw mixed rfl ?_
    refine r_load_ppN rfl rfl rfl (by exact Nat.le_of_ble_eq_true rfl) ?_
    refine r_call (c_Own a (by omega) (by omega) fun r hr => by have := ha3 r hr; omega) rfl rfl rfl rfl rfl ?_
    refine r_load_ppN rfl rfl rfl (by exact Nat.le_of_ble_eq_true rfl) ?_
    refine r_call (c_Own b (by omega) (by omega) fun r hr => by have := hb3 r hr; omega) rfl rfl rfl rfl rfl ?_
    refine r_alloc rfl (by exact List.cons_ne_nil _ _) rfl ?_
    refine r_alloc rfl (by exact List.cons_ne_nil _ _) rfl ?_
    refine r_storeN rfl rfl (by decide) rfl rfl rfl rfl rfl rfl ?_
    refine r_storeN rfl rfl (by decide) rfl rfl rfl rfl rfl rfl ?_
    refine r_nil ?_
    refine ⟨by kernel_rfl, ?_⟩
    refine i_then ?_
    refine t_seq ?_
    refine t_pub (tg := 6) [(5, Ty.pp (bokTys a))] (by decide) rfl ⟨pub_ptr (T := 30) (tg := 6) (off := 0) (l := bokTys a) rfl rfl rfl (by decide), trivial⟩ ?_
    refine t_pub (tg := 7) [(6, Ty.pp (bokTys b))] (by decide) rfl ⟨pub_ptr (T := 30) (tg := 7) (off := 0) (l := bokTys b) rfl rfl rfl (by decide), trivial⟩ ?_
    refine t_region ?_
    refine r_load_ppN rfl rfl rfl (by exact Nat.le_of_ble_eq_true rfl) ?_
    refine r_call (c_theirs a (by omega)) rfl rfl rfl rfl rfl ?_
    refine r_call (c_rCheck _) rfl rfl rfl rfl rfl ?_
    refine asI rfl ?_
    refine r_nil ?_
    refine i_then ?_
    refine t_seq ?_
    refine t_seq ?_
    refine t_forget (B := live [(2, Ty.pp (bokTys a)), (3, Ty.pp (bokTys b)), (5, Ty.pp (bokTys a)), (6, Ty.pp (bokTys b)), (7, Ty.int .i64 (bokY a))] []) ?_ ?_
    · (refine Ent.mk' ?_ ?_ <;> (repeat' (first | exact allSub_zero | exact allTags_nil | refine allSub_succ' ?_ (Ty.sub_any _) | refine allSub_succ' ?_ (Ty.sub_refl _))))
    refine t_region ?_
    refine mvI rfl ?_
    refine r_bin rfl rfl rfl ?_
    refine r_nil ?_
    refine i_then ?_
    refine t_cond_dec rfl (fun hc2 => ?_) (fun hc2 => ?_)
    ·
      refine t_region ?_
      refine r_load_ppN rfl rfl rfl (by exact Nat.le_of_ble_eq_true rfl) ?_
      refine r_call (c_theirs b (by omega)) rfl rfl rfl rfl rfl ?_
      refine r_call (c_rCheck _) rfl rfl rfl rfl rfl ?_
      refine asI rfl ?_
      refine r_nil ?_
      refine i_then ?_
      refine t_seq ?_
      refine t_region ?_
      refine asX rfl ?_
      refine r_nil ?_
      refine i_then ?_
      refine t_seq ?_
      refine t_seq ?_
      refine t_region ?_
      refine mvI rfl ?_
      refine r_bin rfl rfl rfl ?_
      refine r_nil ?_
      refine i_then ?_
      refine t_cond_dec rfl (fun hc3 => ?_) (fun hc3 => ?_)
      ·
        refine t_draw mixed rfl ?_
        refine r_load_ppN rfl rfl rfl (by exact Nat.le_of_ble_eq_true rfl) ?_
        refine r_call (c_theirs a (by omega)) rfl rfl rfl rfl rfl ?_
        refine r_load_ppN rfl rfl rfl (by exact Nat.le_of_ble_eq_true rfl) ?_
        refine r_call (c_theirs b (by omega)) rfl rfl rfl rfl rfl ?_
        refine r_call (c_rDiffer a b (by omega) (by omega)) rfl rfl rfl rfl rfl ?_
        refine mvT rfl ?_
        refine r_extract rfl rfl ?_
        refine r_extract rfl rfl ?_
        refine asS rfl ?_
        refine asI rfl ?_
        refine r_nil ?_
        refine ⟨by kernel_rfl, ?_⟩
        refine i_then ?_
        refine t_seq ?_
        refine t_region ?_
        refine r_load_ppN rfl rfl rfl (by exact Nat.le_of_ble_eq_true rfl) ?_
        refine r_load_ppN rfl rfl rfl (by exact Nat.le_of_ble_eq_true rfl) ?_
        refine r_call (c_Differ a b ha hb) rfl rfl rfl rfl rfl ?_
        refine mvT rfl ?_
        refine r_extract rfl rfl ?_
        refine r_extract rfl rfl ?_
        refine asS rfl ?_
        refine asI rfl ?_
        refine r_nil ?_
        refine i_then ?_
        refine t_seq ?_
        refine t_region ?_
        refine mvI rfl ?_
        refine mvI rfl ?_
        refine r_bin rfl rfl rfl ?_
        refine mvB rfl ?_
        apply r_guard (s := 49) rfl rfl rfl
        · intro hg; apply opT_of; (refine mvS rfl ?_); refine r_nil ?_; exact rfl
        · exact rfl
        · exact rfl
        apply r_guard (s := 49) rfl rfl rfl
        · intro hg; apply opT_of; (refine mvS rfl ?_); refine r_nil ?_; exact rfl
        · exact rfl
        · exact rfl
        apply r_guard (s := 49) rfl rfl rfl
        · intro hg; apply opT_strip (s := 50) rfl (by (rw [hg]; rfl)); apply opT_strip (s := 51) rfl (by (rw [hg]; rfl)); apply opT_of; (refine r_call (c_Eq_int _ _) rfl rfl rfl rfl rfl ?_); refine r_nil ?_; exact rfl
        · exact rfl
        · exact rfl
        refine r_and rfl rfl ?_
        refine mvB rfl ?_
        apply r_guard (s := 54) rfl rfl rfl
        · intro hg; apply opT_of; (refine r_load_ppN rfl rfl rfl (by exact Nat.le_of_ble_eq_true rfl) ?_); refine r_nil ?_; exact rfl
        · exact rfl
        · exact rfl
        apply r_guard (s := 54) rfl rfl rfl
        · intro hg; apply opT_of; (refine r_load_ppN rfl rfl rfl (by exact Nat.le_of_ble_eq_true rfl) ?_); refine r_nil ?_; exact rfl
        · exact rfl
        · exact rfl
        apply r_guard (s := 54) rfl rfl rfl
        · intro hg; apply opT_strip (s := 55) rfl (by (rw [hg]; rfl)); apply opT_strip (s := 56) rfl (by (rw [hg]; rfl)); apply opT_of; (refine r_call (c_same _ _) rfl rfl rfl rfl rfl ?_); refine r_nil ?_; exact rfl
        · exact rfl
        · exact rfl
        refine r_and rfl rfl ?_
        refine mvB rfl ?_
        apply r_guard (s := 59) rfl rfl rfl
        · intro hg; apply opT_of; (refine r_load_ppN rfl rfl rfl (by exact Nat.le_of_ble_eq_true rfl) ?_); refine r_nil ?_; exact rfl
        · exact rfl
        · exact rfl
        apply r_guard (s := 59) rfl rfl rfl
        · intro hg; apply opT_of; (refine r_load_ppN rfl rfl rfl (by exact Nat.le_of_ble_eq_true rfl) ?_); refine r_nil ?_; exact rfl
        · exact rfl
        · exact rfl
        apply r_guard (s := 59) rfl rfl rfl
        · intro hg; apply opT_strip (s := 60) rfl (by (rw [hg]; rfl)); apply opT_strip (s := 61) rfl (by (rw [hg]; rfl)); apply opT_of; (refine r_call (c_same _ _) rfl rfl rfl rfl rfl ?_); refine r_nil ?_; exact rfl
        · exact rfl
        · exact rfl
        refine r_and rfl rfl ?_
        refine mvB rfl ?_
        apply r_guard (s := 64) rfl rfl rfl
        · intro hg; apply opT_of; (refine r_call (c_awake) rfl rfl rfl rfl rfl ?_); refine r_nil ?_; exact rfl
        · exact rfl
        · exact rfl
        refine r_and rfl rfl ?_
        refine asB rfl ?_
        refine r_nil ?_
        refine i_then ?_
        refine t_ret ?_
        refine i_rp1 rfl rfl ?_
        all_goals skip
        all_goals exact ret_eq rfl rfl (congrArg Ty.bool (by rw [dif_1 hc2 hc3]; simp))
      ·
        refine t_skip ?_
        refine i_then ?_
        refine t_seq ?_
        refine t_region ?_
        refine r_load_ppN rfl rfl rfl (by exact Nat.le_of_ble_eq_true rfl) ?_
        refine r_load_ppN rfl rfl rfl (by exact Nat.le_of_ble_eq_true rfl) ?_
        refine r_call (c_Differ a b ha hb) rfl rfl rfl rfl rfl ?_
        refine mvT rfl ?_
        refine r_extract rfl rfl ?_
        refine r_extract rfl rfl ?_
        refine asS rfl ?_
        refine asI rfl ?_
        refine r_nil ?_
        refine i_then ?_
        refine t_seq ?_
        refine t_region ?_
        refine mvI rfl ?_
        refine mvI rfl ?_
        refine r_bin rfl rfl rfl ?_
        refine mvB rfl ?_
        apply r_guard (s := 49) rfl rfl rfl
        · intro hg; apply opT_of; (refine mvS rfl ?_); refine r_nil ?_; exact rfl
        · exact rfl
        · exact rfl
        apply r_guard (s := 49) rfl rfl rfl
        · intro hg; apply opT_of; (refine mvX rfl ?_); refine r_nil ?_; exact rfl
        · exact rfl
        · exact rfl
        apply r_guard (s := 49) rfl rfl rfl
        · intro hg; apply opT_strip (s := 50) rfl (by (rw [hg]; rfl)); apply opT_strip (s := 51) rfl (by (rw [hg]; rfl)); apply opT_of; (refine r_callL [6, 7] (c_Eq_int _ _) rfl (by repeat (first | exact lends_nil | refine lends_cons (lend_pub rfl rfl) ?_ | refine lends_cons lend_nil ?_)) (by exact plain_bool _) ?_); refine r_nil ?_; exact rfl
        · exact rfl
        · exact rfl
        refine r_and rfl rfl ?_
        refine mvB rfl ?_
        apply r_guard (s := 54) rfl rfl rfl
        · intro hg; apply opT_of; (refine r_load_ppN rfl rfl rfl (by exact Nat.le_of_ble_eq_true rfl) ?_); refine r_nil ?_; exact rfl
        · exact rfl
        · exact rfl
        apply r_guard (s := 54) rfl rfl rfl
        · intro hg; apply opT_of; (refine r_load_ppN rfl rfl rfl (by exact Nat.le_of_ble_eq_true rfl) ?_); refine r_nil ?_; exact rfl
        · exact rfl
        · exact rfl
        apply r_guard (s := 54) rfl rfl rfl
        · intro hg; apply opT_strip (s := 55) rfl (by (rw [hg]; rfl)); apply opT_strip (s := 56) rfl (by (rw [hg]; rfl)); apply opT_of; (refine r_call (c_same _ _) rfl rfl rfl rfl rfl ?_); refine r_nil ?_; exact rfl
        · exact rfl
        · exact rfl
        refine r_and rfl rfl ?_
        refine mvB rfl ?_
        apply r_guard (s := 59) rfl rfl rfl
        · intro hg; apply opT_of; (refine r_load_ppN rfl rfl rfl (by exact Nat.le_of_ble_eq_true rfl) ?_); refine r_nil ?_; exact rfl
        · exact rfl
        · exact rfl
        apply r_guard (s := 59) rfl rfl rfl
        · intro hg; apply opT_of; (refine r_load_ppN rfl rfl rfl (by exact Nat.le_of_ble_eq_true rfl) ?_); refine r_nil ?_; exact rfl
        · exact rfl
        · exact rfl
        apply r_guard (s := 59) rfl rfl rfl
        · intro hg; apply opT_strip (s := 60) rfl (by (rw [hg]; rfl)); apply opT_strip (s := 61) rfl (by (rw [hg]; rfl)); apply opT_of; (refine r_call (c_same _ _) rfl rfl rfl rfl rfl ?_); refine r_nil ?_; exact rfl
        · exact rfl
        · exact rfl
        refine r_and rfl rfl ?_
        refine mvB rfl ?_
        apply r_guard (s := 64) rfl rfl rfl
        · intro hg; apply opT_of; (refine r_call (c_awake) rfl rfl rfl rfl rfl ?_); refine r_nil ?_; exact rfl
        · exact rfl
        · exact rfl
        refine r_and rfl rfl ?_
        refine asB rfl ?_
        refine r_nil ?_
        refine i_then ?_
        refine t_ret ?_
        refine i_rp1 rfl rfl ?_
        all_goals skip
        all_goals exact ret_eq rfl rfl (congrArg Ty.bool (by rw [dif_2 hc2 hc3]; simp))
    ·
      refine t_skip ?_
      refine i_then ?_
      refine t_seq ?_
      refine t_region ?_
      refine asX rfl ?_
      refine r_nil ?_
      refine i_then ?_
      refine t_seq ?_
      refine t_seq ?_
      refine t_region ?_
      refine mvI rfl ?_
      refine r_bin rfl rfl rfl ?_
      refine r_nil ?_
      refine i_then ?_
      refine t_cond_dec rfl (fun hc4 => ?_) (fun hc4 => ?_)
      ·
        refine t_draw mixed rfl ?_
        refine r_load_ppN rfl rfl rfl (by exact Nat.le_of_ble_eq_true rfl) ?_
        refine r_call (c_theirs a (by omega)) rfl rfl rfl rfl rfl ?_
        refine r_load_ppN rfl rfl rfl (by exact Nat.le_of_ble_eq_true rfl) ?_
        refine r_call (c_theirs b (by omega)) rfl rfl rfl rfl rfl ?_
        refine r_call (c_rDiffer a b (by omega) (by omega)) rfl rfl rfl rfl rfl ?_
        refine mvT rfl ?_
        refine r_extract rfl rfl ?_
        refine r_extract rfl rfl ?_
        refine asS rfl ?_
        refine asI rfl ?_
        refine r_nil ?_
        refine ⟨by kernel_rfl, ?_⟩
        refine i_then ?_
        refine t_seq ?_
        refine t_region ?_
        refine r_load_ppN rfl rfl rfl (by exact Nat.le_of_ble_eq_true rfl) ?_
        refine r_load_ppN rfl rfl rfl (by exact Nat.le_of_ble_eq_true rfl) ?_
        refine r_call (c_Differ a b ha hb) rfl rfl rfl rfl rfl ?_
        refine mvT rfl ?_
        refine r_extract rfl rfl ?_
        refine r_extract rfl rfl ?_
        refine asS rfl ?_
        refine asI rfl ?_
        refine r_nil ?_
        refine i_then ?_
        refine t_seq ?_
        refine t_region ?_
        refine mvI rfl ?_
        refine mvI rfl ?_
        refine r_bin rfl rfl rfl ?_
        refine mvB rfl ?_
        apply r_guard (s := 49) rfl rfl rfl
        · intro hg; apply opT_of; (refine mvS rfl ?_); refine r_nil ?_; exact rfl
        · exact rfl
        · exact rfl
        apply r_guard (s := 49) rfl rfl rfl
        · intro hg; apply opT_of; (refine mvS rfl ?_); refine r_nil ?_; exact rfl
        · exact rfl
        · exact rfl
        apply r_guard (s := 49) rfl rfl rfl
        · intro hg; apply opT_strip (s := 50) rfl (by (rw [hg]; rfl)); apply opT_strip (s := 51) rfl (by (rw [hg]; rfl)); apply opT_of; (refine r_call (c_Eq_int _ _) rfl rfl rfl rfl rfl ?_); refine r_nil ?_; exact rfl
        · exact rfl
        · exact rfl
        refine r_and rfl rfl ?_
        refine mvB rfl ?_
        apply r_guard (s := 54) rfl rfl rfl
        · intro hg; apply opT_of; (refine r_load_ppN rfl rfl rfl (by exact Nat.le_of_ble_eq_true rfl) ?_); refine r_nil ?_; exact rfl
        · exact rfl
        · exact rfl
        apply r_guard (s := 54) rfl rfl rfl
        · intro hg; apply opT_of; (refine r_load_ppN rfl rfl rfl (by exact Nat.le_of_ble_eq_true rfl) ?_); refine r_nil ?_; exact rfl
        · exact rfl
        · exact rfl
        apply r_guard (s := 54) rfl rfl rfl
        · intro hg; apply opT_strip (s := 55) rfl (by (rw [hg]; rfl)); apply opT_strip (s := 56) rfl (by (rw [hg]; rfl)); apply opT_of; (refine r_call (c_same _ _) rfl rfl rfl rfl rfl ?_); refine r_nil ?_; exact rfl
        · exact rfl
        · exact rfl
        refine r_and rfl rfl ?_
        refine mvB rfl ?_
        apply r_guard (s := 59) rfl rfl rfl
        · intro hg; apply opT_of; (refine r_load_ppN rfl rfl rfl (by exact Nat.le_of_ble_eq_true rfl) ?_); refine r_nil ?_; exact rfl
        · exact rfl
        · exact rfl
        apply r_guard (s := 59) rfl rfl rfl
        · intro hg; apply opT_of; (refine r_load_ppN rfl rfl rfl (by exact Nat.le_of_ble_eq_true rfl) ?_); refine r_nil ?_; exact rfl
        · exact rfl
        · exact rfl
        apply r_guard (s := 59) rfl rfl rfl
        · intro hg; apply opT_strip (s := 60) rfl (by (rw [hg]; rfl)); apply opT_strip (s := 61) rfl (by (rw [hg]; rfl)); apply opT_of; (refine r_call (c_same _ _) rfl rfl rfl rfl rfl ?_); refine r_nil ?_; exact rfl
        · exact rfl
        · exact rfl
        refine r_and rfl rfl ?_
        refine mvB rfl ?_
        apply r_guard (s := 64) rfl rfl rfl
        · intro hg; apply opT_of; (refine r_call (c_awake) rfl rfl rfl rfl rfl ?_); refine r_nil ?_; exact rfl
        · exact rfl
        · exact rfl
        refine r_and rfl rfl ?_
        refine asB rfl ?_
        refine r_nil ?_
        refine i_then ?_
        refine t_ret ?_
        refine i_rp1 rfl rfl ?_
        all_goals skip
        all_goals (exfalso; contradiction)
      ·
        refine t_skip ?_
        refine i_then ?_
        refine t_seq ?_
        refine t_region ?_
        refine r_load_ppN rfl rfl rfl (by exact Nat.le_of_ble_eq_true rfl) ?_
        refine r_load_ppN rfl rfl rfl (by exact Nat.le_of_ble_eq_true rfl) ?_
        refine r_call (c_Differ a b ha hb) rfl rfl rfl rfl rfl ?_
        refine mvT rfl ?_
        refine r_extract rfl rfl ?_
        refine r_extract rfl rfl ?_
        refine asS rfl ?_
        refine asI rfl ?_
        refine r_nil ?_
        refine i_then ?_
        refine t_seq ?_
        refine t_region ?_
        refine mvI rfl ?_
        refine mvI rfl ?_
        refine r_bin rfl rfl rfl ?_
        refine mvB rfl ?_
        apply r_guard (s := 49) rfl rfl rfl
        · intro hg; apply opT_of; (refine mvS rfl ?_); refine r_nil ?_; exact rfl
        · exact rfl
        · exact rfl
        apply r_guard (s := 49) rfl rfl rfl
        · intro hg; apply opT_of; (refine mvX rfl ?_); refine r_nil ?_; exact rfl
        · exact rfl
        · exact rfl
        apply r_guard (s := 49) rfl rfl rfl
        · intro hg; apply opT_strip (s := 50) rfl (by (rw [hg]; rfl)); apply opT_strip (s := 51) rfl (by (rw [hg]; rfl)); apply opT_of; (refine r_callL [6, 7] (c_Eq_int _ _) rfl (by repeat (first | exact lends_nil | refine lends_cons (lend_pub rfl rfl) ?_ | refine lends_cons lend_nil ?_)) (by exact plain_bool _) ?_); refine r_nil ?_; exact rfl
        · exact rfl
        · exact rfl
        refine r_and rfl rfl ?_
        refine mvB rfl ?_
        apply r_guard (s := 54) rfl rfl rfl
        · intro hg; apply opT_of; (refine r_load_ppN rfl rfl rfl (by exact Nat.le_of_ble_eq_true rfl) ?_); refine r_nil ?_; exact rfl
        · exact rfl
        · exact rfl
        apply r_guard (s := 54) rfl rfl rfl
        · intro hg; apply opT_of; (refine r_load_ppN rfl rfl rfl (by exact Nat.le_of_ble_eq_true rfl) ?_); refine r_nil ?_; exact rfl
        · exact rfl
        · exact rfl
        apply r_guard (s := 54) rfl rfl rfl
        · intro hg; apply opT_strip (s := 55) rfl (by (rw [hg]; rfl)); apply opT_strip (s := 56) rfl (by (rw [hg]; rfl)); apply opT_of; (refine r_call (c_same _ _) rfl rfl rfl rfl rfl ?_); refine r_nil ?_; exact rfl
        · exact rfl
        · exact rfl
        refine r_and rfl rfl ?_
        refine mvB rfl ?_
        apply r_guard (s := 59) rfl rfl rfl
        · intro hg; apply opT_of; (refine r_load_ppN rfl rfl rfl (by exact Nat.le_of_ble_eq_true rfl) ?_); refine r_nil ?_; exact rfl
        · exact rfl
        · exact rfl
        apply r_guard (s := 59) rfl rfl rfl
        · intro hg; apply opT_of; (refine r_load_ppN rfl rfl rfl (by exact Nat.le_of_ble_eq_true rfl) ?_); refine r_nil ?_; exact rfl
        · exact rfl
        · exact rfl
        apply r_guard (s := 59) rfl rfl rfl
        · intro hg; apply opT_strip (s := 60) rfl (by (rw [hg]; rfl)); apply opT_strip (s := 61) rfl (by (rw [hg]; rfl)); apply opT_of; (refine r_call (c_same _ _) rfl rfl rfl rfl rfl ?_); refine r_nil ?_; exact rfl
        · exact rfl
        · exact rfl
        refine r_and rfl rfl ?_
        refine mvB rfl ?_
        apply r_guard (s := 64) rfl rfl rfl
        · intro hg; apply opT_of; (refine r_call (c_awake) rfl rfl rfl rfl rfl ?_); refine r_nil ?_; exact rfl
        · exact rfl
        · exact rfl
        refine r_and rfl rfl ?_
        refine asB rfl ?_
        refine r_nil ?_
        refine i_then ?_
        refine t_ret ?_
        refine i_rp1 rfl rfl ?_
        all_goals skip
        all_goals exact ret_eq rfl rfl (congrArg Ty.bool (by rw [dif_3 hc2]; simp))
end Go.Proofs.YtjjndkenddigiaaDoor

namespace Go.T
open Go Go.RowKit Go.ChangeShapes Go.WideShapes Go.ChangeAt
def pubs : Tags := fun _ => none
theorem wf_pubs (w : World) (h : Amb w pubs) : Wf w pubs := ⟨fun _ _ h => (by cases h), fun _ _ _ _ h => (by cases h), h⟩
theorem pubs_zero : ∀ b t, pubs b = some t → t = 0 := fun _ _ h => by cases h
structure Rd {α : Type} (P : Program) (e : TypeId) (E : El α) : Prop where
  size : P.cellsOf e = E.size
  pos : 0 < E.size
  rd : ∀ {H : Type} {enc : TypeId × Value → H} {w : World} {base : Nat} {held : Bool} {n : Nat} {cs : List Value} {y : DataW H × List MemPlace}, DataW.trod enc P w base (fun _ => true) held n e cs = some y → ∃ x, dens w pubs (E.tys x) cs
section
variable {H : Type} {enc : TypeId × Value → H} {P : Program} {w : World} {base : Nat} {held : Bool} {α : Type} {E : El α} {t e : TypeId} {n : Nat} {cs : List Value} {y : DataW H × List MemPlace}
theorem rd_sl (hR : Rd P e E) (ht : P.underlying t = some (.slice e)) (h : DataW.trod enc P w base (fun _ => true) held n t cs = some y) : ∃ v xs, cs = [v] ∧ (Ty.sl E xs).den w pubs v := by
  rcases Go.Deep.open_slice ht h with ⟨rfl, _⟩ | ⟨a, len, cap, m, k, D, Pl, rfl, _, hl, hm, hmm, _, hel⟩
  · exact ⟨_, [], rfl, none, 0, rfl, Nat.le_refl _, Nat.zero_le _, fun h => absurd h (Nat.lt_irrefl _)⟩
  have hlm : len ≤ m := by rw [hmm]; simpa using hl
  have hX : ∀ i : Fin len, ∃ x : α, ∃ cs', w.cells? base (a.add (i.1 * P.cellsOf e)) (P.cellsOf e) = some cs' ∧ dens w pubs (E.tys x) cs' := fun i => by
    obtain ⟨cs', h1, h2⟩ := hel i.1 (Nat.lt_of_lt_of_le i.2 hlm)
    obtain ⟨x, hx⟩ := hR.rd h2
    exact ⟨x, cs', h1, hx⟩
  let X : Fin len → α := fun i => (hX i).choose
  have hXs : ∀ i : Fin len, ∃ cs', w.cells? base (a.add (i.1 * P.cellsOf e)) (P.cellsOf e) = some cs' ∧ dens w pubs (E.tys (X i)) cs' := fun i => (hX i).choose_spec
  have hlen : (List.ofFn X).length = len := by simp
  refine ⟨_, List.ofFn X, rfl, some a, cap, by rw [hlen], by rw [hlen]; exact hl, hm, fun h0 => ?_⟩
  rw [hlen] at h0
  have hcell : ∀ (i : Fin len) (j : Nat) (u : Ty), (E.tys (X i))[j]? = some u → ∃ v, w.cell? (a.add (i.1 * E.size + j)) = some v ∧ u.den w pubs v := fun i j u hu => by
    obtain ⟨cs', h1, h2⟩ := hXs i
    obtain ⟨v, hv, hd⟩ := dens_get h2 j u hu
    obtain ⟨_, g1, g2⟩ := World.cells?_some h1
    have hj : j < P.cellsOf e := by
      rw [hR.size, ← E.len (X i)]
      exact (List.getElem?_eq_some_iff.1 hu).1
    refine ⟨v, ?_, hd⟩
    have := g2 j hj
    rw [Go.Deep.add_add, hv, hR.size] at this
    exact this
  have hsz := hR.pos
  have hfirst : ∃ v, w.cell? (a.add 0) = some v := by
    obtain ⟨u, hu⟩ : ∃ u, (E.tys (X ⟨0, h0⟩))[0]? = some u := ⟨_, List.getElem?_eq_getElem (by rw [E.len]; exact hsz)⟩
    obtain ⟨v, hv, _⟩ := hcell ⟨0, h0⟩ 0 u hu
    exact ⟨v, by simpa using hv⟩
  obtain ⟨b, off, sp⟩ := a
  obtain ⟨v0, hv0⟩ := hfirst
  have hsp : sp = none := by simpa [Addr.add] using World.cell?_spot hv0
  subst hsp
  have hb : b < w.heap.size := by
    obtain ⟨cs', h1, _⟩ := hXs ⟨0, h0⟩
    have := World.cells?_block h1 (by rw [hR.size]; exact hsz)
    simpa [Addr.add] using this
  refine ⟨b, off, rfl, rfl, hb, fun i u hu => ?_⟩
  have hi : i < len * E.size := by
    have := (List.getElem?_eq_some_iff.1 hu).1
    rw [flat_len, hlen] at this; exact this
  have hk : i / E.size < len := Nat.div_lt_of_lt_mul (by rw [Nat.mul_comm]; exact hi)
  have hj : i % E.size < E.size := Nat.mod_lt _ hsz
  have hij : i / E.size * E.size + i % E.size = i := by rw [Nat.mul_comm]; exact Nat.div_add_mod i E.size
  have hu2 := hu
  rw [← hij, flat_get E _ _ _ (by rw [hlen]; exact hk) hj, List.getElem?_ofFn, dif_pos hk] at hu2
  obtain ⟨v, hv, hd⟩ := hcell ⟨i / E.size, hk⟩ (i % E.size) u hu2
  refine ⟨v, ?_, hd⟩
  rw [← Go.WideShapes.add_plain]
  rw [hij] at hv
  exact hv
theorem rd_struct2 {f0 f1 : Field} (hs : P.underlying t = some (.struct #[f0, f1])) (hC : P.cellsOf t = 2) (h0 : f0.offset = 0 ∧ P.cellsOf f0.type = 1) (h1 : f1.offset = 1 ∧ P.cellsOf f1.type = 1) (h : DataW.trod enc P w base (fun _ => true) held n t cs = some y) :
    ∃ c0 c1 y0 y1 m, cs = [c0, c1] ∧ DataW.trod enc P w base (fun _ => true) held m f0.type [c0] = some y0 ∧ DataW.trod enc P w base (fun _ => true) held m f1.type [c1] = some y1 := by
  obtain ⟨y0, y1, m, _, hl, g0, g1⟩ := Go.ChangeShapes.trod_struct2 hs h
  rw [hC] at hl
  match cs, hl with
  | [c0, c1], _ =>
    rw [h0.1, h0.2] at g0
    rw [h1.1, h1.2] at g1
    exact ⟨c0, c1, y0, y1, m, rfl, g0, g1⟩
theorem rd_int {k : IntKind} {c : Value} (ht : P.underlying t = some (.int k)) (h : DataW.trod enc P w base (fun _ => true) held n t [c] = some y) : ∃ i, c = .int k i := by
  obtain ⟨i, e, _⟩ := DataW.trod_int ht h
  exact ⟨i, by simpa using e⟩
theorem rd_sl1 {c : Value} (hR : Rd P e E) (ht : P.underlying t = some (.slice e)) (h : DataW.trod enc P w base (fun _ => true) held n t [c] = some y) : ∃ xs, (Ty.sl E xs).den w pubs c := by
  obtain ⟨v, xs, e, hd⟩ := rd_sl hR ht h
  exact ⟨xs, by rw [show c = v by simpa using e]; exact hd⟩
end
section
variable {w w' : World} {S K : Nat → Prop} {M' : Tags}
theorem le_block (le : Le S K w pubs w' M') {b : Nat} (hb : b < w.heap.size) : w'.heap[b]? = w.heap[b]? := (le.pub b hb rfl).2
theorem le_same (le : Le S K w pubs w' M') {p : MemPlace} (hp : p.block < w.heap.size) : w.sameAt w' p := by
  cases p with
  | cell b o => exact World.cell?_of_block (w := w) (le_block le hp)
  | map b => exact le_block le hp
theorem le_kept (le : Le S K w pubs w' M') (may : MemPlace → Prop) : w.keptBut w' may := by
  refine ⟨le.os, le.out, fun i hi => ?_⟩
  have e := le_block le hi
  rw [e]
  split
  · rename_i h1 h2
    rw [h1] at h2
    simp only [Option.some.injEq, Obj.cells.injEq] at h2
    obtain ⟨rfl, rfl, rfl⟩ := h2
    exact ⟨rfl, rfl, rfl, fun _ _ => rfl⟩
  · rename_i h1 h2
    rw [h1] at h2
    simp only [Option.some.injEq, Obj.map.injEq] at h2
    exact Or.inr ⟨h2.1.symm, h2.2.symm⟩
  · rfl
theorem le_frozen (le : Le S K w pubs w' M') {a : Addr} (ha : a.block < w.heap.size) : w'.frozen? a = w.frozen? a := by
  unfold World.frozen?
  rw [le_block le ha]
end
section
variable {H : Type} {enc : TypeId × Value → H} {P : Program}
theorem trodAll_stays (hl : laidOutB P = true) {w w' : World} {sp : Nat → Bool} : ∀ {ts : List TypeId} {vs : List Value} {ds : List (DataW H)} {ps : List MemPlace}, (∀ t ∈ ts, P.readableRec t = true ∧ t < P.types.size) →
    DataW.TrodAll enc P w 0 (fun _ => true) true ts vs ds ps → (∀ p ∈ ps, w.sameAt w' p) → (∀ p ∈ ps, sp p.block = true) → DataW.TrodAll enc P w' 0 sp true ts vs ds ps
  | [], [], [], _, _, h, _, _ => h
  | t :: ts, v :: vs, d :: ds, _, ht, ⟨p, q, h1, h2, e⟩, hs, hsp => by
    subst e
    have h0 := ht t List.mem_cons_self
    exact ⟨p, q, Go.WideElems.Trod_stays hl h0.1 h0.2 h1 (fun x hx => hs x (List.mem_append_left _ hx)) (fun x hx => hsp x (List.mem_append_left _ hx)),
      trodAll_stays hl (fun t h => ht t (List.mem_cons_of_mem _ h)) h2 (fun x hx => hs x (List.mem_append_right _ hx)) (fun x hx => hsp x (List.mem_append_right _ hx)), rfl⟩
theorem post_true {f : Func} {s : ChangeSpec} {apart fresh handsOn again : Bool} {W W' : World} {args : Array Value} {ds : List (DataW H)} {before : List MemPlace} {S K : Nat → Prop} {M' : Tags}
    (hl : laidOutB P = true) (hv : s.vars = []) (hrd : ∀ t ∈ f.params.toList, P.readableRec t = true ∧ t < P.types.size) {tb : TypeId} (htb : P.underlying tb = some .bool) (hrt : f.resultTypes = #[tb])
    (hW : DataW.Whole enc P f.params.toList s.vars apart W args.toList ds [] before) (hres : (s.fn H (ds ++ [])).results = [.lit (.bool true)]) (hargs : (s.fn H (ds ++ [])).args = ds) (hvars : (s.fn H (ds ++ [])).vars = [])
    (le : Le S K W pubs W' M') : s.post enc P f apart fresh handsOn again W args (.bool true) W' := by
  have hW0 := hW
  obtain ⟨p, q, hA, hV, hb, hfz, hn⟩ := hW0
  have hlt := DataW.TrodAll.lt hA
  have hq : q = [] := by rw [hv] at hV; exact (trodVars_none hV).2
  subst hq
  have hbp : before = p := by rw [hb]; simp
  have hre : ∀ (b : Nat) (sp : Nat → Bool) (hd : Bool), DataW.TrodAll enc P W' b sp hd f.resultTypes.toList ((Value.bool true).resultList f.resultTypes.size) (s.fn H (ds ++ [])).results [] := fun b sp hd => by
    rw [hrt, hres]; exact trodAll_mk1 (shut_bool htb true)
  have har : ∀ sp : Nat → Bool, (∀ x ∈ p, sp x.block = true) → DataW.TrodAll enc P W' 0 sp true f.params.toList args.toList (s.fn H (ds ++ [])).args p := fun sp hsp => by
    rw [hargs]; exact trodAll_stays hl hrd hA (fun x hx => le_same le (hlt x hx)) hsp
  have hva : ∀ sp : Nat → Bool, DataW.TrodVars enc P W' sp s.vars (s.fn H (ds ++ [])).vars [] := fun sp => by
    rw [hvars, hv]; exact rfl
  have hok : ∀ (j : Nat) (t : TypeId) (r : Value), f.resultTypes[j]? = some t → ((Value.bool true).resultList f.resultTypes.size)[j]? = some r → Value.okWide P W' .any 0 t r := by
    exact ok_one (by rw [hrt]) rfl (okWide_bool_mk htb true)
  refine ⟨ds, [], before, [], p, [], hW, hre _ _ _, har _ (fun x hx => by simpa using hlt x hx), hva _, World.keptBut_mono (fun x hx => hx) (le_kept le _), fun _ => ?_⟩
  refine ⟨hok, _, _, ([] ++ p) ++ [], ⟨[] ++ p, [], trodAll_append (har _ (fun _ _ => rfl)) (hre _ _ _), hva _, rfl, ?_, ?_⟩, ?_⟩
  · intro b off hp
    have hp' : MemPlace.cell b off ∈ p := by simpa using hp
    rw [le_frozen le (hlt _ hp')]
    exact hfz b off (by rw [hbp]; exact hp')
  · intro ha
    have := hn ha
    rw [hbp] at this
    simpa using this
  · intro x hx _
    rw [hbp]
    simpa using hx
end
end Go.T

namespace Go.Proofs.YtjjndkenddigiaaDoor
open Go Go.T Go.RowKit Go.ChangeShapes Go.WideShapes Go.ChangeAt
abbrev laidL : List (String × DataW Unit) := [("math/bits.deBruijn32tab", Rows.laid_math_bits_deBruijn32tab), ("math/bits.deBruijn64tab", Rows.laid_math_bits_deBruijn64tab), ("internal/strconv.uint64pow10", Rows.laid_internal_strconv_uint64pow10)]
theorem gPow : Tryd.prog.globalNamed "internal/strconv.uint64pow10" = some 0 := by kernel_rfl
theorem tPow : (Tryd.prog.globals[0]?).map (·.type) = some 173 := by kernel_rfl
theorem uPow : Tryd.prog.underlying 173 = some (.array 20 163) := by kernel_rfl
theorem uPowE : Tryd.prog.underlying 163 = some (.int .u64) := by kernel_rfl
theorem arr_cells {H : Type} {enc : TypeId × Value → H} {W : World} {base : Nat} {spare : Nat → Bool} {held : Bool} {m n t : Nat} {k : IntKind} {cs : List Value} {xs : List (DataW H × List MemPlace)} {zs : List Int} (hE : Tryd.prog.underlying t = some (.int k)) (hc : Tryd.prog.cellsOf t = 1) (hlen : cs.length = n) (hxl : xs.length = n) (hzl : zs.length = n)
    (hel : ∀ i, i < n → DataW.trod enc Tryd.prog W base spare held m t ((cs.drop (i * Tryd.prog.cellsOf t)).take (Tryd.prog.cellsOf t)) = xs[i]?) (hx : xs.map (·.1) = zs.map fun z => .lit (.int k z)) : cs = zs.map fun z => .int k z := by
  apply List.ext_getElem (by simp [hlen, hzl])
  intro i h1 h2
  have hi : i < n := by omega
  have h := hel i hi
  rw [hc, Nat.mul_one, List.drop_eq_getElem_cons h1, List.take_succ_cons, List.take_zero, List.getElem?_eq_getElem (by omega)] at h
  obtain ⟨z, e1, e2, _⟩ := DataW.trod_int hE h
  have e3 : (xs.map (·.1))[i]? = some (.lit (.int k z)) := by rw [List.getElem?_map, List.getElem?_eq_getElem (by omega), e2]; rfl
  rw [hx, List.getElem?_map, List.getElem?_eq_getElem (by omega)] at e3
  simp only [Option.map_some, Option.some.injEq, DataW.lit.injEq, Lit.int.injEq, true_and] at e3
  have e4 : cs[i] = .int k z := by injection e1
  rw [e4, List.getElem_map, e3]
set_option maxRecDepth 100000 in
theorem amb_of {W : World} (h : laidMetH Tryd.prog laidL W) : Amb W pubs := by
  rw [MakeChecks.laidMetH_plain _ _ _ (by kernel_rfl)] at h
  obtain ⟨ps, ⟨_, _, _, _, _, _, _, _, _, _, ⟨_, _, _, _, _, _, _, _, _, _, ⟨g, t, cs, fu, p, q, hg, ht, hv, hd, _, _⟩, _⟩, _⟩, _⟩ := h
  obtain rfl := Option.some.inj (gPow.symm.trans hg)
  obtain rfl := Option.some.inj (tPow.symm.trans ht)
  obtain ⟨xs, m, _, hx, hlen, hn, hel⟩ := DataW.trod_array uPow hd
  have hE : Tryd.prog.cellsOf 163 = 1 := by kernel_rfl
  have hA : Tryd.prog.cellsOf 173 = 20 := by kernel_rfl
  simp only [Prod.mk.injEq] at hx
  have hcs : cs.toList = Lib.pow10Tab.map fun z => Value.int .u64 z := arr_cells uPowE hE (hlen.trans hA) hn rfl hel (by
    have h1 := hx.1
    injection h1 with h1
    exact h1.symm)
  intro x hx
  rw [List.mem_singleton.1 hx]
  refine ⟨rfl, ?_⟩
  simp only [World.var?, gPow, Option.bind_some] at hv
  split at hv
  · rename_i c T z hh
    injection hv with hv
    subst hv
    refine ⟨T, z, ?_⟩
    rw [hh]
    congr 2
    rw [← hcs]
  · cases hv
set_option maxRecDepth 100000 in
theorem door_met (os : Os) (args : Array Value) : laidMetH Tryd.prog laidL ((World.doorLaid Tryd.prog 2000 os).forCall (fun _ _ => 0) ⟨#[], args, []⟩).memory :=
  laidMetH_of_parts3 (fuel := 40) (laidMet_of_run' 40 (by kernel_rfl) (by kernel_rfl)) (by kernel_rfl) (by kernel_rfl)
def RI : Type := {n : Int // -9223372036854775808 ≤ n ∧ n ≤ 9223372036854775807}
def RIE : El RI := El.mk' 1 (fun x => [Ty.int .i64 x.1]) (fun _ => rfl) (fun _ => ⟨rfl, rfl, rfl⟩)
theorem rdRI : Rd Tryd.prog 3 RIE := ⟨by kernel_rfl, by decide, fun h => by
  obtain ⟨i, rfl, _, hw⟩ := DataW.trod_int Tryd.underlying3 h
  refine ⟨⟨i, ?_⟩, rfl, trivial⟩
  simp only [Lit.wf, Bool.and_eq_true, decide_eq_true_eq] at hw
  have e1 : IntKind.i64.min = -9223372036854775808 := rfl
  have e2 : IntKind.i64.max = 9223372036854775807 := rfl
  omega⟩
theorem sl_map {α β : Type} {E : El α} {E' : El β} (f : α → β) (hE : ∀ x, E.tys x = E'.tys (f x)) {xs : List α} {w : World} {M : Tags} {v : Value} (h : (Ty.sl E xs).den w M v) : (Ty.sl E' (xs.map f)).den w M v := by
  obtain ⟨A, c, e, h1, h2, h3⟩ := h
  have e1 : (xs.map f).flatMap E'.tys = xs.flatMap E.tys := by
    rw [List.flatMap_map]
    congr 1
    funext x
    exact (hE x).symm
  refine ⟨A, c, by rw [List.length_map]; exact e, by rw [List.length_map]; exact h1, h2, fun h0 => ?_⟩
  rw [List.length_map] at h0
  rw [e1]; exact h3 h0
theorem ri_rng (xs : List RI) : Rng (xs.map Subtype.val) := by
  intro x hx
  obtain ⟨y, _, rfl⟩ := List.mem_map.1 hx
  exact y.2
def RRow : Type := {r : BRow // Rng r.nums}
def RRowE : El RRow := El.mk' 2 (fun x => BRowE.tys x.1) (fun _ => rfl) (fun _ => ⟨rfl, rfl, rfl⟩)
theorem rdBool1 {H : Type} {enc : TypeId × Value → H} {w : World} {base n : Nat} {held : Bool} {c : Value} {y : DataW H × List MemPlace} (h : DataW.trod enc Tryd.prog w base (fun _ => true) held n 4 [c] = some y) : ∃ b : Bool, c = .bool b := by
  obtain ⟨b, e, _⟩ := DataW.trod_bool Tryd.underlying4 h
  exact ⟨b, by simpa using e⟩
theorem rdRow : Rd Tryd.prog 86 RRowE := ⟨by kernel_rfl, by decide, fun h => by
  obtain ⟨c0, c1, y0, y1, m, rfl, h0, h1⟩ := rd_struct2 Tryd.underlying86 (by kernel_rfl) ⟨rfl, by kernel_rfl⟩ ⟨rfl, by kernel_rfl⟩ h
  obtain ⟨xs, hd⟩ := rd_sl1 rdRI Tryd.underlying22 h0
  obtain ⟨b, rfl⟩ := rdBool1 h1
  exact ⟨⟨⟨xs.map Subtype.val, b⟩, ri_rng xs⟩, sl_map (E' := I64) Subtype.val (fun _ => rfl) hd, rfl, trivial⟩⟩
def FrmE : El BForm := El.mk' 2 frmTys (fun _ => rfl) (fun _ => ⟨rfl, rfl, rfl⟩)
theorem of24 : Tryd.prog.cellsOf 24 = 2 := by kernel_rfl
theorem of28 : Tryd.prog.cellsOf 28 = 1 := by kernel_rfl
theorem of30 : Tryd.prog.cellsOf 30 = 3 := by kernel_rfl
theorem rdFrm : Rd Tryd.prog 24 FrmE := ⟨of24, by decide, fun h => by
  obtain ⟨c0, c1, y0, y1, m, rfl, h0, h1⟩ := rd_struct2 Tryd.underlying24 (by kernel_rfl) ⟨rfl, by kernel_rfl⟩ ⟨rfl, by kernel_rfl⟩ h
  obtain ⟨ws, hd⟩ := rd_sl1 rdRI Tryd.underlying22 h0
  obtain ⟨l, rfl⟩ := rd_int Tryd.underlying3 h1
  exact ⟨⟨ws.map Subtype.val, l⟩, sl_map (E' := I64) Subtype.val (fun _ => rfl) hd, rfl, trivial⟩⟩
def RBok : Type := {b : Book // ∀ r ∈ b.rows, Rng r.nums}
def RBokE : El RBok := El.mk' 3 (fun x => bokTys x.1) (fun _ => rfl) (fun _ => ⟨rfl, rfl, rfl⟩)
set_option maxRecDepth 100000 in
theorem rdBok : Rd Tryd.prog 30 RBokE := ⟨of30, by decide, fun {_ _ _ _ _ _ cs _} h => by
  obtain ⟨y0, y1, m, _, hl, g0, g1⟩ := Go.ChangeShapes.trod_struct2 Tryd.underlying30 h
  rw [of30] at hl
  match cs, hl with
  | [c0, c1, c2], _ =>
    simp only [of24, of28] at g0 g1
    obtain ⟨f, hf⟩ := rdFrm.rd (cs := [c0, c1]) g0
    obtain ⟨rs, e2⟩ := rd_sl1 (c := c2) rdRow Tryd.underlying28 g1
    exact ⟨⟨⟨f, rs.map Subtype.val⟩, fun r hr => by
      obtain ⟨y, _, rfl⟩ := List.mem_map.1 hr
      exact y.2⟩, hf.1, hf.2.1, sl_map (E' := BRowE) Subtype.val (fun _ => rfl) e2, trivial⟩⟩
section
variable {H : Type} {enc : TypeId × Value → H} {W : World} {base : Nat} {held : Bool} {v : Value} {d : DataW H} {p : List MemPlace}
set_option maxRecDepth 100000 in
theorem rd_bok (hv : Value.okWide Tryd.prog W .any base 30 v) (h : DataW.Trod enc Tryd.prog W 0 (fun _ => true) held 30 v d p) : ∃ b : Book, (∀ r ∈ b.rows, Rng r.nums) ∧ (bokT b).den W pubs v := by
  obtain ⟨cs, rfl, hsz⟩ := okWide_struct Tryd.underlying30 hv
  obtain ⟨fuel, hf⟩ := h
  obtain ⟨x, hx⟩ := rdBok.rd (cs := cs.toList) (by simpa [Value.cells] using hf)
  exact ⟨x.1, x.2, _, rfl, hx⟩
end
end Go.Proofs.YtjjndkenddigiaaDoor
