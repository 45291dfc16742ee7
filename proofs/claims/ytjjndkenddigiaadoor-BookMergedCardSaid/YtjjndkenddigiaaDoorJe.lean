/- Lemmas: the program and the reference walked, plain laws. -/
import Derived.Test.YtjjndkenddigiaaDoorJd
namespace Go.Proofs.YtjjndkenddigiaaDoor
open Go Go.T
def TxtB (x : UInt8) : Prop := x ≠ 63 ∧ x.toNat < 128
theorem txt_fld {x : UInt8} (h : FldB x) : TxtB x := by
  refine ⟨fun e => ?_, fldB_low h⟩
  subst e
  rcases h with h | h
  · exact absurd h (by decide)
  · exact absurd h.2 (by decide)
theorem txt_row {f : BForm} (hf : FormOk f) {r : BRow} (hr : RowOk f r) : ∀ x ∈ rowB f r, TxtB x := by
  rw [rowB_cols]
  have cols : ∀ (k c : Nat), c + k ≤ f.widths.length → ∀ x ∈ colsB f r c k, TxtB x := by
    intro k
    induction k with
    | zero => intro c _ x hx; cases hx
    | succ k ih =>
      intro c hc x hx
      rw [colsB] at hx
      rcases List.mem_append.1 hx with h | h
      · exact txt_fld (fldAt_fld hf hr (by omega) x h)
      · rcases List.mem_cons.1 h with rfl | h
        · exact ⟨by decide, by decide⟩
        · exact ih (c + 1) (by omega) x h
  have hlet : (letB f r).toNat = 97 + (letN f r).toNat % 23 := by
    unfold letB; rw [UInt8.toNat_ofNat']; omega
  intro x hx
  rcases List.mem_cons.1 hx with rfl | hx
  · unfold markB; cases r.struck <;> exact ⟨by decide, by decide⟩
  · rcases List.mem_append.1 hx with h | h
    · exact cols _ 0 (by omega) x h
    · simp only [List.mem_cons, List.not_mem_nil, or_false] at h
      rcases h with rfl | rfl
      · refine ⟨fun e => ?_, by omega⟩
        rw [e] at hlet
        have : (63 : UInt8).toNat = 63 := rfl
        omega
      · exact ⟨by decide, by decide⟩
theorem txt_line {f : BForm} (hf : FormOk f) {rows : List BRow} (hr : ∀ r ∈ rows, RowOk f r) (hl : rows.length ≤ 12) : ∀ x ∈ lineB f rows, TxtB x := by
  intro x hx
  unfold lineB at hx
  rcases List.mem_append.1 hx with h | h
  · obtain ⟨l, hl', hx⟩ := List.mem_flatten.1 h
    obtain ⟨c, hc, rfl⟩ := List.mem_map.1 hl'
    have hc := List.mem_range.1 hc
    rcases List.mem_append.1 hx with h | h
    · have hs := sum_small hf hr hl hc
      have hwd := nth_wid hf hc
      exact txt_fld (fldN_fld (by have := ten_le (w := nth f.widths c + 2) (by omega); omega) x h)
    · rw [List.mem_singleton.1 h]; exact ⟨by decide, by decide⟩
  · rw [List.mem_singleton.1 h]; exact ⟨by decide, by decide⟩
theorem good_txt {f : BForm} (hf : FormOk f) {rows R : List BRow} {page : Int} {cl : Bool} {t : Byt} (h : Good f rows page cl t R) : rows.length ≤ 12 → (∀ r ∈ rows, RowOk f r) → ∀ x ∈ t, TxtB x := by
  induction h with
  | fin => intro _ _ x hx; cases hx
  | @row rows R page r t h1 h2 hr _ ih =>
    intro hl hR x hx
    rcases List.mem_append.1 hx with h | h
    · exact txt_row hf hr x h
    · refine ih (by simp; omega) (fun y hy => ?_) x h
      rcases List.mem_append.1 hy with h | h
      · exact hR y h
      · rw [List.mem_singleton.1 h]; exact hr
  | eq _ _ ih =>
    intro hl hR x hx
    rcases List.mem_append.1 hx with h | h
    · rcases List.mem_cons.1 h with rfl | h
      · exact ⟨by decide, by decide⟩
      · exact txt_line hf hR hl x h
    · exact ih hl hR x h
  | plus _ _ _ ih =>
    intro hl hR x hx
    rcases List.mem_append.1 hx with h | h
    · rcases List.mem_cons.1 h with rfl | h
      · exact ⟨by decide, by decide⟩
      · exact txt_line hf hR hl x h
    · exact ih hl hR x h
theorem print_txt {b : Book} (hb : BookOk b) : ∀ x ∈ printB b, TxtB x := good_txt hb.form (print_good hb) (by simp) (fun r h => by cases h)
theorem print_pos {b : Book} (hb : BookOk b) : 0 < (printB b).length := by
  rw [print_prnt hb]
  cases hr : b.rows with
  | nil => simp [prnt]
  | cons r rs =>
    rw [prnt, if_pos (by have := hb.form.l1; omega), rowB_cols]; simp
theorem cut_at {t : Byt} {i : Nat} (h : i < t.length) : t = t.take i ++ nth t i :: t.drop (i + 1) := by
  rw [← drop_nth h, List.take_append_drop]
theorem chg_all {b : Book} (hb : BookOk b) {i : Nat} (hi : i < (printB b).length) : ∃ q, allF b.form ((printB b).take i ++ [63] ++ (printB b).drop (i + 1)) = [(printB b, q)] ∧ q.read = b.rows := by
  have hg := print_good hb
  have ht := print_txt hb
  have hc := cut_at hi
  rw [hc] at hg
  obtain ⟨q, h1, h2⟩ := fil_single hb.form hg (fun x hx => (ht x (by rw [hc]; exact hx)).1)
  refine ⟨q, ?_, h2⟩
  rw [← hc] at h1
  simpa using h1
end Go.Proofs.YtjjndkenddigiaaDoor

namespace Go.Proofs.YtjjndkenddigiaaDoor
open Go Go.T
set_option maxHeartbeats 2000000
theorem tn_0 (s : Sk) (t : Byt) : skN s 2 = (tnP s t 0).1 := rfl
theorem tn_0b (s : Sk) (t : Byt) : skBelow s t.length = (((tnP s t 0).2.2 : Nat) : Int) := (below_nat s _).symm
theorem tn_0c (s : Sk) (t : Byt) : t = (tnP s t 0).2.1 := rfl
theorem tn_s1 {s : Sk} {t : Byt} {k : Nat} (h : skRare (skN (tnP s t k).1 1) 3 = true) : skN (tnP s t k).1 3 = (tnP s t (k + 1)).1 := by rw [tn_yes h]
theorem tn_s2 {s : Sk} {t : Byt} {k : Nat} (h : skRare (skN (tnP s t k).1 1) 3 = false) : skN (tnP s t k).1 2 = (tnP s t (k + 1)).1 := by rw [tn_no (by intro h'; rw [show skNext (tnP s t k).1 = skN (tnP s t k).1 1 from rfl, h] at h'; cases h')]
theorem tn_b1 {s : Sk} {t : Byt} {k : Nat} (h : skRare (skN (tnP s t k).1 1) 3 = true) : skBelow (skN (tnP s t k).1 2) t.length = (((tnP s t (k + 1)).2.2 : Nat) : Int) := by rw [tn_yes h]; exact (below_nat _ _).symm
theorem tn_b2 {s : Sk} {t : Byt} {k : Nat} (h0 : 0 < t.length) (h : skRare (skN (tnP s t k).1 1) 3 = false) : (((tnP s t k).2.2 : Nat) + skAmong (tnP s t k).1 1 12).tmod t.length = (((tnP s t (k + 1)).2.2 : Nat) : Int) := by
  rw [tn_no (by intro h'; rw [show skNext (tnP s t k).1 = skN (tnP s t k).1 1 from rfl, h] at h'; cases h')]
  have h1 := among_bnd (tnP s t k).1 (lo := 1) (hi := 12) (by decide)
  have := tmod_in (a := ((tnP s t k).2.2 : Nat) + skAmong (tnP s t k).1 1 12) (b := t.length) (by omega) (by omega)
  exact (Int.toNat_of_nonneg this.1).symm
theorem tn_c1 {s : Sk} {t : Byt} {k : Nat} : (tnP s t k).2.1.set (tnP s t k).2.2 63 = (tnP s t (k + 1)).2.1 := by
  by_cases hc : skRare (skNext (tnP s t k).1) 3 = true
  · rw [tn_yes hc]
  · rw [tn_no hc]
theorem agr_step {a b : Byt} {k : Nat} (h : ∀ i, i < k → nth b i = 63 ∨ nth b i = nth a i) (hc : (!decide ((((nth b k).toNat : Nat) : Int) = 63) && !decide ((((nth b k).toNat : Nat) : Int) = ((nth a k).toNat : Nat))) = false) : ∀ i, i < k + 1 → nth b i = 63 ∨ nth b i = nth a i := by
  intro i hi
  by_cases e : i < k
  · exact h i e
  · obtain rfl : i = k := by omega
    rw [Bool.and_eq_false_iff, Bool.not_eq_false', Bool.not_eq_false', decide_eq_true_eq, decide_eq_true_eq] at hc
    rcases hc with h | h
    · exact .inl (byte_eq (y := 63) h)
    · exact .inr (byte_eq h)
theorem agr_stop {a b : Byt} {k : Nat} (hk : k < a.length) (hc : (!decide ((((nth b k).toNat : Nat) : Int) = 63) && !decide ((((nth b k).toNat : Nat) : Int) = ((nth a k).toNat : Nat))) = true) : agrB a b = false := by
  rw [Bool.and_eq_true, Bool.not_eq_true', Bool.not_eq_true', decide_eq_false_iff_not, decide_eq_false_iff_not] at hc
  exact agr_no2 hk hc.1 hc.2
attribute [local irreducible] skAmong skBelow skRare tnP agrB
attribute [local irreducible] dInt dBool dSl dPp dPtr dAgg dTup dClo dAny dEx dStr dGd dCells dVec dVs dRow dOp nth Tri Into TOps Ctr bodyPost Exit.then Exit.inBlock Code.wp Code.wpIn dPa dArr dMp dMap CtrG keepPost iterPost bodyPostM roundQ
set_option maxRecDepth 100000 in
theorem c_tornS (s : Sk) (hs : s.Ok 20) (t : Byt) (h0 : 0 < t.length) (hl : t.length ≤ 1000000) : CtrG Tryd.prog 18 [1000] [(1000, Cont.cells 90 (skTys s))] [Ty.ptr 1000 0, Ty.str (bs t), Ty.int .i64 4] [(1000, Cont.cells 90 (skTys (tnP s t (tnM s)).1))] (Ty.str (bs (tornV s t))) := by
  refine fnG_intro Tryd.func18 rfl (by decide) Tryd.ntmps18 (by exact Nat.le_of_ble_eq_true rfl) fun w0 M0 => ?_
  have hm := tnM_bnd s
  have hml : maxLen = 9223372036854775807 := rfl
  refine t_seq ?_
  refine t_region ?_
  refine asS' rfl ?_
  refine r_nil ?_
  refine i_then ?_
  refine t_seq ?_
  refine t_region ?_
  refine mvS' rfl ?_
  refine r_convSB rfl rfl rfl rfl rfl Tryd.underlying5 (by omega) rfl ?_
  refine asV rfl ?_
  refine r_nil ?_
  refine i_then ?_
  refine t_seq ?_
  refine t_region ?_
  refine mvO rfl ?_
  refine mvS' rfl ?_
  refine r_lenS rfl rfl rfl ?_
  refine r_callG [(1000, 1000)] [] [(1000, Cont.cells 90 (skTys (skN s 1)))] (c_Below s (skN_ok (k := 0) hs (by omega)) t.length) rfl rfl (by repeat (first | exact cv_nil | refine cv_cons ?_ ?_ | exact cv_ptr List.mem_cons_self | exact cv_pub rfl rfl)) (pre_cons (a := 1000) (b := 1000) (by exact List.mem_cons_self) rfl (cc_cells_eq (by exact List.mem_cons_self) rfl rfl rfl) pre_nil) (post_cons (a := 1000) (b := 1000) (by exact List.mem_cons_self) rfl (cc_cells_eq (by exact List.mem_cons_self) rfl rfl rfl) post_nil) (cv_pub rfl rfl) ?_
  refine asI rfl ?_
  refine r_nil ?_
  refine i_then ?_
  refine t_seq ?_
  refine t_seq ?_
  refine t_region ?_
  refine mvO rfl ?_
  refine mvI rfl ?_
  refine r_callG [(1000, 1000)] [] [(1000, Cont.cells 90 (skTys (skN s 2)))] (c_Among (skN s 1) (skN_ok hs (by omega)) 1 4 (by decide) (by decide)) rfl rfl (by repeat (first | exact cv_nil | refine cv_cons ?_ ?_ | exact cv_ptr List.mem_cons_self | exact cv_pub rfl rfl)) (pre_cons (a := 1000) (b := 1000) (by exact List.mem_cons_self) rfl (cc_cells_eq (by exact List.mem_cons_self) rfl rfl rfl) pre_nil) (post_cons (a := 1000) (b := 1000) (by exact List.mem_cons_self) rfl (cc_cells_eq (by exact List.mem_cons_self) rfl rfl rfl) post_nil) (cv_pub rfl rfl) ?_
  refine mvI rfl ?_
  refine r_nil ?_
  refine i_then ?_
  refine t_block ?_
  refine t_loop (fun (k : {k : Nat // k ≤ tnM s}) => live [(0, Ty.ptr 1000 0), (1, Ty.str (bs t)), (7, Ty.vs 11 t.length), (8, Ty.int .i64 ((tnP s t k.1).2.2 : Nat)), (17, Ty.int .i64 (tnM s : Nat)), (18, Ty.int .i64 (k.1 : Nat))] [(11, Cont.bv 5 (tnP s t k.1).2.1), (1000, Cont.cells 90 (skTys (tnP s t k.1).1))]) (fun k => tnM s - k.1) (⟨0, Nat.zero_le _⟩) ?_ fun k => ?_
  · (refine Ent.mk' ?_ ?_ <;> (repeat' (first | exact allSub_zero | exact allTags_nil | exact subs_nil | refine allSub_succ' ?_ (Ty.sub_any _) | refine allSub_succ' ?_ (Ty.sub_refl _) | refine allTags_cons rfl (Cont.sub_subs ?_) ?_ | refine subs_cons ?_ ?_ | refine allTags_cons rfl ?_ ?_ | refine allSub_succ' ?_ ?_)))
    all_goals first | exact Ty.sub_int hm.2.2.symm | exact Ty.sub_int (tn_0b s t) | exact Cont.sub_bv (tn_0c s t) | exact Ty.sub_int (congrArg Sk.mixed (tn_0 s t)) | exact Ty.sub_int (congrArg Sk.taken (tn_0 s t)) | exact Ty.sub_sl (congrArg Sk.grain (tn_0 s t))
  ·
    have hk := k.2
    have ho := tn_ok (t := t) hs (k := k.1) (by omega)
    have hat := tn_at (s := s) h0 k.1
    have hln := tn_len (s := s) (t := t) k.1
    have hal := among_bnd (tnP s t k.1).1 (lo := 1) (hi := 12) (by decide)
    refine t_seq ?_
    refine t_region ?_
    refine r_bin rfl rfl rfl ?_
    refine r_nil ?_
    refine i_then ?_
    refine t_seq ?_
    refine t_cond_dec rfl (fun hc1 => ?_) (fun hc1 => ?_)
    ·
      refine t_skip ?_
      refine i_then ?_
      refine t_seq ?_
      refine t_block ?_
      refine t_seq ?_
      refine t_region ?_
      refine r_move rfl ?_
      refine mvI rfl ?_
      refine r_index_vs rfl rfl rfl rfl rfl (by omega) ?_
      refine r_store_bv (i := (tnP s t k.1).2.2) (z := 63) rfl (Nat.mul_one _) rfl (by decide) rfl rfl rfl rfl (by rw [hln]; exact hat) ?_
      refine r_nil ?_
      refine i_then ?_
      refine t_seq ?_
      refine t_region ?_
      refine mvI rfl ?_
      refine mvO rfl ?_
      refine r_callG [(1000, 1000)] [] [(1000, Cont.cells 90 (skTys (skN (tnP s t k.1).1 1)))] (c_Among (tnP s t k.1).1 (skN_ok (k := 0) ho (by omega)) 1 12 (by decide) (by decide)) rfl rfl (by repeat (first | exact cv_nil | refine cv_cons ?_ ?_ | exact cv_ptr List.mem_cons_self | exact cv_pub rfl rfl)) (pre_cons (a := 1000) (b := 1000) (by exact List.mem_cons_self) rfl (cc_cells_eq (by exact List.mem_cons_self) rfl rfl rfl) pre_nil) (post_cons (a := 1000) (b := 1000) (by exact List.mem_cons_self) rfl (cc_cells_eq (by exact List.mem_cons_self) rfl rfl rfl) post_nil) (cv_pub rfl rfl) ?_
      refine r_add rfl rfl (by omega) (by omega) ?_
      refine mvS' rfl ?_
      refine r_lenS rfl rfl rfl ?_
      refine r_rem rfl rfl (by omega) ?_
      refine asI rfl ?_
      refine r_nil ?_
      refine i_then ?_
      refine t_seq ?_
      refine t_region ?_
      refine mvO rfl ?_
      refine r_callG [(1000, 1000)] [] [(1000, Cont.cells 90 (skTys (skN (tnP s t k.1).1 2)))] (c_Rare (skN (tnP s t k.1).1 1) (skN_ok ho (by omega)) 3) rfl rfl (by repeat (first | exact cv_nil | refine cv_cons ?_ ?_ | exact cv_ptr List.mem_cons_self | exact cv_pub rfl rfl)) (pre_cons (a := 1000) (b := 1000) (by exact List.mem_cons_self) rfl (cc_cells_eq (by exact List.mem_cons_self) rfl rfl rfl) pre_nil) (post_cons (a := 1000) (b := 1000) (by exact List.mem_cons_self) rfl (cc_cells_eq (by exact List.mem_cons_self) rfl rfl rfl) post_nil) (cv_pub rfl rfl) ?_
      refine r_nil ?_
      refine i_then ?_
      refine t_cond rfl (fun hc2 => ?_) (fun hc2 => ?_)
      ·
        refine t_region ?_
        refine mvO rfl ?_
        refine mvS' rfl ?_
        refine r_lenS rfl rfl rfl ?_
        refine r_callG [(1000, 1000)] [] [(1000, Cont.cells 90 (skTys (skN (tnP s t k.1).1 3)))] (c_Below (skN (tnP s t k.1).1 2) (skN_ok ho (by omega)) t.length) rfl rfl (by repeat (first | exact cv_nil | refine cv_cons ?_ ?_ | exact cv_ptr List.mem_cons_self | exact cv_pub rfl rfl)) (pre_cons (a := 1000) (b := 1000) (by exact List.mem_cons_self) rfl (cc_cells_eq (by exact List.mem_cons_self) rfl rfl rfl) pre_nil) (post_cons (a := 1000) (b := 1000) (by exact List.mem_cons_self) rfl (cc_cells_eq (by exact List.mem_cons_self) rfl rfl rfl) post_nil) (cv_pub rfl rfl) ?_
        refine asI rfl ?_
        refine r_nil ?_
        refine i_block ?_
        refine i_then ?_
        refine t_region ?_
        refine r_add rfl rfl (by omega) (by omega) ?_
        refine mvI rfl ?_
        refine r_nil ?_
        refine i_round (⟨k.1 + 1, by omega⟩) ?_ (by show tnM s - (k.1 + 1) < tnM s - k.1; omega)
        (refine Ent.mk' ?_ ?_ <;> (repeat' (first | exact allSub_zero | exact allTags_nil | exact subs_nil | refine allSub_succ' ?_ (Ty.sub_any _) | refine allSub_succ' ?_ (Ty.sub_refl _) | refine allTags_cons rfl (Cont.sub_subs ?_) ?_ | refine subs_cons ?_ ?_ | refine allTags_cons rfl ?_ ?_ | refine allSub_succ' ?_ ?_)))
        all_goals skip
        all_goals first | exact Cont.sub_bv (tn_c1 (s := s) (t := t) (k := k.1)) | (have hx : skRare (skN (tnP s t k.1).1 1) 3 = true := hc2; first | exact Ty.sub_int (tn_b1 (s := s) (t := t) (k := k.1) hx) | exact Ty.sub_int (congrArg Sk.mixed (tn_s1 (s := s) (t := t) (k := k.1) hx)) | exact Ty.sub_int (congrArg Sk.taken (tn_s1 (s := s) (t := t) (k := k.1) hx)) | exact Ty.sub_sl (congrArg Sk.grain (tn_s1 (s := s) (t := t) (k := k.1) hx)))
      ·
        refine t_skip ?_
        refine i_block ?_
        refine i_then ?_
        refine t_region ?_
        refine r_add rfl rfl (by omega) (by omega) ?_
        refine mvI rfl ?_
        refine r_nil ?_
        refine i_round (⟨k.1 + 1, by omega⟩) ?_ (by show tnM s - (k.1 + 1) < tnM s - k.1; omega)
        (refine Ent.mk' ?_ ?_ <;> (repeat' (first | exact allSub_zero | exact allTags_nil | exact subs_nil | refine allSub_succ' ?_ (Ty.sub_any _) | refine allSub_succ' ?_ (Ty.sub_refl _) | refine allTags_cons rfl (Cont.sub_subs ?_) ?_ | refine subs_cons ?_ ?_ | refine allTags_cons rfl ?_ ?_ | refine allSub_succ' ?_ ?_)))
        all_goals skip
        all_goals first | exact Cont.sub_bv (tn_c1 (s := s) (t := t) (k := k.1)) | (have hx : skRare (skN (tnP s t k.1).1 1) 3 = false := hc2; first | exact Ty.sub_int (tn_b2 (s := s) (t := t) (k := k.1) h0 hx) | exact Ty.sub_int (congrArg Sk.mixed (tn_s2 (s := s) (t := t) (k := k.1) hx)) | exact Ty.sub_int (congrArg Sk.taken (tn_s2 (s := s) (t := t) (k := k.1) hx)) | exact Ty.sub_sl (congrArg Sk.grain (tn_s2 (s := s) (t := t) (k := k.1) hx)))
    ·
      refine t_exit ?_
      refine i_then_exit ?_
      refine i_then_exit ?_
      refine i_block_exit rfl ?_
      refine i_then ?_
      refine t_seq ?_
      have hkm : k.1 = tnM s := by omega
      refine t_region ?_
      refine r_move rfl ?_
      refine r_convBS rfl rfl (by decide) hln.symm rfl rfl rfl rfl Tryd.underlying5 ?_
      refine asS' rfl ?_
      refine r_nil ?_
      refine i_then ?_
      refine t_ret ?_
      refine g_ret1 [1000] rfl rfl (by decide) ?_ ?_
      exact rc_cons rfl (cc_cells_eq (by decide) rfl rfl (by rw [hkm])) rc_nil
      all_goals skip
      exact rg_cv (cv_eq rfl rfl (congrArg (fun n => Ty.str (bs (tnP s t n).2.1)) hkm))
set_option maxRecDepth 100000 in
theorem c_agrees (a b : Byt) (hl : a.length ≤ 1000000) : Ctr Tryd.prog 22 [Ty.str (bs a), Ty.str (bs b)] (Ty.bool (agrB a b)) := by
  refine fn_intro Tryd.func22 rfl (by decide) Tryd.ntmps22 (by exact Nat.le_of_ble_eq_true rfl) fun w0 M0 => ?_
  refine t_seq ?_
  refine t_region ?_
  refine asB rfl ?_
  refine r_nil ?_
  refine i_then ?_
  refine t_seq ?_
  refine t_seq ?_
  refine t_region ?_
  refine mvS' rfl ?_
  refine r_lenS rfl rfl rfl ?_
  refine mvS' rfl ?_
  refine r_lenS rfl rfl rfl ?_
  refine r_bin rfl rfl rfl ?_
  refine r_nil ?_
  refine i_then ?_
  refine t_cond_ndec rfl (fun hc1 => ?_) (fun hc1 => ?_)
  ·
    refine t_seq ?_
    refine t_region ?_
    refine asB rfl ?_
    refine r_nil ?_
    refine i_then ?_
    refine t_ret ?_
    refine i_then_ret ?_
    refine i_rp1 rfl rfl ?_
    all_goals skip
    all_goals exact ret_eq rfl rfl (congrArg Ty.bool (agr_no1 hc1).symm)
  ·
    refine t_skip ?_
    refine i_then ?_
    refine t_seq ?_
    refine t_seq ?_
    refine t_region ?_
    refine mvS' rfl ?_
    refine r_lenS rfl rfl rfl ?_
    refine mvI rfl ?_
    refine r_nil ?_
    refine i_then ?_
    refine t_block ?_
    refine t_loop (fun (k : {k : Nat // k ≤ a.length ∧ ∀ i, i < k → nth b i = 63 ∨ nth b i = nth a i}) => live [(0, Ty.str (bs a)), (1, Ty.str (bs b)), (12, Ty.int .i64 a.length), (13, Ty.int .i64 (k.1 : Nat))] []) (fun k => a.length - k.1) (⟨0, Nat.zero_le _, fun i h => by omega⟩) ?_ fun k => ?_
    · (refine Ent.mk' ?_ ?_ <;> (repeat' (first | exact allSub_zero | exact allTags_nil | refine allSub_succ' ?_ (Ty.sub_any _) | refine allSub_succ' ?_ (Ty.sub_refl _))))
    ·
      have hk := k.2.1
      refine t_seq ?_
      refine t_region ?_
      refine r_bin rfl rfl rfl ?_
      refine r_nil ?_
      refine i_then ?_
      refine t_seq ?_
      refine t_cond_dec rfl (fun hc2 => ?_) (fun hc2 => ?_)
      ·
        refine t_skip ?_
        refine i_then ?_
        refine t_seq ?_
        refine t_block ?_
        refine t_seq ?_
        refine t_region ?_
        refine mvI rfl ?_
        refine asI rfl ?_
        refine r_nil ?_
        refine i_then ?_
        refine t_seq ?_
        refine t_draw mixed rfl ?_
        refine mvS' rfl ?_
        refine mvI rfl ?_
        refine r_idxS rfl rfl rfl rfl (i := k.1) (by omega) ?_
        refine r_bin rfl rfl rfl ?_
        refine mvB rfl ?_
        apply r_guard (s := 20) rfl rfl rfl
        · intro hg; apply opT_of; (refine mvS' rfl ?_); refine r_nil ?_; exact rfl
        · exact rfl
        · exact rfl
        apply r_guard (s := 20) rfl rfl rfl
        · intro hg; apply opT_of; (refine mvI rfl ?_); refine r_nil ?_; exact rfl
        · exact rfl
        · exact rfl
        apply r_guard (s := 20) rfl rfl rfl
        · intro hg; apply opT_strip (s := 21) rfl (by (rw [hg]; rfl)); apply opT_strip (s := 22) rfl (by (rw [hg]; rfl)); apply opT_of; (refine r_idxS rfl rfl rfl rfl (i := k.1) (by omega) ?_); refine r_nil ?_; exact rfl
        · exact rfl
        · exact rfl
        apply r_guard (s := 20) rfl rfl rfl
        · intro hg; apply opT_of; (refine mvS' rfl ?_); refine r_nil ?_; exact rfl
        · exact rfl
        · exact rfl
        apply r_guard (s := 20) rfl rfl rfl
        · intro hg; apply opT_of; (refine mvI rfl ?_); refine r_nil ?_; exact rfl
        · exact rfl
        · exact rfl
        apply r_guard (s := 20) rfl rfl rfl
        · intro hg; apply opT_strip (s := 24) rfl (by (rw [hg]; rfl)); apply opT_strip (s := 25) rfl (by (rw [hg]; rfl)); apply opT_of; (refine r_idxS rfl rfl rfl rfl (i := k.1) (by omega) ?_); refine r_nil ?_; exact rfl
        · exact rfl
        · exact rfl
        apply r_guard (s := 20) rfl rfl rfl
        · intro hg; apply opT_strip (s := 23) rfl (by (rw [hg]; rfl)); apply opT_strip (s := 26) rfl (by (rw [hg]; rfl)); apply opT_of; (refine r_bin rfl rfl rfl ?_); refine r_nil ?_; exact rfl
        · exact rfl
        · exact rfl
        refine r_and rfl rfl ?_
        refine r_nil ?_
        refine ⟨by kernel_rfl, ?_⟩
        refine i_then ?_
        refine t_cond rfl (fun hc3 => ?_) (fun hc3 => ?_)
        ·
          refine t_seq ?_
          refine t_region ?_
          refine asB rfl ?_
          refine r_nil ?_
          refine i_then ?_
          refine t_ret ?_
          refine i_block_ret ?_
          refine i_then_ret ?_
          refine i_then_ret ?_
          refine i_block_ret ?_
          refine i_then_ret ?_
          refine i_rp1 rfl rfl ?_
          all_goals skip
          all_goals exact ret_eq rfl rfl (congrArg Ty.bool (agr_stop (by omega) hc3).symm)
        ·
          refine t_skip ?_
          refine i_block ?_
          refine i_then ?_
          refine t_region ?_
          refine r_add rfl rfl (by omega) (by omega) ?_
          refine mvI rfl ?_
          refine r_nil ?_
          refine i_round (⟨k.1 + 1, by omega, agr_step k.2.2 hc3⟩) ?_ (by show a.length - (k.1 + 1) < a.length - k.1; omega)
          (refine Ent.mk' ?_ ?_ <;> (repeat' (first | exact allSub_zero | exact allTags_nil | refine allSub_succ' ?_ (Ty.sub_any _) | refine allSub_succ' ?_ (Ty.sub_refl _))))
          all_goals skip
      ·
        refine t_exit ?_
        refine i_then_exit ?_
        refine i_then_exit ?_
        refine i_block_exit rfl ?_
        refine i_then ?_
        refine t_seq ?_
        refine t_region ?_
        refine asB rfl ?_
        refine r_nil ?_
        refine i_then ?_
        refine t_ret ?_
        refine i_rp1 rfl rfl ?_
        all_goals skip
        all_goals exact ret_eq rfl rfl (congrArg Ty.bool (agr_yes (by omega) fun i hi => k.2.2 i (by omega)).symm)
end Go.Proofs.YtjjndkenddigiaaDoor

namespace Go.Proofs.YtjjndkenddigiaaDoor
open Go Go.T
end Go.Proofs.YtjjndkenddigiaaDoor

namespace Go.Proofs.YtjjndkenddigiaaDoor
open Go Go.T
set_option maxHeartbeats 4000000
theorem mem_nthI {l : List Int} {x : Int} (h : x ∈ l) : ∃ i, i < l.length ∧ x = nth l i := by
  obtain ⟨i, hi, rfl⟩ := List.getElem_of_mem h
  exact ⟨i, hi, by simp [nth, hi]⟩
theorem rng_of {b : Book} (hb : BookOk b) : ∀ r ∈ b.rows, Rng r.nums := by
  intro r hr x hx
  have ho := hb.row r hr
  obtain ⟨c, hc, rfl⟩ := mem_nthI hx
  have h1 := ho.num c (by rw [← ho.len]; exact hc)
  have h2 := nth_wid hb.form (c := c) (by rw [← ho.len]; exact hc)
  have h3 := ten_le (w := nth b.form.widths c) (by omega)
  omega
theorem printV_ok {b : Book} (hb : BookOk b) : printV b = printB b := by unfold printV; rw [if_pos (bokY_zero.2 hb)]
theorem c_PrintOk {b : Book} (hb : BookOk b) : Ctr Tryd.prog 14 [bokT b] (Ty.tup [Ty.str (bs (printB b)), Ty.int .i64 0]) := by
  have h := c_Print b (rng_of hb)
  rwa [printV_ok hb, bokY_zero.2 hb] at h
theorem fill_200 (g : List Int) : (skFill g).Ok 200 := by have := skFill_ok g; unfold Sk.Ok at *; omega
attribute [local irreducible] parV printB mdB mdF
attribute [local irreducible] dInt dBool dSl dPp dPtr dAgg dTup dClo dAny dEx dStr dGd dCells dVec dVs dRow dOp nth Tri Into TOps Ctr bodyPost Exit.then Exit.inBlock Code.wp Code.wpIn dPa dArr dMp dMap CtrG keepPost iterPost bodyPostM roundQ
end Go.Proofs.YtjjndkenddigiaaDoor

namespace Go.Proofs.YtjjndkenddigiaaDoor
open Go Go.T
theorem torn_chg {t : Byt} (h : ∀ x ∈ t, x ≠ 63) (i : Nat) : tornN (t.take i ++ [63] ++ t.drop (i + 1)) = 1 := by
  unfold tornN
  rw [List.count_append, List.count_append]
  have h1 : (t.take i).count 63 = 0 := List.count_eq_zero.2 fun hm => h 63 (List.mem_of_mem_take hm) rfl
  have h2 : (t.drop (i + 1)).count 63 = 0 := List.count_eq_zero.2 fun hm => h 63 (List.mem_of_mem_drop hm) rfl
  rw [h1, h2]; rfl
end Go.Proofs.YtjjndkenddigiaaDoor

namespace Go.Proofs.YtjjndkenddigiaaDoor
open Go Go.T
set_option maxHeartbeats 4000000
theorem res_chg {b : Book} (hb : BookOk b) {i : Nat} (hi : i < (printB b).length) : resV b.form ((printB b).take i ++ [63] ++ (printB b).drop (i + 1)) = (b, 0) := by
  obtain ⟨q, h1, h2⟩ := chg_all hb hi
  have hln := print_len hb
  have h3 : tornE b.form ((printB b).take i ++ [63] ++ (printB b).drop (i + 1)) = 0 := by
    unfold tornE
    rw [if_neg (fun e => e (frmY_zero.2 hb.form)), if_neg, if_neg]
    · rw [torn_chg fun x hx => (print_txt hb x hx).1]; decide
    · simp only [List.length_append, List.length_take, List.length_drop, List.length_singleton]; omega
  unfold resV
  rw [if_neg (fun e => e h3), h1, if_neg (fun e => by cases e), if_pos (show [(printB b, q)].length = 1 from rfl)]
  unfold resB
  rw [h1, if_neg (fun e => by cases e)]
  show ((⟨b.form, q.read⟩ : Book), (0 : Int)) = (b, 0)
  rw [h2]
theorem c_RestoreIs {f : BForm} {t : Byt} {q : Book} {y : Int} (h : resV f t = (q, y)) : Ctr Tryd.prog 21 [frmT f, Ty.str (bs t)] (Ty.tup [bokT q, Ty.int .i64 y]) := by
  have h2 := c_Restore f t
  rwa [h] at h2
attribute [local irreducible] parV printB mdB mdF resV
attribute [local irreducible] dInt dBool dSl dPp dPtr dAgg dTup dClo dAny dEx dStr dGd dCells dVec dVs dRow dOp nth Tri Into TOps Ctr bodyPost Exit.then Exit.inBlock Code.wp Code.wpIn dPa dArr dMp dMap CtrG keepPost iterPost bodyPostM roundQ
end Go.Proofs.YtjjndkenddigiaaDoor

namespace Go.Proofs.YtjjndkenddigiaaDoor
open Go Go.T
theorem ext_nth {a b : Byt} (h : a.length = b.length) (h2 : ∀ i, i < a.length → nth a i = nth b i) : a = b := by
  apply List.ext_getElem h
  intro i h3 h4
  have := h2 i h3
  simpa [nth, h3, h4] using this
theorem chg_nth {t : Byt} {i : Nat} (hi : i < t.length) (d : UInt8) {k : Nat} (hk : k < t.length) : nth (t.take i ++ [d] ++ t.drop (i + 1)) k = if k = i then d else nth t k := by
  unfold nth
  rw [List.getD_eq_getElem?_getD, List.getD_eq_getElem?_getD]
  have hl : (t.take i).length = i := by rw [List.length_take]; omega
  rcases Nat.lt_trichotomy k i with h | h | h
  · rw [if_neg (by omega), List.append_assoc, List.getElem?_append_left (by omega), List.getElem?_take, if_pos h]
  · subst h
    rw [if_pos rfl, List.append_assoc, List.getElem?_append_right (by omega), hl, Nat.sub_self]; rfl
  · rw [if_neg (by omega), List.getElem?_append_right (by simp; omega)]
    rw [List.getElem?_drop]
    congr 2
    simp; omega
theorem chg_len {t : Byt} {i : Nat} (hi : i < t.length) (d : UInt8) : (t.take i ++ [d] ++ t.drop (i + 1)).length = t.length := by
  simp only [List.length_append, List.length_take, List.length_drop, List.length_singleton]; omega
theorem tear_one {t : Byt} {i : Nat} (hi : i < t.length) (hl : t.length ≤ 65536) : tearV t [(i : Int)] = (t.take i ++ [63] ++ t.drop (i + 1), 0) := by
  have h1 : offL t [(i : Int)] = false := by
    unfold offL offB; simp; omega
  rw [te4 (by omega) h1 (by simp)]
  congr 1
  refine ext_nth (by rw [tearB_len, chg_len hi]) fun k hk => ?_
  rw [tearB_len] at hk
  rw [tearB_at hk, chg_nth hi _ hk]
  by_cases e : k = i
  · rw [if_pos e, if_pos (by rw [e]; exact List.mem_singleton.2 rfl)]
  · rw [if_neg e, if_neg (by rw [List.mem_singleton]; omega)]
end Go.Proofs.YtjjndkenddigiaaDoor

namespace Go.Proofs.YtjjndkenddigiaaDoor
open Go Go.T
set_option maxHeartbeats 4000000
theorem mrg_nth {a c : Byt} {n k : Nat} (h : k < n) : nth (mrgL a c n) k = mrgB a c k := by unfold mrgL; simp [nth, h]
theorem mrgB_comm (a c : Byt) (k : Nat) : mrgB a c k = mrgB c a k := by
  unfold mrgB
  by_cases h1 : nth a k = nth c k
  · rw [if_pos (.inl h1), if_pos (.inl h1.symm), h1]
  · by_cases h2 : nth c k = 63
    · rw [if_pos (.inr h2)]
      by_cases h3 : nth a k = 63
      · exact absurd (h3.trans h2.symm) h1
      · rw [if_neg (by rintro (h | h); exact h1 h.symm; exact h3 h), if_pos h2]
    · by_cases h3 : nth a k = 63
      · rw [if_neg (by rintro (h | h); exact h1 h; exact h2 h), if_pos h3, if_pos (.inr h3)]
      · rw [if_neg (by rintro (h | h); exact h1 h; exact h2 h), if_neg h3, if_neg (by rintro (h | h); exact h1 h.symm; exact h3 h), if_neg h2]
theorem mrgB_63 {a c : Byt} {k : Nat} : mrgB a c k = 63 ↔ nth a k = 63 ∧ nth c k = 63 ∨ (nth a k ≠ nth c k ∧ nth a k ≠ 63 ∧ nth c k ≠ 63) := by
  unfold mrgB
  by_cases h1 : nth a k = nth c k
  · rw [if_pos (.inl h1)]
    constructor
    · exact fun h => .inl ⟨h, h1 ▸ h⟩
    · rintro (h | h)
      · exact h.1
      · exact absurd h1 h.1
  · by_cases h2 : nth c k = 63
    · rw [if_pos (.inr h2)]
      constructor
      · exact fun h => .inl ⟨h, h2⟩
      · rintro (h | h)
        · exact h.1
        · exact absurd h2 h.2.2
    · by_cases h3 : nth a k = 63
      · rw [if_neg (by rintro (h | h); exact h1 h; exact h2 h), if_pos h3]
        constructor
        · exact fun h => absurd h h2
        · rintro (h | h)
          · exact h.2
          · exact absurd h3 h.2.1
      · rw [if_neg (by rintro (h | h); exact h1 h; exact h2 h), if_neg h3]
        exact ⟨fun _ => .inr ⟨h1, h3, h2⟩, fun _ => rfl⟩
theorem mrg_is {a c : Byt} (hl : a.length ≤ 65536) (h : c.length = a.length) : mrgV a c = (mrgL a c a.length, 0) := by
  unfold mrgV; rw [if_neg (by omega), if_neg (by omega)]
theorem mrg_is2 {a c : Byt} (hl : a.length ≤ 65536) (h : c.length = a.length) : mrgV c a = (mrgL a c a.length, 0) := by
  rw [mrg_is (by omega) h.symm, h]
  congr 1
  unfold mrgL
  exact List.map_congr_left fun k _ => mrgB_comm c a k
theorem mrg_t {t : Byt} (ht : ∀ x ∈ t, x ≠ 63) {s1 s2 : Sk} {k : Nat} (hk : k < t.length) : (mrgB (tornV s1 t) (tornV s2 t) k = 63 ∨ mrgB (tornV s1 t) (tornV s2 t) k = nth t k) ∧ (mrgB (tornV s1 t) (tornV s2 t) k = 63 ↔ nth (tornV s1 t) k = 63 ∧ nth (tornV s2 t) k = 63) := by
  have h1 := tornV_agr (s := s1) (by omega : 0 < t.length) k
  have h2 := tornV_agr (s := s2) (by omega : 0 < t.length) k
  have h3 : nth t k ≠ 63 := ht _ (nth_mem hk)
  refine ⟨?_, ?_⟩
  · unfold mrgB
    split
    · exact h1
    · split
      · exact h2
      · exact .inl rfl
  · rw [mrgB_63]
    constructor
    · rintro (h | ⟨h, h4, h5⟩)
      · exact h
      · exact absurd ((h1.resolve_left h4).trans (h2.resolve_left h5).symm) h
    · exact .inl
theorem mrg_agr {t : Byt} (ht : ∀ x ∈ t, x ≠ 63) (s1 s2 : Sk) : agrB t (mrgL (tornV s1 t) (tornV s2 t) t.length) = true := by
  refine agr_yes (mrg_len _ _ _).symm fun i hi => ?_
  rw [mrg_nth hi]
  exact (mrg_t ht hi).1
theorem mrg_chg {t : Byt} (ht : ∀ x ∈ t, x ≠ 63) (hl : t.length ≤ 65536) {i : Nat} (hi : i < t.length) {d : UInt8} (hd : d ≠ nth t i) (hd2 : d ≠ 63) : mrgV t (t.take i ++ [d] ++ t.drop (i + 1)) = (t.take i ++ [63] ++ t.drop (i + 1), 0) := by
  rw [mrg_is hl (chg_len hi d)]
  congr 1
  refine ext_nth (by rw [mrg_len, chg_len hi]) fun k hk => ?_
  rw [mrg_len] at hk
  rw [mrg_nth hk, chg_nth hi _ hk]
  unfold mrgB
  rw [chg_nth hi _ hk]
  have h3 : nth t k ≠ 63 := ht _ (nth_mem hk)
  by_cases e : k = i
  · rw [if_pos e, if_pos e, if_neg (by rintro (h | h); exact hd (by rw [← h, e]); exact hd2 h), if_neg h3]
  · rw [if_neg e, if_neg e, if_pos (.inl rfl)]
theorem c_MergeIs {a c m : Byt} (h : mrgV a c = (m, 0)) : Ctr Tryd.prog 35 [Ty.str (bs a), Ty.str (bs c)] (Ty.tup [Ty.str (bs m), Ty.int .i64 0]) := by
  have h2 := c_Merge a c
  rwa [h] at h2
theorem c_TearIs {t u : Byt} {i : Int} (h : tearV t [i] = (u, 0)) : Ctr Tryd.prog 34 [Ty.str (bs t), Ty.sl I64 [i]] (Ty.tup [Ty.str (bs u), Ty.int .i64 0]) := by
  have h2 := c_Tear t [i] (by simp)
  rwa [h] at h2
theorem c_agreesIs {t m : Byt} (hl : t.length ≤ 1000000) (h : agrB t m = true) : Ctr Tryd.prog 22 [Ty.str (bs t), Ty.str (bs m)] (Ty.bool true) := by
  have h2 := c_agrees t m hl
  rwa [h] at h2
def mgZ (t : Byt) (i : Nat) (v : Int) : Int := if 48 + v.tmod 10 = ((nth t i).toNat : Nat) then 120 else 48 + v.tmod 10
theorem mgZ_yes {t : Byt} {i : Nat} {v : Int} (h : 48 + v.tmod 10 = ((nth t i).toNat : Nat)) : (120 : Int) = mgZ t i v := (if_pos h).symm
theorem mgZ_no {t : Byt} {i : Nat} {v : Int} (h : ¬ 48 + v.tmod 10 = ((nth t i).toNat : Nat)) : 48 + v.tmod 10 = mgZ t i v := (if_neg h).symm
theorem mgZ_bnd (t : Byt) (i : Nat) {v : Int} (hv : 0 ≤ v) : 48 ≤ mgZ t i v ∧ mgZ t i v ≤ 120 ∧ mgZ t i v ≠ 63 := by
  have := tmod_in (a := v) (b := 10) hv (by decide)
  unfold mgZ; split <;> omega
theorem mgZ_ne (t : Byt) (i : Nat) {v : Int} (hv : 0 ≤ v) : UInt8.ofNat (mgZ t i v).toNat ≠ nth t i ∧ UInt8.ofNat (mgZ t i v).toNat ≠ 63 := by
  have hb := mgZ_bnd t i hv
  have hm := tmod_in (a := v) (b := 10) hv (by decide)
  constructor
  · intro e
    have e2 := congrArg UInt8.toNat e
    rw [UInt8.toNat_ofNat'] at e2
    unfold mgZ at hb e2
    split at e2
    · omega
    · rename_i h; rw [if_neg h] at hb; omega
  · intro e
    have e2 := congrArg UInt8.toNat e
    rw [UInt8.toNat_ofNat', show (63 : UInt8).toNat = 63 from rfl] at e2
    omega
theorem mrg_no {t : Byt} (ht : ∀ x ∈ t, x ≠ 63) {s1 s2 : Sk} {k : Nat} (hk : k < t.length) (hc : ¬ decide ((((nth (mrgL (tornV s1 t) (tornV s2 t) t.length) k).toNat : Nat) : Int) = 63) = (decide ((((nth (tornV s1 t) k).toNat : Nat) : Int) = 63) && decide ((((nth (tornV s2 t) k).toNat : Nat) : Int) = 63))) : False := by
  have h := (mrg_t (s1 := s1) (s2 := s2) ht hk).2
  have e : ∀ x : UInt8, decide (((x.toNat : Nat) : Int) = 63) = decide (x = 63) := fun x => by
    rw [decide_eq_decide]; exact ⟨fun h => byte_eq (y := 63) h, fun h => by rw [h]; rfl⟩
  rw [mrg_nth hk, e, e, e] at hc
  apply hc
  rw [Bool.eq_iff_iff]
  simp only [Bool.and_eq_true, decide_eq_true_eq]
  exact h
attribute [local irreducible] parV printB mdB mdF resV mgZ tornV mrgL mrgV tearV agrB
attribute [local irreducible] dInt dBool dSl dPp dPtr dAgg dTup dClo dAny dEx dStr dGd dCells dVec dVs dRow dOp nth Tri Into TOps Ctr bodyPost Exit.then Exit.inBlock Code.wp Code.wpIn dPa dArr dMp dMap CtrG keepPost iterPost bodyPostM roundQ
set_option maxRecDepth 100000 in
theorem c_BookMerged (g g1 g2 : List Int) (v : Int) (hv : 0 ≤ v ∧ v ≤ 65535) : Ctr Tryd.prog 9 [Ty.sl U8 g, Ty.sl U8 g1, Ty.sl U8 g2, Ty.int .u16 v] (Ty.bool true) := by
  refine fn_intro Tryd.func9 rfl (by decide) Tryd.ntmps9 (by exact Nat.le_of_ble_eq_true rfl) fun w0 M0 => ?_
  refine t_seq ?_
  refine t_region ?_
  refine asB rfl ?_
  refine r_nil ?_
  refine i_then ?_
  refine t_seq ?_
  refine t_region ?_
  refine mvS rfl ?_
  refine r_callG [(24, 10)] [24] [(24, Cont.cells 90 (skTys (skFill g)))] (c_Fill g) rfl rfl (cv_cons cv_nil (cv_pub rfl rfl)) pre_nil (post_cons (a := 24) (b := 10) (by exact List.mem_cons_self) rfl (cc_cells_eq (by exact List.mem_cons_self) rfl rfl rfl) post_nil) (cv_ptr (by exact List.mem_cons_self)) ?_
  refine r_callG (res' := bokT (mdB (skFill g) 8)) [(24, 1000)] [] [] (c_Made (skFill g) (fill_200 g) 8 (by decide)) rfl rfl (cv_cons (cv_cons cv_nil (cv_pub rfl rfl)) (cv_ptr (by exact List.mem_cons_self))) (pre_cons (a := 24) (b := 1000) (by exact List.mem_cons_self) rfl (cc_cells_eq (by exact List.mem_cons_self) rfl rfl rfl) pre_nil) post_nil (cv_pub rfl rfl) ?_
  refine r_alloc rfl (by exact List.cons_ne_nil _ _) rfl ?_
  refine r_storeN rfl rfl (by decide) rfl rfl rfl rfl rfl rfl ?_
  refine r_nil ?_
  refine i_then ?_
  refine t_seq ?_
  have hb : BookOk (mdB (skFill g) 8) := mdB_ok _ (by decide)
  generalize hB : mdB (skFill g) 8 = b at hb ⊢
  have hp := print_pos hb
  have hln := print_len hb
  have hfw := hb.form.n2
  have hl1 := hb.form.l1
  have hfew := hb.few
  have ht : ∀ x ∈ printB b, x ≠ 63 := fun x hx => (print_txt hb x hx).1
  have hq1 := fill_200 g1
  have hq2 := fill_200 g2
  refine t_region ?_
  refine r_load_ptrN rfl rfl (by decide) rfl rfl (by exact Nat.le_of_ble_eq_true rfl) ?_
  refine r_call (c_PrintOk hb) rfl rfl rfl rfl rfl ?_
  refine mvT rfl ?_
  refine r_extract rfl rfl ?_
  refine r_extract rfl rfl ?_
  refine asS' rfl ?_
  refine asI rfl ?_
  refine r_nil ?_
  refine i_then ?_
  refine t_seq ?_
  refine t_seq ?_
  refine t_region ?_
  refine mvI rfl ?_
  refine r_bin rfl rfl rfl ?_
  refine mvB rfl ?_
  apply r_guard (s := 33) rfl rfl rfl
  · intro hg; apply opT_of; (refine mvS' rfl ?_); refine r_nil ?_; exact rfl
  · exact rfl
  · exact rfl
  apply r_guard (s := 33) rfl rfl rfl
  · intro hg; apply opT_strip (s := 34) rfl (by (rw [hg]; rfl)); apply opT_of; (refine r_lenS rfl rfl rfl ?_); refine r_nil ?_; exact rfl
  · exact rfl
  · exact rfl
  apply r_guard (s := 33) rfl rfl rfl
  · intro hg; apply opT_strip (s := 35) rfl (by (rw [hg]; rfl)); apply opT_of; (refine r_bin rfl rfl rfl ?_); refine r_nil ?_; exact rfl
  · exact rfl
  · exact rfl
  refine r_or rfl rfl ?_
  refine r_nil ?_
  refine i_then ?_
  refine t_cond_dec rfl (fun hc1 => ?_) (fun hc1 => ?_)
  ·
    refine t_seq ?_
    refine t_region ?_
    refine asB rfl ?_
    refine r_nil ?_
    refine i_then ?_
    refine t_ret ?_
    refine i_then_ret ?_
    refine i_rp1 rfl rfl ?_
    all_goals skip
    all_goals (exfalso; omega)
  ·
    refine t_skip ?_
    refine i_then ?_
    refine t_seq ?_
    refine t_region ?_
    refine mvS rfl ?_
    refine r_callG [(25, 10)] [25] [(25, Cont.cells 90 (skTys (skFill g1)))] (c_Fill g1) rfl rfl (cv_cons cv_nil (cv_pub rfl rfl)) pre_nil (post_cons (a := 25) (b := 10) (by exact List.mem_cons_self) rfl (cc_cells_eq (by exact List.mem_cons_self) rfl rfl rfl) post_nil) (cv_ptr (by exact List.mem_cons_self)) ?_
    refine mvS' rfl ?_
    refine r_callG (res' := Ty.str (bs (tornV (skFill g1) (printB b)))) [(25, 1000)] [] [(25, Cont.cells 90 (skTys (tnP (skFill g1) (printB b) (tnM (skFill g1))).1))] (c_tornS (skFill g1) (skN_ok (k := 0) hq1 (by decide)) (printB b) (by omega) (by omega)) rfl rfl (cv_cons (cv_cons (cv_cons cv_nil (cv_pub rfl rfl)) (cv_pub rfl rfl)) (cv_ptr (by exact List.mem_cons_self))) (pre_cons (a := 25) (b := 1000) (by exact List.mem_cons_self) rfl (cc_cells_eq (by exact List.mem_cons_self) rfl rfl rfl) pre_nil) (post_cons (a := 25) (b := 1000) (by exact List.mem_cons_self) rfl (cc_cells_eq (by exact List.mem_cons_self) rfl rfl rfl) post_nil) (cv_pub rfl rfl) ?_
    refine mvS rfl ?_
    refine r_callG [(26, 10)] [26] [(26, Cont.cells 90 (skTys (skFill g2)))] (c_Fill g2) rfl rfl (cv_cons cv_nil (cv_pub rfl rfl)) pre_nil (post_cons (a := 26) (b := 10) (by exact List.mem_cons_self) rfl (cc_cells_eq (by exact List.mem_cons_self) rfl rfl rfl) post_nil) (cv_ptr (by exact List.mem_cons_self)) ?_
    refine mvS' rfl ?_
    refine r_callG (res' := Ty.str (bs (tornV (skFill g2) (printB b)))) [(26, 1000)] [] [(26, Cont.cells 90 (skTys (tnP (skFill g2) (printB b) (tnM (skFill g2))).1))] (c_tornS (skFill g2) (skN_ok (k := 0) hq2 (by decide)) (printB b) (by omega) (by omega)) rfl rfl (cv_cons (cv_cons (cv_cons cv_nil (cv_pub rfl rfl)) (cv_pub rfl rfl)) (cv_ptr (by exact List.mem_cons_self))) (pre_cons (a := 26) (b := 1000) (by exact List.mem_cons_self) rfl (cc_cells_eq (by exact List.mem_cons_self) rfl rfl rfl) pre_nil) (post_cons (a := 26) (b := 1000) (by exact List.mem_cons_self) rfl (cc_cells_eq (by exact List.mem_cons_self) rfl rfl rfl) post_nil) (cv_pub rfl rfl) ?_
    refine asS' rfl ?_
    refine asS' rfl ?_
    refine r_nil ?_
    refine i_then ?_
    refine t_seq ?_
    have ha := tornV_len (skFill g1) (printB b)
    have hc := tornV_len (skFill g2) (printB b)
    have hm1 : mrgV (tornV (skFill g1) (printB b)) (tornV (skFill g2) (printB b)) = (mrgL (tornV (skFill g1) (printB b)) (tornV (skFill g2) (printB b)) (printB b).length, 0) := by rw [mrg_is (by omega) (by omega), ha]
    have hm2 : mrgV (tornV (skFill g2) (printB b)) (tornV (skFill g1) (printB b)) = (mrgL (tornV (skFill g1) (printB b)) (tornV (skFill g2) (printB b)) (printB b).length, 0) := by rw [mrg_is2 (by omega) (by omega), ha]
    have hml := mrg_len (tornV (skFill g1) (printB b)) (tornV (skFill g2) (printB b)) (printB b).length
    refine t_region ?_
    refine mvS' rfl ?_
    refine mvS' rfl ?_
    refine r_call (c_MergeIs hm1) rfl rfl rfl rfl rfl ?_
    refine mvT rfl ?_
    refine r_extract rfl rfl ?_
    refine r_extract rfl rfl ?_
    refine asS' rfl ?_
    refine asI rfl ?_
    refine r_nil ?_
    refine i_then ?_
    refine t_seq ?_
    refine t_region ?_
    refine mvS' rfl ?_
    refine mvS' rfl ?_
    refine r_call (c_MergeIs hm2) rfl rfl rfl rfl rfl ?_
    refine mvT rfl ?_
    refine r_extract rfl rfl ?_
    refine r_extract rfl rfl ?_
    refine asS' rfl ?_
    refine asI rfl ?_
    refine r_nil ?_
    refine i_then ?_
    refine t_seq ?_
    refine t_seq ?_
    refine t_region ?_
    refine mvI rfl ?_
    refine r_bin rfl rfl rfl ?_
    refine mvB rfl ?_
    apply r_guard (s := 60) rfl rfl rfl
    · intro hg; apply opT_of; (refine mvI rfl ?_); refine r_nil ?_; exact rfl
    · exact rfl
    · exact rfl
    apply r_guard (s := 60) rfl rfl rfl
    · intro hg; apply opT_strip (s := 61) rfl (by (rw [hg]; rfl)); apply opT_of; (refine r_bin rfl rfl rfl ?_); refine r_nil ?_; exact rfl
    · exact rfl
    · exact rfl
    refine r_or rfl rfl ?_
    refine mvB rfl ?_
    apply r_guard (s := 64) rfl rfl rfl
    · intro hg; apply opT_of; (refine mvS' rfl ?_); refine r_nil ?_; exact rfl
    · exact rfl
    · exact rfl
    apply r_guard (s := 64) rfl rfl rfl
    · intro hg; apply opT_of; (refine mvS' rfl ?_); refine r_nil ?_; exact rfl
    · exact rfl
    · exact rfl
    apply r_guard (s := 64) rfl rfl rfl
    · intro hg; apply opT_strip (s := 65) rfl (by (rw [hg]; rfl)); apply opT_strip (s := 66) rfl (by (rw [hg]; rfl)); apply opT_of; (refine r_neqS rfl rfl ?_); refine r_nil ?_; exact rfl
    · exact rfl
    · exact rfl
    refine r_or rfl rfl ?_
    refine mvB rfl ?_
    apply r_guard (s := 69) rfl rfl rfl
    · intro hg; apply opT_of; (refine mvS' rfl ?_); refine r_nil ?_; exact rfl
    · exact rfl
    · exact rfl
    apply r_guard (s := 69) rfl rfl rfl
    · intro hg; apply opT_of; (refine mvS' rfl ?_); refine r_nil ?_; exact rfl
    · exact rfl
    · exact rfl
    apply r_guard (s := 69) rfl rfl rfl
    · intro hg; apply opT_strip (s := 70) rfl (by (rw [hg]; rfl)); apply opT_strip (s := 71) rfl (by (rw [hg]; rfl)); apply opT_of; (refine r_call (c_agreesIs (by omega) (mrg_agr ht (skFill g1) (skFill g2))) rfl rfl rfl rfl rfl ?_); refine r_nil ?_; exact rfl
    · exact rfl
    · exact rfl
    apply r_guard (s := 69) rfl rfl rfl
    · intro hg; apply opT_strip (s := 72) rfl (by (rw [hg]; rfl)); apply opT_of; (refine r_not rfl ?_); refine r_nil ?_; exact rfl
    · exact rfl
    · exact rfl
    refine r_or rfl rfl ?_
    refine r_nil ?_
    refine i_then ?_
    refine t_cond rfl (fun hc2 => ?_) (fun hc2 => ?_)
    ·
      refine t_seq ?_
      refine t_region ?_
      refine asB rfl ?_
      refine r_nil ?_
      refine i_then ?_
      refine t_ret ?_
      refine i_then_ret ?_
      refine i_rp1 rfl rfl ?_
      all_goals skip
      all_goals (exfalso; simp at hc2)
    ·
      refine t_skip ?_
      refine i_then ?_
      refine t_seq ?_
      refine t_seq ?_
      refine t_region ?_
      refine mvS' rfl ?_
      refine r_lenS rfl rfl rfl ?_
      refine mvI rfl ?_
      refine r_nil ?_
      refine i_then ?_
      refine t_block ?_
      refine t_loop (fun (k : {k : Nat // k ≤ (printB b).length}) => live [(3, Ty.int .u16 v), (9, Ty.ptr 10 0), (10, Ty.str (bs (printB b))), (12, Ty.str (bs (tornV (skFill g1) (printB b)))), (13, Ty.str (bs (tornV (skFill g2) (printB b)))), (14, Ty.str (bs (mrgL (tornV (skFill g1) (printB b)) (tornV (skFill g2) (printB b)) (printB b).length))), (76, Ty.int .i64 (printB b).length), (77, Ty.int .i64 (k.1 : Nat))] [(10, Cont.cells 30 (bokTys b))]) (fun k => (printB b).length - k.1) (⟨0, Nat.zero_le _⟩) ?_ fun k => ?_
      · (refine Ent.mk' ?_ ?_ <;> (repeat' (first | exact allSub_zero | exact allTags_nil | refine allSub_succ' ?_ (Ty.sub_any _) | refine allSub_succ' ?_ (Ty.sub_refl _) | refine allTags_cons rfl (Cont.sub_refl _) ?_)))
      ·
        refine t_seq ?_
        refine t_region ?_
        refine r_bin rfl rfl rfl ?_
        refine r_nil ?_
        refine i_then ?_
        refine t_seq ?_
        refine t_cond_dec rfl (fun hc3 => ?_) (fun hc3 => ?_)
        ·
          refine t_skip ?_
          refine i_then ?_
          refine t_seq ?_
          refine t_block ?_
          refine t_seq ?_
          refine t_region ?_
          refine mvI rfl ?_
          refine asI rfl ?_
          refine r_nil ?_
          refine i_then ?_
          refine t_seq ?_
          refine t_draw mixed rfl ?_
          refine mvS' rfl ?_
          refine mvI rfl ?_
          refine r_idxS (i := k.1) rfl rfl rfl rfl (by omega) ?_
          refine r_bin rfl rfl rfl ?_
          refine mvS' rfl ?_
          refine mvI rfl ?_
          refine r_idxS (i := k.1) rfl rfl rfl rfl (by omega) ?_
          refine r_bin rfl rfl rfl ?_
          refine mvB rfl ?_
          apply r_guard (s := 88) rfl rfl rfl
          · intro hg; apply opT_of; (refine mvS' rfl ?_); refine r_nil ?_; exact rfl
          · exact rfl
          · exact rfl
          apply r_guard (s := 88) rfl rfl rfl
          · intro hg; apply opT_of; (refine mvI rfl ?_); refine r_nil ?_; exact rfl
          · exact rfl
          · exact rfl
          apply r_guard (s := 88) rfl rfl rfl
          · intro hg; apply opT_strip (s := 89) rfl (by (rw [hg]; rfl)); apply opT_strip (s := 90) rfl (by (rw [hg]; rfl)); apply opT_of; (refine r_idxS (i := k.1) rfl rfl rfl rfl (by omega) ?_); refine r_nil ?_; exact rfl
          · exact rfl
          · exact rfl
          apply r_guard (s := 88) rfl rfl rfl
          · intro hg; apply opT_strip (s := 91) rfl (by (rw [hg]; rfl)); apply opT_of; (refine r_bin rfl rfl rfl ?_); refine r_nil ?_; exact rfl
          · exact rfl
          · exact rfl
          refine r_and rfl rfl ?_
          refine r_neq_B und4 rfl rfl ?_
          refine r_nil ?_
          refine ⟨by kernel_rfl, ?_⟩
          refine i_then ?_
          refine t_cond_ndec rfl (fun hc4 => ?_) (fun hc4 => ?_)
          ·
            refine t_seq ?_
            refine t_region ?_
            refine asB rfl ?_
            refine r_nil ?_
            refine i_then ?_
            refine t_ret ?_
            refine i_block_ret ?_
            refine i_then_ret ?_
            refine i_then_ret ?_
            refine i_block_ret ?_
            refine i_then_ret ?_
            refine i_rp1 rfl rfl ?_
            all_goals skip
            all_goals (exfalso; exact mrg_no ht (by omega) hc4)
          ·
            refine t_skip ?_
            refine i_block ?_
            refine i_then ?_
            refine t_region ?_
            refine r_add rfl rfl (by omega) (by omega) ?_
            refine mvI rfl ?_
            refine r_nil ?_
            refine i_round (⟨k.1 + 1, by omega⟩) ?_ (by show (printB b).length - (k.1 + 1) < (printB b).length - k.1; omega)
            (refine Ent.mk' ?_ ?_ <;> (repeat' (first | exact allSub_zero | exact allTags_nil | refine allSub_succ' ?_ (Ty.sub_any _) | refine allSub_succ' ?_ (Ty.sub_refl _) | refine allTags_cons rfl (Cont.sub_refl _) ?_)))
            all_goals skip
        ·
          refine t_exit ?_
          refine i_then_exit ?_
          refine i_then_exit ?_
          refine i_block_exit rfl ?_
          refine i_then ?_
          refine t_seq ?_
          refine t_region ?_
          refine mvI rfl ?_
          refine r_convK rfl rfl rfl rfl (IntWalk.i64_in v (by omega)) ?_
          refine mvS' rfl ?_
          refine r_lenS rfl rfl rfl ?_
          refine r_rem rfl rfl (by omega) ?_
          refine asI rfl ?_
          refine r_nil ?_
          refine i_then ?_
          refine t_seq ?_
          obtain ⟨i, hi, hvi⟩ : ∃ i : Nat, i < (printB b).length ∧ v.tmod ((printB b).length : Int) = i := by
            have := tmod_in (a := v) (b := (printB b).length) hv.1 (by omega)
            exact ⟨(v.tmod (printB b).length).toNat, by omega, by omega⟩
          have hz := mgZ_bnd (printB b) i hv.1
          have hne := mgZ_ne (printB b) i hv.1
          have hvm := tmod_in (a := v) (b := 10) hv.1 (by decide)
          refine t_as (s := 18) rfl (Ty.sub_int hvi) ?_
          refine t_region ?_
          refine mvI rfl ?_
          refine r_rem rfl rfl (by omega) ?_
          refine r_bin (ty := Ty.int .u16 (48 + v.tmod 10)) rfl rfl (by show some _ = some _; rw [IntWalk.u16_in _ (by omega)]) ?_
          refine r_convK rfl rfl rfl rfl (IntWalk.u8_in (48 + v.tmod 10) (by omega)) ?_
          refine asI rfl ?_
          refine r_nil ?_
          refine i_then ?_
          refine t_join (J := live [(9, Ty.ptr 10 0), (10, Ty.str (bs (printB b))), (18, Ty.int .i64 i), (19, Ty.int .u8 (mgZ (printB b) i v))] [(10, Cont.cells 30 (bokTys b))]) ?_ ?_
          ·
            refine t_seq ?_
            refine t_region ?_
            refine mvI rfl ?_
            refine mvS' rfl ?_
            refine mvI rfl ?_
            refine r_idxS (i := i) rfl rfl rfl rfl hi ?_
            refine r_bin rfl rfl rfl ?_
            refine r_nil ?_
            refine i_then ?_
            refine t_cond_dec rfl (fun hc5 => ?_) (fun hc5 => ?_)
            ·
              refine t_region ?_
              refine asI rfl ?_
              refine r_nil ?_
              refine i_join ?_
              (refine Ent.mk' ?_ ?_ <;> (repeat' (first | exact allSub_zero | exact allTags_nil | refine allSub_succ' ?_ (Ty.sub_any _) | refine allSub_succ' ?_ (Ty.sub_refl _) | refine allTags_cons rfl (Cont.sub_refl _) ?_ | refine allSub_succ' ?_ ?_)))
              all_goals exact Ty.sub_int (mgZ_yes hc5)
            ·
              refine t_skip ?_
              refine i_join ?_
              (refine Ent.mk' ?_ ?_ <;> (repeat' (first | exact allSub_zero | exact allTags_nil | refine allSub_succ' ?_ (Ty.sub_any _) | refine allSub_succ' ?_ (Ty.sub_refl _) | refine allTags_cons rfl (Cont.sub_refl _) ?_ | refine allSub_succ' ?_ ?_)))
              all_goals exact Ty.sub_int (mgZ_no hc5)
          ·
            refine t_seq ?_
            refine t_draw mixed rfl ?_
            refine mvS' rfl ?_
            refine mvS' rfl ?_
            refine mvI rfl ?_
            refine r_cutS_hi (hi := i) rfl rfl rfl rfl (by omega) ?_
            refine mvI rfl ?_
            refine r_convK rfl rfl rfl rfl (IntWalk.i32_in (mgZ (printB b) i v) (by omega)) ?_
            refine r_convIS rfl rfl rfl rfl (by omega) (by omega) ?_
            refine r_catS rfl rfl (by (simp <;> omega)) ?_
            refine mvS' rfl ?_
            refine mvI rfl ?_
            refine r_add rfl rfl (by omega) (by omega) ?_
            refine r_cutS_lo (lo := i + 1) rfl rfl rfl rfl (by omega) ?_
            refine r_catS rfl rfl (by (simp <;> omega)) ?_
            refine r_call (c_MergeIs (mrg_chg ht (by omega) hi hne.1 hne.2)) rfl rfl rfl rfl rfl ?_
            refine mvT rfl ?_
            refine r_extract rfl rfl ?_
            refine r_extract rfl rfl ?_
            refine asS' rfl ?_
            refine asI rfl ?_
            refine r_nil ?_
            refine ⟨by kernel_rfl, ?_⟩
            refine i_then ?_
            refine t_seq ?_
            refine t_region ?_
            refine mvS' rfl ?_
            refine mvI rfl ?_
            refine r_buildSlice (E := I64) (xs := [_]) rfl rfl rfl rfl rfl (by decide) (by decide) (by repeat (first | exact (Parts.nil : Parts _ _ [] _) | (show Parts _ _ ((_, _) :: _) _; apply Parts.one; (· exact (rfl : _ = Ty.int _ _)); (· exact rfl)))) (by exact rfl) rfl ?_
            refine r_call (c_TearIs (tear_one hi (by omega))) rfl rfl rfl rfl rfl ?_
            refine mvT rfl ?_
            refine r_extract rfl rfl ?_
            refine r_extract rfl rfl ?_
            refine asS' rfl ?_
            refine asI rfl ?_
            refine r_nil ?_
            refine i_then ?_
            refine t_seq ?_
            refine t_region ?_
            refine r_field_ptr rfl rfl rfl rfl rfl (by decide) ?_
            refine r_load_ptrN rfl rfl (by decide) rfl rfl (by exact Nat.le_of_ble_eq_true rfl) ?_
            refine mvS' rfl ?_
            refine r_call (c_RestoreIs (res_chg hb hi)) rfl rfl rfl rfl rfl ?_
            refine mvT rfl ?_
            refine r_extract rfl rfl ?_
            refine r_extract rfl rfl ?_
            refine r_alloc rfl (by exact List.cons_ne_nil _ _) rfl ?_
            refine r_storeN rfl rfl (by decide) rfl rfl rfl rfl rfl rfl ?_
            refine asI rfl ?_
            refine r_nil ?_
            refine i_then ?_
            refine t_seq ?_
            refine t_region ?_
            refine mvI rfl ?_
            refine r_bin rfl rfl rfl ?_
            refine mvB rfl ?_
            apply r_guard (s := 143) rfl rfl rfl
            · intro hg; apply opT_of; (refine mvI rfl ?_); refine r_nil ?_; exact rfl
            · exact rfl
            · exact rfl
            apply r_guard (s := 143) rfl rfl rfl
            · intro hg; apply opT_strip (s := 144) rfl (by exact hg); apply opT_of; (refine r_bin rfl rfl rfl ?_); refine r_nil ?_; exact rfl
            · exact rfl
            · exact rfl
            refine r_and rfl rfl ?_
            refine mvB rfl ?_
            apply r_guard (s := 147) rfl rfl rfl
            · intro hg; apply opT_of; (refine mvI rfl ?_); refine r_nil ?_; exact rfl
            · exact rfl
            · exact rfl
            apply r_guard (s := 147) rfl rfl rfl
            · intro hg; apply opT_strip (s := 148) rfl (by exact hg); apply opT_of; (refine r_bin rfl rfl rfl ?_); refine r_nil ?_; exact rfl
            · exact rfl
            · exact rfl
            refine r_and rfl rfl ?_
            refine mvB rfl ?_
            apply r_guard (s := 151) rfl rfl rfl
            · intro hg; apply opT_of; (refine mvS' rfl ?_); refine r_nil ?_; exact rfl
            · exact rfl
            · exact rfl
            apply r_guard (s := 151) rfl rfl rfl
            · intro hg; apply opT_of; (refine mvS' rfl ?_); refine r_nil ?_; exact rfl
            · exact rfl
            · exact rfl
            apply r_guard (s := 151) rfl rfl rfl
            · intro hg; apply opT_strip (s := 152) rfl (by exact hg); apply opT_strip (s := 153) rfl (by exact hg); apply opT_of; (refine r_eqlS rfl rfl ?_); refine r_nil ?_; exact rfl
            · exact rfl
            · exact rfl
            refine r_and rfl rfl ?_
            refine mvB rfl ?_
            apply r_guard (s := 156) rfl rfl rfl
            · intro hg; apply opT_of; (refine r_load_ptrN rfl rfl (by decide) rfl rfl (by exact Nat.le_of_ble_eq_true rfl) ?_); refine r_nil ?_; exact rfl
            · exact rfl
            · exact rfl
            apply r_guard (s := 156) rfl rfl rfl
            · intro hg; apply opT_of; (refine r_load_ptrN rfl rfl (by decide) rfl rfl (by exact Nat.le_of_ble_eq_true rfl) ?_); refine r_nil ?_; exact rfl
            · exact rfl
            · exact rfl
            apply r_guard (s := 156) rfl rfl rfl
            · intro hg; apply opT_strip (s := 157) rfl (by (rw [hg]; rfl)); apply opT_strip (s := 158) rfl (by (rw [hg]; rfl)); apply opT_of; (refine r_call (c_same b b) rfl rfl rfl rfl rfl ?_); refine r_nil ?_; exact rfl
            · exact rfl
            · exact rfl
            refine r_and rfl rfl ?_
            refine mvB rfl ?_
            apply r_guard (s := 161) rfl rfl rfl
            · intro hg; apply opT_of; (refine r_call c_awake rfl rfl rfl rfl rfl ?_); refine r_nil ?_; exact rfl
            · exact rfl
            · exact rfl
            refine r_and rfl rfl ?_
            refine asB rfl ?_
            refine r_nil ?_
            refine i_then ?_
            refine t_ret ?_
            refine i_rp1 rfl rfl ?_
            all_goals skip
            all_goals exact ret_eq rfl rfl (congrArg Ty.bool (by simp))
end Go.Proofs.YtjjndkenddigiaaDoor

namespace Go.T
open Go Go.RowKit Go.ChangeShapes Go.WideShapes Go.ChangeAt
def pubs : Tags := fun _ => none
theorem wf_pubs (w : World) (h : Amb w pubs) : Wf w pubs := ⟨fun _ _ h => (by cases h), fun _ _ _ _ h => (by cases h), h⟩
theorem pubs_zero : ∀ b t, pubs b = some t → t = 0 := fun _ _ h => by cases h
structure Rd {α : Type} (P : Program) (e : TypeId) (E : El α) : Prop where
  size : P.cellsOf e = E.size
  pos : 0 < E.size
  rd : ∀ {H : Type} {enc : TypeId × Value → H} {w : World} {base : Nat} {held : Bool} {n : Nat} {cs : List Value} {y : DataW H × List MemPlace}, DataW.trod enc P w base (fun _ => true) held n e cs = some y → ∃ x, dens w pubs (E.tys x) cs
section
variable {H : Type} {enc : TypeId × Value → H} {P : Program} {w : World} {base : Nat} {held : Bool} {α : Type} {E : El α} {t e : TypeId} {n : Nat} {cs : List Value} {y : DataW H × List MemPlace}
theorem rd_sl (hR : Rd P e E) (ht : P.underlying t = some (.slice e)) (h : DataW.trod enc P w base (fun _ => true) held n t cs = some y) : ∃ v xs, cs = [v] ∧ (Ty.sl E xs).den w pubs v := by
  rcases Go.Deep.open_slice ht h with ⟨rfl, _⟩ | ⟨a, len, cap, m, k, D, Pl, rfl, _, hl, hm, hmm, _, hel⟩
  · exact ⟨_, [], rfl, none, 0, rfl, Nat.le_refl _, Nat.zero_le _, fun h => absurd h (Nat.lt_irrefl _)⟩
  have hlm : len ≤ m := by rw [hmm]; simpa using hl
  have hX : ∀ i : Fin len, ∃ x : α, ∃ cs', w.cells? base (a.add (i.1 * P.cellsOf e)) (P.cellsOf e) = some cs' ∧ dens w pubs (E.tys x) cs' := fun i => by
    obtain ⟨cs', h1, h2⟩ := hel i.1 (Nat.lt_of_lt_of_le i.2 hlm)
    obtain ⟨x, hx⟩ := hR.rd h2
    exact ⟨x, cs', h1, hx⟩
  let X : Fin len → α := fun i => (hX i).choose
  have hXs : ∀ i : Fin len, ∃ cs', w.cells? base (a.add (i.1 * P.cellsOf e)) (P.cellsOf e) = some cs' ∧ dens w pubs (E.tys (X i)) cs' := fun i => (hX i).choose_spec
  have hlen : (List.ofFn X).length = len := by simp
  refine ⟨_, List.ofFn X, rfl, some a, cap, by rw [hlen], by rw [hlen]; exact hl, hm, fun h0 => ?_⟩
  rw [hlen] at h0
  have hcell : ∀ (i : Fin len) (j : Nat) (u : Ty), (E.tys (X i))[j]? = some u → ∃ v, w.cell? (a.add (i.1 * E.size + j)) = some v ∧ u.den w pubs v := fun i j u hu => by
    obtain ⟨cs', h1, h2⟩ := hXs i
    obtain ⟨v, hv, hd⟩ := dens_get h2 j u hu
    obtain ⟨_, g1, g2⟩ := World.cells?_some h1
    have hj : j < P.cellsOf e := by
      rw [hR.size, ← E.len (X i)]
      exact (List.getElem?_eq_some_iff.1 hu).1
    refine ⟨v, ?_, hd⟩
    have := g2 j hj
    rw [Go.Deep.add_add, hv, hR.size] at this
    exact this
  have hsz := hR.pos
  have hfirst : ∃ v, w.cell? (a.add 0) = some v := by
    obtain ⟨u, hu⟩ : ∃ u, (E.tys (X ⟨0, h0⟩))[0]? = some u := ⟨_, List.getElem?_eq_getElem (by rw [E.len]; exact hsz)⟩
    obtain ⟨v, hv, _⟩ := hcell ⟨0, h0⟩ 0 u hu
    exact ⟨v, by simpa using hv⟩
  obtain ⟨b, off, sp⟩ := a
  obtain ⟨v0, hv0⟩ := hfirst
  have hsp : sp = none := by simpa [Addr.add] using World.cell?_spot hv0
  subst hsp
  have hb : b < w.heap.size := by
    obtain ⟨cs', h1, _⟩ := hXs ⟨0, h0⟩
    have := World.cells?_block h1 (by rw [hR.size]; exact hsz)
    simpa [Addr.add] using this
  refine ⟨b, off, rfl, rfl, hb, fun i u hu => ?_⟩
  have hi : i < len * E.size := by
    have := (List.getElem?_eq_some_iff.1 hu).1
    rw [flat_len, hlen] at this; exact this
  have hk : i / E.size < len := Nat.div_lt_of_lt_mul (by rw [Nat.mul_comm]; exact hi)
  have hj : i % E.size < E.size := Nat.mod_lt _ hsz
  have hij : i / E.size * E.size + i % E.size = i := by rw [Nat.mul_comm]; exact Nat.div_add_mod i E.size
  have hu2 := hu
  rw [← hij, flat_get E _ _ _ (by rw [hlen]; exact hk) hj, List.getElem?_ofFn, dif_pos hk] at hu2
  obtain ⟨v, hv, hd⟩ := hcell ⟨i / E.size, hk⟩ (i % E.size) u hu2
  refine ⟨v, ?_, hd⟩
  rw [← Go.WideShapes.add_plain]
  rw [hij] at hv
  exact hv
theorem rd_sl1 {c : Value} (hR : Rd P e E) (ht : P.underlying t = some (.slice e)) (h : DataW.trod enc P w base (fun _ => true) held n t [c] = some y) : ∃ xs, (Ty.sl E xs).den w pubs c := by
  obtain ⟨v, xs, e, hd⟩ := rd_sl hR ht h
  exact ⟨xs, by rw [show c = v by simpa using e]; exact hd⟩
end
section
variable {w w' : World} {S K : Nat → Prop} {M' : Tags}
theorem le_block (le : Le S K w pubs w' M') {b : Nat} (hb : b < w.heap.size) : w'.heap[b]? = w.heap[b]? := (le.pub b hb rfl).2
theorem le_same (le : Le S K w pubs w' M') {p : MemPlace} (hp : p.block < w.heap.size) : w.sameAt w' p := by
  cases p with
  | cell b o => exact World.cell?_of_block (w := w) (le_block le hp)
  | map b => exact le_block le hp
theorem le_kept (le : Le S K w pubs w' M') (may : MemPlace → Prop) : w.keptBut w' may := by
  refine ⟨le.os, le.out, fun i hi => ?_⟩
  have e := le_block le hi
  rw [e]
  split
  · rename_i h1 h2
    rw [h1] at h2
    simp only [Option.some.injEq, Obj.cells.injEq] at h2
    obtain ⟨rfl, rfl, rfl⟩ := h2
    exact ⟨rfl, rfl, rfl, fun _ _ => rfl⟩
  · rename_i h1 h2
    rw [h1] at h2
    simp only [Option.some.injEq, Obj.map.injEq] at h2
    exact Or.inr ⟨h2.1.symm, h2.2.symm⟩
  · rfl
theorem le_frozen (le : Le S K w pubs w' M') {a : Addr} (ha : a.block < w.heap.size) : w'.frozen? a = w.frozen? a := by
  unfold World.frozen?
  rw [le_block le ha]
end
section
variable {H : Type} {enc : TypeId × Value → H} {P : Program}
theorem trodAll_stays (hl : laidOutB P = true) {w w' : World} {sp : Nat → Bool} : ∀ {ts : List TypeId} {vs : List Value} {ds : List (DataW H)} {ps : List MemPlace}, (∀ t ∈ ts, P.readableRec t = true ∧ t < P.types.size) →
    DataW.TrodAll enc P w 0 (fun _ => true) true ts vs ds ps → (∀ p ∈ ps, w.sameAt w' p) → (∀ p ∈ ps, sp p.block = true) → DataW.TrodAll enc P w' 0 sp true ts vs ds ps
  | [], [], [], _, _, h, _, _ => h
  | t :: ts, v :: vs, d :: ds, _, ht, ⟨p, q, h1, h2, e⟩, hs, hsp => by
    subst e
    have h0 := ht t List.mem_cons_self
    exact ⟨p, q, Go.WideElems.Trod_stays hl h0.1 h0.2 h1 (fun x hx => hs x (List.mem_append_left _ hx)) (fun x hx => hsp x (List.mem_append_left _ hx)),
      trodAll_stays hl (fun t h => ht t (List.mem_cons_of_mem _ h)) h2 (fun x hx => hs x (List.mem_append_right _ hx)) (fun x hx => hsp x (List.mem_append_right _ hx)), rfl⟩
theorem post_true {f : Func} {s : ChangeSpec} {apart fresh handsOn again : Bool} {W W' : World} {args : Array Value} {ds : List (DataW H)} {before : List MemPlace} {S K : Nat → Prop} {M' : Tags}
    (hl : laidOutB P = true) (hv : s.vars = []) (hrd : ∀ t ∈ f.params.toList, P.readableRec t = true ∧ t < P.types.size) {tb : TypeId} (htb : P.underlying tb = some .bool) (hrt : f.resultTypes = #[tb])
    (hW : DataW.Whole enc P f.params.toList s.vars apart W args.toList ds [] before) (hres : (s.fn H (ds ++ [])).results = [.lit (.bool true)]) (hargs : (s.fn H (ds ++ [])).args = ds) (hvars : (s.fn H (ds ++ [])).vars = [])
    (le : Le S K W pubs W' M') : s.post enc P f apart fresh handsOn again W args (.bool true) W' := by
  have hW0 := hW
  obtain ⟨p, q, hA, hV, hb, hfz, hn⟩ := hW0
  have hlt := DataW.TrodAll.lt hA
  have hq : q = [] := by rw [hv] at hV; exact (trodVars_none hV).2
  subst hq
  have hbp : before = p := by rw [hb]; simp
  have hre : ∀ (b : Nat) (sp : Nat → Bool) (hd : Bool), DataW.TrodAll enc P W' b sp hd f.resultTypes.toList ((Value.bool true).resultList f.resultTypes.size) (s.fn H (ds ++ [])).results [] := fun b sp hd => by
    rw [hrt, hres]; exact trodAll_mk1 (shut_bool htb true)
  have har : ∀ sp : Nat → Bool, (∀ x ∈ p, sp x.block = true) → DataW.TrodAll enc P W' 0 sp true f.params.toList args.toList (s.fn H (ds ++ [])).args p := fun sp hsp => by
    rw [hargs]; exact trodAll_stays hl hrd hA (fun x hx => le_same le (hlt x hx)) hsp
  have hva : ∀ sp : Nat → Bool, DataW.TrodVars enc P W' sp s.vars (s.fn H (ds ++ [])).vars [] := fun sp => by
    rw [hvars, hv]; exact rfl
  have hok : ∀ (j : Nat) (t : TypeId) (r : Value), f.resultTypes[j]? = some t → ((Value.bool true).resultList f.resultTypes.size)[j]? = some r → Value.okWide P W' .any 0 t r := by
    exact ok_one (by rw [hrt]) rfl (okWide_bool_mk htb true)
  refine ⟨ds, [], before, [], p, [], hW, hre _ _ _, har _ (fun x hx => by simpa using hlt x hx), hva _, World.keptBut_mono (fun x hx => hx) (le_kept le _), fun _ => ?_⟩
  refine ⟨hok, _, _, ([] ++ p) ++ [], ⟨[] ++ p, [], trodAll_append (har _ (fun _ _ => rfl)) (hre _ _ _), hva _, rfl, ?_, ?_⟩, ?_⟩
  · intro b off hp
    have hp' : MemPlace.cell b off ∈ p := by simpa using hp
    rw [le_frozen le (hlt _ hp')]
    exact hfz b off (by rw [hbp]; exact hp')
  · intro ha
    have := hn ha
    rw [hbp] at this
    simpa using this
  · intro x hx _
    rw [hbp]
    simpa using hx
end
end Go.T

namespace Go.Proofs.YtjjndkenddigiaaDoor
open Go Go.T Go.RowKit Go.ChangeShapes Go.WideShapes Go.ChangeAt
abbrev laidL : List (String × DataW Unit) := [("math/bits.deBruijn32tab", Rows.laid_math_bits_deBruijn32tab), ("math/bits.deBruijn64tab", Rows.laid_math_bits_deBruijn64tab), ("internal/strconv.uint64pow10", Rows.laid_internal_strconv_uint64pow10)]
theorem gPow : Tryd.prog.globalNamed "internal/strconv.uint64pow10" = some 0 := by kernel_rfl
theorem tPow : (Tryd.prog.globals[0]?).map (·.type) = some 173 := by kernel_rfl
theorem uPow : Tryd.prog.underlying 173 = some (.array 20 163) := by kernel_rfl
theorem uPowE : Tryd.prog.underlying 163 = some (.int .u64) := by kernel_rfl
theorem arr_cells {H : Type} {enc : TypeId × Value → H} {W : World} {base : Nat} {spare : Nat → Bool} {held : Bool} {m n t : Nat} {k : IntKind} {cs : List Value} {xs : List (DataW H × List MemPlace)} {zs : List Int} (hE : Tryd.prog.underlying t = some (.int k)) (hc : Tryd.prog.cellsOf t = 1) (hlen : cs.length = n) (hxl : xs.length = n) (hzl : zs.length = n)
    (hel : ∀ i, i < n → DataW.trod enc Tryd.prog W base spare held m t ((cs.drop (i * Tryd.prog.cellsOf t)).take (Tryd.prog.cellsOf t)) = xs[i]?) (hx : xs.map (·.1) = zs.map fun z => .lit (.int k z)) : cs = zs.map fun z => .int k z := by
  apply List.ext_getElem (by simp [hlen, hzl])
  intro i h1 h2
  have hi : i < n := by omega
  have h := hel i hi
  rw [hc, Nat.mul_one, List.drop_eq_getElem_cons h1, List.take_succ_cons, List.take_zero, List.getElem?_eq_getElem (by omega)] at h
  obtain ⟨z, e1, e2, _⟩ := DataW.trod_int hE h
  have e3 : (xs.map (·.1))[i]? = some (.lit (.int k z)) := by rw [List.getElem?_map, List.getElem?_eq_getElem (by omega), e2]; rfl
  rw [hx, List.getElem?_map, List.getElem?_eq_getElem (by omega)] at e3
  simp only [Option.map_some, Option.some.injEq, DataW.lit.injEq, Lit.int.injEq, true_and] at e3
  have e4 : cs[i] = .int k z := by injection e1
  rw [e4, List.getElem_map, e3]
set_option maxRecDepth 100000 in
theorem amb_of {W : World} (h : laidMetH Tryd.prog laidL W) : Amb W pubs := by
  rw [MakeChecks.laidMetH_plain _ _ _ (by kernel_rfl)] at h
  obtain ⟨ps, ⟨_, _, _, _, _, _, _, _, _, _, ⟨_, _, _, _, _, _, _, _, _, _, ⟨g, t, cs, fu, p, q, hg, ht, hv, hd, _, _⟩, _⟩, _⟩, _⟩ := h
  obtain rfl := Option.some.inj (gPow.symm.trans hg)
  obtain rfl := Option.some.inj (tPow.symm.trans ht)
  obtain ⟨xs, m, _, hx, hlen, hn, hel⟩ := DataW.trod_array uPow hd
  have hE : Tryd.prog.cellsOf 163 = 1 := by kernel_rfl
  have hA : Tryd.prog.cellsOf 173 = 20 := by kernel_rfl
  simp only [Prod.mk.injEq] at hx
  have hcs : cs.toList = Lib.pow10Tab.map fun z => Value.int .u64 z := arr_cells uPowE hE (hlen.trans hA) hn rfl hel (by
    have h1 := hx.1
    injection h1 with h1
    exact h1.symm)
  intro x hx
  rw [List.mem_singleton.1 hx]
  refine ⟨rfl, ?_⟩
  simp only [World.var?, gPow, Option.bind_some] at hv
  split at hv
  · rename_i c T z hh
    injection hv with hv
    subst hv
    refine ⟨T, z, ?_⟩
    rw [hh]
    congr 2
    rw [← hcs]
  · cases hv
set_option maxRecDepth 100000 in
theorem door_met (os : Os) (args : Array Value) : laidMetH Tryd.prog laidL ((World.doorLaid Tryd.prog 2000 os).forCall (fun _ _ => 0) ⟨#[], args, []⟩).memory :=
  laidMetH_of_parts3 (fuel := 40) (laidMet_of_run' 40 (by kernel_rfl) (by kernel_rfl)) (by kernel_rfl) (by kernel_rfl)
section
variable {H : Type} {enc : TypeId × Value → H} {W : World} {base : Nat} {held : Bool} {v : Value} {d : DataW H} {p : List MemPlace}
end
end Go.Proofs.YtjjndkenddigiaaDoor

namespace Go.Proofs.YtjjndkenddigiaaDoor
open Go Go.T Go.RowKit Go.ChangeShapes Go.WideShapes Go.ChangeAt
theorem rdU8n : Rd Tryd.prog 5 U8 := ⟨by kernel_rfl, by decide, fun h => by
  obtain ⟨i, rfl, _⟩ := DataW.trod_int Tryd.underlying5 h
  exact ⟨i, rfl, trivial⟩⟩
section
variable {H : Type} {enc : TypeId × Value → H} {W : World} {base : Nat} {held : Bool} {v : Value} {d : DataW H} {p : List MemPlace}
set_option maxRecDepth 100000 in
theorem rd_u16 (hv : Value.okWide Tryd.prog W .any base 51 v) (h : DataW.Trod enc Tryd.prog W 0 (fun _ => true) held 51 v d p) : ∃ n : Int, (0 ≤ n ∧ n ≤ 65535) ∧ (Ty.int .u16 n).den W pubs v := by
  obtain ⟨n, rfl, _, _, hw⟩ := open_int Tryd.underlying51 hv h
  refine ⟨n, ?_, rfl⟩
  simp [Lit.wf, IntKind.wrap] at hw
  have e1 : IntKind.u16.min = 0 := rfl
  have e2 : IntKind.u16.max = 65535 := rfl
  omega
set_option maxRecDepth 100000 in
theorem rd_sack (hv : Value.okWide Tryd.prog W .any base 27 v) (h : DataW.Trod enc Tryd.prog W 0 (fun _ => true) held 27 v d p) : ∃ l, (Ty.sl U8 l).den W pubs v := by
  obtain ⟨a, len, cap, rfl⟩ := okWide_slice Tryd.underlying27 hv
  obtain ⟨n, hn⟩ := h
  exact rd_sl1 rdU8n Tryd.underlying27 (by simpa [Value.cells] using hn)
end
end Go.Proofs.YtjjndkenddigiaaDoor
