/- Lemmas: the program and the reference walked, plain laws. -/
import Derived.Test.YtjjndkenddigiaaDoorOd
namespace Go.Proofs.YtjjndkenddigiaaDoor
open Go Go.T
set_option maxHeartbeats 4000000
theorem mat_le : ∀ (t s : Byt), matN t s ≤ t.length ∧ matN t s ≤ s.length ∧ (∀ j, j < matN t s → nth t j = nth s j) ∧ (matN t s < s.length → matN t s = t.length ∨ nth t (matN t s) ≠ nth s (matN t s))
  | [], s => by unfold matN; exact ⟨Nat.zero_le _, Nat.zero_le _, fun j h => absurd h (Nat.not_lt_zero _), fun _ => .inl rfl⟩
  | x :: t, [] => by unfold matN; exact ⟨Nat.zero_le _, Nat.zero_le _, fun j h => absurd h (Nat.not_lt_zero _), fun h => absurd h (Nat.not_lt_zero _)⟩
  | x :: t, y :: s => by
    obtain ⟨h1, h2, h3, h4⟩ := mat_le t s
    unfold matN
    split
    · rename_i e
      refine ⟨Nat.succ_le_succ h1, Nat.succ_le_succ h2, fun j hj => ?_, fun h => ?_⟩
      · cases j with
        | zero => exact e
        | succ j => exact h3 j (by omega)
      · exact (h4 (by simpa using h)).imp (fun h => by simp [h]) (fun h => h)
    · rename_i e
      exact ⟨Nat.zero_le _, Nat.zero_le _, fun j h => absurd h (Nat.not_lt_zero _), fun _ => .inr e⟩
def prI (f : BForm) (t : Byt) : Bool := decide (runN f t = t.length) && wholeR (runP f t)
def prT (f : BForm) (t : Byt) : Ty := Ty.agg [Ty.when (prI f t) (Ty.sl I64 f.widths), Ty.when (prI f t) (Ty.int .i64 f.lines), Ty.when (prI f t) (Ty.sl BRowE (runP f t).read)]
def rrN (f : BForm) (t : Byt) (a : Nat) : Nat := min (runN f t) (a + colLen f f.widths.length)
def rrI (f : BForm) (t : Byt) (a : Nat) : Bool := decide (a + colLen f f.widths.length ≤ runN f t)
def rrT (f : BForm) (t : Byt) (a : Nat) (s : Bool) : Ty := Ty.agg [Ty.when (rrI f t a) (Ty.sl I64 (numsK f t a f.widths.length)), Ty.when (rrI f t a) (Ty.bool s)]
theorem ret_whenF {s t : Ty} (ho : s.one = true) : RetSub s (Ty.when false t) := fun _ _ _ _ hd => ⟨s.isOne ho hd, fun h => by cases h⟩
theorem ret_whenT {s t : Ty} (ho : s.one = true) (h : RetSub s t) : RetSub s (Ty.when true t) := fun w M v wf hd => ⟨s.isOne ho hd, fun _ => h w M v wf hd⟩
theorem rets_n : RetSubs [] [] := trivial
theorem rets_c {s t : Ty} {l l' : List Ty} (h : RetSub s t) (h' : RetSubs l l') : RetSubs (s :: l) (t :: l') := ⟨h, h'⟩
theorem rr_stop {f : BForm} {t : Byt} {a m : Nat} {s : Bool} (h : runN f t = m) (hm : m < a + colLen f f.widths.length) : rrT f t a s = Ty.agg [Ty.when false (Ty.sl I64 (numsK f t a f.widths.length)), Ty.when false (Ty.bool s)] ∧ rrN f t a = m ∧ rrI f t a = false := by
  have e : rrI f t a = false := decide_eq_false (by omega)
  exact ⟨by unfold rrT; rw [e], by unfold rrN; omega, e⟩
theorem rr_full {f : BForm} {t : Byt} {a : Nat} {s : Bool} (hl : a + colLen f f.widths.length ≤ t.length) (h : AccK f t (a + colLen f f.widths.length)) : rrT f t a s = Ty.agg [Ty.when true (Ty.sl I64 (numsK f t a f.widths.length)), Ty.when true (Ty.bool s)] ∧ rrN f t a = a + colLen f f.widths.length ∧ rrI f t a = true := by
  have hr := acc_run hl h
  have e : rrI f t a = true := decide_eq_true hr
  exact ⟨by unfold rrT; rw [e], by unfold rrN; omega, e⟩
theorem rr_c1 {x : UInt8} {d l : Bool} (h : ((decide ((x.toNat : Int) = 32) && !d) && !l) = true) : x = 32 ∧ d = false ∧ l = false := by
  simp only [Bool.and_eq_true, decide_eq_true_eq, Bool.not_eq_true'] at h
  exact ⟨(u8_eq (n := 32) (by decide)).1 h.1.1, h.1.2, h.2⟩
theorem rr_c2 {x : UInt8} {d l : Bool} (h : ((decide ((x.toNat : Int) ≥ 48) && decide ((x.toNat : Int) ≤ 57)) && ((decide ((x.toNat : Int) > 48) || d) || l)) = true) : (48 ≤ x.toNat ∧ x.toNat ≤ 57) ∧ (48 < x.toNat ∨ d = true ∨ l = true) := by
  simp only [Bool.and_eq_true, Bool.or_eq_true, decide_eq_true_eq] at h
  obtain ⟨⟨h1, h2⟩, h3⟩ := h
  refine ⟨⟨by omega, by omega⟩, ?_⟩
  rcases h3 with (h | h) | h
  · exact .inl (by omega)
  · exact .inr (.inl h)
  · exact .inr (.inr h)
theorem rr_no {f : BForm} {R P : Int} {l : List BRow} {s : Bool} {nums : List Int} {c k : Nat} {n : Int} {d : Bool} {x : UInt8} (h1 : ((decide ((x.toNat : Int) = 32) && !d) && !decide ((k : Int) = nth f.widths c - 1)) = false) (h2 : ((decide ((x.toNat : Int) ≥ 48) && decide ((x.toNat : Int) ≤ 57)) && ((decide ((x.toNat : Int) > 48) || d) || decide ((k : Int) = nth f.widths c - 1))) = false) :
    ¬ x ∈ canR f (rowP R P l s nums c k n d) := by
  rw [row_can]
  rintro (⟨rfl, rfl, h⟩ | ⟨⟨h3, h4⟩, h⟩)
  · rw [decide_eq_false h] at h1; exact absurd h1 (by decide)
  · have e1 : decide ((x.toNat : Int) ≥ 48) = true := decide_eq_true (by omega)
    have e2 : decide ((x.toNat : Int) ≤ 57) = true := decide_eq_true (by omega)
    rw [e1, e2] at h2
    simp only [Bool.and_true, Bool.true_and, Bool.or_eq_false_iff, decide_eq_false_iff_not] at h2
    rcases h with h | h | h
    · exact h2.1.1 (by omega)
    · rw [h] at h2; exact absurd h2.1.2 (by decide)
    · exact h2.2 h
theorem rr_bar {f : BForm} {t : Byt} {m : Nat} {R P : Int} {l : List BRow} {s : Bool} {nums : List Int} {c : Nat} (hst : rdK f t m = barP f R P l s nums c) (hm : m ≤ t.length) (ha : AccK f t m) (h : (decide ((m : Int) = (t.length : Int)) || !decide (((nth t m).toNat : Int) = 124)) = true) : runN f t = m := by
  simp only [Bool.or_eq_true, decide_eq_true_eq, Bool.not_eq_true', decide_eq_false_iff_not] at h
  rcases h with h | h
  · exact (run_end hm ha (by omega)).1
  · refine (run_stop hm ha fun hc => h ?_).1
    rw [hst, bar_can, List.mem_singleton] at hc
    rw [hc]; rfl
theorem rr_pass {f : BForm} {t : Byt} {m : Nat} {R P : Int} {l : List BRow} {s : Bool} {nums : List Int} {c : Nat} (hst : rdK f t m = barP f R P l s nums c) (hm : m ≤ t.length) (ha : AccK f t m) (h : (decide ((m : Int) = (t.length : Int)) || !decide (((nth t m).toNat : Int) = 124)) = false) : m + 1 ≤ t.length ∧ AccK f t (m + 1) := by
  simp only [Bool.or_eq_false_iff, decide_eq_false_iff_not, Bool.not_eq_false', decide_eq_true_eq] at h
  refine ⟨by omega, accK_succ ha ?_⟩
  rw [hst, bar_can, List.mem_singleton]
  exact (u8_eq (n := 124) (by decide)).1 h.2
theorem num_32 {b : Byt} {x : UInt8} (h : x = 32) : numK b = numK (b ++ [x]) ∧ digK b = digK (b ++ [x]) := by
  rw [numK_snoc, digK_snoc, if_pos h, h]; simp
theorem num_dg {b : Byt} {x : UInt8} (h : 48 ≤ x.toNat ∧ x.toNat ≤ 57) : 10 * numK b + (x.toNat : Int) - 48 = numK (b ++ [x]) ∧ true = digK (b ++ [x]) := by
  have hx : ¬ x = 32 := fun e => by subst e; have := h.1; exact absurd this (by decide)
  rw [numK_snoc, digK_snoc, if_neg hx]; simp [hx]; omega
theorem pubTy_rowE {A : As} {α : Type} {E : El α} {T tg : Nat} {xs ys : List α} (h : xs = ys) : PubTy A tg (.row E T tg xs) (.sl E ys) := h ▸ pubTy_row
theorem colLen_0 {f : BForm} : colLen f 0 = 0 := rfl
theorem col_0 {f : BForm} {t : Byt} {a : Nat} (h : a ≤ t.length) : a + colLen f 0 ≤ t.length := h
theorem acc_0 {f : BForm} {t : Byt} {a : Nat} (h : AccK f t a) : AccK f t (a + colLen f 0) := h
theorem numsK_0 {f : BForm} {t : Byt} {a : Nat} : numsK f t a 0 = [] := rfl
theorem numK_0 {t : Byt} {a : Nat} : 0 = numK (seg t a 0) := rfl
theorem digK_0 {t : Byt} {a : Nat} : false = digK (seg t a 0) := rfl
theorem colLen_s {f : BForm} {c : Nat} : colLen f (c + 1) = colLen f c + (nth f.widths c).toNat + 1 := rfl
theorem num_0 {f : BForm} {R P : Int} {l : List BRow} {s : Bool} {nums : List Int} {c k : Nat} {n : Int} {d : Bool} (h : RdrOk f (rowP R P l s nums c k n d)) : 0 ≤ n := h.n0
theorem num_1 {f : BForm} {R P : Int} {l : List BRow} {s : Bool} {nums : List Int} {c k : Nat} {n : Int} {d : Bool} (h : RdrOk f (rowP R P l s nums c k n d)) : n < ten (k : Int) := (h.beg rfl).2.2.1
attribute [local irreducible] rrT rrN rrI numK digK seg colLen numsK rowP barP colP runN rdK canR
attribute [local irreducible] dInt dBool dSl dPp dPtr dAgg dTup dClo dAny dEx dStr dGd dCells dVec dVs dRow dOp nth Tri Into TOps Ctr bodyPost Exit.then Exit.inBlock Code.wp Code.wpIn dWhen dPa dArr dMp dMap CtrG keepPost iterPost bodyPostM roundQ
set_option maxRecDepth 100000 in
theorem c_readRow (f : BForm) (hf : FormOk f) (t : Byt) (ht : t.length ≤ 1000000) (a : Nat) (s : Bool) (R P : Int) (l : List BRow) (ha : a ≤ t.length) (h0 : rdK f t a = rowP R P l s [] 0 0 0 false) (hac : AccK f t a) : Ctr Tryd.prog 81 [frmT f, Ty.str (bs t), Ty.int .i64 (a : Nat), Ty.bool s] (Ty.tup [rrT f t a s, Ty.int .i64 (rrN f t a : Nat), Ty.bool (rrI f t a)]) := by
  refine fn_intro Tryd.func81 rfl (by decide) Tryd.ntmps81 (by exact Nat.le_of_ble_eq_true rfl) fun w0 M0 => ?_
  have hfw := hf.n2
  refine t_seq ?_
  refine t_region ?_
  refine r_box_agg rfl ?_
  refine r_alloc rfl (by exact List.cons_ne_nil _ _) rfl ?_
  refine asI rfl ?_
  refine asB rfl ?_
  refine r_nil ?_
  refine i_then ?_
  refine t_seq ?_
  refine t_region ?_
  refine mvB rfl ?_
  refine r_build rfl rfl (by exact List.cons_ne_nil _ _) rfl (by repeat (first | exact (Parts.nil : Parts _ _ [] _) | (show Parts _ _ ((_, _) :: _) _; apply Parts.one; (· exact (rfl : _ = Ty.bool _)); (· exact rfl)))) (by exact (rfl : _ = some [_, _])) ?_
  refine r_alloc rfl (by exact List.cons_ne_nil _ _) rfl ?_
  refine r_storeN rfl rfl (by decide) rfl rfl rfl rfl rfl rfl ?_
  refine r_nil ?_
  refine i_then ?_
  refine t_seq ?_
  refine t_seq ?_
  refine t_region ?_
  refine asI rfl ?_
  refine r_nil ?_
  refine i_then ?_
  refine t_block ?_
  refine t_loop (fun (c : {c : Nat // c ≤ f.widths.length ∧ a + colLen f c ≤ t.length ∧ AccK f t (a + colLen f c)}) => live [(1, Ty.str (bs t)), (2, Ty.int .i64 ((a + colLen f c.1 : Nat) : Int)), (4, Ty.pp (frmTys f)), (8, Ty.ptr 9 0), (11, Ty.ptr 12 0), (12, Ty.int .i64 (c.1 : Nat))] [(9, Cont.cells 121 [Ty.ex (.slice none 0 0), Ty.bool false]), (12, Cont.cells 121 [Ty.row I64 3 110 (numsK f t a c.1), Ty.bool s])]) (fun c => f.widths.length - c.1) (⟨0, Nat.zero_le _, col_0 ha, acc_0 hac⟩) ?_ fun c => ?_
  · (refine Ent.mk' ?_ ?_ <;> (repeat' (first | exact allSub_zero | exact allTags_nil | exact subs_nil | refine allSub_succ' ?_ (Ty.sub_any _) | refine allSub_succ' ?_ (Ty.sub_refl _) | refine allTags_cons rfl (Cont.sub_refl _) ?_ | refine allTags_cons rfl (Cont.sub_subs ?_) ?_ | refine subs_cons ?_ (Ty.sub_refl _) | refine subs_cons ?_ ?_ | refine allSub_succ' ?_ ?_)))
    all_goals first | exact Ty.sub_int (congrArg (fun m : Nat => ((a + m : Nat) : Int)) colLen_0).symm | (dsimp only; rw [numsK_0]; exact Ty.nil_row)
  ·
    have hc0 := c.2.1
    have hc1' := c.2.2.1
    have hnl := numsK_len (f := f) (t := t) (a := a) (c := c.1)
    refine t_seq ?_
    refine t_seq ?_
    refine t_region ?_
    refine mvI rfl ?_
    refine r_field_pp rfl rfl rfl rfl rfl (by decide) ?_
    refine r_load_pp rfl rfl rfl rfl ?_
    refine r_len rfl rfl rfl ?_
    refine r_bin rfl rfl rfl ?_
    refine r_nil ?_
    refine i_then ?_
    refine t_cond_dec rfl (fun hc1 => ?_) (fun hc1 => ?_)
    ·
      refine t_skip ?_
      refine i_then ?_
      refine t_seq ?_
      refine t_block ?_
      refine t_seq ?_
      have hcw : c.1 < f.widths.length := by omega
      have hst := col_head hf h0 hcw c.2.2.1
      have hwid := nth_wid hf hcw
      have hcl : colLen f (c.1 + 1) ≤ colLen f f.widths.length := colLen_le hcw
      have hce : colLen f (c.1 + 1) = colLen f c.1 + (nth f.widths c.1).toNat + 1 := colLen_s
      refine t_region ?_
      refine asI rfl ?_
      refine asB rfl ?_
      refine r_nil ?_
      refine i_then ?_
      refine t_seq ?_
      refine t_seq ?_
      refine t_region ?_
      refine asI rfl ?_
      refine r_nil ?_
      refine i_then ?_
      refine t_block ?_
      refine t_loop (fun (k : {k : Nat // (k : Int) ≤ nth f.widths c.1 ∧ a + colLen f c.1 + k ≤ t.length ∧ AccK f t (a + colLen f c.1 + k)}) => live [(1, Ty.str (bs t)), (2, Ty.int .i64 ((a + colLen f c.1 + k.1 : Nat) : Int)), (4, Ty.pp (frmTys f)), (8, Ty.ptr 9 0), (11, Ty.ptr 12 0), (12, Ty.int .i64 (c.1 : Nat)), (13, Ty.int .i64 (numK (seg t (a + colLen f c.1) k.1))), (14, Ty.bool (digK (seg t (a + colLen f c.1) k.1))), (15, Ty.int .i64 (k.1 : Nat))] [(9, Cont.cells 121 [Ty.ex (.slice none 0 0), Ty.bool false]), (12, Cont.cells 121 [Ty.row I64 3 110 (numsK f t a c.1), Ty.bool s])]) (fun k => (nth f.widths c.1).toNat - k.1) (⟨0, by omega, c.2.2.1, c.2.2.2⟩) ?_ fun k => ?_
      · (refine Ent.mk' ?_ ?_ <;> (repeat' (first | exact allSub_zero | exact allTags_nil | refine allSub_succ' ?_ (Ty.sub_any _) | refine allSub_succ' ?_ (Ty.sub_refl _) | refine allTags_cons rfl (Cont.sub_refl _) ?_ | refine allSub_succ' ?_ ?_)))
        all_goals first | exact Ty.sub_int numK_0 | exact Ty.sub_bool digK_0
      ·
        have hk0 := k.2.1
        have hk1 := k.2.2.1
        refine t_seq ?_
        refine t_seq ?_
        refine t_region ?_
        refine mvI rfl ?_
        refine r_field_pp rfl rfl rfl rfl rfl (by decide) ?_
        refine r_load_pp rfl rfl rfl rfl ?_
        refine mvI rfl ?_
        refine r_index_slN rfl rfl rfl rfl rfl rfl (by omega) ?_
        refine r_load_pp rfl rfl rfl rfl ?_
        refine r_bin rfl rfl rfl ?_
        refine r_nil ?_
        refine i_then ?_
        refine t_cond_dec rfl (fun hc2 => ?_) (fun hc2 => ?_)
        ·
          refine t_skip ?_
          refine i_then ?_
          refine t_seq ?_
          refine t_block ?_
          refine t_seq ?_
          refine t_seq ?_
          have hkw : (k.1 : Int) < nth f.widths c.1 := by omega
          have hin := col_in hst k.1 hkw k.2.2.1
          have hok := rdK_ok hf k.2.2.1 k.2.2.2
          rw [hin] at hok
          have hn0 := num_0 hok
          have hn1 := num_1 hok
          have hten := ten_small (k := k.1) (by omega)
          refine t_region ?_
          refine mvI rfl ?_
          refine mvS' rfl ?_
          refine r_lenS rfl rfl rfl ?_
          refine r_bin rfl rfl rfl ?_
          refine r_nil ?_
          refine i_then ?_
          refine t_cond_dec rfl (fun hc3 => ?_) (fun hc3 => ?_)
          ·
            refine t_seq ?_
            have hrr := rr_stop (s := s) (run_end (f := f) k.2.2.1 k.2.2.2 (by omega)).1 (show a + colLen f c.1 + k.1 < a + colLen f f.widths.length by omega)
            refine t_region ?_
            refine r_load_ptrN rfl rfl (by decide) rfl rfl (by exact Nat.le_of_ble_eq_true rfl) ?_
            refine mvI rfl ?_
            refine r_storeN rfl rfl (by decide) rfl rfl rfl rfl rfl rfl ?_
            refine asI rfl ?_
            refine asB rfl ?_
            refine r_nil ?_
            refine i_then ?_
            refine t_ret ?_
            refine i_then_ret ?_
            refine i_block_ret ?_
            refine i_then_ret ?_
            refine i_then_ret ?_
            refine i_block_ret ?_
            refine i_then_ret ?_
            refine i_block_ret ?_
            refine i_then_ret ?_
            refine i_then_ret ?_
            refine i_block_ret ?_
            refine i_then_ret ?_
            refine i_rcell3 rfl rfl rfl rfl rfl rfl (by decide) rfl rfl rfl ?_ ?_ ?_
            all_goals skip
            all_goals first | (rw [hrr.1]; exact ret_agg (rets_c (ret_whenF rfl) (rets_c (ret_whenF rfl) rets_n))) | exact ret_eq rfl rfl (congrArg (fun m : Nat => Ty.int .i64 (m : Int)) hrr.2.1.symm) | exact ret_eq rfl rfl (congrArg Ty.bool hrr.2.2.symm)
          ·
            refine t_skip ?_
            refine i_then ?_
            refine t_seq ?_
            have hlt : a + colLen f c.1 + k.1 < t.length := by omega
            have hsg := seg_succ hlt
            refine t_draw mixed rfl ?_
            refine mvS' rfl ?_
            refine mvI rfl ?_
            refine r_idxS (i := a + colLen f c.1 + k.1) rfl rfl rfl rfl hlt ?_
            refine mvI rfl ?_
            refine r_field_pp rfl rfl rfl rfl rfl (by decide) ?_
            refine r_load_pp rfl rfl rfl rfl ?_
            refine mvI rfl ?_
            refine r_index_slN rfl rfl rfl rfl rfl rfl (by omega) ?_
            refine r_load_pp rfl rfl rfl rfl ?_
            refine r_sub rfl rfl (by omega) (by omega) ?_
            refine r_bin rfl rfl rfl ?_
            refine asI rfl ?_
            refine asB rfl ?_
            refine r_nil ?_
            refine ⟨by kernel_rfl, ?_⟩
            refine i_then ?_
            refine t_seq ?_
            refine t_block ?_
            refine t_seq ?_
            refine t_region ?_
            refine mvI rfl ?_
            refine r_bin rfl rfl rfl ?_
            refine mvB rfl ?_
            apply r_guard (s := 58) rfl rfl rfl
            · intro hg; apply opT_of; (refine mvB rfl ?_); refine r_nil ?_; exact rfl
            · exact rfl
            · exact rfl
            apply r_guard (s := 58) rfl rfl rfl
            · intro hg; apply opT_strip (s := 59) rfl (by (rw [hg]; rfl)); apply opT_of; (refine r_not rfl ?_); refine r_nil ?_; exact rfl
            · exact rfl
            · exact rfl
            refine r_and rfl rfl ?_
            refine mvB rfl ?_
            apply r_guard (s := 62) rfl rfl rfl
            · intro hg; apply opT_of; (refine mvB rfl ?_); refine r_nil ?_; exact rfl
            · exact rfl
            · exact rfl
            apply r_guard (s := 62) rfl rfl rfl
            · intro hg; apply opT_strip (s := 63) rfl (by (rw [hg]; rfl)); apply opT_of; (refine r_not rfl ?_); refine r_nil ?_; exact rfl
            · exact rfl
            · exact rfl
            refine r_and rfl rfl ?_
            refine asB rfl ?_
            refine r_nil ?_
            refine i_then ?_
            refine t_cond rfl (fun hc4 => ?_) (fun hc4 => ?_)
            ·
              refine t_skip ?_
              refine i_block ?_
              refine i_then ?_
              have hcan : nth t (a + colLen f c.1 + k.1) ∈ canR f (rdK f t (a + colLen f c.1 + k.1)) := by
                first
                | exact hcan
                | (rw [hin, row_can]; exact .inl ⟨(rr_c1 hc4).1, (rr_c1 hc4).2.1, of_decide_eq_false (rr_c1 hc4).2.2⟩)
              refine t_region ?_
              refine mvI rfl ?_
              refine r_add rfl rfl (by omega) (by omega) ?_
              refine asI rfl ?_
              refine r_nil ?_
              refine i_block ?_
              refine i_then ?_
              refine t_region ?_
              refine mvI rfl ?_
              refine r_add rfl rfl (by omega) (by omega) ?_
              refine asI rfl ?_
              refine r_nil ?_
              refine i_round (⟨k.1 + 1, by omega, by omega, accK_succ k.2.2.2 hcan⟩) ?_ (by show (nth f.widths c.1).toNat - (k.1 + 1) < (nth f.widths c.1).toNat - k.1; omega)
              (refine Ent.mk' ?_ ?_ <;> (repeat' (first | exact allSub_zero | exact allTags_nil | refine allSub_succ' ?_ (Ty.sub_any _) | refine allSub_succ' ?_ (Ty.sub_refl _) | refine allTags_cons rfl (Cont.sub_refl _) ?_ | refine allSub_succ' ?_ ?_)))
              all_goals skip
              all_goals first | exact Ty.sub_int (by rw [hsg]; exact (num_32 (rr_c1 hc4).1).1) | exact Ty.sub_bool (by rw [hsg]; exact (num_32 (rr_c1 hc4).1).2)
            ·
              refine t_seq ?_
              refine t_region ?_
              refine mvI rfl ?_
              refine r_bin rfl rfl rfl ?_
              refine mvB rfl ?_
              apply r_guard (s := 69) rfl rfl rfl
              · intro hg; apply opT_of; (refine mvI rfl ?_); refine r_nil ?_; exact rfl
              · exact rfl
              · exact rfl
              apply r_guard (s := 69) rfl rfl rfl
              · intro hg; apply opT_strip (s := 70) rfl (by (rw [hg]; rfl)); apply opT_of; (refine r_bin rfl rfl rfl ?_); refine r_nil ?_; exact rfl
              · exact rfl
              · exact rfl
              refine r_and rfl rfl ?_
              refine mvB rfl ?_
              apply r_guard (s := 73) rfl rfl rfl
              · intro hg; apply opT_of; (refine mvI rfl ?_); refine r_nil ?_; exact rfl
              · exact rfl
              · exact rfl
              apply r_guard (s := 73) rfl rfl rfl
              · intro hg; apply opT_strip (s := 74) rfl (by (rw [hg]; rfl)); apply opT_of; (refine r_bin rfl rfl rfl ?_); refine r_nil ?_; exact rfl
              · exact rfl
              · exact rfl
              apply r_guard (s := 73) rfl rfl rfl
              · intro hg; apply opT_strip (s := 75) rfl (by (rw [hg]; rfl)); apply opT_of; (refine mvB rfl ?_); refine r_nil ?_; exact rfl
              · exact rfl
              · exact rfl
              apply r_guardG (s := 76) rfl rfl rfl
              · intro hg1 hg2; apply opT_of; (refine mvB rfl ?_); refine r_nil ?_; exact rfl
              · exact rfl
              · exact rfl
              apply r_guard (s := 73) rfl rfl rfl
              · intro hg; apply opT_strip (s := 76) rfl (by (rw [hg]; rfl)); apply opT_stripG (s := 77) rfl (by (rw [hg]; rfl)); apply opT_of; (refine r_or rfl rfl ?_); refine r_nil ?_; exact rfl
              · exact rfl
              · exact rfl
              apply r_guard (s := 73) rfl rfl rfl
              · intro hg; apply opT_strip (s := 78) rfl (by (rw [hg]; rfl)); apply opT_of; (refine mvB rfl ?_); refine r_nil ?_; exact rfl
              · exact rfl
              · exact rfl
              apply r_guardG (s := 79) rfl rfl rfl
              · intro hg1 hg2; apply opT_of; (refine mvB rfl ?_); refine r_nil ?_; exact rfl
              · exact rfl
              · exact rfl
              apply r_guard (s := 73) rfl rfl rfl
              · intro hg; apply opT_strip (s := 79) rfl (by (rw [hg]; rfl)); apply opT_stripG (s := 80) rfl (by (rw [hg]; rfl)); apply opT_of; (refine r_or rfl rfl ?_); refine r_nil ?_; exact rfl
              · exact rfl
              · exact rfl
              refine r_and rfl rfl ?_
              refine asB rfl ?_
              refine r_nil ?_
              refine i_then ?_
              refine t_cond rfl (fun hc5 => ?_) (fun hc5 => ?_)
              ·
                have hdg := rr_c2 hc5
                have hcan : nth t (a + colLen f c.1 + k.1) ∈ canR f (rdK f t (a + colLen f c.1 + k.1)) := by rw [hin, row_can]; exact .inr ⟨hdg.1, hdg.2.imp id (Or.imp id of_decide_eq_true)⟩
                refine t_region ?_
                refine mvI rfl ?_
                refine r_mul rfl rfl (by omega) (by omega) ?_
                refine mvI rfl ?_
                refine r_convK rfl rfl rfl rfl (IntWalk.i64_in ((nth t (a + colLen f c.1 + k.1)).toNat : Int) (by omega)) ?_
                refine r_add rfl rfl (by omega) (by omega) ?_
                refine r_sub rfl rfl (by omega) (by omega) ?_
                refine asI rfl ?_
                refine asB rfl ?_
                refine r_nil ?_
                refine i_block ?_
                refine i_then ?_
                have hcan : nth t (a + colLen f c.1 + k.1) ∈ canR f (rdK f t (a + colLen f c.1 + k.1)) := by
                  first
                  | exact hcan
                  | (rw [hin, row_can]; exact .inl ⟨(rr_c1 hc4).1, (rr_c1 hc4).2.1, of_decide_eq_false (rr_c1 hc4).2.2⟩)
                refine t_region ?_
                refine mvI rfl ?_
                refine r_add rfl rfl (by omega) (by omega) ?_
                refine asI rfl ?_
                refine r_nil ?_
                refine i_block ?_
                refine i_then ?_
                refine t_region ?_
                refine mvI rfl ?_
                refine r_add rfl rfl (by omega) (by omega) ?_
                refine asI rfl ?_
                refine r_nil ?_
                refine i_round (⟨k.1 + 1, by omega, by omega, accK_succ k.2.2.2 hcan⟩) ?_ (by show (nth f.widths c.1).toNat - (k.1 + 1) < (nth f.widths c.1).toNat - k.1; omega)
                (refine Ent.mk' ?_ ?_ <;> (repeat' (first | exact allSub_zero | exact allTags_nil | refine allSub_succ' ?_ (Ty.sub_any _) | refine allSub_succ' ?_ (Ty.sub_refl _) | refine allTags_cons rfl (Cont.sub_refl _) ?_ | refine allSub_succ' ?_ ?_)))
                all_goals skip
                all_goals first | exact Ty.sub_int (by rw [hsg]; exact (num_dg hdg.1).1) | exact Ty.sub_bool (by rw [hsg]; exact (num_dg hdg.1).2)
              ·
                refine t_seq ?_
                have hrr := rr_stop (s := s) (run_stop k.2.2.1 k.2.2.2 (by rw [hin]; exact rr_no hc4 hc5)).1 (show a + colLen f c.1 + k.1 < a + colLen f f.widths.length by omega)
                refine t_region ?_
                refine r_load_ptrN rfl rfl (by decide) rfl rfl (by exact Nat.le_of_ble_eq_true rfl) ?_
                refine mvI rfl ?_
                refine r_storeN rfl rfl (by decide) rfl rfl rfl rfl rfl rfl ?_
                refine asI rfl ?_
                refine asB rfl ?_
                refine r_nil ?_
                refine i_then ?_
                refine t_ret ?_
                refine i_block_ret ?_
                refine i_then_ret ?_
                refine i_block_ret ?_
                refine i_then_ret ?_
                refine i_then_ret ?_
                refine i_block_ret ?_
                refine i_then_ret ?_
                refine i_block_ret ?_
                refine i_then_ret ?_
                refine i_then_ret ?_
                refine i_block_ret ?_
                refine i_then_ret ?_
                refine i_rcell3 rfl rfl rfl rfl rfl rfl (by decide) rfl rfl rfl ?_ ?_ ?_
                all_goals skip
                all_goals first | (rw [hrr.1]; exact ret_agg (rets_c (ret_whenF rfl) (rets_c (ret_whenF rfl) rets_n))) | exact ret_eq rfl rfl (congrArg (fun m : Nat => Ty.int .i64 (m : Int)) hrr.2.1.symm) | exact ret_eq rfl rfl (congrArg Ty.bool hrr.2.2.symm)
        ·
          refine t_exit ?_
          refine i_then_exit ?_
          refine i_then_exit ?_
          refine i_block_exit rfl ?_
          refine i_then ?_
          refine t_seq ?_
          refine t_seq ?_
          have hkw : k.1 = (nth f.widths c.1).toNat := by omega
          have hbst := col_end hst hwid.1 (by omega)
          refine t_region ?_
          refine mvI rfl ?_
          refine mvS' rfl ?_
          refine r_lenS rfl rfl rfl ?_
          refine r_bin rfl rfl rfl ?_
          refine mvB rfl ?_
          apply r_guard (s := 95) rfl rfl rfl
          · intro hg; apply opT_of; (refine mvS' rfl ?_); refine r_nil ?_; exact rfl
          · exact rfl
          · exact rfl
          apply r_guard (s := 95) rfl rfl rfl
          · intro hg; apply opT_of; (refine mvI rfl ?_); refine r_nil ?_; exact rfl
          · exact rfl
          · exact rfl
          apply r_guard (s := 95) rfl rfl rfl
          · intro hg; apply opT_strip (s := 96) rfl (by (rw [hg]; rfl)); apply opT_strip (s := 97) rfl (by (rw [hg]; rfl)); apply opT_of; (refine r_idxS (i := a + colLen f c.1 + k.1) rfl rfl rfl rfl (by simp at hg; omega) ?_); refine r_nil ?_; exact rfl
          · exact rfl
          · exact rfl
          apply r_guard (s := 95) rfl rfl rfl
          · intro hg; apply opT_strip (s := 98) rfl (by (rw [hg]; rfl)); apply opT_of; (refine r_bin rfl rfl rfl ?_); refine r_nil ?_; exact rfl
          · exact rfl
          · exact rfl
          refine r_or rfl rfl ?_
          refine r_nil ?_
          refine i_then ?_
          refine t_cond rfl (fun hc6 => ?_) (fun hc6 => ?_)
          ·
            refine t_seq ?_
            rw [← hkw] at hbst
            have hrr := rr_stop (s := s) (rr_bar hbst k.2.2.1 k.2.2.2 hc6) (show a + colLen f c.1 + k.1 < a + colLen f f.widths.length by omega)
            refine t_region ?_
            refine r_load_ptrN rfl rfl (by decide) rfl rfl (by exact Nat.le_of_ble_eq_true rfl) ?_
            refine mvI rfl ?_
            refine r_storeN rfl rfl (by decide) rfl rfl rfl rfl rfl rfl ?_
            refine asI rfl ?_
            refine asB rfl ?_
            refine r_nil ?_
            refine i_then ?_
            refine t_ret ?_
            refine i_then_ret ?_
            refine i_block_ret ?_
            refine i_then_ret ?_
            refine i_then_ret ?_
            refine i_block_ret ?_
            refine i_then_ret ?_
            refine i_rcell3 rfl rfl rfl rfl rfl rfl (by decide) rfl rfl rfl ?_ ?_ ?_
            all_goals skip
            all_goals first | (rw [hrr.1]; exact ret_agg (rets_c (ret_whenF rfl) (rets_c (ret_whenF rfl) rets_n))) | exact ret_eq rfl rfl (congrArg (fun m : Nat => Ty.int .i64 (m : Int)) hrr.2.1.symm) | exact ret_eq rfl rfl (congrArg Ty.bool hrr.2.2.symm)
          ·
            refine t_skip ?_
            refine i_then ?_
            refine t_seq ?_
            rw [← hkw] at hbst
            have hbp : a + colLen f (c.1 + 1) ≤ t.length ∧ AccK f t (a + colLen f (c.1 + 1)) := by
              have := rr_pass hbst k.2.2.1 k.2.2.2 hc6
              rw [show a + colLen f (c.1 + 1) = a + colLen f c.1 + k.1 + 1 by omega]; exact this
            have hns : numsK f t a (c.1 + 1) = numsK f t a c.1 ++ [numK (seg t (a + colLen f c.1) k.1)] := by rw [hkw]; exact numsK_succ
            refine t_region ?_
            refine mvI rfl ?_
            refine r_add rfl rfl (by omega) (by omega) ?_
            refine asI rfl ?_
            refine r_nil ?_
            refine i_then ?_
            refine t_region ?_
            refine r_field_ptr rfl rfl rfl rfl rfl (by decide) ?_
            refine r_load_ptr rfl rfl (by decide) rfl rfl rfl ?_
            refine mvI rfl ?_
            refine r_buildSlice (E := I64) (xs := [numK (seg t (a + colLen f c.1) k.1)]) rfl rfl rfl rfl rfl (by decide) (by decide) (by repeat (first | exact (Parts.nil : Parts _ _ [] _) | (show Parts _ _ ((_, _) :: _) _; apply Parts.one; (· exact (rfl : _ = Ty.int _ _)); (· exact rfl)))) (by exact rfl) rfl ?_
            refine r_append rfl rfl (by decide) rfl rfl rfl rfl rfl rfl (by decide) (by (simp <;> omega)) (by (simp <;> omega)) ?_
            refine r_field_ptr rfl rfl rfl rfl rfl (by decide) ?_
            refine r_store1 rfl rfl (by decide) rfl rfl (by exact (rfl : _ = Ty.row _ _ _ _)) rfl (by exact Nat.le_of_ble_eq_true rfl) rfl rfl (by exact rfl) ?_
            refine r_nil ?_
            refine i_block ?_
            refine i_then ?_
            refine t_region ?_
            refine mvI rfl ?_
            refine r_add rfl rfl (by omega) (by omega) ?_
            refine asI rfl ?_
            refine r_nil ?_
            refine i_round (⟨c.1 + 1, hcw, hbp.1, hbp.2⟩) ?_ (by show f.widths.length - (c.1 + 1) < f.widths.length - c.1; omega)
            (refine Ent.mk' ?_ ?_ <;> (repeat' (first | exact allSub_zero | exact allTags_nil | exact subs_nil | refine allSub_succ' ?_ (Ty.sub_any _) | refine allSub_succ' ?_ (Ty.sub_refl _) | refine allTags_cons rfl (Cont.sub_refl _) ?_ | refine allTags_cons rfl (Cont.sub_subs ?_) ?_ | refine subs_cons ?_ (Ty.sub_refl _) | refine subs_cons ?_ ?_ | refine allSub_succ' ?_ ?_)))
            all_goals skip
            all_goals first | exact Ty.sub_row hns.symm | exact Ty.sub_int (by rw [hce]; omega)
    ·
      refine t_exit ?_
      refine i_then_exit ?_
      refine i_then_exit ?_
      refine i_block_exit rfl ?_
      refine i_then ?_
      refine t_seq ?_
      have hcW : c.1 = f.widths.length := by omega
      have hrr := rr_full (f := f) (t := t) (a := a) (s := s) (by rw [← hcW]; exact c.2.2.1) (by rw [← hcW]; exact c.2.2.2)
      refine t_pubC (tg := 110) [] [(12, Cont.cells 121 (BRowE.tys ⟨numsK f t a f.widths.length, s⟩))] (by decide) rfl trivial ⟨pubC_cells rfl rfl ⟨pubTy_rowE (by rw [hcW]), pubTy_same rfl, trivial⟩, trivial⟩ ?_
      refine t_region ?_
      refine r_load_ptrN rfl rfl (by decide) rfl rfl (by exact Nat.le_of_ble_eq_true rfl) ?_
      refine mvI rfl ?_
      refine r_storeN rfl rfl (by decide) rfl rfl rfl rfl rfl rfl ?_
      refine asI rfl ?_
      refine asB rfl ?_
      refine r_nil ?_
      refine i_then ?_
      refine t_ret ?_
      refine i_rcell3 rfl rfl rfl rfl rfl rfl (by decide) rfl rfl rfl ?_ ?_ ?_
      all_goals skip
      all_goals first | exact ret_eq rfl rfl (congrArg Ty.bool hrr.2.2.symm) | (rw [hrr.1]; exact ret_agg (rets_c (ret_whenT rfl (ret_refl rfl rfl)) (rets_c (ret_whenT rfl (ret_refl rfl rfl)) rets_n))) | exact ret_eq rfl rfl (congrArg (fun m : Nat => Ty.int .i64 (m : Int)) ((congrArg (fun m => a + colLen f m) hcW).trans hrr.2.1.symm))
end Go.Proofs.YtjjndkenddigiaaDoor

namespace Go.Proofs.YtjjndkenddigiaaDoor
open Go Go.T
set_option maxHeartbeats 4000000
theorem pr_no1 {f : BForm} {t : Byt} (h : wholeR (runP f t) = false) : prI f t = false := by unfold prI; rw [h, Bool.and_false]
theorem pr_no2 {f : BForm} {t : Byt} {m : Nat} (h : runN f t = m) (h2 : m < t.length) : prI f t = false := by unfold prI; rw [decide_eq_false (by omega), Bool.false_and]
structure HeadR (p : Rdr) : Prop where
  must : p.must = []
  begun : p.begun = false
  closed : p.closed = false
  none : p.read = [] → p.fresh = true
  page : 0 < p.page → p.read ≠ []
theorem head_0 : HeadR Rdr.new := ⟨rfl, rfl, rfl, fun _ => rfl, fun h => absurd h (by decide)⟩
theorem head_not {p : Rdr} (hh : HeadR p) : wholeR p = false := by unfold wholeR; rw [hh.closed]; rfl
theorem head_len {f : BForm} {p : Rdr} (hh : HeadR p) (ho : RdrOk f p) : (p.read.length : Int) = p.rows := by
  have := ho.few
  rw [if_neg (ng hh.begun)] at this; omega
theorem head_rows {f : BForm} {p : Rdr} (hh : HeadR p) (ho : RdrOk f p) : ∀ r ∈ p.read, RowOk f r := fun r hr => by
  obtain ⟨k, hk, e⟩ := List.getElem_of_mem hr
  have h := ho.done k (by have := head_len hh ho; omega)
  rwa [show nth p.read k = r by simp [nth, hk, e]] at h
theorem head_12 {f : BForm} {p : Rdr} (hh : HeadR p) (ho : RdrOk f p) : p.read.length ≤ 12 := by
  have := head_len hh ho; have := ho.r1; omega
theorem head_can {f : BForm} {p : Rdr} {x : UInt8} (hh : HeadR p) (ho : RdrOk f p) : x ∈ canR f p ↔ ((x = 32 ∨ x = 45) ∧ p.page < f.lines ∧ p.read.length < 12) ∨ (x = 61 ∧ (0 < p.page ∨ p.read.length = 0)) := by
  have e : canR f p = (if p.page < f.lines ∧ p.rows < 12 then [32, 45] else []) ++ (if p.page > 0 ∨ p.fresh = true then [61] else []) := by
    unfold canR
    rw [hh.must, if_neg (ng hh.begun), if_neg (ng hh.closed)]
  have hl := head_len hh ho
  rw [e, List.mem_append]
  refine or_congr ?_ ?_
  · by_cases h : p.page < f.lines ∧ p.rows < 12
    · rw [if_pos h]; exact ⟨fun hx => ⟨by simpa using hx, h.1, by omega⟩, fun hx => by simpa using hx.1⟩
    · rw [if_neg h]; exact ⟨fun hx => absurd hx List.not_mem_nil, fun hx => absurd ⟨hx.2.1, by omega⟩ h⟩
  · have h2 : p.fresh = true ↔ p.read.length = 0 := by
      refine ⟨fun h => ?_, fun h => hh.none (List.length_eq_zero_iff.1 h)⟩
      unfold Rdr.fresh at h
      simp only [Bool.and_eq_true, decide_eq_true_eq] at h
      omega
    by_cases h : p.page > 0 ∨ p.read.length = 0
    · rw [if_pos (h.imp id h2.2)]; exact ⟨fun hx => ⟨List.mem_singleton.1 hx, h⟩, fun hx => List.mem_singleton.2 hx.1⟩
    · rw [if_neg (fun e => h (e.imp id h2.1))]; exact ⟨fun hx => absurd hx List.not_mem_nil, fun hx => absurd hx.2 h⟩
theorem head_61 {f : BForm} {p : Rdr} (hh : HeadR p) : nextR f p 61 = { { p with closed := true } with must := lineB f p.read } := next_e hh.must hh.begun rfl
theorem head_row {f : BForm} {p : Rdr} {x : UInt8} (hh : HeadR p) (ho : RdrOk f p) (h : x = 32 ∨ x = 45) : nextR f p x = rowP p.rows p.page p.read (decide ((x.toNat : Int) = 45)) [] 0 0 0 false := by
  rw [next_r hh.must hh.begun (by rcases h with rfl | rfl <;> decide) (by rcases h with rfl | rfl <;> decide)]
  obtain ⟨_, h2, h3⟩ := ho.idle hh.begun
  have h4 := hh.closed
  have h5 := hh.must
  unfold rowP
  cases p
  simp_all
section
variable {f : BForm} {t : Byt} {a : Nat}
theorem must_line {q : Rdr} {m : Byt} (hr : rdK f t a = { q with must := m }) (hac : AccK f t a) (ha : a ≤ t.length) :
    a + matN (t.drop a) m ≤ t.length ∧ matN (t.drop a) m ≤ m.length ∧ AccK f t (a + matN (t.drop a) m) ∧ (matN (t.drop a) m < m.length → runN f t = a + matN (t.drop a) m ∧ wholeR (runP f t) = false) ∧ (¬ matN (t.drop a) m < m.length → rdK f t (a + matN (t.drop a) m) = { q with must := [] }) := by
  obtain ⟨h1, h2, h3, h4⟩ := mat_le (t.drop a) m
  generalize matN (t.drop a) m = n at *
  rw [List.length_drop] at h1
  have hl : a + n ≤ t.length := by omega
  obtain ⟨g1, g2⟩ := must_at n hr hac hl h2 fun j hj => by rw [← h3 j hj, nth_drop]
  refine ⟨hl, h2, g1, fun hn => ?_, fun hn => ?_⟩
  · have key : runN f t = a + n ∧ runP f t = rdK f t (a + n) := by
      rcases h4 hn with h | h
      · rw [List.length_drop] at h
        exact run_end hl g1 (by omega)
      · refine run_stop hl g1 fun hc => h ?_
        rw [g2, must_can hn, List.mem_singleton] at hc
        rw [nth_drop, hc]
    exact ⟨key.1, by rw [key.2, g2]; exact must_not hn⟩
  · rw [g2, List.drop_of_length_le (by omega)]
theorem mat_cons {x : UInt8} {m : Byt} (ha : a < t.length) (hx : nth t a = x) : matN (t.drop a) ([x] ++ m) = matN (t.drop (a + 1)) m + 1 := by
  rw [drop_nth ha]
  show (if nth t a = x then _ else _) = _
  rw [if_pos hx]; rfl
theorem line_go {q : Rdr} {x : UInt8} {m : Byt} (ha : a < t.length) (hac : AccK f t a) (hx : nth t a = x) (hc : x ∈ canR f (rdK f t a)) (hn : nextR f (rdK f t a) x = { q with must := m }) :
    a + matN (t.drop a) ([x] ++ m) ≤ t.length ∧ AccK f t (a + matN (t.drop a) ([x] ++ m)) ∧ (matN (t.drop a) ([x] ++ m) < ([x] ++ m).length → runN f t = a + matN (t.drop a) ([x] ++ m) ∧ wholeR (runP f t) = false) ∧ (¬ matN (t.drop a) ([x] ++ m) < ([x] ++ m).length → rdK f t (a + matN (t.drop a) ([x] ++ m)) = { q with must := [] }) := by
  have hr : rdK f t (a + 1) = { q with must := m } := by rw [rdK_succ ha, hx, hn]
  obtain ⟨h1, h2, h3, h4, h5⟩ := must_line hr (accK_succ hac (by rw [hx]; exact hc)) (by omega)
  rw [mat_cons ha hx]
  have e : a + (matN (t.drop (a + 1)) m + 1) = a + 1 + matN (t.drop (a + 1)) m := by omega
  have el : ([x] ++ m).length = m.length + 1 := by simp
  rw [e, el]
  exact ⟨h1, h3, fun h => h4 (by omega), fun h => h5 (by omega)⟩
theorem eq_line (ha : a < t.length) (hac : AccK f t a) (hh : HeadR (rdK f t a)) (ho : RdrOk f (rdK f t a)) (hx : nth t a = 61) (hp : 0 < (rdK f t a).page ∨ (rdK f t a).read.length = 0) :
    a + matN (t.drop a) ([61] ++ lineB f (rdK f t a).read) ≤ t.length ∧ AccK f t (a + matN (t.drop a) ([61] ++ lineB f (rdK f t a).read)) ∧ (matN (t.drop a) ([61] ++ lineB f (rdK f t a).read) < ([61] ++ lineB f (rdK f t a).read).length → runN f t = a + matN (t.drop a) ([61] ++ lineB f (rdK f t a).read) ∧ prI f t = false) ∧
    (¬ matN (t.drop a) ([61] ++ lineB f (rdK f t a).read) < ([61] ++ lineB f (rdK f t a).read).length → rdK f t (a + matN (t.drop a) ([61] ++ lineB f (rdK f t a).read)) = { rdK f t a with closed := true }) := by
  obtain ⟨h1, h2, h3, h4⟩ := line_go (q := { rdK f t a with closed := true }) ha hac hx ((head_can hh ho).2 (.inr ⟨rfl, hp⟩)) (head_61 hh)
  refine ⟨h1, h2, fun h => ⟨(h3 h).1, pr_no1 (h3 h).2⟩, fun h => (h4 h).trans ?_⟩
  have := hh.must
  cases hq : rdK f t a
  rw [hq] at this
  simp_all
theorem foot_can {p : Rdr} (hh : HeadR p) : canR f { p with closed := true } = if p.page = f.lines ∧ p.rows < 12 then [43] else [] := by
  unfold canR
  rw [show ({ p with closed := true } : Rdr).must = [] from hh.must]
  show (if p.begun then _ else if true then _ else _) = _
  rw [if_neg (ng hh.begun), if_pos rfl]
theorem foot_end {b : Nat} (hh : HeadR (rdK f t a)) (hb : b ≤ t.length) (hac : AccK f t b) (hr : rdK f t b = { rdK f t a with closed := true }) (he : (b : Int) = (t.length : Int)) : runN f t = b ∧ prI f t = true ∧ (runP f t).read = (rdK f t a).read := by
  obtain ⟨h1, h2⟩ := run_end hb hac (by omega)
  refine ⟨h1, ?_, by rw [h2, hr]⟩
  unfold prI
  rw [h2, hr, decide_eq_true (by omega : runN f t = t.length), Bool.true_and]
  unfold wholeR
  show (true && (rdK f t a).must.isEmpty) = true
  rw [hh.must]; rfl
theorem foot_stop {b : Nat} (hh : HeadR (rdK f t a)) (ho : RdrOk f (rdK f t a)) (hb : b ≤ t.length) (hac : AccK f t b) (hr : rdK f t b = { rdK f t a with closed := true }) (he : ¬ (b : Int) = (t.length : Int)) (h : (decide ((rdK f t a).page < f.lines) || decide (((rdK f t a).read.length : Int) = 12)) = true) : runN f t = b ∧ prI f t = false := by
  have h1 := (run_stop hb hac (by
    rw [hr, foot_can hh, if_neg]
    · exact List.not_mem_nil
    · have hl := head_len hh ho
      simp only [Bool.or_eq_true, decide_eq_true_eq] at h
      omega)).1
  exact ⟨h1, pr_no2 h1 (by omega)⟩
theorem plus_line {b : Nat} (hh : HeadR (rdK f t a)) (ho : RdrOk f (rdK f t a)) (hb : b ≤ t.length) (hac : AccK f t b) (hr : rdK f t b = { rdK f t a with closed := true }) (he : ¬ (b : Int) = (t.length : Int)) (h : (decide ((rdK f t a).page < f.lines) || decide (((rdK f t a).read.length : Int) = 12)) = false) :
    b + matN (t.drop b) ([43] ++ lineB f (rdK f t a).read) ≤ t.length ∧ AccK f t (b + matN (t.drop b) ([43] ++ lineB f (rdK f t a).read)) ∧ (matN (t.drop b) ([43] ++ lineB f (rdK f t a).read) < ([43] ++ lineB f (rdK f t a).read).length → runN f t = b + matN (t.drop b) ([43] ++ lineB f (rdK f t a).read) ∧ prI f t = false) ∧
    (¬ matN (t.drop b) ([43] ++ lineB f (rdK f t a).read) < ([43] ++ lineB f (rdK f t a).read).length → rdK f t (b + matN (t.drop b) ([43] ++ lineB f (rdK f t a).read)) = { rdK f t a with page := 0 }) := by
  have hl := head_len hh ho
  have hp1 := ho.p1
  have hr1 := ho.r1
  simp only [Bool.or_eq_false_iff, decide_eq_false_iff_not] at h
  have hcan : canR f (rdK f t b) = [43] := by rw [hr, foot_can hh, if_pos (by omega)]
  by_cases hx : nth t b = 43
  · have hn : nextR f (rdK f t b) 43 = { { rdK f t a with page := 0 } with must := lineB f (rdK f t a).read } := by
      rw [hr, next_p (show ({ rdK f t a with closed := true } : Rdr).must = [] from hh.must) (show ({ rdK f t a with closed := true } : Rdr).begun = false from hh.begun) rfl]
      have := hh.closed
      cases hq : rdK f t a
      rw [hq] at this
      simp_all
    obtain ⟨h1, h2, h3, h4⟩ := line_go (q := { rdK f t a with page := 0 }) (show b < t.length by omega) hac hx (by rw [hcan]; exact List.mem_singleton.2 rfl) hn
    refine ⟨h1, h2, fun h => ⟨(h3 h).1, pr_no1 (h3 h).2⟩, fun h => (h4 h).trans ?_⟩
    have := hh.must
    cases hq : rdK f t a
    rw [hq] at this
    simp_all
  · have e : matN (t.drop b) ([43] ++ lineB f (rdK f t a).read) = 0 := by
      rw [drop_nth (show b < t.length by omega)]
      show (if nth t b = 43 then _ else _) = _
      rw [if_neg hx]
    rw [e]
    have h1 := (run_stop hb hac (by rw [hcan, List.mem_singleton]; exact hx)).1
    exact ⟨hb, hac, fun _ => ⟨h1, pr_no2 h1 (by omega)⟩, fun h => absurd (show 0 < ([43] ++ lineB f (rdK f t a).read).length by simp) h⟩
theorem plus_head {b : Nat} (hf : FormOk f) (hh : HeadR (rdK f t a)) (ho : RdrOk f (rdK f t a)) (h : (decide ((rdK f t a).page < f.lines) || decide (((rdK f t a).read.length : Int) = 12)) = false) (hr : rdK f t b = { rdK f t a with page := 0 }) : HeadR (rdK f t b) := by
  have hp1 := ho.p1
  have hl1 := hf.l1
  simp only [Bool.or_eq_false_iff, decide_eq_false_iff_not] at h
  have hne := hh.page (by omega)
  rw [hr]
  exact ⟨hh.must, hh.begun, hh.closed, fun h => absurd h hne, fun h => absurd h (by show ¬ (0 : Int) < 0; omega)⟩
theorem find_col {A m : Nat} : ∀ C : Nat, A ≤ m → m < A + colLen f C → ∃ c k : Nat, c < C ∧ k ≤ (nth f.widths c).toNat ∧ m = A + colLen f c + k
  | 0, h1, h2 => by rw [colLen_0] at h2; omega
  | C + 1, h1, h2 => by
    by_cases h : m < A + colLen f C
    · obtain ⟨c, k, h3, h4, h5⟩ := find_col C h1 h
      exact ⟨c, k, by omega, h4, h5⟩
    · rw [colLen_s] at h2
      exact ⟨C, m - (A + colLen f C), by omega, by omega, by omega⟩
theorem row_stop {A : Nat} {R P : Int} {l : List BRow} {s : Bool} (hf : FormOk f) (h0 : rdK f t A = rowP R P l s [] 0 0 0 false) (hA : A ≤ t.length) (hac : AccK f t A) (h : rrI f t A = false) : runN f t = rrN f t A ∧ prI f t = false := by
  have h1 : ¬ A + colLen f f.widths.length ≤ runN f t := of_decide_eq_false h
  have h2 := acc_run hA hac
  have h3 := runN_len (f := f) (t := t)
  refine ⟨by unfold rrN; omega, ?_⟩
  by_cases hlt : runN f t < t.length
  · exact pr_no2 rfl hlt
  have he : runN f t = t.length := by omega
  have hre : runP f t = rdK f t t.length := (run_end (Nat.le_refl _) (by rw [← he]; exact run_acc) (by omega)).2
  obtain ⟨c, k, h4, h5, h6⟩ := find_col (f := f) (A := A) (m := t.length) f.widths.length (by omega) (by omega)
  have hst := col_head hf h0 h4 (by omega)
  refine pr_no1 ?_
  rw [hre]
  by_cases hk : k = (nth f.widths c).toNat
  · subst hk
    rw [h6, col_end hst (nth_wid hf h4).1 (by omega)]; exact bar_not
  · rw [h6, col_in hst k (by omega) (by omega)]; exact row_not
theorem row_full {A : Nat} {R P : Int} {l : List BRow} {s : Bool} (hf : FormOk f) (h0 : rdK f t A = rowP R P l s [] 0 0 0 false) (h : rrI f t A = true) :
    A + colLen f f.widths.length ≤ t.length ∧ AccK f t (A + colLen f f.widths.length) ∧ rrN f t A = A + colLen f f.widths.length ∧
    rdK f t (A + colLen f f.widths.length) = { ({ rows := R + 1, page := P + 1, begun := false, closed := false, column := f.widths.length, offset := 0, number := 0, digits := false, read := l ++ [⟨numsK f t A f.widths.length, s⟩], must := [] } : Rdr) with must := [letB f ⟨numsK f t A f.widths.length, s⟩, 10] } := by
  have h1 : A + colLen f f.widths.length ≤ runN f t := of_decide_eq_true h
  have h3 := runN_len (f := f) (t := t)
  have hl : A + colLen f f.widths.length ≤ t.length := by omega
  refine ⟨hl, acc_le run_acc h1, by unfold rrN; omega, ?_⟩
  rw [cols_at hf h0 _ (Nat.le_refl _) hl]
  unfold colP
  rw [if_pos rfl]
end
theorem page_0 {f : BForm} {t : Byt} : 0 = (rdK f t 0).page := rfl
theorem read_0 {f : BForm} {t : Byt} : (rdK f t 0).read = [] := rfl
theorem acc_00 {f : BForm} {t : Byt} : AccK f t 0 := fun j h => absurd h (Nat.not_lt_zero j)
theorem head_00 {f : BForm} {t : Byt} : HeadR (rdK f t 0) := head_0
theorem eq_c {x : UInt8} {P : Int} {n : Nat} (h : (decide ((x.toNat : Int) = 61) && (decide (P > 0) || decide ((n : Int) = 0))) = true) : x = 61 ∧ (0 < P ∨ n = 0) := by
  simp only [Bool.and_eq_true, Bool.or_eq_true, decide_eq_true_eq] at h
  exact ⟨(u8_eq (n := 61) (by decide)).1 h.1, h.2.imp id (fun h => by omega)⟩
theorem rw_c {x : UInt8} {P L : Int} {n : Nat} (h : ((decide ((x.toNat : Int) = 32) || decide ((x.toNat : Int) = 45)) && decide (P < L) && decide ((n : Int) < 12)) = true) : (x = 32 ∨ x = 45) ∧ P < L ∧ n < 12 := by
  simp only [Bool.and_eq_true, Bool.or_eq_true, decide_eq_true_eq] at h
  exact ⟨h.1.1.imp (u8_eq (n := 32) (by decide)).1 (u8_eq (n := 45) (by decide)).1, h.1.2, by omega⟩
theorem df_c {f : BForm} {p : Rdr} {x : UInt8} (hh : HeadR p) (ho : RdrOk f p) (h1 : (decide ((x.toNat : Int) = 61) && (decide (p.page > 0) || decide ((p.read.length : Int) = 0))) = false) (h2 : ((decide ((x.toNat : Int) = 32) || decide ((x.toNat : Int) = 45)) && decide (p.page < f.lines) && decide ((p.read.length : Int) < 12)) = false) : ¬ x ∈ canR f p := by
  rw [head_can hh ho]
  rintro (⟨h, h3, h4⟩ | ⟨rfl, h⟩)
  · have e : (decide ((x.toNat : Int) = 32) || decide ((x.toNat : Int) = 45)) = true := by rcases h with rfl | rfl <;> decide
    rw [e, decide_eq_true h3, decide_eq_true (show (p.read.length : Int) < 12 by omega)] at h2
    cases h2
  · have e : (decide (p.page > 0) || decide ((p.read.length : Int) = 0)) = true := by
      simp only [Bool.or_eq_true, decide_eq_true_eq]; exact h.imp id (fun h => by omega)
    rw [e] at h1
    exact absurd h1 (by decide)
theorem prT_no {f : BForm} {t : Byt} (h : prI f t = false) : prT f t = Ty.agg [Ty.when false (Ty.sl I64 f.widths), Ty.when false (Ty.int .i64 f.lines), Ty.when false (Ty.sl BRowE (runP f t).read)] := by unfold prT; rw [h]
theorem prT_yes {f : BForm} {t : Byt} {l : List BRow} (h : prI f t = true) (h2 : (runP f t).read = l) : prT f t = Ty.agg [Ty.when true (Ty.sl I64 f.widths), Ty.when true (Ty.int .i64 f.lines), Ty.when true (Ty.sl BRowE l)] := by unfold prT; rw [h, h2]
theorem row_new {f : BForm} {t : Byt} {b : Nat} {R P : Int} {W : Nat} {l : List BRow} {r : BRow} {m : Byt} (hf : FormOk f) (hb : b ≤ t.length) (hac : AccK f t b) (hl : (l.length : Int) = R) (h : rdK f t b = { ({ rows := R + 1, page := P + 1, begun := false, closed := false, column := W, offset := 0, number := 0, digits := false, read := l ++ [r], must := [] } : Rdr) with must := m }) : RowOk f r := by
  have ho := rdK_ok hf hb hac
  rw [h] at ho
  have := ho.done l.length (by show (l.length : Int) < R + 1; omega)
  rwa [show nth ({ rows := R + 1, page := P + 1, begun := false, closed := false, column := W, offset := 0, number := 0, digits := false, read := l ++ [r], must := m } : Rdr).read l.length = r from nth_snoc_new rfl] at this
theorem head_new {R P : Int} {W : Nat} {l : List BRow} {r : BRow} : HeadR ({ rows := R + 1, page := P + 1, begun := false, closed := false, column := W, offset := 0, number := 0, digits := false, read := l ++ [r], must := [] } : Rdr) :=
  ⟨rfl, rfl, rfl, fun h => absurd h (by simp), fun _ => by simp⟩
theorem cat_len {x : UInt8} {m : Byt} : 1 ≤ ([x] ++ m).length := by simp
theorem book_rows {f : BForm} {rows : List BRow} (h : ∀ r ∈ rows, RowOk f r) (hf : FormOk f) : SmallR rows := fun r hr => small_of hf (h r hr)
attribute [local irreducible] rrN rrI numK digK seg colLen numsK rowP barP colP runN runP rdK canR nextR prI prT matN lineB letB
attribute [local irreducible] dInt dBool dSl dPp dPtr dAgg dTup dClo dAny dEx dStr dGd dCells dVec dVs dRow dOp nth Tri Into TOps Ctr bodyPost Exit.then Exit.inBlock Code.wp Code.wpIn dWhen dPa dArr dMp dMap CtrG keepPost iterPost bodyPostM roundQ
set_option maxRecDepth 100000 in
theorem c_rParse (f : BForm) (hf : FormOk f) (t : Byt) (ht : t.length ≤ 1000000) : Ctr Tryd.prog 37 [frmT f, Ty.str (bs t)] (Ty.tup [prT f t, Ty.int .i64 (runN f t : Nat), Ty.bool (prI f t)]) := by
  refine fn_intro Tryd.func37 rfl (by decide) Tryd.ntmps37 (by exact Nat.le_of_ble_eq_true rfl) fun w0 M0 => ?_
  have hfw := hf.n2
  refine t_seq ?_
  refine t_region ?_
  refine r_box_agg rfl ?_
  refine r_alloc rfl (by exact List.cons_ne_nil _ _) rfl ?_
  refine asI rfl ?_
  refine asB rfl ?_
  refine r_nil ?_
  refine i_then ?_
  refine t_seq ?_
  refine t_region ?_
  refine r_load_ppN rfl rfl rfl (by exact Nat.le_of_ble_eq_true rfl) ?_
  refine r_build rfl rfl (by exact List.cons_ne_nil _ _) rfl (by repeat (first | exact (Parts.nil : Parts _ _ [] _) | (show Parts _ _ ((_, _) :: _) _; apply Parts.agg; (· exact (rfl : _ = Ty.agg _))))) (by exact (rfl : _ = some [_, _, _])) ?_
  refine r_alloc rfl (by exact List.cons_ne_nil _ _) rfl ?_
  refine r_storeN rfl rfl (by decide) rfl rfl rfl rfl rfl rfl ?_
  refine r_nil ?_
  refine i_then ?_
  refine t_seq ?_
  refine t_region ?_
  refine asI rfl ?_
  refine asI rfl ?_
  refine r_nil ?_
  refine i_then ?_
  refine t_seq ?_
  refine t_block ?_
  refine t_loop (fun (a : {a : Nat // a ≤ t.length ∧ AccK f t a ∧ HeadR (rdK f t a)}) => live [(1, Ty.str (bs t)), (2, Ty.pp (frmTys f)), (4, Ty.ptr 5 0), (7, Ty.ptr 8 0), (8, Ty.int .i64 (a.1 : Nat)), (9, Ty.int .i64 (rdK f t a.1).page)] [(5, Cont.cells 60 [Ty.ex (.slice none 0 0), Ty.int .i64 0, Ty.ex (.slice none 0 0)]), (8, Cont.cells 60 [Ty.sl I64 f.widths, Ty.int .i64 f.lines, Ty.row BRowE 121 155 (rdK f t a.1).read])]) (fun a => t.length - a.1) (⟨0, Nat.zero_le _, acc_00, head_00⟩) ?_ fun a => ?_
  · (refine Ent.mk' ?_ ?_ <;> (repeat' (first | exact allSub_zero | exact allTags_nil | exact subs_nil | refine allSub_succ' ?_ (Ty.sub_any _) | refine allSub_succ' ?_ (Ty.sub_refl _) | refine allTags_cons rfl (Cont.sub_refl _) ?_ | refine allTags_cons rfl (Cont.sub_subs ?_) ?_ | refine subs_cons ?_ (Ty.sub_refl _) | refine subs_cons ?_ ?_ | refine allSub_succ' ?_ ?_)))
    all_goals first | exact Ty.sub_int page_0 | (rw [show (rdK f t _).read = [] from read_0]; exact Ty.nil_row)
  ·
    have ha := a.2.1
    have hac := a.2.2.1
    have hh := a.2.2.2
    have ho := rdK_ok hf ha hac
    have hrows := head_rows hh ho
    have h12 := head_12 hh ho
    have hp0 := ho.p0
    have hp1 := ho.p1
    have hl2 := hf.l2
    refine t_seq ?_
    refine t_seq ?_
    refine t_region ?_
    refine mvI rfl ?_
    refine mvS' rfl ?_
    refine r_lenS rfl rfl rfl ?_
    refine r_bin rfl rfl rfl ?_
    refine r_nil ?_
    refine i_then ?_
    refine t_cond_dec rfl (fun hc1 => ?_) (fun hc1 => ?_)
    ·
      refine t_skip ?_
      refine i_then ?_
      refine t_block ?_
      refine t_block ?_
      refine t_seq ?_
      have hlt : a.1 < t.length := by omega
      refine t_region ?_
      refine mvS' rfl ?_
      refine mvI rfl ?_
      refine r_idxS (i := a.1) rfl rfl rfl rfl hlt ?_
      refine r_bin rfl rfl rfl ?_
      refine mvB rfl ?_
      apply r_guard (s := 30) rfl rfl rfl
      · intro hg; apply opT_of; (refine mvI rfl ?_); refine r_nil ?_; exact rfl
      · exact rfl
      · exact rfl
      apply r_guard (s := 30) rfl rfl rfl
      · intro hg; apply opT_strip (s := 31) rfl (by (rw [hg]; rfl)); apply opT_of; (refine r_bin rfl rfl rfl ?_); refine r_nil ?_; exact rfl
      · exact rfl
      · exact rfl
      apply r_guard (s := 30) rfl rfl rfl
      · intro hg; apply opT_strip (s := 32) rfl (by (rw [hg]; rfl)); apply opT_of; (refine mvB rfl ?_); refine r_nil ?_; exact rfl
      · exact rfl
      · exact rfl
      apply r_guardG (s := 33) rfl rfl rfl
      · intro hg1 hg2; apply opT_of; (refine r_field_ptr rfl rfl rfl rfl rfl (by decide) ?_); refine r_nil ?_; exact rfl
      · exact rfl
      · exact rfl
      apply r_guardG (s := 33) rfl rfl rfl
      · intro hg1 hg2; apply opT_strip (s := 34) rfl (by (rw [hg1, hg2]; rfl)); apply opT_of; (refine r_load_ptr rfl rfl (by decide) rfl rfl rfl ?_); refine r_nil ?_; exact rfl
      · exact rfl
      · exact rfl
      apply r_guardG (s := 33) rfl rfl rfl
      · intro hg1 hg2; apply opT_strip (s := 35) rfl (by (rw [hg1, hg2]; rfl)); apply opT_of; (refine r_len_row rfl rfl rfl ?_); refine r_nil ?_; exact rfl
      · exact rfl
      · exact rfl
      apply r_guardG (s := 33) rfl rfl rfl
      · intro hg1 hg2; apply opT_strip (s := 36) rfl (by (rw [hg1, hg2]; rfl)); apply opT_of; (refine r_bin rfl rfl rfl ?_); refine r_nil ?_; exact rfl
      · exact rfl
      · exact rfl
      apply r_guard (s := 30) rfl rfl rfl
      · intro hg; apply opT_strip (s := 33) rfl (by (rw [hg]; rfl)); apply opT_stripG (s := 37) rfl (by (rw [hg]; rfl)); apply opT_of; (refine r_or rfl rfl ?_); refine r_nil ?_; exact rfl
      · exact rfl
      · exact rfl
      refine r_and rfl rfl ?_
      refine asB rfl ?_
      refine r_nil ?_
      refine i_then ?_
      refine t_cond rfl (fun hc2 => ?_) (fun hc2 => ?_)
      ·
        refine t_seq ?_
        have he := eq_c hc2
        have hE := eq_line hlt hac hh ho he.1 he.2
        have hsl := lineB_len hf (book_rows hrows hf) (by omega)
        refine t_region ?_
        refine r_load_ppN rfl rfl rfl (by exact Nat.le_of_ble_eq_true rfl) ?_
        refine r_field_ptr rfl rfl rfl rfl rfl (by decide) ?_
        refine r_load_ptr rfl rfl (by decide) rfl rfl rfl ?_
        refine r_callL [155] (c_sumLine f hf (rdK f t a.1).read hrows h12 [61] (by decide)) rfl (by repeat (first | exact lends_nil | refine lends_cons (lend_pub rfl rfl) ?_ | refine lends_cons (lend_row rfl) ?_)) (plain_str _) ?_
        refine asS' rfl ?_
        refine r_nil ?_
        refine i_then ?_
        refine t_seq ?_
        refine t_region ?_
        refine mvS' rfl ?_
        refine mvI rfl ?_
        refine mvS' rfl ?_
        refine r_call (c_match t a.1 ([61] ++ lineB f (rdK f t a.1).read) ha ht) rfl rfl rfl rfl rfl ?_
        refine asI rfl ?_
        refine r_nil ?_
        refine i_then ?_
        refine t_seq ?_
        refine t_region ?_
        refine mvI rfl ?_
        refine mvI rfl ?_
        refine r_add rfl rfl (by omega) (by omega) ?_
        refine asI rfl ?_
        refine r_nil ?_
        refine i_then ?_
        refine t_seq ?_
        refine t_seq ?_
        generalize hn : matN (t.drop a.1) ([61] ++ lineB f (rdK f t a.1).read) = n at hE ⊢
        refine t_as (s := 8) rfl (Ty.sub_int (Int.natCast_add a.1 n).symm) ?_
        refine t_region ?_
        refine mvI rfl ?_
        refine mvS' rfl ?_
        refine r_lenS rfl rfl rfl ?_
        refine r_bin rfl rfl rfl ?_
        refine r_nil ?_
        refine i_then ?_
        refine t_cond_dec rfl (fun hc3 => ?_) (fun hc3 => ?_)
        ·
          refine t_seq ?_
          have hq := hE.2.2.1 (by omega)
          refine t_region ?_
          refine r_load_ptrN rfl rfl (by decide) rfl rfl (by exact Nat.le_of_ble_eq_true rfl) ?_
          refine mvI rfl ?_
          refine r_storeN rfl rfl (by decide) rfl rfl rfl rfl rfl rfl ?_
          refine asI rfl ?_
          refine asB rfl ?_
          refine r_nil ?_
          refine i_then ?_
          refine t_ret ?_
          refine i_then_ret ?_
          refine i_block_ret ?_
          refine i_block_ret ?_
          refine i_then_ret ?_
          refine i_block_ret ?_
          refine i_then_ret ?_
          refine i_rcell3 rfl rfl rfl rfl rfl rfl (by decide) rfl rfl rfl ?_ ?_ ?_
          all_goals skip
          all_goals first | (rw [prT_no hq.2]; exact ret_agg (rets_cons (ret_whenF rfl) (rets_cons (ret_whenF rfl) (rets_cons (ret_whenF rfl) rets_nil)))) | exact ret_eq rfl rfl (congrArg (fun m : Nat => Ty.int .i64 (m : Int)) hq.1.symm) | exact ret_eq rfl rfl (congrArg Ty.bool hq.2.symm)
        ·
          refine t_skip ?_
          refine i_then ?_
          refine t_seq ?_
          refine t_seq ?_
          have hr := hE.2.2.2 (by omega)
          refine t_region ?_
          refine mvI rfl ?_
          refine mvS' rfl ?_
          refine r_lenS rfl rfl rfl ?_
          refine r_bin rfl rfl rfl ?_
          refine r_nil ?_
          refine i_then ?_
          refine t_cond_dec rfl (fun hc4 => ?_) (fun hc4 => ?_)
          ·
            refine t_seq ?_
            have hq := foot_end hh hE.1 hE.2.1 hr hc4
            refine t_region ?_
            refine r_load_ptrN rfl rfl (by decide) rfl rfl (by exact Nat.le_of_ble_eq_true rfl) ?_
            refine mvI rfl ?_
            refine r_storeN rfl rfl (by decide) rfl rfl rfl rfl rfl rfl ?_
            refine asI rfl ?_
            refine asB rfl ?_
            refine r_nil ?_
            refine i_then ?_
            refine t_ret ?_
            refine i_then_ret ?_
            refine i_block_ret ?_
            refine i_block_ret ?_
            refine i_then_ret ?_
            refine i_block_ret ?_
            refine i_then_ret ?_
            refine i_rcell3 rfl rfl rfl rfl rfl rfl (by decide) rfl rfl rfl ?_ ?_ ?_
            all_goals skip
            all_goals first | (rw [prT_yes hq.2.1 hq.2.2]; exact ret_agg (rets_cons (ret_whenT rfl (ret_refl rfl rfl)) (rets_cons (ret_whenT rfl (ret_refl rfl rfl)) (rets_cons (ret_whenT rfl (ret_row (by decide))) rets_nil)))) | exact ret_eq rfl rfl (congrArg (fun m : Nat => Ty.int .i64 (m : Int)) hq.1.symm) | exact ret_eq rfl rfl (congrArg Ty.bool hq.2.1.symm)
          ·
            refine t_skip ?_
            refine i_then ?_
            refine t_seq ?_
            refine t_seq ?_
            refine t_region ?_
            refine mvI rfl ?_
            refine r_field_pp rfl rfl rfl rfl rfl (by decide) ?_
            refine r_load_pp rfl rfl rfl rfl ?_
            refine r_bin rfl rfl rfl ?_
            refine mvB rfl ?_
            apply r_guard (s := 67) rfl rfl rfl
            · intro hg; apply opT_of; (refine r_field_ptr rfl rfl rfl rfl rfl (by decide) ?_); refine r_nil ?_; exact rfl
            · exact rfl
            · exact rfl
            apply r_guard (s := 67) rfl rfl rfl
            · intro hg; apply opT_strip (s := 68) rfl (by (rw [hg]; rfl)); apply opT_of; (refine r_load_ptr rfl rfl (by decide) rfl rfl rfl ?_); refine r_nil ?_; exact rfl
            · exact rfl
            · exact rfl
            apply r_guard (s := 67) rfl rfl rfl
            · intro hg; apply opT_strip (s := 69) rfl (by (rw [hg]; rfl)); apply opT_of; (refine r_len_row rfl rfl rfl ?_); refine r_nil ?_; exact rfl
            · exact rfl
            · exact rfl
            apply r_guard (s := 67) rfl rfl rfl
            · intro hg; apply opT_strip (s := 70) rfl (by (rw [hg]; rfl)); apply opT_of; (refine r_bin rfl rfl rfl ?_); refine r_nil ?_; exact rfl
            · exact rfl
            · exact rfl
            refine r_or rfl rfl ?_
            refine r_nil ?_
            refine i_then ?_
            refine t_cond rfl (fun hc5 => ?_) (fun hc5 => ?_)
            ·
              refine t_seq ?_
              have hq := foot_stop hh ho hE.1 hE.2.1 hr hc4 hc5
              refine t_region ?_
              refine r_load_ptrN rfl rfl (by decide) rfl rfl (by exact Nat.le_of_ble_eq_true rfl) ?_
              refine mvI rfl ?_
              refine r_storeN rfl rfl (by decide) rfl rfl rfl rfl rfl rfl ?_
              refine asI rfl ?_
              refine asB rfl ?_
              refine r_nil ?_
              refine i_then ?_
              refine t_ret ?_
              refine i_then_ret ?_
              refine i_block_ret ?_
              refine i_block_ret ?_
              refine i_then_ret ?_
              refine i_block_ret ?_
              refine i_then_ret ?_
              refine i_rcell3 rfl rfl rfl rfl rfl rfl (by decide) rfl rfl rfl ?_ ?_ ?_
              all_goals skip
              all_goals first | (rw [prT_no hq.2]; exact ret_agg (rets_cons (ret_whenF rfl) (rets_cons (ret_whenF rfl) (rets_cons (ret_whenF rfl) rets_nil)))) | exact ret_eq rfl rfl (congrArg (fun m : Nat => Ty.int .i64 (m : Int)) hq.1.symm) | exact ret_eq rfl rfl (congrArg Ty.bool hq.2.symm)
            ·
              refine t_skip ?_
              refine i_then ?_
              refine t_seq ?_
              have hP := plus_line hh ho hE.1 hE.2.1 hr hc4 hc5
              refine t_region ?_
              refine r_load_ppN rfl rfl rfl (by exact Nat.le_of_ble_eq_true rfl) ?_
              refine r_field_ptr rfl rfl rfl rfl rfl (by decide) ?_
              refine r_load_ptr rfl rfl (by decide) rfl rfl rfl ?_
              refine r_callL [155] (c_sumLine f hf (rdK f t a.1).read hrows h12 [43] (by decide)) rfl (by repeat (first | exact lends_nil | refine lends_cons (lend_pub rfl rfl) ?_ | refine lends_cons (lend_row rfl) ?_)) (plain_str _) ?_
              refine asS' rfl ?_
              refine r_nil ?_
              refine i_then ?_
              refine t_seq ?_
              refine t_region ?_
              refine mvS' rfl ?_
              refine mvI rfl ?_
              refine mvS' rfl ?_
              refine r_call (c_match t (a.1 + n) ([43] ++ lineB f (rdK f t a.1).read) hE.1 ht) rfl rfl rfl rfl rfl ?_
              refine asI rfl ?_
              refine r_nil ?_
              refine i_then ?_
              refine t_seq ?_
              refine t_region ?_
              refine mvI rfl ?_
              refine mvI rfl ?_
              refine r_add rfl rfl (by omega) (by omega) ?_
              refine asI rfl ?_
              refine r_nil ?_
              refine i_then ?_
              refine t_seq ?_
              refine t_seq ?_
              generalize hn2 : matN (t.drop (a.1 + n)) ([43] ++ lineB f (rdK f t a.1).read) = n2 at hP ⊢
              refine t_as (s := 8) rfl (Ty.sub_int (Int.natCast_add (a.1 + n) n2).symm) ?_
              refine t_region ?_
              refine mvI rfl ?_
              refine mvS' rfl ?_
              refine r_lenS rfl rfl rfl ?_
              refine r_bin rfl rfl rfl ?_
              refine r_nil ?_
              refine i_then ?_
              refine t_cond_dec rfl (fun hc6 => ?_) (fun hc6 => ?_)
              ·
                refine t_seq ?_
                have hq := hP.2.2.1 (by omega)
                refine t_region ?_
                refine r_load_ptrN rfl rfl (by decide) rfl rfl (by exact Nat.le_of_ble_eq_true rfl) ?_
                refine mvI rfl ?_
                refine r_storeN rfl rfl (by decide) rfl rfl rfl rfl rfl rfl ?_
                refine asI rfl ?_
                refine asB rfl ?_
                refine r_nil ?_
                refine i_then ?_
                refine t_ret ?_
                refine i_then_ret ?_
                refine i_block_ret ?_
                refine i_block_ret ?_
                refine i_then_ret ?_
                refine i_block_ret ?_
                refine i_then_ret ?_
                refine i_rcell3 rfl rfl rfl rfl rfl rfl (by decide) rfl rfl rfl ?_ ?_ ?_
                all_goals skip
                all_goals first | (rw [prT_no hq.2]; exact ret_agg (rets_cons (ret_whenF rfl) (rets_cons (ret_whenF rfl) (rets_cons (ret_whenF rfl) rets_nil)))) | exact ret_eq rfl rfl (congrArg (fun m : Nat => Ty.int .i64 (m : Int)) hq.1.symm) | exact ret_eq rfl rfl (congrArg Ty.bool hq.2.symm)
              ·
                refine t_skip ?_
                refine i_then ?_
                have hPr := hP.2.2.2 (by omega)
                have hPH := plus_head hf hh ho hc5 hPr
                refine t_region ?_
                refine asI rfl ?_
                refine r_nil ?_
                refine i_block ?_
                refine i_block ?_
                refine i_round (⟨a.1 + n + n2, hP.1, hP.2.1, hPH⟩) ?_ (by show t.length - (a.1 + n + n2) < t.length - a.1; have := hP.1; have := cat_len (x := 61) (m := lineB f (rdK f t a.1).read); omega)
                (refine Ent.mk' ?_ ?_ <;> (repeat' (first | exact allSub_zero | exact allTags_nil | exact subs_nil | refine allSub_succ' ?_ (Ty.sub_any _) | refine allSub_succ' ?_ (Ty.sub_refl _) | refine allTags_cons rfl (Cont.sub_refl _) ?_ | refine allTags_cons rfl (Cont.sub_subs ?_) ?_ | refine subs_cons ?_ (Ty.sub_refl _) | refine subs_cons ?_ ?_ | refine allSub_succ' ?_ ?_)))
                all_goals skip
                all_goals first | exact Ty.sub_int (by rw [hPr]) | exact Ty.sub_row (by rw [hPr])
      ·
        refine t_seq ?_
        refine t_region ?_
        refine mvS' rfl ?_
        refine mvI rfl ?_
        refine r_idxS (i := a.1) rfl rfl rfl rfl hlt ?_
        refine r_bin rfl rfl rfl ?_
        refine mvB rfl ?_
        apply r_guard (s := 97) rfl rfl rfl
        · intro hg; apply opT_of; (refine mvS' rfl ?_); refine r_nil ?_; exact rfl
        · exact rfl
        · exact rfl
        apply r_guard (s := 97) rfl rfl rfl
        · intro hg; apply opT_of; (refine mvI rfl ?_); refine r_nil ?_; exact rfl
        · exact rfl
        · exact rfl
        apply r_guard (s := 97) rfl rfl rfl
        · intro hg; apply opT_strip (s := 98) rfl (by (rw [hg]; rfl)); apply opT_strip (s := 99) rfl (by (rw [hg]; rfl)); apply opT_of; (refine r_idxS (i := a.1) rfl rfl rfl rfl hlt ?_); refine r_nil ?_; exact rfl
        · exact rfl
        · exact rfl
        apply r_guard (s := 97) rfl rfl rfl
        · intro hg; apply opT_strip (s := 100) rfl (by (rw [hg]; rfl)); apply opT_of; (refine r_bin rfl rfl rfl ?_); refine r_nil ?_; exact rfl
        · exact rfl
        · exact rfl
        refine r_or rfl rfl ?_
        refine mvB rfl ?_
        apply r_guard (s := 103) rfl rfl rfl
        · intro hg; apply opT_of; (refine mvI rfl ?_); refine r_nil ?_; exact rfl
        · exact rfl
        · exact rfl
        apply r_guard (s := 103) rfl rfl rfl
        · intro hg; apply opT_of; (refine r_field_pp rfl rfl rfl rfl rfl (by decide) ?_); refine r_nil ?_; exact rfl
        · exact rfl
        · exact rfl
        apply r_guard (s := 103) rfl rfl rfl
        · intro hg; apply opT_strip (s := 105) rfl (by (rw [hg]; rfl)); apply opT_of; (refine r_load_pp rfl rfl rfl rfl ?_); refine r_nil ?_; exact rfl
        · exact rfl
        · exact rfl
        apply r_guard (s := 103) rfl rfl rfl
        · intro hg; apply opT_strip (s := 104) rfl (by (rw [hg]; rfl)); apply opT_strip (s := 106) rfl (by (rw [hg]; rfl)); apply opT_of; (refine r_bin rfl rfl rfl ?_); refine r_nil ?_; exact rfl
        · exact rfl
        · exact rfl
        refine r_and rfl rfl ?_
        refine mvB rfl ?_
        apply r_guard (s := 109) rfl rfl rfl
        · intro hg; apply opT_of; (refine r_field_ptr rfl rfl rfl rfl rfl (by decide) ?_); refine r_nil ?_; exact rfl
        · exact rfl
        · exact rfl
        apply r_guard (s := 109) rfl rfl rfl
        · intro hg; apply opT_strip (s := 110) rfl (by (rw [hg]; rfl)); apply opT_of; (refine r_load_ptr rfl rfl (by decide) rfl rfl rfl ?_); refine r_nil ?_; exact rfl
        · exact rfl
        · exact rfl
        apply r_guard (s := 109) rfl rfl rfl
        · intro hg; apply opT_strip (s := 111) rfl (by (rw [hg]; rfl)); apply opT_of; (refine r_len_row rfl rfl rfl ?_); refine r_nil ?_; exact rfl
        · exact rfl
        · exact rfl
        apply r_guard (s := 109) rfl rfl rfl
        · intro hg; apply opT_strip (s := 112) rfl (by (rw [hg]; rfl)); apply opT_of; (refine r_bin rfl rfl rfl ?_); refine r_nil ?_; exact rfl
        · exact rfl
        · exact rfl
        refine r_and rfl rfl ?_
        refine asB rfl ?_
        refine r_nil ?_
        refine i_then ?_
        refine t_cond rfl (fun hc7 => ?_) (fun hc7 => ?_)
        ·
          refine t_seq ?_
          have hw := rw_c hc7
          have hr1 : rdK f t (a.1 + 1) = rowP (rdK f t a.1).rows (rdK f t a.1).page (rdK f t a.1).read (decide (((nth t a.1).toNat : Int) = 45)) [] 0 0 0 false := by rw [rdK_succ hlt, head_row hh ho hw.1]
          have hac1 : AccK f t (a.1 + 1) := accK_succ hac ((head_can hh ho).2 (.inl hw))
          refine t_draw mixed rfl ?_
          refine r_load_ppN rfl rfl rfl (by exact Nat.le_of_ble_eq_true rfl) ?_
          refine mvS' rfl ?_
          refine mvI rfl ?_
          refine r_bin (ty := Ty.int .i64 ((a.1 + 1 : Nat) : Int)) rfl rfl (by show some _ = some _; rw [IntWalk.i64_in _ (by omega)]; rfl) ?_
          refine mvS' rfl ?_
          refine mvI rfl ?_
          refine r_idxS (i := a.1) rfl rfl rfl rfl hlt ?_
          refine r_bin rfl rfl rfl ?_
          refine r_call (c_readRow f hf t ht (a.1 + 1) (decide (((nth t a.1).toNat : Int) = 45)) (rdK f t a.1).rows (rdK f t a.1).page (rdK f t a.1).read (by omega) hr1 hac1) rfl rfl rfl rfl rfl ?_
          refine mvT rfl ?_
          refine r_extract rfl rfl ?_
          refine r_extract rfl rfl ?_
          refine r_extract rfl rfl ?_
          refine r_alloc rfl (by exact List.cons_ne_nil _ _) rfl ?_
          refine r_storeN rfl rfl (by decide) rfl rfl rfl rfl rfl rfl ?_
          refine asI rfl ?_
          refine asB rfl ?_
          refine r_nil ?_
          refine ⟨by kernel_rfl, ?_⟩
          refine i_then ?_
          refine t_seq ?_
          refine t_region ?_
          refine mvI rfl ?_
          refine asI rfl ?_
          refine r_nil ?_
          refine i_then ?_
          refine t_seq ?_
          refine t_seq ?_
          refine t_region ?_
          refine mvB rfl ?_
          refine r_not rfl ?_
          refine r_nil ?_
          refine i_then ?_
          refine t_cond rfl (fun hc8 => ?_) (fun hc8 => ?_)
          ·
            refine t_seq ?_
            have hq := row_stop hf hr1 (by omega) hac1 (by simpa using hc8)
            refine t_region ?_
            refine r_load_ptrN rfl rfl (by decide) rfl rfl (by exact Nat.le_of_ble_eq_true rfl) ?_
            refine mvI rfl ?_
            refine r_storeN rfl rfl (by decide) rfl rfl rfl rfl rfl rfl ?_
            refine asI rfl ?_
            refine asB rfl ?_
            refine r_nil ?_
            refine i_then ?_
            refine t_ret ?_
            refine i_then_ret ?_
            refine i_block_ret ?_
            refine i_block_ret ?_
            refine i_then_ret ?_
            refine i_block_ret ?_
            refine i_then_ret ?_
            refine i_rcell3 rfl rfl rfl rfl rfl rfl (by decide) rfl rfl rfl ?_ ?_ ?_
            all_goals skip
            all_goals first | (rw [prT_no hq.2]; exact ret_agg (rets_cons (ret_whenF rfl) (rets_cons (ret_whenF rfl) (rets_cons (ret_whenF rfl) rets_nil)))) | exact ret_eq rfl rfl (congrArg (fun m : Nat => Ty.int .i64 (m : Int)) hq.1.symm) | exact ret_eq rfl rfl (congrArg Ty.bool hq.2.symm)
          ·
            refine t_skip ?_
            refine i_then ?_
            refine t_seq ?_
            have hI : rrI f t (a.1 + 1) = true := by simpa using hc8
            have hRF := row_full hf hr1 hI
            have hrow := row_new hf hRF.1 hRF.2.1 (head_len hh ho) hRF.2.2.2
            refine t_asC (tg := 13) (D := Cont.cells 121 (BRowE.tys ⟨numsK f t (a.1 + 1) f.widths.length, decide (((nth t a.1).toNat : Int) = 45)⟩)) rfl (Cont.sub_subs ⟨Ty.when_sub hI, Ty.when_sub hI, trivial⟩) ?_
            have hM := must_line (t := t) (a := rrN f t (a.1 + 1)) (m := [letB f ⟨numsK f t (a.1 + 1) f.widths.length, decide (((nth t a.1).toNat : Int) = 45)⟩] ++ [10]) (by rw [hRF.2.2.1]; exact hRF.2.2.2) (by rw [hRF.2.2.1]; exact hRF.2.1) (by rw [hRF.2.2.1]; exact hRF.1)
            refine t_region ?_
            refine r_load_ppN rfl rfl rfl (by exact Nat.le_of_ble_eq_true rfl) ?_
            refine r_load_ptrN rfl rfl (by decide) rfl rfl (by exact Nat.le_of_ble_eq_true rfl) ?_
            refine r_call (c_rLetter f hf _ hrow) rfl rfl rfl rfl rfl ?_
            refine r_catS rfl rfl (by (simp <;> omega)) ?_
            refine asS' rfl ?_
            refine r_nil ?_
            refine i_then ?_
            refine t_seq ?_
            refine t_region ?_
            refine mvS' rfl ?_
            refine mvI rfl ?_
            refine mvS' rfl ?_
            refine r_call (c_match t (rrN f t (a.1 + 1)) ([letB f ⟨numsK f t (a.1 + 1) f.widths.length, decide (((nth t a.1).toNat : Int) = 45)⟩] ++ [10]) (by rw [hRF.2.2.1]; exact hRF.1) ht) rfl rfl rfl rfl rfl ?_
            refine asI rfl ?_
            refine r_nil ?_
            refine i_then ?_
            refine t_seq ?_
            have hML := hM.1
            refine t_region ?_
            refine mvI rfl ?_
            refine mvI rfl ?_
            refine r_add rfl rfl (by omega) (by omega) ?_
            refine asI rfl ?_
            refine r_nil ?_
            refine i_then ?_
            refine t_seq ?_
            refine t_seq ?_
            generalize hn : matN (t.drop (rrN f t (a.1 + 1))) ([letB f ⟨numsK f t (a.1 + 1) f.widths.length, decide (((nth t a.1).toNat : Int) = 45)⟩] ++ [10]) = n at hM ⊢
            refine t_as (s := 8) rfl (Ty.sub_int (Int.natCast_add (rrN f t (a.1 + 1)) n).symm) ?_
            refine t_region ?_
            refine mvI rfl ?_
            refine mvS' rfl ?_
            refine r_lenS rfl rfl rfl ?_
            refine r_bin rfl rfl rfl ?_
            refine r_nil ?_
            refine i_then ?_
            refine t_cond_dec rfl (fun hc9 => ?_) (fun hc9 => ?_)
            ·
              refine t_seq ?_
              have hq0 := hM.2.2.2.1 (by omega)
              have hq := And.intro hq0.1 (pr_no1 hq0.2)
              refine t_region ?_
              refine r_load_ptrN rfl rfl (by decide) rfl rfl (by exact Nat.le_of_ble_eq_true rfl) ?_
              refine mvI rfl ?_
              refine r_storeN rfl rfl (by decide) rfl rfl rfl rfl rfl rfl ?_
              refine asI rfl ?_
              refine asB rfl ?_
              refine r_nil ?_
              refine i_then ?_
              refine t_ret ?_
              refine i_then_ret ?_
              refine i_block_ret ?_
              refine i_block_ret ?_
              refine i_then_ret ?_
              refine i_block_ret ?_
              refine i_then_ret ?_
              refine i_rcell3 rfl rfl rfl rfl rfl rfl (by decide) rfl rfl rfl ?_ ?_ ?_
              all_goals skip
              all_goals first | (rw [prT_no hq.2]; exact ret_agg (rets_cons (ret_whenF rfl) (rets_cons (ret_whenF rfl) (rets_cons (ret_whenF rfl) rets_nil)))) | exact ret_eq rfl rfl (congrArg (fun m : Nat => Ty.int .i64 (m : Int)) hq.1.symm) | exact ret_eq rfl rfl (congrArg Ty.bool hq.2.symm)
            ·
              refine t_skip ?_
              refine i_then ?_
              refine t_seq ?_
              have hMr := hM.2.2.2.2 (by omega)
              have hMH : HeadR (rdK f t (rrN f t (a.1 + 1) + n)) := by rw [hMr]; exact head_new
              refine t_region ?_
              refine r_field_ptr rfl rfl rfl rfl rfl (by decide) ?_
              refine r_load_ptr rfl rfl (by decide) rfl rfl rfl ?_
              refine r_load_ptrN rfl rfl (by decide) rfl rfl (by exact Nat.le_of_ble_eq_true rfl) ?_
              refine r_buildSlice (E := BRowE) (xs := [⟨numsK f t (a.1 + 1) f.widths.length, decide (((nth t a.1).toNat : Int) = 45)⟩]) rfl rfl rfl rfl rfl (by decide) (by decide) (by repeat (first | exact (Parts.nil : Parts _ _ [] _) | (show Parts _ _ ((_, _) :: _) _; apply Parts.agg; (· exact (rfl : _ = Ty.agg _))))) (by exact rfl) rfl ?_
              refine r_append rfl rfl (by decide) rfl rfl rfl rfl rfl rfl (by decide) (by (simp <;> omega)) (by (simp <;> omega)) ?_
              refine r_field_ptr rfl rfl rfl rfl rfl (by decide) ?_
              refine r_store1 rfl rfl (by decide) rfl rfl (by exact (rfl : _ = Ty.row _ _ _ _)) rfl (by exact Nat.le_of_ble_eq_true rfl) rfl rfl (by exact rfl) ?_
              refine r_nil ?_
              refine i_then ?_
              refine t_region ?_
              refine mvI rfl ?_
              refine r_add rfl rfl (by omega) (by omega) ?_
              refine asI rfl ?_
              refine r_nil ?_
              refine i_block ?_
              refine i_block ?_
              refine i_round (⟨rrN f t (a.1 + 1) + n, hM.1, hM.2.2.1, hMH⟩) ?_ (by show t.length - (rrN f t (a.1 + 1) + n) < t.length - a.1; have := hM.1; have := hRF.2.2.1; omega)
              (refine Ent.mk' ?_ ?_ <;> (repeat' (first | exact allSub_zero | exact allTags_nil | exact subs_nil | refine allSub_succ' ?_ (Ty.sub_any _) | refine allSub_succ' ?_ (Ty.sub_refl _) | refine allTags_cons rfl (Cont.sub_refl _) ?_ | refine allTags_cons rfl (Cont.sub_subs ?_) ?_ | refine subs_cons ?_ (Ty.sub_refl _) | refine subs_cons ?_ ?_ | refine allSub_succ' ?_ ?_)))
              all_goals skip
              all_goals first | exact Ty.sub_int (by rw [hMr]) | exact Ty.sub_row (by rw [hMr])
        ·
          refine t_seq ?_
          have hq0 := (run_stop ha hac (df_c hh ho hc2 hc7)).1
          have hq := And.intro hq0 (pr_no2 hq0 hlt)
          refine t_region ?_
          refine r_load_ptrN rfl rfl (by decide) rfl rfl (by exact Nat.le_of_ble_eq_true rfl) ?_
          refine mvI rfl ?_
          refine r_storeN rfl rfl (by decide) rfl rfl rfl rfl rfl rfl ?_
          refine asI rfl ?_
          refine asB rfl ?_
          refine r_nil ?_
          refine i_then ?_
          refine t_ret ?_
          refine i_block_ret ?_
          refine i_block_ret ?_
          refine i_then_ret ?_
          refine i_block_ret ?_
          refine i_then_ret ?_
          refine i_rcell3 rfl rfl rfl rfl rfl rfl (by decide) rfl rfl rfl ?_ ?_ ?_
          all_goals skip
          all_goals first | (rw [prT_no hq.2]; exact ret_agg (rets_cons (ret_whenF rfl) (rets_cons (ret_whenF rfl) (rets_cons (ret_whenF rfl) rets_nil)))) | exact ret_eq rfl rfl (congrArg (fun m : Nat => Ty.int .i64 (m : Int)) hq.1.symm) | exact ret_eq rfl rfl (congrArg Ty.bool hq.2.symm)
    ·
      refine t_exit ?_
      refine i_then_exit ?_
      refine i_then_exit ?_
      refine i_block_exit rfl ?_
      refine i_then ?_
      refine t_seq ?_
      have hq0 := run_end ha hac (by omega)
      have hq := And.intro hq0.1 (pr_no1 (by rw [hq0.2]; exact head_not hh))
      refine t_region ?_
      refine r_load_ptrN rfl rfl (by decide) rfl rfl (by exact Nat.le_of_ble_eq_true rfl) ?_
      refine mvI rfl ?_
      refine r_storeN rfl rfl (by decide) rfl rfl rfl rfl rfl rfl ?_
      refine asI rfl ?_
      refine asB rfl ?_
      refine r_nil ?_
      refine i_then ?_
      refine t_ret ?_
      refine i_rcell3 rfl rfl rfl rfl rfl rfl (by decide) rfl rfl rfl ?_ ?_ ?_
      all_goals skip
      all_goals first | (rw [prT_no hq.2]; exact ret_agg (rets_cons (ret_whenF rfl) (rets_cons (ret_whenF rfl) (rets_cons (ret_whenF rfl) rets_nil)))) | exact ret_eq rfl rfl (congrArg (fun m : Nat => Ty.int .i64 (m : Int)) hq.1.symm) | exact ret_eq rfl rfl (congrArg Ty.bool hq.2.symm)
end Go.Proofs.YtjjndkenddigiaaDoor

namespace Go.Proofs.YtjjndkenddigiaaDoor
open Go Go.T Go.RowKit
def bTwo : Book := ⟨⟨[3, 2], 2⟩, [⟨[12, 5], false⟩, ⟨[100, 40], false⟩, ⟨[7, 0], true⟩]⟩
def tTwo : Byt := [32, 32, 49, 50, 124, 32, 53, 124, 107, 10, 32, 49, 48, 48, 124, 52, 48, 124, 114, 10, 61, 32, 32, 49, 49, 50, 124, 32, 32, 52, 53, 124, 10, 43, 32, 32, 49, 49, 50, 124, 32, 32, 52, 53, 124, 10, 45, 32, 32, 55, 124, 32, 48, 124, 106, 10, 61, 32, 32, 49, 49, 50, 124, 32, 32, 52, 53, 124, 10]
def tTwo1 : Byt := tTwo.take 8 ++ [106] ++ tTwo.drop 9
def tTwo2 : Byt := tTwo.take 34
def tTwo3 : Byt := [32, 32, 63, 50, 124, 32, 53, 124, 63, 10, 32, 49, 48, 48, 124, 52, 48, 124, 114, 10, 61, 32, 32, 49, 49, 50, 124, 32, 32, 52, 53, 124, 10, 43, 32, 32, 49, 49, 50, 124, 32, 32, 52, 53, 124, 10, 45, 32, 32, 55, 124, 32, 48, 124, 106, 10, 61, 32, 32, 49, 49, 50, 124, 32, 32, 52, 53, 124, 10]
def fOne : BForm := ⟨[1], 1⟩
def tOne : Byt := [32, 63, 124, 63, 10, 61, 32, 32, 63, 124, 10]
def lOne : List Byt := [[32, 48, 124, 97, 10, 61, 32, 32, 48, 124, 10], [32, 49, 124, 98, 10, 61, 32, 32, 49, 124, 10]]
theorem aw1 : printV bTwo = tTwo := by kernel_rfl
theorem aw1' : bokY bTwo = 0 := by kernel_rfl
theorem aw2 : parV bTwo.form tTwo1 = (Book.zero, 8, 11) := by kernel_rfl
theorem aw3 : parV bTwo.form tTwo2 = (Book.zero, 34, 11) := by kernel_rfl
theorem aw4 : tearV tTwo [2, 8] = (tTwo3, 0) := by kernel_rfl
theorem aw5 : allF bTwo.form tTwo3 = [(tTwo, (runR bTwo.form Rdr.new tTwo).2)] := by kernel_rfl
theorem aw5' : (runR bTwo.form Rdr.new tTwo).2.read = bTwo.rows := by kernel_rfl
theorem aw6 : (allF fOne tOne).length = 10 := by kernel_rfl
theorem aw7 : ((allF fOne tOne).take 2).map Prod.fst = lOne := by kernel_rfl
theorem aw8 : footV bTwo = [[112, 45], [112, 45]] := by kernel_rfl
end Go.Proofs.YtjjndkenddigiaaDoor

namespace Go.Proofs.YtjjndkenddigiaaDoor
open Go Go.T
set_option maxHeartbeats 4000000
theorem pubTy_row_eq {A : As} {α : Type} {E : El α} {T tg : Nat} {xs ys : List α} (h : xs = ys) : PubTy A tg (Ty.row E T tg xs) (Ty.sl E ys) := by subst h; exact pubTy_row
theorem row_eqB (a b : BRow) : ((a.struck == b.struck) && decide (a.nums = b.nums)) = decide (a = b) := by
  cases a; cases b; rw [Bool.eq_iff_iff]; simp [and_comm]
theorem sameB_eq (a b : Book) : ((decide (a.form.widths = b.form.widths) && decide (a.form.lines = b.form.lines)) && decide (a.rows = b.rows)) = decide (a = b) := by
  obtain ⟨⟨aw, al⟩, ar⟩ := a
  obtain ⟨⟨bw, bl⟩, br⟩ := b
  rw [Bool.eq_iff_iff]; simp [and_assoc]
theorem aw_res : resV bTwo.form tTwo3 = (bTwo, 0) := by
  have e1 : tornE bTwo.form tTwo3 = 0 := by kernel_rfl
  unfold resV resB
  rw [aw5, e1]
  have := aw5'
  rw [if_neg (by decide), if_neg (by decide), if_pos (by decide), if_neg (by decide)]
  show ((⟨bTwo.form, (runR bTwo.form Rdr.new tTwo).2.read⟩ : Book), (0 : Int)) = _
  rw [this]
theorem aw_cnt : cntV fOne tOne = (10, 0) := by
  have e1 : tornE fOne tOne = 0 := by kernel_rfl
  unfold cntV; rw [aw6, e1]; rfl
theorem aw_fil : filV fOne tOne = (lOne, 0) := by
  have e1 : tornE fOne tOne = 0 := by kernel_rfl
  unfold filV filL; rw [aw7, e1]; rfl
attribute [local irreducible] printV parV tearV cntV filV resV footV bokY
attribute [local irreducible] dInt dBool dSl dPp dPtr dAgg dTup dClo dAny dEx dStr dGd dCells dVec dVs dRow dOp nth Tri Into TOps Ctr bodyPost Exit.then Exit.inBlock Code.wp Code.wpIn dWhen dPa dArr dMp dMap CtrG keepPost iterPost bodyPostM roundQ
set_option maxRecDepth 100000 in
theorem c_same1 (a b : BRow) : Ctr Tryd.prog 60 [rowT a, rowT b] (Ty.bool (decide (a = b))) := by
  refine fn_intro Tryd.func60 rfl (by decide) Tryd.ntmps60 (by exact Nat.le_of_ble_eq_true rfl) fun w0 M0 => ?_
  refine t_seq ?_
  refine t_region ?_
  refine r_box_agg rfl ?_
  refine r_box_agg rfl ?_
  refine asB rfl ?_
  refine r_nil ?_
  refine i_then ?_
  refine t_seq ?_
  refine t_region ?_
  refine r_field_pp rfl rfl rfl rfl rfl (by decide) ?_
  refine r_load_pp rfl rfl rfl rfl ?_
  refine r_field_pp rfl rfl rfl rfl rfl (by decide) ?_
  refine r_load_pp rfl rfl rfl rfl ?_
  refine r_eql_B und4 rfl rfl ?_
  refine mvB rfl ?_
  apply r_guard (s := 10) rfl rfl rfl
  · intro hg; apply opT_of; (refine r_field_pp rfl rfl rfl rfl rfl (by decide) ?_); refine r_nil ?_; exact rfl
  · exact rfl
  · exact rfl
  apply r_guard (s := 10) rfl rfl rfl
  · intro hg; apply opT_strip (s := 11) rfl (by (rw [hg]; rfl)); apply opT_of; (refine r_load_pp rfl rfl rfl rfl ?_); refine r_nil ?_; exact rfl
  · exact rfl
  · exact rfl
  apply r_guard (s := 10) rfl rfl rfl
  · intro hg; apply opT_of; (refine r_field_pp rfl rfl rfl rfl rfl (by decide) ?_); refine r_nil ?_; exact rfl
  · exact rfl
  · exact rfl
  apply r_guard (s := 10) rfl rfl rfl
  · intro hg; apply opT_strip (s := 13) rfl (by (rw [hg]; rfl)); apply opT_of; (refine r_load_pp rfl rfl rfl rfl ?_); refine r_nil ?_; exact rfl
  · exact rfl
  · exact rfl
  apply r_guard (s := 10) rfl rfl rfl
  · intro hg; apply opT_strip (s := 12) rfl (by (rw [hg]; rfl)); apply opT_strip (s := 14) rfl (by (rw [hg]; rfl)); apply opT_of; (refine r_call (c_Eq_int _ _) rfl rfl rfl rfl rfl ?_); refine r_nil ?_; exact rfl
  · exact rfl
  · exact rfl
  refine r_and rfl rfl ?_
  refine asB rfl ?_
  refine r_nil ?_
  refine i_then ?_
  refine t_ret ?_
  refine i_rp1 rfl rfl ?_
  all_goals skip
  exact ret_eq rfl rfl (congrArg Ty.bool (row_eqB a b))
set_option maxRecDepth 100000 in
theorem c_EqualFunc (a b : List BRow) : Ctr Tryd.prog 59 [Ty.sl BRowE a, Ty.sl BRowE b, Ty.clo 60 []] (Ty.bool (decide (a = b))) := by
  refine fn_intro Tryd.func59 rfl (by decide) Tryd.ntmps59 (by exact Nat.le_of_ble_eq_true rfl) fun w0 M0 => ?_
  refine t_fact (s := 0) rfl rfl sl_len fun ha => ?_
  refine t_fact (s := 1) rfl rfl sl_len fun hb => ?_
  refine t_seq ?_
  refine t_region ?_
  refine asB rfl ?_
  refine r_nil ?_
  refine i_then ?_
  refine t_seq ?_
  refine t_seq ?_
  refine t_region ?_
  refine mvS rfl ?_
  refine r_len rfl rfl rfl ?_
  refine mvS rfl ?_
  refine r_len rfl rfl rfl ?_
  refine r_bin rfl rfl rfl ?_
  refine r_nil ?_
  refine i_then ?_
  refine t_cond_ndec rfl (fun hc1 => ?_) (fun hc1 => ?_)
  ·
    try (simp only [Classical.not_not] at hc1)
    refine t_seq ?_
    refine t_region ?_
    refine asB rfl ?_
    refine r_nil ?_
    refine i_then ?_
    refine t_ret ?_
    refine i_then_ret ?_
    refine i_rp1 rfl rfl ?_
    all_goals skip
    exact ret_eq rfl rfl (congrArg Ty.bool (by rw [eq_comm, decide_eq_false_iff_not]; intro e; subst e; exact hc1 rfl))
  ·
    try (simp only [Classical.not_not] at hc1)
    refine t_skip ?_
    refine i_then ?_
    refine t_seq ?_
    refine t_seq ?_
    refine t_region ?_
    refine mvS rfl ?_
    refine r_len rfl rfl rfl ?_
    refine mvI rfl ?_
    refine r_nil ?_
    refine i_then ?_
    refine t_block ?_
    refine t_loop (fun (k : {k : Nat // a.take k = b.take k}) => live [(1, Ty.sl BRowE b), (2, Ty.clo 60 []), (15, Ty.sl BRowE a), (16, Ty.int .i64 a.length), (17, Ty.int .i64 (k.1 : Nat))] []) (fun k => a.length - k.1) (⟨0, by simp⟩) ?_ fun k => ?_
    · (refine Ent.mk' ?_ ?_ <;> (repeat' (first | exact allSub_zero | exact allTags_nil | refine allSub_succ' ?_ (Ty.sub_any _) | refine allSub_succ' ?_ (Ty.sub_refl _))))
    ·
      have hlen : a.length = b.length := by omega
      refine t_seq ?_
      refine t_region ?_
      refine r_bin rfl rfl rfl ?_
      refine r_nil ?_
      refine i_then ?_
      refine t_seq ?_
      refine t_cond_dec rfl (fun hc2 => ?_) (fun hc2 => ?_)
      ·
        try (simp only [Classical.not_not] at hc2)
        refine t_skip ?_
        refine i_then ?_
        refine t_seq ?_
        refine t_block ?_
        refine t_seq ?_
        refine t_region ?_
        refine mvI rfl ?_
        refine r_index_slN rfl rfl rfl rfl rfl rfl (by omega) ?_
        refine r_load_ppN rfl rfl rfl (by exact Nat.le_of_ble_eq_true rfl) ?_
        refine r_alloc rfl (by exact List.cons_ne_nil _ _) rfl ?_
        refine asI rfl ?_
        refine r_storeN rfl rfl (by decide) rfl rfl rfl rfl rfl rfl ?_
        refine r_nil ?_
        refine i_then ?_
        refine t_seq ?_
        refine t_region ?_
        refine mvS rfl ?_
        refine mvI rfl ?_
        refine r_index_slN rfl rfl rfl rfl rfl rfl (by omega) ?_
        refine r_load_ppN rfl rfl rfl (by exact Nat.le_of_ble_eq_true rfl) ?_
        refine r_alloc rfl (by exact List.cons_ne_nil _ _) rfl ?_
        refine r_storeN rfl rfl (by decide) rfl rfl rfl rfl rfl rfl ?_
        refine r_nil ?_
        refine i_then ?_
        refine t_seq ?_
        refine t_region ?_
        refine mvF rfl ?_
        refine r_load_ptrN rfl rfl (by decide) rfl rfl (by exact Nat.le_of_ble_eq_true rfl) ?_
        refine r_load_ptrN rfl rfl (by decide) rfl rfl (by exact Nat.le_of_ble_eq_true rfl) ?_
        refine r_callv rfl (c_same1 (nth a k.1) (nth b k.1)) rfl rfl rfl rfl rfl ?_
        refine r_not rfl ?_
        refine r_nil ?_
        refine i_then ?_
        refine t_cond_ndec rfl (fun hc3 => ?_) (fun hc3 => ?_)
        ·
          try (simp only [Classical.not_not] at hc3)
          refine t_seq ?_
          refine t_region ?_
          refine asB rfl ?_
          refine r_nil ?_
          refine i_then ?_
          refine t_ret ?_
          refine i_block_ret ?_
          refine i_then_ret ?_
          refine i_then_ret ?_
          refine i_block_ret ?_
          refine i_then_ret ?_
          refine i_rp1 rfl rfl ?_
          all_goals skip
          exact ret_eq rfl rfl (congrArg Ty.bool (by rw [eq_comm, decide_eq_false_iff_not]; exact ne_of_nth (k := k.1) (hc3)))
        ·
          try (simp only [Classical.not_not] at hc3)
          refine t_skip ?_
          refine i_block ?_
          refine i_then ?_
          refine t_region ?_
          refine r_add rfl rfl (by omega) (by omega) ?_
          refine mvI rfl ?_
          refine r_nil ?_
          refine i_round (⟨k.1 + 1, by rw [take_nth (by omega), take_nth (by omega), k.2, hc3]⟩) ?_ (by show a.length - (k.1 + 1) < a.length - k.1; omega)
          (refine Ent.mk' ?_ ?_ <;> (repeat' (first | exact allSub_zero | exact allTags_nil | refine allSub_succ' ?_ (Ty.sub_any _) | refine allSub_succ' ?_ (Ty.sub_refl _))))
          all_goals skip
      ·
        try (simp only [Classical.not_not] at hc2)
        refine t_exit ?_
        refine i_then_exit ?_
        refine i_then_exit ?_
        refine i_block_exit rfl ?_
        refine i_then ?_
        refine t_seq ?_
        refine t_region ?_
        refine asB rfl ?_
        refine r_nil ?_
        refine i_then ?_
        refine t_ret ?_
        refine i_rp1 rfl rfl ?_
        all_goals skip
        exact ret_eq rfl rfl (congrArg Ty.bool (by rw [eq_comm, decide_eq_true_eq]; have := k.2; rwa [List.take_of_length_le (by omega), List.take_of_length_le (by omega)] at this))
set_option maxRecDepth 100000 in
theorem c_same (a b : Book) : Ctr Tryd.prog 17 [bokT a, bokT b] (Ty.bool (decide (a = b))) := by
  refine fn_intro Tryd.func17 rfl (by decide) Tryd.ntmps17 (by exact Nat.le_of_ble_eq_true rfl) fun w0 M0 => ?_
  refine t_seq ?_
  refine t_region ?_
  refine r_box_agg rfl ?_
  refine r_box_agg rfl ?_
  refine asB rfl ?_
  refine r_nil ?_
  refine i_then ?_
  refine t_seq ?_
  refine t_region ?_
  refine r_field_pp rfl rfl rfl rfl rfl (by decide) ?_
  refine r_field_pp rfl rfl rfl rfl rfl (by decide) ?_
  refine r_load_pp rfl rfl rfl rfl ?_
  refine r_field_pp rfl rfl rfl rfl rfl (by decide) ?_
  refine r_field_pp rfl rfl rfl rfl rfl (by decide) ?_
  refine r_load_pp rfl rfl rfl rfl ?_
  refine r_call (c_Eq_int _ _) rfl rfl rfl rfl rfl ?_
  refine mvB rfl ?_
  apply r_guard (s := 12) rfl rfl rfl
  · intro hg; apply opT_of; (refine r_field_pp rfl rfl rfl rfl rfl (by decide) ?_); refine r_nil ?_; exact rfl
  · exact rfl
  · exact rfl
  apply r_guard (s := 12) rfl rfl rfl
  · intro hg; apply opT_strip (s := 13) rfl (by (rw [hg]; rfl)); apply opT_of; (refine r_field_pp rfl rfl rfl rfl rfl (by decide) ?_); refine r_nil ?_; exact rfl
  · exact rfl
  · exact rfl
  apply r_guard (s := 12) rfl rfl rfl
  · intro hg; apply opT_strip (s := 14) rfl (by (rw [hg]; rfl)); apply opT_of; (refine r_load_pp rfl rfl rfl rfl ?_); refine r_nil ?_; exact rfl
  · exact rfl
  · exact rfl
  apply r_guard (s := 12) rfl rfl rfl
  · intro hg; apply opT_of; (refine r_field_pp rfl rfl rfl rfl rfl (by decide) ?_); refine r_nil ?_; exact rfl
  · exact rfl
  · exact rfl
  apply r_guard (s := 12) rfl rfl rfl
  · intro hg; apply opT_strip (s := 16) rfl (by (rw [hg]; rfl)); apply opT_of; (refine r_field_pp rfl rfl rfl rfl rfl (by decide) ?_); refine r_nil ?_; exact rfl
  · exact rfl
  · exact rfl
  apply r_guard (s := 12) rfl rfl rfl
  · intro hg; apply opT_strip (s := 17) rfl (by (rw [hg]; rfl)); apply opT_of; (refine r_load_pp rfl rfl rfl rfl ?_); refine r_nil ?_; exact rfl
  · exact rfl
  · exact rfl
  apply r_guard (s := 12) rfl rfl rfl
  · intro hg; apply opT_strip (s := 15) rfl (by (rw [hg]; rfl)); apply opT_strip (s := 18) rfl (by (rw [hg]; rfl)); apply opT_of; (refine r_bin rfl rfl rfl ?_); refine r_nil ?_; exact rfl
  · exact rfl
  · exact rfl
  refine r_and rfl rfl ?_
  refine mvB rfl ?_
  apply r_guard (s := 21) rfl rfl rfl
  · intro hg; apply opT_of; (refine r_field_pp rfl rfl rfl rfl rfl (by decide) ?_); refine r_nil ?_; exact rfl
  · exact rfl
  · exact rfl
  apply r_guard (s := 21) rfl rfl rfl
  · intro hg; apply opT_strip (s := 22) rfl (by (rw [hg]; rfl)); apply opT_of; (refine r_load_pp rfl rfl rfl rfl ?_); refine r_nil ?_; exact rfl
  · exact rfl
  · exact rfl
  apply r_guard (s := 21) rfl rfl rfl
  · intro hg; apply opT_of; (refine r_field_pp rfl rfl rfl rfl rfl (by decide) ?_); refine r_nil ?_; exact rfl
  · exact rfl
  · exact rfl
  apply r_guard (s := 21) rfl rfl rfl
  · intro hg; apply opT_strip (s := 24) rfl (by (rw [hg]; rfl)); apply opT_of; (refine r_load_pp rfl rfl rfl rfl ?_); refine r_nil ?_; exact rfl
  · exact rfl
  · exact rfl
  apply r_guard (s := 21) rfl rfl rfl
  · intro hg; apply opT_strip (s := 23) rfl (by (rw [hg]; rfl)); apply opT_strip (s := 25) rfl (by (rw [hg]; rfl)); apply opT_of; (refine r_call (c_EqualFunc a.rows b.rows) rfl rfl rfl rfl rfl ?_); refine r_nil ?_; exact rfl
  · exact rfl
  · exact rfl
  refine r_and rfl rfl ?_
  refine asB rfl ?_
  refine r_nil ?_
  refine i_then ?_
  refine t_ret ?_
  refine i_rp1 rfl rfl ?_
  all_goals skip
  all_goals exact ret_eq rfl rfl (congrArg Ty.bool (sameB_eq a b))
set_option maxRecDepth 100000 in
theorem c_Two : Ctr Tryd.prog 40 [] (Ty.tup [bokT bTwo, Ty.str (bs tTwo)]) := by
  refine fn_intro Tryd.func40 rfl (by decide) Tryd.ntmps40 (by exact Nat.le_of_ble_eq_true rfl) fun w0 M0 => ?_
  refine t_seq ?_
  refine t_region ?_
  refine r_alloc rfl (by exact List.cons_ne_nil _ _) rfl ?_
  refine asS' rfl ?_
  refine r_nil ?_
  refine i_then ?_
  refine t_seq ?_
  refine t_region ?_
  refine r_buildSlice (E := I64) (xs := [_, _]) rfl rfl rfl rfl rfl (by decide) (by decide) (by repeat (first | exact (Parts.nil : Parts _ _ [] _) | (show Parts _ _ ((_, _) :: _) _; apply Parts.one; (· exact (rfl : _ = Ty.int _ _)); (· exact rfl)))) (by exact rfl) rfl ?_
  refine r_build rfl rfl (by exact List.cons_ne_nil _ _) rfl (by repeat (first | exact (Parts.nil : Parts _ _ [] _) | (show Parts _ _ ((_, _) :: _) _; apply Parts.one; (· first | exact (rfl : _ = Ty.int _ _) | exact (rfl : _ = Ty.sl _ _)); (· exact rfl)))) (by exact (rfl : _ = some [_, _])) ?_
  refine r_buildSlice (E := I64) (xs := [_, _]) rfl rfl rfl rfl rfl (by decide) (by decide) (by repeat (first | exact (Parts.nil : Parts _ _ [] _) | (show Parts _ _ ((_, _) :: _) _; apply Parts.one; (· exact (rfl : _ = Ty.int _ _)); (· exact rfl)))) (by exact rfl) rfl ?_
  refine r_build rfl rfl (by exact List.cons_ne_nil _ _) rfl (by repeat (first | exact (Parts.nil : Parts _ _ [] _) | (show Parts _ _ ((_, _) :: _) _; apply Parts.one; (· exact (rfl : _ = Ty.sl _ _)); (· exact rfl)))) (by exact (rfl : _ = some [_, _])) ?_
  refine r_buildSlice (E := I64) (xs := [_, _]) rfl rfl rfl rfl rfl (by decide) (by decide) (by repeat (first | exact (Parts.nil : Parts _ _ [] _) | (show Parts _ _ ((_, _) :: _) _; apply Parts.one; (· exact (rfl : _ = Ty.int _ _)); (· exact rfl)))) (by exact rfl) rfl ?_
  refine r_build rfl rfl (by exact List.cons_ne_nil _ _) rfl (by repeat (first | exact (Parts.nil : Parts _ _ [] _) | (show Parts _ _ ((_, _) :: _) _; apply Parts.one; (· exact (rfl : _ = Ty.sl _ _)); (· exact rfl)))) (by exact (rfl : _ = some [_, _])) ?_
  refine r_buildSlice (E := I64) (xs := [_, _]) rfl rfl rfl rfl rfl (by decide) (by decide) (by repeat (first | exact (Parts.nil : Parts _ _ [] _) | (show Parts _ _ ((_, _) :: _) _; apply Parts.one; (· exact (rfl : _ = Ty.int _ _)); (· exact rfl)))) (by exact rfl) rfl ?_
  refine r_build rfl rfl (by exact List.cons_ne_nil _ _) rfl (by repeat (first | exact (Parts.nil : Parts _ _ [] _) | (show Parts _ _ ((_, _) :: _) _; apply Parts.one; (· first | exact (rfl : _ = Ty.sl _ _) | exact (rfl : _ = Ty.bool _)); (· exact rfl)))) (by exact (rfl : _ = some [_, _])) ?_
  refine r_buildSlice (E := BRowE) (xs := bTwo.rows) rfl rfl rfl rfl rfl (by decide) (by decide) (by repeat (first | exact (Parts.nil : Parts _ _ [] _) | (show Parts _ _ ((_, _) :: _) _; apply Parts.agg; (· exact (rfl : _ = Ty.agg _))))) (by exact rfl) rfl ?_
  refine r_build rfl rfl (by exact List.cons_ne_nil _ _) rfl (by repeat (first | exact (Parts.nil : Parts _ _ [] _) | (show Parts _ _ ((_, _) :: _) _; apply Parts.one; (· exact (rfl : _ = Ty.sl _ _)); (· exact rfl)) | (show Parts _ _ ((_, _) :: _) _; apply Parts.agg; (· exact (rfl : _ = Ty.agg _))))) (by exact (rfl : _ = some [_, _, _])) ?_
  refine r_storeN rfl rfl (by decide) rfl rfl rfl rfl rfl rfl ?_
  refine asS' rfl ?_
  refine r_nil ?_
  refine i_then ?_
  refine t_ret ?_
  refine i_rcell2 rfl rfl rfl rfl rfl (by decide) rfl rfl rfl ?_ ?_
  all_goals exact ret_refl rfl rfl
  all_goals trace_state
theorem two_rng : ∀ r ∈ bTwo.rows, Rng r.nums := by unfold Rng; decide
theorem c_aw1 : Ctr Tryd.prog 14 [bokT bTwo] (Ty.tup [Ty.str (bs tTwo), Ty.int .i64 0]) := by
  have h := c_Print bTwo two_rng
  rwa [aw1, aw1'] at h
theorem c_aw2 : Ctr Tryd.prog 15 [frmT bTwo.form, Ty.str (bs tTwo1)] (Ty.tup [bokT Book.zero, Ty.int .i64 8, Ty.int .i64 11]) := by
  have h := c_Parse bTwo.form tTwo1 (by decide)
  unfold parT at h
  rwa [aw2] at h
theorem c_aw3 : Ctr Tryd.prog 15 [frmT bTwo.form, Ty.str (bs tTwo2)] (Ty.tup [bokT Book.zero, Ty.int .i64 34, Ty.int .i64 11]) := by
  have h := c_Parse bTwo.form tTwo2 (by decide)
  unfold parT at h
  rwa [aw3] at h
theorem c_aw4 : Ctr Tryd.prog 34 [Ty.str (bs tTwo), Ty.sl I64 [2, 8]] (Ty.tup [Ty.str (bs tTwo3), Ty.int .i64 0]) := by
  have h := c_Tear tTwo [2, 8] (by decide)
  rwa [aw4] at h
theorem c_aw5 : Ctr Tryd.prog 21 [frmT bTwo.form, Ty.str (bs tTwo3)] (Ty.tup [bokT bTwo, Ty.int .i64 0]) := by
  have h := c_Restore bTwo.form tTwo3
  rwa [aw_res] at h
theorem c_aw6 : Ctr Tryd.prog 19 [frmT fOne, Ty.str (bs tOne)] (Ty.tup [Ty.int .i64 10, Ty.int .i64 0]) := by
  have h := c_Count fOne tOne
  rwa [aw_cnt] at h
theorem c_aw7 : Ctr Tryd.prog 20 [frmT fOne, Ty.str (bs tOne)] (Ty.tup [Ty.sl StrE lOne, Ty.int .i64 0]) := by
  have h := c_Fillings fOne tOne
  rwa [aw_fil] at h
theorem c_aw8 : Ctr Tryd.prog 41 [bokT bTwo] (Ty.tup [Ty.sl RowE [[112, 45], [112, 45]], Ty.int .i64 0]) := by
  have h := c_Foots bTwo two_rng
  rwa [aw8, aw1'] at h
set_option maxRecDepth 100000 in
theorem c_awake : Ctr Tryd.prog 11 [] (Ty.bool true) := by
  refine fn_intro Tryd.func11 rfl (by decide) Tryd.ntmps11 (by exact Nat.le_of_ble_eq_true rfl) fun w0 M0 => ?_
  refine t_seq ?_
  refine t_region ?_
  refine asB rfl ?_
  refine r_nil ?_
  refine i_then ?_
  refine t_seq ?_
  refine t_region ?_
  refine r_call (c_Two) rfl rfl rfl rfl rfl ?_
  refine mvT rfl ?_
  refine r_extract rfl rfl ?_
  refine r_extract rfl rfl ?_
  refine r_alloc rfl (by exact List.cons_ne_nil _ _) rfl ?_
  refine r_storeN rfl rfl (by decide) rfl rfl rfl rfl rfl rfl ?_
  refine asS' rfl ?_
  refine r_nil ?_
  refine i_then ?_
  refine t_seq ?_
  refine t_pub (tg := 2) [(1, Ty.pp (bokTys bTwo))] (by decide) rfl ⟨pub_ptr (T := 30) (tg := 2) (off := 0) (l := bokTys bTwo) rfl rfl rfl (by decide), trivial⟩ ?_
  refine t_region ?_
  refine r_load_ppN rfl rfl rfl (by exact Nat.le_of_ble_eq_true rfl) ?_
  refine r_call c_aw1 rfl rfl rfl rfl rfl ?_
  refine mvT rfl ?_
  refine r_extract rfl rfl ?_
  refine r_extract rfl rfl ?_
  refine asS' rfl ?_
  refine asI rfl ?_
  refine r_nil ?_
  refine i_then ?_
  refine t_seq ?_
  refine t_forget (B := live [(1, Ty.pp (bokTys bTwo)), (2, Ty.str (bs tTwo)), (3, Ty.str (bs tTwo)), (4, Ty.int .i64 0)] []) ?_ ?_
  · (refine Ent.mk' ?_ ?_ <;> (repeat' (first | exact allSub_zero | exact allTags_nil | refine allSub_succ' ?_ (Ty.sub_any _) | refine allSub_succ' ?_ (Ty.sub_refl _))))
  refine t_draw mixed rfl ?_
  refine r_field_pp rfl rfl rfl rfl rfl (by decide) ?_
  refine r_load_ppN rfl rfl rfl (by exact Nat.le_of_ble_eq_true rfl) ?_
  refine mvS' rfl ?_
  refine r_cutS_hi (hi := 8) rfl rfl rfl rfl (by decide) ?_
  refine r_catS rfl rfl (by decide) ?_
  refine mvS' rfl ?_
  refine r_cutS_lo (lo := 9) rfl rfl rfl rfl (by decide) ?_
  refine r_catS rfl rfl (by decide) ?_
  refine r_call c_aw2 rfl rfl rfl rfl rfl ?_
  refine mvT rfl ?_
  refine r_extract rfl rfl ?_
  refine r_extract rfl rfl ?_
  refine r_extract rfl rfl ?_
  refine r_alloc rfl (by exact List.cons_ne_nil _ _) rfl ?_
  refine r_storeN rfl rfl (by decide) rfl rfl rfl rfl rfl rfl ?_
  refine asI rfl ?_
  refine asI rfl ?_
  refine r_nil ?_
  refine ⟨by kernel_rfl, ?_⟩
  refine i_then ?_
  refine t_seq ?_
  refine t_forget (B := live [(1, Ty.pp (bokTys bTwo)), (2, Ty.str (bs tTwo)), (3, Ty.str (bs tTwo)), (4, Ty.int .i64 0), (6, Ty.int .i64 8), (7, Ty.int .i64 11)] []) ?_ ?_
  · (refine Ent.mk' ?_ ?_ <;> (repeat' (first | exact allSub_zero | exact allTags_nil | refine allSub_succ' ?_ (Ty.sub_any _) | refine allSub_succ' ?_ (Ty.sub_refl _))))
  refine t_draw mixed rfl ?_
  refine r_field_pp rfl rfl rfl rfl rfl (by decide) ?_
  refine r_load_ppN rfl rfl rfl (by exact Nat.le_of_ble_eq_true rfl) ?_
  refine mvS' rfl ?_
  refine r_cutS_hi (hi := 34) rfl rfl rfl rfl (by decide) ?_
  refine r_call c_aw3 rfl rfl rfl rfl rfl ?_
  refine mvT rfl ?_
  refine r_extract rfl rfl ?_
  refine r_extract rfl rfl ?_
  refine r_extract rfl rfl ?_
  refine r_alloc rfl (by exact List.cons_ne_nil _ _) rfl ?_
  refine r_storeN rfl rfl (by decide) rfl rfl rfl rfl rfl rfl ?_
  refine asI rfl ?_
  refine asI rfl ?_
  refine r_nil ?_
  refine ⟨by kernel_rfl, ?_⟩
  refine i_then ?_
  refine t_seq ?_
  refine t_forget (B := live [(1, Ty.pp (bokTys bTwo)), (2, Ty.str (bs tTwo)), (3, Ty.str (bs tTwo)), (4, Ty.int .i64 0), (6, Ty.int .i64 8), (7, Ty.int .i64 11), (9, Ty.int .i64 34), (10, Ty.int .i64 11)] []) ?_ ?_
  · (refine Ent.mk' ?_ ?_ <;> (repeat' (first | exact allSub_zero | exact allTags_nil | refine allSub_succ' ?_ (Ty.sub_any _) | refine allSub_succ' ?_ (Ty.sub_refl _))))
  refine t_region ?_
  refine mvS' rfl ?_
  refine r_buildSlice (E := I64) (xs := [_, _]) rfl rfl rfl rfl rfl (by decide) (by decide) (by repeat (first | exact (Parts.nil : Parts _ _ [] _) | (show Parts _ _ ((_, _) :: _) _; apply Parts.one; (· exact (rfl : _ = Ty.int _ _)); (· exact rfl)))) (by exact rfl) rfl ?_
  refine r_call c_aw4 rfl rfl rfl rfl rfl ?_
  refine mvT rfl ?_
  refine r_extract rfl rfl ?_
  refine r_extract rfl rfl ?_
  refine asS' rfl ?_
  refine asI rfl ?_
  refine r_nil ?_
  refine i_then ?_
  refine t_seq ?_
  refine t_region ?_
  refine r_field_pp rfl rfl rfl rfl rfl (by decide) ?_
  refine r_load_ppN rfl rfl rfl (by exact Nat.le_of_ble_eq_true rfl) ?_
  refine mvS' rfl ?_
  refine r_call c_aw5 rfl rfl rfl rfl rfl ?_
  refine mvT rfl ?_
  refine r_extract rfl rfl ?_
  refine r_extract rfl rfl ?_
  refine r_alloc rfl (by exact List.cons_ne_nil _ _) rfl ?_
  refine r_storeN rfl rfl (by decide) rfl rfl rfl rfl rfl rfl ?_
  refine asI rfl ?_
  refine r_nil ?_
  refine i_then ?_
  refine t_seq ?_
  refine t_forget (B := live [(1, Ty.pp (bokTys bTwo)), (2, Ty.str (bs tTwo)), (3, Ty.str (bs tTwo)), (4, Ty.int .i64 0), (6, Ty.int .i64 8), (7, Ty.int .i64 11), (9, Ty.int .i64 34), (10, Ty.int .i64 11), (12, Ty.int .i64 0), (13, Ty.ptr 14 0), (14, Ty.int .i64 0)] [(14, Cont.cells 30 (bokTys bTwo))]) ?_ ?_
  · (refine Ent.mk' ?_ ?_ <;> (repeat' (first | exact allSub_zero | exact allTags_nil | refine allSub_succ' ?_ (Ty.sub_any _) | refine allSub_succ' ?_ (Ty.sub_refl _) | refine allTags_cons rfl (Cont.sub_refl _) ?_)))
  refine t_pub (tg := 14) [(13, Ty.pp (bokTys bTwo))] (by decide) rfl ⟨pub_ptr (T := 30) (tg := 14) (off := 0) (l := bokTys bTwo) rfl rfl rfl (by decide), trivial⟩ ?_
  refine t_region ?_
  refine r_buildSlice (E := I64) (xs := [_]) rfl rfl rfl rfl rfl (by decide) (by decide) (by repeat (first | exact (Parts.nil : Parts _ _ [] _) | (show Parts _ _ ((_, _) :: _) _; apply Parts.one; (· exact (rfl : _ = Ty.int _ _)); (· exact rfl)))) (by exact rfl) rfl ?_
  refine r_build rfl rfl (by exact List.cons_ne_nil _ _) rfl (by repeat (first | exact (Parts.nil : Parts _ _ [] _) | (show Parts _ _ ((_, _) :: _) _; apply Parts.one; (· first | exact (rfl : _ = Ty.int _ _) | exact (rfl : _ = Ty.sl _ _)); (· exact rfl)))) (by exact (rfl : _ = some [_, _])) ?_
  refine r_alloc rfl (by exact List.cons_ne_nil _ _) rfl ?_
  refine r_storeN rfl rfl (by decide) rfl rfl rfl rfl rfl rfl ?_
  refine r_nil ?_
  refine i_then ?_
  refine t_seq ?_
  refine t_region ?_
  refine r_load_ptrN rfl rfl (by decide) rfl rfl (by exact Nat.le_of_ble_eq_true rfl) ?_
  refine r_call c_aw6 rfl rfl rfl rfl rfl ?_
  refine mvT rfl ?_
  refine r_extract rfl rfl ?_
  refine r_extract rfl rfl ?_
  refine asI rfl ?_
  refine asI rfl ?_
  refine r_nil ?_
  refine i_then ?_
  refine t_seq ?_
  refine t_region ?_
  refine r_load_ptrN rfl rfl (by decide) rfl rfl (by exact Nat.le_of_ble_eq_true rfl) ?_
  refine r_call c_aw7 rfl rfl rfl rfl rfl ?_
  refine mvT rfl ?_
  refine r_extract rfl rfl ?_
  refine r_extract rfl rfl ?_
  refine asS rfl ?_
  refine asI rfl ?_
  refine r_nil ?_
  refine i_then ?_
  refine t_seq ?_
  refine t_region ?_
  refine r_load_ppN rfl rfl rfl (by exact Nat.le_of_ble_eq_true rfl) ?_
  refine r_call c_aw8 rfl rfl rfl rfl rfl ?_
  refine mvT rfl ?_
  refine r_extract rfl rfl ?_
  refine r_extract rfl rfl ?_
  refine asS rfl ?_
  refine asI rfl ?_
  refine r_nil ?_
  refine i_then ?_
  refine t_seq ?_
  refine t_forget (B := live [(1, Ty.pp (bokTys bTwo)), (2, Ty.str (bs tTwo)), (3, Ty.str (bs tTwo)), (4, Ty.int .i64 0), (6, Ty.int .i64 8), (7, Ty.int .i64 11), (9, Ty.int .i64 34), (10, Ty.int .i64 11), (12, Ty.int .i64 0), (13, Ty.pp (bokTys bTwo)), (14, Ty.int .i64 0), (16, Ty.int .i64 10), (17, Ty.int .i64 0), (18, Ty.sl StrE lOne), (19, Ty.int .i64 0), (20, Ty.sl RowE [[112, 45], [112, 45]]), (21, Ty.int .i64 0)] []) ?_ ?_
  · (refine Ent.mk' ?_ ?_ <;> (repeat' (first | exact allSub_zero | exact allTags_nil | refine allSub_succ' ?_ (Ty.sub_any _) | refine allSub_succ' ?_ (Ty.sub_refl _))))
  refine t_region ?_
  refine mvI rfl ?_
  refine r_bin rfl rfl rfl ?_
  refine mvB rfl ?_
  apply r_guard (s := 85) rfl rfl rfl
  · intro hg; apply opT_of; (refine mvI rfl ?_); refine r_nil ?_; exact rfl
  · exact rfl
  · exact rfl
  apply r_guard (s := 85) rfl rfl rfl
  · intro hg; apply opT_strip (s := 86) rfl (by exact hg); apply opT_of; (refine r_bin rfl rfl rfl ?_); refine r_nil ?_; exact rfl
  · exact rfl
  · exact rfl
  refine r_and rfl rfl ?_
  refine mvB rfl ?_
  apply r_guard (s := 89) rfl rfl rfl
  · intro hg; apply opT_of; (refine mvI rfl ?_); refine r_nil ?_; exact rfl
  · exact rfl
  · exact rfl
  apply r_guard (s := 89) rfl rfl rfl
  · intro hg; apply opT_strip (s := 90) rfl (by exact hg); apply opT_of; (refine r_bin rfl rfl rfl ?_); refine r_nil ?_; exact rfl
  · exact rfl
  · exact rfl
  refine r_and rfl rfl ?_
  refine mvB rfl ?_
  apply r_guard (s := 93) rfl rfl rfl
  · intro hg; apply opT_of; (refine mvI rfl ?_); refine r_nil ?_; exact rfl
  · exact rfl
  · exact rfl
  apply r_guard (s := 93) rfl rfl rfl
  · intro hg; apply opT_strip (s := 94) rfl (by exact hg); apply opT_of; (refine r_bin rfl rfl rfl ?_); refine r_nil ?_; exact rfl
  · exact rfl
  · exact rfl
  refine r_and rfl rfl ?_
  refine mvB rfl ?_
  apply r_guard (s := 97) rfl rfl rfl
  · intro hg; apply opT_of; (refine mvI rfl ?_); refine r_nil ?_; exact rfl
  · exact rfl
  · exact rfl
  apply r_guard (s := 97) rfl rfl rfl
  · intro hg; apply opT_strip (s := 98) rfl (by exact hg); apply opT_of; (refine r_bin rfl rfl rfl ?_); refine r_nil ?_; exact rfl
  · exact rfl
  · exact rfl
  refine r_and rfl rfl ?_
  refine mvB rfl ?_
  apply r_guard (s := 101) rfl rfl rfl
  · intro hg; apply opT_of; (refine mvI rfl ?_); refine r_nil ?_; exact rfl
  · exact rfl
  · exact rfl
  apply r_guard (s := 101) rfl rfl rfl
  · intro hg; apply opT_strip (s := 102) rfl (by exact hg); apply opT_of; (refine r_bin rfl rfl rfl ?_); refine r_nil ?_; exact rfl
  · exact rfl
  · exact rfl
  refine r_and rfl rfl ?_
  refine mvB rfl ?_
  apply r_guard (s := 105) rfl rfl rfl
  · intro hg; apply opT_of; (refine mvI rfl ?_); refine r_nil ?_; exact rfl
  · exact rfl
  · exact rfl
  apply r_guard (s := 105) rfl rfl rfl
  · intro hg; apply opT_strip (s := 106) rfl (by exact hg); apply opT_of; (refine r_bin rfl rfl rfl ?_); refine r_nil ?_; exact rfl
  · exact rfl
  · exact rfl
  refine r_and rfl rfl ?_
  refine mvB rfl ?_
  apply r_guard (s := 109) rfl rfl rfl
  · intro hg; apply opT_of; (refine mvI rfl ?_); refine r_nil ?_; exact rfl
  · exact rfl
  · exact rfl
  apply r_guard (s := 109) rfl rfl rfl
  · intro hg; apply opT_strip (s := 110) rfl (by exact hg); apply opT_of; (refine r_bin rfl rfl rfl ?_); refine r_nil ?_; exact rfl
  · exact rfl
  · exact rfl
  refine r_and rfl rfl ?_
  refine mvB rfl ?_
  apply r_guard (s := 113) rfl rfl rfl
  · intro hg; apply opT_of; (refine mvS' rfl ?_); refine r_nil ?_; exact rfl
  · exact rfl
  · exact rfl
  apply r_guard (s := 113) rfl rfl rfl
  · intro hg; apply opT_of; (refine mvS' rfl ?_); refine r_nil ?_; exact rfl
  · exact rfl
  · exact rfl
  apply r_guard (s := 113) rfl rfl rfl
  · intro hg; apply opT_strip (s := 114) rfl (by exact hg); apply opT_strip (s := 115) rfl (by exact hg); apply opT_of; (refine r_eqlS rfl rfl ?_); refine r_nil ?_; exact rfl
  · exact rfl
  · exact rfl
  refine r_and rfl rfl ?_
  refine mvB rfl ?_
  apply r_guard (s := 118) rfl rfl rfl
  · intro hg; apply opT_of; (refine mvI rfl ?_); refine r_nil ?_; exact rfl
  · exact rfl
  · exact rfl
  apply r_guard (s := 118) rfl rfl rfl
  · intro hg; apply opT_strip (s := 119) rfl (by exact hg); apply opT_of; (refine r_bin rfl rfl rfl ?_); refine r_nil ?_; exact rfl
  · exact rfl
  · exact rfl
  refine r_and rfl rfl ?_
  refine mvB rfl ?_
  apply r_guard (s := 122) rfl rfl rfl
  · intro hg; apply opT_of; (refine mvI rfl ?_); refine r_nil ?_; exact rfl
  · exact rfl
  · exact rfl
  apply r_guard (s := 122) rfl rfl rfl
  · intro hg; apply opT_strip (s := 123) rfl (by exact hg); apply opT_of; (refine r_bin rfl rfl rfl ?_); refine r_nil ?_; exact rfl
  · exact rfl
  · exact rfl
  refine r_and rfl rfl ?_
  refine mvB rfl ?_
  apply r_guard (s := 126) rfl rfl rfl
  · intro hg; apply opT_of; (refine r_load_ppN rfl rfl rfl (by exact Nat.le_of_ble_eq_true rfl) ?_); refine r_nil ?_; exact rfl
  · exact rfl
  · exact rfl
  apply r_guard (s := 126) rfl rfl rfl
  · intro hg; apply opT_of; (refine r_load_ppN rfl rfl rfl (by exact Nat.le_of_ble_eq_true rfl) ?_); refine r_nil ?_; exact rfl
  · exact rfl
  · exact rfl
  apply r_guard (s := 126) rfl rfl rfl
  · intro hg; apply opT_strip (s := 127) rfl (by exact hg); apply opT_strip (s := 128) rfl (by exact hg); apply opT_of; (refine r_call (c_same _ _) rfl rfl rfl rfl rfl ?_); refine r_nil ?_; exact rfl
  · exact rfl
  · exact rfl
  refine r_and rfl rfl ?_
  refine mvB rfl ?_
  apply r_guard (s := 131) rfl rfl rfl
  · intro hg; apply opT_of; (refine mvI rfl ?_); refine r_nil ?_; exact rfl
  · exact rfl
  · exact rfl
  apply r_guard (s := 131) rfl rfl rfl
  · intro hg; apply opT_strip (s := 132) rfl (by exact hg); apply opT_of; (refine r_bin rfl rfl rfl ?_); refine r_nil ?_; exact rfl
  · exact rfl
  · exact rfl
  refine r_and rfl rfl ?_
  refine mvB rfl ?_
  apply r_guard (s := 135) rfl rfl rfl
  · intro hg; apply opT_of; (refine mvS rfl ?_); refine r_nil ?_; exact rfl
  · exact rfl
  · exact rfl
  apply r_guard (s := 135) rfl rfl rfl
  · intro hg; apply opT_of; (refine r_buildSlice (E := StrE) (xs := lOne) rfl rfl rfl rfl rfl (by decide) (by decide) (by repeat (first | exact (Parts.nil : Parts _ _ [] _) | (show Parts _ _ ((_, _) :: _) _; apply Parts.one; (· exact (rfl : _ = Ty.str _)); (· exact rfl)))) (by exact rfl) rfl ?_); refine r_nil ?_; exact rfl
  · exact rfl
  · exact rfl
  apply r_guard (s := 135) rfl rfl rfl
  · intro hg; apply opT_strip (s := 136) rfl (by exact hg); apply opT_strip (s := 137) rfl (by exact hg); apply opT_of; (refine r_call (c_Equal_str _ _) rfl rfl rfl rfl rfl ?_); refine r_nil ?_; exact rfl
  · exact rfl
  · exact rfl
  refine r_and rfl rfl ?_
  refine mvB rfl ?_
  apply r_guard (s := 140) rfl rfl rfl
  · intro hg; apply opT_of; (refine mvS rfl ?_); refine r_nil ?_; exact rfl
  · exact rfl
  · exact rfl
  apply r_guard (s := 140) rfl rfl rfl
  · intro hg; apply opT_of; (refine r_buildSlice (E := I64) (xs := [_, _]) rfl rfl rfl rfl rfl (by decide) (by decide) (by repeat (first | exact (Parts.nil : Parts _ _ [] _) | (show Parts _ _ ((_, _) :: _) _; apply Parts.one; (· exact (rfl : _ = Ty.int _ _)); (· exact rfl)))) (by exact rfl) rfl ?_); refine r_nil ?_; exact rfl
  · exact rfl
  · exact rfl
  apply r_guard (s := 140) rfl rfl rfl
  · intro hg; apply opT_of; (refine r_buildSlice (E := I64) (xs := [_, _]) rfl rfl rfl rfl rfl (by decide) (by decide) (by repeat (first | exact (Parts.nil : Parts _ _ [] _) | (show Parts _ _ ((_, _) :: _) _; apply Parts.one; (· exact (rfl : _ = Ty.int _ _)); (· exact rfl)))) (by exact rfl) rfl ?_); refine r_nil ?_; exact rfl
  · exact rfl
  · exact rfl
  apply r_guard (s := 140) rfl rfl rfl
  · intro hg; apply opT_strip (s := 142) rfl (by exact hg); apply opT_strip (s := 143) rfl (by exact hg); apply opT_of; (refine r_buildSlice (E := RowE) (xs := [[112, 45], [112, 45]]) rfl rfl rfl rfl rfl (by decide) (by decide) (by repeat (first | exact (Parts.nil : Parts _ _ [] _) | (show Parts _ _ ((_, _) :: _) _; apply Parts.one; (· exact (rfl : _ = Ty.sl _ _)); (· exact rfl)))) (by exact rfl) rfl ?_); refine r_nil ?_; exact rfl
  · exact rfl
  · exact rfl
  apply r_guard (s := 140) rfl rfl rfl
  · intro hg; apply opT_strip (s := 141) rfl (by exact hg); apply opT_strip (s := 144) rfl (by exact hg); apply opT_of; (refine r_call (c_EqRows _ _) rfl rfl rfl rfl rfl ?_); refine r_nil ?_; exact rfl
  · exact rfl
  · exact rfl
  refine r_and rfl rfl ?_
  refine asB rfl ?_
  refine r_nil ?_
  refine i_then ?_
  refine t_ret ?_
  refine i_rp1 rfl rfl ?_
  all_goals exact ret_refl rfl rfl
  all_goals trace_state
end Go.Proofs.YtjjndkenddigiaaDoor

namespace Go.Proofs.YtjjndkenddigiaaDoor
open Go Go.T
set_option maxHeartbeats 4000000
def bokFT (J : Nat) (b : Book) : Ty := Ty.agg [Ty.fam J (Ty.nw 0 I64 3 b.form.widths) rfl rfl, Ty.int .i64 b.form.lines, Ty.fam J (Ty.nw 0 (BRowV 0) 86 b.rows) rfl rfl]
theorem new_I64 (m : Nat) (x : Int) : ∀ t ∈ I64.tys x, NewTy m t := fun t ht => by rw [List.mem_singleton.1 ht]; exact newTy_int
theorem new_row (m : Nat) (r : BRow) : ∀ t ∈ (BRowV m).tys r, NewTy m t := fun t ht => by
  rcases List.mem_cons.1 (show t ∈ [Ty.nw m I64 3 r.nums, Ty.bool r.struck] from ht) with rfl | ht
  · exact newTy_nw (new_I64 m)
  · rw [List.mem_singleton.1 ht]; exact newTy_bool
theorem row_weak (m : Nat) (r : BRow) : Subs ((BRowV m).tys r) ((BRowV 0).tys r) := ⟨nw_weak (Nat.zero_le _) fun _ => subs_refl, Ty.sub_refl _, trivial⟩
theorem fam_bok (J : Nat) (b : Book) : FamOk J (fun m => bokNT m b) (bokFT J b) :=
  fam_agg (fams_cons (fam_new (t := fun m => Ty.nw m I64 3 b.form.widths) (fun m => newTy_nw (new_I64 m)) (fun m => nw_weak (Nat.zero_le _) fun _ => subs_refl)) (fams_cons fam_int (fams_cons (fam_new (t := fun m => Ty.nw m (BRowV m) 86 b.rows) (fun m => newTy_nw (new_row m)) (fun m => nw_weak (Nat.zero_le _) (row_weak m))) fams_nil)))
theorem fam_par (J : Nat) (f : BForm) (t : Byt) : FamOk J (fun m => parNT m f t) (Ty.tup [bokFT J (parV f t).1, Ty.int .i64 (parV f t).2.1, Ty.int .i64 (parV f t).2.2]) :=
  fam_tup (fams_cons (fam_bok J _) (fams_cons fam_int (fams_cons fam_int fams_nil)))
theorem lend_bok (L : List Nat) (J : Nat) (b : Book) (h : L.contains J = true) : Lend L (bokFT J b) (bokT b) :=
  lend_agg (lends_cons (lend_fam h (nw_sl fun _ => subs_refl)) (lends_cons (lend_pub rfl rfl) (lends_cons (lend_fam h (nw_sl (rowV_sub 0))) lends_nil)))
theorem cv_bokF {ρ : List (Nat × Nat)} {J J' : Nat} {b : Book} (h : (J, J') ∈ ρ) : Conv ρ (bokFT J b) (bokFT J' b) :=
  cv_agg (cv_cons (cv_cons (cv_cons cv_nil (cv_fam h)) (cv_pub rfl rfl)) (cv_fam h))
instance : Inhabited ({v : Value // v.oneCell' = true} × Bool) := ⟨⟨⟨.bool true, rfl⟩, true⟩⟩
theorem prt_1 {f : BForm} {t : Byt} (h : frmY f = 0) (hl : ¬ (t.length : Int) > 65536) (hi : prI f t = true) : parV f t = (⟨f, (runP f t).read⟩, (runN f t : Int), 0) := by
  unfold prI at hi
  simp only [Bool.and_eq_true, decide_eq_true_eq] at hi
  exact par_4 (fun e => e h) hl (by rw [hi.2]; simp; omega)
theorem prt_2 {f : BForm} {t : Byt} (h : frmY f = 0) (hl : ¬ (t.length : Int) > 65536) (hi : prI f t = false) : parV f t = (Book.zero, (runN f t : Int), 11) := by
  have hn := runN_len (f := f) (t := t)
  refine par_3 (fun e => e h) hl ?_
  unfold prI at hi
  by_cases he : runN f t = t.length
  · rw [decide_eq_true he, Bool.true_and] at hi
    rw [hi]; simp
  · rw [decide_eq_true (show (runN f t : Int) < (t.length : Int) by omega)]; rfl
theorem par_few (f : BForm) (t : Byt) : (parV f t).1.rows.length ≤ 1000 := by
  unfold parV
  split
  · exact Nat.zero_le _
  · rename_i h
    split
    · exact Nat.zero_le _
    · split
      · exact Nat.zero_le _
      · have := (runP_ok (text := t) (frmY_zero.1 (by simpa using h))).len
        show (runP f t).read.length ≤ 1000; omega
attribute [local irreducible] parV runN runP prI frmY
attribute [local irreducible] dInt dBool dSl dPp dPtr dAgg dTup dClo dAny dEx dStr dGd dCells dVec dVs dRow dOp nth Tri Into TOps Ctr bodyPost Exit.then Exit.inBlock Code.wp Code.wpIn dWhen dPa dArr dMp dMap CtrG keepPost iterPost bodyPostM roundQ
attribute [local irreducible] dFit
set_option maxRecDepth 100000 in
theorem c_ours (b : Book) (hl : b.rows.length ≤ 1000) : Ctr Tryd.prog 38 [bokT b] (bokT b) := by
  refine fn_intro Tryd.func38 rfl (by decide) Tryd.ntmps38 (by exact Nat.le_of_ble_eq_true rfl) fun w0 M0 => ?_
  refine t_seq ?_
  refine t_region ?_
  refine r_box_agg rfl ?_
  refine r_alloc rfl (by exact List.cons_ne_nil _ _) rfl ?_
  refine r_nil ?_
  refine i_then ?_
  refine t_seq ?_
  refine t_region ?_
  refine r_field_pp rfl rfl rfl rfl rfl (by decide) ?_
  refine r_load_ppN rfl rfl rfl (by exact Nat.le_of_ble_eq_true rfl) ?_
  refine r_build rfl rfl (by exact List.cons_ne_nil _ _) rfl (by repeat (first | exact (Parts.nil : Parts _ _ [] _) | (show Parts _ _ ((_, _) :: _) _; apply Parts.agg; (· exact (rfl : _ = Ty.agg _))))) (by exact (rfl : _ = some [_, _, _])) ?_
  refine r_alloc rfl (by exact List.cons_ne_nil _ _) rfl ?_
  refine r_storeN rfl rfl (by decide) rfl rfl rfl rfl rfl rfl ?_
  refine r_nil ?_
  refine i_then ?_
  refine t_seq ?_
  refine t_seq ?_
  refine t_region ?_
  refine r_field_pp rfl rfl rfl rfl rfl (by decide) ?_
  refine r_load_pp rfl rfl rfl rfl ?_
  refine r_len rfl rfl rfl ?_
  refine mvI rfl ?_
  refine r_nil ?_
  refine i_then ?_
  refine t_block ?_
  refine t_loop (fun (k : {k : Nat // k ≤ b.rows.length}) => live [(1, Ty.pp (bokTys b)), (2, Ty.ptr 3 0), (3, Ty.ptr 4 0), (10, Ty.sl BRowE b.rows), (11, Ty.int .i64 b.rows.length), (12, Ty.int .i64 (k.1 : Nat))] [(3, Cont.cells 30 [Ty.ex (.slice none 0 0), Ty.int .i64 0, Ty.ex (.slice none 0 0)]), (4, Cont.cells 30 [Ty.sl I64 b.form.widths, Ty.int .i64 b.form.lines, Ty.row BRowE 86 21 (b.rows.take k.1)])]) (fun k => b.rows.length - k.1) (⟨0, by omega⟩) ?_ fun k => ?_
  · (refine Ent.mk' ?_ ?_ <;> (repeat' (first | exact allSub_zero | exact allTags_nil | exact subs_nil | refine allSub_succ' ?_ (Ty.sub_any _) | refine allSub_succ' ?_ (Ty.sub_refl _) | refine allTags_cons rfl (Cont.sub_refl _) ?_ | refine allTags_cons rfl (Cont.sub_subs ?_) ?_ | refine subs_cons ?_ (Ty.sub_refl _) | refine subs_cons ?_ Ty.nil_row)))
    all_goals trace_state
  ·
    have hk := k.2
    have htl : (b.rows.take k.1).length = k.1 := by rw [List.length_take]; omega
    refine t_seq ?_
    refine t_region ?_
    refine r_bin rfl rfl rfl ?_
    refine r_nil ?_
    refine i_then ?_
    refine t_seq ?_
    refine t_cond_dec rfl (fun hc1 => ?_) (fun hc1 => ?_)
    ·
      refine t_skip ?_
      refine i_then ?_
      refine t_seq ?_
      refine t_block ?_
      refine t_seq ?_
      refine t_region ?_
      refine r_index_slN rfl rfl rfl rfl rfl rfl (by omega) ?_
      refine r_load_ppN rfl rfl rfl (by exact Nat.le_of_ble_eq_true rfl) ?_
      refine r_alloc rfl (by exact List.cons_ne_nil _ _) rfl ?_
      refine r_storeN rfl rfl (by decide) rfl rfl rfl rfl rfl rfl ?_
      refine r_nil ?_
      refine i_then ?_
      refine t_region ?_
      refine r_field_ptr rfl rfl rfl rfl rfl (by decide) ?_
      refine r_load_ptr rfl rfl (by decide) rfl rfl rfl ?_
      refine r_load_ptrN rfl rfl (by decide) rfl rfl (by exact Nat.le_of_ble_eq_true rfl) ?_
      refine r_buildSlice (E := BRowE) (xs := [nth b.rows k.1]) rfl rfl rfl rfl rfl (by decide) (by decide) (by repeat (first | exact (Parts.nil : Parts _ _ [] _) | (show Parts _ _ ((_, _) :: _) _; apply Parts.agg; (· exact (rfl : _ = Ty.agg _))))) (by exact rfl) rfl ?_
      refine r_append rfl rfl (by decide) rfl rfl rfl rfl rfl rfl (by decide) (by (simp <;> omega)) (by (simp <;> omega)) ?_
      refine r_field_ptr rfl rfl rfl rfl rfl (by decide) ?_
      refine r_store1 rfl rfl (by decide) rfl rfl (by exact (rfl : _ = Ty.row _ _ _ _)) rfl (by exact Nat.le_of_ble_eq_true rfl) rfl rfl (by exact rfl) ?_
      refine r_nil ?_
      refine i_block ?_
      refine i_then ?_
      refine t_region ?_
      refine r_add rfl rfl (by omega) (by omega) ?_
      refine mvI rfl ?_
      refine r_nil ?_
      refine i_round (⟨k.1 + 1, by omega⟩) ?_ (by show b.rows.length - (k.1 + 1) < b.rows.length - k.1; omega)
      (refine Ent.mk' ?_ ?_ <;> (repeat' (first | exact allSub_zero | exact allTags_nil | exact subs_nil | refine allSub_succ' ?_ (Ty.sub_any _) | refine allSub_succ' ?_ (Ty.sub_refl _) | refine allTags_cons rfl (Cont.sub_refl _) ?_ | refine allTags_cons rfl (Cont.sub_subs ?_) ?_ | refine subs_cons ?_ (Ty.sub_refl _) | refine subs_cons ?_ ?_)))
      all_goals exact Ty.sub_row (take_nth (by omega)).symm
      all_goals trace_state
    ·
      refine t_exit ?_
      refine i_then_exit ?_
      refine i_then_exit ?_
      refine i_block_exit rfl ?_
      refine i_then ?_
      refine t_seq ?_
      refine t_pubC (tg := 21) [] [(4, Cont.cells 30 (bokTys b))] (by decide) rfl trivial ⟨pubC_cells rfl rfl ⟨pubTy_same rfl, pubTy_same rfl, pubTy_row_eq (List.take_of_length_le (by have := k.2; omega)), trivial⟩, trivial⟩ ?_
      refine t_region ?_
      refine r_load_ptrN rfl rfl (by decide) rfl rfl (by exact Nat.le_of_ble_eq_true rfl) ?_
      refine r_storeN rfl rfl (by decide) rfl rfl rfl rfl rfl rfl ?_
      refine r_nil ?_
      refine i_then ?_
      refine t_ret ?_
      refine i_rcell rfl rfl rfl rfl (by decide) rfl rfl rfl ?_
      all_goals exact ret_refl rfl rfl
set_option maxRecDepth 100000 in
theorem k_spoilt (b : Book) (hb : b.rows.length ≤ 1000) : CtrG Tryd.prog 39 [] [] [bokFT 4096 b] [] (Ty.tup []) := by
  refine fnG_intro Tryd.func39 rfl (by decide) Tryd.ntmps39 (by exact Nat.le_of_ble_eq_true rfl) fun w0 M0 => ?_
  refine t_openF (s := 0) (J := 4096) (tg := 100) (Ti := 3) (Tr := 86) (nums := BRow.nums) (st := BRow.struck) rfl rfl (fun _ => rfl) rfl rfl (by decide) (by decide) rfl rfl fun v ys hy => ?_
  refine t_seq ?_
  refine t_region ?_
  refine r_box_agg rfl ?_
  refine r_nil ?_
  refine i_then ?_
  refine t_seq ?_
  refine t_region ?_
  refine r_field_pp rfl rfl rfl rfl rfl (by decide) ?_
  refine r_field_pp rfl rfl rfl rfl rfl (by decide) ?_
  refine r_load_pp rfl rfl rfl rfl ?_
  refine r_clearX (J := 4096) (v := v) rfl rfl List.mem_cons_self (by decide) rfl rfl rfl rfl rfl rfl ?_
  refine r_nil ?_
  refine i_then ?_
  refine t_seq ?_
  refine t_seq ?_
  refine t_region ?_
  refine r_field_pp rfl rfl rfl rfl rfl (by decide) ?_
  refine r_load_pp rfl rfl rfl rfl ?_
  refine r_len_vs rfl rfl rfl ?_
  refine mvI rfl ?_
  refine r_nil ?_
  refine i_then ?_
  refine t_block ?_
  refine t_loop (fun (k : {k : Nat // k ≤ b.rows.length}) => live [(1, Ty.pp [Ty.ex v, Ty.int .i64 b.form.lines, Ty.vs 100 b.rows.length]), (8, Ty.vs 100 b.rows.length), (9, Ty.int .i64 b.rows.length), (10, Ty.int .i64 (k.1 : Nat))] [(100, Cont.vec XEb 86 ys), (4096, Cont.fit (v :: ys.map fun y => y.1.1))]) (fun k => b.rows.length - k.1) (⟨0, Nat.zero_le _⟩) ?_ fun k => ?_
  · (refine Ent.mk' ?_ ?_ <;> (repeat' (first | exact allSub_zero | exact allTags_nil | refine allSub_succ' ?_ (Ty.sub_any _) | refine allSub_succ' ?_ (Ty.sub_refl _) | refine allTags_cons rfl (Cont.sub_refl _) ?_)))
    all_goals trace_state
  ·
    have hk := k.2
    refine t_seq ?_
    refine t_region ?_
    refine r_bin rfl rfl rfl ?_
    refine r_nil ?_
    refine i_then ?_
    refine t_seq ?_
    refine t_cond_dec rfl (fun hc1 => ?_) (fun hc1 => ?_)
    ·
      refine t_skip ?_
      refine i_then ?_
      refine t_seq ?_
      refine t_block ?_
      refine t_seq ?_
      refine t_region ?_
      refine r_index_vs rfl rfl rfl rfl rfl (by omega) ?_
      refine r_load_vecE k.1 rfl rfl rfl (by decide) rfl rfl rfl (by omega) ?_
      refine r_alloc rfl (by exact List.cons_ne_nil _ _) rfl ?_
      refine r_storeN rfl rfl (by decide) rfl rfl rfl rfl (XEb.ones (nth ys k.1)) rfl ?_
      refine r_nil ?_
      refine i_then ?_
      refine t_region ?_
      refine r_field_ptr rfl rfl rfl rfl rfl (by decide) ?_
      refine r_load_ptr rfl rfl (by decide) rfl rfl rfl ?_
      refine r_clearX (J := 4096) (v := (nth ys k.1).1.1) rfl rfl (List.mem_cons_of_mem _ (List.mem_map_of_mem (f := fun y => y.1.1) (nth_mem (xs := ys) (k := k.1) (by omega)))) (by decide) rfl rfl rfl rfl rfl rfl ?_
      refine r_nil ?_
      refine i_block ?_
      refine i_then ?_
      refine t_region ?_
      refine r_add rfl rfl (by omega) (by omega) ?_
      refine mvI rfl ?_
      refine r_nil ?_
      refine i_round (⟨k.1 + 1, by omega⟩) ?_ (by show b.rows.length - (k.1 + 1) < b.rows.length - k.1; omega)
      (refine Ent.mk' ?_ ?_ <;> (repeat' (first | exact allSub_zero | exact allTags_nil | refine allSub_succ' ?_ (Ty.sub_any _) | refine allSub_succ' ?_ (Ty.sub_refl _) | refine allTags_cons rfl (Cont.sub_refl _) ?_)))
      all_goals skip
      all_goals trace_state
    ·
      refine t_exit ?_
      refine i_then_exit ?_
      refine i_then_exit ?_
      refine i_block_exit rfl ?_
      refine i_then ?_
      refine t_region ?_
      refine r_field_pp rfl rfl rfl rfl rfl (by decide) ?_
      refine r_load_pp rfl rfl rfl rfl ?_
      refine r_clearVs rfl rfl hy (by decide) rfl rfl rfl rfl rfl (by decide) rfl ?_
      refine r_nil ?_
      refine i_end ?_
      refine g_ret0 [] rfl (by decide) (by repeat (exact rc_nil))
      all_goals trace_state
set_option maxRecDepth 100000 in
theorem c_parsed (f : BForm) (hw : f.widths.length ≤ 1000) (t : Byt) : Ctr Tryd.prog 10 [frmT f, Ty.str (bs t)] (Ty.bool true) := by
  refine fn_intro Tryd.func10 rfl (by decide) Tryd.ntmps10 (by exact Nat.le_of_ble_eq_true rfl) fun w0 M0 => ?_
  refine t_seq ?_
  refine t_region ?_
  refine r_box_agg rfl ?_
  refine asB rfl ?_
  refine r_nil ?_
  refine i_then ?_
  refine t_seq ?_
  refine t_draw mixed rfl ?_
  refine r_field_pp rfl rfl rfl rfl rfl (by decide) ?_
  refine r_load_pp rfl rfl rfl rfl ?_
  refine r_call (c_Dup_int f.widths hw) rfl rfl rfl rfl rfl ?_
  refine r_field_pp rfl rfl rfl rfl rfl (by decide) ?_
  refine r_load_pp rfl rfl rfl rfl ?_
  refine r_build rfl rfl (by exact List.cons_ne_nil _ _) rfl (by repeat (first | exact (Parts.nil : Parts _ _ [] _) | (show Parts _ _ ((_, _) :: _) _; apply Parts.one; (· first | exact (rfl : _ = Ty.int _ _) | exact (rfl : _ = Ty.sl _ _)); (· exact rfl)))) (by exact (rfl : _ = some [_, _])) ?_
  refine r_alloc rfl (by exact List.cons_ne_nil _ _) rfl ?_
  refine r_storeN rfl rfl (by decide) rfl rfl rfl rfl rfl rfl ?_
  refine r_nil ?_
  refine ⟨by kernel_rfl, ?_⟩
  refine i_then ?_
  refine t_seq ?_
  refine t_region ?_
  refine r_load_ppN rfl rfl rfl (by exact Nat.le_of_ble_eq_true rfl) ?_
  refine r_call (c_rCheckForm _) rfl rfl rfl rfl rfl ?_
  refine asI rfl ?_
  refine r_nil ?_
  refine i_then ?_
  refine t_seq ?_
  refine t_region ?_
  refine r_alloc rfl (by exact List.cons_ne_nil _ _) rfl ?_
  refine r_nil ?_
  refine i_then ?_
  refine t_seq ?_
  refine t_region ?_
  refine asI rfl ?_
  refine r_nil ?_
  refine i_then ?_
  refine t_join (J := live [(1, Ty.str (bs t)), (2, Ty.pp (frmTys f)), (5, Ty.ptr 6 0), (6, Ty.int .i64 (parV f t).2.2), (7, Ty.ptr 8 0), (8, Ty.int .i64 (parV f t).2.1)] [(6, Cont.cells 24 (frmTys f)), (8, Cont.cells 30 (bokTys (parV f t).1))]) ?_ ?_
  ·
    refine t_block ?_
    refine t_seq ?_
    refine t_region ?_
    refine mvI rfl ?_
    refine r_bin rfl rfl rfl ?_
    refine asB rfl ?_
    refine r_nil ?_
    refine i_then ?_
    refine t_cond_ndec rfl (fun hc1 => ?_) (fun hc1 => ?_)
    ·
      refine t_skip ?_
      refine i_block ?_
      refine i_join ?_
      (refine Ent.mk' ?_ ?_ <;> (repeat' (first | exact allSub_zero | exact allTags_nil | exact subs_nil | refine allSub_succ' ?_ (Ty.sub_any _) | refine allSub_succ' ?_ (Ty.sub_refl _) | refine allTags_cons rfl (Cont.sub_refl _) ?_ | refine allTags_cons rfl (Cont.sub_subs ?_) ?_ | refine subs_cons ?_ ?_ | refine allSub_succ' ?_ ?_)))
      all_goals (rw [par_1 hc1]; first | exact Ty.sub_refl _ | exact Ty.nil_sl)
    ·
      refine t_seq ?_
      refine t_region ?_
      refine mvS' rfl ?_
      refine r_lenS rfl rfl rfl ?_
      refine r_bin rfl rfl rfl ?_
      refine asB rfl ?_
      refine r_nil ?_
      refine i_then ?_
      refine t_cond_dec rfl (fun hc2 => ?_) (fun hc2 => ?_)
      ·
        refine t_region ?_
        refine asI rfl ?_
        refine r_nil ?_
        refine i_block ?_
        refine i_join ?_
        (refine Ent.mk' ?_ ?_ <;> (repeat' (first | exact allSub_zero | exact allTags_nil | exact subs_nil | refine allSub_succ' ?_ (Ty.sub_any _) | refine allSub_succ' ?_ (Ty.sub_refl _) | refine allTags_cons rfl (Cont.sub_refl _) ?_ | refine allTags_cons rfl (Cont.sub_subs ?_) ?_ | refine subs_cons ?_ ?_ | refine allSub_succ' ?_ ?_)))
        all_goals (rw [par_2 (fun e => e hc1) hc2]; first | exact Ty.sub_refl _ | exact Ty.nil_sl)
      ·
        refine t_seq ?_
        have hf : FormOk f := frmY_zero.1 (by simpa using hc1)
        refine t_region ?_
        refine r_load_ppN rfl rfl rfl (by exact Nat.le_of_ble_eq_true rfl) ?_
        refine mvS' rfl ?_
        refine r_call (c_rParse f hf t (by omega)) rfl rfl rfl rfl rfl ?_
        refine mvT rfl ?_
        refine r_extract rfl rfl ?_
        refine r_extract rfl rfl ?_
        refine r_extract rfl rfl ?_
        refine r_alloc rfl (by exact List.cons_ne_nil _ _) rfl ?_
        refine r_storeN rfl rfl (by decide) rfl rfl rfl rfl rfl rfl ?_
        refine asI rfl ?_
        refine asB rfl ?_
        refine r_nil ?_
        refine i_then ?_
        refine t_seq ?_
        refine t_region ?_
        refine mvI rfl ?_
        refine asI rfl ?_
        refine r_nil ?_
        refine i_then ?_
        refine t_seq ?_
        refine t_region ?_
        refine mvB rfl ?_
        refine r_nil ?_
        refine i_then ?_
        refine t_cond rfl (fun hc3 => ?_) (fun hc3 => ?_)
        ·
          refine t_asC (tg := 10) (D := Cont.cells 60 (bokTys ⟨f, (runP f t).read⟩)) rfl (Cont.sub_subs ⟨Ty.when_sub hc3, Ty.when_sub hc3, Ty.when_sub hc3, trivial⟩) ?_
          have hlr : (runP f t).read.length ≤ 1000 := by have := (runP_ok (text := t) hf).len; omega
          refine t_region ?_
          refine r_load_ptrN rfl rfl (by decide) rfl rfl (by exact Nat.le_of_ble_eq_true rfl) ?_
          refine r_call (c_ours ⟨f, (runP f t).read⟩ hlr) rfl rfl rfl rfl rfl ?_
          refine r_storeN rfl rfl (by decide) rfl rfl rfl rfl rfl rfl ?_
          refine r_nil ?_
          refine i_block ?_
          refine i_join ?_
          (refine Ent.mk' ?_ ?_ <;> (repeat' (first | exact allSub_zero | exact allTags_nil | exact subs_nil | refine allSub_succ' ?_ (Ty.sub_any _) | refine allSub_succ' ?_ (Ty.sub_refl _) | refine allTags_cons rfl (Cont.sub_refl _) ?_ | refine allTags_cons rfl (Cont.sub_subs ?_) ?_ | refine subs_cons ?_ ?_ | refine allSub_succ' ?_ ?_)))
          all_goals (rw [prt_1 hc1 hc2 hc3]; first | exact Ty.sub_refl _ | exact Ty.sub_int hc1)
        ·
          refine t_region ?_
          refine asI rfl ?_
          refine r_nil ?_
          refine i_block ?_
          refine i_join ?_
          (refine Ent.mk' ?_ ?_ <;> (repeat' (first | exact allSub_zero | exact allTags_nil | exact subs_nil | refine allSub_succ' ?_ (Ty.sub_any _) | refine allSub_succ' ?_ (Ty.sub_refl _) | refine allTags_cons rfl (Cont.sub_refl _) ?_ | refine allTags_cons rfl (Cont.sub_subs ?_) ?_ | refine subs_cons ?_ ?_ | refine allSub_succ' ?_ ?_)))
          all_goals (rw [prt_2 hc1 hc2 hc3]; first | exact Ty.sub_refl _ | exact Ty.nil_sl)
  ·
    refine t_seq ?_
    refine t_region ?_
    refine r_load_ptrN rfl rfl (by decide) rfl rfl (by exact Nat.le_of_ble_eq_true rfl) ?_
    refine mvS' rfl ?_
    refine r_callF_new 4096 (by decide) (n_Parse f t (by omega)) (fam_par 4096 f t) rfl rfl rfl ?_
    refine mvT rfl ?_
    refine r_extract rfl rfl ?_
    refine r_extract rfl rfl ?_
    refine r_extract rfl rfl ?_
    refine r_alloc rfl (by exact List.cons_ne_nil _ _) rfl ?_
    refine r_storeN rfl rfl (by decide) rfl rfl rfl rfl rfl rfl ?_
    refine asI rfl ?_
    refine asI rfl ?_
    refine r_nil ?_
    refine i_then ?_
    refine t_seq ?_
    refine t_seq ?_
    refine t_region ?_
    refine mvI rfl ?_
    refine mvI rfl ?_
    refine r_bin rfl rfl rfl ?_
    refine mvB rfl ?_
    apply r_guard (s := 51) rfl rfl rfl
    · intro hg; apply opT_of; (refine mvI rfl ?_); refine r_nil ?_; exact rfl
    · exact rfl
    · exact rfl
    apply r_guard (s := 51) rfl rfl rfl
    · intro hg; apply opT_of; (refine mvI rfl ?_); refine r_nil ?_; exact rfl
    · exact rfl
    · exact rfl
    apply r_guard (s := 51) rfl rfl rfl
    · intro hg; apply opT_strip (s := 52) rfl (by (rw [hg]; rfl)); apply opT_strip (s := 53) rfl (by (rw [hg]; rfl)); apply opT_of; (refine r_bin rfl rfl rfl ?_); refine r_nil ?_; exact rfl
    · exact rfl
    · exact rfl
    refine r_or rfl rfl ?_
    refine mvB rfl ?_
    apply r_guard (s := 56) rfl rfl rfl
    · intro hg; apply opT_of; (refine r_load_ptrN rfl rfl (by decide) rfl rfl (by exact Nat.le_of_ble_eq_true rfl) ?_); refine r_nil ?_; exact rfl
    · exact rfl
    · exact rfl
    apply r_guard (s := 56) rfl rfl rfl
    · intro hg; apply opT_of; (refine r_load_ptrN rfl rfl (by decide) rfl rfl (by exact Nat.le_of_ble_eq_true rfl) ?_); refine r_nil ?_; exact rfl
    · exact rfl
    · exact rfl
    apply r_guard (s := 56) rfl rfl rfl
    · intro hg; apply opT_strip (s := 57) rfl (by (rw [hg]; rfl)); apply opT_strip (s := 58) rfl (by (rw [hg]; rfl)); apply opT_of; (refine r_callL [4096] (c_same (parV f t).1 (parV f t).1) rfl (lends_cons (lend_bok _ _ _ rfl) (lends_cons (lend_pub rfl rfl) lends_nil)) (plain_bool _) ?_); refine r_nil ?_; exact rfl
    · exact rfl
    · exact rfl
    apply r_guard (s := 56) rfl rfl rfl
    · intro hg; apply opT_strip (s := 59) rfl (by (rw [hg]; rfl)); apply opT_of; (refine r_not rfl ?_); refine r_nil ?_; exact rfl
    · exact rfl
    · exact rfl
    refine r_or rfl rfl ?_
    refine r_nil ?_
    refine i_then ?_
    refine t_cond rfl (fun hc4 => ?_) (fun hc4 => ?_)
    ·
      refine t_seq ?_
      refine t_region ?_
      refine asB rfl ?_
      refine r_nil ?_
      refine i_then ?_
      refine t_ret ?_
      refine i_then_ret ?_
      refine i_rp1 rfl rfl ?_
      all_goals skip
      all_goals (exfalso; simp at hc4)
    ·
      refine t_skip ?_
      refine i_then ?_
      refine t_seq ?_
      refine t_region ?_
      refine r_load_ptrN rfl rfl (by decide) rfl rfl (by exact Nat.le_of_ble_eq_true rfl) ?_
      refine r_callG [(4096, 4096)] [4096] [] (k_spoilt (parV f t).1 (par_few f t)) rfl rfl (cv_cons cv_nil (cv_bokF (by exact List.mem_cons_self))) pre_nil post_nil (cv_pub rfl rfl) ?_
      refine r_nil ?_
      refine i_then ?_
      refine t_seq ?_
      refine t_region ?_
      refine r_field_ptr rfl rfl rfl rfl rfl (by decide) ?_
      refine r_load_ptr rfl rfl (by decide) rfl rfl rfl ?_
      refine r_field_pp rfl rfl rfl rfl rfl (by decide) ?_
      refine r_load_pp rfl rfl rfl rfl ?_
      refine r_call (c_Eq_int _ _) rfl rfl rfl rfl rfl ?_
      refine asB rfl ?_
      refine r_nil ?_
      refine i_then ?_
      refine t_ret ?_
      refine i_rp1 rfl rfl ?_
      all_goals skip
      all_goals exact ret_eq rfl rfl (congrArg Ty.bool (by simp))
end Go.Proofs.YtjjndkenddigiaaDoor

namespace Go.Proofs.YtjjndkenddigiaaDoor
open Go Go.T
set_option maxHeartbeats 4000000
attribute [local irreducible] dInt dBool dSl dPp dPtr dAgg dTup dClo dAny dEx dStr dGd dCells dVec dVs dRow dOp nth Tri Into TOps Ctr bodyPost Exit.then Exit.inBlock Code.wp Code.wpIn dWhen dPa dArr dMp dMap CtrG keepPost iterPost bodyPostM roundQ
set_option maxRecDepth 100000 in
theorem c_BookParses (f : BForm) (t : Byt) : Ctr Tryd.prog 3 [frmT f, Ty.str (bs t)] (Ty.bool true) := by
  refine fn_intro Tryd.func3 rfl (by decide) Tryd.ntmps3 (by exact Nat.le_of_ble_eq_true rfl) fun w0 M0 => ?_
  refine t_seq ?_
  refine t_region ?_
  refine r_box_agg rfl ?_
  refine asB rfl ?_
  refine r_nil ?_
  refine i_then ?_
  refine t_seq ?_
  refine t_region ?_
  refine r_field_pp rfl rfl rfl rfl rfl (by decide) ?_
  refine r_load_pp rfl rfl rfl rfl ?_
  refine r_len rfl rfl rfl ?_
  refine r_bin rfl rfl rfl ?_
  refine mvB rfl ?_
  apply r_guard (s := 9) rfl rfl rfl
  · intro hg; apply opT_of; (refine r_load_ppN rfl rfl rfl (by exact Nat.le_of_ble_eq_true rfl) ?_); refine r_nil ?_; exact rfl
  · exact rfl
  · exact rfl
  apply r_guard (s := 9) rfl rfl rfl
  · intro hg; apply opT_of; (refine mvS' rfl ?_); refine r_nil ?_; exact rfl
  · exact rfl
  · exact rfl
  apply r_guard (s := 9) rfl rfl rfl
  · intro hg; apply opT_strip (s := 10) rfl (by (rw [hg]; rfl)); apply opT_strip (s := 11) rfl (by (rw [hg]; rfl)); apply opT_of; (refine r_call (c_parsed f (by simp at hg; omega) t) rfl rfl rfl rfl rfl ?_); refine r_nil ?_; exact rfl
  · exact rfl
  · exact rfl
  refine r_or rfl rfl ?_
  refine mvB rfl ?_
  apply r_guard (s := 14) rfl rfl rfl
  · intro hg; apply opT_of; (refine r_call c_awake rfl rfl rfl rfl rfl ?_); refine r_nil ?_; exact rfl
  · exact rfl
  · exact rfl
  refine r_and rfl rfl ?_
  refine asB rfl ?_
  refine r_nil ?_
  refine i_then ?_
  refine t_ret ?_
  refine i_rp1 rfl rfl ?_
  all_goals skip
  all_goals exact ret_eq rfl rfl (congrArg Ty.bool (by simp))
end Go.Proofs.YtjjndkenddigiaaDoor

namespace Go.T
open Go Go.RowKit Go.ChangeShapes Go.WideShapes Go.ChangeAt
def pubs : Tags := fun _ => none
theorem wf_pubs (w : World) (h : Amb w pubs) : Wf w pubs := ⟨fun _ _ h => (by cases h), fun _ _ _ _ h => (by cases h), h⟩
theorem pubs_zero : ∀ b t, pubs b = some t → t = 0 := fun _ _ h => by cases h
structure Rd {α : Type} (P : Program) (e : TypeId) (E : El α) : Prop where
  size : P.cellsOf e = E.size
  pos : 0 < E.size
  rd : ∀ {H : Type} {enc : TypeId × Value → H} {w : World} {base : Nat} {held : Bool} {n : Nat} {cs : List Value} {y : DataW H × List MemPlace}, DataW.trod enc P w base (fun _ => true) held n e cs = some y → ∃ x, dens w pubs (E.tys x) cs
section
variable {H : Type} {enc : TypeId × Value → H} {P : Program} {w : World} {base : Nat} {held : Bool} {α : Type} {E : El α} {t e : TypeId} {n : Nat} {cs : List Value} {y : DataW H × List MemPlace}
theorem rd_sl (hR : Rd P e E) (ht : P.underlying t = some (.slice e)) (h : DataW.trod enc P w base (fun _ => true) held n t cs = some y) : ∃ v xs, cs = [v] ∧ (Ty.sl E xs).den w pubs v := by
  rcases Go.Deep.open_slice ht h with ⟨rfl, _⟩ | ⟨a, len, cap, m, k, D, Pl, rfl, _, hl, hm, hmm, _, hel⟩
  · exact ⟨_, [], rfl, none, 0, rfl, Nat.le_refl _, Nat.zero_le _, fun h => absurd h (Nat.lt_irrefl _)⟩
  have hlm : len ≤ m := by rw [hmm]; simpa using hl
  have hX : ∀ i : Fin len, ∃ x : α, ∃ cs', w.cells? base (a.add (i.1 * P.cellsOf e)) (P.cellsOf e) = some cs' ∧ dens w pubs (E.tys x) cs' := fun i => by
    obtain ⟨cs', h1, h2⟩ := hel i.1 (Nat.lt_of_lt_of_le i.2 hlm)
    obtain ⟨x, hx⟩ := hR.rd h2
    exact ⟨x, cs', h1, hx⟩
  let X : Fin len → α := fun i => (hX i).choose
  have hXs : ∀ i : Fin len, ∃ cs', w.cells? base (a.add (i.1 * P.cellsOf e)) (P.cellsOf e) = some cs' ∧ dens w pubs (E.tys (X i)) cs' := fun i => (hX i).choose_spec
  have hlen : (List.ofFn X).length = len := by simp
  refine ⟨_, List.ofFn X, rfl, some a, cap, by rw [hlen], by rw [hlen]; exact hl, hm, fun h0 => ?_⟩
  rw [hlen] at h0
  have hcell : ∀ (i : Fin len) (j : Nat) (u : Ty), (E.tys (X i))[j]? = some u → ∃ v, w.cell? (a.add (i.1 * E.size + j)) = some v ∧ u.den w pubs v := fun i j u hu => by
    obtain ⟨cs', h1, h2⟩ := hXs i
    obtain ⟨v, hv, hd⟩ := dens_get h2 j u hu
    obtain ⟨_, g1, g2⟩ := World.cells?_some h1
    have hj : j < P.cellsOf e := by
      rw [hR.size, ← E.len (X i)]
      exact (List.getElem?_eq_some_iff.1 hu).1
    refine ⟨v, ?_, hd⟩
    have := g2 j hj
    rw [Go.Deep.add_add, hv, hR.size] at this
    exact this
  have hsz := hR.pos
  have hfirst : ∃ v, w.cell? (a.add 0) = some v := by
    obtain ⟨u, hu⟩ : ∃ u, (E.tys (X ⟨0, h0⟩))[0]? = some u := ⟨_, List.getElem?_eq_getElem (by rw [E.len]; exact hsz)⟩
    obtain ⟨v, hv, _⟩ := hcell ⟨0, h0⟩ 0 u hu
    exact ⟨v, by simpa using hv⟩
  obtain ⟨b, off, sp⟩ := a
  obtain ⟨v0, hv0⟩ := hfirst
  have hsp : sp = none := by simpa [Addr.add] using World.cell?_spot hv0
  subst hsp
  have hb : b < w.heap.size := by
    obtain ⟨cs', h1, _⟩ := hXs ⟨0, h0⟩
    have := World.cells?_block h1 (by rw [hR.size]; exact hsz)
    simpa [Addr.add] using this
  refine ⟨b, off, rfl, rfl, hb, fun i u hu => ?_⟩
  have hi : i < len * E.size := by
    have := (List.getElem?_eq_some_iff.1 hu).1
    rw [flat_len, hlen] at this; exact this
  have hk : i / E.size < len := Nat.div_lt_of_lt_mul (by rw [Nat.mul_comm]; exact hi)
  have hj : i % E.size < E.size := Nat.mod_lt _ hsz
  have hij : i / E.size * E.size + i % E.size = i := by rw [Nat.mul_comm]; exact Nat.div_add_mod i E.size
  have hu2 := hu
  rw [← hij, flat_get E _ _ _ (by rw [hlen]; exact hk) hj, List.getElem?_ofFn, dif_pos hk] at hu2
  obtain ⟨v, hv, hd⟩ := hcell ⟨i / E.size, hk⟩ (i % E.size) u hu2
  refine ⟨v, ?_, hd⟩
  rw [← Go.WideShapes.add_plain]
  rw [hij] at hv
  exact hv
theorem rd_struct2 {f0 f1 : Field} (hs : P.underlying t = some (.struct #[f0, f1])) (hC : P.cellsOf t = 2) (h0 : f0.offset = 0 ∧ P.cellsOf f0.type = 1) (h1 : f1.offset = 1 ∧ P.cellsOf f1.type = 1) (h : DataW.trod enc P w base (fun _ => true) held n t cs = some y) :
    ∃ c0 c1 y0 y1 m, cs = [c0, c1] ∧ DataW.trod enc P w base (fun _ => true) held m f0.type [c0] = some y0 ∧ DataW.trod enc P w base (fun _ => true) held m f1.type [c1] = some y1 := by
  obtain ⟨y0, y1, m, _, hl, g0, g1⟩ := Go.ChangeShapes.trod_struct2 hs h
  rw [hC] at hl
  match cs, hl with
  | [c0, c1], _ =>
    rw [h0.1, h0.2] at g0
    rw [h1.1, h1.2] at g1
    exact ⟨c0, c1, y0, y1, m, rfl, g0, g1⟩
theorem rd_int {k : IntKind} {c : Value} (ht : P.underlying t = some (.int k)) (h : DataW.trod enc P w base (fun _ => true) held n t [c] = some y) : ∃ i, c = .int k i := by
  obtain ⟨i, e, _⟩ := DataW.trod_int ht h
  exact ⟨i, by simpa using e⟩
theorem rd_sl1 {c : Value} (hR : Rd P e E) (ht : P.underlying t = some (.slice e)) (h : DataW.trod enc P w base (fun _ => true) held n t [c] = some y) : ∃ xs, (Ty.sl E xs).den w pubs c := by
  obtain ⟨v, xs, e, hd⟩ := rd_sl hR ht h
  exact ⟨xs, by rw [show c = v by simpa using e]; exact hd⟩
end
section
variable {w w' : World} {S K : Nat → Prop} {M' : Tags}
theorem le_block (le : Le S K w pubs w' M') {b : Nat} (hb : b < w.heap.size) : w'.heap[b]? = w.heap[b]? := (le.pub b hb rfl).2
theorem le_same (le : Le S K w pubs w' M') {p : MemPlace} (hp : p.block < w.heap.size) : w.sameAt w' p := by
  cases p with
  | cell b o => exact World.cell?_of_block (w := w) (le_block le hp)
  | map b => exact le_block le hp
theorem le_kept (le : Le S K w pubs w' M') (may : MemPlace → Prop) : w.keptBut w' may := by
  refine ⟨le.os, le.out, fun i hi => ?_⟩
  have e := le_block le hi
  rw [e]
  split
  · rename_i h1 h2
    rw [h1] at h2
    simp only [Option.some.injEq, Obj.cells.injEq] at h2
    obtain ⟨rfl, rfl, rfl⟩ := h2
    exact ⟨rfl, rfl, rfl, fun _ _ => rfl⟩
  · rename_i h1 h2
    rw [h1] at h2
    simp only [Option.some.injEq, Obj.map.injEq] at h2
    exact Or.inr ⟨h2.1.symm, h2.2.symm⟩
  · rfl
theorem le_frozen (le : Le S K w pubs w' M') {a : Addr} (ha : a.block < w.heap.size) : w'.frozen? a = w.frozen? a := by
  unfold World.frozen?
  rw [le_block le ha]
end
section
variable {H : Type} {enc : TypeId × Value → H} {P : Program}
theorem trodAll_stays (hl : laidOutB P = true) {w w' : World} {sp : Nat → Bool} : ∀ {ts : List TypeId} {vs : List Value} {ds : List (DataW H)} {ps : List MemPlace}, (∀ t ∈ ts, P.readableRec t = true ∧ t < P.types.size) →
    DataW.TrodAll enc P w 0 (fun _ => true) true ts vs ds ps → (∀ p ∈ ps, w.sameAt w' p) → (∀ p ∈ ps, sp p.block = true) → DataW.TrodAll enc P w' 0 sp true ts vs ds ps
  | [], [], [], _, _, h, _, _ => h
  | t :: ts, v :: vs, d :: ds, _, ht, ⟨p, q, h1, h2, e⟩, hs, hsp => by
    subst e
    have h0 := ht t List.mem_cons_self
    exact ⟨p, q, Go.WideElems.Trod_stays hl h0.1 h0.2 h1 (fun x hx => hs x (List.mem_append_left _ hx)) (fun x hx => hsp x (List.mem_append_left _ hx)),
      trodAll_stays hl (fun t h => ht t (List.mem_cons_of_mem _ h)) h2 (fun x hx => hs x (List.mem_append_right _ hx)) (fun x hx => hsp x (List.mem_append_right _ hx)), rfl⟩
theorem post_true {f : Func} {s : ChangeSpec} {apart fresh handsOn again : Bool} {W W' : World} {args : Array Value} {ds : List (DataW H)} {before : List MemPlace} {S K : Nat → Prop} {M' : Tags}
    (hl : laidOutB P = true) (hv : s.vars = []) (hrd : ∀ t ∈ f.params.toList, P.readableRec t = true ∧ t < P.types.size) {tb : TypeId} (htb : P.underlying tb = some .bool) (hrt : f.resultTypes = #[tb])
    (hW : DataW.Whole enc P f.params.toList s.vars apart W args.toList ds [] before) (hres : (s.fn H (ds ++ [])).results = [.lit (.bool true)]) (hargs : (s.fn H (ds ++ [])).args = ds) (hvars : (s.fn H (ds ++ [])).vars = [])
    (le : Le S K W pubs W' M') : s.post enc P f apart fresh handsOn again W args (.bool true) W' := by
  have hW0 := hW
  obtain ⟨p, q, hA, hV, hb, hfz, hn⟩ := hW0
  have hlt := DataW.TrodAll.lt hA
  have hq : q = [] := by rw [hv] at hV; exact (trodVars_none hV).2
  subst hq
  have hbp : before = p := by rw [hb]; simp
  have hre : ∀ (b : Nat) (sp : Nat → Bool) (hd : Bool), DataW.TrodAll enc P W' b sp hd f.resultTypes.toList ((Value.bool true).resultList f.resultTypes.size) (s.fn H (ds ++ [])).results [] := fun b sp hd => by
    rw [hrt, hres]; exact trodAll_mk1 (shut_bool htb true)
  have har : ∀ sp : Nat → Bool, (∀ x ∈ p, sp x.block = true) → DataW.TrodAll enc P W' 0 sp true f.params.toList args.toList (s.fn H (ds ++ [])).args p := fun sp hsp => by
    rw [hargs]; exact trodAll_stays hl hrd hA (fun x hx => le_same le (hlt x hx)) hsp
  have hva : ∀ sp : Nat → Bool, DataW.TrodVars enc P W' sp s.vars (s.fn H (ds ++ [])).vars [] := fun sp => by
    rw [hvars, hv]; exact rfl
  have hok : ∀ (j : Nat) (t : TypeId) (r : Value), f.resultTypes[j]? = some t → ((Value.bool true).resultList f.resultTypes.size)[j]? = some r → Value.okWide P W' .any 0 t r := by
    exact ok_one (by rw [hrt]) rfl (okWide_bool_mk htb true)
  refine ⟨ds, [], before, [], p, [], hW, hre _ _ _, har _ (fun x hx => by simpa using hlt x hx), hva _, World.keptBut_mono (fun x hx => hx) (le_kept le _), fun _ => ?_⟩
  refine ⟨hok, _, _, ([] ++ p) ++ [], ⟨[] ++ p, [], trodAll_append (har _ (fun _ _ => rfl)) (hre _ _ _), hva _, rfl, ?_, ?_⟩, ?_⟩
  · intro b off hp
    have hp' : MemPlace.cell b off ∈ p := by simpa using hp
    rw [le_frozen le (hlt _ hp')]
    exact hfz b off (by rw [hbp]; exact hp')
  · intro ha
    have := hn ha
    rw [hbp] at this
    simpa using this
  · intro x hx _
    rw [hbp]
    simpa using hx
end
end Go.T

namespace Go.Proofs.YtjjndkenddigiaaDoor
open Go Go.T Go.RowKit Go.ChangeShapes Go.WideShapes Go.ChangeAt
abbrev laidL : List (String × DataW Unit) := [("math/bits.deBruijn32tab", Rows.laid_math_bits_deBruijn32tab), ("math/bits.deBruijn64tab", Rows.laid_math_bits_deBruijn64tab), ("internal/strconv.uint64pow10", Rows.laid_internal_strconv_uint64pow10)]
theorem gPow : Tryd.prog.globalNamed "internal/strconv.uint64pow10" = some 0 := by kernel_rfl
theorem tPow : (Tryd.prog.globals[0]?).map (·.type) = some 173 := by kernel_rfl
theorem uPow : Tryd.prog.underlying 173 = some (.array 20 163) := by kernel_rfl
theorem uPowE : Tryd.prog.underlying 163 = some (.int .u64) := by kernel_rfl
theorem arr_cells {H : Type} {enc : TypeId × Value → H} {W : World} {base : Nat} {spare : Nat → Bool} {held : Bool} {m n t : Nat} {k : IntKind} {cs : List Value} {xs : List (DataW H × List MemPlace)} {zs : List Int} (hE : Tryd.prog.underlying t = some (.int k)) (hc : Tryd.prog.cellsOf t = 1) (hlen : cs.length = n) (hxl : xs.length = n) (hzl : zs.length = n)
    (hel : ∀ i, i < n → DataW.trod enc Tryd.prog W base spare held m t ((cs.drop (i * Tryd.prog.cellsOf t)).take (Tryd.prog.cellsOf t)) = xs[i]?) (hx : xs.map (·.1) = zs.map fun z => .lit (.int k z)) : cs = zs.map fun z => .int k z := by
  apply List.ext_getElem (by simp [hlen, hzl])
  intro i h1 h2
  have hi : i < n := by omega
  have h := hel i hi
  rw [hc, Nat.mul_one, List.drop_eq_getElem_cons h1, List.take_succ_cons, List.take_zero, List.getElem?_eq_getElem (by omega)] at h
  obtain ⟨z, e1, e2, _⟩ := DataW.trod_int hE h
  have e3 : (xs.map (·.1))[i]? = some (.lit (.int k z)) := by rw [List.getElem?_map, List.getElem?_eq_getElem (by omega), e2]; rfl
  rw [hx, List.getElem?_map, List.getElem?_eq_getElem (by omega)] at e3
  simp only [Option.map_some, Option.some.injEq, DataW.lit.injEq, Lit.int.injEq, true_and] at e3
  have e4 : cs[i] = .int k z := by injection e1
  rw [e4, List.getElem_map, e3]
set_option maxRecDepth 100000 in
theorem amb_of {W : World} (h : laidMetH Tryd.prog laidL W) : Amb W pubs := by
  rw [MakeChecks.laidMetH_plain _ _ _ (by kernel_rfl)] at h
  obtain ⟨ps, ⟨_, _, _, _, _, _, _, _, _, _, ⟨_, _, _, _, _, _, _, _, _, _, ⟨g, t, cs, fu, p, q, hg, ht, hv, hd, _, _⟩, _⟩, _⟩, _⟩ := h
  obtain rfl := Option.some.inj (gPow.symm.trans hg)
  obtain rfl := Option.some.inj (tPow.symm.trans ht)
  obtain ⟨xs, m, _, hx, hlen, hn, hel⟩ := DataW.trod_array uPow hd
  have hE : Tryd.prog.cellsOf 163 = 1 := by kernel_rfl
  have hA : Tryd.prog.cellsOf 173 = 20 := by kernel_rfl
  simp only [Prod.mk.injEq] at hx
  have hcs : cs.toList = Lib.pow10Tab.map fun z => Value.int .u64 z := arr_cells uPowE hE (hlen.trans hA) hn rfl hel (by
    have h1 := hx.1
    injection h1 with h1
    exact h1.symm)
  intro x hx
  rw [List.mem_singleton.1 hx]
  refine ⟨rfl, ?_⟩
  simp only [World.var?, gPow, Option.bind_some] at hv
  split at hv
  · rename_i c T z hh
    injection hv with hv
    subst hv
    refine ⟨T, z, ?_⟩
    rw [hh]
    congr 2
    rw [← hcs]
  · cases hv
set_option maxRecDepth 100000 in
theorem door_met (os : Os) (args : Array Value) : laidMetH Tryd.prog laidL ((World.doorLaid Tryd.prog 2000 os).forCall (fun _ _ => 0) ⟨#[], args, []⟩).memory :=
  laidMetH_of_parts3 (fuel := 40) (laidMet_of_run' 40 (by kernel_rfl) (by kernel_rfl)) (by kernel_rfl) (by kernel_rfl)
def RI : Type := {n : Int // -9223372036854775808 ≤ n ∧ n ≤ 9223372036854775807}
def RIE : El RI := El.mk' 1 (fun x => [Ty.int .i64 x.1]) (fun _ => rfl) (fun _ => ⟨rfl, rfl, rfl⟩)
theorem rdRI : Rd Tryd.prog 3 RIE := ⟨by kernel_rfl, by decide, fun h => by
  obtain ⟨i, rfl, _, hw⟩ := DataW.trod_int Tryd.underlying3 h
  refine ⟨⟨i, ?_⟩, rfl, trivial⟩
  simp only [Lit.wf, Bool.and_eq_true, decide_eq_true_eq] at hw
  have e1 : IntKind.i64.min = -9223372036854775808 := rfl
  have e2 : IntKind.i64.max = 9223372036854775807 := rfl
  omega⟩
theorem sl_map {α β : Type} {E : El α} {E' : El β} (f : α → β) (hE : ∀ x, E.tys x = E'.tys (f x)) {xs : List α} {w : World} {M : Tags} {v : Value} (h : (Ty.sl E xs).den w M v) : (Ty.sl E' (xs.map f)).den w M v := by
  obtain ⟨A, c, e, h1, h2, h3⟩ := h
  have e1 : (xs.map f).flatMap E'.tys = xs.flatMap E.tys := by
    rw [List.flatMap_map]
    congr 1
    funext x
    exact (hE x).symm
  refine ⟨A, c, by rw [List.length_map]; exact e, by rw [List.length_map]; exact h1, h2, fun h0 => ?_⟩
  rw [List.length_map] at h0
  rw [e1]; exact h3 h0
def FrmE : El BForm := El.mk' 2 frmTys (fun _ => rfl) (fun _ => ⟨rfl, rfl, rfl⟩)
theorem of24 : Tryd.prog.cellsOf 24 = 2 := by kernel_rfl
theorem rdFrm : Rd Tryd.prog 24 FrmE := ⟨of24, by decide, fun h => by
  obtain ⟨c0, c1, y0, y1, m, rfl, h0, h1⟩ := rd_struct2 Tryd.underlying24 (by kernel_rfl) ⟨rfl, by kernel_rfl⟩ ⟨rfl, by kernel_rfl⟩ h
  obtain ⟨ws, hd⟩ := rd_sl1 rdRI Tryd.underlying22 h0
  obtain ⟨l, rfl⟩ := rd_int Tryd.underlying3 h1
  exact ⟨⟨ws.map Subtype.val, l⟩, sl_map (E' := I64) Subtype.val (fun _ => rfl) hd, rfl, trivial⟩⟩
section
variable {H : Type} {enc : TypeId × Value → H} {W : World} {base : Nat} {held : Bool} {v : Value} {d : DataW H} {p : List MemPlace}
set_option maxRecDepth 100000 in
theorem rd_frm (hv : Value.okWide Tryd.prog W .any base 24 v) (h : DataW.Trod enc Tryd.prog W 0 (fun _ => true) held 24 v d p) : ∃ f : BForm, (frmT f).den W pubs v := by
  obtain ⟨cs, rfl, hsz⟩ := okWide_struct Tryd.underlying24 hv
  obtain ⟨fuel, hf⟩ := h
  obtain ⟨x, hx⟩ := rdFrm.rd (cs := cs.toList) (by simpa [Value.cells] using hf)
  exact ⟨x, _, rfl, hx⟩
set_option maxRecDepth 100000 in
theorem rd_str (hv : Value.okWide Tryd.prog W .any base 9 v) (h : DataW.Trod enc Tryd.prog W 0 (fun _ => true) held 9 v d p) : ∃ l : Byt, (Ty.str (bs l)).den W pubs v := by
  obtain ⟨s, rfl, _⟩ := Go.ChangeMaps.open_string Tryd.underlying9 hv h
  exact ⟨s.data.toList, rfl⟩
end
end Go.Proofs.YtjjndkenddigiaaDoor
