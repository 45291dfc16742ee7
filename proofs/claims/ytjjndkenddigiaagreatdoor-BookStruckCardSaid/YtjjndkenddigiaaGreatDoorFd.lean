/- Lemmas: the program and the reference walked, plain laws. -/
import Derived.Test.YtjjndkenddigiaaGreatDoorFc
namespace Go.Proofs.YtjjndkenddigiaaGreatDoor
open Go Go.T
def metK (l : List Int) (k : Nat) : List (Int × Bool) := (l.take k).foldl (fun m i => mput m i true) []
theorem metK_succ {l : List Int} {k : Nat} (h : k < l.length) : metK l (k + 1) = mput (metK l k) (nth l k) true := by unfold metK; rw [take_nth h, List.foldl_append]; rfl
theorem mput_len {m : List (Int × Bool)} {i : Int} : (mput m i true).length = m.length + (if mget m i = none then 1 else 0) := by
  induction m with
  | nil => rfl
  | cons x m ih =>
    simp only [mput, mget]
    split
    · simp
    · simp only [List.length_cons, ih]; split <;> omega
theorem met_get {l : List Int} : ∀ {k : Nat}, k ≤ l.length → ∀ i, mget (metK l k) i = if i ∈ l.take k then some true else none
  | 0, _, i => by simp [metK, mget]
  | k + 1, h, i => by
    rw [metK_succ (by omega), mget_mput, met_get (by omega), take_nth (by omega)]
    by_cases e : nth l k = i
    · subst e; simp
    · rw [if_neg e]
      have : i ≠ nth l k := fun h => e h.symm
      simp [this]
theorem met_getD {l : List Int} {k : Nat} (h : k ≤ l.length) (i : Int) : (mget (metK l k) i).getD false = decide (i ∈ l.take k) := by
  rw [met_get h]; split <;> simp [*]
theorem mem_take_nth {l : List Int} {k : Nat} (h : k ≤ l.length) {i : Int} : i ∈ l.take k ↔ ∃ m, m < k ∧ nth l m = i := by
  constructor
  · intro hm
    obtain ⟨m, hm2, rfl⟩ := List.getElem_of_mem hm
    rw [List.length_take] at hm2
    exact ⟨m, by omega, by rw [List.getElem_take, nth_getElem]⟩
  · rintro ⟨m, hm, rfl⟩
    rw [← nth_getElem (show m < l.length by omega)]
    exact List.mem_take_iff_getElem.2 ⟨m, by omega, rfl⟩
theorem met_len {l : List Int} : ∀ {k : Nat}, k ≤ l.length → (metK l k).length ≤ k ∧ ((metK l k).length = k ↔ DupK l k)
  | 0, _ => ⟨Nat.le_refl _, fun _ j hj => absurd hj (Nat.not_lt_zero _), fun _ => rfl⟩
  | k + 1, h => by
    obtain ⟨h1, h2⟩ := met_len (l := l) (k := k) (by omega)
    rw [metK_succ (by omega), mput_len, met_get (by omega)]
    by_cases e : nth l k ∈ l.take k
    · rw [if_pos e]
      obtain ⟨m, hm, he⟩ := (mem_take_nth (by omega)).1 e
      refine ⟨by simp; omega, fun hc => by simp at hc; omega, fun hd => absurd he.symm (hd k (by omega) m hm)⟩
    · rw [if_neg e, if_pos rfl]
      refine ⟨by omega, fun hc j hj m hm => ?_, fun hd => ?_⟩
      · have hdk := h2.1 (by omega)
        by_cases ej : j = k
        · subst ej; exact fun he => e ((mem_take_nth (by omega)).2 ⟨m, hm, he.symm⟩)
        · exact hdk j (by omega) m hm
      · have := h2.2 fun j hj m hm => hd j (by omega) m hm
        omega
theorem met_dup {l : List Int} {k : Nat} (hk : k ≤ l.length) (h0 : ¬ (k : Int) < l.length) (h : ((metK l k).length : Int) < l.length) : ¬ l.Nodup := by
  have e : k = l.length := by omega
  subst e
  intro hn
  have : DupK l l.length := fun j hj m hm he => dup_yes hj hm he hn
  have := (met_len (Nat.le_refl _)).2.2 this
  omega
theorem met_nod {l : List Int} {k : Nat} (hk : k ≤ l.length) (h0 : ¬ (k : Int) < l.length) (h : ¬ ((metK l k).length : Int) < l.length) : l.Nodup := by
  have e : k = l.length := by omega
  subst e
  obtain ⟨h1, h2⟩ := met_len (l := l) (Nat.le_refl _)
  exact dup_no (h2.1 (by omega))
theorem all_off' {text : Byt} {l : List Int} : (l.all fun i => inB i 0 ((text.length : Int) - 1)) = !offL text l := by
  unfold offL
  induction l with
  | nil => rfl
  | cons x l ih => rw [List.all_cons, List.any_cons, Bool.not_or, ih, ← inB_off, Bool.not_not]
theorem metK_0 (l : List Int) : [] = metK l 0 := rfl
theorem met_in {l : List Int} {k : Nat} (hk : k ≤ l.length) (h0 : ¬ (k : Int) < l.length) {i : Int} (h : (mget (metK l k) i).getD false = true) : i ∈ l := by
  rw [met_getD hk, List.take_of_length_le (by omega)] at h; simpa using h
theorem met_out {l : List Int} {k : Nat} (hk : k ≤ l.length) (h0 : ¬ (k : Int) < l.length) {i : Int} (h : (mget (metK l k) i).getD false = false) : ¬ i ∈ l := by
  rw [met_getD hk, List.take_of_length_le (by omega)] at h; simpa using h
theorem off_no {text : Byt} {l : List Int} (h : (!l.all fun i => inB i 0 ((text.length : Int) - 1)) = false) : offL text l = false := by
  rw [all_off', Bool.not_not] at h; exact h
theorem off_yes {text : Byt} {l : List Int} (h : (!l.all fun i => inB i 0 ((text.length : Int) - 1)) = true) : offL text l = true := by
  rw [all_off', Bool.not_not] at h; exact h
def tearP (text : Byt) (l : List Int) (j : Nat) : Byt := (tearB text l).take j ++ text.drop j
theorem tp_0 (text : Byt) (l : List Int) : text = tearP text l 0 := by simp [tearP]
theorem tp_len {text : Byt} {l : List Int} {j : Nat} (h : j ≤ text.length) : (tearP text l j).length = text.length := by simp [tearP, tearB_len]; omega
theorem tp_end {text : Byt} {l : List Int} {j : Nat} (h : text.length ≤ j) : tearP text l j = tearB text l := by
  unfold tearP; rw [List.take_of_length_le (by rw [tearB_len]; exact h), List.drop_of_length_le h, List.append_nil]
theorem tp_yes {text : Byt} {l : List Int} {j : Nat} (h : j < text.length) (hm : ((j : Nat) : Int) ∈ l) : (tearP text l j).set j 63 = tearP text l (j + 1) := by
  unfold tearP
  have hl : ((tearB text l).take j).length = j := by rw [List.length_take, tearB_len]; omega
  rw [List.set_append_right _ _ (by omega), hl, Nat.sub_self, List.drop_eq_getElem_cons h, List.set_cons_zero, take_nth (by rw [tearB_len]; exact h), tearB_at h, if_pos hm, List.append_assoc]; rfl
theorem tp_no {text : Byt} {l : List Int} {j : Nat} (h : j < text.length) (hm : ¬ ((j : Nat) : Int) ∈ l) : tearP text l j = tearP text l (j + 1) := by
  unfold tearP
  rw [List.drop_eq_getElem_cons h, take_nth (by rw [tearB_len]; exact h), tearB_at h, if_neg hm, List.append_assoc, nth_getElem h]; rfl
end Go.Proofs.YtjjndkenddigiaaGreatDoor

namespace Go.Proofs.YtjjndkenddigiaaGreatDoor
open Go Go.T
set_option maxHeartbeats 1000000
def KI : KeyK Tryz.prog 3 Int := intKey Tryz.prog 3 .i64 Tryz.underlying3
theorem keyI (n : Int) : KeyAt (Ty.int .i64 n) (KI.enc n) := key_int
theorem mapT169 : mapOf Tryz.prog 169 = some (3, 4) := by kernel_rfl
theorem zero4 : zeroOf Tryz.prog 4 = some (.bool false) := by kernel_rfl
theorem vb_zero : ∀ w M, (VBool.ty false).den w M (.bool false) := fun _ _ => rfl
attribute [local irreducible] tearB metK tearP
attribute [local irreducible] dInt dBool dSl dPp dPtr dAgg dTup dClo dAny dEx dStr dGd dCells dVec dVs dRow dOp nth Tri Into TOps Ctr bodyPost Exit.then Exit.inBlock Code.wp Code.wpIn dPa dArr dMp dMap CtrG keepPost iterPost bodyPostM roundQ
set_option maxRecDepth 100000 in
theorem c_Tear1 (text : Byt) (hl : text.length ≤ 1000000) (n : Int) : Ctr Tryz.prog 122 [Ty.int .i64 n, Ty.pp [Ty.str (bs text)]] (Ty.bool (inB n 0 ((text.length : Int) - 1))) := by
  refine fn_intro Tryz.func122 rfl (by decide) Tryz.ntmps122 (by exact Nat.le_of_ble_eq_true rfl) fun w0 M0 => ?_
  refine t_seq ?_
  refine t_region ?_
  refine asB rfl ?_
  refine r_nil ?_
  refine i_then ?_
  refine t_seq ?_
  refine t_region ?_
  refine mvI rfl ?_
  refine r_load_pp rfl rfl rfl rfl ?_
  refine r_lenS rfl rfl rfl ?_
  refine r_sub rfl rfl (by omega) (by omega) ?_
  refine r_call (c_in _ _ _) rfl rfl rfl rfl rfl ?_
  refine asB rfl ?_
  refine r_nil ?_
  refine i_then ?_
  refine t_ret ?_
  refine i_rp1 rfl rfl ?_
  all_goals exact ret_refl rfl rfl
set_option maxRecDepth 100000 in
theorem c_Tear (text : Byt) (l : List Int) (hl : l.length ≤ 1000000) : Ctr Tryz.prog 64 [Ty.str (bs text), Ty.sl I64 l] (Ty.tup [Ty.str (bs (tearV text l).1), Ty.int .i64 (tearV text l).2]) := by
  refine fn_intro Tryz.func64 rfl (by decide) Tryz.ntmps64 (by exact Nat.le_of_ble_eq_true rfl) fun w0 M0 => ?_
  refine t_seq ?_
  refine t_region ?_
  refine r_box_one (ty := Ty.str (bs text)) rfl rfl ?_
  refine asS' rfl ?_
  refine asI rfl ?_
  refine r_nil ?_
  refine i_then ?_
  refine t_seq ?_
  refine t_seq ?_
  refine t_region ?_
  refine r_load_pp rfl rfl rfl rfl ?_
  refine r_lenS rfl rfl rfl ?_
  refine r_bin rfl rfl rfl ?_
  refine r_nil ?_
  refine i_then ?_
  refine t_cond_dec rfl (fun hc1 => ?_) (fun hc1 => ?_)
  ·
    refine t_seq ?_
    refine t_region ?_
    refine asS' rfl ?_
    refine asI rfl ?_
    refine r_nil ?_
    refine i_then ?_
    refine t_ret ?_
    refine i_then_ret ?_
    refine i_rp2 rfl rfl rfl ?_ ?_
    all_goals skip
    all_goals (rw [te1 hc1]; exact ret_refl rfl rfl)
  ·
    refine t_skip ?_
    refine i_then ?_
    refine t_seq ?_
    refine t_seq ?_
    have htl : text.length ≤ 1000000 := by omega
    refine t_region ?_
    refine mvS rfl ?_
    refine r_makeFunc rfl ?_
    refine r_call (c_every_int l (Ty.clo _ [Ty.pp [Ty.str (bs text)]]) rfl (fun n => inB n 0 ((text.length : Int) - 1)) rfl rfl fun x _ => cal_clo (c_Tear1 text htl x) rfl rfl rfl rfl rfl rfl) rfl rfl rfl rfl rfl ?_
    refine r_not rfl ?_
    refine r_nil ?_
    refine i_then ?_
    refine t_cond rfl (fun hc2 => ?_) (fun hc2 => ?_)
    ·
      refine t_seq ?_
      refine t_region ?_
      refine asS' rfl ?_
      refine asI rfl ?_
      refine r_nil ?_
      refine i_then ?_
      refine t_ret ?_
      refine i_then_ret ?_
      refine i_rp2 rfl rfl rfl ?_ ?_
      all_goals skip
      all_goals (rw [te2 hc1 (off_yes hc2)]; exact ret_refl rfl rfl)
    ·
      refine t_skip ?_
      refine i_then ?_
      refine t_seq ?_
      refine t_region ?_
      refine r_makeMap (Value.int .i64) VBool mapT169 rfl ?_
      refine asM rfl ?_
      refine r_nil ?_
      refine i_then ?_
      refine t_seq ?_
      refine t_seq ?_
      refine t_region ?_
      refine mvS rfl ?_
      refine r_len rfl rfl rfl ?_
      refine mvI rfl ?_
      refine r_nil ?_
      refine i_then ?_
      refine t_block ?_
      refine t_loop (fun (k : {k : Nat // k ≤ l.length}) => live [(1, Ty.sl I64 l), (2, Ty.pp [Ty.str (bs text)]), (6, Ty.mp 19), (19, Ty.sl I64 l), (20, Ty.int .i64 l.length), (21, Ty.int .i64 (k.1 : Nat))] [(19, Cont.mp (Value.int .i64) VBool (metK l k.1))]) (fun k => l.length - k.1) (⟨0, Nat.zero_le _⟩) ?_ fun k => ?_
      · (refine Ent.mk' ?_ ?_ <;> (repeat' (first | exact allSub_zero | exact allTags_nil | refine allSub_succ' ?_ (Ty.sub_any _) | refine allSub_succ' ?_ (Ty.sub_refl _) | refine allTags_cons rfl ?_ ?_)))
        all_goals exact Cont.sub_mp (metK_0 l)
      ·
        refine t_seq ?_
        refine t_region ?_
        refine r_bin rfl rfl rfl ?_
        refine r_nil ?_
        refine i_then ?_
        refine t_seq ?_
        refine t_cond_dec rfl (fun hc3 => ?_) (fun hc3 => ?_)
        ·
          refine t_skip ?_
          refine i_then ?_
          refine t_seq ?_
          refine t_block ?_
          refine t_seq ?_
          have hk : k.1 < l.length := by omega
          refine t_region ?_
          refine r_index_slN rfl rfl rfl rfl rfl rfl (by omega) ?_
          refine r_load_pp rfl rfl rfl rfl ?_
          refine asI rfl ?_
          refine r_nil ?_
          refine i_then ?_
          refine t_region ?_
          refine mvM rfl ?_
          refine mvI rfl ?_
          refine r_mapUpdate KI rfl rfl (by decide) rfl (keyI _) rfl rfl mapT169 ?_
          refine r_nil ?_
          refine i_block ?_
          refine i_then ?_
          refine t_region ?_
          refine r_add rfl rfl (by omega) (by omega) ?_
          refine mvI rfl ?_
          refine r_nil ?_
          refine i_round (⟨k.1 + 1, by omega⟩) ?_ (by show l.length - (k.1 + 1) < l.length - k.1; omega)
          (refine Ent.mk' ?_ ?_ <;> (repeat' (first | exact allSub_zero | exact allTags_nil | refine allSub_succ' ?_ (Ty.sub_any _) | refine allSub_succ' ?_ (Ty.sub_refl _) | refine allTags_cons rfl ?_ ?_)))
          all_goals skip
          all_goals exact Cont.sub_mp (metK_succ hk).symm
        ·
          refine t_exit ?_
          refine i_then_exit ?_
          refine i_then_exit ?_
          refine i_block_exit rfl ?_
          refine i_then ?_
          refine t_seq ?_
          refine t_seq ?_
          refine t_region ?_
          refine mvM rfl ?_
          refine r_lenMp rfl rfl (by decide) mapT169 ?_
          refine mvS rfl ?_
          refine r_len rfl rfl rfl ?_
          refine r_bin rfl rfl rfl ?_
          refine r_nil ?_
          refine i_then ?_
          refine t_cond_dec rfl (fun hc4 => ?_) (fun hc4 => ?_)
          ·
            refine t_seq ?_
            refine t_region ?_
            refine asS' rfl ?_
            refine asI rfl ?_
            refine r_nil ?_
            refine i_then ?_
            refine t_ret ?_
            refine i_then_ret ?_
            refine i_rp2 rfl rfl rfl ?_ ?_
            all_goals skip
            all_goals (rw [te3 hc1 (off_no hc2) (met_dup k.2 hc3 hc4)]; exact ret_refl rfl rfl)
          ·
            refine t_skip ?_
            refine i_then ?_
            refine t_seq ?_
            have hml : maxLen = 9223372036854775807 := rfl
            refine t_region ?_
            refine r_load_pp rfl rfl rfl rfl ?_
            refine r_convSB rfl rfl rfl rfl rfl Tryz.underlying5 (by omega) rfl ?_
            refine r_assign rfl ?_
            refine r_nil ?_
            refine i_then ?_
            refine t_seq ?_
            refine t_seq ?_
            refine t_region ?_
            refine r_move rfl ?_
            refine r_len_vs rfl rfl rfl ?_
            refine mvI rfl ?_
            refine r_nil ?_
            refine i_then ?_
            refine t_block ?_
            refine t_loop (fun (j : {j : Nat // j ≤ text.length}) => live [(6, Ty.mp 19), (9, Ty.vs 35 text.length), (35, Ty.vs 35 text.length), (36, Ty.int .i64 text.length), (37, Ty.int .i64 (j.1 : Nat))] [(19, Cont.mp (Value.int .i64) VBool (metK l k.1)), (35, Cont.bv 5 (tearP text l j.1))]) (fun j => text.length - j.1) (⟨0, Nat.zero_le _⟩) ?_ fun j => ?_
            · (refine Ent.mk' ?_ ?_ <;> (repeat' (first | exact allSub_zero | exact allTags_nil | refine allSub_succ' ?_ (Ty.sub_any _) | refine allSub_succ' ?_ (Ty.sub_refl _) | refine allTags_cons rfl (Cont.sub_refl _) ?_ | refine allTags_cons rfl ?_ ?_)))
              all_goals exact Cont.sub_bv (tp_0 text l)
            ·
              refine t_seq ?_
              refine t_region ?_
              refine r_bin rfl rfl rfl ?_
              refine r_nil ?_
              refine i_then ?_
              refine t_seq ?_
              refine t_cond_dec rfl (fun hc5 => ?_) (fun hc5 => ?_)
              ·
                refine t_skip ?_
                refine i_then ?_
                refine t_seq ?_
                refine t_block ?_
                refine t_seq ?_
                have hj : j.1 < text.length := by omega
                refine t_region ?_
                refine mvI rfl ?_
                refine asI rfl ?_
                refine r_nil ?_
                refine i_then ?_
                refine t_seq ?_
                refine t_region ?_
                refine mvM rfl ?_
                refine mvI rfl ?_
                refine r_lookup KI (z0 := false) rfl rfl (by decide) rfl (keyI _) mapT169 zero4 vb_zero ?_
                refine r_nil ?_
                refine i_then ?_
                refine t_cond rfl (fun hc6 => ?_) (fun hc6 => ?_)
                ·
                  refine t_region ?_
                  refine r_move rfl ?_
                  refine mvI rfl ?_
                  refine r_index_vs rfl rfl rfl rfl rfl (by omega) ?_
                  refine r_store_bv (i := j.1) (z := 63) rfl (Nat.mul_one _) rfl (by decide) rfl rfl rfl rfl (by rw [tp_len j.2]; exact hj) ?_
                  refine r_nil ?_
                  refine i_block ?_
                  refine i_then ?_
                  refine t_region ?_
                  refine r_add rfl rfl (by omega) (by omega) ?_
                  refine mvI rfl ?_
                  refine r_nil ?_
                  refine i_round (⟨j.1 + 1, by omega⟩) ?_ (by show text.length - (j.1 + 1) < text.length - j.1; omega)
                  (refine Ent.mk' ?_ ?_ <;> (repeat' (first | exact allSub_zero | exact allTags_nil | refine allSub_succ' ?_ (Ty.sub_any _) | refine allSub_succ' ?_ (Ty.sub_refl _) | refine allTags_cons rfl (Cont.sub_refl _) ?_ | refine allTags_cons rfl ?_ ?_)))
                  all_goals skip
                  all_goals exact Cont.sub_bv (tp_yes hj (met_in k.2 hc3 hc6))
                ·
                  refine t_skip ?_
                  refine i_block ?_
                  refine i_then ?_
                  refine t_region ?_
                  refine r_add rfl rfl (by omega) (by omega) ?_
                  refine mvI rfl ?_
                  refine r_nil ?_
                  refine i_round (⟨j.1 + 1, by omega⟩) ?_ (by show text.length - (j.1 + 1) < text.length - j.1; omega)
                  (refine Ent.mk' ?_ ?_ <;> (repeat' (first | exact allSub_zero | exact allTags_nil | refine allSub_succ' ?_ (Ty.sub_any _) | refine allSub_succ' ?_ (Ty.sub_refl _) | refine allTags_cons rfl (Cont.sub_refl _) ?_ | refine allTags_cons rfl ?_ ?_)))
                  all_goals skip
                  all_goals exact Cont.sub_bv (tp_no hj (met_out k.2 hc3 hc6))
              ·
                refine t_exit ?_
                refine i_then_exit ?_
                refine i_then_exit ?_
                refine i_block_exit rfl ?_
                refine i_then ?_
                refine t_seq ?_
                refine t_region ?_
                refine r_move rfl ?_
                refine r_convBS rfl rfl (by decide) (tp_len j.2).symm rfl rfl rfl rfl Tryz.underlying5 ?_
                refine asS' rfl ?_
                refine asI rfl ?_
                refine r_nil ?_
                refine i_then ?_
                refine t_ret ?_
                refine i_rp2 rfl rfl rfl ?_ ?_
                all_goals skip
                all_goals (rw [te4 hc1 (off_no hc2) (met_nod k.2 hc3 hc4), tp_end (by omega)]; exact ret_refl rfl rfl)
end Go.Proofs.YtjjndkenddigiaaGreatDoor

namespace Go.Proofs.YtjjndkenddigiaaGreatDoor
open Go Go.T
set_option maxHeartbeats 1000000
def BookE : El Book := El.mk' 3 bokTys (fun _ => rfl) (fun _ => ⟨rfl, rfl, rfl⟩)
def difB (a b : Book) (i : Nat) : Bool := (((!inB (i : Int) 0 ((a.rows.length : Int) - 1) || !inB (i : Int) 0 ((b.rows.length : Int) - 1)) || !((nth a.rows i).struck == (nth b.rows i).struck)) || !decide ((nth a.rows i).nums = (nth b.rows i).nums))
def difL (a b : Book) (n : Nat) : List Int := ((List.range n).filter (difB a b)).map fun i => ((i : Nat) : Int)
def maxN (a b : Book) : Nat := max a.rows.length b.rows.length
def difE (a b : Book) : Int := if bokY a ≠ 0 then bokY a else bokY b
def difV (a b : Book) : List Int × Int := if difE a b ≠ 0 then ([], difE a b) else if (!decide (a.form.widths = b.form.widths) || !decide (a.form.lines = b.form.lines)) = true then ([], 7) else (difL a b (maxN a b), 0)
theorem dif_yes {a b : Book} {i : Nat} (h : difB a b i = true) : difL a b i ++ [(i : Int)] = difL a b (i + 1) := by
  unfold difL; rw [List.range_succ, List.filter_append, List.map_append]; simp [h]
theorem dif_no {a b : Book} {i : Nat} (h : difB a b i = false) : difL a b i = difL a b (i + 1) := by
  unfold difL; rw [List.range_succ, List.filter_append, List.map_append]; simp [h]
theorem dif_len (a b : Book) (n : Nat) : (difL a b n).length ≤ n := by
  unfold difL; rw [List.length_map]
  exact Nat.le_trans (List.length_filter_le _ _) (by simp)
theorem dv_1 {a b : Book} {k : Nat} (hk : k < 2) (h : ∀ j, j < k → bokY (nth [a, b] j) = 0) (h2 : ¬ bokY (nth [a, b] k) = 0) : difV a b = ([], bokY (nth [a, b] k)) := by
  have e : difE a b = bokY (nth [a, b] k) := by
    match k, hk, h, h2 with
    | 0, _, _, h2 => exact if_pos h2
    | 1, _, h, _ => exact if_neg (fun e => e (h 0 (by omega)))
  unfold difV; rw [e, if_pos h2]
theorem dv_0 {a b : Book} (hA : BookOk a) (hB : BookOk b) : ¬ difE a b ≠ 0 := by
  unfold difE; rw [if_neg (fun e => e (bokY_zero.2 hA))]; exact fun e => e (bokY_zero.2 hB)
theorem dv_2 {a b : Book} (hA : BookOk a) (hB : BookOk b) (h : (!decide (a.form.widths = b.form.widths) || !decide (a.form.lines = b.form.lines)) = true) : difV a b = ([], 7) := by
  unfold difV; rw [if_neg (dv_0 hA hB), if_pos h]
theorem dv_3 {a b : Book} {i : Nat} (hA : BookOk a) (hB : BookOk b) (h : (!decide (a.form.widths = b.form.widths) || !decide (a.form.lines = b.form.lines)) = false) (hi : i ≤ maxN a b) (h2 : ¬ (i : Int) < (maxN a b : Nat)) : difV a b = (difL a b i, 0) := by
  unfold difV; rw [if_neg (dv_0 hA hB), if_neg (by rw [h]; decide), show maxN a b = i by omega]
theorem dv_m (a b : Book) : [(b.rows.length : Int)].foldl max (a.rows.length : Int) = (maxN a b : Nat) := by
  show max (a.rows.length : Int) (b.rows.length : Int) = ((max a.rows.length b.rows.length : Nat) : Int)
  omega
theorem lt_0 {m n i : Nat} (h : (!inB (i : Int) 0 ((m : Int) - 1) || !inB (i : Int) 0 ((n : Int) - 1)) = false) : i < m ∧ i < n := by
  simp only [Bool.or_eq_false_iff, Bool.not_eq_false'] at h
  have h1 := inB_true.1 h.1
  have h2 := inB_true.1 h.2
  omega
theorem lt_3 {m n i : Nat} {c : Bool} (h : (!inB (i : Int) 0 ((m : Int) - 1) || !inB (i : Int) 0 ((n : Int) - 1) || c) = false) : i < m ∧ i < n := lt_0 (by rw [Bool.or_eq_false_iff] at h; exact h.1)
theorem two_0 {a b : Book} (h : bokY (nth [a, b] 0) = 0) : bokY a = 0 := h
theorem two_1 {a b : Book} (h : bokY (nth [a, b] 1) = 0) : bokY b = 0 := h
theorem two_at {p : Book → Prop} {a b : Book} (ha : p a) (hb : p b) {k : Nat} (h : k < 2) : p (nth [a, b] k) := by
  match k, h with
  | 0, _ => exact ha
  | 1, _ => exact hb
attribute [local irreducible] dInt dBool dSl dPp dPtr dAgg dTup dClo dAny dEx dStr dGd dCells dVec dVs dRow dOp nth Tri Into TOps Ctr bodyPost Exit.then Exit.inBlock Code.wp Code.wpIn dPa dArr dMp dMap CtrG keepPost iterPost bodyPostM roundQ
set_option maxRecDepth 100000 in
theorem c_has (b : Book) (hl : b.rows.length ≤ 1000000) (i : Int) : Ctr Tryz.prog 96 [bokT b, Ty.int .i64 i] (Ty.bool (inB i 0 ((b.rows.length : Int) - 1))) := by
  refine fn_intro Tryz.func96 rfl (by decide) Tryz.ntmps96 (by exact Nat.le_of_ble_eq_true rfl) fun w0 M0 => ?_
  refine t_seq ?_
  refine t_region ?_
  refine r_box_agg rfl ?_
  refine asB rfl ?_
  refine r_nil ?_
  refine i_then ?_
  refine t_seq ?_
  refine t_region ?_
  refine mvI rfl ?_
  refine r_field_pp rfl rfl rfl rfl rfl (by decide) ?_
  refine r_load_pp rfl rfl rfl rfl ?_
  refine r_len rfl rfl rfl ?_
  refine r_sub rfl rfl (by omega) (by omega) ?_
  refine r_call (c_in _ _ _) rfl rfl rfl rfl rfl ?_
  refine asB rfl ?_
  refine r_nil ?_
  refine i_then ?_
  refine t_ret ?_
  refine i_rp1 rfl rfl ?_
  all_goals exact ret_refl rfl rfl
set_option maxRecDepth 100000 in
theorem c_Differ (a b : Book) (ha : ∀ r ∈ a.rows, Rng r.nums) (hb : ∀ r ∈ b.rows, Rng r.nums) : Ctr Tryz.prog 47 [bokT a, bokT b] (Ty.tup [Ty.sl I64 (difV a b).1, Ty.int .i64 (difV a b).2]) := by
  refine fn_intro Tryz.func47 rfl (by decide) Tryz.ntmps47 (by exact Nat.le_of_ble_eq_true rfl) fun w0 M0 => ?_
  refine t_seq ?_
  refine t_region ?_
  refine r_box_agg rfl ?_
  refine r_box_agg rfl ?_
  refine asX rfl ?_
  refine asI rfl ?_
  refine r_nil ?_
  refine i_then ?_
  refine t_seq ?_
  refine t_seq ?_
  refine t_region ?_
  refine r_load_ppN rfl rfl rfl (by exact Nat.le_of_ble_eq_true rfl) ?_
  refine r_load_ppN rfl rfl rfl (by exact Nat.le_of_ble_eq_true rfl) ?_
  refine r_buildSlice (E := BookE) (xs := [_, _]) rfl rfl rfl rfl rfl (by decide) (by decide) (by repeat (first | exact (Parts.nil : Parts _ _ [] _) | (show Parts _ _ ((_, _) :: _) _; apply Parts.agg; (· exact (rfl : _ = Ty.agg _))))) (by exact rfl) rfl ?_
  refine r_len rfl rfl rfl ?_
  refine mvI rfl ?_
  refine r_nil ?_
  refine i_then ?_
  refine t_block ?_
  refine t_loop (fun (k : {k : Nat // k ≤ 2 ∧ ∀ j, j < k → bokY (nth [a, b] j) = 0}) => live [(2, Ty.pp (bokTys a)), (3, Ty.pp (bokTys b)), (13, Ty.sl BookE [a, b]), (14, Ty.int .i64 2), (15, Ty.int .i64 (k.1 : Nat))] []) (fun k => 2 - k.1) (⟨0, Nat.zero_le _, fun j hj => absurd hj (Nat.not_lt_zero _)⟩) ?_ fun k => ?_
  · (refine Ent.mk' ?_ ?_ <;> (repeat' (first | exact allSub_zero | exact allTags_nil | refine allSub_succ' ?_ (Ty.sub_any _) | refine allSub_succ' ?_ (Ty.sub_refl _))))
  ·
    refine t_seq ?_
    refine t_region ?_
    refine r_bin rfl rfl rfl ?_
    refine r_nil ?_
    refine i_then ?_
    refine t_seq ?_
    refine t_cond_dec rfl (fun hc1 => ?_) (fun hc1 => ?_)
    ·
      refine t_skip ?_
      refine i_then ?_
      refine t_seq ?_
      refine t_block ?_
      refine t_seq ?_
      have hk : k.1 < 2 := by omega
      have hkr : ∀ r ∈ (nth [a, b] k.1).rows, Rng r.nums := two_at (p := fun b => ∀ r ∈ b.rows, Rng r.nums) ha hb hk
      refine t_region ?_
      refine r_index_slN rfl rfl rfl rfl rfl rfl (by omega) ?_
      refine r_load_ppN rfl rfl rfl (by exact Nat.le_of_ble_eq_true rfl) ?_
      refine r_alloc rfl (by exact List.cons_ne_nil _ _) rfl ?_
      refine r_storeN rfl rfl (by decide) rfl rfl rfl rfl rfl rfl ?_
      refine r_nil ?_
      refine i_then ?_
      refine t_seq ?_
      refine t_region ?_
      refine r_load_ptrN rfl rfl (by decide) rfl rfl (by exact Nat.le_of_ble_eq_true rfl) ?_
      refine r_call (c_Check _ hkr) rfl rfl rfl rfl rfl ?_
      refine asI rfl ?_
      refine r_nil ?_
      refine i_then ?_
      refine t_seq ?_
      refine t_region ?_
      refine mvI rfl ?_
      refine r_bin rfl rfl rfl ?_
      refine r_nil ?_
      refine i_then ?_
      refine t_cond_ndec rfl (fun hc2 => ?_) (fun hc2 => ?_)
      ·
        refine t_seq ?_
        refine t_region ?_
        refine mvI rfl ?_
        refine asX rfl ?_
        refine asI rfl ?_
        refine r_nil ?_
        refine i_then ?_
        refine t_ret ?_
        refine i_block_ret ?_
        refine i_then_ret ?_
        refine i_then_ret ?_
        refine i_block_ret ?_
        refine i_then_ret ?_
        refine i_rp2 rfl rfl rfl ?_ ?_
        all_goals skip
        all_goals (rw [dv_1 hk k.2.2 hc2]; first | exact ret_refl rfl rfl | exact ret_nil)
      ·
        refine t_skip ?_
        refine i_block ?_
        refine i_then ?_
        refine t_region ?_
        refine r_add rfl rfl (by omega) (by omega) ?_
        refine mvI rfl ?_
        refine r_nil ?_
        refine i_round (⟨k.1 + 1, by omega, fun j hj => by by_cases e : j = k.1; (· rw [e]; exact hc2); (· exact k.2.2 j (by omega))⟩) ?_ (by show 2 - (k.1 + 1) < 2 - k.1; omega)
        (refine Ent.mk' ?_ ?_ <;> (repeat' (first | exact allSub_zero | exact allTags_nil | refine allSub_succ' ?_ (Ty.sub_any _) | refine allSub_succ' ?_ (Ty.sub_refl _))))
        all_goals skip
    ·
      refine t_exit ?_
      refine i_then_exit ?_
      refine i_then_exit ?_
      refine i_block_exit rfl ?_
      refine i_then ?_
      refine t_seq ?_
      refine t_seq ?_
      have hA : BookOk a := bokY_zero.1 (two_0 (k.2.2 0 (by omega)))
      have hB : BookOk b := bokY_zero.1 (two_1 (k.2.2 1 (by omega)))
      have hfa := hA.few
      have hfb := hB.few
      refine t_region ?_
      refine r_field_pp rfl rfl rfl rfl rfl (by decide) ?_
      refine r_field_pp rfl rfl rfl rfl rfl (by decide) ?_
      refine r_load_pp rfl rfl rfl rfl ?_
      refine r_field_pp rfl rfl rfl rfl rfl (by decide) ?_
      refine r_field_pp rfl rfl rfl rfl rfl (by decide) ?_
      refine r_load_pp rfl rfl rfl rfl ?_
      refine r_call (c_Equal_int _ _) rfl rfl rfl rfl rfl ?_
      refine r_not rfl ?_
      refine mvB rfl ?_
      apply r_guard (s := 33) rfl rfl rfl
      · intro hg; apply opT_of; (try have hq := lt_0 hg); (try have hq := lt_3 hg); (refine r_field_pp rfl rfl rfl rfl rfl (by decide) ?_); refine r_nil ?_; exact rfl
      · exact rfl
      · exact rfl
      apply r_guard (s := 33) rfl rfl rfl
      · intro hg; apply opT_strip (s := 34) rfl (by (rw [hg]; rfl)); apply opT_of; (try have hq := lt_0 hg); (try have hq := lt_3 hg); (refine r_field_pp rfl rfl rfl rfl rfl (by decide) ?_); refine r_nil ?_; exact rfl
      · exact rfl
      · exact rfl
      apply r_guard (s := 33) rfl rfl rfl
      · intro hg; apply opT_strip (s := 35) rfl (by (rw [hg]; rfl)); apply opT_of; (try have hq := lt_0 hg); (try have hq := lt_3 hg); (refine r_load_pp rfl rfl rfl rfl ?_); refine r_nil ?_; exact rfl
      · exact rfl
      · exact rfl
      apply r_guard (s := 33) rfl rfl rfl
      · intro hg; apply opT_of; (try have hq := lt_0 hg); (try have hq := lt_3 hg); (refine r_field_pp rfl rfl rfl rfl rfl (by decide) ?_); refine r_nil ?_; exact rfl
      · exact rfl
      · exact rfl
      apply r_guard (s := 33) rfl rfl rfl
      · intro hg; apply opT_strip (s := 37) rfl (by (rw [hg]; rfl)); apply opT_of; (try have hq := lt_0 hg); (try have hq := lt_3 hg); (refine r_field_pp rfl rfl rfl rfl rfl (by decide) ?_); refine r_nil ?_; exact rfl
      · exact rfl
      · exact rfl
      apply r_guard (s := 33) rfl rfl rfl
      · intro hg; apply opT_strip (s := 38) rfl (by (rw [hg]; rfl)); apply opT_of; (try have hq := lt_0 hg); (try have hq := lt_3 hg); (refine r_load_pp rfl rfl rfl rfl ?_); refine r_nil ?_; exact rfl
      · exact rfl
      · exact rfl
      apply r_guard (s := 33) rfl rfl rfl
      · intro hg; apply opT_strip (s := 36) rfl (by (rw [hg]; rfl)); apply opT_strip (s := 39) rfl (by (rw [hg]; rfl)); apply opT_of; (try have hq := lt_0 hg); (try have hq := lt_3 hg); (refine r_bin rfl rfl rfl ?_); refine r_nil ?_; exact rfl
      · exact rfl
      · exact rfl
      refine r_or rfl rfl ?_
      refine r_nil ?_
      refine i_then ?_
      refine t_cond rfl (fun hc3 => ?_) (fun hc3 => ?_)
      ·
        refine t_seq ?_
        refine t_region ?_
        refine asX rfl ?_
        refine asI rfl ?_
        refine r_nil ?_
        refine i_then ?_
        refine t_ret ?_
        refine i_then_ret ?_
        refine i_rp2 rfl rfl rfl ?_ ?_
        all_goals skip
        all_goals (rw [dv_2 hA hB hc3]; first | exact ret_refl rfl rfl | exact ret_nil)
      ·
        refine t_skip ?_
        refine i_then ?_
        refine t_seq ?_
        refine t_region ?_
        refine asX rfl ?_
        refine r_nil ?_
        refine i_then ?_
        refine t_seq ?_
        refine t_seq ?_
        refine t_region ?_
        refine r_field_pp rfl rfl rfl rfl rfl (by decide) ?_
        refine r_load_pp rfl rfl rfl rfl ?_
        refine r_len rfl rfl rfl ?_
        refine r_field_pp rfl rfl rfl rfl rfl (by decide) ?_
        refine r_load_pp rfl rfl rfl rfl ?_
        refine r_len rfl rfl rfl ?_
        refine r_buildSlice (E := I64) (xs := [_]) rfl rfl rfl rfl rfl (by decide) (by decide) (by repeat (first | exact (Parts.nil : Parts _ _ [] _) | (show Parts _ _ ((_, _) :: _) _; apply Parts.one; (· exact (rfl : _ = Ty.int _ _)); (· exact rfl)))) (by exact rfl) rfl ?_
        refine r_call (c_greatest _ _) rfl rfl rfl rfl rfl ?_
        refine mvI rfl ?_
        refine r_nil ?_
        refine i_then ?_
        refine t_block ?_
        refine t_loop (fun (i : {i : Nat // i ≤ maxN a b}) => live [(2, Ty.pp (bokTys a)), (3, Ty.pp (bokTys b)), (9, Ty.row I64 3 98 (difL a b i.1)), (49, Ty.int .i64 (maxN a b : Nat)), (50, Ty.int .i64 (i.1 : Nat))] []) (fun i => maxN a b - i.1) (⟨0, Nat.zero_le _⟩) ?_ fun i => ?_
        · (refine Ent.mk' ?_ ?_ <;> (repeat' (first | exact allSub_zero | exact allTags_nil | refine allSub_succ' ?_ (Ty.sub_any _) | refine allSub_succ' ?_ (Ty.sub_refl _) | refine allSub_succ' ?_ Ty.nil_row | refine allSub_succ' ?_ ?_)))
          all_goals exact Ty.sub_int (dv_m a b)
        ·
          have hdl := dif_len a b i.1
          have hmx : maxN a b ≤ 12 := by unfold maxN; omega
          have hil := i.2
          refine t_seq ?_
          refine t_region ?_
          refine r_bin rfl rfl rfl ?_
          refine r_nil ?_
          refine i_then ?_
          refine t_seq ?_
          refine t_cond_dec rfl (fun hc4 => ?_) (fun hc4 => ?_)
          ·
            refine t_skip ?_
            refine i_then ?_
            refine t_seq ?_
            refine t_block ?_
            refine t_seq ?_
            refine t_region ?_
            refine mvI rfl ?_
            refine asI rfl ?_
            refine r_nil ?_
            refine i_then ?_
            refine t_seq ?_
            refine t_draw mixed rfl ?_
            refine r_load_ppN rfl rfl rfl (by exact Nat.le_of_ble_eq_true rfl) ?_
            refine mvI rfl ?_
            refine r_call (c_has _ (by omega) _) rfl rfl rfl rfl rfl ?_
            refine r_not rfl ?_
            refine mvB rfl ?_
            apply r_guard (s := 57) rfl rfl rfl
            · intro hg; apply opT_of; (try have hq := lt_0 hg); (try have hq := lt_3 hg); (refine r_load_ppN rfl rfl rfl (by exact Nat.le_of_ble_eq_true rfl) ?_); refine r_nil ?_; exact rfl
            · exact rfl
            · exact rfl
            apply r_guard (s := 57) rfl rfl rfl
            · intro hg; apply opT_of; (try have hq := lt_0 hg); (try have hq := lt_3 hg); (refine mvI rfl ?_); refine r_nil ?_; exact rfl
            · exact rfl
            · exact rfl
            apply r_guard (s := 57) rfl rfl rfl
            · intro hg; apply opT_strip (s := 58) rfl (by (rw [hg]; rfl)); apply opT_strip (s := 59) rfl (by (rw [hg]; rfl)); apply opT_of; (try have hq := lt_0 hg); (try have hq := lt_3 hg); (refine r_call (c_has _ (by omega) _) rfl rfl rfl rfl rfl ?_); refine r_nil ?_; exact rfl
            · exact rfl
            · exact rfl
            apply r_guard (s := 57) rfl rfl rfl
            · intro hg; apply opT_strip (s := 60) rfl (by (rw [hg]; rfl)); apply opT_of; (try have hq := lt_0 hg); (try have hq := lt_3 hg); (refine r_not rfl ?_); refine r_nil ?_; exact rfl
            · exact rfl
            · exact rfl
            refine r_or rfl rfl ?_
            refine mvB rfl ?_
            apply r_guard (s := 63) rfl rfl rfl
            · intro hg; apply opT_of; (try have hq := lt_0 hg); (try have hq := lt_3 hg); (refine r_field_pp rfl rfl rfl rfl rfl (by decide) ?_); refine r_nil ?_; exact rfl
            · exact rfl
            · exact rfl
            apply r_guard (s := 63) rfl rfl rfl
            · intro hg; apply opT_strip (s := 64) rfl (by (rw [hg]; rfl)); apply opT_of; (try have hq := lt_0 hg); (try have hq := lt_3 hg); (refine r_load_pp rfl rfl rfl rfl ?_); refine r_nil ?_; exact rfl
            · exact rfl
            · exact rfl
            apply r_guard (s := 63) rfl rfl rfl
            · intro hg; apply opT_of; (try have hq := lt_0 hg); (try have hq := lt_3 hg); (refine mvI rfl ?_); refine r_nil ?_; exact rfl
            · exact rfl
            · exact rfl
            apply r_guard (s := 63) rfl rfl rfl
            · intro hg; apply opT_strip (s := 65) rfl (by (rw [hg]; rfl)); apply opT_strip (s := 66) rfl (by (rw [hg]; rfl)); apply opT_of; (try have hq := lt_0 hg); (try have hq := lt_3 hg); (refine r_index_slN rfl rfl rfl rfl rfl rfl (by omega) ?_); refine r_nil ?_; exact rfl
            · exact rfl
            · exact rfl
            apply r_guard (s := 63) rfl rfl rfl
            · intro hg; apply opT_strip (s := 67) rfl (by (rw [hg]; rfl)); apply opT_of; (try have hq := lt_0 hg); (try have hq := lt_3 hg); (refine r_field_pp rfl rfl rfl rfl rfl (by decide) ?_); refine r_nil ?_; exact rfl
            · exact rfl
            · exact rfl
            apply r_guard (s := 63) rfl rfl rfl
            · intro hg; apply opT_strip (s := 68) rfl (by (rw [hg]; rfl)); apply opT_of; (try have hq := lt_0 hg); (try have hq := lt_3 hg); (refine r_load_pp rfl rfl rfl rfl ?_); refine r_nil ?_; exact rfl
            · exact rfl
            · exact rfl
            apply r_guard (s := 63) rfl rfl rfl
            · intro hg; apply opT_of; (try have hq := lt_0 hg); (try have hq := lt_3 hg); (refine r_field_pp rfl rfl rfl rfl rfl (by decide) ?_); refine r_nil ?_; exact rfl
            · exact rfl
            · exact rfl
            apply r_guard (s := 63) rfl rfl rfl
            · intro hg; apply opT_strip (s := 70) rfl (by (rw [hg]; rfl)); apply opT_of; (try have hq := lt_0 hg); (try have hq := lt_3 hg); (refine r_load_pp rfl rfl rfl rfl ?_); refine r_nil ?_; exact rfl
            · exact rfl
            · exact rfl
            apply r_guard (s := 63) rfl rfl rfl
            · intro hg; apply opT_of; (try have hq := lt_0 hg); (try have hq := lt_3 hg); (refine mvI rfl ?_); refine r_nil ?_; exact rfl
            · exact rfl
            · exact rfl
            apply r_guard (s := 63) rfl rfl rfl
            · intro hg; apply opT_strip (s := 71) rfl (by (rw [hg]; rfl)); apply opT_strip (s := 72) rfl (by (rw [hg]; rfl)); apply opT_of; (try have hq := lt_0 hg); (try have hq := lt_3 hg); (refine r_index_slN rfl rfl rfl rfl rfl rfl (by omega) ?_); refine r_nil ?_; exact rfl
            · exact rfl
            · exact rfl
            apply r_guard (s := 63) rfl rfl rfl
            · intro hg; apply opT_strip (s := 73) rfl (by (rw [hg]; rfl)); apply opT_of; (try have hq := lt_0 hg); (try have hq := lt_3 hg); (refine r_field_pp rfl rfl rfl rfl rfl (by decide) ?_); refine r_nil ?_; exact rfl
            · exact rfl
            · exact rfl
            apply r_guard (s := 63) rfl rfl rfl
            · intro hg; apply opT_strip (s := 74) rfl (by (rw [hg]; rfl)); apply opT_of; (try have hq := lt_0 hg); (try have hq := lt_3 hg); (refine r_load_pp rfl rfl rfl rfl ?_); refine r_nil ?_; exact rfl
            · exact rfl
            · exact rfl
            apply r_guard (s := 63) rfl rfl rfl
            · intro hg; apply opT_strip (s := 69) rfl (by (rw [hg]; rfl)); apply opT_strip (s := 75) rfl (by (rw [hg]; rfl)); apply opT_of; (try have hq := lt_0 hg); (try have hq := lt_3 hg); (refine r_neq_B und4 rfl rfl ?_); refine r_nil ?_; exact rfl
            · exact rfl
            · exact rfl
            refine r_or rfl rfl ?_
            refine mvB rfl ?_
            apply r_guard (s := 78) rfl rfl rfl
            · intro hg; apply opT_of; (try have hq := lt_0 hg); (try have hq := lt_3 hg); (refine r_field_pp rfl rfl rfl rfl rfl (by decide) ?_); refine r_nil ?_; exact rfl
            · exact rfl
            · exact rfl
            apply r_guard (s := 78) rfl rfl rfl
            · intro hg; apply opT_strip (s := 79) rfl (by (rw [hg]; rfl)); apply opT_of; (try have hq := lt_0 hg); (try have hq := lt_3 hg); (refine r_load_pp rfl rfl rfl rfl ?_); refine r_nil ?_; exact rfl
            · exact rfl
            · exact rfl
            apply r_guard (s := 78) rfl rfl rfl
            · intro hg; apply opT_of; (try have hq := lt_0 hg); (try have hq := lt_3 hg); (refine mvI rfl ?_); refine r_nil ?_; exact rfl
            · exact rfl
            · exact rfl
            apply r_guard (s := 78) rfl rfl rfl
            · intro hg; apply opT_strip (s := 80) rfl (by (rw [hg]; rfl)); apply opT_strip (s := 81) rfl (by (rw [hg]; rfl)); apply opT_of; (try have hq := lt_0 hg); (try have hq := lt_3 hg); (refine r_index_slN rfl rfl rfl rfl rfl rfl (by omega) ?_); refine r_nil ?_; exact rfl
            · exact rfl
            · exact rfl
            apply r_guard (s := 78) rfl rfl rfl
            · intro hg; apply opT_strip (s := 82) rfl (by (rw [hg]; rfl)); apply opT_of; (try have hq := lt_0 hg); (try have hq := lt_3 hg); (refine r_field_pp rfl rfl rfl rfl rfl (by decide) ?_); refine r_nil ?_; exact rfl
            · exact rfl
            · exact rfl
            apply r_guard (s := 78) rfl rfl rfl
            · intro hg; apply opT_strip (s := 83) rfl (by (rw [hg]; rfl)); apply opT_of; (try have hq := lt_0 hg); (try have hq := lt_3 hg); (refine r_load_pp rfl rfl rfl rfl ?_); refine r_nil ?_; exact rfl
            · exact rfl
            · exact rfl
            apply r_guard (s := 78) rfl rfl rfl
            · intro hg; apply opT_of; (try have hq := lt_0 hg); (try have hq := lt_3 hg); (refine r_field_pp rfl rfl rfl rfl rfl (by decide) ?_); refine r_nil ?_; exact rfl
            · exact rfl
            · exact rfl
            apply r_guard (s := 78) rfl rfl rfl
            · intro hg; apply opT_strip (s := 85) rfl (by (rw [hg]; rfl)); apply opT_of; (try have hq := lt_0 hg); (try have hq := lt_3 hg); (refine r_load_pp rfl rfl rfl rfl ?_); refine r_nil ?_; exact rfl
            · exact rfl
            · exact rfl
            apply r_guard (s := 78) rfl rfl rfl
            · intro hg; apply opT_of; (try have hq := lt_0 hg); (try have hq := lt_3 hg); (refine mvI rfl ?_); refine r_nil ?_; exact rfl
            · exact rfl
            · exact rfl
            apply r_guard (s := 78) rfl rfl rfl
            · intro hg; apply opT_strip (s := 86) rfl (by (rw [hg]; rfl)); apply opT_strip (s := 87) rfl (by (rw [hg]; rfl)); apply opT_of; (try have hq := lt_0 hg); (try have hq := lt_3 hg); (refine r_index_slN rfl rfl rfl rfl rfl rfl (by omega) ?_); refine r_nil ?_; exact rfl
            · exact rfl
            · exact rfl
            apply r_guard (s := 78) rfl rfl rfl
            · intro hg; apply opT_strip (s := 88) rfl (by (rw [hg]; rfl)); apply opT_of; (try have hq := lt_0 hg); (try have hq := lt_3 hg); (refine r_field_pp rfl rfl rfl rfl rfl (by decide) ?_); refine r_nil ?_; exact rfl
            · exact rfl
            · exact rfl
            apply r_guard (s := 78) rfl rfl rfl
            · intro hg; apply opT_strip (s := 89) rfl (by (rw [hg]; rfl)); apply opT_of; (try have hq := lt_0 hg); (try have hq := lt_3 hg); (refine r_load_pp rfl rfl rfl rfl ?_); refine r_nil ?_; exact rfl
            · exact rfl
            · exact rfl
            apply r_guard (s := 78) rfl rfl rfl
            · intro hg; apply opT_strip (s := 84) rfl (by (rw [hg]; rfl)); apply opT_strip (s := 90) rfl (by (rw [hg]; rfl)); apply opT_of; (try have hq := lt_0 hg); (try have hq := lt_3 hg); (refine r_call (c_Equal_int _ _) rfl rfl rfl rfl rfl ?_); refine r_nil ?_; exact rfl
            · exact rfl
            · exact rfl
            apply r_guard (s := 78) rfl rfl rfl
            · intro hg; apply opT_strip (s := 91) rfl (by (rw [hg]; rfl)); apply opT_of; (try have hq := lt_0 hg); (try have hq := lt_3 hg); (refine r_not rfl ?_); refine r_nil ?_; exact rfl
            · exact rfl
            · exact rfl
            refine r_or rfl rfl ?_
            refine r_nil ?_
            refine ⟨by kernel_rfl, ?_⟩
            refine i_then ?_
            refine t_cond rfl (fun hc5 => ?_) (fun hc5 => ?_)
            ·
              refine t_region ?_
              refine mvR rfl ?_
              refine mvI rfl ?_
              refine r_buildSlice (E := I64) (xs := [_]) rfl rfl rfl rfl rfl (by decide) (by decide) (by repeat (first | exact (Parts.nil : Parts _ _ [] _) | (show Parts _ _ ((_, _) :: _) _; apply Parts.one; (· exact (rfl : _ = Ty.int _ _)); (· exact rfl)))) (by exact rfl) rfl ?_
              refine r_append rfl rfl (by decide) rfl rfl rfl rfl rfl rfl (by decide) (by (simp <;> omega)) (by (simp <;> omega)) ?_
              refine asR rfl ?_
              refine r_nil ?_
              refine i_block ?_
              refine i_then ?_
              refine t_region ?_
              refine r_add rfl rfl (by omega) (by omega) ?_
              refine mvI rfl ?_
              refine r_nil ?_
              refine i_round (⟨i.1 + 1, by omega⟩) ?_ (by show maxN a b - (i.1 + 1) < maxN a b - i.1; omega)
              (refine Ent.mk' ?_ ?_ <;> (repeat' (first | exact allSub_zero | exact allTags_nil | refine allSub_succ' ?_ (Ty.sub_any _) | refine allSub_succ' ?_ (Ty.sub_refl _) | refine allSub_succ' ?_ ?_)))
              all_goals skip
              all_goals exact Ty.sub_row (dif_yes hc5)
            ·
              refine t_skip ?_
              refine i_block ?_
              refine i_then ?_
              refine t_region ?_
              refine r_add rfl rfl (by omega) (by omega) ?_
              refine mvI rfl ?_
              refine r_nil ?_
              refine i_round (⟨i.1 + 1, by omega⟩) ?_ (by show maxN a b - (i.1 + 1) < maxN a b - i.1; omega)
              (refine Ent.mk' ?_ ?_ <;> (repeat' (first | exact allSub_zero | exact allTags_nil | refine allSub_succ' ?_ (Ty.sub_any _) | refine allSub_succ' ?_ (Ty.sub_refl _) | refine allSub_succ' ?_ ?_)))
              all_goals skip
              all_goals exact Ty.sub_row (dif_no hc5)
          ·
            refine t_exit ?_
            refine i_then_exit ?_
            refine i_then_exit ?_
            refine i_block_exit rfl ?_
            refine i_then ?_
            refine t_seq ?_
            refine t_region ?_
            refine mvR rfl ?_
            refine asR rfl ?_
            refine asI rfl ?_
            refine r_nil ?_
            refine i_then ?_
            refine t_ret ?_
            refine i_rp2 rfl rfl rfl ?_ ?_
            all_goals skip
            all_goals (rw [dv_3 hA hB hc3 i.2 hc4]; first | exact ret_refl rfl rfl | exact ret_row (by decide))
end Go.Proofs.YtjjndkenddigiaaGreatDoor

namespace Go.Proofs.YtjjndkenddigiaaGreatDoor
open Go Go.T
end Go.Proofs.YtjjndkenddigiaaGreatDoor

namespace Go.Proofs.YtjjndkenddigiaaGreatDoor
open Go Go.T
set_option maxHeartbeats 1000000

attribute [local irreducible] dInt dBool dSl dPp dPtr dAgg dTup dClo dAny dEx dStr dGd dCells dVec dVs dRow dOp nth Tri Into TOps Ctr bodyPost Exit.then Exit.inBlock Code.wp Code.wpIn dPa dArr dMp dMap CtrG keepPost iterPost bodyPostM roundQ
end Go.Proofs.YtjjndkenddigiaaGreatDoor

namespace Go.Proofs.YtjjndkenddigiaaGreatDoor
open Go Go.T
end Go.Proofs.YtjjndkenddigiaaGreatDoor

namespace Go.Proofs.YtjjndkenddigiaaGreatDoor
open Go Go.T
set_option maxHeartbeats 1000000
attribute [local irreducible] sumC
attribute [local irreducible] dInt dBool dSl dPp dPtr dAgg dTup dClo dAny dEx dStr dGd dCells dVec dVs dRow dOp nth Tri Into TOps Ctr bodyPost Exit.then Exit.inBlock Code.wp Code.wpIn dPa dArr dMp dMap CtrG keepPost iterPost bodyPostM roundQ
end Go.Proofs.YtjjndkenddigiaaGreatDoor

namespace Go.Proofs.YtjjndkenddigiaaGreatDoor
open Go Go.T
set_option maxHeartbeats 1000000
attribute [local irreducible] sumC lnP lineB
attribute [local irreducible] dInt dBool dSl dPp dPtr dAgg dTup dClo dAny dEx dStr dGd dCells dVec dVs dRow dOp nth Tri Into TOps Ctr bodyPost Exit.then Exit.inBlock Code.wp Code.wpIn dPa dArr dMp dMap CtrG keepPost iterPost bodyPostM roundQ
end Go.Proofs.YtjjndkenddigiaaGreatDoor

namespace Go.Proofs.YtjjndkenddigiaaGreatDoor
open Go Go.T
def filS (f : BForm) (p : Rdr) (s t : Byt) : List (Byt × Rdr) := (fillR f p t).map fun x => (s ++ x.1, x.2)
def allF (f : BForm) (text : Byt) : List (Byt × Rdr) := fillR f Rdr.new text
theorem fil_all (f : BForm) (text : Byt) : filS f Rdr.new [] text = allF f text := by
  unfold filS allF
  induction fillR f Rdr.new text with
  | nil => rfl
  | cons x l ih => rw [List.map_cons, ih]; rfl
theorem fil_nil {f : BForm} {p : Rdr} {s : Byt} : filS f p s [] = if wholeR p = true then [(s, p)] else [] := by
  unfold filS fillR; split <;> simp
theorem fil_step {f : BForm} {p : Rdr} {s t : Byt} {c : UInt8} (h : c ≠ 63) (hc : c ∈ canR f p) : filS f p s (c :: t) = filS f (nextR f p c) (s ++ [c]) t := by
  unfold filS
  rw [fillR, if_pos h, show stepR f p c = some (nextR f p c) from if_pos hc]
  simp only [List.map_map]
  apply List.map_congr_left
  intro x _; simp
theorem fil_stop {f : BForm} {p : Rdr} {s t : Byt} {c : UInt8} (h : c ≠ 63) (hc : c ∉ canR f p) : filS f p s (c :: t) = [] := by
  unfold filS
  rw [fillR, if_pos h, show stepR f p c = none from if_neg hc]; rfl
theorem fil_torn {f : BForm} {p : Rdr} {s t : Byt} : filS f p s (63 :: t) = (canR f p).flatMap fun d => filS f (nextR f p d) (s ++ [d]) t := by
  unfold filS
  rw [fillR, if_neg (by decide), List.map_flatMap]
  congr 1
  funext d
  rw [List.map_map]
  apply List.map_congr_left
  intro x _; simp
def upF (f : BForm) (p : Rdr) (s t : Byt) (j : Nat) : List (Byt × Rdr) := ((canR f p).take j).flatMap fun d => filS f (nextR f p d) (s ++ [d]) t
theorem up_zero (f : BForm) (p : Rdr) (s t : Byt) : upF f p s t 0 = [] := by simp [upF]
theorem up_succ {f : BForm} {p : Rdr} {s t : Byt} {j : Nat} (h : j < (canR f p).length) : upF f p s t (j + 1) = upF f p s t j ++ filS f (nextR f p (nth (canR f p) j)) (s ++ [nth (canR f p) j]) t := by
  unfold upF; rw [take_nth h, List.flatMap_append]; simp
theorem up_all {f : BForm} {p : Rdr} {s t : Byt} : upF f p s t (canR f p).length = filS f p s (63 :: t) := by
  unfold upF; rw [List.take_length, fil_torn]
theorem up_pre {f : BForm} {p : Rdr} {s t : Byt} {j : Nat} (h : j < (canR f p).length) : upF f p s t j ++ filS f (nextR f p (nth (canR f p) j)) (s ++ [nth (canR f p) j]) t <+: filS f p s (63 :: t) := by
  rw [← up_succ h, fil_torn]
  refine ⟨((canR f p).drop (j + 1)).flatMap fun d => filS f (nextR f p d) (s ++ [d]) t, ?_⟩
  unfold upF
  rw [← List.flatMap_append, List.take_append_drop]
theorem pre_drop {α : Type} {l a b : List α} {k : Nat} (h : a ++ b <+: l.drop k) : b <+: l.drop (k + a.length) := by
  obtain ⟨r, e⟩ := h
  refine ⟨r, ?_⟩
  rw [← List.drop_drop, ← e, List.append_assoc, List.drop_left]
theorem pre_get {α : Type} {l : List α} {x : α} {k : Nat} (h : [x] <+: l.drop k) : l[k]? = some x := by
  obtain ⟨r, e⟩ := h
  have := congrArg List.head? e
  rw [List.head?_drop] at this
  exact this.symm
theorem drop_cons' {a : Byt} {k : Nat} (h : k < a.length) : a.drop k = nth a k :: a.drop (k + 1) := drop_nth h
def rdrPl (f : BForm) (p : Rdr) : List Ty := [Ty.sl I64 f.widths, Ty.int .i64 f.lines, Ty.int .i64 p.rows, Ty.int .i64 p.page, Ty.bool p.begun, Ty.bool p.closed, Ty.int .i64 p.column, Ty.int .i64 p.offset, Ty.int .i64 p.number, Ty.bool p.digits, Ty.sl BRowE p.read, Ty.str (bs p.must)]
def encF (f : BForm) (x : Byt × Rdr) : List Ty := [Ty.str (bs x.1), Ty.pp (rdrPl f x.2)]
theorem fillR_ok {f : BForm} : ∀ (t : Byt) (p : Rdr), RdrOk f p → ∀ x ∈ fillR f p t, RdrOk f x.2 ∧ wholeR x.2 = true ∧ x.1.length = t.length
  | [], p, ho, x, hx => by
    rw [fillR] at hx
    split at hx
    · rename_i hw; rw [List.mem_singleton.1 hx]; exact ⟨ho, hw, rfl⟩
    · cases hx
  | c :: t, p, ho, x, hx => by
    rw [fillR] at hx
    split at hx
    · rename_i hc
      unfold stepR at hx
      split at hx
      · cases hx
      · rename_i q hq
        split at hq
        · rename_i hm
          injection hq with hq
          subst hq
          obtain ⟨y, hy, rfl⟩ := List.mem_map.1 hx
          obtain ⟨h1, h2, h3⟩ := fillR_ok t _ (next_ok ho hm) y hy
          exact ⟨h1, h2, by simp [h3]⟩
        · cases hq
    · obtain ⟨d, hd, hx⟩ := List.mem_flatMap.1 hx
      obtain ⟨y, hy, rfl⟩ := List.mem_map.1 hx
      obtain ⟨h1, h2, h3⟩ := fillR_ok t _ (next_ok ho hd) y hy
      exact ⟨h1, h2, by simp [h3]⟩
end Go.Proofs.YtjjndkenddigiaaGreatDoor

namespace Go.T
open Go Go.RowKit
def viewF (Mc : Tags) (g : Option Nat) (own : Nat → Option Nat) : Tags := fun b => match Mc b with | none => none | some u => if u < Zt then some 7000 else if some b = g then some 1000 else match own b with | some t => some t | none => some 5000
structure OwnF (Mc : Tags) (g : Option Nat) (own : Nat → Option Nat) : Prop where
  at' : ∀ b t, own b = some t → Mc b = some (Zt + b) ∧ some b ≠ g ∧ 1001 < t ∧ t < 1010
  inj : ∀ b b' t, own b = some t → own b' = some t → b = b'
section
variable {Mc : Tags} {g : Option Nat} {own : Nat → Option Nat} {b : Nat}
theorem viewF_none (h : viewF Mc g own b = none) : Mc b = none := by
  unfold viewF at h
  split at h
  · assumption
  · split at h
    · cases h
    · split at h
      · cases h
      · split at h <;> cases h
theorem viewF_none' (h : Mc b = none) : viewF Mc g own b = none := by simp [viewF, h]
theorem viewF_g {b : Nat} (h : Mc b = some (Zt + b)) : viewF Mc (some b) own b = some 1000 := by
  have : ¬ Zt + b < Zt := by omega
  simp [viewF, h, this]
theorem viewF_own {t : Nat} (ho : OwnF Mc g own) (h : own b = some t) : viewF Mc g own b = some t := by
  obtain ⟨h1, h2, _⟩ := ho.at' b t h
  have : ¬ Zt + b < Zt := by omega
  simp [viewF, h1, h2, this, h]
theorem viewF_old (h : Mc b = some (Zt + b)) (hg : some b ≠ g) (ho : own b = none) : viewF Mc g own b = some 5000 := by
  have : ¬ Zt + b < Zt := by omega
  simp [viewF, h, hg, this, ho]
theorem viewF_wf {w : World} (wf : Wf w Mc) (ho : OwnF Mc g own) : Wf w (viewF Mc g own) := by
  refine ⟨fun b t h => ?_, fun b b' t ht h h' => ?_, wf.amb.same fun b h => viewF_none' h⟩
  · cases hm : Mc b with
    | none => rw [viewF_none' hm] at h; cases h
    | some u => exact wf.lt b u hm
  · have key : ∀ b, viewF Mc g own b = some (t + 1) → (some b = g ∧ t + 1 = 1000) ∨ own b = some (t + 1) := fun b h => by
      unfold viewF at h
      split at h
      · cases h
      · split at h
        · injection h with h; omega
        · split at h
          · injection h with h; rename_i hg; exact .inl ⟨hg, h.symm⟩
          · split at h
            · rename_i q hq; injection h with h; subst h; exact .inr hq
            · injection h with h; omega
    rcases key b h with ⟨e1, e2⟩ | e1 <;> rcases key b' h' with ⟨e3, e4⟩ | e3
    · rw [← e3] at e1; injection e1
    · have := (ho.at' _ _ e3).2.2.1; omega
    · have := (ho.at' _ _ e1).2.2.1; omega
    · exact ho.inj _ _ _ e1 e3
theorem viewF_ck {w : World} {J : World → Tags → Prop} (wf : Wf w Mc) (z : ZOk Mc) (hj : J w Mc) : dCK J w (viewF Mc g own) := by
  refine ⟨Mc, wf, z, hj, fun b h => viewF_none h, fun b u _ h hu => ?_⟩
  unfold viewF at h
  split at h
  · cases h
  · rename_i v hv
    split at h
    · injection h with h; exact absurd h.symm hu
    · rw [hv]; congr 1; exact z b v hv (by omega)
end
def takeF (own : Nat → Option Nat) (t : Nat) : Prop := t < Zt ∨ ∃ b, t = Zt + b ∧ own b ≠ none
def yPostF (own : Nat → Option Nat) (w : World) (Mc : Tags) (J1 Jx : World → Tags → Prop) (e : Ending) (w' : World) : Prop :=
  ∃ M', Wf w' M' ∧ ZOk M' ∧ Le (takeF own) (takeF own) w Mc w' M' ∧ ((e = .returned (.bool true) ∧ J1 w' M') ∨ (e = .returned (.bool false) ∧ Jx w' M'))
def MoreF (P : Program) (f : FuncId) (T : Nat) (capTys args : List Ty) (J0 J1 Jx : World → Tags → Prop) : Prop :=
  (∃ fn, P.funcs[f]? = some fn ∧ (fn.name == "runtime.NumGoroutine") = false ∧ fn.body.isNone = false) ∧
  ∀ (w : World) (Mc : Tags) (g : Nat) (own : Nat → Option Nat) (vs cs cs' : List Value), Wf w Mc → ZOk Mc → OwnF Mc (some g) own → dens w (viewF Mc (some g) own) args vs → dens w Mc capTys cs → dens w Mc capTys cs' → Mc g = some (Zt + g) →
    w.heap[g]? = some (.cells #[.func (.func f) #[] (cs' ++ [gp g]).toArray] T (0, 0)) → J0 w Mc →
    Calls P f (vs ++ (cs ++ [gp g])).toArray w (yPostF own w Mc J1 Jx)
def FndC (P : Program) (fv : Value) (encs : List (List Ty)) (J : Nat → World → Tags → Prop) (Jx : World → Tags → Prop) : Prop :=
  ∃ fid cs, fv = .func (.func fid) #[] cs ∧ (∃ fn, P.funcs[fid]? = some fn ∧ (fn.name == "runtime.NumGoroutine") = false ∧ fn.body.isNone = false) ∧
  ∀ (k : Nat) (tys : List Ty), encs[k]? = some tys → ∀ w Mc vs, Wf w Mc → ZOk Mc → J k w Mc → dens w Mc tys vs → Calls P fid (vs ++ cs.toList).toArray w (yPost w Mc (J (k + 1)) Jx)
def oldF (Mc : Tags) (g : Nat) (own : Nat → Option Nat) (b : Nat) : Prop := Mc b = some (Zt + b) ∧ b ≠ g ∧ own b = none
section
variable {P : Program}
theorem moreF_intro {f : FuncId} {fn : Func} {c : Code} {T : Nat} {capTys args : List Ty} {J0 J1 Jx : World → Tags → Prop} {n : Nat} (h0 : Cb J0) (hf : P.funcs[f]? = some fn) (hb : fn.body = some c) (hn : (fn.name == "runtime.NumGoroutine") = false) (hnt : fn.ntmps = n) (hl : (args ++ (capTys ++ [Ty.ptr 1000 0])).length ≤ n)
    (h3 : depsOf capTys = []) (h4 : cdepsOf capTys = [])
    (h : ∀ w Mc g own cs', Wf w Mc → ZOk Mc → OwnF Mc (some g) own → Mc g = some (Zt + g) → w.heap[g]? = some (.cells #[.func (.func f) #[] (cs' ++ [gp g]).toArray] T (0, 0)) →
      Tri P ⟨n, w, viewF Mc (some g) own, [7000, 5000, 1000], .marks⟩ c (entryG (args ++ (capTys ++ [Ty.ptr 1000 0])) [(7000, .ck h0), (1000, .cells T [.ex (.func (.func f) #[] (cs' ++ [gp g]).toArray)]), (1001, .me g T (.func (.func f) #[] (cs' ++ [gp g]).toArray) capTys cs' h3 h4), (5000, .snap w (oldF Mc g own))]) (bodyPostM Fence.wide 0 P fn (yPostF own w Mc J1 Jx))) : MoreF P f T capTys args J0 J1 Jx := by
  refine ⟨⟨fn, hf, hn, by rw [hb]; rfl⟩, fun w Mc g own vs cs cs' wf z ho hv hcs hcs' hg hh hj => callsIn_wide.1 (callsIn_of_wp_marks (n := 0) hf hb trivial (h w Mc g own cs' wf z ho hg hh _ _ ?_))⟩
  have hnn : ∀ b, Mc b = none → viewF Mc (some g) own b = none := fun b hb => viewF_none' hb
  have hg0 : viewF Mc (some g) own g = some 1000 := viewF_g hg
  have hall : dens w (viewF Mc (some g) own) (args ++ (capTys ++ [Ty.ptr 1000 0])) (vs ++ (cs ++ [gp g])) := dens_append hv (dens_append (conv_nodeps hnn h3 h4 hcs) ⟨⟨g, hg0, rfl⟩, trivial⟩)
  have hlen := dens_len hall
  refine ⟨viewF Mc (some g) own, ⟨viewF_wf wf ho, Le.refl _ _ _ _, by simp [hnt]; simp at hlen hl; omega, Defs.nil⟩, fun c hc => ?_, fun x hx => ?_⟩
  · simp only [entryG]
    cases ha : (args ++ (capTys ++ [Ty.ptr 1000 0]))[c]? with
    | none => trivial
    | some ty =>
      obtain ⟨v, hv, hdv⟩ := dens_get hall c ty ha
      have : ((vs ++ (cs ++ [gp g])).toArray ++ Array.replicate (fn.ntmps - (vs ++ (cs ++ [gp g])).toArray.size) undef).getD c undef = v := by
        have hlt : c < (vs ++ (cs ++ [gp g])).length := (List.getElem?_eq_some_iff.1 hv).1
        rw [Array.getD_eq_getD_getElem?, Array.getElem?_append_left (by simpa using hlt), List.getElem?_toArray, hv]; rfl
      rw [this]; exact hdv
  · simp only [entryG, List.mem_cons, List.not_mem_nil, or_false] at hx
    rcases hx with rfl | rfl | rfl | rfl
    · exact ⟨rfl, viewF_ck wf z hj⟩
    · exact ⟨g, _, hg0, hh, rfl, trivial⟩
    · exact ⟨hg0, hh, conv_nodeps hnn h3 h4 hcs'⟩
    · intro b ⟨hb1, hb2, hb3⟩
      exact ⟨viewF_old hb1 (by simpa using hb2) hb3, rfl⟩
section
variable {A : As} {fn : Func} {n : Nat} {J1 Jx : World → Tags → Prop}
theorem fret_le {w w' : World} {Mc M Mc' : Tags} {g T : Nat} {own : Nat → Option Nat} {v : Value} {tys : List Ty} {cs : List Value} {h3 : depsOf tys = []} {h4 : cdepsOf tys = []} (z : ZOk Mc) (wf : Wf w Mc) (hg : w.heap[g]? = some (.cells #[v] T (0, 0)))
    (hb : Le (fun t => 1 ≤ t) (fun t => 1 ≤ t ∧ t ∉ [7000, 5000, 1000]) w (viewF Mc (some g) own) w' M) (hm : (Cont.me g T v tys cs h3 h4).den w' M 1001) (ho : (Cont.snap w (oldF Mc g own)).den w' M 5000) (k1 : ∀ b, M b = none → Mc' b = none) (k2 : ∀ b u, b < w'.heap.size → M b = some u → u ≠ 7000 → Mc' b = some (Zt + b)) :
    Le (takeF own) (takeF own) w Mc w' Mc' := by
  refine ⟨hb.size, hb.os, hb.tape, hb.out, fun b hlt h => ?_, fun b t h ht => ?_⟩
  · obtain ⟨a, c⟩ := hb.pub b hlt (viewF_none' h)
    exact ⟨k1 b a, c⟩
  · have hz : ¬ t < Zt := fun e => ht (.inl e)
    have e := z b t h (by omega)
    subst e
    have hlt : b < w'.heap.size := Nat.lt_of_lt_of_le (wf.lt b _ h) hb.size
    have hno : own b = none := Classical.byContradiction fun e => ht (.inr ⟨b, rfl, e⟩)
    by_cases e : b = g
    · subst e
      exact ⟨k2 b 1000 hlt hm.1 (by decide), fun _ => hm.2.1.trans hg.symm⟩
    · obtain ⟨a, c⟩ := ho b ⟨h, e, hno⟩
      exact ⟨k2 b 5000 hlt a (by decide), fun _ => c⟩
variable [T : Tab P]
theorem results_cell1 {tm ty b : Nat} {ti : TI} {v : Value} {w : World} {tmps : Array Value} (hr : fn.results = #[.cell tm ty]) (hT : T.tab[ty]? = some ti) (ha : ti.k.agg = false) (e : tmps.getD tm undef = .pointer (some ⟨b, 0, none⟩)) (hc : w.cell? ⟨b, 0, none⟩ = some v) : (results fn tmps).run P w = .ok v w := by
  have hload : (loadVar ty ⟨b, 0, none⟩).run P w = .ok v w := by
    have := run_load1 (P := P) hT ha (w := w) (b := b) (off := 0) hc
    simpa [Instr.loadAt, Instr.sureAddr] using this
  have e'' : tmps[tm]?.getD undef = .pointer (some ⟨b, 0, none⟩) := by rw [← Array.getD_eq_getD_getElem?]; exact e
  simp [results, hr, e'', asAddr, hload]
theorem cell_at {tm tg Tb : Nat} {ty : Ty} {w : World} {M : Tags} {x : Value} (wf : Wf w M) (hx : (Ty.ptr tg 0).den w M x) (hc : (Cont.cells Tb [ty]).den w M tg) (h1 : Tag1 tg) : ∃ b v, x = .pointer (some ⟨b, 0, none⟩) ∧ w.cell? ⟨b, 0, none⟩ = some v ∧ ty.den w M v := by
  obtain ⟨b, hb, e⟩ := hx
  obtain ⟨b', ⟨cs⟩, hb', hh, hds⟩ := hc
  obtain ⟨u, rfl⟩ : ∃ u, tg = u + 1 := ⟨tg - 1, by have := h1.1; omega⟩
  have := wf.inj b b' u h1.2 hb hb'
  subst this
  match cs, hds with
  | [v], ⟨hv, _⟩ => exact ⟨b, v, e, by simp [World.cell?, hh], hv⟩
theorem i_retFy {tm ty tg Tb g Tg : Nat} {ti : TI} {w : World} {Mc : Tags} {own : Nat → Option Nat} {v : Value} {tys : List Ty} {cs : List Value} {t : Ty} {h3 : depsOf tys = []} {h4 : cdepsOf tys = []} {h1 : Cb J1} {hx : Cb Jx} (z : ZOk Mc) (wf : Wf w Mc) (hg : w.heap[g]? = some (.cells #[v] Tg (0, 0))) (hr : fn.results = #[.cell tm ty]) (htm : Nat.blt tm n = true) (hs : A.slots tm = .ptr tg 0) (hc : A.tag tg = some (.cells Tb [t])) (h1' : Tag1 tg) (hT : T.tab[ty]? = some ti) (ha : ti.k.agg = false) (hm : A.tag 1001 = some (.me g Tg v tys cs h3 h4)) (ho : A.tag 5000 = some (.snap w (oldF Mc g own))) (ht : t.Sub (.yb true h1 hx)) :
    Into ⟨n, w, viewF Mc (some g) own, [7000, 5000, 1000], .plain⟩ A (bodyPost P fn (yPostF own w Mc J1 Jx) .ret) := by
  intro a w' ⟨M, ok, hsl, htg⟩
  have hd := hsl tm (by simpa using htm)
  rw [hs] at hd
  obtain ⟨b, x, e, hcl, hdx⟩ := cell_at (tm := tm) ok.wf hd (htg _ (tag_mem hc)) h1'
  have hres := results_cell1 (P := P) (fn := fn) hr hT ha e hcl
  rcases ht _ _ _ hdx with ⟨ev, Mc', wf', z', hj, k1, k2⟩ | ⟨ev, Mc', wf', z', hj, k1, k2⟩
  · exact ⟨ok.nodefers (by simp), _, hres, Mc', wf', z', fret_le (h3 := h3) (h4 := h4) z wf hg ok.base (htg _ (tag_mem hm)) (htg _ (tag_mem ho)) k1 k2, .inl ⟨by rw [ev], hj⟩⟩
  · exact ⟨ok.nodefers (by simp), _, hres, Mc', wf', z', fret_le (h3 := h3) (h4 := h4) z wf hg ok.base (htg _ (tag_mem hm)) (htg _ (tag_mem ho)) k1 k2, .inr ⟨by rw [ev]; rfl, hj⟩⟩
theorem i_retFt {tm ty tg Tb g Tg : Nat} {ti : TI} {w : World} {Mc : Tags} {own : Nat → Option Nat} {v : Value} {tys : List Ty} {cs : List Value} {h3 : depsOf tys = []} {h4 : cdepsOf tys = []} {J : World → Tags → Prop} {hj : Cb J} (z : ZOk Mc) (wf : Wf w Mc) (e : J = J1) (hg : w.heap[g]? = some (.cells #[v] Tg (0, 0))) (hr : fn.results = #[.cell tm ty]) (htm : Nat.blt tm n = true) (hs : A.slots tm = .ptr tg 0) (hc : A.tag tg = some (.cells Tb [.bool true])) (h1' : Tag1 tg) (hT : T.tab[ty]? = some ti) (ha : ti.k.agg = false) (hm : A.tag 1001 = some (.me g Tg v tys cs h3 h4)) (ho : A.tag 5000 = some (.snap w (oldF Mc g own))) (hk : A.tag 7000 = some (.ck hj)) :
    Into ⟨n, w, viewF Mc (some g) own, [7000, 5000, 1000], .plain⟩ A (bodyPost P fn (yPostF own w Mc J1 Jx) .ret) := by
  subst e
  intro a w' ⟨M, ok, hsl, htg⟩
  have hd := hsl tm (by simpa using htm)
  rw [hs] at hd
  obtain ⟨b, x, e, hcl, hdx⟩ := cell_at (tm := tm) ok.wf hd (htg _ (tag_mem hc)) h1'
  have hres := results_cell1 (P := P) (fn := fn) hr hT ha e hcl
  have ev : x = .bool true := hdx
  obtain ⟨_, Mc', wf', z', hj, k1, k2⟩ := htg _ (tag_mem hk)
  exact ⟨ok.nodefers (by simp), _, hres, Mc', wf', z', fret_le (h3 := h3) (h4 := h4) z wf hg ok.base (htg _ (tag_mem hm)) (htg _ (tag_mem ho)) k1 k2, .inl ⟨by rw [ev], hj⟩⟩
theorem i_retFx {tm ty tg Tb g Tg : Nat} {ti : TI} {w : World} {Mc : Tags} {own : Nat → Option Nat} {v : Value} {tys : List Ty} {cs : List Value} {h3 : depsOf tys = []} {h4 : cdepsOf tys = []} {hx : Cb Jx} (z : ZOk Mc) (wf : Wf w Mc) (hg : w.heap[g]? = some (.cells #[v] Tg (0, 0))) (hr : fn.results = #[.cell tm ty]) (htm : Nat.blt tm n = true) (hs : A.slots tm = .ptr tg 0) (hc : A.tag tg = some (.cells Tb [.bool false])) (h1' : Tag1 tg) (hT : T.tab[ty]? = some ti) (ha : ti.k.agg = false) (hm : A.tag 1001 = some (.me g Tg v tys cs h3 h4)) (ho : A.tag 5000 = some (.snap w (oldF Mc g own))) (hk : A.tag 7000 = some (.ck hx)) :
    Into ⟨n, w, viewF Mc (some g) own, [7000, 5000, 1000], .plain⟩ A (bodyPost P fn (yPostF own w Mc J1 Jx) .ret) := by
  intro a w' ⟨M, ok, hsl, htg⟩
  have hd := hsl tm (by simpa using htm)
  rw [hs] at hd
  obtain ⟨b, x, e, hcl, hdx⟩ := cell_at (tm := tm) ok.wf hd (htg _ (tag_mem hc)) h1'
  have hres := results_cell1 (P := P) (fn := fn) hr hT ha e hcl
  have ev : x = .bool false := hdx
  obtain ⟨_, Mc', wf', z', hj, k1, k2⟩ := htg _ (tag_mem hk)
  exact ⟨ok.nodefers (by simp), _, hres, Mc', wf', z', fret_le (h3 := h3) (h4 := h4) z wf hg ok.base (htg _ (tag_mem hm)) (htg _ (tag_mem ho)) k1 k2, .inr ⟨by rw [ev], hj⟩⟩
end
variable {fr : Fr} {ops : Array Oper} {A : As} {rest : List Oper} {K : As → List (As × Fx) → Prop} {d : Nat} {t ty' : TypeId} {p : String} {e : Array Edge}
theorem r_callFnd {c k : Nat} {fv : Value} {encs : List (List Ty)} {J : Nat → World → Tags → Prop} {Jx : World → Tags → Prop} (hJ : ∀ k, Cb (J k)) (hJx : Cb Jx) (hF : FndC P fv encs J Jx) {xs : List Operand} {ats : Array TypeId} {tys : List Ty}
    (hc : A.op fr (.tmp c) = .ex fv) (hx : opsTy A fr xs = tys) (hd : depsOf tys = []) (hdc : cdepsOf tys = []) (hk : encs[k]? = some tys) (ht : A.tag 7000 = some (.ck (hJ k)))
    (h : TOps P fr ops rest (A.after { d := some d, ty := .yb true (hJ (k + 1)) hJx, S := [7000], rs := c :: xs.flatMap opR, rt := [7000] }) fun A' l' => K A' ((A, { d := some d, ty := .yb true (hJ (k + 1)) hJx, S := [7000], rs := c :: xs.flatMap opR, rt := [7000] }) :: l')) :
    TOps P fr ops (⟨some d, .call ⟨.value (.tmp c), xs.toArray, ats⟩, t, p, e, none⟩ :: rest) A K := by
  refine ⟨{ d := some d, ty := .yb true (hJ (k + 1)) hJx, S := [7000], rs := c :: xs.flatMap opR, rt := [7000] }, ⟨rfl, by simp, by simp, by simp, fun a w M wf hsz hrd htg => ?_⟩, h⟩
  rw [if_pos (by simp [Region.wanted])]
  have hcv := op_den (x := .tmp c) (rs := c :: xs.flatMap opR) (fun u hu => by exact (List.mem_singleton.1 hu) ▸ List.mem_cons_self) hrd
  rw [hc] at hcv
  obtain ⟨fid, cs, efv, ⟨fn, hf, hn, hb⟩, hcall⟩ := hF
  subst efv
  have hcv : a.eval (.tmp c) = .func (.func fid) #[] cs := hcv
  obtain ⟨_, Mc, wfc, z, hj, h1, h2⟩ := htg _ (tag_mem ht) (by simp)
  have hv : dens w Mc tys (xs.map a.eval) := conv_nodeps h1 hd hdc (hx ▸ opsTy_dens (rs := c :: xs.flatMap opR) hrd fun x hx c hc => List.mem_cons_of_mem _ (List.mem_flatMap.2 ⟨x, hx, hc⟩))
  have hn' : fn.name ≠ "runtime.NumGoroutine" := by simpa using hn
  have hb' : fn.body ≠ none := fun h => by rw [h] at hb; cases hb
  refine wp_in_enter (f := fid) (args := (xs.map a.eval ++ cs.toList).toArray) (by simp [execOp, resolve, hcv, Deferred.ofValue, invoke, callFunc, hf, hn', hb']) ((hcall k tys hk w Mc _ wfc z hj hv).mono fun en w' ⟨Mc', wf', z', le, hor⟩ => ?_)
  obtain ⟨g1, g2, g3, g4⟩ := backY_ok wf wf' h1 h2 le
  rcases hor with ⟨rfl, hj'⟩ | ⟨rfl, hj'⟩
  · exact ⟨.bool true, rfl, .bool true, rfl, _, g1, g2, .inl ⟨rfl, Mc', wf', z', hj', g3, g4⟩, by simp⟩
  · exact ⟨.bool false, rfl, .bool false, rfl, _, g1, g2, .inr ⟨rfl, Mc', wf', z', hj', g3, g4⟩, by simp⟩
def ownM (M : Tags) (ρ : List (Nat × Nat)) (b : Nat) : Option Nat := (M b).bind fun t => ρ.lookup t
def handOk (fr : Fr) (ρ : List (Nat × Nat)) (tg : Nat) : Bool := reOk ρ && ρ.all fun x => !fr.pass.contains x.1 && (!(x.1 == 7000) && (!(x.1 == tg) && (Nat.blt 1001 x.2 && Nat.blt x.2 1010)))
theorem handOk_spec {fr : Fr} {ρ : List (Nat × Nat)} {tg : Nat} (h : handOk fr ρ tg = true) : reOk ρ = true ∧ ∀ x ∈ ρ, x.1 ∉ fr.pass ∧ x.1 ≠ 7000 ∧ x.1 ≠ tg ∧ 1001 < x.2 ∧ x.2 < 1010 := by
  simp only [handOk, Bool.and_eq_true, List.all_eq_true, Bool.not_eq_true', Nat.blt_eq, beq_eq_false_iff_ne] at h
  refine ⟨h.1, fun x hx => ?_⟩
  obtain ⟨h1, h2, h3, h4, h5⟩ := h.2 x hx
  exact ⟨by simpa using h1, h2, h3, h4, h5⟩
def backF (w : World) (ρ : List (Nat × Nat)) (M Mc' : Tags) : Tags := fun b => if b < w.heap.size ∧ ownM M ρ b = none then M b else (Mc' b).map fun _ => 7000
theorem hand_view {w : World} {M Mc : Tags} {ρ : List (Nat × Nat)} {tg g : Nat} {fr : Fr} (hok : handOk fr ρ tg = true) (wf : Wf w M) (hg : M g = some tg) (h1 : ∀ b, M b = none → Mc b = none) (h2 : ∀ b u, b < w.heap.size → M b = some u → u ≠ 7000 → Mc b = some (Zt + b)) :
    OwnF Mc (some g) (ownM M ρ) ∧ Re ρ M (viewF Mc (some g) (ownM M ρ)) := by
  obtain ⟨hr, hq⟩ := handOk_spec hok
  have part : ∀ b t, ownM M ρ b = some t → ∃ u, M b = some u ∧ (u, t) ∈ ρ := fun b t h => by
    obtain ⟨u, hu, hl⟩ := Option.bind_eq_some_iff.1 h
    exact ⟨u, hu, lookup_mem' hl⟩
  have how : OwnF Mc (some g) (ownM M ρ) := by
    refine ⟨fun b t h => ?_, fun b b' t h h' => ?_⟩
    · obtain ⟨u, hu, hm⟩ := part b t h
      obtain ⟨_, e2, e3, e4, e5⟩ := hq _ hm
      refine ⟨h2 b u (wf.lt b u hu) hu e2, fun e => ?_, e4, e5⟩
      injection e with e
      subst e
      rw [hu] at hg; injection hg with hg; exact e3 hg
    · obtain ⟨u, hu, hm⟩ := part b t h
      obtain ⟨u', hu', hm'⟩ := part b' t h'
      have e : u = u' := ((reOk_spec hr _ hm).2.2 _ hm').2 rfl
      subst e
      obtain ⟨v, rfl⟩ : ∃ v, u = v + 1 := ⟨u - 1, by have := (reOk_spec hr _ hm).1; omega⟩
      exact wf.inj b b' v (by have := reOk_fam hr hm; have := (hq _ hm).2.2.2.2; omega) hu hu'
  refine ⟨how, ⟨fun b h => viewF_none' (h1 b h), fun x hx b h => viewF_own how ?_⟩⟩
  unfold ownM
  rw [h]; exact mem_lookup' hr hx
theorem backF_ok {w w' : World} {M Mc Mc' : Tags} {ρ : List (Nat × Nat)} (wf : Wf w M) (wf' : Wf w' Mc') (h1 : ∀ b, M b = none → Mc b = none) (h2 : ∀ b u, b < w.heap.size → M b = some u → u ≠ 7000 → Mc b = some (Zt + b)) (le : Le (takeF (ownM M ρ)) (takeF (ownM M ρ)) w Mc w' Mc') :
    Wf w' (backF w ρ M Mc') ∧ Le (· ∈ [7000]) (· ∈ ρ.map Prod.fst) w M w' (backF w ρ M Mc') ∧ (∀ b, backF w ρ M Mc' b = none → Mc' b = none) ∧ ∀ b u, b < w'.heap.size → backF w ρ M Mc' b = some u → u ≠ 7000 → Mc' b = some (Zt + b) := by
  have pubK : ∀ b, M b = none → ownM M ρ b = none := fun b h => by simp [ownM, h]
  have keep : ∀ b u, M b = some u → u ∉ ρ.map Prod.fst → ownM M ρ b = none := fun b u h hu => by
    unfold ownM
    rw [h]
    show ρ.lookup u = none
    cases hl : ρ.lookup u with
    | none => rfl
    | some c => exact absurd (List.mem_map.2 ⟨_, lookup_mem' hl, rfl⟩) hu
  have stay : ∀ b u, M b = some u → ownM M ρ b = none → u ≠ 7000 → Mc' b = some (Zt + b) ∧ w'.heap[b]? = w.heap[b]? := fun b u h ho hu => by
    have ht : ¬ takeF (ownM M ρ) (Zt + b) := by
      rintro (h | ⟨q, h, hq⟩)
      · omega
      · have : q = b := by omega
        subst this; exact hq ho
    obtain ⟨a, c⟩ := le.own b _ (h2 b u (wf.lt b u h) h hu) ht
    exact ⟨a, c ht⟩
  unfold backF
  refine ⟨⟨fun b u h => ?_, fun b b' u ht1 h h' => ?_, wf.amb.of fun b hb hm => ⟨by simp [hb, hm, pubK b hm], (le.pub b hb (h1 b hm)).2⟩⟩, ⟨le.size, le.os, le.tape, le.out, fun b hb hm => ⟨by simp [hb, hm, pubK b hm], (le.pub b hb (h1 b hm)).2⟩, fun b u hm hk => ⟨?_, fun hs => ?_⟩⟩, fun b h => ?_, fun b u _ h hu => ?_⟩
  · split at h
    · rename_i hc; exact Nat.lt_of_lt_of_le hc.1 le.size
    · obtain ⟨v, hv, _⟩ := Option.map_eq_some_iff.1 h
      exact wf'.lt b v hv
  · have part : ∀ b, (if b < w.heap.size ∧ ownM M ρ b = none then M b else (Mc' b).map fun _ => 7000) = some (u + 1) → M b = some (u + 1) := fun b h => by
      split at h
      · exact h
      · obtain ⟨v, _, hv⟩ := Option.map_eq_some_iff.1 h
        omega
    exact wf.inj b b' u ht1 (part b h) (part b' h')
  · rw [if_pos ⟨wf.lt b u hm, keep b u hm hk⟩]; exact hm
  · have hu : u ≠ 7000 := fun e => hs (by simp [e])
    exact (stay b u hm (keep b u hm hk) hu).2
  · split at h
    · rename_i hc; exact (le.pub b hc.1 (h1 b h)).1
    · simpa using h
  · split at h
    · rename_i hc; exact (stay b u h hc.2 hu).1
    · obtain ⟨v, _, hv⟩ := Option.map_eq_some_iff.1 h
      exact absurd hv.symm hu
theorem run_callFuncF {f : FuncId} {T : Nat} {capTys args : List Ty} {J0 J1 Jx : World → Tags → Prop} (hF : MoreF P f T capTys args J0 J1 Jx) (vs : Array Value) (w : World) : (callFunc f vs).run P w = .ok (.enter f vs) w := by
  obtain ⟨⟨fn, hf, hn, hb⟩, _⟩ := hF
  have hn' : fn.name ≠ "runtime.NumGoroutine" := by simpa using hn
  have hb' : fn.body ≠ none := fun h => by rw [h] at hb; cases hb
  simp [callFunc, hf, hn', hb']
theorem r_callF (ρ : List (Nat × Nat)) {c f T g : Nat} {capTys args ss : List Ty} {cs' : List Value} {J0 J1 Jx : World → Tags → Prop} (h0 : Cb J0) (h1 : Cb J1) (hx : Cb Jx) (hM : MoreF P f T capTys args J0 J1 Jx) {h3 : depsOf capTys = []} {h4 : cdepsOf capTys = []} {xs : List Operand} {ats : Array TypeId}
    (hc : A.op fr (.tmp c) = .ex (.func (.func f) #[] (cs' ++ [gp g]).toArray)) (hxs : opsTy A fr xs = ss) (hl : Convs ρ ss args) (hok : handOk fr ρ 1000 = true)
    (hme : A.tag 1001 = some (.me g T (.func (.func f) #[] (cs' ++ [gp g]).toArray) capTys cs' h3 h4)) (hck : A.tag 7000 = some (.ck h0))
    (h : TOps P fr ops rest (A.after { d := some d, ty := .yb true h1 hx, S := [7000], K := ρ.map Prod.fst, rs := c :: xs.flatMap opR, rt := [7000, 1001] }) fun A' l' => K A' ((A, { d := some d, ty := .yb true h1 hx, S := [7000], K := ρ.map Prod.fst, rs := c :: xs.flatMap opR, rt := [7000, 1001] }) :: l')) :
    TOps P fr ops (⟨some d, .call ⟨.value (.tmp c), xs.toArray, ats⟩, t, p, e, none⟩ :: rest) A K := by
  obtain ⟨hro, hq⟩ := handOk_spec hok
  refine ⟨{ d := some d, ty := .yb true h1 hx, S := [7000], K := ρ.map Prod.fst, rs := c :: xs.flatMap opR, rt := [7000, 1001] }, ⟨rfl, by simp, by simp, fun u hu => by
    obtain ⟨x, hx, rfl⟩ := List.mem_map.1 hu
    exact ⟨(reOk_spec hro x hx).1, (hq x hx).1⟩, fun a w M wf hsz hrd htg => ?_⟩, h⟩
  rw [if_pos (by simp [Region.wanted])]
  have hcv := op_den (x := .tmp c) (rs := c :: xs.flatMap opR) (fun u hu => by exact (List.mem_singleton.1 hu) ▸ List.mem_cons_self) hrd
  rw [hc] at hcv
  have hcv : a.eval (.tmp c) = .func (.func f) #[] (cs' ++ [gp g]).toArray := hcv
  obtain ⟨e1, e2, e3⟩ := htg _ (tag_mem hme) (by simp)
  obtain ⟨_, Mc, wfc, z, hj, k1, k2⟩ := htg _ (tag_mem hck) (by simp)
  have hg : g < w.heap.size := (Array.getElem?_eq_some_iff.1 e2).1
  obtain ⟨how, hre⟩ := hand_view hok wf e1 k1 k2
  have hv : dens w (viewF Mc (some g) (ownM M ρ)) args (xs.map a.eval) := convs_dens wf (viewF_wf wfc how) hre hl (hxs ▸ opsTy_dens (rs := c :: xs.flatMap opR) hrd fun x hx c hc => List.mem_cons_of_mem _ (List.mem_flatMap.2 ⟨x, hx, hc⟩))
  have hcs : dens w Mc capTys cs' := conv_nodeps k1 h3 h4 e3
  have hcall := hM.2 w Mc g (ownM M ρ) _ cs' cs' wfc z how hv hcs hcs (k2 g 1000 hg e1 (by decide)) e2 hj
  refine wp_in_enter (f := f) (args := (xs.map a.eval ++ (cs' ++ [gp g])).toArray) (by simp [execOp, resolve, hcv, Deferred.ofValue, invoke, run_callFuncF hM]) (hcall.mono fun en w' ⟨Mc', wf', z', le, hor⟩ => ?_)
  obtain ⟨g1, g2, g3, g4⟩ := backF_ok wf wf' k1 k2 le
  rcases hor with ⟨rfl, hj'⟩ | ⟨rfl, hj'⟩
  · exact ⟨.bool true, rfl, .bool true, rfl, _, g1, g2, .inl ⟨rfl, Mc', wf', z', hj', g3, g4⟩, by simp⟩
  · exact ⟨.bool false, rfl, .bool false, rfl, _, g1, g2, .inr ⟨rfl, Mc', wf', z', hj', g3, g4⟩, by simp⟩
theorem r_callF0 (ρ : List (Nat × Nat)) {dst : Option Nat} {c f T tg : Nat} {capTys args ss : List Ty} {J0 J1 Jx : World → Tags → Prop} (h0 : Cb J0) (h1 : Cb J1) (hx : Cb Jx) (hM : MoreF P f T capTys args J0 J1 Jx) (h3 : depsOf capTys = []) (h4 : cdepsOf capTys = []) {xs : List Operand} {ats : Array TypeId}
    (hc : A.op fr (.tmp c) = .clo f (capTys ++ [.ptr tg 0])) (hxs : opsTy A fr xs = ss) (hl : Convs ρ ss args) (hok : handOk fr ρ tg = true)
    (hcell : A.tag tg = some (.cells T [.clo f (capTys ++ [.ptr tg 0])])) (htg1 : Tag1 tg) (hck : A.tag 7000 = some (.ck h0))
    (h : TOps P fr ops rest (A.after { d := dst, ty := Ty.any, S := [7000], K := ρ.map Prod.fst, sets := [(7000, Cont.ce h1 hx)], rs := c :: xs.flatMap opR, rt := [7000, tg] }) fun A' l' => K A' ((A, { d := dst, ty := Ty.any, S := [7000], K := ρ.map Prod.fst, sets := [(7000, Cont.ce h1 hx)], rs := c :: xs.flatMap opR, rt := [7000, tg] }) :: l')) :
    TOps P fr ops (⟨dst, .call ⟨.value (.tmp c), xs.toArray, ats⟩, t, p, e, none⟩ :: rest) A K := by
  obtain ⟨hro, hq⟩ := handOk_spec hok
  refine ⟨_, ⟨rfl, by simp, by simp, fun u hu => by
    obtain ⟨x, hx, rfl⟩ := List.mem_map.1 hu
    exact ⟨(reOk_spec hro x hx).1, (hq x hx).1⟩, fun a w M wf hsz hrd htg => ?_⟩, h⟩
  rw [if_pos (by simp [Region.wanted])]
  have hcv := op_den (x := .tmp c) (rs := c :: xs.flatMap opR) (fun u hu => by exact (List.mem_singleton.1 hu) ▸ List.mem_cons_self) hrd
  rw [hc] at hcv
  obtain ⟨⟨cl⟩, ev, hcl⟩ := hcv
  have split : ∀ (l : List Value), dens w M (capTys ++ [.ptr tg 0]) l → ∃ cs b, l = cs ++ [gp b] ∧ dens w M capTys cs ∧ M b = some tg := fun l hl => by
    have hlen := dens_len hl
    rw [List.length_append, List.length_singleton] at hlen
    have g1 := dens_take capTys.length hl
    have g2 := dens_drop capTys.length hl
    rw [List.take_left] at g1
    rw [List.drop_left] at g2
    have e1 : (l.drop capTys.length).length = 1 := by rw [List.length_drop]; omega
    obtain ⟨v, hv⟩ := List.length_eq_one_iff.1 e1
    rw [hv] at g2
    obtain ⟨⟨b, hb, ev⟩, _⟩ := g2
    exact ⟨_, b, by subst ev; have h9 := List.take_append_drop capTys.length l; rw [hv] at h9; exact h9.symm, g1, hb⟩
  obtain ⟨cs, g, rfl, hcs, hg⟩ := split _ hcl
  obtain ⟨b', ⟨cells⟩, hb', hh, hdd⟩ := htg _ (tag_mem hcell) (by simp)
  obtain ⟨u, rfl⟩ : ∃ u, tg = u + 1 := ⟨tg - 1, by have := htg1.1; omega⟩
  have hbg : g = b' := wf.inj g b' u htg1.2 hg hb'
  subst hbg
  obtain ⟨v', rfl⟩ : ∃ v', cells = [v'] := by
    have hlen := dens_len hdd
    exact List.length_eq_one_iff.1 (by simpa using hlen)
  obtain ⟨⟨⟨cl'⟩, ev', hcl'⟩, _⟩ := hdd
  obtain ⟨cs', g', rfl, hcs', hg'⟩ := split _ hcl'
  have hgg : g' = g := wf.inj g' g u htg1.2 hg' hg
  subst hgg
  subst ev'
  obtain ⟨_, Mc, wfc, z, hj, k1, k2⟩ := htg _ (tag_mem hck) (by simp)
  have hgs : g' < w.heap.size := (Array.getElem?_eq_some_iff.1 hh).1
  have hcv : a.eval (.tmp c) = .func (.func f) #[] (cs ++ [gp g']).toArray := ev
  obtain ⟨how, hre⟩ := hand_view hok wf hg k1 k2
  have hv : dens w (viewF Mc (some g') (ownM M ρ)) args (xs.map a.eval) := convs_dens wf (viewF_wf wfc how) hre hl (hxs ▸ opsTy_dens (rs := c :: xs.flatMap opR) hrd fun x hx c hc => List.mem_cons_of_mem _ (List.mem_flatMap.2 ⟨x, hx, hc⟩))
  have hcall := hM.2 w Mc g' (ownM M ρ) _ cs cs' wfc z how hv (conv_nodeps k1 h3 h4 hcs) (conv_nodeps k1 h3 h4 hcs') (k2 g' _ hgs hg (by have := htg1.2; omega)) hh hj
  refine wp_in_enter (f := f) (args := (xs.map a.eval ++ (cs ++ [gp g'])).toArray) (by simp [execOp, resolve, hcv, Deferred.ofValue, invoke, run_callFuncF hM]) (hcall.mono fun en w' ⟨Mc', wf', z', le, hor⟩ => ?_)
  obtain ⟨g1, g2, g3, g4⟩ := backF_ok wf wf' k1 k2 le
  rcases hor with ⟨rfl, hj'⟩ | ⟨rfl, hj'⟩
  · exact ⟨.bool true, rfl, .bool true, rfl, _, g1, g2, trivial, fun x hx => by rw [List.mem_singleton.1 hx]; exact ⟨rfl, .inl ⟨Mc', wf', z', hj', g3, g4⟩⟩⟩
  · exact ⟨.bool false, rfl, .bool false, rfl, _, g1, g2, trivial, fun x hx => by rw [List.mem_singleton.1 hx]; exact ⟨rfl, .inr ⟨Mc', wf', z', hj', g3, g4⟩⟩⟩
end
end Go.T

namespace Go.T
open Go Go.RowKit
def CtrFd (P : Program) (f : FuncId) (args : Value → List Ty) (encs : List (List Ty)) : Prop :=
  (∃ fn, P.funcs[f]? = some fn ∧ (fn.name == "runtime.NumGoroutine") = false ∧ fn.body.isNone = false) ∧
  ∀ fv J Jx, (∀ k, Cb (J k)) → Cb Jx → FndC P fv encs J Jx → ∀ w M us, Wf w M → ZOk M → dens w M (args fv) us → J 0 w M → Calls P f us.toArray w (izPost w M encs.length J Jx)
theorem CtrG.ex {P : Program} {f : FuncId} {F : List Nat} {pre post : List (Nat × Cont)} {args : List Ty} {res : Ty} (h : CtrG P f F pre args post res) : ∃ fn, P.funcs[f]? = some fn ∧ (fn.name == "runtime.NumGoroutine") = false ∧ fn.body.isNone = false := h.1
section
variable {P : Program}
theorem fnFd_intro {f : FuncId} {fn : Func} {c : Code} {args : Value → List Ty} {encs : List (List Ty)} {n : Nat} (hf : P.funcs[f]? = some fn) (hb : fn.body = some c) (hn : (fn.name == "runtime.NumGoroutine") = false) (hnt : fn.ntmps = n) (hl : ∀ v, (args v).length ≤ n) (hdd : ∀ v, depsOf (args v) = [] ∧ cdepsOf (args v) = [])
    (h : ∀ fv J Jx (hJ : ∀ k, Cb (J k)) (hJx : Cb Jx), FndC P fv encs J Jx → ∀ w0 Mc, Wf w0 Mc → ZOk Mc → Tri P ⟨n, w0, startM Mc none, [7000, 5000], .plain⟩ c (entryG (args fv) [(7000, .ck (hJ 0)), (5000, .snap w0 (oldZ Mc))]) (bodyPost P fn (izPost w0 Mc encs.length J Jx))) : CtrFd P f args encs := by
  refine ⟨⟨fn, hf, hn, by rw [hb]; rfl⟩, fun fv J Jx hJ hJx hF w Mc vs wf z hd hj => calls_of_wp hf hb (wpIn_wide.1 (h fv J Jx hJ hJx hF w Mc wf z _ _ ?_))⟩
  have hall : dens w (startM Mc none) (args fv) vs := conv_nodeps (fun b hb => startM_none' hb) (hdd fv).1 (hdd fv).2 hd
  have hlen := dens_len hall
  have hl := hl fv
  refine ⟨startM Mc none, ⟨startM_wf wf, Le.refl _ _ _ _, by simp [hnt, hlen]; omega, Defs.nil⟩, fun c hc => ?_, fun x hx => ?_⟩
  · simp only [entryG]
    cases ha : (args fv)[c]? with
    | none => trivial
    | some ty =>
      obtain ⟨v, hv, hdv⟩ := dens_get hall c ty ha
      have : (vs.toArray ++ Array.replicate (fn.ntmps - vs.toArray.size) undef).getD c undef = v := by
        have hlt : c < vs.length := (List.getElem?_eq_some_iff.1 hv).1
        rw [Array.getD_eq_getD_getElem?, Array.getElem?_append_left (by simpa using hlt)]
        simp [hv]
      rw [this]; exact hdv
  · simp only [entryG, List.mem_cons, List.not_mem_nil, or_false] at hx
    rcases hx with rfl | rfl
    · exact ⟨rfl, startM_ck wf z hj⟩
    · intro b hb
      refine ⟨?_, rfl⟩
      have : ¬ Zt + b < Zt := by omega
      have hb : Mc b = some (Zt + b) := hb
      simp [startM, hb, this]
theorem i_retFd {A : As} {fn : Func} {n m k : Nat} {w0 : World} {Mc : Tags} {J : Nat → World → Tags → Prop} {Jx : World → Tags → Prop} {hJ : ∀ k, Cb (J k)} {h1 : Cb (J k)} {hx : Cb Jx} (z : ZOk Mc) (wf : Wf w0 Mc) (e : k = m) (hr : fn.results = #[]) (ht : A.tag 7000 = some (.ce h1 hx)) (ho : A.tag 5000 = some (.snap w0 (oldZ Mc))) : Into ⟨n, w0, startM Mc none, [7000, 5000], .plain⟩ A (bodyPost P fn (izPost w0 Mc m J Jx) .normal) := by
  subst e
  intro a w' ⟨M, ok, hsl, htg⟩
  obtain ⟨_, h | h⟩ := htg _ (tag_mem ht)
  · obtain ⟨Mc', wf', z', hj, k1, k2⟩ := h
    exact ⟨ok.nodefers (by simp), _, results_none hr _ _ _, _, Mc', rfl, wf', z', zret_le z wf ok.base (htg _ (tag_mem ho)) k1 k2, .inl hj⟩
  · obtain ⟨Mc', wf', z', hj, k1, k2⟩ := h
    exact ⟨ok.nodefers (by simp), _, results_none hr _ _ _, _, Mc', rfl, wf', z', zret_le z wf ok.base (htg _ (tag_mem ho)) k1 k2, .inr hj⟩
def JF (p : Prop) (S K : List Nat) (w1 : World) (M1 : Tags) (tgs : List (Nat × Cont)) (w : World) (M : Tags) : Prop :=
  p ∧ Le (· ∈ S) (· ∈ K) w1 M1 w M ∧ ∀ x ∈ tgs, x.2.den w M x.1
theorem JF_cb {p : Prop} {S K : List Nat} {w1 : World} {M1 : Tags} {tgs : List (Nat × Cont)} (hM : ∀ b u, M1 b = some u → u < Zt) (ht : tagsOk tgs = true) : Cb (JF p S K w1 M1 tgs) := by
  intro w M w' M' wf' le ⟨hp, h1, h2⟩
  refine ⟨hp, ⟨Nat.le_trans h1.size le.size, le.os.trans h1.os, le.tape.trans h1.tape, le.out.trans h1.out, fun b hb hm => ?_, fun b t hm hk => ?_⟩, fun x hx => ?_⟩
  · obtain ⟨a, c⟩ := h1.pub b hb hm
    obtain ⟨a', c'⟩ := le.pub b (Nat.lt_of_lt_of_le hb h1.size) a
    exact ⟨a', c'.trans c⟩
  · have := hM b t hm
    obtain ⟨a, c⟩ := h1.own b t hm hk
    obtain ⟨a', c'⟩ := le.own b t a (by omega)
    exact ⟨a', fun hs => (c' (by omega)).trans (c hs)⟩
  · obtain ⟨⟨_, e2⟩, e3, e4⟩ := tagsOk_spec ht x hx
    exact x.2.mono le (fun t ht hz => by have := (e3 t ht).2; omega) (fun t ht hz => by have := (e4 t ht).2; omega) (by omega) (by omega) (h2 x hx)
theorem fnd_of {fid : FuncId} {encs : List (List Ty)} {caps : List Ty} {cs : Array Value} {S K mv F : List Nat} {w1 : World} {M1 : Tags} {px : Prop} {ok : Nat → Prop} {tgs : Nat → List (Nat × Cont)} {tgx : List (Nat × Cont)} {ρ : List (Nat × Nat)} {pre post : Nat → List (Nat × Cont)} {argsF : Nat → List Ty} {go : Nat → Bool}
    (hex : ∃ fn, P.funcs[fid]? = some fn ∧ (fn.name == "runtime.NumGoroutine") = false ∧ fn.body.isNone = false)
    (hG : ∀ k, ok k → k < encs.length → CtrG P fid F (pre k) (argsF k) (post k) (Ty.bool (go k)))
    (hcs : dens w1 M1 caps cs.toList) (hdk : disj (depsOf caps) K = true) (hds : disj (cdepsOf caps) S = true)
    (hr : reOk ρ = true) (hmv : ∀ x ∈ ρ, x.1 ∈ mv ∨ x.2 ∈ F) (hmr : ∀ t ∈ mv, ∃ g, (t, g) ∈ ρ) (hS : ∀ t ∈ ρ.map Prod.fst, t ∈ S ∧ t < Zt) (hK : ∀ t ∈ mv, t ∈ K ∧ t < Zt)
    (hpub : ∀ tys ∈ encs, depsOf tys = [] ∧ cdepsOf tys = [])
    (harg : ∀ k tys, encs[k]? = some tys → Convs ρ (tys ++ caps) (argsF k))
    (hpre : ∀ k, PreCs ⟨anyT, tgs k⟩ ρ (pre k))
    (hpost1 : ∀ k, ok k → go k = true → PostCs (post k) ρ (tgs (k + 1))) (hpostx : ∀ k, ok k → go k = false → PostCs (post k) ρ tgx)
    (hok1 : ∀ k, ok k → k < encs.length → go k = true → ok (k + 1)) (hokx : ∀ k, ok k → k < encs.length → go k = false → px) :
    FndC P (.func (.func fid) #[] cs) encs (fun k => JF (ok k) S K w1 M1 (tgs k)) (JF px S K w1 M1 tgx) := by
  refine ⟨fid, cs, rfl, hex, fun k tys hk w Mc vs wf z ⟨hok, hle, htg⟩ hv => ?_⟩
  have hkl : k < encs.length := (List.getElem?_eq_some_iff.1 hk).1
  have hcs' : dens w Mc caps cs.toList := dens_mono hle (fun t ht hk => disj_spec hdk t ht hk) (fun t ht hs => disj_spec hds t ht hs) hcs
  have wfg := giveG_wf hr wf
  have hre := giveG_re hr (M := Mc)
  have hc := (hG k hok hkl).2 w _ (vs ++ cs.toList) wfg (convs_dens wf wfg hre (harg k tys hk) (dens_append hv hcs')) (pre_get (A := ⟨anyT, tgs k⟩) wf wfg hre (fun x hx _ => htg x hx) (hpre k))
  refine hc.mono fun en w' ⟨r, M', he, wf', le, hden, hp⟩ => ?_
  obtain ⟨h1, h2, h3⟩ := callG_left (mv := mv) hr hmv hmr wf wf' le
  have hz : ZOk (backG w ρ mv Mc M') := fun b u h hu => by
    unfold backG at h
    split at h
    · exact z b u h hu
    · obtain ⟨q, _, hl⟩ := Option.bind_eq_some_iff.1 h
      have hm := lookup_mem' hl
      obtain ⟨x, hx, e⟩ := List.mem_map.1 hm
      injection e with e1 e2
      have := (hS x.1 (List.mem_map.2 ⟨x, hx, rfl⟩)).2
      omega
  have hleN : Le (· ∈ S) (· ∈ K) w1 M1 w' (backG w ρ mv Mc M') := (hle.trans h2).weaken (fun t ht => ht.elim id fun h => (hS t h).1) (fun t ht => ht.elim id fun h => (hK t h).1)
  have hleZ : Le (fun t => t < Zt) (fun t => t < Zt) w Mc w' (backG w ρ mv Mc M') := h2.weaken (fun t ht => (hS t ht).2) (fun t ht => (hK t ht).2)
  have er : r = .bool (go k) := hden
  cases hgo : go k with
  | true => exact ⟨_, h1, hz, hleZ, .inl ⟨by rw [he, er, hgo], hok1 k hok hkl hgo, hleN, fun x hx => (post_get wf' h1 h3 hp (hpost1 k hok hgo) x hx).2⟩⟩
  | false => exact ⟨_, h1, hz, hleZ, .inr ⟨by rw [he, er, hgo], hokx k hok hkl hgo, hleN, fun x hx => (post_get wf' h1 h3 hp (hpostx k hok hgo) x hx).2⟩⟩
variable {fr : Fr} {ops : Array Oper} {A : As} {rest : List Oper} {K' : As → List (As × Fx) → Prop} {d : Nat} {t ty' : TypeId} {p : String} {e : Array Edge}
theorem opT_callFd {dst : Option Nat} {f fid : FuncId} {args : Value → List Ty} {encs : List (List Ty)} {xs : List Operand} {ats : Array TypeId} {ss caps : List Ty} {S K mv F : List Nat} {px : Prop} {ok : Nat → Prop} {tgs : Nat → List (Nat × Cont)} {tgx sets : List (Nat × Cont)} {ρ : List (Nat × Nat)} {pre post : Nat → List (Nat × Cont)} {argsF : Nat → List Ty} {go : Nat → Bool}
    (hF : CtrFd P f args encs) (hx : opsTy A fr xs = ss) (hfv : ∀ w M vs, dens w M ss vs → ∃ cs : Array Value, dens w M caps cs.toList ∧ dens w M (args (.func (.func fid) #[] cs)) vs) (hdd : ∀ v, depsOf (args v) = [] ∧ cdepsOf (args v) = [])
    (hex : ∃ fn, P.funcs[fid]? = some fn ∧ (fn.name == "runtime.NumGoroutine") = false ∧ fn.body.isNone = false)
    (hG : ∀ k, ok k → k < encs.length → CtrG P fid F (pre k) (argsF k) (post k) (Ty.bool (go k)))
    (hdk : disj (depsOf caps) K = true) (hds : disj (cdepsOf caps) S = true) (hcz : inZ (depsOf caps) = true)
    (hr : reOk ρ = true) (hmv : ∀ x ∈ ρ, x.1 ∈ mv ∨ x.2 ∈ F) (hmr : ∀ t ∈ mv, ∃ g, (t, g) ∈ ρ) (hS : ∀ t ∈ ρ.map Prod.fst, t ∈ S ∧ t < Zt) (hK : ∀ t ∈ mv, t ∈ K ∧ t < Zt)
    (hpub : ∀ tys ∈ encs, depsOf tys = [] ∧ cdepsOf tys = [])
    (harg : ∀ k tys, encs[k]? = some tys → Convs ρ (tys ++ caps) (argsF k))
    (hpre : ∀ k, PreCs ⟨anyT, tgs k⟩ ρ (pre k))
    (hpost1 : ∀ k, ok k → go k = true → PostCs (post k) ρ (tgs (k + 1))) (hpostx : ∀ k, ok k → go k = false → PostCs (post k) ρ tgx)
    (hok0 : ok 0) (hok1 : ∀ k, ok k → k < encs.length → go k = true → ok (k + 1)) (hokx : ∀ k, ok k → k < encs.length → go k = false → px)
    (htk : ∀ k, tagsOk (tgs k) = true) (htx : tagsOk tgx = true) (hc0 : allTags A (tgs 0)) (hS1 : ∀ t ∈ S, 1 ≤ t) (hK1 : ∀ t ∈ K, 1 ≤ t ∧ t ∉ fr.pass)
    (hout : ∀ x ∈ sets, x.1 ∈ S ∨ x.1 ∈ K) (hts : tagsOk sets = true) (hend : ok encs.length → ∀ w M, (∀ x ∈ tgs encs.length, x.2.den w M x.1) → ∀ x ∈ sets, x.2.den w M x.1) (hendx : px → ∀ w M, (∀ x ∈ tgx, x.2.den w M x.1) → ∀ x ∈ sets, x.2.den w M x.1) :
    OpT P fr ops ⟨dst, .call ⟨.value (.func f), xs.toArray, ats⟩, t, p, e, none⟩ A { d := dst, ty := Ty.any, S := S, K := K, sets := sets, rs := xs.flatMap opR, rt := A.tags.map Prod.fst } := by
  refine ⟨rfl, hout, hS1, hK1, fun a w M wf hsz hrd htg => ?_⟩
  rw [if_pos (by simp [Region.wanted])]
  have hvs : dens w M ss (xs.map a.eval) := hx ▸ opsTy_dens (rs := xs.flatMap opR) hrd fun x hx c hc => List.mem_flatMap.2 ⟨x, hx, hc⟩
  obtain ⟨cs, hcs, hav⟩ := hfv w M _ hvs
  have wfz := foldZ_wf wf
  have hzz : ZOk (foldZ M) := fun b u h hu => by have := foldZ_u h; omega
  have hle : Le (fun t => Zt ≤ t) (fun t => Zt ≤ t) w M w (foldZ M) := ⟨Nat.le_refl _, rfl, rfl, rfl, fun b _ hm => ⟨foldZ_none hm, rfl⟩, fun b u hm hk => ⟨foldZ_lt hm (Nat.lt_of_not_le hk), fun _ => rfl⟩⟩
  have hlt : ∀ b u, foldZ M b = some u → u < Zt := fun b u h => foldZ_u h
  have hcs' : dens w (foldZ M) caps cs.toList := dens_mono (S := fun _ => False) (K := fun t => Zt ≤ t) ⟨Nat.le_refl _, rfl, rfl, rfl, hle.pub, fun b u hm hk => ⟨(hle.own b u hm hk).1, fun _ => rfl⟩⟩ (fun t ht hz => by have := (inZ_spec hcz t ht).2; omega) (fun _ _ h => h) hcs
  have htg0 : ∀ x ∈ tgs 0, x.2.den w (foldZ M) x.1 := fun x hx => by
    obtain ⟨C, hC, hsub⟩ := allTags_get hc0 x hx
    have hm := tag_mem hC
    obtain ⟨⟨_, e2⟩, e3, e4⟩ := tagsOk_spec (htk 0) x hx
    refine x.2.mono (S := fun _ => False) (K := fun t => Zt ≤ t) ⟨Nat.le_refl _, rfl, rfl, rfl, hle.pub, fun b u hm hk => ⟨(hle.own b u hm hk).1, fun _ => rfl⟩⟩ (fun t ht hz => by have := (e3 t ht).2; omega) (fun _ _ h => h) (fun h => h) (by omega) (hsub _ _ _ (htg _ hm (List.mem_map.2 ⟨_, hm, rfl⟩)))
  have hfnd := fnd_of (P := P) (px := px) (ok := ok) (w1 := w) (M1 := foldZ M) hex hG hcs' hdk hds hr hmv hmr hS hK hpub harg hpre hpost1 hpostx hok1 hokx
  have hcall := hF.2 _ _ _ (fun k => JF_cb hlt (htk k)) (JF_cb hlt htx) hfnd w (foldZ M) _ wfz hzz (conv_nodeps (fun b h => foldZ_none h) (hdd _).1 (hdd _).2 hav) ⟨hok0, Le.refl _ _ _ _, htg0⟩
  have hrun : (execOp a.eval ⟨dst, .call ⟨.value (.func f), xs.toArray, ats⟩, t, p, e, none⟩).run P w = .ok (.enter f (xs.map a.eval).toArray) w := by
    obtain ⟨⟨fn, hf, hn, hb⟩, _⟩ := hF
    have hn' : fn.name ≠ "runtime.NumGoroutine" := by simpa using hn
    have hb' : fn.body ≠ none := fun h => by rw [h] at hb; cases hb
    simp [execOp, resolve, Act.eval, Deferred.ofValue, invoke, callFunc, hf, hn', hb']
  refine wp_in_enter hrun (hcall.mono fun en w' ⟨r, M', he, wf', z', leZ, hor⟩ => ?_)
  -- what holds in either case
  have key : Le (· ∈ S) (· ∈ K) w (foldZ M) w' M' ∧ ∀ x ∈ sets, x.2.den w' M' x.1 := by
    rcases hor with ⟨h1, h2, h3⟩ | ⟨h1, h2, h3⟩
    · exact ⟨h2, hend h1 _ _ h3⟩
    · exact ⟨h2, hendx h1 _ _ h3⟩
  obtain ⟨kl, ks⟩ := key
  have kept : ∀ b u, M b = some u → Zt ≤ u → backZ w M M' b = some u := fun b u h hu => by unfold backZ; rw [h]; simp [wf.lt b u h, hu]
  have other : ∀ b, (∀ u, M b = some u → u < Zt) → backZ w M M' b = foldZ M' b := fun b h => by
    unfold backZ
    cases hm : M b with
    | none => rfl
    | some u => have := h u hm; simp only; rw [if_neg (by omega)]
  have high : ∀ b u, M b = some u → Zt ≤ u → M' b = some 0 ∧ w'.heap[b]? = w.heap[b]? := fun b u h hu => by
    obtain ⟨a1, c1⟩ := kl.own b 0 (foldZ_ge h hu) (fun h => by have := (hK1 0 h).1; omega)
    exact ⟨a1, c1 (fun h => by have := hS1 0 h; omega)⟩
  have wf2 : Wf w' (backZ w M M') := by
    refine ⟨fun b u h => ?_, fun b b' u ht1 h h' => ?_, wf.amb.of fun b hb hm => ?_⟩
    · unfold backZ at h
      split at h
      · split at h
        · rename_i hc; exact Nat.lt_of_lt_of_le hc.1 kl.size
        · exact (foldZ_wf wf').lt b u h
      · exact (foldZ_wf wf').lt b u h
    · have part : ∀ b, backZ w M M' b = some (u + 1) → foldZ M' b = some (u + 1) := fun b h => by
        unfold backZ at h
        split at h
        · split at h
          · injection h with h
            rename_i v hc hcc
            subst h
            exact absurd hcc.2 (by have : Zt = 1000000 := rfl; omega)
          · exact h
        · exact h
      exact (foldZ_wf wf').inj b b' u ht1 (part b h) (part b' h')
    · obtain ⟨a1, c1⟩ := kl.pub b hb (foldZ_none hm)
      exact ⟨by rw [other b (fun u hu => by rw [hm] at hu; cases hu)]; exact foldZ_none a1, c1⟩
  have le2 : Le (· ∈ S) (· ∈ K) w M w' (backZ w M M') := by
    refine ⟨kl.size, kl.os, kl.tape, kl.out, fun b hb hm => ?_, fun b u hm hk => ?_⟩
    · obtain ⟨a1, c1⟩ := kl.pub b hb (foldZ_none hm)
      exact ⟨by rw [other b (fun u hu => by rw [hm] at hu; cases hu)]; exact foldZ_none a1, c1⟩
    · rcases Nat.lt_or_ge u Zt with hu | hu
      · obtain ⟨a1, c1⟩ := kl.own b u (foldZ_lt hm hu) hk
        exact ⟨by rw [other b (fun v hv => by rw [hm] at hv; injection hv with hv; omega)]; exact foldZ_lt a1 hu, c1⟩
      · exact ⟨kept b u hm hu, fun _ => (high b u hm hu).2⟩
  refine ⟨r, he, r, rfl, _, wf2, le2, trivial, fun x hx => ?_⟩
  obtain ⟨⟨e1, e2⟩, e3, e4⟩ := tagsOk_spec hts x hx
  refine x.2.mono (w := w') (M := M') (S := fun _ => False) (K := fun u => Zt ≤ u ∨ u = 0) ⟨Nat.le_refl _, rfl, rfl, rfl, fun b hb hm => ⟨?_, rfl⟩, fun b u hm hk => ⟨?_, fun _ => rfl⟩⟩ (fun u hu hz => by have := e3 u hu; omega) (fun _ _ h => h) (fun h => h) (by omega) (ks x hx)
  · rcases hmb : M b with _ | v
    · rw [other b (fun u hu => by rw [hmb] at hu; cases hu)]; exact foldZ_none hm
    · rcases Nat.lt_or_ge v Zt with hv | hv
      · rw [other b (fun u hu => by rw [hmb] at hu; injection hu with hu; omega)]; exact foldZ_none hm
      · have := (high b v hmb hv).1; rw [this] at hm; cases hm
  · have hu : u < Zt := Nat.lt_of_not_le fun h => hk (.inl h)
    rcases hmb : M b with _ | v
    · rw [other b (fun u hu => by rw [hmb] at hu; cases hu)]; exact foldZ_lt hm hu
    · rcases Nat.lt_or_ge v Zt with hv | hv
      · rw [other b (fun u hu => by rw [hmb] at hu; injection hu with hu; omega)]; exact foldZ_lt hm hu
      · have := (high b v hmb hv).1
        rw [this] at hm
        injection hm with hm
        exact absurd (.inr hm.symm) hk
theorem r_op {o : Oper} {f : Fx} (h' : OpT P fr ops o A f) (h : TOps P fr ops rest (A.after f) fun A' l' => K' A' ((A, f) :: l')) : TOps P fr ops (o :: rest) A K' := ⟨f, h', h⟩
end
end Go.T

namespace Go.T
open Go Go.RowKit
section
variable {P : Program} {fr : Fr} {ops : Array Oper} {A : As} {rest : List Oper} {K : As → List (As × Fx) → Prop} {d : Nat} {t ty' : TypeId} {p : String} {e : Array Edge} {x y : Operand} {ti te ts : TI} {el tg : Nat} [T : Tab P]
theorem r_convRS {src : TypeId} {a : Byt} (hx : A.op fr x = .row UB el tg a) (hS : T.tab[src]? = some ts) (hks : ts.k = .slice el) (hT : T.tab[ty']? = some ti) (hk : ti.k = .string) (hu : P.underlying el = some (.int .u8))
    (h : TOps P fr ops rest (A.set d (.str (bs a))) fun A' l' => K A' ((A, { d := some d, ty := .str (bs a), rs := opR x }) :: l')) : TOps P fr ops (⟨some d, .convert src ty' x, t, p, e, none⟩ :: rest) A K :=
  tops_pure (opT_pure rfl rfl fun ac w M wf hr _ => by
    have hdx := op_den (x := x) (fun _ h => h) hr
    rw [hx] at hdx
    obtain ⟨_, D, _, hD, hkd, _⟩ := tab_info hS
    rw [hks] at hkd
    cases D <;> simp only [TK.of, reduceCtorEq, TK.slice.injEq] at hkd
    subst hkd
    obtain ⟨cs, hown, hd, hM⟩ := hdx
    rcases hown.2 with ⟨ex, h0⟩ | ⟨g, cap, cur, ex, _, hh, hn, hm, hsz, htk⟩
    · have ha : a = [] := List.length_eq_zero_iff.1 h0
      subst ha
      refine ⟨.string (bs []), ?_, rfl⟩
      simp only [execOp, ex, Sem.run_bind, run_convert_bytes_string w src ty' _ none 0 0 hD hu (tab_string hT hk)]
      rfl
    · have hrun := run_convert_bytes_back (P := P) w src ty' _ ⟨g, 0, none⟩ cap a hD hu (tab_string hT hk) (fun j hj => by
        rw [Addr.add_lit]
        have hj2 : j < a.length := hj
        obtain ⟨u, hu, hdu⟩ := dens_get hd (j * 1 + 0) _ (flat_elem UB a hj2 0 (Ty.int .u8 ((nth a j).toNat : Int)) rfl)
        have hu2 : u = .int .u8 ((nth a j).toNat : Int) := hdu
        subst hu2
        rw [← htk, List.getElem?_take] at hu
        split at hu
        · rw [Nat.mul_one, Nat.add_zero] at hu
          rw [nth_lt hj2] at hu
          simpa [World.cell?, hh] using hu
        · cases hu)
      exact ⟨.string (bs a), by simp only [execOp, ex, Sem.run_bind, hrun]; rfl, rfl⟩) h
theorem r_loadFact {D off Tb : Nat} {l tys : List Ty} {vs : List Value} {v : Value} {ty : Ty} {h1 : depsOf tys = []} {h2 : cdepsOf tys = []} (tg : Nat) (hx : A.op fr x = .ptr D off) (hc : A.tag D = some (.cells Tb l)) (hD : Tag1 D) (hT : T.tab[ty']? = some ti) (ha : ti.k.agg = false) (hl : l[off]? = some (.ex v)) (hv : A.tag tg = some (Cont.fact tys vs h1 h2)) (hvs : vs[off]? = some v) (hty : tys[off]? = some ty)
    (h : TOps P fr ops rest (A.set d ty) fun A' l => K A' ((A, { d := some d, ty := ty, rs := opR x, rt := [D, tg] }) :: l)) : TOps P fr ops (⟨some d, .load ty' x, t, p, e, none⟩ :: rest) A K :=
  tops_pure (opT_pure rfl rfl fun a w M wf hr ht => by
    have := op_den (x := x) (fun _ h => h) hr
    rw [hx] at this
    obtain ⟨b, hb, e⟩ := this
    obtain ⟨u, hu, hd⟩ := own_cell wf hD hb (ht _ (tag_mem hc) (by simp)) hl
    have hd : u = v := hd
    subst hd
    have hf : dens w M tys vs := ht _ (tag_mem hv) (by simp)
    obtain ⟨u2, hu2, hd2⟩ := dens_get hf off ty hty
    rw [hvs] at hu2
    injection hu2 with hu2
    subst hu2
    exact ⟨u, by simp [execOp, e, run_load1 hT ha hu], hd2⟩) h
theorem r_loadFactN {D Tb : Nat} {tys : List Ty} {vs : List Value} {h1 : depsOf tys = []} {h2 : cdepsOf tys = []} (tg : Nat) (hx : A.op fr x = .ptr D 0) (hc : A.tag D = some (.cells Tb (vs.map Ty.ex))) (hD : Tag1 D) (hT : T.tab[ty']? = some ti) (ha : ti.k.agg = true) (hl : vs.length = ti.size) (hv : A.tag tg = some (Cont.fact tys vs h1 h2))
    (h : TOps P fr ops rest (A.set d (.agg tys)) fun A' l => K A' ((A, { d := some d, ty := .agg tys, rs := opR x, rt := [D, tg] }) :: l)) : TOps P fr ops (⟨some d, .load ty' x, t, p, e, none⟩ :: rest) A K :=
  tops_pure (opT_pure rfl rfl fun a w M wf hr ht => by
    have := op_den (x := x) (fun _ h => h) hr
    rw [hx] at this
    obtain ⟨b, hb, e⟩ := this
    obtain ⟨b', cs, hb', hh, hd⟩ := ht _ (tag_mem hc) (by simp)
    obtain ⟨u, rfl⟩ : ∃ u, D = u + 1 := ⟨D - 1, by have := hD.1; omega⟩
    have := wf.inj b b' u hD.2 hb hb'
    subst this
    have hcs := dens_ex_eq hd
    have hf : dens w M tys vs := ht _ (tag_mem hv) (by simp)
    have hload := run_loadN (P := P) hT ha (w := w) (b := b) (off := 0) (cs := vs) hl fun j v hj => by
      rw [← hcs] at hj
      simpa [World.cell?, hh] using hj
    exact ⟨.agg vs.toArray, by simp [execOp, e, hload], _, rfl, by simpa using hf⟩) h
omit T in
theorem r_box_own1 {ty : Ty} (hx : A.op fr x = ty) (h1 : ty.one = true) (hp : fr.pass.contains (d + 1) = false) (hdp : disj ty.deps [d + 1] = true)
    (h : TOps P fr ops rest (A.after { d := some d, ty := .ptr (d + 1) 0, K := [d + 1], sets := [(d + 1, .cells ty' [ty])], rs := opR x }) fun A' l' => K A' ((A, { d := some d, ty := .ptr (d + 1) 0, K := [d + 1], sets := [(d + 1, .cells ty' [ty])], rs := opR x }) :: l')) :
    TOps P fr ops (⟨some d, .box ty' x, t, p, e, none⟩ :: rest) A K := by
  refine ⟨_, opT_mem rfl rfl (by simp) (by simp) (by simp at hp ⊢; exact hp) fun a w M wf hr _ => ?_, h⟩
  have hd := op_den (x := x) (fun _ h => h) hr
  rw [hx] at hd
  have hone := ty.isOne h1 hd
  have hcells : (a.eval x).cells = #[a.eval x] := by
    cases hv : a.eval x <;> first | rfl | (rw [hv] at hone; simp [Value.oneCell'] at hone)
  obtain ⟨h1, h2, h3⟩ := le_alloc wf (.cells #[a.eval x] ty') (d + 1)
  refine ⟨.pointer (some ⟨w.heap.size, 0, none⟩), w.alloc (.cells #[a.eval x] ty'), ?_, _, h1, h2, ⟨_, h3, rfl⟩, ?_⟩
  · simp [execOp, Instr.box, newVar, newRow, newObj, Sem.run, hcells]
  · intro x hx
    simp only [List.mem_singleton] at hx
    subst hx
    exact ⟨w.heap.size, #[a.eval _], h3, alloc_new _ _, ty.mono h2 (disj_spec hdp) (by intro _ _ h; cases h) hd, trivial⟩
end
section
variable {P : Program} {fr : Fr} {A : As} {Q : Exit → Act → World → Prop} {c : Code}
theorem t_factTo (tg' : Nat) {tg : Nat} {tys tys' : List Ty} {vs : List Value} {h1 : depsOf tys = []} {h2 : cdepsOf tys = []} (h3 : depsOf tys' = []) (h4 : cdepsOf tys' = []) (hf : A.tag tg = some (Cont.fact tys vs h1 h2)) (hs : ∀ w M, dens w M tys vs → dens w M tys' vs)
    (h : Tri P fr c ⟨A.slots, (tg', Cont.fact tys' vs h3 h4) :: A.tags⟩ Q) : Tri P fr c A Q := by
  intro a w ⟨M, ok, hsl, htg⟩
  refine h a w ⟨M, ok, hsl, fun x hx => ?_⟩
  rcases List.mem_cons.1 hx with rfl | hx
  · have : dens w M tys vs := htg _ (tag_mem hf)
    exact hs _ _ this
  · exact htg x hx
end
end Go.T

namespace Go.Proofs.YtjjndkenddigiaaGreatDoor
open Go Go.T
set_option maxHeartbeats 2000000
def finC (text : Byt) (fv : Value) : List Ty := [Ty.pp [Ty.str (bs text), Ty.ex fv]]
structure FIx (f : BForm) (text : Byt) (L0 : List (Byt × Rdr)) where
  s : Byt
  p : Rdr
  ok : RdrOk f p
  le : s.length ≤ text.length
  same : filS f p s (text.drop s.length) = L0
theorem cv_rdr {ρ : List (Nat × Nat)} {f : BForm} {p : Rdr} {a b : Nat} (h : (a, b) ∈ ρ) : Conv ρ (Ty.agg (rdrT f p a)) (Ty.agg (rdrT f p b)) :=
  cv_agg (cv_cons (cv_cons (cv_cons (cv_cons (cv_cons (cv_cons (cv_cons (cv_cons (cv_cons (cv_cons (cv_cons (cv_cons cv_nil (cv_pub rfl rfl)) (cv_row h)) (cv_pub rfl rfl)) (cv_pub rfl rfl)) (cv_pub rfl rfl)) (cv_pub rfl rfl)) (cv_pub rfl rfl)) (cv_pub rfl rfl)) (cv_pub rfl rfl)) (cv_pub rfl rfl)) (cv_pub rfl rfl)) (cv_pub rfl rfl))
theorem cc_rdrP {ρ : List (Nat × Nat)} {a b T : Nat} {f : BForm} {p : Rdr} {l : List Ty} (h : (a, b) ∈ ρ) (e : l = rdrPl f p) : ConvC ρ a (.cells T l) b (.cells T (rdrPl f p)) := by
  subst e
  exact cc_cells_eq h rfl rfl rfl
theorem fi_end {f : BForm} {text : Byt} {L0 : List (Byt × Rdr)} (x : FIx f text L0) (h : ¬ (x.s.length : Int) < (text.length : Int)) : L0 = if wholeR x.p = true then [(x.s, x.p)] else [] := by
  have e : text.drop x.s.length = [] := List.drop_of_length_le (by omega)
  have := x.same
  rw [e, fil_nil] at this
  exact this.symm
theorem fi_stop {f : BForm} {text : Byt} {L0 : List (Byt × Rdr)} (x : FIx f text L0) (h : x.s.length < text.length) (h2 : ¬ ((nth text x.s.length).toNat : Int) = 63) (h3 : ¬ nth text x.s.length ∈ canR f x.p) : L0 = [] := by
  rw [← x.same, drop_cons' h]
  exact fil_stop (fun e => h2 (by rw [e]; rfl)) h3
def FIx.next {f : BForm} {text : Byt} {L0 : List (Byt × Rdr)} (x : FIx f text L0) (h : x.s.length < text.length) (h2 : ¬ ((nth text x.s.length).toNat : Int) = 63) (h3 : nth text x.s.length ∈ canR f x.p) : FIx f text L0 :=
  ⟨x.s ++ [nth text x.s.length], nextR f x.p (nth text x.s.length), next_ok x.ok h3, by simp; omega, by
    have h0 := x.same
    rw [drop_cons' h, fil_step (fun e => h2 (by rw [e]; rfl)) h3] at h0
    simpa using h0⟩
theorem fi_torn {f : BForm} {text : Byt} {L0 : List (Byt × Rdr)} (x : FIx f text L0) (h : x.s.length < text.length) (h2 : ((nth text x.s.length).toNat : Int) = 63) : filS f x.p x.s (63 :: text.drop (x.s.length + 1)) = L0 := by
  have e : nth text x.s.length = 63 := UInt8.toNat_inj.1 (by show _ = 63; omega)
  have h0 := x.same
  rw [drop_cons' h, e] at h0
  exact h0
theorem fi_sub {f : BForm} {text : Byt} {L0 AL : List (Byt × Rdr)} {m0 : Nat} (x : FIx f text L0) (h : x.s.length < text.length) (h2 : ((nth text x.s.length).toNat : Int) = 63) (hp : L0 <+: AL.drop m0) {k : Nat} (hk : k < (canR f x.p).length) :
    filS f (nextR f x.p (nth (canR f x.p) k)) (x.s ++ [nth (canR f x.p) k]) (text.drop (x.s ++ [nth (canR f x.p) k]).length) <+: AL.drop (m0 + (upF f x.p x.s (text.drop (x.s.length + 1)) k).length) := by
  have h1 := up_pre (f := f) (p := x.p) (s := x.s) (t := text.drop (x.s.length + 1)) hk
  rw [fi_torn x h h2] at h1
  have := pre_drop (List.IsPrefix.trans h1 hp)
  simpa using this
theorem fi_up {f : BForm} {text : Byt} {L0 : List (Byt × Rdr)} {m0 : Nat} (x : FIx f text L0) {k : Nat} (hk : k < (canR f x.p).length) :
    m0 + (upF f x.p x.s (text.drop (x.s.length + 1)) k).length + (filS f (nextR f x.p (nth (canR f x.p) k)) (x.s ++ [nth (canR f x.p) k]) (text.drop (x.s ++ [nth (canR f x.p) k]).length)).length = m0 + (upF f x.p x.s (text.drop (x.s.length + 1)) (k + 1)).length := by
  rw [up_succ hk, List.length_append]; simp; omega
theorem plain_UB : ∀ x : UInt8, ∀ t ∈ UB.tys x, t.Plain := fun x t ht => by
  rw [show t = Ty.int .u8 (x.toNat : Int) from List.mem_singleton.1 ht]; exact plain_int _ _
attribute [local irreducible] figC canR numF digF' pushN letB lineB figR nextR stepQ sumL wholeR filS upF fillR
attribute [local irreducible] dInt dBool dSl dPp dPtr dAgg dTup dClo dAny dEx dStr dGd dCells dVec dVs dRow dOp nth Tri Into TOps Ctr bodyPost Exit.then Exit.inBlock Code.wp Code.wpIn dPa dArr dMp dMap CtrG keepPost iterPost bodyPostM roundQ
set_option maxRecDepth 100000 in
theorem k_Clone_rows (l : List BRow) (h : l.length ≤ 1000) : CtrG Tryz.prog 129 [] [] [Ty.sl BRowE l] [] (Ty.row BRowE 66 6 l) := by
  refine fnG_intro Tryz.func129 rfl (by decide) Tryz.ntmps129 (by exact Nat.le_of_ble_eq_true rfl) fun w0 M0 => ?_
  refine t_seq ?_
  refine t_region ?_
  refine asX rfl ?_
  refine r_nil ?_
  refine i_then ?_
  refine t_seq ?_
  refine t_seq ?_
  refine t_region ?_
  refine mvS rfl ?_
  refine r_eqnil und25 rfl ?_
  refine r_nil ?_
  refine i_then ?_
  refine t_cond_nb rfl (fun hc1 => ?_) (fun hc1 => ?_)
  ·
    refine t_seq ?_
    refine t_region ?_
    refine asX rfl ?_
    refine r_nil ?_
    refine i_then ?_
    refine t_ret ?_
    refine i_then_ret ?_
    refine g_ret1 [6] rfl rfl (by decide) (by repeat (exact rc_nil)) ?_
    all_goals skip
    all_goals (obtain rfl : l = [] := hc1; exact rg_cv cv_nilrow)
  ·
    refine t_skip ?_
    refine i_then ?_
    refine t_seq ?_
    refine t_region ?_
    refine r_buildRow (E := BRowE) rfl rfl rfl rfl ?_
    refine mvS rfl ?_
    refine r_append rfl rfl (by decide) rfl rfl rfl rfl rfl rfl (by decide) (by (simp <;> omega)) (by (simp <;> omega)) ?_
    refine asR rfl ?_
    refine r_nil ?_
    refine i_then ?_
    refine t_ret ?_
    refine g_ret1 [6] rfl rfl (by decide) (by repeat (exact rc_nil)) ?_
    all_goals skip
    all_goals exact rg_cv (cv_row (by decide))
set_option maxRecDepth 100000 in
theorem k_Clone_u8 (l : Byt) (h : l.length ≤ 65536) : CtrG Tryz.prog 130 [] [] [Ty.sl UB l] [] (Ty.row UB 5 6 l) := by
  refine fnG_intro Tryz.func130 rfl (by decide) Tryz.ntmps130 (by exact Nat.le_of_ble_eq_true rfl) fun w0 M0 => ?_
  refine t_seq ?_
  refine t_region ?_
  refine asX rfl ?_
  refine r_nil ?_
  refine i_then ?_
  refine t_seq ?_
  refine t_seq ?_
  refine t_region ?_
  refine mvS rfl ?_
  refine r_eqnil und81 rfl ?_
  refine r_nil ?_
  refine i_then ?_
  refine t_cond_nb rfl (fun hc1 => ?_) (fun hc1 => ?_)
  ·
    refine t_seq ?_
    refine t_region ?_
    refine asX rfl ?_
    refine r_nil ?_
    refine i_then ?_
    refine t_ret ?_
    refine i_then_ret ?_
    refine g_ret1 [6] rfl rfl (by decide) (by repeat (exact rc_nil)) ?_
    all_goals skip
    all_goals (obtain rfl : l = [] := hc1; exact rg_cv cv_nilrow)
  ·
    refine t_skip ?_
    refine i_then ?_
    refine t_seq ?_
    refine t_region ?_
    refine r_buildRow (E := UB) rfl rfl rfl rfl ?_
    refine mvS rfl ?_
    refine r_append rfl rfl (by decide) rfl rfl rfl rfl rfl rfl (by decide) (by (simp <;> omega)) (by (simp <;> omega)) ?_
    refine asR rfl ?_
    refine r_nil ?_
    refine i_then ?_
    refine t_ret ?_
    refine g_ret1 [6] rfl rfl (by decide) (by repeat (exact rc_nil)) ?_
    all_goals skip
    all_goals exact rg_cv (cv_row (by decide))
set_option maxRecDepth 100000 in
theorem k_canP (f : BForm) (p : Rdr) : CtrG Tryz.prog 128 [1000] [(1000, Cont.cells 177 (rdrPl f p))] [Ty.ptr 1000 0] [(1000, Cont.cells 177 (rdrPl f p))] (Ty.clo 151 [Ty.pp [Ty.ptr 1000 0]]) := by
  refine fnG_intro Tryz.func128 rfl (by decide) Tryz.ntmps128 (by exact Nat.le_of_ble_eq_true rfl) fun w0 M0 => ?_
  refine t_seq ?_
  refine t_region ?_
  refine r_box_one (ty := Ty.ptr 1000 0) rfl rfl ?_
  refine asX rfl ?_
  refine r_nil ?_
  refine i_then ?_
  refine t_seq ?_
  refine t_region ?_
  refine r_makeFunc rfl ?_
  refine asF rfl ?_
  refine r_nil ?_
  refine i_then ?_
  refine t_ret ?_
  refine g_ret1 [1000] rfl rfl (by decide) ?_ ?_
  exact rc_cons rfl (cc_rdrP (by decide) rfl) rc_nil
  all_goals skip
  all_goals exact rg_cv (cv_clo (cv_cons cv_nil (cv_pp (cv_cons cv_nil (cv_ptr (by decide))))))
set_option maxRecDepth 100000 in
theorem c_wholeP (f : BForm) (p : Rdr) : Ctr Tryz.prog 121 [Ty.pp (rdrPl f p)] (Ty.bool (wholeR p)) := by
  refine fn_intro Tryz.func121 rfl (by decide) Tryz.ntmps121 (by exact Nat.le_of_ble_eq_true rfl) fun w0 M0 => ?_
  refine t_seq ?_
  refine t_region ?_
  refine asB rfl ?_
  refine r_nil ?_
  refine i_then ?_
  refine t_seq ?_
  refine t_region ?_
  refine mvP rfl ?_
  refine r_nilCheck_pp rfl ?_
  refine r_field_pp rfl rfl rfl rfl rfl (by decide) ?_
  refine r_field_pp rfl rfl rfl rfl rfl (by decide) ?_
  refine r_load_pp rfl rfl rfl rfl ?_
  refine mvB rfl ?_
  apply r_guard (s := 8) rfl rfl rfl
  · intro hg; apply opT_of; (refine mvP rfl ?_); refine r_nil ?_; exact rfl
  · exact rfl
  · exact rfl
  apply r_guard (s := 8) rfl rfl rfl
  · intro hg; apply opT_strip (s := 9) rfl (by (rw [hg]; rfl)); apply opT_of; (refine r_nilCheck_pp rfl ?_); refine r_nil ?_; exact rfl
  · exact rfl
  · exact rfl
  apply r_guard (s := 8) rfl rfl rfl
  · intro hg; apply opT_strip (s := 10) rfl (by (rw [hg]; rfl)); apply opT_of; (refine r_field_pp rfl rfl rfl rfl rfl (by decide) ?_); refine r_nil ?_; exact rfl
  · exact rfl
  · exact rfl
  apply r_guard (s := 8) rfl rfl rfl
  · intro hg; apply opT_strip (s := 11) rfl (by (rw [hg]; rfl)); apply opT_of; (refine r_load_pp rfl rfl rfl rfl ?_); refine r_nil ?_; exact rfl
  · exact rfl
  · exact rfl
  apply r_guard (s := 8) rfl rfl rfl
  · intro hg; apply opT_strip (s := 12) rfl (by (rw [hg]; rfl)); apply opT_of; (refine r_eqlS rfl rfl ?_); refine r_nil ?_; exact rfl
  · exact rfl
  · exact rfl
  refine r_and rfl rfl ?_
  refine asB rfl ?_
  refine r_nil ?_
  refine i_then ?_
  refine t_ret ?_
  refine i_rp1 rfl rfl ?_
  all_goals skip
  all_goals exact ret_eq rfl rfl (congrArg Ty.bool (whole_eq p))
set_option maxRecDepth 100000 in
theorem c_fillS (f : BForm) (text : Byt) (hl : text.length ≤ 65536) (AL : List (Byt × Rdr)) (fv : Value) (J : Nat → World → Tags → Prop) (Jx : World → Tags → Prop) (hJ : ∀ k, Cb (J k)) (hJx : Cb Jx) (hF : FndC Tryz.prog fv (AL.map (encF f)) J Jx) (s : Byt) (p : Rdr) (m0 : Nat) (ho : RdrOk f p) (hs : s.length ≤ text.length) (hp : filS f p s (text.drop s.length) <+: AL.drop m0) (ih : ∀ (s' : Byt) (p' : Rdr) (k' : Nat), text.length - s'.length < text.length - s.length → s'.length ≤ text.length → RdrOk f p' → filS f p' s' (text.drop s'.length) <+: AL.drop k' → MoreF Tryz.prog 127 173 (finC text fv) [Ty.row UB 5 1002 s', Ty.agg (rdrT f p' 1003)] (J k') (J (k' + (filS f p' s' (text.drop s'.length)).length)) Jx) : MoreF Tryz.prog 127 173 (finC text fv) [Ty.row UB 5 1002 s, Ty.agg (rdrT f p 1003)] (J (m0)) (J (m0 + (filS f p s (text.drop s.length)).length)) Jx := by
  refine moreF_intro (hJ (m0)) Tryz.func127 rfl (by decide) Tryz.ntmps127 (by exact Nat.le_of_ble_eq_true rfl) rfl rfl fun w0 Mc g own cs0 wf0 z0 how0 hg0 hh0 => ?_
  refine t_seq ?_
  refine t_region ?_
  refine r_box_own1 (ty := Ty.row UB 5 1002 s) rfl rfl rfl rfl ?_
  refine r_box_own rfl rfl rfl ?_
  refine r_alloc rfl (by exact List.cons_ne_nil _ _) rfl ?_
  refine r_nil ?_
  refine i_then ?_
  refine t_seq ?_
  refine t_seq ?_
  refine t_region ?_
  refine r_load_ptr rfl rfl (by decide) rfl rfl rfl ?_
  refine r_len_row rfl rfl rfl ?_
  refine asI rfl ?_
  refine r_nil ?_
  refine i_then ?_
  refine t_block ?_
  refine t_loop (fun (x : {x : FIx f text (filS f p s (text.drop s.length)) // s.length ≤ x.s.length}) => live [(2, Ty.pp [Ty.str (bs text), Ty.ex fv]), (3, Ty.ptr 1000 0), (4, Ty.ptr 5 0), (5, Ty.ptr 6 0), (6, Ty.ptr 7 0), (7, Ty.int .i64 (x.1.s.length : Nat))] [(5, Cont.cells 81 [Ty.row UB 5 1002 x.1.s]), (6, Cont.cells 177 (rdrT f x.1.p 1003)), (7, Cont.cells 4 [Ty.bool false]), (7000, Cont.ck (hJ m0)), (1000, Cont.cells 173 [Ty.ex (.func (.func 127) #[] (cs0 ++ [gp g]).toArray)]), (1001, Cont.me g 173 (.func (.func 127) #[] (cs0 ++ [gp g]).toArray) (finC text fv) cs0 rfl rfl), (5000, Cont.snap w0 (oldF Mc g own))]) (fun x => text.length - x.1.s.length) (⟨⟨s, p, ho, hs, rfl⟩, Nat.le_refl _⟩) ?_ fun x => ?_
  · (refine Ent.mk' ?_ ?_ <;> (repeat' (first | exact allSub_zero | exact allTags_nil | refine allSub_succ' ?_ (Ty.sub_any _) | refine allSub_succ' ?_ (Ty.sub_refl _) | refine allTags_cons rfl (Cont.sub_refl _) ?_)))
    all_goals trace_state
  ·
    have hxl := x.1.le
    have hxs := x.2
    have hlp := x.1.ok.len
    refine t_seq ?_
    refine t_seq ?_
    refine t_region ?_
    refine mvI rfl ?_
    refine r_field_pp rfl rfl rfl rfl rfl (by decide) ?_
    refine r_load_pp rfl rfl rfl rfl ?_
    refine r_lenS rfl rfl rfl ?_
    refine r_bin rfl rfl rfl ?_
    refine r_nil ?_
    refine i_then ?_
    refine t_cond_dec rfl (fun hc1 => ?_) (fun hc1 => ?_)
    ·
      refine t_skip ?_
      refine i_then ?_
      refine t_seq ?_
      refine t_block ?_
      refine t_seq ?_
      have hlt : x.1.s.length < text.length := by omega
      refine t_region ?_
      refine r_field_pp rfl rfl rfl rfl rfl (by decide) ?_
      refine r_load_pp rfl rfl rfl rfl ?_
      refine mvI rfl ?_
      refine r_idxS (i := x.1.s.length) rfl rfl rfl rfl hlt ?_
      refine asI rfl ?_
      refine r_nil ?_
      refine i_then ?_
      refine t_seq ?_
      refine t_seq ?_
      refine t_region ?_
      refine mvI rfl ?_
      refine r_bin rfl rfl rfl ?_
      refine r_nil ?_
      refine i_then ?_
      refine t_cond_ndec rfl (fun hc2 => ?_) (fun hc2 => ?_)
      ·
        refine t_seq ?_
        refine t_seq ?_
        refine t_region ?_
        refine mvI rfl ?_
        refine r_callG [(6, 1000), (1003, 1001)] [1003] [(6, Cont.cells 177 (rdrT f (stepQ f x.1.p (nth text x.1.s.length)) 1003))] (k_step f _ x.1.ok (nth text x.1.s.length)) rfl rfl (by repeat (first | exact cv_nil | refine cv_cons ?_ ?_ | exact cv_ptr List.mem_cons_self | exact cv_pub rfl rfl)) (pre_cons (a := 6) (b := 1000) (by exact List.mem_cons_self) rfl (cc_rdr (by exact List.mem_cons_self) (List.mem_cons_of_mem _ List.mem_cons_self) rfl) pre_nil) (post_cons (a := 6) (b := 1000) (by exact List.mem_cons_self) rfl (cc_rdr (by exact List.mem_cons_self) (List.mem_cons_of_mem _ List.mem_cons_self) rfl) post_nil) (cv_pub rfl rfl) ?_
        refine r_not rfl ?_
        refine r_nil ?_
        refine i_then ?_
        refine t_cond_ndec rfl (fun hc3 => ?_) (fun hc3 => ?_)
        ·
          refine t_seq ?_
          refine t_region ?_
          refine r_store1 rfl rfl (by decide) rfl rfl (by exact (rfl : _ = Ty.bool _)) rfl (by exact Nat.le_of_ble_eq_true rfl) rfl rfl (by exact (rfl : _ = [_])) ?_
          refine r_nil ?_
          refine i_then ?_
          refine t_ret ?_
          refine i_then_ret ?_
          refine i_then_ret ?_
          refine i_block_ret ?_
          refine i_then_ret ?_
          refine i_then_ret ?_
          refine i_block_ret ?_
          refine i_then_ret ?_
          refine m_ret rfl ?_
          exact i_retFt (hj := hJ _) z0 wf0 (congrArg J (by rw [fi_stop x.1 hlt hc2 hc3]; rfl)) hh0 rfl rfl rfl rfl (by decide) rfl rfl rfl rfl rfl
        ·
          refine t_skip ?_
          refine i_then ?_
          refine t_seq ?_
          refine t_asC (tg := 6) (D := Cont.cells 177 (rdrT f (nextR f x.1.p (nth text x.1.s.length)) 1003)) rfl (by rw [stepQ_yes hc3]; exact Cont.sub_refl _) ?_
          refine t_region ?_
          refine r_load_ptr rfl rfl (by decide) rfl rfl rfl ?_
          refine mvI rfl ?_
          refine r_buildSlice (E := UB) (xs := [_]) rfl rfl rfl rfl rfl (by decide) (by decide) (by repeat (first | exact (Parts.nil : Parts _ _ [] _) | (show Parts _ _ ((_, _) :: _) _; apply Parts.one; (· exact (rfl : _ = Ty.int _ _)); (· exact rfl)))) (by exact rfl) rfl ?_
          refine r_append rfl rfl (by decide) rfl rfl rfl rfl rfl rfl (by decide) (by (simp <;> omega)) (by (simp <;> omega)) ?_
          refine r_store1 rfl rfl (by decide) rfl rfl (by exact (rfl : _ = Ty.row _ _ _ _)) rfl (by exact Nat.le_of_ble_eq_true rfl) rfl rfl (by exact (rfl : _ = [_])) ?_
          refine r_nil ?_
          refine i_then ?_
          refine t_exit ?_
          refine i_then_exit ?_
          refine i_block_exit rfl ?_
          refine i_then ?_
          refine t_region ?_
          refine mvI rfl ?_
          refine r_add rfl rfl (by omega) (by omega) ?_
          refine asI rfl ?_
          refine r_nil ?_
          refine i_round (⟨x.1.next hlt hc2 hc3, by show s.length ≤ (x.1.s ++ [_]).length; simp; omega⟩) ?_ (by show text.length - (x.1.s ++ [nth text x.1.s.length]).length < text.length - x.1.s.length; simp; omega)
          (refine Ent.mk' ?_ ?_ <;> (repeat' (first | exact allSub_zero | exact allTags_nil | refine allSub_succ' ?_ (Ty.sub_any _) | refine allSub_succ' ?_ (Ty.sub_refl _) | refine allTags_cons rfl (Cont.sub_refl _) ?_ | refine allSub_succ' ?_ ?_)))
          all_goals skip
          all_goals exact Ty.sub_int (by show ((x.1.s.length : Nat) : Int) + 1 = (((x.1.s ++ [nth text x.1.s.length]).length : Nat) : Int); simp)
      ·
        refine t_skip ?_
        refine i_then ?_
        refine t_seq ?_
        refine t_seq ?_
        refine t_pubC (tg := 1003) [] [(6, Cont.cells 177 (rdrPl f x.1.p))] (by decide) rfl trivial ⟨pubC_cells rfl rfl ⟨pubTy_same rfl, pubTy_same rfl, pubTy_same rfl, pubTy_same rfl, pubTy_same rfl, pubTy_same rfl, pubTy_same rfl, pubTy_same rfl, pubTy_same rfl, pubTy_same rfl, pubTy_row, pubTy_same rfl, trivial⟩, trivial⟩ ?_
        refine t_region ?_
        refine r_callG (res' := Ty.clo 151 [Ty.pp [Ty.ptr 6 0]]) [(6, 1000)] [] [(6, Cont.cells 177 (rdrPl f x.1.p))] (k_canP f x.1.p) rfl rfl (cv_cons cv_nil (cv_ptr (by exact List.mem_cons_self))) (pre_cons (a := 6) (b := 1000) (by exact List.mem_cons_self) rfl (cc_rdrP (by exact List.mem_cons_self) rfl) pre_nil) (post_cons (a := 6) (b := 1000) (by exact List.mem_cons_self) rfl (cc_rdrP (by exact List.mem_cons_self) rfl) post_nil) (cv_clo (cv_cons cv_nil (cv_pp (cv_cons cv_nil (cv_ptr (by exact List.mem_cons_self)))))) ?_
        refine r_nil ?_
        refine i_then ?_
        refine t_name (D := 6) (Tb := 177) (tys := rdrPl f x.1.p) (r := []) rfl rfl rfl (by decide) fun vs hvs => ?_
        obtain ⟨v0, v1, v2, v3, v4, v5, v6, v7, v8, v9, v10, v11, rfl⟩ := twelve hvs rfl
        refine t_factTo 4001 (tg := 4000) (tys := rdrPl f x.1.p) (tys' := rdrPl f x.1.p) (vs := [v0, v1, v2, v3, v4, v5, v6, v7, v8, v9, v10, v11]) rfl rfl rfl (fun _ _ h => h) ?_
        refine t_factTo 4000 (tg := 4001) (tys := rdrPl f x.1.p) (tys' := rdrN f x.1.p v10) (vs := [v0, v1, v2, v3, v4, v5, v6, v7, v8, v9, v10, v11]) rfl rfl rfl (fun _ _ ⟨h0, h1, h2, h3, h4, h5, h6, h7, h8, h9, _, h11⟩ => ⟨h0, h1, h2, h3, h4, h5, h6, h7, h8, h9, (dens_ex [v10]).1, h11⟩) ?_
        refine t_block ?_
        refine t_rangeFuncT (ps := [34]) (lk [(2, Ty.pp [Ty.str (bs text), Ty.ex fv]), (3, Ty.ptr 1000 0), (4, Ty.ptr 5 0), (5, Ty.ptr 6 0), (6, Ty.ptr 7 0)]) (fun k => [(6, Cont.cells 177 [Ty.ex v0, Ty.ex v1, Ty.ex v2, Ty.ex v3, Ty.ex v4, Ty.ex v5, Ty.ex v6, Ty.ex v7, Ty.ex v8, Ty.ex v9, Ty.ex v10, Ty.ex v11]), (4000, Cont.fact (rdrN f x.1.p v10) [v0, v1, v2, v3, v4, v5, v6, v7, v8, v9, v10, v11] rfl rfl), (4001, Cont.fact (rdrPl f x.1.p) [v0, v1, v2, v3, v4, v5, v6, v7, v8, v9, v10, v11] rfl rfl), (5, Cont.cells 81 [Ty.row UB 5 1002 x.1.s]), (7, Cont.cells 4 [Ty.bool false]), (7000, Cont.ck (hJ (m0 + (upF f x.1.p x.1.s (text.drop (x.1.s.length + 1)) k).length))), (1000, Cont.cells 173 [Ty.ex (.func (.func 127) #[] (cs0 ++ [gp g]).toArray)]), (1001, Cont.me g 173 (.func (.func 127) #[] (cs0 ++ [gp g]).toArray) (finC text fv) cs0 rfl rfl), (5000, Cont.snap w0 (oldF Mc g own))]) true [(7, Cont.cells 4 [Ty.bool false]), (7000, Cont.ck hJx), (1001, Cont.me g 173 (.func (.func 127) #[] (cs0 ++ [gp g]).toArray) (finC text fv) cs0 rfl rfl), (5000, Cont.snap w0 (oldF Mc g own))] [7000, 5000, 1000, 1001, 1002, 4000, 4001, 5, 6, 7] rfl rfl ((c_can1 f x.1.p x.1.ok v10 0 6 [v0, v1, v2, v3, v4, v5, v6, v7, v8, v9, v10, v11]).1) (ranges_X (D := 6) (n := 60) (sd := 5) (r := fun k => []) (fun b => c_can1 f x.1.p x.1.ok v10 b 6 [v0, v1, v2, v3, v4, v5, v6, v7, v8, v9, v10, v11]) (by decide) (by decide) rfl (fun k => List.mem_cons_self) (List.mem_cons_of_mem _ List.mem_cons_self)) (deps_lt rfl) (deps_lt rfl) (by decide) (by intro t ht; obtain ⟨y, _, rfl⟩ := List.mem_map.1 ht; exact ⟨rfl, rfl, rfl⟩) rfl rfl (fun _ => rfl) rfl ?_ ?_ ?_ ?_
        · (refine Ent.mk' ?_ ?_ <;> (repeat' (first | exact allSub_zero | exact allTags_nil | refine allSub_succ' ?_ (Ty.sub_any _) | refine allSub_succ' ?_ (Ty.sub_refl _) | refine allTags_cons rfl (Cont.sub_refl _) ?_ | refine allTags_cons rfl ?_ ?_)))
          all_goals exact ck_eq hJ (by rw [up_zero]; rfl)
        · intro k tys hk
          obtain ⟨hk1, rfl⟩ := enc_get hk
          have hmem := nth_mem hk1
          refine ⟨live [(2, Ty.pp [Ty.str (bs text), Ty.ex fv]), (3, Ty.ptr 1000 0), (4, Ty.ptr 5 0), (5, Ty.ptr 6 0), (6, Ty.ptr 7 0), (9, Ty.int .u8 ((nth (canR f x.1.p) k).toNat : Int))] [(6, Cont.cells 177 [Ty.ex v0, Ty.ex v1, Ty.ex v2, Ty.ex v3, Ty.ex v4, Ty.ex v5, Ty.ex v6, Ty.ex v7, Ty.ex v8, Ty.ex v9, Ty.ex v10, Ty.ex v11]), (4000, Cont.fact (rdrN f x.1.p v10) [v0, v1, v2, v3, v4, v5, v6, v7, v8, v9, v10, v11] rfl rfl), (4001, Cont.fact (rdrPl f x.1.p) [v0, v1, v2, v3, v4, v5, v6, v7, v8, v9, v10, v11] rfl rfl), (5, Cont.cells 81 [Ty.row UB 5 1002 x.1.s]), (7, Cont.cells 4 [Ty.bool false]), (7000, Cont.ck (hJ (m0 + (upF f x.1.p x.1.s (text.drop (x.1.s.length + 1)) k).length))), (1000, Cont.cells 173 [Ty.ex (.func (.func 127) #[] (cs0 ++ [gp g]).toArray)]), (1001, Cont.me g 173 (.func (.func 127) #[] (cs0 ++ [gp g]).toArray) (finC text fv) cs0 rfl rfl), (5000, Cont.snap w0 (oldF Mc g own))], fun l w M => ?_, fun l w M => ?_⟩
          ·
            refine t_region ?_
            refine asI rfl ?_
            refine r_nil ?_
            refine i_join ?_
            (refine Ent.mk' ?_ ?_ <;> (repeat' (first | exact allSub_zero | exact allTags_nil | refine allSub_succ' ?_ (Ty.sub_any _) | refine allSub_succ' ?_ (Ty.sub_refl _) | refine allTags_cons rfl (Cont.sub_refl _) ?_)))
          ·
            refine t_block ?_
            refine t_seq ?_
            refine t_region ?_
            refine r_loadFactN (tys := rdrPl f x.1.p) (vs := [v0, v1, v2, v3, v4, v5, v6, v7, v8, v9, v10, v11]) 4001 rfl rfl (by decide) rfl rfl rfl rfl ?_
            refine r_alloc rfl (by exact List.cons_ne_nil _ _) rfl ?_
            refine r_storeN rfl rfl (by decide) rfl rfl rfl rfl rfl rfl ?_
            refine r_nil ?_
            refine i_then ?_
            refine t_seq ?_
            refine t_region ?_
            refine r_field_ptr rfl rfl rfl rfl rfl (by decide) ?_
            refine r_loadFact 4001 rfl rfl (by decide) rfl rfl rfl rfl rfl rfl ?_
            refine r_callG [(39, 6)] [39] [] (k_Clone_rows x.1.p.read (by omega)) rfl rfl (by repeat (first | exact cv_nil | refine cv_cons ?_ ?_ | exact cv_pub rfl rfl)) pre_nil post_nil (cv_row (by exact List.mem_cons_self)) ?_
            refine r_field_ptr rfl rfl rfl rfl rfl (by decide) ?_
            refine r_store1 rfl rfl (by decide) rfl rfl (by exact (rfl : _ = Ty.row _ _ _ _)) rfl (by exact Nat.le_of_ble_eq_true rfl) rfl rfl (by exact rfl) ?_
            refine r_nil ?_
            refine i_then ?_
            refine t_seq ?_
            refine t_forget (B := live [(2, Ty.pp [Ty.str (bs text), Ty.ex fv]), (3, Ty.ptr 1000 0), (4, Ty.ptr 5 0), (5, Ty.ptr 6 0), (6, Ty.ptr 7 0), (9, Ty.int .u8 ((nth (canR f x.1.p) k).toNat : Int)), (10, Ty.ptr 11 0)] [(11, Cont.cells 177 (rdrT f (x.1.p) 39)), (6, Cont.cells 177 [Ty.ex v0, Ty.ex v1, Ty.ex v2, Ty.ex v3, Ty.ex v4, Ty.ex v5, Ty.ex v6, Ty.ex v7, Ty.ex v8, Ty.ex v9, Ty.ex v10, Ty.ex v11]), (4000, Cont.fact (rdrN f x.1.p v10) [v0, v1, v2, v3, v4, v5, v6, v7, v8, v9, v10, v11] rfl rfl), (4001, Cont.fact (rdrPl f x.1.p) [v0, v1, v2, v3, v4, v5, v6, v7, v8, v9, v10, v11] rfl rfl), (5, Cont.cells 81 [Ty.row UB 5 1002 x.1.s]), (7, Cont.cells 4 [Ty.bool false]), (7000, Cont.ck (hJ (m0 + (upF f x.1.p x.1.s (text.drop (x.1.s.length + 1)) k).length))), (1000, Cont.cells 173 [Ty.ex (.func (.func 127) #[] (cs0 ++ [gp g]).toArray)]), (1001, Cont.me g 173 (.func (.func 127) #[] (cs0 ++ [gp g]).toArray) (finC text fv) cs0 rfl rfl), (5000, Cont.snap w0 (oldF Mc g own))]) ?_ ?_
            · (refine Ent.mk' ?_ ?_ <;> (repeat' (first | exact allSub_zero | exact allTags_nil | refine allSub_succ' ?_ (Ty.sub_any _) | refine allSub_succ' ?_ (Ty.sub_refl _) | refine allTags_cons rfl (Cont.sub_refl _) ?_)))
            refine t_region ?_
            refine mvI rfl ?_
            refine r_callG [(11, 1000), (39, 1001)] [39] [(11, Cont.cells 177 (rdrT f (nextR f x.1.p (nth (canR f x.1.p) k)) 39))] (k_step f _ x.1.ok (nth (canR f x.1.p) k)) rfl rfl (by repeat (first | exact cv_nil | refine cv_cons ?_ ?_ | exact cv_ptr List.mem_cons_self | exact cv_pub rfl rfl)) (pre_cons (a := 11) (b := 1000) (by exact List.mem_cons_self) rfl (cc_rdr (by exact List.mem_cons_self) (List.mem_cons_of_mem _ List.mem_cons_self) rfl) pre_nil) (post_cons (a := 11) (b := 1000) (by exact List.mem_cons_self) rfl (cc_rdr (by exact List.mem_cons_self) (List.mem_cons_of_mem _ List.mem_cons_self) (by rw [stepQ_yes hmem])) post_nil) (cv_pub rfl rfl) ?_
            refine r_nil ?_
            refine i_then ?_
            refine t_seq ?_
            refine t_forget (B := live [(2, Ty.pp [Ty.str (bs text), Ty.ex fv]), (3, Ty.ptr 1000 0), (4, Ty.ptr 5 0), (5, Ty.ptr 6 0), (6, Ty.ptr 7 0), (9, Ty.int .u8 ((nth (canR f x.1.p) k).toNat : Int)), (10, Ty.ptr 11 0)] [(11, Cont.cells 177 (rdrT f (nextR f x.1.p (nth (canR f x.1.p) k)) 39)), (6, Cont.cells 177 [Ty.ex v0, Ty.ex v1, Ty.ex v2, Ty.ex v3, Ty.ex v4, Ty.ex v5, Ty.ex v6, Ty.ex v7, Ty.ex v8, Ty.ex v9, Ty.ex v10, Ty.ex v11]), (4000, Cont.fact (rdrN f x.1.p v10) [v0, v1, v2, v3, v4, v5, v6, v7, v8, v9, v10, v11] rfl rfl), (4001, Cont.fact (rdrPl f x.1.p) [v0, v1, v2, v3, v4, v5, v6, v7, v8, v9, v10, v11] rfl rfl), (5, Cont.cells 81 [Ty.row UB 5 1002 x.1.s]), (7, Cont.cells 4 [Ty.bool false]), (7000, Cont.ck (hJ (m0 + (upF f x.1.p x.1.s (text.drop (x.1.s.length + 1)) k).length))), (1000, Cont.cells 173 [Ty.ex (.func (.func 127) #[] (cs0 ++ [gp g]).toArray)]), (1001, Cont.me g 173 (.func (.func 127) #[] (cs0 ++ [gp g]).toArray) (finC text fv) cs0 rfl rfl), (5000, Cont.snap w0 (oldF Mc g own))]) ?_ ?_
            · (refine Ent.mk' ?_ ?_ <;> (repeat' (first | exact allSub_zero | exact allTags_nil | refine allSub_succ' ?_ (Ty.sub_any _) | refine allSub_succ' ?_ (Ty.sub_refl _) | refine allTags_cons rfl (Cont.sub_refl _) ?_)))
            refine t_draw mixed rfl ?_
            refine r_load_ptr rfl rfl (by decide) rfl rfl rfl ?_
            refine r_load_ptr rfl rfl (by decide) rfl rfl rfl ?_
            refine r_callGL [1002] 45 (k_Clone_u8 x.1.s (by omega)) rfl (by repeat (first | exact lends_nil | refine lends_cons (lend_row rfl) ?_)) plain_UB (by decide) (by decide) rfl ?_
            refine mvI rfl ?_
            refine r_buildSlice (E := UB) (xs := [_]) rfl rfl rfl rfl rfl (by decide) (by decide) (by repeat (first | exact (Parts.nil : Parts _ _ [] _) | (show Parts _ _ ((_, _) :: _) _; apply Parts.one; (· exact (rfl : _ = Ty.int _ _)); (· exact rfl)))) (by exact rfl) rfl ?_
            refine r_append rfl rfl (by decide) rfl rfl rfl rfl rfl rfl (by decide) (by (simp <;> omega)) (by (simp <;> omega)) ?_
            refine r_load_ptrN rfl rfl (by decide) rfl rfl (by exact Nat.le_of_ble_eq_true rfl) ?_
            refine r_callF (ss := [Ty.row UB 5 45 (x.1.s ++ [nth (canR f x.1.p) k]), Ty.agg (rdrT f (nextR f x.1.p (nth (canR f x.1.p) k)) 39)]) [(45, 1002), (39, 1003)] (hJ (m0 + (upF f x.1.p x.1.s (text.drop (x.1.s.length + 1)) k).length)) (hJ _) hJx (ih (x.1.s ++ [nth (canR f x.1.p) k]) (nextR f x.1.p (nth (canR f x.1.p) k)) (m0 + (upF f x.1.p x.1.s (text.drop (x.1.s.length + 1)) k).length) (by simp; omega) (by simp; omega) (next_ok x.1.ok hmem) (fi_sub x.1 hlt hc2 hp hk1)) rfl rfl (cv_cons (cv_cons cv_nil (cv_rdr (List.mem_cons_of_mem _ List.mem_cons_self))) (cv_row List.mem_cons_self)) rfl rfl rfl ?_
            refine r_notY (h1 := hJ _) (hx := hJx) rfl ?_
            refine r_nil ?_
            refine ⟨by kernel_rfl, ?_⟩
            refine i_then ?_
            refine t_condY (h1 := hJ _) (hx := hJx) rfl ?_ ?_
            ·
              refine t_seq ?_
              refine t_region ?_
              refine r_store1 rfl rfl (by decide) rfl rfl (by exact (rfl : _ = Ty.bool _)) rfl (by exact Nat.le_of_ble_eq_true rfl) rfl rfl (by exact (rfl : _ = [_])) ?_
              refine r_nil ?_
              refine i_then ?_
              refine t_ret ?_
              refine i_block_ret ?_
              refine q_ret ?_
              (refine Ent.mk' ?_ ?_ <;> (repeat' (first | exact allSub_zero | exact allTags_nil | refine allSub_succ' ?_ (Ty.sub_any _) | refine allTags_cons rfl (Cont.sub_refl _) ?_)))
            ·
              refine t_skip ?_
              refine i_block ?_
              refine q_normal ?_
              (refine Ent.mk' ?_ ?_ <;> (repeat' (first | exact allSub_zero | exact allTags_nil | refine allSub_succ' ?_ (Ty.sub_any _) | refine allTags_cons rfl (Cont.sub_refl _) ?_ | refine allTags_cons rfl ?_ ?_)))
              all_goals exact ck_eq hJ (fi_up x.1 hk1)
        ·
          refine i_block ?_
          refine i_then ?_
          refine t_seq ?_
          refine t_region ?_
          refine r_store1 rfl rfl (by decide) rfl rfl (by exact (rfl : _ = Ty.bool _)) rfl (by exact Nat.le_of_ble_eq_true rfl) rfl rfl (by exact (rfl : _ = [_])) ?_
          refine r_nil ?_
          refine i_then ?_
          refine t_ret ?_
          refine i_block_ret ?_
          refine i_then_ret ?_
          refine i_then_ret ?_
          refine i_block_ret ?_
          refine i_then_ret ?_
          refine m_ret rfl ?_
          exact i_retFt (hj := hJ _) z0 wf0 (congrArg J (by rw [List.length_map, up_all, fi_torn x.1 hlt hc2])) hh0 rfl rfl rfl rfl (by decide) rfl rfl rfl rfl rfl
        · intro _
          refine i_block_ret ?_
          refine i_then_ret ?_
          refine i_block_ret ?_
          refine i_then_ret ?_
          refine i_then_ret ?_
          refine i_block_ret ?_
          refine i_then_ret ?_
          refine m_ret rfl ?_
          exact i_retFx (hx := hJx) z0 wf0 hh0 rfl rfl rfl rfl (by decide) rfl rfl rfl rfl rfl
    ·
      refine t_exit ?_
      refine i_then_exit ?_
      refine i_then_exit ?_
      refine i_block_exit rfl ?_
      refine i_then ?_
      refine t_seq ?_
      refine t_pubC (tg := 1003) [] [(6, Cont.cells 177 (rdrPl f x.1.p))] (by decide) rfl trivial ⟨pubC_cells rfl rfl ⟨pubTy_same rfl, pubTy_same rfl, pubTy_same rfl, pubTy_same rfl, pubTy_same rfl, pubTy_same rfl, pubTy_same rfl, pubTy_same rfl, pubTy_same rfl, pubTy_same rfl, pubTy_row, pubTy_same rfl, trivial⟩, trivial⟩ ?_
      refine t_pub (tg := 6) [(5, Ty.pp (rdrPl f x.1.p))] (by decide) rfl ⟨pub_ptr (T := 177) (tg := 6) (off := 0) (l := rdrPl f x.1.p) rfl rfl rfl (by decide), trivial⟩ ?_
      refine t_region ?_
      refine r_call (c_wholeP _ _) rfl rfl rfl rfl rfl ?_
      refine r_not rfl ?_
      refine mvB rfl ?_
      cases hsp : (wholeR x.1.p)
      ·
        refine r_off rfl rfl rfl rfl ?_
        refine r_off rfl rfl rfl rfl ?_
        refine r_off rfl rfl rfl rfl ?_
        refine r_off rfl rfl rfl rfl ?_
        refine r_off rfl rfl rfl rfl ?_
        refine r_pkT rfl rfl ?_
        refine r_store1 (ty := Ty.bool true) rfl rfl (by decide) rfl rfl rfl rfl (by exact Nat.le_of_ble_eq_true rfl) rfl rfl (by exact (rfl : _ = [_])) ?_
        refine r_nil ?_
        refine i_then ?_
        refine t_ret ?_
        refine m_ret rfl ?_
        exact i_retFt (hj := hJ _) z0 wf0 (congrArg J (by rw [fi_end x.1 hc1, hsp]; rfl)) hh0 rfl rfl rfl rfl (by decide) rfl rfl rfl rfl rfl
      ·
        (refine r_on rfl rfl rfl (by apply opT_of; (refine r_field_pp rfl rfl rfl rfl rfl (by decide) ?_); refine r_nil ?_; exact rfl) ?_)
        (refine r_on rfl rfl rfl (by apply opT_of; (refine r_load_pp rfl rfl rfl rfl ?_); refine r_nil ?_; exact rfl) ?_)
        (refine r_on rfl rfl rfl (by apply opT_of; (refine r_load_ptr rfl rfl (by decide) rfl rfl rfl ?_); refine r_nil ?_; exact rfl) ?_)
        (refine r_on rfl rfl rfl (by apply opT_of; (refine r_convRS rfl rfl rfl rfl rfl Tryz.underlying5 ?_); refine r_nil ?_; exact rfl) ?_)
        (refine r_on rfl rfl rfl (by apply opT_of; (refine r_callFnd hJ hJx hF rfl rfl rfl rfl (by rw [List.getElem?_map, pre_get (by have h := hp; rw [fi_end x.1 hc1, hsp] at h; exact h)]; rfl) rfl ?_); refine r_nil ?_; exact rfl) ?_)
        refine r_pkF rfl rfl ?_
        refine r_store1 (ty := Ty.yb true (hJ (m0 + 1)) hJx) rfl rfl (by decide) rfl rfl rfl rfl (by exact Nat.le_of_ble_eq_true rfl) rfl rfl (by exact (rfl : _ = [_])) ?_
        refine r_nil ?_
        refine i_then ?_
        refine t_ret ?_
        refine m_ret rfl ?_
        exact i_retFy (h1 := hJ _) (hx := hJx) z0 wf0 hh0 rfl rfl rfl rfl (by decide) rfl rfl rfl rfl (Ty.sub_yb (h1 := hJ (m0 + 1)) (congrArg J (by rw [fi_end x.1 hc1, hsp]; rfl)))
end Go.Proofs.YtjjndkenddigiaaGreatDoor

namespace Go.Proofs.YtjjndkenddigiaaGreatDoor
open Go Go.T
theorem figs_few (a : Bool) : (figs a).length ≤ 10 := by cases a <;> decide
theorem can_few (f : BForm) (p : Rdr) : (canR f p).length ≤ 11 := by
  unfold canR
  split
  · simp
  · split
    · rw [figC_eq, List.length_append]
      have := figs_few (ctnB f p)
      split <;> simp <;> omega
    · split
      · split <;> simp
      · rw [List.length_append]
        split <;> split <;> simp
theorem flat_le {α β : Type} {n : Nat} (g : α → List β) : ∀ (l : List α), (∀ x ∈ l, (g x).length ≤ n) → (l.flatMap g).length ≤ l.length * n
  | [], _ => by simp
  | x :: l, h => by
    rw [List.flatMap_cons, List.length_append, List.length_cons, Nat.succ_mul]
    have := flat_le g l fun y hy => h y (List.mem_cons_of_mem _ hy)
    have := h x List.mem_cons_self
    omega
theorem fil_few {f : BForm} : ∀ (t : Byt) (p : Rdr), (fillR f p t).length ≤ 11 ^ tornN t
  | [], p => by
    rw [fillR]; split <;> simp [tornN]
  | c :: t, p => by
    rw [fillR]
    split
    · rename_i hc
      have e : tornN (c :: t) = tornN t := by unfold tornN; rw [List.count_cons_of_ne (by exact hc)]
      rw [e]
      split
      · simp
      · rw [List.length_map]; exact fil_few t _
    · rename_i hc
      have hc : c = 63 := by simpa using hc
      have e : tornN (c :: t) = tornN t + 1 := by unfold tornN; rw [hc, List.count_cons_self]
      rw [e, Nat.pow_succ, Nat.mul_comm]
      refine Nat.le_trans (flat_le (n := 11 ^ tornN t) _ _ fun d _ => ?_) (Nat.mul_le_mul_right _ (can_few f p))
      rw [List.length_map]; exact fil_few t _
theorem all_few {f : BForm} {text : Byt} (h : (tornN text : Int) ≤ 4) : (allF f text).length ≤ 14641 := by
  have h1 := fil_few (f := f) text Rdr.new
  have h2 : 11 ^ tornN text ≤ 11 ^ 4 := Nat.pow_le_pow_right (by omega) (by omega)
  unfold allF; omega
end Go.Proofs.YtjjndkenddigiaaGreatDoor

namespace Go.Proofs.YtjjndkenddigiaaGreatDoor
open Go Go.T
set_option maxHeartbeats 2000000
theorem c_fill1 (f : BForm) (text : Byt) (hl : text.length ≤ 65536) (AL : List (Byt × Rdr)) (fv : Value) (J : Nat → World → Tags → Prop) (Jx : World → Tags → Prop) (hJ : ∀ k, Cb (J k)) (hJx : Cb Jx) (hF : FndC Tryz.prog fv (AL.map (encF f)) J Jx) : ∀ (n : Nat) (s : Byt) (p : Rdr) (m0 : Nat), text.length - s.length ≤ n → RdrOk f p → s.length ≤ text.length → filS f p s (text.drop s.length) <+: AL.drop m0 →
    MoreF Tryz.prog 127 173 (finC text fv) [Ty.row UB 5 1002 s, Ty.agg (rdrT f p 1003)] (J m0) (J (m0 + (filS f p s (text.drop s.length)).length)) Jx
  | 0, s, p, m0, hn, ho, hs, hp => c_fillS f text hl AL fv J Jx hJ hJx hF s p m0 ho hs hp fun s' p' k' h _ _ _ => absurd h (by omega)
  | n + 1, s, p, m0, hn, ho, hs, hp => c_fillS f text hl AL fv J Jx hJ hJx hF s p m0 ho hs hp fun s' p' k' h h2 h3 h4 => c_fill1 f text hl AL fv J Jx hJ hJx hF n s' p' k' (by omega) h3 h2 h4
def finT (f : BForm) (text : Byt) (fv : Value) : List Ty := [Ty.agg [Ty.str (bs text), Ty.ex fv], frmT f]
theorem fin_hfv {f : BForm} {text : Byt} {fid : FuncId} {caps : List Ty} (w : World) (M : Tags) (vs : List Value) (h : dens w M [Ty.agg [Ty.str (bs text), Ty.clo fid caps], frmT f] vs) : ∃ cs : Array Value, dens w M caps cs.toList ∧ dens w M (finT f text (.func (.func fid) #[] cs)) vs := by
  match vs, h with
  | [v, u], ⟨⟨zs, e, ha⟩, h2, _⟩ =>
    obtain ⟨zs⟩ := zs
    match zs, ha with
    | [a1, a2], ⟨h3, ⟨cs, e2, h4⟩, _⟩ => exact ⟨cs, h4, ⟨⟨_, e, h3, e2, trivial⟩, h2, trivial⟩⟩
theorem allE_pub (f : BForm) (l : List (Byt × Rdr)) : ∀ tys ∈ l.map (encF f), depsOf tys = [] ∧ cdepsOf tys = [] := by
  intro t ht
  obtain ⟨y, _, rfl⟩ := List.mem_map.1 ht
  exact ⟨rfl, rfl⟩
def cntV (f : BForm) (text : Byt) : Int × Int := if tornE f text ≠ 0 then (0, tornE f text) else ((((allF f text).length : Nat) : Int), 0)
def filL (f : BForm) (text : Byt) (k : Nat) : List Byt := ((allF f text).take k).map Prod.fst
def filV (f : BForm) (text : Byt) : List Byt × Int := if tornE f text ≠ 0 then ([], tornE f text) else (filL f text 2, 0)
def resB (f : BForm) (text : Byt) (k : Nat) : Book := if k = 0 then Book.zero else ⟨f, (nth (allF f text) (k - 1)).2.read⟩
def resV (f : BForm) (text : Byt) : Book × Int := if tornE f text ≠ 0 then (Book.zero, tornE f text) else if (allF f text).length = 0 then (Book.zero, 6) else if (allF f text).length = 1 then (resB f text 1, 0) else (Book.zero, 7)
theorem cnt_1 {f : BForm} {text : Byt} (h : ¬ tornE f text = 0) : cntV f text = (0, tornE f text) := if_pos h
theorem cnt_2 {f : BForm} {text : Byt} (h : tornE f text = 0) : cntV f text = ((((allF f text).length : Nat) : Int), 0) := if_neg (fun e => e h)
theorem fv_1 {f : BForm} {text : Byt} (h : ¬ tornE f text = 0) : filV f text = ([], tornE f text) := if_pos h
theorem fv_2 {f : BForm} {text : Byt} (h : tornE f text = 0) : filV f text = (filL f text 2, 0) := if_neg (fun e => e h)
theorem rv_1 {f : BForm} {text : Byt} (h : ¬ tornE f text = 0) : resV f text = (Book.zero, tornE f text) := if_pos h
theorem rv_2 {f : BForm} {text : Byt} (h : tornE f text = 0) (h2 : ((min 2 (allF f text).length : Nat) : Int) = 0) : resV f text = (Book.zero, 6) := by
  unfold resV; rw [if_neg (fun e => e h), if_pos (by omega)]
theorem rv_3 {f : BForm} {text : Byt} (h : tornE f text = 0) (h2 : ¬ ((min 2 (allF f text).length : Nat) : Int) = 0) (h3 : ((min 2 (allF f text).length : Nat) : Int) = 1) : resV f text = (resB f text (min 2 (allF f text).length), 0) := by
  unfold resV; rw [if_neg (fun e => e h), if_neg (by omega), if_pos (by omega), show min 2 (allF f text).length = 1 by omega]
theorem rv_4 {f : BForm} {text : Byt} (h : tornE f text = 0) (h2 : ¬ ((min 2 (allF f text).length : Nat) : Int) = 0) (h3 : ¬ ((min 2 (allF f text).length : Nat) : Int) = 1) : resV f text = (Book.zero, 7) := by
  unfold resV; rw [if_neg (fun e => e h), if_neg (by omega), if_neg (by omega)]
theorem torn_ok {f : BForm} {text : Byt} (h : tornE f text = 0) : FormOk f ∧ text.length ≤ 65536 ∧ (tornN text : Int) ≤ 4 := by
  unfold tornE at h
  split at h
  · rename_i h1; exact absurd h h1
  · rename_i h1
    split at h
    · cases h
    · rename_i h2
      split at h
      · cases h
      · rename_i h3
        exact ⟨frmY_zero.1 (by simpa using h1), by omega, by omega⟩
theorem all_ok {f : BForm} {text : Byt} (hf : FormOk f) {k : Nat} (hk : k < (allF f text).length) : RdrOk f (nth (allF f text) k).2 := (fillR_ok text _ (new_ok hf) _ (nth_mem hk)).1
theorem enc_at {f : BForm} {text : Byt} {k : Nat} {tys : List Ty} (h : ((allF f text).map (encF f))[k]? = some tys) : k < (allF f text).length ∧ tys = encF f (nth (allF f text) k) := enc_get h
theorem filL_succ {f : BForm} {text : Byt} {k : Nat} (hk : k < (allF f text).length) : filL f text (k + 1) = filL f text k ++ [(nth (allF f text) k).1] := by
  unfold filL; rw [take_nth hk, List.map_append]; rfl
theorem filL_all {f : BForm} {text : Byt} (h : (allF f text).length < 2) : filL f text (allF f text).length = filL f text 2 := by
  unfold filL; rw [List.take_of_length_le (Nat.le_refl _), List.take_of_length_le (by omega)]
theorem filL_len (f : BForm) (text : Byt) (k : Nat) : (filL f text k).length ≤ k := by unfold filL; rw [List.length_map, List.length_take]; omega
theorem fil_nil0 {f : BForm} {text : Byt} : (Ty.ex (.slice none 0 0)).Sub (Ty.row StrE 9 500 (filL f text 0)) := by
  rw [show filL f text 0 = [] from by simp [filL]]; exact Ty.nil_row
theorem res_zero {f : BForm} {text : Byt} : Subs [Ty.ex (.slice none 0 0), Ty.int .i64 0, Ty.ex (.slice none 0 0)] (bokTys (resB f text 0)) := ⟨Ty.nil_sl, Ty.sub_refl _, Ty.nil_sl, trivial⟩
theorem resB_succ (f : BForm) (text : Byt) (k : Nat) : resB f text (k + 1) = ⟨f, (nth (allF f text) k).2.read⟩ := by unfold resB; rw [if_neg (by omega)]; rfl
theorem res_b (k : Nat) : decide ((k : Int) + 1 < 2) = decide (k + 1 < 2) := by rw [decide_eq_decide]; omega
theorem fil_b (l : List Byt) (s : Byt) : decide (((l ++ [s]).length : Int) < 2) = decide ((l.length : Int) + 1 < 2) := by simp
theorem filL_len2 {f : BForm} {text : Byt} {k : Nat} (h : k < (allF f text).length) : (filL f text k).length = k := by unfold filL; rw [List.length_map, List.length_take]; omega
theorem fil_px {f : BForm} {text : Byt} {k : Nat} (h : k < 2) (h2 : ¬ k + 1 < 2) : PostCs [(1000, Cont.cells 53 [Ty.row StrE 9 1001 (filL f text (k + 1))])] [(8, 1000), (500, 1001)] [(8, Cont.cells 53 [Ty.row StrE 9 500 (filL f text 2)])] := by
  obtain rfl : k = 1 := by omega
  exact post_cons (a := 8) (b := 1000) (by decide) rfl (cc_cells (by decide) (cv_cons cv_nil (cv_row (by decide)))) post_nil
theorem res_px {f : BForm} {text : Byt} {k : Nat} (h : k < 2) (h2 : ¬ k + 1 < 2) : PostCs [(1000, Cont.cells 27 (bokTys (resB f text (k + 1)))), (1001, Cont.cells 3 [Ty.int .i64 ((k + 1 : Nat) : Int)])] [(8, 1000), (9, 1001)] [(8, Cont.cells 27 (bokTys (resB f text 2))), (9, Cont.cells 3 [Ty.int .i64 ((2 : Nat) : Int)])] := by
  obtain rfl : k = 1 := by omega
  exact post_cons (a := 8) (b := 1000) (by decide) rfl (cc_cells_eq (by decide) rfl rfl rfl) (post_cons (a := 9) (b := 1001) (by decide) rfl (cc_cells_eq (by decide) rfl rfl rfl) post_nil)
attribute [local irreducible] allF tornE wholeR cntV filV resV filL resB
attribute [local irreducible] dInt dBool dSl dPp dPtr dAgg dTup dClo dAny dEx dStr dGd dCells dVec dVs dRow dOp nth Tri Into TOps Ctr bodyPost Exit.then Exit.inBlock Code.wp Code.wpIn dPa dArr dMp dMap CtrG keepPost iterPost bodyPostM roundQ
set_option maxRecDepth 100000 in
theorem c_fill (f : BForm) (hf : FormOk f) (text : Byt) (hl : text.length ≤ 65536) : CtrFd Tryz.prog 83 (fun fv => (finT f text fv)) ((allF f text).map (encF f)) := by
  refine fnFd_intro Tryz.func83 rfl (by decide) Tryz.ntmps83 (fun _ => by exact Nat.le_of_ble_eq_true rfl) (fun _ => ⟨rfl, rfl⟩) fun fv J Jx hJ hJx hF w0 Mc wf0 z0 => ?_
  refine t_seq ?_
  refine t_region ?_
  refine r_box_agg rfl ?_
  refine r_box_agg rfl ?_
  refine r_nil ?_
  refine i_then ?_
  refine t_seq ?_
  refine t_region ?_
  refine r_alloc rfl (by exact List.cons_ne_nil _ _) rfl ?_
  refine r_nil ?_
  refine i_then ?_
  refine t_seq ?_
  refine t_region ?_
  refine r_makeFunc rfl ?_
  refine r_store1 rfl rfl (by decide) rfl rfl (by exact (rfl : _ = Ty.clo _ _)) rfl (by exact Nat.le_of_ble_eq_true rfl) rfl rfl (by exact (rfl : _ = [_])) ?_
  refine r_nil ?_
  refine i_then ?_
  refine t_draw mixed rfl ?_
  refine r_load_ptr rfl rfl (by decide) rfl rfl rfl ?_
  refine r_load_ppN rfl rfl rfl (by exact Nat.le_of_ble_eq_true rfl) ?_
  refine r_callG [(9, 6), (500, 5)] [9, 500] [(9, Cont.cells 177 (rdrT f Rdr.new 500))] (k_opened f) rfl rfl (by repeat (first | exact cv_nil | refine cv_cons ?_ ?_ | exact cv_pub rfl rfl)) pre_nil (post_cons (a := 9) (b := 6) (by exact List.mem_cons_self) rfl (cc_rdr (by exact List.mem_cons_self) (List.mem_cons_of_mem _ List.mem_cons_self) rfl) post_nil) (cv_ptr (by exact List.mem_cons_self)) ?_
  refine r_nilCheck_ptr rfl ?_
  refine r_load_ptrN rfl rfl (by decide) rfl rfl (by exact Nat.le_of_ble_eq_true rfl) ?_
  refine r_callF0 (tg := 5) (ss := [Ty.ex (.slice none 0 0), Ty.agg (rdrT f Rdr.new 500)]) [(500, 1003)] (hJ 0) (hJ (0 + (filS f Rdr.new [] (text.drop ([] : Byt).length)).length)) hJx (c_fill1 f text hl (allF f text) fv J Jx hJ hJx hF text.length [] Rdr.new 0 (by simp) (new_ok hf) (Nat.zero_le _) (by rw [List.length_nil, List.drop_zero, fil_all, List.drop_zero]; exact List.prefix_rfl)) rfl rfl rfl rfl (cv_cons (cv_cons cv_nil (cv_rdr List.mem_cons_self)) cv_nilrow) rfl rfl (by decide) rfl ?_
  refine r_nil ?_
  refine ⟨by kernel_rfl, ?_⟩
  exact i_retFd (hJ := hJ) (h1 := hJ _) (hx := hJx) z0 wf0 (by rw [List.length_nil, List.drop_zero, fil_all, List.length_map, Nat.zero_add]) rfl rfl rfl
set_option maxRecDepth 100000 in
theorem k_Count1 (k : Nat) (h : k ≤ 100000) : CtrG Tryz.prog 82 [1000] [(1000, Cont.cells 3 [Ty.int .i64 (k : Nat)])] [Ty.any, Ty.any, Ty.ptr 1000 0] [(1000, Cont.cells 3 [Ty.int .i64 ((k + 1 : Nat) : Int)])] (Ty.bool true) := by
  refine fnG_intro Tryz.func82 rfl (by decide) Tryz.ntmps82 (by exact Nat.le_of_ble_eq_true rfl) fun w0 M0 => ?_
  refine t_seq ?_
  refine t_region ?_
  refine asB rfl ?_
  refine r_nil ?_
  refine i_then ?_
  refine t_seq ?_
  refine t_region ?_
  refine r_load_ptr rfl rfl (by decide) rfl rfl rfl ?_
  refine r_add rfl rfl (by omega) (by omega) ?_
  refine r_store1 rfl rfl (by decide) rfl rfl (by exact (rfl : _ = Ty.int _ _)) rfl (by exact Nat.le_of_ble_eq_true rfl) rfl rfl (by exact (rfl : _ = [_])) ?_
  refine r_nil ?_
  refine i_then ?_
  refine t_seq ?_
  refine t_region ?_
  refine asB rfl ?_
  refine r_nil ?_
  refine i_then ?_
  refine t_ret ?_
  refine g_ret1 [1000] rfl rfl (by decide) ?_ ?_
  exact rc_cons rfl (cc_cells_eq (by decide) rfl rfl rfl) rc_nil
  all_goals exact rg_cv (cv_pub rfl rfl)
set_option maxRecDepth 100000 in
theorem c_Count (f : BForm) (text : Byt) : Ctr Tryz.prog 27 [frmT f, Ty.str (bs text)] (Ty.tup [Ty.int .i64 (cntV f text).1, Ty.int .i64 (cntV f text).2]) := by
  refine fn_intro Tryz.func27 rfl (by decide) Tryz.ntmps27 (by exact Nat.le_of_ble_eq_true rfl) fun w0 M0 => ?_
  refine t_seq ?_
  refine t_region ?_
  refine r_box_agg rfl ?_
  refine asI rfl ?_
  refine asI rfl ?_
  refine r_nil ?_
  refine i_then ?_
  refine t_seq ?_
  refine t_seq ?_
  refine t_region ?_
  refine r_load_ppN rfl rfl rfl (by exact Nat.le_of_ble_eq_true rfl) ?_
  refine mvS' rfl ?_
  refine r_call (c_torn _ _) rfl rfl rfl rfl rfl ?_
  refine asI rfl ?_
  refine r_nil ?_
  refine i_then ?_
  refine t_seq ?_
  refine t_region ?_
  refine mvI rfl ?_
  refine r_bin rfl rfl rfl ?_
  refine r_nil ?_
  refine i_then ?_
  refine t_cond_ndec rfl (fun hc1 => ?_) (fun hc1 => ?_)
  ·
    refine t_seq ?_
    refine t_region ?_
    refine mvI rfl ?_
    refine asI rfl ?_
    refine asI rfl ?_
    refine r_nil ?_
    refine i_then ?_
    refine t_ret ?_
    refine i_then_ret ?_
    refine i_rp2 rfl rfl rfl ?_ ?_
    all_goals skip
    all_goals (rw [cnt_1 hc1]; exact ret_refl rfl rfl)
  ·
    refine t_skip ?_
    refine i_then ?_
    refine t_seq ?_
    refine t_region ?_
    refine r_alloc rfl (by exact List.cons_ne_nil _ _) rfl ?_
    refine r_store1 rfl rfl (by decide) rfl rfl (by exact (rfl : _ = Ty.int _ _)) rfl (by exact Nat.le_of_ble_eq_true rfl) rfl rfl (by exact (rfl : _ = [_])) ?_
    refine r_nil ?_
    refine i_then ?_
    refine t_seq ?_
    obtain ⟨hf, hl, h4⟩ := torn_ok hc1
    have hfew := all_few (f := f) h4
    refine t_region ?_
    refine mvS' rfl ?_
    refine r_makeFunc rfl ?_
    refine r_build rfl rfl (by exact List.cons_ne_nil _ _) rfl (by repeat (first | exact (Parts.nil : Parts _ _ [] _) | (show Parts _ _ ((_, _) :: _) _; apply Parts.one; (· first | exact (rfl : _ = Ty.clo _ _) | exact (rfl : _ = Ty.str _)); (· exact rfl)))) (by exact (rfl : _ = some [_, _])) ?_
    refine r_load_ppN rfl rfl rfl (by exact Nat.le_of_ble_eq_true rfl) ?_
    refine r_op (opT_callFd (fid := 82) (caps := [Ty.ptr 8 0]) (S := [8]) (K := []) (mv := []) (F := [1000]) (px := False) (ok := fun _ => True) (tgs := fun k => [(8, Cont.cells 3 [Ty.int .i64 (k : Nat)])]) (tgx := []) (sets := [(8, Cont.cells 3 [Ty.int .i64 ((allF f text).length : Nat)])]) (ρ := [(8, 1000)]) (pre := fun k => [(1000, Cont.cells 3 [Ty.int .i64 (k : Nat)])]) (post := fun k => [(1000, Cont.cells 3 [Ty.int .i64 ((k + 1 : Nat) : Int)])]) (argsF := fun _ => [Ty.any, Ty.any, Ty.ptr 1000 0]) (go := fun _ => true) (c_fill f hf text hl) rfl fin_hfv (fun _ => ⟨rfl, rfl⟩) (k_Count1 0 (by decide)).ex (fun k _ hk => k_Count1 k (by rw [List.length_map] at hk; omega)) rfl rfl rfl rfl (by decide) (by intro t h; cases h) (by decide) (by decide) (allE_pub f _) (fun k tys hk => by obtain ⟨_, rfl⟩ := enc_at hk; exact cv_cons (cv_cons (cv_cons cv_nil (cv_ptr (by decide))) cv_any) cv_any) (fun k => pre_cons (a := 8) (by decide) rfl (cc_cells_eq (by decide) rfl rfl rfl) pre_nil) (fun k _ _ => post_cons (a := 8) (b := 1000) (by decide) rfl (cc_cells_eq (by decide) rfl rfl rfl) post_nil) (fun k _ h => by cases h) trivial (fun _ _ _ _ => trivial) (fun _ _ _ h => by cases h) (fun _ => rfl) rfl (allTags_cons rfl (Cont.sub_subs ⟨Ty.sub_int rfl, trivial⟩) allTags_nil) (by decide) (by intro t h; cases h) (by simp) rfl (fun _ w M h x hx => by rw [List.length_map] at h; exact h x hx) (fun h => h.elim)) ?_
    refine r_nil ?_
    refine i_then ?_
    refine t_seq ?_
    refine t_region ?_
    refine r_load_ptr rfl rfl (by decide) rfl rfl rfl ?_
    refine asI rfl ?_
    refine asI rfl ?_
    refine r_nil ?_
    refine i_then ?_
    refine t_ret ?_
    refine i_rp2 rfl rfl rfl ?_ ?_
    all_goals skip
    all_goals (rw [cnt_2 hc1]; exact ret_refl rfl rfl)
set_option maxRecDepth 100000 in
theorem k_Fillings1 (s : Byt) (l : List Byt) (h : l.length ≤ 2) : CtrG Tryz.prog 84 [1000] [(1000, Cont.cells 53 [Ty.row StrE 9 1001 l])] [Ty.str (bs s), Ty.any, Ty.ptr 1000 0] [(1000, Cont.cells 53 [Ty.row StrE 9 1001 (l ++ [s])])] (Ty.bool (decide (((l.length : Nat) : Int) + 1 < 2))) := by
  refine fnG_intro Tryz.func84 rfl (by decide) Tryz.ntmps84 (by exact Nat.le_of_ble_eq_true rfl) fun w0 M0 => ?_
  refine t_seq ?_
  refine t_region ?_
  refine asB rfl ?_
  refine r_nil ?_
  refine i_then ?_
  refine t_seq ?_
  refine t_region ?_
  refine r_load_ptr rfl rfl (by decide) rfl rfl rfl ?_
  refine mvS' rfl ?_
  refine r_buildSlice (E := StrE) (xs := [_]) rfl rfl rfl rfl rfl (by decide) (by decide) (by repeat (first | exact (Parts.nil : Parts _ _ [] _) | (show Parts _ _ ((_, _) :: _) _; apply Parts.one; (· exact (rfl : _ = Ty.str _)); (· exact rfl)))) (by exact rfl) rfl ?_
  refine r_append rfl rfl (by decide) rfl rfl rfl rfl rfl rfl (by decide) (by (simp <;> omega)) (by (simp <;> omega)) ?_
  refine r_store1 rfl rfl (by decide) rfl rfl (by exact (rfl : _ = Ty.row _ _ _ _)) rfl (by exact Nat.le_of_ble_eq_true rfl) rfl rfl (by exact (rfl : _ = [_])) ?_
  refine r_nil ?_
  refine i_then ?_
  refine t_seq ?_
  refine t_region ?_
  refine r_load_ptr rfl rfl (by decide) rfl rfl rfl ?_
  refine r_len_row rfl rfl rfl ?_
  refine r_bin rfl rfl rfl ?_
  refine asB rfl ?_
  refine r_nil ?_
  refine i_then ?_
  refine t_ret ?_
  refine g_ret1 [1000, 1001] rfl rfl (by decide) ?_ ?_
  exact rc_cons rfl (cc_cells (by decide) (cv_cons cv_nil (cv_row (by decide)))) rc_nil
  all_goals skip
  all_goals exact rg_cv (cv_sub rfl rfl (Ty.sub_bool (fil_b _ _)))
theorem fil_ctr {f : BForm} {text : Byt} {k : Nat} (hk : k < (allF f text).length) (h2 : k < 2) : CtrG Tryz.prog 84 [1000] [(1000, Cont.cells 53 [Ty.row StrE 9 1001 (filL f text k)])] [Ty.str (bs (nth (allF f text) k).1), Ty.any, Ty.ptr 1000 0] [(1000, Cont.cells 53 [Ty.row StrE 9 1001 (filL f text (k + 1))])] (Ty.bool (decide (k + 1 < 2))) := by
  have h := k_Fillings1 (nth (allF f text) k).1 (filL f text k) (by have := filL_len f text k; omega)
  rw [← filL_succ hk, filL_len2 hk] at h
  rwa [show decide ((k : Int) + 1 < 2) = decide (k + 1 < 2) from by rw [decide_eq_decide]; omega] at h
set_option maxRecDepth 100000 in
theorem c_Fillings (f : BForm) (text : Byt) : Ctr Tryz.prog 28 [frmT f, Ty.str (bs text)] (Ty.tup [Ty.sl StrE (filV f text).1, Ty.int .i64 (filV f text).2]) := by
  refine fn_intro Tryz.func28 rfl (by decide) Tryz.ntmps28 (by exact Nat.le_of_ble_eq_true rfl) fun w0 M0 => ?_
  refine t_seq ?_
  refine t_region ?_
  refine r_box_agg rfl ?_
  refine asX rfl ?_
  refine asI rfl ?_
  refine r_nil ?_
  refine i_then ?_
  refine t_seq ?_
  refine t_seq ?_
  refine t_region ?_
  refine r_load_ppN rfl rfl rfl (by exact Nat.le_of_ble_eq_true rfl) ?_
  refine mvS' rfl ?_
  refine r_call (c_torn _ _) rfl rfl rfl rfl rfl ?_
  refine asI rfl ?_
  refine r_nil ?_
  refine i_then ?_
  refine t_seq ?_
  refine t_region ?_
  refine mvI rfl ?_
  refine r_bin rfl rfl rfl ?_
  refine r_nil ?_
  refine i_then ?_
  refine t_cond_ndec rfl (fun hc1 => ?_) (fun hc1 => ?_)
  ·
    refine t_seq ?_
    refine t_region ?_
    refine mvI rfl ?_
    refine asX rfl ?_
    refine asI rfl ?_
    refine r_nil ?_
    refine i_then ?_
    refine t_ret ?_
    refine i_then_ret ?_
    refine i_rp2 rfl rfl rfl ?_ ?_
    all_goals skip
    all_goals (rw [fv_1 hc1]; first | exact ret_refl rfl rfl | exact ret_nil)
  ·
    refine t_skip ?_
    refine i_then ?_
    refine t_seq ?_
    refine t_region ?_
    refine r_alloc rfl (by exact List.cons_ne_nil _ _) rfl ?_
    refine r_nil ?_
    refine i_then ?_
    refine t_seq ?_
    obtain ⟨hf, hl, h4⟩ := torn_ok hc1
    have hfew := all_few (f := f) h4
    refine t_region ?_
    refine mvS' rfl ?_
    refine r_makeFunc rfl ?_
    refine r_build rfl rfl (by exact List.cons_ne_nil _ _) rfl (by repeat (first | exact (Parts.nil : Parts _ _ [] _) | (show Parts _ _ ((_, _) :: _) _; apply Parts.one; (· first | exact (rfl : _ = Ty.clo _ _) | exact (rfl : _ = Ty.str _)); (· exact rfl)))) (by exact (rfl : _ = some [_, _])) ?_
    refine r_load_ppN rfl rfl rfl (by exact Nat.le_of_ble_eq_true rfl) ?_
    refine r_op (opT_callFd (fid := 84) (caps := [Ty.ptr 8 0]) (S := [8, 500]) (K := [500]) (mv := [500]) (F := [1000]) (px := 2 ≤ (allF f text).length) (ok := fun k => k < 2) (tgs := fun k => [(8, Cont.cells 53 [Ty.row StrE 9 500 (filL f text k)])]) (tgx := [(8, Cont.cells 53 [Ty.row StrE 9 500 (filL f text 2)])]) (sets := [(8, Cont.cells 53 [Ty.row StrE 9 500 (filL f text 2)])]) (ρ := [(8, 1000), (500, 1001)]) (pre := fun k => [(1000, Cont.cells 53 [Ty.row StrE 9 1001 (filL f text k)])]) (post := fun k => [(1000, Cont.cells 53 [Ty.row StrE 9 1001 (filL f text (k + 1))])]) (argsF := fun k => [Ty.str (bs (nth (allF f text) k).1), Ty.any, Ty.ptr 1000 0]) (go := fun k => decide (k + 1 < 2)) (c_fill f hf text hl) rfl fin_hfv (fun _ => ⟨rfl, rfl⟩) (k_Fillings1 [] [] (by decide)).ex (fun k h2 hk => by rw [List.length_map] at hk; exact fil_ctr hk h2) rfl rfl rfl rfl (by decide) (by intro t h; rw [List.mem_singleton.1 h]; exact ⟨1001, by decide⟩) (by decide) (by decide) (allE_pub f _) (fun k tys hk => by obtain ⟨_, rfl⟩ := enc_at hk; exact cv_cons (cv_cons (cv_cons cv_nil (cv_ptr (by decide))) cv_any) (cv_pub rfl rfl)) (fun k => pre_cons (a := 8) (by decide) rfl (cc_cells (by decide) (cv_cons cv_nil (cv_row (by decide)))) pre_nil) (fun k _ _ => post_cons (a := 8) (b := 1000) (by decide) rfl (cc_cells (by decide) (cv_cons cv_nil (cv_row (by decide)))) post_nil) (fun k h2 hg => fil_px h2 (of_decide_eq_false hg)) (by decide) (fun k _ _ hg => of_decide_eq_true hg) (fun k h1 h2 hg => by have hg := of_decide_eq_false hg; rw [List.length_map] at h2; omega) (fun _ => rfl) rfl (allTags_cons rfl (Cont.sub_subs ⟨fil_nil0, trivial⟩) allTags_nil) (by decide) (by intro t h; rw [List.mem_singleton.1 h]; exact ⟨by decide, by simp⟩) (by simp) rfl (fun hlt w M h x hx => by rw [List.length_map] at h hlt; rw [filL_all hlt] at h; exact h x hx) (fun _ w M h x hx => h x hx)) ?_
    refine r_nil ?_
    refine i_then ?_
    refine t_seq ?_
    refine t_region ?_
    refine r_load_ptr rfl rfl (by decide) rfl rfl rfl ?_
    refine asR rfl ?_
    refine asI rfl ?_
    refine r_nil ?_
    refine i_then ?_
    refine t_ret ?_
    refine i_rp2 rfl rfl rfl ?_ ?_
    all_goals skip
    all_goals (rw [fv_2 hc1]; first | exact ret_row (by decide) | exact ret_refl rfl rfl)
set_option maxRecDepth 100000 in
theorem c_bookP (f : BForm) (p : Rdr) (h : p.read.length ≤ 13) (hw : f.widths.length ≤ 1000) (hn : ∀ r ∈ p.read, r.nums.length ≤ 1000) : Ctr Tryz.prog 86 [Ty.pp (rdrPl f p)] (bokT ⟨f, p.read⟩) := by
  refine fn_intro Tryz.func86 rfl (by decide) Tryz.ntmps86 (by exact Nat.le_of_ble_eq_true rfl) fun w0 M0 => ?_
  refine t_seq ?_
  refine t_region ?_
  refine r_alloc rfl (by exact List.cons_ne_nil _ _) rfl ?_
  refine r_nil ?_
  refine i_then ?_
  refine t_seq ?_
  refine t_draw mixed rfl ?_
  refine mvP rfl ?_
  refine r_nilCheck_pp rfl ?_
  refine r_field_pp rfl rfl rfl rfl rfl (by decide) ?_
  refine r_load_ppN rfl rfl rfl (by exact Nat.le_of_ble_eq_true rfl) ?_
  refine mvP rfl ?_
  refine r_nilCheck_pp rfl ?_
  refine r_field_pp rfl rfl rfl rfl rfl (by decide) ?_
  refine r_load_pp rfl rfl rfl rfl ?_
  refine r_build rfl rfl (by exact List.cons_ne_nil _ _) rfl (by repeat (first | exact (Parts.nil : Parts _ _ [] _) | (show Parts _ _ ((_, _) :: _) _; apply Parts.one; (· exact (rfl : _ = Ty.sl _ _)); (· exact rfl)) | (show Parts _ _ ((_, _) :: _) _; apply Parts.agg; (· exact (rfl : _ = Ty.agg _))))) (by exact (rfl : _ = some [_, _, _])) ?_
  refine r_call (c_own ⟨f, p.read⟩ h hw hn) rfl rfl rfl rfl rfl ?_
  refine r_storeN rfl rfl (by decide) rfl rfl rfl rfl rfl rfl ?_
  refine r_nil ?_
  refine ⟨by kernel_rfl, ?_⟩
  refine i_then ?_
  refine t_ret ?_
  refine i_rcell rfl rfl rfl rfl (by decide) rfl rfl rfl ?_
  exact ret_refl rfl rfl
set_option maxRecDepth 100000 in
theorem k_Restore1 (f : BForm) (p : Rdr) (h : p.read.length ≤ 13) (hw : f.widths.length ≤ 1000) (hn : ∀ r ∈ p.read, r.nums.length ≤ 1000) (b : Book) (k : Nat) (hk : k ≤ 2) : CtrG Tryz.prog 85 [1000, 1001] [(1000, Cont.cells 27 (bokTys b)), (1001, Cont.cells 3 [Ty.int .i64 (k : Nat)])] [Ty.any, Ty.pp (rdrPl f p), Ty.ptr 1000 0, Ty.ptr 1001 0] [(1000, Cont.cells 27 (bokTys ⟨f, p.read⟩)), (1001, Cont.cells 3 [Ty.int .i64 ((k + 1 : Nat) : Int)])] (Ty.bool (decide (k + 1 < 2))) := by
  refine fnG_intro Tryz.func85 rfl (by decide) Tryz.ntmps85 (by exact Nat.le_of_ble_eq_true rfl) fun w0 M0 => ?_
  refine t_seq ?_
  refine t_region ?_
  refine asB rfl ?_
  refine r_nil ?_
  refine i_then ?_
  refine t_seq ?_
  refine t_region ?_
  refine mvP rfl ?_
  refine r_call (c_bookP f p h hw hn) rfl rfl rfl rfl rfl ?_
  refine r_storeN rfl rfl (by decide) rfl rfl rfl rfl rfl rfl ?_
  refine r_nil ?_
  refine i_then ?_
  refine t_seq ?_
  refine t_region ?_
  refine r_load_ptr rfl rfl (by decide) rfl rfl rfl ?_
  refine r_add rfl rfl (by omega) (by omega) ?_
  refine r_store1 rfl rfl (by decide) rfl rfl (by exact (rfl : _ = Ty.int _ _)) rfl (by exact Nat.le_of_ble_eq_true rfl) rfl rfl (by exact (rfl : _ = [_])) ?_
  refine r_nil ?_
  refine i_then ?_
  refine t_seq ?_
  refine t_region ?_
  refine r_load_ptr rfl rfl (by decide) rfl rfl rfl ?_
  refine r_bin rfl rfl rfl ?_
  refine asB rfl ?_
  refine r_nil ?_
  refine i_then ?_
  refine t_ret ?_
  refine g_ret1 [1000, 1001] rfl rfl (by decide) ?_ ?_
  exact rc_cons rfl (cc_cells_eq (by decide) rfl rfl rfl) (rc_cons rfl (cc_cells_eq (by decide) rfl rfl rfl) rc_nil)
  all_goals skip
  all_goals exact rg_cv (cv_sub rfl rfl (Ty.sub_bool (res_b k)))
theorem res_ctr {f : BForm} {text : Byt} {k : Nat} (hf : FormOk f) (ho : RdrOk f (nth (allF f text) k).2) (h2 : k < 2) : CtrG Tryz.prog 85 [1000, 1001] [(1000, Cont.cells 27 (bokTys (resB f text k))), (1001, Cont.cells 3 [Ty.int .i64 (k : Nat)])] [Ty.any, Ty.pp (rdrPl f (nth (allF f text) k).2), Ty.ptr 1000 0, Ty.ptr 1001 0] [(1000, Cont.cells 27 (bokTys (resB f text (k + 1)))), (1001, Cont.cells 3 [Ty.int .i64 ((k + 1 : Nat) : Int)])] (Ty.bool (decide (k + 1 < 2))) := by
  have h := k_Restore1 f (nth (allF f text) k).2 ho.len (by have := hf.n2; omega) ho.num_len (resB f text k) k (by omega)
  rwa [← resB_succ] at h
set_option maxRecDepth 100000 in
theorem c_Restore (f : BForm) (text : Byt) : Ctr Tryz.prog 29 [frmT f, Ty.str (bs text)] (Ty.tup [bokT (resV f text).1, Ty.int .i64 (resV f text).2]) := by
  refine fn_intro Tryz.func29 rfl (by decide) Tryz.ntmps29 (by exact Nat.le_of_ble_eq_true rfl) fun w0 M0 => ?_
  refine t_seq ?_
  refine t_region ?_
  refine r_box_agg rfl ?_
  refine r_alloc rfl (by exact List.cons_ne_nil _ _) rfl ?_
  refine asI rfl ?_
  refine r_nil ?_
  refine i_then ?_
  refine t_seq ?_
  refine t_seq ?_
  refine t_region ?_
  refine r_load_ppN rfl rfl rfl (by exact Nat.le_of_ble_eq_true rfl) ?_
  refine mvS' rfl ?_
  refine r_call (c_torn _ _) rfl rfl rfl rfl rfl ?_
  refine asI rfl ?_
  refine r_nil ?_
  refine i_then ?_
  refine t_seq ?_
  refine t_region ?_
  refine mvI rfl ?_
  refine r_bin rfl rfl rfl ?_
  refine r_nil ?_
  refine i_then ?_
  refine t_cond_ndec rfl (fun hc1 => ?_) (fun hc1 => ?_)
  ·
    refine t_seq ?_
    refine t_region ?_
    refine r_build rfl rfl (by exact List.cons_ne_nil _ _) rfl (by repeat (exact (Parts.nil : Parts _ _ [] _))) (by exact (rfl : _ = some [_, _, _])) ?_
    refine mvI rfl ?_
    refine r_storeN rfl rfl (by decide) rfl rfl rfl rfl rfl rfl ?_
    refine asI rfl ?_
    refine r_nil ?_
    refine i_then ?_
    refine t_ret ?_
    refine i_then_ret ?_
    refine i_rcell2 rfl rfl rfl rfl rfl (by decide) rfl rfl rfl ?_ ?_
    all_goals skip
    all_goals (rw [rv_1 hc1]; first | exact ret_sub rfl rfl zero_bok | exact ret_refl rfl rfl)
  ·
    refine t_skip ?_
    refine i_then ?_
    refine t_seq ?_
    refine t_region ?_
    refine r_alloc rfl (by exact List.cons_ne_nil _ _) rfl ?_
    refine r_nil ?_
    refine i_then ?_
    refine t_seq ?_
    refine t_region ?_
    refine r_alloc rfl (by exact List.cons_ne_nil _ _) rfl ?_
    refine r_store1 rfl rfl (by decide) rfl rfl (by exact (rfl : _ = Ty.int _ _)) rfl (by exact Nat.le_of_ble_eq_true rfl) rfl rfl (by exact (rfl : _ = [_])) ?_
    refine r_nil ?_
    refine i_then ?_
    refine t_seq ?_
    obtain ⟨hf, hl, h4⟩ := torn_ok hc1
    have hfew := all_few (f := f) h4
    refine t_region ?_
    refine mvS' rfl ?_
    refine r_makeFunc rfl ?_
    refine r_build rfl rfl (by exact List.cons_ne_nil _ _) rfl (by repeat (first | exact (Parts.nil : Parts _ _ [] _) | (show Parts _ _ ((_, _) :: _) _; apply Parts.one; (· first | exact (rfl : _ = Ty.clo _ _) | exact (rfl : _ = Ty.str _)); (· exact rfl)))) (by exact (rfl : _ = some [_, _])) ?_
    refine r_load_ppN rfl rfl rfl (by exact Nat.le_of_ble_eq_true rfl) ?_
    refine r_op (opT_callFd (fid := 85) (caps := [Ty.ptr 8 0, Ty.ptr 9 0]) (S := [8, 9]) (K := []) (mv := []) (F := [1000, 1001]) (px := 2 ≤ (allF f text).length) (ok := fun k => k < 2) (tgs := fun k => [(8, Cont.cells 27 (bokTys (resB f text k))), (9, Cont.cells 3 [Ty.int .i64 (k : Nat)])]) (tgx := [(8, Cont.cells 27 (bokTys (resB f text 2))), (9, Cont.cells 3 [Ty.int .i64 ((2 : Nat) : Int)])]) (sets := [(8, Cont.cells 27 (bokTys (resB f text (min 2 (allF f text).length)))), (9, Cont.cells 3 [Ty.int .i64 ((min 2 (allF f text).length : Nat) : Int)])]) (ρ := [(8, 1000), (9, 1001)]) (pre := fun k => [(1000, Cont.cells 27 (bokTys (resB f text k))), (1001, Cont.cells 3 [Ty.int .i64 (k : Nat)])]) (post := fun k => [(1000, Cont.cells 27 (bokTys (resB f text (k + 1)))), (1001, Cont.cells 3 [Ty.int .i64 ((k + 1 : Nat) : Int)])]) (argsF := fun k => [Ty.any, Ty.pp (rdrPl f (nth (allF f text) k).2), Ty.ptr 1000 0, Ty.ptr 1001 0]) (go := fun k => decide (k + 1 < 2)) (c_fill f hf text hl) rfl fin_hfv (fun _ => ⟨rfl, rfl⟩) (k_Restore1 f Rdr.new (by decide) (by have := hf.n2; omega) (by intro r h; cases h) Book.zero 0 (by decide)).ex (fun k h2 hk => by rw [List.length_map] at hk; have ho := all_ok hf hk; exact res_ctr hf ho h2) rfl rfl rfl rfl (by decide) (by intro t h; cases h) (by decide) (by decide) (allE_pub f _) (fun k tys hk => by obtain ⟨_, rfl⟩ := enc_at hk; exact cv_cons (cv_cons (cv_cons (cv_cons cv_nil (cv_ptr (by decide))) (cv_ptr (by decide))) (cv_pub rfl rfl)) cv_any) (fun k => pre_cons (a := 8) (by decide) rfl (cc_cells_eq (by decide) rfl rfl rfl) (pre_cons (a := 9) (by decide) rfl (cc_cells_eq (by decide) rfl rfl rfl) pre_nil)) (fun k _ _ => post_cons (a := 8) (b := 1000) (by decide) rfl (cc_cells_eq (by decide) rfl rfl rfl) (post_cons (a := 9) (b := 1001) (by decide) rfl (cc_cells_eq (by decide) rfl rfl rfl) post_nil)) (fun k h2 hg => res_px h2 (of_decide_eq_false hg)) (by decide) (fun k _ _ hg => of_decide_eq_true hg) (fun k h1 h2 hg => by have hg := of_decide_eq_false hg; rw [List.length_map] at h2; omega) (fun _ => rfl) rfl (allTags_cons rfl (Cont.sub_subs res_zero) (allTags_cons rfl (Cont.sub_subs ⟨Ty.sub_int rfl, trivial⟩) allTags_nil)) (by decide) (by intro t h; cases h) (by simp) rfl (fun hlt w M h x hx => by rw [List.length_map] at h hlt; rw [show min 2 (allF f text).length = (allF f text).length by omega] at hx; exact h x hx) (fun hge w M h x hx => by rw [show min 2 (allF f text).length = 2 by omega] at hx; exact h x hx)) ?_
    refine r_nil ?_
    refine i_then ?_
    refine t_seq ?_
    refine t_seq ?_
    refine t_region ?_
    refine r_load_ptr rfl rfl (by decide) rfl rfl rfl ?_
    refine r_nil ?_
    refine i_then ?_
    refine t_block ?_
    refine t_seq ?_
    refine t_region ?_
    refine r_bin rfl rfl rfl ?_
    refine asB rfl ?_
    refine r_nil ?_
    refine i_then ?_
    refine t_cond_dec rfl (fun hc2 => ?_) (fun hc2 => ?_)
    ·
      refine t_seq ?_
      refine t_region ?_
      refine r_build rfl rfl (by exact List.cons_ne_nil _ _) rfl (by repeat (exact (Parts.nil : Parts _ _ [] _))) (by exact (rfl : _ = some [_, _, _])) ?_
      refine r_storeN rfl rfl (by decide) rfl rfl rfl rfl rfl rfl ?_
      refine asI rfl ?_
      refine r_nil ?_
      refine i_then ?_
      refine t_ret ?_
      refine i_block_ret ?_
      refine i_then_ret ?_
      refine i_rcell2 rfl rfl rfl rfl rfl (by decide) rfl rfl rfl ?_ ?_
      all_goals skip
      all_goals (rw [rv_2 hc1 hc2]; first | exact ret_sub rfl rfl zero_bok | exact ret_refl rfl rfl)
    ·
      refine t_seq ?_
      refine t_region ?_
      refine r_bin rfl rfl rfl ?_
      refine asB rfl ?_
      refine r_nil ?_
      refine i_then ?_
      refine t_cond_dec rfl (fun hc3 => ?_) (fun hc3 => ?_)
      ·
        refine t_seq ?_
        refine t_region ?_
        refine r_load_ptrN rfl rfl (by decide) rfl rfl (by exact Nat.le_of_ble_eq_true rfl) ?_
        refine r_storeN rfl rfl (by decide) rfl rfl rfl rfl rfl rfl ?_
        refine asI rfl ?_
        refine r_nil ?_
        refine i_then ?_
        refine t_ret ?_
        refine i_block_ret ?_
        refine i_then_ret ?_
        refine i_rcell2 rfl rfl rfl rfl rfl (by decide) rfl rfl rfl ?_ ?_
        all_goals skip
        all_goals (rw [rv_3 hc1 hc2 hc3]; exact ret_refl rfl rfl)
      ·
        refine t_skip ?_
        refine i_block ?_
        refine i_then ?_
        refine t_seq ?_
        refine t_region ?_
        refine r_build rfl rfl (by exact List.cons_ne_nil _ _) rfl (by repeat (exact (Parts.nil : Parts _ _ [] _))) (by exact (rfl : _ = some [_, _, _])) ?_
        refine r_storeN rfl rfl (by decide) rfl rfl rfl rfl rfl rfl ?_
        refine asI rfl ?_
        refine r_nil ?_
        refine i_then ?_
        refine t_ret ?_
        refine i_rcell2 rfl rfl rfl rfl rfl (by decide) rfl rfl rfl ?_ ?_
        all_goals skip
        all_goals (rw [rv_4 hc1 hc2 hc3]; first | exact ret_sub rfl rfl zero_bok | exact ret_refl rfl rfl)
end Go.Proofs.YtjjndkenddigiaaGreatDoor

namespace Go.Proofs.YtjjndkenddigiaaGreatDoor
open Go Go.T Go.RowKit
def bTwo : Book := ⟨⟨[3, 2], 2⟩, [⟨[12, 5], false⟩, ⟨[100, 40], false⟩, ⟨[7, 0], true⟩]⟩
def tTwo : Byt := [32, 32, 49, 50, 124, 32, 53, 124, 107, 10, 32, 49, 48, 48, 124, 52, 48, 124, 114, 10, 61, 32, 32, 49, 49, 50, 124, 32, 32, 52, 53, 124, 10, 43, 32, 32, 49, 49, 50, 124, 32, 32, 52, 53, 124, 10, 45, 32, 32, 55, 124, 32, 48, 124, 106, 10, 61, 32, 32, 49, 49, 50, 124, 32, 32, 52, 53, 124, 10]
def tTwo1 : Byt := tTwo.take 8 ++ [106] ++ tTwo.drop 9
def tTwo2 : Byt := tTwo.take 34
def tTwo3 : Byt := [32, 32, 63, 50, 124, 32, 53, 124, 63, 10, 32, 49, 48, 48, 124, 52, 48, 124, 114, 10, 61, 32, 32, 49, 49, 50, 124, 32, 32, 52, 53, 124, 10, 43, 32, 32, 49, 49, 50, 124, 32, 32, 52, 53, 124, 10, 45, 32, 32, 55, 124, 32, 48, 124, 106, 10, 61, 32, 32, 49, 49, 50, 124, 32, 32, 52, 53, 124, 10]
def fOne : BForm := ⟨[1], 1⟩
def tOne : Byt := [32, 63, 124, 63, 10, 61, 32, 32, 63, 124, 10]
def lOne : List Byt := [[32, 48, 124, 97, 10, 61, 32, 32, 48, 124, 10], [32, 49, 124, 98, 10, 61, 32, 32, 49, 124, 10]]
theorem aw1 : printV bTwo = tTwo := by kernel_rfl
theorem aw1' : bokY bTwo = 0 := by kernel_rfl
theorem aw2 : parV bTwo.form tTwo1 = (Book.zero, 8, 11) := by kernel_rfl
theorem aw3 : parV bTwo.form tTwo2 = (Book.zero, 34, 11) := by kernel_rfl
theorem aw4 : tearV tTwo [2, 8] = (tTwo3, 0) := by kernel_rfl
theorem aw5 : allF bTwo.form tTwo3 = [(tTwo, (runR bTwo.form Rdr.new tTwo).2)] := by kernel_rfl
theorem aw5' : (runR bTwo.form Rdr.new tTwo).2.read = bTwo.rows := by kernel_rfl
theorem aw6 : (allF fOne tOne).length = 10 := by kernel_rfl
theorem aw7 : ((allF fOne tOne).take 2).map Prod.fst = lOne := by kernel_rfl
theorem aw8 : footV bTwo = [[112, 45], [112, 45]] := by kernel_rfl
end Go.Proofs.YtjjndkenddigiaaGreatDoor

namespace Go.Proofs.YtjjndkenddigiaaGreatDoor
open Go Go.T
set_option maxHeartbeats 4000000
theorem pubTy_row_eq {A : As} {α : Type} {E : El α} {T tg : Nat} {xs ys : List α} (h : xs = ys) : PubTy A tg (Ty.row E T tg xs) (Ty.sl E ys) := by subst h; exact pubTy_row
theorem row_eqB (a b : BRow) : ((a.struck == b.struck) && decide (a.nums = b.nums)) = decide (a = b) := by
  cases a; cases b; rw [Bool.eq_iff_iff]; simp [and_comm]
theorem sameB_eq (a b : Book) : ((decide (a.form.widths = b.form.widths) && decide (a.form.lines = b.form.lines)) && decide (a.rows = b.rows)) = decide (a = b) := by
  obtain ⟨⟨aw, al⟩, ar⟩ := a
  obtain ⟨⟨bw, bl⟩, br⟩ := b
  rw [Bool.eq_iff_iff]; simp [and_assoc]
theorem aw_res : resV bTwo.form tTwo3 = (bTwo, 0) := by
  have e1 : tornE bTwo.form tTwo3 = 0 := by kernel_rfl
  unfold resV resB
  rw [aw5, e1]
  have := aw5'
  rw [if_neg (by decide), if_neg (by decide), if_pos (by decide), if_neg (by decide)]
  show ((⟨bTwo.form, (runR bTwo.form Rdr.new tTwo).2.read⟩ : Book), (0 : Int)) = _
  rw [this]
theorem aw_cnt : cntV fOne tOne = (10, 0) := by
  have e1 : tornE fOne tOne = 0 := by kernel_rfl
  unfold cntV; rw [aw6, e1]; rfl
theorem aw_fil : filV fOne tOne = (lOne, 0) := by
  have e1 : tornE fOne tOne = 0 := by kernel_rfl
  unfold filV filL; rw [aw7, e1]; rfl
attribute [local irreducible] printV parV tearV cntV filV resV footV bokY
attribute [local irreducible] dInt dBool dSl dPp dPtr dAgg dTup dClo dAny dEx dStr dGd dCells dVec dVs dRow dOp nth Tri Into TOps Ctr bodyPost Exit.then Exit.inBlock Code.wp Code.wpIn dPa dArr dMp dMap CtrG keepPost iterPost bodyPostM roundQ
set_option maxRecDepth 100000 in
theorem c_same1 (a b : BRow) : Ctr Tryz.prog 77 [rowT a, rowT b] (Ty.bool (decide (a = b))) := by
  refine fn_intro Tryz.func77 rfl (by decide) Tryz.ntmps77 (by exact Nat.le_of_ble_eq_true rfl) fun w0 M0 => ?_
  refine t_seq ?_
  refine t_region ?_
  refine r_box_agg rfl ?_
  refine r_box_agg rfl ?_
  refine asB rfl ?_
  refine r_nil ?_
  refine i_then ?_
  refine t_seq ?_
  refine t_region ?_
  refine r_field_pp rfl rfl rfl rfl rfl (by decide) ?_
  refine r_load_pp rfl rfl rfl rfl ?_
  refine r_field_pp rfl rfl rfl rfl rfl (by decide) ?_
  refine r_load_pp rfl rfl rfl rfl ?_
  refine r_eql_B und4 rfl rfl ?_
  refine mvB rfl ?_
  apply r_guard (s := 10) rfl rfl rfl
  · intro hg; apply opT_of; (refine r_field_pp rfl rfl rfl rfl rfl (by decide) ?_); refine r_nil ?_; exact rfl
  · exact rfl
  · exact rfl
  apply r_guard (s := 10) rfl rfl rfl
  · intro hg; apply opT_strip (s := 11) rfl (by (rw [hg]; rfl)); apply opT_of; (refine r_load_pp rfl rfl rfl rfl ?_); refine r_nil ?_; exact rfl
  · exact rfl
  · exact rfl
  apply r_guard (s := 10) rfl rfl rfl
  · intro hg; apply opT_of; (refine r_field_pp rfl rfl rfl rfl rfl (by decide) ?_); refine r_nil ?_; exact rfl
  · exact rfl
  · exact rfl
  apply r_guard (s := 10) rfl rfl rfl
  · intro hg; apply opT_strip (s := 13) rfl (by (rw [hg]; rfl)); apply opT_of; (refine r_load_pp rfl rfl rfl rfl ?_); refine r_nil ?_; exact rfl
  · exact rfl
  · exact rfl
  apply r_guard (s := 10) rfl rfl rfl
  · intro hg; apply opT_strip (s := 12) rfl (by (rw [hg]; rfl)); apply opT_strip (s := 14) rfl (by (rw [hg]; rfl)); apply opT_of; (refine r_call (c_Eq_int _ _) rfl rfl rfl rfl rfl ?_); refine r_nil ?_; exact rfl
  · exact rfl
  · exact rfl
  refine r_and rfl rfl ?_
  refine asB rfl ?_
  refine r_nil ?_
  refine i_then ?_
  refine t_ret ?_
  refine i_rp1 rfl rfl ?_
  all_goals skip
  exact ret_eq rfl rfl (congrArg Ty.bool (row_eqB a b))
set_option maxRecDepth 100000 in
theorem c_EqualFunc (a b : List BRow) : Ctr Tryz.prog 76 [Ty.sl BRowE a, Ty.sl BRowE b, Ty.clo 77 []] (Ty.bool (decide (a = b))) := by
  refine fn_intro Tryz.func76 rfl (by decide) Tryz.ntmps76 (by exact Nat.le_of_ble_eq_true rfl) fun w0 M0 => ?_
  refine t_fact (s := 0) rfl rfl sl_len fun ha => ?_
  refine t_fact (s := 1) rfl rfl sl_len fun hb => ?_
  refine t_seq ?_
  refine t_region ?_
  refine asB rfl ?_
  refine r_nil ?_
  refine i_then ?_
  refine t_seq ?_
  refine t_seq ?_
  refine t_region ?_
  refine mvS rfl ?_
  refine r_len rfl rfl rfl ?_
  refine mvS rfl ?_
  refine r_len rfl rfl rfl ?_
  refine r_bin rfl rfl rfl ?_
  refine r_nil ?_
  refine i_then ?_
  refine t_cond_ndec rfl (fun hc1 => ?_) (fun hc1 => ?_)
  ·
    try (simp only [Classical.not_not] at hc1)
    refine t_seq ?_
    refine t_region ?_
    refine asB rfl ?_
    refine r_nil ?_
    refine i_then ?_
    refine t_ret ?_
    refine i_then_ret ?_
    refine i_rp1 rfl rfl ?_
    all_goals skip
    exact ret_eq rfl rfl (congrArg Ty.bool (by rw [eq_comm, decide_eq_false_iff_not]; intro e; subst e; exact hc1 rfl))
  ·
    try (simp only [Classical.not_not] at hc1)
    refine t_skip ?_
    refine i_then ?_
    refine t_seq ?_
    refine t_seq ?_
    refine t_region ?_
    refine mvS rfl ?_
    refine r_len rfl rfl rfl ?_
    refine mvI rfl ?_
    refine r_nil ?_
    refine i_then ?_
    refine t_block ?_
    refine t_loop (fun (k : {k : Nat // a.take k = b.take k}) => live [(1, Ty.sl BRowE b), (2, Ty.clo 77 []), (15, Ty.sl BRowE a), (16, Ty.int .i64 a.length), (17, Ty.int .i64 (k.1 : Nat))] []) (fun k => a.length - k.1) (⟨0, by simp⟩) ?_ fun k => ?_
    · (refine Ent.mk' ?_ ?_ <;> (repeat' (first | exact allSub_zero | exact allTags_nil | refine allSub_succ' ?_ (Ty.sub_any _) | refine allSub_succ' ?_ (Ty.sub_refl _))))
    ·
      have hlen : a.length = b.length := by omega
      refine t_seq ?_
      refine t_region ?_
      refine r_bin rfl rfl rfl ?_
      refine r_nil ?_
      refine i_then ?_
      refine t_seq ?_
      refine t_cond_dec rfl (fun hc2 => ?_) (fun hc2 => ?_)
      ·
        try (simp only [Classical.not_not] at hc2)
        refine t_skip ?_
        refine i_then ?_
        refine t_seq ?_
        refine t_block ?_
        refine t_seq ?_
        refine t_region ?_
        refine mvI rfl ?_
        refine r_index_slN rfl rfl rfl rfl rfl rfl (by omega) ?_
        refine r_load_ppN rfl rfl rfl (by exact Nat.le_of_ble_eq_true rfl) ?_
        refine r_alloc rfl (by exact List.cons_ne_nil _ _) rfl ?_
        refine asI rfl ?_
        refine r_storeN rfl rfl (by decide) rfl rfl rfl rfl rfl rfl ?_
        refine r_nil ?_
        refine i_then ?_
        refine t_seq ?_
        refine t_region ?_
        refine mvS rfl ?_
        refine mvI rfl ?_
        refine r_index_slN rfl rfl rfl rfl rfl rfl (by omega) ?_
        refine r_load_ppN rfl rfl rfl (by exact Nat.le_of_ble_eq_true rfl) ?_
        refine r_alloc rfl (by exact List.cons_ne_nil _ _) rfl ?_
        refine r_storeN rfl rfl (by decide) rfl rfl rfl rfl rfl rfl ?_
        refine r_nil ?_
        refine i_then ?_
        refine t_seq ?_
        refine t_region ?_
        refine mvF rfl ?_
        refine r_load_ptrN rfl rfl (by decide) rfl rfl (by exact Nat.le_of_ble_eq_true rfl) ?_
        refine r_load_ptrN rfl rfl (by decide) rfl rfl (by exact Nat.le_of_ble_eq_true rfl) ?_
        refine r_callv rfl (c_same1 (nth a k.1) (nth b k.1)) rfl rfl rfl rfl rfl ?_
        refine r_not rfl ?_
        refine r_nil ?_
        refine i_then ?_
        refine t_cond_ndec rfl (fun hc3 => ?_) (fun hc3 => ?_)
        ·
          try (simp only [Classical.not_not] at hc3)
          refine t_seq ?_
          refine t_region ?_
          refine asB rfl ?_
          refine r_nil ?_
          refine i_then ?_
          refine t_ret ?_
          refine i_block_ret ?_
          refine i_then_ret ?_
          refine i_then_ret ?_
          refine i_block_ret ?_
          refine i_then_ret ?_
          refine i_rp1 rfl rfl ?_
          all_goals skip
          exact ret_eq rfl rfl (congrArg Ty.bool (by rw [eq_comm, decide_eq_false_iff_not]; exact ne_of_nth (k := k.1) (hc3)))
        ·
          try (simp only [Classical.not_not] at hc3)
          refine t_skip ?_
          refine i_block ?_
          refine i_then ?_
          refine t_region ?_
          refine r_add rfl rfl (by omega) (by omega) ?_
          refine mvI rfl ?_
          refine r_nil ?_
          refine i_round (⟨k.1 + 1, by rw [take_nth (by omega), take_nth (by omega), k.2, hc3]⟩) ?_ (by show a.length - (k.1 + 1) < a.length - k.1; omega)
          (refine Ent.mk' ?_ ?_ <;> (repeat' (first | exact allSub_zero | exact allTags_nil | refine allSub_succ' ?_ (Ty.sub_any _) | refine allSub_succ' ?_ (Ty.sub_refl _))))
          all_goals skip
      ·
        try (simp only [Classical.not_not] at hc2)
        refine t_exit ?_
        refine i_then_exit ?_
        refine i_then_exit ?_
        refine i_block_exit rfl ?_
        refine i_then ?_
        refine t_seq ?_
        refine t_region ?_
        refine asB rfl ?_
        refine r_nil ?_
        refine i_then ?_
        refine t_ret ?_
        refine i_rp1 rfl rfl ?_
        all_goals skip
        exact ret_eq rfl rfl (congrArg Ty.bool (by rw [eq_comm, decide_eq_true_eq]; have := k.2; rwa [List.take_of_length_le (by omega), List.take_of_length_le (by omega)] at this))
set_option maxRecDepth 100000 in
theorem c_same (a b : Book) : Ctr Tryz.prog 19 [bokT a, bokT b] (Ty.bool (decide (a = b))) := by
  refine fn_intro Tryz.func19 rfl (by decide) Tryz.ntmps19 (by exact Nat.le_of_ble_eq_true rfl) fun w0 M0 => ?_
  refine t_seq ?_
  refine t_region ?_
  refine r_box_agg rfl ?_
  refine r_box_agg rfl ?_
  refine asB rfl ?_
  refine r_nil ?_
  refine i_then ?_
  refine t_seq ?_
  refine t_region ?_
  refine r_field_pp rfl rfl rfl rfl rfl (by decide) ?_
  refine r_field_pp rfl rfl rfl rfl rfl (by decide) ?_
  refine r_load_pp rfl rfl rfl rfl ?_
  refine r_field_pp rfl rfl rfl rfl rfl (by decide) ?_
  refine r_field_pp rfl rfl rfl rfl rfl (by decide) ?_
  refine r_load_pp rfl rfl rfl rfl ?_
  refine r_call (c_Eq_int _ _) rfl rfl rfl rfl rfl ?_
  refine mvB rfl ?_
  apply r_guard (s := 12) rfl rfl rfl
  · intro hg; apply opT_of; (refine r_field_pp rfl rfl rfl rfl rfl (by decide) ?_); refine r_nil ?_; exact rfl
  · exact rfl
  · exact rfl
  apply r_guard (s := 12) rfl rfl rfl
  · intro hg; apply opT_strip (s := 13) rfl (by (rw [hg]; rfl)); apply opT_of; (refine r_field_pp rfl rfl rfl rfl rfl (by decide) ?_); refine r_nil ?_; exact rfl
  · exact rfl
  · exact rfl
  apply r_guard (s := 12) rfl rfl rfl
  · intro hg; apply opT_strip (s := 14) rfl (by (rw [hg]; rfl)); apply opT_of; (refine r_load_pp rfl rfl rfl rfl ?_); refine r_nil ?_; exact rfl
  · exact rfl
  · exact rfl
  apply r_guard (s := 12) rfl rfl rfl
  · intro hg; apply opT_of; (refine r_field_pp rfl rfl rfl rfl rfl (by decide) ?_); refine r_nil ?_; exact rfl
  · exact rfl
  · exact rfl
  apply r_guard (s := 12) rfl rfl rfl
  · intro hg; apply opT_strip (s := 16) rfl (by (rw [hg]; rfl)); apply opT_of; (refine r_field_pp rfl rfl rfl rfl rfl (by decide) ?_); refine r_nil ?_; exact rfl
  · exact rfl
  · exact rfl
  apply r_guard (s := 12) rfl rfl rfl
  · intro hg; apply opT_strip (s := 17) rfl (by (rw [hg]; rfl)); apply opT_of; (refine r_load_pp rfl rfl rfl rfl ?_); refine r_nil ?_; exact rfl
  · exact rfl
  · exact rfl
  apply r_guard (s := 12) rfl rfl rfl
  · intro hg; apply opT_strip (s := 15) rfl (by (rw [hg]; rfl)); apply opT_strip (s := 18) rfl (by (rw [hg]; rfl)); apply opT_of; (refine r_bin rfl rfl rfl ?_); refine r_nil ?_; exact rfl
  · exact rfl
  · exact rfl
  refine r_and rfl rfl ?_
  refine mvB rfl ?_
  apply r_guard (s := 21) rfl rfl rfl
  · intro hg; apply opT_of; (refine r_field_pp rfl rfl rfl rfl rfl (by decide) ?_); refine r_nil ?_; exact rfl
  · exact rfl
  · exact rfl
  apply r_guard (s := 21) rfl rfl rfl
  · intro hg; apply opT_strip (s := 22) rfl (by (rw [hg]; rfl)); apply opT_of; (refine r_load_pp rfl rfl rfl rfl ?_); refine r_nil ?_; exact rfl
  · exact rfl
  · exact rfl
  apply r_guard (s := 21) rfl rfl rfl
  · intro hg; apply opT_of; (refine r_field_pp rfl rfl rfl rfl rfl (by decide) ?_); refine r_nil ?_; exact rfl
  · exact rfl
  · exact rfl
  apply r_guard (s := 21) rfl rfl rfl
  · intro hg; apply opT_strip (s := 24) rfl (by (rw [hg]; rfl)); apply opT_of; (refine r_load_pp rfl rfl rfl rfl ?_); refine r_nil ?_; exact rfl
  · exact rfl
  · exact rfl
  apply r_guard (s := 21) rfl rfl rfl
  · intro hg; apply opT_strip (s := 23) rfl (by (rw [hg]; rfl)); apply opT_strip (s := 25) rfl (by (rw [hg]; rfl)); apply opT_of; (refine r_call (c_EqualFunc a.rows b.rows) rfl rfl rfl rfl rfl ?_); refine r_nil ?_; exact rfl
  · exact rfl
  · exact rfl
  refine r_and rfl rfl ?_
  refine asB rfl ?_
  refine r_nil ?_
  refine i_then ?_
  refine t_ret ?_
  refine i_rp1 rfl rfl ?_
  all_goals skip
  all_goals exact ret_eq rfl rfl (congrArg Ty.bool (sameB_eq a b))
set_option maxRecDepth 100000 in
theorem c_Two : Ctr Tryz.prog 50 [] (Ty.tup [bokT bTwo, Ty.str (bs tTwo)]) := by
  refine fn_intro Tryz.func50 rfl (by decide) Tryz.ntmps50 (by exact Nat.le_of_ble_eq_true rfl) fun w0 M0 => ?_
  refine t_seq ?_
  refine t_region ?_
  refine r_alloc rfl (by exact List.cons_ne_nil _ _) rfl ?_
  refine asS' rfl ?_
  refine r_nil ?_
  refine i_then ?_
  refine t_seq ?_
  refine t_region ?_
  refine r_buildSlice (E := I64) (xs := [_, _]) rfl rfl rfl rfl rfl (by decide) (by decide) (by repeat (first | exact (Parts.nil : Parts _ _ [] _) | (show Parts _ _ ((_, _) :: _) _; apply Parts.one; (· exact (rfl : _ = Ty.int _ _)); (· exact rfl)))) (by exact rfl) rfl ?_
  refine r_build rfl rfl (by exact List.cons_ne_nil _ _) rfl (by repeat (first | exact (Parts.nil : Parts _ _ [] _) | (show Parts _ _ ((_, _) :: _) _; apply Parts.one; (· first | exact (rfl : _ = Ty.int _ _) | exact (rfl : _ = Ty.sl _ _)); (· exact rfl)))) (by exact (rfl : _ = some [_, _])) ?_
  refine r_buildSlice (E := I64) (xs := [_, _]) rfl rfl rfl rfl rfl (by decide) (by decide) (by repeat (first | exact (Parts.nil : Parts _ _ [] _) | (show Parts _ _ ((_, _) :: _) _; apply Parts.one; (· exact (rfl : _ = Ty.int _ _)); (· exact rfl)))) (by exact rfl) rfl ?_
  refine r_build rfl rfl (by exact List.cons_ne_nil _ _) rfl (by repeat (first | exact (Parts.nil : Parts _ _ [] _) | (show Parts _ _ ((_, _) :: _) _; apply Parts.one; (· exact (rfl : _ = Ty.sl _ _)); (· exact rfl)))) (by exact (rfl : _ = some [_, _])) ?_
  refine r_buildSlice (E := I64) (xs := [_, _]) rfl rfl rfl rfl rfl (by decide) (by decide) (by repeat (first | exact (Parts.nil : Parts _ _ [] _) | (show Parts _ _ ((_, _) :: _) _; apply Parts.one; (· exact (rfl : _ = Ty.int _ _)); (· exact rfl)))) (by exact rfl) rfl ?_
  refine r_build rfl rfl (by exact List.cons_ne_nil _ _) rfl (by repeat (first | exact (Parts.nil : Parts _ _ [] _) | (show Parts _ _ ((_, _) :: _) _; apply Parts.one; (· exact (rfl : _ = Ty.sl _ _)); (· exact rfl)))) (by exact (rfl : _ = some [_, _])) ?_
  refine r_buildSlice (E := I64) (xs := [_, _]) rfl rfl rfl rfl rfl (by decide) (by decide) (by repeat (first | exact (Parts.nil : Parts _ _ [] _) | (show Parts _ _ ((_, _) :: _) _; apply Parts.one; (· exact (rfl : _ = Ty.int _ _)); (· exact rfl)))) (by exact rfl) rfl ?_
  refine r_build rfl rfl (by exact List.cons_ne_nil _ _) rfl (by repeat (first | exact (Parts.nil : Parts _ _ [] _) | (show Parts _ _ ((_, _) :: _) _; apply Parts.one; (· first | exact (rfl : _ = Ty.sl _ _) | exact (rfl : _ = Ty.bool _)); (· exact rfl)))) (by exact (rfl : _ = some [_, _])) ?_
  refine r_buildSlice (E := BRowE) (xs := bTwo.rows) rfl rfl rfl rfl rfl (by decide) (by decide) (by repeat (first | exact (Parts.nil : Parts _ _ [] _) | (show Parts _ _ ((_, _) :: _) _; apply Parts.agg; (· exact (rfl : _ = Ty.agg _))))) (by exact rfl) rfl ?_
  refine r_build rfl rfl (by exact List.cons_ne_nil _ _) rfl (by repeat (first | exact (Parts.nil : Parts _ _ [] _) | (show Parts _ _ ((_, _) :: _) _; apply Parts.one; (· exact (rfl : _ = Ty.sl _ _)); (· exact rfl)) | (show Parts _ _ ((_, _) :: _) _; apply Parts.agg; (· exact (rfl : _ = Ty.agg _))))) (by exact (rfl : _ = some [_, _, _])) ?_
  refine r_storeN rfl rfl (by decide) rfl rfl rfl rfl rfl rfl ?_
  refine asS' rfl ?_
  refine r_nil ?_
  refine i_then ?_
  refine t_ret ?_
  refine i_rcell2 rfl rfl rfl rfl rfl (by decide) rfl rfl rfl ?_ ?_
  all_goals exact ret_refl rfl rfl
  all_goals trace_state
theorem two_rng : ∀ r ∈ bTwo.rows, Rng r.nums := by unfold Rng; decide
theorem c_aw1 : Ctr Tryz.prog 16 [bokT bTwo] (Ty.tup [Ty.str (bs tTwo), Ty.int .i64 0]) := by
  have h := c_Print bTwo two_rng
  rwa [aw1, aw1'] at h
theorem c_aw2 : Ctr Tryz.prog 63 [frmT bTwo.form, Ty.str (bs tTwo1)] (Ty.tup [bokT Book.zero, Ty.int .i64 8, Ty.int .i64 11]) := by
  have h := c_Parse bTwo.form tTwo1 (by decide)
  unfold parT at h
  rwa [aw2] at h
theorem c_aw3 : Ctr Tryz.prog 63 [frmT bTwo.form, Ty.str (bs tTwo2)] (Ty.tup [bokT Book.zero, Ty.int .i64 34, Ty.int .i64 11]) := by
  have h := c_Parse bTwo.form tTwo2 (by decide)
  unfold parT at h
  rwa [aw3] at h
theorem c_aw4 : Ctr Tryz.prog 64 [Ty.str (bs tTwo), Ty.sl I64 [2, 8]] (Ty.tup [Ty.str (bs tTwo3), Ty.int .i64 0]) := by
  have h := c_Tear tTwo [2, 8] (by decide)
  rwa [aw4] at h
theorem c_aw5 : Ctr Tryz.prog 29 [frmT bTwo.form, Ty.str (bs tTwo3)] (Ty.tup [bokT bTwo, Ty.int .i64 0]) := by
  have h := c_Restore bTwo.form tTwo3
  rwa [aw_res] at h
theorem c_aw6 : Ctr Tryz.prog 27 [frmT fOne, Ty.str (bs tOne)] (Ty.tup [Ty.int .i64 10, Ty.int .i64 0]) := by
  have h := c_Count fOne tOne
  rwa [aw_cnt] at h
theorem c_aw7 : Ctr Tryz.prog 28 [frmT fOne, Ty.str (bs tOne)] (Ty.tup [Ty.sl StrE lOne, Ty.int .i64 0]) := by
  have h := c_Fillings fOne tOne
  rwa [aw_fil] at h
theorem c_aw8 : Ctr Tryz.prog 17 [bokT bTwo] (Ty.tup [Ty.sl RowE [[112, 45], [112, 45]], Ty.int .i64 0]) := by
  have h := c_Foots bTwo two_rng
  rwa [aw8, aw1'] at h
set_option maxRecDepth 100000 in
theorem c_awake : Ctr Tryz.prog 10 [] (Ty.bool true) := by
  refine fn_intro Tryz.func10 rfl (by decide) Tryz.ntmps10 (by exact Nat.le_of_ble_eq_true rfl) fun w0 M0 => ?_
  refine t_seq ?_
  refine t_region ?_
  refine asB rfl ?_
  refine r_nil ?_
  refine i_then ?_
  refine t_seq ?_
  refine t_region ?_
  refine r_call (c_Two) rfl rfl rfl rfl rfl ?_
  refine mvT rfl ?_
  refine r_extract rfl rfl ?_
  refine r_extract rfl rfl ?_
  refine r_alloc rfl (by exact List.cons_ne_nil _ _) rfl ?_
  refine r_storeN rfl rfl (by decide) rfl rfl rfl rfl rfl rfl ?_
  refine asS' rfl ?_
  refine r_nil ?_
  refine i_then ?_
  refine t_seq ?_
  refine t_pub (tg := 2) [(1, Ty.pp (bokTys bTwo))] (by decide) rfl ⟨pub_ptr (T := 27) (tg := 2) (off := 0) (l := bokTys bTwo) rfl rfl rfl (by decide), trivial⟩ ?_
  refine t_region ?_
  refine r_load_ppN rfl rfl rfl (by exact Nat.le_of_ble_eq_true rfl) ?_
  refine r_call c_aw1 rfl rfl rfl rfl rfl ?_
  refine mvT rfl ?_
  refine r_extract rfl rfl ?_
  refine r_extract rfl rfl ?_
  refine asS' rfl ?_
  refine asI rfl ?_
  refine r_nil ?_
  refine i_then ?_
  refine t_seq ?_
  refine t_forget (B := live [(1, Ty.pp (bokTys bTwo)), (2, Ty.str (bs tTwo)), (3, Ty.str (bs tTwo)), (4, Ty.int .i64 0)] []) ?_ ?_
  · (refine Ent.mk' ?_ ?_ <;> (repeat' (first | exact allSub_zero | exact allTags_nil | refine allSub_succ' ?_ (Ty.sub_any _) | refine allSub_succ' ?_ (Ty.sub_refl _))))
  refine t_draw mixed rfl ?_
  refine r_field_pp rfl rfl rfl rfl rfl (by decide) ?_
  refine r_load_ppN rfl rfl rfl (by exact Nat.le_of_ble_eq_true rfl) ?_
  refine mvS' rfl ?_
  refine r_cutS_hi (hi := 8) rfl rfl rfl rfl (by decide) ?_
  refine r_catS rfl rfl (by decide) ?_
  refine mvS' rfl ?_
  refine r_cutS_lo (lo := 9) rfl rfl rfl rfl (by decide) ?_
  refine r_catS rfl rfl (by decide) ?_
  refine r_call c_aw2 rfl rfl rfl rfl rfl ?_
  refine mvT rfl ?_
  refine r_extract rfl rfl ?_
  refine r_extract rfl rfl ?_
  refine r_extract rfl rfl ?_
  refine r_alloc rfl (by exact List.cons_ne_nil _ _) rfl ?_
  refine r_storeN rfl rfl (by decide) rfl rfl rfl rfl rfl rfl ?_
  refine asI rfl ?_
  refine asI rfl ?_
  refine r_nil ?_
  refine ⟨by kernel_rfl, ?_⟩
  refine i_then ?_
  refine t_seq ?_
  refine t_forget (B := live [(1, Ty.pp (bokTys bTwo)), (2, Ty.str (bs tTwo)), (3, Ty.str (bs tTwo)), (4, Ty.int .i64 0), (6, Ty.int .i64 8), (7, Ty.int .i64 11)] []) ?_ ?_
  · (refine Ent.mk' ?_ ?_ <;> (repeat' (first | exact allSub_zero | exact allTags_nil | refine allSub_succ' ?_ (Ty.sub_any _) | refine allSub_succ' ?_ (Ty.sub_refl _))))
  refine t_draw mixed rfl ?_
  refine r_field_pp rfl rfl rfl rfl rfl (by decide) ?_
  refine r_load_ppN rfl rfl rfl (by exact Nat.le_of_ble_eq_true rfl) ?_
  refine mvS' rfl ?_
  refine r_cutS_hi (hi := 34) rfl rfl rfl rfl (by decide) ?_
  refine r_call c_aw3 rfl rfl rfl rfl rfl ?_
  refine mvT rfl ?_
  refine r_extract rfl rfl ?_
  refine r_extract rfl rfl ?_
  refine r_extract rfl rfl ?_
  refine r_alloc rfl (by exact List.cons_ne_nil _ _) rfl ?_
  refine r_storeN rfl rfl (by decide) rfl rfl rfl rfl rfl rfl ?_
  refine asI rfl ?_
  refine asI rfl ?_
  refine r_nil ?_
  refine ⟨by kernel_rfl, ?_⟩
  refine i_then ?_
  refine t_seq ?_
  refine t_forget (B := live [(1, Ty.pp (bokTys bTwo)), (2, Ty.str (bs tTwo)), (3, Ty.str (bs tTwo)), (4, Ty.int .i64 0), (6, Ty.int .i64 8), (7, Ty.int .i64 11), (9, Ty.int .i64 34), (10, Ty.int .i64 11)] []) ?_ ?_
  · (refine Ent.mk' ?_ ?_ <;> (repeat' (first | exact allSub_zero | exact allTags_nil | refine allSub_succ' ?_ (Ty.sub_any _) | refine allSub_succ' ?_ (Ty.sub_refl _))))
  refine t_region ?_
  refine mvS' rfl ?_
  refine r_buildSlice (E := I64) (xs := [_, _]) rfl rfl rfl rfl rfl (by decide) (by decide) (by repeat (first | exact (Parts.nil : Parts _ _ [] _) | (show Parts _ _ ((_, _) :: _) _; apply Parts.one; (· exact (rfl : _ = Ty.int _ _)); (· exact rfl)))) (by exact rfl) rfl ?_
  refine r_call c_aw4 rfl rfl rfl rfl rfl ?_
  refine mvT rfl ?_
  refine r_extract rfl rfl ?_
  refine r_extract rfl rfl ?_
  refine asS' rfl ?_
  refine asI rfl ?_
  refine r_nil ?_
  refine i_then ?_
  refine t_seq ?_
  refine t_region ?_
  refine r_field_pp rfl rfl rfl rfl rfl (by decide) ?_
  refine r_load_ppN rfl rfl rfl (by exact Nat.le_of_ble_eq_true rfl) ?_
  refine mvS' rfl ?_
  refine r_call c_aw5 rfl rfl rfl rfl rfl ?_
  refine mvT rfl ?_
  refine r_extract rfl rfl ?_
  refine r_extract rfl rfl ?_
  refine r_alloc rfl (by exact List.cons_ne_nil _ _) rfl ?_
  refine r_storeN rfl rfl (by decide) rfl rfl rfl rfl rfl rfl ?_
  refine asI rfl ?_
  refine r_nil ?_
  refine i_then ?_
  refine t_seq ?_
  refine t_forget (B := live [(1, Ty.pp (bokTys bTwo)), (2, Ty.str (bs tTwo)), (3, Ty.str (bs tTwo)), (4, Ty.int .i64 0), (6, Ty.int .i64 8), (7, Ty.int .i64 11), (9, Ty.int .i64 34), (10, Ty.int .i64 11), (12, Ty.int .i64 0), (13, Ty.ptr 14 0), (14, Ty.int .i64 0)] [(14, Cont.cells 27 (bokTys bTwo))]) ?_ ?_
  · (refine Ent.mk' ?_ ?_ <;> (repeat' (first | exact allSub_zero | exact allTags_nil | refine allSub_succ' ?_ (Ty.sub_any _) | refine allSub_succ' ?_ (Ty.sub_refl _) | refine allTags_cons rfl (Cont.sub_refl _) ?_)))
  refine t_pub (tg := 14) [(13, Ty.pp (bokTys bTwo))] (by decide) rfl ⟨pub_ptr (T := 27) (tg := 14) (off := 0) (l := bokTys bTwo) rfl rfl rfl (by decide), trivial⟩ ?_
  refine t_region ?_
  refine r_buildSlice (E := I64) (xs := [_]) rfl rfl rfl rfl rfl (by decide) (by decide) (by repeat (first | exact (Parts.nil : Parts _ _ [] _) | (show Parts _ _ ((_, _) :: _) _; apply Parts.one; (· exact (rfl : _ = Ty.int _ _)); (· exact rfl)))) (by exact rfl) rfl ?_
  refine r_build rfl rfl (by exact List.cons_ne_nil _ _) rfl (by repeat (first | exact (Parts.nil : Parts _ _ [] _) | (show Parts _ _ ((_, _) :: _) _; apply Parts.one; (· first | exact (rfl : _ = Ty.int _ _) | exact (rfl : _ = Ty.sl _ _)); (· exact rfl)))) (by exact (rfl : _ = some [_, _])) ?_
  refine r_alloc rfl (by exact List.cons_ne_nil _ _) rfl ?_
  refine r_storeN rfl rfl (by decide) rfl rfl rfl rfl rfl rfl ?_
  refine r_nil ?_
  refine i_then ?_
  refine t_seq ?_
  refine t_region ?_
  refine r_load_ptrN rfl rfl (by decide) rfl rfl (by exact Nat.le_of_ble_eq_true rfl) ?_
  refine r_call c_aw6 rfl rfl rfl rfl rfl ?_
  refine mvT rfl ?_
  refine r_extract rfl rfl ?_
  refine r_extract rfl rfl ?_
  refine asI rfl ?_
  refine asI rfl ?_
  refine r_nil ?_
  refine i_then ?_
  refine t_seq ?_
  refine t_region ?_
  refine r_load_ptrN rfl rfl (by decide) rfl rfl (by exact Nat.le_of_ble_eq_true rfl) ?_
  refine r_call c_aw7 rfl rfl rfl rfl rfl ?_
  refine mvT rfl ?_
  refine r_extract rfl rfl ?_
  refine r_extract rfl rfl ?_
  refine asS rfl ?_
  refine asI rfl ?_
  refine r_nil ?_
  refine i_then ?_
  refine t_seq ?_
  refine t_region ?_
  refine r_load_ppN rfl rfl rfl (by exact Nat.le_of_ble_eq_true rfl) ?_
  refine r_call c_aw8 rfl rfl rfl rfl rfl ?_
  refine mvT rfl ?_
  refine r_extract rfl rfl ?_
  refine r_extract rfl rfl ?_
  refine asS rfl ?_
  refine asI rfl ?_
  refine r_nil ?_
  refine i_then ?_
  refine t_seq ?_
  refine t_forget (B := live [(1, Ty.pp (bokTys bTwo)), (2, Ty.str (bs tTwo)), (3, Ty.str (bs tTwo)), (4, Ty.int .i64 0), (6, Ty.int .i64 8), (7, Ty.int .i64 11), (9, Ty.int .i64 34), (10, Ty.int .i64 11), (12, Ty.int .i64 0), (13, Ty.pp (bokTys bTwo)), (14, Ty.int .i64 0), (16, Ty.int .i64 10), (17, Ty.int .i64 0), (18, Ty.sl StrE lOne), (19, Ty.int .i64 0), (20, Ty.sl RowE [[112, 45], [112, 45]]), (21, Ty.int .i64 0)] []) ?_ ?_
  · (refine Ent.mk' ?_ ?_ <;> (repeat' (first | exact allSub_zero | exact allTags_nil | refine allSub_succ' ?_ (Ty.sub_any _) | refine allSub_succ' ?_ (Ty.sub_refl _))))
  refine t_region ?_
  refine mvI rfl ?_
  refine r_bin rfl rfl rfl ?_
  refine mvB rfl ?_
  apply r_guard (s := 85) rfl rfl rfl
  · intro hg; apply opT_of; (refine mvI rfl ?_); refine r_nil ?_; exact rfl
  · exact rfl
  · exact rfl
  apply r_guard (s := 85) rfl rfl rfl
  · intro hg; apply opT_strip (s := 86) rfl (by exact hg); apply opT_of; (refine r_bin rfl rfl rfl ?_); refine r_nil ?_; exact rfl
  · exact rfl
  · exact rfl
  refine r_and rfl rfl ?_
  refine mvB rfl ?_
  apply r_guard (s := 89) rfl rfl rfl
  · intro hg; apply opT_of; (refine mvI rfl ?_); refine r_nil ?_; exact rfl
  · exact rfl
  · exact rfl
  apply r_guard (s := 89) rfl rfl rfl
  · intro hg; apply opT_strip (s := 90) rfl (by exact hg); apply opT_of; (refine r_bin rfl rfl rfl ?_); refine r_nil ?_; exact rfl
  · exact rfl
  · exact rfl
  refine r_and rfl rfl ?_
  refine mvB rfl ?_
  apply r_guard (s := 93) rfl rfl rfl
  · intro hg; apply opT_of; (refine mvI rfl ?_); refine r_nil ?_; exact rfl
  · exact rfl
  · exact rfl
  apply r_guard (s := 93) rfl rfl rfl
  · intro hg; apply opT_strip (s := 94) rfl (by exact hg); apply opT_of; (refine r_bin rfl rfl rfl ?_); refine r_nil ?_; exact rfl
  · exact rfl
  · exact rfl
  refine r_and rfl rfl ?_
  refine mvB rfl ?_
  apply r_guard (s := 97) rfl rfl rfl
  · intro hg; apply opT_of; (refine mvI rfl ?_); refine r_nil ?_; exact rfl
  · exact rfl
  · exact rfl
  apply r_guard (s := 97) rfl rfl rfl
  · intro hg; apply opT_strip (s := 98) rfl (by exact hg); apply opT_of; (refine r_bin rfl rfl rfl ?_); refine r_nil ?_; exact rfl
  · exact rfl
  · exact rfl
  refine r_and rfl rfl ?_
  refine mvB rfl ?_
  apply r_guard (s := 101) rfl rfl rfl
  · intro hg; apply opT_of; (refine mvI rfl ?_); refine r_nil ?_; exact rfl
  · exact rfl
  · exact rfl
  apply r_guard (s := 101) rfl rfl rfl
  · intro hg; apply opT_strip (s := 102) rfl (by exact hg); apply opT_of; (refine r_bin rfl rfl rfl ?_); refine r_nil ?_; exact rfl
  · exact rfl
  · exact rfl
  refine r_and rfl rfl ?_
  refine mvB rfl ?_
  apply r_guard (s := 105) rfl rfl rfl
  · intro hg; apply opT_of; (refine mvI rfl ?_); refine r_nil ?_; exact rfl
  · exact rfl
  · exact rfl
  apply r_guard (s := 105) rfl rfl rfl
  · intro hg; apply opT_strip (s := 106) rfl (by exact hg); apply opT_of; (refine r_bin rfl rfl rfl ?_); refine r_nil ?_; exact rfl
  · exact rfl
  · exact rfl
  refine r_and rfl rfl ?_
  refine mvB rfl ?_
  apply r_guard (s := 109) rfl rfl rfl
  · intro hg; apply opT_of; (refine mvI rfl ?_); refine r_nil ?_; exact rfl
  · exact rfl
  · exact rfl
  apply r_guard (s := 109) rfl rfl rfl
  · intro hg; apply opT_strip (s := 110) rfl (by exact hg); apply opT_of; (refine r_bin rfl rfl rfl ?_); refine r_nil ?_; exact rfl
  · exact rfl
  · exact rfl
  refine r_and rfl rfl ?_
  refine mvB rfl ?_
  apply r_guard (s := 113) rfl rfl rfl
  · intro hg; apply opT_of; (refine mvS' rfl ?_); refine r_nil ?_; exact rfl
  · exact rfl
  · exact rfl
  apply r_guard (s := 113) rfl rfl rfl
  · intro hg; apply opT_of; (refine mvS' rfl ?_); refine r_nil ?_; exact rfl
  · exact rfl
  · exact rfl
  apply r_guard (s := 113) rfl rfl rfl
  · intro hg; apply opT_strip (s := 114) rfl (by exact hg); apply opT_strip (s := 115) rfl (by exact hg); apply opT_of; (refine r_eqlS rfl rfl ?_); refine r_nil ?_; exact rfl
  · exact rfl
  · exact rfl
  refine r_and rfl rfl ?_
  refine mvB rfl ?_
  apply r_guard (s := 118) rfl rfl rfl
  · intro hg; apply opT_of; (refine mvI rfl ?_); refine r_nil ?_; exact rfl
  · exact rfl
  · exact rfl
  apply r_guard (s := 118) rfl rfl rfl
  · intro hg; apply opT_strip (s := 119) rfl (by exact hg); apply opT_of; (refine r_bin rfl rfl rfl ?_); refine r_nil ?_; exact rfl
  · exact rfl
  · exact rfl
  refine r_and rfl rfl ?_
  refine mvB rfl ?_
  apply r_guard (s := 122) rfl rfl rfl
  · intro hg; apply opT_of; (refine mvI rfl ?_); refine r_nil ?_; exact rfl
  · exact rfl
  · exact rfl
  apply r_guard (s := 122) rfl rfl rfl
  · intro hg; apply opT_strip (s := 123) rfl (by exact hg); apply opT_of; (refine r_bin rfl rfl rfl ?_); refine r_nil ?_; exact rfl
  · exact rfl
  · exact rfl
  refine r_and rfl rfl ?_
  refine mvB rfl ?_
  apply r_guard (s := 126) rfl rfl rfl
  · intro hg; apply opT_of; (refine r_load_ppN rfl rfl rfl (by exact Nat.le_of_ble_eq_true rfl) ?_); refine r_nil ?_; exact rfl
  · exact rfl
  · exact rfl
  apply r_guard (s := 126) rfl rfl rfl
  · intro hg; apply opT_of; (refine r_load_ppN rfl rfl rfl (by exact Nat.le_of_ble_eq_true rfl) ?_); refine r_nil ?_; exact rfl
  · exact rfl
  · exact rfl
  apply r_guard (s := 126) rfl rfl rfl
  · intro hg; apply opT_strip (s := 127) rfl (by exact hg); apply opT_strip (s := 128) rfl (by exact hg); apply opT_of; (refine r_call (c_same _ _) rfl rfl rfl rfl rfl ?_); refine r_nil ?_; exact rfl
  · exact rfl
  · exact rfl
  refine r_and rfl rfl ?_
  refine mvB rfl ?_
  apply r_guard (s := 131) rfl rfl rfl
  · intro hg; apply opT_of; (refine mvI rfl ?_); refine r_nil ?_; exact rfl
  · exact rfl
  · exact rfl
  apply r_guard (s := 131) rfl rfl rfl
  · intro hg; apply opT_strip (s := 132) rfl (by exact hg); apply opT_of; (refine r_bin rfl rfl rfl ?_); refine r_nil ?_; exact rfl
  · exact rfl
  · exact rfl
  refine r_and rfl rfl ?_
  refine mvB rfl ?_
  apply r_guard (s := 135) rfl rfl rfl
  · intro hg; apply opT_of; (refine mvS rfl ?_); refine r_nil ?_; exact rfl
  · exact rfl
  · exact rfl
  apply r_guard (s := 135) rfl rfl rfl
  · intro hg; apply opT_of; (refine r_buildSlice (E := StrE) (xs := lOne) rfl rfl rfl rfl rfl (by decide) (by decide) (by repeat (first | exact (Parts.nil : Parts _ _ [] _) | (show Parts _ _ ((_, _) :: _) _; apply Parts.one; (· exact (rfl : _ = Ty.str _)); (· exact rfl)))) (by exact rfl) rfl ?_); refine r_nil ?_; exact rfl
  · exact rfl
  · exact rfl
  apply r_guard (s := 135) rfl rfl rfl
  · intro hg; apply opT_strip (s := 136) rfl (by exact hg); apply opT_strip (s := 137) rfl (by exact hg); apply opT_of; (refine r_call (c_Equal_str _ _) rfl rfl rfl rfl rfl ?_); refine r_nil ?_; exact rfl
  · exact rfl
  · exact rfl
  refine r_and rfl rfl ?_
  refine mvB rfl ?_
  apply r_guard (s := 140) rfl rfl rfl
  · intro hg; apply opT_of; (refine mvS rfl ?_); refine r_nil ?_; exact rfl
  · exact rfl
  · exact rfl
  apply r_guard (s := 140) rfl rfl rfl
  · intro hg; apply opT_of; (refine r_buildSlice (E := I64) (xs := [_, _]) rfl rfl rfl rfl rfl (by decide) (by decide) (by repeat (first | exact (Parts.nil : Parts _ _ [] _) | (show Parts _ _ ((_, _) :: _) _; apply Parts.one; (· exact (rfl : _ = Ty.int _ _)); (· exact rfl)))) (by exact rfl) rfl ?_); refine r_nil ?_; exact rfl
  · exact rfl
  · exact rfl
  apply r_guard (s := 140) rfl rfl rfl
  · intro hg; apply opT_of; (refine r_buildSlice (E := I64) (xs := [_, _]) rfl rfl rfl rfl rfl (by decide) (by decide) (by repeat (first | exact (Parts.nil : Parts _ _ [] _) | (show Parts _ _ ((_, _) :: _) _; apply Parts.one; (· exact (rfl : _ = Ty.int _ _)); (· exact rfl)))) (by exact rfl) rfl ?_); refine r_nil ?_; exact rfl
  · exact rfl
  · exact rfl
  apply r_guard (s := 140) rfl rfl rfl
  · intro hg; apply opT_strip (s := 142) rfl (by exact hg); apply opT_strip (s := 143) rfl (by exact hg); apply opT_of; (refine r_buildSlice (E := RowE) (xs := [[112, 45], [112, 45]]) rfl rfl rfl rfl rfl (by decide) (by decide) (by repeat (first | exact (Parts.nil : Parts _ _ [] _) | (show Parts _ _ ((_, _) :: _) _; apply Parts.one; (· exact (rfl : _ = Ty.sl _ _)); (· exact rfl)))) (by exact rfl) rfl ?_); refine r_nil ?_; exact rfl
  · exact rfl
  · exact rfl
  apply r_guard (s := 140) rfl rfl rfl
  · intro hg; apply opT_strip (s := 141) rfl (by exact hg); apply opT_strip (s := 144) rfl (by exact hg); apply opT_of; (refine r_call (c_EqRows _ _) rfl rfl rfl rfl rfl ?_); refine r_nil ?_; exact rfl
  · exact rfl
  · exact rfl
  refine r_and rfl rfl ?_
  refine asB rfl ?_
  refine r_nil ?_
  refine i_then ?_
  refine t_ret ?_
  refine i_rp1 rfl rfl ?_
  all_goals exact ret_refl rfl rfl
  all_goals trace_state
end Go.Proofs.YtjjndkenddigiaaGreatDoor

namespace Go.Proofs.YtjjndkenddigiaaGreatDoor
open Go Go.T
set_option maxHeartbeats 2000000
def putV (b : Book) (r : BRow) : Book × Int := if bokY b ≠ 0 then (Book.zero, bokY b) else if (b.rows.length : Int) = 12 then (Book.zero, 9) else if rowY b.form r ≠ 0 then (Book.zero, rowY b.form r) else (⟨b.form, b.rows ++ [r]⟩, 0)
theorem pv_1 {b : Book} {r : BRow} (h : ¬ bokY b = 0) : putV b r = (Book.zero, bokY b) := if_pos h
theorem pv_2 {b : Book} {r : BRow} (h : bokY b = 0) (h2 : (b.rows.length : Int) = 12) : putV b r = (Book.zero, 9) := by unfold putV; rw [if_neg (fun e => e h), if_pos h2]
theorem pv_3 {b : Book} {r : BRow} (h : bokY b = 0) (h2 : ¬ (b.rows.length : Int) = 12) (h3 : ¬ rowY b.form r = 0) : putV b r = (Book.zero, rowY b.form r) := by unfold putV; rw [if_neg (fun e => e h), if_neg h2, if_pos h3]
theorem pv_4 {b : Book} {r : BRow} (h : bokY b = 0) (h2 : ¬ (b.rows.length : Int) = 12) (h3 : rowY b.form r = 0) : putV b r = (⟨b.form, b.rows ++ [r]⟩, 0) := by unfold putV; rw [if_neg (fun e => e h), if_neg h2, if_neg (fun e => e h3)]
attribute [local irreducible] putV bokY rowY
attribute [local irreducible] dInt dBool dSl dPp dPtr dAgg dTup dClo dAny dEx dStr dGd dCells dVec dVs dRow dOp nth Tri Into TOps Ctr bodyPost Exit.then Exit.inBlock Code.wp Code.wpIn dPa dArr dMp dMap CtrG keepPost iterPost bodyPostM roundQ
set_option maxRecDepth 100000 in
theorem c_Put (b : Book) (hb : ∀ r ∈ b.rows, Rng r.nums) (r : BRow) (hr : Rng r.nums) : Ctr Tryz.prog 41 [bokT b, rowT r] (Ty.tup [bokT (putV b r).1, Ty.int .i64 (putV b r).2]) := by
  refine fn_intro Tryz.func41 rfl (by decide) Tryz.ntmps41 (by exact Nat.le_of_ble_eq_true rfl) fun w0 M0 => ?_
  refine t_seq ?_
  refine t_region ?_
  refine r_box_agg rfl ?_
  refine r_box_agg rfl ?_
  refine r_alloc rfl (by exact List.cons_ne_nil _ _) rfl ?_
  refine asI rfl ?_
  refine r_nil ?_
  refine i_then ?_
  refine t_seq ?_
  refine t_seq ?_
  refine t_region ?_
  refine r_load_ppN rfl rfl rfl (by exact Nat.le_of_ble_eq_true rfl) ?_
  refine r_call (c_Check b hb) rfl rfl rfl rfl rfl ?_
  refine asI rfl ?_
  refine r_nil ?_
  refine i_then ?_
  refine t_seq ?_
  refine t_region ?_
  refine mvI rfl ?_
  refine r_bin rfl rfl rfl ?_
  refine r_nil ?_
  refine i_then ?_
  refine t_cond_ndec rfl (fun hc1 => ?_) (fun hc1 => ?_)
  ·
    refine t_seq ?_
    refine t_region ?_
    refine r_build rfl rfl (by exact List.cons_ne_nil _ _) rfl (by repeat (exact (Parts.nil : Parts _ _ [] _))) (by exact (rfl : _ = some [_, _, _])) ?_
    refine mvI rfl ?_
    refine r_storeN rfl rfl (by decide) rfl rfl rfl rfl rfl rfl ?_
    refine asI rfl ?_
    refine r_nil ?_
    refine i_then ?_
    refine t_ret ?_
    refine i_then_ret ?_
    refine i_rcell2 rfl rfl rfl rfl rfl (by decide) rfl rfl rfl ?_ ?_
    all_goals skip
    all_goals (rw [pv_1 hc1]; first | exact ret_sub rfl rfl zero_bok | exact ret_refl rfl rfl)
  ·
    refine t_skip ?_
    refine i_then ?_
    refine t_seq ?_
    refine t_seq ?_
    refine t_region ?_
    refine r_field_pp rfl rfl rfl rfl rfl (by decide) ?_
    refine r_load_pp rfl rfl rfl rfl ?_
    refine r_len rfl rfl rfl ?_
    refine r_bin rfl rfl rfl ?_
    refine r_nil ?_
    refine i_then ?_
    refine t_cond_dec rfl (fun hc2 => ?_) (fun hc2 => ?_)
    ·
      refine t_seq ?_
      refine t_region ?_
      refine r_build rfl rfl (by exact List.cons_ne_nil _ _) rfl (by repeat (exact (Parts.nil : Parts _ _ [] _))) (by exact (rfl : _ = some [_, _, _])) ?_
      refine r_storeN rfl rfl (by decide) rfl rfl rfl rfl rfl rfl ?_
      refine asI rfl ?_
      refine r_nil ?_
      refine i_then ?_
      refine t_ret ?_
      refine i_then_ret ?_
      refine i_rcell2 rfl rfl rfl rfl rfl (by decide) rfl rfl rfl ?_ ?_
      all_goals skip
      all_goals (rw [pv_2 hc1 hc2]; first | exact ret_sub rfl rfl zero_bok | exact ret_refl rfl rfl)
    ·
      refine t_skip ?_
      refine i_then ?_
      refine t_seq ?_
      refine t_seq ?_
      have hok := bokY_zero.1 (show bokY b = 0 by omega)
      refine t_region ?_
      refine r_field_pp rfl rfl rfl rfl rfl (by decide) ?_
      refine r_load_ppN rfl rfl rfl (by exact Nat.le_of_ble_eq_true rfl) ?_
      refine r_load_ppN rfl rfl rfl (by exact Nat.le_of_ble_eq_true rfl) ?_
      refine r_call (c_check b.form hok.form r hr) rfl rfl rfl rfl rfl ?_
      refine asI rfl ?_
      refine r_nil ?_
      refine i_then ?_
      refine t_seq ?_
      refine t_region ?_
      refine mvI rfl ?_
      refine r_bin rfl rfl rfl ?_
      refine r_nil ?_
      refine i_then ?_
      refine t_cond_ndec rfl (fun hc3 => ?_) (fun hc3 => ?_)
      ·
        refine t_seq ?_
        refine t_region ?_
        refine r_build rfl rfl (by exact List.cons_ne_nil _ _) rfl (by repeat (exact (Parts.nil : Parts _ _ [] _))) (by exact (rfl : _ = some [_, _, _])) ?_
        refine mvI rfl ?_
        refine r_storeN rfl rfl (by decide) rfl rfl rfl rfl rfl rfl ?_
        refine asI rfl ?_
        refine r_nil ?_
        refine i_then ?_
        refine t_ret ?_
        refine i_then_ret ?_
        refine i_rcell2 rfl rfl rfl rfl rfl (by decide) rfl rfl rfl ?_ ?_
        all_goals skip
        all_goals (rw [pv_3 hc1 hc2 hc3]; first | exact ret_sub rfl rfl zero_bok | exact ret_refl rfl rfl)
      ·
        refine t_skip ?_
        refine i_then ?_
        refine t_seq ?_
        have hrk := rowY_zero.1 (show rowY b.form r = 0 by omega)
        have hfew := hok.few
        have hfw := hok.form.n2
        have hrl := hrk.len
        have hnl : ∀ r ∈ b.rows, r.nums.length ≤ 1000 := fun x hx => by have := (hok.row x hx).len; omega
        refine t_region ?_
        refine r_load_ppN rfl rfl rfl (by exact Nat.le_of_ble_eq_true rfl) ?_
        refine r_callG (res' := Ty.agg [Ty.sl I64 b.form.widths, Ty.int .i64 b.form.lines, Ty.rc 50 b.rows.length (some (b.rows.length + 1))]) [(50, 22)] [50] [(50, Cont.rcv BRowE 66 b.rows (some (b.rows.length + 1)))] (k_own b (by omega) (by omega) hnl) rfl rfl (cv_cons cv_nil (cv_pub rfl rfl)) pre_nil (post_cons (a := 50) (b := 22) (by exact List.mem_cons_self) rfl (cc_rcv (by exact List.mem_cons_self) rfl) post_nil) (cv_agg (cv_cons (cv_cons (cv_cons cv_nil (cv_rc (by exact List.mem_cons_self))) (cv_pub rfl rfl)) (cv_pub rfl rfl))) ?_
        refine r_alloc rfl (by exact List.cons_ne_nil _ _) rfl ?_
        refine r_storeN rfl rfl (by decide) rfl rfl rfl rfl rfl rfl ?_
        refine r_nil ?_
        refine i_then ?_
        refine t_seq ?_
        refine t_unownCellC (D := 9) (Tb := 27) (tg := 50) (E := BRowE) [Ty.sl I64 b.form.widths, Ty.int .i64 b.form.lines] (by decide) rfl rfl rfl ?_
        refine t_draw mixed rfl ?_
        refine r_field_ptr rfl rfl rfl rfl rfl (by decide) ?_
        refine r_load_ptr rfl rfl (by decide) rfl rfl rfl ?_
        refine r_field_pp rfl rfl rfl rfl rfl (by decide) ?_
        refine r_load_pp rfl rfl rfl rfl ?_
        refine r_call (c_Clone_int r.nums (by omega)) rfl rfl rfl rfl rfl ?_
        refine r_field_pp rfl rfl rfl rfl rfl (by decide) ?_
        refine r_load_pp rfl rfl rfl rfl ?_
        refine r_build rfl rfl (by exact List.cons_ne_nil _ _) rfl (by repeat (first | exact (Parts.nil : Parts _ _ [] _) | (show Parts _ _ ((_, _) :: _) _; apply Parts.one; (· first | exact (rfl : _ = Ty.sl _ _) | exact (rfl : _ = Ty.bool _)); (· exact rfl)))) (by exact (rfl : _ = some [_, _])) ?_
        refine r_buildSlice (E := BRowE) (xs := [r]) rfl rfl rfl rfl rfl (by decide) (by decide) (by repeat (first | exact (Parts.nil : Parts _ _ [] _) | (show Parts _ _ ((_, _) :: _) _; apply Parts.agg; (· exact (rfl : _ = Ty.agg _))))) (by exact rfl) rfl ?_
        refine r_append rfl rfl (by decide) rfl rfl rfl rfl rfl rfl (by decide) (by (simp <;> omega)) (by (simp <;> omega)) ?_
        refine r_field_ptr rfl rfl rfl rfl rfl (by decide) ?_
        refine r_store1 rfl rfl (by decide) rfl rfl (by exact (rfl : _ = Ty.row _ _ _ _)) rfl (by exact Nat.le_of_ble_eq_true rfl) rfl rfl (by exact rfl) ?_
        refine r_nil ?_
        refine ⟨by kernel_rfl, ?_⟩
        refine i_then ?_
        refine t_seq ?_
        refine t_pubC (tg := 50) [] [(9, Cont.cells 27 (bokTys ⟨b.form, b.rows ++ [r]⟩))] (by decide) rfl trivial ⟨pubC_cells rfl rfl ⟨pubTy_same rfl, pubTy_same rfl, pubTy_row, trivial⟩, trivial⟩ ?_
        refine t_region ?_
        refine r_load_ptrN rfl rfl (by decide) rfl rfl (by exact Nat.le_of_ble_eq_true rfl) ?_
        refine r_storeN rfl rfl (by decide) rfl rfl rfl rfl rfl rfl ?_
        refine asI rfl ?_
        refine r_nil ?_
        refine i_then ?_
        refine t_ret ?_
        refine i_rcell2 rfl rfl rfl rfl rfl (by decide) rfl rfl rfl ?_ ?_
        all_goals skip
        all_goals (rw [pv_4 hc1 hc2 hc3]; exact ret_refl rfl rfl)
end Go.Proofs.YtjjndkenddigiaaGreatDoor

namespace Go.Proofs.YtjjndkenddigiaaGreatDoor
open Go Go.T
set_option maxHeartbeats 2000000
def strV (b : Book) (i : Int) : Book × Int := if bokY b ≠ 0 then (Book.zero, bokY b) else if inB i 0 ((b.rows.length : Int) - 1) = false then (Book.zero, 1) else if (nth b.rows i.toNat).struck = true then (Book.zero, 5) else (⟨b.form, b.rows.set i.toNat ⟨(nth b.rows i.toNat).nums, true⟩⟩, 0)
theorem sv_1 {b : Book} {i : Int} (h : ¬ bokY b = 0) : strV b i = (Book.zero, bokY b) := if_pos h
theorem sv_2 {b : Book} {i : Int} (h : bokY b = 0) (h2 : inB i 0 ((b.rows.length : Int) - 1) = false) : strV b i = (Book.zero, 1) := by unfold strV; rw [if_neg (fun e => e h), if_pos h2]
theorem sv_3 {b : Book} {k : Nat} (h : bokY b = 0) (h2 : k < b.rows.length) (h3 : (nth b.rows k).struck = true) : strV b (k : Int) = (Book.zero, 5) := by
  unfold strV; rw [if_neg (fun e => e h), if_neg (by unfold inB; simp; omega), if_pos (by simpa using h3)]
theorem sv_4 {b : Book} {k : Nat} (h : bokY b = 0) (h2 : k < b.rows.length) (h3 : (nth b.rows k).struck = false) : strV b (k : Int) = (⟨b.form, b.rows.set k ⟨(nth b.rows k).nums, true⟩⟩, 0) := by
  unfold strV; rw [if_neg (fun e => e h), if_neg (by unfold inB; simp; omega), if_neg (by rw [Int.toNat_natCast, h3]; decide), Int.toNat_natCast]
theorem in_nat {i : Int} {n : Nat} (h : inB i 0 ((n : Int) - 1) = true) : ∃ k : Nat, k < n ∧ i = k := by
  unfold inB at h
  simp only [Bool.and_eq_true, decide_eq_true_eq] at h
  exact ⟨i.toNat, by omega, by omega⟩
attribute [local irreducible] strV bokY inB
attribute [local irreducible] dInt dBool dSl dPp dPtr dAgg dTup dClo dAny dEx dStr dGd dCells dVec dVs dRow dOp nth Tri Into TOps Ctr bodyPost Exit.then Exit.inBlock Code.wp Code.wpIn dPa dArr dMp dMap CtrG keepPost iterPost bodyPostM roundQ
set_option maxRecDepth 100000 in
theorem c_hasRow (b : Book) (hl : b.rows.length ≤ 1000) (i : Int) : Ctr Tryz.prog 96 [bokT b, Ty.int .i64 i] (Ty.bool (inB i 0 ((b.rows.length : Int) - 1))) := by
  refine fn_intro Tryz.func96 rfl (by decide) Tryz.ntmps96 (by exact Nat.le_of_ble_eq_true rfl) fun w0 M0 => ?_
  refine t_seq ?_
  refine t_region ?_
  refine r_box_agg rfl ?_
  refine asB rfl ?_
  refine r_nil ?_
  refine i_then ?_
  refine t_seq ?_
  refine t_region ?_
  refine mvI rfl ?_
  refine r_field_pp rfl rfl rfl rfl rfl (by decide) ?_
  refine r_load_pp rfl rfl rfl rfl ?_
  refine r_len rfl rfl rfl ?_
  refine r_sub rfl rfl (by omega) (by omega) ?_
  refine r_call (c_in _ _ _) rfl rfl rfl rfl rfl ?_
  refine asB rfl ?_
  refine r_nil ?_
  refine i_then ?_
  refine t_ret ?_
  refine i_rp1 rfl rfl ?_
  all_goals exact ret_refl rfl rfl
set_option maxRecDepth 100000 in
theorem c_Strike (b : Book) (hb : ∀ r ∈ b.rows, Rng r.nums) (i : Int) : Ctr Tryz.prog 42 [bokT b, Ty.int .i64 i] (Ty.tup [bokT (strV b i).1, Ty.int .i64 (strV b i).2]) := by
  refine fn_intro Tryz.func42 rfl (by decide) Tryz.ntmps42 (by exact Nat.le_of_ble_eq_true rfl) fun w0 M0 => ?_
  refine t_seq ?_
  refine t_region ?_
  refine r_box_agg rfl ?_
  refine r_alloc rfl (by exact List.cons_ne_nil _ _) rfl ?_
  refine asI rfl ?_
  refine r_nil ?_
  refine i_then ?_
  refine t_seq ?_
  refine t_seq ?_
  refine t_region ?_
  refine r_load_ppN rfl rfl rfl (by exact Nat.le_of_ble_eq_true rfl) ?_
  refine r_call (c_Check b hb) rfl rfl rfl rfl rfl ?_
  refine asI rfl ?_
  refine r_nil ?_
  refine i_then ?_
  refine t_seq ?_
  refine t_region ?_
  refine mvI rfl ?_
  refine r_bin rfl rfl rfl ?_
  refine r_nil ?_
  refine i_then ?_
  refine t_cond_ndec rfl (fun hc1 => ?_) (fun hc1 => ?_)
  ·
    refine t_seq ?_
    refine t_region ?_
    refine r_build rfl rfl (by exact List.cons_ne_nil _ _) rfl (by repeat (exact (Parts.nil : Parts _ _ [] _))) (by exact (rfl : _ = some [_, _, _])) ?_
    refine mvI rfl ?_
    refine r_storeN rfl rfl (by decide) rfl rfl rfl rfl rfl rfl ?_
    refine asI rfl ?_
    refine r_nil ?_
    refine i_then ?_
    refine t_ret ?_
    refine i_then_ret ?_
    refine i_rcell2 rfl rfl rfl rfl rfl (by decide) rfl rfl rfl ?_ ?_
    all_goals skip
    all_goals (rw [sv_1 hc1]; first | exact ret_sub rfl rfl zero_bok | exact ret_refl rfl rfl)
  ·
    refine t_skip ?_
    refine i_then ?_
    refine t_seq ?_
    have hok := bokY_zero.1 (show bokY b = 0 by omega)
    have hfew := hok.few
    have hfw := hok.form.n2
    have hnl : ∀ r ∈ b.rows, r.nums.length ≤ 1000 := fun x hx => by have := (hok.row x hx).len; omega
    refine t_region ?_
    refine r_load_ppN rfl rfl rfl (by exact Nat.le_of_ble_eq_true rfl) ?_
    refine r_makeMth rfl ?_
    refine asT2 rfl ?_
    refine r_nil ?_
    refine i_then ?_
    refine t_seq ?_
    refine t_block ?_
    refine t_seq ?_
    refine t_region ?_
    refine mvT2 rfl ?_
    refine mvI rfl ?_
    refine r_callc rfl (cal_mth (c_hasRow b (by omega) i) rfl rfl rfl rfl rfl rfl) rfl ?_
    refine r_not rfl ?_
    refine asB rfl ?_
    refine r_nil ?_
    refine i_then ?_
    refine t_cond rfl (fun hc2 => ?_) (fun hc2 => ?_)
    ·
      refine t_seq ?_
      refine t_region ?_
      refine r_build rfl rfl (by exact List.cons_ne_nil _ _) rfl (by repeat (exact (Parts.nil : Parts _ _ [] _))) (by exact (rfl : _ = some [_, _, _])) ?_
      refine r_storeN rfl rfl (by decide) rfl rfl rfl rfl rfl rfl ?_
      refine asI rfl ?_
      refine r_nil ?_
      refine i_then ?_
      refine t_ret ?_
      refine i_block_ret ?_
      refine i_then_ret ?_
      refine i_rcell2 rfl rfl rfl rfl rfl (by decide) rfl rfl rfl ?_ ?_
      all_goals skip
      all_goals (rw [sv_2 hc1 (by simpa using hc2)]; first | exact ret_sub rfl rfl zero_bok | exact ret_refl rfl rfl)
    ·
      refine t_seq ?_
      obtain ⟨k, hk, hik⟩ := in_nat (show inB i 0 ((b.rows.length : Int) - 1) = true by simpa using hc2)
      subst hik
      refine t_region ?_
      refine r_field_pp rfl rfl rfl rfl rfl (by decide) ?_
      refine r_load_pp rfl rfl rfl rfl ?_
      refine mvI rfl ?_
      refine r_index_slN rfl rfl rfl rfl rfl rfl (by omega) ?_
      refine r_field_pp rfl rfl rfl rfl rfl (by decide) ?_
      refine r_load_pp rfl rfl rfl rfl ?_
      refine asB rfl ?_
      refine r_nil ?_
      refine i_then ?_
      refine t_cond rfl (fun hc3 => ?_) (fun hc3 => ?_)
      ·
        refine t_seq ?_
        refine t_region ?_
        refine r_build rfl rfl (by exact List.cons_ne_nil _ _) rfl (by repeat (exact (Parts.nil : Parts _ _ [] _))) (by exact (rfl : _ = some [_, _, _])) ?_
        refine r_storeN rfl rfl (by decide) rfl rfl rfl rfl rfl rfl ?_
        refine asI rfl ?_
        refine r_nil ?_
        refine i_then ?_
        refine t_ret ?_
        refine i_block_ret ?_
        refine i_then_ret ?_
        refine i_rcell2 rfl rfl rfl rfl rfl (by decide) rfl rfl rfl ?_ ?_
        all_goals skip
        all_goals (rw [sv_3 hc1 hk hc3]; first | exact ret_sub rfl rfl zero_bok | exact ret_refl rfl rfl)
      ·
        refine t_skip ?_
        refine i_block ?_
        refine i_then ?_
        refine t_seq ?_
        refine t_region ?_
        refine r_load_ppN rfl rfl rfl (by exact Nat.le_of_ble_eq_true rfl) ?_
        refine r_callG (res' := Ty.agg [Ty.sl I64 b.form.widths, Ty.int .i64 b.form.lines, Ty.rc 50 b.rows.length (some (b.rows.length + 1))]) [(50, 22)] [50] [(50, Cont.rcv BRowE 66 b.rows (some (b.rows.length + 1)))] (k_own b (by omega) (by omega) hnl) rfl rfl (cv_cons cv_nil (cv_pub rfl rfl)) pre_nil (post_cons (a := 50) (b := 22) (by exact List.mem_cons_self) rfl (cc_rcv (by exact List.mem_cons_self) rfl) post_nil) (cv_agg (cv_cons (cv_cons (cv_cons cv_nil (cv_rc (by exact List.mem_cons_self))) (cv_pub rfl rfl)) (cv_pub rfl rfl))) ?_
        refine r_alloc rfl (by exact List.cons_ne_nil _ _) rfl ?_
        refine r_storeN rfl rfl (by decide) rfl rfl rfl rfl rfl rfl ?_
        refine r_nil ?_
        refine i_then ?_
        refine t_seq ?_
        refine t_region ?_
        refine r_field_ptr rfl rfl rfl rfl rfl (by decide) ?_
        refine r_load_ptr rfl rfl (by decide) rfl rfl rfl ?_
        refine mvI rfl ?_
        refine r_index_rc rfl rfl rfl rfl rfl (by omega) ?_
        refine r_field_ptr rfl rfl rfl rfl rfl (by decide) ?_
        refine r_store_rc (E := BRowE) (tg := 50) (i := k) (o := 1) (z := ⟨(nth b.rows k).nums, true⟩) rfl rfl (by decide) rfl rfl rfl rfl (by omega) (by decide) rfl rfl ?_
        refine r_nil ?_
        refine i_then ?_
        refine t_seq ?_
        refine t_unownCellC (D := 9) (Tb := 27) (tg := 50) (E := BRowE) [Ty.sl I64 b.form.widths, Ty.int .i64 b.form.lines] (by decide) rfl rfl (by simp) ?_
        refine t_pubC (tg := 50) [] [(9, Cont.cells 27 (bokTys ⟨b.form, b.rows.set k ⟨(nth b.rows k).nums, true⟩⟩))] (by decide) rfl trivial ⟨pubC_cells rfl rfl ⟨pubTy_same rfl, pubTy_same rfl, pubTy_row, trivial⟩, trivial⟩ ?_
        refine t_region ?_
        refine r_load_ptrN rfl rfl (by decide) rfl rfl (by exact Nat.le_of_ble_eq_true rfl) ?_
        refine r_storeN rfl rfl (by decide) rfl rfl rfl rfl rfl rfl ?_
        refine asI rfl ?_
        refine r_nil ?_
        refine i_then ?_
        refine t_ret ?_
        refine i_rcell2 rfl rfl rfl rfl rfl (by decide) rfl rfl rfl ?_ ?_
        all_goals skip
        all_goals (rw [sv_4 hc1 hk hc3]; exact ret_refl rfl rfl)
end Go.Proofs.YtjjndkenddigiaaGreatDoor

namespace Go.Proofs.YtjjndkenddigiaaGreatDoor
open Go Go.T
set_option maxHeartbeats 2000000
def corV (b : Book) (i : Int) (r : BRow) : Book × Int := if (strV b i).2 ≠ 0 then (Book.zero, (strV b i).2) else putV (strV b i).1 r
theorem cv_1 {b : Book} {i : Int} {r : BRow} (h : ¬ (strV b i).2 = 0) : corV b i r = (Book.zero, (strV b i).2) := if_pos h
theorem cv_2 {b : Book} {i : Int} {r : BRow} (h : (strV b i).2 = 0) : corV b i r = putV (strV b i).1 r := if_neg (fun e => e h)
theorem str_rng {b : Book} (hb : ∀ r ∈ b.rows, Rng r.nums) (i : Int) : ∀ r ∈ (strV b i).1.rows, Rng r.nums := by
  unfold strV
  split
  · intro r hr; cases hr
  · split
    · intro r hr; cases hr
    · split
      · intro r hr; cases hr
      · intro r hr
        rcases List.mem_or_eq_of_mem_set (show r ∈ b.rows.set i.toNat ⟨(nth b.rows i.toNat).nums, true⟩ from hr) with h | h
        · exact hb r h
        · subst h
          rcases Nat.lt_or_ge i.toNat b.rows.length with h | h
          · exact hb (nth b.rows i.toNat) (nth_mem h)
          · have hr : _ ∈ b.rows.set i.toNat _ := hr
            rw [List.set_eq_of_length_le h] at hr
            exact hb _ hr
attribute [local irreducible] strV putV corV
attribute [local irreducible] dInt dBool dSl dPp dPtr dAgg dTup dClo dAny dEx dStr dGd dCells dVec dVs dRow dOp nth Tri Into TOps Ctr bodyPost Exit.then Exit.inBlock Code.wp Code.wpIn dPa dArr dMp dMap CtrG keepPost iterPost bodyPostM roundQ
set_option maxRecDepth 100000 in
theorem c_Correct (b : Book) (hb : ∀ r ∈ b.rows, Rng r.nums) (i : Int) (r : BRow) (hr : Rng r.nums) : Ctr Tryz.prog 43 [bokT b, Ty.int .i64 i, rowT r] (Ty.tup [bokT (corV b i r).1, Ty.int .i64 (corV b i r).2]) := by
  refine fn_intro Tryz.func43 rfl (by decide) Tryz.ntmps43 (by exact Nat.le_of_ble_eq_true rfl) fun w0 M0 => ?_
  refine t_seq ?_
  refine t_region ?_
  refine r_box_agg rfl ?_
  refine r_box_agg rfl ?_
  refine r_alloc rfl (by exact List.cons_ne_nil _ _) rfl ?_
  refine asI rfl ?_
  refine r_nil ?_
  refine i_then ?_
  refine t_seq ?_
  refine t_region ?_
  refine r_load_ppN rfl rfl rfl (by exact Nat.le_of_ble_eq_true rfl) ?_
  refine mvI rfl ?_
  refine r_call (c_Strike b hb i) rfl rfl rfl rfl rfl ?_
  refine mvT rfl ?_
  refine r_extract rfl rfl ?_
  refine r_extract rfl rfl ?_
  refine r_alloc rfl (by exact List.cons_ne_nil _ _) rfl ?_
  refine r_storeN rfl rfl (by decide) rfl rfl rfl rfl rfl rfl ?_
  refine asI rfl ?_
  refine r_nil ?_
  refine i_then ?_
  refine t_seq ?_
  refine t_seq ?_
  refine t_region ?_
  refine mvI rfl ?_
  refine r_bin rfl rfl rfl ?_
  refine r_nil ?_
  refine i_then ?_
  refine t_cond_ndec rfl (fun hc1 => ?_) (fun hc1 => ?_)
  ·
    refine t_seq ?_
    refine t_region ?_
    refine r_build rfl rfl (by exact List.cons_ne_nil _ _) rfl (by repeat (exact (Parts.nil : Parts _ _ [] _))) (by exact (rfl : _ = some [_, _, _])) ?_
    refine mvI rfl ?_
    refine r_storeN rfl rfl (by decide) rfl rfl rfl rfl rfl rfl ?_
    refine asI rfl ?_
    refine r_nil ?_
    refine i_then ?_
    refine t_ret ?_
    refine i_then_ret ?_
    refine i_rcell2 rfl rfl rfl rfl rfl (by decide) rfl rfl rfl ?_ ?_
    all_goals skip
    all_goals (rw [cv_1 hc1]; first | exact ret_sub rfl rfl zero_bok | exact ret_refl rfl rfl)
  ·
    refine t_skip ?_
    refine i_then ?_
    refine t_seq ?_
    refine t_region ?_
    refine r_load_ptrN rfl rfl (by decide) rfl rfl (by exact Nat.le_of_ble_eq_true rfl) ?_
    refine r_load_ppN rfl rfl rfl (by exact Nat.le_of_ble_eq_true rfl) ?_
    refine r_call (c_Put (strV b i).1 (str_rng hb i) r hr) rfl rfl rfl rfl rfl ?_
    refine r_extract rfl rfl ?_
    refine r_extract rfl rfl ?_
    refine r_storeN rfl rfl (by decide) rfl rfl rfl rfl rfl rfl ?_
    refine asI rfl ?_
    refine r_nil ?_
    refine i_then ?_
    refine t_ret ?_
    refine i_rcell2 rfl rfl rfl rfl rfl (by decide) rfl rfl rfl ?_ ?_
    all_goals skip
    all_goals (rw [cv_2 hc1]; exact ret_refl rfl rfl)
end Go.Proofs.YtjjndkenddigiaaGreatDoor

namespace Go.Proofs.YtjjndkenddigiaaGreatDoor
open Go Go.T
set_option maxHeartbeats 2000000
def colB (f : BForm) (l : List (List Int)) : Bool := decide (0 < (l.length : Int)) && !l.any fun x => !decide ((x.length : Int) = f.widths.length)
attribute [local irreducible] dInt dBool dSl dPp dPtr dAgg dTup dClo dAny dEx dStr dGd dCells dVec dVs dRow dOp nth Tri Into TOps Ctr bodyPost Exit.then Exit.inBlock Code.wp Code.wpIn dPa dArr dMp dMap CtrG keepPost iterPost bodyPostM roundQ
set_option maxRecDepth 100000 in
theorem c_IndexFunc_ro (l : List (List Int)) (t : Ty) (h1 : t.one = true) (q : List Int → Bool) (hd : t.deps = []) (hc : t.cdeps = []) (hf : ∀ x ∈ l, Cal Tryz.prog t [Ty.sl I64 x] (Ty.bool (q x))) : Ctr Tryz.prog 135 [Ty.sl RowE l, t] (Ty.int .i64 (fidx q l)) := by
  refine fn_intro Tryz.func135 rfl (by decide) Tryz.ntmps135 (by exact Nat.le_of_ble_eq_true rfl) fun w0 M0 => ?_
  refine t_fact (s := 0) rfl rfl sl_len fun hl => ?_
  refine t_seq ?_
  refine t_region ?_
  refine asI rfl ?_
  refine r_nil ?_
  refine i_then ?_
  refine t_seq ?_
  refine t_seq ?_
  refine t_region ?_
  refine mvS rfl ?_
  refine r_len rfl rfl rfl ?_
  refine mvI rfl ?_
  refine r_nil ?_
  refine i_then ?_
  refine t_block ?_
  refine t_loop (fun (k : {k : Nat // ∀ x ∈ l.take k, q x = false}) => live [(0, Ty.sl RowE l), (1, t), (7, Ty.int .i64 l.length), (8, Ty.int .i64 (k.1 : Nat))] []) (fun k => l.length - k.1) (⟨0, by simp⟩) ?_ fun k => ?_
  · (refine Ent.mk' ?_ ?_ <;> (repeat' (first | exact allSub_zero | exact allTags_nil | refine allSub_succ' ?_ (Ty.sub_any _) | refine allSub_succ' ?_ (Ty.sub_refl _))))
  ·
    refine t_seq ?_
    refine t_region ?_
    refine r_bin rfl rfl rfl ?_
    refine r_nil ?_
    refine i_then ?_
    refine t_seq ?_
    refine t_cond_dec rfl (fun hc1 => ?_) (fun hc1 => ?_)
    ·
      refine t_skip ?_
      refine i_then ?_
      refine t_seq ?_
      refine t_block ?_
      refine t_seq ?_
      refine t_region ?_
      refine mvI rfl ?_
      refine asI rfl ?_
      refine r_nil ?_
      refine i_then ?_
      refine t_seq ?_
      refine t_region ?_
      refine r_move (ty := t) rfl ?_
      refine mvS rfl ?_
      refine mvI rfl ?_
      refine r_index_slN rfl rfl rfl rfl rfl rfl (by omega) ?_
      refine r_load_pp rfl rfl rfl rfl ?_
      refine r_callc rfl (hf _ (nth_mem (by omega))) rfl ?_
      refine r_nil ?_
      refine i_then ?_
      refine t_cond rfl (fun hc2 => ?_) (fun hc2 => ?_)
      ·
        refine t_seq ?_
        refine t_region ?_
        refine mvI rfl ?_
        refine asI rfl ?_
        refine r_nil ?_
        refine i_then ?_
        refine t_ret ?_
        refine i_block_ret ?_
        refine i_then_ret ?_
        refine i_then_ret ?_
        refine i_block_ret ?_
        refine i_then_ret ?_
        refine i_rp1 rfl rfl ?_
        all_goals skip
        exact ret_eq rfl rfl (congrArg (Ty.int .i64) (fidx_found (by omega) k.2 (by rw [← nth_lt]; exact hc2)).symm)
      ·
        refine t_skip ?_
        refine i_block ?_
        refine i_then ?_
        refine t_region ?_
        refine r_add rfl rfl (by omega) (by omega) ?_
        refine mvI rfl ?_
        refine r_nil ?_
        refine i_round (⟨k.1 + 1, by rw [take_nth (by omega)]; intro x hx; rcases List.mem_append.1 hx with h | h; exact k.2 x h; rw [List.mem_singleton.1 h]; exact hc2⟩) ?_ (by show l.length - (k.1 + 1) < l.length - k.1; omega)
        (refine Ent.mk' ?_ ?_ <;> (repeat' (first | exact allSub_zero | exact allTags_nil | refine allSub_succ' ?_ (Ty.sub_any _) | refine allSub_succ' ?_ (Ty.sub_refl _))))
        all_goals skip
    ·
      refine t_exit ?_
      refine i_then_exit ?_
      refine i_then_exit ?_
      refine i_block_exit rfl ?_
      refine i_then ?_
      refine t_seq ?_
      refine t_region ?_
      refine asI rfl ?_
      refine r_nil ?_
      refine i_then ?_
      refine t_ret ?_
      refine i_rp1 rfl rfl ?_
      all_goals skip
      exact ret_eq rfl rfl (congrArg (Ty.int .i64) (fidx_none (by have := k.2; rwa [List.take_of_length_le (by omega)] at this)).symm)
set_option maxRecDepth 100000 in
theorem c_ContainsFunc_ro (l : List (List Int)) (t : Ty) (h1 : t.one = true) (q : List Int → Bool) (hd : t.deps = []) (hc : t.cdeps = []) (hf : ∀ x ∈ l, Cal Tryz.prog t [Ty.sl I64 x] (Ty.bool (q x))) : Ctr Tryz.prog 102 [Ty.sl RowE l, t] (Ty.bool (l.any q)) := by
  refine fn_intro Tryz.func102 rfl (by decide) Tryz.ntmps102 (by exact Nat.le_of_ble_eq_true rfl) fun w0 M0 => ?_
  refine t_seq ?_
  refine t_region ?_
  refine asB rfl ?_
  refine r_nil ?_
  refine i_then ?_
  refine t_seq ?_
  refine t_region ?_
  refine mvS rfl ?_
  refine r_move (ty := t) rfl ?_
  refine r_call (c_IndexFunc_ro l t h1 q hd hc hf) rfl (by exact deps_cons rfl (deps_cons hd rfl)) (by exact cdeps_cons rfl (cdeps_cons hc rfl)) rfl rfl ?_
  refine r_bin rfl rfl rfl ?_
  refine asB rfl ?_
  refine r_nil ?_
  refine i_then ?_
  refine t_ret ?_
  refine i_rp1 rfl rfl ?_
  all_goals skip
  exact ret_eq rfl rfl (congrArg Ty.bool (fidx_ge q l))
set_option maxRecDepth 100000 in
theorem c_columns1 (f : BForm) (x : List Int) : Ctr Tryz.prog 103 [Ty.sl I64 x, Ty.pp (frmTys f)] (Ty.bool (!decide ((x.length : Int) = f.widths.length))) := by
  refine fn_intro Tryz.func103 rfl (by decide) Tryz.ntmps103 (by exact Nat.le_of_ble_eq_true rfl) fun w0 M0 => ?_
  refine t_seq ?_
  refine t_region ?_
  refine asB rfl ?_
  refine r_nil ?_
  refine i_then ?_
  refine t_seq ?_
  refine t_region ?_
  refine mvS rfl ?_
  refine r_len rfl rfl rfl ?_
  refine r_field_pp rfl rfl rfl rfl rfl (by decide) ?_
  refine r_load_pp rfl rfl rfl rfl ?_
  refine r_len rfl rfl rfl ?_
  refine r_bin rfl rfl rfl ?_
  refine asB rfl ?_
  refine r_nil ?_
  refine i_then ?_
  refine t_ret ?_
  refine i_rp1 rfl rfl ?_
  all_goals exact ret_refl rfl rfl
set_option maxRecDepth 100000 in
theorem c_columns (f : BForm) (l : List (List Int)) : Ctr Tryz.prog 49 [frmT f, Ty.sl RowE l] (Ty.bool (colB f l)) := by
  refine fn_intro Tryz.func49 rfl (by decide) Tryz.ntmps49 (by exact Nat.le_of_ble_eq_true rfl) fun w0 M0 => ?_
  refine t_seq ?_
  refine t_region ?_
  refine r_box_agg rfl ?_
  refine asB rfl ?_
  refine r_nil ?_
  refine i_then ?_
  refine t_seq ?_
  refine t_region ?_
  refine mvS rfl ?_
  refine r_len rfl rfl rfl ?_
  refine r_bin rfl rfl rfl ?_
  refine mvB rfl ?_
  apply r_guard (s := 8) rfl rfl rfl
  · intro hg; apply opT_of; (refine mvS rfl ?_); refine r_nil ?_; exact rfl
  · exact rfl
  · exact rfl
  apply r_guard (s := 8) rfl rfl rfl
  · intro hg; apply opT_of; (refine r_makeFunc rfl ?_); refine r_nil ?_; exact rfl
  · exact rfl
  · exact rfl
  apply r_guard (s := 8) rfl rfl rfl
  · intro hg; apply opT_strip (s := 9) rfl (by (rw [hg]; rfl)); apply opT_strip (s := 10) rfl (by (rw [hg]; rfl)); apply opT_of; (refine r_call (c_ContainsFunc_ro l (Ty.clo 103 [Ty.pp (frmTys f)]) rfl (fun x => !decide ((x.length : Int) = f.widths.length)) rfl rfl fun x _ => cal_clo (c_columns1 f x) rfl rfl rfl rfl rfl rfl) rfl rfl rfl rfl rfl ?_); refine r_nil ?_; exact rfl
  · exact rfl
  · exact rfl
  apply r_guard (s := 8) rfl rfl rfl
  · intro hg; apply opT_strip (s := 11) rfl (by (rw [hg]; rfl)); apply opT_of; (refine r_not rfl ?_); refine r_nil ?_; exact rfl
  · exact rfl
  · exact rfl
  refine r_and rfl rfl ?_
  refine asB rfl ?_
  refine r_nil ?_
  refine i_then ?_
  refine t_ret ?_
  refine i_rp1 rfl rfl ?_
  all_goals exact ret_refl rfl rfl
  all_goals trace_state
end Go.Proofs.YtjjndkenddigiaaGreatDoor

namespace Go.Proofs.YtjjndkenddigiaaGreatDoor
open Go Go.T
structure Sk where
  grain : List Int
  taken : Int
  mixed : Int
def U8 : El Int := El.mk' 1 (fun n => [Ty.int .u8 n]) (fun _ => rfl) (fun _ => ⟨rfl, rfl, rfl⟩)
def skTys (s : Sk) : List Ty := [Ty.sl U8 s.grain, Ty.int .i64 s.taken, Ty.int .u32 s.mixed]
def mixB (s : Sk) : Int := IntKind.u32.wrap (bits .xor .u32 s.mixed (IntKind.u32.wrap (nth s.grain (s.taken.tmod s.grain.length).toNat)) * 16777619)
def skMix1 (s : Sk) : Sk := if (s.grain.length : Int) > 0 then { s with mixed := mixB s } else s
def skTake (s : Sk) : Sk := { s with taken := s.taken + 1 }
def mixC (s : Sk) : Int := IntKind.u32.wrap (IntKind.u32.wrap (s.mixed * 1664525) + 1013904223)
def skMix2 (s : Sk) : Sk := if s.taken > (s.grain.length : Int) then { s with mixed := mixC s } else s
theorem skMix2_pos {s : Sk} (h : (s.grain.length : Int) < s.taken) : skMix2 s = { s with mixed := mixC s } := if_pos h
theorem skMix2_neg {s : Sk} (h : ¬ (s.grain.length : Int) < s.taken) : skMix2 s = s := if_neg h
def skNext (s : Sk) : Sk := skMix2 (skTake (skMix1 s))
theorem skNext_neg {s : Sk} (h : ¬ ((skMix1 s).grain.length : Int) < (skMix1 s).taken + 1) : (skMix1 s).mixed = (skNext s).mixed := (congrArg Sk.mixed (skMix2_neg (s := skTake (skMix1 s)) h)).symm
def skVal (s : Sk) : Int := IntKind.i64.wrap (bits .and .u32 (bits .xor .u32 s.mixed (s.mixed / 2 ^ (15 : Int).toNat) / 2 ^ (8 : Int).toNat) 65535)
def Sk.Ok (s : Sk) (n : Int) : Prop := 0 ≤ s.taken ∧ s.taken + n ≤ 4611686018427387904
theorem skMix1_pos {s : Sk} (h : (0 : Int) < s.grain.length) : skMix1 s = { s with mixed := mixB s } := if_pos h
theorem skMix1_neg {s : Sk} (h : ¬ (0 : Int) < s.grain.length) : skMix1 s = s := if_neg h
theorem tmod_in {a b : Int} (ha : 0 ≤ a) (hb : 0 < b) : 0 ≤ a.tmod b ∧ a.tmod b < b := by
  rw [Int.tmod_eq_emod_of_nonneg ha]
  exact ⟨Int.emod_nonneg _ (by omega), Int.emod_lt_of_pos _ hb⟩
theorem skMix1_taken (s : Sk) : (skMix1 s).taken = s.taken := by unfold skMix1; split <;> rfl
theorem skMix1_grain (s : Sk) : (skMix1 s).grain = s.grain := by unfold skMix1; split <;> rfl
theorem skMix2_taken (s : Sk) : (skMix2 s).taken = s.taken := by unfold skMix2; split <;> rfl
theorem skMix2_grain (s : Sk) : (skMix2 s).grain = s.grain := by unfold skMix2; split <;> rfl
theorem skNext_taken (s : Sk) : (skNext s).taken = s.taken + 1 := by unfold skNext; rw [skMix2_taken, skTake, skMix1_taken]
theorem bits_and_ffff (a : Int) : 0 ≤ bits .and .u32 a 65535 ∧ bits .and .u32 a 65535 ≤ 65535 := by
  have e : bits .and .u32 a 65535 = IntKind.u32.wrap (((BitVec.ofInt 32 a &&& BitVec.ofInt 32 65535).toNat : Nat) : Int) := rfl
  have h1 : (BitVec.ofInt 32 a &&& BitVec.ofInt 32 65535).toNat ≤ 65535 := by
    rw [BitVec.toNat_and]
    exact Nat.and_le_right
  rw [e]
  generalize (BitVec.ofInt 32 a &&& BitVec.ofInt 32 65535).toNat = n at h1
  have : IntKind.u32.wrap (n : Int) = (n : Int) % 4294967296 := rfl
  rw [this]; omega
theorem skVal_bound (s : Sk) : 0 ≤ skVal s ∧ skVal s ≤ 65535 := by
  have h := bits_and_ffff (bits .xor .u32 s.mixed (s.mixed / 2 ^ (15 : Int).toNat) / 2 ^ (8 : Int).toNat)
  unfold skVal
  rw [IntWalk.i64_in _ (by omega)]; exact h
def skBelow (s : Sk) (n : Int) : Int := (skVal (skNext s)).tmod (max 1 n)
theorem skBelow_bound (s : Sk) (n : Int) : 0 ≤ skBelow s n ∧ skBelow s n < max 1 n ∧ skBelow s n ≤ 65535 := by
  have h := skVal_bound (skNext s)
  unfold skBelow
  have h1 : (skVal (skNext s)).tmod (max 1 n) = skVal (skNext s) % max 1 n := Int.tmod_eq_emod_of_nonneg h.1
  have h2 := Int.emod_lt_of_pos (skVal (skNext s)) (show 0 < max 1 n by omega)
  have h3 := Int.emod_nonneg (skVal (skNext s)) (show max 1 n ≠ 0 by omega)
  have h4 : skVal (skNext s) % max 1 n ≤ skVal (skNext s) := by
    have := Int.mul_ediv_add_emod (skVal (skNext s)) (max 1 n)
    have hq : 0 ≤ skVal (skNext s) / max 1 n := Int.ediv_nonneg h.1 (by omega)
    have : 0 ≤ max 1 n * (skVal (skNext s) / max 1 n) := Int.mul_nonneg (by omega) hq
    omega
  omega
def skAmong (s : Sk) (lo hi : Int) : Int := lo + skBelow s (hi - lo + 1)
def skRare (s : Sk) (n : Int) : Bool := decide (skBelow s n = 0)
def skFill (grain : List Int) : Sk := ⟨grain, 0, bits .xor .u32 2166136261 (IntKind.u32.wrap grain.length)⟩
theorem skFill_ok (g : List Int) : (skFill g).Ok 4000000000000000000 := by unfold skFill Sk.Ok; simp
end Go.Proofs.YtjjndkenddigiaaGreatDoor

namespace Go.Proofs.YtjjndkenddigiaaGreatDoor
open Go Go.T
set_option maxHeartbeats 2000000
attribute [local irreducible] dInt dBool dSl dPp dPtr dAgg dTup dClo dAny dEx dStr dGd dCells dVec dVs dRow dOp nth Tri Into TOps Ctr bodyPost Exit.then Exit.inBlock Code.wp Code.wpIn dPa dArr dMp dMap CtrG keepPost iterPost bodyPostM roundQ
set_option maxRecDepth 100000 in
theorem c_handful (s : Sk) (h : s.Ok 1) : CtrG Tryz.prog 134 [1000] [(1000, Cont.cells 147 (skTys s))] [Ty.ptr 1000 0] [(1000, Cont.cells 147 (skTys (skNext s)))] (Ty.int .i64 (skVal (skNext s))) := by
  refine fnG_intro Tryz.func134 rfl (by decide) Tryz.ntmps134 (by exact Nat.le_of_ble_eq_true rfl) fun w0 M0 => ?_
  have h0 : 0 ≤ s.taken ∧ s.taken + 1 ≤ 4611686018427387904 := h
  refine t_seq ?_
  refine t_region ?_
  refine asI rfl ?_
  refine r_nil ?_
  refine i_then ?_
  refine t_join (J := live [(0, Ty.ptr 1000 0)] [(1000, Cont.cells 147 (skTys (skMix1 s)))]) ?_ ?_
  ·
    refine t_seq ?_
    refine t_region ?_
    refine mvO rfl ?_
    refine r_nilCheck_ptr rfl ?_
    refine r_field_ptr rfl rfl rfl rfl rfl (by decide) ?_
    refine r_load_ptr rfl rfl (by decide) rfl rfl rfl ?_
    refine r_len rfl rfl rfl ?_
    refine asI rfl ?_
    refine r_nil ?_
    refine i_then ?_
    refine t_seq ?_
    refine t_region ?_
    refine mvI rfl ?_
    refine r_bin rfl rfl rfl ?_
    refine r_nil ?_
    refine i_then ?_
    refine t_cond_dec rfl (fun hc1 => ?_) (fun hc1 => ?_)
    ·
      have hm := tmod_in (a := s.taken) (b := s.grain.length) h0.1 (by omega)
      refine t_draw mixed rfl ?_
      refine mvO rfl ?_
      refine mvO rfl ?_
      refine r_nilCheck_ptr rfl ?_
      refine r_field_ptr rfl rfl rfl rfl rfl (by decide) ?_
      refine r_load_ptr rfl rfl (by decide) rfl rfl rfl ?_
      refine mvO rfl ?_
      refine r_nilCheck_ptr rfl ?_
      refine r_field_ptr rfl rfl rfl rfl rfl (by decide) ?_
      refine r_load_ptr rfl rfl (by decide) rfl rfl rfl ?_
      refine mvO rfl ?_
      refine r_nilCheck_ptr rfl ?_
      refine r_field_ptr rfl rfl rfl rfl rfl (by decide) ?_
      refine r_load_ptr rfl rfl (by decide) rfl rfl rfl ?_
      refine mvI rfl ?_
      refine r_rem rfl rfl (by omega) ?_
      refine r_index_sl rfl rfl rfl rfl rfl rfl (by omega) (by omega) ?_
      refine r_load_pp rfl rfl rfl rfl ?_
      refine r_conv rfl rfl rfl rfl ?_
      refine r_bin rfl rfl rfl ?_
      refine r_bin rfl rfl rfl ?_
      refine r_nilCheck_ptr rfl ?_
      refine r_field_ptr rfl rfl rfl rfl rfl (by decide) ?_
      refine r_store1 rfl rfl (by decide) rfl rfl (by exact (rfl : _ = Ty.int _ _)) rfl (by exact Nat.le_of_ble_eq_true rfl) rfl rfl (by exact rfl) ?_
      refine r_nil ?_
      refine ⟨by kernel_rfl, ?_⟩
      refine i_join ?_
      (refine Ent.mk' ?_ ?_ <;> (repeat' (first | exact allSub_zero | exact allTags_nil | exact subs_nil | refine allSub_succ' ?_ (Ty.sub_any _) | refine allSub_succ' ?_ (Ty.sub_refl _) | refine allTags_cons rfl (Cont.sub_subs ?_) ?_ | refine subs_cons ?_ ?_)))
      all_goals first | exact Ty.sub_int (congrArg Sk.mixed (skMix1_pos hc1).symm) | exact Ty.sub_int (skMix1_taken s).symm | exact Ty.sub_sl (skMix1_grain s).symm
    ·
      refine t_skip ?_
      refine i_join ?_
      (refine Ent.mk' ?_ ?_ <;> (repeat' (first | exact allSub_zero | exact allTags_nil | exact subs_nil | refine allSub_succ' ?_ (Ty.sub_any _) | refine allSub_succ' ?_ (Ty.sub_refl _) | refine allTags_cons rfl (Cont.sub_subs ?_) ?_ | refine subs_cons ?_ ?_)))
      all_goals first | exact Ty.sub_int (congrArg Sk.mixed (skMix1_neg hc1).symm) | exact Ty.sub_int (skMix1_taken s).symm | exact Ty.sub_sl (skMix1_grain s).symm
  ·
    refine t_seq ?_
    have h1 := skMix1_taken s
    refine t_region ?_
    refine mvO rfl ?_
    refine r_nilCheck_ptr rfl ?_
    refine r_field_ptr rfl rfl rfl rfl rfl (by decide) ?_
    refine r_load_ptr rfl rfl (by decide) rfl rfl rfl ?_
    refine r_add rfl rfl (by omega) (by omega) ?_
    refine r_nilCheck_ptr rfl ?_
    refine r_field_ptr rfl rfl rfl rfl rfl (by decide) ?_
    refine r_store1 rfl rfl (by decide) rfl rfl (by exact (rfl : _ = Ty.int _ _)) rfl (by exact Nat.le_of_ble_eq_true rfl) rfl rfl (by exact rfl) ?_
    refine r_nil ?_
    refine i_then ?_
    refine t_join (J := live [(0, Ty.ptr 1000 0)] [(1000, Cont.cells 147 (skTys (skNext s)))]) ?_ ?_
    ·
      refine t_seq ?_
      refine t_draw mixed rfl ?_
      refine mvO rfl ?_
      refine r_nilCheck_ptr rfl ?_
      refine r_field_ptr rfl rfl rfl rfl rfl (by decide) ?_
      refine r_load_ptr rfl rfl (by decide) rfl rfl rfl ?_
      refine mvO rfl ?_
      refine r_nilCheck_ptr rfl ?_
      refine r_field_ptr rfl rfl rfl rfl rfl (by decide) ?_
      refine r_load_ptr rfl rfl (by decide) rfl rfl rfl ?_
      refine r_len rfl rfl rfl ?_
      refine r_bin rfl rfl rfl ?_
      refine r_nil ?_
      refine ⟨by kernel_rfl, ?_⟩
      refine i_then ?_
      refine t_cond_dec rfl (fun hc2 => ?_) (fun hc2 => ?_)
      ·
        refine t_region ?_
        refine mvO rfl ?_
        refine mvO rfl ?_
        refine r_nilCheck_ptr rfl ?_
        refine r_field_ptr rfl rfl rfl rfl rfl (by decide) ?_
        refine r_load_ptr rfl rfl (by decide) rfl rfl rfl ?_
        refine r_bin rfl rfl rfl ?_
        refine r_bin rfl rfl rfl ?_
        refine r_nilCheck_ptr rfl ?_
        refine r_field_ptr rfl rfl rfl rfl rfl (by decide) ?_
        refine r_store1 rfl rfl (by decide) rfl rfl (by exact (rfl : _ = Ty.int _ _)) rfl (by exact Nat.le_of_ble_eq_true rfl) rfl rfl (by exact rfl) ?_
        refine r_nil ?_
        refine i_join ?_
        (refine Ent.mk' ?_ ?_ <;> (repeat' (first | exact allSub_zero | exact allTags_nil | exact subs_nil | refine allSub_succ' ?_ (Ty.sub_any _) | refine allSub_succ' ?_ (Ty.sub_refl _) | refine allTags_cons rfl (Cont.sub_subs ?_) ?_ | refine subs_cons ?_ ?_)))
        all_goals first | exact Ty.sub_int (congrArg Sk.mixed (skMix2_pos (s := skTake (skMix1 s)) hc2).symm) | exact Ty.sub_int (skMix2_taken (skTake (skMix1 s))).symm | exact Ty.sub_sl (skMix2_grain (skTake (skMix1 s))).symm
      ·
        refine t_skip ?_
        refine i_join ?_
        (refine Ent.mk' ?_ ?_ <;> (repeat' (first | exact allSub_zero | exact allTags_nil | exact subs_nil | refine allSub_succ' ?_ (Ty.sub_any _) | refine allSub_succ' ?_ (Ty.sub_refl _) | refine allTags_cons rfl (Cont.sub_subs ?_) ?_ | refine subs_cons ?_ ?_)))
        all_goals first | exact Ty.sub_int (skNext_neg hc2) | exact Ty.sub_int (skMix2_taken (skTake (skMix1 s))).symm | exact Ty.sub_sl (skMix2_grain (skTake (skMix1 s))).symm
    ·
      refine t_seq ?_
      refine t_draw mixed rfl ?_
      refine mvO rfl ?_
      refine r_nilCheck_ptr rfl ?_
      refine r_field_ptr rfl rfl rfl rfl rfl (by decide) ?_
      refine r_load_ptr rfl rfl (by decide) rfl rfl rfl ?_
      refine mvO rfl ?_
      refine r_nilCheck_ptr rfl ?_
      refine r_field_ptr rfl rfl rfl rfl rfl (by decide) ?_
      refine r_load_ptr rfl rfl (by decide) rfl rfl rfl ?_
      refine r_shr rfl rfl (by omega) (by decide) ?_
      refine r_bin rfl rfl rfl ?_
      refine r_shr rfl rfl (by omega) (by decide) ?_
      refine r_bin rfl rfl rfl ?_
      refine r_conv rfl rfl rfl rfl ?_
      refine asI rfl ?_
      refine r_nil ?_
      refine ⟨by kernel_rfl, ?_⟩
      refine i_then ?_
      refine t_ret ?_
      refine g_ret1 [1000] rfl rfl (by decide) (by repeat (first | exact rc_nil | refine rc_cons rfl (cc_cells_eq (by decide) rfl rfl rfl) ?_)) ?_
      all_goals exact rg_cv (cv_pub rfl rfl)
      all_goals exact rg_cv (cv_eq rfl rfl rfl)
set_option maxRecDepth 100000 in
theorem c_Below (s : Sk) (h : s.Ok 1) (n : Int) : CtrG Tryz.prog 98 [1000] [(1000, Cont.cells 147 (skTys s))] [Ty.ptr 1000 0, Ty.int .i64 n] [(1000, Cont.cells 147 (skTys (skNext s)))] (Ty.int .i64 (skBelow s n)) := by
  refine fnG_intro Tryz.func98 rfl (by decide) Tryz.ntmps98 (by exact Nat.le_of_ble_eq_true rfl) fun w0 M0 => ?_
  refine t_seq ?_
  refine t_region ?_
  refine asI rfl ?_
  refine r_nil ?_
  refine i_then ?_
  refine t_seq ?_
  refine t_region ?_
  refine mvO rfl ?_
  refine r_callG [(1000, 1000)] [] [(1000, Cont.cells 147 (skTys (skNext s)))] (c_handful s h) rfl rfl (by repeat (first | exact cv_nil | refine cv_cons ?_ ?_ | exact cv_ptr List.mem_cons_self)) (pre_cons (a := 1000) (b := 1000) (by exact List.mem_cons_self) rfl (cc_cells_eq (by exact List.mem_cons_self) rfl rfl rfl) pre_nil) (post_cons (a := 1000) (b := 1000) (by exact List.mem_cons_self) rfl (cc_cells_eq (by exact List.mem_cons_self) rfl rfl rfl) post_nil) (cv_pub rfl rfl) ?_
  refine mvI rfl ?_
  refine r_max rfl rfl ?_
  refine r_rem rfl rfl (by omega) ?_
  refine asI rfl ?_
  refine r_nil ?_
  refine i_then ?_
  refine t_ret ?_
  refine g_ret1 [1000] rfl rfl (by decide) (by repeat (first | exact rc_nil | refine rc_cons rfl (cc_cells_eq (by decide) rfl rfl rfl) ?_)) ?_
  all_goals exact rg_cv (cv_pub rfl rfl)
set_option maxRecDepth 100000 in
theorem c_Among (s : Sk) (h : s.Ok 1) (lo hi : Int) (hlo : -1000000 ≤ lo ∧ lo ≤ 1000000) (hhi : -1000000 ≤ hi ∧ hi ≤ 1000000) : CtrG Tryz.prog 97 [1000] [(1000, Cont.cells 147 (skTys s))] [Ty.ptr 1000 0, Ty.int .i64 lo, Ty.int .i64 hi] [(1000, Cont.cells 147 (skTys (skNext s)))] (Ty.int .i64 (skAmong s lo hi)) := by
  refine fnG_intro Tryz.func97 rfl (by decide) Tryz.ntmps97 (by exact Nat.le_of_ble_eq_true rfl) fun w0 M0 => ?_
  have hb := skBelow_bound s (hi - lo + 1)
  refine t_seq ?_
  refine t_region ?_
  refine asI rfl ?_
  refine r_nil ?_
  refine i_then ?_
  refine t_seq ?_
  refine t_region ?_
  refine mvI rfl ?_
  refine mvO rfl ?_
  refine mvI rfl ?_
  refine mvI rfl ?_
  refine r_sub rfl rfl (by omega) (by omega) ?_
  refine r_add rfl rfl (by omega) (by omega) ?_
  refine r_callG [(1000, 1000)] [] [(1000, Cont.cells 147 (skTys (skNext s)))] (c_Below s h _) rfl rfl (by repeat (first | exact cv_nil | refine cv_cons ?_ ?_ | exact cv_ptr List.mem_cons_self | exact cv_pub rfl rfl)) (pre_cons (a := 1000) (b := 1000) (by exact List.mem_cons_self) rfl (cc_cells_eq (by exact List.mem_cons_self) rfl rfl rfl) pre_nil) (post_cons (a := 1000) (b := 1000) (by exact List.mem_cons_self) rfl (cc_cells_eq (by exact List.mem_cons_self) rfl rfl rfl) post_nil) (cv_pub rfl rfl) ?_
  refine r_add rfl rfl (by omega) (by omega) ?_
  refine asI rfl ?_
  refine r_nil ?_
  refine i_then ?_
  refine t_ret ?_
  refine g_ret1 [1000] rfl rfl (by decide) (by repeat (first | exact rc_nil | refine rc_cons rfl (cc_cells_eq (by decide) rfl rfl rfl) ?_)) ?_
  all_goals exact rg_cv (cv_pub rfl rfl)
set_option maxRecDepth 100000 in
theorem c_Rare (s : Sk) (h : s.Ok 1) (n : Int) : CtrG Tryz.prog 99 [1000] [(1000, Cont.cells 147 (skTys s))] [Ty.ptr 1000 0, Ty.int .i64 n] [(1000, Cont.cells 147 (skTys (skNext s)))] (Ty.bool (skRare s n)) := by
  refine fnG_intro Tryz.func99 rfl (by decide) Tryz.ntmps99 (by exact Nat.le_of_ble_eq_true rfl) fun w0 M0 => ?_
  refine t_seq ?_
  refine t_region ?_
  refine asB rfl ?_
  refine r_nil ?_
  refine i_then ?_
  refine t_seq ?_
  refine t_region ?_
  refine mvO rfl ?_
  refine mvI rfl ?_
  refine r_callG [(1000, 1000)] [] [(1000, Cont.cells 147 (skTys (skNext s)))] (c_Below s h n) rfl rfl (by repeat (first | exact cv_nil | refine cv_cons ?_ ?_ | exact cv_ptr List.mem_cons_self | exact cv_pub rfl rfl)) (pre_cons (a := 1000) (b := 1000) (by exact List.mem_cons_self) rfl (cc_cells_eq (by exact List.mem_cons_self) rfl rfl rfl) pre_nil) (post_cons (a := 1000) (b := 1000) (by exact List.mem_cons_self) rfl (cc_cells_eq (by exact List.mem_cons_self) rfl rfl rfl) post_nil) (cv_pub rfl rfl) ?_
  refine r_bin rfl rfl rfl ?_
  refine asB rfl ?_
  refine r_nil ?_
  refine i_then ?_
  refine t_ret ?_
  refine g_ret1 [1000] rfl rfl (by decide) (by repeat (first | exact rc_nil | refine rc_cons rfl (cc_cells_eq (by decide) rfl rfl rfl) ?_)) ?_
  all_goals exact rg_cv (cv_pub rfl rfl)
set_option maxRecDepth 100000 in
theorem c_Fill (g : List Int) : CtrG Tryz.prog 45 [] [] [Ty.sl U8 g] [(10, Cont.cells 147 (skTys (skFill g)))] (Ty.ptr 10 0) := by
  refine fnG_intro Tryz.func45 rfl (by decide) Tryz.ntmps45 (by exact Nat.le_of_ble_eq_true rfl) fun w0 M0 => ?_
  refine t_seq ?_
  refine t_region ?_
  refine asX rfl ?_
  refine r_nil ?_
  refine i_then ?_
  refine t_seq ?_
  skip
  refine t_region ?_
  refine mvS rfl ?_
  refine mvS rfl ?_
  refine r_len rfl rfl rfl ?_
  refine r_conv rfl rfl rfl rfl ?_
  refine r_bin rfl rfl rfl ?_
  refine r_build rfl rfl (by exact List.cons_ne_nil _ _) rfl (by repeat (first | exact (Parts.nil : Parts _ _ [] _) | (show Parts _ _ ((_, _) :: _) _; apply Parts.one; (· first | exact (rfl : _ = Ty.int _ _) | exact (rfl : _ = Ty.sl _ _)); (· exact rfl)))) (by exact (rfl : _ = some [_, _, _])) ?_
  refine r_box_own rfl rfl rfl ?_
  refine asO rfl ?_
  refine r_nil ?_
  refine i_then ?_
  refine t_ret ?_
  refine g_ret1 [10] rfl rfl (by decide) (by repeat (first | exact rc_nil | refine rc_cons rfl (cc_cells_eq (by decide) rfl rfl rfl) ?_)) ?_
  all_goals skip
  exact rg_cv (cv_ptr (by exact List.mem_cons_self))
end Go.Proofs.YtjjndkenddigiaaGreatDoor

namespace Go.Proofs.YtjjndkenddigiaaGreatDoor
open Go Go.T
def skN (s : Sk) : Nat → Sk
  | 0 => s
  | k + 1 => skNext (skN s k)
theorem skN_succ (s : Sk) (k : Nat) : skN s (k + 1) = skNext (skN s k) := rfl
theorem skN_add (s : Sk) (a : Nat) : ∀ b, skN (skN s a) b = skN s (a + b)
  | 0 => rfl
  | b + 1 => by rw [skN_succ, skN_add s a b]; rfl
theorem skN_taken (s : Sk) : ∀ k, (skN s k).taken = s.taken + k
  | 0 => by simp [skN]
  | k + 1 => by rw [skN_succ, skNext_taken, skN_taken s k]; omega
theorem skN_ok {s : Sk} {n : Int} {k : Nat} {m : Int} (h : s.Ok n) (hk : (k : Int) + m ≤ n) : (skN s k).Ok m := by
  have := skN_taken s k
  unfold Sk.Ok at *
  omega
def entV (f : BForm) (s : Sk) (k : Nat) : Int := skBelow (skN s (1 + 2 * k + 1)) (skAmong (skN s (1 + 2 * k)) 1 (ten (nth f.widths k)))
def entN (f : BForm) (s : Sk) (k : Nat) : List Int := (List.range k).map (entV f s)
def entR (f : BForm) (s : Sk) : BRow := ⟨entN f s f.widths.length, skRare s 5⟩
theorem entN_succ (f : BForm) (s : Sk) (k : Nat) : entN f s (k + 1) = entN f s k ++ [entV f s k] := by unfold entN; rw [List.range_succ, List.map_append]; rfl
theorem entN_len (f : BForm) (s : Sk) (k : Nat) : (entN f s k).length = k := by simp [entN]
def stp (f : BForm) : Nat := 1 + 2 * f.widths.length
def mdW (s : Sk) (k : Nat) : List Int := (List.range k).map fun i => skAmong (skN s (2 + i)) 1 4
theorem mdW_succ (s : Sk) (k : Nat) : mdW s (k + 1) = mdW s k ++ [skAmong (skN s (2 + k)) 1 4] := by unfold mdW; rw [List.range_succ, List.map_append]; rfl
theorem mdW_len (s : Sk) (k : Nat) : (mdW s k).length = k := by simp [mdW]
def mdC (s : Sk) : Nat := (skAmong (skN s 1) 1 4).toNat
def mdF (s : Sk) : BForm := ⟨mdW s (mdC s), skAmong s 1 6⟩
def mdS (s : Sk) (k : Nat) : Sk := skN s (2 + mdC s + 1 + k * stp (mdF s))
def mdR (s : Sk) (k : Nat) : List BRow := (List.range k).map fun j => entR (mdF s) (mdS s j)
theorem mdR_succ (s : Sk) (k : Nat) : mdR s (k + 1) = mdR s k ++ [entR (mdF s) (mdS s k)] := by unfold mdR; rw [List.range_succ, List.map_append]; rfl
theorem mdR_len (s : Sk) (k : Nat) : (mdR s k).length = k := by simp [mdR]
def mdN (s : Sk) (n : Int) : Nat := (skBelow (skN s (2 + mdC s)) (n + 1)).toNat
def mdB (s : Sk) (n : Int) : Book := ⟨mdF s, mdR s (mdN s n)⟩
theorem mdS_succ (s : Sk) (k : Nat) : skN (mdS s k) (stp (mdF s)) = mdS s (k + 1) := by
  unfold mdS
  rw [skN_add, Nat.succ_mul, Nat.add_assoc]
theorem among_bnd (s : Sk) {lo hi : Int} (h : lo ≤ hi) : lo ≤ skAmong s lo hi ∧ skAmong s lo hi ≤ hi := by
  have := skBelow_bound s (hi - lo + 1)
  unfold skAmong; omega
theorem mdC_bnd (s : Sk) : 1 ≤ mdC s ∧ mdC s ≤ 4 := by
  have := among_bnd (skN s 1) (lo := 1) (hi := 4) (by omega)
  unfold mdC; omega
theorem mdC_int (s : Sk) : ((mdC s : Nat) : Int) = skAmong (skN s 1) 1 4 := by
  have := among_bnd (skN s 1) (lo := 1) (hi := 4) (by omega)
  unfold mdC; omega
theorem mdN_bnd (s : Sk) {n : Int} (h : 0 ≤ n) : (mdN s n : Int) ≤ n := by
  have := skBelow_bound (skN s (2 + mdC s)) (n + 1)
  unfold mdN; omega
theorem mdN_int (s : Sk) (n : Int) : ((mdN s n : Nat) : Int) = skBelow (skN s (2 + mdC s)) (n + 1) := by
  have := skBelow_bound (skN s (2 + mdC s)) (n + 1)
  unfold mdN; omega
theorem mdF_wid (s : Sk) : (mdF s).widths.length = mdC s := mdW_len s _
theorem mdF_ok (s : Sk) : FormOk (mdF s) := by
  have h := mdC_bnd s
  have hl := among_bnd s (lo := 1) (hi := 6) (by omega)
  refine ⟨by rw [mdF_wid]; omega, by rw [mdF_wid]; omega, fun x hx => ?_, hl.1, hl.2⟩
  obtain ⟨i, _, rfl⟩ := List.mem_map.1 (show x ∈ (List.range (mdC s)).map _ from hx)
  exact among_bnd _ (by omega)
theorem nth_range {α : Type} [Inhabited α] {g : Nat → α} {n k : Nat} (h : k < n) : nth ((List.range n).map g) k = g k := by simp [nth, h]
theorem entR_ok {f : BForm} (hf : FormOk f) (s : Sk) : RowOk f (entR f s) := by
  refine ⟨entN_len f s _, fun c hc => ?_⟩
  show 0 ≤ nth (entN f s f.widths.length) c ∧ nth (entN f s f.widths.length) c < _
  have hw := nth_wid hf hc
  have ht := ten_pos (nth f.widths c)
  unfold entN
  rw [nth_range hc]
  have h1 := among_bnd (skN s (1 + 2 * c)) (lo := 1) (hi := ten (nth f.widths c)) (by omega)
  have h2 := skBelow_bound (skN s (1 + 2 * c + 1)) (skAmong (skN s (1 + 2 * c)) 1 (ten (nth f.widths c)))
  unfold entV; omega
theorem mdB_ok (s : Sk) {n : Int} (h : 0 ≤ n ∧ n ≤ 12) : BookOk (mdB s n) := by
  refine ⟨mdF_ok s, ?_, fun r hr => ?_⟩
  · show (mdR s (mdN s n)).length ≤ 12
    rw [mdR_len]
    have := mdN_bnd s h.1; omega
  · obtain ⟨j, _, rfl⟩ := List.mem_map.1 (show r ∈ (List.range (mdN s n)).map _ from hr)
    exact entR_ok (mdF_ok s) _
end Go.Proofs.YtjjndkenddigiaaGreatDoor

namespace Go.Proofs.YtjjndkenddigiaaGreatDoor
open Go Go.T
set_option maxHeartbeats 2000000
theorem ten_0 : (1 : Int) = ten ((0 : Nat) : Int) := rfl
theorem ten_s {k : Int} (h : 0 ≤ k) : ten k * 10 = ten (k + 1) := by rw [ten_next h]; omega
theorem ent_next (f : BForm) (s : Sk) (k : Nat) : entN f s k ++ [skBelow (skN s (1 + 2 * k + 1)) (skAmong (skN s (1 + 2 * k)) 1 (ten (nth f.widths k)))] = entN f s (k + 1) := (entN_succ f s k).symm
theorem mdS_0 (s : Sk) : skN s (2 + mdC s + 1) = mdS s 0 := by unfold mdS; simp
attribute [local irreducible] skAmong skBelow skRare mdS ten
attribute [local irreducible] dInt dBool dSl dPp dPtr dAgg dTup dClo dAny dEx dStr dGd dCells dVec dVs dRow dOp nth Tri Into TOps Ctr bodyPost Exit.then Exit.inBlock Code.wp Code.wpIn dPa dArr dMp dMap CtrG keepPost iterPost bodyPostM roundQ
set_option maxRecDepth 100000 in
theorem c_limits (w : Int) (h : 1 ≤ w ∧ w ≤ 4) : Ctr Tryz.prog 100 [Ty.int .i64 w] (Ty.int .i64 (ten w)) := by
  refine fn_intro Tryz.func100 rfl (by decide) Tryz.ntmps100 (by exact Nat.le_of_ble_eq_true rfl) fun w0 M0 => ?_
  refine t_seq ?_
  refine t_region ?_
  refine asI rfl ?_
  refine r_nil ?_
  refine i_then ?_
  refine t_seq ?_
  refine t_region ?_
  refine asI rfl ?_
  refine r_nil ?_
  refine i_then ?_
  refine t_seq ?_
  refine t_seq ?_
  refine t_region ?_
  refine mvI rfl ?_
  refine mvI rfl ?_
  refine r_nil ?_
  refine i_then ?_
  refine t_block ?_
  refine t_loop (fun (k : {k : Nat // (k : Int) ≤ w}) => live [(3, Ty.int .i64 (ten ((k.1 : Nat) : Int))), (4, Ty.int .i64 w), (5, Ty.int .i64 (k.1 : Nat))] []) (fun k => w.toNat - k.1) (⟨0, by omega⟩) ?_ fun k => ?_
  · (refine Ent.mk' ?_ ?_ <;> (repeat' (first | exact allSub_zero | exact allTags_nil | refine allSub_succ' ?_ (Ty.sub_any _) | refine allSub_succ' ?_ (Ty.sub_refl _) | refine allSub_succ' ?_ ?_)))
    all_goals exact Ty.sub_int ten_0
  ·
    have hk := k.2
    have ht := ten_small (k := k.1) (by omega)
    refine t_seq ?_
    refine t_region ?_
    refine r_bin rfl rfl rfl ?_
    refine r_nil ?_
    refine i_then ?_
    refine t_seq ?_
    refine t_cond_dec rfl (fun hc1 => ?_) (fun hc1 => ?_)
    ·
      refine t_skip ?_
      refine i_then ?_
      refine t_seq ?_
      refine t_block ?_
      refine t_region ?_
      refine mvI rfl ?_
      refine r_mul rfl rfl (by omega) (by omega) ?_
      refine asI rfl ?_
      refine r_nil ?_
      refine i_block ?_
      refine i_then ?_
      refine t_region ?_
      refine r_add rfl rfl (by omega) (by omega) ?_
      refine mvI rfl ?_
      refine r_nil ?_
      refine i_round (⟨k.1 + 1, by omega⟩) ?_ (by show w.toNat - (k.1 + 1) < w.toNat - k.1; omega)
      (refine Ent.mk' ?_ ?_ <;> (repeat' (first | exact allSub_zero | exact allTags_nil | refine allSub_succ' ?_ (Ty.sub_any _) | refine allSub_succ' ?_ (Ty.sub_refl _) | refine allSub_succ' ?_ ?_)))
      all_goals skip
      all_goals exact Ty.sub_int ((ten_s (k := ((k.1 : Nat) : Int)) (by omega)).trans (congrArg ten (Int.natCast_add k.1 1).symm))
    ·
      refine t_exit ?_
      refine i_then_exit ?_
      refine i_then_exit ?_
      refine i_block_exit rfl ?_
      refine i_then ?_
      refine t_seq ?_
      refine t_region ?_
      refine mvI rfl ?_
      refine asI rfl ?_
      refine r_nil ?_
      refine i_then ?_
      refine t_ret ?_
      refine i_rp1 rfl rfl ?_
      all_goals skip
      have hw : ((k.1 : Nat) : Int) = w := by omega
      exact ret_eq rfl rfl (congrArg (fun x => Ty.int .i64 (ten x)) hw)
set_option maxRecDepth 100000 in
theorem c_Entry (f : BForm) (hf : FormOk f) (s : Sk) (hs : s.Ok 20) : CtrG Tryz.prog 46 [1000] [(1000, Cont.cells 147 (skTys s))] [Ty.ptr 1000 0, frmT f] [(1000, Cont.cells 147 (skTys (skN s (stp f))))] (rowT (entR f s)) := by
  refine fnG_intro Tryz.func46 rfl (by decide) Tryz.ntmps46 (by exact Nat.le_of_ble_eq_true rfl) fun w0 M0 => ?_
  have hfw := hf.n2
  refine t_seq ?_
  refine t_region ?_
  refine r_box_agg rfl ?_
  refine r_alloc rfl (by exact List.cons_ne_nil _ _) rfl ?_
  refine r_nil ?_
  refine i_then ?_
  refine t_seq ?_
  refine t_region ?_
  refine mvO rfl ?_
  refine r_callG [(1000, 1000)] [] [(1000, Cont.cells 147 (skTys (skN s 1)))] (c_Rare s (skN_ok (k := 0) hs (by omega)) 5) rfl rfl (by repeat (first | exact cv_nil | refine cv_cons ?_ ?_ | exact cv_ptr List.mem_cons_self | exact cv_pub rfl rfl)) (pre_cons (a := 1000) (b := 1000) (by exact List.mem_cons_self) rfl (cc_cells_eq (by exact List.mem_cons_self) rfl rfl rfl) pre_nil) (post_cons (a := 1000) (b := 1000) (by exact List.mem_cons_self) rfl (cc_cells_eq (by exact List.mem_cons_self) rfl rfl rfl) post_nil) (cv_pub rfl rfl) ?_
  refine r_build rfl rfl (by exact List.cons_ne_nil _ _) rfl (by repeat (first | exact (Parts.nil : Parts _ _ [] _) | (show Parts _ _ ((_, _) :: _) _; apply Parts.one; (· exact (rfl : _ = Ty.bool _)); (· exact rfl)))) (by exact (rfl : _ = some [_, _])) ?_
  refine r_alloc rfl (by exact List.cons_ne_nil _ _) rfl ?_
  refine r_storeN rfl rfl (by decide) rfl rfl rfl rfl rfl rfl ?_
  refine r_nil ?_
  refine i_then ?_
  refine t_seq ?_
  refine t_seq ?_
  refine t_region ?_
  refine r_field_pp rfl rfl rfl rfl rfl (by decide) ?_
  refine r_load_pp rfl rfl rfl rfl ?_
  refine r_len rfl rfl rfl ?_
  refine mvI rfl ?_
  refine r_nil ?_
  refine i_then ?_
  refine t_block ?_
  refine t_loop (fun (k : {k : Nat // k ≤ f.widths.length}) => live [(0, Ty.ptr 1000 0), (3, Ty.pp (frmTys f)), (4, Ty.ptr 5 0), (5, Ty.ptr 6 0), (13, Ty.sl I64 f.widths), (14, Ty.int .i64 f.widths.length), (15, Ty.int .i64 (k.1 : Nat))] [(5, Cont.cells 66 [Ty.ex (.slice none 0 0), Ty.bool false]), (6, Cont.cells 66 [Ty.row I64 3 30 (entN f s k.1), Ty.bool (skRare s 5)]), (1000, Cont.cells 147 (skTys (skN s (1 + 2 * k.1))))]) (fun k => f.widths.length - k.1) (⟨0, by omega⟩) ?_ fun k => ?_
  · (refine Ent.mk' ?_ ?_ <;> (repeat' (first | exact allSub_zero | exact allTags_nil | exact subs_nil | refine allSub_succ' ?_ (Ty.sub_any _) | refine allSub_succ' ?_ (Ty.sub_refl _) | refine allTags_cons rfl (Cont.sub_refl _) ?_ | refine allTags_cons rfl (Cont.sub_subs ?_) ?_ | refine subs_cons ?_ (Ty.sub_refl _) | refine subs_cons ?_ Ty.nil_row)))
    all_goals trace_state
  ·
    have hk := k.2
    have hel := entN_len f s k.1
    refine t_seq ?_
    refine t_region ?_
    refine r_bin rfl rfl rfl ?_
    refine r_nil ?_
    refine i_then ?_
    refine t_seq ?_
    refine t_cond_dec rfl (fun hc1 => ?_) (fun hc1 => ?_)
    ·
      refine t_skip ?_
      refine i_then ?_
      refine t_seq ?_
      refine t_block ?_
      refine t_seq ?_
      have hw := nth_wid hf (c := k.1) (by omega)
      have ht := ten_small (k := (nth f.widths k.1).toNat) (by omega)
      rw [Int.toNat_of_nonneg (by omega)] at ht
      refine t_region ?_
      refine r_index_slN rfl rfl rfl rfl rfl rfl (by omega) ?_
      refine r_load_pp rfl rfl rfl rfl ?_
      refine asI rfl ?_
      refine r_nil ?_
      refine i_then ?_
      refine t_seq ?_
      refine t_region ?_
      refine mvI rfl ?_
      refine r_call (c_limits _ hw) rfl rfl rfl rfl rfl ?_
      refine asI rfl ?_
      refine r_nil ?_
      refine i_then ?_
      refine t_draw mixed rfl ?_
      refine r_field_ptr rfl rfl rfl rfl rfl (by decide) ?_
      refine r_load_ptr rfl rfl (by decide) rfl rfl rfl ?_
      refine mvO rfl ?_
      refine mvO rfl ?_
      refine mvI rfl ?_
      refine r_callG [(1000, 1000)] [] [(1000, Cont.cells 147 (skTys (skN s (1 + 2 * k.1 + 1))))] (c_Among (skN s (1 + 2 * k.1)) (skN_ok hs (by omega)) 1 (ten (nth f.widths k.1)) (by omega) (by omega)) rfl rfl (by repeat (first | exact cv_nil | refine cv_cons ?_ ?_ | exact cv_ptr List.mem_cons_self | exact cv_pub rfl rfl)) (pre_cons (a := 1000) (b := 1000) (by exact List.mem_cons_self) rfl (cc_cells_eq (by exact List.mem_cons_self) rfl rfl rfl) pre_nil) (post_cons (a := 1000) (b := 1000) (by exact List.mem_cons_self) rfl (cc_cells_eq (by exact List.mem_cons_self) rfl rfl rfl) post_nil) (cv_pub rfl rfl) ?_
      refine r_callG [(1000, 1000)] [] [(1000, Cont.cells 147 (skTys (skN s (1 + 2 * (k.1 + 1)))))] (c_Below (skN s (1 + 2 * k.1 + 1)) (skN_ok hs (by omega)) (skAmong (skN s (1 + 2 * k.1)) 1 (ten (nth f.widths k.1)))) rfl rfl (by repeat (first | exact cv_nil | refine cv_cons ?_ ?_ | exact cv_ptr List.mem_cons_self | exact cv_pub rfl rfl)) (pre_cons (a := 1000) (b := 1000) (by exact List.mem_cons_self) rfl (cc_cells_eq (by exact List.mem_cons_self) rfl rfl rfl) pre_nil) (post_cons (a := 1000) (b := 1000) (by exact List.mem_cons_self) rfl (cc_cells_eq (by exact List.mem_cons_self) rfl rfl rfl) post_nil) (cv_pub rfl rfl) ?_
      refine r_buildSlice (E := I64) (xs := [skBelow (skN s (1 + 2 * k.1 + 1)) (skAmong (skN s (1 + 2 * k.1)) 1 (ten (nth f.widths k.1)))]) rfl rfl rfl rfl rfl (by decide) (by decide) (by repeat (first | exact (Parts.nil : Parts _ _ [] _) | (show Parts _ _ ((_, _) :: _) _; apply Parts.one; (· exact (rfl : _ = Ty.int _ _)); (· exact rfl)))) (by exact rfl) rfl ?_
      refine r_append rfl rfl (by decide) rfl rfl rfl rfl rfl rfl (by decide) (by (simp <;> omega)) (by (simp <;> omega)) ?_
      refine r_field_ptr rfl rfl rfl rfl rfl (by decide) ?_
      refine r_store1 rfl rfl (by decide) rfl rfl (by exact (rfl : _ = Ty.row _ _ _ _)) rfl (by exact Nat.le_of_ble_eq_true rfl) rfl rfl (by exact rfl) ?_
      refine r_nil ?_
      refine ⟨by kernel_rfl, ?_⟩
      refine i_block ?_
      refine i_then ?_
      refine t_region ?_
      refine r_add rfl rfl (by omega) (by omega) ?_
      refine mvI rfl ?_
      refine r_nil ?_
      refine i_round (⟨k.1 + 1, by omega⟩) ?_ (by show f.widths.length - (k.1 + 1) < f.widths.length - k.1; omega)
      (refine Ent.mk' ?_ ?_ <;> (repeat' (first | exact allSub_zero | exact allTags_nil | exact subs_nil | refine allSub_succ' ?_ (Ty.sub_any _) | refine allSub_succ' ?_ (Ty.sub_refl _) | refine allTags_cons rfl (Cont.sub_refl _) ?_ | refine allTags_cons rfl (Cont.sub_subs ?_) ?_ | refine subs_cons ?_ (Ty.sub_refl _) | refine subs_cons ?_ ?_)))
      all_goals skip
      all_goals exact Ty.sub_row (ent_next f s k.1)
    ·
      refine t_exit ?_
      refine i_then_exit ?_
      refine i_then_exit ?_
      refine i_block_exit rfl ?_
      refine i_then ?_
      refine t_seq ?_
      refine t_pubC (tg := 30) [] [(6, Cont.cells 66 (BRowE.tys (entR f s)))] (by decide) rfl trivial ⟨pubC_cells rfl rfl ⟨pubTy_row_eq (by show entN f s k.1 = entN f s f.widths.length; rw [show k.1 = f.widths.length by omega]), pubTy_same rfl, trivial⟩, trivial⟩ ?_
      refine t_region ?_
      refine r_load_ptrN rfl rfl (by decide) rfl rfl (by exact Nat.le_of_ble_eq_true rfl) ?_
      refine r_storeN rfl rfl (by decide) rfl rfl rfl rfl rfl rfl ?_
      refine r_nil ?_
      refine i_then ?_
      refine t_ret ?_
      refine g_rcell [1000] rfl rfl rfl rfl (by decide) rfl rfl rfl (by decide) ?_ ?_
      exact rc_cons rfl (cc_cells_eq (by decide) rfl rfl (by rw [show k.1 = f.widths.length by omega]; rfl)) rc_nil
      all_goals exact rg_cv (cv_pub rfl rfl)
      all_goals trace_state
attribute [local irreducible] entR
set_option maxRecDepth 100000 in
theorem c_Made (s : Sk) (hs : s.Ok 200) (n : Int) (hn : 0 ≤ n ∧ n ≤ 12) : CtrG Tryz.prog 44 [1000] [(1000, Cont.cells 147 (skTys s))] [Ty.ptr 1000 0, Ty.int .i64 n] [] (bokT (mdB s n)) := by
  refine fnG_intro Tryz.func44 rfl (by decide) Tryz.ntmps44 (by exact Nat.le_of_ble_eq_true rfl) fun w0 M0 => ?_
  have hc := mdC_bnd s
  have hci := mdC_int s
  have hni := mdN_int s n
  have hnb := mdN_bnd s hn.1
  have hff := mdF_ok s
  have hst : stp (mdF s) = 1 + 2 * mdC s := by unfold stp; rw [mdF_wid]
  refine t_seq ?_
  refine t_region ?_
  refine r_alloc rfl (by exact List.cons_ne_nil _ _) rfl ?_
  refine r_nil ?_
  refine i_then ?_
  refine t_seq ?_
  refine t_region ?_
  refine mvO rfl ?_
  refine r_callG [(1000, 1000)] [] [(1000, Cont.cells 147 (skTys (skN s 1)))] (c_Among s (skN_ok (k := 0) hs (by omega)) 1 6 (by decide) (by decide)) rfl rfl (by repeat (first | exact cv_nil | refine cv_cons ?_ ?_ | exact cv_ptr List.mem_cons_self | exact cv_pub rfl rfl)) (pre_cons (a := 1000) (b := 1000) (by exact List.mem_cons_self) rfl (cc_cells_eq (by exact List.mem_cons_self) rfl rfl rfl) pre_nil) (post_cons (a := 1000) (b := 1000) (by exact List.mem_cons_self) rfl (cc_cells_eq (by exact List.mem_cons_self) rfl rfl rfl) post_nil) (cv_pub rfl rfl) ?_
  refine r_build rfl rfl (by exact List.cons_ne_nil _ _) rfl (by repeat (first | exact (Parts.nil : Parts _ _ [] _) | (show Parts _ _ ((_, _) :: _) _; apply Parts.one; (· exact (rfl : _ = Ty.int _ _)); (· exact rfl)))) (by exact (rfl : _ = some [_, _])) ?_
  refine r_build rfl rfl (by exact List.cons_ne_nil _ _) rfl (by repeat (first | exact (Parts.nil : Parts _ _ [] _) | (show Parts _ _ ((_, _) :: _) _; apply Parts.agg; (· exact (rfl : _ = Ty.agg _))))) (by exact (rfl : _ = some [_, _, _])) ?_
  refine r_alloc rfl (by exact List.cons_ne_nil _ _) rfl ?_
  refine r_storeN rfl rfl (by decide) rfl rfl rfl rfl rfl rfl ?_
  refine r_nil ?_
  refine i_then ?_
  refine t_seq ?_
  refine t_seq ?_
  refine t_region ?_
  refine mvO rfl ?_
  refine r_callG [(1000, 1000)] [] [(1000, Cont.cells 147 (skTys (skN s 2)))] (c_Among (skN s 1) (skN_ok hs (by omega)) 1 4 (by decide) (by decide)) rfl rfl (by repeat (first | exact cv_nil | refine cv_cons ?_ ?_ | exact cv_ptr List.mem_cons_self | exact cv_pub rfl rfl)) (pre_cons (a := 1000) (b := 1000) (by exact List.mem_cons_self) rfl (cc_cells_eq (by exact List.mem_cons_self) rfl rfl rfl) pre_nil) (post_cons (a := 1000) (b := 1000) (by exact List.mem_cons_self) rfl (cc_cells_eq (by exact List.mem_cons_self) rfl rfl rfl) post_nil) (cv_pub rfl rfl) ?_
  refine mvI rfl ?_
  refine r_nil ?_
  refine i_then ?_
  refine t_block ?_
  refine t_loop (fun (k : {k : Nat // k ≤ mdC s}) => live [(0, Ty.ptr 1000 0), (1, Ty.int .i64 n), (4, Ty.ptr 5 0), (5, Ty.ptr 6 0), (11, Ty.int .i64 (mdC s : Nat)), (12, Ty.int .i64 (k.1 : Nat))] [(5, Cont.cells 27 [Ty.ex (.slice none 0 0), Ty.int .i64 0, Ty.ex (.slice none 0 0)]), (6, Cont.cells 27 [Ty.row I64 3 21 (mdW s k.1), Ty.int .i64 (skAmong s 1 6), Ty.ex (.slice none 0 0)]), (1000, Cont.cells 147 (skTys (skN s (2 + k.1))))]) (fun k => mdC s - k.1) (⟨0, by omega⟩) ?_ fun k => ?_
  · (refine Ent.mk' ?_ ?_ <;> (repeat' (first | exact allSub_zero | exact allTags_nil | exact subs_nil | refine allSub_succ' ?_ (Ty.sub_any _) | refine allSub_succ' ?_ (Ty.sub_refl _) | refine allTags_cons rfl (Cont.sub_refl _) ?_ | refine allTags_cons rfl (Cont.sub_subs ?_) ?_ | refine subs_cons ?_ (Ty.sub_refl _) | refine subs_cons ?_ Ty.nil_row | refine allSub_succ' ?_ ?_)))
    all_goals exact Ty.sub_int hci.symm
  ·
    have hk := k.2
    have hwl := mdW_len s k.1
    refine t_seq ?_
    refine t_region ?_
    refine r_bin rfl rfl rfl ?_
    refine r_nil ?_
    refine i_then ?_
    refine t_seq ?_
    refine t_cond_dec rfl (fun hc1 => ?_) (fun hc1 => ?_)
    ·
      refine t_skip ?_
      refine i_then ?_
      refine t_seq ?_
      refine t_block ?_
      refine t_draw mixed rfl ?_
      refine r_field_ptr rfl rfl rfl rfl rfl (by decide) ?_
      refine r_field_ptr rfl rfl rfl rfl rfl (by decide) ?_
      refine r_load_ptr rfl rfl (by decide) rfl rfl rfl ?_
      refine mvO rfl ?_
      refine r_callG [(1000, 1000)] [] [(1000, Cont.cells 147 (skTys (skN s (2 + (k.1 + 1)))))] (c_Among (skN s (2 + k.1)) (skN_ok hs (by omega)) 1 4 (by decide) (by decide)) rfl rfl (by repeat (first | exact cv_nil | refine cv_cons ?_ ?_ | exact cv_ptr List.mem_cons_self | exact cv_pub rfl rfl)) (pre_cons (a := 1000) (b := 1000) (by exact List.mem_cons_self) rfl (cc_cells_eq (by exact List.mem_cons_self) rfl rfl rfl) pre_nil) (post_cons (a := 1000) (b := 1000) (by exact List.mem_cons_self) rfl (cc_cells_eq (by exact List.mem_cons_self) rfl rfl rfl) post_nil) (cv_pub rfl rfl) ?_
      refine r_buildSlice (E := I64) (xs := [skAmong (skN s (2 + k.1)) 1 4]) rfl rfl rfl rfl rfl (by decide) (by decide) (by repeat (first | exact (Parts.nil : Parts _ _ [] _) | (show Parts _ _ ((_, _) :: _) _; apply Parts.one; (· exact (rfl : _ = Ty.int _ _)); (· exact rfl)))) (by exact rfl) rfl ?_
      refine r_append rfl rfl (by decide) rfl rfl rfl rfl rfl rfl (by decide) (by (simp <;> omega)) (by (simp <;> omega)) ?_
      refine r_field_ptr rfl rfl rfl rfl rfl (by decide) ?_
      refine r_field_ptr rfl rfl rfl rfl rfl (by decide) ?_
      refine r_store1 rfl rfl (by decide) rfl rfl (by exact (rfl : _ = Ty.row _ _ _ _)) rfl (by exact Nat.le_of_ble_eq_true rfl) rfl rfl (by exact rfl) ?_
      refine r_nil ?_
      refine ⟨by kernel_rfl, ?_⟩
      refine i_block ?_
      refine i_then ?_
      refine t_region ?_
      refine r_add rfl rfl (by omega) (by omega) ?_
      refine mvI rfl ?_
      refine r_nil ?_
      refine i_round (⟨k.1 + 1, by omega⟩) ?_ (by show mdC s - (k.1 + 1) < mdC s - k.1; omega)
      (refine Ent.mk' ?_ ?_ <;> (repeat' (first | exact allSub_zero | exact allTags_nil | exact subs_nil | refine allSub_succ' ?_ (Ty.sub_any _) | refine allSub_succ' ?_ (Ty.sub_refl _) | refine allTags_cons rfl (Cont.sub_refl _) ?_ | refine allTags_cons rfl (Cont.sub_subs ?_) ?_ | refine subs_cons ?_ (Ty.sub_refl _) | refine subs_cons ?_ ?_)))
      all_goals skip
      all_goals exact Ty.sub_row (mdW_succ s k.1).symm
    ·
      refine t_exit ?_
      refine i_then_exit ?_
      refine i_then_exit ?_
      refine i_block_exit rfl ?_
      refine i_then ?_
      refine t_seq ?_
      refine t_seq ?_
      refine t_forget (B := live [(0, Ty.ptr 1000 0), (1, Ty.int .i64 n), (4, Ty.ptr 5 0), (5, Ty.ptr 6 0)] [(5, Cont.cells 27 [Ty.ex (.slice none 0 0), Ty.int .i64 0, Ty.ex (.slice none 0 0)]), (6, Cont.cells 27 [Ty.row I64 3 21 (mdW s k.1), Ty.int .i64 (skAmong s 1 6), Ty.ex (.slice none 0 0)]), (1000, Cont.cells 147 (skTys (skN s (2 + k.1))))]) ?_ ?_
      · (refine Ent.mk' ?_ ?_ <;> (repeat' (first | exact allSub_zero | exact allTags_nil | refine allSub_succ' ?_ (Ty.sub_any _) | refine allSub_succ' ?_ (Ty.sub_refl _) | refine allTags_cons rfl (Cont.sub_refl _) ?_)))
      have hkc : k.1 = mdC s := by omega
      refine t_pubC (tg := 21) [] [(6, Cont.cells 27 [Ty.sl I64 (mdF s).widths, Ty.int .i64 (mdF s).lines, Ty.ex (.slice none 0 0)])] (by decide) rfl trivial ⟨pubC_cells rfl rfl ⟨pubTy_row_eq (by rw [hkc]; rfl), pubTy_same rfl, pubTy_same rfl, trivial⟩, trivial⟩ ?_
      refine t_asC (tg := 1000) (D := Cont.cells 147 (skTys (skN s (2 + mdC s)))) rfl (by rw [hkc]; exact Cont.sub_refl _) ?_
      refine t_region ?_
      refine mvO rfl ?_
      refine mvI rfl ?_
      refine r_add rfl rfl (by omega) (by omega) ?_
      refine r_callG [(1000, 1000)] [] [(1000, Cont.cells 147 (skTys (skN s (2 + mdC s + 1))))] (c_Below (skN s (2 + mdC s)) (skN_ok hs (by omega)) (n + 1)) rfl rfl (by repeat (first | exact cv_nil | refine cv_cons ?_ ?_ | exact cv_ptr List.mem_cons_self | exact cv_pub rfl rfl)) (pre_cons (a := 1000) (b := 1000) (by exact List.mem_cons_self) rfl (cc_cells_eq (by exact List.mem_cons_self) rfl rfl rfl) pre_nil) (post_cons (a := 1000) (b := 1000) (by exact List.mem_cons_self) rfl (cc_cells_eq (by exact List.mem_cons_self) rfl rfl rfl) post_nil) (cv_pub rfl rfl) ?_
      refine mvI rfl ?_
      refine r_nil ?_
      refine i_then ?_
      refine t_block ?_
      refine t_loop (fun (j : {j : Nat // j ≤ mdN s n}) => live [(0, Ty.ptr 1000 0), (4, Ty.ptr 5 0), (5, Ty.ptr 6 0), (27, Ty.int .i64 (mdN s n : Nat)), (28, Ty.int .i64 (j.1 : Nat))] [(5, Cont.cells 27 [Ty.ex (.slice none 0 0), Ty.int .i64 0, Ty.ex (.slice none 0 0)]), (6, Cont.cells 27 [Ty.sl I64 (mdF s).widths, Ty.int .i64 (mdF s).lines, Ty.row BRowE 66 38 (mdR s j.1)]), (1000, Cont.cells 147 (skTys (mdS s j.1)))]) (fun j => mdN s n - j.1) (⟨0, by omega⟩) ?_ fun j => ?_
      · (refine Ent.mk' ?_ ?_ <;> (repeat' (first | exact allSub_zero | exact allTags_nil | exact subs_nil | refine allSub_succ' ?_ (Ty.sub_any _) | refine allSub_succ' ?_ (Ty.sub_refl _) | refine allTags_cons rfl (Cont.sub_refl _) ?_ | refine allTags_cons rfl (Cont.sub_subs ?_) ?_ | refine subs_cons ?_ (Ty.sub_refl _) | refine subs_cons ?_ Ty.nil_row | refine subs_cons ?_ ?_ | refine allSub_succ' ?_ ?_)))
        all_goals first | exact Ty.sub_int hni.symm | exact Ty.sub_int (congrArg Sk.mixed (mdS_0 s)) | exact Ty.sub_int (congrArg Sk.taken (mdS_0 s)) | exact Ty.sub_sl (congrArg Sk.grain (mdS_0 s))
      ·
        have hj := j.2
        have hrl := mdR_len s j.1
        have hso : (mdS s j.1).Ok 20 := by
          unfold mdS
          refine skN_ok hs ?_
          rw [hst]
          have h1 : j.1 * (1 + 2 * mdC s) ≤ 12 * 9 := Nat.mul_le_mul (by omega) (by omega)
          omega
        refine t_seq ?_
        refine t_region ?_
        refine r_bin rfl rfl rfl ?_
        refine r_nil ?_
        refine i_then ?_
        refine t_seq ?_
        refine t_cond_dec rfl (fun hc2 => ?_) (fun hc2 => ?_)
        ·
          refine t_skip ?_
          refine i_then ?_
          refine t_seq ?_
          refine t_block ?_
          refine t_draw mixed rfl ?_
          refine r_field_ptr rfl rfl rfl rfl rfl (by decide) ?_
          refine r_load_ptr rfl rfl (by decide) rfl rfl rfl ?_
          refine mvO rfl ?_
          refine r_field_ptr rfl rfl rfl rfl rfl (by decide) ?_
          refine r_load_ptrN rfl rfl (by decide) rfl rfl (by exact Nat.le_of_ble_eq_true rfl) ?_
          refine r_callG (res' := rowT (entR (mdF s) (mdS s j.1))) [(1000, 1000)] [] [(1000, Cont.cells 147 (skTys (mdS s (j.1 + 1))))] (c_Entry (mdF s) hff (mdS s j.1) hso) rfl rfl (cv_cons (cv_cons cv_nil (cv_pub rfl rfl)) (cv_ptr (by exact List.mem_cons_self))) (pre_cons (a := 1000) (b := 1000) (by exact List.mem_cons_self) rfl (cc_cells_eq (by exact List.mem_cons_self) rfl rfl rfl) pre_nil) (post_cons (a := 1000) (b := 1000) (by exact List.mem_cons_self) rfl (cc_cells_eq (by exact List.mem_cons_self) rfl rfl (by rw [mdS_succ])) post_nil) (cv_pub rfl rfl) ?_
          refine r_buildSlice (E := BRowE) (xs := [entR (mdF s) (mdS s j.1)]) rfl rfl rfl rfl rfl (by decide) (by decide) (by repeat (first | exact (Parts.nil : Parts _ _ [] _) | (show Parts _ _ ((_, _) :: _) _; apply Parts.agg; (· exact (rfl : _ = Ty.agg _))))) (by exact rfl) rfl ?_
          refine r_append rfl rfl (by decide) rfl rfl rfl rfl rfl rfl (by decide) (by (simp <;> omega)) (by (simp <;> omega)) ?_
          refine r_field_ptr rfl rfl rfl rfl rfl (by decide) ?_
          refine r_store1 rfl rfl (by decide) rfl rfl (by exact (rfl : _ = Ty.row _ _ _ _)) rfl (by exact Nat.le_of_ble_eq_true rfl) rfl rfl (by exact rfl) ?_
          refine r_nil ?_
          refine ⟨by kernel_rfl, ?_⟩
          refine i_block ?_
          refine i_then ?_
          refine t_region ?_
          refine r_add rfl rfl (by omega) (by omega) ?_
          refine mvI rfl ?_
          refine r_nil ?_
          refine i_round (⟨j.1 + 1, by omega⟩) ?_ (by show mdN s n - (j.1 + 1) < mdN s n - j.1; omega)
          (refine Ent.mk' ?_ ?_ <;> (repeat' (first | exact allSub_zero | exact allTags_nil | exact subs_nil | refine allSub_succ' ?_ (Ty.sub_any _) | refine allSub_succ' ?_ (Ty.sub_refl _) | refine allTags_cons rfl (Cont.sub_refl _) ?_ | refine allTags_cons rfl (Cont.sub_subs ?_) ?_ | refine subs_cons ?_ (Ty.sub_refl _) | refine subs_cons ?_ ?_)))
          all_goals skip
          all_goals exact Ty.sub_row (mdR_succ s j.1).symm
        ·
          refine t_exit ?_
          refine i_then_exit ?_
          refine i_then_exit ?_
          refine i_block_exit rfl ?_
          refine i_then ?_
          refine t_seq ?_
          refine t_pubC (tg := 38) [] [(6, Cont.cells 27 (bokTys (mdB s n)))] (by decide) rfl trivial ⟨pubC_cells rfl rfl ⟨pubTy_same rfl, pubTy_same rfl, pubTy_row_eq (by rw [show j.1 = mdN s n by omega]; rfl), trivial⟩, trivial⟩ ?_
          refine t_region ?_
          refine r_load_ptrN rfl rfl (by decide) rfl rfl (by exact Nat.le_of_ble_eq_true rfl) ?_
          refine r_storeN rfl rfl (by decide) rfl rfl rfl rfl rfl rfl ?_
          refine r_nil ?_
          refine i_then ?_
          refine t_ret ?_
          refine g_rcell [1000] rfl rfl rfl rfl (by decide) rfl rfl rfl (by decide) ?_ ?_
          exact rc_nil
          all_goals exact rg_cv (cv_pub rfl rfl)
          all_goals trace_state
end Go.Proofs.YtjjndkenddigiaaGreatDoor
