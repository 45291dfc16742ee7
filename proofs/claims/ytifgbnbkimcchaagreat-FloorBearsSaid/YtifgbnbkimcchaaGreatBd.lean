/- Lemmas: the program and the reference walked, plain laws. -/
import Derived.Test.YtifgbnbkimcchaaGreatBc
namespace Go.Proofs.YtifgbnbkimcchaaGreat
open Go Go.T
set_option maxHeartbeats 2000000
attribute [local irreducible] dInt dBool dSl dPp dPtr dAgg dTup dClo dAny dEx dStr dGd dCells dVec dVs dRow dOp nth Tri Into TOps Ctr bodyPost Exit.then Exit.inBlock Code.wp Code.wpIn dWhen dPa dPe dAo dArr dMp dPm dMap dCJ CtrG CtrI OpY keepPost iterPost bodyPostM roundQ
theorem und22 : Tryz.prog.underlying 22 = some (.slice 3) := by kernel_rfl
def castN (l : List Nat) : List Int := l.map fun (n : Nat) => (n : Int)
theorem flat_cast : ∀ l : List Nat, l.flatMap N64.tys = (castN l).flatMap I64.tys
  | [] => rfl
  | x :: l => by
    have ih := flat_cast l
    rw [List.flatMap_cons, ih]; rfl
theorem sub_cast (l : List Nat) : (Ty.sl N64 l).Sub (Ty.sl I64 (castN l)) := sl_conv (flat_cast l) (by simp [castN])
theorem sub_uncast (l : List Nat) : (Ty.sl I64 (castN l)).Sub (Ty.sl N64 l) := sl_conv (flat_cast l).symm (by simp [castN])
theorem all_cast (q : Nat → Bool) (l : List Nat) : (castN l).all (fun x => q x.toNat) = l.all q := by unfold castN; rw [List.all_map]; rfl
set_option maxRecDepth 100000 in
theorem c_Clone_int (l : List Int) (h : l.length ≤ 1000) : Ctr Tryz.prog 38 [Ty.sl I64 l] (Ty.sl I64 l) := by
  refine fn_intro Tryz.func38 rfl (by decide) Tryz.ntmps38 (by exact Nat.le_of_ble_eq_true rfl) fun w0 M0 => ?_
  refine t_seq ?_
  refine t_region ?_
  refine asX rfl ?_
  refine r_nil ?_
  refine i_then ?_
  refine t_seq ?_
  refine t_seq ?_
  refine t_region ?_
  refine mvS rfl ?_
  refine r_eqnil und22 rfl ?_
  refine r_nil ?_
  refine i_then ?_
  refine t_cond_nb rfl (fun hc1 => ?_) (fun hc1 => ?_)
  ·
    refine t_seq ?_
    refine t_region ?_
    refine asX rfl ?_
    refine r_nil ?_
    refine i_then ?_
    refine t_ret ?_
    refine i_then_ret ?_
    refine i_rp1 rfl rfl ?_
    all_goals skip
    exact ret_nil_eq hc1
  ·
    refine t_skip ?_
    refine i_then ?_
    refine t_seq ?_
    refine t_region ?_
    refine r_buildRow (E := I64) rfl rfl rfl rfl ?_
    refine mvS rfl ?_
    refine r_append rfl rfl (by decide) rfl rfl rfl rfl rfl rfl (by decide) (by (simp <;> omega)) (by (simp <;> omega)) ?_
    refine asR rfl ?_
    refine r_nil ?_
    refine i_then ?_
    refine t_ret ?_
    refine i_rp1 rfl rfl ?_
    all_goals exact ret_row (by decide)
    skip
section
variable {f : Flr} {l : List Int} {n : Int} {t : Ty}
theorem rb1 (h : orderP f l = n) (hn : n ≠ 0) : RetSub (Ty.ex (.pointer none)) (Ty.when (decide (orderP f l = 0)) t) :=
  ret_sub rfl rfl (Ty.sub_when rfl fun hx => absurd (of_decide_eq_true hx) (by rw [h]; exact hn))
theorem rb2 (h : orderP f l = n) (hn : n ≠ 0) : RetSub (Ty.ex (.slice none 0 0)) (Ty.sl N64 (if orderP f l = 0 then setsO l else [])) := ret_nil_eq (if_neg (by rw [h]; exact hn))
theorem rb3 (h : orderP f l = n) : RetSub (Ty.int .i64 n) (Ty.int .i64 (orderP f l)) := ret_eq rfl rfl (congrArg (Ty.int .i64) h.symm)
theorem o1 (h : ¬ openE f false = 0) : orderP f l = openE f false := if_pos h
theorem o2 (h : openE f false = 0) (h2 : ¬ (l.length : Int) = f.turnings.length) : orderP f l = 2 := by unfold orderP; rw [if_neg (fun x => x h), if_pos h2]
theorem o3 (h : openE f false = 0) (h2 : (l.length : Int) = f.turnings.length) (h3 : (!l.all fun t => inB t 0 (f.turnings.length - 1)) = true) : orderP f l = 1 := by unfold orderP; rw [if_neg (fun x => x h), if_neg (fun x => x h2), if_pos h3]
theorem o4 (h : openE f false = 0) (h2 : (l.length : Int) = f.turnings.length) (h3 : (!l.all fun t => inB t 0 (f.turnings.length - 1)) = false) (h4 : ¬ (((setOf l : Nat) : Int) = ((1 <<< l.length : Nat) : Int) - 1)) : orderP f l = 5 := by
  unfold orderP; rw [if_neg (fun x => x h), if_neg (fun x => x h2), if_neg (Bool.eq_false_iff.1 h3), if_pos h4]
theorem o5 (h : openE f false = 0) (h2 : (l.length : Int) = f.turnings.length) (h3 : (!l.all fun t => inB t 0 (f.turnings.length - 1)) = false) (h4 : ((setOf l : Nat) : Int) = ((1 <<< l.length : Nat) : Int) - 1) (h5 : (!(setsO l).all (wholeP (boardsOf f))) = true) : orderP f l = 4 := by
  unfold orderP; rw [if_neg (fun x => x h), if_neg (fun x => x h2), if_neg (Bool.eq_false_iff.1 h3), if_neg (fun x => x h4), if_pos h5]
theorem o6 (h : openE f false = 0) (h2 : (l.length : Int) = f.turnings.length) (h3 : (!l.all fun t => inB t 0 (f.turnings.length - 1)) = false) (h4 : ((setOf l : Nat) : Int) = ((1 <<< l.length : Nat) : Int) - 1) (h5 : (!(setsO l).all (wholeP (boardsOf f))) = false) : orderP f l = 0 := by
  unfold orderP; rw [if_neg (fun x => x h), if_neg (fun x => x h2), if_neg (Bool.eq_false_iff.1 h3), if_neg (fun x => x h4), if_neg (Bool.eq_false_iff.1 h5)]
end
theorem setsO_one (l : List Int) : (setsO l).take 1 = [0] := by unfold setsO; rw [List.range_succ_eq_map]; rfl
theorem rowsP_len (f : Flr) (l : List Int) : (rowsP f l).length = (setsO l).length := by simp [rowsP]
theorem rowsP_nth {f : Flr} {l : List Int} {k : Nat} (h : k < (setsO l).length) : nth (rowsP f l) k = rowP f (nth (setsO l) k) := by
  rw [nth_lt (by rw [rowsP_len]; exact h), nth_lt h]; simp [rowsP]
theorem setsO_row {l : List Int} {k : Nat} (h : k < l.length) : (setsO l).take (k + 1) ++ [nth ((setsO l).take (k + 1)) k ||| 1 <<< (nth l k).toNat] = (setsO l).take (k + 1 + 1) := by
  have hl := setsO_len l
  have e : nth ((setsO l).take (k + 1)) k = setOf (l.take k) := by rw [nth_lt (by rw [List.length_take]; omega), List.getElem_take, ← nth_lt (by omega), setsO_nth (by omega)]
  rw [e, ← setOf_succ h, ← setsO_nth (by omega), ← take_nth (by omega)]
theorem setsO_small {f : Flr} {l : List Int} (hn : f.turnings.length ≤ 8) (hrg : ∀ x ∈ l, 0 ≤ x ∧ x < (f.turnings.length : Int)) {s : Nat} (hs : s ∈ setsO l) : s < 256 := by
  obtain ⟨k, hk, rfl⟩ := List.mem_map.1 hs
  exact pow256 hn (setOf_lt hrg k (by have := List.mem_range.1 hk; omega))
set_option maxRecDepth 100000 in
theorem c_ordered (f : Flr) (hs : f.Small) (order : List Int) (hl : order.length ≤ 1000) : Ctr Tryz.prog 95 [flrT f, Ty.sl I64 order] (Ty.tup [Ty.when (decide (orderP f order = 0)) (Ty.pe BrdE (boardsOf f) 0), Ty.sl N64 (if orderP f order = 0 then setsO order else []), Ty.int .i64 (orderP f order)]) := by
  refine fn_intro Tryz.func95 rfl (by decide) Tryz.ntmps95 (by exact Nat.le_of_ble_eq_true rfl) fun w0 M0 => ?_
  have hs1 := hs.bears; have hs2 := hs.bins; have hs3 := hs.turnings; have hs4 := hs.rules
  refine t_seq ?_
  refine t_region ?_
  refine r_box_agg rfl ?_
  refine asX rfl ?_
  refine asX rfl ?_
  refine asI rfl ?_
  refine r_nil ?_
  refine i_then ?_
  refine t_seq ?_
  refine t_region ?_
  refine r_load_ppN rfl rfl rfl (by exact Nat.le_of_ble_eq_true rfl) ?_
  refine r_call (c_open f hs _) rfl rfl rfl rfl rfl ?_
  refine mvT rfl ?_
  refine r_extract rfl rfl ?_
  refine r_extract rfl rfl ?_
  refine asW rfl ?_
  refine asI rfl ?_
  refine r_nil ?_
  refine i_then ?_
  refine t_seq ?_
  refine t_block ?_
  refine t_seq ?_
  refine t_region ?_
  refine mvI rfl ?_
  refine r_bin rfl rfl rfl ?_
  refine asB rfl ?_
  refine r_nil ?_
  refine i_then ?_
  refine t_cond_ndec rfl (fun hc1 => ?_) (fun hc1 => ?_)
  ·
    refine t_seq ?_
    refine t_region ?_
    refine mvI rfl ?_
    refine asX rfl ?_
    refine asX rfl ?_
    refine asI rfl ?_
    refine r_nil ?_
    refine i_then ?_
    refine t_ret ?_
    refine i_block_ret ?_
    refine i_then_ret ?_
    refine i_rp3 rfl rfl rfl rfl ?_ ?_ ?_
    all_goals skip
    all_goals first | exact rb1 (o1 hc1) hc1 | exact rb2 (o1 hc1) hc1 | exact rb3 (o1 hc1)
  ·
    refine t_seq ?_
    refine t_region ?_
    refine mvS rfl ?_
    refine r_len rfl rfl rfl ?_
    refine r_field_pp rfl rfl rfl rfl rfl (by decide) ?_
    refine r_load_pp rfl rfl rfl rfl ?_
    refine r_len rfl rfl rfl ?_
    refine r_bin rfl rfl rfl ?_
    refine asB rfl ?_
    refine r_nil ?_
    refine i_then ?_
    refine t_cond_ndec rfl (fun hc2 => ?_) (fun hc2 => ?_)
    ·
      refine t_seq ?_
      refine t_region ?_
      refine asX rfl ?_
      refine asX rfl ?_
      refine asI rfl ?_
      refine r_nil ?_
      refine i_then ?_
      refine t_ret ?_
      refine i_block_ret ?_
      refine i_then_ret ?_
      refine i_rp3 rfl rfl rfl rfl ?_ ?_ ?_
      all_goals skip
      all_goals first | exact rb1 (o2 hc1 hc2) (by decide) | exact rb2 (o2 hc1 hc2) (by decide) | exact rb3 (o2 hc1 hc2)
    ·
      refine t_seq ?_
      refine t_region ?_
      refine mvS rfl ?_
      refine r_load_ppN rfl rfl rfl (by exact Nat.le_of_ble_eq_true rfl) ?_
      refine r_makeMth (l := [flrT f]) rfl ?_
      refine r_call (c_every_int order (Ty.mth 91 [flrT f]) rfl (fun t => inB t 0 (f.turnings.length - 1)) rfl rfl fun x _ => cal_mth (c_turning f hs x) rfl rfl rfl rfl rfl rfl) rfl rfl rfl rfl rfl ?_
      refine r_not rfl ?_
      refine asB rfl ?_
      refine r_nil ?_
      refine i_then ?_
      refine t_cond rfl (fun hc3 => ?_) (fun hc3 => ?_)
      ·
        refine t_seq ?_
        refine t_region ?_
        refine asX rfl ?_
        refine asX rfl ?_
        refine asI rfl ?_
        refine r_nil ?_
        refine i_then ?_
        refine t_ret ?_
        refine i_block_ret ?_
        refine i_then_ret ?_
        refine i_rp3 rfl rfl rfl rfl ?_ ?_ ?_
        all_goals skip
        all_goals first | exact rb1 (o3 hc1 hc2 hc3) (by decide) | exact rb2 (o3 hc1 hc2 hc3) (by decide) | exact rb3 (o3 hc1 hc2 hc3)
      ·
        refine t_skip ?_
        refine i_block ?_
        refine i_then ?_
        refine t_seq ?_
        have h0 := openE_zero hc1
        have hfi := boardsOf_fine h0.1
        have hff := boardsOf_f f
        have hnt : f.turnings.length ≤ 8 := by have := hfi.nt; rw [hff] at this; exact this
        have hrg : ∀ x ∈ order, 0 ≤ x ∧ x < (f.turnings.length : Int) := fun x hx => by have h := List.all_eq_true.1 (by simpa using hc3) x hx; have := inB_true h; omega
        have hlen : order.length = f.turnings.length := by omega
        refine t_as (s := 7) rfl (Ty.when_sub (decide_eq_true hc1)) ?_
        refine t_region ?_
        refine r_buildRowN (E := N64) (xs := [0]) rfl rfl rfl rfl rfl (by decide) (by decide) (by repeat (first | exact (Parts.nil : Parts _ _ [] _) | (show Parts _ _ ((_, _) :: _) _; apply Parts.one; (· exact (rfl : _ = Ty.int _ _)); (· exact rfl)))) (by exact rfl) rfl rfl ?_
        refine asR rfl ?_
        refine r_nil ?_
        refine i_then ?_
        refine t_seq ?_
        refine t_seq ?_
        refine t_region ?_
        refine mvS rfl ?_
        refine r_len rfl rfl rfl ?_
        refine mvI rfl ?_
        refine r_nil ?_
        refine i_then ?_
        refine t_block ?_
        refine t_loop (fun (k : {k : Nat // k ≤ order.length}) => live [(1, Ty.sl I64 order), (2, Ty.pp (flrTys f)), (7, Ty.pe BrdE (boardsOf f) 0), (9, Ty.row N64 3 35 ((setsO order).take (k.1 + 1))), (35, Ty.sl I64 order), (36, Ty.int .i64 order.length), (37, Ty.int .i64 (k.1 : Nat))] []) (fun k => order.length - k.1) (⟨0, by omega⟩) ?_ fun k => ?_
        · (refine Ent.mk' ?_ ?_ <;> (repeat' (first | exact allSub_zero | exact allTags_nil | refine allSub_succ' ?_ (Ty.sub_any _) | refine allSub_succ' ?_ (Ty.sub_refl _) | refine allSub_succ' ?_ ?_)))
          all_goals exact Ty.sub_row (setsO_one order).symm
        ·
          have hk1 : ((setsO order).take (k.1 + 1)).length = k.1 + 1 := by rw [List.length_take, setsO_len]; omega
          refine t_seq ?_
          refine t_region ?_
          refine r_bin rfl rfl rfl ?_
          refine r_nil ?_
          refine i_then ?_
          refine t_seq ?_
          refine t_cond_dec rfl (fun hc4 => ?_) (fun hc4 => ?_)
          ·
            refine t_skip ?_
            refine i_then ?_
            refine t_seq ?_
            refine t_block ?_
            refine t_seq ?_
            refine t_region ?_
            refine mvI rfl ?_
            refine r_index_slN rfl rfl rfl rfl rfl rfl (by omega) ?_
            refine r_load_pp rfl rfl rfl rfl ?_
            refine asI rfl ?_
            refine asI rfl ?_
            refine r_nil ?_
            refine i_then ?_
            have hnk : nth ((setsO order).take (k.1 + 1)) k.1 = setOf (order.take k.1) := by rw [nth_lt (by omega), List.getElem_take, ← nth_lt (by rw [setsO_len]; omega), setsO_nth (by omega)]
            have hsm := pow256 hnt (setOf_lt hrg k.1 k.2)
            have ht := hrg _ (nth_mem (xs := order) (k := k.1) (by omega))
            have hone := one_shl (i := (nth order k.1).toNat) (by omega)
            refine t_draw mixed rfl ?_
            refine mvR rfl ?_
            refine mvR rfl ?_
            refine mvI rfl ?_
            refine r_index_rowN rfl rfl rfl rfl rfl rfl (by omega) ?_
            refine r_load_op rfl rfl rfl rfl ?_
            refine mvI rfl ?_
            refine r_shlI (a := 1) rfl rfl (by omega) (by omega) (by omega) ?_
            refine r_orN rfl rfl (by omega) (by omega) ?_
            refine r_buildSlice (E := N64) (xs := [nth ((setsO order).take (k.1 + 1)) k.1 ||| 1 <<< (nth order k.1).toNat]) rfl rfl rfl rfl rfl (by decide) (by decide) (by repeat (first | exact (Parts.nil : Parts _ _ [] _) | (show Parts _ _ ((_, _) :: _) _; apply Parts.one; (· exact (rfl : _ = Ty.int _ _)); (· exact rfl)))) (by exact rfl) rfl ?_
            refine r_append rfl rfl (by decide) rfl rfl rfl rfl rfl rfl (by decide) (by (simp <;> omega)) (by (simp <;> omega)) ?_
            refine asR rfl ?_
            refine r_nil ?_
            refine ⟨by kernel_rfl, ?_⟩
            refine i_block ?_
            refine i_then ?_
            refine t_region ?_
            refine r_add rfl rfl (by omega) (by omega) ?_
            refine mvI rfl ?_
            refine r_nil ?_
            refine i_round (⟨k.1 + 1, by omega⟩) ?_ (by show order.length - (k.1 + 1) < order.length - k.1; omega)
            (refine Ent.mk' ?_ ?_ <;> (repeat' (first | exact allSub_zero | exact allTags_nil | refine allSub_succ' ?_ (Ty.sub_any _) | refine allSub_succ' ?_ (Ty.sub_refl _) | refine allSub_succ' ?_ ?_)))
            all_goals skip
            all_goals exact Ty.sub_row (setsO_row (by omega))
          ·
            refine t_exit ?_
            refine i_then_exit ?_
            refine i_then_exit ?_
            refine i_block_exit rfl ?_
            refine i_then ?_
            refine t_seq ?_
            refine t_block ?_
            refine t_seq ?_
            have hko : k.1 = order.length := by have := k.2; omega
            have hall : (setsO order).take (k.1 + 1) = setsO order := List.take_of_length_le (by rw [setsO_len]; omega)
            have hnl : nth (setsO order) order.length = setOf order := by rw [setsO_nth (Nat.le_refl _), List.take_length]
            have hone := one_shl (i := order.length) (by omega)
            have hone1 := (shl_le (n := order.length) (by omega)).2
            have hsl := setsO_len order
            refine t_pub (tg := 35) [(9, Ty.sl N64 ((setsO order).take (k.1 + 1)))] (by decide) rfl ⟨pub_row rfl, trivial⟩ ?_
            refine t_as (s := 9) rfl (Ty.sub_sl hall) ?_
            refine t_draw mixed rfl ?_
            refine mvS rfl ?_
            refine mvS rfl ?_
            refine r_len rfl rfl rfl ?_
            refine r_index_slN rfl rfl rfl rfl rfl rfl (by omega) ?_
            refine r_load_pp rfl rfl rfl rfl ?_
            refine mvS rfl ?_
            refine r_len rfl rfl rfl ?_
            refine r_shlN (a := 1) rfl rfl (by omega) (by omega) ?_
            refine r_sub rfl rfl (by omega) (by omega) ?_
            refine r_bin rfl rfl rfl ?_
            refine asB rfl ?_
            refine r_nil ?_
            refine ⟨by kernel_rfl, ?_⟩
            refine i_then ?_
            refine t_cond_ndec rfl (fun hc5 => ?_) (fun hc5 => ?_)
            ·
              refine t_seq ?_
              refine t_region ?_
              refine asX rfl ?_
              refine asX rfl ?_
              refine asI rfl ?_
              refine r_nil ?_
              refine i_then ?_
              refine t_ret ?_
              refine i_block_ret ?_
              refine i_then_ret ?_
              refine i_rp3 rfl rfl rfl rfl ?_ ?_ ?_
              all_goals skip
              all_goals first | exact rb1 (o4 hc1 hc2 hc3 (fun h => hc5 (by rw [hnl]; exact h))) (by decide) | exact rb2 (o4 hc1 hc2 hc3 (fun h => hc5 (by rw [hnl]; exact h))) (by decide) | exact rb3 (o4 hc1 hc2 hc3 (fun h => hc5 (by rw [hnl]; exact h)))
            ·
              refine t_seq ?_
              have hfull : ((setOf order : Nat) : Int) = ((1 <<< order.length : Nat) : Int) - 1 := by have h := hc5; rw [hnl] at h; exact h
              refine t_as (s := 9) rfl (sub_cast (setsO order)) ?_
              refine t_region ?_
              refine mvS rfl ?_
              refine mvPe rfl ?_
              refine r_makeMth (l := [Ty.pe BrdE (boardsOf f) 0]) rfl ?_
              refine r_call (c_every_int (castN (setsO order)) (Ty.mth 76 [Ty.pe BrdE (boardsOf f) 0]) rfl (fun x => wholeP (boardsOf f) x.toNat) rfl rfl fun x hx => by obtain ⟨n, hn, rfl⟩ := List.mem_map.1 hx; exact cal_mth (c_whole (boardsOf f) n (setsO_small hnt hrg hn) hfi.before) rfl rfl rfl rfl rfl rfl) rfl rfl rfl rfl rfl ?_
              refine r_not rfl ?_
              refine asB rfl ?_
              refine r_nil ?_
              refine i_then ?_
              refine t_cond rfl (fun hc6 => ?_) (fun hc6 => ?_)
              ·
                refine t_seq ?_
                refine t_region ?_
                refine asX rfl ?_
                refine asX rfl ?_
                refine asI rfl ?_
                refine r_nil ?_
                refine i_then ?_
                refine t_ret ?_
                refine i_block_ret ?_
                refine i_then_ret ?_
                refine i_rp3 rfl rfl rfl rfl ?_ ?_ ?_
                all_goals skip
                all_goals first | exact rb1 (o5 hc1 hc2 hc3 hfull (by have h := hc6; rw [all_cast] at h; exact h)) (by decide) | exact rb2 (o5 hc1 hc2 hc3 hfull (by have h := hc6; rw [all_cast] at h; exact h)) (by decide) | exact rb3 (o5 hc1 hc2 hc3 hfull (by have h := hc6; rw [all_cast] at h; exact h))
              ·
                refine t_skip ?_
                refine i_block ?_
                refine i_then ?_
                refine t_seq ?_
                have hall5 : (!(setsO order).all (wholeP (boardsOf f))) = false := by have h := hc6; rw [all_cast] at h; exact h
                refine t_as (s := 9) rfl (sub_uncast (setsO order)) ?_
                refine t_region ?_
                refine mvPe rfl ?_
                refine mvS rfl ?_
                refine asPe rfl ?_
                refine asS rfl ?_
                refine asI rfl ?_
                refine r_nil ?_
                refine i_then ?_
                refine t_ret ?_
                refine i_rp3 rfl rfl rfl rfl ?_ ?_ ?_
                all_goals skip
                all_goals first | exact ret_sub rfl rfl (Ty.sub_when rfl fun _ => Ty.sub_refl _) | exact ret_eq rfl rfl (congrArg (Ty.sl N64) (if_pos (o6 hc1 hc2 hc3 hfull hall5)).symm) | exact rb3 (o6 hc1 hc2 hc3 hfull hall5)
def wasAt (f : Flr) (l : List Int) : Nat → List Int
  | 0 => List.replicate 4 0
  | k + 1 => loadP (boardsOf f) (nth (setsO l) k)
theorem wasAt_len (f : Flr) (l : List Int) : ∀ k, (wasAt f l k).length = 4
  | 0 => rfl
  | _ + 1 => loadP_len _ _
theorem row_at {f : Flr} (h : checkP f = 0) {l : List Int} (ho : orderM f l = 0) {k : Nat} (hk : k ≤ l.length) : nth (loadsM f l) k = rowP f (nth (setsO l) k) := by
  rw [← rows_law h ho, rowsP_nth (by rw [setsO_len]; omega)]
theorem same_row {f : Flr} (h : checkP f = 0) {l : List Int} (ho : orderM f l = 0) {k : Nat} (hk : k ≤ l.length) (h0 : (decide ((0 : Int) < (k : Nat)) && decide (loadP (boardsOf f) (nth (setsO l) k) = wasAt f l k)) = true)
    (hb : ∀ j, j < k → breakRow f (nth (loadsM f l) j) = none) : wasAt f l (k + 1) = wasAt f l k ∧ breakRow f (nth (loadsM f l) k) = none := by
  simp only [Bool.and_eq_true, decide_eq_true_eq] at h0
  obtain ⟨h1, h2⟩ := h0
  refine ⟨h2, ?_⟩
  cases k with
  | zero => simp at h1
  | succ k =>
    have e : rowP f (nth (setsO l) (k + 1)) = rowP f (nth (setsO l) k) := congrArg (List.take f.bears.length) h2
    rw [row_at h ho hk, e, ← row_at h ho (by omega)]
    exact hb k (by omega)
theorem all_rows {f : Flr} {l : List Int} {k : Nat} (hb : ∀ j, j < k → breakRow f (nth (loadsM f l) j) = none) (h : breakRow f (nth (loadsM f l) k) = none) : ∀ j, j < k + 1 → breakRow f (nth (loadsM f l) j) = none := fun j hj => by
  rcases Nat.lt_or_ge j k with h1 | h1
  · exact hb j h1
  · rw [show j = k by omega]; exact h
theorem brk_some {f : Flr} {l : List Int} (ho : orderE f l = 0) {k b : Nat} (h : breakM f l = some (k, b)) : brkT f l = k ∧ brkB f l = b ∧ brkE f l = 0 := by
  unfold brkT brkB brkE breakT breakB
  rw [h, if_neg (fun x => x ho), if_neg (fun x => x ho), if_neg (fun x => x ho)]
  exact ⟨rfl, rfl, rfl⟩
theorem brk_none {f : Flr} {l : List Int} (ho : orderE f l = 0) (h : breakM f l = none) : brkT f l = 0 ∧ brkB f l = 0 ∧ brkE f l = 6 := by
  refine ⟨?_, ?_, ?_⟩
  · unfold brkT breakT; rw [h, if_neg (fun x => x ho)]
  · unfold brkB breakB; rw [h, if_neg (fun x => x ho)]
  · unfold brkE; rw [h, if_neg (fun x => x ho)]; rfl
theorem brk_bad {f : Flr} {l : List Int} (h : ¬ orderP f l = 0) : brkT f l = 0 ∧ brkB f l = 0 ∧ brkE f l = orderP f l := by
  have h' : ¬ orderE f l = 0 := by rw [← orderP_law]; exact h
  unfold brkT brkB brkE
  rw [if_pos h', if_pos h', if_pos h', orderP_law]
  exact ⟨rfl, rfl, rfl⟩
set_option maxRecDepth 100000 in
theorem c_Breaks (f : Flr) (hs : f.Small) (order : List Int) (hl : order.length ≤ 1000) : Ctr Tryz.prog 46 [flrT f, Ty.sl I64 order] (Ty.tup [Ty.int .i64 (brkT f order), Ty.int .i64 (brkB f order), Ty.int .i64 (brkE f order)]) := by
  refine fn_intro Tryz.func46 rfl (by decide) Tryz.ntmps46 (by exact Nat.le_of_ble_eq_true rfl) fun w0 M0 => ?_
  have hs1 := hs.bears; have hs2 := hs.bins; have hs3 := hs.turnings; have hs4 := hs.rules
  refine t_seq ?_
  refine t_region ?_
  refine r_box_agg rfl ?_
  refine asI rfl ?_
  refine asI rfl ?_
  refine asI rfl ?_
  refine r_nil ?_
  refine i_then ?_
  refine t_scope ?_
  refine t_seq ?_
  refine t_region ?_
  refine r_load_ppN rfl rfl rfl (by exact Nat.le_of_ble_eq_true rfl) ?_
  refine mvS rfl ?_
  refine r_call (c_ordered f hs order hl) rfl rfl rfl rfl rfl ?_
  refine mvT rfl ?_
  refine r_extract rfl rfl ?_
  refine r_extract rfl rfl ?_
  refine r_extract rfl rfl ?_
  refine asW rfl ?_
  refine asS rfl ?_
  refine asI rfl ?_
  refine r_nil ?_
  refine i_then ?_
  refine t_seq ?_
  refine t_seq ?_
  refine t_region ?_
  refine mvI rfl ?_
  refine r_bin rfl rfl rfl ?_
  refine r_nil ?_
  refine i_then ?_
  refine t_cond_ndec rfl (fun hc1 => ?_) (fun hc1 => ?_)
  ·
    refine t_seq ?_
    refine t_region ?_
    refine mvI rfl ?_
    refine asI rfl ?_
    refine asI rfl ?_
    refine asI rfl ?_
    refine r_nil ?_
    refine i_then ?_
    refine t_ret ?_
    refine i_then_ret ?_
    refine i_scope_ret ?_
    refine i_rp3 rfl rfl rfl rfl ?_ ?_ ?_
    all_goals skip
    all_goals first | exact ret_eq rfl rfl (congrArg (Ty.int .i64) (brk_bad hc1).1.symm) | exact ret_eq rfl rfl (congrArg (Ty.int .i64) (brk_bad hc1).2.1.symm) | exact ret_eq rfl rfl (congrArg (Ty.int .i64) (brk_bad hc1).2.2.symm)
  ·
    refine t_skip ?_
    refine i_then ?_
    refine t_seq ?_
    have hoP : orderP f order = 0 := hc1
    have hoE : orderE f order = 0 := by rw [← orderP_law]; exact hoP
    obtain ⟨hck, hcp, hoM⟩ := orderE_zero hoE
    have hfi := boardsOf_fine hcp
    have hnt := nt8 hcp
    have hsp := order_spec hoM
    have hb4 := (check_right hcp).ranged.bears
    have hsl := setsO_len order
    refine t_as (s := 7) rfl (Ty.when_sub (decide_eq_true hc1)) ?_
    refine t_as (s := 8) rfl (Ty.sub_eq (congrArg (Ty.sl N64) (if_pos hoP))) ?_
    refine t_region ?_
    refine asI rfl ?_
    refine r_nil ?_
    refine i_then ?_
    refine t_seq ?_
    refine t_region ?_
    refine r_alloc rfl (by exact List.cons_ne_nil _ _) rfl ?_
    refine r_nil ?_
    refine i_then ?_
    refine t_seq ?_
    refine t_label ?_
    refine i_then ?_
    refine t_seq ?_
    refine t_seq ?_
    refine t_region ?_
    refine mvS rfl ?_
    refine r_len rfl rfl rfl ?_
    refine mvI rfl ?_
    refine r_nil ?_
    refine i_then ?_
    refine t_block ?_
    refine t_loop (fun (k : {k : Nat // k ≤ (setsO order).length ∧ ∀ j, j < k → breakRow f (nth (loadsM f order) j) = none}) => live [(2, Ty.pp (flrTys f)), (4, Ty.int .i64 0), (5, Ty.int .i64 0), (6, Ty.int .i64 6), (7, Ty.pe BrdE (boardsOf f) 0), (9, Ty.ptr 10 0), (25, Ty.sl N64 (setsO order)), (26, Ty.int .i64 (setsO order).length), (27, Ty.int .i64 (k.1 : Nat))] [(10, Cont.av I64 129 (wasAt f order k.1))]) (fun k => (setsO order).length - k.1) (⟨0, by omega, fun j hj => absurd hj (Nat.not_lt_zero _)⟩) ?_ fun k => ?_
    · (refine Ent.mk' ?_ ?_ <;> (repeat' (first | exact allSub_zero | exact allTags_nil | refine allSub_succ' ?_ (Ty.sub_any _) | refine allSub_succ' ?_ (Ty.sub_refl _) | refine allTags_cons rfl (Cont.sub_refl _) ?_)))
      all_goals exact Cont.cells_av (by rfl)
    ·
      have hk2 := k.2.1
      have hwl := wasAt_len f order k.1
      refine t_seq ?_
      refine t_region ?_
      refine r_bin rfl rfl rfl ?_
      refine r_nil ?_
      refine i_then ?_
      refine t_seq ?_
      refine t_cond_dec rfl (fun hc2 => ?_) (fun hc2 => ?_)
      ·
        refine t_skip ?_
        refine i_then ?_
        refine t_seq ?_
        refine t_block ?_
        refine t_seq ?_
        refine t_region ?_
        refine mvI rfl ?_
        refine r_index_slN rfl rfl rfl rfl rfl rfl (by omega) ?_
        refine r_load_pp rfl rfl rfl rfl ?_
        refine asI rfl ?_
        refine asI rfl ?_
        refine r_nil ?_
        refine i_then ?_
        refine t_seq ?_
        have hsm : nth (setsO order) k.1 < 256 := setsO_small hnt hsp.2.1 (nth_mem (by omega))
        have hll := loadP_len (boardsOf f) (nth (setsO order) k.1)
        refine t_region ?_
        refine mvPe rfl ?_
        refine mvI rfl ?_
        refine r_call (c_load (boardsOf f) hfi _ hsm) rfl rfl rfl rfl rfl ?_
        refine r_alloc rfl (by exact List.cons_ne_nil _ _) rfl ?_
        refine r_store_arr rfl rfl (by decide) rfl rfl (by rw [loadP_len]; rfl) (by rfl) ?_
        refine r_nil ?_
        refine i_then ?_
        refine t_seq ?_
        refine t_seq ?_
        refine t_region ?_
        refine mvI rfl ?_
        refine r_bin rfl rfl rfl ?_
        refine mvB rfl ?_
        apply r_guard (s := 37) rfl rfl rfl
        · intro hg; apply opT_of; (refine r_load_vecN rfl rfl (by decide) rfl rfl (by rw [loadP_len]; rfl) (by intro e; rw [e] at hll; cases hll) ?_); refine r_nil ?_; exact rfl
        · exact rfl
        · exact rfl
        apply r_guard (s := 37) rfl rfl rfl
        · intro hg; apply opT_of; (refine r_load_avN rfl rfl (by decide) rfl rfl (by rw [wasAt_len]; rfl) (by intro e; rw [e] at hwl; cases hwl) ?_); refine r_nil ?_; exact rfl
        · exact rfl
        · exact rfl
        apply r_guard (s := 37) rfl rfl rfl
        · intro hg; apply opT_strip (s := 38) rfl (by (rw [hg]; rfl)); apply opT_strip (s := 39) rfl (by (rw [hg]; rfl)); apply opT_of; (refine r_eqla (eqi129 _ _ hll hwl) rfl rfl ?_); refine r_nil ?_; exact rfl
        · exact rfl
        · exact rfl
        refine r_and rfl rfl ?_
        refine r_nil ?_
        refine i_then ?_
        refine t_cond rfl (fun hc3 => ?_) (fun hc3 => ?_)
        ·
          refine t_exit ?_
          refine i_then_exit ?_
          refine i_block_exit rfl ?_
          refine i_then ?_
          refine t_region ?_
          refine r_add rfl rfl (by omega) (by omega) ?_
          refine mvI rfl ?_
          refine r_nil ?_
          have hbr : breakRow f (nth (loadsM f order) k.1) = none := by exact (same_row hcp hoM (by omega) hc3 k.2.2).2
          refine i_round (⟨k.1 + 1, by omega, all_rows k.2.2 hbr⟩) ?_ (by show (setsO order).length - (k.1 + 1) < (setsO order).length - k.1; omega)
          (refine Ent.mk' ?_ ?_ <;> (repeat' (first | exact allSub_zero | exact allTags_nil | refine allSub_succ' ?_ (Ty.sub_any _) | refine allSub_succ' ?_ (Ty.sub_refl _) | refine allTags_cons rfl (Cont.sub_subs ?_) ?_)))
          all_goals skip
          all_goals exact subs_eq (congrArg (List.flatMap I64.tys) (same_row hcp hoM (by omega) hc3 k.2.2).1.symm)
        ·
          refine t_skip ?_
          refine i_then ?_
          refine t_seq ?_
          refine t_seq ?_
          refine t_region ?_
          refine r_field_pp rfl rfl rfl rfl rfl (by decide) ?_
          refine r_load_pp rfl rfl rfl rfl ?_
          refine r_len rfl rfl rfl ?_
          refine mvI rfl ?_
          refine r_nil ?_
          refine i_then ?_
          refine t_block ?_
          refine t_loop (fun (j : {j : Nat // j ≤ f.bears.length ∧ ∀ b, b < j → ¬ nth (nth (loadsM f order) k.1) b > nth f.bears b}) => live [(2, Ty.pp (flrTys f)), (4, Ty.int .i64 0), (5, Ty.int .i64 0), (6, Ty.int .i64 6), (7, Ty.pe BrdE (boardsOf f) 0), (9, Ty.ptr 10 0), (10, Ty.int .i64 (k.1 : Nat)), (12, Ty.ptr 13 0), (25, Ty.sl N64 (setsO order)), (26, Ty.int .i64 (setsO order).length), (27, Ty.int .i64 (k.1 : Nat)), (43, Ty.sl I64 f.bears), (44, Ty.int .i64 f.bears.length), (45, Ty.int .i64 (j.1 : Nat))] [(10, Cont.av I64 129 (wasAt f order k.1)), (13, Cont.vec I64 129 (loadP (boardsOf f) (nth (setsO order) k.1)))]) (fun j => f.bears.length - j.1) (⟨0, by omega, fun b hb => absurd hb (Nat.not_lt_zero _)⟩) ?_ fun j => ?_
          · (refine Ent.mk' ?_ ?_ <;> (repeat' (first | exact allSub_zero | exact allTags_nil | refine allSub_succ' ?_ (Ty.sub_any _) | refine allSub_succ' ?_ (Ty.sub_refl _) | refine allTags_cons rfl (Cont.sub_refl _) ?_)))
          ·
            have hj2 := j.2.1
            have hld : ∀ b, b < f.bears.length → nth (nth (loadsM f order) k.1) b = nth (loadP (boardsOf f) (nth (setsO order) k.1)) b := fun b hb => break_row hcp hoM (by omega) hb
            refine t_seq ?_
            refine t_region ?_
            refine r_bin rfl rfl rfl ?_
            refine r_nil ?_
            refine i_then ?_
            refine t_seq ?_
            refine t_cond_dec rfl (fun hc4 => ?_) (fun hc4 => ?_)
            ·
              refine t_skip ?_
              refine i_then ?_
              refine t_seq ?_
              refine t_block ?_
              refine t_seq ?_
              refine t_region ?_
              refine mvI rfl ?_
              refine r_index_slN rfl rfl rfl rfl rfl rfl (by omega) ?_
              refine r_load_pp rfl rfl rfl rfl ?_
              refine asI rfl ?_
              refine asI rfl ?_
              refine r_nil ?_
              refine i_then ?_
              refine t_seq ?_
              refine t_region ?_
              refine mvI rfl ?_
              refine r_index_ptr rfl rfl rfl rfl rfl (by omega) ?_
              refine r_load_vecA rfl rfl rfl (by decide) rfl rfl (by omega) rfl ?_
              refine mvI rfl ?_
              refine r_bin rfl rfl rfl ?_
              refine r_nil ?_
              refine i_then ?_
              refine t_cond_dec rfl (fun hc5 => ?_) (fun hc5 => ?_)
              ·
                refine t_seq ?_
                have hsome : breakM f order = some (k.1, j.1) := breakM_some (by omega) (by omega) (by rw [hld _ (by omega)]; exact hc5) k.2.2 j.2.2
                refine t_region ?_
                refine mvI rfl ?_
                refine mvI rfl ?_
                refine asI rfl ?_
                refine asI rfl ?_
                refine asI rfl ?_
                refine r_nil ?_
                refine i_then ?_
                refine t_exit ?_
                refine i_block_exit' rfl ?_
                refine i_then_exit ?_
                refine i_then_exit ?_
                refine i_block_exit' rfl ?_
                refine i_then_exit ?_
                refine i_block_exit' rfl ?_
                refine i_then_exit ?_
                refine i_then_exit ?_
                refine i_block_exit rfl ?_
                refine i_then ?_
                refine t_seq ?_
                refine t_region ?_
                refine mvI rfl ?_
                refine mvI rfl ?_
                refine mvI rfl ?_
                refine asI rfl ?_
                refine asI rfl ?_
                refine asI rfl ?_
                refine r_nil ?_
                refine i_then ?_
                refine t_ret ?_
                refine i_scope_ret ?_
                refine i_rp3 rfl rfl rfl rfl ?_ ?_ ?_
                all_goals skip
                all_goals first | exact ret_eq rfl rfl (congrArg (Ty.int .i64) (brk_some hoE hsome).1.symm) | exact ret_eq rfl rfl (congrArg (Ty.int .i64) (brk_some hoE hsome).2.1.symm) | exact ret_eq rfl rfl (congrArg (Ty.int .i64) (brk_some hoE hsome).2.2.symm)
              ·
                refine t_skip ?_
                refine i_block ?_
                refine i_then ?_
                refine t_region ?_
                refine r_add rfl rfl (by omega) (by omega) ?_
                refine mvI rfl ?_
                refine r_nil ?_
                refine i_round (⟨j.1 + 1, by omega, fun b hb => (Nat.lt_or_ge b j.1).elim (j.2.2 b) fun h => by rw [show b = j.1 by omega, hld _ (by omega)]; intro h; exact hc5 h⟩) ?_ (by show f.bears.length - (j.1 + 1) < f.bears.length - j.1; omega)
                (refine Ent.mk' ?_ ?_ <;> (repeat' (first | exact allSub_zero | exact allTags_nil | refine allSub_succ' ?_ (Ty.sub_any _) | refine allSub_succ' ?_ (Ty.sub_refl _) | refine allTags_cons rfl (Cont.sub_refl _) ?_)))
                all_goals skip
            ·
              refine t_exit ?_
              refine i_then_exit ?_
              refine i_then_exit ?_
              refine i_block_exit rfl ?_
              refine i_then ?_
              refine t_region ?_
              refine r_load_vecN rfl rfl (by decide) rfl rfl (by rw [loadP_len]; rfl) (by intro e; rw [e] at hll; cases hll) ?_
              refine r_store_av rfl rfl (by decide) rfl rfl (by rw [loadP_len]; rfl) (by rw [wasAt_len]; rfl) ?_
              refine r_nil ?_
              refine i_block ?_
              refine i_then ?_
              refine t_region ?_
              refine r_add rfl rfl (by omega) (by omega) ?_
              refine mvI rfl ?_
              refine r_nil ?_
              have hbr : breakRow f (nth (loadsM f order) k.1) = none := by exact breakRow_none (fun b hb => j.2.2 b (by have := j.2.1; omega))
              refine i_round (⟨k.1 + 1, by omega, all_rows k.2.2 hbr⟩) ?_ (by show (setsO order).length - (k.1 + 1) < (setsO order).length - k.1; omega)
              (refine Ent.mk' ?_ ?_ <;> (repeat' (first | exact allSub_zero | exact allTags_nil | refine allSub_succ' ?_ (Ty.sub_any _) | refine allSub_succ' ?_ (Ty.sub_refl _) | refine allTags_cons rfl (Cont.sub_refl _) ?_)))
              all_goals skip
              all_goals exact subs_eq rfl
      ·
        refine t_exit ?_
        refine i_then_exit ?_
        refine i_then_exit ?_
        refine i_block_exit rfl ?_
        refine i_then ?_
        refine t_seq ?_
        refine t_region ?_
        refine mvI rfl ?_
        refine mvI rfl ?_
        refine mvI rfl ?_
        refine asI rfl ?_
        refine asI rfl ?_
        refine asI rfl ?_
        refine r_nil ?_
        refine i_then ?_
        refine t_ret ?_
        refine i_scope_ret ?_
        refine i_rp3 rfl rfl rfl rfl ?_ ?_ ?_
        all_goals skip
        all_goals first | exact ret_eq rfl rfl (congrArg (Ty.int .i64) (brk_none hoE (breakM_none fun j hj => k.2.2 j (by omega))).1.symm) | exact ret_eq rfl rfl (congrArg (Ty.int .i64) (brk_none hoE (breakM_none fun j hj => k.2.2 j (by omega))).2.1.symm) | exact ret_eq rfl rfl (congrArg (Ty.int .i64) (brk_none hoE (breakM_none fun j hj => k.2.2 j (by omega))).2.2.symm)
section
variable {f : Flr} {l : List Int}
end
end Go.Proofs.YtifgbnbkimcchaaGreat

namespace Go.T
open Go Go.RowKit
section
variable {P : Program} {fr : Fr} {ops : Array Oper} {A : As} {rest : List Oper} {K : As → List (As × Fx) → Prop} {d : Nat} {t ty' ty2 : TypeId} {p : String} {e : Array Edge} [T : Tab P]
variable {x y : Operand} {ti ts : TI}
theorem r_conv {src : TypeId} {k k0 : IntKind} {n : Int} (hx : A.op fr x = .int k0 n) (hS : T.tab[src]? = some ts) (hT : T.tab[ty']? = some ti) (hk : ti.k = .int k)
    (h : TOps P fr ops rest (A.set d (.int k (k.wrap n))) fun A' l' => K A' ((A, { d := some d, ty := .int k (k.wrap n), rs := opR x }) :: l')) : TOps P fr ops (⟨some d, .convert src ty' x, t, p, e, none⟩ :: rest) A K :=
  tops_pure (opT_pure (rt := []) rfl rfl fun a w M _ hr _ => by
    have := op_den (x := x) (fun _ h => h) hr
    rw [hx] at this
    have ex : a.eval x = .int k0 n := this
    obtain ⟨_, S, _, hS', _, _⟩ := tab_info hS
    obtain ⟨_, D, _, hD, hkd, _⟩ := tab_info hT
    rw [hk] at hkd
    cases D <;> simp only [TK.of, reduceCtorEq, TK.int.injEq] at hkd
    subst hkd
    refine ⟨.int _ (IntKind.wrap _ n), ?_, rfl⟩
    simp only [execOp, ex, convert, Sem.run_bind, run_underlying hS', run_underlying hD, Result.andThen_ok]
    cases S <;> rfl) h
theorem r_index_rowI {α : Type} [Inhabited α] {x y : Operand} {E : El α} {Te tg : Nat} {xs : List α} {k : IntKind} {i : Int} {ti te : TI} {el : Nat} (hx : A.op fr x = .row E Te tg xs) (hy : A.op fr y = .int k i) (hT : T.tab[ty']? = some ti) (hk : ti.k = .slice el) (hE : T.tab[el]? = some te) (hs : te.size = E.size)
    (h0 : 0 ≤ i) (h1 : i.toNat < xs.length)
    (h : TOps P fr ops rest (A.set d (.op tg (E.tys (nth xs i.toNat)))) fun A' l' => K A' ((A, { d := some d, ty := .op tg (E.tys (nth xs i.toNat)), rs := opR x ++ opR y }) :: l')) : TOps P fr ops (⟨some d, .indexAddr ty' x y, t, p, e, none⟩ :: rest) A K :=
  tops_pure (opT_pure rfl rfl fun a w M _ hr _ => by
    obtain ⟨hdx, hdy⟩ := op2 hr
    rw [hx] at hdx; rw [hy] at hdy
    obtain ⟨g, cap, ex, hg, hc⟩ := row_cells hdx h1
    have ey : a.eval y = .int k i := hdy
    refine ⟨_, by simp only [execOp, ex, ey, Sem.run_bind, run_index_slice hT hk hE h0 h1]; rfl, g, 0 + i.toNat * te.size, by simp, hg, fun j ty hj => ?_⟩
    obtain ⟨u, hu, hd⟩ := hc j ty hj
    exact ⟨u, by rw [hs, Nat.zero_add]; exact hu, hd⟩) h
end
end Go.T

namespace Go.Proofs.YtifgbnbkimcchaaGreat
open Go Go.T
structure Sk where
  grain : List Int
  taken : Int
  mixed : Int
def U8 : El Int := El.mk' 1 (fun n => [Ty.int .u8 n]) (fun _ => rfl) (fun _ => ⟨rfl, rfl, rfl⟩)
def skTys (s : Sk) : List Ty := [Ty.sl U8 s.grain, Ty.int .i64 s.taken, Ty.int .u32 s.mixed]
def mixB (s : Sk) : Int := IntKind.u32.wrap (bits .xor .u32 s.mixed (IntKind.u32.wrap (nth s.grain (s.taken.tmod s.grain.length).toNat)) * 16777619)
def skMix1 (s : Sk) : Sk := if (s.grain.length : Int) > 0 then { s with mixed := mixB s } else s
def skTake (s : Sk) : Sk := { s with taken := s.taken + 1 }
def mixC (s : Sk) : Int := IntKind.u32.wrap (IntKind.u32.wrap (s.mixed * 1664525) + 1013904223)
def skMix2 (s : Sk) : Sk := if s.taken > (s.grain.length : Int) then { s with mixed := mixC s } else s
theorem skMix2_pos {s : Sk} (h : (s.grain.length : Int) < s.taken) : skMix2 s = { s with mixed := mixC s } := if_pos h
theorem skMix2_neg {s : Sk} (h : ¬ (s.grain.length : Int) < s.taken) : skMix2 s = s := if_neg h
def skNext (s : Sk) : Sk := skMix2 (skTake (skMix1 s))
theorem skNext_neg {s : Sk} (h : ¬ ((skMix1 s).grain.length : Int) < (skMix1 s).taken + 1) : (skMix1 s).mixed = (skNext s).mixed := (congrArg Sk.mixed (skMix2_neg (s := skTake (skMix1 s)) h)).symm
def skVal (s : Sk) : Int := IntKind.i64.wrap (bits .and .u32 (bits .xor .u32 s.mixed (s.mixed / 2 ^ (15 : Int).toNat) / 2 ^ (8 : Int).toNat) 65535)
def Sk.Ok (s : Sk) (n : Int) : Prop := 0 ≤ s.taken ∧ s.taken + n ≤ 4611686018427387904
theorem skMix1_pos {s : Sk} (h : (0 : Int) < s.grain.length) : skMix1 s = { s with mixed := mixB s } := if_pos h
theorem skMix1_neg {s : Sk} (h : ¬ (0 : Int) < s.grain.length) : skMix1 s = s := if_neg h
theorem tmod_in {a b : Int} (ha : 0 ≤ a) (hb : 0 < b) : 0 ≤ a.tmod b ∧ a.tmod b < b := by
  rw [Int.tmod_eq_emod_of_nonneg ha]
  exact ⟨Int.emod_nonneg _ (by omega), Int.emod_lt_of_pos _ hb⟩
theorem skMix1_taken (s : Sk) : (skMix1 s).taken = s.taken := by unfold skMix1; split <;> rfl
theorem skMix1_grain (s : Sk) : (skMix1 s).grain = s.grain := by unfold skMix1; split <;> rfl
theorem skMix2_taken (s : Sk) : (skMix2 s).taken = s.taken := by unfold skMix2; split <;> rfl
theorem skMix2_grain (s : Sk) : (skMix2 s).grain = s.grain := by unfold skMix2; split <;> rfl
theorem skNext_taken (s : Sk) : (skNext s).taken = s.taken + 1 := by unfold skNext; rw [skMix2_taken, skTake, skMix1_taken]
theorem bits_and_ffff (a : Int) : 0 ≤ bits .and .u32 a 65535 ∧ bits .and .u32 a 65535 ≤ 65535 := by
  have e : bits .and .u32 a 65535 = IntKind.u32.wrap (((BitVec.ofInt 32 a &&& BitVec.ofInt 32 65535).toNat : Nat) : Int) := rfl
  have h1 : (BitVec.ofInt 32 a &&& BitVec.ofInt 32 65535).toNat ≤ 65535 := by
    rw [BitVec.toNat_and]
    exact Nat.and_le_right
  rw [e]
  generalize (BitVec.ofInt 32 a &&& BitVec.ofInt 32 65535).toNat = n at h1
  have : IntKind.u32.wrap (n : Int) = (n : Int) % 4294967296 := rfl
  rw [this]; omega
theorem skVal_bound (s : Sk) : 0 ≤ skVal s ∧ skVal s ≤ 65535 := by
  have h := bits_and_ffff (bits .xor .u32 s.mixed (s.mixed / 2 ^ (15 : Int).toNat) / 2 ^ (8 : Int).toNat)
  unfold skVal
  rw [IntWalk.i64_in _ (by omega)]; exact h
def skBelow (s : Sk) (n : Int) : Int := (skVal (skNext s)).tmod (max 1 n)
theorem skBelow_bound (s : Sk) (n : Int) : 0 ≤ skBelow s n ∧ skBelow s n < max 1 n ∧ skBelow s n ≤ 65535 := by
  have h := skVal_bound (skNext s)
  unfold skBelow
  have h1 : (skVal (skNext s)).tmod (max 1 n) = skVal (skNext s) % max 1 n := Int.tmod_eq_emod_of_nonneg h.1
  have h2 := Int.emod_lt_of_pos (skVal (skNext s)) (show 0 < max 1 n by omega)
  have h3 := Int.emod_nonneg (skVal (skNext s)) (show max 1 n ≠ 0 by omega)
  have h4 : skVal (skNext s) % max 1 n ≤ skVal (skNext s) := by
    have := Int.mul_ediv_add_emod (skVal (skNext s)) (max 1 n)
    have hq : 0 ≤ skVal (skNext s) / max 1 n := Int.ediv_nonneg h.1 (by omega)
    have : 0 ≤ max 1 n * (skVal (skNext s) / max 1 n) := Int.mul_nonneg (by omega) hq
    omega
  omega
def skAmong (s : Sk) (lo hi : Int) : Int := lo + skBelow s (hi - lo + 1)
def skRare (s : Sk) (n : Int) : Bool := decide (skBelow s n = 0)
def skFill (grain : List Int) : Sk := ⟨grain, 0, bits .xor .u32 2166136261 (IntKind.u32.wrap grain.length)⟩
theorem skFill_ok (g : List Int) : (skFill g).Ok 4000000000000000000 := by unfold skFill Sk.Ok; simp
theorem tmod_abs (a b : Int) (hb : 0 < b) : -b < a.tmod b ∧ a.tmod b < b := by
  have h1 := Int.tmod_lt_of_pos a hb
  have h2 := Int.lt_tmod_of_pos a hb
  omega
def modM (v n : Int) : Int := if n < 1 then 0 else (v.tmod n + n).tmod n
def insL (xs : List Int) (i : Nat) (k : Int) : List Int := xs.take i ++ k :: xs.drop i
theorem insL_len {xs : List Int} {i : Nat} (h : i ≤ xs.length) (k : Int) : (insL xs i k).length = xs.length + 1 := by simp [insL]; omega
theorem insL_mem {xs : List Int} {i : Nat} {k x : Int} : x ∈ insL xs i k ↔ x = k ∨ x ∈ xs := by
  unfold insL
  rw [List.mem_append, List.mem_cons]
  constructor
  · rintro (h | rfl | h)
    · exact .inr (List.mem_of_mem_take h)
    · exact .inl rfl
    · exact .inr (List.mem_of_mem_drop h)
  · rintro (rfl | h)
    · exact .inr (.inl rfl)
    · rw [← List.take_append_drop i xs, List.mem_append] at h
      exact h.imp id .inr
theorem insL_nodup {xs : List Int} {i : Nat} {k : Int} (h : xs.Nodup) (hk : k ∉ xs) : (insL xs i k).Nodup := by
  unfold insL
  have h2 : (xs.take i ++ xs.drop i).Nodup := by rw [List.take_append_drop]; exact h
  rw [List.nodup_append] at h2 ⊢
  obtain ⟨a, b, c⟩ := h2
  refine ⟨a, List.nodup_cons.2 ⟨fun h => hk (List.mem_of_mem_drop h), b⟩, fun x hx y hy => ?_⟩
  rcases List.mem_cons.1 hy with rfl | hy
  · rintro rfl; exact hk (List.mem_of_mem_take hx)
  · exact c x hx y hy
def shufUp (s : Sk) : Nat → List Int × Sk
  | 0 => ([], s)
  | k + 1 => (insL (shufUp s k).1 (skBelow (shufUp s k).2 ((k : Int) + 1)).toNat k, skNext (shufUp s k).2)
theorem shuf_spec (s : Sk) : ∀ k, (shufUp s k).1.length = k ∧ (shufUp s k).1.Nodup ∧ (∀ x, x ∈ (shufUp s k).1 ↔ 0 ≤ x ∧ x < (k : Int)) ∧ (shufUp s k).2.taken = s.taken + k
  | 0 => ⟨rfl, List.nodup_nil, fun x => ⟨fun h => (by cases h), fun h => by omega⟩, by simp [shufUp]⟩
  | k + 1 => by
    obtain ⟨h1, h2, h3, h4⟩ := shuf_spec s k
    have hb := skBelow_bound (shufUp s k).2 ((k : Int) + 1)
    refine ⟨?_, insL_nodup h2 (fun h => by have := (h3 _).1 h; omega), fun x => ?_, ?_⟩
    · show (insL _ _ _).length = _
      rw [insL_len (by omega), h1]
    · show x ∈ insL _ _ _ ↔ _
      rw [insL_mem, h3]; omega
    · show (skNext _).taken = _
      rw [skNext_taken, h4]; omega
end Go.Proofs.YtifgbnbkimcchaaGreat

namespace Go.Proofs.YtifgbnbkimcchaaGreat
open Go Go.T
set_option maxHeartbeats 2000000
attribute [local irreducible] dInt dBool dSl dPp dPtr dAgg dTup dClo dAny dEx dStr dGd dCells dVec dVs dRow dOp nth Tri Into TOps Ctr bodyPost Exit.then Exit.inBlock Code.wp Code.wpIn dWhen dPa dPe dAo dArr dMp dPm dMap dCJ CtrG CtrI OpY keepPost iterPost bodyPostM roundQ
set_option maxRecDepth 100000 in
theorem c_handful (s : Sk) (h : s.Ok 1) : CtrG Tryz.prog 139 [1000] [(1000, Cont.cells 138 (skTys s))] [Ty.ptr 1000 0] [(1000, Cont.cells 138 (skTys (skNext s)))] (Ty.int .i64 (skVal (skNext s))) := by
  refine fnG_intro Tryz.func139 rfl (by decide) Tryz.ntmps139 (by exact Nat.le_of_ble_eq_true rfl) fun w0 M0 => ?_
  have h0 : 0 ≤ s.taken ∧ s.taken + 1 ≤ 4611686018427387904 := h
  refine t_seq ?_
  refine t_region ?_
  refine asI rfl ?_
  refine r_nil ?_
  refine i_then ?_
  refine t_join (J := live [(0, Ty.ptr 1000 0)] [(1000, Cont.cells 138 (skTys (skMix1 s)))]) ?_ ?_
  ·
    refine t_seq ?_
    refine t_region ?_
    refine mvO rfl ?_
    refine r_nilCheck_ptr rfl ?_
    refine r_field_ptr rfl rfl rfl rfl rfl (by decide) ?_
    refine r_load_ptr rfl rfl (by decide) rfl rfl rfl ?_
    refine r_len rfl rfl rfl ?_
    refine asI rfl ?_
    refine r_nil ?_
    refine i_then ?_
    refine t_seq ?_
    refine t_region ?_
    refine mvI rfl ?_
    refine r_bin rfl rfl rfl ?_
    refine r_nil ?_
    refine i_then ?_
    refine t_cond_dec rfl (fun hc1 => ?_) (fun hc1 => ?_)
    ·
      have hm := tmod_in (a := s.taken) (b := s.grain.length) h0.1 (by omega)
      refine t_draw mixed rfl ?_
      refine mvO rfl ?_
      refine mvO rfl ?_
      refine r_nilCheck_ptr rfl ?_
      refine r_field_ptr rfl rfl rfl rfl rfl (by decide) ?_
      refine r_load_ptr rfl rfl (by decide) rfl rfl rfl ?_
      refine mvO rfl ?_
      refine r_nilCheck_ptr rfl ?_
      refine r_field_ptr rfl rfl rfl rfl rfl (by decide) ?_
      refine r_load_ptr rfl rfl (by decide) rfl rfl rfl ?_
      refine mvO rfl ?_
      refine r_nilCheck_ptr rfl ?_
      refine r_field_ptr rfl rfl rfl rfl rfl (by decide) ?_
      refine r_load_ptr rfl rfl (by decide) rfl rfl rfl ?_
      refine mvI rfl ?_
      refine r_rem rfl rfl (by omega) ?_
      refine r_index_sl rfl rfl rfl rfl rfl rfl (by omega) (by omega) ?_
      refine r_load_pp rfl rfl rfl rfl ?_
      refine r_conv rfl rfl rfl rfl ?_
      refine r_bin rfl rfl rfl ?_
      refine r_bin rfl rfl rfl ?_
      refine r_nilCheck_ptr rfl ?_
      refine r_field_ptr rfl rfl rfl rfl rfl (by decide) ?_
      refine r_store1 rfl rfl (by decide) rfl rfl (by exact (rfl : _ = Ty.int _ _)) rfl (by exact Nat.le_of_ble_eq_true rfl) rfl rfl (by exact rfl) ?_
      refine r_nil ?_
      refine ⟨by kernel_rfl, ?_⟩
      refine i_join ?_
      (refine Ent.mk' ?_ ?_ <;> (repeat' (first | exact allSub_zero | exact allTags_nil | exact subs_nil | refine allSub_succ' ?_ (Ty.sub_any _) | refine allSub_succ' ?_ (Ty.sub_refl _) | refine allTags_cons rfl (Cont.sub_subs ?_) ?_ | refine subs_cons ?_ ?_)))
      all_goals first | exact Ty.sub_int (congrArg Sk.mixed (skMix1_pos hc1).symm) | exact Ty.sub_int (skMix1_taken s).symm | exact Ty.sub_sl (skMix1_grain s).symm
    ·
      refine t_skip ?_
      refine i_join ?_
      (refine Ent.mk' ?_ ?_ <;> (repeat' (first | exact allSub_zero | exact allTags_nil | exact subs_nil | refine allSub_succ' ?_ (Ty.sub_any _) | refine allSub_succ' ?_ (Ty.sub_refl _) | refine allTags_cons rfl (Cont.sub_subs ?_) ?_ | refine subs_cons ?_ ?_)))
      all_goals first | exact Ty.sub_int (congrArg Sk.mixed (skMix1_neg hc1).symm) | exact Ty.sub_int (skMix1_taken s).symm | exact Ty.sub_sl (skMix1_grain s).symm
  ·
    refine t_seq ?_
    have h1 := skMix1_taken s
    refine t_region ?_
    refine mvO rfl ?_
    refine r_nilCheck_ptr rfl ?_
    refine r_field_ptr rfl rfl rfl rfl rfl (by decide) ?_
    refine r_load_ptr rfl rfl (by decide) rfl rfl rfl ?_
    refine r_add rfl rfl (by omega) (by omega) ?_
    refine r_nilCheck_ptr rfl ?_
    refine r_field_ptr rfl rfl rfl rfl rfl (by decide) ?_
    refine r_store1 rfl rfl (by decide) rfl rfl (by exact (rfl : _ = Ty.int _ _)) rfl (by exact Nat.le_of_ble_eq_true rfl) rfl rfl (by exact rfl) ?_
    refine r_nil ?_
    refine i_then ?_
    refine t_join (J := live [(0, Ty.ptr 1000 0)] [(1000, Cont.cells 138 (skTys (skNext s)))]) ?_ ?_
    ·
      refine t_seq ?_
      refine t_draw mixed rfl ?_
      refine mvO rfl ?_
      refine r_nilCheck_ptr rfl ?_
      refine r_field_ptr rfl rfl rfl rfl rfl (by decide) ?_
      refine r_load_ptr rfl rfl (by decide) rfl rfl rfl ?_
      refine mvO rfl ?_
      refine r_nilCheck_ptr rfl ?_
      refine r_field_ptr rfl rfl rfl rfl rfl (by decide) ?_
      refine r_load_ptr rfl rfl (by decide) rfl rfl rfl ?_
      refine r_len rfl rfl rfl ?_
      refine r_bin rfl rfl rfl ?_
      refine r_nil ?_
      refine ⟨by kernel_rfl, ?_⟩
      refine i_then ?_
      refine t_cond_dec rfl (fun hc2 => ?_) (fun hc2 => ?_)
      ·
        refine t_region ?_
        refine mvO rfl ?_
        refine mvO rfl ?_
        refine r_nilCheck_ptr rfl ?_
        refine r_field_ptr rfl rfl rfl rfl rfl (by decide) ?_
        refine r_load_ptr rfl rfl (by decide) rfl rfl rfl ?_
        refine r_bin rfl rfl rfl ?_
        refine r_bin rfl rfl rfl ?_
        refine r_nilCheck_ptr rfl ?_
        refine r_field_ptr rfl rfl rfl rfl rfl (by decide) ?_
        refine r_store1 rfl rfl (by decide) rfl rfl (by exact (rfl : _ = Ty.int _ _)) rfl (by exact Nat.le_of_ble_eq_true rfl) rfl rfl (by exact rfl) ?_
        refine r_nil ?_
        refine i_join ?_
        (refine Ent.mk' ?_ ?_ <;> (repeat' (first | exact allSub_zero | exact allTags_nil | exact subs_nil | refine allSub_succ' ?_ (Ty.sub_any _) | refine allSub_succ' ?_ (Ty.sub_refl _) | refine allTags_cons rfl (Cont.sub_subs ?_) ?_ | refine subs_cons ?_ ?_)))
        all_goals first | exact Ty.sub_int (congrArg Sk.mixed (skMix2_pos (s := skTake (skMix1 s)) hc2).symm) | exact Ty.sub_int (skMix2_taken (skTake (skMix1 s))).symm | exact Ty.sub_sl (skMix2_grain (skTake (skMix1 s))).symm
      ·
        refine t_skip ?_
        refine i_join ?_
        (refine Ent.mk' ?_ ?_ <;> (repeat' (first | exact allSub_zero | exact allTags_nil | exact subs_nil | refine allSub_succ' ?_ (Ty.sub_any _) | refine allSub_succ' ?_ (Ty.sub_refl _) | refine allTags_cons rfl (Cont.sub_subs ?_) ?_ | refine subs_cons ?_ ?_)))
        all_goals first | exact Ty.sub_int (skNext_neg hc2) | exact Ty.sub_int (skMix2_taken (skTake (skMix1 s))).symm | exact Ty.sub_sl (skMix2_grain (skTake (skMix1 s))).symm
    ·
      refine t_seq ?_
      refine t_draw mixed rfl ?_
      refine mvO rfl ?_
      refine r_nilCheck_ptr rfl ?_
      refine r_field_ptr rfl rfl rfl rfl rfl (by decide) ?_
      refine r_load_ptr rfl rfl (by decide) rfl rfl rfl ?_
      refine mvO rfl ?_
      refine r_nilCheck_ptr rfl ?_
      refine r_field_ptr rfl rfl rfl rfl rfl (by decide) ?_
      refine r_load_ptr rfl rfl (by decide) rfl rfl rfl ?_
      refine r_shr rfl rfl (by omega) (by decide) ?_
      refine r_bin rfl rfl rfl ?_
      refine r_shr rfl rfl (by omega) (by decide) ?_
      refine r_bin rfl rfl rfl ?_
      refine r_conv rfl rfl rfl rfl ?_
      refine asI rfl ?_
      refine r_nil ?_
      refine ⟨by kernel_rfl, ?_⟩
      refine i_then ?_
      refine t_ret ?_
      refine g_ret1 [1000] rfl rfl (by decide) (by repeat (first | exact rc_nil | refine rc_cons rfl (cc_cells_eq (by decide) rfl rfl rfl) ?_)) ?_
      all_goals exact rg_cv (cv_pub rfl rfl)
      all_goals exact rg_cv (cv_eq rfl rfl rfl)
set_option maxRecDepth 100000 in
theorem c_Below (s : Sk) (h : s.Ok 1) (n : Int) : CtrG Tryz.prog 83 [1000] [(1000, Cont.cells 138 (skTys s))] [Ty.ptr 1000 0, Ty.int .i64 n] [(1000, Cont.cells 138 (skTys (skNext s)))] (Ty.int .i64 (skBelow s n)) := by
  refine fnG_intro Tryz.func83 rfl (by decide) Tryz.ntmps83 (by exact Nat.le_of_ble_eq_true rfl) fun w0 M0 => ?_
  refine t_seq ?_
  refine t_region ?_
  refine asI rfl ?_
  refine r_nil ?_
  refine i_then ?_
  refine t_seq ?_
  refine t_region ?_
  refine mvO rfl ?_
  refine r_callG [(1000, 1000)] [] [(1000, Cont.cells 138 (skTys (skNext s)))] (c_handful s h) rfl rfl (by repeat (first | exact cv_nil | refine cv_cons ?_ ?_ | exact cv_ptr List.mem_cons_self)) (pre_cons (a := 1000) (b := 1000) (by exact List.mem_cons_self) rfl (cc_cells_eq (by exact List.mem_cons_self) rfl rfl rfl) pre_nil) (post_cons (a := 1000) (b := 1000) (by exact List.mem_cons_self) rfl (cc_cells_eq (by exact List.mem_cons_self) rfl rfl rfl) post_nil) (cv_pub rfl rfl) ?_
  refine mvI rfl ?_
  refine r_max rfl rfl ?_
  refine r_rem rfl rfl (by omega) ?_
  refine asI rfl ?_
  refine r_nil ?_
  refine i_then ?_
  refine t_ret ?_
  refine g_ret1 [1000] rfl rfl (by decide) (by repeat (first | exact rc_nil | refine rc_cons rfl (cc_cells_eq (by decide) rfl rfl rfl) ?_)) ?_
  all_goals exact rg_cv (cv_pub rfl rfl)
set_option maxRecDepth 100000 in
theorem c_Among (s : Sk) (h : s.Ok 1) (lo hi : Int) (hlo : -1000000 ≤ lo ∧ lo ≤ 1000000) (hhi : -1000000 ≤ hi ∧ hi ≤ 1000000) : CtrG Tryz.prog 82 [1000] [(1000, Cont.cells 138 (skTys s))] [Ty.ptr 1000 0, Ty.int .i64 lo, Ty.int .i64 hi] [(1000, Cont.cells 138 (skTys (skNext s)))] (Ty.int .i64 (skAmong s lo hi)) := by
  refine fnG_intro Tryz.func82 rfl (by decide) Tryz.ntmps82 (by exact Nat.le_of_ble_eq_true rfl) fun w0 M0 => ?_
  have hb := skBelow_bound s (hi - lo + 1)
  refine t_seq ?_
  refine t_region ?_
  refine asI rfl ?_
  refine r_nil ?_
  refine i_then ?_
  refine t_seq ?_
  refine t_region ?_
  refine mvI rfl ?_
  refine mvO rfl ?_
  refine mvI rfl ?_
  refine mvI rfl ?_
  refine r_sub rfl rfl (by omega) (by omega) ?_
  refine r_add rfl rfl (by omega) (by omega) ?_
  refine r_callG [(1000, 1000)] [] [(1000, Cont.cells 138 (skTys (skNext s)))] (c_Below s h _) rfl rfl (by repeat (first | exact cv_nil | refine cv_cons ?_ ?_ | exact cv_ptr List.mem_cons_self | exact cv_pub rfl rfl)) (pre_cons (a := 1000) (b := 1000) (by exact List.mem_cons_self) rfl (cc_cells_eq (by exact List.mem_cons_self) rfl rfl rfl) pre_nil) (post_cons (a := 1000) (b := 1000) (by exact List.mem_cons_self) rfl (cc_cells_eq (by exact List.mem_cons_self) rfl rfl rfl) post_nil) (cv_pub rfl rfl) ?_
  refine r_add rfl rfl (by omega) (by omega) ?_
  refine asI rfl ?_
  refine r_nil ?_
  refine i_then ?_
  refine t_ret ?_
  refine g_ret1 [1000] rfl rfl (by decide) (by repeat (first | exact rc_nil | refine rc_cons rfl (cc_cells_eq (by decide) rfl rfl rfl) ?_)) ?_
  all_goals exact rg_cv (cv_pub rfl rfl)
set_option maxRecDepth 100000 in
theorem c_Rare (s : Sk) (h : s.Ok 1) (n : Int) : CtrG Tryz.prog 84 [1000] [(1000, Cont.cells 138 (skTys s))] [Ty.ptr 1000 0, Ty.int .i64 n] [(1000, Cont.cells 138 (skTys (skNext s)))] (Ty.bool (skRare s n)) := by
  refine fnG_intro Tryz.func84 rfl (by decide) Tryz.ntmps84 (by exact Nat.le_of_ble_eq_true rfl) fun w0 M0 => ?_
  refine t_seq ?_
  refine t_region ?_
  refine asB rfl ?_
  refine r_nil ?_
  refine i_then ?_
  refine t_seq ?_
  refine t_region ?_
  refine mvO rfl ?_
  refine mvI rfl ?_
  refine r_callG [(1000, 1000)] [] [(1000, Cont.cells 138 (skTys (skNext s)))] (c_Below s h n) rfl rfl (by repeat (first | exact cv_nil | refine cv_cons ?_ ?_ | exact cv_ptr List.mem_cons_self | exact cv_pub rfl rfl)) (pre_cons (a := 1000) (b := 1000) (by exact List.mem_cons_self) rfl (cc_cells_eq (by exact List.mem_cons_self) rfl rfl rfl) pre_nil) (post_cons (a := 1000) (b := 1000) (by exact List.mem_cons_self) rfl (cc_cells_eq (by exact List.mem_cons_self) rfl rfl rfl) post_nil) (cv_pub rfl rfl) ?_
  refine r_bin rfl rfl rfl ?_
  refine asB rfl ?_
  refine r_nil ?_
  refine i_then ?_
  refine t_ret ?_
  refine g_ret1 [1000] rfl rfl (by decide) (by repeat (first | exact rc_nil | refine rc_cons rfl (cc_cells_eq (by decide) rfl rfl rfl) ?_)) ?_
  all_goals exact rg_cv (cv_pub rfl rfl)
set_option maxRecDepth 100000 in
theorem c_Fill (g : List Int) : CtrG Tryz.prog 35 [] [] [Ty.sl U8 g] [(10, Cont.cells 138 (skTys (skFill g)))] (Ty.ptr 10 0) := by
  refine fnG_intro Tryz.func35 rfl (by decide) Tryz.ntmps35 (by exact Nat.le_of_ble_eq_true rfl) fun w0 M0 => ?_
  refine t_seq ?_
  refine t_region ?_
  refine asX rfl ?_
  refine r_nil ?_
  refine i_then ?_
  refine t_seq ?_
  skip
  refine t_region ?_
  refine mvS rfl ?_
  refine mvS rfl ?_
  refine r_len rfl rfl rfl ?_
  refine r_conv rfl rfl rfl rfl ?_
  refine r_bin rfl rfl rfl ?_
  refine r_build rfl rfl (by exact List.cons_ne_nil _ _) rfl (by repeat (first | exact (Parts.nil : Parts _ _ [] _) | (show Parts _ _ ((_, _) :: _) _; apply Parts.one; (· first | exact (rfl : _ = Ty.int _ _) | exact (rfl : _ = Ty.sl _ _)); (· exact rfl)))) (by exact (rfl : _ = some [_, _, _])) ?_
  refine r_box_own rfl rfl rfl ?_
  refine asO rfl ?_
  refine r_nil ?_
  refine i_then ?_
  refine t_ret ?_
  refine g_ret1 [10] rfl rfl (by decide) (by repeat (first | exact rc_nil | refine rc_cons rfl (cc_cells_eq (by decide) rfl rfl rfl) ?_)) ?_
  all_goals skip
  exact rg_cv (cv_ptr (by exact List.mem_cons_self))
set_option maxRecDepth 100000 in
theorem c_Mod (v n : Int) (hv : -1000000 ≤ v ∧ v ≤ 1000000) (hn : n ≤ 1000000) : Ctr Tryz.prog 85 [Ty.int .i64 v, Ty.int .i64 n] (Ty.int .i64 (modM v n)) := by
  refine fn_intro Tryz.func85 rfl (by decide) Tryz.ntmps85 (by exact Nat.le_of_ble_eq_true rfl) fun w0 M0 => ?_
  refine t_seq ?_
  refine t_region ?_
  refine asI rfl ?_
  refine r_nil ?_
  refine i_then ?_
  refine t_seq ?_
  refine t_seq ?_
  refine t_region ?_
  refine mvI rfl ?_
  refine r_bin rfl rfl rfl ?_
  refine r_nil ?_
  refine i_then ?_
  refine t_cond_dec rfl (fun hc1 => ?_) (fun hc1 => ?_)
  ·
    refine t_seq ?_
    refine t_region ?_
    refine asI rfl ?_
    refine r_nil ?_
    refine i_then ?_
    refine t_ret ?_
    refine i_then_ret ?_
    refine i_rp1 rfl rfl ?_
    all_goals skip
    exact ret_eq rfl rfl (congrArg (Ty.int .i64) (if_pos hc1).symm)
  ·
    refine t_skip ?_
    refine i_then ?_
    refine t_seq ?_
    have hmm := tmod_abs v n (by omega)
    have hm2 := tmod_in (a := v.tmod n + n) (b := n) (by omega) (by omega)
    refine t_region ?_
    refine mvI rfl ?_
    refine mvI rfl ?_
    refine r_rem rfl rfl (by omega) ?_
    refine mvI rfl ?_
    refine r_add rfl rfl (by omega) (by omega) ?_
    refine mvI rfl ?_
    refine r_rem rfl rfl (by omega) ?_
    refine asI rfl ?_
    refine r_nil ?_
    refine i_then ?_
    refine t_ret ?_
    refine i_rp1 rfl rfl ?_
    all_goals skip
    exact ret_eq rfl rfl (congrArg (Ty.int .i64) (if_neg hc1).symm)
end Go.Proofs.YtifgbnbkimcchaaGreat

namespace Go.Proofs.YtifgbnbkimcchaaGreat
open Go Go.T Go.RowKit Go.Shelf
def rhoI : Ren := ⟨fun n => if n = 21 then 140 else if n = 27 then 158 else if n = 28 then 159 else if n = 35 then 163 else if n = 39 then 164 else n, fun n => n, fun n => n⟩
theorem aggI {t : Nat} {D : TypeDesc} (h : Tryz.prog.underlying t = some D) (hd : (match D with | .struct _ => false | .array _ _ => false | _ => true) = true) : ∀ w, (isAgg t).run Tryz.prog w = .ok false w := fun w => by
  cases D <;> simp_all [isAgg, run_underlying h]
set_option maxRecDepth 100000 in
theorem laidI : Lays2.n21 Tryz.prog rhoI where
  mixed := by kernel_rfl
  f21 := by kernel_rfl
  f27 := by kernel_rfl
  f28 := by kernel_rfl
  f35 := by kernel_rfl
  f39 := by kernel_rfl
  t0 := by kernel_rfl
  a0 := aggI (D := TypeDesc.tuple #[]) (by kernel_rfl) rfl
  z0 := fun w => run_sizeOf' (P := Tryz.prog) (t := 0) rfl w
  v0 := fun w => run_zeroOf (by kernel_rfl) w
  t3 := by kernel_rfl
  a3 := aggI (D := TypeDesc.int IntKind.i64) (by kernel_rfl) rfl
  z3 := fun w => run_sizeOf' (P := Tryz.prog) (t := 3) rfl w
  v3 := fun w => run_zeroOf (by kernel_rfl) w
  t4 := by kernel_rfl
  a4 := aggI (D := TypeDesc.bool) (by kernel_rfl) rfl
  z4 := fun w => run_sizeOf' (P := Tryz.prog) (t := 4) rfl w
  v4 := fun w => run_zeroOf (by kernel_rfl) w
  t22 := by kernel_rfl
  a22 := aggI (D := TypeDesc.slice 3) (by kernel_rfl) rfl
  z22 := fun w => run_sizeOf' (P := Tryz.prog) (t := 22) rfl w
  v22 := fun w => run_zeroOf (by kernel_rfl) w
  i3 := by kernel_rfl
def putL (l : List Value) (o : Nat) (vs : List Value) : List Value := l.take o ++ vs ++ l.drop (o + vs.length)
theorem putL_len {l : List Value} {o : Nat} {vs : List Value} (h : o + vs.length ≤ l.length) : (putL l o vs).length = l.length := by
  simp [putL]; omega
theorem putL_cons {l : List Value} {o : Nat} {v : Value} {vs : List Value} (h : o < l.length) : putL (l.set o v) (o + 1) vs = putL l o (v :: vs) := by
  have e : l.set o v = l.take o ++ v :: l.drop (o + 1) := by rw [List.set_eq_take_append_cons_drop, if_pos h]
  have h1 : (l.take o).length = o := by simp; omega
  unfold putL
  rw [e]
  have t1 : (l.take o ++ v :: l.drop (o + 1)).take (o + 1) = l.take o ++ [v] := by
    rw [List.take_append, h1, show o + 1 - o = 1 by omega, List.take_of_length_le (by omega)]; rfl
  have t2 : (l.take o ++ v :: l.drop (o + 1)).drop (o + 1 + vs.length) = l.drop (o + (v :: vs).length) := by
    rw [List.drop_append, h1, List.drop_eq_nil_of_le (by omega), List.nil_append, show o + 1 + vs.length - o = vs.length + 1 by omega, List.drop_succ_cons, List.drop_drop, List.length_cons]
    congr 1; omega
  rw [t1, t2]; simp
theorem size_put {c d : Array Value} {o : Nat} {vs : List Value} (h : d.toList = putL c.toList o vs) (hb : o + vs.length ≤ c.size) : d.size = c.size := by
  have := congrArg List.length h
  rw [putL_len (by simpa using hb)] at this
  simpa using this
theorem set_cells {b T : Nat} : ∀ (vs : List Value) (o : Nat) (w : World) (cs : Array Value), w.heap[b]? = some (.cells cs T (0, 0)) → o + vs.length ≤ cs.size →
    ∃ cs' : Array Value, (w.setCells b o vs).heap[b]? = some (.cells cs' T (0, 0)) ∧ cs'.toList = putL cs.toList o vs ∧ (w.setCells b o vs).heap.size = w.heap.size ∧
      (w.setCells b o vs).os = w.os ∧ (w.setCells b o vs).tape = w.tape ∧ (w.setCells b o vs).output = w.output ∧ ∀ k, k ≠ b → (w.setCells b o vs).heap[k]? = w.heap[k]?
  | [], o, w, cs, h, _ => ⟨cs, h, by simp [putL], rfl, rfl, rfl, rfl, fun _ _ => rfl⟩
  | v :: vs, o, w, cs, h, hl => by
    have hl : o + (vs.length + 1) ≤ cs.size := hl
    have hb : b < w.heap.size := (Array.getElem?_eq_some_iff.1 h).1
    have e := setCell_block (off := o) h v
    have h1 : (w.setCell ⟨b, o, none⟩ v).heap[b]? = some (.cells (cs.setIfInBounds o v) T (0, 0)) := by rw [e]; simp [hb]
    obtain ⟨cs', g1, g2, g3, g4, g5, g6, g7⟩ := set_cells vs (o + 1) (w.setCell ⟨b, o, none⟩ v) (cs.setIfInBounds o v) h1 (by simp; omega)
    refine ⟨cs', g1, ?_, g3.trans (by rw [e]; simp), g4.trans (by rw [e]), g5.trans (by rw [e]), g6.trans (by rw [e]), fun k hk => (g7 k hk).trans ?_⟩
    · rw [g2, Array.toList_setIfInBounds, putL_cons (by simp; omega)]
    · rw [e]; exact Array.getElem?_setIfInBounds_ne (Ne.symm hk)
def dPx (T : Nat) (cs : Array Value) (w : World) (M : Tags) (v : Value) : Prop := ∃ b, v = .slice (some ⟨b, 0, none⟩) cs.size cs.size ∧ M b = none ∧ w.heap[b]? = some (.cells cs T (0, 0))
def pxTy (T : Nat) (cs : Array Value) : Ty := { den := dPx T cs, mono := fun le _ _ ⟨b, e, h1, h2⟩ => let ⟨h3, h4⟩ := le.pub b (Array.getElem?_eq_some_iff.1 h2).1 h1; ⟨b, e, h3, h4.trans h2⟩ }
def ints (l : List Int) : List Value := l.map fun n => .int .i64 n
theorem dens_ints {w : World} {M : Tags} : ∀ {xs : List Int} {cs : List Value}, dens w M (xs.flatMap I64.tys) cs → cs = ints xs
  | [], [], _ => rfl
  | x :: xs, c :: cs, ⟨h, h'⟩ => by
    have h : c = .int .i64 x := h
    rw [dens_ints h', h]; rfl
theorem ints_dens {w : World} {M : Tags} : ∀ xs : List Int, dens w M (xs.flatMap I64.tys) (ints xs)
  | [] => trivial
  | _ :: xs => ⟨rfl, ints_dens xs⟩
def InsDone (w w' : World) (v v' : Value) (l : List Value) : Prop :=
  w'.ownsRow 0 3 1 v' l.length l ∧ w.grownBy w' v.ownBlock ∧ (v'.ownBlock = v.ownBlock ∨ v'.ownBlock = some w.heap.size)
theorem one_ints (l : List Int) : ∀ v ∈ ints l, v.oneCell' = true := fun v hv => by obtain ⟨n, _, rfl⟩ := List.mem_map.1 hv; rfl
theorem own_of {w : World} {g c : Nat} {cs : Array Value} {l : List Value} (h : w.heap[g]? = some (.cells cs 3 (0, 0))) (hs : cs.size = c) (hl : cs.toList.take l.length = l) (hc : l.length ≤ c) (hm : c ≤ maxLen) : w.ownsRow 0 3 1 (.slice (some ⟨g, 0, none⟩) l.length c) l.length l :=
  ⟨(Nat.mul_one _).symm, .inr ⟨g, c, cs, rfl, Nat.zero_le _, h, hc, hm, by rw [hs, Nat.mul_one], by rw [Nat.mul_one]; exact hl⟩⟩
theorem cell_of {w : World} {b T : Nat} {cs : Array Value} (h : w.heap[b]? = some (.cells cs T (0, 0))) {j : Nat} {v : Value} (hj : cs.toList[j]? = some v) : w.cell? ⟨b, j, none⟩ = some v := by
  simpa [World.cell?, h] using hj
theorem froz_of {w : World} {b T : Nat} {cs : Array Value} (h : w.heap[b]? = some (.cells cs T (0, 0))) (j : Nat) : w.frozen? ⟨b, j, none⟩ = false := by simp [World.frozen?, h]
theorem shape_of {w : World} {b T : Nat} {cs : Array Value} (h : w.heap[b]? = some (.cells cs T (0, 0))) : w.shape? b = some (T, cs.size) := by simp [World.shape?, h]
theorem new_row {w : World} {v : Value} {l : List Value} {cs : Array Value} {c : Nat} (hs : cs.size = c) (hl : cs.toList.take l.length = l) (hc : l.length ≤ c) (hm : c ≤ maxLen) : InsDone w (w.drew.alloc (.cells cs 3)) v (.slice (some ⟨w.heap.size, 0, none⟩) l.length c) l :=
  ⟨own_of (alloc_new w.drew _) hs hl hc hm, ⟨rfl, rfl, rfl, by show w.heap.size ≤ (w.heap.push _).size; simp, fun k hk _ => Below.heap_alloc w.drew _ k hk⟩, .inr rfl⟩
theorem ints_ins (xs : List Int) (i : Nat) (k : Int) : ints (insL xs i k) = (ints xs).take i ++ .int .i64 k :: (ints xs).drop i := by simp [ints, insL]
theorem ints_len (l : List Int) : (ints l).length = l.length := by simp [ints]
set_option maxRecDepth 100000 in
theorem ins_run {w : World} {M : Tags} {tg : Nat} {xs : List Int} {v u : Value} {i : Nat} {k : Int} (h1 : 1 ≤ tg) (hrow : dRow I64 3 tg xs w M v) (hu : dPx 3 #[.int .i64 k] w M u) (hi : i ≤ xs.length) (hlen : xs.length ≤ 1000000) :
    Calls Tryz.prog 140 #[v, .int .i64 i, u] w fun e w' => ∃ v', e = .returned v' ∧ InsDone w w' v v' (ints (insL xs i k)) := by
  obtain ⟨vb, rfl, hM, hvb⟩ := hu
  obtain ⟨cs, ⟨hcl, hown⟩, hd, hg⟩ := hrow
  obtain rfl := dens_ints hd
  have hil := insL_len hi k
  have hiL : (ints (insL xs i k)).length = xs.length + 1 := by rw [ints_len, hil]
  have hmax : (1000001 : Nat) ≤ maxLen := by simp [maxLen]
  have hvs : ∀ j x, [Value.int .i64 k][j]? = some x → w.cell? ⟨vb, 0 + j, none⟩ = some x := fun j x hj => by rw [Nat.zero_add]; exact cell_of hvb (by simpa using hj)
  have h1v : ∀ x ∈ [Value.int .i64 k], x.oneCell' = true := fun x hx => by rw [List.mem_singleton.1 hx]; rfl
  have hgrow : ∀ (base : Option Addr) (c : Nat), xs.length ≤ c → c < xs.length + 1 → i = xs.length → (base = none → xs.length = 0) → (∀ a, base = some a → ∀ j x, (ints xs)[j]? = some x → w.cell? (a.add j) = some x) →
      Calls Tryz.prog 140 #[.slice base xs.length c, .int .i64 i, .slice (some ⟨vb, 0, none⟩) 1 1] w fun e w' => ∃ v', e = .returned v' ∧ InsDone w w' (.slice base xs.length c) v' (ints (insL xs i k)) := by
    intro base c hnc hroom hin hnil hcs
    subst hin
    refine (Any2.slices_Insert_int_end_grow laidI base xs.length c vb 0 1 1 (ints xs) [.int .i64 k] w (by omega) hnc hroom (by omega) (ints_len xs) rfl hnil hcs hvs h1v).mono fun e w' ⟨he, hw⟩ => ?_
    refine ⟨_, he, ?_⟩
    have hge := grownCap_ge w (xs.length + 1) c (rhoI.t 3)
    have hle := grownCap_le_maxLen w (xs.length + 1) c (rhoI.t 3) (by omega)
    generalize grownCap w (xs.length + 1) c (rhoI.t 3) = C at *
    have hz : ∀ n, (Builtin.zeroCells (Value.int .i64 0).cells n).size = n := fun n => by rw [size_zeroCells]; simp [Value.cells]
    have hsz : ((ints xs ++ [Value.int .i64 k]).toArray ++ Builtin.zeroCells (Value.int .i64 0).cells (C - (xs.length + 1))).size = C := by
      rw [Array.size_append, hz, List.size_toArray, List.length_append, ints_len, List.length_singleton]; omega
    have l2 := ints_len xs
    have hnr := new_row (w := w) (v := .slice base xs.length c) (l := ints (insL xs xs.length k)) hsz (by rw [hiL, ints_ins, Array.toList_append, List.take_append_of_le_length (by simp [l2]), List.take_of_length_le (by simp [l2]), List.take_of_length_le (l := ints xs) (by omega), List.drop_of_length_le (l := ints xs) (by omega)]) (by omega) hle
    rw [hiL] at hnr
    rw [hw]; exact hnr
  rcases hown with ⟨rfl, hn⟩ | ⟨g, c, cur, rfl, _, hh, hnc, hcm, hsz, htk⟩
  · have := hgrow none 0 (by omega) (by omega) (by omega) (fun _ => hn) (fun a ha => by cases ha)
    rw [hn] at this; exact this
  · have h64 : I64.size = 1 := rfl
    rw [h64, Nat.mul_one] at hsz htk
    have hMg : M g = some tg := hg g rfl
    have hne : vb ≠ g := fun e => by rw [e, hMg] at hM; cases hM
    have hcell : ∀ j x, (ints xs)[j]? = some x → w.cell? ⟨g, 0 + j, none⟩ = some x := fun j x hj => by
      rw [Nat.zero_add]
      refine cell_of hh ?_
      rw [← htk, List.getElem?_take] at hj
      split at hj
      · exact hj
      · cases hj
    by_cases hroom : xs.length + 1 ≤ c
    · have hspare : ∀ j, j < c → (w.cell? ⟨g, 0 + j, none⟩).isSome = true := fun j hj => by simp [World.cell?, hh, hsz, hj]
      have hdone : ∀ (w' : World) (cur' : Array Value), w'.heap[g]? = some (.cells cur' 3 (0, 0)) → cur'.size = c → cur'.toList.take (xs.length + 1) = ints (insL xs i k) → w.grownBy w' (some g) → InsDone w w' (.slice (some ⟨g, 0, none⟩) xs.length c) (.slice (some ⟨g, 0, none⟩) (xs.length + 1) c) (ints (insL xs i k)) := fun w' cur' e1 e2 e3 e4 => by
        rw [← hiL] at e3 ⊢
        exact ⟨own_of e1 e2 e3 (by omega) hcm, e4, .inl rfl⟩
      have hc63 : c ≤ 9223372036854775807 := by simpa [maxLen] using hcm
      by_cases hlt : i < xs.length
      · refine (Any2.slices_Insert_int_shift laidI g 0 xs.length c i vb 0 1 1 (ints xs) [.int .i64 k] w hlt (by omega) hroom hc63 hne (ints_len xs) rfl hcell (fun j hj => hspare j (by omega)) (fun j _ => froz_of hh _) hvs (one_ints xs) h1v 3 3 1 c (shape_of hvb) (by rw [shape_of hh, hsz]) (by omega) (froz_of hvb _) (froz_of hvb _)).mono fun e w' ⟨he, hw⟩ => ?_
        refine ⟨_, he, ?_⟩
        have hdl : (List.drop i (ints xs)).length = xs.length - i := by rw [List.length_drop, ints_len]
        obtain ⟨c1, a1, a2, a3, a4, a5, a6, a7⟩ := set_cells (b := g) (T := 3) ((ints xs).drop i) (0 + (i + 1)) w.drew cur hh (by rw [hdl]; omega)
        have hs1 : c1.size = c := by rw [size_put a2 (by rw [hdl]; omega), hsz]
        obtain ⟨c2, b1, b2, b3, b4, b5, b6, b7⟩ := set_cells (b := g) (T := 3) [.int .i64 k] (0 + i) (w.drew.setCells g (0 + (i + 1)) ((ints xs).drop i)) c1 a1 (by rw [hs1]; simp; omega)
        rw [hw]
        refine hdone _ c2 b1 (by rw [size_put b2 (by rw [hs1]; simp; omega), hs1]) ?_ ⟨b4.trans a4, b5.trans a5, b6.trans a6, by rw [b3, a3]; exact Nat.le_refl _, fun j hj hne' => ?_⟩
        · have hcu : cur.toList.length = c := by rw [Array.length_toList, hsz]
          have ht : cur.toList.take i = (ints xs).take i := by rw [← htk, List.take_take, Nat.min_eq_left (by omega)]
          rw [b2, a2, ints_ins]
          unfold putL
          simp only [Nat.zero_add, hdl, List.length_singleton]
          have l1 : (cur.toList.take (i + 1)).length = i + 1 := by rw [List.length_take, hcu]; omega
          have e1 : ((cur.toList.take (i + 1) ++ (ints xs).drop i ++ cur.toList.drop (i + 1 + (xs.length - i)))).take i = (ints xs).take i := by
            rw [List.append_assoc, List.take_append_of_le_length (by omega), List.take_take, Nat.min_eq_left (by omega), ht]
          have e2 : ((cur.toList.take (i + 1) ++ (ints xs).drop i ++ cur.toList.drop (i + 1 + (xs.length - i)))).drop (i + 1) = (ints xs).drop i ++ cur.toList.drop (i + 1 + (xs.length - i)) := by
            rw [List.append_assoc, List.drop_append_of_le_length (by omega), List.drop_of_length_le (by omega), List.nil_append]
          rw [e1, e2]
          have l2 : ((ints xs).take i).length = i := by rw [List.length_take, ints_len]; omega
          rw [← List.append_assoc, List.take_append_of_le_length (by simp only [List.length_append, l2, hdl, List.length_singleton]; omega), List.take_of_length_le (by simp only [List.length_append, l2, hdl, List.length_singleton]; omega), List.append_assoc]; rfl
        · have hj' : j ≠ g := fun e => hne' (by rw [e])
          rw [b7 j hj', a7 j hj']; rfl
      · obtain rfl : i = xs.length := by omega
        refine (Any2.slices_Insert_int_end_room laidI g 0 xs.length c vb 0 1 1 [.int .i64 k] w (by omega) hroom hc63 rfl (fun j hj => by rw [Nat.add_assoc]; exact hspare _ (by omega)) (fun j _ => froz_of hh _) hvs h1v).mono fun e w' ⟨he, hw⟩ => ?_
        refine ⟨_, he, ?_⟩
        obtain ⟨c1, a1, a2, a3, a4, a5, a6, a7⟩ := set_cells (b := g) (T := 3) [.int .i64 k] (0 + xs.length) w cur hh (by simp; omega)
        rw [hw]
        refine hdone _ c1 a1 (by rw [size_put a2 (by simp; omega), hsz]) ?_ ⟨a4, a5, a6, by rw [a3]; exact Nat.le_refl _, fun j hj hne' => a7 j fun e => hne' (by rw [e])⟩
        have l2 : (ints xs).length = xs.length := ints_len xs
        rw [a2, ints_ins]
        unfold putL
        simp only [Nat.zero_add, List.length_singleton]
        rw [htk, List.take_of_length_le (l := ints xs) (by omega), List.drop_of_length_le (l := ints xs) (by omega), List.take_append_of_le_length (by simp; omega), List.take_of_length_le (by simp; omega)]
    · by_cases hlt : i < xs.length
      · refine (Any2.slices_Insert_int_grow laidI g 0 xs.length c i vb 0 1 1 (ints xs) [.int .i64 k] w hlt (by omega) hnc (by omega) (by omega) (ints_len xs) rfl hcell hvs (one_ints xs) h1v).mono fun e w' ⟨he, hw⟩ => ?_
        refine ⟨_, he, ?_⟩
        have hge := grownCap_ge w (xs.length + 1) c (rhoI.t 3)
        have hle := grownCap_le_maxLen w (xs.length + 1) c (rhoI.t 3) (by omega)
        generalize grownCap w (xs.length + 1) c (rhoI.t 3) = C at *
        have hz : ∀ n, (Builtin.zeroCells (Value.int .i64 0).cells n).size = n := fun n => by rw [size_zeroCells]; simp [Value.cells]
        have hdl : (List.drop i (ints xs)).length = xs.length - i := by rw [List.length_drop, ints_len]
        have htl : (List.take i (ints xs)).length = i := by rw [List.length_take, ints_len]; omega
        obtain ⟨nb, hnb⟩ : ∃ nb, nb = ((ints xs).take i).toArray ++ Builtin.zeroCells (Value.int .i64 0).cells (xs.length + 1 - i) ++ Builtin.zeroCells (Value.int .i64 0).cells (C - (xs.length + 1)) := ⟨_, rfl⟩
        have hns : nb.size = C := by rw [hnb]; simp only [Array.size_append, hz]; simp only [List.size_toArray, htl]; omega
        have hnt : nb.toList.take i = (ints xs).take i := by rw [hnb]; simp only [Array.toList_append, List.append_assoc]; rw [List.take_append_of_le_length (by simp only [htl]; exact Nat.le_refl _), List.take_of_length_le (by simp only [htl]; exact Nat.le_refl _)]
        rw [← hnb] at hw
        have h0 : (w.alloc (.cells nb 3)).drew.heap[w.heap.size]? = some (.cells nb 3 (0, 0)) := alloc_new w _
        obtain ⟨c1, a1, a2, a3, a4, a5, a6, a7⟩ := set_cells (b := w.heap.size) (T := 3) [.int .i64 k] i (w.alloc (.cells nb 3)).drew nb h0 (by rw [hns]; simp; omega)
        have hs1 : c1.size = C := by rw [size_put a2 (by rw [hns]; simp; omega), hns]
        obtain ⟨c2, b1, b2, b3, b4, b5, b6, b7⟩ := set_cells (b := w.heap.size) (T := 3) ((ints xs).drop i) (i + 1) ((w.alloc (.cells nb 3)).drew.setCells w.heap.size i [.int .i64 k]).drew c1 a1 (by rw [hs1, hdl]; omega)
        rw [hw, ← hiL]
        rw [← hiL] at hge
        have hal : (w.alloc (.cells nb 3)).drew.heap.size = w.heap.size + 1 := by show (w.heap.push _).size = _; simp
        refine ⟨own_of b1 (by rw [size_put b2 (by rw [hs1, hdl]; omega), hs1]) ?_ hge hle, ⟨b4.trans a4, b5.trans a5, b6.trans a6, ?_, fun j hj _ => ?_⟩, .inr rfl⟩
        · have hcu : nb.toList.length = C := by rw [Array.length_toList, hns]
          rw [hiL, b2, a2, ints_ins]
          unfold putL
          simp only [hdl, List.length_singleton]
          have l1 : (nb.toList.take i).length = i := by rw [List.length_take, hcu]; omega
          have e1 : ((nb.toList.take i ++ [Value.int .i64 k] ++ nb.toList.drop (i + 1))).take (i + 1) = (ints xs).take i ++ [.int .i64 k] := by
            rw [List.take_append_of_le_length (by simp; omega), List.take_of_length_le (by simp; omega), hnt]
          rw [e1]
          rw [List.take_append_of_le_length (by simp only [List.length_append, htl, hdl, List.length_singleton]; omega), List.take_of_length_le (by simp only [List.length_append, htl, hdl, List.length_singleton]; omega), List.append_assoc]; rfl
        · exact Nat.le_trans (Nat.le_succ _) (Nat.le_of_eq (b3.trans (a3.trans hal)).symm)
        · have hjn : j ≠ w.heap.size := by omega
          exact (b7 j hjn).trans ((a7 j hjn).trans (Below.heap_alloc w _ j hj))
      · refine hgrow (some ⟨g, 0, none⟩) c hnc (by omega) (by omega) (fun h => by cases h) (fun a ha j x hj => ?_)
        obtain rfl := Option.some.inj ha
        rw [Addr.add_lit]
        exact hcell j x hj
end Go.Proofs.YtifgbnbkimcchaaGreat

namespace Go.Proofs.YtifgbnbkimcchaaGreat
open Go Go.T Go.RowKit
theorem own_len {w : World} {v : Value} {n m : Nat} {l : List Value} (e : n = m) (h1 : l.length = n * 1) (h2 : (v = .slice none 0 0 ∧ n = 0) ∨ ∃ g cap cur, v = .slice (some ⟨g, 0, none⟩) n cap ∧ 0 ≤ g ∧ w.heap[g]? = some (.cells cur 3 (0, 0)) ∧ n ≤ cap ∧ cap ≤ maxLen ∧ cur.size = cap * 1 ∧ cur.toList.take (n * 1) = l) : w.ownsRow 0 3 1 v m l := e ▸ ⟨h1, h2⟩
section
variable {fr : Fr} {ops : Array Oper} {A : As} {rest : List Oper} {K : As → List (As × Fx) → Prop} {d : Nat} {t ty' : TypeId} {p : String} {e : Array Edge} {x y z : Operand}
theorem run_callIns (vs : Array Value) (w : World) : (callFunc 140 vs).run Tryz.prog w = .ok (.enter 140 vs) w := by
  have hn' : Tryz.f140.name ≠ "runtime.NumGoroutine" := by
    have h : (Tryz.f140.name == "runtime.NumGoroutine") = false := by kernel_rfl
    simpa using h
  have hb' : Tryz.f140.body ≠ none := fun h => by
    have hb : Tryz.f140.body.isNone = false := by kernel_rfl
    rw [h] at hb; cases hb
  simp [callFunc, Tryz.func140, hn', hb']
theorem r_insert (tg : Nat) {xs : List Int} {i : Nat} {k : Int} {ats : Array TypeId} (hx : (A.op fr x).Sub (.row I64 3 tg xs)) (hy : A.op fr y = .int .i64 (i : Nat)) (hz : A.op fr z = pxTy 3 #[.int .i64 k]) (hi : i ≤ xs.length) (hl : xs.length ≤ 1000000) (h1 : 1 ≤ tg) (hp : fr.pass.contains tg = false)
    (h : TOps Tryz.prog fr ops rest (A.after { d := some d, ty := .row I64 3 tg (insL xs i k), K := [tg], rs := opR x ++ (opR y ++ opR z) }) fun A' l => K A' ((A, { d := some d, ty := .row I64 3 tg (insL xs i k), K := [tg], rs := opR x ++ (opR y ++ opR z) }) :: l)) :
    TOps Tryz.prog fr ops (⟨some d, .call ⟨.value (.func 140), #[x, y, z], ats⟩, t, p, e, none⟩ :: rest) A K := by
  refine ⟨_, ⟨rfl, by simp, by simp, by simp only [List.mem_singleton]; intro u hu; subst hu; exact ⟨h1, by simpa using hp⟩, fun a w M wf _ hrd _ => ?_⟩, h⟩
  rw [if_pos (by simp [Region.wanted])]
  have hdx := op_den (x := x) (fun _ h => List.mem_append_left _ h) hrd
  have hdy := op_den (x := y) (fun _ h => List.mem_append_right _ (List.mem_append_left _ h)) hrd
  have hdz := op_den (x := z) (fun _ h => List.mem_append_right _ (List.mem_append_right _ h)) hrd
  rw [hy] at hdy
  rw [hz] at hdz
  have ey : a.eval y = .int .i64 (i : Nat) := hdy
  have hrow : dRow I64 3 tg xs w M (a.eval x) := hx _ _ _ hdx
  have hc := ins_run h1 hrow hdz hi hl
  have hrun : (execOp a.eval ⟨some d, .call ⟨.value (.func 140), #[x, y, z], ats⟩, t, p, e, none⟩).run Tryz.prog w = .ok (.enter 140 #[a.eval x, .int .i64 i, a.eval z]) w := by
    rw [← ey]
    simp [execOp, resolve, Act.eval, Deferred.ofValue, invoke, run_callIns]
  refine wp_in_enter hrun ?_
  refine hc.mono fun en w' ⟨v', he, hown, hgr, hob⟩ => ?_
  obtain ⟨cs0, _, _, hM⟩ := hrow
  have hb : ∀ b, v'.ownBlock = some b → b < w'.heap.size := by
    intro b hb
    rcases hown.2 with ⟨rfl, _⟩ | ⟨g, cap, cur, rfl, _, hh, _⟩
    · simp [Value.ownBlock] at hb
    · simp [Value.ownBlock] at hb; subst hb; exact (Array.getElem?_eq_some_iff.1 hh).1
  have hle := retag_le (t := tg) (g := v'.ownBlock) hgr.size hgr.os hgr.tape hgr.output (fun b hb hlt => by
      rcases hob with e | e
      · exact hM b (e ▸ hb)
      · exact absurd hlt (by rw [← Option.some.inj (e.symm.trans hb)]; exact Nat.lt_irrefl _)) (fun b hlt hne => hgr.block b hlt (fun e => hne (hM b e.symm))) wf
  refine ⟨v', he, v', rfl, retag M tg v'.ownBlock, retag_wf wf hgr.size hb, hle, ⟨ints (insL xs i k), ?_, ints_dens _, fun g hg => by simp [retag, hg]⟩, by simp⟩
  exact own_len (ints_len _) hown.1 hown.2
theorem r_buildPx {k : Int} (hx : A.op fr x = .int .i64 k)
    (h : TOps Tryz.prog fr ops rest (A.set d (pxTy 3 #[.int .i64 k])) fun A' l' => K A' ((A, { d := some d, ty := pxTy 3 #[.int .i64 k], rs := opR x }) :: l')) : TOps Tryz.prog fr ops (⟨some d, .buildSlice 22 1 #[(0, x)], t, p, e, none⟩ :: rest) A K := by
  refine ⟨_, opT_mem (f := { d := some d, ty := pxTy 3 #[.int .i64 k], rs := opR x }) rfl rfl (by simp) (by simp) (by simp) fun a w M wf hr _ => ?_, h⟩
  have hd := op_den (x := x) (fun _ h => h) hr
  rw [hx] at hd
  have ex : a.eval x = .int .i64 k := hd
  obtain ⟨h3, h4, h5⟩ := le_new wf (.cells #[.int .i64 k] 3)
  refine ⟨.slice (some ⟨w.heap.size, 0, none⟩) 1 1, w.alloc (.cells #[.int .i64 k] 3), ?_, M, h3, h4, ⟨w.heap.size, rfl, h5, alloc_new _ _⟩, by simp⟩
  have hu : Tryz.prog.underlying 22 = some (.slice 3) := by kernel_rfl
  have hz : ∀ w, (zeroValue 3).run Tryz.prog w = .ok (.int .i64 0) w := fun w => run_zeroOf (by kernel_rfl) w
  have hs : ∀ w, (sizeOf 3).run Tryz.prog w = .ok 1 w := fun w => run_sizeOf' (P := Tryz.prog) (t := 3) rfl w
  simp [execOp, Instr.buildSlice, run_underlying hu, hs, hz, ex, newRow, newObj, Sem.run, Value.cells, Instr.fill, Sem.new, show Array.range 1 = #[0] from rfl]
end
end Go.Proofs.YtifgbnbkimcchaaGreat

namespace Go.Proofs.YtifgbnbkimcchaaGreat
open Go Go.T
set_option maxHeartbeats 2000000
attribute [local irreducible] dInt dBool dSl dPp dPtr dAgg dTup dClo dAny dEx dStr dGd dCells dVec dVs dRow dOp nth Tri Into TOps Ctr bodyPost Exit.then Exit.inBlock Code.wp Code.wpIn dWhen dPa dPe dAo dArr dMp dPm dMap dCJ CtrG CtrI OpY keepPost iterPost bodyPostM roundQ
set_option maxRecDepth 100000 in
theorem c_Shuffle (s : Sk) (n : Nat) (hn : n ≤ 1000) (h : s.Ok (n + 1)) : CtrG Tryz.prog 86 [1000] [(1000, Cont.cells 138 (skTys s))] [Ty.ptr 1000 0, Ty.int .i64 (n : Nat)] [(1000, Cont.cells 138 (skTys (shufUp s n).2))] (Ty.sl I64 (shufUp s n).1) := by
  refine fnG_intro Tryz.func86 rfl (by decide) Tryz.ntmps86 (by exact Nat.le_of_ble_eq_true rfl) fun w0 M0 => ?_
  have h0 : 0 ≤ s.taken ∧ s.taken + (n + 1) ≤ 4611686018427387904 := h
  refine t_seq ?_
  refine t_region ?_
  refine asX rfl ?_
  refine r_nil ?_
  refine i_then ?_
  refine t_seq ?_
  refine t_region ?_
  refine asX rfl ?_
  refine r_nil ?_
  refine i_then ?_
  refine t_seq ?_
  refine t_seq ?_
  refine t_region ?_
  refine mvI rfl ?_
  refine mvI rfl ?_
  refine r_nil ?_
  refine i_then ?_
  refine t_block ?_
  refine t_loop (fun (k : {k : Nat // k ≤ n}) => live [(0, Ty.ptr 1000 0), (5, Ty.row I64 3 19 (shufUp s k.1).1), (7, Ty.int .i64 (n : Nat)), (8, Ty.int .i64 (k.1 : Nat))] [(1000, Cont.cells 138 (skTys (shufUp s k.1).2))]) (fun k => n - k.1) (⟨0, by omega⟩) ?_ fun k => ?_
  · (refine Ent.mk' ?_ ?_ <;> (repeat' (first | exact allSub_zero | exact allTags_nil | refine allSub_succ' ?_ (Ty.sub_any _) | refine allSub_succ' ?_ (Ty.sub_refl _) | refine allSub_succ' ?_ Ty.nil_row | refine allTags_cons rfl (Cont.sub_refl _) ?_)))
  ·
    obtain ⟨hs1, _, _, hs4⟩ := shuf_spec s k.1
    have hk2 := k.2
    refine t_seq ?_
    refine t_region ?_
    refine r_bin rfl rfl rfl ?_
    refine r_nil ?_
    refine i_then ?_
    refine t_seq ?_
    refine t_cond_dec rfl (fun hc1 => ?_) (fun hc1 => ?_)
    ·
      refine t_skip ?_
      refine i_then ?_
      refine t_seq ?_
      refine t_block ?_
      refine t_seq ?_
      refine t_region ?_
      refine mvI rfl ?_
      refine asI rfl ?_
      refine r_nil ?_
      refine i_then ?_
      have hok : (shufUp s k.1).2.Ok 1 := ⟨by omega, by omega⟩
      have hb := skBelow_bound (shufUp s k.1).2 ((k.1 : Int) + 1)
      refine t_region ?_
      refine mvR rfl ?_
      refine mvO rfl ?_
      refine mvI rfl ?_
      refine r_add rfl rfl (by omega) (by omega) ?_
      refine r_callG [(1000, 1000)] [] [(1000, Cont.cells 138 (skTys (skNext (shufUp s k.1).2)))] (c_Below (shufUp s k.1).2 hok _) rfl rfl (by repeat (first | exact cv_nil | refine cv_cons ?_ ?_ | exact cv_ptr List.mem_cons_self | exact cv_pub rfl rfl)) (pre_cons (a := 1000) (b := 1000) (by exact List.mem_cons_self) rfl (cc_cells_eq (by exact List.mem_cons_self) rfl rfl rfl) pre_nil) (post_cons (a := 1000) (b := 1000) (by exact List.mem_cons_self) rfl (cc_cells_eq (by exact List.mem_cons_self) rfl rfl rfl) post_nil) (cv_pub rfl rfl) ?_
      refine mvI rfl ?_
      refine r_buildPx rfl ?_
      refine r_insert 19 (i := (skBelow (shufUp s k.1).2 ((k.1 : Int) + 1)).toNat) (k := (k.1 : Nat)) (Ty.sub_refl _) (congrArg (Ty.int .i64) (Int.toNat_of_nonneg hb.1).symm) rfl (by omega) (by omega) (by decide) rfl ?_
      refine asR rfl ?_
      refine r_nil ?_
      refine i_block ?_
      refine i_then ?_
      refine t_region ?_
      refine r_add rfl rfl (by omega) (by omega) ?_
      refine mvI rfl ?_
      refine r_nil ?_
      refine i_round (⟨k.1 + 1, by omega⟩) ?_ (by show n - (k.1 + 1) < n - k.1; omega)
      (refine Ent.mk' ?_ ?_ <;> (repeat' (first | exact allSub_zero | exact allTags_nil | refine allSub_succ' ?_ (Ty.sub_any _) | refine allSub_succ' ?_ (Ty.sub_refl _) | refine allTags_cons rfl (Cont.sub_refl _) ?_)))
      all_goals skip
    ·
      refine t_exit ?_
      refine i_then_exit ?_
      refine i_then_exit ?_
      refine i_block_exit rfl ?_
      refine i_then ?_
      refine t_seq ?_
      obtain ⟨k, hk⟩ := k
      obtain rfl : k = n := by have h1 : ¬ (k : Int) < (n : Int) := hc1; have h2 : k ≤ n := hk; omega
      refine t_region ?_
      refine mvR rfl ?_
      refine asR rfl ?_
      refine r_nil ?_
      refine i_then ?_
      refine t_ret ?_
      refine g_ret1 [1000] rfl rfl (by decide) (by repeat (first | exact rc_nil | refine rc_cons rfl (cc_cells_eq (by decide) rfl rfl rfl) ?_)) ?_
      all_goals exact rg_row (by decide) rfl rfl
      all_goals exact rg_row (by decide) rfl rfl
end Go.Proofs.YtifgbnbkimcchaaGreat

namespace Go.Proofs.YtifgbnbkimcchaaGreat
open Go Go.T
def idxM (l : List Int) (x : Int) : Int := fidx (fun y => decide (x = y)) l
theorem contains_idx (l : List Int) (x : Int) : decide (0 ≤ idxM l x) = decide (x ∈ l) := by
  unfold idxM
  rw [fidx_ge, Bool.eq_iff_iff, List.any_eq_true, decide_eq_true_eq]
  constructor
  · rintro ⟨y, hy, h⟩; rw [of_decide_eq_true h]; exact hy
  · intro h; exact ⟨x, h, decide_eq_true rfl⟩
def cmpM (a b : Int) : Int := if a < b then -1 else if a > b then 1 else 0
def cmpL : List Int → List Int → Int
  | [], [] => 0
  | [], _ :: _ => -1
  | _ :: _, [] => 1
  | a :: l, b :: m => if cmpM a b ≠ 0 then cmpM a b else cmpL l m
theorem drop_nth {α : Type} [Inhabited α] {l : List α} {k : Nat} (h : k < l.length) : l.drop k = nth l k :: l.drop (k + 1) := by
  rw [List.drop_eq_getElem_cons h, nth_lt h]
def maxUp (l : List Int) (k : Nat) : Int := (l.take k).foldl max (nth l 0)
def maxM (l : List Int) : Int := l.foldl max (nth l 0)
theorem maxUp_succ {l : List Int} {k : Nat} (h : k < l.length) : maxUp l (k + 1) = max (maxUp l k) (nth l k) := by
  unfold maxUp; rw [take_nth h, List.foldl_append]; rfl
theorem maxUp_one {l : List Int} (h : 0 < l.length) : maxUp l 1 = nth l 0 := by
  rw [maxUp_succ h]; unfold maxUp; simp
def loadO (f : Flr) (l : List Int) (b k : Nat) : Int := firstS f b f.bins.length + ((l.take k).map fun t => addS f t.toNat b).sum
def loadsO (f : Flr) (l : List Int) (b : Nat) : List Int := (List.range (l.length + 1)).map (loadO f l b)
theorem loadO_succ (f : Flr) {l : List Int} {k : Nat} (h : k < l.length) (b : Nat) : loadO f l b (k + 1) = loadO f l b k + addS f (nth l k).toNat b := by
  unfold loadO; rw [take_nth h, List.map_append, List.sum_append]; simp; omega
theorem loadsO_len (f : Flr) (l : List Int) (b : Nat) : (loadsO f l b).length = l.length + 1 := by simp [loadsO]
theorem loadsO_nth (f : Flr) {l : List Int} (b : Nat) {k : Nat} (h : k ≤ l.length) : nth (loadsO f l b) k = loadO f l b k := nth_map_range _ (by omega)
def marL (f : Flr) (l : List Int) (k : Nat) : Int := (List.range k).foldl (fun n b => min n (nth f.bears b - maxM (loadsO f l b))) 1099511627776
theorem marL_succ (f : Flr) (l : List Int) (k : Nat) : marL f l (k + 1) = min (marL f l k) (nth f.bears k - maxM (loadsO f l k)) := by
  unfold marL; rw [List.range_succ, List.foldl_append]; rfl
theorem share_abs {f : Flr} (hr : f.Right) {bin : Int} (hb : -1 ≤ bin ∧ bin < f.bins.length) (b : Nat) : 0 ≤ shareP f bin b ∧ shareP f bin b ≤ 4 := by
  unfold shareP
  split
  · omega
  · exact share_bound hr.ranged (by omega)
theorem addS_abs {f : Flr} (hr : f.Right) {t : Nat} (ht : t < f.turnings.length) (b : Nat) : -1200 ≤ addS f t b ∧ addS f t b ≤ 1200 := by
  have hn := hr.named _ (nth_mem ht)
  have h1 := share_abs hr hn.1 b
  have h2 := share_abs hr hn.2 b
  have h3 := hr.ranged.sacksR _ (nth_mem ht)
  unfold addS
  have hd : -4 ≤ shareP f (nth f.turnings t).dst b - shareP f (nth f.turnings t).src b ∧ shareP f (nth f.turnings t).dst b - shareP f (nth f.turnings t).src b ≤ 4 := by omega
  generalize shareP f (nth f.turnings t).dst b - shareP f (nth f.turnings t).src b = d at *
  generalize (nth f.turnings t).sacks = s at *
  have : s * d ≤ 300 * 4 ∧ -(300 * 4) ≤ s * d := by
    have e : d = -4 ∨ d = -3 ∨ d = -2 ∨ d = -1 ∨ d = 0 ∨ d = 1 ∨ d = 2 ∨ d = 3 ∨ d = 4 := by omega
    rcases e with rfl | rfl | rfl | rfl | rfl | rfl | rfl | rfl | rfl <;> omega
  omega
end Go.Proofs.YtifgbnbkimcchaaGreat

namespace Go.Proofs.YtifgbnbkimcchaaGreat
open Go Go.T
set_option maxHeartbeats 2000000
attribute [local irreducible] dInt dBool dSl dPp dPtr dAgg dTup dClo dAny dEx dStr dGd dCells dVec dVs dRow dOp nth Tri Into TOps Ctr bodyPost Exit.then Exit.inBlock Code.wp Code.wpIn dWhen dPa dPe dAo dArr dMp dPm dMap dCJ CtrG CtrI OpY keepPost iterPost bodyPostM roundQ
set_option maxRecDepth 100000 in
theorem c_Index_int (l : List Int) (x : Int) : Ctr Tryz.prog 70 [Ty.sl I64 l, Ty.int .i64 x] (Ty.int .i64 (idxM l x)) := by
  refine fn_intro Tryz.func70 rfl (by decide) Tryz.ntmps70 (by exact Nat.le_of_ble_eq_true rfl) fun w0 M0 => ?_
  refine t_fact (s := 0) rfl rfl sl_len fun hl => ?_
  refine t_seq ?_
  refine t_region ?_
  refine asI rfl ?_
  refine r_nil ?_
  refine i_then ?_
  refine t_seq ?_
  refine t_seq ?_
  refine t_region ?_
  refine mvS rfl ?_
  refine r_len rfl rfl rfl ?_
  refine mvI rfl ?_
  refine r_nil ?_
  refine i_then ?_
  refine t_block ?_
  refine t_loop (fun (k : {k : Nat // ∀ y ∈ l.take k, decide (x = y) = false}) => live [(0, Ty.sl I64 l), (1, Ty.int .i64 x), (7, Ty.int .i64 l.length), (8, Ty.int .i64 (k.1 : Nat))] []) (fun k => l.length - k.1) (⟨0, by simp⟩) ?_ fun k => ?_
  · (refine Ent.mk' ?_ ?_ <;> (repeat' (first | exact allSub_zero | exact allTags_nil | refine allSub_succ' ?_ (Ty.sub_any _) | refine allSub_succ' ?_ (Ty.sub_refl _))))
  ·
    refine t_seq ?_
    refine t_region ?_
    refine r_bin rfl rfl rfl ?_
    refine r_nil ?_
    refine i_then ?_
    refine t_seq ?_
    refine t_cond_dec rfl (fun hc1 => ?_) (fun hc1 => ?_)
    ·
      refine t_skip ?_
      refine i_then ?_
      refine t_seq ?_
      refine t_block ?_
      refine t_seq ?_
      refine t_region ?_
      refine mvI rfl ?_
      refine asI rfl ?_
      refine r_nil ?_
      refine i_then ?_
      refine t_seq ?_
      refine t_region ?_
      refine mvI rfl ?_
      refine mvS rfl ?_
      refine mvI rfl ?_
      refine r_index_slN rfl rfl rfl rfl rfl rfl (by omega) ?_
      refine r_load_pp rfl rfl rfl rfl ?_
      refine r_bin rfl rfl rfl ?_
      refine r_nil ?_
      refine i_then ?_
      refine t_cond_dec rfl (fun hc2 => ?_) (fun hc2 => ?_)
      ·
        refine t_seq ?_
        refine t_region ?_
        refine mvI rfl ?_
        refine asI rfl ?_
        refine r_nil ?_
        refine i_then ?_
        refine t_ret ?_
        refine i_block_ret ?_
        refine i_then_ret ?_
        refine i_then_ret ?_
        refine i_block_ret ?_
        refine i_then_ret ?_
        refine i_rp1 rfl rfl ?_
        all_goals skip
        exact ret_eq rfl rfl (congrArg (Ty.int .i64) (by unfold idxM; rw [fidx_found (k := k.1) (by omega) k.2 (by rw [← nth_lt]; exact decide_eq_true hc2)]))
      ·
        refine t_skip ?_
        refine i_block ?_
        refine i_then ?_
        refine t_region ?_
        refine r_add rfl rfl (by omega) (by omega) ?_
        refine mvI rfl ?_
        refine r_nil ?_
        refine i_round (⟨k.1 + 1, by rw [take_nth (by omega)]; intro y hy; rcases List.mem_append.1 hy with h | h; exact k.2 y h; rw [List.mem_singleton.1 h]; exact decide_eq_false hc2⟩) ?_ (by show l.length - (k.1 + 1) < l.length - k.1; omega)
        (refine Ent.mk' ?_ ?_ <;> (repeat' (first | exact allSub_zero | exact allTags_nil | refine allSub_succ' ?_ (Ty.sub_any _) | refine allSub_succ' ?_ (Ty.sub_refl _))))
        all_goals skip
    ·
      refine t_exit ?_
      refine i_then_exit ?_
      refine i_then_exit ?_
      refine i_block_exit rfl ?_
      refine i_then ?_
      refine t_seq ?_
      refine t_region ?_
      refine asI rfl ?_
      refine r_nil ?_
      refine i_then ?_
      refine t_ret ?_
      refine i_rp1 rfl rfl ?_
      all_goals skip
      exact ret_eq rfl rfl (congrArg (Ty.int .i64) (by unfold idxM; rw [fidx_none (by have := k.2; rwa [List.take_of_length_le (by omega)] at this)]))
set_option maxRecDepth 100000 in
theorem c_Contains_int (l : List Int) (x : Int) : Ctr Tryz.prog 25 [Ty.sl I64 l, Ty.int .i64 x] (Ty.bool (decide (x ∈ l))) := by
  refine fn_intro Tryz.func25 rfl (by decide) Tryz.ntmps25 (by exact Nat.le_of_ble_eq_true rfl) fun w0 M0 => ?_
  refine t_seq ?_
  refine t_region ?_
  refine asB rfl ?_
  refine r_nil ?_
  refine i_then ?_
  refine t_seq ?_
  refine t_region ?_
  refine mvS rfl ?_
  refine mvI rfl ?_
  refine r_call (c_Index_int l x) rfl rfl rfl rfl rfl ?_
  refine r_bin rfl rfl rfl ?_
  refine asB rfl ?_
  refine r_nil ?_
  refine i_then ?_
  refine t_ret ?_
  refine i_rp1 rfl rfl ?_
  all_goals skip
  exact ret_eq rfl rfl (congrArg Ty.bool (contains_idx l x))
set_option maxRecDepth 100000 in
theorem c_isNaN (x : Int) : Ctr Tryz.prog 141 [Ty.int .i64 x] (Ty.bool false) := by
  refine fn_intro Tryz.func141 rfl (by decide) Tryz.ntmps141 (by exact Nat.le_of_ble_eq_true rfl) fun w0 M0 => ?_
  refine t_seq ?_
  refine t_region ?_
  refine asB rfl ?_
  refine r_nil ?_
  refine i_then ?_
  refine t_seq ?_
  refine t_region ?_
  refine mvI rfl ?_
  refine mvI rfl ?_
  refine r_bin rfl rfl rfl ?_
  refine asB rfl ?_
  refine r_nil ?_
  refine i_then ?_
  refine t_ret ?_
  refine i_rp1 rfl rfl ?_
  all_goals skip
  exact ret_eq rfl rfl (congrArg Ty.bool (by simp))
set_option maxRecDepth 100000 in
theorem c_Max_int (l : List Int) (h : 0 < l.length) : Ctr Tryz.prog 43 [Ty.sl I64 l] (Ty.int .i64 (maxM l)) := by
  refine fn_intro Tryz.func43 rfl (by decide) Tryz.ntmps43 (by exact Nat.le_of_ble_eq_true rfl) fun w0 M0 => ?_
  refine t_fact (s := 0) rfl rfl sl_len fun hl => ?_
  refine t_seq ?_
  refine t_region ?_
  refine asI rfl ?_
  refine r_nil ?_
  refine i_then ?_
  refine t_seq ?_
  refine t_seq ?_
  refine t_region ?_
  refine mvS rfl ?_
  refine r_len rfl rfl rfl ?_
  refine r_bin rfl rfl rfl ?_
  refine r_nil ?_
  refine i_then ?_
  refine t_cond_ff rfl (by simp; omega) ?_
  refine t_skip ?_
  refine i_then ?_
  refine t_seq ?_
  refine t_region ?_
  refine mvS rfl ?_
  refine r_index_slN rfl rfl rfl rfl rfl rfl (by omega) ?_
  refine r_load_pp rfl rfl rfl rfl ?_
  refine asI rfl ?_
  refine r_nil ?_
  refine i_then ?_
  refine t_seq ?_
  refine t_seq ?_
  refine t_region ?_
  refine asI rfl ?_
  refine r_nil ?_
  refine i_then ?_
  refine t_block ?_
  refine t_loop (fun (k : {k : Nat // 1 ≤ k ∧ k ≤ l.length}) => live [(0, Ty.sl I64 l), (3, Ty.int .i64 (maxUp l k.1)), (4, Ty.int .i64 (k.1 : Nat))] []) (fun k => l.length - k.1) (⟨1, by omega, by omega⟩) ?_ fun k => ?_
  · (refine Ent.mk' ?_ ?_ <;> (repeat' (first | exact allSub_zero | exact allTags_nil | refine allSub_succ' ?_ (Ty.sub_any _) | refine allSub_succ' ?_ (Ty.sub_refl _) | refine allSub_succ' ?_ ?_)))
    all_goals exact Ty.sub_int (maxUp_one h).symm
  ·
    obtain ⟨hk1, hk2⟩ := k.2
    refine t_seq ?_
    refine t_seq ?_
    refine t_region ?_
    refine mvI rfl ?_
    refine mvS rfl ?_
    refine r_len rfl rfl rfl ?_
    refine r_bin rfl rfl rfl ?_
    refine r_nil ?_
    refine i_then ?_
    refine t_cond_dec rfl (fun hc2 => ?_) (fun hc2 => ?_)
    ·
      refine t_skip ?_
      refine i_then ?_
      refine t_seq ?_
      refine t_block ?_
      refine t_region ?_
      refine mvI rfl ?_
      refine mvS rfl ?_
      refine mvI rfl ?_
      refine r_index_slN rfl rfl rfl rfl rfl rfl (by omega) ?_
      refine r_load_pp rfl rfl rfl rfl ?_
      refine r_max rfl rfl ?_
      refine asI rfl ?_
      refine r_nil ?_
      refine i_block ?_
      refine i_then ?_
      refine t_region ?_
      refine mvI rfl ?_
      refine r_add rfl rfl (by omega) (by omega) ?_
      refine asI rfl ?_
      refine r_nil ?_
      refine i_round (⟨k.1 + 1, by omega, by omega⟩) ?_ (by show l.length - (k.1 + 1) < l.length - k.1; omega)
      (refine Ent.mk' ?_ ?_ <;> (repeat' (first | exact allSub_zero | exact allTags_nil | refine allSub_succ' ?_ (Ty.sub_any _) | refine allSub_succ' ?_ (Ty.sub_refl _) | refine allSub_succ' ?_ ?_)))
      all_goals skip
      all_goals exact Ty.sub_int (maxUp_succ (by omega)).symm
    ·
      refine t_exit ?_
      refine i_then_exit ?_
      refine i_then_exit ?_
      refine i_block_exit rfl ?_
      refine i_then ?_
      refine t_seq ?_
      refine t_region ?_
      refine mvI rfl ?_
      refine asI rfl ?_
      refine r_nil ?_
      refine i_then ?_
      refine t_ret ?_
      refine i_rp1 rfl rfl ?_
      all_goals skip
      exact ret_eq rfl rfl (congrArg (Ty.int .i64) (by unfold maxUp maxM; rw [List.take_of_length_le (by omega)]))
set_option maxRecDepth 100000 in
theorem c_share5 (f : Flr) (hr : f.Right) (bin : Int) (hb : -1 ≤ bin ∧ bin < f.bins.length) (b : Nat) (hbb : b < f.bears.length) : Ctr Tryz.prog 94 [flrT f, Ty.int .i64 bin, Ty.int .i64 (b : Nat)] (Ty.int .i64 (shareP f bin b)) := by
  refine fn_intro Tryz.func94 rfl (by decide) Tryz.ntmps94 (by exact Nat.le_of_ble_eq_true rfl) fun w0 M0 => ?_
  have h1 := hr.ranged.bins
  have h4 := hr.ranged.bears
  refine t_seq ?_
  refine t_region ?_
  refine r_box_agg rfl ?_
  refine asI rfl ?_
  refine r_nil ?_
  refine i_then ?_
  refine t_seq ?_
  refine t_seq ?_
  refine t_region ?_
  refine mvI rfl ?_
  refine r_bin rfl rfl rfl ?_
  refine r_nil ?_
  refine i_then ?_
  refine t_cond_dec rfl (fun hc1 => ?_) (fun hc1 => ?_)
  ·
    refine t_seq ?_
    refine t_region ?_
    refine asI rfl ?_
    refine r_nil ?_
    refine i_then ?_
    refine t_ret ?_
    refine i_then_ret ?_
    refine i_rp1 rfl rfl ?_
    all_goals skip
    exact ret_eq rfl rfl (congrArg (Ty.int .i64) (by unfold shareP; rw [if_pos (by omega)]))
  ·
    refine t_skip ?_
    refine i_then ?_
    refine t_seq ?_
    have hsh := hr.ranged.shares _ (nth_mem (xs := f.bins) (k := bin.toNat) (by omega))
    refine t_region ?_
    refine r_field_pp rfl rfl rfl rfl rfl (by decide) ?_
    refine r_load_pp rfl rfl rfl rfl ?_
    refine mvI rfl ?_
    refine r_index_sl rfl rfl rfl rfl rfl rfl (by omega) (by omega) ?_
    refine r_field_pp rfl rfl rfl rfl rfl (by decide) ?_
    refine r_load_pp rfl rfl rfl rfl ?_
    refine mvI rfl ?_
    refine r_index_slN rfl rfl rfl rfl rfl rfl (by omega) ?_
    refine r_load_pp rfl rfl rfl rfl ?_
    refine asI rfl ?_
    refine r_nil ?_
    refine i_then ?_
    refine t_ret ?_
    refine i_rp1 rfl rfl ?_
    all_goals skip
    exact ret_eq rfl rfl (congrArg (Ty.int .i64) (by unfold shareP; rw [if_neg (by omega)]))
theorem loadsO_one (f : Flr) (l : List Int) (b : Nat) : (loadsO f l b).take 1 = [loadO f l b 0] := by unfold loadsO; rw [List.range_succ_eq_map]; rfl
theorem loadO_bound {f : Flr} (hr : f.Right) {l : List Int} (hl : ∀ x ∈ l, 0 ≤ x ∧ x < (f.turnings.length : Int)) (b : Nat) : ∀ k, -(1200 * k) ≤ loadO f l b k ∧ loadO f l b k ≤ 7200 + 1200 * k
  | 0 => by
    have := firstS_bound hr.ranged b f.bins.length (Nat.le_refl _)
    have := hr.ranged.bins
    simp [loadO]; omega
  | k + 1 => by
    have ih := loadO_bound hr hl b k
    rcases Nat.lt_or_ge k l.length with h | h
    · have hx := hl _ (nth_mem (xs := l) (k := k) h)
      have := addS_abs hr (t := (nth l k).toNat) (by omega) b
      rw [loadO_succ f h]; omega
    · have e : loadO f l b (k + 1) = loadO f l b k := by unfold loadO; rw [List.take_of_length_le (by omega), List.take_of_length_le (by omega)]
      rw [e]; omega
theorem loadO_step (f : Flr) {l : List Int} {k t : Nat} (h : k < l.length) (b : Nat) (ht : (nth l k).toNat = t) : loadO f l b (k + 1) = loadO f l b k + (nth f.turnings t).sacks * (shareP f (nth f.turnings t).dst b - shareP f (nth f.turnings t).src b) := by
  rw [loadO_succ f h, ht]; rfl
theorem loadsO_row (f : Flr) {l : List Int} {k t : Nat} (h : k < l.length) (b : Nat) (ht : (nth l k).toNat = t) : (loadsO f l b).take (k + 1) ++ [loadO f l b k + (nth f.turnings t).sacks * (shareP f (nth f.turnings t).dst b - shareP f (nth f.turnings t).src b)] = (loadsO f l b).take (k + 1 + 1) := by
  rw [← loadO_step f h b ht, ← loadsO_nth f b (show k + 1 ≤ l.length by omega), ← take_nth (by rw [loadsO_len]; omega)]
set_option maxRecDepth 100000 in
theorem c_loads5 (f : Flr) (hr : f.Right) (l : List Int) (hl : ∀ x ∈ l, 0 ≤ x ∧ x < (f.turnings.length : Int)) (hll : l.length ≤ 1000) (b : Nat) (hbb : b < f.bears.length) : Ctr Tryz.prog 44 [flrT f, Ty.sl I64 l, Ty.int .i64 (b : Nat)] (Ty.sl I64 (loadsO f l b)) := by
  refine fn_intro Tryz.func44 rfl (by decide) Tryz.ntmps44 (by exact Nat.le_of_ble_eq_true rfl) fun w0 M0 => ?_
  have h1 := hr.ranged.bins
  have h4 := hr.ranged.bears
  refine t_seq ?_
  refine t_region ?_
  refine r_box_agg rfl ?_
  refine asX rfl ?_
  refine r_nil ?_
  refine i_then ?_
  refine t_seq ?_
  refine t_region ?_
  refine asI rfl ?_
  refine r_nil ?_
  refine i_then ?_
  refine t_seq ?_
  refine t_seq ?_
  refine t_region ?_
  refine r_field_pp rfl rfl rfl rfl rfl (by decide) ?_
  refine r_load_pp rfl rfl rfl rfl ?_
  refine r_len rfl rfl rfl ?_
  refine mvI rfl ?_
  refine r_nil ?_
  refine i_then ?_
  refine t_block ?_
  refine t_loop (fun (k : {k : Nat // k ≤ f.bins.length}) => live [(1, Ty.sl I64 l), (2, Ty.int .i64 (b : Nat)), (3, Ty.pp (flrTys f)), (7, Ty.int .i64 (firstS f b k.1)), (15, Ty.sl BinE f.bins), (16, Ty.int .i64 f.bins.length), (17, Ty.int .i64 (k.1 : Nat))] []) (fun k => f.bins.length - k.1) (⟨0, by omega⟩) ?_ fun k => ?_
  · (refine Ent.mk' ?_ ?_ <;> (repeat' (first | exact allSub_zero | exact allTags_nil | refine allSub_succ' ?_ (Ty.sub_any _) | refine allSub_succ' ?_ (Ty.sub_refl _))))
  ·
    have hk := k.2
    have hfb := firstS_bound hr.ranged b k.1 hk
    refine t_seq ?_
    refine t_region ?_
    refine r_bin rfl rfl rfl ?_
    refine r_nil ?_
    refine i_then ?_
    refine t_seq ?_
    refine t_cond_dec rfl (fun hc1 => ?_) (fun hc1 => ?_)
    ·
      refine t_skip ?_
      refine i_then ?_
      refine t_seq ?_
      refine t_block ?_
      refine t_seq ?_
      refine t_region ?_
      refine r_index_slN rfl rfl rfl rfl rfl rfl (by omega) ?_
      refine r_load_ppN rfl rfl rfl (by exact Nat.le_of_ble_eq_true rfl) ?_
      refine r_alloc rfl (by exact List.cons_ne_nil _ _) rfl ?_
      refine r_storeN rfl rfl (by decide) rfl rfl rfl rfl rfl rfl ?_
      refine r_nil ?_
      refine i_then ?_
      have hbm := nth_mem (xs := f.bins) (k := k.1) (by omega)
      have hsh := hr.ranged.shares _ hbm
      have hhas := hr.ranged.hasR _ hbm
      have hs4 := share_bound hr.ranged (i := k.1) (b := b) (by omega)
      have hm := mul_bound (a := (nth f.bins k.1).has) (c := nth (nth f.bins k.1).shares b) (B := 300) (by omega) hs4
      refine t_draw mixed rfl ?_
      refine mvI rfl ?_
      refine r_field_ptr rfl rfl rfl rfl rfl (by decide) ?_
      refine r_load_ptr rfl rfl (by decide) rfl rfl rfl ?_
      refine r_field_ptr rfl rfl rfl rfl rfl (by decide) ?_
      refine r_load_ptr rfl rfl (by decide) rfl rfl rfl ?_
      refine mvI rfl ?_
      refine r_index_slN rfl rfl rfl rfl rfl rfl (by omega) ?_
      refine r_load_pp rfl rfl rfl rfl ?_
      refine r_mul rfl rfl (by omega) (by omega) ?_
      refine r_add rfl rfl (by omega) (by omega) ?_
      refine asI rfl ?_
      refine r_nil ?_
      refine ⟨by kernel_rfl, ?_⟩
      refine i_block ?_
      refine i_then ?_
      refine t_region ?_
      refine r_add rfl rfl (by omega) (by omega) ?_
      refine mvI rfl ?_
      refine r_nil ?_
      refine i_round (⟨k.1 + 1, by omega⟩) ?_ (by show f.bins.length - (k.1 + 1) < f.bins.length - k.1; omega)
      (refine Ent.mk' ?_ ?_ <;> (repeat' (first | exact allSub_zero | exact allTags_nil | refine allSub_succ' ?_ (Ty.sub_any _) | refine allSub_succ' ?_ (Ty.sub_refl _) | refine allSub_succ' ?_ ?_)))
      all_goals skip
      all_goals exact Ty.sub_int (firstS_succ f b (by omega)).symm
    ·
      refine t_exit ?_
      refine i_then_exit ?_
      refine i_then_exit ?_
      refine i_block_exit rfl ?_
      refine i_then ?_
      refine t_seq ?_
      have hkb : k.1 = f.bins.length := by omega
      refine t_as (s := 7) rfl (Ty.sub_int (show firstS f b k.1 = loadO f l b 0 by rw [hkb]; simp [loadO])) ?_
      refine t_region ?_
      refine mvI rfl ?_
      refine r_buildRowN (E := I64) (xs := [loadO f l b 0]) rfl rfl rfl rfl rfl (by decide) (by decide) (by repeat (first | exact (Parts.nil : Parts _ _ [] _) | (show Parts _ _ ((_, _) :: _) _; apply Parts.one; (· exact (rfl : _ = Ty.int _ _)); (· exact rfl)))) (by exact rfl) rfl rfl ?_
      refine asR rfl ?_
      refine r_nil ?_
      refine i_then ?_
      refine t_seq ?_
      refine t_seq ?_
      refine t_region ?_
      refine mvS rfl ?_
      refine r_len rfl rfl rfl ?_
      refine mvI rfl ?_
      refine r_nil ?_
      refine i_then ?_
      refine t_block ?_
      refine t_loop (fun (j : {j : Nat // j ≤ l.length}) => live [(1, Ty.sl I64 l), (2, Ty.int .i64 (b : Nat)), (3, Ty.pp (flrTys f)), (7, Ty.int .i64 (loadO f l b j.1)), (10, Ty.row I64 3 34 ((loadsO f l b).take (j.1 + 1))), (34, Ty.sl I64 l), (35, Ty.int .i64 l.length), (36, Ty.int .i64 (j.1 : Nat))] []) (fun j => l.length - j.1) (⟨0, by omega⟩) ?_ fun j => ?_
      · (refine Ent.mk' ?_ ?_ <;> (repeat' (first | exact allSub_zero | exact allTags_nil | refine allSub_succ' ?_ (Ty.sub_any _) | refine allSub_succ' ?_ (Ty.sub_refl _) | refine allSub_succ' ?_ ?_)))
        all_goals exact Ty.sub_row (loadsO_one f l b).symm
      ·
        have hj := j.2
        have hlb := loadO_bound hr hl b j.1
        refine t_seq ?_
        refine t_region ?_
        refine r_bin rfl rfl rfl ?_
        refine r_nil ?_
        refine i_then ?_
        refine t_seq ?_
        refine t_cond_dec rfl (fun hc2 => ?_) (fun hc2 => ?_)
        ·
          refine t_skip ?_
          refine i_then ?_
          refine t_seq ?_
          refine t_block ?_
          refine t_seq ?_
          refine t_region ?_
          refine r_index_slN rfl rfl rfl rfl rfl rfl (by omega) ?_
          refine r_load_pp rfl rfl rfl rfl ?_
          refine asI rfl ?_
          refine r_nil ?_
          refine i_then ?_
          refine t_seq ?_
          have hx := hl _ (nth_mem (xs := l) (k := j.1) (by omega))
          obtain ⟨t, ht⟩ := Int.eq_ofNat_of_zero_le hx.1
          have htn : (nth l j.1).toNat = t := by omega
          have ht8 : t < f.turnings.length := by omega
          have hab := addS_abs hr ht8 b
          have hnm := hr.named _ (nth_mem ht8)
          have hsa := hr.ranged.sacksR _ (nth_mem ht8)
          have hs1 := share_abs hr hnm.1 b
          have hs2 := share_abs hr hnm.2 b
          refine t_as (s := 12) rfl (Ty.sub_int ht) ?_
          refine t_region ?_
          refine r_field_pp rfl rfl rfl rfl rfl (by decide) ?_
          refine r_load_pp rfl rfl rfl rfl ?_
          refine mvI rfl ?_
          refine r_index_slN rfl rfl rfl rfl rfl rfl (by omega) ?_
          refine r_load_ppN rfl rfl rfl (by exact Nat.le_of_ble_eq_true rfl) ?_
          refine r_alloc rfl (by exact List.cons_ne_nil _ _) rfl ?_
          refine r_storeN rfl rfl (by decide) rfl rfl rfl rfl rfl rfl ?_
          refine r_nil ?_
          refine i_then ?_
          refine t_seq ?_
          refine t_draw mixed rfl ?_
          refine mvI rfl ?_
          refine r_field_ptr rfl rfl rfl rfl rfl (by decide) ?_
          refine r_load_ptr rfl rfl (by decide) rfl rfl rfl ?_
          refine r_load_ppN rfl rfl rfl (by exact Nat.le_of_ble_eq_true rfl) ?_
          refine r_field_ptr rfl rfl rfl rfl rfl (by decide) ?_
          refine r_load_ptr rfl rfl (by decide) rfl rfl rfl ?_
          refine mvI rfl ?_
          refine r_call (c_share5 f hr (nth f.turnings t).dst hnm.2 b hbb) rfl rfl rfl rfl rfl ?_
          refine r_load_ppN rfl rfl rfl (by exact Nat.le_of_ble_eq_true rfl) ?_
          refine r_field_ptr rfl rfl rfl rfl rfl (by decide) ?_
          refine r_load_ptr rfl rfl (by decide) rfl rfl rfl ?_
          refine mvI rfl ?_
          refine r_call (c_share5 f hr (nth f.turnings t).src hnm.1 b hbb) rfl rfl rfl rfl rfl ?_
          refine r_sub rfl rfl (by omega) (by omega) ?_
          refine r_mul rfl rfl (by have := hab; unfold addS at this; omega) (by have := hab; unfold addS at this; omega) ?_
          refine r_add rfl rfl (by have := hab; unfold addS at this; omega) (by have := hab; unfold addS at this; omega) ?_
          refine asI rfl ?_
          refine r_nil ?_
          refine ⟨by kernel_rfl, ?_⟩
          refine i_then ?_
          refine t_region ?_
          refine mvR rfl ?_
          refine mvI rfl ?_
          refine r_buildSlice (E := I64) (xs := [_]) rfl rfl rfl rfl rfl (by decide) (by decide) (by repeat (first | exact (Parts.nil : Parts _ _ [] _) | (show Parts _ _ ((_, _) :: _) _; apply Parts.one; (· exact (rfl : _ = Ty.int _ _)); (· exact rfl)))) (by exact rfl) rfl ?_
          refine r_append rfl rfl (by decide) rfl rfl rfl rfl rfl rfl (by decide) (by (simp <;> omega)) (by (simp <;> omega)) ?_
          refine asR rfl ?_
          refine r_nil ?_
          refine i_block ?_
          refine i_then ?_
          refine t_region ?_
          refine r_add rfl rfl (by omega) (by omega) ?_
          refine mvI rfl ?_
          refine r_nil ?_
          refine i_round (⟨j.1 + 1, by omega⟩) ?_ (by show l.length - (j.1 + 1) < l.length - j.1; omega)
          (refine Ent.mk' ?_ ?_ <;> (repeat' (first | exact allSub_zero | exact allTags_nil | refine allSub_succ' ?_ (Ty.sub_any _) | refine allSub_succ' ?_ (Ty.sub_refl _) | refine allSub_succ' ?_ ?_)))
          all_goals skip
          all_goals first | exact Ty.sub_int (loadO_step f (by omega) b htn).symm | exact Ty.sub_row (loadsO_row f (by omega) b htn)
        ·
          refine t_exit ?_
          refine i_then_exit ?_
          refine i_then_exit ?_
          refine i_block_exit rfl ?_
          refine i_then ?_
          refine t_seq ?_
          refine t_region ?_
          refine mvR rfl ?_
          refine asR rfl ?_
          refine r_nil ?_
          refine i_then ?_
          refine t_ret ?_
          refine i_rp1 rfl rfl ?_
          all_goals skip
          exact ret_row_eq (by decide) (by rw [List.take_of_length_le (by rw [loadsO_len]; omega)])
end Go.Proofs.YtifgbnbkimcchaaGreat

namespace Go.Proofs.YtifgbnbkimcchaaGreat
open Go Go.T
def readyL (f : Flr) (done : List Int) (t : Int) : Bool := !decide (t ∈ done) && !f.rules.any fun r => decide (r.nxt = t) && !decide (r.fst ∈ done)
def stepOk (f : Flr) (l : List Int) (i : Nat) : Bool := decide (0 ≤ nth l i) && decide (nth l i < f.turnings.length) && readyL f (l.take i) (nth l i)
def allowedL (f : Flr) (l : List Int) : Bool := ((List.range l.length).all (stepOk f l)) && decide (l.length = f.turnings.length)
theorem all_range_end {q : Nat → Bool} {n k : Nat} (hk : n ≤ k) (h : ∀ j, j < k → q j = true) : (List.range n).all q = true :=
  List.all_eq_true.2 fun j hj => h j (by have := List.mem_range.1 hj; omega)
theorem all_range_no {q : Nat → Bool} {n k : Nat} (hk : k < n) (h : q k = false) : (List.range n).all q = false := by
  rw [Bool.eq_false_iff]; intro hx
  have := List.all_eq_true.1 hx k (List.mem_range.2 hk)
  rw [h] at this; cases this
theorem ready_rules {f : Flr} (h : checkP f = 0) {done : List Int} {s : Nat} (hr : Rep f done s) (t : Int) : readyL f done t = readyM f done t := by
  unfold readyL readyM
  congr 1
  rw [Bool.eq_iff_iff, Bool.not_eq_true', List.any_eq_false, List.all_eq_true]
  have hru := (check_right h).ruled
  constructor
  · intro hall a ha
    obtain ⟨hin, hl⟩ := mem_aheadM.1 ha
    refine decide_eq_true ?_
    have hclosed : ∀ a c, Lead f.rules a c → c ∈ done → a ∈ done := fun a c hl hc => by
      obtain ⟨h1, h2⟩ := lead_named hru hl
      obtain ⟨n, rfl⟩ := Int.eq_ofNat_of_zero_le h1.1
      obtain ⟨m, rfl⟩ := Int.eq_ofNat_of_zero_le h2.1
      exact (hr.bit n).1 ((whole_iff h hr.lt).1 hr.whole m n ((hr.bit m).2 hc) hl)
    have hdir : ∀ r ∈ f.rules, r.nxt = t → r.fst ∈ done := fun r hrm hn => by
      have := hall r hrm
      simp only [hn, decide_true, Bool.true_and, Bool.not_eq_true', decide_eq_false_iff_not, Classical.not_not] at this
      exact Classical.byContradiction fun hx => by simp [hn, hx] at this
    cases hl with
    | one hrm => exact hdir _ hrm rfl
    | step hrm hl => exact hclosed a _ hl (hdir _ hrm rfl)
  · intro hall r hrm
    simp only [Bool.and_eq_true, decide_eq_true_eq, Bool.not_eq_true', decide_eq_false_iff_not, not_and, Classical.not_not]
    intro hn
    have hl : Lead f.rules r.fst t := by rw [← hn]; exact .one hrm
    exact of_decide_eq_true (hall _ (mem_aheadM.2 ⟨(lead_named hru hl).1, hl⟩))
theorem order_of_ready {f : Flr} {l : List Int} {s : Nat} (hr : Rep f l s) (hlen : l.length = f.turnings.length) (hready : ∀ i, i < l.length → readyM f (l.take i) (nth l i) = true) : orderM f l = 0 := by
  unfold orderM
  rw [if_neg (by omega)]
  have h1 : (l.any fun x => decide (x < 0 ∨ x ≥ f.turnings.length)) = false := by
    rw [List.any_eq_false]
    intro x hx
    have := hr.rng x hx
    simp; omega
  rw [h1, if_neg (by simp)]
  have h2 : ((iot l.length).any fun i => decide (nth l i.toNat ∈ l.take i.toNat)) = false := by
    rw [List.any_eq_false]
    intro x hx
    have := mem_iot.1 hx
    have := hready x.toNat (by omega)
    unfold readyM at this
    rw [Bool.and_eq_true, Bool.not_eq_true', decide_eq_false_iff_not] at this
    simpa using this.1
  rw [h2, if_neg (by simp)]
  have h3 : ((iot l.length).any fun i => (aheadM f (nth l i.toNat)).any fun y => !decide (y ∈ l.take i.toNat)) = false := by
    rw [List.any_eq_false]
    intro x hx
    have := mem_iot.1 hx
    have := hready x.toNat (by omega)
    unfold readyM at this
    rw [Bool.and_eq_true, List.all_eq_true] at this
    rw [Bool.not_eq_true, List.any_eq_false]
    intro y hy
    simpa using this.2 y hy
  rw [h3, if_neg (by simp)]
theorem steps_rep {f : Flr} (h : checkP f = 0) {l : List Int} (hl : ∀ i, i < l.length → stepOk f l i = true) : ∀ k, k ≤ l.length → Rep f (l.take k) (setOf (l.take k)) ∧ ∀ i, i < k → readyM f (l.take i) (nth l i) = true
  | 0, _ => ⟨by rw [List.take_zero]; exact rep_nil h, fun i hi => by omega⟩
  | k + 1, hk => by
    obtain ⟨ih, ih2⟩ := steps_rep h hl k (by omega)
    have hs := hl k (by omega)
    simp only [stepOk, Bool.and_eq_true, decide_eq_true_eq] at hs
    obtain ⟨⟨h0, h1⟩, h2⟩ := hs
    obtain ⟨t, e⟩ := Int.eq_ofNat_of_zero_le h0
    rw [ready_rules h ih] at h2
    have h3 := (ready_iff h ih (show t < f.turnings.length by omega)).1 (by rw [← e]; exact h2)
    have := rep_add h ih (show t < f.turnings.length by omega) h3.1 h3.2
    refine ⟨by rw [setOf_succ (by omega), take_nth (by omega), e]; exact this, fun i hi => ?_⟩
    rcases Nat.lt_or_ge i k with hx | hx
    · exact ih2 i hx
    · rw [show i = k by omega]; exact h2
theorem allowed_law {f : Flr} (h : checkP f = 0) (l : List Int) : allowedL f l = decide (orderM f l = 0) := by
  rw [Bool.eq_iff_iff, decide_eq_true_eq]
  unfold allowedL
  rw [Bool.and_eq_true, List.all_eq_true, decide_eq_true_eq]
  constructor
  · rintro ⟨hall, hlen⟩
    obtain ⟨hr, hrd⟩ := steps_rep h (fun i hi => hall i (List.mem_range.2 hi)) l.length (Nat.le_refl _)
    rw [List.take_length] at hr
    exact order_of_ready hr hlen hrd
  · intro ho
    obtain ⟨h1, h2, h3, h4⟩ := order_spec ho
    refine ⟨fun i hi => ?_, h1⟩
    have hi := List.mem_range.1 hi
    have hx := h2 _ (nth_mem hi)
    unfold stepOk
    rw [ready_rules h (order_rep h ho i (by omega))]
    simp only [Bool.and_eq_true, decide_eq_true_eq]
    refine ⟨hx, ?_⟩
    unfold readyM
    rw [Bool.and_eq_true, Bool.not_eq_true', decide_eq_false_iff_not, List.all_eq_true]
    exact ⟨h3 i hi, fun a ha => decide_eq_true (h4 i hi a ha)⟩
theorem step_no {f : Flr} {l : List Int} {k : Nat} (h : ((decide (nth l k < 0) || decide ((f.turnings.length : Int) ≤ nth l k)) || !readyL f (l.take k) (nth l k)) = true) : stepOk f l k = false := by
  unfold stepOk
  simp only [Bool.or_eq_true, decide_eq_true_eq, Bool.not_eq_true'] at h
  rw [Bool.eq_false_iff]
  intro hx
  simp only [Bool.and_eq_true, decide_eq_true_eq] at hx
  rcases h with (h | h) | h
  · omega
  · omega
  · rw [h] at hx; cases hx.2
theorem step_yes {f : Flr} {l : List Int} {k : Nat} (h : ((decide (nth l k < 0) || decide ((f.turnings.length : Int) ≤ nth l k)) || !readyL f (l.take k) (nth l k)) = false) : stepOk f l k = true := by
  unfold stepOk
  simp only [Bool.or_eq_false_iff, decide_eq_false_iff_not, Bool.not_eq_false'] at h
  simp only [Bool.and_eq_true, decide_eq_true_eq]
  exact ⟨⟨by omega, by omega⟩, h.2⟩
def readyLs (f : Flr) (done : List Int) (k : Nat) : List Int := (iot k).filter (readyL f done)
theorem readyLs_succ (f : Flr) (done : List Int) (k : Nat) : readyLs f done (k + 1) = readyLs f done k ++ if readyL f done (k : Int) = true then [(k : Int)] else [] := by
  unfold readyLs
  rw [iot_succ, List.filter_append]
  congr 1
  by_cases h : readyL f done (k : Int) = true
  · rw [if_pos h, List.filter_cons_of_pos h]; rfl
  · rw [if_neg h, List.filter_cons_of_neg h]; rfl
def pickL (f : Flr) (st : List Int × Sk) : Int := nth (readyLs f st.1 f.turnings.length) (skBelow st.2 (readyLs f st.1 f.turnings.length).length).toNat
def triedUp (f : Flr) (s : Sk) : Nat → List Int × Sk
  | 0 => ([], s)
  | k + 1 => ((triedUp f s k).1 ++ [pickL f (triedUp f s k)], skNext (triedUp f s k).2)
theorem readyLs_some {f : Flr} (h : checkP f = 0) {done : List Int} {s : Nat} (hr : Rep f done s) (hlt : done.length < f.turnings.length) : 0 < (readyLs f done f.turnings.length).length := by
  obtain ⟨t, ht, hb, hw⟩ := some_ready h hr hlt
  refine List.length_pos_of_mem (a := (t : Int)) (List.mem_filter.2 ⟨mem_iot.2 (by omega), ?_⟩)
  rw [ready_rules h hr]
  exact (ready_iff h hr ht).2 ⟨hb, hw⟩
theorem pick_mem {f : Flr} {st : List Int × Sk} (h : 0 < (readyLs f st.1 f.turnings.length).length) : pickL f st ∈ readyLs f st.1 f.turnings.length := by
  have hb := skBelow_bound st.2 (readyLs f st.1 f.turnings.length).length
  exact nth_mem (by omega)
theorem tried_spec {f : Flr} (h : checkP f = 0) (s : Sk) : ∀ k, k ≤ f.turnings.length → (triedUp f s k).1.length = k ∧ (triedUp f s k).2.taken = s.taken + k ∧ (∃ x, Rep f (triedUp f s k).1 x) ∧ ∀ i, i < k → readyM f ((triedUp f s k).1.take i) (nth (triedUp f s k).1 i) = true
  | 0, _ => ⟨rfl, by simp [triedUp], ⟨0, rep_nil h⟩, fun i hi => by omega⟩
  | k + 1, hk => by
    obtain ⟨h1, h2, ⟨x, hr⟩, h4⟩ := tried_spec h s k (by omega)
    have hm := pick_mem (readyLs_some h hr (by omega))
    obtain ⟨hm1, hm2⟩ := List.mem_filter.1 hm
    obtain ⟨hm3, hm4⟩ := mem_iot.1 hm1
    obtain ⟨t, e⟩ := Int.eq_ofNat_of_zero_le hm3
    rw [ready_rules h hr, e] at hm2
    have hrd := (ready_iff h hr (show t < f.turnings.length by omega)).1 hm2
    refine ⟨?_, ?_, ⟨x ||| 1 <<< t, ?_⟩, fun i hi => ?_⟩
    · show (_ ++ [_]).length = _
      rw [List.length_append, h1]; rfl
    · show (skNext _).taken = _
      rw [skNext_taken, h2]; omega
    · show Rep f (_ ++ [pickL f (triedUp f s k)]) _
      rw [e]
      exact rep_add h hr (by omega) hrd.1 hrd.2
    · show readyM f ((_ ++ [pickL f (triedUp f s k)]).take i) (nth (_ ++ [pickL f (triedUp f s k)]) i) = true
      rcases Nat.lt_or_ge i k with hx | hx
      · have e1 : ((triedUp f s k).1 ++ [pickL f (triedUp f s k)]).take i = (triedUp f s k).1.take i := List.take_append_of_le_length (by omega)
        have e2 : nth ((triedUp f s k).1 ++ [pickL f (triedUp f s k)]) i = nth (triedUp f s k).1 i := by
          rw [nth_lt (by simp; omega), nth_lt (by omega), List.getElem_append_left (by omega)]
        rw [e1, e2]; exact h4 i hx
      · have hik : i = k := by omega
        have e1 : ((triedUp f s k).1 ++ [pickL f (triedUp f s k)]).take i = (triedUp f s k).1 := by rw [hik, List.take_append_of_le_length (by omega), List.take_of_length_le (by omega)]
        have e2 : nth ((triedUp f s k).1 ++ [pickL f (triedUp f s k)]) i = pickL f (triedUp f s k) := by
          rw [nth_lt (by simp; omega), List.getElem_append_right (by omega)]; simp
        rw [e1, e2, e]; exact hm2
theorem tried_right {f : Flr} (h : checkP f = 0) (s : Sk) : orderM f (triedUp f s f.turnings.length).1 = 0 := by
  obtain ⟨h1, _, ⟨x, hr⟩, h4⟩ := tried_spec h s f.turnings.length (Nat.le_refl _)
  exact order_of_ready hr h1 (fun i hi => h4 i (by omega))
end Go.Proofs.YtifgbnbkimcchaaGreat

namespace Go.Proofs.YtifgbnbkimcchaaGreat
open Go Go.T
set_option maxHeartbeats 2000000
attribute [local irreducible] dInt dBool dSl dPp dPtr dAgg dTup dClo dAny dEx dStr dGd dCells dVec dVs dRow dOp nth Tri Into TOps Ctr bodyPost Exit.then Exit.inBlock Code.wp Code.wpIn dWhen dPa dPe dAo dArr dMp dPm dMap dCJ CtrG CtrI OpY keepPost iterPost bodyPostM roundQ
set_option maxRecDepth 100000 in
theorem c_ready51 (r : Rul) (done : List Int) (t : Int) : Ctr Tryz.prog 143 [Ty.agg (RulE.tys r), Ty.pp [Ty.int .i64 t], Ty.pp [Ty.sl I64 done]] (Ty.bool (decide (r.nxt = t) && !decide (r.fst ∈ done))) := by
  refine fn_intro Tryz.func143 rfl (by decide) Tryz.ntmps143 (by exact Nat.le_of_ble_eq_true rfl) fun w0 M0 => ?_
  refine t_seq ?_
  refine t_region ?_
  refine r_box_agg rfl ?_
  refine asB rfl ?_
  refine r_nil ?_
  refine i_then ?_
  refine t_seq ?_
  refine t_region ?_
  refine r_field_pp rfl rfl rfl rfl rfl (by decide) ?_
  refine r_load_pp rfl rfl rfl rfl ?_
  refine r_load_pp rfl rfl rfl rfl ?_
  refine r_bin rfl rfl rfl ?_
  refine mvB rfl ?_
  apply r_guard (s := 9) rfl rfl rfl
  · intro hg; apply opT_of; (refine r_load_pp rfl rfl rfl rfl ?_); refine r_nil ?_; exact rfl
  · exact rfl
  · exact rfl
  apply r_guard (s := 9) rfl rfl rfl
  · intro hg; apply opT_of; (refine r_field_pp rfl rfl rfl rfl rfl (by decide) ?_); refine r_nil ?_; exact rfl
  · exact rfl
  · exact rfl
  apply r_guard (s := 9) rfl rfl rfl
  · intro hg; apply opT_strip (s := 11) rfl (by (rw [hg]; rfl)); apply opT_of; (refine r_load_pp rfl rfl rfl rfl ?_); refine r_nil ?_; exact rfl
  · exact rfl
  · exact rfl
  apply r_guard (s := 9) rfl rfl rfl
  · intro hg; apply opT_strip (s := 10) rfl (by (rw [hg]; rfl)); apply opT_strip (s := 12) rfl (by (rw [hg]; rfl)); apply opT_of; (refine r_call (c_Contains_int _ _) rfl rfl rfl rfl rfl ?_); refine r_nil ?_; exact rfl
  · exact rfl
  · exact rfl
  apply r_guard (s := 9) rfl rfl rfl
  · intro hg; apply opT_strip (s := 13) rfl (by (rw [hg]; rfl)); apply opT_of; (refine r_not rfl ?_); refine r_nil ?_; exact rfl
  · exact rfl
  · exact rfl
  refine r_and rfl rfl ?_
  refine asB rfl ?_
  refine r_nil ?_
  refine i_then ?_
  refine t_ret ?_
  refine i_rp1 rfl rfl ?_
  all_goals exact ret_refl rfl rfl
set_option maxRecDepth 100000 in
theorem c_ready5 (f : Flr) (done : List Int) (t : Int) : Ctr Tryz.prog 88 [flrT f, Ty.sl I64 done, Ty.int .i64 t] (Ty.bool (readyL f done t)) := by
  refine fn_intro Tryz.func88 rfl (by decide) Tryz.ntmps88 (by exact Nat.le_of_ble_eq_true rfl) fun w0 M0 => ?_
  refine t_seq ?_
  refine t_region ?_
  refine r_box_agg rfl ?_
  refine r_box_one (by exact (rfl : _ = Ty.sl _ _)) rfl ?_
  refine r_box_one (by exact (rfl : _ = Ty.int _ _)) rfl ?_
  refine asB rfl ?_
  refine r_nil ?_
  refine i_then ?_
  refine t_seq ?_
  refine t_region ?_
  refine r_load_pp rfl rfl rfl rfl ?_
  refine r_load_pp rfl rfl rfl rfl ?_
  refine r_call (c_Contains_int _ _) rfl rfl rfl rfl rfl ?_
  refine r_not rfl ?_
  refine mvB rfl ?_
  apply r_guard (s := 11) rfl rfl rfl
  · intro hg; apply opT_of; (refine r_field_pp rfl rfl rfl rfl rfl (by decide) ?_); refine r_nil ?_; exact rfl
  · exact rfl
  · exact rfl
  apply r_guard (s := 11) rfl rfl rfl
  · intro hg; apply opT_strip (s := 12) rfl (by (rw [hg]; rfl)); apply opT_of; (refine r_load_pp rfl rfl rfl rfl ?_); refine r_nil ?_; exact rfl
  · exact rfl
  · exact rfl
  apply r_guard (s := 11) rfl rfl rfl
  · intro hg; apply opT_of; (refine r_makeFunc rfl ?_); refine r_nil ?_; exact rfl
  · exact rfl
  · exact rfl
  apply r_guard (s := 11) rfl rfl rfl
  · intro hg; apply opT_strip (s := 13) rfl (by (rw [hg]; rfl)); apply opT_strip (s := 14) rfl (by (rw [hg]; rfl)); apply opT_of; (refine r_call (c_ContainsFunc_rul f.rules (Ty.clo _ [Ty.pp [Ty.int .i64 t], Ty.pp [Ty.sl I64 done]]) rfl (fun r => decide (r.nxt = t) && !decide (r.fst ∈ done)) rfl rfl fun r _ => cal_clo (c_ready51 r done t) rfl rfl rfl rfl rfl rfl) rfl rfl rfl rfl rfl ?_); refine r_nil ?_; exact rfl
  · exact rfl
  · exact rfl
  apply r_guard (s := 11) rfl rfl rfl
  · intro hg; apply opT_strip (s := 15) rfl (by (rw [hg]; rfl)); apply opT_of; (refine r_not rfl ?_); refine r_nil ?_; exact rfl
  · exact rfl
  · exact rfl
  refine r_and rfl rfl ?_
  refine asB rfl ?_
  refine r_nil ?_
  refine i_then ?_
  refine t_ret ?_
  refine i_rp1 rfl rfl ?_
  all_goals exact ret_refl rfl rfl
set_option maxRecDepth 100000 in
theorem c_allowed5 (f : Flr) (l : List Int) (hs : f.turnings.length ≤ 1000) : Ctr Tryz.prog 42 [flrT f, Ty.sl I64 l] (Ty.bool (allowedL f l)) := by
  refine fn_intro Tryz.func42 rfl (by decide) Tryz.ntmps42 (by exact Nat.le_of_ble_eq_true rfl) fun w0 M0 => ?_
  refine t_fact (s := 1) rfl rfl sl_len fun hl => ?_
  refine t_seq ?_
  refine t_region ?_
  refine r_box_agg rfl ?_
  refine asB rfl ?_
  refine r_nil ?_
  refine i_then ?_
  refine t_seq ?_
  refine t_seq ?_
  refine t_region ?_
  refine mvS rfl ?_
  refine r_len rfl rfl rfl ?_
  refine mvI rfl ?_
  refine r_nil ?_
  refine i_then ?_
  refine t_block ?_
  refine t_loop (fun (k : {k : Nat // k ≤ l.length ∧ ∀ j, j < k → stepOk f l j = true}) => live [(1, Ty.sl I64 l), (2, Ty.pp (flrTys f)), (7, Ty.sl I64 l), (8, Ty.int .i64 l.length), (9, Ty.int .i64 (k.1 : Nat))] []) (fun k => l.length - k.1) (⟨0, by omega, fun j hj => absurd hj (Nat.not_lt_zero _)⟩) ?_ fun k => ?_
  · (refine Ent.mk' ?_ ?_ <;> (repeat' (first | exact allSub_zero | exact allTags_nil | refine allSub_succ' ?_ (Ty.sub_any _) | refine allSub_succ' ?_ (Ty.sub_refl _))))
  ·
    obtain ⟨hk1, hk2⟩ := k.2
    refine t_seq ?_
    refine t_region ?_
    refine r_bin rfl rfl rfl ?_
    refine r_nil ?_
    refine i_then ?_
    refine t_seq ?_
    refine t_cond_dec rfl (fun hc1 => ?_) (fun hc1 => ?_)
    ·
      refine t_skip ?_
      refine i_then ?_
      refine t_seq ?_
      refine t_block ?_
      refine t_seq ?_
      refine t_region ?_
      refine mvI rfl ?_
      refine r_index_slN rfl rfl rfl rfl rfl rfl (by omega) ?_
      refine r_load_pp rfl rfl rfl rfl ?_
      refine asI rfl ?_
      refine asI rfl ?_
      refine r_nil ?_
      refine i_then ?_
      refine t_seq ?_
      refine t_draw mixed rfl ?_
      refine mvI rfl ?_
      refine r_bin rfl rfl rfl ?_
      refine mvB rfl ?_
      apply r_guard (s := 16) rfl rfl rfl
      · intro hg; apply opT_of; (refine mvI rfl ?_); refine r_nil ?_; exact rfl
      · exact rfl
      · exact rfl
      apply r_guard (s := 16) rfl rfl rfl
      · intro hg; apply opT_of; (refine r_field_pp rfl rfl rfl rfl rfl (by decide) ?_); refine r_nil ?_; exact rfl
      · exact rfl
      · exact rfl
      apply r_guard (s := 16) rfl rfl rfl
      · intro hg; apply opT_strip (s := 18) rfl (by (rw [hg]; rfl)); apply opT_of; (refine r_load_pp rfl rfl rfl rfl ?_); refine r_nil ?_; exact rfl
      · exact rfl
      · exact rfl
      apply r_guard (s := 16) rfl rfl rfl
      · intro hg; apply opT_strip (s := 19) rfl (by (rw [hg]; rfl)); apply opT_of; (refine r_len rfl rfl rfl ?_); refine r_nil ?_; exact rfl
      · exact rfl
      · exact rfl
      apply r_guard (s := 16) rfl rfl rfl
      · intro hg; apply opT_strip (s := 17) rfl (by (rw [hg]; rfl)); apply opT_strip (s := 20) rfl (by (rw [hg]; rfl)); apply opT_of; (refine r_bin rfl rfl rfl ?_); refine r_nil ?_; exact rfl
      · exact rfl
      · exact rfl
      refine r_or rfl rfl ?_
      refine mvB rfl ?_
      apply r_guard (s := 23) rfl rfl rfl
      · intro hg; apply opT_of; (refine r_load_ppN rfl rfl rfl (by exact Nat.le_of_ble_eq_true rfl) ?_); refine r_nil ?_; exact rfl
      · exact rfl
      · exact rfl
      apply r_guard (s := 23) rfl rfl rfl
      · intro hg; apply opT_of; (refine mvS rfl ?_); refine r_nil ?_; exact rfl
      · exact rfl
      · exact rfl
      apply r_guard (s := 23) rfl rfl rfl
      · intro hg; apply opT_of; (refine mvI rfl ?_); refine r_nil ?_; exact rfl
      · exact rfl
      · exact rfl
      apply r_guard (s := 23) rfl rfl rfl
      · intro hg; apply opT_strip (s := 25) rfl (by (rw [hg]; rfl)); apply opT_strip (s := 26) rfl (by (rw [hg]; rfl)); apply opT_of; (refine r_cut_hi rfl rfl rfl rfl rfl rfl (by omega) ?_); refine r_nil ?_; exact rfl
      · exact rfl
      · exact rfl
      apply r_guard (s := 23) rfl rfl rfl
      · intro hg; apply opT_of; (refine mvI rfl ?_); refine r_nil ?_; exact rfl
      · exact rfl
      · exact rfl
      apply r_guard (s := 23) rfl rfl rfl
      · intro hg; apply opT_strip (s := 24) rfl (by (rw [hg]; rfl)); apply opT_strip (s := 27) rfl (by (rw [hg]; rfl)); apply opT_strip (s := 28) rfl (by (rw [hg]; rfl)); apply opT_of; (refine r_call (c_ready5 f _ _) rfl rfl rfl rfl rfl ?_); refine r_nil ?_; exact rfl
      · exact rfl
      · exact rfl
      apply r_guard (s := 23) rfl rfl rfl
      · intro hg; apply opT_strip (s := 29) rfl (by (rw [hg]; rfl)); apply opT_of; (refine r_not rfl ?_); refine r_nil ?_; exact rfl
      · exact rfl
      · exact rfl
      refine r_or rfl rfl ?_
      refine r_nil ?_
      refine ⟨by kernel_rfl, ?_⟩
      refine i_then ?_
      refine t_cond rfl (fun hc2 => ?_) (fun hc2 => ?_)
      ·
        refine t_seq ?_
        refine t_region ?_
        refine asB rfl ?_
        refine r_nil ?_
        refine i_then ?_
        refine t_ret ?_
        refine i_block_ret ?_
        refine i_then_ret ?_
        refine i_then_ret ?_
        refine i_block_ret ?_
        refine i_then_ret ?_
        refine i_rp1 rfl rfl ?_
        all_goals skip
        exact ret_eq rfl rfl (congrArg Ty.bool (by unfold allowedL; rw [all_range_no (k := k.1) (by omega) (step_no hc2), Bool.false_and]))
      ·
        refine t_skip ?_
        refine i_block ?_
        refine i_then ?_
        refine t_region ?_
        refine r_add rfl rfl (by omega) (by omega) ?_
        refine mvI rfl ?_
        refine r_nil ?_
        refine i_round (⟨k.1 + 1, by omega, fun j hj => (Nat.lt_or_ge j k.1).elim (hk2 j) fun h => by rw [show j = k.1 by omega]; exact step_yes hc2⟩) ?_ (by show l.length - (k.1 + 1) < l.length - k.1; omega)
        (refine Ent.mk' ?_ ?_ <;> (repeat' (first | exact allSub_zero | exact allTags_nil | refine allSub_succ' ?_ (Ty.sub_any _) | refine allSub_succ' ?_ (Ty.sub_refl _))))
        all_goals skip
    ·
      refine t_exit ?_
      refine i_then_exit ?_
      refine i_then_exit ?_
      refine i_block_exit rfl ?_
      refine i_then ?_
      refine t_seq ?_
      refine t_region ?_
      refine mvS rfl ?_
      refine r_len rfl rfl rfl ?_
      refine r_field_pp rfl rfl rfl rfl rfl (by decide) ?_
      refine r_load_pp rfl rfl rfl rfl ?_
      refine r_len rfl rfl rfl ?_
      refine r_bin rfl rfl rfl ?_
      refine asB rfl ?_
      refine r_nil ?_
      refine i_then ?_
      refine t_ret ?_
      refine i_rp1 rfl rfl ?_
      all_goals skip
      exact ret_eq rfl rfl (congrArg Ty.bool (by unfold allowedL; rw [all_range_end (k := k.1) (by omega) hk2, Bool.true_and, decide_eq_decide]; omega))
set_option maxRecDepth 100000 in
theorem c_tried5 (f : Flr) (hp : checkP f = 0) (s : Sk) (h : s.Ok 100) : CtrG Tryz.prog 39 [1000] [(1000, Cont.cells 138 (skTys s))] [Ty.ptr 1000 0, flrT f] [(1000, Cont.cells 138 (skTys (triedUp f s f.turnings.length).2))] (Ty.sl I64 (triedUp f s f.turnings.length).1) := by
  refine fnG_intro Tryz.func39 rfl (by decide) Tryz.ntmps39 (by exact Nat.le_of_ble_eq_true rfl) fun w0 M0 => ?_
  have h0 : 0 ≤ s.taken ∧ s.taken + 100 ≤ 4611686018427387904 := h
  have h8 := nt8 hp
  refine t_seq ?_
  refine t_region ?_
  refine r_box_agg rfl ?_
  refine asX rfl ?_
  refine r_nil ?_
  refine i_then ?_
  refine t_seq ?_
  refine t_region ?_
  refine asX rfl ?_
  refine r_nil ?_
  refine i_then ?_
  refine t_seq ?_
  refine t_block ?_
  refine t_loop (fun (k : {k : Nat // k ≤ f.turnings.length}) => live [(0, Ty.ptr 1000 0), (3, Ty.pp (flrTys f)), (5, Ty.row I64 3 42 (triedUp f s k.1).1)] [(1000, Cont.cells 138 (skTys (triedUp f s k.1).2))]) (fun k => f.turnings.length - k.1) (⟨0, by omega⟩) ?_ fun k => ?_
  · (refine Ent.mk' ?_ ?_ <;> (repeat' (first | exact allSub_zero | exact allTags_nil | refine allSub_succ' ?_ (Ty.sub_any _) | refine allSub_succ' ?_ (Ty.sub_refl _) | refine allSub_succ' ?_ Ty.nil_row | refine allTags_cons rfl (Cont.sub_refl _) ?_)))
  ·
    have hk := k.2
    obtain ⟨hs1, hs2, ⟨x, hrep⟩, _⟩ := tried_spec hp s k.1 k.2
    refine t_seq ?_
    refine t_seq ?_
    refine t_region ?_
    refine mvR rfl ?_
    refine r_len_row rfl rfl rfl ?_
    refine r_field_pp rfl rfl rfl rfl rfl (by decide) ?_
    refine r_load_pp rfl rfl rfl rfl ?_
    refine r_len rfl rfl rfl ?_
    refine r_bin rfl rfl rfl ?_
    refine r_nil ?_
    refine i_then ?_
    refine t_cond_dec rfl (fun hc1 => ?_) (fun hc1 => ?_)
    ·
      refine t_skip ?_
      refine i_then ?_
      refine t_block ?_
      refine t_seq ?_
      refine t_region ?_
      refine asX rfl ?_
      refine r_nil ?_
      refine i_then ?_
      refine t_seq ?_
      refine t_seq ?_
      refine t_region ?_
      refine r_field_pp rfl rfl rfl rfl rfl (by decide) ?_
      refine r_load_pp rfl rfl rfl rfl ?_
      refine r_len rfl rfl rfl ?_
      refine mvI rfl ?_
      refine r_nil ?_
      refine i_then ?_
      refine t_block ?_
      refine t_loop (fun (j : {j : Nat // j ≤ f.turnings.length}) => live [(0, Ty.ptr 1000 0), (3, Ty.pp (flrTys f)), (5, Ty.row I64 3 42 (triedUp f s k.1).1), (6, Ty.row I64 3 28 (readyLs f (triedUp f s k.1).1 j.1)), (16, Ty.int .i64 f.turnings.length), (17, Ty.int .i64 (j.1 : Nat))] [(1000, Cont.cells 138 (skTys (triedUp f s k.1).2))]) (fun j => f.turnings.length - j.1) (⟨0, by omega⟩) ?_ fun j => ?_
      · (refine Ent.mk' ?_ ?_ <;> (repeat' (first | exact allSub_zero | exact allTags_nil | refine allSub_succ' ?_ (Ty.sub_any _) | refine allSub_succ' ?_ (Ty.sub_refl _) | refine allSub_succ' ?_ Ty.nil_row | refine allTags_cons rfl (Cont.sub_refl _) ?_)))
      ·
        have hj := j.2
        have hll : (readyLs f (triedUp f s k.1).1 j.1).length ≤ j.1 := by have := List.length_filter_le (readyL f (triedUp f s k.1).1) (iot j.1); rw [iot_len] at this; exact this
        refine t_seq ?_
        refine t_region ?_
        refine r_bin rfl rfl rfl ?_
        refine r_nil ?_
        refine i_then ?_
        refine t_seq ?_
        refine t_cond_dec rfl (fun hc2 => ?_) (fun hc2 => ?_)
        ·
          refine t_skip ?_
          refine i_then ?_
          refine t_seq ?_
          refine t_block ?_
          refine t_seq ?_
          refine t_region ?_
          refine mvI rfl ?_
          refine asI rfl ?_
          refine r_nil ?_
          refine i_then ?_
          refine t_seq ?_
          refine t_region ?_
          refine r_load_ppN rfl rfl rfl (by exact Nat.le_of_ble_eq_true rfl) ?_
          refine mvR rfl ?_
          refine mvI rfl ?_
          refine r_callL [42] (c_ready5 f _ _) rfl (by repeat (first | exact lends_nil | refine lends_cons (lend_pub rfl rfl) ?_ | refine lends_cons (lend_row rfl) ?_)) (by exact plain_bool _) ?_
          refine r_nil ?_
          refine i_then ?_
          refine t_cond rfl (fun hc3 => ?_) (fun hc3 => ?_)
          ·
            refine t_region ?_
            refine mvR rfl ?_
            refine mvI rfl ?_
            refine r_buildSlice (E := I64) (xs := [_]) rfl rfl rfl rfl rfl (by decide) (by decide) (by repeat (first | exact (Parts.nil : Parts _ _ [] _) | (show Parts _ _ ((_, _) :: _) _; apply Parts.one; (· exact (rfl : _ = Ty.int _ _)); (· exact rfl)))) (by exact rfl) rfl ?_
            refine r_append rfl rfl (by decide) rfl rfl rfl rfl rfl rfl (by decide) (by (simp <;> omega)) (by (simp <;> omega)) ?_
            refine asR rfl ?_
            refine r_nil ?_
            refine i_block ?_
            refine i_then ?_
            refine t_region ?_
            refine r_add rfl rfl (by omega) (by omega) ?_
            refine mvI rfl ?_
            refine r_nil ?_
            refine i_round (⟨j.1 + 1, by omega⟩) ?_ (by show f.turnings.length - (j.1 + 1) < f.turnings.length - j.1; omega)
            (refine Ent.mk' ?_ ?_ <;> (repeat' (first | exact allSub_zero | exact allTags_nil | refine allSub_succ' ?_ (Ty.sub_any _) | refine allSub_succ' ?_ (Ty.sub_refl _) | refine allTags_cons rfl (Cont.sub_refl _) ?_ | refine allSub_succ' ?_ ?_)))
            all_goals skip
            all_goals exact Ty.sub_row (by rw [readyLs_succ, if_pos hc3])
          ·
            refine t_skip ?_
            refine i_block ?_
            refine i_then ?_
            refine t_region ?_
            refine r_add rfl rfl (by omega) (by omega) ?_
            refine mvI rfl ?_
            refine r_nil ?_
            refine i_round (⟨j.1 + 1, by omega⟩) ?_ (by show f.turnings.length - (j.1 + 1) < f.turnings.length - j.1; omega)
            (refine Ent.mk' ?_ ?_ <;> (repeat' (first | exact allSub_zero | exact allTags_nil | refine allSub_succ' ?_ (Ty.sub_any _) | refine allSub_succ' ?_ (Ty.sub_refl _) | refine allTags_cons rfl (Cont.sub_refl _) ?_ | refine allSub_succ' ?_ ?_)))
            all_goals skip
            all_goals exact Ty.sub_row (by rw [readyLs_succ, if_neg (Bool.eq_false_iff.1 hc3), List.append_nil])
        ·
          refine t_exit ?_
          refine i_then_exit ?_
          refine i_then_exit ?_
          refine i_block_exit rfl ?_
          refine i_then ?_
          refine t_seq ?_
          refine t_seq ?_
          have hjn : j.1 = f.turnings.length := by omega
          have hpos := readyLs_some hp hrep (by omega)
          refine t_as (s := 6) rfl (Ty.sub_row (congrArg (readyLs f (triedUp f s k.1).1) hjn)) ?_
          refine t_region ?_
          refine mvR rfl ?_
          refine r_len_row rfl rfl rfl ?_
          refine r_bin rfl rfl rfl ?_
          refine r_nil ?_
          refine i_then ?_
          refine t_cond_ff rfl (decide_eq_false (by omega)) ?_
          refine t_skip ?_
          refine i_then ?_
          have hok : (triedUp f s k.1).2.Ok 1 := ⟨by omega, by omega⟩
          have hb := skBelow_bound (triedUp f s k.1).2 (readyLs f (triedUp f s k.1).1 f.turnings.length).length
          refine t_region ?_
          refine mvR rfl ?_
          refine mvR rfl ?_
          refine mvO rfl ?_
          refine mvR rfl ?_
          refine r_len_row rfl rfl rfl ?_
          refine r_callG [(1000, 1000)] [] [(1000, Cont.cells 138 (skTys (skNext (triedUp f s k.1).2)))] (c_Below (triedUp f s k.1).2 hok _) rfl rfl (by repeat (first | exact cv_nil | refine cv_cons ?_ ?_ | exact cv_ptr List.mem_cons_self | exact cv_pub rfl rfl)) (pre_cons (a := 1000) (b := 1000) (by exact List.mem_cons_self) rfl (cc_cells_eq (by exact List.mem_cons_self) rfl rfl rfl) pre_nil) (post_cons (a := 1000) (b := 1000) (by exact List.mem_cons_self) rfl (cc_cells_eq (by exact List.mem_cons_self) rfl rfl rfl) post_nil) (cv_pub rfl rfl) ?_
          refine r_index_rowI rfl rfl rfl rfl rfl rfl (by omega) (by omega) ?_
          refine r_load_op rfl rfl rfl rfl ?_
          refine r_buildSlice (E := I64) (xs := [_]) rfl rfl rfl rfl rfl (by decide) (by decide) (by repeat (first | exact (Parts.nil : Parts _ _ [] _) | (show Parts _ _ ((_, _) :: _) _; apply Parts.one; (· exact (rfl : _ = Ty.int _ _)); (· exact rfl)))) (by exact rfl) rfl ?_
          refine r_append rfl rfl (by decide) rfl rfl rfl rfl rfl rfl (by decide) (by (simp <;> omega)) (by (simp <;> omega)) ?_
          refine asR rfl ?_
          refine r_nil ?_
          refine i_block ?_
          refine i_round (⟨k.1 + 1, by omega⟩) ?_ (by show f.turnings.length - (k.1 + 1) < f.turnings.length - k.1; omega)
          (refine Ent.mk' ?_ ?_ <;> (repeat' (first | exact allSub_zero | exact allTags_nil | refine allSub_succ' ?_ (Ty.sub_any _) | refine allSub_succ' ?_ (Ty.sub_refl _) | refine allTags_cons rfl (Cont.sub_refl _) ?_)))
          all_goals skip
    ·
      refine t_exit ?_
      refine i_then_exit ?_
      refine i_then_exit ?_
      refine i_block_exit rfl ?_
      refine i_then ?_
      refine t_seq ?_
      obtain ⟨k, hk⟩ := k
      obtain rfl : k = f.turnings.length := by have h1 : ¬ ((triedUp f s k).1.length : Int) < (f.turnings.length : Int) := hc1; have h2 : k ≤ f.turnings.length := hk; have h3 : (triedUp f s k).1.length = k := hs1; omega
      refine t_region ?_
      refine mvR rfl ?_
      refine asR rfl ?_
      refine r_nil ?_
      refine i_then ?_
      refine t_ret ?_
      refine g_ret1 [1000] rfl rfl (by decide) (by repeat (first | exact rc_nil | refine rc_cons rfl (cc_cells_eq (by decide) rfl rfl rfl) ?_)) ?_
      all_goals exact rg_row (by decide) rfl rfl
      all_goals exact rg_row (by decide) rfl rfl
end Go.Proofs.YtifgbnbkimcchaaGreat

namespace Go.Proofs.YtifgbnbkimcchaaGreat
open Go Go.T
theorem nodup_not {l : List Int} (h : l.Nodup) {i : Nat} (hi : i < l.length) : nth l i ∉ l.take i := by
  have h1 : (l.take (i + 1)).Nodup := h.sublist (List.take_sublist _ _)
  rw [take_nth hi, List.nodup_append] at h1
  exact fun hx => h1.2.2 _ hx _ (List.mem_singleton.2 rfl) rfl
theorem nodup_few {l : List Int} {n : Nat} (hn : n ≤ 8) (h : l.Nodup) (hr : ∀ x ∈ l, 0 ≤ x ∧ x < (n : Int)) : l.length ≤ n := by
  have h1 := (pop_setOf hn hr l.length (Nat.le_refl _)).2.2 fun i hi => nodup_not h hi
  have h2 := setOf_lt hr l.length (Nat.le_refl _)
  have := List.all_eq_true.1 (List.all_eq_true.1 pop_lt_all n (List.mem_range.2 (by omega))) _ (List.mem_range.2 h2)
  rw [Nat.ble_eq, h1] at this; exact this
structure Bfs (f : Flr) (b : Int) (i : Nat) (met : List Int) : Prop where
  has : b ∈ met
  nodup : met.Nodup
  rng : ∀ x ∈ met, 0 ≤ x ∧ x < (f.turnings.length : Int)
  sound : ∀ x ∈ met, x = b ∨ Lead f.rules x b
  closed : ∀ j, j < i → ∀ r ∈ f.rules, r.nxt = nth met j → r.fst ∈ met
  le : i ≤ met.length
theorem bfs_start {f : Flr} {b : Int} (hb : 0 ≤ b ∧ b < f.turnings.length) : Bfs f b 0 [b] :=
  ⟨by simp, by simp, fun x hx => by rw [List.mem_singleton.1 hx]; exact hb, fun x hx => .inl (List.mem_singleton.1 hx), fun j hj => by omega, by simp⟩
structure BfsIn (f : Flr) (b : Int) (i : Nat) (k : Nat) (met : List Int) : Prop where
  bfs : Bfs f b i met
  lt : i < met.length
  done : ∀ r ∈ f.rules.take k, r.nxt = nth met i → r.fst ∈ met
theorem bfs_in {f : Flr} {b : Int} {i : Nat} {met : List Int} (h : Bfs f b i met) (hi : i < met.length) : BfsIn f b i 0 met := ⟨h, hi, fun r hr => by simp at hr⟩
theorem nth_app {l : List Int} {x : Int} {j : Nat} (h : j < l.length) : nth (l ++ [x]) j = nth l j := by
  rw [nth_lt (by simp; omega), nth_lt h, List.getElem_append_left h]
theorem bfsIn_add {f : Flr} (hru : f.Ruled) {b : Int} {i k : Nat} {met : List Int} (h : BfsIn f b i k met) (hk : k < f.rules.length) (h1 : (nth f.rules k).nxt = nth met i) (h2 : (nth f.rules k).fst ∉ met) : BfsIn f b i (k + 1) (met ++ [(nth f.rules k).fst]) := by
  have hm := nth_mem (xs := f.rules) hk
  have hr := (hru.2 _ hm).1
  have hl : (nth f.rules k).fst = b ∨ Lead f.rules (nth f.rules k).fst b := by
    have h3 : Lead f.rules (nth f.rules k).fst (nth met i) := by rw [← h1]; exact .one hm
    rcases h.bfs.sound _ (nth_mem h.lt) with h4 | h4
    · rw [h4] at h3; exact .inr h3
    · exact .inr (Lead.trans h3 h4)
  refine ⟨⟨List.mem_append_left _ h.bfs.has, ?_, fun x hx => ?_, fun x hx => ?_, fun j hj r hr' hn => ?_, by simp; have := h.lt; omega⟩, by simp; have := h.lt; omega, fun r hr' hn => ?_⟩
  · rw [List.nodup_append]
    refine ⟨h.bfs.nodup, by simp, fun x hx y hy => ?_⟩
    rw [List.mem_singleton.1 hy]; rintro rfl; exact h2 hx
  · rcases List.mem_append.1 hx with hx | hx
    · exact h.bfs.rng x hx
    · rw [List.mem_singleton.1 hx]; exact hr
  · rcases List.mem_append.1 hx with hx | hx
    · exact h.bfs.sound x hx
    · rw [List.mem_singleton.1 hx]; exact hl
  · rw [nth_app (by have := h.lt; omega)] at hn
    exact List.mem_append_left _ (h.bfs.closed j hj r hr' hn)
  · rw [nth_app h.lt] at hn
    rw [take_nth hk] at hr'
    rcases List.mem_append.1 hr' with hx | hx
    · exact List.mem_append_left _ (h.done r hx hn)
    · rw [List.mem_singleton.1 hx]; simp
theorem bfsIn_skip {f : Flr} {b : Int} {i k : Nat} {met : List Int} (h : BfsIn f b i k met) (hk : k < f.rules.length) (h1 : (nth f.rules k).nxt = nth met i → (nth f.rules k).fst ∈ met) : BfsIn f b i (k + 1) met := by
  refine ⟨h.bfs, h.lt, fun r hr' hn => ?_⟩
  rw [take_nth hk] at hr'
  rcases List.mem_append.1 hr' with hx | hx
  · exact h.done r hx hn
  · rw [List.mem_singleton.1 hx] at hn ⊢; exact h1 hn
def bfsT (f : Flr) (i k : Nat) (met : List Int) : List Int := if (decide ((nth f.rules k).nxt = nth met i) && !decide ((nth f.rules k).fst ∈ met)) = true then met ++ [(nth f.rules k).fst] else met
theorem bfsIn_step {f : Flr} (hru : f.Ruled) {b : Int} {i k : Nat} {met : List Int} (h : BfsIn f b i k met) (hk : k < f.rules.length) : BfsIn f b i (k + 1) (bfsT f i k met) := by
  unfold bfsT
  split
  · rename_i hc
    simp only [Bool.and_eq_true, decide_eq_true_eq, Bool.not_eq_true', decide_eq_false_iff_not] at hc
    exact bfsIn_add hru h hk hc.1 hc.2
  · rename_i hc
    simp only [Bool.and_eq_true, decide_eq_true_eq, Bool.not_eq_true', decide_eq_false_iff_not, not_and, Classical.not_not] at hc
    exact bfsIn_skip h hk hc
theorem bfs_next {f : Flr} {b : Int} {i k : Nat} {met : List Int} (h : BfsIn f b i k met) (hk : f.rules.length ≤ k) : Bfs f b (i + 1) met := by
  refine ⟨h.bfs.has, h.bfs.nodup, h.bfs.rng, h.bfs.sound, fun j hj r hr hn => ?_, by have := h.lt; omega⟩
  rcases Nat.lt_or_ge j i with hx | hx
  · exact h.bfs.closed j hx r hr hn
  · have e : j = i := by omega
    rw [e] at hn
    exact h.done r (by rw [List.take_of_length_le hk]; exact hr) hn
theorem closed_lead {f : Flr} {met : List Int} (hcl : ∀ r ∈ f.rules, r.nxt ∈ met → r.fst ∈ met) {a c : Int} (hl : Lead f.rules a c) : c ∈ met → a ∈ met := by
  induction hl with
  | one hr => exact hcl _ hr
  | step hr _ ih => exact fun hm => ih (hcl _ hr hm)
theorem bfs_end {f : Flr} {a b : Int} {i : Nat} {met : List Int} (h : Bfs f b i met) (hi : met.length ≤ i) (ha : 0 ≤ a ∧ a < f.turnings.length) : (!decide (a = b) && decide (a ∈ met)) = (!decide (a = b) && decide (a ∈ aheadM f b)) := by
  by_cases hab : a = b
  · rw [decide_eq_true hab]; rfl
  · congr 1
    rw [decide_eq_decide, mem_aheadM]
    constructor
    · intro hm
      rcases h.sound a hm with hx | hx
      · exact absurd hx hab
      · exact ⟨ha, hx⟩
    · rintro ⟨_, hl⟩
      refine closed_lead (fun r hr hm => ?_) hl h.has
      obtain ⟨j, hj, e⟩ := List.getElem_of_mem hm
      exact h.closed j (by omega) r hr (by rw [nth_lt hj, e])
end Go.Proofs.YtifgbnbkimcchaaGreat

namespace Go.Proofs.YtifgbnbkimcchaaGreat
open Go Go.T
set_option maxHeartbeats 2000000
attribute [local irreducible] dInt dBool dSl dPp dPtr dAgg dTup dClo dAny dEx dStr dGd dCells dVec dVs dRow dOp nth Tri Into TOps Ctr bodyPost Exit.then Exit.inBlock Code.wp Code.wpIn dWhen dPa dPe dAo dArr dMp dPm dMap dCJ CtrG CtrI OpY keepPost iterPost bodyPostM roundQ
set_option maxRecDepth 100000 in
theorem c_ahead5 (f : Flr) (hr : f.Right) (a b : Int) (ha : 0 ≤ a ∧ a < f.turnings.length) (hb : 0 ≤ b ∧ b < f.turnings.length) : Ctr Tryz.prog 45 [flrT f, Ty.int .i64 a, Ty.int .i64 b] (Ty.bool (!decide (a = b) && decide (a ∈ aheadM f b))) := by
  refine fn_intro Tryz.func45 rfl (by decide) Tryz.ntmps45 (by exact Nat.le_of_ble_eq_true rfl) fun w0 M0 => ?_
  have h8 := hr.ruled.1
  have h16 := hr.ranged.rules
  refine t_seq ?_
  refine t_region ?_
  refine r_box_agg rfl ?_
  refine asB rfl ?_
  refine r_nil ?_
  refine i_then ?_
  refine t_seq ?_
  refine t_region ?_
  refine mvI rfl ?_
  refine r_buildRowN (E := I64) (xs := [b]) rfl rfl rfl rfl rfl (by decide) (by decide) (by repeat (first | exact (Parts.nil : Parts _ _ [] _) | (show Parts _ _ ((_, _) :: _) _; apply Parts.one; (· exact (rfl : _ = Ty.int _ _)); (· exact rfl)))) (by exact rfl) rfl rfl ?_
  refine asR rfl ?_
  refine r_nil ?_
  refine i_then ?_
  refine t_seq ?_
  refine t_seq ?_
  refine t_region ?_
  refine asI rfl ?_
  refine r_nil ?_
  refine i_then ?_
  refine t_block ?_
  refine t_loop (fun (x : {x : Nat × List Int // Bfs f b x.1 x.2}) => live [(1, Ty.int .i64 a), (2, Ty.int .i64 b), (3, Ty.pp (flrTys f)), (7, Ty.row I64 3 13 x.1.2), (8, Ty.int .i64 (x.1.1 : Nat))] []) (fun x => f.turnings.length - x.1.1) (⟨(0, [b]), bfs_start hb⟩) ?_ fun x => ?_
  · (refine Ent.mk' ?_ ?_ <;> (repeat' (first | exact allSub_zero | exact allTags_nil | refine allSub_succ' ?_ (Ty.sub_any _) | refine allSub_succ' ?_ (Ty.sub_refl _))))
  ·
    have hx := x.2
    have hfew := nodup_few h8 hx.nodup hx.rng
    have hxle := hx.le
    refine t_seq ?_
    refine t_seq ?_
    refine t_region ?_
    refine mvI rfl ?_
    refine mvR rfl ?_
    refine r_len_row rfl rfl rfl ?_
    refine r_bin rfl rfl rfl ?_
    refine r_nil ?_
    refine i_then ?_
    refine t_cond_dec rfl (fun hc1 => ?_) (fun hc1 => ?_)
    ·
      refine t_skip ?_
      refine i_then ?_
      refine t_seq ?_
      refine t_block ?_
      refine t_seq ?_
      have hxlt : x.1.1 < x.1.2.length := by omega
      refine t_region ?_
      refine r_field_pp rfl rfl rfl rfl rfl (by decide) ?_
      refine r_load_pp rfl rfl rfl rfl ?_
      refine r_len rfl rfl rfl ?_
      refine mvI rfl ?_
      refine r_nil ?_
      refine i_then ?_
      refine t_block ?_
      refine t_loop (fun (y : {y : Nat × List Int // y.1 ≤ f.rules.length ∧ BfsIn f b x.1.1 y.1 y.2}) => live [(1, Ty.int .i64 a), (2, Ty.int .i64 b), (3, Ty.pp (flrTys f)), (7, Ty.row I64 3 13 y.1.2), (8, Ty.int .i64 (x.1.1 : Nat)), (20, Ty.sl RulE f.rules), (21, Ty.int .i64 f.rules.length), (22, Ty.int .i64 (y.1.1 : Nat))] []) (fun y => f.rules.length - y.1.1) (⟨(0, x.1.2), Nat.zero_le _, bfs_in hx hxlt⟩) ?_ fun y => ?_
      · (refine Ent.mk' ?_ ?_ <;> (repeat' (first | exact allSub_zero | exact allTags_nil | refine allSub_succ' ?_ (Ty.sub_any _) | refine allSub_succ' ?_ (Ty.sub_refl _))))
      ·
        have hy1 := y.2.1
        have hy := y.2.2
        have hylt := hy.lt
        have hfy := nodup_few h8 hy.bfs.nodup hy.bfs.rng
        refine t_seq ?_
        refine t_region ?_
        refine r_bin rfl rfl rfl ?_
        refine r_nil ?_
        refine i_then ?_
        refine t_seq ?_
        refine t_cond_dec rfl (fun hc2 => ?_) (fun hc2 => ?_)
        ·
          refine t_skip ?_
          refine i_then ?_
          refine t_seq ?_
          refine t_block ?_
          refine t_seq ?_
          refine t_region ?_
          refine r_index_slN rfl rfl rfl rfl rfl rfl (by omega) ?_
          refine r_load_ppN rfl rfl rfl (by exact Nat.le_of_ble_eq_true rfl) ?_
          refine r_alloc rfl (by exact List.cons_ne_nil _ _) rfl ?_
          refine r_storeN rfl rfl (by decide) rfl rfl rfl rfl rfl rfl ?_
          refine r_nil ?_
          refine i_then ?_
          refine t_seq ?_
          refine t_draw mixed rfl ?_
          refine r_field_ptr rfl rfl rfl rfl rfl (by decide) ?_
          refine r_load_ptr rfl rfl (by decide) rfl rfl rfl ?_
          refine mvR rfl ?_
          refine mvI rfl ?_
          refine r_index_rowN rfl rfl rfl rfl rfl rfl (by omega) ?_
          refine r_load_op rfl rfl rfl rfl ?_
          refine r_bin rfl rfl rfl ?_
          refine mvB rfl ?_
          apply r_guard (s := 33) rfl rfl rfl
          · intro hg; apply opT_of; (refine mvR rfl ?_); refine r_nil ?_; exact rfl
          · exact rfl
          · exact rfl
          apply r_guard (s := 33) rfl rfl rfl
          · intro hg; apply opT_of; (refine r_field_ptr rfl rfl rfl rfl rfl (by decide) ?_); refine r_nil ?_; exact rfl
          · exact rfl
          · exact rfl
          apply r_guard (s := 33) rfl rfl rfl
          · intro hg; apply opT_strip (s := 35) rfl (by (rw [hg]; rfl)); apply opT_of; (refine r_load_ptr rfl rfl (by decide) rfl rfl rfl ?_); refine r_nil ?_; exact rfl
          · exact rfl
          · exact rfl
          apply r_guard (s := 33) rfl rfl rfl
          · intro hg; apply opT_strip (s := 34) rfl (by (rw [hg]; rfl)); apply opT_strip (s := 36) rfl (by (rw [hg]; rfl)); apply opT_of; (refine r_callL [13] (c_Contains_int _ _) rfl (by repeat (first | exact lends_nil | refine lends_cons (lend_pub rfl rfl) ?_ | refine lends_cons (lend_row rfl) ?_)) (by exact plain_bool _) ?_); refine r_nil ?_; exact rfl
          · exact rfl
          · exact rfl
          apply r_guard (s := 33) rfl rfl rfl
          · intro hg; apply opT_strip (s := 37) rfl (by (rw [hg]; rfl)); apply opT_of; (refine r_not rfl ?_); refine r_nil ?_; exact rfl
          · exact rfl
          · exact rfl
          refine r_and rfl rfl ?_
          refine r_nil ?_
          refine ⟨by kernel_rfl, ?_⟩
          refine i_then ?_
          refine t_cond rfl (fun hc3 => ?_) (fun hc3 => ?_)
          ·
            refine t_region ?_
            refine mvR rfl ?_
            refine r_field_ptr rfl rfl rfl rfl rfl (by decide) ?_
            refine r_load_ptr rfl rfl (by decide) rfl rfl rfl ?_
            refine r_buildSlice (E := I64) (xs := [_]) rfl rfl rfl rfl rfl (by decide) (by decide) (by repeat (first | exact (Parts.nil : Parts _ _ [] _) | (show Parts _ _ ((_, _) :: _) _; apply Parts.one; (· exact (rfl : _ = Ty.int _ _)); (· exact rfl)))) (by exact rfl) rfl ?_
            refine r_append rfl rfl (by decide) rfl rfl rfl rfl rfl rfl (by decide) (by (simp <;> omega)) (by (simp <;> omega)) ?_
            refine asR rfl ?_
            refine r_nil ?_
            refine i_block ?_
            refine i_then ?_
            refine t_region ?_
            refine r_add rfl rfl (by omega) (by omega) ?_
            refine mvI rfl ?_
            refine r_nil ?_
            refine i_round (⟨(y.1.1 + 1, bfsT f x.1.1 y.1.1 y.1.2), by show y.1.1 + 1 ≤ _; omega, bfsIn_step hr.ruled hy (by omega)⟩) ?_ (by show f.rules.length - (y.1.1 + 1) < f.rules.length - y.1.1; omega)
            (refine Ent.mk' ?_ ?_ <;> (repeat' (first | exact allSub_zero | exact allTags_nil | refine allSub_succ' ?_ (Ty.sub_any _) | refine allSub_succ' ?_ (Ty.sub_refl _) | refine allSub_succ' ?_ ?_)))
            all_goals skip
            all_goals exact Ty.sub_row (show _ = bfsT f x.1.1 y.1.1 y.1.2 from (if_pos hc3).symm)
          ·
            refine t_skip ?_
            refine i_block ?_
            refine i_then ?_
            refine t_region ?_
            refine r_add rfl rfl (by omega) (by omega) ?_
            refine mvI rfl ?_
            refine r_nil ?_
            refine i_round (⟨(y.1.1 + 1, bfsT f x.1.1 y.1.1 y.1.2), by show y.1.1 + 1 ≤ _; omega, bfsIn_step hr.ruled hy (by omega)⟩) ?_ (by show f.rules.length - (y.1.1 + 1) < f.rules.length - y.1.1; omega)
            (refine Ent.mk' ?_ ?_ <;> (repeat' (first | exact allSub_zero | exact allTags_nil | refine allSub_succ' ?_ (Ty.sub_any _) | refine allSub_succ' ?_ (Ty.sub_refl _) | refine allSub_succ' ?_ ?_)))
            all_goals skip
            all_goals exact Ty.sub_row (show _ = bfsT f x.1.1 y.1.1 y.1.2 from (if_neg (Bool.eq_false_iff.1 hc3)).symm)
        ·
          refine t_exit ?_
          refine i_then_exit ?_
          refine i_then_exit ?_
          refine i_block_exit rfl ?_
          refine i_block ?_
          refine i_then ?_
          refine t_region ?_
          refine mvI rfl ?_
          refine r_add rfl rfl (by omega) (by omega) ?_
          refine asI rfl ?_
          refine r_nil ?_
          refine i_round (⟨(x.1.1 + 1, y.1.2), bfs_next y.2.2 (by omega)⟩) ?_ (by show f.turnings.length - (x.1.1 + 1) < f.turnings.length - x.1.1; omega)
          (refine Ent.mk' ?_ ?_ <;> (repeat' (first | exact allSub_zero | exact allTags_nil | refine allSub_succ' ?_ (Ty.sub_any _) | refine allSub_succ' ?_ (Ty.sub_refl _))))
          all_goals skip
    ·
      refine t_exit ?_
      refine i_then_exit ?_
      refine i_then_exit ?_
      refine i_block_exit rfl ?_
      refine i_then ?_
      refine t_seq ?_
      refine t_region ?_
      refine mvI rfl ?_
      refine mvI rfl ?_
      refine r_bin rfl rfl rfl ?_
      refine mvB rfl ?_
      apply r_guard (s := 49) rfl rfl rfl
      · intro hg; apply opT_of; (refine mvR rfl ?_); refine r_nil ?_; exact rfl
      · exact rfl
      · exact rfl
      apply r_guard (s := 49) rfl rfl rfl
      · intro hg; apply opT_of; (refine mvI rfl ?_); refine r_nil ?_; exact rfl
      · exact rfl
      · exact rfl
      apply r_guard (s := 49) rfl rfl rfl
      · intro hg; apply opT_strip (s := 50) rfl (by (rw [hg]; rfl)); apply opT_strip (s := 51) rfl (by (rw [hg]; rfl)); apply opT_of; (refine r_callL [13] (c_Contains_int _ _) rfl (by repeat (first | exact lends_nil | refine lends_cons (lend_pub rfl rfl) ?_ | refine lends_cons (lend_row rfl) ?_)) (by exact plain_bool _) ?_); refine r_nil ?_; exact rfl
      · exact rfl
      · exact rfl
      refine r_and rfl rfl ?_
      refine asB rfl ?_
      refine r_nil ?_
      refine i_then ?_
      refine t_ret ?_
      refine i_rp1 rfl rfl ?_
      all_goals skip
      all_goals exact ret_eq rfl rfl (congrArg Ty.bool (bfs_end hx (by omega) ha))
end Go.Proofs.YtifgbnbkimcchaaGreat

namespace Go.T
open Go
section
variable {P : Program} {fr : Fr} {A : As} {c : Code} {Q : Exit → Act → World → Prop}
def PubTy (A : As) (tg : Nat) (t0 t : Ty) : Prop := ∀ w M v, Wf w M → (∀ x ∈ A.tags, x.2.den w M x.1) → t0.den w M v → t.den w (pubTag M tg) v
def AllTy (A : As) (tg : Nat) : List Ty → List Ty → Prop
  | [], [] => True
  | a :: l, b :: l' => PubTy A tg a b ∧ AllTy A tg l l'
  | _, _ => False
def PubC (A : As) (tg : Nat) (x : Nat × Cont) : Prop := ∀ w M, Wf w M → (∀ x ∈ A.tags, x.2.den w M x.1) → x.2.den w (pubTag M tg) x.1
def AllC (A : As) (tg : Nat) : List (Nat × Cont) → Prop
  | [] => True
  | x :: l => PubC A tg x ∧ AllC A tg l
theorem pubTy_same {tg : Nat} {t : Ty} (h : disj t.deps [tg] = true) : PubTy A tg t t := fun w M _ _ _ hd =>
  t.mono (pubTag_le (w := w)) (disj_spec h) (fun _ _ h => by cases h) hd
theorem pubTy_row {α : Type} {E : El α} {T tg : Nat} {xs : List α} : PubTy A tg (.row E T tg xs) (.sl E xs) := fun w M v wf _ hd =>
  row_sl wf hd (fun b hb => by simp [pubTag, hb]) (fun b hb => by simp [pubTag, hb])
theorem pubTy_vs {α : Type} {E : El α} {T tg n : Nat} {xs : List α} (hc : A.tag tg = some (.vec E T xs)) (hn : xs.length = n) (h1 : 1 ≤ tg) : PubTy A tg (.vs tg n) (.sl E xs) := fun w M v wf ht hd => by
  have hv : dVec E T xs w M tg := ht _ (tag_mem hc)
  subst hn
  rcases hd with ⟨h0, rfl⟩ | ⟨b, cc, hb, e, hn1, hn2⟩
  · exact ⟨none, 0, by rw [h0], by omega, by simp [maxLen], fun h => absurd h (by omega)⟩
  refine ⟨_, cc, e, hn1, hn2, fun _ => ⟨b, 0, rfl, by simp [pubTag, hb], wf.lt b _ hb, fun i t hi => ?_⟩⟩
  obtain ⟨u, hu, hdu⟩ := vec_cell wf h1 hb hv hi
  refine ⟨u, by rw [Nat.zero_add]; exact hu, t.mono (pubTag_le (w := w)) ?_ ?_ hdu⟩
  · intro u hu
    have : u ∈ depsOf (xs.flatMap E.tys) := List.mem_flatMap.2 ⟨t, List.mem_of_getElem? hi, hu⟩
    rw [E.flat_deps] at this; cases this
  · intro u _ h; cases h
theorem allTy_dens {tg : Nat} {w : World} {M : Tags} (wf : Wf w M) (ht : ∀ x ∈ A.tags, x.2.den w M x.1) : ∀ {l l' : List Ty} {vs : List Value}, AllTy A tg l l' → dens w M l vs → dens w (pubTag M tg) l' vs
  | [], [], [], _, _ => trivial
  | _ :: _, _ :: _, _ :: _, ⟨h1, h2⟩, ⟨h3, h4⟩ => ⟨h1 _ _ _ wf ht h3, allTy_dens wf ht h2 h4⟩
theorem pubC_cells {tg o T : Nat} {l l' : List Ty} (ho : A.tag o = some (.cells T l)) (hne : Nat.beq o tg = false) (h : AllTy A tg l l') : PubC A tg (o, .cells T l') := fun w M wf ht => by
  obtain ⟨b, cs, hb, hh, hd⟩ := ht _ (tag_mem ho)
  refine ⟨b, cs, ?_, hh, allTy_dens wf ht h hd⟩
  unfold pubTag
  rw [if_neg]
  · exact hb
  · rw [hb]; intro e; injection e with e; subst e; simp at hne
theorem allC_mem {tg : Nat} {w : World} {M : Tags} (wf : Wf w M) (ht : ∀ x ∈ A.tags, x.2.den w M x.1) : ∀ {lt : List (Nat × Cont)}, AllC A tg lt → ∀ {x : Nat × Cont}, x ∈ lt → x.2.den w (pubTag M tg) x.1
  | y :: _, ⟨h1, h2⟩, x, hx => by
    rcases List.mem_cons.1 hx with rfl | hx
    · exact h1 w M wf ht
    · exact allC_mem wf ht h2 hx
theorem t_pubC {tg : Nat} (l : List (Nat × Ty)) (lt : List (Nat × Cont)) (h1 : 1 ≤ tg) (hp : fr.pass.contains tg = false) (hl : AllPub A tg l) (hlt : AllC A tg lt) (h : Tri P fr c ⟨(A.pub tg l).slots, lt ++ (A.pub tg l).tags⟩ Q) : Tri P fr c A Q := fun a w ⟨M, ok, hsl, ht⟩ => by
  have le : Le (· ∈ ([] : List Nat)) (· ∈ [tg]) w M w (pubTag M tg) := pubTag_le
  refine h a w ⟨pubTag M tg, ⟨pubTag_wf ok.wf, Fr.base_step ok.base (by intro _ h; cases h) (fun t ht => by simp only [List.mem_singleton] at ht; subst ht; exact ⟨h1, by simpa using hp⟩) le, ok.size, ok.defers.step (by intro _ h; cases h) (fun t ht => by simp only [List.mem_singleton] at ht; subst ht; exact h1) le⟩, fun i hi => ?_, fun x hx => ?_⟩
  · have base : (killSlots [] [tg] A.slots i).den w (pubTag M tg) (a.tmps.getD i undef) := by
      rcases killSlots_spec [] [tg] A.slots i with ⟨e, hdj⟩ | ⟨_, e⟩
      · rw [e]; exact (A.slots i).mono le (safe_spec hdj).1 (safe_spec hdj).2 (hsl i hi)
      · rw [e]; trivial
    show (setL l (killSlots [] [tg] A.slots) i).den _ _ _
    clear h
    induction l with
    | nil => exact base
    | cons x l ih =>
      obtain ⟨d, t⟩ := x
      unfold setL
      cases hb : Nat.beq i d with
      | false => simp only [cond_false]; exact ih hl.2
      | true =>
        have : i = d := Nat.eq_of_beq_eq_true hb
        subst this
        simp only [cond_true]
        exact hl.1 w M _ ok.wf ht (hsl i hi)
  · rcases List.mem_append.1 (show x ∈ lt ++ (A.pub tg l).tags from hx) with hx | hx
    · exact allC_mem ok.wf ht hlt hx
    · exact killTags_den le hx fun y hy _ => ht y hy
end
section
open Go.RowKit
variable {P : Program} {A : As} {fn : Func} {n : Nat} {w0 : World} {M0 : Tags} {F : List Nat} {post : List (Nat × Cont)} [T : Tab P]
theorem g_rcell (L : List Nat) {tm ty tg Tb : Nat} {l : List Ty} {ti : TI} {res : Ty} (hr : fn.results = #[.cell tm ty]) (ht : Nat.blt tm n = true) (hx : A.slots tm = .ptr tg 0) (hc : A.tag tg = some (.cells Tb l)) (h1 : 1 ≤ tg) (hT : T.tab[ty]? = some ti) (ha : ti.k.agg = true) (hl : l.length = ti.size)
    (hL : ∀ t ∈ F, t ∈ L) (hp : RetCs A L post) (hs : RetG L (.agg l) res) :
    Into ⟨n, w0, M0, F, .plain⟩ A (bodyPost P fn (keepPost F post w0 M0 res) .ret) := by
  intro a w ⟨M, ok, hsl, htg⟩
  have hd := hsl tm (by simpa using ht)
  rw [hx] at hd
  obtain ⟨b, hb, e⟩ := hd
  obtain ⟨b', cs, hb', hh, hds⟩ := htg _ (tag_mem hc)
  obtain ⟨u, rfl⟩ : ∃ u, tg = u + 1 := ⟨tg - 1, by omega⟩
  have := ok.wf.inj b b' u hb hb'
  subst this
  have hlen := dens_len hds
  have hload := run_loadN (P := P) hT ha (w := w) (b := b) (off := 0) (cs := cs.toList) (by rw [hlen, hl]) (fun j v hj => by simpa [World.cell?, hh] using hj)
  have hload' : (loadVar ty ⟨b, 0, none⟩).run P w = .ok (.agg cs) w := by simpa [Instr.loadAt, Instr.sureAddr] using hload
  refine ⟨ok.nodefers (by simp), .agg cs, ?_, _, pubG L M, rfl, pubG_wf ok.wf, base_pubG hL ok.base, hs _ _ _ ok.wf ⟨cs, rfl, hds⟩, rc_get ok.wf htg hp⟩
  have e' : a.tmps.getD tm undef = .pointer (some ⟨b, 0, none⟩) := e
  have e'' : a.tmps[tm]?.getD undef = .pointer (some ⟨b, 0, none⟩) := by rw [← Array.getD_eq_getD_getElem?]; exact e'
  simp [results, hr, e'', asAddr, hload']
end
end Go.T

namespace Go.Proofs.YtifgbnbkimcchaaGreat
open Go Go.T
theorem sum_set_int {l : List Int} : ∀ {i : Nat}, i < l.length → ∀ v : Int, (l.set i v).sum = l.sum - nth l i + v := by
  induction l with
  | nil => intro i h; simp at h
  | cons x l ih =>
    intro i h v
    cases i with
    | zero => simp [nth]; omega
    | succ i =>
      have := ih (i := i) (by simpa using h) v
      simp only [List.set_cons_succ, List.sum_cons, this]
      have : nth (x :: l) (i + 1) = nth l i := rfl
      omega
theorem le_sum_int {l : List Int} (h : ∀ x ∈ l, 0 ≤ x) : 0 ≤ l.sum ∧ ∀ x ∈ l, x ≤ l.sum := by
  induction l with
  | nil => simp
  | cons y l ih =>
    have h1 := ih fun x hx => h x (List.mem_cons_of_mem _ hx)
    have h2 := h y List.mem_cons_self
    refine ⟨by rw [List.sum_cons]; omega, fun x hx => ?_⟩
    rw [List.sum_cons]
    rcases List.mem_cons.1 hx with rfl | hx
    · omega
    · have := h1.2 x hx; omega
theorem mem_nth_of {l : List Int} {P : Int → Prop} (h : ∀ j, j < l.length → P (nth l j)) : ∀ x ∈ l, P x := fun x hx => by
  obtain ⟨i, hi, rfl⟩ := List.getElem_of_mem hx
  have := h i hi
  rwa [nth_lt hi] at this
def shUp (n : Nat) (s : Sk) : Nat → List Int × Sk
  | 0 => (List.replicate n 0, s)
  | k + 1 => ((shUp n s k).1.set (skBelow (shUp n s k).2 n).toNat (nth (shUp n s k).1 (skBelow (shUp n s k).2 n).toNat + 1), skNext (shUp n s k).2)
theorem below_in {s : Sk} {n : Nat} (hn : 1 ≤ n) : 0 ≤ skBelow s n ∧ skBelow s n < n := by
  have := skBelow_bound s n; omega
theorem sh_spec {n : Nat} (hn : 1 ≤ n) (s : Sk) : ∀ k, (shUp n s k).1.length = n ∧ (shUp n s k).1.sum = k ∧ (∀ j, j < n → 0 ≤ nth (shUp n s k).1 j) ∧ (shUp n s k).2.taken = s.taken + k
  | 0 => ⟨by simp [shUp], by simp [shUp], fun j hj => by simp [shUp, nth, hj], by simp [shUp]⟩
  | k + 1 => by
    obtain ⟨h1, h2, h3, h4⟩ := sh_spec hn s k
    have hb := below_in (s := (shUp n s k).2) hn
    refine ⟨?_, ?_, fun j hj => ?_, ?_⟩
    · show (List.set _ _ _).length = _
      rw [List.length_set, h1]
    · show (List.set _ _ _).sum = _
      rw [sum_set_int (by omega), h2]; omega
    · show 0 ≤ nth (List.set _ _ _) j
      have := h3 j hj
      have := h3 (skBelow (shUp n s k).2 n).toNat (by omega)
      rw [nth_set_int]; split <;> omega
    · show (skNext _).taken = _
      rw [skNext_taken, h4]; omega
def bearUp (sh : List Int) (has : Int) (bears : List Int) : Nat → List Int
  | 0 => bears
  | k + 1 => (bearUp sh has bears k).set k (nth (bearUp sh has bears k) k + nth sh k * has)
theorem bear_spec (sh : List Int) (has : Int) (bears : List Int) : ∀ k, (bearUp sh has bears k).length = bears.length ∧ ∀ j, j < bears.length → nth (bearUp sh has bears k) j = nth bears j + if j < k then nth sh j * has else 0
  | 0 => ⟨rfl, fun j _ => by simp [bearUp]⟩
  | k + 1 => by
    obtain ⟨h1, h2⟩ := bear_spec sh has bears k
    refine ⟨by show (List.set _ _ _).length = _; rw [List.length_set, h1], fun j hj => ?_⟩
    show nth (List.set _ _ _) j = _
    rw [nth_set_int]
    by_cases e : k = j
    · subst e
      rw [if_pos ⟨rfl, by omega⟩, h2 k hj, if_neg (by omega), if_pos (by omega)]; omega
    · rw [if_neg (fun h => e h.1), h2 j hj]
      by_cases hjk : j < k
      · rw [if_pos hjk, if_pos (by omega)]
      · rw [if_neg hjk, if_neg (by omega)]
structure Mk where
  bears : List Int
  bins : List Bin
  left : List Int
  sk : Sk
def mkBin (n : Nat) (p : Mk) : Bin := ⟨skBelow p.sk 60, (shUp n (skNext p.sk) 4).1⟩
def binsUp (n : Nat) (s : Sk) : Nat → Mk
  | 0 => ⟨List.replicate n 0, [], [], s⟩
  | k + 1 => ⟨bearUp (mkBin n (binsUp n s k)).shares (mkBin n (binsUp n s k)).has (binsUp n s k).bears n, (binsUp n s k).bins ++ [mkBin n (binsUp n s k)], (binsUp n s k).left ++ [(mkBin n (binsUp n s k)).has], (shUp n (skNext (binsUp n s k).sk) 4).2⟩
structure BinOk (n : Nat) (b : Bin) : Prop where
  has : 0 ≤ b.has ∧ b.has ≤ 59
  len : b.shares.length = n
  sum : b.shares.sum = 4
  rng : ∀ j, j < n → 0 ≤ nth b.shares j ∧ nth b.shares j ≤ 4
theorem mkBin_ok {n : Nat} (hn : 1 ≤ n) (p : Mk) : BinOk n (mkBin n p) := by
  obtain ⟨h1, h2, h3, _⟩ := sh_spec hn (skNext p.sk) 4
  have hb := skBelow_bound p.sk 60
  have h5 : ∀ x ∈ (shUp n (skNext p.sk) 4).1, 0 ≤ x := mem_nth_of fun j hj => h3 j (by omega)
  have h6 := (le_sum_int h5).2
  refine ⟨⟨hb.1, ?_⟩, h1, h2, fun j hj => ⟨h3 j hj, ?_⟩⟩
  · show skBelow p.sk 60 ≤ 59
    omega
  · have := h6 _ (nth_mem (show j < _ by omega))
    rw [h2] at this
    exact this
structure MkOk (n k : Nat) (s : Sk) (p : Mk) : Prop where
  bears : p.bears.length = n
  bearsR : ∀ j, j < n → 0 ≤ nth p.bears j ∧ nth p.bears j ≤ 236 * k
  bins : p.bins.length = k
  binOk : ∀ b ∈ p.bins, BinOk n b
  left : p.left = p.bins.map Bin.has
  taken : p.sk.taken = s.taken + 5 * k
theorem bins_spec {n : Nat} (hn : 1 ≤ n) (s : Sk) : ∀ k, MkOk n k s (binsUp n s k)
  | 0 => ⟨by simp [binsUp], fun j hj => by simp [binsUp, nth, hj], rfl, fun b hb => by simp [binsUp] at hb, rfl, by simp [binsUp]⟩
  | k + 1 => by
    have h := bins_spec hn s k
    have hb := mkBin_ok hn (binsUp n s k)
    have hu := bear_spec (mkBin n (binsUp n s k)).shares (mkBin n (binsUp n s k)).has (binsUp n s k).bears n
    refine ⟨?_, fun j hj => ?_, ?_, fun b hb' => ?_, ?_, ?_⟩
    · exact hu.1.trans h.bears
    · show 0 ≤ nth (bearUp _ _ _ _) j ∧ nth (bearUp _ _ _ _) j ≤ _
      rw [hu.2 j (by rw [h.bears]; exact hj), if_pos hj]
      have h1 := h.bearsR j hj
      have h2 := hb.rng j hj
      have h3 := hb.has
      have h4 : 0 ≤ nth (mkBin n (binsUp n s k)).shares j * (mkBin n (binsUp n s k)).has := Int.mul_nonneg h2.1 h3.1
      have h5 : nth (mkBin n (binsUp n s k)).shares j * (mkBin n (binsUp n s k)).has ≤ 4 * 59 := Int.mul_le_mul h2.2 h3.2 h3.1 (by omega)
      omega
    · show (_ ++ [_]).length = _
      rw [List.length_append, h.bins]; rfl
    · rcases List.mem_append.1 hb' with hb' | hb'
      · exact h.binOk b hb'
      · rw [List.mem_singleton.1 hb']; exact hb
    · show _ ++ [_] = List.map _ (_ ++ [_])
      rw [List.map_append, h.left]; rfl
    · show (shUp _ _ _).2.taken = _
      rw [(sh_spec hn _ 4).2.2.2, skNext_taken, h.taken]; omega
def upOne (xs : List Int) (s : Sk) (k : Nat) : List Int := xs.set k (nth xs k + skBelow s 90)
def downOne (ys : List Int) (k : Nat) : List Int := ys.set k (max 0 (nth ys k - 60))
def upsUp (xs : List Int) (s : Sk) : Nat → List Int × Sk
  | 0 => (xs, s)
  | k + 1 => (if skRare (skNext (upsUp xs s k).2) 9 then downOne (upOne (upsUp xs s k).1 (upsUp xs s k).2 k) k else upOne (upsUp xs s k).1 (upsUp xs s k).2 k, skNext (skNext (upsUp xs s k).2))
theorem ups_spec (xs : List Int) (s : Sk) (hx : ∀ j, j < xs.length → 0 ≤ nth xs j) : ∀ k, (upsUp xs s k).1.length = xs.length ∧ (∀ j, j < xs.length → 0 ≤ nth (upsUp xs s k).1 j ∧ nth (upsUp xs s k).1 j ≤ nth xs j + if j < k then 90 else 0) ∧ (upsUp xs s k).2.taken = s.taken + 2 * k
  | 0 => ⟨rfl, fun j hj => by have := hx j hj; simp [upsUp]; omega, by simp [upsUp]⟩
  | k + 1 => by
    obtain ⟨h1, h2, h3⟩ := ups_spec xs s hx k
    have hb := skBelow_bound (upsUp xs s k).2 90
    have hy : ∀ j, j < xs.length → 0 ≤ nth (upOne (upsUp xs s k).1 (upsUp xs s k).2 k) j ∧ nth (upOne (upsUp xs s k).1 (upsUp xs s k).2 k) j ≤ nth xs j + if j < k + 1 then 90 else 0 := fun j hj => by
      have h4 := h2 j hj
      rw [upOne, nth_set_int]
      by_cases e : k = j
      · subst e
        rw [if_neg (by omega)] at h4
        rw [if_pos ⟨rfl, by omega⟩, if_pos (by omega)]; omega
      · rw [if_neg (fun h => e h.1)]
        by_cases hjk : j < k
        · rw [if_pos hjk] at h4; rw [if_pos (by omega)]; exact h4
        · rw [if_neg hjk] at h4; rw [if_neg (by omega)]; exact h4
    have hl : (upOne (upsUp xs s k).1 (upsUp xs s k).2 k).length = xs.length := by rw [upOne, List.length_set, h1]
    refine ⟨?_, fun j hj => ?_, ?_⟩
    · show (if _ then _ else _ : List Int).length = _
      split
      · rw [downOne, List.length_set, hl]
      · exact hl
    · show 0 ≤ nth (if _ then _ else _ : List Int) j ∧ nth (if _ then _ else _ : List Int) j ≤ _
      have h4 := hy j hj
      split
      · rw [downOne, nth_set_int]
        split
        · rename_i e
          obtain ⟨rfl, _⟩ := e
          omega
        · exact h4
      · exact h4
    · show (skNext (skNext _)).taken = _
      rw [skNext_taken, skNext_taken, h3]; omega
end Go.Proofs.YtifgbnbkimcchaaGreat

namespace Go.Proofs.YtifgbnbkimcchaaGreat
open Go Go.T
structure Tk where
  left : List Int
  trn : List Trn
  sk : Sk
def srcOf (left : List Int) (a : Int) : Int := if a ≠ -1 ∧ nth left a.toNat = 0 then -1 else a
def dstOf (m : Nat) (a b : Int) : Int := if a = b then modM (a + 1) m else b
def sacksOf (left : List Int) (a n : Int) : Int := if a ≠ -1 then min n (nth left a.toNat) else n
def leftOf (left : List Int) (a n : Int) : List Int := if a ≠ -1 then left.set a.toNat (nth left a.toNat - n) else left
def tkSrc (m : Nat) (p : Tk) : Int := srcOf p.left (skAmong p.sk (-1) ((m : Int) - 1))
def tkDst (m : Nat) (p : Tk) : Int := dstOf m (tkSrc m p) (skAmong (skNext p.sk) (-1) ((m : Int) - 1))
def tkSacks (m : Nat) (p : Tk) : Int := sacksOf p.left (tkSrc m p) (skAmong (skNext (skNext p.sk)) 1 20)
def mkTrn (m : Nat) (p : Tk) : Trn := ⟨tkSrc m p, tkDst m p, tkSacks m p⟩
def trnsUp (m : Nat) (left : List Int) (s : Sk) : Nat → Tk
  | 0 => ⟨left, [], s⟩
  | k + 1 => ⟨leftOf (trnsUp m left s k).left (tkSrc m (trnsUp m left s k)) (tkSacks m (trnsUp m left s k)), (trnsUp m left s k).trn ++ [mkTrn m (trnsUp m left s k)], skNext (skNext (skNext (trnsUp m left s k).sk))⟩
def tookL (ts : List Trn) (i : Int) : Int := (ts.map fun t => if t.src = i then t.sacks else 0).sum
structure TrnOk (m : Nat) (t : Trn) : Prop where
  src : -1 ≤ t.src ∧ t.src < m
  dst : -1 ≤ t.dst ∧ t.dst < m
  ne : t.src ≠ t.dst
  sacks : 1 ≤ t.sacks ∧ t.sacks ≤ 20
structure TkOk (m k : Nat) (l0 : List Int) (s : Sk) (p : Tk) : Prop where
  left : p.left.length = m
  pos : ∀ j, j < m → 0 ≤ nth p.left j
  took : ∀ j, j < m → nth p.left j + tookL p.trn j = nth l0 j
  trn : p.trn.length = k
  trnOk : ∀ t ∈ p.trn, TrnOk m t
  taken : p.sk.taken = s.taken + 3 * k
theorem among_in {s : Sk} {lo hi : Int} (h : lo ≤ hi) : lo ≤ skAmong s lo hi ∧ skAmong s lo hi ≤ hi := by
  have := skBelow_bound s (hi - lo + 1)
  unfold skAmong; omega
theorem mod_next {m : Nat} (hm : 2 ≤ m) {a : Int} (h : -1 ≤ a ∧ a < m) : 0 ≤ modM (a + 1) m ∧ modM (a + 1) m < m ∧ modM (a + 1) m ≠ a := by
  unfold modM
  have h1 := Int.emod_nonneg (a + 1) (show (m : Int) ≠ 0 by omega)
  rw [if_neg (by omega), Int.tmod_eq_emod_of_nonneg (show 0 ≤ a + 1 by omega), Int.tmod_eq_emod_of_nonneg (show 0 ≤ (a + 1) % (m : Int) + m by omega), Int.add_emod_right, Int.emod_emod]
  by_cases e : a + 1 = m
  · rw [e, Int.emod_self]; omega
  · rw [Int.emod_eq_of_lt (by omega) (by omega)]; omega
theorem src_in {m : Nat} (hm : 2 ≤ m) (p : Tk) : -1 ≤ tkSrc m p ∧ tkSrc m p < m ∧ (tkSrc m p = -1 ∨ nth p.left (tkSrc m p).toNat ≠ 0) := by
  have h := among_in (s := p.sk) (show (-1 : Int) ≤ (m : Int) - 1 by omega)
  unfold tkSrc srcOf
  split
  · omega
  · rename_i hn
    by_cases e : skAmong p.sk (-1) ((m : Int) - 1) = -1
    · exact ⟨h.1, by omega, .inl e⟩
    · exact ⟨h.1, by omega, .inr fun h0 => hn ⟨e, h0⟩⟩
theorem mkTrn_ok {m : Nat} (hm : 2 ≤ m) {p : Tk} (hp : ∀ j, j < m → 0 ≤ nth p.left j) : TrnOk m (mkTrn m p) := by
  have h1 := src_in hm p
  have h2 := among_in (s := skNext p.sk) (show (-1 : Int) ≤ (m : Int) - 1 by omega)
  have h3 := among_in (s := skNext (skNext p.sk)) (show (1 : Int) ≤ 20 by omega)
  have h4 := mod_next hm ⟨h1.1, h1.2.1⟩
  have h5 : (-1 ≤ tkDst m p ∧ tkDst m p < m) ∧ tkSrc m p ≠ tkDst m p := by
    unfold tkDst dstOf
    split
    · exact ⟨by omega, fun e => h4.2.2 e.symm⟩
    · exact ⟨by omega, by assumption⟩
  refine ⟨⟨h1.1, h1.2.1⟩, h5.1, h5.2, ?_⟩
  show 1 ≤ tkSacks m p ∧ tkSacks m p ≤ 20
  unfold tkSacks sacksOf
  split
  · rename_i hn
    have h6 := hp (tkSrc m p).toNat (by omega)
    have h7 := h1.2.2.resolve_left hn
    omega
  · exact h3
theorem took_snoc (ts : List Trn) (t : Trn) (i : Int) : tookL (ts ++ [t]) i = tookL ts i + if t.src = i then t.sacks else 0 := by simp [tookL]
theorem trns_spec {m : Nat} (hm : 2 ≤ m) {left : List Int} (hl : left.length = m) (h0 : ∀ j, j < m → 0 ≤ nth left j) (s : Sk) : ∀ k, TkOk m k left s (trnsUp m left s k)
  | 0 => ⟨hl, h0, fun j _ => by simp [trnsUp, tookL], rfl, fun t ht => by simp [trnsUp] at ht, by simp [trnsUp]⟩
  | k + 1 => by
    have h := trns_spec hm hl h0 s k
    have ht := mkTrn_ok hm h.pos
    have h1 := src_in hm (trnsUp m left s k)
    have key : ∀ j, j < m → nth (trnsUp m left s (k + 1)).left j = nth (trnsUp m left s k).left j - if tkSrc m (trnsUp m left s k) = (j : Int) then tkSacks m (trnsUp m left s k) else 0 := fun j hj => by
      show nth (leftOf _ _ _) j = _
      unfold leftOf
      split
      · rw [nth_set_int]
        by_cases e : tkSrc m (trnsUp m left s k) = (j : Int)
        · rw [e, if_pos ⟨by omega, by have := h.left; omega⟩, if_pos rfl]; rfl
        · rw [if_neg (by omega), if_neg e]; omega
      · rw [if_neg (by omega)]; omega
    refine ⟨?_, fun j hj => ?_, fun j hj => ?_, ?_, fun t ht' => ?_, ?_⟩
    · show (leftOf _ _ _).length = _
      unfold leftOf; split
      · rw [List.length_set, h.left]
      · exact h.left
    · rw [key j hj]
      have := h.pos j hj
      split
      · rename_i e
        have h5 : tkSacks m (trnsUp m left s k) = min (skAmong (skNext (skNext (trnsUp m left s k).sk)) 1 20) (nth (trnsUp m left s k).left j) := by
          unfold tkSacks sacksOf
          rw [if_pos (by omega), e]; rfl
        omega
      · omega
    · rw [key j hj]
      show _ + tookL (_ ++ [_]) _ = _
      rw [took_snoc]
      have := h.took j hj
      show nth (trnsUp m left s k).left j - (if tkSrc m (trnsUp m left s k) = (j : Int) then tkSacks m (trnsUp m left s k) else 0) + (tookL (trnsUp m left s k).trn j + if tkSrc m (trnsUp m left s k) = (j : Int) then tkSacks m (trnsUp m left s k) else 0) = _
      omega
    · show (_ ++ [_]).length = _
      rw [List.length_append, h.trn]; rfl
    · rcases List.mem_append.1 ht' with ht' | ht'
      · exact h.trnOk t ht'
      · rw [List.mem_singleton.1 ht']; exact ht
    · show (skNext (skNext (skNext _))).taken = _
      rw [skNext_taken, skNext_taken, skNext_taken, h.taken]; omega
def rulesUp (order : List Int) (T : Nat) (s : Sk) : Nat → List Rul × Sk
  | 0 => ([], s)
  | k + 1 => (if skBelow (rulesUp order T s k).2 T < skBelow (skNext (rulesUp order T s k).2) T then (rulesUp order T s k).1 ++ [⟨nth order (skBelow (rulesUp order T s k).2 T).toNat, nth order (skBelow (skNext (rulesUp order T s k).2) T).toNat⟩] else (rulesUp order T s k).1, skNext (skNext (rulesUp order T s k).2))
def RulOk (order : List Int) (T : Nat) (r : Rul) : Prop := ∃ a b : Nat, a < b ∧ b < T ∧ r = ⟨nth order a, nth order b⟩
theorem rules_spec (order : List Int) (T : Nat) (s : Sk) : ∀ k, (rulesUp order T s k).1.length ≤ k ∧ (∀ r ∈ (rulesUp order T s k).1, RulOk order T r) ∧ (rulesUp order T s k).2.taken = s.taken + 2 * k
  | 0 => ⟨by simp [rulesUp], fun r hr => by simp [rulesUp] at hr, by simp [rulesUp]⟩
  | k + 1 => by
    obtain ⟨h1, h2, h3⟩ := rules_spec order T s k
    have ha := skBelow_bound (rulesUp order T s k).2 T
    have hb := skBelow_bound (skNext (rulesUp order T s k).2) T
    refine ⟨?_, fun r hr => ?_, ?_⟩
    · show (if _ then _ else _ : List Rul).length ≤ _
      split
      · simp; omega
      · omega
    · change r ∈ (if _ then _ else _ : List Rul) at hr
      split at hr
      · rename_i hlt
        rcases List.mem_append.1 hr with hr | hr
        · exact h2 r hr
        · exact ⟨_, _, by omega, by omega, List.mem_singleton.1 hr⟩
      · exact h2 r hr
    · show (skNext (skNext _)).taken = _
      rw [skNext_taken, skNext_taken, h3]; omega
theorem nodup_inj {l : List Int} (h : l.Nodup) {a b : Nat} (ha : a < l.length) (hb : b < l.length) (e : nth l a = nth l b) : a = b := by
  rcases Nat.lt_trichotomy a b with hlt | rfl | hlt
  · exact absurd (e ▸ (by rw [nth_lt ha]; exact List.mem_take_iff_getElem.2 ⟨a, by omega, rfl⟩ : nth l a ∈ l.take b)) (nodup_not h hb)
  · rfl
  · exact absurd (e ▸ (by rw [nth_lt hb]; exact List.mem_take_iff_getElem.2 ⟨b, by omega, rfl⟩ : nth l b ∈ l.take a)) (nodup_not h ha)
theorem lead_order {order : List Int} {rules : List Rul} (hn : order.Nodup) (h : ∀ r ∈ rules, RulOk order order.length r) {x y : Int} (hl : Lead rules x y) : ∃ a b : Nat, a < b ∧ b < order.length ∧ x = nth order a ∧ y = nth order b := by
  induction hl with
  | one hr =>
    obtain ⟨a, b, h1, h2, rfl⟩ := h _ hr
    exact ⟨a, b, h1, h2, rfl, rfl⟩
  | step hr _ ih =>
    obtain ⟨a, b, h1, h2, e⟩ := h _ hr
    obtain ⟨c, d, h3, h4, h5, h6⟩ := ih
    rw [e] at h6 ⊢
    have := nodup_inj hn (by omega) h4 h6
    subst this
    exact ⟨c, b, by omega, h2, h5, rfl⟩
end Go.Proofs.YtifgbnbkimcchaaGreat

namespace Go.Proofs.YtifgbnbkimcchaaGreat
open Go Go.T
structure Md where
  s : Sk
  t : Nat
def Md.n (d : Md) : Nat := (skAmong d.s 1 4).toNat
def Md.m (d : Md) : Nat := (skAmong (skNext d.s) 2 5).toNat
def Md.bn (d : Md) (k : Nat) : Mk := binsUp d.n (skNext (skNext d.s)) k
def Md.up (d : Md) (k : Nat) : List Int × Sk := upsUp (d.bn d.m).bears (d.bn d.m).sk k
def Md.T (d : Md) : Nat := (skBelow (d.up d.n).2 ((d.t : Int) + 1)).toNat
def Md.tk (d : Md) (k : Nat) : Tk := trnsUp d.m (d.bn d.m).left (skNext (d.up d.n).2) k
def Md.order (d : Md) : List Int × Sk := shufUp (d.tk d.T).sk d.T
def Md.R (d : Md) : Nat := (skBelow d.order.2 6).toNat
def Md.ru (d : Md) (k : Nat) : List Rul × Sk := rulesUp d.order.1 d.T (skNext d.order.2) k
def Md.flr (d : Md) : Flr := ⟨(d.up d.n).1, (d.bn d.m).bins, (d.tk d.T).trn, (d.ru d.R).1⟩
def Md.sk (d : Md) : Sk := (d.ru d.R).2
theorem Md.n_in (d : Md) : 1 ≤ d.n ∧ d.n ≤ 4 ∧ (d.n : Int) = skAmong d.s 1 4 := by
  have := among_in (s := d.s) (show (1 : Int) ≤ 4 by omega)
  unfold Md.n; omega
theorem Md.m_in (d : Md) : 2 ≤ d.m ∧ d.m ≤ 5 ∧ (d.m : Int) = skAmong (skNext d.s) 2 5 := by
  have := among_in (s := skNext d.s) (show (2 : Int) ≤ 5 by omega)
  unfold Md.m; omega
theorem Md.T_in (d : Md) : d.T ≤ d.t ∧ (d.T : Int) = skBelow (d.up d.n).2 ((d.t : Int) + 1) := by
  have := skBelow_bound (d.up d.n).2 ((d.t : Int) + 1)
  unfold Md.T; omega
theorem Md.R_in (d : Md) : d.R ≤ 5 ∧ (d.R : Int) = skBelow d.order.2 6 := by
  have := skBelow_bound d.order.2 6
  unfold Md.R; omega
theorem Md.bnOk (d : Md) (k : Nat) : MkOk d.n k (skNext (skNext d.s)) (d.bn k) := bins_spec d.n_in.1 _ k
theorem Md.upOk (d : Md) (k : Nat) : (d.up k).1.length = d.n ∧ (∀ j, j < d.n → 0 ≤ nth (d.up k).1 j ∧ nth (d.up k).1 j ≤ nth (d.bn d.m).bears j + if j < k then 90 else 0) ∧ (d.up k).2.taken = (d.bn d.m).sk.taken + 2 * k := by
  have h := d.bnOk d.m
  have := ups_spec (d.bn d.m).bears (d.bn d.m).sk (fun j hj => (h.bearsR j (by rw [← h.bears]; exact hj)).1) k
  rw [h.bears] at this
  exact this
theorem Md.left_pos (d : Md) : (d.bn d.m).left.length = d.m ∧ ∀ j, j < d.m → 0 ≤ nth (d.bn d.m).left j ∧ nth (d.bn d.m).left j ≤ 59 ∧ nth (d.bn d.m).left j = (nth (d.bn d.m).bins j).has := by
  have h := d.bnOk d.m
  have hl : (d.bn d.m).left.length = d.m := by rw [h.left, List.length_map, h.bins]
  refine ⟨hl, fun j hj => ?_⟩
  have hb : j < (d.bn d.m).bins.length := by rw [h.bins]; exact hj
  have e : nth (d.bn d.m).left j = (nth (d.bn d.m).bins j).has := by
    rw [nth_lt hb, nth_lt (by omega)]
    simp only [h.left, List.getElem_map]
  have := (h.binOk _ (nth_mem hb)).has
  rw [e]; omega
theorem Md.tkOk (d : Md) (k : Nat) : TkOk d.m k (d.bn d.m).left (skNext (d.up d.n).2) (d.tk k) := trns_spec d.m_in.1 d.left_pos.1 (fun j hj => (d.left_pos.2 j hj).1) _ k
theorem Md.orderOk (d : Md) : d.order.1.length = d.T ∧ d.order.1.Nodup ∧ (∀ x, x ∈ d.order.1 ↔ 0 ≤ x ∧ x < (d.T : Int)) ∧ d.order.2.taken = (d.tk d.T).sk.taken + d.T := shuf_spec _ _
theorem Md.ruOk (d : Md) (k : Nat) : (d.ru k).1.length ≤ k ∧ (∀ r ∈ (d.ru k).1, RulOk d.order.1 d.T r) ∧ (d.ru k).2.taken = (skNext d.order.2).taken + 2 * k := rules_spec _ _ _ k
theorem Md.taken (d : Md) : d.sk.taken ≤ d.s.taken + (52 + 4 * d.t) := by
  have h1 := (d.bnOk d.m).taken
  have h2 := (d.upOk d.n).2.2
  have h3 := (d.tkOk d.T).taken
  have h4 := d.orderOk.2.2.2
  have h5 := (d.ruOk d.R).2.2
  have h6 := d.n_in
  have h7 := d.m_in
  have h8 := d.T_in
  have h9 := d.R_in
  rw [skNext_taken] at h3 h5 h1
  rw [skNext_taken] at h1
  unfold Md.sk
  omega
theorem rule_in {d : Md} {r : Rul} (h : RulOk d.order.1 d.T r) : (0 ≤ r.fst ∧ r.fst < (d.T : Int)) ∧ 0 ≤ r.nxt ∧ r.nxt < (d.T : Int) := by
  obtain ⟨a, b, h1, h2, rfl⟩ := h
  have ho := d.orderOk
  exact ⟨(ho.2.2.1 _).1 (nth_mem (by omega)), (ho.2.2.1 _).1 (nth_mem (by omega))⟩
theorem any_not_of {α : Type} {q : α → Bool} {l : List α} (h : ∀ x ∈ l, q x = false) : l.any q = false := by
  rw [Bool.eq_false_iff]; intro hc
  obtain ⟨x, hx, hq⟩ := List.any_eq_true.1 hc
  rw [h x hx] at hq; cases hq
theorem offB_of {n lo hi : Int} (h : lo ≤ n ∧ n ≤ hi) : offB n lo hi = false := by
  simp only [offB, Bool.or_eq_false_iff, decide_eq_false_iff_not]; omega
theorem Md.right (d : Md) (ht : d.t ≤ 8) : checkP d.flr = 0 := by
  have h1 := d.bnOk d.m
  have h2 := d.upOk d.n
  have h3 := d.tkOk d.T
  have h4 := d.orderOk
  have h5 := d.ruOk d.R
  have h6 := d.n_in
  have h7 := d.m_in
  have h8 := d.T_in
  have h9 := d.R_in
  have hB : d.flr.bears.length = d.n := h2.1
  have hb : d.flr.bins.length = d.m := h1.bins
  have hT : d.flr.turnings.length = d.T := h3.trn
  have hR : d.flr.rules.length ≤ 5 := Nat.le_trans h5.1 h9.1
  rw [check_eq, checkM, if_neg, if_neg, if_neg, if_neg, if_neg, linkedM, if_neg, if_neg, if_neg, if_neg, if_neg]
  · rw [Bool.not_eq_true]
    refine any_not_of fun t _ => decide_eq_false fun hm => ?_
    obtain ⟨_, hl⟩ := mem_aheadM.1 hm
    obtain ⟨a, b, hab, hbt, ea, eb⟩ := lead_order h4.2.1 (fun r hr => by rw [h4.1]; exact h5.2.1 r hr) hl
    have := nodup_inj h4.2.1 (by omega) hbt (ea.symm.trans eb)
    omega
  · rw [Bool.not_eq_true]
    refine any_not_of fun i hi => ?_
    have hi := mem_iot.1 hi
    have hj : i.toNat < d.m := by omega
    have hbk := h1.binOk _ (nth_mem (xs := (d.bn d.m).bins) (k := i.toNat) (by rw [h1.bins]; exact hj))
    show d.flr.wrongAt i.toNat (nth (d.bn d.m).bins i.toNat) = false
    unfold Flr.wrongAt
    rw [hbk.sum]
    have hk := h3.took _ hj
    have hp := h3.pos _ hj
    have hl := (d.left_pos.2 _ hj).2.2
    have e : takenM d.flr d.flr.turnings i.toNat = tookL (d.tk d.T).trn i.toNat := rfl
    have hx : ¬ tookL (d.tk d.T).trn i.toNat > (nth (d.bn d.m).bins i.toNat).has := by omega
    rw [e, decide_eq_false hx]; rfl
  · rw [Bool.not_eq_true]
    exact any_not_of fun t hm => decide_eq_false (h3.trnOk t hm).ne
  · rw [Bool.not_eq_true]
    refine any_not_of fun r hm => ?_
    have := rule_in (h5.2.1 r hm)
    rw [hT, offB_of (by omega), offB_of (by omega)]; rfl
  · rw [Bool.not_eq_true]
    refine any_not_of fun t hm => ?_
    have h := h3.trnOk t hm
    have := h.src
    have := h.dst
    rw [hb, offB_of (by omega), offB_of (by omega)]; rfl
  · rw [Bool.not_eq_true]
    refine any_not_of fun t hm => ?_
    have := (h3.trnOk t hm).sacks
    exact offB_of (by omega)
  · rw [Bool.not_eq_true]
    refine any_not_of fun b hm => ?_
    have h := h1.binOk b hm
    have := h.has
    rw [offB_of (by omega), Bool.false_or]
    exact any_not_of (mem_nth_of (P := fun n => offB n 0 4 = false) fun j hj => offB_of (h.rng j (by rw [← h.len]; exact hj)))
  · rw [Bool.not_eq_true]
    refine any_not_of (mem_nth_of (P := fun n => offB n 0 4000 = false) fun j hj => offB_of ?_)
    have hj : j < d.n := by rw [← hB]; exact hj
    have h := h2.2.1 j hj
    have h0 := h1.bearsR j hj
    rw [if_pos hj] at h
    show 0 ≤ nth (d.up d.n).1 j ∧ nth (d.up d.n).1 j ≤ 4000
    omega
  · rw [Bool.not_eq_true]
    refine any_not_of fun b hm => ?_
    rw [(h1.binOk b hm).len, hB]; simp
  · rw [Bool.not_eq_true]
    unfold Flr.many
    rw [hB, hb, hT, offB_of (by omega), decide_eq_false (by omega), decide_eq_false (by omega), decide_eq_false (by omega)]; rfl
end Go.Proofs.YtifgbnbkimcchaaGreat

namespace Go.Proofs.YtifgbnbkimcchaaGreat
open Go Go.T
set_option maxHeartbeats 2000000
attribute [local irreducible] dInt dBool dSl dPp dPtr dAgg dTup dClo dAny dEx dStr dGd dCells dVec dVs dRow dOp nth Tri Into TOps Ctr bodyPost Exit.then Exit.inBlock Code.wp Code.wpIn dWhen dPa dPe dAo dArr dMp dPm dMap dCJ CtrG CtrI OpY keepPost iterPost bodyPostM roundQ
theorem binsUp_succ (n : Nat) (s : Sk) (k : Nat) : binsUp n s (k + 1) = ⟨bearUp (mkBin n (binsUp n s k)).shares (mkBin n (binsUp n s k)).has (binsUp n s k).bears n, (binsUp n s k).bins ++ [mkBin n (binsUp n s k)], (binsUp n s k).left ++ [(mkBin n (binsUp n s k)).has], (shUp n (skNext (binsUp n s k).sk) 4).2⟩ := rfl
theorem upsUp_succ (xs : List Int) (s : Sk) (k : Nat) : upsUp xs s (k + 1) = (if skRare (skNext (upsUp xs s k).2) 9 then downOne (upOne (upsUp xs s k).1 (upsUp xs s k).2 k) k else upOne (upsUp xs s k).1 (upsUp xs s k).2 k, skNext (skNext (upsUp xs s k).2)) := rfl
theorem trnsUp_succ (m : Nat) (l : List Int) (s : Sk) (k : Nat) : trnsUp m l s (k + 1) = ⟨leftOf (trnsUp m l s k).left (tkSrc m (trnsUp m l s k)) (tkSacks m (trnsUp m l s k)), (trnsUp m l s k).trn ++ [mkTrn m (trnsUp m l s k)], skNext (skNext (skNext (trnsUp m l s k).sk))⟩ := rfl
theorem rulesUp_succ2 (o : List Int) (T : Nat) (s : Sk) (k : Nat) : (rulesUp o T s (k + 1)).2 = skNext (skNext (rulesUp o T s k).2) := rfl
theorem rulesUp_yes (o : List Int) (T : Nat) (s : Sk) (k : Nat) (h : skBelow (rulesUp o T s k).2 T < skBelow (skNext (rulesUp o T s k).2) T) : (rulesUp o T s (k + 1)).1 = (rulesUp o T s k).1 ++ [⟨nth o (skBelow (rulesUp o T s k).2 T).toNat, nth o (skBelow (skNext (rulesUp o T s k).2) T).toNat⟩] := if_pos h
theorem rulesUp_no (o : List Int) (T : Nat) (s : Sk) (k : Nat) (h : ¬ skBelow (rulesUp o T s k).2 T < skBelow (skNext (rulesUp o T s k).2) T) : (rulesUp o T s (k + 1)).1 = (rulesUp o T s k).1 := if_neg h
attribute [local irreducible] skNext skBelow skAmong skRare bearUp shUp mkBin
theorem bn_zero (d : Md) : d.bn 0 = ⟨List.replicate d.n 0, [], [], skNext (skNext d.s)⟩ := by unfold Md.bn binsUp; rfl
theorem bn_succ (d : Md) (k : Nat) : d.bn (k + 1) = ⟨bearUp (mkBin d.n (d.bn k)).shares (mkBin d.n (d.bn k)).has (d.bn k).bears d.n, (d.bn k).bins ++ [mkBin d.n (d.bn k)], (d.bn k).left ++ [(mkBin d.n (d.bn k)).has], (shUp d.n (skNext (d.bn k).sk) 4).2⟩ := by unfold Md.bn; exact binsUp_succ _ _ _
theorem sh_zero (n : Nat) (s : Sk) : shUp n s 0 = (List.replicate n 0, s) := by unfold shUp; rfl
theorem sh_succ (n : Nat) (s : Sk) (k : Nat) : shUp n s (k + 1) = ((shUp n s k).1.set (skBelow (shUp n s k).2 n).toNat (nth (shUp n s k).1 (skBelow (shUp n s k).2 n).toNat + 1), skNext (shUp n s k).2) := by rw [shUp]
theorem bear_zero (sh : List Int) (has : Int) (b : List Int) : bearUp sh has b 0 = b := by rw [bearUp]
theorem bear_succ (sh : List Int) (has : Int) (b : List Int) (k : Nat) : bearUp sh has b (k + 1) = (bearUp sh has b k).set k (nth (bearUp sh has b k) k + nth sh k * has) := by rw [bearUp]
theorem up_zero (d : Md) : d.up 0 = ((d.bn d.m).bears, (d.bn d.m).sk) := by unfold Md.up upsUp; rfl
theorem up_sk (d : Md) (k : Nat) : (d.up (k + 1)).2 = skNext (skNext (d.up k).2) := by unfold Md.up; rw [upsUp_succ]
theorem up_yes (d : Md) (k : Nat) (h : skRare (skNext (d.up k).2) 9 = true) : (d.up (k + 1)).1 = downOne (upOne (d.up k).1 (d.up k).2 k) k := by unfold Md.up at *; rw [upsUp_succ]; exact if_pos h
theorem up_no (d : Md) (k : Nat) (h : skRare (skNext (d.up k).2) 9 = false) : (d.up (k + 1)).1 = upOne (d.up k).1 (d.up k).2 k := by unfold Md.up at *; rw [upsUp_succ]; exact if_neg (Bool.eq_false_iff.1 h)
theorem tk_zero (d : Md) : d.tk 0 = ⟨(d.bn d.m).left, [], skNext (d.up d.n).2⟩ := by unfold Md.tk trnsUp; rfl
theorem tk_succ (d : Md) (k : Nat) : d.tk (k + 1) = ⟨leftOf (d.tk k).left (tkSrc d.m (d.tk k)) (tkSacks d.m (d.tk k)), (d.tk k).trn ++ [mkTrn d.m (d.tk k)], skNext (skNext (skNext (d.tk k).sk))⟩ := by unfold Md.tk; rw [trnsUp_succ]
theorem ru_zero (d : Md) : d.ru 0 = ([], skNext d.order.2) := by unfold Md.ru rulesUp; rfl
theorem ru_sk (d : Md) (k : Nat) : (d.ru (k + 1)).2 = skNext (skNext (d.ru k).2) := by unfold Md.ru; rw [rulesUp_succ2]
theorem ru_yes (d : Md) (k : Nat) (h : skBelow (d.ru k).2 d.T < skBelow (skNext (d.ru k).2) d.T) : (d.ru (k + 1)).1 = (d.ru k).1 ++ [⟨nth d.order.1 (skBelow (d.ru k).2 d.T).toNat, nth d.order.1 (skBelow (skNext (d.ru k).2) d.T).toNat⟩] := by unfold Md.ru at *; exact rulesUp_yes _ _ _ _ h
theorem ru_no (d : Md) (k : Nat) (h : ¬ skBelow (d.ru k).2 d.T < skBelow (skNext (d.ru k).2) d.T) : (d.ru (k + 1)).1 = (d.ru k).1 := by unfold Md.ru at *; exact rulesUp_no _ _ _ _ h
theorem mkBin_has (n : Nat) (p : Mk) : (mkBin n p).has = skBelow p.sk 60 := by unfold mkBin; rfl
theorem mkBin_shares (n : Nat) (p : Mk) : (mkBin n p).shares = (shUp n (skNext p.sk) 4).1 := by unfold mkBin; rfl
theorem ne_of_hg {a b : Int} (h : (!decide (a = b)) = true) : a ≠ b := by simpa using h
theorem c_Shuf (s : Sk) (n m : Nat) (e : m = n) (hn : n ≤ 1000) (h : s.Ok (n + 1)) : CtrG Tryz.prog 86 [1000] [(1000, Cont.cells 138 (skTys s))] [Ty.ptr 1000 0, Ty.int .i64 (m : Nat)] [(1000, Cont.cells 138 (skTys (shufUp s n).2))] (Ty.sl I64 (shufUp s n).1) := by
  subst e; exact c_Shuffle s m hn h
theorem nil_row_eq {α : Type} {E : El α} {T tg : Nat} {xs : List α} (e : [] = xs) : (Ty.ex (.slice none 0 0)).Sub (Ty.row E T tg xs) := by subst e; exact Ty.nil_row
theorem sh_le {n : Nat} (hn : 1 ≤ n) (s : Sk) (k : Nat) {j : Nat} (hj : j < n) : 0 ≤ nth (shUp n s k).1 j ∧ nth (shUp n s k).1 j ≤ k := by
  obtain ⟨h1, h2, h3, _⟩ := sh_spec hn s k
  have h5 : ∀ x ∈ (shUp n s k).1, 0 ≤ x := mem_nth_of fun j hj => h3 j (by omega)
  have h6 := (le_sum_int h5).2 _ (nth_mem (show j < (shUp n s k).1.length by omega))
  rw [h2] at h6
  exact ⟨h3 j hj, h6⟩
theorem wrap_in {n : Int} (h : -9223372036854775808 ≤ n ∧ n ≤ 9223372036854775807) : IntKind.i64.wrap n = n := IntWalk.i64_in _ (by omega)
theorem sh_set {n : Nat} (hn : 1 ≤ n) (s : Sk) {k : Nat} (hk : k ≤ 4) : (shUp n s k).1.set (skBelow (shUp n s k).2 n).toNat (IntKind.i64.wrap (nth (shUp n s k).1 (skBelow (shUp n s k).2 n).toNat + 1)) = (shUp n s (k + 1)).1 := by
  have hb := below_in (s := (shUp n s k).2) hn
  have := sh_le hn s k (show (skBelow (shUp n s k).2 n).toNat < n by omega)
  rw [sh_succ, wrap_in (by omega)]
theorem bear_set {n k i : Nat} {s : Sk} {p : Mk} (hp : MkOk n k s p) (hk : k ≤ 5) (hi : i < n) {b : Bin} (hb : BinOk n b) : (bearUp b.shares b.has p.bears i).set i (IntKind.i64.wrap (nth (bearUp b.shares b.has p.bears i) i + IntKind.i64.wrap (nth b.shares i * b.has))) = bearUp b.shares b.has p.bears (i + 1) := by
  have h1 := hp.bearsR i hi
  have h2 := hb.rng i hi
  have h3 := hb.has
  have h4 : 0 ≤ nth b.shares i * b.has := Int.mul_nonneg h2.1 h3.1
  have h5 : nth b.shares i * b.has ≤ 4 * 59 := Int.mul_le_mul h2.2 h3.2 h3.1 (by omega)
  have h6 := (bear_spec b.shares b.has p.bears i).2 i (by rw [hp.bears]; exact hi)
  rw [if_neg (by omega)] at h6
  rw [bear_succ, wrap_in (n := nth b.shares i * b.has) (by omega), wrap_in (by omega)]
theorem up_bounds {d : Md} {i : Nat} (hi : i < d.n) : 0 ≤ nth (d.up i).1 i ∧ nth (d.up i).1 i ≤ 2000 ∧ (d.up i).1.length = d.n := by
  obtain ⟨h1, h2, _⟩ := d.upOk i
  have h3 := (d.bnOk d.m).bearsR i hi
  have h4 := h2 i hi
  have h5 := d.m_in
  rw [if_neg (by omega)] at h4
  omega
theorem up_set {d : Md} {i : Nat} (hi : i < d.n) : (d.up i).1.set i (IntKind.i64.wrap (nth (d.up i).1 i + skBelow (d.up i).2 90)) = upOne (d.up i).1 (d.up i).2 i := by
  have h := up_bounds hi
  have hb := skBelow_bound (d.up i).2 90
  rw [wrap_in (by omega)]; rfl
theorem up_set2 {d : Md} {i : Nat} (hi : i < d.n) : ((d.up i).1.set i (IntKind.i64.wrap (nth (d.up i).1 i + skBelow (d.up i).2 90))).set i (max 0 (IntKind.i64.wrap (nth ((d.up i).1.set i (IntKind.i64.wrap (nth (d.up i).1 i + skBelow (d.up i).2 90))) i - 60))) = downOne (upOne (d.up i).1 (d.up i).2 i) i := by
  have h := up_bounds hi
  have hb := skBelow_bound (d.up i).2 90
  rw [up_set hi]
  have e : nth (upOne (d.up i).1 (d.up i).2 i) i = nth (d.up i).1 i + skBelow (d.up i).2 90 := by
    unfold upOne; rw [nth_set_int, if_pos ⟨rfl, by omega⟩]
  rw [wrap_in (by rw [e]; omega)]; rfl
section
variable {m L : Nat} (e : L = m) (p : Tk)
include e
theorem src_yes (h : (!decide (skAmong p.sk (-1) ((L : Int) - 1) = -1) && decide (nth p.left (skAmong p.sk (-1) ((L : Int) - 1)).toNat = 0)) = true) : -1 = tkSrc m p := by
  subst e; unfold tkSrc srcOf; rw [if_pos (by simpa using h)]
theorem src_no (h : (!decide (skAmong p.sk (-1) ((L : Int) - 1) = -1) && decide (nth p.left (skAmong p.sk (-1) ((L : Int) - 1)).toNat = 0)) = false) : skAmong p.sk (-1) ((L : Int) - 1) = tkSrc m p := by
  subst e; unfold tkSrc srcOf; rw [if_neg (by intro hx; simp [hx.1, hx.2] at h)]
theorem dst_yes (h : tkSrc m p = skAmong (skNext p.sk) (-1) ((L : Int) - 1)) : modM (tkSrc m p + 1) L = tkDst m p := by
  subst e; unfold tkDst dstOf; rw [if_pos h]
theorem dst_no (h : ¬ tkSrc m p = skAmong (skNext p.sk) (-1) ((L : Int) - 1)) : skAmong (skNext p.sk) (-1) ((L : Int) - 1) = tkDst m p := by
  subst e; unfold tkDst dstOf; rw [if_neg h]
end
section
variable {m : Nat} {p : Tk}
theorem sacks_yes (h : ¬ tkSrc m p = -1) : min (skAmong (skNext (skNext p.sk)) 1 20) (nth p.left (tkSrc m p).toNat) = tkSacks m p := by
  unfold tkSacks sacksOf; rw [if_pos h]
theorem sacks_no (h : tkSrc m p = -1) : skAmong (skNext (skNext p.sk)) 1 20 = tkSacks m p := by
  unfold tkSacks sacksOf; rw [if_neg (fun x => x h)]
theorem left_no (h : tkSrc m p = -1) : p.left = leftOf p.left (tkSrc m p) (tkSacks m p) := by
  unfold leftOf; rw [if_neg (fun x => x h)]
theorem left_yes (h : ¬ tkSrc m p = -1) (hb : 0 ≤ nth p.left (tkSrc m p).toNat ∧ nth p.left (tkSrc m p).toNat ≤ 1000) : p.left.set (tkSrc m p).toNat (IntKind.i64.wrap (nth p.left (tkSrc m p).toNat - min (skAmong (skNext (skNext p.sk)) 1 20) (nth p.left (tkSrc m p).toNat))) = leftOf p.left (tkSrc m p) (tkSacks m p) := by
  have ha := among_in (s := skNext (skNext p.sk)) (show (1 : Int) ≤ 20 by omega)
  have hs := sacks_yes h
  rw [wrap_in (by omega), hs]
  unfold leftOf; rw [if_pos h]
end
theorem left_bound {d : Md} {k j : Nat} (hj : j < d.m) : 0 ≤ nth (d.tk k).left j ∧ nth (d.tk k).left j ≤ 1000 := by
  have h := d.tkOk k
  have h1 := h.pos j hj
  have h2 := h.took j hj
  have h3 := d.left_pos.2 j hj
  have h4 : 0 ≤ tookL (d.tk k).trn j := by
    unfold tookL
    refine (le_sum_int fun x hx => ?_).1
    obtain ⟨t, ht, rfl⟩ := List.mem_map.1 hx
    have := (h.trnOk t ht).sacks
    split <;> omega
  omega
theorem ru_at {d : Md} {k : Nat} (h : skBelow (d.ru k).2 (d.order.1.length : Nat) < skBelow (skNext (d.ru k).2) (d.order.1.length : Nat)) : (d.ru k).1 ++ [⟨nth d.order.1 (skBelow (d.ru k).2 (d.order.1.length : Nat)).toNat, nth d.order.1 (skBelow (skNext (d.ru k).2) (d.order.1.length : Nat)).toNat⟩] = (d.ru (k + 1)).1 := by
  have e := d.orderOk.1
  rw [e] at h ⊢
  exact (ru_yes d k h).symm
theorem ru_no2 {d : Md} {k : Nat} (h : ¬ skBelow (d.ru k).2 (d.order.1.length : Nat) < skBelow (skNext (d.ru k).2) (d.order.1.length : Nat)) : (d.ru k).1 = (d.ru (k + 1)).1 := by
  have e := d.orderOk.1
  rw [e] at h
  exact (ru_no d k h).symm
attribute [local irreducible] Md.bn Md.up Md.tk Md.ru shufUp
set_option maxRecDepth 100000 in
theorem c_Made5 (d : Md) (ht : d.t ≤ 8) (h : d.s.Ok 100) : CtrG Tryz.prog 34 [1000] [(1000, Cont.cells 138 (skTys d.s))] [Ty.ptr 1000 0, Ty.int .i64 (d.t : Nat)] [(1000, Cont.cells 138 (skTys d.sk))] (flrT d.flr) := by
  refine fnG_intro Tryz.func34 rfl (by decide) Tryz.ntmps34 (by exact Nat.le_of_ble_eq_true rfl) fun w0 M0 => ?_
  have h0 : 0 ≤ d.s.taken ∧ d.s.taken + 100 ≤ 4611686018427387904 := h
  have hn := d.n_in
  have hm := d.m_in
  have hs1 := skNext_taken d.s
  have hT := d.T_in
  have hR := d.R_in
  have htk1 : (skNext (skNext d.s)).taken = d.s.taken + 2 := by rw [skNext_taken, skNext_taken]; omega
  have hbm := d.bnOk d.m
  have hun := d.upOk d.n
  have htT := d.tkOk d.T
  have hor := d.orderOk
  have hlp := d.left_pos
  have hbmt := hbm.taken
  have hbmb := hbm.bins
  have htTl := htT.trn
  have hunt := hun.2.2
  have htTt := htT.taken
  have hort := hor.2.2.2
  have hq1 := skNext_taken (d.up d.n).2
  have hq2 := skNext_taken d.order.2
  refine t_seq ?_
  refine t_region ?_
  refine r_alloc rfl (by exact List.cons_ne_nil _ _) rfl ?_
  refine r_nil ?_
  refine i_then ?_
  refine t_seq ?_
  refine t_region ?_
  refine mvO rfl ?_
  refine r_callG [(1000, 1000)] [] [(1000, Cont.cells 138 (skTys (skNext d.s)))] (c_Among d.s ⟨by omega, by omega⟩ 1 4 (by omega) (by omega)) rfl rfl (by repeat (first | exact cv_nil | refine cv_cons ?_ ?_ | exact cv_ptr List.mem_cons_self | exact cv_pub rfl rfl)) (pre_cons (a := 1000) (b := 1000) (by exact List.mem_cons_self) rfl (cc_cells_eq (by exact List.mem_cons_self) rfl rfl rfl) pre_nil) (post_cons (a := 1000) (b := 1000) (by exact List.mem_cons_self) rfl (cc_cells_eq (by exact List.mem_cons_self) rfl rfl rfl) post_nil) (cv_pub rfl rfl) ?_
  refine r_makeV (E := I64) rfl rfl rfl rfl rfl rfl rfl (by decide) rfl (by omega) (by (dsimp only; omega)) (by omega) ?_
  refine r_build rfl rfl (by exact List.cons_ne_nil _ _) rfl (by repeat (first | exact (Parts.nil : Parts _ _ [] _) | (show Parts _ _ ((_, _) :: _) _; apply Parts.one; (· exact (rfl : _ = Ty.vs _ _)); (· exact rfl)))) (by exact (rfl : _ = some [_, _, _, _])) ?_
  refine r_alloc rfl (by exact List.cons_ne_nil _ _) rfl ?_
  refine r_storeN rfl rfl (by decide) rfl rfl rfl rfl rfl rfl ?_
  refine r_nil ?_
  refine i_then ?_
  refine t_seq ?_
  refine t_region ?_
  refine asX rfl ?_
  refine r_nil ?_
  refine i_then ?_
  refine t_seq ?_
  refine t_seq ?_
  refine t_region ?_
  refine mvO rfl ?_
  refine r_callG [(1000, 1000)] [] [(1000, Cont.cells 138 (skTys (skNext (skNext d.s))))] (c_Among (skNext d.s) ⟨by omega, by omega⟩ 2 5 (by omega) (by omega)) rfl rfl (by repeat (first | exact cv_nil | refine cv_cons ?_ ?_ | exact cv_ptr List.mem_cons_self | exact cv_pub rfl rfl)) (pre_cons (a := 1000) (b := 1000) (by exact List.mem_cons_self) rfl (cc_cells_eq (by exact List.mem_cons_self) rfl rfl rfl) pre_nil) (post_cons (a := 1000) (b := 1000) (by exact List.mem_cons_self) rfl (cc_cells_eq (by exact List.mem_cons_self) rfl rfl rfl) post_nil) (cv_pub rfl rfl) ?_
  refine mvI rfl ?_
  refine r_nil ?_
  refine i_then ?_
  refine t_block ?_
  refine t_loop (fun (k : {k : Nat // k ≤ d.m}) => live [(0, Ty.ptr 1000 0), (1, Ty.int .i64 (d.t : Nat)), (4, Ty.ptr 5 0), (5, Ty.ptr 6 0), (6, Ty.row I64 3 76 (d.bn k.1).left), (22, Ty.int .i64 (d.m : Nat)), (23, Ty.int .i64 (k.1 : Nat))] [(1000, Cont.cells 138 (skTys (d.bn k.1).sk)), (5, Cont.cells 27 [Ty.ex (.slice none 0 0), Ty.ex (.slice none 0 0), Ty.ex (.slice none 0 0), Ty.ex (.slice none 0 0)]), (6, Cont.cells 27 [Ty.vs 20 d.n, Ty.row BinE 69 71 (d.bn k.1).bins, Ty.row TrnE 71 171 [], Ty.row RulE 64 206 []]), (20, Cont.vec I64 3 (d.bn k.1).bears)]) (fun k => d.m - k.1) (⟨0, by omega⟩) ?_ fun k => ?_
  · (refine Ent.mk' ?_ ?_ <;> (repeat' (first | exact allSub_zero | exact allTags_nil | exact subs_nil | refine allSub_succ' ?_ (Ty.sub_any _) | refine allSub_succ' ?_ (Ty.sub_refl _) | refine allTags_cons rfl (Cont.sub_refl _) ?_ | refine allTags_cons rfl (Cont.sub_subs ?_) ?_ | refine subs_cons ?_ (Ty.sub_refl _) | refine subs_cons ?_ Ty.nil_row | refine subs_cons ?_ ?_ | refine allTags_cons rfl ?_ ?_ | refine allSub_succ' ?_ ?_)))
    all_goals first | exact Ty.sub_int d.m_in.2.2.symm | exact Ty.sub_int (congrArg (fun p => p.sk.mixed) (bn_zero d).symm) | exact Ty.sub_int (congrArg (fun p => p.sk.taken) (bn_zero d).symm) | exact Ty.sub_sl (congrArg (fun p => p.sk.grain) (bn_zero d).symm) | exact nil_row_eq (congrArg Mk.left (bn_zero d)).symm | exact nil_row_eq (congrArg Mk.bins (bn_zero d)).symm | exact Cont.sub_vec (congrArg Mk.bears (bn_zero d)).symm
  ·
    have hk := k.2
    have hbk := d.bnOk k.1
    have hbt := hbk.taken
    have hbk1 := hbk.bins
    have hbk2 : (d.bn k.1).left.length = k.1 := by rw [hbk.left, List.length_map, hbk.bins]
    have hmb := mkBin_ok d.n_in.1 (d.bn k.1)
    refine t_seq ?_
    refine t_region ?_
    refine r_bin rfl rfl rfl ?_
    refine r_nil ?_
    refine i_then ?_
    refine t_seq ?_
    refine t_cond_dec rfl (fun hc1 => ?_) (fun hc1 => ?_)
    ·
      refine t_skip ?_
      refine i_then ?_
      refine t_seq ?_
      refine t_block ?_
      refine t_seq ?_
      have hok : (d.bn k.1).sk.Ok 1 := ⟨by omega, by omega⟩
      refine t_draw mixed rfl ?_
      refine mvO rfl ?_
      refine r_callG [(1000, 1000)] [] [(1000, Cont.cells 138 (skTys (skNext (d.bn k.1).sk)))] (c_Below (d.bn k.1).sk hok _) rfl rfl (by repeat (first | exact cv_nil | refine cv_cons ?_ ?_ | exact cv_ptr List.mem_cons_self | exact cv_pub rfl rfl)) (pre_cons (a := 1000) (b := 1000) (by exact List.mem_cons_self) rfl (cc_cells_eq (by exact List.mem_cons_self) rfl rfl rfl) pre_nil) (post_cons (a := 1000) (b := 1000) (by exact List.mem_cons_self) rfl (cc_cells_eq (by exact List.mem_cons_self) rfl rfl rfl) post_nil) (cv_pub rfl rfl) ?_
      refine r_field_ptr rfl rfl rfl rfl rfl (by decide) ?_
      refine r_load_ptr rfl rfl (by decide) rfl rfl rfl ?_
      refine r_len_vs rfl rfl rfl ?_
      refine r_makeV (E := I64) rfl rfl rfl rfl rfl rfl rfl (by decide) rfl (by omega) (by (dsimp only; omega)) (by omega) ?_
      refine r_build rfl rfl (by exact List.cons_ne_nil _ _) rfl (by repeat (first | exact (Parts.nil : Parts _ _ [] _) | (show Parts _ _ ((_, _) :: _) _; apply Parts.one; (· first | exact (rfl : _ = Ty.int _ _) | exact (rfl : _ = Ty.vs _ _)); (· exact rfl)))) (by exact (rfl : _ = some [_, _])) ?_
      refine r_alloc rfl (by exact List.cons_ne_nil _ _) rfl ?_
      refine r_storeN rfl rfl (by decide) rfl rfl rfl rfl rfl rfl ?_
      refine r_nil ?_
      refine ⟨by kernel_rfl, ?_⟩
      refine i_then ?_
      refine t_seq ?_
      refine t_seq ?_
      refine t_region ?_
      refine mvI rfl ?_
      refine r_nil ?_
      refine i_then ?_
      refine t_block ?_
      refine t_loop (fun (j : {j : Nat // j ≤ 4}) => live [(0, Ty.ptr 1000 0), (1, Ty.int .i64 (d.t : Nat)), (4, Ty.ptr 5 0), (5, Ty.ptr 6 0), (6, Ty.row I64 3 76 (d.bn k.1).left), (7, Ty.ptr 8 0), (22, Ty.int .i64 (d.m : Nat)), (23, Ty.int .i64 (k.1 : Nat)), (32, Ty.int .i64 (j.1 : Nat))] [(1000, Cont.cells 138 (skTys (shUp d.n (skNext (d.bn k.1).sk) j.1).2)), (5, Cont.cells 27 [Ty.ex (.slice none 0 0), Ty.ex (.slice none 0 0), Ty.ex (.slice none 0 0), Ty.ex (.slice none 0 0)]), (6, Cont.cells 27 [Ty.vs 20 d.n, Ty.row BinE 69 71 (d.bn k.1).bins, Ty.row TrnE 71 171 [], Ty.row RulE 64 206 []]), (20, Cont.vec I64 3 (d.bn k.1).bears), (8, Cont.cells 69 [Ty.int .i64 (mkBin d.n (d.bn k.1)).has, Ty.vs 31 d.n]), (31, Cont.vec I64 3 (shUp d.n (skNext (d.bn k.1).sk) j.1).1)]) (fun j => 4 - j.1) (⟨0, by omega⟩) ?_ fun j => ?_
      · (refine Ent.mk' ?_ ?_ <;> (repeat' (first | exact allSub_zero | exact allTags_nil | exact subs_nil | refine allSub_succ' ?_ (Ty.sub_any _) | refine allSub_succ' ?_ (Ty.sub_refl _) | refine allTags_cons rfl (Cont.sub_refl _) ?_ | refine allTags_cons rfl (Cont.sub_subs ?_) ?_ | refine subs_cons ?_ (Ty.sub_refl _) | refine subs_cons ?_ ?_ | refine allTags_cons rfl ?_ ?_)))
        all_goals first | exact Ty.sub_int (congrArg (fun p => p.2.mixed) (sh_zero d.n (skNext (d.bn k.1).sk)).symm) | exact Ty.sub_int (congrArg (fun p => p.2.taken) (sh_zero d.n (skNext (d.bn k.1).sk)).symm) | exact Ty.sub_sl (congrArg (fun p => p.2.grain) (sh_zero d.n (skNext (d.bn k.1).sk)).symm) | exact Ty.sub_int (mkBin_has _ _).symm | exact Cont.sub_vec (congrArg Prod.fst (sh_zero d.n (skNext (d.bn k.1).sk))).symm
      ·
        have hj := j.2
        have hsh := sh_spec d.n_in.1 (skNext (d.bn k.1).sk) j.1
        have hst := skNext_taken (d.bn k.1).sk
        refine t_seq ?_
        refine t_region ?_
        refine r_bin rfl rfl rfl ?_
        refine r_nil ?_
        refine i_then ?_
        refine t_seq ?_
        refine t_cond_dec rfl (fun hc2 => ?_) (fun hc2 => ?_)
        ·
          refine t_skip ?_
          refine i_then ?_
          refine t_seq ?_
          refine t_block ?_
          have hok : (shUp d.n (skNext (d.bn k.1).sk) j.1).2.Ok 1 := ⟨by omega, by omega⟩
          have hbi := below_in (s := (shUp d.n (skNext (d.bn k.1).sk) j.1).2) d.n_in.1
          refine t_draw mixed rfl ?_
          refine r_field_ptr rfl rfl rfl rfl rfl (by decide) ?_
          refine r_load_ptr rfl rfl (by decide) rfl rfl rfl ?_
          refine mvO rfl ?_
          refine r_field_ptr rfl rfl rfl rfl rfl (by decide) ?_
          refine r_load_ptr rfl rfl (by decide) rfl rfl rfl ?_
          refine r_len_vs rfl rfl rfl ?_
          refine r_callG [(1000, 1000)] [] [(1000, Cont.cells 138 (skTys (skNext (shUp d.n (skNext (d.bn k.1).sk) j.1).2)))] (c_Below (shUp d.n (skNext (d.bn k.1).sk) j.1).2 hok _) rfl rfl (by repeat (first | exact cv_nil | refine cv_cons ?_ ?_ | exact cv_ptr List.mem_cons_self | exact cv_pub rfl rfl)) (pre_cons (a := 1000) (b := 1000) (by exact List.mem_cons_self) rfl (cc_cells_eq (by exact List.mem_cons_self) rfl rfl rfl) pre_nil) (post_cons (a := 1000) (b := 1000) (by exact List.mem_cons_self) rfl (cc_cells_eq (by exact List.mem_cons_self) rfl rfl rfl) post_nil) (cv_pub rfl rfl) ?_
          refine r_index_vsI rfl rfl rfl rfl rfl (by omega) (by omega) ?_
          refine r_load_vecB rfl rfl rfl (by decide) rfl rfl (by omega) rfl ?_
          refine r_bin rfl rfl rfl ?_
          refine r_index_vsI rfl rfl rfl rfl rfl (by omega) (by omega) ?_
          refine r_store_vecB rfl rfl rfl (by decide) rfl rfl (by exact (rfl : _ = Ty.int _ _)) rfl (by omega) (by decide) rfl rfl ?_
          refine r_nil ?_
          refine ⟨by kernel_rfl, ?_⟩
          refine i_block ?_
          refine i_then ?_
          refine t_region ?_
          refine r_add rfl rfl (by omega) (by omega) ?_
          refine mvI rfl ?_
          refine r_nil ?_
          refine i_round (⟨j.1 + 1, by omega⟩) ?_ (by show 4 - (j.1 + 1) < 4 - j.1; omega)
          (refine Ent.mk' ?_ ?_ <;> (repeat' (first | exact allSub_zero | exact allTags_nil | exact subs_nil | refine allSub_succ' ?_ (Ty.sub_any _) | refine allSub_succ' ?_ (Ty.sub_refl _) | refine allTags_cons rfl (Cont.sub_refl _) ?_ | refine allTags_cons rfl (Cont.sub_subs ?_) ?_ | refine subs_cons ?_ ?_ | refine allTags_cons rfl ?_ ?_)))
          all_goals skip
          all_goals first | exact Ty.sub_int (congrArg (fun p => p.2.mixed) (sh_succ d.n (skNext (d.bn k.1).sk) j.1).symm) | exact Ty.sub_int (congrArg (fun p => p.2.taken) (sh_succ d.n (skNext (d.bn k.1).sk) j.1).symm) | exact Ty.sub_sl (congrArg (fun p => p.2.grain) (sh_succ d.n (skNext (d.bn k.1).sk) j.1).symm) | exact Cont.sub_vec (sh_set d.n_in.1 (skNext (d.bn k.1).sk) j.2)
        ·
          refine t_exit ?_
          refine i_then_exit ?_
          refine i_then_exit ?_
          refine i_block_exit rfl ?_
          refine i_then ?_
          refine t_seq ?_
          refine t_seq ?_
          have hx : ¬ (j.1 : Int) < 4 := hc2
          obtain ⟨j, hx2⟩ := j
          obtain rfl : j = 4 := by simp only at hx; omega
          refine t_region ?_
          refine r_field_ptr rfl rfl rfl rfl rfl (by decide) ?_
          refine r_load_ptr rfl rfl (by decide) rfl rfl rfl ?_
          refine r_len_vs rfl rfl rfl ?_
          refine mvI rfl ?_
          refine r_nil ?_
          refine i_then ?_
          refine t_block ?_
          refine t_loop (fun (i : {i : Nat // i ≤ d.n}) => live [(0, Ty.ptr 1000 0), (1, Ty.int .i64 (d.t : Nat)), (4, Ty.ptr 5 0), (5, Ty.ptr 6 0), (6, Ty.row I64 3 76 (d.bn k.1).left), (7, Ty.ptr 8 0), (22, Ty.int .i64 (d.m : Nat)), (23, Ty.int .i64 (k.1 : Nat)), (47, Ty.vs 31 d.n), (48, Ty.int .i64 (d.n : Nat)), (49, Ty.int .i64 (i.1 : Nat))] [(1000, Cont.cells 138 (skTys (shUp d.n (skNext (d.bn k.1).sk) 4).2)), (5, Cont.cells 27 [Ty.ex (.slice none 0 0), Ty.ex (.slice none 0 0), Ty.ex (.slice none 0 0), Ty.ex (.slice none 0 0)]), (6, Cont.cells 27 [Ty.vs 20 d.n, Ty.row BinE 69 71 (d.bn k.1).bins, Ty.row TrnE 71 171 [], Ty.row RulE 64 206 []]), (20, Cont.vec I64 3 (bearUp (mkBin d.n (d.bn k.1)).shares (mkBin d.n (d.bn k.1)).has (d.bn k.1).bears i.1)), (8, Cont.cells 69 [Ty.int .i64 (mkBin d.n (d.bn k.1)).has, Ty.vs 31 d.n]), (31, Cont.vec I64 3 (mkBin d.n (d.bn k.1)).shares)]) (fun i => d.n - i.1) (⟨0, by omega⟩) ?_ fun i => ?_
          · (refine Ent.mk' ?_ ?_ <;> (repeat' (first | exact allSub_zero | exact allTags_nil | refine allSub_succ' ?_ (Ty.sub_any _) | refine allSub_succ' ?_ (Ty.sub_refl _) | refine allTags_cons rfl (Cont.sub_refl _) ?_ | refine allTags_cons rfl ?_ ?_)))
            all_goals first | exact Cont.sub_vec (bear_zero _ _ _).symm | exact Cont.sub_vec (mkBin_shares _ _).symm
          ·
            have hi := i.2
            have hbe := bear_spec (mkBin d.n (d.bn k.1)).shares (mkBin d.n (d.bn k.1)).has (d.bn k.1).bears i.1
            have hbe1 := hbe.1
            have hbkb := hbk.bears
            have hmbl := hmb.len
            refine t_seq ?_
            refine t_region ?_
            refine r_bin rfl rfl rfl ?_
            refine r_nil ?_
            refine i_then ?_
            refine t_seq ?_
            refine t_cond_dec rfl (fun hc3 => ?_) (fun hc3 => ?_)
            ·
              refine t_skip ?_
              refine i_then ?_
              refine t_seq ?_
              refine t_block ?_
              refine t_seq ?_
              refine t_region ?_
              refine mvI rfl ?_
              refine r_index_vs rfl rfl rfl rfl rfl (by omega) ?_
              refine r_load_vecB rfl rfl rfl (by decide) rfl rfl (by omega) rfl ?_
              refine asI rfl ?_
              refine asI rfl ?_
              refine r_nil ?_
              refine i_then ?_
              refine t_draw mixed rfl ?_
              refine r_field_ptr rfl rfl rfl rfl rfl (by decide) ?_
              refine r_load_ptr rfl rfl (by decide) rfl rfl rfl ?_
              refine mvI rfl ?_
              refine r_index_vs rfl rfl rfl rfl rfl (by omega) ?_
              refine r_load_vecB rfl rfl rfl (by decide) rfl rfl (by omega) rfl ?_
              refine mvI rfl ?_
              refine r_field_ptr rfl rfl rfl rfl rfl (by decide) ?_
              refine r_load_ptr rfl rfl (by decide) rfl rfl rfl ?_
              refine r_bin rfl rfl rfl ?_
              refine r_bin rfl rfl rfl ?_
              refine r_index_vs rfl rfl rfl rfl rfl (by omega) ?_
              refine r_store_vecB rfl rfl rfl (by decide) rfl rfl (by exact (rfl : _ = Ty.int _ _)) rfl (by omega) (by decide) rfl rfl ?_
              refine r_nil ?_
              refine ⟨by kernel_rfl, ?_⟩
              refine i_block ?_
              refine i_then ?_
              refine t_region ?_
              refine r_add rfl rfl (by omega) (by omega) ?_
              refine mvI rfl ?_
              refine r_nil ?_
              refine i_round (⟨i.1 + 1, by omega⟩) ?_ (by show d.n - (i.1 + 1) < d.n - i.1; omega)
              (refine Ent.mk' ?_ ?_ <;> (repeat' (first | exact allSub_zero | exact allTags_nil | refine allSub_succ' ?_ (Ty.sub_any _) | refine allSub_succ' ?_ (Ty.sub_refl _) | refine allTags_cons rfl (Cont.sub_refl _) ?_ | refine allTags_cons rfl ?_ ?_)))
              all_goals skip
              all_goals exact Cont.sub_vec (bear_set hbk (by omega) (by omega) hmb)
            ·
              refine t_exit ?_
              refine i_then_exit ?_
              refine i_then_exit ?_
              refine i_block_exit rfl ?_
              refine i_then ?_
              have hx : ¬ (i.1 : Int) < (d.n : Nat) := hc3
              obtain ⟨i, hx2⟩ := i
              obtain rfl : i = d.n := by simp only at hx; omega
              refine t_pubC (tg := 31) [] [(8, Cont.cells 69 [Ty.int .i64 (mkBin d.n (d.bn k.1)).has, Ty.sl I64 (mkBin d.n (d.bn k.1)).shares])] (by decide) rfl trivial ⟨pubC_cells rfl rfl ⟨pubTy_same rfl, pubTy_vs rfl hmb.len (by decide), trivial⟩, trivial⟩ ?_
              refine t_draw mixed rfl ?_
              refine r_field_ptr rfl rfl rfl rfl rfl (by decide) ?_
              refine r_load_ptr rfl rfl (by decide) rfl rfl rfl ?_
              refine r_load_ptrN rfl rfl (by decide) rfl rfl (by exact Nat.le_of_ble_eq_true rfl) ?_
              refine r_buildSlice (E := BinE) (xs := [mkBin d.n (d.bn k.1)]) rfl rfl rfl rfl rfl (by decide) (by decide) (by repeat (first | exact (Parts.nil : Parts _ _ [] _) | (show Parts _ _ ((_, _) :: _) _; apply Parts.agg; (· exact (rfl : _ = Ty.agg _))))) (by exact rfl) rfl ?_
              refine r_append rfl rfl (by decide) rfl rfl rfl rfl rfl rfl (by decide) (by (simp <;> omega)) (by (simp <;> omega)) ?_
              refine mvR rfl ?_
              refine r_field_ptr rfl rfl rfl rfl rfl (by decide) ?_
              refine r_load_ptr rfl rfl (by decide) rfl rfl rfl ?_
              refine r_buildSlice (E := I64) (xs := [_]) rfl rfl rfl rfl rfl (by decide) (by decide) (by repeat (first | exact (Parts.nil : Parts _ _ [] _) | (show Parts _ _ ((_, _) :: _) _; apply Parts.one; (· exact (rfl : _ = Ty.int _ _)); (· exact rfl)))) (by exact rfl) rfl ?_
              refine r_append rfl rfl (by decide) rfl rfl rfl rfl rfl rfl (by decide) (by (simp <;> omega)) (by (simp <;> omega)) ?_
              refine r_field_ptr rfl rfl rfl rfl rfl (by decide) ?_
              refine r_store1 rfl rfl (by decide) rfl rfl (by exact (rfl : _ = Ty.row _ _ _ _)) rfl (by exact Nat.le_of_ble_eq_true rfl) rfl rfl (by exact rfl) ?_
              refine asR rfl ?_
              refine r_nil ?_
              refine ⟨by kernel_rfl, ?_⟩
              refine i_block ?_
              refine i_then ?_
              refine t_region ?_
              refine r_add rfl rfl (by omega) (by omega) ?_
              refine mvI rfl ?_
              refine r_nil ?_
              refine i_round (⟨k.1 + 1, by omega⟩) ?_ (by show d.m - (k.1 + 1) < d.m - k.1; omega)
              (refine Ent.mk' ?_ ?_ <;> (repeat' (first | exact allSub_zero | exact allTags_nil | exact subs_nil | refine allSub_succ' ?_ (Ty.sub_any _) | refine allSub_succ' ?_ (Ty.sub_refl _) | refine allTags_cons rfl (Cont.sub_refl _) ?_ | refine allTags_cons rfl (Cont.sub_subs ?_) ?_ | refine subs_cons ?_ (Ty.sub_refl _) | refine subs_cons ?_ ?_ | refine allTags_cons rfl ?_ ?_ | refine allSub_succ' ?_ ?_)))
              all_goals skip
              all_goals first | exact Ty.sub_int (congrArg (fun p => p.sk.mixed) (bn_succ d k.1).symm) | exact Ty.sub_int (congrArg (fun p => p.sk.taken) (bn_succ d k.1).symm) | exact Ty.sub_sl (congrArg (fun p => p.sk.grain) (bn_succ d k.1).symm) | exact Ty.sub_row (congrArg Mk.bins (bn_succ d k.1)).symm | exact Cont.sub_vec (congrArg Mk.bears (bn_succ d k.1)).symm | exact Ty.sub_row (congrArg Mk.left (bn_succ d k.1)).symm
    ·
      refine t_exit ?_
      refine i_then_exit ?_
      refine i_then_exit ?_
      refine i_block_exit rfl ?_
      refine i_then ?_
      refine t_seq ?_
      refine t_seq ?_
      have hx : ¬ (k.1 : Int) < (d.m : Nat) := hc1
      obtain ⟨k, hx2⟩ := k
      obtain rfl : k = d.m := by simp only at hx; omega
      refine t_region ?_
      refine r_field_ptr rfl rfl rfl rfl rfl (by decide) ?_
      refine r_load_ptr rfl rfl (by decide) rfl rfl rfl ?_
      refine r_len_vs rfl rfl rfl ?_
      refine mvI rfl ?_
      refine r_nil ?_
      refine i_then ?_
      refine t_block ?_
      refine t_loop (fun (i : {i : Nat // i ≤ d.n}) => live [(0, Ty.ptr 1000 0), (1, Ty.int .i64 (d.t : Nat)), (4, Ty.ptr 5 0), (5, Ty.ptr 6 0), (6, Ty.row I64 3 76 (d.bn d.m).left), (80, Ty.int .i64 (d.n : Nat)), (81, Ty.int .i64 (i.1 : Nat))] [(1000, Cont.cells 138 (skTys (d.up i.1).2)), (5, Cont.cells 27 [Ty.ex (.slice none 0 0), Ty.ex (.slice none 0 0), Ty.ex (.slice none 0 0), Ty.ex (.slice none 0 0)]), (6, Cont.cells 27 [Ty.vs 20 d.n, Ty.row BinE 69 71 (d.bn d.m).bins, Ty.row TrnE 71 171 [], Ty.row RulE 64 206 []]), (20, Cont.vec I64 3 (d.up i.1).1)]) (fun i => d.n - i.1) (⟨0, by omega⟩) ?_ fun i => ?_
      · (refine Ent.mk' ?_ ?_ <;> (repeat' (first | exact allSub_zero | exact allTags_nil | exact subs_nil | refine allSub_succ' ?_ (Ty.sub_any _) | refine allSub_succ' ?_ (Ty.sub_refl _) | refine allTags_cons rfl (Cont.sub_refl _) ?_ | refine allTags_cons rfl (Cont.sub_subs ?_) ?_ | refine subs_cons ?_ ?_ | refine allTags_cons rfl ?_ ?_)))
        all_goals first | exact Ty.sub_int (congrArg (fun p => p.2.mixed) (up_zero d).symm) | exact Ty.sub_int (congrArg (fun p => p.2.taken) (up_zero d).symm) | exact Ty.sub_sl (congrArg (fun p => p.2.grain) (up_zero d).symm) | exact Cont.sub_vec (congrArg Prod.fst (up_zero d)).symm
      ·
        have hi := i.2
        have hup := d.upOk i.1
        have hupt := hup.2.2
        have hun1 := skNext_taken (d.up i.1).2
        refine t_seq ?_
        refine t_region ?_
        refine r_bin rfl rfl rfl ?_
        refine r_nil ?_
        refine i_then ?_
        refine t_seq ?_
        refine t_cond_dec rfl (fun hc4 => ?_) (fun hc4 => ?_)
        ·
          refine t_skip ?_
          refine i_then ?_
          refine t_seq ?_
          refine t_block ?_
          refine t_seq ?_
          refine t_region ?_
          refine mvI rfl ?_
          refine asI rfl ?_
          refine r_nil ?_
          refine i_then ?_
          refine t_seq ?_
          refine t_draw mixed rfl ?_
          refine r_field_ptr rfl rfl rfl rfl rfl (by decide) ?_
          refine r_load_ptr rfl rfl (by decide) rfl rfl rfl ?_
          refine mvI rfl ?_
          refine r_index_vs rfl rfl rfl rfl rfl (by omega) ?_
          refine r_load_vecB rfl rfl rfl (by decide) rfl rfl (by omega) rfl ?_
          refine mvO rfl ?_
          refine r_callG [(1000, 1000)] [] [(1000, Cont.cells 138 (skTys (skNext (d.up i.1).2)))] (c_Below (d.up i.1).2 ⟨by omega, by omega⟩ _) rfl rfl (by repeat (first | exact cv_nil | refine cv_cons ?_ ?_ | exact cv_ptr List.mem_cons_self | exact cv_pub rfl rfl)) (pre_cons (a := 1000) (b := 1000) (by exact List.mem_cons_self) rfl (cc_cells_eq (by exact List.mem_cons_self) rfl rfl rfl) pre_nil) (post_cons (a := 1000) (b := 1000) (by exact List.mem_cons_self) rfl (cc_cells_eq (by exact List.mem_cons_self) rfl rfl rfl) post_nil) (cv_pub rfl rfl) ?_
          refine r_bin rfl rfl rfl ?_
          refine r_index_vs rfl rfl rfl rfl rfl (by omega) ?_
          refine r_store_vecB rfl rfl rfl (by decide) rfl rfl (by exact (rfl : _ = Ty.int _ _)) rfl (by omega) (by decide) rfl rfl ?_
          refine r_nil ?_
          refine ⟨by kernel_rfl, ?_⟩
          refine i_then ?_
          refine t_seq ?_
          refine t_region ?_
          refine mvO rfl ?_
          refine r_callG [(1000, 1000)] [] [(1000, Cont.cells 138 (skTys (skNext (skNext (d.up i.1).2))))] (c_Rare (skNext (d.up i.1).2) ⟨by omega, by omega⟩ _) rfl rfl (by repeat (first | exact cv_nil | refine cv_cons ?_ ?_ | exact cv_ptr List.mem_cons_self | exact cv_pub rfl rfl)) (pre_cons (a := 1000) (b := 1000) (by exact List.mem_cons_self) rfl (cc_cells_eq (by exact List.mem_cons_self) rfl rfl rfl) pre_nil) (post_cons (a := 1000) (b := 1000) (by exact List.mem_cons_self) rfl (cc_cells_eq (by exact List.mem_cons_self) rfl rfl rfl) post_nil) (cv_pub rfl rfl) ?_
          refine r_nil ?_
          refine i_then ?_
          refine t_cond rfl (fun hc5 => ?_) (fun hc5 => ?_)
          ·
            refine t_draw mixed rfl ?_
            refine r_field_ptr rfl rfl rfl rfl rfl (by decide) ?_
            refine r_load_ptr rfl rfl (by decide) rfl rfl rfl ?_
            refine mvI rfl ?_
            refine r_field_ptr rfl rfl rfl rfl rfl (by decide) ?_
            refine r_load_ptr rfl rfl (by decide) rfl rfl rfl ?_
            refine mvI rfl ?_
            refine r_index_vs rfl rfl rfl rfl rfl (by omega) ?_
            refine r_load_vecB rfl rfl rfl (by decide) rfl rfl (by (simp <;> omega)) rfl ?_
            refine r_bin rfl rfl rfl ?_
            refine r_max rfl rfl ?_
            refine r_index_vs rfl rfl rfl rfl rfl (by omega) ?_
            refine r_store_vecB rfl rfl rfl (by decide) rfl rfl (by exact (rfl : _ = Ty.int _ _)) rfl (by (simp <;> omega)) (by decide) rfl rfl ?_
            refine r_nil ?_
            refine ⟨by kernel_rfl, ?_⟩
            refine i_block ?_
            refine i_then ?_
            refine t_region ?_
            refine r_add rfl rfl (by omega) (by omega) ?_
            refine mvI rfl ?_
            refine r_nil ?_
            refine i_round (⟨i.1 + 1, by omega⟩) ?_ (by show d.n - (i.1 + 1) < d.n - i.1; omega)
            (refine Ent.mk' ?_ ?_ <;> (repeat' (first | exact allSub_zero | exact allTags_nil | exact subs_nil | refine allSub_succ' ?_ (Ty.sub_any _) | refine allSub_succ' ?_ (Ty.sub_refl _) | refine allTags_cons rfl (Cont.sub_refl _) ?_ | refine allTags_cons rfl (Cont.sub_subs ?_) ?_ | refine subs_cons ?_ ?_ | refine allTags_cons rfl ?_ ?_)))
            all_goals skip
            all_goals first | exact Ty.sub_int (congrArg Sk.mixed (up_sk d i.1)).symm | exact Ty.sub_int (congrArg Sk.taken (up_sk d i.1)).symm | exact Ty.sub_sl (congrArg Sk.grain (up_sk d i.1)).symm | exact Cont.sub_vec ((up_set2 (by omega)).trans (up_yes d i.1 hc5).symm)
          ·
            refine t_skip ?_
            refine i_block ?_
            refine i_then ?_
            refine t_region ?_
            refine r_add rfl rfl (by omega) (by omega) ?_
            refine mvI rfl ?_
            refine r_nil ?_
            refine i_round (⟨i.1 + 1, by omega⟩) ?_ (by show d.n - (i.1 + 1) < d.n - i.1; omega)
            (refine Ent.mk' ?_ ?_ <;> (repeat' (first | exact allSub_zero | exact allTags_nil | exact subs_nil | refine allSub_succ' ?_ (Ty.sub_any _) | refine allSub_succ' ?_ (Ty.sub_refl _) | refine allTags_cons rfl (Cont.sub_refl _) ?_ | refine allTags_cons rfl (Cont.sub_subs ?_) ?_ | refine subs_cons ?_ ?_ | refine allTags_cons rfl ?_ ?_)))
            all_goals skip
            all_goals first | exact Ty.sub_int (congrArg Sk.mixed (up_sk d i.1)).symm | exact Ty.sub_int (congrArg Sk.taken (up_sk d i.1)).symm | exact Ty.sub_sl (congrArg Sk.grain (up_sk d i.1)).symm | exact Cont.sub_vec ((up_set (by omega)).trans (up_no d i.1 hc5).symm)
        ·
          refine t_exit ?_
          refine i_then_exit ?_
          refine i_then_exit ?_
          refine i_block_exit rfl ?_
          refine i_then ?_
          refine t_seq ?_
          refine t_seq ?_
          have hx : ¬ (i.1 : Int) < (d.n : Nat) := hc4
          obtain ⟨i, hx2⟩ := i
          obtain rfl : i = d.n := by simp only at hx; omega
          refine t_own (s := 6) rfl rfl ?_
          refine t_region ?_
          refine mvO rfl ?_
          refine mvI rfl ?_
          refine r_add rfl rfl (by omega) (by omega) ?_
          refine r_callG [(1000, 1000)] [] [(1000, Cont.cells 138 (skTys (skNext (d.up d.n).2)))] (c_Below (d.up d.n).2 ⟨by omega, by omega⟩ _) rfl rfl (by repeat (first | exact cv_nil | refine cv_cons ?_ ?_ | exact cv_ptr List.mem_cons_self | exact cv_pub rfl rfl)) (pre_cons (a := 1000) (b := 1000) (by exact List.mem_cons_self) rfl (cc_cells_eq (by exact List.mem_cons_self) rfl rfl rfl) pre_nil) (post_cons (a := 1000) (b := 1000) (by exact List.mem_cons_self) rfl (cc_cells_eq (by exact List.mem_cons_self) rfl rfl rfl) post_nil) (cv_pub rfl rfl) ?_
          refine mvI rfl ?_
          refine r_nil ?_
          refine i_then ?_
          refine t_block ?_
          refine t_loop (fun (k : {k : Nat // k ≤ d.T}) => live [(0, Ty.ptr 1000 0), (1, Ty.int .i64 (d.t : Nat)), (4, Ty.ptr 5 0), (5, Ty.ptr 6 0), (6, Ty.vs 76 d.m), (110, Ty.int .i64 (d.T : Nat)), (111, Ty.int .i64 (k.1 : Nat))] [(1000, Cont.cells 138 (skTys (d.tk k.1).sk)), (5, Cont.cells 27 [Ty.ex (.slice none 0 0), Ty.ex (.slice none 0 0), Ty.ex (.slice none 0 0), Ty.ex (.slice none 0 0)]), (6, Cont.cells 27 [Ty.vs 20 d.n, Ty.row BinE 69 71 (d.bn d.m).bins, Ty.row TrnE 71 171 (d.tk k.1).trn, Ty.row RulE 64 206 []]), (20, Cont.vec I64 3 (d.up d.n).1), (76, Cont.vec I64 3 (d.tk k.1).left)]) (fun k => d.T - k.1) (⟨0, by omega⟩) ?_ fun k => ?_
          · (refine Ent.mk' ?_ ?_ <;> (repeat' (first | exact allSub_zero | exact allTags_nil | exact subs_nil | refine allSub_succ' ?_ (Ty.sub_any _) | refine allSub_succ' ?_ (Ty.sub_refl _) | refine allTags_cons rfl (Cont.sub_refl _) ?_ | refine allTags_cons rfl (Cont.sub_subs ?_) ?_ | refine subs_cons ?_ (Ty.sub_refl _) | refine subs_cons ?_ ?_ | refine allTags_cons rfl ?_ ?_ | refine allSub_succ' ?_ ?_)))
            all_goals first | exact Ty.sub_eq (congrArg (Ty.vs 76) d.left_pos.1) | exact Ty.sub_int d.T_in.2.symm | exact Ty.sub_int (congrArg (fun p => p.sk.mixed) (tk_zero d).symm) | exact Ty.sub_int (congrArg (fun p => p.sk.taken) (tk_zero d).symm) | exact Ty.sub_sl (congrArg (fun p => p.sk.grain) (tk_zero d).symm) | exact Ty.sub_row (congrArg Tk.trn (tk_zero d)).symm | exact Cont.sub_vec (congrArg Tk.left (tk_zero d)).symm
          ·
            have hk := k.2
            have htk := d.tkOk k.1
            have htt := htk.taken
            have hsi := src_in d.m_in.1 (d.tk k.1)
            have htl := htk.left
            have htl2 := htk.trn
            have ham := among_in (s := (d.tk k.1).sk) (show (-1 : Int) ≤ (((d.bn d.m).bins.length : Nat) : Int) - 1 by omega)
            have hti := mkTrn_ok d.m_in.1 htk.pos
            have hn1 := skNext_taken (d.tk k.1).sk
            have hn2 := skNext_taken (skNext (d.tk k.1).sk)
            refine t_seq ?_
            refine t_region ?_
            refine r_bin rfl rfl rfl ?_
            refine r_nil ?_
            refine i_then ?_
            refine t_seq ?_
            refine t_cond_dec rfl (fun hc6 => ?_) (fun hc6 => ?_)
            ·
              refine t_skip ?_
              refine i_then ?_
              refine t_seq ?_
              refine t_block ?_
              refine t_seq ?_
              refine t_draw mixed rfl ?_
              refine mvO rfl ?_
              refine r_field_ptr rfl rfl rfl rfl rfl (by decide) ?_
              refine r_load_ptr rfl rfl (by decide) rfl rfl rfl ?_
              refine r_len_row rfl rfl rfl ?_
              refine r_sub rfl rfl (by omega) (by omega) ?_
              refine r_callG [(1000, 1000)] [] [(1000, Cont.cells 138 (skTys (skNext (d.tk k.1).sk)))] (c_Among (d.tk k.1).sk ⟨by omega, by omega⟩ (-1) ((((d.bn d.m).bins.length : Nat) : Int) - 1) (by omega) (by omega)) rfl rfl (by repeat (first | exact cv_nil | refine cv_cons ?_ ?_ | exact cv_ptr List.mem_cons_self | exact cv_pub rfl rfl)) (pre_cons (a := 1000) (b := 1000) (by exact List.mem_cons_self) rfl (cc_cells_eq (by exact List.mem_cons_self) rfl rfl rfl) pre_nil) (post_cons (a := 1000) (b := 1000) (by exact List.mem_cons_self) rfl (cc_cells_eq (by exact List.mem_cons_self) rfl rfl rfl) post_nil) (cv_pub rfl rfl) ?_
              refine mvO rfl ?_
              refine r_field_ptr rfl rfl rfl rfl rfl (by decide) ?_
              refine r_load_ptr rfl rfl (by decide) rfl rfl rfl ?_
              refine r_len_row rfl rfl rfl ?_
              refine r_sub rfl rfl (by omega) (by omega) ?_
              refine r_callG [(1000, 1000)] [] [(1000, Cont.cells 138 (skTys (skNext (skNext (d.tk k.1).sk))))] (c_Among (skNext (d.tk k.1).sk) ⟨by omega, by omega⟩ (-1) ((((d.bn d.m).bins.length : Nat) : Int) - 1) (by omega) (by omega)) rfl rfl (by repeat (first | exact cv_nil | refine cv_cons ?_ ?_ | exact cv_ptr List.mem_cons_self | exact cv_pub rfl rfl)) (pre_cons (a := 1000) (b := 1000) (by exact List.mem_cons_self) rfl (cc_cells_eq (by exact List.mem_cons_self) rfl rfl rfl) pre_nil) (post_cons (a := 1000) (b := 1000) (by exact List.mem_cons_self) rfl (cc_cells_eq (by exact List.mem_cons_self) rfl rfl rfl) post_nil) (cv_pub rfl rfl) ?_
              refine asI rfl ?_
              refine asI rfl ?_
              refine r_nil ?_
              refine ⟨by kernel_rfl, ?_⟩
              refine i_then ?_
              refine t_join (J := live [(0, Ty.ptr 1000 0), (1, Ty.int .i64 (d.t : Nat)), (4, Ty.ptr 5 0), (5, Ty.ptr 6 0), (6, Ty.vs 76 d.m), (110, Ty.int .i64 (d.T : Nat)), (111, Ty.int .i64 (k.1 : Nat)), (11, Ty.int .i64 (tkSrc d.m (d.tk k.1))), (12, Ty.int .i64 (skAmong (skNext (d.tk k.1).sk) (-1) ((((d.bn d.m).bins.length : Nat) : Int) - 1)))] [(1000, Cont.cells 138 (skTys (skNext (skNext (d.tk k.1).sk)))), (5, Cont.cells 27 [Ty.ex (.slice none 0 0), Ty.ex (.slice none 0 0), Ty.ex (.slice none 0 0), Ty.ex (.slice none 0 0)]), (6, Cont.cells 27 [Ty.vs 20 d.n, Ty.row BinE 69 71 (d.bn d.m).bins, Ty.row TrnE 71 171 (d.tk k.1).trn, Ty.row RulE 64 206 []]), (20, Cont.vec I64 3 (d.up d.n).1), (76, Cont.vec I64 3 (d.tk k.1).left)]) ?_ ?_
              ·
                refine t_seq ?_
                refine t_region ?_
                refine mvI rfl ?_
                refine r_bin rfl rfl rfl ?_
                refine mvB rfl ?_
                apply r_guard (s := 127) rfl rfl rfl
                · intro hg; apply opT_of; (refine mvV rfl ?_); refine r_nil ?_; exact rfl
                · exact rfl
                · exact rfl
                apply r_guard (s := 127) rfl rfl rfl
                · intro hg; apply opT_of; (refine mvI rfl ?_); refine r_nil ?_; exact rfl
                · exact rfl
                · exact rfl
                apply r_guard (s := 127) rfl rfl rfl
                · intro hg; apply opT_strip (s := 128) rfl (by (rw [hg]; rfl)); apply opT_strip (s := 129) rfl (by (rw [hg]; rfl)); apply opT_of; (refine r_index_vsI rfl rfl rfl rfl rfl (by have := ne_of_hg hg; omega) (by have := ne_of_hg hg; omega) ?_); refine r_nil ?_; exact rfl
                · exact rfl
                · exact rfl
                apply r_guard (s := 127) rfl rfl rfl
                · intro hg; apply opT_strip (s := 130) rfl (by (rw [hg]; rfl)); apply opT_of; (refine r_load_vecB rfl rfl rfl (by decide) rfl rfl (by omega) rfl ?_); refine r_nil ?_; exact rfl
                · exact rfl
                · exact rfl
                apply r_guard (s := 127) rfl rfl rfl
                · intro hg; apply opT_strip (s := 131) rfl (by (rw [hg]; rfl)); apply opT_of; (refine r_bin rfl rfl rfl ?_); refine r_nil ?_; exact rfl
                · exact rfl
                · exact rfl
                refine r_and rfl rfl ?_
                refine r_nil ?_
                refine i_then ?_
                refine t_cond rfl (fun hc7 => ?_) (fun hc7 => ?_)
                ·
                  refine t_region ?_
                  refine asI rfl ?_
                  refine r_nil ?_
                  refine i_join ?_
                  (refine Ent.mk' ?_ ?_ <;> (repeat' (first | exact allSub_zero | exact allTags_nil | refine allSub_succ' ?_ (Ty.sub_any _) | refine allSub_succ' ?_ (Ty.sub_refl _) | refine allTags_cons rfl (Cont.sub_refl _) ?_ | refine allSub_succ' ?_ ?_)))
                  all_goals exact Ty.sub_int (src_yes hbm.bins _ hc7)
                ·
                  refine t_skip ?_
                  refine i_join ?_
                  (refine Ent.mk' ?_ ?_ <;> (repeat' (first | exact allSub_zero | exact allTags_nil | refine allSub_succ' ?_ (Ty.sub_any _) | refine allSub_succ' ?_ (Ty.sub_refl _) | refine allTags_cons rfl (Cont.sub_refl _) ?_ | refine allSub_succ' ?_ ?_)))
                  all_goals exact Ty.sub_int (src_no hbm.bins _ hc7)
              ·
                refine t_join (J := live [(0, Ty.ptr 1000 0), (1, Ty.int .i64 (d.t : Nat)), (4, Ty.ptr 5 0), (5, Ty.ptr 6 0), (6, Ty.vs 76 d.m), (110, Ty.int .i64 (d.T : Nat)), (111, Ty.int .i64 (k.1 : Nat)), (11, Ty.int .i64 (tkSrc d.m (d.tk k.1))), (12, Ty.int .i64 (tkDst d.m (d.tk k.1)))] [(1000, Cont.cells 138 (skTys (skNext (skNext (d.tk k.1).sk)))), (5, Cont.cells 27 [Ty.ex (.slice none 0 0), Ty.ex (.slice none 0 0), Ty.ex (.slice none 0 0), Ty.ex (.slice none 0 0)]), (6, Cont.cells 27 [Ty.vs 20 d.n, Ty.row BinE 69 71 (d.bn d.m).bins, Ty.row TrnE 71 171 (d.tk k.1).trn, Ty.row RulE 64 206 []]), (20, Cont.vec I64 3 (d.up d.n).1), (76, Cont.vec I64 3 (d.tk k.1).left)]) ?_ ?_
                ·
                  refine t_seq ?_
                  refine t_region ?_
                  refine mvI rfl ?_
                  refine mvI rfl ?_
                  refine r_bin rfl rfl rfl ?_
                  refine r_nil ?_
                  refine i_then ?_
                  refine t_cond_dec rfl (fun hc8 => ?_) (fun hc8 => ?_)
                  ·
                    refine t_region ?_
                    refine mvI rfl ?_
                    refine r_add rfl rfl (by omega) (by omega) ?_
                    refine r_field_ptr rfl rfl rfl rfl rfl (by decide) ?_
                    refine r_load_ptr rfl rfl (by decide) rfl rfl rfl ?_
                    refine r_len_row rfl rfl rfl ?_
                    refine r_call (c_Mod _ _ (by omega) (by omega)) rfl rfl rfl rfl rfl ?_
                    refine asI rfl ?_
                    refine r_nil ?_
                    refine i_join ?_
                    (refine Ent.mk' ?_ ?_ <;> (repeat' (first | exact allSub_zero | exact allTags_nil | refine allSub_succ' ?_ (Ty.sub_any _) | refine allSub_succ' ?_ (Ty.sub_refl _) | refine allTags_cons rfl (Cont.sub_refl _) ?_ | refine allSub_succ' ?_ ?_)))
                    all_goals exact Ty.sub_int (dst_yes hbm.bins _ hc8)
                  ·
                    refine t_skip ?_
                    refine i_join ?_
                    (refine Ent.mk' ?_ ?_ <;> (repeat' (first | exact allSub_zero | exact allTags_nil | refine allSub_succ' ?_ (Ty.sub_any _) | refine allSub_succ' ?_ (Ty.sub_refl _) | refine allTags_cons rfl (Cont.sub_refl _) ?_ | refine allSub_succ' ?_ ?_)))
                    all_goals exact Ty.sub_int (dst_no hbm.bins _ hc8)
                ·
                  refine t_seq ?_
                  refine t_region ?_
                  refine mvI rfl ?_
                  refine mvI rfl ?_
                  refine mvO rfl ?_
                  refine r_callG [(1000, 1000)] [] [(1000, Cont.cells 138 (skTys (skNext (skNext (skNext (d.tk k.1).sk)))))] (c_Among (skNext (skNext (d.tk k.1).sk)) ⟨by omega, by omega⟩ 1 20 (by omega) (by omega)) rfl rfl (by repeat (first | exact cv_nil | refine cv_cons ?_ ?_ | exact cv_ptr List.mem_cons_self | exact cv_pub rfl rfl)) (pre_cons (a := 1000) (b := 1000) (by exact List.mem_cons_self) rfl (cc_cells_eq (by exact List.mem_cons_self) rfl rfl rfl) pre_nil) (post_cons (a := 1000) (b := 1000) (by exact List.mem_cons_self) rfl (cc_cells_eq (by exact List.mem_cons_self) rfl rfl rfl) post_nil) (cv_pub rfl rfl) ?_
                  refine r_build rfl rfl (by exact List.cons_ne_nil _ _) rfl (by repeat (first | exact (Parts.nil : Parts _ _ [] _) | (show Parts _ _ ((_, _) :: _) _; apply Parts.one; (· exact (rfl : _ = Ty.int _ _)); (· exact rfl)))) (by exact (rfl : _ = some [_, _, _])) ?_
                  refine r_alloc rfl (by exact List.cons_ne_nil _ _) rfl ?_
                  refine r_storeN rfl rfl (by decide) rfl rfl rfl rfl rfl rfl ?_
                  refine r_nil ?_
                  refine i_then ?_
                  refine t_join (J := live [(0, Ty.ptr 1000 0), (1, Ty.int .i64 (d.t : Nat)), (4, Ty.ptr 5 0), (5, Ty.ptr 6 0), (6, Ty.vs 76 d.m), (110, Ty.int .i64 (d.T : Nat)), (111, Ty.int .i64 (k.1 : Nat)), (13, Ty.ptr 14 0)] [(1000, Cont.cells 138 (skTys (skNext (skNext (skNext (d.tk k.1).sk))))), (5, Cont.cells 27 [Ty.ex (.slice none 0 0), Ty.ex (.slice none 0 0), Ty.ex (.slice none 0 0), Ty.ex (.slice none 0 0)]), (6, Cont.cells 27 [Ty.vs 20 d.n, Ty.row BinE 69 71 (d.bn d.m).bins, Ty.row TrnE 71 171 (d.tk k.1).trn, Ty.row RulE 64 206 []]), (20, Cont.vec I64 3 (d.up d.n).1), (76, Cont.vec I64 3 (leftOf (d.tk k.1).left (tkSrc d.m (d.tk k.1)) (tkSacks d.m (d.tk k.1)))), (14, Cont.cells 71 [Ty.int .i64 (tkSrc d.m (d.tk k.1)), Ty.int .i64 (tkDst d.m (d.tk k.1)), Ty.int .i64 (tkSacks d.m (d.tk k.1))])]) ?_ ?_
                  ·
                    refine t_seq ?_
                    refine t_region ?_
                    refine mvI rfl ?_
                    refine r_bin rfl rfl rfl ?_
                    refine r_nil ?_
                    refine i_then ?_
                    refine t_cond_ndec rfl (fun hc9 => ?_) (fun hc9 => ?_)
                    ·
                      refine t_seq ?_
                      refine t_draw mixed rfl ?_
                      refine r_field_ptr rfl rfl rfl rfl rfl (by decide) ?_
                      refine r_load_ptr rfl rfl (by decide) rfl rfl rfl ?_
                      refine mvV rfl ?_
                      refine mvI rfl ?_
                      refine r_index_vsI rfl rfl rfl rfl rfl (by omega) (by omega) ?_
                      refine r_load_vecB rfl rfl rfl (by decide) rfl rfl (by omega) rfl ?_
                      refine r_min rfl rfl ?_
                      refine r_field_ptr rfl rfl rfl rfl rfl (by decide) ?_
                      refine r_store1 rfl rfl (by decide) rfl rfl (by exact (rfl : _ = Ty.int _ _)) rfl (by exact Nat.le_of_ble_eq_true rfl) rfl rfl (by exact rfl) ?_
                      refine r_nil ?_
                      refine ⟨by kernel_rfl, ?_⟩
                      refine i_then ?_
                      refine t_draw mixed rfl ?_
                      refine mvV rfl ?_
                      refine mvI rfl ?_
                      refine r_index_vsI rfl rfl rfl rfl rfl (by omega) (by omega) ?_
                      refine r_load_vecB rfl rfl rfl (by decide) rfl rfl (by omega) rfl ?_
                      refine r_field_ptr rfl rfl rfl rfl rfl (by decide) ?_
                      refine r_load_ptr rfl rfl (by decide) rfl rfl rfl ?_
                      refine r_bin rfl rfl rfl ?_
                      refine r_index_vsI rfl rfl rfl rfl rfl (by omega) (by omega) ?_
                      refine r_store_vecB rfl rfl rfl (by decide) rfl rfl (by exact (rfl : _ = Ty.int _ _)) rfl (by omega) (by decide) rfl rfl ?_
                      refine r_nil ?_
                      refine ⟨by kernel_rfl, ?_⟩
                      refine i_join ?_
                      (refine Ent.mk' ?_ ?_ <;> (repeat' (first | exact allSub_zero | exact allTags_nil | exact subs_nil | refine allSub_succ' ?_ (Ty.sub_any _) | refine allSub_succ' ?_ (Ty.sub_refl _) | refine allTags_cons rfl (Cont.sub_refl _) ?_ | refine allTags_cons rfl (Cont.sub_subs ?_) ?_ | refine subs_cons ?_ (Ty.sub_refl _) | refine subs_cons ?_ ?_ | refine allTags_cons rfl ?_ ?_)))
                      all_goals first | exact Cont.sub_vec (left_yes hc9 (left_bound (by omega))) | exact Ty.sub_int (sacks_yes hc9)
                    ·
                      refine t_skip ?_
                      refine i_join ?_
                      (refine Ent.mk' ?_ ?_ <;> (repeat' (first | exact allSub_zero | exact allTags_nil | exact subs_nil | refine allSub_succ' ?_ (Ty.sub_any _) | refine allSub_succ' ?_ (Ty.sub_refl _) | refine allTags_cons rfl (Cont.sub_refl _) ?_ | refine allTags_cons rfl (Cont.sub_subs ?_) ?_ | refine subs_cons ?_ (Ty.sub_refl _) | refine subs_cons ?_ ?_ | refine allTags_cons rfl ?_ ?_)))
                      all_goals first | exact Cont.sub_vec (left_no hc9) | exact Ty.sub_int (sacks_no hc9)
                  ·
                    refine t_region ?_
                    refine r_field_ptr rfl rfl rfl rfl rfl (by decide) ?_
                    refine r_load_ptr rfl rfl (by decide) rfl rfl rfl ?_
                    refine r_load_ptrN rfl rfl (by decide) rfl rfl (by exact Nat.le_of_ble_eq_true rfl) ?_
                    refine r_buildSlice (E := TrnE) (xs := [mkTrn d.m (d.tk k.1)]) rfl rfl rfl rfl rfl (by decide) (by decide) (by repeat (first | exact (Parts.nil : Parts _ _ [] _) | (show Parts _ _ ((_, _) :: _) _; apply Parts.agg; (· exact (rfl : _ = Ty.agg _))))) (by exact rfl) rfl ?_
                    refine r_append rfl rfl (by decide) rfl rfl rfl rfl rfl rfl (by decide) (by (simp <;> omega)) (by (simp <;> omega)) ?_
                    refine r_field_ptr rfl rfl rfl rfl rfl (by decide) ?_
                    refine r_store1 rfl rfl (by decide) rfl rfl (by exact (rfl : _ = Ty.row _ _ _ _)) rfl (by exact Nat.le_of_ble_eq_true rfl) rfl rfl (by exact rfl) ?_
                    refine r_nil ?_
                    refine i_block ?_
                    refine i_then ?_
                    refine t_region ?_
                    refine r_add rfl rfl (by omega) (by omega) ?_
                    refine mvI rfl ?_
                    refine r_nil ?_
                    refine i_round (⟨k.1 + 1, by omega⟩) ?_ (by show d.T - (k.1 + 1) < d.T - k.1; omega)
                    (refine Ent.mk' ?_ ?_ <;> (repeat' (first | exact allSub_zero | exact allTags_nil | exact subs_nil | refine allSub_succ' ?_ (Ty.sub_any _) | refine allSub_succ' ?_ (Ty.sub_refl _) | refine allTags_cons rfl (Cont.sub_refl _) ?_ | refine allTags_cons rfl (Cont.sub_subs ?_) ?_ | refine subs_cons ?_ (Ty.sub_refl _) | refine subs_cons ?_ ?_ | refine allTags_cons rfl ?_ ?_)))
                    all_goals skip
                    all_goals first | exact Ty.sub_int (congrArg (fun p => p.sk.mixed) (tk_succ d k.1).symm) | exact Ty.sub_int (congrArg (fun p => p.sk.taken) (tk_succ d k.1).symm) | exact Ty.sub_sl (congrArg (fun p => p.sk.grain) (tk_succ d k.1).symm) | exact Ty.sub_row (congrArg Tk.trn (tk_succ d k.1)).symm | exact Cont.sub_vec (congrArg Tk.left (tk_succ d k.1)).symm
            ·
              refine t_exit ?_
              refine i_then_exit ?_
              refine i_then_exit ?_
              refine i_block_exit rfl ?_
              refine i_then ?_
              refine t_seq ?_
              have hx : ¬ (k.1 : Int) < (d.T : Nat) := hc6
              obtain ⟨k, hx2⟩ := k
              obtain rfl : k = d.T := by simp only at hx; omega
              refine t_region ?_
              refine mvO rfl ?_
              refine r_field_ptr rfl rfl rfl rfl rfl (by decide) ?_
              refine r_load_ptr rfl rfl (by decide) rfl rfl rfl ?_
              refine r_len_row rfl rfl rfl ?_
              refine r_callG [(1000, 1000)] [] [(1000, Cont.cells 138 (skTys (d.order.2)))] (c_Shuf (d.tk d.T).sk d.T (d.tk d.T).trn.length htTl (by omega) ⟨by omega, by omega⟩) rfl rfl (by repeat (first | exact cv_nil | refine cv_cons ?_ ?_ | exact cv_ptr List.mem_cons_self | exact cv_pub rfl rfl)) (pre_cons (a := 1000) (b := 1000) (by exact List.mem_cons_self) rfl (cc_cells_eq (by exact List.mem_cons_self) rfl rfl rfl) pre_nil) (post_cons (a := 1000) (b := 1000) (by exact List.mem_cons_self) rfl (cc_cells_eq (by exact List.mem_cons_self) rfl rfl rfl) post_nil) (cv_pub rfl rfl) ?_
              refine asS rfl ?_
              refine r_nil ?_
              refine i_then ?_
              refine t_seq ?_
              refine t_seq ?_
              refine t_region ?_
              refine mvO rfl ?_
              refine r_callG [(1000, 1000)] [] [(1000, Cont.cells 138 (skTys (skNext d.order.2)))] (c_Below d.order.2 ⟨by omega, by omega⟩ _) rfl rfl (by repeat (first | exact cv_nil | refine cv_cons ?_ ?_ | exact cv_ptr List.mem_cons_self | exact cv_pub rfl rfl)) (pre_cons (a := 1000) (b := 1000) (by exact List.mem_cons_self) rfl (cc_cells_eq (by exact List.mem_cons_self) rfl rfl rfl) pre_nil) (post_cons (a := 1000) (b := 1000) (by exact List.mem_cons_self) rfl (cc_cells_eq (by exact List.mem_cons_self) rfl rfl rfl) post_nil) (cv_pub rfl rfl) ?_
              refine mvI rfl ?_
              refine r_nil ?_
              refine i_then ?_
              refine t_block ?_
              refine t_loop (fun (k : {k : Nat // k ≤ d.R}) => live [(0, Ty.ptr 1000 0), (1, Ty.int .i64 (d.t : Nat)), (4, Ty.ptr 5 0), (5, Ty.ptr 6 0), (14, Ty.sl I64 d.order.1), (179, Ty.int .i64 (d.R : Nat)), (180, Ty.int .i64 (k.1 : Nat))] [(1000, Cont.cells 138 (skTys (d.ru k.1).2)), (5, Cont.cells 27 [Ty.ex (.slice none 0 0), Ty.ex (.slice none 0 0), Ty.ex (.slice none 0 0), Ty.ex (.slice none 0 0)]), (6, Cont.cells 27 [Ty.vs 20 d.n, Ty.row BinE 69 71 (d.bn d.m).bins, Ty.row TrnE 71 171 (d.tk d.T).trn, Ty.row RulE 64 206 (d.ru k.1).1]), (20, Cont.vec I64 3 (d.up d.n).1)]) (fun k => d.R - k.1) (⟨0, by omega⟩) ?_ fun k => ?_
              · (refine Ent.mk' ?_ ?_ <;> (repeat' (first | exact allSub_zero | exact allTags_nil | exact subs_nil | refine allSub_succ' ?_ (Ty.sub_any _) | refine allSub_succ' ?_ (Ty.sub_refl _) | refine allTags_cons rfl (Cont.sub_refl _) ?_ | refine allTags_cons rfl (Cont.sub_subs ?_) ?_ | refine subs_cons ?_ (Ty.sub_refl _) | refine subs_cons ?_ ?_ | refine allSub_succ' ?_ ?_)))
                all_goals first | exact Ty.sub_int d.R_in.2.symm | exact Ty.sub_int (congrArg (fun p => p.2.mixed) (ru_zero d).symm) | exact Ty.sub_int (congrArg (fun p => p.2.taken) (ru_zero d).symm) | exact Ty.sub_sl (congrArg (fun p => p.2.grain) (ru_zero d).symm) | exact Ty.sub_row (congrArg Prod.fst (ru_zero d)).symm
              ·
                have hk := k.2
                have hru := d.ruOk k.1
                have hrt := hru.2.2
                have hru1 := skNext_taken (d.ru k.1).2
                have hb1 := skBelow_bound (d.ru k.1).2 (d.order.1.length : Nat)
                have hb2 := skBelow_bound (skNext (d.ru k.1).2) (d.order.1.length : Nat)
                refine t_seq ?_
                refine t_region ?_
                refine r_bin rfl rfl rfl ?_
                refine r_nil ?_
                refine i_then ?_
                refine t_seq ?_
                refine t_cond_dec rfl (fun hc10 => ?_) (fun hc10 => ?_)
                ·
                  refine t_skip ?_
                  refine i_then ?_
                  refine t_seq ?_
                  refine t_block ?_
                  refine t_seq ?_
                  refine t_region ?_
                  refine mvO rfl ?_
                  refine mvS rfl ?_
                  refine r_len rfl rfl rfl ?_
                  refine r_callG [(1000, 1000)] [] [(1000, Cont.cells 138 (skTys (skNext (d.ru k.1).2)))] (c_Below (d.ru k.1).2 ⟨by omega, by omega⟩ _) rfl rfl (by repeat (first | exact cv_nil | refine cv_cons ?_ ?_ | exact cv_ptr List.mem_cons_self | exact cv_pub rfl rfl)) (pre_cons (a := 1000) (b := 1000) (by exact List.mem_cons_self) rfl (cc_cells_eq (by exact List.mem_cons_self) rfl rfl rfl) pre_nil) (post_cons (a := 1000) (b := 1000) (by exact List.mem_cons_self) rfl (cc_cells_eq (by exact List.mem_cons_self) rfl rfl rfl) post_nil) (cv_pub rfl rfl) ?_
                  refine mvO rfl ?_
                  refine mvS rfl ?_
                  refine r_len rfl rfl rfl ?_
                  refine r_callG [(1000, 1000)] [] [(1000, Cont.cells 138 (skTys (skNext (skNext (d.ru k.1).2))))] (c_Below (skNext (d.ru k.1).2) ⟨by omega, by omega⟩ _) rfl rfl (by repeat (first | exact cv_nil | refine cv_cons ?_ ?_ | exact cv_ptr List.mem_cons_self | exact cv_pub rfl rfl)) (pre_cons (a := 1000) (b := 1000) (by exact List.mem_cons_self) rfl (cc_cells_eq (by exact List.mem_cons_self) rfl rfl rfl) pre_nil) (post_cons (a := 1000) (b := 1000) (by exact List.mem_cons_self) rfl (cc_cells_eq (by exact List.mem_cons_self) rfl rfl rfl) post_nil) (cv_pub rfl rfl) ?_
                  refine asI rfl ?_
                  refine asI rfl ?_
                  refine r_nil ?_
                  refine i_then ?_
                  refine t_seq ?_
                  refine t_region ?_
                  refine mvI rfl ?_
                  refine mvI rfl ?_
                  refine r_bin rfl rfl rfl ?_
                  refine r_nil ?_
                  refine i_then ?_
                  refine t_cond_dec rfl (fun hc11 => ?_) (fun hc11 => ?_)
                  ·
                    refine t_draw mixed rfl ?_
                    refine r_field_ptr rfl rfl rfl rfl rfl (by decide) ?_
                    refine r_load_ptr rfl rfl (by decide) rfl rfl rfl ?_
                    refine mvS rfl ?_
                    refine mvI rfl ?_
                    refine r_index_sl rfl rfl rfl rfl rfl rfl (by omega) (by omega) ?_
                    refine r_load_pp rfl rfl rfl rfl ?_
                    refine mvS rfl ?_
                    refine mvI rfl ?_
                    refine r_index_sl rfl rfl rfl rfl rfl rfl (by omega) (by omega) ?_
                    refine r_load_pp rfl rfl rfl rfl ?_
                    refine r_build rfl rfl (by exact List.cons_ne_nil _ _) rfl (by repeat (first | exact (Parts.nil : Parts _ _ [] _) | (show Parts _ _ ((_, _) :: _) _; apply Parts.one; (· exact (rfl : _ = Ty.int _ _)); (· exact rfl)))) (by exact (rfl : _ = some [_, _])) ?_
                    refine r_buildSlice (E := RulE) (xs := [⟨nth d.order.1 (skBelow (d.ru k.1).2 (d.order.1.length : Nat)).toNat, nth d.order.1 (skBelow (skNext (d.ru k.1).2) (d.order.1.length : Nat)).toNat⟩]) rfl rfl rfl rfl rfl (by decide) (by decide) (by repeat (first | exact (Parts.nil : Parts _ _ [] _) | (show Parts _ _ ((_, _) :: _) _; apply Parts.agg; (· exact (rfl : _ = Ty.agg _))))) (by exact rfl) rfl ?_
                    refine r_append rfl rfl (by decide) rfl rfl rfl rfl rfl rfl (by decide) (by (simp <;> omega)) (by (simp <;> omega)) ?_
                    refine r_field_ptr rfl rfl rfl rfl rfl (by decide) ?_
                    refine r_store1 rfl rfl (by decide) rfl rfl (by exact (rfl : _ = Ty.row _ _ _ _)) rfl (by exact Nat.le_of_ble_eq_true rfl) rfl rfl (by exact rfl) ?_
                    refine r_nil ?_
                    refine ⟨by kernel_rfl, ?_⟩
                    refine i_block ?_
                    refine i_then ?_
                    refine t_region ?_
                    refine r_add rfl rfl (by omega) (by omega) ?_
                    refine mvI rfl ?_
                    refine r_nil ?_
                    refine i_round (⟨k.1 + 1, by omega⟩) ?_ (by show d.R - (k.1 + 1) < d.R - k.1; omega)
                    (refine Ent.mk' ?_ ?_ <;> (repeat' (first | exact allSub_zero | exact allTags_nil | exact subs_nil | refine allSub_succ' ?_ (Ty.sub_any _) | refine allSub_succ' ?_ (Ty.sub_refl _) | refine allTags_cons rfl (Cont.sub_refl _) ?_ | refine allTags_cons rfl (Cont.sub_subs ?_) ?_ | refine subs_cons ?_ (Ty.sub_refl _) | refine subs_cons ?_ ?_)))
                    all_goals skip
                    all_goals first | exact Ty.sub_int (congrArg Sk.mixed (ru_sk d k.1)).symm | exact Ty.sub_int (congrArg Sk.taken (ru_sk d k.1)).symm | exact Ty.sub_sl (congrArg Sk.grain (ru_sk d k.1)).symm | exact Ty.sub_row (ru_at hc11)
                  ·
                    refine t_skip ?_
                    refine i_block ?_
                    refine i_then ?_
                    refine t_region ?_
                    refine r_add rfl rfl (by omega) (by omega) ?_
                    refine mvI rfl ?_
                    refine r_nil ?_
                    refine i_round (⟨k.1 + 1, by omega⟩) ?_ (by show d.R - (k.1 + 1) < d.R - k.1; omega)
                    (refine Ent.mk' ?_ ?_ <;> (repeat' (first | exact allSub_zero | exact allTags_nil | exact subs_nil | refine allSub_succ' ?_ (Ty.sub_any _) | refine allSub_succ' ?_ (Ty.sub_refl _) | refine allTags_cons rfl (Cont.sub_refl _) ?_ | refine allTags_cons rfl (Cont.sub_subs ?_) ?_ | refine subs_cons ?_ (Ty.sub_refl _) | refine subs_cons ?_ ?_)))
                    all_goals skip
                    all_goals first | exact Ty.sub_int (congrArg Sk.mixed (ru_sk d k.1)).symm | exact Ty.sub_int (congrArg Sk.taken (ru_sk d k.1)).symm | exact Ty.sub_sl (congrArg Sk.grain (ru_sk d k.1)).symm | exact Ty.sub_row (ru_no2 hc11)
                ·
                  refine t_exit ?_
                  refine i_then_exit ?_
                  refine i_then_exit ?_
                  refine i_block_exit rfl ?_
                  refine i_then ?_
                  refine t_seq ?_
                  have hx : ¬ (k.1 : Int) < (d.R : Nat) := hc10
                  obtain ⟨k, hx2⟩ := k
                  obtain rfl : k = d.R := by simp only at hx; omega
                  refine t_pubC (tg := 20) [] [(6, Cont.cells 27 [Ty.sl I64 (d.up d.n).1, Ty.row BinE 69 71 (d.bn d.m).bins, Ty.row TrnE 71 171 (d.tk d.T).trn, Ty.row RulE 64 206 (d.ru d.R).1])] (by decide) rfl trivial ⟨pubC_cells rfl rfl ⟨pubTy_vs rfl hun.1 (by decide), pubTy_same rfl, pubTy_same rfl, pubTy_same rfl, trivial⟩, trivial⟩ ?_
                  refine t_pubC (tg := 71) [] [(6, Cont.cells 27 [Ty.sl I64 (d.up d.n).1, Ty.sl BinE (d.bn d.m).bins, Ty.row TrnE 71 171 (d.tk d.T).trn, Ty.row RulE 64 206 (d.ru d.R).1])] (by decide) rfl trivial ⟨pubC_cells rfl rfl ⟨pubTy_same rfl, pubTy_row, pubTy_same rfl, pubTy_same rfl, trivial⟩, trivial⟩ ?_
                  refine t_pubC (tg := 171) [] [(6, Cont.cells 27 [Ty.sl I64 (d.up d.n).1, Ty.sl BinE (d.bn d.m).bins, Ty.sl TrnE (d.tk d.T).trn, Ty.row RulE 64 206 (d.ru d.R).1])] (by decide) rfl trivial ⟨pubC_cells rfl rfl ⟨pubTy_same rfl, pubTy_same rfl, pubTy_row, pubTy_same rfl, trivial⟩, trivial⟩ ?_
                  refine t_pubC (tg := 206) [] [(6, Cont.cells 27 [Ty.sl I64 (d.up d.n).1, Ty.sl BinE (d.bn d.m).bins, Ty.sl TrnE (d.tk d.T).trn, Ty.sl RulE (d.ru d.R).1])] (by decide) rfl trivial ⟨pubC_cells rfl rfl ⟨pubTy_same rfl, pubTy_same rfl, pubTy_same rfl, pubTy_row, trivial⟩, trivial⟩ ?_
                  refine t_region ?_
                  refine r_load_ptrN rfl rfl (by decide) rfl rfl (by exact Nat.le_of_ble_eq_true rfl) ?_
                  refine r_storeN rfl rfl (by decide) rfl rfl rfl rfl rfl rfl ?_
                  refine r_nil ?_
                  refine i_then ?_
                  refine t_ret ?_
                  refine g_rcell [1000] rfl rfl rfl rfl (by decide) rfl rfl rfl (by decide) (by repeat (first | exact rc_nil | refine rc_cons rfl (cc_cells_eq (by decide) rfl rfl rfl) ?_)) ?_
                  all_goals exact rg_cv (cv_pub rfl rfl)
                  skip
end Go.Proofs.YtifgbnbkimcchaaGreat

namespace Go.Proofs.YtifgbnbkimcchaaGreat
open Go Go.T
theorem order_ready {f : Flr} {l : List Int} (ho : orderM f l = 0) : ∀ i, i < l.length → readyM f (l.take i) (nth l i) = true := fun i hi => by
  obtain ⟨h1, h2, h3, h4⟩ := order_spec ho
  unfold readyM
  rw [Bool.and_eq_true, List.all_eq_true]
  exact ⟨by simpa using h3 i hi, fun a ha => decide_eq_true (h4 i hi a ha)⟩
theorem state_sum {f : Flr} (hn : f.Named) {l : List Int} (hl : ∀ x ∈ l, 0 ≤ x ∧ x < (f.turnings.length : Int)) {b : Nat} (hb : b < f.bears.length) : ∀ k, k ≤ l.length → sumT f (stateM f l k) f.bins.length b = loadO f l b k
  | 0, _ => by
    have := first_eq f hb
    rw [nth_loads (order := []) (k := 0) (Nat.zero_le _), loadM_nth f _ hb] at this
    unfold loadO
    rw [List.take_zero]
    simp only [List.map_nil, List.sum_nil, Int.add_zero]
    exact this
  | k + 1, hk => by
    have hx := hl _ (nth_mem (xs := l) (k := k) (by omega))
    obtain ⟨t, e⟩ := Int.eq_ofNat_of_zero_le hx.1
    have ih := state_sum hn hl hb k (by omega)
    rw [stateM_succ (by omega), loadO_succ f (by omega), e, sumT_step hn (by omega) (stateM_len f l k), ih]; rfl
theorem loads_loadO {f : Flr} (hn : f.Named) {l : List Int} (hl : ∀ x ∈ l, 0 ≤ x ∧ x < (f.turnings.length : Int)) {b : Nat} (hb : b < f.bears.length) {k : Nat} (hk : k ≤ l.length) : nth (nth (loadsM f l) k) b = loadO f l b k := by
  rw [nth_loads hk, loadM_nth f _ hb, state_sum hn hl hb k hk]
theorem le_minRow (f : Flr) (l : List Int) (n x : Int) : ∀ j, x ≤ minRow f l j n ↔ x ≤ n ∧ ∀ b, b < j → x ≤ nth f.bears b - nth l b
  | 0 => ⟨fun h => ⟨h, fun b hb => by omega⟩, fun h => h.1⟩
  | j + 1 => by
    rw [minRow_succ, Int.le_min, le_minRow f l n x j]
    constructor
    · rintro ⟨⟨h1, h2⟩, h3⟩
      refine ⟨h1, fun b hb => ?_⟩
      rcases Nat.lt_or_ge b j with h | h
      · exact h2 b h
      · rw [show b = j by omega]; exact h3
    · rintro ⟨h1, h2⟩
      exact ⟨⟨h1, fun b hb => h2 b (by omega)⟩, h2 j (by omega)⟩
theorem le_marginUp (f : Flr) (ls : List (List Int)) (x : Int) : ∀ k, k ≤ ls.length → (x ≤ marginUp f ls k ↔ x ≤ nth f.bears 0 - nth (nth ls 0) 0 ∧ ∀ i, i < k → ∀ b, b < f.bears.length → x ≤ nth f.bears b - nth (nth ls i) b)
  | 0, _ => ⟨fun h => ⟨h, fun i hi => by omega⟩, fun h => h.1⟩
  | k + 1, hk => by
    rw [marginUp_succ (by omega), le_minRow, le_marginUp f ls x k (by omega)]
    constructor
    · rintro ⟨⟨h1, h2⟩, h3⟩
      refine ⟨h1, fun i hi => ?_⟩
      rcases Nat.lt_or_ge i k with h | h
      · exact h2 i h
      · rw [show i = k by omega]; exact h3
    · rintro ⟨h1, h2⟩
      exact ⟨⟨h1, fun i hi => h2 i (by omega)⟩, h2 k (by omega)⟩
theorem le_marginM {f : Flr} (hb : 1 ≤ f.bears.length) (l : List Int) (x : Int) : x ≤ marginM f l ↔ ∀ k, k ≤ l.length → ∀ b, b < f.bears.length → x ≤ nth f.bears b - nth (nth (loadsM f l) k) b := by
  unfold marginM
  rw [le_marginUp f _ x _ (by rw [loadsM_len]; omega)]
  exact ⟨fun h k hk => h.2 k (by omega), fun h => ⟨h 0 (Nat.zero_le _) 0 (by omega), fun i hi => h i (by omega)⟩⟩
theorem maxUp_le {l : List Int} {x : Int} : ∀ k, k ≤ l.length → (maxUp l k ≤ x ↔ nth l 0 ≤ x ∧ ∀ i, i < k → nth l i ≤ x)
  | 0, _ => ⟨fun h => ⟨by simpa [maxUp] using h, fun i hi => by omega⟩, fun h => by simpa [maxUp] using h.1⟩
  | k + 1, hk => by
    rw [maxUp_succ (by omega), Int.max_le, maxUp_le k (by omega)]
    constructor
    · rintro ⟨⟨h1, h2⟩, h3⟩
      refine ⟨h1, fun i hi => ?_⟩
      rcases Nat.lt_or_ge i k with h | h
      · exact h2 i h
      · rw [show i = k by omega]; exact h3
    · rintro ⟨h1, h2⟩
      exact ⟨⟨h1, fun i hi => h2 i (by omega)⟩, h2 k (by omega)⟩
theorem maxM_up (l : List Int) : maxM l = maxUp l l.length := by unfold maxM maxUp; rw [List.take_length]
theorem maxM_le {l : List Int} {x : Int} (h : 0 < l.length) : maxM l ≤ x ↔ ∀ i, i < l.length → nth l i ≤ x := by
  rw [maxM_up, maxUp_le _ (Nat.le_refl _)]
  exact ⟨fun h => h.2, fun h' => ⟨h' 0 h, h'⟩⟩
theorem le_marL (f : Flr) (l : List Int) (x : Int) : ∀ n, x ≤ marL f l n ↔ x ≤ 1099511627776 ∧ ∀ b, b < n → ∀ k, k ≤ l.length → x ≤ nth f.bears b - loadO f l b k
  | 0 => ⟨fun h => ⟨h, fun b hb => by omega⟩, fun h => h.1⟩
  | n + 1 => by
    rw [marL_succ, Int.le_min, le_marL f l x n]
    have key : x ≤ nth f.bears n - maxM (loadsO f l n) ↔ ∀ k, k ≤ l.length → x ≤ nth f.bears n - loadO f l n k := by
      have : x ≤ nth f.bears n - maxM (loadsO f l n) ↔ maxM (loadsO f l n) ≤ nth f.bears n - x := by omega
      rw [this, maxM_le (by rw [loadsO_len]; omega), loadsO_len]
      constructor
      · intro h k hk
        have := h k (by omega)
        rw [loadsO_nth f n hk] at this; omega
      · intro h k hk
        have := h k (by omega)
        rw [loadsO_nth f n (by omega)]; omega
    rw [key]
    constructor
    · rintro ⟨⟨h1, h2⟩, h3⟩
      refine ⟨h1, fun b hb => ?_⟩
      rcases Nat.lt_or_ge b n with h | h
      · exact h2 b h
      · rw [show b = n by omega]; exact h3
    · rintro ⟨h1, h2⟩
      exact ⟨⟨h1, fun b hb => h2 b (by omega)⟩, h2 n (by omega)⟩
theorem marL_eq {f : Flr} (hr : f.Right) {l : List Int} (hl : ∀ x ∈ l, 0 ≤ x ∧ x < (f.turnings.length : Int)) (h20 : l.length ≤ 20) : marL f l f.bears.length = marginM f l := by
  have hb := hr.ranged.bears1
  have key : ∀ x, x ≤ 1099511627776 → (x ≤ marL f l f.bears.length ↔ x ≤ marginM f l) := fun x hx => by
    rw [le_marL, le_marginM hb]
    constructor
    · rintro ⟨_, h⟩ k hk b hb'
      rw [loads_loadO hr.named hl hb' hk]; exact h b hb' k hk
    · intro h
      refine ⟨hx, fun b hb' k hk => ?_⟩
      have := h k hk b hb'
      rwa [loads_loadO hr.named hl hb' hk] at this
  have h1 : marL f l f.bears.length ≤ 1099511627776 := ((le_marL f l _ _).1 (Int.le_refl _)).1
  have h2 : marginM f l ≤ 1099511627776 := by
    have h3 := (le_marginM hb l _).1 (Int.le_refl _) 0 (Nat.zero_le _) 0 (by omega)
    have h4 := load_bound hr.ranged hl h20 (Nat.zero_le _) 0
    have h5 := bear_bound hr.ranged 0
    omega
  have h3 := (key _ h1).1 (Int.le_refl _)
  have h4 := (key _ h2).2 (Int.le_refl _)
  omega
end Go.Proofs.YtifgbnbkimcchaaGreat

namespace Go.Proofs.YtifgbnbkimcchaaGreat
open Go Go.T
def over (f : Flr) (l : List Int) (t b : Nat) : Prop := nth (nth (loadsM f l) t) b > nth f.bears b
instance (f : Flr) (l : List Int) (t b : Nat) : Decidable (over f l t b) := by unfold over; infer_instance
def clr (f : Flr) (l : List Int) (t b : Nat) : Bool := decide ((∀ j, j < t → breakRow f (nth (loadsM f l) j) = none) ∧ ∀ j, j < b → ¬ over f l t j)
theorem breakRow_some {f : Flr} {r : List Int} (h : breakRow f r = none) {j : Nat} (hj : j < f.bears.length) : ¬ nth r j > nth f.bears j := by
  unfold breakRow at h
  rw [List.find?_eq_none] at h
  have := h j (List.mem_range.2 hj)
  simpa using this
theorem break_none_iff {f : Flr} (hb : 1 ≤ f.bears.length) (l : List Int) : (breakM f l).isSome = decide (marginM f l < 0) := by
  rw [Bool.eq_iff_iff, decide_eq_true_eq]
  by_cases h : 0 ≤ marginM f l
  · have : breakM f l = none := breakM_none fun j hj => breakRow_none fun b hb' => by
      have := (le_marginM hb l 0).1 h j hj b hb'
      omega
    rw [this]
    exact ⟨fun h => (by cases h), fun h => (by omega)⟩
  · refine ⟨fun _ => by omega, fun _ => ?_⟩
    cases e : breakM f l with
    | some x => rfl
    | none =>
      exfalso; apply h
      rw [le_marginM hb]
      intro k hk b hb'
      unfold breakM at e
      rw [List.findSome?_eq_none_iff] at e
      have := e k (List.mem_range.2 (by omega))
      have := breakRow_some (Option.map_eq_none_iff.1 this) hb'
      omega
structure Answers (f : Flr) (l : List Int) : Prop where
  rows : rowsE f l = loadsM f l
  ord : orderE f l = 0
  mar : marE f l = marginM f l
  marl : marL f l f.bears.length = marginM f l
  brk : brkE f l = if marginM f l < 0 then 0 else 6
  brkT : brkT f l = breakT f l
  brkB : brkB f l = breakB f l
  rng : ∀ x ∈ l, 0 ≤ x ∧ x < (f.turnings.length : Int)
  len : l.length = f.turnings.length
  nodup : l.Nodup
  all : ∀ x, x ∈ l ↔ 0 ≤ x ∧ x < (f.turnings.length : Int)
theorem answers {f : Flr} (h : checkP f = 0) {l : List Int} (ho : orderM f l = 0) : Answers f l := by
  have hc : checkM f = 0 := by rw [← check_eq]; exact h
  have hr := check_right h
  have he : orderE f l = 0 := by unfold orderE; rw [if_neg (fun x => x hc)]; exact ho
  obtain ⟨h1, h2, _, _⟩ := order_spec ho
  have hrep := order_rep h ho l.length (Nat.le_refl _)
  rw [List.take_length] at hrep
  have h8 := hr.ranged.turnings
  refine ⟨by unfold rowsE; rw [if_neg (fun x => x he)], he, by unfold marE; rw [if_neg (fun x => x he)], marL_eq hr h2 (by omega), ?_, by unfold Go.Proofs.YtifgbnbkimcchaaGreat.brkT; rw [if_neg (fun x => x he)], by unfold Go.Proofs.YtifgbnbkimcchaaGreat.brkB; rw [if_neg (fun x => x he)], h2, h1, hrep.nodup, fun x => ⟨fun hx => h2 x hx, fun hx => order_all h hrep h1 hx⟩⟩
  unfold brkE
  rw [if_neg (fun x => x he), break_none_iff hr.ranged.bears1]
  by_cases hm : marginM f l < 0
  · rw [if_pos hm, if_pos (decide_eq_true hm)]
  · rw [if_neg hm, if_neg (by simpa using hm)]
end Go.Proofs.YtifgbnbkimcchaaGreat

namespace Go.Proofs.YtifgbnbkimcchaaGreat
open Go Go.T
structure SaferF (f : Flr) : Prop where
  mar : marginR f = marginsR f
  all : allowedL f (safestP f).1 = true
  marl : marL f (safestP f).1 f.bears.length = marginR f
  keep : decide (0 < ((keepR f).length : Int)) = decide (0 ≤ marginR f)
  err : decide (safeE f = 0) = decide (0 ≤ marginR f)
  err6 : decide (safeE f = 6) = !decide (0 ≤ marginR f)
  rng : ∀ x ∈ safeR f, 0 ≤ x ∧ x < (f.turnings.length : Int)
  few : (safeR f).length ≤ f.turnings.length
end Go.Proofs.YtifgbnbkimcchaaGreat

namespace Go.Proofs.YtifgbnbkimcchaaGreat
open Go Go.T
def noFlr : Flr := ⟨[], [], [], []⟩
def moreF (f : Flr) (r : Rul) : Flr := { f with rules := f.rules ++ [r] }
def waitP (f : Flr) (r : Rul) : Flr × Int :=
  if checkP f ≠ 0 then (noFlr, checkP f) else if (f.rules.length : Int) = 16 then (noFlr, 9) else if checkP (moreF f r) ≠ 0 then (noFlr, checkP (moreF f r)) else (moreF f r, 0)
section
variable {f : Flr} {r : Rul}
end
theorem Lead.mono {l m : List Rul} (h : ∀ r ∈ l, r ∈ m) {x y : Int} (hl : Lead l x y) : Lead m x y := by
  induction hl with
  | one hr => exact .one (h _ hr)
  | step hr _ ih => exact .step (h _ hr) ih
def befL (l : List Int) (a b : Int) : Bool := (List.range l.length).all fun i => !decide (nth l i = b) || decide (a ∈ l.take i)
def sideN (f : Flr) (a b : Int) : Nat := ((keepR f).filter fun l => befL l a b).length
end Go.Proofs.YtifgbnbkimcchaaGreat

namespace Go.Proofs.YtifgbnbkimcchaaGreat
open Go Go.T
def cntR (f : Flr) (a b : Int) : Int := if b ∈ aheadM f a then 0 else ((keepR (moreF f ⟨a, b⟩)).length : Int)
def pairR (a b : Int) : List Rul := [⟨a, b⟩, ⟨b, a⟩]
def sumC (f : Flr) (a b : Int) : Nat → Int
  | 0 => 0
  | 1 => cntR f a b
  | _ => cntR f a b + cntR f b a
structure PairF (f : Flr) (a b : Int) (k : Nat) : Prop where
  fst : 0 ≤ (nth (pairR a b) k).fst ∧ (nth (pairR a b) k).fst < f.turnings.length
  nxt : 0 ≤ (nth (pairR a b) k).nxt ∧ (nth (pairR a b) k).nxt < f.turnings.length
  ne : (nth (pairR a b) k).fst ≠ (nth (pairR a b) k).nxt
  sum : sumC f a b (k + 1) = sumC f a b k + cntR f (nth (pairR a b) k).fst (nth (pairR a b) k).nxt
end Go.Proofs.YtifgbnbkimcchaaGreat

namespace Go.Proofs.YtifgbnbkimcchaaGreat
open Go Go.T
def aheadE (f : Flr) (t : Int) : Int := openE f (!inB t 0 (f.turnings.length - 1))
def aheadR (f : Flr) (t : Int) : List Int := if aheadE f t = 0 then aheadM f t else []
theorem members_iot (s : Nat) : membersM s = (iot 8).filter fun k => s.testBit k.toNat := by
  unfold membersM bitsUp iot
  rw [List.filter_map]; rfl
theorem heavyUp_spec (b : SB) (bay : Nat) : ∀ k, k ≤ (setsP b).length → nth b.1.first bay ≤ (heavyUp b bay k).2 ∧ (∀ i, i < k → nth (loadP b (nth (setsP b) i)) bay ≤ (heavyUp b bay k).2) ∧ ((heavyUp b bay k).2 = nth b.1.first bay ∨ ∃ i, i < k ∧ (heavyUp b bay k).2 = nth (loadP b (nth (setsP b) i)) bay)
  | 0, _ => ⟨Int.le_refl _, fun i hi => by omega, .inl rfl⟩
  | k + 1, hk => by
    obtain ⟨h1, h2, h3⟩ := heavyUp_spec b bay k (by omega)
    rw [heavyUp_succ (by omega)]
    unfold heavyS
    split
    · rename_i hg
      refine ⟨by show _ ≤ nth _ bay; omega, fun i hi => ?_, .inr ⟨k, by omega, rfl⟩⟩
      show _ ≤ nth _ bay
      rcases Nat.lt_or_ge i k with hx | hx
      · have := h2 i hx; omega
      · rw [show i = k by omega]; exact Int.le_refl _
    · rename_i hg
      refine ⟨h1, fun i hi => ?_, h3.imp id fun ⟨i, hi, e⟩ => ⟨i, by omega, e⟩⟩
      rcases Nat.lt_or_ge i k with hx | hx
      · exact h2 i hx
      · rw [show i = k by omega]; omega
def heavyV (f : Flr) (bay : Nat) : Int := (heavyP (boardsOf f) bay).2
theorem heavyP_up (b : SB) (bay : Nat) : heavyP b bay = heavyUp b bay (setsP b).length := by unfold heavyP heavyUp; rw [List.take_length]
theorem mem_setsP {f : Flr} {s : Nat} : s ∈ setsP (boardsOf f) ↔ s < 2 ^ f.turnings.length ∧ wholeP (boardsOf f) s = true := by
  unfold setsP setsUp
  rw [boardsOf_f, List.mem_filter, List.mem_range, shl_pow]
theorem heavy_ge {f : Flr} (bay : Nat) {s : Nat} (hs : s < 2 ^ f.turnings.length) (hw : wholeP (boardsOf f) s = true) : nth (loadP (boardsOf f) s) bay ≤ heavyV f bay := by
  obtain ⟨i, hi, e⟩ := List.getElem_of_mem (mem_setsP.2 ⟨hs, hw⟩)
  have := (heavyUp_spec (boardsOf f) bay _ (Nat.le_refl _)).2.1 i hi
  rw [nth_lt hi, e] at this
  unfold heavyV; rw [heavyP_up]; exact this
theorem whole_zero {f : Flr} (h : checkP f = 0) : wholeP (boardsOf f) 0 = true := (rep_nil h).whole
theorem heavy_at {f : Flr} (h : checkP f = 0) (bay : Nat) : ∃ s, s < 2 ^ f.turnings.length ∧ wholeP (boardsOf f) s = true ∧ heavyV f bay = nth (loadP (boardsOf f) s) bay := by
  unfold heavyV
  rw [heavyP_up]
  rcases (heavyUp_spec (boardsOf f) bay _ (Nat.le_refl _)).2.2 with e | ⟨i, hi, e⟩
  · exact ⟨0, Nat.two_pow_pos _, whole_zero h, by rw [e, first_load]⟩
  · obtain ⟨h1, h2⟩ := mem_setsP.1 (nth_mem hi)
    exact ⟨_, h1, h2, e⟩
theorem most_in {f : Flr} (h : checkP f = 0) {b : Nat} (hb : b < f.bears.length) : mostP f b = (heavyV f b, 0) := by
  unfold mostP openE
  have e : inB (b : Int) 0 (f.bears.length - 1) = true := by unfold inB; simp; omega
  rw [if_neg (c := checkP f ≠ 0) (fun x => x h), e, if_neg (c := (!true) = true) (by decide), if_neg (fun x => x rfl)]; rfl
structure RuleF (f : Flr) (l : List Int) (a b : Int) : Prop where
  ha : 0 ≤ a ∧ a < f.turnings.length
  hb : 0 ≤ b ∧ b < f.turnings.length
  ne : a ≠ b
  wait : waitP f ⟨a, b⟩ = (moreF f ⟨a, b⟩, 0)
  right : checkP (moreF f ⟨a, b⟩) = 0
  right0 : checkM (moreF f ⟨a, b⟩) = 0
  allowed : allowedL (moreF f ⟨a, b⟩) l = true
  back : waitP (moreF f ⟨a, b⟩) ⟨b, a⟩ = (noFlr, 7)
  aE : aheadE (moreF f ⟨a, b⟩) b = 0 ∧ aheadR (moreF f ⟨a, b⟩) b = aheadM (moreF f ⟨a, b⟩) b
  aE2 : aheadE f a = 0 ∧ aheadR f a = aheadM f a
section
variable {f : Flr} {l : List Int} {a b : Int} (h : checkP f = 0) (hf : RuleF f l a b)
include h hf
end
end Go.Proofs.YtifgbnbkimcchaaGreat

namespace Go.Proofs.YtifgbnbkimcchaaGreat
open Go Go.T
def sm (n : Nat) (g : Nat → Int) : Int := ((List.range n).map g).sum
theorem sm_zero (g : Nat → Int) : sm 0 g = 0 := rfl
theorem sm_succ (n : Nat) (g : Nat → Int) : sm (n + 1) g = sm n g + g n := by unfold sm; exact sum_range_succ n g
theorem sm_congr {g h : Nat → Int} : ∀ n, (∀ i, i < n → g i = h i) → sm n g = sm n h
  | 0, _ => rfl
  | n + 1, e => by rw [sm_succ, sm_succ, sm_congr n fun i hi => e i (by omega), e n (by omega)]
theorem sm_le {g h : Nat → Int} : ∀ n, (∀ i, i < n → g i ≤ h i) → sm n g ≤ sm n h
  | 0, _ => Int.le_refl _
  | n + 1, e => by
    have h1 := sm_le n fun i hi => e i (by omega)
    have h2 := e n (by omega)
    rw [sm_succ, sm_succ]; omega
theorem sm_add (g h : Nat → Int) : ∀ n, sm n (fun i => g i + h i) = sm n g + sm n h
  | 0 => rfl
  | n + 1 => by rw [sm_succ, sm_succ, sm_succ, sm_add g h n]; omega
theorem sm_sub (g h : Nat → Int) : ∀ n, sm n (fun i => g i - h i) = sm n g - sm n h
  | 0 => rfl
  | n + 1 => by rw [sm_succ, sm_succ, sm_succ, sm_sub g h n]; omega
theorem sm_none {g : Nat → Int} (n : Nat) (h : ∀ i, i < n → g i = 0) : sm n g = 0 := by
  rw [sm_congr (h := fun _ => 0) n h]
  induction n with
  | zero => rfl
  | succ n ih => rw [sm_succ, ih fun i hi => h i (by omega)]; rfl
theorem sm_nonneg {g : Nat → Int} (n : Nat) (h : ∀ i, i < n → 0 ≤ g i) : 0 ≤ sm n g := by
  have := sm_le (g := fun _ => 0) n h
  rwa [sm_none n fun _ _ => rfl] at this
theorem sm_one (m : Int) {n x : Nat} (h : x < n) : sm n (fun i => if x = i then m else 0) = m := by
  induction n with
  | zero => omega
  | succ n ih =>
    rw [sm_succ]
    by_cases e : x = n
    · rw [if_pos e, sm_none n fun i hi => if_neg (by omega)]; omega
    · rw [if_neg e, ih (by omega)]; omega
theorem sm_swap (g : Nat → Nat → Int) : ∀ n m, sm n (fun i => sm m fun j => g i j) = sm m fun j => sm n fun i => g i j
  | 0, m => by rw [sm_zero]; exact (sm_none m fun _ _ => rfl).symm
  | n + 1, m => by
    rw [sm_succ, sm_swap g n m, ← sm_add]
    exact sm_congr m fun j _ => (sm_succ n _).symm
theorem sm_ge {g : Nat → Int} {n i : Nat} (hi : i < n) (h : ∀ j, j < n → 0 ≤ g j) : g i ≤ sm n g := by
  have := sm_le (g := fun j => if i = j then g i else 0) (h := g) n fun j hj => by
    by_cases e : i = j
    · rw [if_pos e, e]; exact Int.le_refl _
    · rw [if_neg e]; exact h j hj
  rwa [sm_one _ hi] at this
theorem load_bits {f : Flr} (h : checkP f = 0) (s : Nat) (hs : s < 2 ^ f.turnings.length) {bay : Nat} (hb : bay < f.bears.length) : nth (loadP (boardsOf f) s) bay = nth (boardsOf f).1.first bay + sm f.turnings.length fun t => if s.testBit t = true then addB (boardsOf f) bay t else 0 := by
  have hr := check_right h
  have hb4 := hr.ranged.bears
  have h8 := hr.ranged.turnings
  unfold loadP
  rw [nth_map_range _ (by omega), loadAt_bits]
  congr 1
  show sm 8 _ = _
  obtain ⟨d, hd⟩ : ∃ d, 8 = f.turnings.length + d := ⟨8 - f.turnings.length, by omega⟩
  rw [hd]
  clear hd
  induction d with
  | zero => rfl
  | succ d ih =>
    rw [show f.turnings.length + (d + 1) = (f.turnings.length + d) + 1 by omega, sm_succ, ih, if_neg (fun hx => by have := testBit_lt hs hx; omega)]; omega
theorem sum_paid_if (pays : List Pay) (q : Nat → Bool) (n : Nat) (hq : ∀ p ∈ pays, 0 ≤ p.src ∧ p.src < n) : sm n (fun t => if q t = true then paidBy pays t else 0) = (pays.map fun p => if q p.src.toNat = true then p.much else 0).sum := by
  induction pays with
  | nil => exact sm_none n fun i _ => by simp [paidBy]
  | cons p l ih =>
    have hp := hq p List.mem_cons_self
    rw [List.map_cons, List.sum_cons, ← ih fun q hq' => hq q (List.mem_cons_of_mem _ hq')]
    have e : sm n (fun t => if q t = true then paidBy (p :: l) t else 0) = sm n fun t => (if p.src.toNat = t then (if q p.src.toNat = true then p.much else 0) else 0) + if q t = true then paidBy l t else 0 := sm_congr n fun t _ => by
      rw [paidBy_cons]
      by_cases hx : p.src.toNat = t
      · have hx2 : p.src = (t : Int) := by omega
        rw [if_pos hx2, if_pos hx, hx]
        split <;> simp
      · have hx2 : ¬ p.src = (t : Int) := by omega
        rw [if_neg hx2, if_neg hx]
        split <;> simp
    rw [e, sm_add, sm_one _ (by omega)]
theorem sum_given_if (pays : List Pay) (q : Nat → Bool) (n : Nat) (hq : ∀ p ∈ pays, 0 ≤ p.dst ∧ p.dst < n) : sm n (fun t => if q t = true then paidTo pays t else 0) = (pays.map fun p => if q p.dst.toNat = true then p.much else 0).sum := by
  induction pays with
  | nil => exact sm_none n fun i _ => by simp [paidTo]
  | cons p l ih =>
    have hp := hq p List.mem_cons_self
    rw [List.map_cons, List.sum_cons, ← ih fun q hq' => hq q (List.mem_cons_of_mem _ hq')]
    have e : sm n (fun t => if q t = true then paidTo (p :: l) t else 0) = sm n fun t => (if p.dst.toNat = t then (if q p.dst.toNat = true then p.much else 0) else 0) + if q t = true then paidTo l t else 0 := sm_congr n fun t _ => by
      rw [paidTo_cons]
      by_cases hx : p.dst.toNat = t
      · have hx2 : p.dst = (t : Int) := by omega
        rw [if_pos hx2, if_pos hx, hx]
        split <;> simp
      · have hx2 : ¬ p.dst = (t : Int) := by omega
        rw [if_neg hx2, if_neg hx]
        split <;> simp
    rw [e, sm_add, sm_one _ (by omega)]
theorem map_sum_le {α : Type} {g h : α → Int} : ∀ l : List α, (∀ x ∈ l, g x ≤ h x) → (l.map g).sum ≤ (l.map h).sum
  | [], _ => Int.le_refl _
  | x :: l, e => by
    have h1 := e x List.mem_cons_self
    have h2 := map_sum_le l fun y hy => e y (List.mem_cons_of_mem _ hy)
    rw [List.map_cons, List.map_cons, List.sum_cons, List.sum_cons]; omega
def boundOf (f : Flr) (bay : Nat) (pays : List Pay) : Int := nth (boardsOf f).1.first bay + (sm f.turnings.length fun t => max 0 (addB (boardsOf f) bay t)) - total pays
structure Holds (f : Flr) (bay : Nat) (pays : List Pay) : Prop where
  pos : Pos pays
  src : ∀ p ∈ pays, 0 ≤ p.src ∧ p.src < f.turnings.length
  dst : ∀ p ∈ pays, 0 ≤ p.dst ∧ p.dst < f.turnings.length
  lead : ∀ p ∈ pays, Lead f.rules p.dst p.src
  fits : ∀ t : Nat, t < f.turnings.length → paidBy pays t ≤ max 0 (addB (boardsOf f) bay t) ∧ paidTo pays t ≤ max 0 (-(addB (boardsOf f) bay t))
theorem weak {f : Flr} (h : checkP f = 0) {bay : Nat} (hb : bay < f.bears.length) {pays : List Pay} (hh : Holds f bay pays) {s : Nat} (hs : s < 2 ^ f.turnings.length) (hw : wholeP (boardsOf f) s = true) : nth (loadP (boardsOf f) s) bay ≤ boundOf f bay pays := by
  rw [load_bits h s hs hb]
  unfold boundOf
  have h1 := sum_paid_if pays s.testBit f.turnings.length hh.src
  have h2 := sum_given_if pays s.testBit f.turnings.length hh.dst
  have h3 : (pays.map fun p => if s.testBit p.src.toNat = true then p.much else 0).sum ≤ (pays.map fun p => if s.testBit p.dst.toNat = true then p.much else 0).sum := map_sum_le _ fun p hp => by
    have hl := hh.lead p hp
    have hs1 := hh.src p hp
    have hd1 := hh.dst p hp
    have hm := hh.pos p hp
    by_cases hx : s.testBit p.src.toNat = true
    · have := (whole_iff h hs).1 hw p.src.toNat p.dst.toNat hx (by rw [Int.toNat_of_nonneg hs1.1, Int.toNat_of_nonneg hd1.1]; exact hl)
      rw [if_pos hx, if_pos this]; exact Int.le_refl _
    · rw [if_neg hx]; split <;> omega
  have h4 : total pays = sm f.turnings.length fun t => paidBy pays t := (paid_total hh.src).symm
  have key : sm f.turnings.length (fun t => if s.testBit t = true then addB (boardsOf f) bay t else 0) ≤ sm f.turnings.length fun t => ((max 0 (addB (boardsOf f) bay t) - paidBy pays t) + (if s.testBit t = true then paidBy pays t else 0)) - (if s.testBit t = true then paidTo pays t else 0) := sm_le _ fun t ht => by
    have hf := hh.fits t ht
    have hp := paidBy_nonneg hh.pos (t : Int)
    split
    · omega
    · omega
  rw [sm_sub, sm_add, sm_sub, h1, h2] at key
  rw [h4]; omega
theorem weak_most {f : Flr} (h : checkP f = 0) {bay : Nat} (hb : bay < f.bears.length) {pays : List Pay} (hh : Holds f bay pays) : heavyV f bay ≤ boundOf f bay pays := by
  obtain ⟨s, hs, hw, e⟩ := heavy_at h bay
  rw [e]; exact weak h hb hh hs hw
end Go.Proofs.YtifgbnbkimcchaaGreat
