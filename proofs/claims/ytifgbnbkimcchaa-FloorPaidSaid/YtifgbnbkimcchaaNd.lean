/- Lemmas: the program and the reference walked, plain laws. -/
import Derived.Test.YtifgbnbkimcchaaNc
namespace Go.Proofs.Ytifgbnbkimcchaa
open Go Go.T
set_option maxHeartbeats 2000000
attribute [local irreducible] dInt dBool dSl dPp dPtr dAgg dTup dClo dAny dEx dStr dGd dCells dVec dVs dRow dOp nth Tri Into TOps Ctr bodyPost Exit.then Exit.inBlock Code.wp Code.wpIn dWhen dPa dPe dAo dArr dMp dPm dMap dCJ CtrG CtrI OpY keepPost iterPost bodyPostM roundQ
set_option maxRecDepth 100000 in
theorem c_Index_int (l : List Int) (x : Int) : Ctr Try.prog 64 [Ty.sl I64 l, Ty.int .i64 x] (Ty.int .i64 (idxM l x)) := by
  refine fn_intro Try.func64 rfl (by decide) Try.ntmps64 (by exact Nat.le_of_ble_eq_true rfl) fun w0 M0 => ?_
  refine t_fact (s := 0) rfl rfl sl_len fun hl => ?_
  refine t_seq ?_
  refine t_region ?_
  refine asI rfl ?_
  refine r_nil ?_
  refine i_then ?_
  refine t_seq ?_
  refine t_seq ?_
  refine t_region ?_
  refine mvS rfl ?_
  refine r_len rfl rfl rfl ?_
  refine mvI rfl ?_
  refine r_nil ?_
  refine i_then ?_
  refine t_block ?_
  refine t_loop (fun (k : {k : Nat // ∀ y ∈ l.take k, decide (x = y) = false}) => live [(0, Ty.sl I64 l), (1, Ty.int .i64 x), (7, Ty.int .i64 l.length), (8, Ty.int .i64 (k.1 : Nat))] []) (fun k => l.length - k.1) (⟨0, by simp⟩) ?_ fun k => ?_
  · (refine Ent.mk' ?_ ?_ <;> (repeat' (first | exact allSub_zero | exact allTags_nil | refine allSub_succ' ?_ (Ty.sub_any _) | refine allSub_succ' ?_ (Ty.sub_refl _))))
  ·
    refine t_seq ?_
    refine t_region ?_
    refine r_bin rfl rfl rfl ?_
    refine r_nil ?_
    refine i_then ?_
    refine t_seq ?_
    refine t_cond_dec rfl (fun hc1 => ?_) (fun hc1 => ?_)
    ·
      refine t_skip ?_
      refine i_then ?_
      refine t_seq ?_
      refine t_block ?_
      refine t_seq ?_
      refine t_region ?_
      refine mvI rfl ?_
      refine asI rfl ?_
      refine r_nil ?_
      refine i_then ?_
      refine t_seq ?_
      refine t_region ?_
      refine mvI rfl ?_
      refine mvS rfl ?_
      refine mvI rfl ?_
      refine r_index_slN rfl rfl rfl rfl rfl rfl (by omega) ?_
      refine r_load_pp rfl rfl rfl rfl ?_
      refine r_bin rfl rfl rfl ?_
      refine r_nil ?_
      refine i_then ?_
      refine t_cond_dec rfl (fun hc2 => ?_) (fun hc2 => ?_)
      ·
        refine t_seq ?_
        refine t_region ?_
        refine mvI rfl ?_
        refine asI rfl ?_
        refine r_nil ?_
        refine i_then ?_
        refine t_ret ?_
        refine i_block_ret ?_
        refine i_then_ret ?_
        refine i_then_ret ?_
        refine i_block_ret ?_
        refine i_then_ret ?_
        refine i_rp1 rfl rfl ?_
        all_goals skip
        exact ret_eq rfl rfl (congrArg (Ty.int .i64) (by unfold idxM; rw [fidx_found (k := k.1) (by omega) k.2 (by rw [← nth_lt]; exact decide_eq_true hc2)]))
      ·
        refine t_skip ?_
        refine i_block ?_
        refine i_then ?_
        refine t_region ?_
        refine r_add rfl rfl (by omega) (by omega) ?_
        refine mvI rfl ?_
        refine r_nil ?_
        refine i_round (⟨k.1 + 1, by rw [take_nth (by omega)]; intro y hy; rcases List.mem_append.1 hy with h | h; exact k.2 y h; rw [List.mem_singleton.1 h]; exact decide_eq_false hc2⟩) ?_ (by show l.length - (k.1 + 1) < l.length - k.1; omega)
        (refine Ent.mk' ?_ ?_ <;> (repeat' (first | exact allSub_zero | exact allTags_nil | refine allSub_succ' ?_ (Ty.sub_any _) | refine allSub_succ' ?_ (Ty.sub_refl _))))
        all_goals skip
    ·
      refine t_exit ?_
      refine i_then_exit ?_
      refine i_then_exit ?_
      refine i_block_exit rfl ?_
      refine i_then ?_
      refine t_seq ?_
      refine t_region ?_
      refine asI rfl ?_
      refine r_nil ?_
      refine i_then ?_
      refine t_ret ?_
      refine i_rp1 rfl rfl ?_
      all_goals skip
      exact ret_eq rfl rfl (congrArg (Ty.int .i64) (by unfold idxM; rw [fidx_none (by have := k.2; rwa [List.take_of_length_le (by omega)] at this)]))
set_option maxRecDepth 100000 in
theorem c_Contains_int (l : List Int) (x : Int) : Ctr Try.prog 60 [Ty.sl I64 l, Ty.int .i64 x] (Ty.bool (decide (x ∈ l))) := by
  refine fn_intro Try.func60 rfl (by decide) Try.ntmps60 (by exact Nat.le_of_ble_eq_true rfl) fun w0 M0 => ?_
  refine t_seq ?_
  refine t_region ?_
  refine asB rfl ?_
  refine r_nil ?_
  refine i_then ?_
  refine t_seq ?_
  refine t_region ?_
  refine mvS rfl ?_
  refine mvI rfl ?_
  refine r_call (c_Index_int l x) rfl rfl rfl rfl rfl ?_
  refine r_bin rfl rfl rfl ?_
  refine asB rfl ?_
  refine r_nil ?_
  refine i_then ?_
  refine t_ret ?_
  refine i_rp1 rfl rfl ?_
  all_goals skip
  exact ret_eq rfl rfl (congrArg Ty.bool (contains_idx l x))
set_option maxRecDepth 100000 in
theorem c_share5 (f : Flr) (hr : f.Right) (bin : Int) (hb : -1 ≤ bin ∧ bin < f.bins.length) (b : Nat) (hbb : b < f.bears.length) : Ctr Try.prog 118 [flrT f, Ty.int .i64 bin, Ty.int .i64 (b : Nat)] (Ty.int .i64 (shareP f bin b)) := by
  refine fn_intro Try.func118 rfl (by decide) Try.ntmps118 (by exact Nat.le_of_ble_eq_true rfl) fun w0 M0 => ?_
  have h1 := hr.ranged.bins
  have h4 := hr.ranged.bears
  refine t_seq ?_
  refine t_region ?_
  refine r_box_agg rfl ?_
  refine asI rfl ?_
  refine r_nil ?_
  refine i_then ?_
  refine t_seq ?_
  refine t_seq ?_
  refine t_region ?_
  refine mvI rfl ?_
  refine r_bin rfl rfl rfl ?_
  refine r_nil ?_
  refine i_then ?_
  refine t_cond_dec rfl (fun hc1 => ?_) (fun hc1 => ?_)
  ·
    refine t_seq ?_
    refine t_region ?_
    refine asI rfl ?_
    refine r_nil ?_
    refine i_then ?_
    refine t_ret ?_
    refine i_then_ret ?_
    refine i_rp1 rfl rfl ?_
    all_goals skip
    exact ret_eq rfl rfl (congrArg (Ty.int .i64) (by unfold shareP; rw [if_pos (by omega)]))
  ·
    refine t_skip ?_
    refine i_then ?_
    refine t_seq ?_
    have hsh := hr.ranged.shares _ (nth_mem (xs := f.bins) (k := bin.toNat) (by omega))
    refine t_region ?_
    refine r_field_pp rfl rfl rfl rfl rfl (by decide) ?_
    refine r_load_pp rfl rfl rfl rfl ?_
    refine mvI rfl ?_
    refine r_index_sl rfl rfl rfl rfl rfl rfl (by omega) (by omega) ?_
    refine r_field_pp rfl rfl rfl rfl rfl (by decide) ?_
    refine r_load_pp rfl rfl rfl rfl ?_
    refine mvI rfl ?_
    refine r_index_slN rfl rfl rfl rfl rfl rfl (by omega) ?_
    refine r_load_pp rfl rfl rfl rfl ?_
    refine asI rfl ?_
    refine r_nil ?_
    refine i_then ?_
    refine t_ret ?_
    refine i_rp1 rfl rfl ?_
    all_goals skip
    exact ret_eq rfl rfl (congrArg (Ty.int .i64) (by unfold shareP; rw [if_neg (by omega)]))
theorem loadsO_one (f : Flr) (l : List Int) (b : Nat) : (loadsO f l b).take 1 = [loadO f l b 0] := by unfold loadsO; rw [List.range_succ_eq_map]; rfl
theorem loadO_bound {f : Flr} (hr : f.Right) {l : List Int} (hl : ∀ x ∈ l, 0 ≤ x ∧ x < (f.turnings.length : Int)) (b : Nat) : ∀ k, -(1200 * k) ≤ loadO f l b k ∧ loadO f l b k ≤ 7200 + 1200 * k
  | 0 => by
    have := firstS_bound hr.ranged b f.bins.length (Nat.le_refl _)
    have := hr.ranged.bins
    simp [loadO]; omega
  | k + 1 => by
    have ih := loadO_bound hr hl b k
    rcases Nat.lt_or_ge k l.length with h | h
    · have hx := hl _ (nth_mem (xs := l) (k := k) h)
      have := addS_abs hr (t := (nth l k).toNat) (by omega) b
      rw [loadO_succ f h]; omega
    · have e : loadO f l b (k + 1) = loadO f l b k := by unfold loadO; rw [List.take_of_length_le (by omega), List.take_of_length_le (by omega)]
      rw [e]; omega
theorem loadO_step (f : Flr) {l : List Int} {k t : Nat} (h : k < l.length) (b : Nat) (ht : (nth l k).toNat = t) : loadO f l b (k + 1) = loadO f l b k + (nth f.turnings t).sacks * (shareP f (nth f.turnings t).dst b - shareP f (nth f.turnings t).src b) := by
  rw [loadO_succ f h, ht]; rfl
theorem loadsO_row (f : Flr) {l : List Int} {k t : Nat} (h : k < l.length) (b : Nat) (ht : (nth l k).toNat = t) : (loadsO f l b).take (k + 1) ++ [loadO f l b k + (nth f.turnings t).sacks * (shareP f (nth f.turnings t).dst b - shareP f (nth f.turnings t).src b)] = (loadsO f l b).take (k + 1 + 1) := by
  rw [← loadO_step f h b ht, ← loadsO_nth f b (show k + 1 ≤ l.length by omega), ← take_nth (by rw [loadsO_len]; omega)]
set_option maxRecDepth 100000 in
theorem c_loads5 (f : Flr) (hr : f.Right) (l : List Int) (hl : ∀ x ∈ l, 0 ≤ x ∧ x < (f.turnings.length : Int)) (hll : l.length ≤ 1000) (b : Nat) (hbb : b < f.bears.length) : Ctr Try.prog 72 [flrT f, Ty.sl I64 l, Ty.int .i64 (b : Nat)] (Ty.sl I64 (loadsO f l b)) := by
  refine fn_intro Try.func72 rfl (by decide) Try.ntmps72 (by exact Nat.le_of_ble_eq_true rfl) fun w0 M0 => ?_
  have h1 := hr.ranged.bins
  have h4 := hr.ranged.bears
  refine t_seq ?_
  refine t_region ?_
  refine r_box_agg rfl ?_
  refine asX rfl ?_
  refine r_nil ?_
  refine i_then ?_
  refine t_seq ?_
  refine t_region ?_
  refine asI rfl ?_
  refine r_nil ?_
  refine i_then ?_
  refine t_seq ?_
  refine t_seq ?_
  refine t_region ?_
  refine r_field_pp rfl rfl rfl rfl rfl (by decide) ?_
  refine r_load_pp rfl rfl rfl rfl ?_
  refine r_len rfl rfl rfl ?_
  refine mvI rfl ?_
  refine r_nil ?_
  refine i_then ?_
  refine t_block ?_
  refine t_loop (fun (k : {k : Nat // k ≤ f.bins.length}) => live [(1, Ty.sl I64 l), (2, Ty.int .i64 (b : Nat)), (3, Ty.pp (flrTys f)), (7, Ty.int .i64 (firstS f b k.1)), (15, Ty.sl BinE f.bins), (16, Ty.int .i64 f.bins.length), (17, Ty.int .i64 (k.1 : Nat))] []) (fun k => f.bins.length - k.1) (⟨0, by omega⟩) ?_ fun k => ?_
  · (refine Ent.mk' ?_ ?_ <;> (repeat' (first | exact allSub_zero | exact allTags_nil | refine allSub_succ' ?_ (Ty.sub_any _) | refine allSub_succ' ?_ (Ty.sub_refl _))))
  ·
    have hk := k.2
    have hfb := firstS_bound hr.ranged b k.1 hk
    refine t_seq ?_
    refine t_region ?_
    refine r_bin rfl rfl rfl ?_
    refine r_nil ?_
    refine i_then ?_
    refine t_seq ?_
    refine t_cond_dec rfl (fun hc1 => ?_) (fun hc1 => ?_)
    ·
      refine t_skip ?_
      refine i_then ?_
      refine t_seq ?_
      refine t_block ?_
      refine t_seq ?_
      refine t_region ?_
      refine r_index_slN rfl rfl rfl rfl rfl rfl (by omega) ?_
      refine r_load_ppN rfl rfl rfl (by exact Nat.le_of_ble_eq_true rfl) ?_
      refine r_alloc rfl (by exact List.cons_ne_nil _ _) rfl ?_
      refine r_storeN rfl rfl (by decide) rfl rfl rfl rfl rfl rfl ?_
      refine r_nil ?_
      refine i_then ?_
      have hbm := nth_mem (xs := f.bins) (k := k.1) (by omega)
      have hsh := hr.ranged.shares _ hbm
      have hhas := hr.ranged.hasR _ hbm
      have hs4 := share_bound hr.ranged (i := k.1) (b := b) (by omega)
      have hm := mul_bound (a := (nth f.bins k.1).has) (c := nth (nth f.bins k.1).shares b) (B := 300) (by omega) hs4
      refine t_draw mixed rfl ?_
      refine mvI rfl ?_
      refine r_field_ptr rfl rfl rfl rfl rfl (by decide) ?_
      refine r_load_ptr rfl rfl (by decide) rfl rfl rfl ?_
      refine r_field_ptr rfl rfl rfl rfl rfl (by decide) ?_
      refine r_load_ptr rfl rfl (by decide) rfl rfl rfl ?_
      refine mvI rfl ?_
      refine r_index_slN rfl rfl rfl rfl rfl rfl (by omega) ?_
      refine r_load_pp rfl rfl rfl rfl ?_
      refine r_mul rfl rfl (by omega) (by omega) ?_
      refine r_add rfl rfl (by omega) (by omega) ?_
      refine asI rfl ?_
      refine r_nil ?_
      refine ⟨by kernel_rfl, ?_⟩
      refine i_block ?_
      refine i_then ?_
      refine t_region ?_
      refine r_add rfl rfl (by omega) (by omega) ?_
      refine mvI rfl ?_
      refine r_nil ?_
      refine i_round (⟨k.1 + 1, by omega⟩) ?_ (by show f.bins.length - (k.1 + 1) < f.bins.length - k.1; omega)
      (refine Ent.mk' ?_ ?_ <;> (repeat' (first | exact allSub_zero | exact allTags_nil | refine allSub_succ' ?_ (Ty.sub_any _) | refine allSub_succ' ?_ (Ty.sub_refl _) | refine allSub_succ' ?_ ?_)))
      all_goals skip
      all_goals exact Ty.sub_int (firstS_succ f b (by omega)).symm
    ·
      refine t_exit ?_
      refine i_then_exit ?_
      refine i_then_exit ?_
      refine i_block_exit rfl ?_
      refine i_then ?_
      refine t_seq ?_
      have hkb : k.1 = f.bins.length := by omega
      refine t_as (s := 7) rfl (Ty.sub_int (show firstS f b k.1 = loadO f l b 0 by rw [hkb]; simp [loadO])) ?_
      refine t_region ?_
      refine mvI rfl ?_
      refine r_buildRowN (E := I64) (xs := [loadO f l b 0]) rfl rfl rfl rfl rfl (by decide) (by decide) (by repeat (first | exact (Parts.nil : Parts _ _ [] _) | (show Parts _ _ ((_, _) :: _) _; apply Parts.one; (· exact (rfl : _ = Ty.int _ _)); (· exact rfl)))) (by exact rfl) rfl rfl ?_
      refine asR rfl ?_
      refine r_nil ?_
      refine i_then ?_
      refine t_seq ?_
      refine t_seq ?_
      refine t_region ?_
      refine mvS rfl ?_
      refine r_len rfl rfl rfl ?_
      refine mvI rfl ?_
      refine r_nil ?_
      refine i_then ?_
      refine t_block ?_
      refine t_loop (fun (j : {j : Nat // j ≤ l.length}) => live [(1, Ty.sl I64 l), (2, Ty.int .i64 (b : Nat)), (3, Ty.pp (flrTys f)), (7, Ty.int .i64 (loadO f l b j.1)), (10, Ty.row I64 3 34 ((loadsO f l b).take (j.1 + 1))), (34, Ty.sl I64 l), (35, Ty.int .i64 l.length), (36, Ty.int .i64 (j.1 : Nat))] []) (fun j => l.length - j.1) (⟨0, by omega⟩) ?_ fun j => ?_
      · (refine Ent.mk' ?_ ?_ <;> (repeat' (first | exact allSub_zero | exact allTags_nil | refine allSub_succ' ?_ (Ty.sub_any _) | refine allSub_succ' ?_ (Ty.sub_refl _) | refine allSub_succ' ?_ ?_)))
        all_goals exact Ty.sub_row (loadsO_one f l b).symm
      ·
        have hj := j.2
        have hlb := loadO_bound hr hl b j.1
        refine t_seq ?_
        refine t_region ?_
        refine r_bin rfl rfl rfl ?_
        refine r_nil ?_
        refine i_then ?_
        refine t_seq ?_
        refine t_cond_dec rfl (fun hc2 => ?_) (fun hc2 => ?_)
        ·
          refine t_skip ?_
          refine i_then ?_
          refine t_seq ?_
          refine t_block ?_
          refine t_seq ?_
          refine t_region ?_
          refine r_index_slN rfl rfl rfl rfl rfl rfl (by omega) ?_
          refine r_load_pp rfl rfl rfl rfl ?_
          refine asI rfl ?_
          refine r_nil ?_
          refine i_then ?_
          refine t_seq ?_
          have hx := hl _ (nth_mem (xs := l) (k := j.1) (by omega))
          obtain ⟨t, ht⟩ := Int.eq_ofNat_of_zero_le hx.1
          have htn : (nth l j.1).toNat = t := by omega
          have ht8 : t < f.turnings.length := by omega
          have hab := addS_abs hr ht8 b
          have hnm := hr.named _ (nth_mem ht8)
          have hsa := hr.ranged.sacksR _ (nth_mem ht8)
          have hs1 := share_abs hr hnm.1 b
          have hs2 := share_abs hr hnm.2 b
          refine t_as (s := 12) rfl (Ty.sub_int ht) ?_
          refine t_region ?_
          refine r_field_pp rfl rfl rfl rfl rfl (by decide) ?_
          refine r_load_pp rfl rfl rfl rfl ?_
          refine mvI rfl ?_
          refine r_index_slN rfl rfl rfl rfl rfl rfl (by omega) ?_
          refine r_load_ppN rfl rfl rfl (by exact Nat.le_of_ble_eq_true rfl) ?_
          refine r_alloc rfl (by exact List.cons_ne_nil _ _) rfl ?_
          refine r_storeN rfl rfl (by decide) rfl rfl rfl rfl rfl rfl ?_
          refine r_nil ?_
          refine i_then ?_
          refine t_seq ?_
          refine t_draw mixed rfl ?_
          refine mvI rfl ?_
          refine r_field_ptr rfl rfl rfl rfl rfl (by decide) ?_
          refine r_load_ptr rfl rfl (by decide) rfl rfl rfl ?_
          refine r_load_ppN rfl rfl rfl (by exact Nat.le_of_ble_eq_true rfl) ?_
          refine r_field_ptr rfl rfl rfl rfl rfl (by decide) ?_
          refine r_load_ptr rfl rfl (by decide) rfl rfl rfl ?_
          refine mvI rfl ?_
          refine r_call (c_share5 f hr (nth f.turnings t).dst hnm.2 b hbb) rfl rfl rfl rfl rfl ?_
          refine r_load_ppN rfl rfl rfl (by exact Nat.le_of_ble_eq_true rfl) ?_
          refine r_field_ptr rfl rfl rfl rfl rfl (by decide) ?_
          refine r_load_ptr rfl rfl (by decide) rfl rfl rfl ?_
          refine mvI rfl ?_
          refine r_call (c_share5 f hr (nth f.turnings t).src hnm.1 b hbb) rfl rfl rfl rfl rfl ?_
          refine r_sub rfl rfl (by omega) (by omega) ?_
          refine r_mul rfl rfl (by have := hab; unfold addS at this; omega) (by have := hab; unfold addS at this; omega) ?_
          refine r_add rfl rfl (by have := hab; unfold addS at this; omega) (by have := hab; unfold addS at this; omega) ?_
          refine asI rfl ?_
          refine r_nil ?_
          refine ⟨by kernel_rfl, ?_⟩
          refine i_then ?_
          refine t_region ?_
          refine mvR rfl ?_
          refine mvI rfl ?_
          refine r_buildSlice (E := I64) (xs := [_]) rfl rfl rfl rfl rfl (by decide) (by decide) (by repeat (first | exact (Parts.nil : Parts _ _ [] _) | (show Parts _ _ ((_, _) :: _) _; apply Parts.one; (· exact (rfl : _ = Ty.int _ _)); (· exact rfl)))) (by exact rfl) rfl ?_
          refine r_append rfl rfl (by decide) rfl rfl rfl rfl rfl rfl (by decide) (by (simp <;> omega)) (by (simp <;> omega)) ?_
          refine asR rfl ?_
          refine r_nil ?_
          refine i_block ?_
          refine i_then ?_
          refine t_region ?_
          refine r_add rfl rfl (by omega) (by omega) ?_
          refine mvI rfl ?_
          refine r_nil ?_
          refine i_round (⟨j.1 + 1, by omega⟩) ?_ (by show l.length - (j.1 + 1) < l.length - j.1; omega)
          (refine Ent.mk' ?_ ?_ <;> (repeat' (first | exact allSub_zero | exact allTags_nil | refine allSub_succ' ?_ (Ty.sub_any _) | refine allSub_succ' ?_ (Ty.sub_refl _) | refine allSub_succ' ?_ ?_)))
          all_goals skip
          all_goals first | exact Ty.sub_int (loadO_step f (by omega) b htn).symm | exact Ty.sub_row (loadsO_row f (by omega) b htn)
        ·
          refine t_exit ?_
          refine i_then_exit ?_
          refine i_then_exit ?_
          refine i_block_exit rfl ?_
          refine i_then ?_
          refine t_seq ?_
          refine t_region ?_
          refine mvR rfl ?_
          refine asR rfl ?_
          refine r_nil ?_
          refine i_then ?_
          refine t_ret ?_
          refine i_rp1 rfl rfl ?_
          all_goals skip
          exact ret_row_eq (by decide) (by rw [List.take_of_length_le (by rw [loadsO_len]; omega)])
end Go.Proofs.Ytifgbnbkimcchaa

namespace Go.Proofs.Ytifgbnbkimcchaa
open Go Go.T
def readyL (f : Flr) (done : List Int) (t : Int) : Bool := !decide (t ∈ done) && !f.rules.any fun r => decide (r.nxt = t) && !decide (r.fst ∈ done)
def stepOk (f : Flr) (l : List Int) (i : Nat) : Bool := decide (0 ≤ nth l i) && decide (nth l i < f.turnings.length) && readyL f (l.take i) (nth l i)
def allowedL (f : Flr) (l : List Int) : Bool := ((List.range l.length).all (stepOk f l)) && decide (l.length = f.turnings.length)
def readyLs (f : Flr) (done : List Int) (k : Nat) : List Int := (iot k).filter (readyL f done)
def pickL (f : Flr) (st : List Int × Sk) : Int := nth (readyLs f st.1 f.turnings.length) (skBelow st.2 (readyLs f st.1 f.turnings.length).length).toNat
def triedUp (f : Flr) (s : Sk) : Nat → List Int × Sk
  | 0 => ([], s)
  | k + 1 => ((triedUp f s k).1 ++ [pickL f (triedUp f s k)], skNext (triedUp f s k).2)
end Go.Proofs.Ytifgbnbkimcchaa

namespace Go.Proofs.Ytifgbnbkimcchaa
open Go Go.T
set_option maxHeartbeats 2000000
attribute [local irreducible] dInt dBool dSl dPp dPtr dAgg dTup dClo dAny dEx dStr dGd dCells dVec dVs dRow dOp nth Tri Into TOps Ctr bodyPost Exit.then Exit.inBlock Code.wp Code.wpIn dWhen dPa dPe dAo dArr dMp dPm dMap dCJ CtrG CtrI OpY keepPost iterPost bodyPostM roundQ
end Go.Proofs.Ytifgbnbkimcchaa

namespace Go.Proofs.Ytifgbnbkimcchaa
open Go Go.T
theorem nodup_not {l : List Int} (h : l.Nodup) {i : Nat} (hi : i < l.length) : nth l i ∉ l.take i := by
  have h1 : (l.take (i + 1)).Nodup := h.sublist (List.take_sublist _ _)
  rw [take_nth hi, List.nodup_append] at h1
  exact fun hx => h1.2.2 _ hx _ (List.mem_singleton.2 rfl) rfl
theorem nodup_few {l : List Int} {n : Nat} (hn : n ≤ 8) (h : l.Nodup) (hr : ∀ x ∈ l, 0 ≤ x ∧ x < (n : Int)) : l.length ≤ n := by
  have h1 := (pop_setOf hn hr l.length (Nat.le_refl _)).2.2 fun i hi => nodup_not h hi
  have h2 := setOf_lt hr l.length (Nat.le_refl _)
  have := List.all_eq_true.1 (List.all_eq_true.1 pop_lt_all n (List.mem_range.2 (by omega))) _ (List.mem_range.2 h2)
  rw [Nat.ble_eq, h1] at this; exact this
structure Bfs (f : Flr) (b : Int) (i : Nat) (met : List Int) : Prop where
  has : b ∈ met
  nodup : met.Nodup
  rng : ∀ x ∈ met, 0 ≤ x ∧ x < (f.turnings.length : Int)
  sound : ∀ x ∈ met, x = b ∨ Lead f.rules x b
  closed : ∀ j, j < i → ∀ r ∈ f.rules, r.nxt = nth met j → r.fst ∈ met
  le : i ≤ met.length
theorem bfs_start {f : Flr} {b : Int} (hb : 0 ≤ b ∧ b < f.turnings.length) : Bfs f b 0 [b] :=
  ⟨by simp, by simp, fun x hx => by rw [List.mem_singleton.1 hx]; exact hb, fun x hx => .inl (List.mem_singleton.1 hx), fun j hj => by omega, by simp⟩
structure BfsIn (f : Flr) (b : Int) (i : Nat) (k : Nat) (met : List Int) : Prop where
  bfs : Bfs f b i met
  lt : i < met.length
  done : ∀ r ∈ f.rules.take k, r.nxt = nth met i → r.fst ∈ met
theorem bfs_in {f : Flr} {b : Int} {i : Nat} {met : List Int} (h : Bfs f b i met) (hi : i < met.length) : BfsIn f b i 0 met := ⟨h, hi, fun r hr => by simp at hr⟩
theorem nth_app {l : List Int} {x : Int} {j : Nat} (h : j < l.length) : nth (l ++ [x]) j = nth l j := by
  rw [nth_lt (by simp; omega), nth_lt h, List.getElem_append_left h]
theorem bfsIn_add {f : Flr} (hru : f.Ruled) {b : Int} {i k : Nat} {met : List Int} (h : BfsIn f b i k met) (hk : k < f.rules.length) (h1 : (nth f.rules k).nxt = nth met i) (h2 : (nth f.rules k).fst ∉ met) : BfsIn f b i (k + 1) (met ++ [(nth f.rules k).fst]) := by
  have hm := nth_mem (xs := f.rules) hk
  have hr := (hru.2 _ hm).1
  have hl : (nth f.rules k).fst = b ∨ Lead f.rules (nth f.rules k).fst b := by
    have h3 : Lead f.rules (nth f.rules k).fst (nth met i) := by rw [← h1]; exact .one hm
    rcases h.bfs.sound _ (nth_mem h.lt) with h4 | h4
    · rw [h4] at h3; exact .inr h3
    · exact .inr (Lead.trans h3 h4)
  refine ⟨⟨List.mem_append_left _ h.bfs.has, ?_, fun x hx => ?_, fun x hx => ?_, fun j hj r hr' hn => ?_, by simp; have := h.lt; omega⟩, by simp; have := h.lt; omega, fun r hr' hn => ?_⟩
  · rw [List.nodup_append]
    refine ⟨h.bfs.nodup, by simp, fun x hx y hy => ?_⟩
    rw [List.mem_singleton.1 hy]; rintro rfl; exact h2 hx
  · rcases List.mem_append.1 hx with hx | hx
    · exact h.bfs.rng x hx
    · rw [List.mem_singleton.1 hx]; exact hr
  · rcases List.mem_append.1 hx with hx | hx
    · exact h.bfs.sound x hx
    · rw [List.mem_singleton.1 hx]; exact hl
  · rw [nth_app (by have := h.lt; omega)] at hn
    exact List.mem_append_left _ (h.bfs.closed j hj r hr' hn)
  · rw [nth_app h.lt] at hn
    rw [take_nth hk] at hr'
    rcases List.mem_append.1 hr' with hx | hx
    · exact List.mem_append_left _ (h.done r hx hn)
    · rw [List.mem_singleton.1 hx]; simp
theorem bfsIn_skip {f : Flr} {b : Int} {i k : Nat} {met : List Int} (h : BfsIn f b i k met) (hk : k < f.rules.length) (h1 : (nth f.rules k).nxt = nth met i → (nth f.rules k).fst ∈ met) : BfsIn f b i (k + 1) met := by
  refine ⟨h.bfs, h.lt, fun r hr' hn => ?_⟩
  rw [take_nth hk] at hr'
  rcases List.mem_append.1 hr' with hx | hx
  · exact h.done r hx hn
  · rw [List.mem_singleton.1 hx] at hn ⊢; exact h1 hn
def bfsT (f : Flr) (i k : Nat) (met : List Int) : List Int := if (decide ((nth f.rules k).nxt = nth met i) && !decide ((nth f.rules k).fst ∈ met)) = true then met ++ [(nth f.rules k).fst] else met
theorem bfsIn_step {f : Flr} (hru : f.Ruled) {b : Int} {i k : Nat} {met : List Int} (h : BfsIn f b i k met) (hk : k < f.rules.length) : BfsIn f b i (k + 1) (bfsT f i k met) := by
  unfold bfsT
  split
  · rename_i hc
    simp only [Bool.and_eq_true, decide_eq_true_eq, Bool.not_eq_true', decide_eq_false_iff_not] at hc
    exact bfsIn_add hru h hk hc.1 hc.2
  · rename_i hc
    simp only [Bool.and_eq_true, decide_eq_true_eq, Bool.not_eq_true', decide_eq_false_iff_not, not_and, Classical.not_not] at hc
    exact bfsIn_skip h hk hc
theorem bfs_next {f : Flr} {b : Int} {i k : Nat} {met : List Int} (h : BfsIn f b i k met) (hk : f.rules.length ≤ k) : Bfs f b (i + 1) met := by
  refine ⟨h.bfs.has, h.bfs.nodup, h.bfs.rng, h.bfs.sound, fun j hj r hr hn => ?_, by have := h.lt; omega⟩
  rcases Nat.lt_or_ge j i with hx | hx
  · exact h.bfs.closed j hx r hr hn
  · have e : j = i := by omega
    rw [e] at hn
    exact h.done r (by rw [List.take_of_length_le hk]; exact hr) hn
theorem closed_lead {f : Flr} {met : List Int} (hcl : ∀ r ∈ f.rules, r.nxt ∈ met → r.fst ∈ met) {a c : Int} (hl : Lead f.rules a c) : c ∈ met → a ∈ met := by
  induction hl with
  | one hr => exact hcl _ hr
  | step hr _ ih => exact fun hm => ih (hcl _ hr hm)
theorem bfs_end {f : Flr} {a b : Int} {i : Nat} {met : List Int} (h : Bfs f b i met) (hi : met.length ≤ i) (ha : 0 ≤ a ∧ a < f.turnings.length) : (!decide (a = b) && decide (a ∈ met)) = (!decide (a = b) && decide (a ∈ aheadM f b)) := by
  by_cases hab : a = b
  · rw [decide_eq_true hab]; rfl
  · congr 1
    rw [decide_eq_decide, mem_aheadM]
    constructor
    · intro hm
      rcases h.sound a hm with hx | hx
      · exact absurd hx hab
      · exact ⟨ha, hx⟩
    · rintro ⟨_, hl⟩
      refine closed_lead (fun r hr hm => ?_) hl h.has
      obtain ⟨j, hj, e⟩ := List.getElem_of_mem hm
      exact h.closed j (by omega) r hr (by rw [nth_lt hj, e])
end Go.Proofs.Ytifgbnbkimcchaa

namespace Go.Proofs.Ytifgbnbkimcchaa
open Go Go.T
set_option maxHeartbeats 2000000
attribute [local irreducible] dInt dBool dSl dPp dPtr dAgg dTup dClo dAny dEx dStr dGd dCells dVec dVs dRow dOp nth Tri Into TOps Ctr bodyPost Exit.then Exit.inBlock Code.wp Code.wpIn dWhen dPa dPe dAo dArr dMp dPm dMap dCJ CtrG CtrI OpY keepPost iterPost bodyPostM roundQ
set_option maxRecDepth 100000 in
theorem c_ahead5 (f : Flr) (hr : f.Right) (a b : Int) (ha : 0 ≤ a ∧ a < f.turnings.length) (hb : 0 ≤ b ∧ b < f.turnings.length) : Ctr Try.prog 57 [flrT f, Ty.int .i64 a, Ty.int .i64 b] (Ty.bool (!decide (a = b) && decide (a ∈ aheadM f b))) := by
  refine fn_intro Try.func57 rfl (by decide) Try.ntmps57 (by exact Nat.le_of_ble_eq_true rfl) fun w0 M0 => ?_
  have h8 := hr.ruled.1
  have h16 := hr.ranged.rules
  refine t_seq ?_
  refine t_region ?_
  refine r_box_agg rfl ?_
  refine asB rfl ?_
  refine r_nil ?_
  refine i_then ?_
  refine t_seq ?_
  refine t_region ?_
  refine mvI rfl ?_
  refine r_buildRowN (E := I64) (xs := [b]) rfl rfl rfl rfl rfl (by decide) (by decide) (by repeat (first | exact (Parts.nil : Parts _ _ [] _) | (show Parts _ _ ((_, _) :: _) _; apply Parts.one; (· exact (rfl : _ = Ty.int _ _)); (· exact rfl)))) (by exact rfl) rfl rfl ?_
  refine asR rfl ?_
  refine r_nil ?_
  refine i_then ?_
  refine t_seq ?_
  refine t_seq ?_
  refine t_region ?_
  refine asI rfl ?_
  refine r_nil ?_
  refine i_then ?_
  refine t_block ?_
  refine t_loop (fun (x : {x : Nat × List Int // Bfs f b x.1 x.2}) => live [(1, Ty.int .i64 a), (2, Ty.int .i64 b), (3, Ty.pp (flrTys f)), (7, Ty.row I64 3 13 x.1.2), (8, Ty.int .i64 (x.1.1 : Nat))] []) (fun x => f.turnings.length - x.1.1) (⟨(0, [b]), bfs_start hb⟩) ?_ fun x => ?_
  · (refine Ent.mk' ?_ ?_ <;> (repeat' (first | exact allSub_zero | exact allTags_nil | refine allSub_succ' ?_ (Ty.sub_any _) | refine allSub_succ' ?_ (Ty.sub_refl _))))
  ·
    have hx := x.2
    have hfew := nodup_few h8 hx.nodup hx.rng
    have hxle := hx.le
    refine t_seq ?_
    refine t_seq ?_
    refine t_region ?_
    refine mvI rfl ?_
    refine mvR rfl ?_
    refine r_len_row rfl rfl rfl ?_
    refine r_bin rfl rfl rfl ?_
    refine r_nil ?_
    refine i_then ?_
    refine t_cond_dec rfl (fun hc1 => ?_) (fun hc1 => ?_)
    ·
      refine t_skip ?_
      refine i_then ?_
      refine t_seq ?_
      refine t_block ?_
      refine t_seq ?_
      have hxlt : x.1.1 < x.1.2.length := by omega
      refine t_region ?_
      refine r_field_pp rfl rfl rfl rfl rfl (by decide) ?_
      refine r_load_pp rfl rfl rfl rfl ?_
      refine r_len rfl rfl rfl ?_
      refine mvI rfl ?_
      refine r_nil ?_
      refine i_then ?_
      refine t_block ?_
      refine t_loop (fun (y : {y : Nat × List Int // y.1 ≤ f.rules.length ∧ BfsIn f b x.1.1 y.1 y.2}) => live [(1, Ty.int .i64 a), (2, Ty.int .i64 b), (3, Ty.pp (flrTys f)), (7, Ty.row I64 3 13 y.1.2), (8, Ty.int .i64 (x.1.1 : Nat)), (20, Ty.sl RulE f.rules), (21, Ty.int .i64 f.rules.length), (22, Ty.int .i64 (y.1.1 : Nat))] []) (fun y => f.rules.length - y.1.1) (⟨(0, x.1.2), Nat.zero_le _, bfs_in hx hxlt⟩) ?_ fun y => ?_
      · (refine Ent.mk' ?_ ?_ <;> (repeat' (first | exact allSub_zero | exact allTags_nil | refine allSub_succ' ?_ (Ty.sub_any _) | refine allSub_succ' ?_ (Ty.sub_refl _))))
      ·
        have hy1 := y.2.1
        have hy := y.2.2
        have hylt := hy.lt
        have hfy := nodup_few h8 hy.bfs.nodup hy.bfs.rng
        refine t_seq ?_
        refine t_region ?_
        refine r_bin rfl rfl rfl ?_
        refine r_nil ?_
        refine i_then ?_
        refine t_seq ?_
        refine t_cond_dec rfl (fun hc2 => ?_) (fun hc2 => ?_)
        ·
          refine t_skip ?_
          refine i_then ?_
          refine t_seq ?_
          refine t_block ?_
          refine t_seq ?_
          refine t_region ?_
          refine r_index_slN rfl rfl rfl rfl rfl rfl (by omega) ?_
          refine r_load_ppN rfl rfl rfl (by exact Nat.le_of_ble_eq_true rfl) ?_
          refine r_alloc rfl (by exact List.cons_ne_nil _ _) rfl ?_
          refine r_storeN rfl rfl (by decide) rfl rfl rfl rfl rfl rfl ?_
          refine r_nil ?_
          refine i_then ?_
          refine t_seq ?_
          refine t_draw mixed rfl ?_
          refine r_field_ptr rfl rfl rfl rfl rfl (by decide) ?_
          refine r_load_ptr rfl rfl (by decide) rfl rfl rfl ?_
          refine mvR rfl ?_
          refine mvI rfl ?_
          refine r_index_rowN rfl rfl rfl rfl rfl rfl (by omega) ?_
          refine r_load_op rfl rfl rfl rfl ?_
          refine r_bin rfl rfl rfl ?_
          refine mvB rfl ?_
          apply r_guard (s := 33) rfl rfl rfl
          · intro hg; apply opT_of; (refine mvR rfl ?_); refine r_nil ?_; exact rfl
          · exact rfl
          · exact rfl
          apply r_guard (s := 33) rfl rfl rfl
          · intro hg; apply opT_of; (refine r_field_ptr rfl rfl rfl rfl rfl (by decide) ?_); refine r_nil ?_; exact rfl
          · exact rfl
          · exact rfl
          apply r_guard (s := 33) rfl rfl rfl
          · intro hg; apply opT_strip (s := 35) rfl (by (rw [hg]; rfl)); apply opT_of; (refine r_load_ptr rfl rfl (by decide) rfl rfl rfl ?_); refine r_nil ?_; exact rfl
          · exact rfl
          · exact rfl
          apply r_guard (s := 33) rfl rfl rfl
          · intro hg; apply opT_strip (s := 34) rfl (by (rw [hg]; rfl)); apply opT_strip (s := 36) rfl (by (rw [hg]; rfl)); apply opT_of; (refine r_callL [13] (c_Contains_int _ _) rfl (by repeat (first | exact lends_nil | refine lends_cons (lend_pub rfl rfl) ?_ | refine lends_cons (lend_row rfl) ?_)) (by exact plain_bool _) ?_); refine r_nil ?_; exact rfl
          · exact rfl
          · exact rfl
          apply r_guard (s := 33) rfl rfl rfl
          · intro hg; apply opT_strip (s := 37) rfl (by (rw [hg]; rfl)); apply opT_of; (refine r_not rfl ?_); refine r_nil ?_; exact rfl
          · exact rfl
          · exact rfl
          refine r_and rfl rfl ?_
          refine r_nil ?_
          refine ⟨by kernel_rfl, ?_⟩
          refine i_then ?_
          refine t_cond rfl (fun hc3 => ?_) (fun hc3 => ?_)
          ·
            refine t_region ?_
            refine mvR rfl ?_
            refine r_field_ptr rfl rfl rfl rfl rfl (by decide) ?_
            refine r_load_ptr rfl rfl (by decide) rfl rfl rfl ?_
            refine r_buildSlice (E := I64) (xs := [_]) rfl rfl rfl rfl rfl (by decide) (by decide) (by repeat (first | exact (Parts.nil : Parts _ _ [] _) | (show Parts _ _ ((_, _) :: _) _; apply Parts.one; (· exact (rfl : _ = Ty.int _ _)); (· exact rfl)))) (by exact rfl) rfl ?_
            refine r_append rfl rfl (by decide) rfl rfl rfl rfl rfl rfl (by decide) (by (simp <;> omega)) (by (simp <;> omega)) ?_
            refine asR rfl ?_
            refine r_nil ?_
            refine i_block ?_
            refine i_then ?_
            refine t_region ?_
            refine r_add rfl rfl (by omega) (by omega) ?_
            refine mvI rfl ?_
            refine r_nil ?_
            refine i_round (⟨(y.1.1 + 1, bfsT f x.1.1 y.1.1 y.1.2), by show y.1.1 + 1 ≤ _; omega, bfsIn_step hr.ruled hy (by omega)⟩) ?_ (by show f.rules.length - (y.1.1 + 1) < f.rules.length - y.1.1; omega)
            (refine Ent.mk' ?_ ?_ <;> (repeat' (first | exact allSub_zero | exact allTags_nil | refine allSub_succ' ?_ (Ty.sub_any _) | refine allSub_succ' ?_ (Ty.sub_refl _) | refine allSub_succ' ?_ ?_)))
            all_goals skip
            all_goals exact Ty.sub_row (show _ = bfsT f x.1.1 y.1.1 y.1.2 from (if_pos hc3).symm)
          ·
            refine t_skip ?_
            refine i_block ?_
            refine i_then ?_
            refine t_region ?_
            refine r_add rfl rfl (by omega) (by omega) ?_
            refine mvI rfl ?_
            refine r_nil ?_
            refine i_round (⟨(y.1.1 + 1, bfsT f x.1.1 y.1.1 y.1.2), by show y.1.1 + 1 ≤ _; omega, bfsIn_step hr.ruled hy (by omega)⟩) ?_ (by show f.rules.length - (y.1.1 + 1) < f.rules.length - y.1.1; omega)
            (refine Ent.mk' ?_ ?_ <;> (repeat' (first | exact allSub_zero | exact allTags_nil | refine allSub_succ' ?_ (Ty.sub_any _) | refine allSub_succ' ?_ (Ty.sub_refl _) | refine allSub_succ' ?_ ?_)))
            all_goals skip
            all_goals exact Ty.sub_row (show _ = bfsT f x.1.1 y.1.1 y.1.2 from (if_neg (Bool.eq_false_iff.1 hc3)).symm)
        ·
          refine t_exit ?_
          refine i_then_exit ?_
          refine i_then_exit ?_
          refine i_block_exit rfl ?_
          refine i_block ?_
          refine i_then ?_
          refine t_region ?_
          refine mvI rfl ?_
          refine r_add rfl rfl (by omega) (by omega) ?_
          refine asI rfl ?_
          refine r_nil ?_
          refine i_round (⟨(x.1.1 + 1, y.1.2), bfs_next y.2.2 (by omega)⟩) ?_ (by show f.turnings.length - (x.1.1 + 1) < f.turnings.length - x.1.1; omega)
          (refine Ent.mk' ?_ ?_ <;> (repeat' (first | exact allSub_zero | exact allTags_nil | refine allSub_succ' ?_ (Ty.sub_any _) | refine allSub_succ' ?_ (Ty.sub_refl _))))
          all_goals skip
    ·
      refine t_exit ?_
      refine i_then_exit ?_
      refine i_then_exit ?_
      refine i_block_exit rfl ?_
      refine i_then ?_
      refine t_seq ?_
      refine t_region ?_
      refine mvI rfl ?_
      refine mvI rfl ?_
      refine r_bin rfl rfl rfl ?_
      refine mvB rfl ?_
      apply r_guard (s := 49) rfl rfl rfl
      · intro hg; apply opT_of; (refine mvR rfl ?_); refine r_nil ?_; exact rfl
      · exact rfl
      · exact rfl
      apply r_guard (s := 49) rfl rfl rfl
      · intro hg; apply opT_of; (refine mvI rfl ?_); refine r_nil ?_; exact rfl
      · exact rfl
      · exact rfl
      apply r_guard (s := 49) rfl rfl rfl
      · intro hg; apply opT_strip (s := 50) rfl (by (rw [hg]; rfl)); apply opT_strip (s := 51) rfl (by (rw [hg]; rfl)); apply opT_of; (refine r_callL [13] (c_Contains_int _ _) rfl (by repeat (first | exact lends_nil | refine lends_cons (lend_pub rfl rfl) ?_ | refine lends_cons (lend_row rfl) ?_)) (by exact plain_bool _) ?_); refine r_nil ?_; exact rfl
      · exact rfl
      · exact rfl
      refine r_and rfl rfl ?_
      refine asB rfl ?_
      refine r_nil ?_
      refine i_then ?_
      refine t_ret ?_
      refine i_rp1 rfl rfl ?_
      all_goals skip
      all_goals exact ret_eq rfl rfl (congrArg Ty.bool (bfs_end hx (by omega) ha))
end Go.Proofs.Ytifgbnbkimcchaa

namespace Go.T
open Go
section
variable {P : Program} {fr : Fr} {A : As} {c : Code} {Q : Exit → Act → World → Prop}
def PubTy (A : As) (tg : Nat) (t0 t : Ty) : Prop := ∀ w M v, Wf w M → (∀ x ∈ A.tags, x.2.den w M x.1) → t0.den w M v → t.den w (pubTag M tg) v
def AllTy (A : As) (tg : Nat) : List Ty → List Ty → Prop
  | [], [] => True
  | a :: l, b :: l' => PubTy A tg a b ∧ AllTy A tg l l'
  | _, _ => False
def PubC (A : As) (tg : Nat) (x : Nat × Cont) : Prop := ∀ w M, Wf w M → (∀ x ∈ A.tags, x.2.den w M x.1) → x.2.den w (pubTag M tg) x.1
def AllC (A : As) (tg : Nat) : List (Nat × Cont) → Prop
  | [] => True
  | x :: l => PubC A tg x ∧ AllC A tg l
theorem pubTy_same {tg : Nat} {t : Ty} (h : disj t.deps [tg] = true) : PubTy A tg t t := fun w M _ _ _ hd =>
  t.mono (pubTag_le (w := w)) (disj_spec h) (fun _ _ h => by cases h) hd
theorem pubTy_row {α : Type} {E : El α} {T tg : Nat} {xs : List α} : PubTy A tg (.row E T tg xs) (.sl E xs) := fun w M v wf _ hd =>
  row_sl wf hd (fun b hb => by simp [pubTag, hb]) (fun b hb => by simp [pubTag, hb])
theorem pubTy_vs {α : Type} {E : El α} {T tg n : Nat} {xs : List α} (hc : A.tag tg = some (.vec E T xs)) (hn : xs.length = n) (h1 : 1 ≤ tg) : PubTy A tg (.vs tg n) (.sl E xs) := fun w M v wf ht hd => by
  have hv : dVec E T xs w M tg := ht _ (tag_mem hc)
  subst hn
  rcases hd with ⟨h0, rfl⟩ | ⟨b, cc, hb, e, hn1, hn2⟩
  · exact ⟨none, 0, by rw [h0], by omega, by simp [maxLen], fun h => absurd h (by omega)⟩
  refine ⟨_, cc, e, hn1, hn2, fun _ => ⟨b, 0, rfl, by simp [pubTag, hb], wf.lt b _ hb, fun i t hi => ?_⟩⟩
  obtain ⟨u, hu, hdu⟩ := vec_cell wf h1 hb hv hi
  refine ⟨u, by rw [Nat.zero_add]; exact hu, t.mono (pubTag_le (w := w)) ?_ ?_ hdu⟩
  · intro u hu
    have : u ∈ depsOf (xs.flatMap E.tys) := List.mem_flatMap.2 ⟨t, List.mem_of_getElem? hi, hu⟩
    rw [E.flat_deps] at this; cases this
  · intro u _ h; cases h
theorem allTy_dens {tg : Nat} {w : World} {M : Tags} (wf : Wf w M) (ht : ∀ x ∈ A.tags, x.2.den w M x.1) : ∀ {l l' : List Ty} {vs : List Value}, AllTy A tg l l' → dens w M l vs → dens w (pubTag M tg) l' vs
  | [], [], [], _, _ => trivial
  | _ :: _, _ :: _, _ :: _, ⟨h1, h2⟩, ⟨h3, h4⟩ => ⟨h1 _ _ _ wf ht h3, allTy_dens wf ht h2 h4⟩
theorem pubC_cells {tg o T : Nat} {l l' : List Ty} (ho : A.tag o = some (.cells T l)) (hne : Nat.beq o tg = false) (h : AllTy A tg l l') : PubC A tg (o, .cells T l') := fun w M wf ht => by
  obtain ⟨b, cs, hb, hh, hd⟩ := ht _ (tag_mem ho)
  refine ⟨b, cs, ?_, hh, allTy_dens wf ht h hd⟩
  unfold pubTag
  rw [if_neg]
  · exact hb
  · rw [hb]; intro e; injection e with e; subst e; simp at hne
theorem allC_mem {tg : Nat} {w : World} {M : Tags} (wf : Wf w M) (ht : ∀ x ∈ A.tags, x.2.den w M x.1) : ∀ {lt : List (Nat × Cont)}, AllC A tg lt → ∀ {x : Nat × Cont}, x ∈ lt → x.2.den w (pubTag M tg) x.1
  | y :: _, ⟨h1, h2⟩, x, hx => by
    rcases List.mem_cons.1 hx with rfl | hx
    · exact h1 w M wf ht
    · exact allC_mem wf ht h2 hx
theorem t_pubC {tg : Nat} (l : List (Nat × Ty)) (lt : List (Nat × Cont)) (h1 : 1 ≤ tg) (hp : fr.pass.contains tg = false) (hl : AllPub A tg l) (hlt : AllC A tg lt) (h : Tri P fr c ⟨(A.pub tg l).slots, lt ++ (A.pub tg l).tags⟩ Q) : Tri P fr c A Q := fun a w ⟨M, ok, hsl, ht⟩ => by
  have le : Le (· ∈ ([] : List Nat)) (· ∈ [tg]) w M w (pubTag M tg) := pubTag_le
  refine h a w ⟨pubTag M tg, ⟨pubTag_wf ok.wf, Fr.base_step ok.base (by intro _ h; cases h) (fun t ht => by simp only [List.mem_singleton] at ht; subst ht; exact ⟨h1, by simpa using hp⟩) le, ok.size, ok.defers.step (by intro _ h; cases h) (fun t ht => by simp only [List.mem_singleton] at ht; subst ht; exact h1) le⟩, fun i hi => ?_, fun x hx => ?_⟩
  · have base : (killSlots [] [tg] A.slots i).den w (pubTag M tg) (a.tmps.getD i undef) := by
      rcases killSlots_spec [] [tg] A.slots i with ⟨e, hdj⟩ | ⟨_, e⟩
      · rw [e]; exact (A.slots i).mono le (safe_spec hdj).1 (safe_spec hdj).2 (hsl i hi)
      · rw [e]; trivial
    show (setL l (killSlots [] [tg] A.slots) i).den _ _ _
    clear h
    induction l with
    | nil => exact base
    | cons x l ih =>
      obtain ⟨d, t⟩ := x
      unfold setL
      cases hb : Nat.beq i d with
      | false => simp only [cond_false]; exact ih hl.2
      | true =>
        have : i = d := Nat.eq_of_beq_eq_true hb
        subst this
        simp only [cond_true]
        exact hl.1 w M _ ok.wf ht (hsl i hi)
  · rcases List.mem_append.1 (show x ∈ lt ++ (A.pub tg l).tags from hx) with hx | hx
    · exact allC_mem ok.wf ht hlt hx
    · exact killTags_den le hx fun y hy _ => ht y hy
end
section
open Go.RowKit
variable {P : Program} {A : As} {fn : Func} {n : Nat} {w0 : World} {M0 : Tags} {F : List Nat} {post : List (Nat × Cont)} [T : Tab P]
theorem g_rcell (L : List Nat) {tm ty tg Tb : Nat} {l : List Ty} {ti : TI} {res : Ty} (hr : fn.results = #[.cell tm ty]) (ht : Nat.blt tm n = true) (hx : A.slots tm = .ptr tg 0) (hc : A.tag tg = some (.cells Tb l)) (h1 : 1 ≤ tg) (hT : T.tab[ty]? = some ti) (ha : ti.k.agg = true) (hl : l.length = ti.size)
    (hL : ∀ t ∈ F, t ∈ L) (hp : RetCs A L post) (hs : RetG L (.agg l) res) :
    Into ⟨n, w0, M0, F, .plain⟩ A (bodyPost P fn (keepPost F post w0 M0 res) .ret) := by
  intro a w ⟨M, ok, hsl, htg⟩
  have hd := hsl tm (by simpa using ht)
  rw [hx] at hd
  obtain ⟨b, hb, e⟩ := hd
  obtain ⟨b', cs, hb', hh, hds⟩ := htg _ (tag_mem hc)
  obtain ⟨u, rfl⟩ : ∃ u, tg = u + 1 := ⟨tg - 1, by omega⟩
  have := ok.wf.inj b b' u hb hb'
  subst this
  have hlen := dens_len hds
  have hload := run_loadN (P := P) hT ha (w := w) (b := b) (off := 0) (cs := cs.toList) (by rw [hlen, hl]) (fun j v hj => by simpa [World.cell?, hh] using hj)
  have hload' : (loadVar ty ⟨b, 0, none⟩).run P w = .ok (.agg cs) w := by simpa [Instr.loadAt, Instr.sureAddr] using hload
  refine ⟨ok.nodefers (by simp), .agg cs, ?_, _, pubG L M, rfl, pubG_wf ok.wf, base_pubG hL ok.base, hs _ _ _ ok.wf ⟨cs, rfl, hds⟩, rc_get ok.wf htg hp⟩
  have e' : a.tmps.getD tm undef = .pointer (some ⟨b, 0, none⟩) := e
  have e'' : a.tmps[tm]?.getD undef = .pointer (some ⟨b, 0, none⟩) := by rw [← Array.getD_eq_getD_getElem?]; exact e'
  simp [results, hr, e'', asAddr, hload']
end
end Go.T

namespace Go.Proofs.Ytifgbnbkimcchaa
open Go Go.T
theorem sum_set_int {l : List Int} : ∀ {i : Nat}, i < l.length → ∀ v : Int, (l.set i v).sum = l.sum - nth l i + v := by
  induction l with
  | nil => intro i h; simp at h
  | cons x l ih =>
    intro i h v
    cases i with
    | zero => simp [nth]; omega
    | succ i =>
      have := ih (i := i) (by simpa using h) v
      simp only [List.set_cons_succ, List.sum_cons, this]
      have : nth (x :: l) (i + 1) = nth l i := rfl
      omega
theorem le_sum_int {l : List Int} (h : ∀ x ∈ l, 0 ≤ x) : 0 ≤ l.sum ∧ ∀ x ∈ l, x ≤ l.sum := by
  induction l with
  | nil => simp
  | cons y l ih =>
    have h1 := ih fun x hx => h x (List.mem_cons_of_mem _ hx)
    have h2 := h y List.mem_cons_self
    refine ⟨by rw [List.sum_cons]; omega, fun x hx => ?_⟩
    rw [List.sum_cons]
    rcases List.mem_cons.1 hx with rfl | hx
    · omega
    · have := h1.2 x hx; omega
theorem mem_nth_of {l : List Int} {P : Int → Prop} (h : ∀ j, j < l.length → P (nth l j)) : ∀ x ∈ l, P x := fun x hx => by
  obtain ⟨i, hi, rfl⟩ := List.getElem_of_mem hx
  have := h i hi
  rwa [nth_lt hi] at this
def shUp (n : Nat) (s : Sk) : Nat → List Int × Sk
  | 0 => (List.replicate n 0, s)
  | k + 1 => ((shUp n s k).1.set (skBelow (shUp n s k).2 n).toNat (nth (shUp n s k).1 (skBelow (shUp n s k).2 n).toNat + 1), skNext (shUp n s k).2)
theorem below_in {s : Sk} {n : Nat} (hn : 1 ≤ n) : 0 ≤ skBelow s n ∧ skBelow s n < n := by
  have := skBelow_bound s n; omega
theorem sh_spec {n : Nat} (hn : 1 ≤ n) (s : Sk) : ∀ k, (shUp n s k).1.length = n ∧ (shUp n s k).1.sum = k ∧ (∀ j, j < n → 0 ≤ nth (shUp n s k).1 j) ∧ (shUp n s k).2.taken = s.taken + k
  | 0 => ⟨by simp [shUp], by simp [shUp], fun j hj => by simp [shUp, nth, hj], by simp [shUp]⟩
  | k + 1 => by
    obtain ⟨h1, h2, h3, h4⟩ := sh_spec hn s k
    have hb := below_in (s := (shUp n s k).2) hn
    refine ⟨?_, ?_, fun j hj => ?_, ?_⟩
    · show (List.set _ _ _).length = _
      rw [List.length_set, h1]
    · show (List.set _ _ _).sum = _
      rw [sum_set_int (by omega), h2]; omega
    · show 0 ≤ nth (List.set _ _ _) j
      have := h3 j hj
      have := h3 (skBelow (shUp n s k).2 n).toNat (by omega)
      rw [nth_set_int]; split <;> omega
    · show (skNext _).taken = _
      rw [skNext_taken, h4]; omega
def bearUp (sh : List Int) (has : Int) (bears : List Int) : Nat → List Int
  | 0 => bears
  | k + 1 => (bearUp sh has bears k).set k (nth (bearUp sh has bears k) k + nth sh k * has)
theorem bear_spec (sh : List Int) (has : Int) (bears : List Int) : ∀ k, (bearUp sh has bears k).length = bears.length ∧ ∀ j, j < bears.length → nth (bearUp sh has bears k) j = nth bears j + if j < k then nth sh j * has else 0
  | 0 => ⟨rfl, fun j _ => by simp [bearUp]⟩
  | k + 1 => by
    obtain ⟨h1, h2⟩ := bear_spec sh has bears k
    refine ⟨by show (List.set _ _ _).length = _; rw [List.length_set, h1], fun j hj => ?_⟩
    show nth (List.set _ _ _) j = _
    rw [nth_set_int]
    by_cases e : k = j
    · subst e
      rw [if_pos ⟨rfl, by omega⟩, h2 k hj, if_neg (by omega), if_pos (by omega)]; omega
    · rw [if_neg (fun h => e h.1), h2 j hj]
      by_cases hjk : j < k
      · rw [if_pos hjk, if_pos (by omega)]
      · rw [if_neg hjk, if_neg (by omega)]
structure Mk where
  bears : List Int
  bins : List Bin
  left : List Int
  sk : Sk
def mkBin (n : Nat) (p : Mk) : Bin := ⟨skBelow p.sk 60, (shUp n (skNext p.sk) 4).1⟩
def binsUp (n : Nat) (s : Sk) : Nat → Mk
  | 0 => ⟨List.replicate n 0, [], [], s⟩
  | k + 1 => ⟨bearUp (mkBin n (binsUp n s k)).shares (mkBin n (binsUp n s k)).has (binsUp n s k).bears n, (binsUp n s k).bins ++ [mkBin n (binsUp n s k)], (binsUp n s k).left ++ [(mkBin n (binsUp n s k)).has], (shUp n (skNext (binsUp n s k).sk) 4).2⟩
structure BinOk (n : Nat) (b : Bin) : Prop where
  has : 0 ≤ b.has ∧ b.has ≤ 59
  len : b.shares.length = n
  sum : b.shares.sum = 4
  rng : ∀ j, j < n → 0 ≤ nth b.shares j ∧ nth b.shares j ≤ 4
theorem mkBin_ok {n : Nat} (hn : 1 ≤ n) (p : Mk) : BinOk n (mkBin n p) := by
  obtain ⟨h1, h2, h3, _⟩ := sh_spec hn (skNext p.sk) 4
  have hb := skBelow_bound p.sk 60
  have h5 : ∀ x ∈ (shUp n (skNext p.sk) 4).1, 0 ≤ x := mem_nth_of fun j hj => h3 j (by omega)
  have h6 := (le_sum_int h5).2
  refine ⟨⟨hb.1, ?_⟩, h1, h2, fun j hj => ⟨h3 j hj, ?_⟩⟩
  · show skBelow p.sk 60 ≤ 59
    omega
  · have := h6 _ (nth_mem (show j < _ by omega))
    rw [h2] at this
    exact this
structure MkOk (n k : Nat) (s : Sk) (p : Mk) : Prop where
  bears : p.bears.length = n
  bearsR : ∀ j, j < n → 0 ≤ nth p.bears j ∧ nth p.bears j ≤ 236 * k
  bins : p.bins.length = k
  binOk : ∀ b ∈ p.bins, BinOk n b
  left : p.left = p.bins.map Bin.has
  taken : p.sk.taken = s.taken + 5 * k
theorem bins_spec {n : Nat} (hn : 1 ≤ n) (s : Sk) : ∀ k, MkOk n k s (binsUp n s k)
  | 0 => ⟨by simp [binsUp], fun j hj => by simp [binsUp, nth, hj], rfl, fun b hb => by simp [binsUp] at hb, rfl, by simp [binsUp]⟩
  | k + 1 => by
    have h := bins_spec hn s k
    have hb := mkBin_ok hn (binsUp n s k)
    have hu := bear_spec (mkBin n (binsUp n s k)).shares (mkBin n (binsUp n s k)).has (binsUp n s k).bears n
    refine ⟨?_, fun j hj => ?_, ?_, fun b hb' => ?_, ?_, ?_⟩
    · exact hu.1.trans h.bears
    · show 0 ≤ nth (bearUp _ _ _ _) j ∧ nth (bearUp _ _ _ _) j ≤ _
      rw [hu.2 j (by rw [h.bears]; exact hj), if_pos hj]
      have h1 := h.bearsR j hj
      have h2 := hb.rng j hj
      have h3 := hb.has
      have h4 : 0 ≤ nth (mkBin n (binsUp n s k)).shares j * (mkBin n (binsUp n s k)).has := Int.mul_nonneg h2.1 h3.1
      have h5 : nth (mkBin n (binsUp n s k)).shares j * (mkBin n (binsUp n s k)).has ≤ 4 * 59 := Int.mul_le_mul h2.2 h3.2 h3.1 (by omega)
      omega
    · show (_ ++ [_]).length = _
      rw [List.length_append, h.bins]; rfl
    · rcases List.mem_append.1 hb' with hb' | hb'
      · exact h.binOk b hb'
      · rw [List.mem_singleton.1 hb']; exact hb
    · show _ ++ [_] = List.map _ (_ ++ [_])
      rw [List.map_append, h.left]; rfl
    · show (shUp _ _ _).2.taken = _
      rw [(sh_spec hn _ 4).2.2.2, skNext_taken, h.taken]; omega
def upOne (xs : List Int) (s : Sk) (k : Nat) : List Int := xs.set k (nth xs k + skBelow s 90)
def downOne (ys : List Int) (k : Nat) : List Int := ys.set k (max 0 (nth ys k - 60))
def upsUp (xs : List Int) (s : Sk) : Nat → List Int × Sk
  | 0 => (xs, s)
  | k + 1 => (if skRare (skNext (upsUp xs s k).2) 9 then downOne (upOne (upsUp xs s k).1 (upsUp xs s k).2 k) k else upOne (upsUp xs s k).1 (upsUp xs s k).2 k, skNext (skNext (upsUp xs s k).2))
theorem ups_spec (xs : List Int) (s : Sk) (hx : ∀ j, j < xs.length → 0 ≤ nth xs j) : ∀ k, (upsUp xs s k).1.length = xs.length ∧ (∀ j, j < xs.length → 0 ≤ nth (upsUp xs s k).1 j ∧ nth (upsUp xs s k).1 j ≤ nth xs j + if j < k then 90 else 0) ∧ (upsUp xs s k).2.taken = s.taken + 2 * k
  | 0 => ⟨rfl, fun j hj => by have := hx j hj; simp [upsUp]; omega, by simp [upsUp]⟩
  | k + 1 => by
    obtain ⟨h1, h2, h3⟩ := ups_spec xs s hx k
    have hb := skBelow_bound (upsUp xs s k).2 90
    have hy : ∀ j, j < xs.length → 0 ≤ nth (upOne (upsUp xs s k).1 (upsUp xs s k).2 k) j ∧ nth (upOne (upsUp xs s k).1 (upsUp xs s k).2 k) j ≤ nth xs j + if j < k + 1 then 90 else 0 := fun j hj => by
      have h4 := h2 j hj
      rw [upOne, nth_set_int]
      by_cases e : k = j
      · subst e
        rw [if_neg (by omega)] at h4
        rw [if_pos ⟨rfl, by omega⟩, if_pos (by omega)]; omega
      · rw [if_neg (fun h => e h.1)]
        by_cases hjk : j < k
        · rw [if_pos hjk] at h4; rw [if_pos (by omega)]; exact h4
        · rw [if_neg hjk] at h4; rw [if_neg (by omega)]; exact h4
    have hl : (upOne (upsUp xs s k).1 (upsUp xs s k).2 k).length = xs.length := by rw [upOne, List.length_set, h1]
    refine ⟨?_, fun j hj => ?_, ?_⟩
    · show (if _ then _ else _ : List Int).length = _
      split
      · rw [downOne, List.length_set, hl]
      · exact hl
    · show 0 ≤ nth (if _ then _ else _ : List Int) j ∧ nth (if _ then _ else _ : List Int) j ≤ _
      have h4 := hy j hj
      split
      · rw [downOne, nth_set_int]
        split
        · rename_i e
          obtain ⟨rfl, _⟩ := e
          omega
        · exact h4
      · exact h4
    · show (skNext (skNext _)).taken = _
      rw [skNext_taken, skNext_taken, h3]; omega
end Go.Proofs.Ytifgbnbkimcchaa

namespace Go.Proofs.Ytifgbnbkimcchaa
open Go Go.T
structure Tk where
  left : List Int
  trn : List Trn
  sk : Sk
def srcOf (left : List Int) (a : Int) : Int := if a ≠ -1 ∧ nth left a.toNat = 0 then -1 else a
def dstOf (m : Nat) (a b : Int) : Int := if a = b then modM (a + 1) m else b
def sacksOf (left : List Int) (a n : Int) : Int := if a ≠ -1 then min n (nth left a.toNat) else n
def leftOf (left : List Int) (a n : Int) : List Int := if a ≠ -1 then left.set a.toNat (nth left a.toNat - n) else left
def tkSrc (m : Nat) (p : Tk) : Int := srcOf p.left (skAmong p.sk (-1) ((m : Int) - 1))
def tkDst (m : Nat) (p : Tk) : Int := dstOf m (tkSrc m p) (skAmong (skNext p.sk) (-1) ((m : Int) - 1))
def tkSacks (m : Nat) (p : Tk) : Int := sacksOf p.left (tkSrc m p) (skAmong (skNext (skNext p.sk)) 1 20)
def mkTrn (m : Nat) (p : Tk) : Trn := ⟨tkSrc m p, tkDst m p, tkSacks m p⟩
def trnsUp (m : Nat) (left : List Int) (s : Sk) : Nat → Tk
  | 0 => ⟨left, [], s⟩
  | k + 1 => ⟨leftOf (trnsUp m left s k).left (tkSrc m (trnsUp m left s k)) (tkSacks m (trnsUp m left s k)), (trnsUp m left s k).trn ++ [mkTrn m (trnsUp m left s k)], skNext (skNext (skNext (trnsUp m left s k).sk))⟩
def tookL (ts : List Trn) (i : Int) : Int := (ts.map fun t => if t.src = i then t.sacks else 0).sum
structure TrnOk (m : Nat) (t : Trn) : Prop where
  src : -1 ≤ t.src ∧ t.src < m
  dst : -1 ≤ t.dst ∧ t.dst < m
  ne : t.src ≠ t.dst
  sacks : 1 ≤ t.sacks ∧ t.sacks ≤ 20
structure TkOk (m k : Nat) (l0 : List Int) (s : Sk) (p : Tk) : Prop where
  left : p.left.length = m
  pos : ∀ j, j < m → 0 ≤ nth p.left j
  took : ∀ j, j < m → nth p.left j + tookL p.trn j = nth l0 j
  trn : p.trn.length = k
  trnOk : ∀ t ∈ p.trn, TrnOk m t
  taken : p.sk.taken = s.taken + 3 * k
theorem among_in {s : Sk} {lo hi : Int} (h : lo ≤ hi) : lo ≤ skAmong s lo hi ∧ skAmong s lo hi ≤ hi := by
  have := skBelow_bound s (hi - lo + 1)
  unfold skAmong; omega
theorem mod_next {m : Nat} (hm : 2 ≤ m) {a : Int} (h : -1 ≤ a ∧ a < m) : 0 ≤ modM (a + 1) m ∧ modM (a + 1) m < m ∧ modM (a + 1) m ≠ a := by
  unfold modM
  have h1 := Int.emod_nonneg (a + 1) (show (m : Int) ≠ 0 by omega)
  rw [if_neg (by omega), Int.tmod_eq_emod_of_nonneg (show 0 ≤ a + 1 by omega), Int.tmod_eq_emod_of_nonneg (show 0 ≤ (a + 1) % (m : Int) + m by omega), Int.add_emod_right, Int.emod_emod]
  by_cases e : a + 1 = m
  · rw [e, Int.emod_self]; omega
  · rw [Int.emod_eq_of_lt (by omega) (by omega)]; omega
theorem src_in {m : Nat} (hm : 2 ≤ m) (p : Tk) : -1 ≤ tkSrc m p ∧ tkSrc m p < m ∧ (tkSrc m p = -1 ∨ nth p.left (tkSrc m p).toNat ≠ 0) := by
  have h := among_in (s := p.sk) (show (-1 : Int) ≤ (m : Int) - 1 by omega)
  unfold tkSrc srcOf
  split
  · omega
  · rename_i hn
    by_cases e : skAmong p.sk (-1) ((m : Int) - 1) = -1
    · exact ⟨h.1, by omega, .inl e⟩
    · exact ⟨h.1, by omega, .inr fun h0 => hn ⟨e, h0⟩⟩
theorem mkTrn_ok {m : Nat} (hm : 2 ≤ m) {p : Tk} (hp : ∀ j, j < m → 0 ≤ nth p.left j) : TrnOk m (mkTrn m p) := by
  have h1 := src_in hm p
  have h2 := among_in (s := skNext p.sk) (show (-1 : Int) ≤ (m : Int) - 1 by omega)
  have h3 := among_in (s := skNext (skNext p.sk)) (show (1 : Int) ≤ 20 by omega)
  have h4 := mod_next hm ⟨h1.1, h1.2.1⟩
  have h5 : (-1 ≤ tkDst m p ∧ tkDst m p < m) ∧ tkSrc m p ≠ tkDst m p := by
    unfold tkDst dstOf
    split
    · exact ⟨by omega, fun e => h4.2.2 e.symm⟩
    · exact ⟨by omega, by assumption⟩
  refine ⟨⟨h1.1, h1.2.1⟩, h5.1, h5.2, ?_⟩
  show 1 ≤ tkSacks m p ∧ tkSacks m p ≤ 20
  unfold tkSacks sacksOf
  split
  · rename_i hn
    have h6 := hp (tkSrc m p).toNat (by omega)
    have h7 := h1.2.2.resolve_left hn
    omega
  · exact h3
theorem took_snoc (ts : List Trn) (t : Trn) (i : Int) : tookL (ts ++ [t]) i = tookL ts i + if t.src = i then t.sacks else 0 := by simp [tookL]
theorem trns_spec {m : Nat} (hm : 2 ≤ m) {left : List Int} (hl : left.length = m) (h0 : ∀ j, j < m → 0 ≤ nth left j) (s : Sk) : ∀ k, TkOk m k left s (trnsUp m left s k)
  | 0 => ⟨hl, h0, fun j _ => by simp [trnsUp, tookL], rfl, fun t ht => by simp [trnsUp] at ht, by simp [trnsUp]⟩
  | k + 1 => by
    have h := trns_spec hm hl h0 s k
    have ht := mkTrn_ok hm h.pos
    have h1 := src_in hm (trnsUp m left s k)
    have key : ∀ j, j < m → nth (trnsUp m left s (k + 1)).left j = nth (trnsUp m left s k).left j - if tkSrc m (trnsUp m left s k) = (j : Int) then tkSacks m (trnsUp m left s k) else 0 := fun j hj => by
      show nth (leftOf _ _ _) j = _
      unfold leftOf
      split
      · rw [nth_set_int]
        by_cases e : tkSrc m (trnsUp m left s k) = (j : Int)
        · rw [e, if_pos ⟨by omega, by have := h.left; omega⟩, if_pos rfl]; rfl
        · rw [if_neg (by omega), if_neg e]; omega
      · rw [if_neg (by omega)]; omega
    refine ⟨?_, fun j hj => ?_, fun j hj => ?_, ?_, fun t ht' => ?_, ?_⟩
    · show (leftOf _ _ _).length = _
      unfold leftOf; split
      · rw [List.length_set, h.left]
      · exact h.left
    · rw [key j hj]
      have := h.pos j hj
      split
      · rename_i e
        have h5 : tkSacks m (trnsUp m left s k) = min (skAmong (skNext (skNext (trnsUp m left s k).sk)) 1 20) (nth (trnsUp m left s k).left j) := by
          unfold tkSacks sacksOf
          rw [if_pos (by omega), e]; rfl
        omega
      · omega
    · rw [key j hj]
      show _ + tookL (_ ++ [_]) _ = _
      rw [took_snoc]
      have := h.took j hj
      show nth (trnsUp m left s k).left j - (if tkSrc m (trnsUp m left s k) = (j : Int) then tkSacks m (trnsUp m left s k) else 0) + (tookL (trnsUp m left s k).trn j + if tkSrc m (trnsUp m left s k) = (j : Int) then tkSacks m (trnsUp m left s k) else 0) = _
      omega
    · show (_ ++ [_]).length = _
      rw [List.length_append, h.trn]; rfl
    · rcases List.mem_append.1 ht' with ht' | ht'
      · exact h.trnOk t ht'
      · rw [List.mem_singleton.1 ht']; exact ht
    · show (skNext (skNext (skNext _))).taken = _
      rw [skNext_taken, skNext_taken, skNext_taken, h.taken]; omega
def rulesUp (order : List Int) (T : Nat) (s : Sk) : Nat → List Rul × Sk
  | 0 => ([], s)
  | k + 1 => (if skBelow (rulesUp order T s k).2 T < skBelow (skNext (rulesUp order T s k).2) T then (rulesUp order T s k).1 ++ [⟨nth order (skBelow (rulesUp order T s k).2 T).toNat, nth order (skBelow (skNext (rulesUp order T s k).2) T).toNat⟩] else (rulesUp order T s k).1, skNext (skNext (rulesUp order T s k).2))
def RulOk (order : List Int) (T : Nat) (r : Rul) : Prop := ∃ a b : Nat, a < b ∧ b < T ∧ r = ⟨nth order a, nth order b⟩
theorem rules_spec (order : List Int) (T : Nat) (s : Sk) : ∀ k, (rulesUp order T s k).1.length ≤ k ∧ (∀ r ∈ (rulesUp order T s k).1, RulOk order T r) ∧ (rulesUp order T s k).2.taken = s.taken + 2 * k
  | 0 => ⟨by simp [rulesUp], fun r hr => by simp [rulesUp] at hr, by simp [rulesUp]⟩
  | k + 1 => by
    obtain ⟨h1, h2, h3⟩ := rules_spec order T s k
    have ha := skBelow_bound (rulesUp order T s k).2 T
    have hb := skBelow_bound (skNext (rulesUp order T s k).2) T
    refine ⟨?_, fun r hr => ?_, ?_⟩
    · show (if _ then _ else _ : List Rul).length ≤ _
      split
      · simp; omega
      · omega
    · change r ∈ (if _ then _ else _ : List Rul) at hr
      split at hr
      · rename_i hlt
        rcases List.mem_append.1 hr with hr | hr
        · exact h2 r hr
        · exact ⟨_, _, by omega, by omega, List.mem_singleton.1 hr⟩
      · exact h2 r hr
    · show (skNext (skNext _)).taken = _
      rw [skNext_taken, skNext_taken, h3]; omega
theorem nodup_inj {l : List Int} (h : l.Nodup) {a b : Nat} (ha : a < l.length) (hb : b < l.length) (e : nth l a = nth l b) : a = b := by
  rcases Nat.lt_trichotomy a b with hlt | rfl | hlt
  · exact absurd (e ▸ (by rw [nth_lt ha]; exact List.mem_take_iff_getElem.2 ⟨a, by omega, rfl⟩ : nth l a ∈ l.take b)) (nodup_not h hb)
  · rfl
  · exact absurd (e ▸ (by rw [nth_lt hb]; exact List.mem_take_iff_getElem.2 ⟨b, by omega, rfl⟩ : nth l b ∈ l.take a)) (nodup_not h ha)
theorem lead_order {order : List Int} {rules : List Rul} (hn : order.Nodup) (h : ∀ r ∈ rules, RulOk order order.length r) {x y : Int} (hl : Lead rules x y) : ∃ a b : Nat, a < b ∧ b < order.length ∧ x = nth order a ∧ y = nth order b := by
  induction hl with
  | one hr =>
    obtain ⟨a, b, h1, h2, rfl⟩ := h _ hr
    exact ⟨a, b, h1, h2, rfl, rfl⟩
  | step hr _ ih =>
    obtain ⟨a, b, h1, h2, e⟩ := h _ hr
    obtain ⟨c, d, h3, h4, h5, h6⟩ := ih
    rw [e] at h6 ⊢
    have := nodup_inj hn (by omega) h4 h6
    subst this
    exact ⟨c, b, by omega, h2, h5, rfl⟩
end Go.Proofs.Ytifgbnbkimcchaa

namespace Go.Proofs.Ytifgbnbkimcchaa
open Go Go.T
structure Md where
  s : Sk
  t : Nat
def Md.n (d : Md) : Nat := (skAmong d.s 1 4).toNat
def Md.m (d : Md) : Nat := (skAmong (skNext d.s) 2 5).toNat
def Md.bn (d : Md) (k : Nat) : Mk := binsUp d.n (skNext (skNext d.s)) k
def Md.up (d : Md) (k : Nat) : List Int × Sk := upsUp (d.bn d.m).bears (d.bn d.m).sk k
def Md.T (d : Md) : Nat := (skBelow (d.up d.n).2 ((d.t : Int) + 1)).toNat
def Md.tk (d : Md) (k : Nat) : Tk := trnsUp d.m (d.bn d.m).left (skNext (d.up d.n).2) k
def Md.order (d : Md) : List Int × Sk := shufUp (d.tk d.T).sk d.T
def Md.R (d : Md) : Nat := (skBelow d.order.2 6).toNat
def Md.ru (d : Md) (k : Nat) : List Rul × Sk := rulesUp d.order.1 d.T (skNext d.order.2) k
def Md.flr (d : Md) : Flr := ⟨(d.up d.n).1, (d.bn d.m).bins, (d.tk d.T).trn, (d.ru d.R).1⟩
def Md.sk (d : Md) : Sk := (d.ru d.R).2
theorem Md.n_in (d : Md) : 1 ≤ d.n ∧ d.n ≤ 4 ∧ (d.n : Int) = skAmong d.s 1 4 := by
  have := among_in (s := d.s) (show (1 : Int) ≤ 4 by omega)
  unfold Md.n; omega
theorem Md.m_in (d : Md) : 2 ≤ d.m ∧ d.m ≤ 5 ∧ (d.m : Int) = skAmong (skNext d.s) 2 5 := by
  have := among_in (s := skNext d.s) (show (2 : Int) ≤ 5 by omega)
  unfold Md.m; omega
theorem Md.T_in (d : Md) : d.T ≤ d.t ∧ (d.T : Int) = skBelow (d.up d.n).2 ((d.t : Int) + 1) := by
  have := skBelow_bound (d.up d.n).2 ((d.t : Int) + 1)
  unfold Md.T; omega
theorem Md.R_in (d : Md) : d.R ≤ 5 ∧ (d.R : Int) = skBelow d.order.2 6 := by
  have := skBelow_bound d.order.2 6
  unfold Md.R; omega
theorem Md.bnOk (d : Md) (k : Nat) : MkOk d.n k (skNext (skNext d.s)) (d.bn k) := bins_spec d.n_in.1 _ k
theorem Md.upOk (d : Md) (k : Nat) : (d.up k).1.length = d.n ∧ (∀ j, j < d.n → 0 ≤ nth (d.up k).1 j ∧ nth (d.up k).1 j ≤ nth (d.bn d.m).bears j + if j < k then 90 else 0) ∧ (d.up k).2.taken = (d.bn d.m).sk.taken + 2 * k := by
  have h := d.bnOk d.m
  have := ups_spec (d.bn d.m).bears (d.bn d.m).sk (fun j hj => (h.bearsR j (by rw [← h.bears]; exact hj)).1) k
  rw [h.bears] at this
  exact this
theorem Md.left_pos (d : Md) : (d.bn d.m).left.length = d.m ∧ ∀ j, j < d.m → 0 ≤ nth (d.bn d.m).left j ∧ nth (d.bn d.m).left j ≤ 59 ∧ nth (d.bn d.m).left j = (nth (d.bn d.m).bins j).has := by
  have h := d.bnOk d.m
  have hl : (d.bn d.m).left.length = d.m := by rw [h.left, List.length_map, h.bins]
  refine ⟨hl, fun j hj => ?_⟩
  have hb : j < (d.bn d.m).bins.length := by rw [h.bins]; exact hj
  have e : nth (d.bn d.m).left j = (nth (d.bn d.m).bins j).has := by
    rw [nth_lt hb, nth_lt (by omega)]
    simp only [h.left, List.getElem_map]
  have := (h.binOk _ (nth_mem hb)).has
  rw [e]; omega
theorem Md.tkOk (d : Md) (k : Nat) : TkOk d.m k (d.bn d.m).left (skNext (d.up d.n).2) (d.tk k) := trns_spec d.m_in.1 d.left_pos.1 (fun j hj => (d.left_pos.2 j hj).1) _ k
theorem Md.orderOk (d : Md) : d.order.1.length = d.T ∧ d.order.1.Nodup ∧ (∀ x, x ∈ d.order.1 ↔ 0 ≤ x ∧ x < (d.T : Int)) ∧ d.order.2.taken = (d.tk d.T).sk.taken + d.T := shuf_spec _ _
theorem Md.ruOk (d : Md) (k : Nat) : (d.ru k).1.length ≤ k ∧ (∀ r ∈ (d.ru k).1, RulOk d.order.1 d.T r) ∧ (d.ru k).2.taken = (skNext d.order.2).taken + 2 * k := rules_spec _ _ _ k
theorem Md.taken (d : Md) : d.sk.taken ≤ d.s.taken + (52 + 4 * d.t) := by
  have h1 := (d.bnOk d.m).taken
  have h2 := (d.upOk d.n).2.2
  have h3 := (d.tkOk d.T).taken
  have h4 := d.orderOk.2.2.2
  have h5 := (d.ruOk d.R).2.2
  have h6 := d.n_in
  have h7 := d.m_in
  have h8 := d.T_in
  have h9 := d.R_in
  rw [skNext_taken] at h3 h5 h1
  rw [skNext_taken] at h1
  unfold Md.sk
  omega
theorem rule_in {d : Md} {r : Rul} (h : RulOk d.order.1 d.T r) : (0 ≤ r.fst ∧ r.fst < (d.T : Int)) ∧ 0 ≤ r.nxt ∧ r.nxt < (d.T : Int) := by
  obtain ⟨a, b, h1, h2, rfl⟩ := h
  have ho := d.orderOk
  exact ⟨(ho.2.2.1 _).1 (nth_mem (by omega)), (ho.2.2.1 _).1 (nth_mem (by omega))⟩
theorem any_not_of {α : Type} {q : α → Bool} {l : List α} (h : ∀ x ∈ l, q x = false) : l.any q = false := by
  rw [Bool.eq_false_iff]; intro hc
  obtain ⟨x, hx, hq⟩ := List.any_eq_true.1 hc
  rw [h x hx] at hq; cases hq
theorem offB_of {n lo hi : Int} (h : lo ≤ n ∧ n ≤ hi) : offB n lo hi = false := by
  simp only [offB, Bool.or_eq_false_iff, decide_eq_false_iff_not]; omega
theorem Md.right (d : Md) (ht : d.t ≤ 8) : checkP d.flr = 0 := by
  have h1 := d.bnOk d.m
  have h2 := d.upOk d.n
  have h3 := d.tkOk d.T
  have h4 := d.orderOk
  have h5 := d.ruOk d.R
  have h6 := d.n_in
  have h7 := d.m_in
  have h8 := d.T_in
  have h9 := d.R_in
  have hB : d.flr.bears.length = d.n := h2.1
  have hb : d.flr.bins.length = d.m := h1.bins
  have hT : d.flr.turnings.length = d.T := h3.trn
  have hR : d.flr.rules.length ≤ 5 := Nat.le_trans h5.1 h9.1
  rw [check_eq, checkM, if_neg, if_neg, if_neg, if_neg, if_neg, linkedM, if_neg, if_neg, if_neg, if_neg, if_neg]
  · rw [Bool.not_eq_true]
    refine any_not_of fun t _ => decide_eq_false fun hm => ?_
    obtain ⟨_, hl⟩ := mem_aheadM.1 hm
    obtain ⟨a, b, hab, hbt, ea, eb⟩ := lead_order h4.2.1 (fun r hr => by rw [h4.1]; exact h5.2.1 r hr) hl
    have := nodup_inj h4.2.1 (by omega) hbt (ea.symm.trans eb)
    omega
  · rw [Bool.not_eq_true]
    refine any_not_of fun i hi => ?_
    have hi := mem_iot.1 hi
    have hj : i.toNat < d.m := by omega
    have hbk := h1.binOk _ (nth_mem (xs := (d.bn d.m).bins) (k := i.toNat) (by rw [h1.bins]; exact hj))
    show d.flr.wrongAt i.toNat (nth (d.bn d.m).bins i.toNat) = false
    unfold Flr.wrongAt
    rw [hbk.sum]
    have hk := h3.took _ hj
    have hp := h3.pos _ hj
    have hl := (d.left_pos.2 _ hj).2.2
    have e : takenM d.flr d.flr.turnings i.toNat = tookL (d.tk d.T).trn i.toNat := rfl
    have hx : ¬ tookL (d.tk d.T).trn i.toNat > (nth (d.bn d.m).bins i.toNat).has := by omega
    rw [e, decide_eq_false hx]; rfl
  · rw [Bool.not_eq_true]
    exact any_not_of fun t hm => decide_eq_false (h3.trnOk t hm).ne
  · rw [Bool.not_eq_true]
    refine any_not_of fun r hm => ?_
    have := rule_in (h5.2.1 r hm)
    rw [hT, offB_of (by omega), offB_of (by omega)]; rfl
  · rw [Bool.not_eq_true]
    refine any_not_of fun t hm => ?_
    have h := h3.trnOk t hm
    have := h.src
    have := h.dst
    rw [hb, offB_of (by omega), offB_of (by omega)]; rfl
  · rw [Bool.not_eq_true]
    refine any_not_of fun t hm => ?_
    have := (h3.trnOk t hm).sacks
    exact offB_of (by omega)
  · rw [Bool.not_eq_true]
    refine any_not_of fun b hm => ?_
    have h := h1.binOk b hm
    have := h.has
    rw [offB_of (by omega), Bool.false_or]
    exact any_not_of (mem_nth_of (P := fun n => offB n 0 4 = false) fun j hj => offB_of (h.rng j (by rw [← h.len]; exact hj)))
  · rw [Bool.not_eq_true]
    refine any_not_of (mem_nth_of (P := fun n => offB n 0 4000 = false) fun j hj => offB_of ?_)
    have hj : j < d.n := by rw [← hB]; exact hj
    have h := h2.2.1 j hj
    have h0 := h1.bearsR j hj
    rw [if_pos hj] at h
    show 0 ≤ nth (d.up d.n).1 j ∧ nth (d.up d.n).1 j ≤ 4000
    omega
  · rw [Bool.not_eq_true]
    refine any_not_of fun b hm => ?_
    rw [(h1.binOk b hm).len, hB]; simp
  · rw [Bool.not_eq_true]
    unfold Flr.many
    rw [hB, hb, hT, offB_of (by omega), decide_eq_false (by omega), decide_eq_false (by omega), decide_eq_false (by omega)]; rfl
end Go.Proofs.Ytifgbnbkimcchaa

namespace Go.Proofs.Ytifgbnbkimcchaa
open Go Go.T
set_option maxHeartbeats 2000000
attribute [local irreducible] dInt dBool dSl dPp dPtr dAgg dTup dClo dAny dEx dStr dGd dCells dVec dVs dRow dOp nth Tri Into TOps Ctr bodyPost Exit.then Exit.inBlock Code.wp Code.wpIn dWhen dPa dPe dAo dArr dMp dPm dMap dCJ CtrG CtrI OpY keepPost iterPost bodyPostM roundQ
theorem binsUp_succ (n : Nat) (s : Sk) (k : Nat) : binsUp n s (k + 1) = ⟨bearUp (mkBin n (binsUp n s k)).shares (mkBin n (binsUp n s k)).has (binsUp n s k).bears n, (binsUp n s k).bins ++ [mkBin n (binsUp n s k)], (binsUp n s k).left ++ [(mkBin n (binsUp n s k)).has], (shUp n (skNext (binsUp n s k).sk) 4).2⟩ := rfl
theorem upsUp_succ (xs : List Int) (s : Sk) (k : Nat) : upsUp xs s (k + 1) = (if skRare (skNext (upsUp xs s k).2) 9 then downOne (upOne (upsUp xs s k).1 (upsUp xs s k).2 k) k else upOne (upsUp xs s k).1 (upsUp xs s k).2 k, skNext (skNext (upsUp xs s k).2)) := rfl
theorem trnsUp_succ (m : Nat) (l : List Int) (s : Sk) (k : Nat) : trnsUp m l s (k + 1) = ⟨leftOf (trnsUp m l s k).left (tkSrc m (trnsUp m l s k)) (tkSacks m (trnsUp m l s k)), (trnsUp m l s k).trn ++ [mkTrn m (trnsUp m l s k)], skNext (skNext (skNext (trnsUp m l s k).sk))⟩ := rfl
theorem rulesUp_succ2 (o : List Int) (T : Nat) (s : Sk) (k : Nat) : (rulesUp o T s (k + 1)).2 = skNext (skNext (rulesUp o T s k).2) := rfl
theorem rulesUp_yes (o : List Int) (T : Nat) (s : Sk) (k : Nat) (h : skBelow (rulesUp o T s k).2 T < skBelow (skNext (rulesUp o T s k).2) T) : (rulesUp o T s (k + 1)).1 = (rulesUp o T s k).1 ++ [⟨nth o (skBelow (rulesUp o T s k).2 T).toNat, nth o (skBelow (skNext (rulesUp o T s k).2) T).toNat⟩] := if_pos h
theorem rulesUp_no (o : List Int) (T : Nat) (s : Sk) (k : Nat) (h : ¬ skBelow (rulesUp o T s k).2 T < skBelow (skNext (rulesUp o T s k).2) T) : (rulesUp o T s (k + 1)).1 = (rulesUp o T s k).1 := if_neg h
attribute [local irreducible] skNext skBelow skAmong skRare bearUp shUp mkBin
theorem bn_zero (d : Md) : d.bn 0 = ⟨List.replicate d.n 0, [], [], skNext (skNext d.s)⟩ := by unfold Md.bn binsUp; rfl
theorem bn_succ (d : Md) (k : Nat) : d.bn (k + 1) = ⟨bearUp (mkBin d.n (d.bn k)).shares (mkBin d.n (d.bn k)).has (d.bn k).bears d.n, (d.bn k).bins ++ [mkBin d.n (d.bn k)], (d.bn k).left ++ [(mkBin d.n (d.bn k)).has], (shUp d.n (skNext (d.bn k).sk) 4).2⟩ := by unfold Md.bn; exact binsUp_succ _ _ _
theorem sh_zero (n : Nat) (s : Sk) : shUp n s 0 = (List.replicate n 0, s) := by unfold shUp; rfl
theorem sh_succ (n : Nat) (s : Sk) (k : Nat) : shUp n s (k + 1) = ((shUp n s k).1.set (skBelow (shUp n s k).2 n).toNat (nth (shUp n s k).1 (skBelow (shUp n s k).2 n).toNat + 1), skNext (shUp n s k).2) := by rw [shUp]
theorem bear_zero (sh : List Int) (has : Int) (b : List Int) : bearUp sh has b 0 = b := by rw [bearUp]
theorem bear_succ (sh : List Int) (has : Int) (b : List Int) (k : Nat) : bearUp sh has b (k + 1) = (bearUp sh has b k).set k (nth (bearUp sh has b k) k + nth sh k * has) := by rw [bearUp]
theorem up_zero (d : Md) : d.up 0 = ((d.bn d.m).bears, (d.bn d.m).sk) := by unfold Md.up upsUp; rfl
theorem up_sk (d : Md) (k : Nat) : (d.up (k + 1)).2 = skNext (skNext (d.up k).2) := by unfold Md.up; rw [upsUp_succ]
theorem up_yes (d : Md) (k : Nat) (h : skRare (skNext (d.up k).2) 9 = true) : (d.up (k + 1)).1 = downOne (upOne (d.up k).1 (d.up k).2 k) k := by unfold Md.up at *; rw [upsUp_succ]; exact if_pos h
theorem up_no (d : Md) (k : Nat) (h : skRare (skNext (d.up k).2) 9 = false) : (d.up (k + 1)).1 = upOne (d.up k).1 (d.up k).2 k := by unfold Md.up at *; rw [upsUp_succ]; exact if_neg (Bool.eq_false_iff.1 h)
theorem tk_zero (d : Md) : d.tk 0 = ⟨(d.bn d.m).left, [], skNext (d.up d.n).2⟩ := by unfold Md.tk trnsUp; rfl
theorem tk_succ (d : Md) (k : Nat) : d.tk (k + 1) = ⟨leftOf (d.tk k).left (tkSrc d.m (d.tk k)) (tkSacks d.m (d.tk k)), (d.tk k).trn ++ [mkTrn d.m (d.tk k)], skNext (skNext (skNext (d.tk k).sk))⟩ := by unfold Md.tk; rw [trnsUp_succ]
theorem ru_zero (d : Md) : d.ru 0 = ([], skNext d.order.2) := by unfold Md.ru rulesUp; rfl
theorem ru_sk (d : Md) (k : Nat) : (d.ru (k + 1)).2 = skNext (skNext (d.ru k).2) := by unfold Md.ru; rw [rulesUp_succ2]
theorem ru_yes (d : Md) (k : Nat) (h : skBelow (d.ru k).2 d.T < skBelow (skNext (d.ru k).2) d.T) : (d.ru (k + 1)).1 = (d.ru k).1 ++ [⟨nth d.order.1 (skBelow (d.ru k).2 d.T).toNat, nth d.order.1 (skBelow (skNext (d.ru k).2) d.T).toNat⟩] := by unfold Md.ru at *; exact rulesUp_yes _ _ _ _ h
theorem ru_no (d : Md) (k : Nat) (h : ¬ skBelow (d.ru k).2 d.T < skBelow (skNext (d.ru k).2) d.T) : (d.ru (k + 1)).1 = (d.ru k).1 := by unfold Md.ru at *; exact rulesUp_no _ _ _ _ h
theorem mkBin_has (n : Nat) (p : Mk) : (mkBin n p).has = skBelow p.sk 60 := by unfold mkBin; rfl
theorem mkBin_shares (n : Nat) (p : Mk) : (mkBin n p).shares = (shUp n (skNext p.sk) 4).1 := by unfold mkBin; rfl
theorem ne_of_hg {a b : Int} (h : (!decide (a = b)) = true) : a ≠ b := by simpa using h
theorem c_Shuf (s : Sk) (n m : Nat) (e : m = n) (hn : n ≤ 1000) (h : s.Ok (n + 1)) : CtrG Try.prog 54 [1000] [(1000, Cont.cells 158 (skTys s))] [Ty.ptr 1000 0, Ty.int .i64 (m : Nat)] [(1000, Cont.cells 158 (skTys (shufUp s n).2))] (Ty.sl I64 (shufUp s n).1) := by
  subst e; exact c_Shuffle s m hn h
theorem nil_row_eq {α : Type} {E : El α} {T tg : Nat} {xs : List α} (e : [] = xs) : (Ty.ex (.slice none 0 0)).Sub (Ty.row E T tg xs) := by subst e; exact Ty.nil_row
theorem sh_le {n : Nat} (hn : 1 ≤ n) (s : Sk) (k : Nat) {j : Nat} (hj : j < n) : 0 ≤ nth (shUp n s k).1 j ∧ nth (shUp n s k).1 j ≤ k := by
  obtain ⟨h1, h2, h3, _⟩ := sh_spec hn s k
  have h5 : ∀ x ∈ (shUp n s k).1, 0 ≤ x := mem_nth_of fun j hj => h3 j (by omega)
  have h6 := (le_sum_int h5).2 _ (nth_mem (show j < (shUp n s k).1.length by omega))
  rw [h2] at h6
  exact ⟨h3 j hj, h6⟩
theorem wrap_in {n : Int} (h : -9223372036854775808 ≤ n ∧ n ≤ 9223372036854775807) : IntKind.i64.wrap n = n := IntWalk.i64_in _ (by omega)
theorem sh_set {n : Nat} (hn : 1 ≤ n) (s : Sk) {k : Nat} (hk : k ≤ 4) : (shUp n s k).1.set (skBelow (shUp n s k).2 n).toNat (IntKind.i64.wrap (nth (shUp n s k).1 (skBelow (shUp n s k).2 n).toNat + 1)) = (shUp n s (k + 1)).1 := by
  have hb := below_in (s := (shUp n s k).2) hn
  have := sh_le hn s k (show (skBelow (shUp n s k).2 n).toNat < n by omega)
  rw [sh_succ, wrap_in (by omega)]
theorem bear_set {n k i : Nat} {s : Sk} {p : Mk} (hp : MkOk n k s p) (hk : k ≤ 5) (hi : i < n) {b : Bin} (hb : BinOk n b) : (bearUp b.shares b.has p.bears i).set i (IntKind.i64.wrap (nth (bearUp b.shares b.has p.bears i) i + IntKind.i64.wrap (nth b.shares i * b.has))) = bearUp b.shares b.has p.bears (i + 1) := by
  have h1 := hp.bearsR i hi
  have h2 := hb.rng i hi
  have h3 := hb.has
  have h4 : 0 ≤ nth b.shares i * b.has := Int.mul_nonneg h2.1 h3.1
  have h5 : nth b.shares i * b.has ≤ 4 * 59 := Int.mul_le_mul h2.2 h3.2 h3.1 (by omega)
  have h6 := (bear_spec b.shares b.has p.bears i).2 i (by rw [hp.bears]; exact hi)
  rw [if_neg (by omega)] at h6
  rw [bear_succ, wrap_in (n := nth b.shares i * b.has) (by omega), wrap_in (by omega)]
theorem up_bounds {d : Md} {i : Nat} (hi : i < d.n) : 0 ≤ nth (d.up i).1 i ∧ nth (d.up i).1 i ≤ 2000 ∧ (d.up i).1.length = d.n := by
  obtain ⟨h1, h2, _⟩ := d.upOk i
  have h3 := (d.bnOk d.m).bearsR i hi
  have h4 := h2 i hi
  have h5 := d.m_in
  rw [if_neg (by omega)] at h4
  omega
theorem up_set {d : Md} {i : Nat} (hi : i < d.n) : (d.up i).1.set i (IntKind.i64.wrap (nth (d.up i).1 i + skBelow (d.up i).2 90)) = upOne (d.up i).1 (d.up i).2 i := by
  have h := up_bounds hi
  have hb := skBelow_bound (d.up i).2 90
  rw [wrap_in (by omega)]; rfl
theorem up_set2 {d : Md} {i : Nat} (hi : i < d.n) : ((d.up i).1.set i (IntKind.i64.wrap (nth (d.up i).1 i + skBelow (d.up i).2 90))).set i (max 0 (IntKind.i64.wrap (nth ((d.up i).1.set i (IntKind.i64.wrap (nth (d.up i).1 i + skBelow (d.up i).2 90))) i - 60))) = downOne (upOne (d.up i).1 (d.up i).2 i) i := by
  have h := up_bounds hi
  have hb := skBelow_bound (d.up i).2 90
  rw [up_set hi]
  have e : nth (upOne (d.up i).1 (d.up i).2 i) i = nth (d.up i).1 i + skBelow (d.up i).2 90 := by
    unfold upOne; rw [nth_set_int, if_pos ⟨rfl, by omega⟩]
  rw [wrap_in (by rw [e]; omega)]; rfl
section
variable {m L : Nat} (e : L = m) (p : Tk)
include e
theorem src_yes (h : (!decide (skAmong p.sk (-1) ((L : Int) - 1) = -1) && decide (nth p.left (skAmong p.sk (-1) ((L : Int) - 1)).toNat = 0)) = true) : -1 = tkSrc m p := by
  subst e; unfold tkSrc srcOf; rw [if_pos (by simpa using h)]
theorem src_no (h : (!decide (skAmong p.sk (-1) ((L : Int) - 1) = -1) && decide (nth p.left (skAmong p.sk (-1) ((L : Int) - 1)).toNat = 0)) = false) : skAmong p.sk (-1) ((L : Int) - 1) = tkSrc m p := by
  subst e; unfold tkSrc srcOf; rw [if_neg (by intro hx; simp [hx.1, hx.2] at h)]
theorem dst_yes (h : tkSrc m p = skAmong (skNext p.sk) (-1) ((L : Int) - 1)) : modM (tkSrc m p + 1) L = tkDst m p := by
  subst e; unfold tkDst dstOf; rw [if_pos h]
theorem dst_no (h : ¬ tkSrc m p = skAmong (skNext p.sk) (-1) ((L : Int) - 1)) : skAmong (skNext p.sk) (-1) ((L : Int) - 1) = tkDst m p := by
  subst e; unfold tkDst dstOf; rw [if_neg h]
end
section
variable {m : Nat} {p : Tk}
theorem sacks_yes (h : ¬ tkSrc m p = -1) : min (skAmong (skNext (skNext p.sk)) 1 20) (nth p.left (tkSrc m p).toNat) = tkSacks m p := by
  unfold tkSacks sacksOf; rw [if_pos h]
theorem sacks_no (h : tkSrc m p = -1) : skAmong (skNext (skNext p.sk)) 1 20 = tkSacks m p := by
  unfold tkSacks sacksOf; rw [if_neg (fun x => x h)]
theorem left_no (h : tkSrc m p = -1) : p.left = leftOf p.left (tkSrc m p) (tkSacks m p) := by
  unfold leftOf; rw [if_neg (fun x => x h)]
theorem left_yes (h : ¬ tkSrc m p = -1) (hb : 0 ≤ nth p.left (tkSrc m p).toNat ∧ nth p.left (tkSrc m p).toNat ≤ 1000) : p.left.set (tkSrc m p).toNat (IntKind.i64.wrap (nth p.left (tkSrc m p).toNat - min (skAmong (skNext (skNext p.sk)) 1 20) (nth p.left (tkSrc m p).toNat))) = leftOf p.left (tkSrc m p) (tkSacks m p) := by
  have ha := among_in (s := skNext (skNext p.sk)) (show (1 : Int) ≤ 20 by omega)
  have hs := sacks_yes h
  rw [wrap_in (by omega), hs]
  unfold leftOf; rw [if_pos h]
end
theorem left_bound {d : Md} {k j : Nat} (hj : j < d.m) : 0 ≤ nth (d.tk k).left j ∧ nth (d.tk k).left j ≤ 1000 := by
  have h := d.tkOk k
  have h1 := h.pos j hj
  have h2 := h.took j hj
  have h3 := d.left_pos.2 j hj
  have h4 : 0 ≤ tookL (d.tk k).trn j := by
    unfold tookL
    refine (le_sum_int fun x hx => ?_).1
    obtain ⟨t, ht, rfl⟩ := List.mem_map.1 hx
    have := (h.trnOk t ht).sacks
    split <;> omega
  omega
theorem ru_at {d : Md} {k : Nat} (h : skBelow (d.ru k).2 (d.order.1.length : Nat) < skBelow (skNext (d.ru k).2) (d.order.1.length : Nat)) : (d.ru k).1 ++ [⟨nth d.order.1 (skBelow (d.ru k).2 (d.order.1.length : Nat)).toNat, nth d.order.1 (skBelow (skNext (d.ru k).2) (d.order.1.length : Nat)).toNat⟩] = (d.ru (k + 1)).1 := by
  have e := d.orderOk.1
  rw [e] at h ⊢
  exact (ru_yes d k h).symm
theorem ru_no2 {d : Md} {k : Nat} (h : ¬ skBelow (d.ru k).2 (d.order.1.length : Nat) < skBelow (skNext (d.ru k).2) (d.order.1.length : Nat)) : (d.ru k).1 = (d.ru (k + 1)).1 := by
  have e := d.orderOk.1
  rw [e] at h
  exact (ru_no d k h).symm
attribute [local irreducible] Md.bn Md.up Md.tk Md.ru shufUp
set_option maxRecDepth 100000 in
theorem c_Made5 (d : Md) (ht : d.t ≤ 8) (h : d.s.Ok 100) : CtrG Try.prog 52 [1000] [(1000, Cont.cells 158 (skTys d.s))] [Ty.ptr 1000 0, Ty.int .i64 (d.t : Nat)] [(1000, Cont.cells 158 (skTys d.sk))] (flrT d.flr) := by
  refine fnG_intro Try.func52 rfl (by decide) Try.ntmps52 (by exact Nat.le_of_ble_eq_true rfl) fun w0 M0 => ?_
  have h0 : 0 ≤ d.s.taken ∧ d.s.taken + 100 ≤ 4611686018427387904 := h
  have hn := d.n_in
  have hm := d.m_in
  have hs1 := skNext_taken d.s
  have hT := d.T_in
  have hR := d.R_in
  have htk1 : (skNext (skNext d.s)).taken = d.s.taken + 2 := by rw [skNext_taken, skNext_taken]; omega
  have hbm := d.bnOk d.m
  have hun := d.upOk d.n
  have htT := d.tkOk d.T
  have hor := d.orderOk
  have hlp := d.left_pos
  have hbmt := hbm.taken
  have hbmb := hbm.bins
  have htTl := htT.trn
  have hunt := hun.2.2
  have htTt := htT.taken
  have hort := hor.2.2.2
  have hq1 := skNext_taken (d.up d.n).2
  have hq2 := skNext_taken d.order.2
  refine t_seq ?_
  refine t_region ?_
  refine r_alloc rfl (by exact List.cons_ne_nil _ _) rfl ?_
  refine r_nil ?_
  refine i_then ?_
  refine t_seq ?_
  refine t_region ?_
  refine mvO rfl ?_
  refine r_callG [(1000, 1000)] [] [(1000, Cont.cells 158 (skTys (skNext d.s)))] (c_Among d.s ⟨by omega, by omega⟩ 1 4 (by omega) (by omega)) rfl rfl (by repeat (first | exact cv_nil | refine cv_cons ?_ ?_ | exact cv_ptr List.mem_cons_self | exact cv_pub rfl rfl)) (pre_cons (a := 1000) (b := 1000) (by exact List.mem_cons_self) rfl (cc_cells_eq (by exact List.mem_cons_self) rfl rfl rfl) pre_nil) (post_cons (a := 1000) (b := 1000) (by exact List.mem_cons_self) rfl (cc_cells_eq (by exact List.mem_cons_self) rfl rfl rfl) post_nil) (cv_pub rfl rfl) ?_
  refine r_makeV (E := I64) rfl rfl rfl rfl rfl rfl rfl (by decide) rfl (by omega) (by (dsimp only; omega)) (by omega) ?_
  refine r_build rfl rfl (by exact List.cons_ne_nil _ _) rfl (by repeat (first | exact (Parts.nil : Parts _ _ [] _) | (show Parts _ _ ((_, _) :: _) _; apply Parts.one; (· exact (rfl : _ = Ty.vs _ _)); (· exact rfl)))) (by exact (rfl : _ = some [_, _, _, _])) ?_
  refine r_alloc rfl (by exact List.cons_ne_nil _ _) rfl ?_
  refine r_storeN rfl rfl (by decide) rfl rfl rfl rfl rfl rfl ?_
  refine r_nil ?_
  refine i_then ?_
  refine t_seq ?_
  refine t_region ?_
  refine asX rfl ?_
  refine r_nil ?_
  refine i_then ?_
  refine t_seq ?_
  refine t_seq ?_
  refine t_region ?_
  refine mvO rfl ?_
  refine r_callG [(1000, 1000)] [] [(1000, Cont.cells 158 (skTys (skNext (skNext d.s))))] (c_Among (skNext d.s) ⟨by omega, by omega⟩ 2 5 (by omega) (by omega)) rfl rfl (by repeat (first | exact cv_nil | refine cv_cons ?_ ?_ | exact cv_ptr List.mem_cons_self | exact cv_pub rfl rfl)) (pre_cons (a := 1000) (b := 1000) (by exact List.mem_cons_self) rfl (cc_cells_eq (by exact List.mem_cons_self) rfl rfl rfl) pre_nil) (post_cons (a := 1000) (b := 1000) (by exact List.mem_cons_self) rfl (cc_cells_eq (by exact List.mem_cons_self) rfl rfl rfl) post_nil) (cv_pub rfl rfl) ?_
  refine mvI rfl ?_
  refine r_nil ?_
  refine i_then ?_
  refine t_block ?_
  refine t_loop (fun (k : {k : Nat // k ≤ d.m}) => live [(0, Ty.ptr 1000 0), (1, Ty.int .i64 (d.t : Nat)), (4, Ty.ptr 5 0), (5, Ty.ptr 6 0), (6, Ty.row I64 3 76 (d.bn k.1).left), (22, Ty.int .i64 (d.m : Nat)), (23, Ty.int .i64 (k.1 : Nat))] [(1000, Cont.cells 158 (skTys (d.bn k.1).sk)), (5, Cont.cells 27 [Ty.ex (.slice none 0 0), Ty.ex (.slice none 0 0), Ty.ex (.slice none 0 0), Ty.ex (.slice none 0 0)]), (6, Cont.cells 27 [Ty.vs 20 d.n, Ty.row BinE 79 71 (d.bn k.1).bins, Ty.row TrnE 99 171 [], Ty.row RulE 69 206 []]), (20, Cont.vec I64 3 (d.bn k.1).bears)]) (fun k => d.m - k.1) (⟨0, by omega⟩) ?_ fun k => ?_
  · (refine Ent.mk' ?_ ?_ <;> (repeat' (first | exact allSub_zero | exact allTags_nil | exact subs_nil | refine allSub_succ' ?_ (Ty.sub_any _) | refine allSub_succ' ?_ (Ty.sub_refl _) | refine allTags_cons rfl (Cont.sub_refl _) ?_ | refine allTags_cons rfl (Cont.sub_subs ?_) ?_ | refine subs_cons ?_ (Ty.sub_refl _) | refine subs_cons ?_ Ty.nil_row | refine subs_cons ?_ ?_ | refine allTags_cons rfl ?_ ?_ | refine allSub_succ' ?_ ?_)))
    all_goals first | exact Ty.sub_int d.m_in.2.2.symm | exact Ty.sub_int (congrArg (fun p => p.sk.mixed) (bn_zero d).symm) | exact Ty.sub_int (congrArg (fun p => p.sk.taken) (bn_zero d).symm) | exact Ty.sub_sl (congrArg (fun p => p.sk.grain) (bn_zero d).symm) | exact nil_row_eq (congrArg Mk.left (bn_zero d)).symm | exact nil_row_eq (congrArg Mk.bins (bn_zero d)).symm | exact Cont.sub_vec (congrArg Mk.bears (bn_zero d)).symm
  ·
    have hk := k.2
    have hbk := d.bnOk k.1
    have hbt := hbk.taken
    have hbk1 := hbk.bins
    have hbk2 : (d.bn k.1).left.length = k.1 := by rw [hbk.left, List.length_map, hbk.bins]
    have hmb := mkBin_ok d.n_in.1 (d.bn k.1)
    refine t_seq ?_
    refine t_region ?_
    refine r_bin rfl rfl rfl ?_
    refine r_nil ?_
    refine i_then ?_
    refine t_seq ?_
    refine t_cond_dec rfl (fun hc1 => ?_) (fun hc1 => ?_)
    ·
      refine t_skip ?_
      refine i_then ?_
      refine t_seq ?_
      refine t_block ?_
      refine t_seq ?_
      have hok : (d.bn k.1).sk.Ok 1 := ⟨by omega, by omega⟩
      refine t_draw mixed rfl ?_
      refine mvO rfl ?_
      refine r_callG [(1000, 1000)] [] [(1000, Cont.cells 158 (skTys (skNext (d.bn k.1).sk)))] (c_Below (d.bn k.1).sk hok _) rfl rfl (by repeat (first | exact cv_nil | refine cv_cons ?_ ?_ | exact cv_ptr List.mem_cons_self | exact cv_pub rfl rfl)) (pre_cons (a := 1000) (b := 1000) (by exact List.mem_cons_self) rfl (cc_cells_eq (by exact List.mem_cons_self) rfl rfl rfl) pre_nil) (post_cons (a := 1000) (b := 1000) (by exact List.mem_cons_self) rfl (cc_cells_eq (by exact List.mem_cons_self) rfl rfl rfl) post_nil) (cv_pub rfl rfl) ?_
      refine r_field_ptr rfl rfl rfl rfl rfl (by decide) ?_
      refine r_load_ptr rfl rfl (by decide) rfl rfl rfl ?_
      refine r_len_vs rfl rfl rfl ?_
      refine r_makeV (E := I64) rfl rfl rfl rfl rfl rfl rfl (by decide) rfl (by omega) (by (dsimp only; omega)) (by omega) ?_
      refine r_build rfl rfl (by exact List.cons_ne_nil _ _) rfl (by repeat (first | exact (Parts.nil : Parts _ _ [] _) | (show Parts _ _ ((_, _) :: _) _; apply Parts.one; (· first | exact (rfl : _ = Ty.int _ _) | exact (rfl : _ = Ty.vs _ _)); (· exact rfl)))) (by exact (rfl : _ = some [_, _])) ?_
      refine r_alloc rfl (by exact List.cons_ne_nil _ _) rfl ?_
      refine r_storeN rfl rfl (by decide) rfl rfl rfl rfl rfl rfl ?_
      refine r_nil ?_
      refine ⟨by kernel_rfl, ?_⟩
      refine i_then ?_
      refine t_seq ?_
      refine t_seq ?_
      refine t_region ?_
      refine mvI rfl ?_
      refine r_nil ?_
      refine i_then ?_
      refine t_block ?_
      refine t_loop (fun (j : {j : Nat // j ≤ 4}) => live [(0, Ty.ptr 1000 0), (1, Ty.int .i64 (d.t : Nat)), (4, Ty.ptr 5 0), (5, Ty.ptr 6 0), (6, Ty.row I64 3 76 (d.bn k.1).left), (7, Ty.ptr 8 0), (22, Ty.int .i64 (d.m : Nat)), (23, Ty.int .i64 (k.1 : Nat)), (32, Ty.int .i64 (j.1 : Nat))] [(1000, Cont.cells 158 (skTys (shUp d.n (skNext (d.bn k.1).sk) j.1).2)), (5, Cont.cells 27 [Ty.ex (.slice none 0 0), Ty.ex (.slice none 0 0), Ty.ex (.slice none 0 0), Ty.ex (.slice none 0 0)]), (6, Cont.cells 27 [Ty.vs 20 d.n, Ty.row BinE 79 71 (d.bn k.1).bins, Ty.row TrnE 99 171 [], Ty.row RulE 69 206 []]), (20, Cont.vec I64 3 (d.bn k.1).bears), (8, Cont.cells 79 [Ty.int .i64 (mkBin d.n (d.bn k.1)).has, Ty.vs 31 d.n]), (31, Cont.vec I64 3 (shUp d.n (skNext (d.bn k.1).sk) j.1).1)]) (fun j => 4 - j.1) (⟨0, by omega⟩) ?_ fun j => ?_
      · (refine Ent.mk' ?_ ?_ <;> (repeat' (first | exact allSub_zero | exact allTags_nil | exact subs_nil | refine allSub_succ' ?_ (Ty.sub_any _) | refine allSub_succ' ?_ (Ty.sub_refl _) | refine allTags_cons rfl (Cont.sub_refl _) ?_ | refine allTags_cons rfl (Cont.sub_subs ?_) ?_ | refine subs_cons ?_ (Ty.sub_refl _) | refine subs_cons ?_ ?_ | refine allTags_cons rfl ?_ ?_)))
        all_goals first | exact Ty.sub_int (congrArg (fun p => p.2.mixed) (sh_zero d.n (skNext (d.bn k.1).sk)).symm) | exact Ty.sub_int (congrArg (fun p => p.2.taken) (sh_zero d.n (skNext (d.bn k.1).sk)).symm) | exact Ty.sub_sl (congrArg (fun p => p.2.grain) (sh_zero d.n (skNext (d.bn k.1).sk)).symm) | exact Ty.sub_int (mkBin_has _ _).symm | exact Cont.sub_vec (congrArg Prod.fst (sh_zero d.n (skNext (d.bn k.1).sk))).symm
      ·
        have hj := j.2
        have hsh := sh_spec d.n_in.1 (skNext (d.bn k.1).sk) j.1
        have hst := skNext_taken (d.bn k.1).sk
        refine t_seq ?_
        refine t_region ?_
        refine r_bin rfl rfl rfl ?_
        refine r_nil ?_
        refine i_then ?_
        refine t_seq ?_
        refine t_cond_dec rfl (fun hc2 => ?_) (fun hc2 => ?_)
        ·
          refine t_skip ?_
          refine i_then ?_
          refine t_seq ?_
          refine t_block ?_
          have hok : (shUp d.n (skNext (d.bn k.1).sk) j.1).2.Ok 1 := ⟨by omega, by omega⟩
          have hbi := below_in (s := (shUp d.n (skNext (d.bn k.1).sk) j.1).2) d.n_in.1
          refine t_draw mixed rfl ?_
          refine r_field_ptr rfl rfl rfl rfl rfl (by decide) ?_
          refine r_load_ptr rfl rfl (by decide) rfl rfl rfl ?_
          refine mvO rfl ?_
          refine r_field_ptr rfl rfl rfl rfl rfl (by decide) ?_
          refine r_load_ptr rfl rfl (by decide) rfl rfl rfl ?_
          refine r_len_vs rfl rfl rfl ?_
          refine r_callG [(1000, 1000)] [] [(1000, Cont.cells 158 (skTys (skNext (shUp d.n (skNext (d.bn k.1).sk) j.1).2)))] (c_Below (shUp d.n (skNext (d.bn k.1).sk) j.1).2 hok _) rfl rfl (by repeat (first | exact cv_nil | refine cv_cons ?_ ?_ | exact cv_ptr List.mem_cons_self | exact cv_pub rfl rfl)) (pre_cons (a := 1000) (b := 1000) (by exact List.mem_cons_self) rfl (cc_cells_eq (by exact List.mem_cons_self) rfl rfl rfl) pre_nil) (post_cons (a := 1000) (b := 1000) (by exact List.mem_cons_self) rfl (cc_cells_eq (by exact List.mem_cons_self) rfl rfl rfl) post_nil) (cv_pub rfl rfl) ?_
          refine r_index_vsI rfl rfl rfl rfl rfl (by omega) (by omega) ?_
          refine r_load_vecB rfl rfl rfl (by decide) rfl rfl (by omega) rfl ?_
          refine r_bin rfl rfl rfl ?_
          refine r_index_vsI rfl rfl rfl rfl rfl (by omega) (by omega) ?_
          refine r_store_vecB rfl rfl rfl (by decide) rfl rfl (by exact (rfl : _ = Ty.int _ _)) rfl (by omega) (by decide) rfl rfl ?_
          refine r_nil ?_
          refine ⟨by kernel_rfl, ?_⟩
          refine i_block ?_
          refine i_then ?_
          refine t_region ?_
          refine r_add rfl rfl (by omega) (by omega) ?_
          refine mvI rfl ?_
          refine r_nil ?_
          refine i_round (⟨j.1 + 1, by omega⟩) ?_ (by show 4 - (j.1 + 1) < 4 - j.1; omega)
          (refine Ent.mk' ?_ ?_ <;> (repeat' (first | exact allSub_zero | exact allTags_nil | exact subs_nil | refine allSub_succ' ?_ (Ty.sub_any _) | refine allSub_succ' ?_ (Ty.sub_refl _) | refine allTags_cons rfl (Cont.sub_refl _) ?_ | refine allTags_cons rfl (Cont.sub_subs ?_) ?_ | refine subs_cons ?_ ?_ | refine allTags_cons rfl ?_ ?_)))
          all_goals skip
          all_goals first | exact Ty.sub_int (congrArg (fun p => p.2.mixed) (sh_succ d.n (skNext (d.bn k.1).sk) j.1).symm) | exact Ty.sub_int (congrArg (fun p => p.2.taken) (sh_succ d.n (skNext (d.bn k.1).sk) j.1).symm) | exact Ty.sub_sl (congrArg (fun p => p.2.grain) (sh_succ d.n (skNext (d.bn k.1).sk) j.1).symm) | exact Cont.sub_vec (sh_set d.n_in.1 (skNext (d.bn k.1).sk) j.2)
        ·
          refine t_exit ?_
          refine i_then_exit ?_
          refine i_then_exit ?_
          refine i_block_exit rfl ?_
          refine i_then ?_
          refine t_seq ?_
          refine t_seq ?_
          have hx : ¬ (j.1 : Int) < 4 := hc2
          obtain ⟨j, hx2⟩ := j
          obtain rfl : j = 4 := by simp only at hx; omega
          refine t_region ?_
          refine r_field_ptr rfl rfl rfl rfl rfl (by decide) ?_
          refine r_load_ptr rfl rfl (by decide) rfl rfl rfl ?_
          refine r_len_vs rfl rfl rfl ?_
          refine mvI rfl ?_
          refine r_nil ?_
          refine i_then ?_
          refine t_block ?_
          refine t_loop (fun (i : {i : Nat // i ≤ d.n}) => live [(0, Ty.ptr 1000 0), (1, Ty.int .i64 (d.t : Nat)), (4, Ty.ptr 5 0), (5, Ty.ptr 6 0), (6, Ty.row I64 3 76 (d.bn k.1).left), (7, Ty.ptr 8 0), (22, Ty.int .i64 (d.m : Nat)), (23, Ty.int .i64 (k.1 : Nat)), (47, Ty.vs 31 d.n), (48, Ty.int .i64 (d.n : Nat)), (49, Ty.int .i64 (i.1 : Nat))] [(1000, Cont.cells 158 (skTys (shUp d.n (skNext (d.bn k.1).sk) 4).2)), (5, Cont.cells 27 [Ty.ex (.slice none 0 0), Ty.ex (.slice none 0 0), Ty.ex (.slice none 0 0), Ty.ex (.slice none 0 0)]), (6, Cont.cells 27 [Ty.vs 20 d.n, Ty.row BinE 79 71 (d.bn k.1).bins, Ty.row TrnE 99 171 [], Ty.row RulE 69 206 []]), (20, Cont.vec I64 3 (bearUp (mkBin d.n (d.bn k.1)).shares (mkBin d.n (d.bn k.1)).has (d.bn k.1).bears i.1)), (8, Cont.cells 79 [Ty.int .i64 (mkBin d.n (d.bn k.1)).has, Ty.vs 31 d.n]), (31, Cont.vec I64 3 (mkBin d.n (d.bn k.1)).shares)]) (fun i => d.n - i.1) (⟨0, by omega⟩) ?_ fun i => ?_
          · (refine Ent.mk' ?_ ?_ <;> (repeat' (first | exact allSub_zero | exact allTags_nil | refine allSub_succ' ?_ (Ty.sub_any _) | refine allSub_succ' ?_ (Ty.sub_refl _) | refine allTags_cons rfl (Cont.sub_refl _) ?_ | refine allTags_cons rfl ?_ ?_)))
            all_goals first | exact Cont.sub_vec (bear_zero _ _ _).symm | exact Cont.sub_vec (mkBin_shares _ _).symm
          ·
            have hi := i.2
            have hbe := bear_spec (mkBin d.n (d.bn k.1)).shares (mkBin d.n (d.bn k.1)).has (d.bn k.1).bears i.1
            have hbe1 := hbe.1
            have hbkb := hbk.bears
            have hmbl := hmb.len
            refine t_seq ?_
            refine t_region ?_
            refine r_bin rfl rfl rfl ?_
            refine r_nil ?_
            refine i_then ?_
            refine t_seq ?_
            refine t_cond_dec rfl (fun hc3 => ?_) (fun hc3 => ?_)
            ·
              refine t_skip ?_
              refine i_then ?_
              refine t_seq ?_
              refine t_block ?_
              refine t_seq ?_
              refine t_region ?_
              refine mvI rfl ?_
              refine r_index_vs rfl rfl rfl rfl rfl (by omega) ?_
              refine r_load_vecB rfl rfl rfl (by decide) rfl rfl (by omega) rfl ?_
              refine asI rfl ?_
              refine asI rfl ?_
              refine r_nil ?_
              refine i_then ?_
              refine t_draw mixed rfl ?_
              refine r_field_ptr rfl rfl rfl rfl rfl (by decide) ?_
              refine r_load_ptr rfl rfl (by decide) rfl rfl rfl ?_
              refine mvI rfl ?_
              refine r_index_vs rfl rfl rfl rfl rfl (by omega) ?_
              refine r_load_vecB rfl rfl rfl (by decide) rfl rfl (by omega) rfl ?_
              refine mvI rfl ?_
              refine r_field_ptr rfl rfl rfl rfl rfl (by decide) ?_
              refine r_load_ptr rfl rfl (by decide) rfl rfl rfl ?_
              refine r_bin rfl rfl rfl ?_
              refine r_bin rfl rfl rfl ?_
              refine r_index_vs rfl rfl rfl rfl rfl (by omega) ?_
              refine r_store_vecB rfl rfl rfl (by decide) rfl rfl (by exact (rfl : _ = Ty.int _ _)) rfl (by omega) (by decide) rfl rfl ?_
              refine r_nil ?_
              refine ⟨by kernel_rfl, ?_⟩
              refine i_block ?_
              refine i_then ?_
              refine t_region ?_
              refine r_add rfl rfl (by omega) (by omega) ?_
              refine mvI rfl ?_
              refine r_nil ?_
              refine i_round (⟨i.1 + 1, by omega⟩) ?_ (by show d.n - (i.1 + 1) < d.n - i.1; omega)
              (refine Ent.mk' ?_ ?_ <;> (repeat' (first | exact allSub_zero | exact allTags_nil | refine allSub_succ' ?_ (Ty.sub_any _) | refine allSub_succ' ?_ (Ty.sub_refl _) | refine allTags_cons rfl (Cont.sub_refl _) ?_ | refine allTags_cons rfl ?_ ?_)))
              all_goals skip
              all_goals exact Cont.sub_vec (bear_set hbk (by omega) (by omega) hmb)
            ·
              refine t_exit ?_
              refine i_then_exit ?_
              refine i_then_exit ?_
              refine i_block_exit rfl ?_
              refine i_then ?_
              have hx : ¬ (i.1 : Int) < (d.n : Nat) := hc3
              obtain ⟨i, hx2⟩ := i
              obtain rfl : i = d.n := by simp only at hx; omega
              refine t_pubC (tg := 31) [] [(8, Cont.cells 79 [Ty.int .i64 (mkBin d.n (d.bn k.1)).has, Ty.sl I64 (mkBin d.n (d.bn k.1)).shares])] (by decide) rfl trivial ⟨pubC_cells rfl rfl ⟨pubTy_same rfl, pubTy_vs rfl hmb.len (by decide), trivial⟩, trivial⟩ ?_
              refine t_draw mixed rfl ?_
              refine r_field_ptr rfl rfl rfl rfl rfl (by decide) ?_
              refine r_load_ptr rfl rfl (by decide) rfl rfl rfl ?_
              refine r_load_ptrN rfl rfl (by decide) rfl rfl (by exact Nat.le_of_ble_eq_true rfl) ?_
              refine r_buildSlice (E := BinE) (xs := [mkBin d.n (d.bn k.1)]) rfl rfl rfl rfl rfl (by decide) (by decide) (by repeat (first | exact (Parts.nil : Parts _ _ [] _) | (show Parts _ _ ((_, _) :: _) _; apply Parts.agg; (· exact (rfl : _ = Ty.agg _))))) (by exact rfl) rfl ?_
              refine r_append rfl rfl (by decide) rfl rfl rfl rfl rfl rfl (by decide) (by (simp <;> omega)) (by (simp <;> omega)) ?_
              refine mvR rfl ?_
              refine r_field_ptr rfl rfl rfl rfl rfl (by decide) ?_
              refine r_load_ptr rfl rfl (by decide) rfl rfl rfl ?_
              refine r_buildSlice (E := I64) (xs := [_]) rfl rfl rfl rfl rfl (by decide) (by decide) (by repeat (first | exact (Parts.nil : Parts _ _ [] _) | (show Parts _ _ ((_, _) :: _) _; apply Parts.one; (· exact (rfl : _ = Ty.int _ _)); (· exact rfl)))) (by exact rfl) rfl ?_
              refine r_append rfl rfl (by decide) rfl rfl rfl rfl rfl rfl (by decide) (by (simp <;> omega)) (by (simp <;> omega)) ?_
              refine r_field_ptr rfl rfl rfl rfl rfl (by decide) ?_
              refine r_store1 rfl rfl (by decide) rfl rfl (by exact (rfl : _ = Ty.row _ _ _ _)) rfl (by exact Nat.le_of_ble_eq_true rfl) rfl rfl (by exact rfl) ?_
              refine asR rfl ?_
              refine r_nil ?_
              refine ⟨by kernel_rfl, ?_⟩
              refine i_block ?_
              refine i_then ?_
              refine t_region ?_
              refine r_add rfl rfl (by omega) (by omega) ?_
              refine mvI rfl ?_
              refine r_nil ?_
              refine i_round (⟨k.1 + 1, by omega⟩) ?_ (by show d.m - (k.1 + 1) < d.m - k.1; omega)
              (refine Ent.mk' ?_ ?_ <;> (repeat' (first | exact allSub_zero | exact allTags_nil | exact subs_nil | refine allSub_succ' ?_ (Ty.sub_any _) | refine allSub_succ' ?_ (Ty.sub_refl _) | refine allTags_cons rfl (Cont.sub_refl _) ?_ | refine allTags_cons rfl (Cont.sub_subs ?_) ?_ | refine subs_cons ?_ (Ty.sub_refl _) | refine subs_cons ?_ ?_ | refine allTags_cons rfl ?_ ?_ | refine allSub_succ' ?_ ?_)))
              all_goals skip
              all_goals first | exact Ty.sub_int (congrArg (fun p => p.sk.mixed) (bn_succ d k.1).symm) | exact Ty.sub_int (congrArg (fun p => p.sk.taken) (bn_succ d k.1).symm) | exact Ty.sub_sl (congrArg (fun p => p.sk.grain) (bn_succ d k.1).symm) | exact Ty.sub_row (congrArg Mk.bins (bn_succ d k.1)).symm | exact Cont.sub_vec (congrArg Mk.bears (bn_succ d k.1)).symm | exact Ty.sub_row (congrArg Mk.left (bn_succ d k.1)).symm
    ·
      refine t_exit ?_
      refine i_then_exit ?_
      refine i_then_exit ?_
      refine i_block_exit rfl ?_
      refine i_then ?_
      refine t_seq ?_
      refine t_seq ?_
      have hx : ¬ (k.1 : Int) < (d.m : Nat) := hc1
      obtain ⟨k, hx2⟩ := k
      obtain rfl : k = d.m := by simp only at hx; omega
      refine t_region ?_
      refine r_field_ptr rfl rfl rfl rfl rfl (by decide) ?_
      refine r_load_ptr rfl rfl (by decide) rfl rfl rfl ?_
      refine r_len_vs rfl rfl rfl ?_
      refine mvI rfl ?_
      refine r_nil ?_
      refine i_then ?_
      refine t_block ?_
      refine t_loop (fun (i : {i : Nat // i ≤ d.n}) => live [(0, Ty.ptr 1000 0), (1, Ty.int .i64 (d.t : Nat)), (4, Ty.ptr 5 0), (5, Ty.ptr 6 0), (6, Ty.row I64 3 76 (d.bn d.m).left), (80, Ty.int .i64 (d.n : Nat)), (81, Ty.int .i64 (i.1 : Nat))] [(1000, Cont.cells 158 (skTys (d.up i.1).2)), (5, Cont.cells 27 [Ty.ex (.slice none 0 0), Ty.ex (.slice none 0 0), Ty.ex (.slice none 0 0), Ty.ex (.slice none 0 0)]), (6, Cont.cells 27 [Ty.vs 20 d.n, Ty.row BinE 79 71 (d.bn d.m).bins, Ty.row TrnE 99 171 [], Ty.row RulE 69 206 []]), (20, Cont.vec I64 3 (d.up i.1).1)]) (fun i => d.n - i.1) (⟨0, by omega⟩) ?_ fun i => ?_
      · (refine Ent.mk' ?_ ?_ <;> (repeat' (first | exact allSub_zero | exact allTags_nil | exact subs_nil | refine allSub_succ' ?_ (Ty.sub_any _) | refine allSub_succ' ?_ (Ty.sub_refl _) | refine allTags_cons rfl (Cont.sub_refl _) ?_ | refine allTags_cons rfl (Cont.sub_subs ?_) ?_ | refine subs_cons ?_ ?_ | refine allTags_cons rfl ?_ ?_)))
        all_goals first | exact Ty.sub_int (congrArg (fun p => p.2.mixed) (up_zero d).symm) | exact Ty.sub_int (congrArg (fun p => p.2.taken) (up_zero d).symm) | exact Ty.sub_sl (congrArg (fun p => p.2.grain) (up_zero d).symm) | exact Cont.sub_vec (congrArg Prod.fst (up_zero d)).symm
      ·
        have hi := i.2
        have hup := d.upOk i.1
        have hupt := hup.2.2
        have hun1 := skNext_taken (d.up i.1).2
        refine t_seq ?_
        refine t_region ?_
        refine r_bin rfl rfl rfl ?_
        refine r_nil ?_
        refine i_then ?_
        refine t_seq ?_
        refine t_cond_dec rfl (fun hc4 => ?_) (fun hc4 => ?_)
        ·
          refine t_skip ?_
          refine i_then ?_
          refine t_seq ?_
          refine t_block ?_
          refine t_seq ?_
          refine t_region ?_
          refine mvI rfl ?_
          refine asI rfl ?_
          refine r_nil ?_
          refine i_then ?_
          refine t_seq ?_
          refine t_draw mixed rfl ?_
          refine r_field_ptr rfl rfl rfl rfl rfl (by decide) ?_
          refine r_load_ptr rfl rfl (by decide) rfl rfl rfl ?_
          refine mvI rfl ?_
          refine r_index_vs rfl rfl rfl rfl rfl (by omega) ?_
          refine r_load_vecB rfl rfl rfl (by decide) rfl rfl (by omega) rfl ?_
          refine mvO rfl ?_
          refine r_callG [(1000, 1000)] [] [(1000, Cont.cells 158 (skTys (skNext (d.up i.1).2)))] (c_Below (d.up i.1).2 ⟨by omega, by omega⟩ _) rfl rfl (by repeat (first | exact cv_nil | refine cv_cons ?_ ?_ | exact cv_ptr List.mem_cons_self | exact cv_pub rfl rfl)) (pre_cons (a := 1000) (b := 1000) (by exact List.mem_cons_self) rfl (cc_cells_eq (by exact List.mem_cons_self) rfl rfl rfl) pre_nil) (post_cons (a := 1000) (b := 1000) (by exact List.mem_cons_self) rfl (cc_cells_eq (by exact List.mem_cons_self) rfl rfl rfl) post_nil) (cv_pub rfl rfl) ?_
          refine r_bin rfl rfl rfl ?_
          refine r_index_vs rfl rfl rfl rfl rfl (by omega) ?_
          refine r_store_vecB rfl rfl rfl (by decide) rfl rfl (by exact (rfl : _ = Ty.int _ _)) rfl (by omega) (by decide) rfl rfl ?_
          refine r_nil ?_
          refine ⟨by kernel_rfl, ?_⟩
          refine i_then ?_
          refine t_seq ?_
          refine t_region ?_
          refine mvO rfl ?_
          refine r_callG [(1000, 1000)] [] [(1000, Cont.cells 158 (skTys (skNext (skNext (d.up i.1).2))))] (c_Rare (skNext (d.up i.1).2) ⟨by omega, by omega⟩ _) rfl rfl (by repeat (first | exact cv_nil | refine cv_cons ?_ ?_ | exact cv_ptr List.mem_cons_self | exact cv_pub rfl rfl)) (pre_cons (a := 1000) (b := 1000) (by exact List.mem_cons_self) rfl (cc_cells_eq (by exact List.mem_cons_self) rfl rfl rfl) pre_nil) (post_cons (a := 1000) (b := 1000) (by exact List.mem_cons_self) rfl (cc_cells_eq (by exact List.mem_cons_self) rfl rfl rfl) post_nil) (cv_pub rfl rfl) ?_
          refine r_nil ?_
          refine i_then ?_
          refine t_cond rfl (fun hc5 => ?_) (fun hc5 => ?_)
          ·
            refine t_draw mixed rfl ?_
            refine r_field_ptr rfl rfl rfl rfl rfl (by decide) ?_
            refine r_load_ptr rfl rfl (by decide) rfl rfl rfl ?_
            refine mvI rfl ?_
            refine r_field_ptr rfl rfl rfl rfl rfl (by decide) ?_
            refine r_load_ptr rfl rfl (by decide) rfl rfl rfl ?_
            refine mvI rfl ?_
            refine r_index_vs rfl rfl rfl rfl rfl (by omega) ?_
            refine r_load_vecB rfl rfl rfl (by decide) rfl rfl (by (simp <;> omega)) rfl ?_
            refine r_bin rfl rfl rfl ?_
            refine r_max rfl rfl ?_
            refine r_index_vs rfl rfl rfl rfl rfl (by omega) ?_
            refine r_store_vecB rfl rfl rfl (by decide) rfl rfl (by exact (rfl : _ = Ty.int _ _)) rfl (by (simp <;> omega)) (by decide) rfl rfl ?_
            refine r_nil ?_
            refine ⟨by kernel_rfl, ?_⟩
            refine i_block ?_
            refine i_then ?_
            refine t_region ?_
            refine r_add rfl rfl (by omega) (by omega) ?_
            refine mvI rfl ?_
            refine r_nil ?_
            refine i_round (⟨i.1 + 1, by omega⟩) ?_ (by show d.n - (i.1 + 1) < d.n - i.1; omega)
            (refine Ent.mk' ?_ ?_ <;> (repeat' (first | exact allSub_zero | exact allTags_nil | exact subs_nil | refine allSub_succ' ?_ (Ty.sub_any _) | refine allSub_succ' ?_ (Ty.sub_refl _) | refine allTags_cons rfl (Cont.sub_refl _) ?_ | refine allTags_cons rfl (Cont.sub_subs ?_) ?_ | refine subs_cons ?_ ?_ | refine allTags_cons rfl ?_ ?_)))
            all_goals skip
            all_goals first | exact Ty.sub_int (congrArg Sk.mixed (up_sk d i.1)).symm | exact Ty.sub_int (congrArg Sk.taken (up_sk d i.1)).symm | exact Ty.sub_sl (congrArg Sk.grain (up_sk d i.1)).symm | exact Cont.sub_vec ((up_set2 (by omega)).trans (up_yes d i.1 hc5).symm)
          ·
            refine t_skip ?_
            refine i_block ?_
            refine i_then ?_
            refine t_region ?_
            refine r_add rfl rfl (by omega) (by omega) ?_
            refine mvI rfl ?_
            refine r_nil ?_
            refine i_round (⟨i.1 + 1, by omega⟩) ?_ (by show d.n - (i.1 + 1) < d.n - i.1; omega)
            (refine Ent.mk' ?_ ?_ <;> (repeat' (first | exact allSub_zero | exact allTags_nil | exact subs_nil | refine allSub_succ' ?_ (Ty.sub_any _) | refine allSub_succ' ?_ (Ty.sub_refl _) | refine allTags_cons rfl (Cont.sub_refl _) ?_ | refine allTags_cons rfl (Cont.sub_subs ?_) ?_ | refine subs_cons ?_ ?_ | refine allTags_cons rfl ?_ ?_)))
            all_goals skip
            all_goals first | exact Ty.sub_int (congrArg Sk.mixed (up_sk d i.1)).symm | exact Ty.sub_int (congrArg Sk.taken (up_sk d i.1)).symm | exact Ty.sub_sl (congrArg Sk.grain (up_sk d i.1)).symm | exact Cont.sub_vec ((up_set (by omega)).trans (up_no d i.1 hc5).symm)
        ·
          refine t_exit ?_
          refine i_then_exit ?_
          refine i_then_exit ?_
          refine i_block_exit rfl ?_
          refine i_then ?_
          refine t_seq ?_
          refine t_seq ?_
          have hx : ¬ (i.1 : Int) < (d.n : Nat) := hc4
          obtain ⟨i, hx2⟩ := i
          obtain rfl : i = d.n := by simp only at hx; omega
          refine t_own (s := 6) rfl rfl ?_
          refine t_region ?_
          refine mvO rfl ?_
          refine mvI rfl ?_
          refine r_add rfl rfl (by omega) (by omega) ?_
          refine r_callG [(1000, 1000)] [] [(1000, Cont.cells 158 (skTys (skNext (d.up d.n).2)))] (c_Below (d.up d.n).2 ⟨by omega, by omega⟩ _) rfl rfl (by repeat (first | exact cv_nil | refine cv_cons ?_ ?_ | exact cv_ptr List.mem_cons_self | exact cv_pub rfl rfl)) (pre_cons (a := 1000) (b := 1000) (by exact List.mem_cons_self) rfl (cc_cells_eq (by exact List.mem_cons_self) rfl rfl rfl) pre_nil) (post_cons (a := 1000) (b := 1000) (by exact List.mem_cons_self) rfl (cc_cells_eq (by exact List.mem_cons_self) rfl rfl rfl) post_nil) (cv_pub rfl rfl) ?_
          refine mvI rfl ?_
          refine r_nil ?_
          refine i_then ?_
          refine t_block ?_
          refine t_loop (fun (k : {k : Nat // k ≤ d.T}) => live [(0, Ty.ptr 1000 0), (1, Ty.int .i64 (d.t : Nat)), (4, Ty.ptr 5 0), (5, Ty.ptr 6 0), (6, Ty.vs 76 d.m), (110, Ty.int .i64 (d.T : Nat)), (111, Ty.int .i64 (k.1 : Nat))] [(1000, Cont.cells 158 (skTys (d.tk k.1).sk)), (5, Cont.cells 27 [Ty.ex (.slice none 0 0), Ty.ex (.slice none 0 0), Ty.ex (.slice none 0 0), Ty.ex (.slice none 0 0)]), (6, Cont.cells 27 [Ty.vs 20 d.n, Ty.row BinE 79 71 (d.bn d.m).bins, Ty.row TrnE 99 171 (d.tk k.1).trn, Ty.row RulE 69 206 []]), (20, Cont.vec I64 3 (d.up d.n).1), (76, Cont.vec I64 3 (d.tk k.1).left)]) (fun k => d.T - k.1) (⟨0, by omega⟩) ?_ fun k => ?_
          · (refine Ent.mk' ?_ ?_ <;> (repeat' (first | exact allSub_zero | exact allTags_nil | exact subs_nil | refine allSub_succ' ?_ (Ty.sub_any _) | refine allSub_succ' ?_ (Ty.sub_refl _) | refine allTags_cons rfl (Cont.sub_refl _) ?_ | refine allTags_cons rfl (Cont.sub_subs ?_) ?_ | refine subs_cons ?_ (Ty.sub_refl _) | refine subs_cons ?_ ?_ | refine allTags_cons rfl ?_ ?_ | refine allSub_succ' ?_ ?_)))
            all_goals first | exact Ty.sub_eq (congrArg (Ty.vs 76) d.left_pos.1) | exact Ty.sub_int d.T_in.2.symm | exact Ty.sub_int (congrArg (fun p => p.sk.mixed) (tk_zero d).symm) | exact Ty.sub_int (congrArg (fun p => p.sk.taken) (tk_zero d).symm) | exact Ty.sub_sl (congrArg (fun p => p.sk.grain) (tk_zero d).symm) | exact Ty.sub_row (congrArg Tk.trn (tk_zero d)).symm | exact Cont.sub_vec (congrArg Tk.left (tk_zero d)).symm
          ·
            have hk := k.2
            have htk := d.tkOk k.1
            have htt := htk.taken
            have hsi := src_in d.m_in.1 (d.tk k.1)
            have htl := htk.left
            have htl2 := htk.trn
            have ham := among_in (s := (d.tk k.1).sk) (show (-1 : Int) ≤ (((d.bn d.m).bins.length : Nat) : Int) - 1 by omega)
            have hti := mkTrn_ok d.m_in.1 htk.pos
            have hn1 := skNext_taken (d.tk k.1).sk
            have hn2 := skNext_taken (skNext (d.tk k.1).sk)
            refine t_seq ?_
            refine t_region ?_
            refine r_bin rfl rfl rfl ?_
            refine r_nil ?_
            refine i_then ?_
            refine t_seq ?_
            refine t_cond_dec rfl (fun hc6 => ?_) (fun hc6 => ?_)
            ·
              refine t_skip ?_
              refine i_then ?_
              refine t_seq ?_
              refine t_block ?_
              refine t_seq ?_
              refine t_draw mixed rfl ?_
              refine mvO rfl ?_
              refine r_field_ptr rfl rfl rfl rfl rfl (by decide) ?_
              refine r_load_ptr rfl rfl (by decide) rfl rfl rfl ?_
              refine r_len_row rfl rfl rfl ?_
              refine r_sub rfl rfl (by omega) (by omega) ?_
              refine r_callG [(1000, 1000)] [] [(1000, Cont.cells 158 (skTys (skNext (d.tk k.1).sk)))] (c_Among (d.tk k.1).sk ⟨by omega, by omega⟩ (-1) ((((d.bn d.m).bins.length : Nat) : Int) - 1) (by omega) (by omega)) rfl rfl (by repeat (first | exact cv_nil | refine cv_cons ?_ ?_ | exact cv_ptr List.mem_cons_self | exact cv_pub rfl rfl)) (pre_cons (a := 1000) (b := 1000) (by exact List.mem_cons_self) rfl (cc_cells_eq (by exact List.mem_cons_self) rfl rfl rfl) pre_nil) (post_cons (a := 1000) (b := 1000) (by exact List.mem_cons_self) rfl (cc_cells_eq (by exact List.mem_cons_self) rfl rfl rfl) post_nil) (cv_pub rfl rfl) ?_
              refine mvO rfl ?_
              refine r_field_ptr rfl rfl rfl rfl rfl (by decide) ?_
              refine r_load_ptr rfl rfl (by decide) rfl rfl rfl ?_
              refine r_len_row rfl rfl rfl ?_
              refine r_sub rfl rfl (by omega) (by omega) ?_
              refine r_callG [(1000, 1000)] [] [(1000, Cont.cells 158 (skTys (skNext (skNext (d.tk k.1).sk))))] (c_Among (skNext (d.tk k.1).sk) ⟨by omega, by omega⟩ (-1) ((((d.bn d.m).bins.length : Nat) : Int) - 1) (by omega) (by omega)) rfl rfl (by repeat (first | exact cv_nil | refine cv_cons ?_ ?_ | exact cv_ptr List.mem_cons_self | exact cv_pub rfl rfl)) (pre_cons (a := 1000) (b := 1000) (by exact List.mem_cons_self) rfl (cc_cells_eq (by exact List.mem_cons_self) rfl rfl rfl) pre_nil) (post_cons (a := 1000) (b := 1000) (by exact List.mem_cons_self) rfl (cc_cells_eq (by exact List.mem_cons_self) rfl rfl rfl) post_nil) (cv_pub rfl rfl) ?_
              refine asI rfl ?_
              refine asI rfl ?_
              refine r_nil ?_
              refine ⟨by kernel_rfl, ?_⟩
              refine i_then ?_
              refine t_join (J := live [(0, Ty.ptr 1000 0), (1, Ty.int .i64 (d.t : Nat)), (4, Ty.ptr 5 0), (5, Ty.ptr 6 0), (6, Ty.vs 76 d.m), (110, Ty.int .i64 (d.T : Nat)), (111, Ty.int .i64 (k.1 : Nat)), (11, Ty.int .i64 (tkSrc d.m (d.tk k.1))), (12, Ty.int .i64 (skAmong (skNext (d.tk k.1).sk) (-1) ((((d.bn d.m).bins.length : Nat) : Int) - 1)))] [(1000, Cont.cells 158 (skTys (skNext (skNext (d.tk k.1).sk)))), (5, Cont.cells 27 [Ty.ex (.slice none 0 0), Ty.ex (.slice none 0 0), Ty.ex (.slice none 0 0), Ty.ex (.slice none 0 0)]), (6, Cont.cells 27 [Ty.vs 20 d.n, Ty.row BinE 79 71 (d.bn d.m).bins, Ty.row TrnE 99 171 (d.tk k.1).trn, Ty.row RulE 69 206 []]), (20, Cont.vec I64 3 (d.up d.n).1), (76, Cont.vec I64 3 (d.tk k.1).left)]) ?_ ?_
              ·
                refine t_seq ?_
                refine t_region ?_
                refine mvI rfl ?_
                refine r_bin rfl rfl rfl ?_
                refine mvB rfl ?_
                apply r_guard (s := 127) rfl rfl rfl
                · intro hg; apply opT_of; (refine mvV rfl ?_); refine r_nil ?_; exact rfl
                · exact rfl
                · exact rfl
                apply r_guard (s := 127) rfl rfl rfl
                · intro hg; apply opT_of; (refine mvI rfl ?_); refine r_nil ?_; exact rfl
                · exact rfl
                · exact rfl
                apply r_guard (s := 127) rfl rfl rfl
                · intro hg; apply opT_strip (s := 128) rfl (by (rw [hg]; rfl)); apply opT_strip (s := 129) rfl (by (rw [hg]; rfl)); apply opT_of; (refine r_index_vsI rfl rfl rfl rfl rfl (by have := ne_of_hg hg; omega) (by have := ne_of_hg hg; omega) ?_); refine r_nil ?_; exact rfl
                · exact rfl
                · exact rfl
                apply r_guard (s := 127) rfl rfl rfl
                · intro hg; apply opT_strip (s := 130) rfl (by (rw [hg]; rfl)); apply opT_of; (refine r_load_vecB rfl rfl rfl (by decide) rfl rfl (by omega) rfl ?_); refine r_nil ?_; exact rfl
                · exact rfl
                · exact rfl
                apply r_guard (s := 127) rfl rfl rfl
                · intro hg; apply opT_strip (s := 131) rfl (by (rw [hg]; rfl)); apply opT_of; (refine r_bin rfl rfl rfl ?_); refine r_nil ?_; exact rfl
                · exact rfl
                · exact rfl
                refine r_and rfl rfl ?_
                refine r_nil ?_
                refine i_then ?_
                refine t_cond rfl (fun hc7 => ?_) (fun hc7 => ?_)
                ·
                  refine t_region ?_
                  refine asI rfl ?_
                  refine r_nil ?_
                  refine i_join ?_
                  (refine Ent.mk' ?_ ?_ <;> (repeat' (first | exact allSub_zero | exact allTags_nil | refine allSub_succ' ?_ (Ty.sub_any _) | refine allSub_succ' ?_ (Ty.sub_refl _) | refine allTags_cons rfl (Cont.sub_refl _) ?_ | refine allSub_succ' ?_ ?_)))
                  all_goals exact Ty.sub_int (src_yes hbm.bins _ hc7)
                ·
                  refine t_skip ?_
                  refine i_join ?_
                  (refine Ent.mk' ?_ ?_ <;> (repeat' (first | exact allSub_zero | exact allTags_nil | refine allSub_succ' ?_ (Ty.sub_any _) | refine allSub_succ' ?_ (Ty.sub_refl _) | refine allTags_cons rfl (Cont.sub_refl _) ?_ | refine allSub_succ' ?_ ?_)))
                  all_goals exact Ty.sub_int (src_no hbm.bins _ hc7)
              ·
                refine t_join (J := live [(0, Ty.ptr 1000 0), (1, Ty.int .i64 (d.t : Nat)), (4, Ty.ptr 5 0), (5, Ty.ptr 6 0), (6, Ty.vs 76 d.m), (110, Ty.int .i64 (d.T : Nat)), (111, Ty.int .i64 (k.1 : Nat)), (11, Ty.int .i64 (tkSrc d.m (d.tk k.1))), (12, Ty.int .i64 (tkDst d.m (d.tk k.1)))] [(1000, Cont.cells 158 (skTys (skNext (skNext (d.tk k.1).sk)))), (5, Cont.cells 27 [Ty.ex (.slice none 0 0), Ty.ex (.slice none 0 0), Ty.ex (.slice none 0 0), Ty.ex (.slice none 0 0)]), (6, Cont.cells 27 [Ty.vs 20 d.n, Ty.row BinE 79 71 (d.bn d.m).bins, Ty.row TrnE 99 171 (d.tk k.1).trn, Ty.row RulE 69 206 []]), (20, Cont.vec I64 3 (d.up d.n).1), (76, Cont.vec I64 3 (d.tk k.1).left)]) ?_ ?_
                ·
                  refine t_seq ?_
                  refine t_region ?_
                  refine mvI rfl ?_
                  refine mvI rfl ?_
                  refine r_bin rfl rfl rfl ?_
                  refine r_nil ?_
                  refine i_then ?_
                  refine t_cond_dec rfl (fun hc8 => ?_) (fun hc8 => ?_)
                  ·
                    refine t_region ?_
                    refine mvI rfl ?_
                    refine r_add rfl rfl (by omega) (by omega) ?_
                    refine r_field_ptr rfl rfl rfl rfl rfl (by decide) ?_
                    refine r_load_ptr rfl rfl (by decide) rfl rfl rfl ?_
                    refine r_len_row rfl rfl rfl ?_
                    refine r_call (c_Mod _ _ (by omega) (by omega)) rfl rfl rfl rfl rfl ?_
                    refine asI rfl ?_
                    refine r_nil ?_
                    refine i_join ?_
                    (refine Ent.mk' ?_ ?_ <;> (repeat' (first | exact allSub_zero | exact allTags_nil | refine allSub_succ' ?_ (Ty.sub_any _) | refine allSub_succ' ?_ (Ty.sub_refl _) | refine allTags_cons rfl (Cont.sub_refl _) ?_ | refine allSub_succ' ?_ ?_)))
                    all_goals exact Ty.sub_int (dst_yes hbm.bins _ hc8)
                  ·
                    refine t_skip ?_
                    refine i_join ?_
                    (refine Ent.mk' ?_ ?_ <;> (repeat' (first | exact allSub_zero | exact allTags_nil | refine allSub_succ' ?_ (Ty.sub_any _) | refine allSub_succ' ?_ (Ty.sub_refl _) | refine allTags_cons rfl (Cont.sub_refl _) ?_ | refine allSub_succ' ?_ ?_)))
                    all_goals exact Ty.sub_int (dst_no hbm.bins _ hc8)
                ·
                  refine t_seq ?_
                  refine t_region ?_
                  refine mvI rfl ?_
                  refine mvI rfl ?_
                  refine mvO rfl ?_
                  refine r_callG [(1000, 1000)] [] [(1000, Cont.cells 158 (skTys (skNext (skNext (skNext (d.tk k.1).sk)))))] (c_Among (skNext (skNext (d.tk k.1).sk)) ⟨by omega, by omega⟩ 1 20 (by omega) (by omega)) rfl rfl (by repeat (first | exact cv_nil | refine cv_cons ?_ ?_ | exact cv_ptr List.mem_cons_self | exact cv_pub rfl rfl)) (pre_cons (a := 1000) (b := 1000) (by exact List.mem_cons_self) rfl (cc_cells_eq (by exact List.mem_cons_self) rfl rfl rfl) pre_nil) (post_cons (a := 1000) (b := 1000) (by exact List.mem_cons_self) rfl (cc_cells_eq (by exact List.mem_cons_self) rfl rfl rfl) post_nil) (cv_pub rfl rfl) ?_
                  refine r_build rfl rfl (by exact List.cons_ne_nil _ _) rfl (by repeat (first | exact (Parts.nil : Parts _ _ [] _) | (show Parts _ _ ((_, _) :: _) _; apply Parts.one; (· exact (rfl : _ = Ty.int _ _)); (· exact rfl)))) (by exact (rfl : _ = some [_, _, _])) ?_
                  refine r_alloc rfl (by exact List.cons_ne_nil _ _) rfl ?_
                  refine r_storeN rfl rfl (by decide) rfl rfl rfl rfl rfl rfl ?_
                  refine r_nil ?_
                  refine i_then ?_
                  refine t_join (J := live [(0, Ty.ptr 1000 0), (1, Ty.int .i64 (d.t : Nat)), (4, Ty.ptr 5 0), (5, Ty.ptr 6 0), (6, Ty.vs 76 d.m), (110, Ty.int .i64 (d.T : Nat)), (111, Ty.int .i64 (k.1 : Nat)), (13, Ty.ptr 14 0)] [(1000, Cont.cells 158 (skTys (skNext (skNext (skNext (d.tk k.1).sk))))), (5, Cont.cells 27 [Ty.ex (.slice none 0 0), Ty.ex (.slice none 0 0), Ty.ex (.slice none 0 0), Ty.ex (.slice none 0 0)]), (6, Cont.cells 27 [Ty.vs 20 d.n, Ty.row BinE 79 71 (d.bn d.m).bins, Ty.row TrnE 99 171 (d.tk k.1).trn, Ty.row RulE 69 206 []]), (20, Cont.vec I64 3 (d.up d.n).1), (76, Cont.vec I64 3 (leftOf (d.tk k.1).left (tkSrc d.m (d.tk k.1)) (tkSacks d.m (d.tk k.1)))), (14, Cont.cells 99 [Ty.int .i64 (tkSrc d.m (d.tk k.1)), Ty.int .i64 (tkDst d.m (d.tk k.1)), Ty.int .i64 (tkSacks d.m (d.tk k.1))])]) ?_ ?_
                  ·
                    refine t_seq ?_
                    refine t_region ?_
                    refine mvI rfl ?_
                    refine r_bin rfl rfl rfl ?_
                    refine r_nil ?_
                    refine i_then ?_
                    refine t_cond_ndec rfl (fun hc9 => ?_) (fun hc9 => ?_)
                    ·
                      refine t_seq ?_
                      refine t_draw mixed rfl ?_
                      refine r_field_ptr rfl rfl rfl rfl rfl (by decide) ?_
                      refine r_load_ptr rfl rfl (by decide) rfl rfl rfl ?_
                      refine mvV rfl ?_
                      refine mvI rfl ?_
                      refine r_index_vsI rfl rfl rfl rfl rfl (by omega) (by omega) ?_
                      refine r_load_vecB rfl rfl rfl (by decide) rfl rfl (by omega) rfl ?_
                      refine r_min rfl rfl ?_
                      refine r_field_ptr rfl rfl rfl rfl rfl (by decide) ?_
                      refine r_store1 rfl rfl (by decide) rfl rfl (by exact (rfl : _ = Ty.int _ _)) rfl (by exact Nat.le_of_ble_eq_true rfl) rfl rfl (by exact rfl) ?_
                      refine r_nil ?_
                      refine ⟨by kernel_rfl, ?_⟩
                      refine i_then ?_
                      refine t_draw mixed rfl ?_
                      refine mvV rfl ?_
                      refine mvI rfl ?_
                      refine r_index_vsI rfl rfl rfl rfl rfl (by omega) (by omega) ?_
                      refine r_load_vecB rfl rfl rfl (by decide) rfl rfl (by omega) rfl ?_
                      refine r_field_ptr rfl rfl rfl rfl rfl (by decide) ?_
                      refine r_load_ptr rfl rfl (by decide) rfl rfl rfl ?_
                      refine r_bin rfl rfl rfl ?_
                      refine r_index_vsI rfl rfl rfl rfl rfl (by omega) (by omega) ?_
                      refine r_store_vecB rfl rfl rfl (by decide) rfl rfl (by exact (rfl : _ = Ty.int _ _)) rfl (by omega) (by decide) rfl rfl ?_
                      refine r_nil ?_
                      refine ⟨by kernel_rfl, ?_⟩
                      refine i_join ?_
                      (refine Ent.mk' ?_ ?_ <;> (repeat' (first | exact allSub_zero | exact allTags_nil | exact subs_nil | refine allSub_succ' ?_ (Ty.sub_any _) | refine allSub_succ' ?_ (Ty.sub_refl _) | refine allTags_cons rfl (Cont.sub_refl _) ?_ | refine allTags_cons rfl (Cont.sub_subs ?_) ?_ | refine subs_cons ?_ (Ty.sub_refl _) | refine subs_cons ?_ ?_ | refine allTags_cons rfl ?_ ?_)))
                      all_goals first | exact Cont.sub_vec (left_yes hc9 (left_bound (by omega))) | exact Ty.sub_int (sacks_yes hc9)
                    ·
                      refine t_skip ?_
                      refine i_join ?_
                      (refine Ent.mk' ?_ ?_ <;> (repeat' (first | exact allSub_zero | exact allTags_nil | exact subs_nil | refine allSub_succ' ?_ (Ty.sub_any _) | refine allSub_succ' ?_ (Ty.sub_refl _) | refine allTags_cons rfl (Cont.sub_refl _) ?_ | refine allTags_cons rfl (Cont.sub_subs ?_) ?_ | refine subs_cons ?_ (Ty.sub_refl _) | refine subs_cons ?_ ?_ | refine allTags_cons rfl ?_ ?_)))
                      all_goals first | exact Cont.sub_vec (left_no hc9) | exact Ty.sub_int (sacks_no hc9)
                  ·
                    refine t_region ?_
                    refine r_field_ptr rfl rfl rfl rfl rfl (by decide) ?_
                    refine r_load_ptr rfl rfl (by decide) rfl rfl rfl ?_
                    refine r_load_ptrN rfl rfl (by decide) rfl rfl (by exact Nat.le_of_ble_eq_true rfl) ?_
                    refine r_buildSlice (E := TrnE) (xs := [mkTrn d.m (d.tk k.1)]) rfl rfl rfl rfl rfl (by decide) (by decide) (by repeat (first | exact (Parts.nil : Parts _ _ [] _) | (show Parts _ _ ((_, _) :: _) _; apply Parts.agg; (· exact (rfl : _ = Ty.agg _))))) (by exact rfl) rfl ?_
                    refine r_append rfl rfl (by decide) rfl rfl rfl rfl rfl rfl (by decide) (by (simp <;> omega)) (by (simp <;> omega)) ?_
                    refine r_field_ptr rfl rfl rfl rfl rfl (by decide) ?_
                    refine r_store1 rfl rfl (by decide) rfl rfl (by exact (rfl : _ = Ty.row _ _ _ _)) rfl (by exact Nat.le_of_ble_eq_true rfl) rfl rfl (by exact rfl) ?_
                    refine r_nil ?_
                    refine i_block ?_
                    refine i_then ?_
                    refine t_region ?_
                    refine r_add rfl rfl (by omega) (by omega) ?_
                    refine mvI rfl ?_
                    refine r_nil ?_
                    refine i_round (⟨k.1 + 1, by omega⟩) ?_ (by show d.T - (k.1 + 1) < d.T - k.1; omega)
                    (refine Ent.mk' ?_ ?_ <;> (repeat' (first | exact allSub_zero | exact allTags_nil | exact subs_nil | refine allSub_succ' ?_ (Ty.sub_any _) | refine allSub_succ' ?_ (Ty.sub_refl _) | refine allTags_cons rfl (Cont.sub_refl _) ?_ | refine allTags_cons rfl (Cont.sub_subs ?_) ?_ | refine subs_cons ?_ (Ty.sub_refl _) | refine subs_cons ?_ ?_ | refine allTags_cons rfl ?_ ?_)))
                    all_goals skip
                    all_goals first | exact Ty.sub_int (congrArg (fun p => p.sk.mixed) (tk_succ d k.1).symm) | exact Ty.sub_int (congrArg (fun p => p.sk.taken) (tk_succ d k.1).symm) | exact Ty.sub_sl (congrArg (fun p => p.sk.grain) (tk_succ d k.1).symm) | exact Ty.sub_row (congrArg Tk.trn (tk_succ d k.1)).symm | exact Cont.sub_vec (congrArg Tk.left (tk_succ d k.1)).symm
            ·
              refine t_exit ?_
              refine i_then_exit ?_
              refine i_then_exit ?_
              refine i_block_exit rfl ?_
              refine i_then ?_
              refine t_seq ?_
              have hx : ¬ (k.1 : Int) < (d.T : Nat) := hc6
              obtain ⟨k, hx2⟩ := k
              obtain rfl : k = d.T := by simp only at hx; omega
              refine t_region ?_
              refine mvO rfl ?_
              refine r_field_ptr rfl rfl rfl rfl rfl (by decide) ?_
              refine r_load_ptr rfl rfl (by decide) rfl rfl rfl ?_
              refine r_len_row rfl rfl rfl ?_
              refine r_callG [(1000, 1000)] [] [(1000, Cont.cells 158 (skTys (d.order.2)))] (c_Shuf (d.tk d.T).sk d.T (d.tk d.T).trn.length htTl (by omega) ⟨by omega, by omega⟩) rfl rfl (by repeat (first | exact cv_nil | refine cv_cons ?_ ?_ | exact cv_ptr List.mem_cons_self | exact cv_pub rfl rfl)) (pre_cons (a := 1000) (b := 1000) (by exact List.mem_cons_self) rfl (cc_cells_eq (by exact List.mem_cons_self) rfl rfl rfl) pre_nil) (post_cons (a := 1000) (b := 1000) (by exact List.mem_cons_self) rfl (cc_cells_eq (by exact List.mem_cons_self) rfl rfl rfl) post_nil) (cv_pub rfl rfl) ?_
              refine asS rfl ?_
              refine r_nil ?_
              refine i_then ?_
              refine t_seq ?_
              refine t_seq ?_
              refine t_region ?_
              refine mvO rfl ?_
              refine r_callG [(1000, 1000)] [] [(1000, Cont.cells 158 (skTys (skNext d.order.2)))] (c_Below d.order.2 ⟨by omega, by omega⟩ _) rfl rfl (by repeat (first | exact cv_nil | refine cv_cons ?_ ?_ | exact cv_ptr List.mem_cons_self | exact cv_pub rfl rfl)) (pre_cons (a := 1000) (b := 1000) (by exact List.mem_cons_self) rfl (cc_cells_eq (by exact List.mem_cons_self) rfl rfl rfl) pre_nil) (post_cons (a := 1000) (b := 1000) (by exact List.mem_cons_self) rfl (cc_cells_eq (by exact List.mem_cons_self) rfl rfl rfl) post_nil) (cv_pub rfl rfl) ?_
              refine mvI rfl ?_
              refine r_nil ?_
              refine i_then ?_
              refine t_block ?_
              refine t_loop (fun (k : {k : Nat // k ≤ d.R}) => live [(0, Ty.ptr 1000 0), (1, Ty.int .i64 (d.t : Nat)), (4, Ty.ptr 5 0), (5, Ty.ptr 6 0), (14, Ty.sl I64 d.order.1), (179, Ty.int .i64 (d.R : Nat)), (180, Ty.int .i64 (k.1 : Nat))] [(1000, Cont.cells 158 (skTys (d.ru k.1).2)), (5, Cont.cells 27 [Ty.ex (.slice none 0 0), Ty.ex (.slice none 0 0), Ty.ex (.slice none 0 0), Ty.ex (.slice none 0 0)]), (6, Cont.cells 27 [Ty.vs 20 d.n, Ty.row BinE 79 71 (d.bn d.m).bins, Ty.row TrnE 99 171 (d.tk d.T).trn, Ty.row RulE 69 206 (d.ru k.1).1]), (20, Cont.vec I64 3 (d.up d.n).1)]) (fun k => d.R - k.1) (⟨0, by omega⟩) ?_ fun k => ?_
              · (refine Ent.mk' ?_ ?_ <;> (repeat' (first | exact allSub_zero | exact allTags_nil | exact subs_nil | refine allSub_succ' ?_ (Ty.sub_any _) | refine allSub_succ' ?_ (Ty.sub_refl _) | refine allTags_cons rfl (Cont.sub_refl _) ?_ | refine allTags_cons rfl (Cont.sub_subs ?_) ?_ | refine subs_cons ?_ (Ty.sub_refl _) | refine subs_cons ?_ ?_ | refine allSub_succ' ?_ ?_)))
                all_goals first | exact Ty.sub_int d.R_in.2.symm | exact Ty.sub_int (congrArg (fun p => p.2.mixed) (ru_zero d).symm) | exact Ty.sub_int (congrArg (fun p => p.2.taken) (ru_zero d).symm) | exact Ty.sub_sl (congrArg (fun p => p.2.grain) (ru_zero d).symm) | exact Ty.sub_row (congrArg Prod.fst (ru_zero d)).symm
              ·
                have hk := k.2
                have hru := d.ruOk k.1
                have hrt := hru.2.2
                have hru1 := skNext_taken (d.ru k.1).2
                have hb1 := skBelow_bound (d.ru k.1).2 (d.order.1.length : Nat)
                have hb2 := skBelow_bound (skNext (d.ru k.1).2) (d.order.1.length : Nat)
                refine t_seq ?_
                refine t_region ?_
                refine r_bin rfl rfl rfl ?_
                refine r_nil ?_
                refine i_then ?_
                refine t_seq ?_
                refine t_cond_dec rfl (fun hc10 => ?_) (fun hc10 => ?_)
                ·
                  refine t_skip ?_
                  refine i_then ?_
                  refine t_seq ?_
                  refine t_block ?_
                  refine t_seq ?_
                  refine t_region ?_
                  refine mvO rfl ?_
                  refine mvS rfl ?_
                  refine r_len rfl rfl rfl ?_
                  refine r_callG [(1000, 1000)] [] [(1000, Cont.cells 158 (skTys (skNext (d.ru k.1).2)))] (c_Below (d.ru k.1).2 ⟨by omega, by omega⟩ _) rfl rfl (by repeat (first | exact cv_nil | refine cv_cons ?_ ?_ | exact cv_ptr List.mem_cons_self | exact cv_pub rfl rfl)) (pre_cons (a := 1000) (b := 1000) (by exact List.mem_cons_self) rfl (cc_cells_eq (by exact List.mem_cons_self) rfl rfl rfl) pre_nil) (post_cons (a := 1000) (b := 1000) (by exact List.mem_cons_self) rfl (cc_cells_eq (by exact List.mem_cons_self) rfl rfl rfl) post_nil) (cv_pub rfl rfl) ?_
                  refine mvO rfl ?_
                  refine mvS rfl ?_
                  refine r_len rfl rfl rfl ?_
                  refine r_callG [(1000, 1000)] [] [(1000, Cont.cells 158 (skTys (skNext (skNext (d.ru k.1).2))))] (c_Below (skNext (d.ru k.1).2) ⟨by omega, by omega⟩ _) rfl rfl (by repeat (first | exact cv_nil | refine cv_cons ?_ ?_ | exact cv_ptr List.mem_cons_self | exact cv_pub rfl rfl)) (pre_cons (a := 1000) (b := 1000) (by exact List.mem_cons_self) rfl (cc_cells_eq (by exact List.mem_cons_self) rfl rfl rfl) pre_nil) (post_cons (a := 1000) (b := 1000) (by exact List.mem_cons_self) rfl (cc_cells_eq (by exact List.mem_cons_self) rfl rfl rfl) post_nil) (cv_pub rfl rfl) ?_
                  refine asI rfl ?_
                  refine asI rfl ?_
                  refine r_nil ?_
                  refine i_then ?_
                  refine t_seq ?_
                  refine t_region ?_
                  refine mvI rfl ?_
                  refine mvI rfl ?_
                  refine r_bin rfl rfl rfl ?_
                  refine r_nil ?_
                  refine i_then ?_
                  refine t_cond_dec rfl (fun hc11 => ?_) (fun hc11 => ?_)
                  ·
                    refine t_draw mixed rfl ?_
                    refine r_field_ptr rfl rfl rfl rfl rfl (by decide) ?_
                    refine r_load_ptr rfl rfl (by decide) rfl rfl rfl ?_
                    refine mvS rfl ?_
                    refine mvI rfl ?_
                    refine r_index_sl rfl rfl rfl rfl rfl rfl (by omega) (by omega) ?_
                    refine r_load_pp rfl rfl rfl rfl ?_
                    refine mvS rfl ?_
                    refine mvI rfl ?_
                    refine r_index_sl rfl rfl rfl rfl rfl rfl (by omega) (by omega) ?_
                    refine r_load_pp rfl rfl rfl rfl ?_
                    refine r_build rfl rfl (by exact List.cons_ne_nil _ _) rfl (by repeat (first | exact (Parts.nil : Parts _ _ [] _) | (show Parts _ _ ((_, _) :: _) _; apply Parts.one; (· exact (rfl : _ = Ty.int _ _)); (· exact rfl)))) (by exact (rfl : _ = some [_, _])) ?_
                    refine r_buildSlice (E := RulE) (xs := [⟨nth d.order.1 (skBelow (d.ru k.1).2 (d.order.1.length : Nat)).toNat, nth d.order.1 (skBelow (skNext (d.ru k.1).2) (d.order.1.length : Nat)).toNat⟩]) rfl rfl rfl rfl rfl (by decide) (by decide) (by repeat (first | exact (Parts.nil : Parts _ _ [] _) | (show Parts _ _ ((_, _) :: _) _; apply Parts.agg; (· exact (rfl : _ = Ty.agg _))))) (by exact rfl) rfl ?_
                    refine r_append rfl rfl (by decide) rfl rfl rfl rfl rfl rfl (by decide) (by (simp <;> omega)) (by (simp <;> omega)) ?_
                    refine r_field_ptr rfl rfl rfl rfl rfl (by decide) ?_
                    refine r_store1 rfl rfl (by decide) rfl rfl (by exact (rfl : _ = Ty.row _ _ _ _)) rfl (by exact Nat.le_of_ble_eq_true rfl) rfl rfl (by exact rfl) ?_
                    refine r_nil ?_
                    refine ⟨by kernel_rfl, ?_⟩
                    refine i_block ?_
                    refine i_then ?_
                    refine t_region ?_
                    refine r_add rfl rfl (by omega) (by omega) ?_
                    refine mvI rfl ?_
                    refine r_nil ?_
                    refine i_round (⟨k.1 + 1, by omega⟩) ?_ (by show d.R - (k.1 + 1) < d.R - k.1; omega)
                    (refine Ent.mk' ?_ ?_ <;> (repeat' (first | exact allSub_zero | exact allTags_nil | exact subs_nil | refine allSub_succ' ?_ (Ty.sub_any _) | refine allSub_succ' ?_ (Ty.sub_refl _) | refine allTags_cons rfl (Cont.sub_refl _) ?_ | refine allTags_cons rfl (Cont.sub_subs ?_) ?_ | refine subs_cons ?_ (Ty.sub_refl _) | refine subs_cons ?_ ?_)))
                    all_goals skip
                    all_goals first | exact Ty.sub_int (congrArg Sk.mixed (ru_sk d k.1)).symm | exact Ty.sub_int (congrArg Sk.taken (ru_sk d k.1)).symm | exact Ty.sub_sl (congrArg Sk.grain (ru_sk d k.1)).symm | exact Ty.sub_row (ru_at hc11)
                  ·
                    refine t_skip ?_
                    refine i_block ?_
                    refine i_then ?_
                    refine t_region ?_
                    refine r_add rfl rfl (by omega) (by omega) ?_
                    refine mvI rfl ?_
                    refine r_nil ?_
                    refine i_round (⟨k.1 + 1, by omega⟩) ?_ (by show d.R - (k.1 + 1) < d.R - k.1; omega)
                    (refine Ent.mk' ?_ ?_ <;> (repeat' (first | exact allSub_zero | exact allTags_nil | exact subs_nil | refine allSub_succ' ?_ (Ty.sub_any _) | refine allSub_succ' ?_ (Ty.sub_refl _) | refine allTags_cons rfl (Cont.sub_refl _) ?_ | refine allTags_cons rfl (Cont.sub_subs ?_) ?_ | refine subs_cons ?_ (Ty.sub_refl _) | refine subs_cons ?_ ?_)))
                    all_goals skip
                    all_goals first | exact Ty.sub_int (congrArg Sk.mixed (ru_sk d k.1)).symm | exact Ty.sub_int (congrArg Sk.taken (ru_sk d k.1)).symm | exact Ty.sub_sl (congrArg Sk.grain (ru_sk d k.1)).symm | exact Ty.sub_row (ru_no2 hc11)
                ·
                  refine t_exit ?_
                  refine i_then_exit ?_
                  refine i_then_exit ?_
                  refine i_block_exit rfl ?_
                  refine i_then ?_
                  refine t_seq ?_
                  have hx : ¬ (k.1 : Int) < (d.R : Nat) := hc10
                  obtain ⟨k, hx2⟩ := k
                  obtain rfl : k = d.R := by simp only at hx; omega
                  refine t_pubC (tg := 20) [] [(6, Cont.cells 27 [Ty.sl I64 (d.up d.n).1, Ty.row BinE 79 71 (d.bn d.m).bins, Ty.row TrnE 99 171 (d.tk d.T).trn, Ty.row RulE 69 206 (d.ru d.R).1])] (by decide) rfl trivial ⟨pubC_cells rfl rfl ⟨pubTy_vs rfl hun.1 (by decide), pubTy_same rfl, pubTy_same rfl, pubTy_same rfl, trivial⟩, trivial⟩ ?_
                  refine t_pubC (tg := 71) [] [(6, Cont.cells 27 [Ty.sl I64 (d.up d.n).1, Ty.sl BinE (d.bn d.m).bins, Ty.row TrnE 99 171 (d.tk d.T).trn, Ty.row RulE 69 206 (d.ru d.R).1])] (by decide) rfl trivial ⟨pubC_cells rfl rfl ⟨pubTy_same rfl, pubTy_row, pubTy_same rfl, pubTy_same rfl, trivial⟩, trivial⟩ ?_
                  refine t_pubC (tg := 171) [] [(6, Cont.cells 27 [Ty.sl I64 (d.up d.n).1, Ty.sl BinE (d.bn d.m).bins, Ty.sl TrnE (d.tk d.T).trn, Ty.row RulE 69 206 (d.ru d.R).1])] (by decide) rfl trivial ⟨pubC_cells rfl rfl ⟨pubTy_same rfl, pubTy_same rfl, pubTy_row, pubTy_same rfl, trivial⟩, trivial⟩ ?_
                  refine t_pubC (tg := 206) [] [(6, Cont.cells 27 [Ty.sl I64 (d.up d.n).1, Ty.sl BinE (d.bn d.m).bins, Ty.sl TrnE (d.tk d.T).trn, Ty.sl RulE (d.ru d.R).1])] (by decide) rfl trivial ⟨pubC_cells rfl rfl ⟨pubTy_same rfl, pubTy_same rfl, pubTy_same rfl, pubTy_row, trivial⟩, trivial⟩ ?_
                  refine t_region ?_
                  refine r_load_ptrN rfl rfl (by decide) rfl rfl (by exact Nat.le_of_ble_eq_true rfl) ?_
                  refine r_storeN rfl rfl (by decide) rfl rfl rfl rfl rfl rfl ?_
                  refine r_nil ?_
                  refine i_then ?_
                  refine t_ret ?_
                  refine g_rcell [1000] rfl rfl rfl rfl (by decide) rfl rfl rfl (by decide) (by repeat (first | exact rc_nil | refine rc_cons rfl (cc_cells_eq (by decide) rfl rfl rfl) ?_)) ?_
                  all_goals exact rg_cv (cv_pub rfl rfl)
                  skip
end Go.Proofs.Ytifgbnbkimcchaa

namespace Go.Proofs.Ytifgbnbkimcchaa
open Go Go.T
end Go.Proofs.Ytifgbnbkimcchaa

namespace Go.Proofs.Ytifgbnbkimcchaa
open Go Go.T
def over (f : Flr) (l : List Int) (t b : Nat) : Prop := nth (nth (loadsM f l) t) b > nth f.bears b
instance (f : Flr) (l : List Int) (t b : Nat) : Decidable (over f l t b) := by unfold over; infer_instance
def clr (f : Flr) (l : List Int) (t b : Nat) : Bool := decide ((∀ j, j < t → breakRow f (nth (loadsM f l) j) = none) ∧ ∀ j, j < b → ¬ over f l t j)
structure Answers (f : Flr) (l : List Int) : Prop where
  rows : rowsE f l = loadsM f l
  ord : orderE f l = 0
  mar : marE f l = marginM f l
  marl : marL f l f.bears.length = marginM f l
  brk : brkE f l = if marginM f l < 0 then 0 else 6
  brkT : brkT f l = breakT f l
  brkB : brkB f l = breakB f l
  rng : ∀ x ∈ l, 0 ≤ x ∧ x < (f.turnings.length : Int)
  len : l.length = f.turnings.length
  nodup : l.Nodup
  all : ∀ x, x ∈ l ↔ 0 ≤ x ∧ x < (f.turnings.length : Int)
end Go.Proofs.Ytifgbnbkimcchaa

namespace Go.Proofs.Ytifgbnbkimcchaa
open Go Go.T
structure SaferF (f : Flr) : Prop where
  mar : marginR f = marginsR f
  all : allowedL f (safestP f).1 = true
  marl : marL f (safestP f).1 f.bears.length = marginR f
  keep : decide (0 < ((keepR f).length : Int)) = decide (0 ≤ marginR f)
  err : decide (safeE f = 0) = decide (0 ≤ marginR f)
  err6 : decide (safeE f = 6) = !decide (0 ≤ marginR f)
  rng : ∀ x ∈ safeR f, 0 ≤ x ∧ x < (f.turnings.length : Int)
  few : (safeR f).length ≤ f.turnings.length
end Go.Proofs.Ytifgbnbkimcchaa

namespace Go.Proofs.Ytifgbnbkimcchaa
open Go Go.T
set_option maxHeartbeats 2000000
attribute [local irreducible] dInt dBool dSl dPp dPtr dAgg dTup dClo dAny dEx dStr dGd dCells dVec dVs dRow dOp nth Tri Into TOps Ctr bodyPost Exit.then Exit.inBlock Code.wp Code.wpIn dWhen dPa dPe dAo dArr dMp dPm dMap dCJ CtrG CtrI OpY keepPost iterPost bodyPostM roundQ
theorem fill_ok (g : List Int) : (skFill g).Ok 100 := by have h := skFill_ok g; unfold Sk.Ok at *; omega
theorem made_right (g : List Int) (t : Nat) (ht : t ≤ 8) : checkP (Md.flr ⟨skFill g, t⟩) = 0 := Md.right _ ht
theorem small_right {f : Flr} (hr : f.Right) : f.Small := ⟨by have := hr.ranged.bears; omega, by have := hr.ranged.bins; omega, by have := hr.ranged.turnings; omega, by have := hr.ranged.rules; omega, fun b hb => by have h1 := hr.ranged.shares b hb; have h2 := hr.ranged.bears; omega⟩
def tryS (f : Flr) (s : Sk) : Nat → Sk
  | 0 => s
  | k + 1 => (triedUp f (tryS f s k) f.turnings.length).2
def tryO (f : Flr) (s : Sk) (k : Nat) : List Int := (triedUp f (tryS f s k) f.turnings.length).1
def oneT (f : Flr) (x : Int) : Int := if 1 < f.turnings.length then (IntKind.i64.wrap x).tmod f.turnings.length else 0
def mustJ (f : Flr) (x y : Int) : Bool := if 1 < f.turnings.length then mustR f (oneT f x) (oneT f y) else false
attribute [local irreducible] tryS tryO Md.flr safeR safeE firstsR marginR keepR mustR mustV oneT mustJ safestP
end Go.Proofs.Ytifgbnbkimcchaa

namespace Go.Proofs.Ytifgbnbkimcchaa
open Go Go.T
set_option maxHeartbeats 2000000
attribute [local irreducible] dInt dBool dSl dPp dPtr dAgg dTup dClo dAny dEx dStr dGd dCells dVec dVs dRow dOp nth Tri Into TOps Ctr bodyPost Exit.then Exit.inBlock Code.wp Code.wpIn dWhen dPa dPe dAo dArr dMp dPm dMap dCJ CtrG CtrI OpY keepPost iterPost bodyPostM roundQ
attribute [local irreducible] tryS tryO Md.flr rowsE marE brkE brkT brkB orderE clr
end Go.Proofs.Ytifgbnbkimcchaa

namespace Go.T
open Go Go.RowKit
section
variable {P : Program} {fr : Fr} {ops : Array Oper} {A : As} {rest : List Oper} {K : As → List (As × Fx) → Prop} {d : Nat} {t ty' : TypeId} {p : String} {e : Array Edge} [T : Tab P]
end
section
variable {P : Program} {A : As} {fn : Func} {n : Nat} {w0 : World} {M0 : Tags} [T : Tab P]
end
section
variable {P : Program} {fr : Fr} {ops : Array Oper} {A : As} {rest : List Oper} {K : As → List (As × Fx) → Prop} {d : Nat} {t ty' : TypeId} {p : String} {e : Array Edge} [T : Tab P]
end
end Go.T

namespace Go.Proofs.Ytifgbnbkimcchaa
open Go Go.T
def noFlr : Flr := ⟨[], [], [], []⟩
def moreF (f : Flr) (r : Rul) : Flr := { f with rules := f.rules ++ [r] }
def waitP (f : Flr) (r : Rul) : Flr × Int :=
  if checkP f ≠ 0 then (noFlr, checkP f) else if (f.rules.length : Int) = 16 then (noFlr, 9) else if checkP (moreF f r) ≠ 0 then (noFlr, checkP (moreF f r)) else (moreF f r, 0)
section
variable {f : Flr} {r : Rul}
end
theorem Lead.mono {l m : List Rul} (h : ∀ r ∈ l, r ∈ m) {x y : Int} (hl : Lead l x y) : Lead m x y := by
  induction hl with
  | one hr => exact .one (h _ hr)
  | step hr _ ih => exact .step (h _ hr) ih
def befL (l : List Int) (a b : Int) : Bool := (List.range l.length).all fun i => !decide (nth l i = b) || decide (a ∈ l.take i)
def sideN (f : Flr) (a b : Int) : Nat := ((keepR f).filter fun l => befL l a b).length
end Go.Proofs.Ytifgbnbkimcchaa

namespace Go.Proofs.Ytifgbnbkimcchaa
open Go Go.T
set_option maxHeartbeats 2000000
attribute [local irreducible] dInt dBool dSl dPp dPtr dAgg dTup dClo dAny dEx dStr dGd dCells dVec dVs dRow dOp nth Tri Into TOps Ctr bodyPost Exit.then Exit.inBlock Code.wp Code.wpIn dWhen dPa dPe dAo dArr dMp dPm dMap dCJ CtrG CtrI OpY keepPost iterPost bodyPostM roundQ
end Go.Proofs.Ytifgbnbkimcchaa

namespace Go.Proofs.Ytifgbnbkimcchaa
open Go Go.T
def cntR (f : Flr) (a b : Int) : Int := if b ∈ aheadM f a then 0 else ((keepR (moreF f ⟨a, b⟩)).length : Int)
def pairR (a b : Int) : List Rul := [⟨a, b⟩, ⟨b, a⟩]
def sumC (f : Flr) (a b : Int) : Nat → Int
  | 0 => 0
  | 1 => cntR f a b
  | _ => cntR f a b + cntR f b a
structure PairF (f : Flr) (a b : Int) (k : Nat) : Prop where
  fst : 0 ≤ (nth (pairR a b) k).fst ∧ (nth (pairR a b) k).fst < f.turnings.length
  nxt : 0 ≤ (nth (pairR a b) k).nxt ∧ (nth (pairR a b) k).nxt < f.turnings.length
  ne : (nth (pairR a b) k).fst ≠ (nth (pairR a b) k).nxt
  sum : sumC f a b (k + 1) = sumC f a b k + cntR f (nth (pairR a b) k).fst (nth (pairR a b) k).nxt
end Go.Proofs.Ytifgbnbkimcchaa

namespace Go.Proofs.Ytifgbnbkimcchaa
open Go Go.T
def aheadE (f : Flr) (t : Int) : Int := openE f (!inB t 0 (f.turnings.length - 1))
def aheadR (f : Flr) (t : Int) : List Int := if aheadE f t = 0 then aheadM f t else []
theorem heavyUp_spec (b : SB) (bay : Nat) : ∀ k, k ≤ (setsP b).length → nth b.1.first bay ≤ (heavyUp b bay k).2 ∧ (∀ i, i < k → nth (loadP b (nth (setsP b) i)) bay ≤ (heavyUp b bay k).2) ∧ ((heavyUp b bay k).2 = nth b.1.first bay ∨ ∃ i, i < k ∧ (heavyUp b bay k).2 = nth (loadP b (nth (setsP b) i)) bay)
  | 0, _ => ⟨Int.le_refl _, fun i hi => by omega, .inl rfl⟩
  | k + 1, hk => by
    obtain ⟨h1, h2, h3⟩ := heavyUp_spec b bay k (by omega)
    rw [heavyUp_succ (by omega)]
    unfold heavyS
    split
    · rename_i hg
      refine ⟨by show _ ≤ nth _ bay; omega, fun i hi => ?_, .inr ⟨k, by omega, rfl⟩⟩
      show _ ≤ nth _ bay
      rcases Nat.lt_or_ge i k with hx | hx
      · have := h2 i hx; omega
      · rw [show i = k by omega]; exact Int.le_refl _
    · rename_i hg
      refine ⟨h1, fun i hi => ?_, h3.imp id fun ⟨i, hi, e⟩ => ⟨i, by omega, e⟩⟩
      rcases Nat.lt_or_ge i k with hx | hx
      · exact h2 i hx
      · rw [show i = k by omega]; omega
def heavyV (f : Flr) (bay : Nat) : Int := (heavyP (boardsOf f) bay).2
theorem heavyP_up (b : SB) (bay : Nat) : heavyP b bay = heavyUp b bay (setsP b).length := by unfold heavyP heavyUp; rw [List.take_length]
theorem mem_setsP {f : Flr} {s : Nat} : s ∈ setsP (boardsOf f) ↔ s < 2 ^ f.turnings.length ∧ wholeP (boardsOf f) s = true := by
  unfold setsP setsUp
  rw [boardsOf_f, List.mem_filter, List.mem_range, shl_pow]
theorem heavy_ge {f : Flr} (bay : Nat) {s : Nat} (hs : s < 2 ^ f.turnings.length) (hw : wholeP (boardsOf f) s = true) : nth (loadP (boardsOf f) s) bay ≤ heavyV f bay := by
  obtain ⟨i, hi, e⟩ := List.getElem_of_mem (mem_setsP.2 ⟨hs, hw⟩)
  have := (heavyUp_spec (boardsOf f) bay _ (Nat.le_refl _)).2.1 i hi
  rw [nth_lt hi, e] at this
  unfold heavyV; rw [heavyP_up]; exact this
theorem whole_zero {f : Flr} (h : checkP f = 0) : wholeP (boardsOf f) 0 = true := (rep_nil h).whole
theorem heavy_at {f : Flr} (h : checkP f = 0) (bay : Nat) : ∃ s, s < 2 ^ f.turnings.length ∧ wholeP (boardsOf f) s = true ∧ heavyV f bay = nth (loadP (boardsOf f) s) bay := by
  unfold heavyV
  rw [heavyP_up]
  rcases (heavyUp_spec (boardsOf f) bay _ (Nat.le_refl _)).2.2 with e | ⟨i, hi, e⟩
  · exact ⟨0, Nat.two_pow_pos _, whole_zero h, by rw [e, first_load]⟩
  · obtain ⟨h1, h2⟩ := mem_setsP.1 (nth_mem hi)
    exact ⟨_, h1, h2, e⟩
theorem most_in {f : Flr} (h : checkP f = 0) {b : Nat} (hb : b < f.bears.length) : mostP f b = (heavyV f b, 0) := by
  unfold mostP openE
  have e : inB (b : Int) 0 (f.bears.length - 1) = true := by unfold inB; simp; omega
  rw [if_neg (c := checkP f ≠ 0) (fun x => x h), e, if_neg (c := (!true) = true) (by decide), if_neg (fun x => x rfl)]; rfl
structure RuleF (f : Flr) (l : List Int) (a b : Int) : Prop where
  ha : 0 ≤ a ∧ a < f.turnings.length
  hb : 0 ≤ b ∧ b < f.turnings.length
  ne : a ≠ b
  wait : waitP f ⟨a, b⟩ = (moreF f ⟨a, b⟩, 0)
  right : checkP (moreF f ⟨a, b⟩) = 0
  right0 : checkM (moreF f ⟨a, b⟩) = 0
  allowed : allowedL (moreF f ⟨a, b⟩) l = true
  back : waitP (moreF f ⟨a, b⟩) ⟨b, a⟩ = (noFlr, 7)
  aE : aheadE (moreF f ⟨a, b⟩) b = 0 ∧ aheadR (moreF f ⟨a, b⟩) b = aheadM (moreF f ⟨a, b⟩) b
  aE2 : aheadE f a = 0 ∧ aheadR f a = aheadM f a
section
variable {f : Flr} {l : List Int} {a b : Int} (h : checkP f = 0) (hf : RuleF f l a b)
include h hf
end
end Go.Proofs.Ytifgbnbkimcchaa

namespace Go.Proofs.Ytifgbnbkimcchaa
open Go Go.T
def sm (n : Nat) (g : Nat → Int) : Int := ((List.range n).map g).sum
theorem sm_zero (g : Nat → Int) : sm 0 g = 0 := rfl
theorem sm_succ (n : Nat) (g : Nat → Int) : sm (n + 1) g = sm n g + g n := by unfold sm; exact sum_range_succ n g
theorem sm_congr {g h : Nat → Int} : ∀ n, (∀ i, i < n → g i = h i) → sm n g = sm n h
  | 0, _ => rfl
  | n + 1, e => by rw [sm_succ, sm_succ, sm_congr n fun i hi => e i (by omega), e n (by omega)]
theorem sm_le {g h : Nat → Int} : ∀ n, (∀ i, i < n → g i ≤ h i) → sm n g ≤ sm n h
  | 0, _ => Int.le_refl _
  | n + 1, e => by
    have h1 := sm_le n fun i hi => e i (by omega)
    have h2 := e n (by omega)
    rw [sm_succ, sm_succ]; omega
theorem sm_add (g h : Nat → Int) : ∀ n, sm n (fun i => g i + h i) = sm n g + sm n h
  | 0 => rfl
  | n + 1 => by rw [sm_succ, sm_succ, sm_succ, sm_add g h n]; omega
theorem sm_sub (g h : Nat → Int) : ∀ n, sm n (fun i => g i - h i) = sm n g - sm n h
  | 0 => rfl
  | n + 1 => by rw [sm_succ, sm_succ, sm_succ, sm_sub g h n]; omega
theorem sm_none {g : Nat → Int} (n : Nat) (h : ∀ i, i < n → g i = 0) : sm n g = 0 := by
  rw [sm_congr (h := fun _ => 0) n h]
  induction n with
  | zero => rfl
  | succ n ih => rw [sm_succ, ih fun i hi => h i (by omega)]; rfl
theorem sm_nonneg {g : Nat → Int} (n : Nat) (h : ∀ i, i < n → 0 ≤ g i) : 0 ≤ sm n g := by
  have := sm_le (g := fun _ => 0) n h
  rwa [sm_none n fun _ _ => rfl] at this
theorem sm_one (m : Int) {n x : Nat} (h : x < n) : sm n (fun i => if x = i then m else 0) = m := by
  induction n with
  | zero => omega
  | succ n ih =>
    rw [sm_succ]
    by_cases e : x = n
    · rw [if_pos e, sm_none n fun i hi => if_neg (by omega)]; omega
    · rw [if_neg e, ih (by omega)]; omega
theorem sm_swap (g : Nat → Nat → Int) : ∀ n m, sm n (fun i => sm m fun j => g i j) = sm m fun j => sm n fun i => g i j
  | 0, m => by rw [sm_zero]; exact (sm_none m fun _ _ => rfl).symm
  | n + 1, m => by
    rw [sm_succ, sm_swap g n m, ← sm_add]
    exact sm_congr m fun j _ => (sm_succ n _).symm
theorem sm_ge {g : Nat → Int} {n i : Nat} (hi : i < n) (h : ∀ j, j < n → 0 ≤ g j) : g i ≤ sm n g := by
  have := sm_le (g := fun j => if i = j then g i else 0) (h := g) n fun j hj => by
    by_cases e : i = j
    · rw [if_pos e, e]; exact Int.le_refl _
    · rw [if_neg e]; exact h j hj
  rwa [sm_one _ hi] at this
theorem load_bits {f : Flr} (h : checkP f = 0) (s : Nat) (hs : s < 2 ^ f.turnings.length) {bay : Nat} (hb : bay < f.bears.length) : nth (loadP (boardsOf f) s) bay = nth (boardsOf f).1.first bay + sm f.turnings.length fun t => if s.testBit t = true then addB (boardsOf f) bay t else 0 := by
  have hr := check_right h
  have hb4 := hr.ranged.bears
  have h8 := hr.ranged.turnings
  unfold loadP
  rw [nth_map_range _ (by omega), loadAt_bits]
  congr 1
  show sm 8 _ = _
  obtain ⟨d, hd⟩ : ∃ d, 8 = f.turnings.length + d := ⟨8 - f.turnings.length, by omega⟩
  rw [hd]
  clear hd
  induction d with
  | zero => rfl
  | succ d ih =>
    rw [show f.turnings.length + (d + 1) = (f.turnings.length + d) + 1 by omega, sm_succ, ih, if_neg (fun hx => by have := testBit_lt hs hx; omega)]; omega
theorem sum_paid_if (pays : List Pay) (q : Nat → Bool) (n : Nat) (hq : ∀ p ∈ pays, 0 ≤ p.src ∧ p.src < n) : sm n (fun t => if q t = true then paidBy pays t else 0) = (pays.map fun p => if q p.src.toNat = true then p.much else 0).sum := by
  induction pays with
  | nil => exact sm_none n fun i _ => by simp [paidBy]
  | cons p l ih =>
    have hp := hq p List.mem_cons_self
    rw [List.map_cons, List.sum_cons, ← ih fun q hq' => hq q (List.mem_cons_of_mem _ hq')]
    have e : sm n (fun t => if q t = true then paidBy (p :: l) t else 0) = sm n fun t => (if p.src.toNat = t then (if q p.src.toNat = true then p.much else 0) else 0) + if q t = true then paidBy l t else 0 := sm_congr n fun t _ => by
      rw [paidBy_cons]
      by_cases hx : p.src.toNat = t
      · have hx2 : p.src = (t : Int) := by omega
        rw [if_pos hx2, if_pos hx, hx]
        split <;> simp
      · have hx2 : ¬ p.src = (t : Int) := by omega
        rw [if_neg hx2, if_neg hx]
        split <;> simp
    rw [e, sm_add, sm_one _ (by omega)]
theorem sum_given_if (pays : List Pay) (q : Nat → Bool) (n : Nat) (hq : ∀ p ∈ pays, 0 ≤ p.dst ∧ p.dst < n) : sm n (fun t => if q t = true then paidTo pays t else 0) = (pays.map fun p => if q p.dst.toNat = true then p.much else 0).sum := by
  induction pays with
  | nil => exact sm_none n fun i _ => by simp [paidTo]
  | cons p l ih =>
    have hp := hq p List.mem_cons_self
    rw [List.map_cons, List.sum_cons, ← ih fun q hq' => hq q (List.mem_cons_of_mem _ hq')]
    have e : sm n (fun t => if q t = true then paidTo (p :: l) t else 0) = sm n fun t => (if p.dst.toNat = t then (if q p.dst.toNat = true then p.much else 0) else 0) + if q t = true then paidTo l t else 0 := sm_congr n fun t _ => by
      rw [paidTo_cons]
      by_cases hx : p.dst.toNat = t
      · have hx2 : p.dst = (t : Int) := by omega
        rw [if_pos hx2, if_pos hx, hx]
        split <;> simp
      · have hx2 : ¬ p.dst = (t : Int) := by omega
        rw [if_neg hx2, if_neg hx]
        split <;> simp
    rw [e, sm_add, sm_one _ (by omega)]
theorem map_sum_le {α : Type} {g h : α → Int} : ∀ l : List α, (∀ x ∈ l, g x ≤ h x) → (l.map g).sum ≤ (l.map h).sum
  | [], _ => Int.le_refl _
  | x :: l, e => by
    have h1 := e x List.mem_cons_self
    have h2 := map_sum_le l fun y hy => e y (List.mem_cons_of_mem _ hy)
    rw [List.map_cons, List.map_cons, List.sum_cons, List.sum_cons]; omega
def boundOf (f : Flr) (bay : Nat) (pays : List Pay) : Int := nth (boardsOf f).1.first bay + (sm f.turnings.length fun t => max 0 (addB (boardsOf f) bay t)) - total pays
structure Holds (f : Flr) (bay : Nat) (pays : List Pay) : Prop where
  pos : Pos pays
  src : ∀ p ∈ pays, 0 ≤ p.src ∧ p.src < f.turnings.length
  dst : ∀ p ∈ pays, 0 ≤ p.dst ∧ p.dst < f.turnings.length
  lead : ∀ p ∈ pays, Lead f.rules p.dst p.src
  fits : ∀ t : Nat, t < f.turnings.length → paidBy pays t ≤ max 0 (addB (boardsOf f) bay t) ∧ paidTo pays t ≤ max 0 (-(addB (boardsOf f) bay t))
theorem weak {f : Flr} (h : checkP f = 0) {bay : Nat} (hb : bay < f.bears.length) {pays : List Pay} (hh : Holds f bay pays) {s : Nat} (hs : s < 2 ^ f.turnings.length) (hw : wholeP (boardsOf f) s = true) : nth (loadP (boardsOf f) s) bay ≤ boundOf f bay pays := by
  rw [load_bits h s hs hb]
  unfold boundOf
  have h1 := sum_paid_if pays s.testBit f.turnings.length hh.src
  have h2 := sum_given_if pays s.testBit f.turnings.length hh.dst
  have h3 : (pays.map fun p => if s.testBit p.src.toNat = true then p.much else 0).sum ≤ (pays.map fun p => if s.testBit p.dst.toNat = true then p.much else 0).sum := map_sum_le _ fun p hp => by
    have hl := hh.lead p hp
    have hs1 := hh.src p hp
    have hd1 := hh.dst p hp
    have hm := hh.pos p hp
    by_cases hx : s.testBit p.src.toNat = true
    · have := (whole_iff h hs).1 hw p.src.toNat p.dst.toNat hx (by rw [Int.toNat_of_nonneg hs1.1, Int.toNat_of_nonneg hd1.1]; exact hl)
      rw [if_pos hx, if_pos this]; exact Int.le_refl _
    · rw [if_neg hx]; split <;> omega
  have h4 : total pays = sm f.turnings.length fun t => paidBy pays t := (paid_total hh.src).symm
  have key : sm f.turnings.length (fun t => if s.testBit t = true then addB (boardsOf f) bay t else 0) ≤ sm f.turnings.length fun t => ((max 0 (addB (boardsOf f) bay t) - paidBy pays t) + (if s.testBit t = true then paidBy pays t else 0)) - (if s.testBit t = true then paidTo pays t else 0) := sm_le _ fun t ht => by
    have hf := hh.fits t ht
    have hp := paidBy_nonneg hh.pos (t : Int)
    split
    · omega
    · omega
  rw [sm_sub, sm_add, sm_sub, h1, h2] at key
  rw [h4]; omega
theorem weak_most {f : Flr} (h : checkP f = 0) {bay : Nat} (hb : bay < f.bears.length) {pays : List Pay} (hh : Holds f bay pays) : heavyV f bay ≤ boundOf f bay pays := by
  obtain ⟨s, hs, hw, e⟩ := heavy_at h bay
  rw [e]; exact weak h hb hh hs hw
end Go.Proofs.Ytifgbnbkimcchaa

namespace Go.Proofs.Ytifgbnbkimcchaa
open Go Go.T
structure Led where
  w : SB
  bay : Nat
  paid : List Int
def Led.P (l : Led) (o t : Nat) : Int := nth l.paid (o * 8 + t)
def Led.add (l : Led) (t : Nat) : Int := addB l.w l.bay t
def Led.T (l : Led) : Nat := l.w.1.f.turnings.length
def leftUp (l : Led) (t k : Nat) : Int := -(l.add t) - sm k fun o => l.P o t
def leftM (l : Led) (t : Nat) : Int := leftUp l t 8
def tosOf (l : Led) (f : Nat) : List Int := membersM (nth l.w.1.before f)
def othersM (rec : Nat → List Bool → List Int × List Bool) (l : Led) (f t : Nat) : List Nat → List Bool → List Int × List Bool
  | [], m => ([], m)
  | o :: r, m => if (decide (o = f) || decide (l.P o t = 0)) = true then othersM rec l f t r m else if (rec o m).1 = [] then othersM rec l f t r (rec o m).2 else rec o m
def tosM (rec : Nat → List Bool → List Int × List Bool) (l : Led) (f : Nat) : List Int → List Bool → List Int × List Bool
  | [], m => ([], m)
  | t :: r, m => if (decide (0 ≤ l.add t.toNat) || nth m t.toNat) = true then tosM rec l f r m else if 0 < leftM l t.toNat then ([(f : Int), t], m.set t.toNat true)
    else if (othersM rec l f t.toNat (List.range l.T) (m.set t.toNat true)).1 = [] then tosM rec l f r (othersM rec l f t.toNat (List.range l.T) (m.set t.toNat true)).2
    else ((f : Int) :: t :: (othersM rec l f t.toNat (List.range l.T) (m.set t.toNat true)).1, (othersM rec l f t.toNat (List.range l.T) (m.set t.toNat true)).2)
def wayM (l : Led) : Nat → Nat → List Bool → List Int × List Bool
  | 0, _, m => ([], m)
  | k + 1, f, m => tosM (wayM l k) l f (tosOf l f) m
def findM (l : Led) (f : Nat) : List Int := (wayM l 9 f (List.replicate 8 false)).1
def MSub (m m' : List Bool) : Prop := ∀ c, c < 8 → nth m c = true → nth m' c = true
def unm (m : List Bool) : Nat := ((List.range 8).filter fun c => !nth m c).length
theorem MSub.refl (m : List Bool) : MSub m m := fun _ _ h => h
theorem MSub.trans {a b c : List Bool} (h : MSub a b) (h' : MSub b c) : MSub a c := fun i hi hx => h' i hi (h i hi hx)
theorem unm_le {m m' : List Bool} (h : MSub m m') : unm m' ≤ unm m := by
  unfold unm
  have : ∀ l : List Nat, (∀ c ∈ l, c < 8) → (l.filter fun c => !nth m' c).length ≤ (l.filter fun c => !nth m c).length := by
    intro l
    induction l with
    | nil => intro _; exact Nat.le_refl _
    | cons x l ih =>
      intro hl
      have ih := ih fun c hc => hl c (List.mem_cons_of_mem _ hc)
      have hx := h x (hl x List.mem_cons_self)
      cases h1 : nth m x with
      | true =>
        rw [List.filter_cons_of_neg (by rw [hx h1]; decide), List.filter_cons_of_neg (by rw [h1]; decide)]; exact ih
      | false => cases h2 : nth m' x <;> simp [h1, h2] <;> omega
  exact this _ fun c hc => List.mem_range.1 hc
theorem nth_set_bool {l : List Bool} {i : Nat} (v : Bool) (j : Nat) : nth (l.set i v) j = if i = j ∧ i < l.length then v else nth l j := by
  unfold nth
  rw [List.getD_eq_getElem?_getD, List.getD_eq_getElem?_getD, List.getElem?_set]
  by_cases e : i = j
  · subst e
    by_cases h : i < l.length
    · rw [if_pos rfl, if_pos h, if_pos ⟨rfl, h⟩]; rfl
    · rw [if_pos rfl, if_neg h, if_neg (fun x => h x.2), List.getElem?_eq_none (by omega)]
  · rw [if_neg e, if_neg (fun x => e x.1)]
theorem set_sub {m : List Bool} (hm : m.length = 8) {t : Nat} (ht : t < 8) : MSub m (m.set t true) ∧ nth (m.set t true) t = true := by
  refine ⟨fun c _ hx => ?_, ?_⟩
  · rw [nth_set_bool]; split
    · rfl
    · exact hx
  · rw [nth_set_bool, if_pos ⟨rfl, by omega⟩]
theorem unm_lt {m : List Bool} (hm : m.length = 8) {t : Nat} (ht : t < 8) (hf : nth m t = false) : unm (m.set t true) < unm m := by
  unfold unm
  refine filter_less (a := t) (fun c hc hx => ?_) (List.mem_range.2 ht) (by rw [hf]; rfl) (by rw [(set_sub hm ht).2]; rfl)
  have h1 := (set_sub hm ht).1 c (List.mem_range.1 hc)
  cases h2 : nth m c with
  | false => rfl
  | true => rw [h1 h2] at hx; cases hx
theorem unm_start : unm (List.replicate 8 false) = 8 := by decide
def TosIn (l : Led) (o : Nat) (m : List Bool) : Prop := ∀ t ∈ tosOf l o, l.add t.toNat < 0 → nth m t.toNat = true
theorem TosIn.mono {l : Led} {o : Nat} {m m' : List Bool} (h : TosIn l o m) (hs : MSub m m') : TosIn l o m' := fun t ht ha => by
  obtain ⟨i, hi, _, e⟩ := mem_members.1 ht
  exact hs _ (by omega) (h t ht ha)
inductive Way (l : Led) : List Bool → Nat → List Int → Prop
  | last {m : List Bool} {f : Nat} {t : Int} : t ∈ tosOf l f → l.add t.toNat < 0 → nth m t.toNat = false → 0 < leftM l t.toNat → Way l m f [(f : Int), t]
  | step {m m' : List Bool} {f o : Nat} {t : Int} {r : List Int} : t ∈ tosOf l f → l.add t.toNat < 0 → nth m t.toNat = false → o ≠ f → o < l.T → l.P o t.toNat ≠ 0 → MSub m m' → nth m' t.toNat = true → Way l m' o r → Way l m f ((f : Int) :: t :: r)
structure OSpec (l : Led) (f t : Nat) (L : List Nat) (m : List Bool) (x : List Int × List Bool) : Prop where
  len : x.2.length = 8
  sub : MSub m x.2
  yes : x.1 ≠ [] → ∃ o ∈ L, o ≠ f ∧ l.P o t ≠ 0 ∧ ∃ m', MSub m m' ∧ Way l m' o x.1
  no : x.1 = [] → (∀ o ∈ L, o ≠ f → l.P o t ≠ 0 → TosIn l o x.2) ∧ ∀ c, c < 8 → nth m c = false → nth x.2 c = true → leftM l c ≤ 0 ∧ ∀ o, o < l.T → l.P o c ≠ 0 → TosIn l o x.2
structure WSpec (l : Led) (m : List Bool) (f : Nat) (x : List Int × List Bool) : Prop where
  len : x.2.length = 8
  sub : MSub m x.2
  yes : x.1 ≠ [] → Way l m f x.1
  no : x.1 = [] → TosIn l f x.2 ∧ ∀ c, c < 8 → nth m c = false → nth x.2 c = true → leftM l c ≤ 0 ∧ ∀ o, o < l.T → l.P o c ≠ 0 → TosIn l o x.2
theorem others_spec {l : Led} {k f t : Nat} {rec : Nat → List Bool → List Int × List Bool} (hrec : ∀ o m, m.length = 8 → unm m < k → WSpec l m o (rec o m)) : ∀ (L : List Nat) (m : List Bool), m.length = 8 → unm m < k → OSpec l f t L m (othersM rec l f t L m)
  | [], m, hm, _ => ⟨hm, MSub.refl m, fun h => absurd rfl h, fun _ => ⟨fun o ho => (by cases ho), fun c _ h1 h2 => by rw [show (othersM rec l f t [] m).2 = m from rfl, h1] at h2; cases h2⟩⟩
  | o :: r, m, hm, hk => by
    rw [othersM]
    by_cases hc : (decide (o = f) || decide (l.P o t = 0)) = true
    · rw [if_pos hc]
      have ih := others_spec hrec (f := f) (t := t) r m hm hk
      refine ⟨ih.len, ih.sub, fun h => let ⟨q, hq, hx⟩ := ih.yes h; ⟨q, List.mem_cons_of_mem _ hq, hx⟩, fun h => ⟨fun q hq h1 h2 => ?_, (ih.no h).2⟩⟩
      rcases List.mem_cons.1 hq with rfl | hq
      · simp only [Bool.or_eq_true, decide_eq_true_eq] at hc
        rcases hc with hc | hc
        · exact absurd hc h1
        · exact absurd hc h2
      · exact (ih.no h).1 q hq h1 h2
    · rw [if_neg hc]
      have hw := hrec o m hm hk
      simp only [Bool.or_eq_true, decide_eq_true_eq, not_or] at hc
      by_cases he : (rec o m).1 = []
      · rw [if_pos he]
        have ih := others_spec hrec (f := f) (t := t) r (rec o m).2 hw.len (Nat.lt_of_le_of_lt (unm_le hw.sub) hk)
        obtain ⟨w1, w2⟩ := hw.no he
        refine ⟨ih.len, hw.sub.trans ih.sub, fun h => let ⟨q, hq, h1, h2, m', h3, h4⟩ := ih.yes h; ⟨q, List.mem_cons_of_mem _ hq, h1, h2, m', hw.sub.trans h3, h4⟩, fun h => ⟨fun q hq h1 h2 => ?_, fun c hc8 h1 h2 => ?_⟩⟩
        · rcases List.mem_cons.1 hq with rfl | hq
          · exact w1.mono ih.sub
          · exact (ih.no h).1 q hq h1 h2
        · cases hx : nth (rec o m).2 c with
          | false => exact (ih.no h).2 c hc8 hx h2
          | true =>
            obtain ⟨a1, a2⟩ := w2 c hc8 h1 hx
            exact ⟨a1, fun q hq hp => (a2 q hq hp).mono ih.sub⟩
      · rw [if_neg he]
        exact ⟨hw.len, hw.sub, fun _ => ⟨o, List.mem_cons_self, hc.1, hc.2, m, MSub.refl m, hw.yes he⟩, fun h => absurd h he⟩
structure TSpec (l : Led) (f : Nat) (L : List Int) (m : List Bool) (x : List Int × List Bool) : Prop where
  len : x.2.length = 8
  sub : MSub m x.2
  yes : x.1 ≠ [] → Way l m f x.1
  no : x.1 = [] → (∀ t ∈ L, l.add t.toNat < 0 → nth x.2 t.toNat = true) ∧ ∀ c, c < 8 → nth m c = false → nth x.2 c = true → leftM l c ≤ 0 ∧ ∀ o, o < l.T → l.P o c ≠ 0 → o = f ∨ TosIn l o x.2
theorem Way.weaken {l : Led} {m m' : List Bool} {f : Nat} {p : List Int} (hs : MSub m m') (h : Way l m' f p) : Way l m f p := by
  have fls : ∀ {t : Int}, t ∈ tosOf l f → nth m' t.toNat = false → nth m t.toNat = false := fun ht hx => by
    obtain ⟨i, hi, _, e⟩ := mem_members.1 ht
    cases hm : nth m _ with
    | false => rfl
    | true => rw [hs _ (by omega) hm] at hx; cases hx
  cases h with
  | last h1 h2 h3 h4 => exact .last h1 h2 (fls h1 h3) h4
  | step h1 h2 h3 h4 h5 h6 h7 h8 h9 => exact .step h1 h2 (fls h1 h3) h4 h5 h6 (hs.trans h7) h8 h9
theorem tos_spec {l : Led} {k f : Nat} {rec : Nat → List Bool → List Int × List Bool} (hrec : ∀ o m, m.length = 8 → unm m < k → WSpec l m o (rec o m)) : ∀ (L : List Int) (m : List Bool), (∀ t ∈ L, t ∈ tosOf l f) → m.length = 8 → unm m < k + 1 → TSpec l f L m (tosM rec l f L m)
  | [], m, _, hm, _ => ⟨hm, MSub.refl m, fun h => absurd rfl h, fun _ => ⟨fun t ht => (by cases ht), fun c _ h1 h2 => by rw [show (tosM rec l f [] m).2 = m from rfl, h1] at h2; cases h2⟩⟩
  | t :: r, m, hL, hm, hk => by
    have htm := hL t List.mem_cons_self
    have hLr : ∀ t ∈ r, t ∈ tosOf l f := fun q hq => hL q (List.mem_cons_of_mem _ hq)
    obtain ⟨i, hi, _, ei⟩ := mem_members.1 htm
    have ht8 : t.toNat < 8 := by omega
    rw [tosM]
    by_cases hc : (decide (0 ≤ l.add t.toNat) || nth m t.toNat) = true
    · rw [if_pos hc]
      have ih := tos_spec hrec r m hLr hm hk
      refine ⟨ih.len, ih.sub, ih.yes, fun h => ⟨fun q hq ha => ?_, (ih.no h).2⟩⟩
      rcases List.mem_cons.1 hq with rfl | hq
      · simp only [Bool.or_eq_true, decide_eq_true_eq] at hc
        rcases hc with hc | hc
        · omega
        · exact ih.sub _ ht8 hc
      · exact (ih.no h).1 q hq ha
    · rw [if_neg hc]
      simp only [Bool.or_eq_true, decide_eq_true_eq, not_or, Bool.not_eq_true] at hc
      obtain ⟨hc1, hc2⟩ := hc
      have hss := set_sub hm ht8
      have hlt := unm_lt hm ht8 hc2
      by_cases hl : 0 < leftM l t.toNat
      · rw [if_pos hl]
        exact ⟨by simp [hm], hss.1, fun _ => .last htm (by omega) hc2 hl, fun h => by cases h⟩
      · rw [if_neg hl]
        have ho := others_spec (f := f) (t := t.toNat) hrec (List.range l.T) (m.set t.toNat true) (by simp [hm]) (by omega)
        by_cases he : (othersM rec l f t.toNat (List.range l.T) (m.set t.toNat true)).1 = []
        · rw [if_pos he]
          have hsub := hss.1.trans ho.sub
          have ih := tos_spec hrec r (othersM rec l f t.toNat (List.range l.T) (m.set t.toNat true)).2 hLr ho.len (Nat.lt_of_le_of_lt (unm_le hsub) hk)
          obtain ⟨o1, o2⟩ := ho.no he
          refine ⟨ih.len, hsub.trans ih.sub, fun h => (ih.yes h).weaken hsub, fun h => ⟨fun q hq ha => ?_, fun c hc8 h1 h2 => ?_⟩⟩
          · rcases List.mem_cons.1 hq with rfl | hq
            · exact ih.sub _ ht8 (ho.sub _ ht8 hss.2)
            · exact (ih.no h).1 q hq ha
          · by_cases hct : c = t.toNat
            · subst hct
              refine ⟨by omega, fun o hoT hp => ?_⟩
              by_cases hof : o = f
              · exact .inl hof
              · exact .inr ((o1 o (List.mem_range.2 hoT) hof hp).mono ih.sub)
            · cases hx : nth (othersM rec l f t.toNat (List.range l.T) (m.set t.toNat true)).2 c with
              | false => exact (ih.no h).2 c hc8 hx h2
              | true =>
                have hs : nth (m.set t.toNat true) c = false := by rw [nth_set_bool, if_neg (fun e => hct e.1.symm)]; exact h1
                obtain ⟨a1, a2⟩ := o2 c hc8 hs hx
                exact ⟨a1, fun o ho hp => .inr ((a2 o ho hp).mono ih.sub)⟩
        · rw [if_neg he]
          obtain ⟨o, hoL, h1, h2, m', h3, h4⟩ := ho.yes he
          exact ⟨ho.len, hss.1.trans ho.sub, fun _ => .step htm (by omega) hc2 h1 (List.mem_range.1 hoL) h2 (hss.1.trans h3) (h3 _ ht8 hss.2) h4, fun h => by cases h⟩
theorem way_spec (l : Led) : ∀ (k f : Nat) (m : List Bool), m.length = 8 → unm m < k → WSpec l m f (wayM l k f m)
  | 0, _, _, _, h => by omega
  | k + 1, f, m, hm, hk => by
    have h := tos_spec (f := f) (way_spec l k) (tosOf l f) m (fun _ h => h) hm hk
    rw [wayM]
    refine ⟨h.len, h.sub, h.yes, fun he => ?_⟩
    obtain ⟨h1, h2⟩ := h.no he
    refine ⟨h1, fun c hc h3 h4 => ?_⟩
    obtain ⟨a1, a2⟩ := h2 c hc h3 h4
    refine ⟨a1, fun o ho hp => ?_⟩
    rcases a2 o ho hp with rfl | a
    · exact h1
    · exact a
theorem find_way {l : Led} {f : Nat} (h : findM l f ≠ []) : Way l (List.replicate 8 false) f (findM l f) :=
  (way_spec l 9 f _ (by simp) (by rw [unm_start]; omega)).yes h
def Closed (l : Led) (X : Nat → Prop) : Prop := ∀ x, X x → ∀ t ∈ tosOf l x, l.add t.toNat < 0 → leftM l t.toNat ≤ 0 ∧ ∀ o, o < l.T → l.P o t.toNat ≠ 0 → X o
theorem find_none {l : Led} {f : Nat} (h : findM l f = []) : ∃ X, Closed l X ∧ X f := by
  have hs := (way_spec l 9 f (List.replicate 8 false) (by simp) (by rw [unm_start]; omega)).no h
  refine ⟨fun x => TosIn l x (wayM l 9 f (List.replicate 8 false)).2, fun x hx t ht ha => ?_, hs.1⟩
  obtain ⟨i, hi, _, e⟩ := mem_members.1 ht
  have h8 : t.toNat < 8 := by omega
  have hf : nth (List.replicate 8 false) t.toNat = false := by rw [nth_lt (by simpa using h8)]; exact List.getElem_replicate _
  exact hs.2 t.toNat h8 hf (hx t ht ha)
end Go.Proofs.Ytifgbnbkimcchaa

namespace Go.Proofs.Ytifgbnbkimcchaa
open Go Go.T
def wF (p : List Int) (j : Nat) : Nat := (nth p (2 * j)).toNat
def wT (p : List Int) (j : Nat) : Nat := (nth p (2 * j + 1)).toNat
structure WayF (l : Led) (f : Nat) (p : List Int) (K : Nat) : Prop where
  len : p.length = 2 * K
  one : 1 ≤ K
  first : wF p 0 = f
  nat : ∀ j, j < K → nth p (2 * j) = (wF p j : Int)
  tos : ∀ j, j < K → nth p (2 * j + 1) ∈ tosOf l (wF p j) ∧ l.add (wT p j) < 0
  step : ∀ j, j + 1 < K → wF p (j + 1) < l.T ∧ l.P (wF p (j + 1)) (wT p j) ≠ 0 ∧ wF p (j + 1) ≠ wF p j
  last : 0 < leftM l (wT p (K - 1))
  dist : ∀ i j, i < j → j < K → wT p i ≠ wT p j
theorem way_facts {l : Led} {m : List Bool} {f : Nat} {p : List Int} (h : Way l m f p) : ∃ K, WayF l f p K ∧ ∀ j, j < K → nth m (wT p j) = false := by
  induction h with
  | @last m f t h1 h2 h3 h4 =>
    refine ⟨1, ⟨rfl, Nat.le_refl _, Int.toNat_natCast _, fun j hj => ?_, fun j hj => ?_, fun j hj => by omega, h4, fun i j hi hj => by omega⟩, fun j hj => ?_⟩
    · obtain rfl : j = 0 := by omega
      show (f : Int) = ((f : Int).toNat : Int); omega
    · obtain rfl : j = 0 := by omega
      exact ⟨h1, h2⟩
    · obtain rfl : j = 0 := by omega
      exact h3
  | @step m m' f o t r h1 h2 h3 h4 h5 h6 h7 h8 _ ih =>
    obtain ⟨K, hw, hm⟩ := ih
    obtain ⟨i, hi, _, ei⟩ := mem_members.1 h1
    have ht8 : t.toNat < 8 := by omega
    have hT8 : ∀ j, j < K → wT r j < 8 := fun j hj => by
      obtain ⟨q, hq, _, e⟩ := mem_members.1 (hw.tos j hj).1
      unfold wT; omega
    refine ⟨K + 1, ⟨by simp [hw.len]; omega, by omega, Int.toNat_natCast _, fun j hj => ?_, fun j hj => ?_, fun j hj => ?_, ?_, fun i j hij hj => ?_⟩, fun j hj => ?_⟩
    · cases j with
      | zero => show (f : Int) = ((f : Int).toNat : Int); omega
      | succ j => exact hw.nat j (by omega)
    · cases j with
      | zero => exact ⟨h1, h2⟩
      | succ j => exact hw.tos j (by omega)
    · cases j with
      | zero =>
        have e : wF ((f : Int) :: t :: r) 1 = o := hw.first
        have e0 : wF ((f : Int) :: t :: r) 0 = f := Int.toNat_natCast _
        show wF ((f : Int) :: t :: r) 1 < l.T ∧ l.P (wF ((f : Int) :: t :: r) 1) t.toNat ≠ 0 ∧ wF ((f : Int) :: t :: r) 1 ≠ wF ((f : Int) :: t :: r) 0
        rw [e, e0]; exact ⟨h5, h6, h4⟩
      | succ j => exact hw.step j (by omega)
    · have := hw.last
      have h1 := hw.one
      obtain ⟨q, rfl⟩ : ∃ q, K = q + 1 := ⟨K - 1, by omega⟩
      exact this
    · cases j with
      | zero => omega
      | succ j =>
        cases i with
        | zero =>
          intro e
          have hx := hm j (by omega)
          have e' : t.toNat = wT r j := e
          rw [← e', h8] at hx; cases hx
        | succ i => exact hw.dist i j (by omega) (by omega)
    · cases j with
      | zero => exact h3
      | succ j =>
        have hx := hm j (by omega)
        show nth m (wT r j) = false
        cases hc : nth m (wT r j) with
        | false => rfl
        | true => rw [h7 _ (hT8 j (by omega)) hc] at hx; cases hx
def addP (l : Led) (o t : Nat) (m : Int) : Led := { l with paid := l.paid.set (o * 8 + t) (l.P o t + m) }
theorem P_addP {l : Led} (hl : l.paid.length = 64) {o t o' t' : Nat} (ho : o < 8) (ht : t < 8) (ht' : t' < 8) (m : Int) : (addP l o t m).P o' t' = l.P o' t' + if o = o' ∧ t = t' then m else 0 := by
  unfold addP Led.P
  show nth (l.paid.set _ _) _ = _
  rw [nth_set_int]
  by_cases e : o = o' ∧ t = t'
  · obtain ⟨rfl, rfl⟩ := e
    rw [if_pos ⟨rfl, by omega⟩, if_pos ⟨rfl, rfl⟩]
  · rw [if_neg (fun x => e (by omega)), if_neg e, Int.add_zero]
def augUp (l : Led) (p : List Int) (m : Int) : Nat → Led
  | 0 => l
  | k + 1 => if 0 < k then addP (addP (augUp l p m k) (wF p k) (wT p k) m) (wF p k) (wT p (k - 1)) (-m) else addP (augUp l p m k) (wF p k) (wT p k) m
theorem aug_same (l : Led) (p : List Int) (m : Int) : ∀ k, (augUp l p m k).w = l.w ∧ (augUp l p m k).bay = l.bay ∧ (augUp l p m k).paid.length = l.paid.length
  | 0 => ⟨rfl, rfl, rfl⟩
  | k + 1 => by
    obtain ⟨h1, h2, h3⟩ := aug_same l p m k
    rw [augUp]
    split
    · exact ⟨h1, h2, by show (List.set (List.set _ _ _) _ _).length = _; rw [List.length_set, List.length_set, h3]⟩
    · exact ⟨h1, h2, by show (List.set _ _ _).length = _; rw [List.length_set, h3]⟩
def ups (p : List Int) (m : Int) (o t j : Nat) : Int := if wF p j = o ∧ wT p j = t then m else 0
def downs (p : List Int) (m : Int) (o t j : Nat) : Int := if 0 < j ∧ wF p j = o ∧ wT p (j - 1) = t then m else 0
theorem aug_P {l : Led} (hl : l.paid.length = 64) {p : List Int} {K : Nat} (hF : ∀ j, j < K → wF p j < 8) (hT : ∀ j, j < K → wT p j < 8) (m : Int) {o t : Nat} (ht : t < 8) : ∀ k, k ≤ K → (augUp l p m k).P o t = l.P o t + sm k (ups p m o t) - sm k (downs p m o t)
  | 0, _ => by rw [sm_zero, sm_zero]; show l.P o t = _; omega
  | k + 1, hk => by
    have ih := aug_P hl hF hT m (o := o) ht k (by omega)
    have hlk : (augUp l p m k).paid.length = 64 := (aug_same l p m k).2.2.trans hl
    have hlk2 : (addP (augUp l p m k) (wF p k) (wT p k) m).paid.length = 64 := by show (List.set _ _ _).length = 64; rw [List.length_set]; exact hlk
    rw [augUp, sm_succ, sm_succ]
    split
    · rename_i h0
      rw [P_addP hlk2 (hF k (by omega)) (hT (k - 1) (by omega)) ht, P_addP hlk (hF k (by omega)) (hT k (by omega)) ht, ih]
      unfold ups downs
      have e : (0 < k ∧ wF p k = o ∧ wT p (k - 1) = t) ↔ (wF p k = o ∧ wT p (k - 1) = t) := ⟨fun h => h.2, fun h => ⟨h0, h⟩⟩
      by_cases c1 : wF p k = o ∧ wT p k = t
      · by_cases c2 : wF p k = o ∧ wT p (k - 1) = t
        · rw [if_pos c1, if_pos c2, if_pos (e.2 c2)]; omega
        · rw [if_pos c1, if_neg c2, if_neg (fun x => c2 (e.1 x))]; omega
      · by_cases c2 : wF p k = o ∧ wT p (k - 1) = t
        · rw [if_neg c1, if_pos c2, if_pos (e.2 c2)]; omega
        · rw [if_neg c1, if_neg c2, if_neg (fun x => c2 (e.1 x))]; omega
    · rename_i h0
      rw [P_addP hlk (hF k (by omega)) (hT k (by omega)) ht, ih]
      unfold ups downs
      rw [if_neg (c := 0 < k ∧ _) (fun x => h0 x.1)]; omega
theorem sm_ups_col {p : List Int} {K : Nat} (hF : ∀ j, j < K → wF p j < 8) (m : Int) (t : Nat) {j : Nat} (hj : j < K) : sm 8 (fun o => ups p m o t j) = if wT p j = t then m else 0 := by
  by_cases e : wT p j = t
  · rw [if_pos e]
    refine (sm_congr 8 fun o _ => ?_).trans (sm_one m (hF j hj))
    unfold ups
    by_cases c : wF p j = o
    · rw [if_pos ⟨c, e⟩, if_pos c]
    · rw [if_neg (fun x => c x.1), if_neg c]
  · rw [if_neg e]
    exact sm_none 8 fun o _ => if_neg fun x => e x.2
theorem sm_downs_col {p : List Int} {K : Nat} (hF : ∀ j, j < K → wF p j < 8) (m : Int) (t : Nat) {j : Nat} (hj : j < K) : sm 8 (fun o => downs p m o t j) = if 0 < j ∧ wT p (j - 1) = t then m else 0 := by
  by_cases e : 0 < j ∧ wT p (j - 1) = t
  · rw [if_pos e]
    refine (sm_congr 8 fun o _ => ?_).trans (sm_one m (hF j hj))
    unfold downs
    by_cases c : wF p j = o
    · rw [if_pos ⟨e.1, c, e.2⟩, if_pos c]
    · rw [if_neg (fun x => c x.2.1), if_neg c]
  · rw [if_neg e]
    exact sm_none 8 fun o _ => if_neg fun x => e ⟨x.1, x.2.2⟩
theorem sm_ups_row {p : List Int} {K : Nat} (hT : ∀ j, j < K → wT p j < 8) (m : Int) (o : Nat) {j : Nat} (hj : j < K) : sm 8 (fun t => ups p m o t j) = if wF p j = o then m else 0 := by
  by_cases e : wF p j = o
  · rw [if_pos e]
    refine (sm_congr 8 fun t _ => ?_).trans (sm_one m (hT j hj))
    unfold ups
    by_cases c : wT p j = t
    · rw [if_pos ⟨e, c⟩, if_pos c]
    · rw [if_neg (fun x => c x.2), if_neg c]
  · rw [if_neg e]
    exact sm_none 8 fun t _ => if_neg fun x => e x.1
theorem sm_downs_row {p : List Int} {K : Nat} (hT : ∀ j, j < K → wT p j < 8) (m : Int) (o : Nat) {j : Nat} (hj : j < K) : sm 8 (fun t => downs p m o t j) = if 0 < j ∧ wF p j = o then m else 0 := by
  by_cases e : 0 < j ∧ wF p j = o
  · rw [if_pos e]
    refine (sm_congr 8 fun t _ => ?_).trans (sm_one m (hT (j - 1) (by omega)))
    unfold downs
    by_cases c : wT p (j - 1) = t
    · rw [if_pos ⟨e.1, e.2, c⟩, if_pos c]
    · rw [if_neg (fun x => c x.2.2), if_neg c]
  · rw [if_neg e]
    exact sm_none 8 fun t _ => if_neg fun x => e ⟨x.1, x.2.1⟩
theorem sm_shift (g : Nat → Int) (h : Nat → Int) (hg : g 0 = 0) (e : ∀ j, g (j + 1) = h j) : ∀ k, sm (k + 1) g = sm k h
  | 0 => by rw [sm_succ, sm_zero, sm_zero, hg]; rfl
  | k + 1 => by rw [sm_succ, sm_shift g h hg e k, sm_succ, e]
theorem sm_first (g : Nat → Int) (h : Nat → Int) (hg : g 0 = 0) (e : ∀ j, 0 < j → g j = h j) : ∀ k, 0 < k → sm k g = sm k h - h 0
  | 1, _ => by rw [sm_succ, sm_zero, sm_succ, sm_zero, hg]; omega
  | k + 2, _ => by rw [sm_succ, sm_first g h hg e (k + 1) (by omega), sm_succ (k + 1) h, e (k + 1) (by omega)]; omega
section
variable {l : Led} (hl : l.paid.length = 64) {p : List Int} {K : Nat} (hF : ∀ j, j < K → wF p j < 8) (hT : ∀ j, j < K → wT p j < 8) (m : Int) (hK : 1 ≤ K)
include hl hF hT hK
theorem aug_col {t : Nat} (ht : t < 8) : sm 8 (fun o => (augUp l p m K).P o t) = sm 8 (fun o => l.P o t) + if wT p (K - 1) = t then m else 0 := by
  have e : sm 8 (fun o => (augUp l p m K).P o t) = sm 8 fun o => l.P o t + sm K (ups p m o t) - sm K (downs p m o t) := sm_congr 8 fun o _ => aug_P hl hF hT m ht K (Nat.le_refl _)
  rw [e, sm_sub, sm_add]
  have e1 : sm 8 (fun o => sm K (ups p m o t)) = sm K fun j => if wT p j = t then m else 0 := by
    rw [sm_swap (fun o j => ups p m o t j)]
    exact sm_congr K fun j hj => sm_ups_col hF m t hj
  have e2 : sm 8 (fun o => sm K (downs p m o t)) = sm K fun j => if 0 < j ∧ wT p (j - 1) = t then m else 0 := by
    rw [sm_swap (fun o j => downs p m o t j)]
    exact sm_congr K fun j hj => sm_downs_col hF m t hj
  rw [e1, e2]
  obtain ⟨k, rfl⟩ : ∃ k, K = k + 1 := ⟨K - 1, by omega⟩
  rw [sm_shift (fun j => if 0 < j ∧ wT p (j - 1) = t then m else 0) (fun j => if wT p j = t then m else 0) (if_neg fun x => by omega) (fun j => by
    by_cases c : wT p j = t
    · rw [if_pos c, if_pos ⟨by omega, c⟩]
    · rw [if_neg c, if_neg fun x => c x.2]) k, sm_succ k (fun j => if wT p j = t then m else 0)]
  show _ = _ + if wT p k = t then m else 0
  omega
theorem aug_row (o : Nat) : sm 8 (fun t => (augUp l p m K).P o t) = sm 8 (fun t => l.P o t) + if wF p 0 = o then m else 0 := by
  have e : sm 8 (fun t => (augUp l p m K).P o t) = sm 8 fun t => l.P o t + sm K (ups p m o t) - sm K (downs p m o t) := sm_congr 8 fun t ht => aug_P hl hF hT m ht K (Nat.le_refl _)
  rw [e, sm_sub, sm_add]
  have e1 : sm 8 (fun t => sm K (ups p m o t)) = sm K fun j => if wF p j = o then m else 0 := by
    rw [sm_swap (fun t j => ups p m o t j)]
    exact sm_congr K fun j hj => sm_ups_row hT m o hj
  have e2 : sm 8 (fun t => sm K (downs p m o t)) = sm K fun j => if 0 < j ∧ wF p j = o then m else 0 := by
    rw [sm_swap (fun t j => downs p m o t j)]
    exact sm_congr K fun j hj => sm_downs_row hT m o hj
  rw [e1, e2, sm_first (fun j => if 0 < j ∧ wF p j = o then m else 0) (fun j => if wF p j = o then m else 0) (if_neg fun x => by omega) (fun j hj => by
    by_cases c : wF p j = o
    · rw [if_pos c, if_pos ⟨hj, c⟩]
    · rw [if_neg c, if_neg fun x => c x.2]) K (by omega)]
  have e3 : sm 8 (l.P o) = sm 8 fun t => l.P o t := rfl
  rw [e3]
  omega
end
structure LInv (f : Flr) (bay : Nat) (l : Led) : Prop where
  w : l.w = boardsOf f
  bay : l.bay = bay
  len : l.paid.length = 64
  nn : ∀ o t, o < 8 → t < 8 → 0 ≤ l.P o t
  pos : ∀ o t, o < 8 → t < 8 → 0 < l.P o t → (o < l.T ∧ (t : Int) ∈ tosOf l o) ∧ 0 < l.add o ∧ l.add t < 0
  col : ∀ t, t < 8 → sm 8 (fun o => l.P o t) ≤ max 0 (-(l.add t))
  row : ∀ o, o < 8 → sm 8 (fun t => l.P o t) ≤ max 0 (l.add o)
def muchUp (l : Led) (p : List Int) (n : Int) (K : Nat) : Nat → Int
  | 0 => min n (leftM l (wT p (K - 1)))
  | k + 1 => min (muchUp l p n K k) (l.P (wF p (k + 1)) (wT p k))
def muchM (l : Led) (p : List Int) (n : Int) : Int := muchUp l p n (p.length / 2) (p.length / 2 - 1)
theorem muchUp_le (l : Led) (p : List Int) (n : Int) (K : Nat) : ∀ k, muchUp l p n K k ≤ n ∧ muchUp l p n K k ≤ leftM l (wT p (K - 1)) ∧ ∀ j, j < k → muchUp l p n K k ≤ l.P (wF p (j + 1)) (wT p j)
  | 0 => ⟨by simp only [muchUp]; omega, by simp only [muchUp]; omega, fun j hj => by omega⟩
  | k + 1 => by
    obtain ⟨h1, h2, h3⟩ := muchUp_le l p n K k
    simp only [muchUp]
    refine ⟨by omega, by omega, fun j hj => ?_⟩
    rcases Nat.lt_or_ge j k with hx | hx
    · have := h3 j hx; omega
    · rw [show j = k by omega]; omega
theorem muchUp_pos {l : Led} {p : List Int} {n : Int} {K : Nat} (hn : 1 ≤ n) (hl : 1 ≤ leftM l (wT p (K - 1))) : ∀ k, (∀ j, j < k → 1 ≤ l.P (wF p (j + 1)) (wT p j)) → 1 ≤ muchUp l p n K k
  | 0, _ => by simp only [muchUp]; omega
  | k + 1, h => by
    have h1 := muchUp_pos hn hl k fun j hj => h j (by omega)
    have h2 := h k (by omega)
    simp only [muchUp]; omega
structure Aug (f : Flr) (bay : Nat) (l : Led) (u : Nat) (n : Int) (l' : Led) (m : Int) : Prop where
  inv : LInv f bay l'
  one : 1 ≤ m
  le : m ≤ n
  row : ∀ o, sm 8 (fun t => l'.P o t) = sm 8 (fun t => l.P o t) + if u = o then m else 0
  closed : ∀ X, Closed l X → Closed l' X
theorem tos_lt {l : Led} {o : Nat} {t : Int} (h : t ∈ tosOf l o) : t.toNat < 8 ∧ t = (t.toNat : Int) := by
  obtain ⟨i, hi, _, e⟩ := mem_members.1 h; omega
theorem aug_inv {f : Flr} (h : checkP f = 0) {bay : Nat} {l : Led} (hi : LInv f bay l) {u : Nat} (hu : u < l.T) {n : Int} (hn : 1 ≤ n) (hnr : n + sm 8 (fun t => l.P u t) ≤ l.add u) {p : List Int} {K : Nat} (hw : WayF l u p K) : Aug f bay l u n (augUp l p (muchM l p n) K) (muchM l p n) := by
  have hT8 : l.T ≤ 8 := by unfold Led.T; rw [hi.w, boardsOf_f]; exact nt8 h
  have hKp : p.length / 2 = K := by rw [hw.len]; omega
  have hFT : ∀ j, j < K → wF p j < l.T := fun j hj => by
    cases j with
    | zero => rw [hw.first]; exact hu
    | succ j => exact (hw.step j hj).1
  have hF : ∀ j, j < K → wF p j < 8 := fun j hj => by have := hFT j hj; omega
  have hT : ∀ j, j < K → wT p j < 8 := fun j hj => (tos_lt (hw.tos j hj).1).1
  have hK := hw.one
  have hP : ∀ j, j + 1 < K → 1 ≤ l.P (wF p (j + 1)) (wT p j) := fun j hj => by
    have h1 := hi.nn _ _ (hF (j + 1) hj) (hT j (by omega))
    have h2 := (hw.step j hj).2.1
    omega
  obtain ⟨m, hm⟩ : ∃ m, m = muchM l p n := ⟨_, rfl⟩
  have hm' : m = muchUp l p n K (K - 1) := by rw [hm, muchM, hKp]
  obtain ⟨m1, m2, m3⟩ := muchUp_le l p n K (K - 1)
  have m4 := muchUp_pos (l := l) (p := p) (K := K) hn hw.last (K - 1) fun j hj => hP j (by omega)
  rw [← hm'] at m1 m2 m3 m4
  rw [← hm]
  have hsame := aug_same l p m K
  have hadd : ∀ t, (augUp l p m K).add t = l.add t := fun t => by unfold Led.add; rw [hsame.1, hsame.2.1]
  have htos : ∀ o, tosOf (augUp l p m K) o = tosOf l o := fun o => by unfold tosOf; rw [hsame.1]
  have hTT : (augUp l p m K).T = l.T := by unfold Led.T; rw [hsame.1]
  have hcol : ∀ t, t < 8 → sm 8 (fun o => (augUp l p m K).P o t) = sm 8 (fun o => l.P o t) + if wT p (K - 1) = t then m else 0 := fun t ht => aug_col hi.len hF hT m hK ht
  have hrow : ∀ o, sm 8 (fun t => (augUp l p m K).P o t) = sm 8 (fun t => l.P o t) + if u = o then m else 0 := fun o => by rw [aug_row hi.len hF hT m hK o, hw.first]
  have hups : ∀ o t, 0 ≤ sm K (ups p m o t) := fun o t => sm_nonneg K fun j _ => by unfold ups; split <;> omega
  have hdn0 : ∀ o t, (∀ j, j < K → 0 < j → ¬ (wF p j = o ∧ wT p (j - 1) = t)) → sm K (downs p m o t) = 0 := fun o t hx => sm_none K fun j hj => if_neg fun y => hx j hj y.1 y.2
  have hPn : ∀ o t, t < 8 → (augUp l p m K).P o t = l.P o t + sm K (ups p m o t) - sm K (downs p m o t) := fun o t ht => aug_P hi.len hF hT m ht K (Nat.le_refl _)
  have addF : ∀ j, j < K → 0 < l.add (wF p j) := fun j hj => by
    cases j with
    | zero =>
      rw [hw.first]
      have := sm_nonneg (g := fun t => l.P u t) 8 fun t ht => hi.nn u t (by omega) ht
      omega
    | succ j =>
      have h1 := hP j hj
      exact (hi.pos _ _ (hF _ hj) (hT j (by omega)) (by omega)).2.1
  refine ⟨⟨hsame.1.trans hi.w, hsame.2.1.trans hi.bay, hsame.2.2.trans hi.len, fun o t ho ht => ?_, fun o t ho ht hp => ?_, fun t ht => ?_, fun o ho => ?_⟩, m4, m1, hrow, fun X hX => ?_⟩
  · rw [hPn o t ht]
    have h0 := hi.nn o t ho ht
    have hu0 := hups o t
    by_cases hx : ∃ j, j < K ∧ 0 < j ∧ wF p j = o ∧ wT p (j - 1) = t
    · obtain ⟨j, hj, hj0, e1, e2⟩ := hx
      have hone : sm K (downs p m o t) = m := by
        refine (sm_congr K fun i hi' => ?_).trans (sm_one m hj)
        unfold downs
        by_cases c : j = i
        · subst c; rw [if_pos ⟨hj0, e1, e2⟩, if_pos rfl]
        · rw [if_neg c, if_neg]
          rintro ⟨hi0, _, hb⟩
          rcases Nat.lt_or_gt_of_ne c with hlt | hlt
          · exact hw.dist (j - 1) (i - 1) (by omega) (by omega) (by rw [e2, hb])
          · exact hw.dist (i - 1) (j - 1) (by omega) (by omega) (by rw [e2, hb])
      have := m3 (j - 1) (by omega)
      rw [show j - 1 + 1 = j by omega, e1, e2] at this
      omega
    · rw [hdn0 o t fun j hj hj0 hc => hx ⟨j, hj, hj0, hc⟩]; omega
  · rw [hTT, htos, hadd, hadd]
    by_cases h0 : 0 < l.P o t
    · exact hi.pos o t ho ht h0
    · by_cases hx : ∃ j, j < K ∧ wF p j = o ∧ wT p j = t
      · obtain ⟨j, hj, e1, e2⟩ := hx
        have htj := hw.tos j hj
        have e3 : nth p (2 * j + 1) = (t : Int) := by rw [(tos_lt htj.1).2]; unfold wT at e2; rw [e2]
        rw [e3, e1, e2] at htj
        exact ⟨⟨e1 ▸ hFT j hj, htj.1⟩, e1 ▸ addF j hj, htj.2⟩
      · have hz : sm K (ups p m o t) = 0 := sm_none K fun j hj => if_neg fun y => hx ⟨j, hj, y⟩
        have hd : 0 ≤ sm K (downs p m o t) := sm_nonneg K fun j _ => by unfold downs; split <;> omega
        rw [hPn o t ht, hz] at hp
        omega
  · rw [hcol t ht, hadd]
    have hc := hi.col t ht
    by_cases e : wT p (K - 1) = t
    · rw [if_pos e]
      have := m2
      rw [e] at this
      unfold leftM leftUp at this
      omega
    · rw [if_neg e]; omega
  · rw [hrow o, hadd]
    have hr := hi.row o ho
    by_cases e : u = o
    · subst e; rw [if_pos rfl]; omega
    · rw [if_neg e]; omega
  · -- ways keep off what is closed
    have off : ∀ d j, d + j + 1 = K → ¬ X (wF p j) := by
      intro d
      induction d with
      | zero =>
        intro j hj hx
        have := (hX _ hx _ (hw.tos j (by omega)).1 (hw.tos j (by omega)).2).1
        have hl := hw.last
        rw [show K - 1 = j by omega] at hl
        unfold wT at hl; omega
      | succ d ih =>
        intro j hj hx
        have := (hX _ hx _ (hw.tos j (by omega)).1 (hw.tos j (by omega)).2).2 (wF p (j + 1)) (hFT _ (by omega)) (hw.step j (by omega)).2.1
        exact ih (j + 1) (by omega) this
    have offF : ∀ j, j < K → ¬ X (wF p j) := fun j hj => off (K - 1 - j) j (by omega)
    intro x hx t ht ha
    rw [htos] at ht
    rw [hadd] at ha
    obtain ⟨c1, c2⟩ := hX x hx t ht ha
    have ht8 := (tos_lt ht).1
    have offT : ∀ j, j < K → wT p j ≠ t.toNat := fun j hj e => by
      by_cases hl : j + 1 < K
      · exact offF (j + 1) hl (c2 _ (hFT _ hl) (by rw [← e]; exact (hw.step j hl).2.1))
      · have := hw.last
        rw [show K - 1 = j by omega, e] at this
        omega
    have hsm : ∀ o, (augUp l p m K).P o t.toNat = l.P o t.toNat := fun o => by
      have hz : sm K (ups p m o t.toNat) = 0 := sm_none K fun j hj => if_neg fun y => offT j hj y.2
      rw [hPn o _ ht8, hdn0 o _ fun j hj hj0 hc => offT (j - 1) (by omega) hc.2, hz]; omega
    refine ⟨?_, fun o ho hp => c2 o (by rw [hTT] at ho; exact ho) (by rw [← hsm o]; exact hp)⟩
    unfold leftM leftUp
    rw [hadd, hcol _ ht8, if_neg (offT (K - 1) (by omega))]
    unfold leftM leftUp at c1
    omega
end Go.Proofs.Ytifgbnbkimcchaa

namespace Go.Proofs.Ytifgbnbkimcchaa
open Go Go.T
def payF (u : Nat) : Nat → Led → Int → Led
  | 0, l, _ => l
  | k + 1, l, n => if n ≤ 0 then l else if findM l u = [] then l else payF u k (augUp l (findM l u) (muchM l (findM l u) n) ((findM l u).length / 2)) (n - muchM l (findM l u) n)
def Led.row (l : Led) (o : Nat) : Int := sm 8 fun t => l.P o t
def Led.col (l : Led) (t : Nat) : Int := sm 8 fun o => l.P o t
theorem inv_add {f : Flr} {bay : Nat} {l : Led} (hi : LInv f bay l) (t : Nat) : l.add t = addB (boardsOf f) bay t := by unfold Led.add; rw [hi.w, hi.bay]
theorem inv_T {f : Flr} {bay : Nat} {l : Led} (hi : LInv f bay l) : l.T = f.turnings.length := by unfold Led.T; rw [hi.w, boardsOf_f]
structure PaidF (f : Flr) (bay u : Nat) (l l' : Led) : Prop where
  inv : LInv f bay l'
  row : ∀ o, o ≠ u → l'.row o = l.row o
  closed : ∀ X, Closed l X → Closed l' X
  done : 0 < addB (boardsOf f) bay u → l'.row u = addB (boardsOf f) bay u ∨ ∃ X, Closed l' X ∧ X u
theorem pay_spec {f : Flr} (h : checkP f = 0) {bay u : Nat} (hu : u < f.turnings.length) : ∀ (k : Nat) (l : Led) (n : Int), LInv f bay l → n ≤ (k : Int) → (0 < addB (boardsOf f) bay u → n + l.row u = addB (boardsOf f) bay u ∧ 0 ≤ n) → (addB (boardsOf f) bay u ≤ 0 → n ≤ 0) → PaidF f bay u l (payF u k l n)
  | 0, l, n, hi, hk, h1, h2 => ⟨hi, fun _ _ => rfl, fun _ hX => hX, fun hp => .inl (by have := h1 hp; show l.row u = _; omega)⟩
  | k + 1, l, n, hi, hk, h1, h2 => by
    rw [payF]
    by_cases hn : n ≤ 0
    · rw [if_pos hn]
      exact ⟨hi, fun _ _ => rfl, fun _ hX => hX, fun hp => .inl (by have := h1 hp; omega)⟩
    · rw [if_neg hn]
      by_cases he : findM l u = []
      · rw [if_pos he]
        exact ⟨hi, fun _ _ => rfl, fun _ hX => hX, fun _ => .inr (find_none he)⟩
      · rw [if_neg he]
        have hp : 0 < addB (boardsOf f) bay u := by
          rcases Int.lt_or_le 0 (addB (boardsOf f) bay u) with hx | hx
          · exact hx
          · exact absurd (h2 hx) hn
        obtain ⟨g1, g2⟩ := h1 hp
        obtain ⟨K, hw, _⟩ := way_facts (find_way he)
        have hK : (findM l u).length / 2 = K := by rw [hw.len]; omega
        have ha := aug_inv h hi (by rw [inv_T hi]; exact hu) (n := n) (by omega) (by rw [inv_add hi]; show n + l.row u ≤ _; omega) hw
        rw [← hK] at ha
        have hr : (augUp l (findM l u) (muchM l (findM l u) n) ((findM l u).length / 2)).row u = l.row u + muchM l (findM l u) n := by
          have := ha.row u
          rw [if_pos rfl] at this; exact this
        have ho := ha.one
        have hl := ha.le
        have ih := pay_spec h hu k _ (n - muchM l (findM l u) n) ha.inv (by omega) (fun _ => by rw [hr]; omega) (fun hx => by omega)
        refine ⟨ih.inv, fun o hne => (ih.row o hne).trans ?_, fun X hX => ih.closed X (ha.closed X hX), ih.done⟩
        have := ha.row o
        rw [if_neg (fun e => hne e.symm), Int.add_zero] at this
        exact this
def led0 (f : Flr) (bay : Nat) : Led := ⟨boardsOf f, bay, List.replicate 64 0⟩
def ledUp (f : Flr) (bay : Nat) : Nat → Led
  | 0 => led0 f bay
  | k + 1 => payF k (addB (boardsOf f) bay k).toNat (ledUp f bay k) (addB (boardsOf f) bay k)
theorem led0_P (f : Flr) (bay o t : Nat) : (led0 f bay).P o t = 0 := by
  unfold Led.P led0 nth
  rw [List.getD_eq_getElem?_getD, List.getElem?_replicate]
  split <;> rfl
theorem led0_inv (f : Flr) (bay : Nat) : LInv f bay (led0 f bay) := by
  refine ⟨rfl, rfl, by simp [led0], fun o t _ _ => by rw [led0_P]; exact Int.le_refl _, fun o t _ _ hp => by rw [led0_P] at hp; omega, fun t _ => ?_, fun o _ => ?_⟩
  · rw [sm_none 8 fun o _ => led0_P f bay o t]; omega
  · rw [sm_none 8 fun t _ => led0_P f bay o t]; omega
structure LedF (f : Flr) (bay k : Nat) (l : Led) : Prop where
  inv : LInv f bay l
  rest : ∀ o, k ≤ o → l.row o = 0
  done : ∀ o, o < k → 0 < addB (boardsOf f) bay o → l.row o = addB (boardsOf f) bay o ∨ ∃ X, Closed l X ∧ X o
theorem led_spec {f : Flr} (h : checkP f = 0) (bay : Nat) : ∀ k, k ≤ f.turnings.length → LedF f bay k (ledUp f bay k)
  | 0, _ => ⟨led0_inv f bay, fun o _ => sm_none 8 fun t _ => led0_P f bay o t, fun o ho => by omega⟩
  | k + 1, hk => by
    have ih := led_spec h bay k (by omega)
    have hr := ih.rest k (Nat.le_refl _)
    have hp := pay_spec h (bay := bay) (u := k) (by omega) (addB (boardsOf f) bay k).toNat (ledUp f bay k) (addB (boardsOf f) bay k) ih.inv (by omega) (fun hx => ⟨by rw [hr]; omega, by omega⟩) (fun hx => hx)
    refine ⟨hp.inv, fun o ho => (hp.row o (by omega)).trans (ih.rest o (by omega)), fun o ho hpos => ?_⟩
    by_cases e : o = k
    · subst e; exact hp.done hpos
    · rcases ih.done o (by omega) hpos with hx | ⟨X, hX, hx⟩
      · exact .inl ((hp.row o e).trans hx)
      · exact .inr ⟨X, hp.closed X hX, hx⟩
def ledT (f : Flr) (bay : Nat) : Led := ledUp f bay f.turnings.length
theorem set_of (q : Nat → Bool) (n : Nat) : ∃ s, s < 2 ^ n ∧ ∀ i, s.testBit i = (decide (i < n) && q i) := by
  induction n with
  | zero => exact ⟨0, by decide, fun i => by simp⟩
  | succ n ih =>
    obtain ⟨s, hs, hb⟩ := ih
    cases hq : q n with
    | false =>
      refine ⟨s, by rw [Nat.pow_succ]; omega, fun i => ?_⟩
      rw [hb]
      by_cases e : i = n
      · subst e; simp [hq]
      · rw [show decide (i < n + 1) = decide (i < n) by rw [decide_eq_decide]; omega]
    | true =>
      refine ⟨s ||| 1 <<< n, or_lt (by rw [Nat.pow_succ]; omega) (by omega), fun i => ?_⟩
      rw [or_bit, hb]
      by_cases e : n = i
      · subst e; simp [hq]
      · rw [show decide (i < n + 1) = decide (i < n) by rw [decide_eq_decide]; omega, decide_eq_false e, Bool.or_false]
theorem tos_lead {f : Flr} (h : checkP f = 0) {bay : Nat} {l : Led} (hi : LInv f bay l) (o : Nat) (t : Nat) : (t : Int) ∈ tosOf l o ↔ Lead f.rules t o := by
  have hr := check_right h
  unfold tosOf
  rw [mem_members, hi.w, before_of h]
  constructor
  · rintro ⟨i, _, hb, e⟩
    have : t = i := by omega
    subst this
    exact (ahead_bit hr.ruled o t).1 hb
  · intro hl
    have := (lead_named hr.ruled hl).1
    have := hr.ranged.turnings
    exact ⟨t, by omega, (ahead_bit hr.ruled o t).2 hl, rfl⟩
theorem row_T {f : Flr} (h : checkP f = 0) {bay : Nat} {l : Led} (hi : LInv f bay l) {o : Nat} (ho : o < 8) : l.row o = sm f.turnings.length fun t => l.P o t := by
  have h8 := nt8 h
  unfold Led.row
  obtain ⟨d, hd⟩ : ∃ d, 8 = f.turnings.length + d := ⟨8 - f.turnings.length, by omega⟩
  have key : ∀ e, f.turnings.length + e ≤ 8 → sm (f.turnings.length + e) (fun t => l.P o t) = sm f.turnings.length fun t => l.P o t := by
    intro e
    induction e with
    | zero => intro _; rfl
    | succ e ih =>
      intro he
      rw [show f.turnings.length + (e + 1) = (f.turnings.length + e) + 1 by omega, sm_succ, ih (by omega)]
      have h0 := hi.nn o (f.turnings.length + e) ho (by omega)
      rcases Int.lt_or_le 0 (l.P o (f.turnings.length + e)) with hp | hp
      · have := (hi.pos o _ ho (by omega) hp).1.2
        have := (lead_named (check_right h).ruled ((tos_lead h hi o _).1 this)).1
        omega
      · omega
  have := key d (by omega)
  rw [← hd] at this; exact this
theorem strong {f : Flr} (h : checkP f = 0) {bay : Nat} (hb : bay < f.bears.length) {l : Led} (hl : LedF f bay f.turnings.length l) : ∃ s, s < 2 ^ f.turnings.length ∧ wholeP (boardsOf f) s = true ∧ nth (loadP (boardsOf f) s) bay = nth (boardsOf f).1.first bay + sm f.turnings.length fun t => max 0 (addB (boardsOf f) bay t) - l.row t := by
  have hi := hl.inv
  have h8 := nt8 h
  have hr := check_right h
  obtain ⟨X, hX⟩ : ∃ X : Nat → Prop, X = fun o => ∃ Y, Closed l Y ∧ Y o := ⟨_, rfl⟩
  have hXc : Closed l X := fun x hx t ht ha => by
    rw [hX] at hx
    obtain ⟨Y, hY, hy⟩ := hx
    obtain ⟨c1, c2⟩ := hY x hy t ht ha
    exact ⟨c1, fun o ho hp => by rw [hX]; exact ⟨Y, hY, c2 o ho hp⟩⟩
  obtain ⟨Sp, hSp⟩ : ∃ Sp : Nat → Prop, Sp = fun t => ∃ x, x < f.turnings.length ∧ X x ∧ 0 < addB (boardsOf f) bay x ∧ (t = x ∨ Lead f.rules t x) := ⟨_, rfl⟩
  have hdec : ∃ q : Nat → Bool, ∀ t, q t = true ↔ Sp t := ⟨fun t => @decide (Sp t) (Classical.propDecidable _), fun t => by simp⟩
  obtain ⟨q, hq⟩ := hdec
  obtain ⟨s, hs, hbit⟩ := set_of q f.turnings.length
  have bit : ∀ t, s.testBit t = true ↔ t < f.turnings.length ∧ Sp t := fun t => by rw [hbit, Bool.and_eq_true, decide_eq_true_eq, hq]
  have hwhole : wholeP (boardsOf f) s = true := (whole_iff h hs).2 fun t a ht hla => by
    have hn := (lead_named hr.ruled hla).1
    have ht := (bit t).1 ht
    rw [hSp] at ht
    obtain ⟨_, x, hx, hxX, hxp, hxt⟩ := ht
    refine (bit a).2 ⟨by omega, ?_⟩
    rw [hSp]
    refine ⟨x, hx, hxX, hxp, .inr ?_⟩
    rcases hxt with e | hxt
    · rw [← e]; exact hla
    · exact hla.trans hxt
  -- those of the set that lessen are paid in full, by those of the set
  have less : ∀ t, s.testBit t = true → addB (boardsOf f) bay t < 0 → -(addB (boardsOf f) bay t) ≤ l.col t ∧ ∀ o, o < f.turnings.length → l.P o t ≠ 0 → s.testBit o = true := fun t ht ha => by
    obtain ⟨htT, hsp⟩ := (bit t).1 ht
    rw [hSp] at hsp
    obtain ⟨x, hx, hxX, hxp, hxt⟩ := hsp
    have hlead : Lead f.rules t x := by
      rcases hxt with e | e
      · rw [e] at ha; omega
      · exact e
    have htos := (tos_lead h hi x t).2 hlead
    obtain ⟨c1, c2⟩ := hXc x hxX t htos (by rw [inv_add hi]; simpa using ha)
    rw [Int.toNat_natCast] at c1 c2
    refine ⟨?_, fun o ho hp => ?_⟩
    · unfold leftM leftUp at c1
      rw [inv_add hi] at c1
      unfold Led.col; omega
    · have hox := c2 o (by rw [inv_T hi]; exact ho) hp
      have h0 := hi.nn o t (by omega) (by omega)
      have hpo := (hi.pos o t (by omega) (by omega) (by omega)).2.1
      rw [inv_add hi] at hpo
      exact (bit o).2 ⟨ho, by rw [hSp]; exact ⟨o, ho, hox, hpo, .inl rfl⟩⟩
  refine ⟨s, hs, hwhole, ?_⟩
  rw [load_bits h s hs hb]
  congr 1
  -- turning by turning
  have e1 : sm f.turnings.length (fun t => max 0 (addB (boardsOf f) bay t) - l.row t) = sm f.turnings.length fun t => (if s.testBit t = true then max 0 (addB (boardsOf f) bay t) else 0) - (if s.testBit t = true then l.row t else 0) := sm_congr _ fun t ht => by
    by_cases hb' : s.testBit t = true
    · rw [if_pos hb', if_pos hb']
    · rw [if_neg hb', if_neg hb']
      rcases Int.lt_or_le 0 (addB (boardsOf f) bay t) with hp | hp
      · rcases hl.done t ht hp with e | ⟨Y, hY, hy⟩
        · rw [e]; omega
        · exact absurd ((bit t).2 ⟨ht, by rw [hSp]; exact ⟨t, ht, by rw [hX]; exact ⟨Y, hY, hy⟩, hp, .inl rfl⟩⟩) hb'
      · have h1 := hi.row t (by omega)
        rw [inv_add hi] at h1
        have h2 := sm_nonneg (g := fun j => l.P t j) 8 fun j hj => hi.nn t j (by omega) hj
        unfold Led.row; omega
  have e2 : sm f.turnings.length (fun t => if s.testBit t = true then l.row t else 0) = sm f.turnings.length fun t => if s.testBit t = true then max 0 (-(addB (boardsOf f) bay t)) else 0 := by
    have a1 : sm f.turnings.length (fun o => if s.testBit o = true then l.row o else 0) = sm f.turnings.length fun o => sm f.turnings.length fun t => if s.testBit o = true ∧ s.testBit t = true then l.P o t else 0 := sm_congr _ fun o ho => by
      by_cases hb' : s.testBit o = true
      · rw [if_pos hb', row_T h hi (by omega)]
        refine sm_congr _ fun t ht => ?_
        by_cases ht' : s.testBit t = true
        · rw [if_pos ⟨hb', ht'⟩]
        · rw [if_neg (fun x => ht' x.2)]
          have h0 := hi.nn o t (by omega) (by omega)
          rcases Int.lt_or_le 0 (l.P o t) with hp | hp
          · have hl' := (tos_lead h hi o t).1 (hi.pos o t (by omega) (by omega) hp).1.2
            exact absurd ((whole_iff h hs).1 hwhole o t hb' hl') ht'
          · omega
      · rw [if_neg hb']
        exact (sm_none _ fun t _ => if_neg fun x => hb' x.1).symm
    rw [a1, sm_swap (fun o t => if s.testBit o = true ∧ s.testBit t = true then l.P o t else 0)]
    refine sm_congr _ fun t ht => ?_
    by_cases hb' : s.testBit t = true
    · rw [if_pos hb']
      rcases Int.lt_or_le (addB (boardsOf f) bay t) 0 with hp | hp
      · obtain ⟨c1, c2⟩ := less t hb' hp
        have c3 := hi.col t (by omega)
        rw [inv_add hi] at c3
        have : sm f.turnings.length (fun o => if s.testBit o = true ∧ s.testBit t = true then l.P o t else 0) = l.col t := by
          have a2 : sm f.turnings.length (fun o => if s.testBit o = true ∧ s.testBit t = true then l.P o t else 0) = sm f.turnings.length fun o => l.P o t := sm_congr _ fun o ho => by
            by_cases hx : s.testBit o = true
            · rw [if_pos ⟨hx, hb'⟩]
            · rw [if_neg fun y => hx y.1]
              exact (Classical.byContradiction fun hne => hx (c2 o ho fun e => hne e.symm))
          rw [a2]
          unfold Led.col
          obtain ⟨d, hd⟩ : ∃ d, 8 = f.turnings.length + d := ⟨8 - f.turnings.length, by omega⟩
          have key : ∀ e, f.turnings.length + e ≤ 8 → sm (f.turnings.length + e) (fun o => l.P o t) = sm f.turnings.length fun o => l.P o t := by
            intro e
            induction e with
            | zero => intro _; rfl
            | succ e ih =>
              intro he
              rw [show f.turnings.length + (e + 1) = (f.turnings.length + e) + 1 by omega, sm_succ, ih (by omega)]
              have h0 := hi.nn (f.turnings.length + e) t (by omega) (by omega)
              rcases Int.lt_or_le 0 (l.P (f.turnings.length + e) t) with hp' | hp'
              · have := (hi.pos _ t (by omega) (by omega) hp').1.1
                rw [inv_T hi] at this; omega
              · omega
          have := key d (by omega)
          rw [← hd] at this; exact this.symm
        rw [this]
        unfold Led.col at c1 ⊢
        omega
      · refine (sm_none _ fun o ho => ?_).trans (by omega)
        rcases Int.lt_or_le 0 (l.P o t) with hp' | hp'
        · have := (hi.pos o t (by omega) (by omega) hp').2.2
          rw [inv_add hi] at this; omega
        · have h0 := hi.nn o t (by omega) (by omega)
          split <;> omega
    · rw [if_neg hb']
      exact sm_none _ fun o _ => if_neg fun x => hb' x.2
  rw [e1, sm_sub, e2, ← sm_sub]
  refine sm_congr _ fun t _ => ?_
  split <;> omega
end Go.Proofs.Ytifgbnbkimcchaa

namespace Go.Proofs.Ytifgbnbkimcchaa
open Go Go.T
def rowL (l : Led) (o j : Nat) : List Pay := ((List.range j).filter fun t => !decide (l.P o t = 0)).map fun (t : Nat) => ⟨(o : Int), (t : Int), l.P o t⟩
def paysUp (l : Led) (T k : Nat) : List Pay := (List.range k).flatMap fun o => rowL l o T
def paysL (f : Flr) (bay : Nat) : List Pay := paysUp (ledT f bay) f.turnings.length f.turnings.length
theorem rowL_succ (l : Led) (o j : Nat) : rowL l o (j + 1) = rowL l o j ++ if l.P o j = 0 then [] else [⟨(o : Int), (j : Int), l.P o j⟩] := by
  unfold rowL
  rw [List.range_succ, List.filter_append, List.map_append]
  congr 1
  by_cases h : l.P o j = 0
  · rw [if_pos h, List.filter_cons_of_neg (by simp [h])]; rfl
  · rw [if_neg h, List.filter_cons_of_pos (by simp [h])]; rfl
theorem paysUp_succ (l : Led) (T k : Nat) : paysUp l T (k + 1) = paysUp l T k ++ rowL l k T := by unfold paysUp; rw [List.range_succ, List.flatMap_append]; simp
theorem paidBy_app (a b : List Pay) (t : Int) : paidBy (a ++ b) t = paidBy a t + paidBy b t := by simp [paidBy]
theorem paidTo_app (a b : List Pay) (t : Int) : paidTo (a ++ b) t = paidTo a t + paidTo b t := by simp [paidTo]
theorem row_by (l : Led) (o x : Nat) : ∀ j, paidBy (rowL l o j) x = if o = x then sm j (fun t => l.P o t) else 0
  | 0 => by rw [sm_zero]; simp [rowL, paidBy]
  | j + 1 => by
    rw [rowL_succ, paidBy_app, row_by l o x j, sm_succ]
    by_cases e : o = x
    · subst e
      rw [if_pos rfl, if_pos rfl]
      by_cases h : l.P o j = 0
      · rw [if_pos h, h]; simp [paidBy]
      · rw [if_neg h]; simp [paidBy]
    · rw [if_neg e, if_neg e]
      have e' : ¬ (o : Int) = (x : Int) := by omega
      split <;> simp [paidBy, e']
theorem row_to (l : Led) (o x : Nat) : ∀ j, paidTo (rowL l o j) x = if x < j then l.P o x else 0
  | 0 => by simp [rowL, paidTo]
  | j + 1 => by
    rw [rowL_succ, paidTo_app, row_to l o x j]
    by_cases e : j = x
    · subst e
      rw [if_neg (show ¬ j < j by omega), if_pos (show j < j + 1 by omega)]
      by_cases h : l.P o j = 0
      · rw [if_pos h, h]; simp [paidTo]
      · rw [if_neg h]; simp [paidTo]
    · have e' : ¬ (j : Int) = (x : Int) := by omega
      have e2 : (x < j + 1) ↔ (x < j) := by omega
      simp only [e2]
      split <;> split <;> simp [paidTo, e']
theorem pays_by (l : Led) (T x : Nat) : ∀ k, paidBy (paysUp l T k) x = if x < k then sm T (fun t => l.P x t) else 0
  | 0 => by simp [paysUp, paidBy]
  | k + 1 => by
    rw [paysUp_succ, paidBy_app, pays_by l T x k, row_by]
    by_cases e : k = x
    · subst e; rw [if_neg (by omega), if_pos rfl, if_pos (by omega)]; omega
    · rw [if_neg e]
      by_cases h : x < k
      · rw [if_pos h, if_pos (by omega)]; omega
      · rw [if_neg h, if_neg (by omega)]; rfl
theorem pays_to (l : Led) (T x : Nat) (hx : x < T) : ∀ k, paidTo (paysUp l T k) x = sm k fun o => l.P o x
  | 0 => by simp [paysUp, paidTo, sm_zero]
  | k + 1 => by rw [paysUp_succ, paidTo_app, pays_to l T x hx k, row_to, if_pos hx, sm_succ]
theorem mem_pays {l : Led} {T k : Nat} {p : Pay} (h : p ∈ paysUp l T k) : ∃ o t : Nat, o < k ∧ t < T ∧ l.P o t ≠ 0 ∧ p = ⟨(o : Int), (t : Int), l.P o t⟩ := by
  obtain ⟨o, ho, hp⟩ := List.mem_flatMap.1 h
  obtain ⟨t, ht, e⟩ := List.mem_map.1 hp
  obtain ⟨h1, h2⟩ := List.mem_filter.1 ht
  exact ⟨o, t, List.mem_range.1 ho, List.mem_range.1 h1, by simpa using h2, e.symm⟩
theorem led_col {f : Flr} (h : checkP f = 0) {bay : Nat} {l : Led} (hi : LInv f bay l) {t : Nat} (ht : t < 8) : sm 8 (fun o => l.P o t) = sm f.turnings.length fun o => l.P o t := by
  have h8 := nt8 h
  obtain ⟨d, hd⟩ : ∃ d, 8 = f.turnings.length + d := ⟨8 - f.turnings.length, by omega⟩
  have key : ∀ e, f.turnings.length + e ≤ 8 → sm (f.turnings.length + e) (fun o => l.P o t) = sm f.turnings.length fun o => l.P o t := by
    intro e
    induction e with
    | zero => intro _; rfl
    | succ e ih =>
      intro he
      rw [show f.turnings.length + (e + 1) = (f.turnings.length + e) + 1 by omega, sm_succ, ih (by omega)]
      have h0 := hi.nn (f.turnings.length + e) t (by omega) ht
      rcases Int.lt_or_le 0 (l.P (f.turnings.length + e) t) with hp' | hp'
      · have := (hi.pos _ t (by omega) ht hp').1.1
        rw [inv_T hi] at this; omega
      · omega
  have := key d (by omega)
  rw [← hd] at this; exact this
theorem pays_hold {f : Flr} (h : checkP f = 0) {bay : Nat} {l : Led} (hi : LInv f bay l) : Holds f bay (paysUp l f.turnings.length f.turnings.length) := by
  have h8 := nt8 h
  refine ⟨fun p hp => ?_, fun p hp => ?_, fun p hp => ?_, fun p hp => ?_, fun t ht => ?_⟩
  · obtain ⟨o, t, ho, ht, hne, rfl⟩ := mem_pays hp
    have := hi.nn o t (by omega) (by omega)
    show 1 ≤ l.P o t; omega
  · obtain ⟨o, t, ho, ht, _, rfl⟩ := mem_pays hp
    exact ⟨by show (0 : Int) ≤ (o : Int); omega, by show (o : Int) < _; omega⟩
  · obtain ⟨o, t, ho, ht, _, rfl⟩ := mem_pays hp
    exact ⟨by show (0 : Int) ≤ (t : Int); omega, by show (t : Int) < _; omega⟩
  · obtain ⟨o, t, ho, ht, hne, rfl⟩ := mem_pays hp
    have := hi.nn o t (by omega) (by omega)
    exact (tos_lead h hi o t).1 (hi.pos o t (by omega) (by omega) (by omega)).1.2
  · have h1 := hi.row t (by omega)
    have h2 := hi.col t (by omega)
    rw [inv_add hi] at h1 h2
    rw [pays_by, if_pos ht, pays_to l _ t ht, ← led_col h hi (by omega)]
    have := row_T h hi (o := t) (by omega)
    unfold Led.row at this
    rw [← this]
    exact ⟨h1, h2⟩
theorem pays_total {f : Flr} (h : checkP f = 0) {bay : Nat} {l : Led} (hi : LInv f bay l) : total (paysUp l f.turnings.length f.turnings.length) = sm f.turnings.length fun t => l.row t := by
  have h8 := nt8 h
  rw [← paid_total (pays_hold h hi).src]
  exact sm_congr _ fun t ht => by
    rw [pays_by, if_pos ht, row_T h hi (by omega)]
theorem pays_most {f : Flr} (h : checkP f = 0) {bay : Nat} (hb : bay < f.bears.length) : Holds f bay (paysL f bay) ∧ boundOf f bay (paysL f bay) = heavyV f bay := by
  have hl := led_spec h bay _ (Nat.le_refl _)
  have hh := pays_hold h hl.inv
  refine ⟨hh, ?_⟩
  obtain ⟨s, hs, hw, e⟩ := strong h hb hl
  have h1 := heavy_ge bay hs hw
  have h2 := weak_most h hb hh
  have h3 : boundOf f bay (paysL f bay) = nth (loadP (boardsOf f) s) bay := by
    unfold boundOf paysL ledT
    have e3 : sm f.turnings.length (ledUp f bay f.turnings.length).row = sm f.turnings.length fun t => (ledUp f bay f.turnings.length).row t := rfl
    rw [pays_total h hl.inv, e, sm_sub, e3]; omega
  have h4 : boundOf f bay (paysUp (ledUp f bay f.turnings.length) f.turnings.length f.turnings.length) = boundOf f bay (paysL f bay) := rfl
  omega
def payE (f : Flr) (bay : Int) : Int := openE f (!inB bay 0 (f.bears.length - 1))
def payR (f : Flr) (bay : Int) : List Pay := if payE f bay = 0 then paysL f bay.toNat else []
theorem bounds_holds {f : Flr} (h : checkP f = 0) {n : Nat} (hn : n < f.bears.length) (pays : List Pay) : ((boundsP f n pays).2 = 0 ↔ Holds f n pays) ∧ ((boundsP f n pays).2 = 0 → (boundsP f n pays).1 = boundOf f n pays) ∧ ((boundsP f n pays).2 = 0 ∨ (boundsP f n pays).2 = 1 ∨ (boundsP f n pays).2 = 3 ∨ (boundsP f n pays).2 = 4 ∨ (boundsP f n pays).2 = 8) := by
  have h0 : checkM f = 0 := by rw [← check_eq]; exact h
  rw [boundsP_eq h0 hn, boundsR]
  by_cases c1 : (pays.any fun p => decide (p.src < 0 ∨ p.src ≥ f.turnings.length) || decide (p.dst < 0 ∨ p.dst ≥ f.turnings.length)) = true
  · rw [if_pos c1]
    refine ⟨⟨fun hx => (by cases hx), fun hh => ?_⟩, fun hx => (by cases hx), .inr (.inl rfl)⟩
    obtain ⟨p, hp, hx⟩ := List.any_eq_true.1 c1
    have h1 := hh.src p hp
    have h2 := hh.dst p hp
    simp only [Bool.or_eq_true, decide_eq_true_eq] at hx
    omega
  rw [if_neg c1]
  by_cases c2 : (pays.any fun p => decide (p.much < 1)) = true
  · rw [if_pos c2]
    refine ⟨⟨fun hx => (by cases hx), fun hh => ?_⟩, fun hx => (by cases hx), .inr (.inr (.inl rfl))⟩
    obtain ⟨p, hp, hx⟩ := List.any_eq_true.1 c2
    have h1 := hh.pos p hp
    simp only [decide_eq_true_eq] at hx
    omega
  rw [if_neg c2]
  have hp1 : ∀ p ∈ pays, (0 ≤ p.src ∧ p.src < f.turnings.length) ∧ 0 ≤ p.dst ∧ p.dst < f.turnings.length := fun p hp => by
    have := any_none (Bool.eq_false_iff.2 c1) hp
    simp only [Bool.or_eq_false_iff, decide_eq_false_iff_not] at this; omega
  have hpos : Pos pays := fun p hp => by
    have := any_none (Bool.eq_false_iff.2 c2) hp
    simp only [decide_eq_false_iff_not] at this; omega
  by_cases c3 : (pays.any fun p => !decide (p.dst ∈ aheadM f p.src)) = true
  · rw [if_pos c3]
    refine ⟨⟨fun hx => (by cases hx), fun hh => ?_⟩, fun hx => (by cases hx), .inr (.inr (.inr (.inl rfl)))⟩
    obtain ⟨p, hp, hx⟩ := List.any_eq_true.1 c3
    rw [decide_eq_true (mem_aheadM.2 ⟨hh.dst p hp, hh.lead p hp⟩)] at hx
    cases hx
  rw [if_neg c3]
  have hlead : ∀ p ∈ pays, Lead f.rules p.dst p.src := fun p hp => by
    have := any_none (Bool.eq_false_iff.2 c3) hp
    simp only [Bool.not_eq_false', decide_eq_true_eq] at this
    exact (mem_aheadM.1 this).2
  rcases boundUp_spec (f := f) (b := n) hpos f.turnings.length with ⟨b1, b2⟩ | ⟨b1, b2⟩
  · rw [b2]
    have hh : Holds f n pays := ⟨hpos, fun p hp => (hp1 p hp).1, fun p hp => (hp1 p hp).2, hlead, fun t ht => by
      have := b1 t ht
      rw [← addB_eq h ht hn] at this; exact this⟩
    refine ⟨⟨fun _ => hh, fun _ => rfl⟩, fun _ => ?_, .inl rfl⟩
    show nth (nth (loadsM f []) 0) n + ((List.range f.turnings.length).map fun (t : Nat) => max 0 (addM f t n) - paidBy pays t).sum = _
    have e : ((List.range f.turnings.length).map fun (t : Nat) => max 0 (addM f t n) - paidBy pays t).sum = sm f.turnings.length fun t => max 0 (addB (boardsOf f) n t) - paidBy pays t := sm_congr _ fun t ht => by rw [addB_eq h ht hn]
    have e2 : total pays = sm f.turnings.length fun t => paidBy pays t := (paid_total hh.src).symm
    rw [e, sm_sub, boundOf, firstB_eq h hn, e2]; omega
  · rw [b2]
    refine ⟨⟨fun hx => (by cases hx), fun hh => absurd (fun t ht => ?_) b1⟩, fun hx => (by cases hx), .inr (.inr (.inr (.inr rfl)))⟩
    have := hh.fits t ht
    rw [addB_eq h ht hn] at this; exact this
end Go.Proofs.Ytifgbnbkimcchaa

namespace Go.Proofs.Ytifgbnbkimcchaa
open Go Go.T
structure OkP (f : Flr) (p : Pay) : Prop where
  src : 0 ≤ p.src ∧ p.src < f.turnings.length
  dst : 0 ≤ p.dst ∧ p.dst < f.turnings.length
  much : 1 ≤ p.much ∧ p.much ≤ 100000
  ne : p.dst ≠ p.src
  lead : p.dst ∈ aheadM f p.src
def OkU (f : Flr) (pays : List Pay) (q : Nat) : Prop := ∀ p ∈ pays.take q, OkP f p
def FitU (f : Flr) (bay : Nat) (pays : List Pay) (k : Nat) : Prop := ∀ t : Nat, t < k → paidBy pays t ≤ max 0 (addS f t bay) ∧ paidTo pays t ≤ max 0 (-(addS f t bay))
noncomputable def boundV (f : Flr) (bay : Nat) (pays : List Pay) : Int × Bool := open Classical in if Holds f bay pays then (boundOf f bay pays, true) else (0, false)
theorem addBS {f : Flr} (h : checkP f = 0) {t b : Nat} (ht : t < f.turnings.length) (hb : b < f.bears.length) : addB (boardsOf f) b t = addS f t b := (addB_eq h ht hb).trans (addM_eq (check_right h).named ht hb)
theorem much_le {l : List Pay} (hp : Pos l) {p : Pay} (hm : p ∈ l) : p.much ≤ paidBy l p.src := by
  induction l with
  | nil => cases hm
  | cons q l ih =>
    rw [paidBy_cons]
    have hq : Pos l := fun x hx => hp x (List.mem_cons_of_mem _ hx)
    have h0 := paidBy_nonneg hq p.src
    have h1 := hp q List.mem_cons_self
    rcases List.mem_cons.1 hm with rfl | hm
    · rw [if_pos rfl]; omega
    · have := ih hq hm; split <;> omega
theorem holds_ok {f : Flr} (h : checkP f = 0) {bay : Nat} (hb : bay < f.bears.length) {pays : List Pay} (hh : Holds f bay pays) {p : Pay} (hp : p ∈ pays) : OkP f p := by
  have h1 := hh.src p hp
  have h3 := hh.lead p hp
  refine ⟨h1, hh.dst p hp, ⟨hh.pos p hp, ?_⟩, fun e => no_round h _ (e ▸ h3), mem_aheadM.2 ⟨hh.dst p hp, h3⟩⟩
  obtain ⟨t, ht⟩ := Int.eq_ofNat_of_zero_le h1.1
  have ht8 : t < f.turnings.length := by omega
  have h4 := (hh.fits t ht8).1
  have h5 := much_le hh.pos hp
  rw [addBS h ht8 hb] at h4
  have h6 := addS_abs (check_right h) ht8 bay
  rw [ht] at h5; omega
theorem holds_fit {f : Flr} (h : checkP f = 0) {bay : Nat} (hb : bay < f.bears.length) {pays : List Pay} (hh : Holds f bay pays) : FitU f bay pays f.turnings.length := fun t ht => by
  have := hh.fits t ht
  rw [addBS h ht hb] at this; exact this
theorem holds_of {f : Flr} (h : checkP f = 0) {bay : Nat} (hb : bay < f.bears.length) {pays : List Pay} (h1 : OkU f pays pays.length) (h2 : FitU f bay pays f.turnings.length) : Holds f bay pays := by
  unfold OkU at h1
  rw [List.take_length] at h1
  exact ⟨fun p hp => (h1 p hp).much.1, fun p hp => (h1 p hp).src, fun p hp => (h1 p hp).dst, fun p hp => (mem_aheadM.1 (h1 p hp).lead).2, fun t ht => by rw [addBS h ht hb]; exact h2 t ht⟩
theorem bound_no {f : Flr} {bay : Nat} {pays : List Pay} (hh : ¬ Holds f bay pays) : boundV f bay pays = (0, false) := if_neg hh
theorem bound_yes {f : Flr} {bay : Nat} {pays : List Pay} (hh : Holds f bay pays) : boundV f bay pays = (boundOf f bay pays, true) := if_pos hh
theorem bound_bad {f : Flr} (h : checkP f = 0) {bay : Nat} (hb : bay < f.bears.length) {pays : List Pay} {q : Nat} (hq : q < pays.length) (hn : ¬ OkP f (nth pays q)) : boundV f bay pays = (0, false) :=
  bound_no fun hh => hn (holds_ok h hb hh (nth_mem hq))
theorem bound_unfit {f : Flr} (h : checkP f = 0) {bay : Nat} (hb : bay < f.bears.length) {pays : List Pay} {t : Nat} (ht : t < f.turnings.length) (hn : ¬ (paidBy pays t ≤ max 0 (addS f t bay) ∧ paidTo pays t ≤ max 0 (-(addS f t bay)))) : boundV f bay pays = (0, false) :=
  bound_no fun hh => hn (holds_fit h hb hh t ht)
def addsU (f : Flr) (b k : Nat) : List Int := (List.range k).map fun t => addS f t b
theorem addsU_succ (f : Flr) (b k : Nat) : addsU f b (k + 1) = addsU f b k ++ [addS f k b] := by unfold addsU; rw [List.range_succ, List.map_append]; rfl
theorem addsU_len (f : Flr) (b k : Nat) : (addsU f b k).length = k := by simp [addsU]
theorem addsU_nth (f : Flr) (b : Nat) {k t : Nat} (h : t < k) : nth (addsU f b k) t = addS f t b := nth_map_range _ h
def upU (f : Flr) (b k : Nat) : Int := firstS f b f.bins.length + sm k fun t => max 0 (addS f t b)
theorem upU_succ (f : Flr) (b k : Nat) : upU f b (k + 1) = upU f b k + max 0 (addS f k b) := by unfold upU; rw [sm_succ]; omega
theorem upU_zero (f : Flr) (b : Nat) : upU f b 0 = firstS f b f.bins.length := by unfold upU; rw [sm_zero]; omega
theorem upU_bound {f : Flr} (hr : f.Right) (b : Nat) : ∀ k, k ≤ f.turnings.length → 0 ≤ upU f b k ∧ upU f b k ≤ 100000 + 1200 * k
  | 0, _ => by
    rw [upU_zero]
    have h1 := firstS_bound hr.ranged b f.bins.length (Nat.le_refl _)
    have h2 := hr.ranged.bins
    omega
  | k + 1, h => by
    have h1 := upU_bound hr b k (by omega)
    have h2 := addS_abs hr (t := k) (by omega) b
    rw [upU_succ]; omega
def byU (f : Flr) (pays : List Pay) (q : Nat) : List Int := (List.range f.turnings.length).map fun (t : Nat) => paidBy (pays.take q) t
def toU (f : Flr) (pays : List Pay) (q : Nat) : List Int := (List.range f.turnings.length).map fun (t : Nat) => paidTo (pays.take q) t
theorem byU_len (f : Flr) (pays : List Pay) (q : Nat) : (byU f pays q).length = f.turnings.length := by simp [byU]
theorem toU_len (f : Flr) (pays : List Pay) (q : Nat) : (toU f pays q).length = f.turnings.length := by simp [toU]
theorem byU_nth (f : Flr) (pays : List Pay) (q : Nat) {t : Nat} (h : t < f.turnings.length) : nth (byU f pays q) t = paidBy (pays.take q) t := nth_map_range _ h
theorem toU_nth (f : Flr) (pays : List Pay) (q : Nat) {t : Nat} (h : t < f.turnings.length) : nth (toU f pays q) t = paidTo (pays.take q) t := nth_map_range _ h
theorem by_step (pays : List Pay) {q : Nat} (h : q < pays.length) (t : Int) : paidBy (pays.take (q + 1)) t = paidBy (pays.take q) t + if (nth pays q).src = t then (nth pays q).much else 0 := by
  rw [take_nth h, paidBy_app, paidBy_cons]; simp [paidBy]
theorem to_step (pays : List Pay) {q : Nat} (h : q < pays.length) (t : Int) : paidTo (pays.take (q + 1)) t = paidTo (pays.take q) t + if (nth pays q).dst = t then (nth pays q).much else 0 := by
  rw [take_nth h, paidTo_app, paidTo_cons]; simp [paidTo]
theorem byU_set (f : Flr) {pays : List Pay} {q s : Nat} (h : q < pays.length) (hs : (nth pays q).src = (s : Nat)) (hl : s < f.turnings.length) : (byU f pays q).set s (nth (byU f pays q) s + (nth pays q).much) = byU f pays (q + 1) := by
  rw [byU_nth f pays q hl]
  refine range_set _ s _ _ _ fun j _ => ?_
  rw [by_step pays h, hs]
  by_cases e : j = s
  · subst e; rw [if_pos rfl, if_pos rfl]
  · rw [if_neg e, if_neg (by omega)]; omega
theorem toU_set (f : Flr) {pays : List Pay} {q s : Nat} (h : q < pays.length) (hs : (nth pays q).dst = (s : Nat)) (hl : s < f.turnings.length) : (toU f pays q).set s (nth (toU f pays q) s + (nth pays q).much) = toU f pays (q + 1) := by
  rw [toU_nth f pays q hl]
  refine range_set _ s _ _ _ fun j _ => ?_
  rw [to_step pays h, hs]
  by_cases e : j = s
  · subst e; rw [if_pos rfl, if_pos rfl]
  · rw [if_neg e, if_neg (by omega)]; omega
theorem byU_zero (f : Flr) (pays : List Pay) : byU f pays 0 = List.replicate f.turnings.length 0 := by
  unfold byU
  apply List.ext_getElem (by simp)
  intro i h1 h2; simp [paidBy]
theorem toU_zero (f : Flr) (pays : List Pay) : toU f pays 0 = List.replicate f.turnings.length 0 := by
  unfold toU
  apply List.ext_getElem (by simp)
  intro i h1 h2; simp [paidTo]
theorem sums_in {f : Flr} {pays : List Pay} : ∀ {q : Nat}, q ≤ pays.length → OkU f pays q → ∀ t : Int, (0 ≤ paidBy (pays.take q) t ∧ paidBy (pays.take q) t ≤ 100000 * q) ∧ (0 ≤ paidTo (pays.take q) t ∧ paidTo (pays.take q) t ≤ 100000 * q) ∧ 0 ≤ total (pays.take q) ∧ total (pays.take q) ≤ 100000 * q
  | 0, _, _, t => by simp [paidBy, paidTo, total]
  | q + 1, h, ho, t => by
    have h1 := sums_in (f := f) (pays := pays) (q := q) (by omega) (fun p hp => ho p (by rw [take_nth (show q < pays.length by omega)]; exact List.mem_append_left _ hp)) t
    have h2 := (ho (nth pays q) (by rw [take_nth (show q < pays.length by omega)]; exact List.mem_append_right _ (List.mem_singleton.2 rfl))).much
    rw [by_step pays (show q < pays.length by omega), to_step pays (show q < pays.length by omega), show total (pays.take (q + 1)) = total (pays.take q) + (nth pays q).much by rw [take_nth (show q < pays.length by omega)]; simp [total]]
    refine ⟨?_, ?_, by omega⟩ <;> split <;> omega
theorem ok_zero (f : Flr) (pays : List Pay) : OkU f pays 0 := fun p hp => by simp at hp
theorem ok_succ {f : Flr} {pays : List Pay} {q : Nat} (h : q < pays.length) (ho : OkU f pays q) (hp : OkP f (nth pays q)) : OkU f pays (q + 1) := fun p hm => by
  rw [take_nth h] at hm
  rcases List.mem_append.1 hm with hm | hm
  · exact ho p hm
  · rw [List.mem_singleton.1 hm]; exact hp
theorem fit_succ {f : Flr} {bay : Nat} {pays : List Pay} {k : Nat} (h : FitU f bay pays k) (h1 : paidBy pays k ≤ max 0 (addS f k bay)) (h2 : paidTo pays k ≤ max 0 (-(addS f k bay))) : FitU f bay pays (k + 1) := fun t ht => by
  rcases Nat.lt_or_ge t k with c | c
  · exact h t c
  · rw [show t = k by omega]; exact ⟨h1, h2⟩
theorem bound_end {f : Flr} (h : checkP f = 0) {bay : Nat} (hb : bay < f.bears.length) {pays : List Pay} (h1 : OkU f pays pays.length) (h2 : FitU f bay pays f.turnings.length) : boundV f bay pays = (upU f bay f.turnings.length - total pays, true) := by
  rw [bound_yes (holds_of h hb h1 h2)]
  unfold boundOf upU
  rw [firstB_eq h hb, first_eq f hb, sm_congr f.turnings.length fun t ht => by rw [addBS h ht hb]]
theorem load_zero (f : Flr) (l : List Int) (b : Nat) : loadO f l b 0 = firstS f b f.bins.length := by simp [loadO]
theorem load_add (f : Flr) (t b : Nat) : loadO f [(t : Int)] b 1 - loadO f [(t : Int)] b 0 = addS f t b := by
  rw [loadO_succ f (by simp) b]
  show loadO f [(t : Int)] b 0 + addS f (Int.toNat (t : Int)) b - _ = _
  rw [Int.toNat_natCast]; omega
theorem total_step (pays : List Pay) {q : Nat} (h : q < pays.length) : total (pays.take (q + 1)) = total (pays.take q) + (nth pays q).much := by rw [take_nth h]; simp [total]
def InR (f : Flr) (l : List Pay) : Prop := ∀ p ∈ l, (0 ≤ p.src ∧ p.src < f.turnings.length) ∧ 0 ≤ p.dst ∧ p.dst < f.turnings.length
theorem bounds_ne1 {f : Flr} (h : checkP f = 0) {n : Nat} (hn : n < f.bears.length) {pays : List Pay} (hr : InR f pays) : (boundsP f n pays).2 ≠ 1 := by
  have h0 : checkM f = 0 := by rw [← check_eq]; exact h
  rw [boundsP_eq h0 hn, boundsR]
  rw [if_neg (fun hx => by
    obtain ⟨p, hp, hx⟩ := List.any_eq_true.1 hx
    have h1 := hr p hp
    simp only [Bool.or_eq_true, decide_eq_true_eq] at hx
    omega)]
  split
  · simp
  split
  · simp
  split <;> simp
theorem paid_law {f : Flr} (h : checkP f = 0) {n : Nat} (hn : n < f.bears.length) {pays : List Pay} (hr : InR f pays) :
    ((boundsP f n pays).2 = 0 ∧ (boundV f n pays).2 = true ∧ (boundsP f n pays).1 = (boundV f n pays).1 ∧ heavyV f n ≤ (boundsP f n pays).1) ∨ (((boundsP f n pays).2 = 3 ∨ (boundsP f n pays).2 = 4 ∨ (boundsP f n pays).2 = 8) ∧ (boundV f n pays).2 = false) := by
  obtain ⟨b1, b2, b3⟩ := bounds_holds h hn pays
  by_cases hh : Holds f n pays
  · have e := b1.2 hh
    rw [bound_yes hh]
    exact .inl ⟨e, rfl, b2 e, by rw [b2 e]; exact weak_most h hn hh⟩
  · rw [bound_no hh]
    refine .inr ⟨?_, rfl⟩
    rcases b3 with e | e | e | e | e
    · exact absurd (b1.1 e) hh
    · exact absurd e (bounds_ne1 h hn hr)
    · exact .inl e
    · exact .inr (.inl e)
    · exact .inr (.inr e)
theorem inR_pays {f : Flr} (h : checkP f = 0) {n : Nat} (hn : n < f.bears.length) : InR f (paysL f n) := fun p hp => by
  have hh := (pays_most h hn).1
  exact ⟨hh.src p hp, hh.dst p hp⟩
end Go.Proofs.Ytifgbnbkimcchaa

namespace Go.Proofs.Ytifgbnbkimcchaa
open Go Go.T
set_option maxHeartbeats 2000000
attribute [local irreducible] dInt dBool dSl dPp dPtr dAgg dTup dClo dAny dEx dStr dGd dCells dVec dVs dRow dOp nth Tri Into TOps Ctr bodyPost Exit.then Exit.inBlock Code.wp Code.wpIn dWhen dPa dPe dAo dArr dMp dPm dMap dCJ CtrG CtrI OpY keepPost iterPost bodyPostM roundQ
attribute [local irreducible] addsU upU byU toU boundV aheadM total
theorem pay_in {l : List Int} {n : Nat} (hl : l.length = n) {a b c : Int} (h : (((((decide (a < 0) || decide ((l.length : Int) ≤ a)) || decide (b < 0)) || decide ((l.length : Int) ≤ b)) || decide (c < 1)) || decide (100000 < c)) = false) : (0 ≤ a ∧ a < n) ∧ (0 ≤ b ∧ b < n) ∧ 1 ≤ c ∧ c ≤ 100000 := by
  subst hl
  simp only [Bool.or_eq_false_iff, decide_eq_false_iff_not] at h
  omega
theorem ok_of {f : Flr} {l : List Int} (hl : l.length = f.turnings.length) {p : Pay} (h : ((((((decide (p.src < 0) || decide ((l.length : Int) ≤ p.src)) || decide (p.dst < 0)) || decide ((l.length : Int) ≤ p.dst)) || decide (p.much < 1)) || decide (100000 < p.much)) || !(!decide (p.dst = p.src) && decide (p.dst ∈ aheadM f p.src))) = false) : OkP f p := by
  rw [Bool.or_eq_false_iff] at h
  obtain ⟨h1, h2⟩ := h
  have h3 := pay_in hl h1
  simp only [Bool.not_eq_false', Bool.and_eq_true, Bool.not_eq_true', decide_eq_false_iff_not, decide_eq_true_eq] at h2
  exact ⟨h3.1, h3.2.1, h3.2.2, h2.1, h2.2⟩
theorem not_ok {f : Flr} {l : List Int} (hl : l.length = f.turnings.length) {p : Pay} (h : ((((((decide (p.src < 0) || decide ((l.length : Int) ≤ p.src)) || decide (p.dst < 0)) || decide ((l.length : Int) ≤ p.dst)) || decide (p.much < 1)) || decide (100000 < p.much)) || !(!decide (p.dst = p.src) && decide (p.dst ∈ aheadM f p.src))) = true) : ¬ OkP f p := fun ok => by
  have h1 := ok.src
  have h2 := ok.dst
  have h3 := ok.much
  rw [decide_eq_false ok.ne, decide_eq_true ok.lead] at h
  simp only [Bool.or_eq_true, decide_eq_true_eq, Bool.not_false, Bool.and_true, Bool.not_true, or_false, Bool.false_eq_true] at h
  omega
theorem fit_of {f : Flr} (hr : f.Right) {b : Nat} {pays : List Pay} {k : Nat} (hk : k < f.turnings.length) (h : (decide (max 0 (nth (addsU f b f.turnings.length) k) < nth (byU f pays pays.length) k) || decide (max 0 (IntKind.i64.wrap (0 - nth (addsU f b f.turnings.length) k)) < nth (toU f pays pays.length) k)) = false) : paidBy pays k ≤ max 0 (addS f k b) ∧ paidTo pays k ≤ max 0 (-(addS f k b)) := by
  have ha := addS_abs hr hk b
  rw [addsU_nth f b hk, byU_nth f pays _ hk, toU_nth f pays _ hk, List.take_length, wrap_in (by omega)] at h
  simp only [Bool.or_eq_false_iff, decide_eq_false_iff_not] at h
  omega
theorem not_fit {f : Flr} (hr : f.Right) {b : Nat} {pays : List Pay} {k : Nat} (hk : k < f.turnings.length) (h : (decide (max 0 (nth (addsU f b f.turnings.length) k) < nth (byU f pays pays.length) k) || decide (max 0 (IntKind.i64.wrap (0 - nth (addsU f b f.turnings.length) k)) < nth (toU f pays pays.length) k)) = true) : ¬ (paidBy pays k ≤ max 0 (addS f k b) ∧ paidTo pays k ≤ max 0 (-(addS f k b))) := fun hn => by
  have ha := addS_abs hr hk b
  rw [addsU_nth f b hk, byU_nth f pays _ hk, toU_nth f pays _ hk, List.take_length, wrap_in (by omega)] at h
  simp only [Bool.or_eq_true, decide_eq_true_eq] at h
  omega
theorem und28 : Try.prog.underlying 28 = some (.slice 34) := by kernel_rfl
set_option maxRecDepth 100000 in
theorem c_Clone_pay (l : List Pay) (h : l.length ≤ 1000) : CtrG Try.prog 67 [] [] [Ty.sl PayE l] [] (Ty.row PayE 34 6 l) := by
  refine fnG_intro Try.func67 rfl (by decide) Try.ntmps67 (by exact Nat.le_of_ble_eq_true rfl) fun w0 M0 => ?_
  refine t_seq ?_
  refine t_region ?_
  refine asX rfl ?_
  refine r_nil ?_
  refine i_then ?_
  refine t_seq ?_
  refine t_seq ?_
  refine t_region ?_
  refine mvS rfl ?_
  refine r_eqnil und28 rfl ?_
  refine r_nil ?_
  refine i_then ?_
  refine t_cond_nb rfl (fun hc1 => ?_) (fun hc1 => ?_)
  ·
    refine t_seq ?_
    refine t_region ?_
    refine asX rfl ?_
    refine r_nil ?_
    refine i_then ?_
    refine t_ret ?_
    refine i_then_ret ?_
    refine g_ret1 [6] rfl rfl (by decide) (by repeat (exact rc_nil)) ?_
    all_goals skip
    all_goals (subst hc1; exact rg_cv cv_nilrow)
  ·
    refine t_skip ?_
    refine i_then ?_
    refine t_seq ?_
    refine t_region ?_
    refine r_buildRow (E := PayE) rfl rfl rfl rfl ?_
    refine mvS rfl ?_
    refine r_append rfl rfl (by decide) rfl rfl rfl rfl rfl rfl (by decide) (by (simp <;> omega)) (by (simp <;> omega)) ?_
    refine asR rfl ?_
    refine r_nil ?_
    refine i_then ?_
    refine t_ret ?_
    refine g_ret1 [6] rfl rfl (by decide) (by repeat (exact rc_nil)) ?_
    all_goals skip
    all_goals exact rg_cv (cv_row (by exact List.mem_cons_self))
set_option maxRecDepth 100000 in
theorem c_bound5 (f : Flr) (h : checkP f = 0) (b : Nat) (hb : b < f.bears.length) (pays : List Pay) (hp : pays.length ≤ 1000) : Ctr Try.prog 71 [flrT f, Ty.int .i64 (b : Nat), Ty.sl PayE pays] (Ty.tup [Ty.int .i64 (boundV f b pays).1, Ty.bool (boundV f b pays).2]) := by
  refine fn_intro Try.func71 rfl (by decide) Try.ntmps71 (by exact Nat.le_of_ble_eq_true rfl) fun w0 M0 => ?_
  have hr := check_right h
  have h8 := hr.ruled.1
  refine t_seq ?_
  refine t_region ?_
  refine r_box_agg rfl ?_
  refine asI rfl ?_
  refine asB rfl ?_
  refine r_nil ?_
  refine i_then ?_
  refine t_seq ?_
  refine t_region ?_
  refine asX rfl ?_
  refine r_nil ?_
  refine i_then ?_
  refine t_seq ?_
  refine t_region ?_
  refine r_load_ppN rfl rfl rfl (by exact Nat.le_of_ble_eq_true rfl) ?_
  refine mvI rfl ?_
  refine r_callP [] (c_loads5 f hr [] (by simp) (by simp) b hb) rfl (by repeat (first | exact lends_nil | refine lends_cons (lend_pub rfl rfl) ?_ | refine lends_cons lend_nil ?_)) rfl rfl (by intro u hu; cases hu) ?_
  refine r_index_slN rfl rfl rfl rfl rfl rfl (by show (0 : Nat) < _; rw [loadsO_len]; exact Nat.succ_pos _) ?_
  refine r_load_pp rfl rfl rfl rfl ?_
  refine asI rfl ?_
  refine r_nil ?_
  refine i_then ?_
  refine t_seq ?_
  refine t_seq ?_
  refine t_as (s := 9) rfl (Ty.sub_int (show nth (loadsO f [] b) 0 = upU f b 0 by rw [upU_zero, loadsO_nth f b (Nat.zero_le _), load_zero])) ?_
  refine t_region ?_
  refine r_field_pp rfl rfl rfl rfl rfl (by decide) ?_
  refine r_load_pp rfl rfl rfl rfl ?_
  refine r_len rfl rfl rfl ?_
  refine mvI rfl ?_
  refine r_nil ?_
  refine i_then ?_
  refine t_block ?_
  refine t_loop (fun (k : {k : Nat // k ≤ f.turnings.length}) => live [(1, Ty.int .i64 (b : Nat)), (2, Ty.sl PayE pays), (3, Ty.pp (flrTys f)), (6, Ty.int .i64 0), (7, Ty.bool false), (8, Ty.row I64 3 44 (addsU f b k.1)), (9, Ty.int .i64 (upU f b k.1)), (25, Ty.int .i64 f.turnings.length), (26, Ty.int .i64 (k.1 : Nat))] []) (fun k => f.turnings.length - k.1) (⟨0, by omega⟩) ?_ fun k => ?_
  · (refine Ent.mk' ?_ ?_ <;> (repeat' (first | exact allSub_zero | exact allTags_nil | refine allSub_succ' ?_ (Ty.sub_any _) | refine allSub_succ' ?_ (Ty.sub_refl _) | refine allSub_succ' ?_ ?_)))
    all_goals exact nil_row_eq (by unfold addsU; rfl)
  ·
    have hk := k.2
    have hal := addsU_len f b k.1
    have hub := upU_bound hr b k.1 hk
    refine t_seq ?_
    refine t_region ?_
    refine r_bin rfl rfl rfl ?_
    refine r_nil ?_
    refine i_then ?_
    refine t_seq ?_
    refine t_cond_dec rfl (fun hc1 => ?_) (fun hc1 => ?_)
    ·
      refine t_skip ?_
      refine i_then ?_
      refine t_seq ?_
      refine t_block ?_
      refine t_seq ?_
      refine t_region ?_
      refine mvI rfl ?_
      refine asI rfl ?_
      refine r_nil ?_
      refine i_then ?_
      refine t_seq ?_
      have hll := loadsO_len f [(k.1 : Int)] b
      have hab := addS_abs hr (t := k.1) (by omega) b
      have hla : nth (loadsO f [(k.1 : Int)] b) 1 - nth (loadsO f [(k.1 : Int)] b) 0 = addS f k.1 b := by rw [loadsO_nth f b (Nat.le_refl 1), loadsO_nth f b (Nat.zero_le _), load_add]
      have hlb := loadO_bound hr (l := [(k.1 : Int)]) (fun x hx => by rw [List.mem_singleton.1 hx]; omega) b
      have hl0 := hlb 0
      have hl1 := hlb 1
      rw [← loadsO_nth f b (Nat.zero_le _)] at hl0
      rw [← loadsO_nth f b (Nat.le_refl 1)] at hl1
      refine t_region ?_
      refine r_load_ppN rfl rfl rfl (by exact Nat.le_of_ble_eq_true rfl) ?_
      refine mvI rfl ?_
      refine r_buildSlice (E := I64) (xs := [(k.1 : Int)]) rfl rfl rfl rfl rfl (by decide) (by decide) (by repeat (first | exact (Parts.nil : Parts _ _ [] _) | (show Parts _ _ ((_, _) :: _) _; apply Parts.one; (· exact (rfl : _ = Ty.int _ _)); (· exact rfl)))) (by exact rfl) rfl ?_
      refine mvI rfl ?_
      refine r_callP [32] (c_loads5 f hr [(k.1 : Int)] (fun x hx => by rw [List.mem_singleton.1 hx]; omega) (by simp) b hb) rfl (by repeat (first | exact lends_nil | refine lends_cons (lend_pub rfl rfl) ?_)) rfl rfl (by intro u hu; rw [List.mem_singleton.1 hu]; exact ⟨by decide, fun h => by cases h⟩) ?_
      refine asS rfl ?_
      refine r_nil ?_
      refine i_then ?_
      refine t_seq ?_
      refine t_draw mixed rfl ?_
      refine mvR rfl ?_
      refine mvS rfl ?_
      refine r_index_slN rfl rfl rfl rfl rfl rfl (by show (1 : Nat) < _; rw [loadsO_len]; exact Nat.lt_succ_self _) ?_
      refine r_load_pp rfl rfl rfl rfl ?_
      refine mvS rfl ?_
      refine r_index_slN rfl rfl rfl rfl rfl rfl (by show (0 : Nat) < _; rw [loadsO_len]; exact Nat.lt_succ_of_lt Nat.zero_lt_one) ?_
      refine r_load_pp rfl rfl rfl rfl ?_
      refine r_bin rfl rfl rfl ?_
      refine r_buildSlice (E := I64) (xs := [_]) rfl rfl rfl rfl rfl (by decide) (by decide) (by repeat (first | exact (Parts.nil : Parts _ _ [] _) | (show Parts _ _ ((_, _) :: _) _; apply Parts.one; (· exact (rfl : _ = Ty.int _ _)); (· exact rfl)))) (by exact rfl) rfl ?_
      refine r_append rfl rfl (by decide) rfl rfl rfl rfl rfl rfl (by decide) (by (simp <;> omega)) (by (simp <;> omega)) ?_
      refine asR rfl ?_
      refine r_nil ?_
      refine ⟨by kernel_rfl, ?_⟩
      refine i_then ?_
      refine t_draw mixed rfl ?_
      refine mvI rfl ?_
      refine mvS rfl ?_
      refine r_index_slN rfl rfl rfl rfl rfl rfl (by show (1 : Nat) < _; rw [loadsO_len]; exact Nat.lt_succ_self _) ?_
      refine r_load_pp rfl rfl rfl rfl ?_
      refine mvS rfl ?_
      refine r_index_slN rfl rfl rfl rfl rfl rfl (by show (0 : Nat) < _; rw [loadsO_len]; exact Nat.lt_succ_of_lt Nat.zero_lt_one) ?_
      refine r_load_pp rfl rfl rfl rfl ?_
      refine r_bin rfl rfl rfl ?_
      refine r_max rfl rfl ?_
      refine r_bin rfl rfl rfl ?_
      refine asI rfl ?_
      refine r_nil ?_
      refine ⟨by kernel_rfl, ?_⟩
      refine i_block ?_
      refine i_then ?_
      refine t_region ?_
      refine r_add rfl rfl (by omega) (by omega) ?_
      refine mvI rfl ?_
      refine r_nil ?_
      refine i_round (⟨k.1 + 1, by omega⟩) ?_ (by show f.turnings.length - (k.1 + 1) < f.turnings.length - k.1; omega)
      (refine Ent.mk' ?_ ?_ <;> (repeat' (first | exact allSub_zero | exact allTags_nil | refine allSub_succ' ?_ (Ty.sub_any _) | refine allSub_succ' ?_ (Ty.sub_refl _) | refine allSub_succ' ?_ ?_)))
      all_goals skip
      all_goals first | exact Ty.sub_row (by rw [addsU_succ, hla, wrap_in (by omega)]) | exact Ty.sub_int (by rw [upU_succ, hla, wrap_in (n := addS f k.1 b) (by omega), wrap_in (by omega)])
    ·
      refine t_exit ?_
      refine i_then_exit ?_
      refine i_then_exit ?_
      refine i_block_exit rfl ?_
      refine i_then ?_
      refine t_seq ?_
      obtain ⟨k, hk2⟩ := k
      obtain rfl : k = f.turnings.length := by have hx : ¬ (k : Int) < (f.turnings.length : Nat) := hc1; omega
      have hal2 : (addsU f b f.turnings.length).length = f.turnings.length := addsU_len f b _
      refine t_draw mixed rfl ?_
      refine mvR rfl ?_
      refine r_len_row rfl rfl rfl ?_
      refine r_makeV (E := I64) rfl rfl rfl rfl rfl rfl rfl (by decide) rfl (by omega) (by (dsimp only; omega)) (by omega) ?_
      refine mvR rfl ?_
      refine r_len_row rfl rfl rfl ?_
      refine r_makeV (E := I64) rfl rfl rfl rfl rfl rfl rfl (by decide) rfl (by omega) (by (dsimp only; omega)) (by omega) ?_
      refine asV rfl ?_
      refine asV rfl ?_
      refine r_nil ?_
      refine ⟨by kernel_rfl, ?_⟩
      refine i_then ?_
      refine t_seq ?_
      refine t_seq ?_
      refine t_region ?_
      refine mvS rfl ?_
      refine r_len rfl rfl rfl ?_
      refine mvI rfl ?_
      refine r_nil ?_
      refine i_then ?_
      refine t_block ?_
      refine t_loop (fun (q : {q : Nat // q ≤ pays.length ∧ OkU f pays q}) => live [(1, Ty.int .i64 (b : Nat)), (3, Ty.pp (flrTys f)), (6, Ty.int .i64 0), (7, Ty.bool false), (8, Ty.row I64 3 44 (addsU f b f.turnings.length)), (9, Ty.int .i64 (upU f b f.turnings.length - total (pays.take q.1))), (12, Ty.vs 58 f.turnings.length), (13, Ty.vs 61 f.turnings.length), (61, Ty.sl PayE pays), (62, Ty.int .i64 pays.length), (63, Ty.int .i64 (q.1 : Nat))] [(58, Cont.vec I64 3 (byU f pays q.1)), (61, Cont.vec I64 3 (toU f pays q.1))]) (fun q => pays.length - q.1) (⟨0, by omega, ok_zero f pays⟩) ?_ fun q => ?_
      · (refine Ent.mk' ?_ ?_ <;> (repeat' (first | exact allSub_zero | exact allTags_nil | refine allSub_succ' ?_ (Ty.sub_any _) | refine allSub_succ' ?_ (Ty.sub_refl _) | refine allTags_cons rfl ?_ ?_ | refine allSub_succ' ?_ ?_)))
        all_goals first | exact Ty.sub_int (by rw [List.take_zero]; unfold total; simp) | exact Ty.sub_eq (by rw [addsU_len]; rfl) | exact Cont.sub_vec (by rw [byU_zero, addsU_len]; rfl) | exact Cont.sub_vec (by rw [toU_zero, addsU_len]; rfl)
      ·
        have hq := q.2.1
        have hal := addsU_len f b f.turnings.length
        have hbl := byU_len f pays q.1
        have htl := toU_len f pays q.1
        have hub := upU_bound hr b f.turnings.length (Nat.le_refl _)
        refine t_seq ?_
        refine t_region ?_
        refine r_bin rfl rfl rfl ?_
        refine r_nil ?_
        refine i_then ?_
        refine t_seq ?_
        refine t_cond_dec rfl (fun hc2 => ?_) (fun hc2 => ?_)
        ·
          refine t_skip ?_
          refine i_then ?_
          refine t_seq ?_
          refine t_block ?_
          refine t_seq ?_
          refine t_region ?_
          refine r_index_slN rfl rfl rfl rfl rfl rfl (by omega) ?_
          refine r_load_ppN rfl rfl rfl (by exact Nat.le_of_ble_eq_true rfl) ?_
          refine r_alloc rfl (by exact List.cons_ne_nil _ _) rfl ?_
          refine r_storeN rfl rfl (by decide) rfl rfl rfl rfl rfl rfl ?_
          refine r_nil ?_
          refine i_then ?_
          refine t_seq ?_
          refine t_seq ?_
          refine t_region ?_
          refine r_field_ptr rfl rfl rfl rfl rfl (by decide) ?_
          refine r_load_ptr rfl rfl (by decide) rfl rfl rfl ?_
          refine r_bin rfl rfl rfl ?_
          refine mvB rfl ?_
          apply r_guard (s := 70) rfl rfl rfl
          · intro hg; apply opT_of; (refine r_field_ptr rfl rfl rfl rfl rfl (by decide) ?_); refine r_nil ?_; exact rfl
          · exact rfl
          · exact rfl
          apply r_guard (s := 70) rfl rfl rfl
          · intro hg; apply opT_strip (s := 71) rfl (by (rw [hg]; rfl)); apply opT_of; (refine r_load_ptr rfl rfl (by decide) rfl rfl rfl ?_); refine r_nil ?_; exact rfl
          · exact rfl
          · exact rfl
          apply r_guard (s := 70) rfl rfl rfl
          · intro hg; apply opT_of; (refine mvR rfl ?_); refine r_nil ?_; exact rfl
          · exact rfl
          · exact rfl
          apply r_guard (s := 70) rfl rfl rfl
          · intro hg; apply opT_strip (s := 73) rfl (by (rw [hg]; rfl)); apply opT_of; (refine r_len_row rfl rfl rfl ?_); refine r_nil ?_; exact rfl
          · exact rfl
          · exact rfl
          apply r_guard (s := 70) rfl rfl rfl
          · intro hg; apply opT_strip (s := 72) rfl (by (rw [hg]; rfl)); apply opT_strip (s := 74) rfl (by (rw [hg]; rfl)); apply opT_of; (refine r_bin rfl rfl rfl ?_); refine r_nil ?_; exact rfl
          · exact rfl
          · exact rfl
          refine r_or rfl rfl ?_
          refine mvB rfl ?_
          apply r_guard (s := 77) rfl rfl rfl
          · intro hg; apply opT_of; (refine r_field_ptr rfl rfl rfl rfl rfl (by decide) ?_); refine r_nil ?_; exact rfl
          · exact rfl
          · exact rfl
          apply r_guard (s := 77) rfl rfl rfl
          · intro hg; apply opT_strip (s := 78) rfl (by (rw [hg]; rfl)); apply opT_of; (refine r_load_ptr rfl rfl (by decide) rfl rfl rfl ?_); refine r_nil ?_; exact rfl
          · exact rfl
          · exact rfl
          apply r_guard (s := 77) rfl rfl rfl
          · intro hg; apply opT_strip (s := 79) rfl (by (rw [hg]; rfl)); apply opT_of; (refine r_bin rfl rfl rfl ?_); refine r_nil ?_; exact rfl
          · exact rfl
          · exact rfl
          refine r_or rfl rfl ?_
          refine mvB rfl ?_
          apply r_guard (s := 82) rfl rfl rfl
          · intro hg; apply opT_of; (refine r_field_ptr rfl rfl rfl rfl rfl (by decide) ?_); refine r_nil ?_; exact rfl
          · exact rfl
          · exact rfl
          apply r_guard (s := 82) rfl rfl rfl
          · intro hg; apply opT_strip (s := 83) rfl (by (rw [hg]; rfl)); apply opT_of; (refine r_load_ptr rfl rfl (by decide) rfl rfl rfl ?_); refine r_nil ?_; exact rfl
          · exact rfl
          · exact rfl
          apply r_guard (s := 82) rfl rfl rfl
          · intro hg; apply opT_of; (refine mvR rfl ?_); refine r_nil ?_; exact rfl
          · exact rfl
          · exact rfl
          apply r_guard (s := 82) rfl rfl rfl
          · intro hg; apply opT_strip (s := 85) rfl (by (rw [hg]; rfl)); apply opT_of; (refine r_len_row rfl rfl rfl ?_); refine r_nil ?_; exact rfl
          · exact rfl
          · exact rfl
          apply r_guard (s := 82) rfl rfl rfl
          · intro hg; apply opT_strip (s := 84) rfl (by (rw [hg]; rfl)); apply opT_strip (s := 86) rfl (by (rw [hg]; rfl)); apply opT_of; (refine r_bin rfl rfl rfl ?_); refine r_nil ?_; exact rfl
          · exact rfl
          · exact rfl
          refine r_or rfl rfl ?_
          refine mvB rfl ?_
          apply r_guard (s := 89) rfl rfl rfl
          · intro hg; apply opT_of; (refine r_field_ptr rfl rfl rfl rfl rfl (by decide) ?_); refine r_nil ?_; exact rfl
          · exact rfl
          · exact rfl
          apply r_guard (s := 89) rfl rfl rfl
          · intro hg; apply opT_strip (s := 90) rfl (by (rw [hg]; rfl)); apply opT_of; (refine r_load_ptr rfl rfl (by decide) rfl rfl rfl ?_); refine r_nil ?_; exact rfl
          · exact rfl
          · exact rfl
          apply r_guard (s := 89) rfl rfl rfl
          · intro hg; apply opT_strip (s := 91) rfl (by (rw [hg]; rfl)); apply opT_of; (refine r_bin rfl rfl rfl ?_); refine r_nil ?_; exact rfl
          · exact rfl
          · exact rfl
          refine r_or rfl rfl ?_
          refine mvB rfl ?_
          apply r_guard (s := 94) rfl rfl rfl
          · intro hg; apply opT_of; (refine r_field_ptr rfl rfl rfl rfl rfl (by decide) ?_); refine r_nil ?_; exact rfl
          · exact rfl
          · exact rfl
          apply r_guard (s := 94) rfl rfl rfl
          · intro hg; apply opT_strip (s := 95) rfl (by (rw [hg]; rfl)); apply opT_of; (refine r_load_ptr rfl rfl (by decide) rfl rfl rfl ?_); refine r_nil ?_; exact rfl
          · exact rfl
          · exact rfl
          apply r_guard (s := 94) rfl rfl rfl
          · intro hg; apply opT_strip (s := 96) rfl (by (rw [hg]; rfl)); apply opT_of; (refine r_bin rfl rfl rfl ?_); refine r_nil ?_; exact rfl
          · exact rfl
          · exact rfl
          refine r_or rfl rfl ?_
          refine mvB rfl ?_
          apply r_guard (s := 99) rfl rfl rfl
          · intro hg; apply opT_of; (refine r_load_ppN rfl rfl rfl (by exact Nat.le_of_ble_eq_true rfl) ?_); refine r_nil ?_; exact rfl
          · exact rfl
          · exact rfl
          apply r_guard (s := 99) rfl rfl rfl
          · intro hg; apply opT_of; (refine r_field_ptr rfl rfl rfl rfl rfl (by decide) ?_); refine r_nil ?_; exact rfl
          · exact rfl
          · exact rfl
          apply r_guard (s := 99) rfl rfl rfl
          · intro hg; apply opT_strip (s := 101) rfl (by (rw [hg]; rfl)); apply opT_of; (refine r_load_ptr rfl rfl (by decide) rfl rfl rfl ?_); refine r_nil ?_; exact rfl
          · exact rfl
          · exact rfl
          apply r_guard (s := 99) rfl rfl rfl
          · intro hg; apply opT_of; (refine r_field_ptr rfl rfl rfl rfl rfl (by decide) ?_); refine r_nil ?_; exact rfl
          · exact rfl
          · exact rfl
          apply r_guard (s := 99) rfl rfl rfl
          · intro hg; apply opT_strip (s := 103) rfl (by (rw [hg]; rfl)); apply opT_of; (refine r_load_ptr rfl rfl (by decide) rfl rfl rfl ?_); refine r_nil ?_; exact rfl
          · exact rfl
          · exact rfl
          apply r_guard (s := 99) rfl rfl rfl
          · intro hg; apply opT_strip (s := 100) rfl (by (rw [hg]; rfl)); apply opT_strip (s := 102) rfl (by (rw [hg]; rfl)); apply opT_strip (s := 104) rfl (by (rw [hg]; rfl)); apply opT_of; (refine r_call (c_ahead5 f hr (nth pays q.1).dst (nth pays q.1).src (pay_in hal hg).2.1 (pay_in hal hg).1) rfl rfl rfl rfl rfl ?_); refine r_nil ?_; exact rfl
          · exact rfl
          · exact rfl
          apply r_guard (s := 99) rfl rfl rfl
          · intro hg; apply opT_strip (s := 105) rfl (by (rw [hg]; rfl)); apply opT_of; (refine r_not rfl ?_); refine r_nil ?_; exact rfl
          · exact rfl
          · exact rfl
          refine r_or rfl rfl ?_
          refine r_nil ?_
          refine i_then ?_
          refine t_cond rfl (fun hc3 => ?_) (fun hc3 => ?_)
          ·
            refine t_seq ?_
            refine t_region ?_
            refine asI rfl ?_
            refine asB rfl ?_
            refine r_nil ?_
            refine i_then ?_
            refine t_ret ?_
            refine i_then_ret ?_
            refine i_block_ret ?_
            refine i_then_ret ?_
            refine i_then_ret ?_
            refine i_block_ret ?_
            refine i_then_ret ?_
            refine i_rp2 rfl rfl rfl ?_ ?_
            all_goals skip
            all_goals exact ret_eq rfl rfl (by rw [bound_bad h hb (by omega) (not_ok hal hc3)]; rfl)
          ·
            refine t_skip ?_
            refine i_then ?_
            refine t_seq ?_
            have hok := ok_of hal hc3
            have hsr := hok.src
            have hds := hok.dst
            have hmu := hok.much
            have hs1 := sums_in hq q.2.2 ((nth pays q.1).src.toNat : Nat)
            have hs2 := sums_in hq q.2.2 ((nth pays q.1).dst.toNat : Nat)
            have hb1 := byU_nth f pays q.1 (t := (nth pays q.1).src.toNat) (by omega)
            have ht1 := toU_nth f pays q.1 (t := (nth pays q.1).dst.toNat) (by omega)
            refine t_draw mixed rfl ?_
            refine mvV rfl ?_
            refine r_field_ptr rfl rfl rfl rfl rfl (by decide) ?_
            refine r_load_ptr rfl rfl (by decide) rfl rfl rfl ?_
            refine r_index_vsI rfl rfl rfl rfl rfl (by omega) (by omega) ?_
            refine r_load_vecB rfl rfl rfl (by decide) rfl rfl (by omega) rfl ?_
            refine r_field_ptr rfl rfl rfl rfl rfl (by decide) ?_
            refine r_load_ptr rfl rfl (by decide) rfl rfl rfl ?_
            refine r_add rfl rfl (by omega) (by omega) ?_
            refine r_index_vsI rfl rfl rfl rfl rfl (by omega) (by omega) ?_
            refine r_store_vecB rfl rfl rfl (by decide) rfl rfl (by exact (rfl : _ = Ty.int _ _)) rfl (by omega) (by decide) rfl rfl ?_
            refine r_nil ?_
            refine ⟨by kernel_rfl, ?_⟩
            refine i_then ?_
            refine t_seq ?_
            refine t_draw mixed rfl ?_
            refine mvV rfl ?_
            refine r_field_ptr rfl rfl rfl rfl rfl (by decide) ?_
            refine r_load_ptr rfl rfl (by decide) rfl rfl rfl ?_
            refine r_index_vsI rfl rfl rfl rfl rfl (by omega) (by omega) ?_
            refine r_load_vecB rfl rfl rfl (by decide) rfl rfl (by omega) rfl ?_
            refine r_field_ptr rfl rfl rfl rfl rfl (by decide) ?_
            refine r_load_ptr rfl rfl (by decide) rfl rfl rfl ?_
            refine r_add rfl rfl (by omega) (by omega) ?_
            refine r_index_vsI rfl rfl rfl rfl rfl (by omega) (by omega) ?_
            refine r_store_vecB rfl rfl rfl (by decide) rfl rfl (by exact (rfl : _ = Ty.int _ _)) rfl (by omega) (by decide) rfl rfl ?_
            refine r_nil ?_
            refine ⟨by kernel_rfl, ?_⟩
            refine i_then ?_
            refine t_region ?_
            refine mvI rfl ?_
            refine r_field_ptr rfl rfl rfl rfl rfl (by decide) ?_
            refine r_load_ptr rfl rfl (by decide) rfl rfl rfl ?_
            refine r_sub rfl rfl (by omega) (by omega) ?_
            refine asI rfl ?_
            refine r_nil ?_
            refine i_block ?_
            refine i_then ?_
            refine t_region ?_
            refine r_add rfl rfl (by omega) (by omega) ?_
            refine mvI rfl ?_
            refine r_nil ?_
            refine i_round (⟨q.1 + 1, by omega, ok_succ (by omega) q.2.2 hok⟩) ?_ (by show pays.length - (q.1 + 1) < pays.length - q.1; omega)
            (refine Ent.mk' ?_ ?_ <;> (repeat' (first | exact allSub_zero | exact allTags_nil | refine allSub_succ' ?_ (Ty.sub_any _) | refine allSub_succ' ?_ (Ty.sub_refl _) | refine allTags_cons rfl ?_ ?_ | refine allSub_succ' ?_ ?_)))
            all_goals skip
            all_goals first | exact Cont.sub_vec (byU_set f (by omega) (by omega) (by omega)) | exact Cont.sub_vec (toU_set f (by omega) (by omega) (by omega)) | exact Ty.sub_int (by rw [total_step pays (by omega)]; omega)
        ·
          refine t_exit ?_
          refine i_then_exit ?_
          refine i_then_exit ?_
          refine i_block_exit rfl ?_
          refine i_then ?_
          refine t_seq ?_
          refine t_seq ?_
          obtain ⟨q, hq1, hqo⟩ := q
          obtain rfl : q = pays.length := by have hx : ¬ (q : Int) < (pays.length : Nat) := hc2; omega
          refine t_region ?_
          refine mvR rfl ?_
          refine r_len_row rfl rfl rfl ?_
          refine mvI rfl ?_
          refine r_nil ?_
          refine i_then ?_
          refine t_block ?_
          refine t_loop (fun (k : {k : Nat // k ≤ f.turnings.length ∧ FitU f b pays k}) => live [(8, Ty.row I64 3 44 (addsU f b f.turnings.length)), (9, Ty.int .i64 (upU f b f.turnings.length - total pays)), (12, Ty.vs 58 f.turnings.length), (13, Ty.vs 61 f.turnings.length), (131, Ty.row I64 3 44 (addsU f b f.turnings.length)), (132, Ty.int .i64 f.turnings.length), (133, Ty.int .i64 (k.1 : Nat))] [(58, Cont.vec I64 3 (byU f pays pays.length)), (61, Cont.vec I64 3 (toU f pays pays.length))]) (fun k => f.turnings.length - k.1) (⟨0, by omega, fun t ht => by omega⟩) ?_ fun k => ?_
          · (refine Ent.mk' ?_ ?_ <;> (repeat' (first | exact allSub_zero | exact allTags_nil | refine allSub_succ' ?_ (Ty.sub_any _) | refine allSub_succ' ?_ (Ty.sub_refl _) | refine allTags_cons rfl (Cont.sub_refl _) ?_ | refine allSub_succ' ?_ ?_)))
            all_goals first | exact Ty.sub_int (by rw [List.take_length]) | exact Ty.sub_int (by rw [addsU_len])
          ·
            have hk := k.2.1
            have hal := addsU_len f b f.turnings.length
            have hbl := byU_len f pays pays.length
            have htl := toU_len f pays pays.length
            refine t_seq ?_
            refine t_region ?_
            refine r_bin rfl rfl rfl ?_
            refine r_nil ?_
            refine i_then ?_
            refine t_seq ?_
            refine t_cond_dec rfl (fun hc4 => ?_) (fun hc4 => ?_)
            ·
              refine t_skip ?_
              refine i_then ?_
              refine t_seq ?_
              refine t_block ?_
              refine t_seq ?_
              refine t_region ?_
              refine mvI rfl ?_
              refine r_index_rowN rfl rfl rfl rfl rfl rfl (by omega) ?_
              refine r_load_op rfl rfl rfl rfl ?_
              refine asI rfl ?_
              refine asI rfl ?_
              refine r_nil ?_
              refine i_then ?_
              refine t_seq ?_
              refine t_region ?_
              refine mvV rfl ?_
              refine mvI rfl ?_
              refine r_index_vs rfl rfl rfl rfl rfl (by omega) ?_
              refine r_load_vecB rfl rfl rfl (by decide) rfl rfl (by omega) rfl ?_
              refine mvI rfl ?_
              refine r_max rfl rfl ?_
              refine r_bin rfl rfl rfl ?_
              refine mvB rfl ?_
              apply r_guard (s := 145) rfl rfl rfl
              · intro hg; apply opT_of; (refine mvV rfl ?_); refine r_nil ?_; exact rfl
              · exact rfl
              · exact rfl
              apply r_guard (s := 145) rfl rfl rfl
              · intro hg; apply opT_of; (refine mvI rfl ?_); refine r_nil ?_; exact rfl
              · exact rfl
              · exact rfl
              apply r_guard (s := 145) rfl rfl rfl
              · intro hg; apply opT_strip (s := 146) rfl (by (rw [hg]; rfl)); apply opT_strip (s := 147) rfl (by (rw [hg]; rfl)); apply opT_of; (refine r_index_vs rfl rfl rfl rfl rfl (by omega) ?_); refine r_nil ?_; exact rfl
              · exact rfl
              · exact rfl
              apply r_guard (s := 145) rfl rfl rfl
              · intro hg; apply opT_strip (s := 148) rfl (by (rw [hg]; rfl)); apply opT_of; (refine r_load_vecB rfl rfl rfl (by decide) rfl rfl (by omega) rfl ?_); refine r_nil ?_; exact rfl
              · exact rfl
              · exact rfl
              apply r_guard (s := 145) rfl rfl rfl
              · intro hg; apply opT_of; (refine mvI rfl ?_); refine r_nil ?_; exact rfl
              · exact rfl
              · exact rfl
              apply r_guard (s := 145) rfl rfl rfl
              · intro hg; apply opT_strip (s := 150) rfl (by (rw [hg]; rfl)); apply opT_of; (refine r_neg rfl ?_); refine r_nil ?_; exact rfl
              · exact rfl
              · exact rfl
              apply r_guard (s := 145) rfl rfl rfl
              · intro hg; apply opT_strip (s := 151) rfl (by (rw [hg]; rfl)); apply opT_of; (refine r_max rfl rfl ?_); refine r_nil ?_; exact rfl
              · exact rfl
              · exact rfl
              apply r_guard (s := 145) rfl rfl rfl
              · intro hg; apply opT_strip (s := 149) rfl (by (rw [hg]; rfl)); apply opT_strip (s := 152) rfl (by (rw [hg]; rfl)); apply opT_of; (refine r_bin rfl rfl rfl ?_); refine r_nil ?_; exact rfl
              · exact rfl
              · exact rfl
              refine r_or rfl rfl ?_
              refine r_nil ?_
              refine i_then ?_
              refine t_cond rfl (fun hc5 => ?_) (fun hc5 => ?_)
              ·
                refine t_seq ?_
                refine t_region ?_
                refine asI rfl ?_
                refine asB rfl ?_
                refine r_nil ?_
                refine i_then ?_
                refine t_ret ?_
                refine i_block_ret ?_
                refine i_then_ret ?_
                refine i_then_ret ?_
                refine i_block_ret ?_
                refine i_then_ret ?_
                refine i_rp2 rfl rfl rfl ?_ ?_
                all_goals skip
                all_goals exact ret_eq rfl rfl (by rw [bound_unfit h hb (by omega) (not_fit hr (by omega) hc5)]; rfl)
              ·
                refine t_skip ?_
                refine i_block ?_
                refine i_then ?_
                refine t_region ?_
                refine r_add rfl rfl (by omega) (by omega) ?_
                refine mvI rfl ?_
                refine r_nil ?_
                refine i_round (⟨k.1 + 1, by omega, fit_succ k.2.2 (fit_of hr (by omega) hc5).1 (fit_of hr (by omega) hc5).2⟩) ?_ (by show f.turnings.length - (k.1 + 1) < f.turnings.length - k.1; omega)
                (refine Ent.mk' ?_ ?_ <;> (repeat' (first | exact allSub_zero | exact allTags_nil | refine allSub_succ' ?_ (Ty.sub_any _) | refine allSub_succ' ?_ (Ty.sub_refl _) | refine allTags_cons rfl (Cont.sub_refl _) ?_)))
                all_goals skip
            ·
              refine t_exit ?_
              refine i_then_exit ?_
              refine i_then_exit ?_
              refine i_block_exit rfl ?_
              refine i_then ?_
              refine t_seq ?_
              refine t_region ?_
              refine mvI rfl ?_
              refine asI rfl ?_
              refine asB rfl ?_
              refine r_nil ?_
              refine i_then ?_
              refine t_ret ?_
              refine i_rp2 rfl rfl rfl ?_ ?_
              all_goals skip
              all_goals exact ret_eq rfl rfl (by rw [bound_end h hb hqo (by have h1 := k.2.2; rw [show k.1 = f.turnings.length by omega] at h1; exact h1)]; rfl)
end Go.Proofs.Ytifgbnbkimcchaa

namespace Go.Proofs.Ytifgbnbkimcchaa
open Go Go.T
set_option maxHeartbeats 2000000
attribute [local irreducible] dInt dBool dSl dPp dPtr dAgg dTup dClo dAny dEx dStr dGd dCells dVec dVs dRow dOp nth Tri Into TOps Ctr bodyPost Exit.then Exit.inBlock Code.wp Code.wpIn dWhen dPa dPe dAo dArr dMp dPm dMap dCJ CtrG CtrI OpY keepPost iterPost bodyPostM roundQ
def oneB (f : Flr) (x y : Int) : Int := if oneT f x = oneT f y then (oneT f x + 1).tmod f.turnings.length else oneT f y
theorem made5r (g : List Int) (t : Nat) (ht : t ≤ 8) : ∃ f s', checkP f = 0 ∧ f.turnings.length ≤ t ∧ f.rules.length ≤ 5 ∧ CtrG Try.prog 52 [1000] [(1000, Cont.cells 158 (skTys (skFill g)))] [Ty.ptr 1000 0, Ty.int .i64 (t : Nat)] [(1000, Cont.cells 158 (skTys s'))] (flrT f) :=
  ⟨_, _, made_right g t ht, by have h := (Md.T_in ⟨skFill g, t⟩).1; have e := (Md.tkOk ⟨skFill g, t⟩ (Md.T ⟨skFill g, t⟩)).trn; exact Nat.le_trans (Nat.le_of_eq e) h, by have h := (Md.ruOk ⟨skFill g, t⟩ (Md.R ⟨skFill g, t⟩)).1; have h2 := (Md.R_in ⟨skFill g, t⟩).1; exact Nat.le_trans h h2, c_Made5 ⟨skFill g, t⟩ ht (fill_ok g)⟩
attribute [local irreducible] Md.flr oneT oneB cntR sumC pairR waitP keepR
end Go.Proofs.Ytifgbnbkimcchaa

namespace Go.Proofs.Ytifgbnbkimcchaa
open Go Go.T
set_option maxHeartbeats 2000000
attribute [local irreducible] dInt dBool dSl dPp dPtr dAgg dTup dClo dAny dEx dStr dGd dCells dVec dVs dRow dOp nth Tri Into TOps Ctr bodyPost Exit.then Exit.inBlock Code.wp Code.wpIn dWhen dPa dPe dAo dArr dMp dPm dMap dCJ CtrG CtrI OpY keepPost iterPost bodyPostM roundQ
attribute [local irreducible] Md.flr tryS tryO waitP keepR mustV mustR aheadR aheadE mostP moreF
end Go.Proofs.Ytifgbnbkimcchaa

namespace Go.T
open Go Go.RowKit
def dNsl {α : Type} (E : El α) (xs : List α) (w : World) (M : Tags) (v : Value) : Prop := dSl E xs w M v ∧ (xs = [] → v = .slice none 0 0)
def Ty.nsl {α : Type} (E : El α) (xs : List α) : Ty :=
  { den := dNsl E xs, deps := [], cdeps := [], mono := fun le hk hs h => ⟨(Ty.sl E xs).mono le hk hs h.1, h.2⟩, one := true, isOne := fun _ ⟨⟨_, _, e, _⟩, _⟩ => e ▸ rfl }
theorem Ty.nsl_sl {α : Type} {E : El α} {xs : List α} : (Ty.nsl E xs).Sub (Ty.sl E xs) := fun _ _ _ h => h.1
theorem rg_nsl_nil {L : List Nat} {α : Type} {E : El α} {xs : List α} (e : xs = []) : RetG L (Ty.ex (.slice none 0 0)) (Ty.nsl E xs) := fun w M v wf h => by
  subst e
  exact ⟨rg_cv (L := L) (cv_nilsl (E := E)) w M v wf h, fun _ => h⟩
theorem rg_nsl_sl {L : List Nat} {α : Type} {E : El α} {xs : List α} (e : xs ≠ []) : RetG L (Ty.sl E xs) (Ty.nsl E xs) := fun w M v wf h => ⟨rg_cv (L := L) (cv_pub rfl rfl) w M v wf h, fun hx => absurd hx e⟩
theorem rg_nsl {L : List Nat} {α : Type} {E : El α} {xs ys : List α} (e : xs = ys) : RetG L (Ty.nsl E xs) (Ty.nsl E ys) := by
  subst e; exact rg_cv (cv_pub rfl rfl)
theorem rg_nsl_row {L : List Nat} {α : Type} {E : El α} {T tg : Nat} {xs ys : List α} (h : 1 ≤ tg) (hL : L.contains tg = false) (e : xs = ys) (hne : ys ≠ []) : RetG L (Ty.row E T tg xs) (Ty.nsl E ys) := fun w M v wf hd => ⟨rg_row h hL e w M v wf hd, fun hx => absurd hx hne⟩
section
variable {P : Program} {fr : Fr} {ops : Array Oper} {A : As} {rest : List Oper} {K : As → List (As × Fx) → Prop} {d : Nat} {t ty' ty2 : TypeId} {p : String} {e : Array Edge} {x : Operand}
theorem mvN {α : Type} {E : El α} {xs : List α} (hx : A.op fr x = .nsl E xs) (h : TOps P fr ops rest (A.set d (.nsl E xs)) fun A' l => K A' ((A, { d := some d, ty := .nsl E xs, rs := opR x }) :: l)) : TOps P fr ops (⟨some d, .move x, t, p, e, none⟩ :: rest) A K := r_move hx h
theorem asN {α : Type} {E : El α} {xs : List α} (hx : A.op fr x = .nsl E xs) (h : TOps P fr ops rest (A.set d (.nsl E xs)) fun A' l => K A' ((A, { d := some d, ty := .nsl E xs, rs := opR x }) :: l)) : TOps P fr ops (⟨some d, .assign x, t, p, e, none⟩ :: rest) A K := r_assign hx h
theorem nsl_nil {α : Type} {E : El α} {xs : List α} {w : World} {M : Tags} {v : Value} (h : dNsl E xs w M v) : ∃ ad n c, v = .slice ad n c ∧ ad.isNone = xs.isEmpty := by
  obtain ⟨⟨ad, c, ex, _, _, hp⟩, hn⟩ := h
  refine ⟨ad, _, c, ex, ?_⟩
  cases xs with
  | nil => have := hn rfl; rw [ex] at this; injection this with h1; rw [h1]; rfl
  | cons y l =>
    obtain ⟨b, off, e, _⟩ := hp (by simp)
    rw [e]; rfl
theorem r_eqnilN {α : Type} {E : El α} {xs : List α} {el : TypeId} (hu : P.underlying ty' = some (.slice el)) (hx : A.op fr x = .nsl E xs)
    (h : TOps P fr ops rest (A.set d (.bool xs.isEmpty)) fun A' l' => K A' ((A, { d := some d, ty := .bool xs.isEmpty, rs := opR x }) :: l')) : TOps P fr ops (⟨some d, .binOp .eql ty' x (.const (.slice none 0 0)) ty2, t, p, e, none⟩ :: rest) A K :=
  tops_pure (opT_pure (rt := []) rfl rfl fun a w M _ hr _ => by
    have := op_den (x := x) (fun _ h => h) hr
    rw [hx] at this
    obtain ⟨ad, n, c, ex, hn⟩ := nsl_nil this
    have ey : a.eval (.const (.slice none 0 0)) = .slice none 0 0 := rfl
    exact ⟨.bool ad.isNone, by simp only [execOp, ex, ey]; simp [eqGuard, binOp, go_sem, run_equal_nil hu], by rw [hn]; rfl⟩) h
theorem r_neqnilN {α : Type} {E : El α} {xs : List α} {el : TypeId} (hu : P.underlying ty' = some (.slice el)) (hx : A.op fr x = .nsl E xs)
    (h : TOps P fr ops rest (A.set d (.bool (!xs.isEmpty))) fun A' l' => K A' ((A, { d := some d, ty := .bool (!xs.isEmpty), rs := opR x }) :: l')) : TOps P fr ops (⟨some d, .binOp .neq ty' x (.const (.slice none 0 0)) ty2, t, p, e, none⟩ :: rest) A K :=
  tops_pure (opT_pure (rt := []) rfl rfl fun a w M _ hr _ => by
    have := op_den (x := x) (fun _ h => h) hr
    rw [hx] at this
    obtain ⟨ad, n, c, ex, hn⟩ := nsl_nil this
    have ey : a.eval (.const (.slice none 0 0)) = .slice none 0 0 := rfl
    exact ⟨.bool (!ad.isNone), by simp only [execOp, ex, ey]; simp [eqGuard, binOp, go_sem, run_equal_nil hu], by rw [hn]; rfl⟩) h
end
end Go.T

namespace Go.Proofs.Ytifgbnbkimcchaa
open Go Go.T
def paid64 (l : Led) : List Int := (List.range 64).map (nth l.paid)
def ledTys (l : Led) : List Ty := Ty.pe BrdE l.w 0 :: Ty.int .i64 l.bay :: (paid64 l).flatMap I64.tys
theorem paid64_len (l : Led) : (paid64 l).length = 64 := by simp [paid64]
theorem paid64_nth (l : Led) {c : Nat} (h : c < 64) : nth (paid64 l) c = nth l.paid c := nth_map_range _ h
def LedE : El Led := ⟨66, ledTys, fun l => by unfold ledTys; rw [List.length_cons, List.length_cons, flat_len, paid64_len]; rfl,
  fun l => deps_cons rfl (deps_cons rfl (El.flat_deps _ _)), fun l => cdeps_cons rfl (cdeps_cons rfl (El.flat_cdeps _ _)), fun l => by
  rw [List.all_eq_true]
  intro t ht
  rcases List.mem_cons.1 ht with rfl | ht
  · rfl
  · rcases List.mem_cons.1 ht with rfl | ht
    · rfl
    · exact flat_ones _ _ t ht⟩
def BoolE : El Bool := El.mk' 1 (fun b => [Ty.bool b]) (fun _ => rfl) (fun _ => ⟨rfl, rfl, rfl⟩)
theorem led_get (l : Led) {c : Nat} (h : c < 64) : (LedE.tys l)[2 + c]? = some (Ty.int .i64 (nth l.paid c)) := by
  show (Ty.pe BrdE l.w 0 :: Ty.int .i64 l.bay :: (paid64 l).flatMap I64.tys)[2 + c]? = _
  rw [show 2 + c = c + 1 + 1 by omega, List.getElem?_cons_succ, List.getElem?_cons_succ]
  have := flat_elem I64 (paid64 l) (k := c) (by rw [paid64_len]; exact h) 0 (Ty.int .i64 (nth (paid64 l) c)) rfl
  rw [paid64_nth l h] at this
  rw [← this]
  congr 1
  show c = c * 1 + 0; omega
theorem led_P (l : Led) {o t : Nat} (ho : o < 8) (ht : t < 8) : (LedE.tys l)[2 + (o * 8 + t)]? = some (Ty.int .i64 (l.P o t)) := led_get l (by omega)
theorem paid64_set {l : Led} (hl : l.paid.length = 64) {c : Nat} (v : Int) : (paid64 l).set c v = paid64 { l with paid := l.paid.set c v } := by
  unfold paid64
  apply List.ext_getElem?
  intro i
  rw [List.getElem?_set]
  by_cases hi : i < 64
  · have e1 : ∀ q : Nat → Int, ((List.range 64).map q)[i]? = some (q i) := fun q => by simp [hi]
    rw [e1, e1]
    have e2 := nth_set_int (l := l.paid) (i := c) v i
    show _ = some (nth (l.paid.set c v) i)
    rw [e2]
    by_cases e : c = i
    · subst e
      rw [if_pos rfl, if_pos (by simpa using hi), if_pos ⟨rfl, by omega⟩]
    · rw [if_neg e, if_neg (fun x => e x.1)]
  · have e1 : ∀ q : Nat → Int, ((List.range 64).map q)[i]? = none := fun q => by simp; omega
    rw [e1, e1]
    split
    · rw [if_neg (by simp; omega)]
    · rfl
theorem led_set {l : Led} (hl : l.paid.length = 64) {c : Nat} (hc : c < 64) (v : Int) : (LedE.tys l).set (2 + c) (Ty.int .i64 v) = LedE.tys { l with paid := l.paid.set c v } := by
  show (Ty.pe BrdE l.w 0 :: Ty.int .i64 l.bay :: (paid64 l).flatMap I64.tys).set (2 + c) _ = Ty.pe BrdE l.w 0 :: Ty.int .i64 l.bay :: (paid64 { l with paid := l.paid.set c v }).flatMap I64.tys
  rw [show 2 + c = c + 1 + 1 by omega, List.set_cons_succ, List.set_cons_succ, ← paid64_set hl]
  have := flat_set I64 (y := v) (o := 0) (ty := Ty.int .i64 v) (paid64 l) c (by rw [paid64_len]; exact hc) rfl (by decide)
  rw [← this]
  congr 3
  show c = c * 1 + 0; omega
theorem led_add {l : Led} (hl : l.paid.length = 64) {o t : Nat} (ho : o < 8) (ht : t < 8) (m : Int) : (LedE.tys l).set (2 + (o * 8 + t)) (Ty.int .i64 (l.P o t + m)) = LedE.tys (addP l o t m) := led_set hl (by omega) _
structure LOk (l : Led) : Prop where
  fine : Fine l.w
  bay : l.bay < 4
  len : l.paid.length = 64
  nn : ∀ o t, o < 8 → t < 8 → 0 ≤ l.P o t ∧ l.P o t ≤ 1200
theorem LOk.add {l : Led} (h : LOk l) (t : Nat) : -1200 ≤ l.add t ∧ l.add t ≤ 1200 := addB_bound h.fine _ _
theorem sm_bound {g : Nat → Int} {B : Int} : ∀ k, (∀ i, i < k → 0 ≤ g i ∧ g i ≤ B) → 0 ≤ sm k g ∧ sm k g ≤ B * k
  | 0, _ => by rw [sm_zero]; omega
  | k + 1, h => by
    have h1 := sm_bound k fun i hi => h i (by omega)
    have h2 := h k (by omega)
    rw [sm_succ]
    have : B * ((k + 1 : Nat) : Int) = B * k + B := by rw [Int.natCast_add, Int.mul_add]; simp
    omega
theorem LOk.left {l : Led} (h : LOk l) {t : Nat} (ht : t < 8) {k : Nat} (hk : k ≤ 8) : -11000 ≤ leftUp l t k ∧ leftUp l t k ≤ 1200 := by
  have h1 := h.add t
  have h2 := sm_bound (g := fun o => l.P o t) (B := 1200) k fun i hi => h.nn i t (by omega) ht
  unfold leftUp; omega
theorem leftUp_succ (l : Led) (t k : Nat) : leftUp l t (k + 1) = leftUp l t k - l.P k t := by unfold leftUp; rw [sm_succ]; omega
theorem leftUp_zero (l : Led) (t : Nat) : leftUp l t 0 = -(l.add t) := by unfold leftUp; rw [sm_zero]; omega
theorem inv_ok {f : Flr} (h : checkP f = 0) {bay : Nat} (hb : bay < f.bears.length) {l : Led} (hi : LInv f bay l) : LOk l := by
  have hr := check_right h
  have hb4 := hr.ranged.bears
  have hfi : Fine l.w := by rw [hi.w]; exact boardsOf_fine h
  refine ⟨hfi, by rw [hi.bay]; omega, hi.len, fun o t ho ht => ⟨hi.nn o t ho ht, ?_⟩⟩
  have h1 := sm_ge (g := fun o => l.P o t) ho fun j hj => hi.nn j t hj ht
  have h2 := hi.col t ht
  have h3 := addB_bound hfi l.bay t
  have h4 : l.add t = addB l.w l.bay t := rfl
  have h5 : l.P o t ≤ sm 8 fun o => l.P o t := h1
  omega
end Go.Proofs.Ytifgbnbkimcchaa

namespace Go.Proofs.Ytifgbnbkimcchaa
open Go Go.T
set_option maxHeartbeats 2000000
attribute [local irreducible] dInt dBool dSl dPp dPtr dAgg dTup dClo dAny dEx dStr dGd dCells dVec dVs dRow dOp nth Tri Into TOps Ctr bodyPost Exit.then Exit.inBlock Code.wp Code.wpIn dWhen dPa dPe dAo dArr dMp dPm dMap dCJ CtrG CtrI OpY keepPost iterPost bodyPostM roundQ
theorem bay_adds {b : SB} {t bay off : Nat} (ht : t < 8) (hb : bay < 4) (h : off = 12 + (t * 4 + bay)) : (BrdE.tys b)[off]? = some (Ty.int .i64 (addB b bay t)) := by
  subst h; exact brd_adds b.2 (by omega)
theorem led_at {l : Led} {o t off : Nat} (ho : o < 8) (ht : t < 8) (h : off = 2 + (o * 8 + t)) : (LedE.tys l)[off]? = some (Ty.int .i64 (l.P o t)) := by
  subst h; exact led_P l ho ht
theorem neg_add (l : Led) (t : Nat) (h : -1200 ≤ l.add t ∧ l.add t ≤ 1200) : IntKind.i64.wrap (0 - addB l.w l.bay t) = leftUp l t 0 := by
  rw [leftUp_zero]
  unfold Led.add at *
  rw [wrap_in (by omega)]; omega
attribute [local irreducible] Led.P Led.add leftUp leftM LedE BrdE BoolE
set_option maxRecDepth 100000 in
theorem c_left (l : Led) (hl : LOk l) (t : Nat) (ht : t < 8) : CtrG Try.prog 151 [1000] [(1000, Cont.vec LedE 168 [l])] [Ty.ptr 1000 0, Ty.int .i64 (t : Nat)] [(1000, Cont.vec LedE 168 [l])] (Ty.int .i64 (leftM l t)) := by
  refine fnG_intro Try.func151 rfl (by decide) Try.ntmps151 (by exact Nat.le_of_ble_eq_true rfl) fun w0 M0 => ?_
  have hb := hl.bay
  have ha := hl.add t
  have had : addB l.w l.bay t = l.add t := by unfold Led.add; rfl
  refine t_seq ?_
  refine t_region ?_
  refine asI rfl ?_
  refine r_nil ?_
  refine i_then ?_
  refine t_seq ?_
  refine t_draw mixed rfl ?_
  refine mvO rfl ?_
  refine r_nilCheck_ptr rfl ?_
  refine r_field_ptr rfl rfl rfl rfl rfl (by decide) ?_
  refine r_load_ob (ty := Ty.pe BrdE l.w 0) rfl rfl (by decide) rfl rfl (by unfold LedE; rfl) ?_
  refine mvI rfl ?_
  refine mvO rfl ?_
  refine r_nilCheck_ptr rfl ?_
  refine r_field_ptr rfl rfl rfl rfl rfl (by decide) ?_
  refine r_load_ob (ty := Ty.int .i64 l.bay) rfl rfl (by decide) rfl rfl (by unfold LedE; rfl) ?_
  refine r_nilCheck_pe rfl ?_
  refine r_field_pe rfl rfl rfl rfl rfl (by decide) ?_
  refine r_index_pe rfl rfl rfl rfl rfl (by omega) ?_
  refine r_index_pe rfl rfl rfl rfl rfl (by omega) ?_
  refine r_load_pe (ty := Ty.int .i64 (addB l.w l.bay t)) rfl rfl rfl (bay_adds ht hb (by show 0 + 12 + t * 4 + l.bay * 1 = _; omega)) ?_
  refine r_neg rfl ?_
  refine asI rfl ?_
  refine r_nil ?_
  refine ⟨by kernel_rfl, ?_⟩
  refine i_then ?_
  refine t_seq ?_
  refine t_seq ?_
  refine t_region ?_
  refine mvI rfl ?_
  refine r_nil ?_
  refine i_then ?_
  refine t_block ?_
  refine t_loop (fun (k : {k : Nat // k ≤ 8}) => live [(0, Ty.ptr 1000 0), (1, Ty.int .i64 (t : Nat)), (5, Ty.int .i64 (leftUp l t k.1)), (22, Ty.int .i64 (k.1 : Nat))] [(1000, Cont.vec LedE 168 [l])]) (fun k => 8 - k.1) (⟨0, by omega⟩) ?_ fun k => ?_
  · (refine Ent.mk' ?_ ?_ <;> (repeat' (first | exact allSub_zero | exact allTags_nil | refine allSub_succ' ?_ (Ty.sub_any _) | refine allSub_succ' ?_ (Ty.sub_refl _) | refine allTags_cons rfl (Cont.sub_refl _) ?_ | refine allSub_succ' ?_ ?_)))
    all_goals exact Ty.sub_int (neg_add l t ha)
  ·
    have hk := k.2
    have hlu := hl.left ht (k := k.1) (by omega)
    refine t_seq ?_
    refine t_region ?_
    refine r_bin rfl rfl rfl ?_
    refine r_nil ?_
    refine i_then ?_
    refine t_seq ?_
    refine t_cond_dec rfl (fun hc1 => ?_) (fun hc1 => ?_)
    ·
      refine t_skip ?_
      refine i_then ?_
      refine t_seq ?_
      refine t_block ?_
      refine t_seq ?_
      refine t_region ?_
      refine mvI rfl ?_
      refine asI rfl ?_
      refine r_nil ?_
      refine i_then ?_
      have hn := hl.nn k.1 t (by omega) ht
      refine t_region ?_
      refine mvI rfl ?_
      refine mvO rfl ?_
      refine mvI rfl ?_
      refine mvI rfl ?_
      refine r_nilCheck_ptr rfl ?_
      refine r_field_ptr rfl rfl rfl rfl rfl (by decide) ?_
      refine r_index_ptr rfl rfl rfl rfl rfl (by omega) ?_
      refine r_index_ptr rfl rfl rfl rfl rfl (by omega) ?_
      refine r_load_ob (ty := Ty.int .i64 (l.P k.1 t)) rfl rfl (by decide) rfl rfl (led_at (by omega) ht (by show 0 + 2 + k.1 * 8 + t * 1 = _; omega)) ?_
      refine r_sub rfl rfl (by omega) (by omega) ?_
      refine asI rfl ?_
      refine r_nil ?_
      refine i_block ?_
      refine i_then ?_
      refine t_region ?_
      refine r_add rfl rfl (by omega) (by omega) ?_
      refine mvI rfl ?_
      refine r_nil ?_
      refine i_round (⟨k.1 + 1, by omega⟩) ?_ (by show 8 - (k.1 + 1) < 8 - k.1; omega)
      (refine Ent.mk' ?_ ?_ <;> (repeat' (first | exact allSub_zero | exact allTags_nil | refine allSub_succ' ?_ (Ty.sub_any _) | refine allSub_succ' ?_ (Ty.sub_refl _) | refine allTags_cons rfl (Cont.sub_refl _) ?_ | refine allSub_succ' ?_ ?_)))
      all_goals skip
      all_goals exact Ty.sub_int (leftUp_succ l t k.1).symm
    ·
      refine t_exit ?_
      refine i_then_exit ?_
      refine i_then_exit ?_
      refine i_block_exit rfl ?_
      refine i_then ?_
      refine t_seq ?_
      refine t_region ?_
      refine mvI rfl ?_
      refine asI rfl ?_
      refine r_nil ?_
      refine i_then ?_
      refine t_ret ?_
      refine g_ret1 [1000] rfl rfl (by decide) (by repeat (first | exact rc_nil | refine rc_cons rfl (cc_vec (by decide) rfl) ?_)) ?_
      all_goals skip
      all_goals exact rg_cv (cv_eq rfl rfl (congrArg (Ty.int .i64) (by rw [show k.1 = 8 by have := k.2; omega]; unfold leftM; rfl)))
abbrev wayPre (l : Led) (m : List Bool) : List (Nat × Cont) := [(1000, Cont.vec LedE 168 [l]), (1001, Cont.vec BoolE 185 m), (1002, Cont.cells 96 [Ty.clo 161 [Ty.pp [Ty.ptr 1000 0], Ty.ptr 1001 0, Ty.ptr 1002 0]])]
structure OIx (l : Led) (k f t : Nat) (m : List Bool) where
  i : Nat
  met : List Bool
  le : i ≤ l.T
  len : met.length = 8
  un : unm met < k
  same : othersM (wayM l k) l f t (List.range l.T) m = othersM (wayM l k) l f t ((List.range l.T).drop i) met
structure TIx (l : Led) (k f : Nat) (m : List Bool) where
  i : Nat
  met : List Bool
  le : i ≤ (tosOf l f).length
  len : met.length = 8
  un : unm met < k + 1
  same : tosM (wayM l k) l f (tosOf l f) m = tosM (wayM l k) l f ((tosOf l f).drop i) met
theorem range_drop {n i : Nat} (h : i < n) : (List.range n).drop i = i :: (List.range n).drop (i + 1) := by
  rw [List.drop_eq_getElem_cons (by simpa using h)]; simp
theorem others_at {l : Led} {k f t : Nat} {m : List Bool} (x : OIx l k f t m) (h : x.i < l.T) : othersM (wayM l k) l f t (List.range l.T) m = if (decide (x.i = f) || decide (l.P x.i t = 0)) = true then othersM (wayM l k) l f t ((List.range l.T).drop (x.i + 1)) x.met else if (wayM l k x.i x.met).1 = [] then othersM (wayM l k) l f t ((List.range l.T).drop (x.i + 1)) (wayM l k x.i x.met).2 else wayM l k x.i x.met := by
  rw [x.same, range_drop h, othersM]
theorem others_end {l : Led} {k f t : Nat} {m : List Bool} (x : OIx l k f t m) (h : ¬ x.i < l.T) : othersM (wayM l k) l f t (List.range l.T) m = ([], x.met) := by
  rw [x.same, List.drop_of_length_le (by rw [List.length_range]; omega), othersM]
theorem tos_at {l : Led} {k f : Nat} {m : List Bool} (x : TIx l k f m) (h : x.i < (tosOf l f).length) : tosM (wayM l k) l f (tosOf l f) m =
    if (decide (0 ≤ l.add (nth (tosOf l f) x.i).toNat) || nth x.met (nth (tosOf l f) x.i).toNat) = true then tosM (wayM l k) l f ((tosOf l f).drop (x.i + 1)) x.met else if 0 < leftM l (nth (tosOf l f) x.i).toNat then ([(f : Int), nth (tosOf l f) x.i], x.met.set (nth (tosOf l f) x.i).toNat true)
    else if (othersM (wayM l k) l f (nth (tosOf l f) x.i).toNat (List.range l.T) (x.met.set (nth (tosOf l f) x.i).toNat true)).1 = [] then tosM (wayM l k) l f ((tosOf l f).drop (x.i + 1)) (othersM (wayM l k) l f (nth (tosOf l f) x.i).toNat (List.range l.T) (x.met.set (nth (tosOf l f) x.i).toNat true)).2
    else ((f : Int) :: nth (tosOf l f) x.i :: (othersM (wayM l k) l f (nth (tosOf l f) x.i).toNat (List.range l.T) (x.met.set (nth (tosOf l f) x.i).toNat true)).1, (othersM (wayM l k) l f (nth (tosOf l f) x.i).toNat (List.range l.T) (x.met.set (nth (tosOf l f) x.i).toNat true)).2) := by
  rw [x.same, drop_nth h, tosM]
theorem tos_end {l : Led} {k f : Nat} {m : List Bool} (x : TIx l k f m) (h : ¬ x.i < (tosOf l f).length) : tosM (wayM l k) l f (tosOf l f) m = ([], x.met) := by
  rw [x.same, List.drop_of_length_le (by omega), tosM]
end Go.Proofs.Ytifgbnbkimcchaa
