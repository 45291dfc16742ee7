/- Lemmas: the program and the reference walked, plain laws. -/
import Derived.Test.YtjjndkenddigiaaGreatDoorQc
namespace Go.Proofs.YtjjndkenddigiaaGreatDoor
open Go Go.T
set_option maxHeartbeats 1000000
def KI : KeyK Tryz.prog 3 Int := intKey Tryz.prog 3 .i64 Tryz.underlying3
theorem keyI (n : Int) : KeyAt (Ty.int .i64 n) (KI.enc n) := key_int
theorem mapT169 : mapOf Tryz.prog 169 = some (3, 4) := by kernel_rfl
theorem zero4 : zeroOf Tryz.prog 4 = some (.bool false) := by kernel_rfl
theorem vb_zero : ∀ w M, (VBool.ty false).den w M (.bool false) := fun _ _ => rfl
attribute [local irreducible] tearB metK tearP
attribute [local irreducible] dInt dBool dSl dPp dPtr dAgg dTup dClo dAny dEx dStr dGd dCells dVec dVs dRow dOp nth Tri Into TOps Ctr bodyPost Exit.then Exit.inBlock Code.wp Code.wpIn dPa dArr dMp dMap CtrG keepPost iterPost bodyPostM roundQ
set_option maxRecDepth 100000 in
theorem c_Tear1 (text : Byt) (hl : text.length ≤ 1000000) (n : Int) : Ctr Tryz.prog 122 [Ty.int .i64 n, Ty.pp [Ty.str (bs text)]] (Ty.bool (inB n 0 ((text.length : Int) - 1))) := by
  refine fn_intro Tryz.func122 rfl (by decide) Tryz.ntmps122 (by exact Nat.le_of_ble_eq_true rfl) fun w0 M0 => ?_
  refine t_seq ?_
  refine t_region ?_
  refine asB rfl ?_
  refine r_nil ?_
  refine i_then ?_
  refine t_seq ?_
  refine t_region ?_
  refine mvI rfl ?_
  refine r_load_pp rfl rfl rfl rfl ?_
  refine r_lenS rfl rfl rfl ?_
  refine r_sub rfl rfl (by omega) (by omega) ?_
  refine r_call (c_in _ _ _) rfl rfl rfl rfl rfl ?_
  refine asB rfl ?_
  refine r_nil ?_
  refine i_then ?_
  refine t_ret ?_
  refine i_rp1 rfl rfl ?_
  all_goals exact ret_refl rfl rfl
set_option maxRecDepth 100000 in
theorem c_Tear (text : Byt) (l : List Int) (hl : l.length ≤ 1000000) : Ctr Tryz.prog 64 [Ty.str (bs text), Ty.sl I64 l] (Ty.tup [Ty.str (bs (tearV text l).1), Ty.int .i64 (tearV text l).2]) := by
  refine fn_intro Tryz.func64 rfl (by decide) Tryz.ntmps64 (by exact Nat.le_of_ble_eq_true rfl) fun w0 M0 => ?_
  refine t_seq ?_
  refine t_region ?_
  refine r_box_one (ty := Ty.str (bs text)) rfl rfl ?_
  refine asS' rfl ?_
  refine asI rfl ?_
  refine r_nil ?_
  refine i_then ?_
  refine t_seq ?_
  refine t_seq ?_
  refine t_region ?_
  refine r_load_pp rfl rfl rfl rfl ?_
  refine r_lenS rfl rfl rfl ?_
  refine r_bin rfl rfl rfl ?_
  refine r_nil ?_
  refine i_then ?_
  refine t_cond_dec rfl (fun hc1 => ?_) (fun hc1 => ?_)
  ·
    refine t_seq ?_
    refine t_region ?_
    refine asS' rfl ?_
    refine asI rfl ?_
    refine r_nil ?_
    refine i_then ?_
    refine t_ret ?_
    refine i_then_ret ?_
    refine i_rp2 rfl rfl rfl ?_ ?_
    all_goals skip
    all_goals (rw [te1 hc1]; exact ret_refl rfl rfl)
  ·
    refine t_skip ?_
    refine i_then ?_
    refine t_seq ?_
    refine t_seq ?_
    have htl : text.length ≤ 1000000 := by omega
    refine t_region ?_
    refine mvS rfl ?_
    refine r_makeFunc rfl ?_
    refine r_call (c_every_int l (Ty.clo _ [Ty.pp [Ty.str (bs text)]]) rfl (fun n => inB n 0 ((text.length : Int) - 1)) rfl rfl fun x _ => cal_clo (c_Tear1 text htl x) rfl rfl rfl rfl rfl rfl) rfl rfl rfl rfl rfl ?_
    refine r_not rfl ?_
    refine r_nil ?_
    refine i_then ?_
    refine t_cond rfl (fun hc2 => ?_) (fun hc2 => ?_)
    ·
      refine t_seq ?_
      refine t_region ?_
      refine asS' rfl ?_
      refine asI rfl ?_
      refine r_nil ?_
      refine i_then ?_
      refine t_ret ?_
      refine i_then_ret ?_
      refine i_rp2 rfl rfl rfl ?_ ?_
      all_goals skip
      all_goals (rw [te2 hc1 (off_yes hc2)]; exact ret_refl rfl rfl)
    ·
      refine t_skip ?_
      refine i_then ?_
      refine t_seq ?_
      refine t_region ?_
      refine r_makeMap (Value.int .i64) VBool mapT169 rfl ?_
      refine asM rfl ?_
      refine r_nil ?_
      refine i_then ?_
      refine t_seq ?_
      refine t_seq ?_
      refine t_region ?_
      refine mvS rfl ?_
      refine r_len rfl rfl rfl ?_
      refine mvI rfl ?_
      refine r_nil ?_
      refine i_then ?_
      refine t_block ?_
      refine t_loop (fun (k : {k : Nat // k ≤ l.length}) => live [(1, Ty.sl I64 l), (2, Ty.pp [Ty.str (bs text)]), (6, Ty.mp 19), (19, Ty.sl I64 l), (20, Ty.int .i64 l.length), (21, Ty.int .i64 (k.1 : Nat))] [(19, Cont.mp (Value.int .i64) VBool (metK l k.1))]) (fun k => l.length - k.1) (⟨0, Nat.zero_le _⟩) ?_ fun k => ?_
      · (refine Ent.mk' ?_ ?_ <;> (repeat' (first | exact allSub_zero | exact allTags_nil | refine allSub_succ' ?_ (Ty.sub_any _) | refine allSub_succ' ?_ (Ty.sub_refl _) | refine allTags_cons rfl ?_ ?_)))
        all_goals exact Cont.sub_mp (metK_0 l)
      ·
        refine t_seq ?_
        refine t_region ?_
        refine r_bin rfl rfl rfl ?_
        refine r_nil ?_
        refine i_then ?_
        refine t_seq ?_
        refine t_cond_dec rfl (fun hc3 => ?_) (fun hc3 => ?_)
        ·
          refine t_skip ?_
          refine i_then ?_
          refine t_seq ?_
          refine t_block ?_
          refine t_seq ?_
          have hk : k.1 < l.length := by omega
          refine t_region ?_
          refine r_index_slN rfl rfl rfl rfl rfl rfl (by omega) ?_
          refine r_load_pp rfl rfl rfl rfl ?_
          refine asI rfl ?_
          refine r_nil ?_
          refine i_then ?_
          refine t_region ?_
          refine mvM rfl ?_
          refine mvI rfl ?_
          refine r_mapUpdate KI rfl rfl (by decide) rfl (keyI _) rfl rfl mapT169 ?_
          refine r_nil ?_
          refine i_block ?_
          refine i_then ?_
          refine t_region ?_
          refine r_add rfl rfl (by omega) (by omega) ?_
          refine mvI rfl ?_
          refine r_nil ?_
          refine i_round (⟨k.1 + 1, by omega⟩) ?_ (by show l.length - (k.1 + 1) < l.length - k.1; omega)
          (refine Ent.mk' ?_ ?_ <;> (repeat' (first | exact allSub_zero | exact allTags_nil | refine allSub_succ' ?_ (Ty.sub_any _) | refine allSub_succ' ?_ (Ty.sub_refl _) | refine allTags_cons rfl ?_ ?_)))
          all_goals skip
          all_goals exact Cont.sub_mp (metK_succ hk).symm
        ·
          refine t_exit ?_
          refine i_then_exit ?_
          refine i_then_exit ?_
          refine i_block_exit rfl ?_
          refine i_then ?_
          refine t_seq ?_
          refine t_seq ?_
          refine t_region ?_
          refine mvM rfl ?_
          refine r_lenMp rfl rfl (by decide) mapT169 ?_
          refine mvS rfl ?_
          refine r_len rfl rfl rfl ?_
          refine r_bin rfl rfl rfl ?_
          refine r_nil ?_
          refine i_then ?_
          refine t_cond_dec rfl (fun hc4 => ?_) (fun hc4 => ?_)
          ·
            refine t_seq ?_
            refine t_region ?_
            refine asS' rfl ?_
            refine asI rfl ?_
            refine r_nil ?_
            refine i_then ?_
            refine t_ret ?_
            refine i_then_ret ?_
            refine i_rp2 rfl rfl rfl ?_ ?_
            all_goals skip
            all_goals (rw [te3 hc1 (off_no hc2) (met_dup k.2 hc3 hc4)]; exact ret_refl rfl rfl)
          ·
            refine t_skip ?_
            refine i_then ?_
            refine t_seq ?_
            have hml : maxLen = 9223372036854775807 := rfl
            refine t_region ?_
            refine r_load_pp rfl rfl rfl rfl ?_
            refine r_convSB rfl rfl rfl rfl rfl Tryz.underlying5 (by omega) rfl ?_
            refine r_assign rfl ?_
            refine r_nil ?_
            refine i_then ?_
            refine t_seq ?_
            refine t_seq ?_
            refine t_region ?_
            refine r_move rfl ?_
            refine r_len_vs rfl rfl rfl ?_
            refine mvI rfl ?_
            refine r_nil ?_
            refine i_then ?_
            refine t_block ?_
            refine t_loop (fun (j : {j : Nat // j ≤ text.length}) => live [(6, Ty.mp 19), (9, Ty.vs 35 text.length), (35, Ty.vs 35 text.length), (36, Ty.int .i64 text.length), (37, Ty.int .i64 (j.1 : Nat))] [(19, Cont.mp (Value.int .i64) VBool (metK l k.1)), (35, Cont.bv 5 (tearP text l j.1))]) (fun j => text.length - j.1) (⟨0, Nat.zero_le _⟩) ?_ fun j => ?_
            · (refine Ent.mk' ?_ ?_ <;> (repeat' (first | exact allSub_zero | exact allTags_nil | refine allSub_succ' ?_ (Ty.sub_any _) | refine allSub_succ' ?_ (Ty.sub_refl _) | refine allTags_cons rfl (Cont.sub_refl _) ?_ | refine allTags_cons rfl ?_ ?_)))
              all_goals exact Cont.sub_bv (tp_0 text l)
            ·
              refine t_seq ?_
              refine t_region ?_
              refine r_bin rfl rfl rfl ?_
              refine r_nil ?_
              refine i_then ?_
              refine t_seq ?_
              refine t_cond_dec rfl (fun hc5 => ?_) (fun hc5 => ?_)
              ·
                refine t_skip ?_
                refine i_then ?_
                refine t_seq ?_
                refine t_block ?_
                refine t_seq ?_
                have hj : j.1 < text.length := by omega
                refine t_region ?_
                refine mvI rfl ?_
                refine asI rfl ?_
                refine r_nil ?_
                refine i_then ?_
                refine t_seq ?_
                refine t_region ?_
                refine mvM rfl ?_
                refine mvI rfl ?_
                refine r_lookup KI (z0 := false) rfl rfl (by decide) rfl (keyI _) mapT169 zero4 vb_zero ?_
                refine r_nil ?_
                refine i_then ?_
                refine t_cond rfl (fun hc6 => ?_) (fun hc6 => ?_)
                ·
                  refine t_region ?_
                  refine r_move rfl ?_
                  refine mvI rfl ?_
                  refine r_index_vs rfl rfl rfl rfl rfl (by omega) ?_
                  refine r_store_bv (i := j.1) (z := 63) rfl (Nat.mul_one _) rfl (by decide) rfl rfl rfl rfl (by rw [tp_len j.2]; exact hj) ?_
                  refine r_nil ?_
                  refine i_block ?_
                  refine i_then ?_
                  refine t_region ?_
                  refine r_add rfl rfl (by omega) (by omega) ?_
                  refine mvI rfl ?_
                  refine r_nil ?_
                  refine i_round (⟨j.1 + 1, by omega⟩) ?_ (by show text.length - (j.1 + 1) < text.length - j.1; omega)
                  (refine Ent.mk' ?_ ?_ <;> (repeat' (first | exact allSub_zero | exact allTags_nil | refine allSub_succ' ?_ (Ty.sub_any _) | refine allSub_succ' ?_ (Ty.sub_refl _) | refine allTags_cons rfl (Cont.sub_refl _) ?_ | refine allTags_cons rfl ?_ ?_)))
                  all_goals skip
                  all_goals exact Cont.sub_bv (tp_yes hj (met_in k.2 hc3 hc6))
                ·
                  refine t_skip ?_
                  refine i_block ?_
                  refine i_then ?_
                  refine t_region ?_
                  refine r_add rfl rfl (by omega) (by omega) ?_
                  refine mvI rfl ?_
                  refine r_nil ?_
                  refine i_round (⟨j.1 + 1, by omega⟩) ?_ (by show text.length - (j.1 + 1) < text.length - j.1; omega)
                  (refine Ent.mk' ?_ ?_ <;> (repeat' (first | exact allSub_zero | exact allTags_nil | refine allSub_succ' ?_ (Ty.sub_any _) | refine allSub_succ' ?_ (Ty.sub_refl _) | refine allTags_cons rfl (Cont.sub_refl _) ?_ | refine allTags_cons rfl ?_ ?_)))
                  all_goals skip
                  all_goals exact Cont.sub_bv (tp_no hj (met_out k.2 hc3 hc6))
              ·
                refine t_exit ?_
                refine i_then_exit ?_
                refine i_then_exit ?_
                refine i_block_exit rfl ?_
                refine i_then ?_
                refine t_seq ?_
                refine t_region ?_
                refine r_move rfl ?_
                refine r_convBS rfl rfl (by decide) (tp_len j.2).symm rfl rfl rfl rfl Tryz.underlying5 ?_
                refine asS' rfl ?_
                refine asI rfl ?_
                refine r_nil ?_
                refine i_then ?_
                refine t_ret ?_
                refine i_rp2 rfl rfl rfl ?_ ?_
                all_goals skip
                all_goals (rw [te4 hc1 (off_no hc2) (met_nod k.2 hc3 hc4), tp_end (by omega)]; exact ret_refl rfl rfl)
end Go.Proofs.YtjjndkenddigiaaGreatDoor

namespace Go.Proofs.YtjjndkenddigiaaGreatDoor
open Go Go.T
set_option maxHeartbeats 1000000
attribute [local irreducible] dInt dBool dSl dPp dPtr dAgg dTup dClo dAny dEx dStr dGd dCells dVec dVs dRow dOp nth Tri Into TOps Ctr bodyPost Exit.then Exit.inBlock Code.wp Code.wpIn dPa dArr dMp dMap CtrG keepPost iterPost bodyPostM roundQ
end Go.Proofs.YtjjndkenddigiaaGreatDoor

namespace Go.Proofs.YtjjndkenddigiaaGreatDoor
open Go Go.T
end Go.Proofs.YtjjndkenddigiaaGreatDoor

namespace Go.Proofs.YtjjndkenddigiaaGreatDoor
open Go Go.T
set_option maxHeartbeats 1000000

attribute [local irreducible] dInt dBool dSl dPp dPtr dAgg dTup dClo dAny dEx dStr dGd dCells dVec dVs dRow dOp nth Tri Into TOps Ctr bodyPost Exit.then Exit.inBlock Code.wp Code.wpIn dPa dArr dMp dMap CtrG keepPost iterPost bodyPostM roundQ
end Go.Proofs.YtjjndkenddigiaaGreatDoor

namespace Go.Proofs.YtjjndkenddigiaaGreatDoor
open Go Go.T
def sumW (W : Nat) (rows : List BRow) : List Int := (List.range W).map (sumC rows)
def midW (W : Nat) (rows : List BRow) (r : BRow) (c : Nat) : List Int := (List.range W).map fun k => if k < c then sumC rows k + wthR r k else sumC rows k
theorem sumW_nil (W : Nat) : List.replicate W (0 : Int) = sumW W [] := by
  apply List.ext_getElem (by simp [sumW])
  intro k h1 h2
  simp [sumW, sumC]
theorem midW_0 (W : Nat) (rows : List BRow) (r : BRow) : sumW W rows = midW W rows r 0 := by simp [sumW, midW]
theorem midW_len (W : Nat) (rows : List BRow) (r : BRow) (c : Nat) : (midW W rows r c).length = W := by simp [midW]
theorem sumW_len (W : Nat) (rows : List BRow) : (sumW W rows).length = W := by simp [sumW]
theorem midW_nth {W : Nat} {rows : List BRow} {r : BRow} {c : Nat} (h : c < W) : nth (midW W rows r c) c = sumC rows c := by simp [midW, nth, h]
theorem midW_set {W : Nat} {rows : List BRow} {r : BRow} {c : Nat} (h : c < W) (hs : r.struck = false) : (midW W rows r c).set c (sumC rows c + nth r.nums c) = midW W rows r (c + 1) := by
  apply List.ext_getElem (by simp [midW])
  intro k h1 h2
  rw [List.getElem_set]
  by_cases e : c = k
  · subst e; simp [midW, wthR, hs]
  · rw [if_neg e]
    simp only [midW, List.getElem_map, List.getElem_range]
    by_cases e2 : k < c
    · rw [if_pos e2, if_pos (by omega)]
    · rw [if_neg e2, if_neg (by omega)]
theorem midW_end {W : Nat} {rows : List BRow} {i c : Nat} (hi : i < rows.length) (hc : c ≤ W) (h : (decide ((c : Int) < (W : Int)) && !(nth rows i).struck) = false) : midW W (rows.take i) (nth rows i) c = sumW W (rows.take (i + 1)) := by
  apply List.ext_getElem (by simp [midW, sumW])
  intro k h1 h2
  simp only [midW, sumW, List.getElem_map, List.getElem_range]
  rw [take_nth hi, sumC_snoc]
  simp only [midW_len] at h1
  cases hs : (nth rows i).struck with
  | true => have e : wthR (nth rows i) k = 0 := by simp [wthR, hs]
            rw [e]; split <;> simp
  | false =>
    rw [hs] at h
    have : c = W := by simp at h; omega
    rw [if_pos (by omega)]
theorem take_smallW {rows : List BRow} (h : SmallR rows) (hl : rows.length ≤ 1000) (i c : Nat) : 0 ≤ sumC (rows.take i) c ∧ sumC (rows.take i) c ≤ 10000000 := by
  have h1 := sumC_bnd (take_small h i) c
  have h2 : (rows.take i).length ≤ 1000 := by rw [List.length_take]; omega
  omega
end Go.Proofs.YtjjndkenddigiaaGreatDoor

namespace Go.Proofs.YtjjndkenddigiaaGreatDoor
open Go Go.T
set_option maxHeartbeats 1000000
theorem sumW_take {W : Nat} {rows : List BRow} : sumW W [] = sumW W (rows.take 0) := by rw [List.take_zero]
attribute [local irreducible] sumW midW sumC
attribute [local irreducible] dInt dBool dSl dPp dPtr dAgg dTup dClo dAny dEx dStr dGd dCells dVec dVs dRow dOp nth Tri Into TOps Ctr bodyPost Exit.then Exit.inBlock Code.wp Code.wpIn dPa dArr dMp dMap CtrG keepPost iterPost bodyPostM roundQ
end Go.Proofs.YtjjndkenddigiaaGreatDoor

namespace Go.Proofs.YtjjndkenddigiaaGreatDoor
open Go Go.T
set_option maxHeartbeats 1000000
theorem sumC_row {f : BForm} {c : Nat} (hc : c < f.widths.length) : ∀ {rows : List BRow}, (∀ r ∈ rows, RowOk f r) → 0 ≤ sumC rows c ∧ sumC rows c ≤ rows.length * (ten (nth f.widths c) - 1)
  | [], _ => by simp [sumC]
  | r :: rows, h => by
    obtain ⟨h1, h2⟩ := sumC_row hc (rows := rows) fun r hr => h r (List.mem_cons_of_mem _ hr)
    obtain ⟨h3, h4⟩ := (h r List.mem_cons_self).num c hc
    have e : sumC (r :: rows) c = wthR r c + sumC rows c := by simp [sumC]
    have hw : 0 ≤ wthR r c ∧ wthR r c ≤ ten (nth f.widths c) - 1 := by unfold wthR; split <;> omega
    rw [e, List.length_cons, show (((rows.length + 1 : Nat) : Int) * (ten (nth f.widths c) - 1)) = (rows.length : Int) * (ten (nth f.widths c) - 1) + (ten (nth f.widths c) - 1) by rw [Int.natCast_add, Int.add_mul]; simp]
    omega
theorem sum_fits {f : BForm} (hf : FormOk f) {rows : List BRow} (h : ∀ r ∈ rows, RowOk f r) (hl : rows.length ≤ 12) {c : Nat} (hc : c < f.widths.length) : 0 ≤ sumC rows c ∧ sumC rows c < ten (nth f.widths c + 2) ∧ sumC rows c ≤ 1000000 := by
  obtain ⟨h1, h2⟩ := sumC_row hc h
  obtain ⟨w1, w2⟩ := nth_wid hf hc
  have t1 := ten_pos (nth f.widths c)
  have t4 := ten_4 w2
  have e : ten (nth f.widths c + 2) = 100 * ten (nth f.widths c) := by rw [show nth f.widths c + 2 = (nth f.widths c + 1) + 1 by omega, ten_next (by omega), ten_next (by omega)]; omega
  have hm : (rows.length : Int) * (ten (nth f.widths c) - 1) ≤ 12 * (ten (nth f.widths c) - 1) := Int.mul_le_mul_of_nonneg_right (by omega) (by omega)
  rw [e]; omega
theorem sumW_nth {W : Nat} {rows : List BRow} {c : Nat} (h : c < W) : nth (sumW W rows) c = sumC rows c := by simp [sumW, nth, h]
attribute [local irreducible] sumW sumC lnP lineB
attribute [local irreducible] dInt dBool dSl dPp dPtr dAgg dTup dClo dAny dEx dStr dGd dCells dVec dVs dRow dOp nth Tri Into TOps Ctr bodyPost Exit.then Exit.inBlock Code.wp Code.wpIn dPa dArr dMp dMap CtrG keepPost iterPost bodyPostM roundQ
end Go.Proofs.YtjjndkenddigiaaGreatDoor

namespace Go.Proofs.YtjjndkenddigiaaGreatDoor
open Go Go.T
theorem footL_len2 (b : Book) : (footL b).length = pgs b.form.lines.toNat b.rows.length := footL_len b
theorem lin_pos {b : Book} (hb : BookOk b) : 1 ≤ b.form.lines.toNat ∧ b.form.lines.toNat ≤ 6 := by
  have := hb.form.l1; have := hb.form.l2; omega
end Go.Proofs.YtjjndkenddigiaaGreatDoor

namespace Go.Proofs.YtjjndkenddigiaaGreatDoor
open Go Go.T
inductive Tok where
  | row (i : Nat) | eq (i : Nat) | plus (i : Nat)
  deriving DecidableEq
def tokB (f : BForm) (rows : List BRow) : Tok → Byt
  | .row i => rowB f (nth rows i)
  | .eq i => 61 :: lineB f (rows.take i)
  | .plus i => 43 :: lineB f (rows.take i)
def toksB (f : BForm) (rows : List BRow) (l : List Tok) : Byt := (l.map (tokB f rows)).flatten
theorem toksB_app (f : BForm) (rows : List BRow) (l m : List Tok) : toksB f rows (l ++ m) = toksB f rows l ++ toksB f rows m := by unfold toksB; rw [List.map_append, List.flatten_append]
def turnQ (L i : Nat) : Bool := decide (0 < i) && decide (i % L = 0)
def tkR (L i : Nat) : List Tok := (if turnQ L i then [.eq i, .plus i] else []) ++ [.row i]
def tksR (L i : Nat) : List Tok := ((List.range i).map (tkR L)).flatten
def tkP (L n p : Nat) : List Tok := (if p = 0 then [] else [.plus (frmN L n p)]) ++ ((List.range (endN L n p - frmN L n p)).map fun k => Tok.row (frmN L n p + k)) ++ [.eq (endN L n p)]
def tksP (L n p : Nat) : List Tok := ((List.range p).map (tkP L n)).flatten
theorem tks_all : ∀ L : Fin 6, ∀ n : Fin 13, tksR (L.1 + 1) n.1 ++ [.eq n.1] = tksP (L.1 + 1) n.1 (pgs (L.1 + 1) n.1) := by decide +kernel
theorem rows_tok (f : BForm) (rows : List BRow) (a : Nat) : ∀ m, a + m ≤ rows.length → toksB f rows ((List.range m).map fun k => Tok.row (a + k)) = rowsB f ((rows.take (a + m)).drop a)
  | 0, _ => by
    rw [Nat.add_zero, List.drop_of_length_le (by rw [List.length_take]; omega)]; rfl
  | m + 1, h => by
    rw [List.range_succ, List.map_append, toksB_app, rows_tok f rows a m (by omega), ← Nat.add_assoc, take_nth (by omega), List.drop_append_of_le_length (by rw [List.length_take]; omega), rowsB_snoc]
    congr 1
    show (List.map (tokB f rows) [Tok.row (a + m)]).flatten = _
    simp [tokB]
theorem page_tok {f : BForm} {rows : List BRow} {L p : Nat} (hL : 1 ≤ L ∧ L ≤ 6) (hp : p < pgs L rows.length) : toksB f rows (tkP L rows.length p) = pageB f rows L p := by
  obtain ⟨h1, h2⟩ := end_le hL hp
  unfold tkP pageB
  rw [toksB_app, toksB_app, rows_tok f rows _ _ (by omega), show frmN L rows.length p + (endN L rows.length p - frmN L rows.length p) = endN L rows.length p by omega]
  congr 1
  · congr 1
    unfold topB
    split
    · rfl
    · show (List.map (tokB f rows) [Tok.plus (frmN L rows.length p)]).flatten = _
      simp [tokB]
  · show (List.map (tokB f rows) [Tok.eq (endN L rows.length p)]).flatten = _
    simp [tokB]
theorem pages_tok {f : BForm} {rows : List BRow} {L : Nat} (hL : 1 ≤ L ∧ L ≤ 6) : ∀ p, p ≤ pgs L rows.length → toksB f rows (tksP L rows.length p) = prtB f rows L p
  | 0, _ => rfl
  | p + 1, h => by
    rw [prtB_succ, ← pages_tok hL p (by omega), ← page_tok hL (show p < pgs L rows.length by omega), ← toksB_app]
    congr 1
    unfold tksP
    rw [List.range_succ, List.map_append, List.flatten_append]; simp
theorem ref_print {b : Book} (hb : BookOk b) : toksB b.form b.rows (tksR b.form.lines.toNat b.rows.length) ++ 61 :: lineB b.form b.rows = printB b := by
  have hL := lin_pos hb
  have hn := hb.few
  have h := tks_all ⟨b.form.lines.toNat - 1, by omega⟩ ⟨b.rows.length, by omega⟩
  have e : b.form.lines.toNat - 1 + 1 = b.form.lines.toNat := by omega
  simp only [e] at h
  unfold printB
  rw [← pages_tok hL _ (Nat.le_refl _), ← h, toksB_app]
  congr 1
  show _ = (List.map (tokB b.form b.rows) [Tok.eq b.rows.length]).flatten
  simp [tokB]
end Go.Proofs.YtjjndkenddigiaaGreatDoor

namespace Go.Proofs.YtjjndkenddigiaaGreatDoor
open Go Go.T
set_option maxHeartbeats 4000000
theorem sum_take {f : BForm} (hf : FormOk f) (rows : List BRow) : sumW f.widths.length rows = (sumL rows).take f.widths.length := by
  have hn := hf.n2
  apply List.ext_getElem
  · simp [sumW, sumL]; omega
  · intro i h1 h2
    have hi : i < f.widths.length := by simpa [sumW] using h1
    have e1 : nth (sumW f.widths.length rows) i = sumC rows i := sumW_nth hi
    have e2 := nth_sumL rows (show i < 4 by omega)
    rw [nth_lt h1] at e1
    rw [e1, List.getElem_take, ← e2, nth_lt]
theorem take_rows {b : Book} (hb : BookOk b) (i : Nat) : ∀ r ∈ b.rows.take i, RowOk b.form r := fun r hr => hb.row r (List.mem_of_mem_take hr)
theorem take_12 {b : Book} (hb : BookOk b) (i : Nat) : (b.rows.take i).length ≤ 12 := by rw [List.length_take]; have := hb.few; omega
theorem lin_nat {f : BForm} (hf : FormOk f) : f.lines = ((f.lines.toNat : Nat) : Int) := by have := hf.l1; omega
attribute [local irreducible] rwP rowB lineB letB toksB tksR turnQ sumW fldN printB footL
attribute [local irreducible] dInt dBool dSl dPp dPtr dAgg dTup dClo dAny dEx dStr dGd dCells dVec dVs dRow dOp nth Tri Into TOps Ctr bodyPost Exit.then Exit.inBlock Code.wp Code.wpIn dPa dArr dMp dMap CtrG keepPost iterPost bodyPostM roundQ
end Go.Proofs.YtjjndkenddigiaaGreatDoor

namespace Go.Proofs.YtjjndkenddigiaaGreatDoor
open Go Go.T
def filS (f : BForm) (p : Rdr) (s t : Byt) : List (Byt × Rdr) := (fillR f p t).map fun x => (s ++ x.1, x.2)
def allF (f : BForm) (text : Byt) : List (Byt × Rdr) := fillR f Rdr.new text
theorem fil_all (f : BForm) (text : Byt) : filS f Rdr.new [] text = allF f text := by
  unfold filS allF
  induction fillR f Rdr.new text with
  | nil => rfl
  | cons x l ih => rw [List.map_cons, ih]; rfl
theorem fil_nil {f : BForm} {p : Rdr} {s : Byt} : filS f p s [] = if wholeR p = true then [(s, p)] else [] := by
  unfold filS fillR; split <;> simp
theorem fil_step {f : BForm} {p : Rdr} {s t : Byt} {c : UInt8} (h : c ≠ 63) (hc : c ∈ canR f p) : filS f p s (c :: t) = filS f (nextR f p c) (s ++ [c]) t := by
  unfold filS
  rw [fillR, if_pos h, show stepR f p c = some (nextR f p c) from if_pos hc]
  simp only [List.map_map]
  apply List.map_congr_left
  intro x _; simp
theorem fil_stop {f : BForm} {p : Rdr} {s t : Byt} {c : UInt8} (h : c ≠ 63) (hc : c ∉ canR f p) : filS f p s (c :: t) = [] := by
  unfold filS
  rw [fillR, if_pos h, show stepR f p c = none from if_neg hc]; rfl
theorem fil_torn {f : BForm} {p : Rdr} {s t : Byt} : filS f p s (63 :: t) = (canR f p).flatMap fun d => filS f (nextR f p d) (s ++ [d]) t := by
  unfold filS
  rw [fillR, if_neg (by decide), List.map_flatMap]
  congr 1
  funext d
  rw [List.map_map]
  apply List.map_congr_left
  intro x _; simp
def upF (f : BForm) (p : Rdr) (s t : Byt) (j : Nat) : List (Byt × Rdr) := ((canR f p).take j).flatMap fun d => filS f (nextR f p d) (s ++ [d]) t
theorem up_zero (f : BForm) (p : Rdr) (s t : Byt) : upF f p s t 0 = [] := by simp [upF]
theorem up_succ {f : BForm} {p : Rdr} {s t : Byt} {j : Nat} (h : j < (canR f p).length) : upF f p s t (j + 1) = upF f p s t j ++ filS f (nextR f p (nth (canR f p) j)) (s ++ [nth (canR f p) j]) t := by
  unfold upF; rw [take_nth h, List.flatMap_append]; simp
theorem up_all {f : BForm} {p : Rdr} {s t : Byt} : upF f p s t (canR f p).length = filS f p s (63 :: t) := by
  unfold upF; rw [List.take_length, fil_torn]
theorem up_pre {f : BForm} {p : Rdr} {s t : Byt} {j : Nat} (h : j < (canR f p).length) : upF f p s t j ++ filS f (nextR f p (nth (canR f p) j)) (s ++ [nth (canR f p) j]) t <+: filS f p s (63 :: t) := by
  rw [← up_succ h, fil_torn]
  refine ⟨((canR f p).drop (j + 1)).flatMap fun d => filS f (nextR f p d) (s ++ [d]) t, ?_⟩
  unfold upF
  rw [← List.flatMap_append, List.take_append_drop]
theorem pre_drop {α : Type} {l a b : List α} {k : Nat} (h : a ++ b <+: l.drop k) : b <+: l.drop (k + a.length) := by
  obtain ⟨r, e⟩ := h
  refine ⟨r, ?_⟩
  rw [← List.drop_drop, ← e, List.append_assoc, List.drop_left]
theorem pre_get {α : Type} {l : List α} {x : α} {k : Nat} (h : [x] <+: l.drop k) : l[k]? = some x := by
  obtain ⟨r, e⟩ := h
  have := congrArg List.head? e
  rw [List.head?_drop] at this
  exact this.symm
theorem drop_cons' {a : Byt} {k : Nat} (h : k < a.length) : a.drop k = nth a k :: a.drop (k + 1) := drop_nth h
def rdrPl (f : BForm) (p : Rdr) : List Ty := [Ty.sl I64 f.widths, Ty.int .i64 f.lines, Ty.int .i64 p.rows, Ty.int .i64 p.page, Ty.bool p.begun, Ty.bool p.closed, Ty.int .i64 p.column, Ty.int .i64 p.offset, Ty.int .i64 p.number, Ty.bool p.digits, Ty.sl BRowE p.read, Ty.str (bs p.must)]
def encF (f : BForm) (x : Byt × Rdr) : List Ty := [Ty.str (bs x.1), Ty.pp (rdrPl f x.2)]
theorem fillR_ok {f : BForm} : ∀ (t : Byt) (p : Rdr), RdrOk f p → ∀ x ∈ fillR f p t, RdrOk f x.2 ∧ wholeR x.2 = true ∧ x.1.length = t.length
  | [], p, ho, x, hx => by
    rw [fillR] at hx
    split at hx
    · rename_i hw; rw [List.mem_singleton.1 hx]; exact ⟨ho, hw, rfl⟩
    · cases hx
  | c :: t, p, ho, x, hx => by
    rw [fillR] at hx
    split at hx
    · rename_i hc
      unfold stepR at hx
      split at hx
      · cases hx
      · rename_i q hq
        split at hq
        · rename_i hm
          injection hq with hq
          subst hq
          obtain ⟨y, hy, rfl⟩ := List.mem_map.1 hx
          obtain ⟨h1, h2, h3⟩ := fillR_ok t _ (next_ok ho hm) y hy
          exact ⟨h1, h2, by simp [h3]⟩
        · cases hq
    · obtain ⟨d, hd, hx⟩ := List.mem_flatMap.1 hx
      obtain ⟨y, hy, rfl⟩ := List.mem_map.1 hx
      obtain ⟨h1, h2, h3⟩ := fillR_ok t _ (next_ok ho hd) y hy
      exact ⟨h1, h2, by simp [h3]⟩
end Go.Proofs.YtjjndkenddigiaaGreatDoor

namespace Go.Proofs.YtjjndkenddigiaaGreatDoor
open Go Go.T
inductive Rch (f : BForm) : Rdr → Byt → Rdr → Prop
  | nil (p : Rdr) : Rch f p [] p
  | cons {p q : Rdr} {c : UInt8} {t : Byt} (h : c ∈ canR f p) (h' : Rch f (nextR f p c) t q) : Rch f p (c :: t) q
theorem Rch.split {f : BForm} : ∀ {t u : Byt} {p r : Rdr}, Rch f p (t ++ u) r → ∃ q, Rch f p t q ∧ Rch f q u r
  | [], _, p, _, h => ⟨p, .nil p, h⟩
  | _ :: _, _, _, _, .cons hc h => let ⟨q, h1, h2⟩ := h.split; ⟨q, .cons hc h1, h2⟩
theorem Rch.run {f : BForm} {p q : Rdr} {t : Byt} (h : Rch f p t q) : runR f p t = (t.length, q) := by
  induction h with
  | nil p => rfl
  | @cons p q c t hc _ ih =>
    show (match stepR f p c with | none => (0, p) | some q => ((runR f q t).1 + 1, (runR f q t).2)) = _
    rw [show stepR f p c = some (nextR f p c) from if_pos hc]
    simp only [ih]; rfl
theorem Rch.ok {f : BForm} {p q : Rdr} {t : Byt} (h : Rch f p t q) (ho : RdrOk f p) : RdrOk f q := by
  induction h with
  | nil p => exact ho
  | cons hc _ ih => exact ih (next_ok ho hc)
end Go.Proofs.YtjjndkenddigiaaGreatDoor

namespace Go.Proofs.YtjjndkenddigiaaGreatDoor
open Go Go.T
def colsB (f : BForm) (r : BRow) (c : Nat) : Nat → Byt
  | 0 => []
  | k + 1 => fldN (nth r.nums c) (nth f.widths c) ++ 124 :: colsB f r (c + 1) k
theorem cols_eq (f : BForm) (r : BRow) : ∀ (k c : Nat), colsB f r c k = ((List.range k).map fun i => fldN (nth r.nums (c + i)) (nth f.widths (c + i)) ++ [124]).flatten
  | 0, _ => rfl
  | k + 1, c => by
    rw [colsB, cols_eq f r k (c + 1), List.range_succ_eq_map]
    simp only [List.map_cons, List.flatten_cons, Nat.add_zero, List.map_map]
    rw [List.append_assoc]
    congr 1
    rw [List.singleton_append]
    congr 2
    apply List.map_congr_left
    intro i _
    simp only [Function.comp_apply]
    rw [show c + 1 + i = c + (i + 1) by omega]
def markB (r : BRow) : UInt8 := if r.struck then 45 else 32
theorem rowB_cols (f : BForm) (r : BRow) : rowB f r = markB r :: (colsB f r 0 f.widths.length ++ [letB f r, 10]) := by
  unfold rowB markB
  rw [cols_eq]
  simp
theorem Rch.one {f : BForm} {p : Rdr} {c : UInt8} (h : c ∈ canR f p) : Rch f p [c] (nextR f p c) := .cons h (.nil _)
inductive Good (f : BForm) : List BRow → Int → Bool → Byt → List BRow → Prop
  | fin {rows : List BRow} {page : Int} : Good f rows page true [] rows
  | row {rows R : List BRow} {page : Int} {r : BRow} {t : Byt} (h : page < f.lines) (h2 : rows.length < 12) (hr : RowOk f r) (h' : Good f (rows ++ [r]) (page + 1) false t R) : Good f rows page false (rowB f r ++ t) R
  | eq {rows R : List BRow} {page : Int} {t : Byt} (h : page > 0 ∨ (rows.length = 0 ∧ page = 0)) (h' : Good f rows page true t R) : Good f rows page false (61 :: lineB f rows ++ t) R
  | plus {rows R : List BRow} {page : Int} {t : Byt} (h : page = f.lines) (h2 : rows.length < 12) (h' : Good f rows 0 false t R) : Good f rows page true (43 :: lineB f rows ++ t) R
end Go.Proofs.YtjjndkenddigiaaGreatDoor

namespace Go.Proofs.YtjjndkenddigiaaGreatDoor
open Go Go.T
def prnt (f : BForm) (L : Nat) : List BRow → Nat → List BRow → Byt
  | done, _, [] => 61 :: lineB f done
  | done, page, r :: rs => if page < L then rowB f r ++ prnt f L (done ++ [r]) (page + 1) rs else (61 :: lineB f done) ++ (43 :: lineB f done) ++ (rowB f r ++ prnt f L (done ++ [r]) 1 rs)
theorem prnt_chunk {f : BForm} {L : Nat} : ∀ (xs : List BRow) (done : List BRow) (page : Nat) (rest : List BRow), page + xs.length ≤ L → prnt f L done page (xs ++ rest) = rowsB f xs ++ prnt f L (done ++ xs) (page + xs.length) rest
  | [], done, page, rest, _ => by simp [rowsB]
  | x :: xs, done, page, rest, h => by
    simp only [List.length_cons] at h
    rw [List.cons_append, prnt, if_pos (by omega), prnt_chunk xs (done ++ [x]) (page + 1) rest (by omega)]
    simp only [rowsB, List.map_cons, List.flatten_cons, List.append_assoc, List.length_cons, List.singleton_append]
    rw [show page + 1 + xs.length = page + (xs.length + 1) by omega]
def pgsB (f : BForm) (rows : List BRow) (L i n : Nat) : Byt := ((List.range n).map fun j => pageB f rows L (i + j)).flatten
theorem pgsB_succ (f : BForm) (rows : List BRow) (L i n : Nat) : pgsB f rows L i (n + 1) = pageB f rows L i ++ pgsB f rows L (i + 1) n := by
  unfold pgsB
  rw [List.range_succ_eq_map]
  simp only [List.map_cons, List.flatten_cons, Nat.add_zero, List.map_map]
  congr 2
  apply List.map_congr_left
  intro j _
  simp only [Function.comp_apply]
  rw [show i + 1 + j = i + (j + 1) by omega]
theorem mid_split {rows : List BRow} {a b : Nat} (h : a ≤ b) : rows.drop a = ((rows.take b).drop a) ++ rows.drop b := by
  have h1 : rows.drop a = (rows.take b ++ rows.drop b).drop a := by rw [List.take_append_drop]
  rw [h1, List.drop_append]
  by_cases e : b ≤ rows.length
  · have : a - (rows.take b).length = 0 := by rw [List.length_take]; omega
    rw [this, List.drop_zero]
  · rw [List.drop_of_length_le (i := b) (by omega), List.drop_nil]
theorem take_mid {rows : List BRow} {a b : Nat} (h : a ≤ b) : rows.take a ++ (rows.take b).drop a = rows.take b := by
  have : rows.take a = (rows.take b).take a := by rw [List.take_take, Nat.min_eq_left h]
  rw [this, List.take_append_drop]
theorem pages_prnt {f : BForm} {rows : List BRow} {L : Nat} (hL : 1 ≤ L ∧ L ≤ 6) : ∀ (n i : Nat), i + (n + 1) = pgs L rows.length → 1 ≤ i →
    prnt f L (rows.take (i * L)) L (rows.drop (i * L)) = (61 :: lineB f (rows.take (i * L))) ++ pgsB f rows L i (n + 1) := by
  intro n
  induction n with
  | zero =>
    intro i hi h1
    have hend : endN L rows.length i = rows.length := by unfold endN; rw [if_neg (by omega)]
    have hfrm : frmN L rows.length i = i * L := by unfold frmN endN; rw [if_neg (by omega), if_pos (by omega), show i - 1 + 1 = i by omega]
    have hlt : i * L < rows.length := by
      unfold pgs at hi
      rcases six_cases hL with rfl | rfl | rfl | rfl | rfl | rfl <;> omega
    have hle : rows.length ≤ i * L + L := by
      unfold pgs at hi
      rcases six_cases hL with rfl | rfl | rfl | rfl | rfl | rfl <;> omega
    rw [pgsB_succ]
    have e0 : pgsB f rows L (i + 1) 0 = [] := rfl
    rw [e0, List.append_nil]
    unfold pageB topB midB
    rw [if_neg (by omega), hend, hfrm, List.take_length]
    match hd : rows.drop (i * L) with
    | [] => have := congrArg List.length hd; simp at this; omega
    | r :: rs =>
      have hlen := congrArg List.length hd
      simp only [List.length_drop, List.length_cons] at hlen
      rw [prnt, if_neg (by omega)]
      have h3 := prnt_chunk (f := f) (L := L) rs (rows.take (i * L) ++ [r]) 1 [] (by omega)
      rw [List.append_nil] at h3
      rw [h3]
      have e1 : rows.take (i * L) ++ [r] ++ rs = rows := by
        rw [List.append_assoc, List.singleton_append, ← hd, List.take_append_drop]
      rw [e1, prnt]
      simp only [rowsB, List.map_cons, List.flatten_cons, List.append_assoc]
  | succ n ih =>
    intro i hi h1
    have hend : endN L rows.length i = (i + 1) * L := by unfold endN; rw [if_pos (by omega)]
    have hfrm : frmN L rows.length i = i * L := by unfold frmN endN; rw [if_neg (by omega), if_pos (by omega), show i - 1 + 1 = i by omega]
    have hlt : (i + 1) * L < rows.length := by
      unfold pgs at hi
      rcases six_cases hL with rfl | rfl | rfl | rfl | rfl | rfl <;> omega
    have hmul : (i + 1) * L = i * L + L := Nat.succ_mul i L
    rw [pgsB_succ]
    have h2 := ih (i + 1) (by omega) (by omega)
    unfold pageB topB midB
    rw [if_neg (by omega), hend, hfrm]
    have hsp := mid_split (rows := rows) (a := i * L) (b := (i + 1) * L) (by omega)
    have hml : ((rows.take ((i + 1) * L)).drop (i * L)).length = L := by rw [List.length_drop, List.length_take]; omega
    have htk := take_mid (rows := rows) (a := i * L) (b := (i + 1) * L) (by omega)
    rw [hsp]
    match hd : (rows.take ((i + 1) * L)).drop (i * L) with
    | [] => rw [hd] at hml; simp at hml; omega
    | r :: rs =>
      rw [hd] at hml htk
      simp only [List.length_cons] at hml
      rw [List.cons_append, prnt, if_neg (by omega), prnt_chunk rs (rows.take (i * L) ++ [r]) 1 _ (by omega)]
      have e1 : rows.take (i * L) ++ [r] ++ rs = rows.take ((i + 1) * L) := by
        rw [List.append_assoc, List.singleton_append]; exact htk
      rw [e1, show 1 + rs.length = L by omega, h2]
      simp only [rowsB, List.map_cons, List.flatten_cons, List.append_assoc, List.cons_append]
theorem print_prnt {b : Book} (hb : BookOk b) : printB b = prnt b.form b.form.lines.toNat [] 0 b.rows := by
  obtain ⟨hf1, hf2⟩ : 1 ≤ b.form.lines.toNat ∧ b.form.lines.toNat ≤ 6 := by have := hb.form.l1; have := hb.form.l2; omega
  generalize hL : b.form.lines.toNat = L at *
  have e0 : printB b = pgsB b.form b.rows L 0 (pgs L b.rows.length) := by
    unfold printB prtB pgsB; rw [hL]
    congr 2
    funext j; rw [Nat.zero_add]
  rw [e0]
  obtain ⟨n, hn⟩ : ∃ n, pgs L b.rows.length = n + 1 := ⟨_, rfl⟩
  rw [hn, pgsB_succ]
  match n, hn with
  | 0, hn =>
    have hle : b.rows.length ≤ L := by
      unfold pgs at hn
      rcases six_cases ⟨hf1, hf2⟩ with rfl | rfl | rfl | rfl | rfl | rfl <;> omega
    have hend : endN L b.rows.length 0 = b.rows.length := by unfold endN; rw [if_neg (by omega)]
    have e1 : pgsB b.form b.rows L (0 + 1) 0 = [] := rfl
    rw [e1, List.append_nil]
    unfold pageB topB midB
    rw [if_pos rfl, hend, frmN_zero, List.take_length, List.drop_zero, List.nil_append]
    have h3 := prnt_chunk (f := b.form) (L := L) b.rows [] 0 [] (by omega)
    rw [List.append_nil, List.nil_append] at h3
    rw [h3, prnt]
  | n + 1, hn =>
    have hlt : L < b.rows.length := by
      unfold pgs at hn
      rcases six_cases ⟨hf1, hf2⟩ with rfl | rfl | rfl | rfl | rfl | rfl <;> omega
    have hend : endN L b.rows.length 0 = L := by unfold endN; rw [if_pos (by omega)]; omega
    unfold pageB topB midB
    rw [if_pos rfl, hend, frmN_zero, List.drop_zero, List.nil_append]
    have h2 := pages_prnt (f := b.form) (rows := b.rows) ⟨hf1, hf2⟩ n 1 (by omega) (by omega)
    rw [Nat.one_mul] at h2
    have h3 := prnt_chunk (f := b.form) (L := L) (b.rows.take L) [] 0 (b.rows.drop L) (by rw [List.length_take]; omega)
    rw [List.take_append_drop, List.nil_append, show 0 + (b.rows.take L).length = L by rw [List.length_take]; omega, h2] at h3
    rw [h3]
    simp
theorem print_len {b : Book} (hb : BookOk b) : (printB b).length ≤ 30000 := by
  have h1 := prt_len hb (pgs b.form.lines.toNat b.rows.length)
  have h2 := pgs_le (n := b.rows.length) (L := b.form.lines.toNat) (by have := hb.form.l1; have := hb.form.l2; omega) hb.few
  unfold printB; omega
end Go.Proofs.YtjjndkenddigiaaGreatDoor

namespace Go.Proofs.YtjjndkenddigiaaGreatDoor
open Go Go.T
def valB (x : UInt8) : Int := if x = 32 then 0 else (x.toNat : Int) - 48
theorem bytA_val (k : Nat) (x : UInt8) : bytA k x = ((k : Int) + 1) * valB x := by unfold bytA valB; split <;> simp
theorem valB_bnd {x : UInt8} (h : FldB x) : 0 ≤ valB x ∧ valB x ≤ 9 := by
  unfold valB
  split
  · omega
  · rename_i hn
    have := h.resolve_left hn
    omega
section
variable {f : BForm} {r r' : BRow}
end
end Go.Proofs.YtjjndkenddigiaaGreatDoor

namespace Go.Proofs.YtjjndkenddigiaaGreatDoor
open Go Go.T Go.RowKit Go.Shelf
def rhoS : Ren := ⟨fun n => match n with | 138 => 146 | 143 => 147 | 195 => 159 | 197 => 143 | 217 => 168 | 218 => 160 | 219 => 161 | 221 => 117 | 224 => 166 | 225 => 167 | 260 => 157 | 266 => 174 | 267 => 169 | 268 => 145 | 314 => 175 | _ => 9999, fun n => match n with | 0 => 0 | 3 => 3 | 4 => 4 | 5 => 5 | 9 => 9 | 21 => 21 | 31 => 53 | 46 => 152 | 51 => 145 | 105 => 192 | 119 => 207 | 138 => 209 | 139 => 210 | 146 => 186 | _ => 9999, fun n => match n with | 1 => 0 | 3 => 1 | 4 => 2 | _ => 9999⟩
theorem aggS {t : Nat} {D : TypeDesc} (h : Tryz.prog.underlying t = some D) (hd : (match D with | .struct _ => false | .array _ _ => false | _ => true) = true) : ∀ w, (isAgg t).run Tryz.prog w = .ok false w := fun w => by
  cases D <;> simp_all [isAgg, run_underlying h]
theorem aggST {t : Nat} {D : TypeDesc} (h : Tryz.prog.underlying t = some D) (hd : (match D with | .struct _ => true | .array _ _ => true | _ => false) = true) : ∀ w, (isAgg t).run Tryz.prog w = .ok true w := fun w => by
  cases D <;> simp_all [isAgg, run_underlying h]
set_option maxRecDepth 100000 in
theorem lys_Lays_n221 : Lays.n221 Tryz.prog rhoS where
  mixed := by kernel_rfl
  f138 := by kernel_rfl
  f143 := by kernel_rfl
  f195 := by kernel_rfl
  f197 := by kernel_rfl
  f217 := by kernel_rfl
  f218 := by kernel_rfl
  f219 := by kernel_rfl
  f221 := by kernel_rfl
  f224 := by kernel_rfl
  f225 := by kernel_rfl
  f260 := by kernel_rfl
  f266 := by kernel_rfl
  f267 := by kernel_rfl
  f268 := by kernel_rfl
  f314 := by kernel_rfl
  t0 := by kernel_rfl
  a0 := aggS (D := TypeDesc.tuple #[]) (by kernel_rfl) rfl
  z0 := fun w => run_sizeOf' (P := Tryz.prog) (t := 0) rfl w
  v0 := fun w => run_zeroOf (by kernel_rfl) w
  t3 := by kernel_rfl
  a3 := aggS (D := TypeDesc.int IntKind.i64) (by kernel_rfl) rfl
  z3 := fun w => run_sizeOf' (P := Tryz.prog) (t := 3) rfl w
  v3 := fun w => run_zeroOf (by kernel_rfl) w
  t4 := by kernel_rfl
  a4 := aggS (D := TypeDesc.bool) (by kernel_rfl) rfl
  z4 := fun w => run_sizeOf' (P := Tryz.prog) (t := 4) rfl w
  v4 := fun w => run_zeroOf (by kernel_rfl) w
  t5 := by kernel_rfl
  a5 := aggS (D := TypeDesc.int IntKind.u8) (by kernel_rfl) rfl
  z5 := fun w => run_sizeOf' (P := Tryz.prog) (t := 5) rfl w
  v5 := fun w => run_zeroOf (by kernel_rfl) w
  t9 := by kernel_rfl
  a9 := aggS (D := TypeDesc.string) (by kernel_rfl) rfl
  z9 := fun w => run_sizeOf' (P := Tryz.prog) (t := 9) rfl w
  v9 := fun w => run_zeroOf (by kernel_rfl) w
  t21 := by kernel_rfl
  a21 := aggS (D := TypeDesc.int IntKind.i32) (by kernel_rfl) rfl
  z21 := fun w => run_sizeOf' (P := Tryz.prog) (t := 21) rfl w
  v21 := fun w => run_zeroOf (by kernel_rfl) w
  t31 := by kernel_rfl
  a31 := aggS (D := TypeDesc.slice (rhoS.t 9)) (by kernel_rfl) rfl
  z31 := fun w => run_sizeOf' (P := Tryz.prog) (t := 53) rfl w
  v31 := fun w => run_zeroOf (by kernel_rfl) w
  t46 := by kernel_rfl
  a46 := aggS (D := TypeDesc.int IntKind.u64) (by kernel_rfl) rfl
  z46 := fun w => run_sizeOf' (P := Tryz.prog) (t := 152) rfl w
  v46 := fun w => run_zeroOf (by kernel_rfl) w
  t51 := by kernel_rfl
  a51 := aggS (D := TypeDesc.int IntKind.u32) (by kernel_rfl) rfl
  z51 := fun w => run_sizeOf' (P := Tryz.prog) (t := 145) rfl w
  v51 := fun w => run_zeroOf (by kernel_rfl) w
  t105 := by kernel_rfl
  a105 := aggS (D := TypeDesc.tuple #[rhoS.t 21, rhoS.t 3]) (by kernel_rfl) rfl
  z105 := fun w => run_sizeOf' (P := Tryz.prog) (t := 192) rfl w
  v105 := fun w => run_zeroOf (by kernel_rfl) w
  t119 := by kernel_rfl
  a119 := aggST (D := TypeDesc.array 256 (rhoS.t 5)) (by kernel_rfl) rfl
  z119 := fun w => run_sizeOf' (P := Tryz.prog) (t := 207) rfl w
  t138 := by kernel_rfl
  a138 := aggST (D := TypeDesc.struct #[{ name := "lo", type := rhoS.t 5, offset := 0, embedded := false, tag := "", pkgPath := "unicode/utf8", byteOffset := 0 }, { name := "hi", type := rhoS.t 5, offset := 1, embedded := false, tag := "", pkgPath := "unicode/utf8", byteOffset := 1 }]) (by kernel_rfl) rfl
  z138 := fun w => run_sizeOf' (P := Tryz.prog) (t := 209) rfl w
  v138 := fun w => run_zeroOf (by kernel_rfl) w
  t139 := by kernel_rfl
  a139 := aggST (D := TypeDesc.array 16 (rhoS.t 138)) (by kernel_rfl) rfl
  z139 := fun w => run_sizeOf' (P := Tryz.prog) (t := 210) rfl w
  v139 := fun w => run_zeroOf (by kernel_rfl) w
  t146 := by kernel_rfl
  a146 := aggS (D := TypeDesc.tuple #[rhoS.t 51, rhoS.t 51]) (by kernel_rfl) rfl
  z146 := fun w => run_sizeOf' (P := Tryz.prog) (t := 186) rfl w
  v146 := fun w => run_zeroOf (by kernel_rfl) w
  g1 := by kernel_rfl
  g3 := by kernel_rfl
  g4 := by kernel_rfl
set_option maxRecDepth 100000 in
theorem lys_Lays_n143 : Lays.n143 Tryz.prog rhoS where
  mixed := by kernel_rfl
  f143 := by kernel_rfl
  f217 := by kernel_rfl
  f219 := by kernel_rfl
  f224 := by kernel_rfl
  f225 := by kernel_rfl
  f266 := by kernel_rfl
  f267 := by kernel_rfl
  f314 := by kernel_rfl
  t3 := by kernel_rfl
  a3 := aggS (D := TypeDesc.int IntKind.i64) (by kernel_rfl) rfl
  z3 := fun w => run_sizeOf' (P := Tryz.prog) (t := 3) rfl w
  v3 := fun w => run_zeroOf (by kernel_rfl) w
  t4 := by kernel_rfl
  a4 := aggS (D := TypeDesc.bool) (by kernel_rfl) rfl
  z4 := fun w => run_sizeOf' (P := Tryz.prog) (t := 4) rfl w
  v4 := fun w => run_zeroOf (by kernel_rfl) w
  t5 := by kernel_rfl
  a5 := aggS (D := TypeDesc.int IntKind.u8) (by kernel_rfl) rfl
  z5 := fun w => run_sizeOf' (P := Tryz.prog) (t := 5) rfl w
  v5 := fun w => run_zeroOf (by kernel_rfl) w
  t9 := by kernel_rfl
  a9 := aggS (D := TypeDesc.string) (by kernel_rfl) rfl
  z9 := fun w => run_sizeOf' (P := Tryz.prog) (t := 9) rfl w
  v9 := fun w => run_zeroOf (by kernel_rfl) w
  t46 := by kernel_rfl
  a46 := aggS (D := TypeDesc.int IntKind.u64) (by kernel_rfl) rfl
  z46 := fun w => run_sizeOf' (P := Tryz.prog) (t := 152) rfl w
  v46 := fun w => run_zeroOf (by kernel_rfl) w
  t51 := by kernel_rfl
  a51 := aggS (D := TypeDesc.int IntKind.u32) (by kernel_rfl) rfl
  z51 := fun w => run_sizeOf' (P := Tryz.prog) (t := 145) rfl w
  v51 := fun w => run_zeroOf (by kernel_rfl) w
  t146 := by kernel_rfl
  a146 := aggS (D := TypeDesc.tuple #[rhoS.t 51, rhoS.t 51]) (by kernel_rfl) rfl
  z146 := fun w => run_sizeOf' (P := Tryz.prog) (t := 186) rfl w
  v146 := fun w => run_zeroOf (by kernel_rfl) w
  g1 := by kernel_rfl
set_option maxRecDepth 100000 in
theorem lys_Lays_n138 : Lays.n138 Tryz.prog rhoS where
  mixed := by kernel_rfl
  f138 := by kernel_rfl
  f143 := by kernel_rfl
  f195 := by kernel_rfl
  f217 := by kernel_rfl
  f218 := by kernel_rfl
  f219 := by kernel_rfl
  f224 := by kernel_rfl
  f225 := by kernel_rfl
  f266 := by kernel_rfl
  f267 := by kernel_rfl
  f314 := by kernel_rfl
  t0 := by kernel_rfl
  a0 := aggS (D := TypeDesc.tuple #[]) (by kernel_rfl) rfl
  z0 := fun w => run_sizeOf' (P := Tryz.prog) (t := 0) rfl w
  v0 := fun w => run_zeroOf (by kernel_rfl) w
  t3 := by kernel_rfl
  a3 := aggS (D := TypeDesc.int IntKind.i64) (by kernel_rfl) rfl
  z3 := fun w => run_sizeOf' (P := Tryz.prog) (t := 3) rfl w
  v3 := fun w => run_zeroOf (by kernel_rfl) w
  t4 := by kernel_rfl
  a4 := aggS (D := TypeDesc.bool) (by kernel_rfl) rfl
  z4 := fun w => run_sizeOf' (P := Tryz.prog) (t := 4) rfl w
  v4 := fun w => run_zeroOf (by kernel_rfl) w
  t5 := by kernel_rfl
  a5 := aggS (D := TypeDesc.int IntKind.u8) (by kernel_rfl) rfl
  z5 := fun w => run_sizeOf' (P := Tryz.prog) (t := 5) rfl w
  v5 := fun w => run_zeroOf (by kernel_rfl) w
  t9 := by kernel_rfl
  a9 := aggS (D := TypeDesc.string) (by kernel_rfl) rfl
  z9 := fun w => run_sizeOf' (P := Tryz.prog) (t := 9) rfl w
  v9 := fun w => run_zeroOf (by kernel_rfl) w
  t46 := by kernel_rfl
  a46 := aggS (D := TypeDesc.int IntKind.u64) (by kernel_rfl) rfl
  z46 := fun w => run_sizeOf' (P := Tryz.prog) (t := 152) rfl w
  v46 := fun w => run_zeroOf (by kernel_rfl) w
  t51 := by kernel_rfl
  a51 := aggS (D := TypeDesc.int IntKind.u32) (by kernel_rfl) rfl
  z51 := fun w => run_sizeOf' (P := Tryz.prog) (t := 145) rfl w
  v51 := fun w => run_zeroOf (by kernel_rfl) w
  t146 := by kernel_rfl
  a146 := aggS (D := TypeDesc.tuple #[rhoS.t 51, rhoS.t 51]) (by kernel_rfl) rfl
  z146 := fun w => run_sizeOf' (P := Tryz.prog) (t := 186) rfl w
  v146 := fun w => run_zeroOf (by kernel_rfl) w
  g1 := by kernel_rfl
end Go.Proofs.YtjjndkenddigiaaGreatDoor

namespace Go.Proofs.YtjjndkenddigiaaGreatDoor
open Go Go.T Go.RowKit Go.Shelf
def jn : List Byt → Byt
  | [] => []
  | [x] => x
  | x :: y :: l => x ++ 10 :: jn (y :: l)
theorem idxl_at : ∀ (x r : Byt), (10 : UInt8) ∉ x → Lib.indexByte (x ++ 10 :: r) 10 = (x.length : Nat)
  | [], r, _ => by rw [List.nil_append, Lib.indexByte]; rfl
  | y :: x, r, h => by
    have h1 : ¬ y = 10 := fun e => h (by rw [e]; exact List.mem_cons_self)
    have h2 := idxl_at x r fun e => h (List.mem_cons_of_mem _ e)
    rw [List.cons_append, Lib.indexByte, if_neg (by simpa using h1), h2, if_neg (by simp)]
    simp
theorem cntl_no : ∀ (x : Byt), (10 : UInt8) ∉ x → x.count 10 = 0 := fun x h => List.count_eq_zero.2 h
theorem cntl_jn : ∀ (l : List Byt) (x : Byt), (∀ y ∈ x :: l, (10 : UInt8) ∉ y) → (jn (x :: l)).count 10 = l.length
  | [], x, h => cntl_no x (h x List.mem_cons_self)
  | y :: l, x, h => by
    rw [jn, List.count_append, cntl_no x (h x List.mem_cons_self), List.count_cons_self, cntl_jn l y fun z hz => h z (List.mem_cons_of_mem _ hz)]
    simp
theorem spll_jn : ∀ (l : List Byt) (x : Byt), (∀ y ∈ x :: l, (10 : UInt8) ∉ y) → Lib.splitK [10] 0 l.length (jn (x :: l)) = x :: l
  | [], _, _ => rfl
  | y :: l, x, h => by
    rw [jn, List.length_cons, Lib.splitK, Lib.index_one, idxl_at x _ (h x List.mem_cons_self), if_neg (by simp), Int.toNat_natCast, Nat.add_zero, List.take_left, List.length_singleton, ← List.drop_drop, List.drop_left, List.drop_one, List.tail_cons, spll_jn l y fun z hz => h z (List.mem_cons_of_mem _ hz)]
theorem mapl_bs : ∀ {a : List ByteArray} {b : List Byt}, a.map (·.data.toList) = b → a = b.map bs
  | [], b, h => by subst h; rfl
  | x :: a, b, h => by
    subst h
    rw [List.map_cons, List.map_cons, bs_of, ← mapl_bs (a := a) rfl]
theorem world_post {w w' : World} {M : Tags} {res : Ty} {v : Value} (wf : Wf w M) (h : Below w.heap.size w w') (hd : res.den w' (callM w M) v) : retPost w M res (.returned v) w' := by
  refine ⟨v, callM w M, rfl, ⟨fun b t hm => ?_, fun b b' t ht hm hm' => ?_, wf.amb.of fun b hb hm => ⟨by simp [callM, hm], h.block b hb⟩⟩, ⟨h.size, h.os, h.tape, h.output, fun b hb hm => ⟨by simp [callM, hm], h.block b hb⟩, fun b t hm _ => ⟨by simp [callM, wf.lt b t hm, hm], fun _ => h.block b (wf.lt b t hm)⟩⟩, hd⟩
  · unfold callM at hm
    split at hm
    · exact Nat.lt_of_lt_of_le ‹_› h.size
    · cases hm
  · unfold callM at hm hm'
    split at hm <;> split at hm' <;> first | exact wf.inj b b' t ht hm hm' | cases hm | cases hm'
theorem hi9 : (Tryz.prog.info? (rhoS.t 9)).map (fun i => (i.zero, i.size, i.bytes)) = some (some (.string ByteArray.empty), 1, 16) := by kernel_rfl
theorem str_flat (l : List Byt) : l.flatMap StrE.tys = l.map fun x => Ty.str (bs x) := by
  induction l with
  | nil => rfl
  | cons x l ih => rw [List.flatMap_cons, ih]; rfl
theorem c_genSplit (l : List Byt) (x : Byt) (h : ∀ y ∈ x :: l, (10 : UInt8) ∉ y) (hl : (jn (x :: l)).length ≤ 100000) : Ctr Tryz.prog 117 [Ty.str (bs (jn (x :: l))), Ty.str (bs [10]), Ty.int .i64 0, Ty.int .i64 (-1)] (Ty.sl StrE (x :: l)) := by
  refine ⟨⟨_, Tryz.func117, by kernel_rfl, by kernel_rfl⟩, fun w M vs wf _ hd => ?_⟩
  match vs, hd with
  | [v, u, k, n], ⟨hv, hu, hk, hn, _⟩ =>
    obtain rfl : v = .string (bs (jn (x :: l))) := hv
    obtain rfl : u = .string (bs [10]) := hu
    obtain rfl : k = .int .i64 0 := hk
    obtain rfl : n = .int .i64 (-1) := hn
    have hcnt : Lib.countB (bs (jn (x :: l))) (bs [10]) = l.length := by
      show Lib.count (bs (jn (x :: l))).data.toList (bs [10]).data.toList = _
      rw [bs_list, bs_list, Lib.count_one, cntl_jn l x h]
    have hs : (bs (jn (x :: l))).size = (jn (x :: l)).length := bs_size _
    have h1 : (bs [10]).size = 1 := rfl
    have hlen : l.length ≤ (jn (x :: l)).length := by rw [← cntl_jn l x h]; exact List.count_le_length
    have hpc : Lib.splitB (bs [10]) 0 l.length (bs (jn (x :: l))) = (x :: l).map bs := mapl_bs (by rw [Lib.splitB_data, bs_list, bs_list, spll_jn l x h])
    have c := Any.strings_genSplit_core lys_Lays_n221 hi9 (bs (jn (x :: l))) (bs [10]) 0 (-1) (l.length + 1) w (by omega) (by omega) (by omega)
      (fun y c _ => (Any.strings_Index_one lys_Lays_n143 y 10 (w.alloc (.cells c (rhoS.t 9)))).mono fun e w' he => ⟨by
        rw [he.1]
        show _ = Ending.returned (Value.int .i64 (Lib.index y.data.toList [10]))
        rw [Lib.index_one], he.2⟩)
      ((Any.strings_Count_one lys_Lays_n138 (bs (jn (x :: l))) 10 w).mono fun e w' he => ⟨by
        rw [he.1]
        show _ = Ending.returned (Value.int .i64 ((Lib.count (bs (jn (x :: l))).data.toList [10] : Nat) : Int))
        rw [Lib.count_one]; rfl, he.2⟩)
      (by decide) (by decide) (by rw [if_pos (by decide), hcnt]; omega)
    refine c.mono ?_
    rintro e w' ⟨rfl, rfl⟩
    rw [Nat.add_sub_cancel, hpc, List.length_map]
    have hfull : Lib.cellsOf ((x :: l).map bs) (l.length + 1) = (((x :: l).map bs).map Value.string).toArray := by
      have := Lib.cellsOf_full ((x :: l).map bs)
      rw [List.length_map] at this; exact this
    rw [hfull]
    refine world_post wf ⟨rfl, rfl, rfl, by show w.heap.size ≤ (w.heap.push _).size; simp, fun b hb => by show (w.heap.push _)[b]? = _; rw [Array.getElem?_push, if_neg (by omega)]⟩ ?_
    refine ⟨_, _, rfl, by simp, by unfold maxLen; simp; omega, fun _ => ⟨_, _, rfl, by simp [callM], by show _ < (w.heap.push _).size; simp, fun i t hi => ?_⟩⟩
    rw [str_flat, List.getElem?_map] at hi
    rw [Nat.zero_add, World.cell?_alloc_new, List.getElem?_toArray, List.map_map, List.getElem?_map]
    cases hx : (x :: l)[i]? with
    | none => rw [hx] at hi; cases hi
    | some y =>
      rw [hx] at hi
      cases hi
      exact ⟨_, rfl, rfl⟩
end Go.Proofs.YtjjndkenddigiaaGreatDoor

namespace Go.Proofs.YtjjndkenddigiaaGreatDoor
open Go Go.T
def sfx (g : Nat → Byt) (t : Byt) : Nat → Nat → Byt
  | 0, _ => t
  | k + 1, c => g c ++ 124 :: sfx g t k (c + 1)
theorem sfx_all (g : Nat → Byt) (t : Byt) : ∀ k c, ((List.range' c k).map fun c => g c ++ [124]).flatten ++ t = sfx g t k c
  | 0, _ => rfl
  | k + 1, c => by
    rw [List.range'_succ, List.map_cons, List.flatten_cons, List.append_assoc, sfx_all g t k (c + 1), List.append_assoc]; rfl
theorem sfx_0 (g : Nat → Byt) (t : Byt) (W : Nat) : ((List.range W).map fun c => g c ++ [124]).flatten ++ t = sfx g t W 0 := by
  rw [List.range_eq_range', sfx_all]
def ldT (rows : List BRow) : Tok → UInt8
  | .row i => if (nth rows i).struck then 45 else 32
  | .eq _ => 61
  | .plus _ => 43
def wdT : Tok → Int
  | .row _ => 0
  | .eq _ => 2
  | .plus _ => 2
def nmT (rows : List BRow) : Tok → Nat → Int
  | .row i, c => nth (nth rows i).nums c
  | .eq i, c => sumC (rows.take i) c
  | .plus i, c => sumC (rows.take i) c
def tlT (f : BForm) (rows : List BRow) : Tok → Byt
  | .row i => [letB f (nth rows i)]
  | .eq _ => []
  | .plus _ => []
def rsT (f : BForm) (rows : List BRow) (t : Tok) (c : Nat) : Byt := sfx (fun c => fldN (nmT rows t c) (nth f.widths c + wdT t)) (tlT f rows t) (f.widths.length - c) c
def tokL (f : BForm) (rows : List BRow) (t : Tok) : Byt := ldT rows t :: rsT f rows t 0
theorem tok_line (f : BForm) (rows : List BRow) (t : Tok) : tokB f rows t = tokL f rows t ++ [10] := by
  unfold tokL rsT
  rw [Nat.sub_zero, ← sfx_0]
  cases t with
  | row i => simp [tokB, rowB, ldT, nmT, wdT, tlT]
  | eq i => simp [tokB, lineB, ldT, nmT, wdT, tlT]
  | plus i => simp [tokB, lineB, ldT, nmT, wdT, tlT]
theorem rs_succ {f : BForm} {rows : List BRow} {t : Tok} {c : Nat} (h : c < f.widths.length) : rsT f rows t c = fldN (nmT rows t c) (nth f.widths c + wdT t) ++ 124 :: rsT f rows t (c + 1) := by
  unfold rsT
  rw [show f.widths.length - c = (f.widths.length - (c + 1)) + 1 by omega]; rfl
theorem rs_end {f : BForm} {rows : List BRow} {t : Tok} {c : Nat} (h : c = f.widths.length) : rsT f rows t c = tlT f rows t := by
  unfold rsT; rw [h, Nat.sub_self]; rfl
theorem row_cut {f : BForm} {rows : List BRow} {i : Nat} : tokL f rows (.row i) = rwP f (nth rows i) f.widths.length ++ [letB f (nth rows i)] := by
  have h := tok_line f rows (.row i)
  have e : tokB f rows (.row i) = (rwP f (nth rows i) f.widths.length ++ [letB f (nth rows i)]) ++ [10] := by simp [tokB, rowB, rwP]
  exact (List.append_left_inj [10]).1 (h.symm.trans e)
theorem jn_toks (f : BForm) (rows : List BRow) : ∀ (l : List Tok) (t : Tok), jn ((t :: l).map (tokL f rows)) ++ [10] = toksB f rows (t :: l)
  | [], t => by
    unfold toksB
    rw [List.map_cons, List.map_nil, jn, List.map_cons, List.map_nil, tok_line]; simp
  | u :: l, t => by
    rw [List.map_cons, List.map_cons, jn, ← List.map_cons, List.append_assoc, List.cons_append, jn_toks f rows l u]
    unfold toksB
    rw [List.map_cons (a := t), List.flatten_cons, tok_line]; simp
def TkOk (f : BForm) (rows : List BRow) (t : Tok) : Prop := ∀ c, c < f.widths.length → 0 ≤ nmT rows t c ∧ nmT rows t c < ten (nth f.widths c + wdT t) ∧ nmT rows t c ≤ 1000000
theorem letB_no (f : BForm) (r : BRow) : 97 ≤ (letB f r).toNat := by
  unfold letB
  rw [UInt8.toNat_ofNat']
  have := Nat.mod_lt (letN f r).toNat (show 0 < 23 by decide)
  omega
theorem sfx_no {g : Nat → Byt} {t : Byt} : ∀ k c, (∀ d, c ≤ d → d < c + k → (10 : UInt8) ∉ g d) → (10 : UInt8) ∉ t → (10 : UInt8) ∉ sfx g t k c
  | 0, _, _, h => h
  | k + 1, c, h1, h2 => by
    rw [sfx, List.mem_append, List.mem_cons]
    rintro (h | h | h)
    · exact h1 c (Nat.le_refl _) (by omega) h
    · cases h
    · exact sfx_no k (c + 1) (fun d h3 h4 => h1 d (by omega) (by omega)) h2 h
theorem line_no {f : BForm} {rows : List BRow} {t : Tok} (h : TkOk f rows t) : (10 : UInt8) ∉ tokL f rows t := by
  unfold tokL rsT
  rw [List.mem_cons]
  rintro (h1 | h1)
  · cases t with
    | row i =>
      have h2 : (if (nth rows i).struck = true then (45 : UInt8) else 32).toNat = 10 := congrArg UInt8.toNat h1.symm
      split at h2 <;> exact absurd h2 (by decide)
    | eq i => cases h1
    | plus i => cases h1
  · refine sfx_no _ _ (fun d _ h3 h4 => ?_) ?_ h1
    · have hn := h d (by omega)
      have := fldN_fld (w := nth f.widths d + wdT t) (show (nmT rows t d).toNat < 10 ^ 26 by omega) _ h4
      rcases this with e | e
      · cases e
      · simp at e
    · cases t with
      | row i =>
        intro h2
        have h3 := letB_no f (nth rows i)
        rw [← List.mem_singleton.1 h2] at h3
        simp at h3
      | eq i => intro h2; cases h2
      | plus i => intro h2; cases h2
def vsT (W : Nat) (rows : List BRow) : Tok → Nat → List Int
  | .row i, c => midW W (rows.take i) (nth rows i) c
  | .eq i, _ => sumW W (rows.take i)
  | .plus i, _ => sumW W (rows.take i)
def atT : Tok → Nat
  | .row i => i
  | .eq i => i
  | .plus i => i
def nxT : Tok → Nat
  | .row i => i + 1
  | .eq i => i
  | .plus i => i
theorem vs_0 (W : Nat) (rows : List BRow) (t : Tok) : sumW W (rows.take (atT t)) = vsT W rows t 0 := by
  cases t with
  | row i => exact midW_0 _ _ _
  | eq i => rfl
  | plus i => rfl
theorem vs_len (W : Nat) (rows : List BRow) (t : Tok) (c : Nat) : (vsT W rows t c).length = W := by
  cases t with
  | row i => exact midW_len _ _ _ _
  | eq i => exact sumW_len _ _
  | plus i => exact sumW_len _ _
theorem vs_nth {W : Nat} {rows : List BRow} {t : Tok} {c : Nat} (h : c < W) : nth (vsT W rows t c) c = sumC (rows.take (atT t)) c := by
  cases t with
  | row i => exact midW_nth h
  | eq i => simp [vsT, atT, sumW, nth, h]
  | plus i => simp [vsT, atT, sumW, nth, h]
theorem mid_str {W : Nat} {rows : List BRow} {r : BRow} {c : Nat} (h : r.struck = true) : midW W rows r c = sumW W rows := by
  apply List.ext_getElem (by simp [midW, sumW])
  intro k h1 h2
  simp [midW, sumW, wthR, h]
theorem vs_end {W : Nat} {rows : List BRow} {t : Tok} {c : Nat} (h : ∀ i, t = .row i → i < rows.length) (hc : c = W) : vsT W rows t c = sumW W (rows.take (nxT t)) := by
  cases t with
  | row i => exact midW_end (h i rfl) (by omega) (by simp [hc])
  | eq i => rfl
  | plus i => rfl
theorem vs_set {W : Nat} {rows : List BRow} {i : Nat} {c : Nat} (h : c < W) (hs : (nth rows i).struck = false) : (vsT W rows (.row i) c).set c (sumC (rows.take i) c + nth (nth rows i).nums c) = vsT W rows (.row i) (c + 1) := midW_set h hs
theorem vs_str {W : Nat} {rows : List BRow} {i : Nat} {c : Nat} (hs : (nth rows i).struck = true) : vsT W rows (.row i) c = vsT W rows (.row i) (c + 1) := by
  show midW _ _ _ _ = midW _ _ _ _
  rw [mid_str hs, mid_str hs]
def okT (L n : Nat) (ends : List Int) : Nat → Nat → List Tok → Bool
  | r, p, [] => decide (r = n) && decide (p = ends.length) && decide ((p : Int) = max 1 (((r : Int) + L - 1).tdiv L))
  | r, p, .row i :: l => decide (i = r) && decide (r < n) && okT L n ends (r + 1) p l
  | r, p, .eq i :: l => decide (i = r) && decide (ends[p]? = some (i : Int)) && (decide (n ≤ r) || decide (r = (p + 1) * L)) && okT L n ends r (p + 1) l
  | r, p, .plus i :: l => decide (i = r) && decide (r = p * L) && decide (r < n) && okT L n ends r p l
theorem ok_all : ∀ L : Fin 6, ∀ n : Fin 13, okT (L.1 + 1) n.1 (endsL (L.1 + 1) n.1) 0 0 (tksR (L.1 + 1) n.1 ++ [.eq n.1]) = true := by decide +kernel
theorem ok_row {L n : Nat} {E : List Int} {r p i : Nat} {l : List Tok} (h : okT L n E r p (.row i :: l) = true) : i = r ∧ r < n ∧ okT L n E (r + 1) p l = true := by
  simp only [okT, Bool.and_eq_true, decide_eq_true_eq] at h
  exact ⟨h.1.1, h.1.2, h.2⟩
theorem ok_eq {L n : Nat} {E : List Int} {r p i : Nat} {l : List Tok} (h : okT L n E r p (.eq i :: l) = true) : i = r ∧ E[p]? = some (i : Int) ∧ (n ≤ r ∨ r = (p + 1) * L) ∧ okT L n E r (p + 1) l = true := by
  simp only [okT, Bool.and_eq_true, Bool.or_eq_true, decide_eq_true_eq] at h
  exact ⟨h.1.1.1, h.1.1.2, h.1.2, h.2⟩
theorem ok_plus {L n : Nat} {E : List Int} {r p i : Nat} {l : List Tok} (h : okT L n E r p (.plus i :: l) = true) : i = r ∧ r = p * L ∧ r < n ∧ okT L n E r p l = true := by
  simp only [okT, Bool.and_eq_true, decide_eq_true_eq] at h
  exact ⟨h.1.1.1, h.1.1.2, h.1.2, h.2⟩
theorem ok_end {L n : Nat} {E : List Int} {r p : Nat} (h : okT L n E r p [] = true) : r = n ∧ p = E.length ∧ (p : Int) = max 1 (((r : Int) + L - 1).tdiv L) := by
  simp only [okT, Bool.and_eq_true, decide_eq_true_eq] at h
  exact ⟨h.1.1, h.1.2, h.2⟩
theorem ok_at {L n : Nat} {E : List Int} {r p : Nat} {t : Tok} {l : List Tok} (h : okT L n E r p (t :: l) = true) : atT t = r ∧ ∀ i, t = .row i → i < n := by
  cases t with
  | row i => exact ⟨(ok_row h).1, fun j e => by cases e; have := ok_row h; omega⟩
  | eq i => exact ⟨(ok_eq h).1, fun j e => by cases e⟩
  | plus i => exact ⟨(ok_plus h).1, fun j e => by cases e⟩
theorem ok_mem {L n : Nat} {E : List Int} : ∀ {l : List Tok} {r p : Nat}, okT L n E r p l = true → ∀ t ∈ l, ∀ i, t = .row i → i < n
  | [], _, _, _, t, ht, _, _ => by cases ht
  | u :: l, r, p, h, t, ht, i, e => by
    rcases List.mem_cons.1 ht with e2 | e2
    · subst e2; exact (ok_at h).2 i e
    · cases u with
      | row j => exact ok_mem (ok_row h).2.2 t e2 i e
      | eq j => exact ok_mem (ok_eq h).2.2.2 t e2 i e
      | plus j => exact ok_mem (ok_plus h).2.2.2 t e2 i e
def nxQ : Tok → Nat → Nat → Nat × Nat
  | .row _, r, p => (r + 1, p)
  | .eq _, r, p => (r, p + 1)
  | .plus _, r, p => (r, p)
theorem ok_next {L n : Nat} {E : List Int} {r p : Nat} {t : Tok} {l : List Tok} (h : okT L n E r p (t :: l) = true) : okT L n E (nxQ t r p).1 (nxQ t r p).2 l = true ∧ nxT t = (nxQ t r p).1 := by
  cases t with
  | row i => have := ok_row h; exact ⟨this.2.2, by show i + 1 = r + 1; omega⟩
  | eq i => have := ok_eq h; exact ⟨this.2.2.2, this.1⟩
  | plus i => have := ok_plus h; exact ⟨this.2.2.2, this.1⟩
theorem wd_row {t : Tok} (h : wdT t = 0) : ∃ i, t = .row i := by
  cases t with
  | row i => exact ⟨i, rfl⟩
  | eq i => cases h
  | plus i => cases h
theorem ld_bnd (rows : List BRow) (t : Tok) : (ldT rows t).toNat = 61 ∧ (∃ i, t = .eq i) ∨ (ldT rows t).toNat = 43 ∧ (∃ i, t = .plus i) ∨ ∃ i, t = .row i ∧ ((nth rows i).struck = true ∧ (ldT rows t).toNat = 45 ∨ (nth rows i).struck = false ∧ (ldT rows t).toNat = 32) := by
  cases t with
  | row i =>
    refine .inr (.inr ⟨i, rfl, ?_⟩)
    cases h : (nth rows i).struck with
    | true => exact .inl ⟨rfl, by simp [ldT, h]⟩
    | false => exact .inr ⟨rfl, by simp [ldT, h]⟩
  | eq i => exact .inl ⟨rfl, i, rfl⟩
  | plus i => exact .inr (.inl ⟨rfl, i, rfl⟩)
def ltF (p : Int × Int) (x : UInt8) : Int × Int := if x = 124 then p else (p.1 + (p.2 + 1) * valB x, p.2 + 1)
def ltS (l : Byt) (i : Nat) : Int × Int := ((l.take i).drop 1).foldl ltF (if nth l 0 = 45 then 11 else 0, 0)
theorem lt_1 (l : Byt) : ltS l 1 = (if nth l 0 = 45 then 11 else 0, 0) := by
  unfold ltS
  rw [List.drop_of_length_le (by rw [List.length_take]; omega)]; rfl
theorem lt_succ {l : Byt} {i : Nat} (h1 : 1 ≤ i) (h : i < l.length) : ltS l (i + 1) = ltF (ltS l i) (nth l i) := by
  unfold ltS
  rw [take_nth h, List.drop_append_of_le_length (by rw [List.length_take]; omega), List.foldl_append]; rfl
def LtOk (l : Byt) : Prop := 1 ≤ l.length ∧ l.length ≤ 200 ∧ ∀ x ∈ l.drop 1, FldB x ∨ x = 124
theorem lt_mem {l : Byt} (h : LtOk l) {i : Nat} (h1 : 1 ≤ i) (hi : i < l.length) : FldB (nth l i) ∨ nth l i = 124 := by
  refine h.2.2 _ ?_
  rw [nth_lt hi]
  have e : l[i] = (l.drop 1)[i - 1]'(by rw [List.length_drop]; omega) := by rw [List.getElem_drop]; congr 1; omega
  rw [e]; exact List.getElem_mem _
theorem lt_bnd {l : Byt} (h : LtOk l) : ∀ i : Nat, 1 ≤ i → i ≤ l.length → 0 ≤ (ltS l i).2 ∧ (ltS l i).2 ≤ i ∧ 0 ≤ (ltS l i).1 ∧ (ltS l i).1 ≤ 11 + 1809 * (i : Int)
  | 0, h1, _ => absurd h1 (by decide)
  | 1, _, _ => by
    rw [lt_1]
    refine ⟨Int.le_refl _, by show (0 : Int) ≤ 1; decide, ?_, ?_⟩ <;> (show _ ≤ _; split <;> decide)
  | i + 2, _, h2 => by
    obtain ⟨a, b, c, d⟩ := lt_bnd h (i + 1) (by omega) (by omega)
    rw [lt_succ (by omega) (by omega)]
    unfold ltF
    split
    · refine ⟨a, by omega, c, by omega⟩
    · rename_i hne
      have hv := valB_bnd ((lt_mem h (by omega) (by omega : i + 1 < l.length)).resolve_right hne)
      have h200 := h.2.1
      have hm1 : 0 ≤ ((ltS l (i + 1)).2 + 1) * valB (nth l (i + 1)) := Int.mul_nonneg (by omega) hv.1
      have hm2 : ((ltS l (i + 1)).2 + 1) * valB (nth l (i + 1)) ≤ 201 * 9 := Int.mul_le_mul (by omega) hv.2 hv.1 (by omega)
      exact ⟨by show 0 ≤ (ltS l (i + 1)).2 + 1; omega, by show (ltS l (i + 1)).2 + 1 ≤ _; omega, by show 0 ≤ (ltS l (i + 1)).1 + _; omega, by show (ltS l (i + 1)).1 + _ ≤ _; omega⟩
def lettB (l : Byt) : UInt8 := UInt8.ofNat (97 + (ltS l l.length).1.toNat % 23)
theorem lt_fld : ∀ (l : Byt), (∀ x ∈ l, FldB x) → ∀ (s : Int) (k : Nat), l.foldl ltF (s, (k : Int)) = (s + addL k l, ((k + l.length : Nat) : Int))
  | [], _, s, k => by simp [addL]
  | x :: l, h, s, k => by
    have hx := h x List.mem_cons_self
    have hne : ¬ x = 124 := by
      intro e
      subst e
      rcases hx with e | e
      · cases e
      · simp at e
    have e1 : ltF (s, (k : Int)) x = (s + ((k : Int) + 1) * valB x, ((k + 1 : Nat) : Int)) := by
      unfold ltF; rw [if_neg hne]; simp
    have e2 : addL k (x :: l) = ((k : Int) + 1) * valB x + addL (k + 1) l := by
      rw [addL, ← bytA_val]; rfl
    rw [List.foldl_cons, e1, lt_fld l (fun y hy => h y (List.mem_cons_of_mem _ hy)), e2, List.length_cons]
    congr 1
    · omega
    · omega
theorem lt_flds : ∀ (F : List Byt), (∀ l ∈ F, ∀ x ∈ l, FldB x) → ∀ (s : Int) (k : Nat), ((F.map fun l => l ++ [124]).flatten).foldl ltF (s, (k : Int)) = (s + addL k F.flatten, ((k + F.flatten.length : Nat) : Int))
  | [], _, s, k => by simp [addL]
  | l :: F, h, s, k => by
    rw [List.map_cons, List.flatten_cons, List.append_assoc, List.foldl_append, lt_fld l (h l List.mem_cons_self), List.foldl_append]
    have e : List.foldl ltF (s + addL k l, ((k + l.length : Nat) : Int)) [124] = (s + addL k l, ((k + l.length : Nat) : Int)) := rfl
    rw [e, lt_flds F (fun m hm => h m (List.mem_cons_of_mem _ hm)), List.flatten_cons, addL_append, List.length_append]
    congr 1
    · omega
    · omega
theorem row_flds {f : BForm} {r : BRow} (hf : FormOk f) (hr : RowOk f r) : ∀ l ∈ fldRow f r, ∀ x ∈ l, FldB x := by
  intro l hl
  unfold fldRow at hl
  obtain ⟨c, hc, rfl⟩ := List.mem_map.1 hl
  exact fldAt_fld hf hr (List.mem_range.1 hc)
theorem rwP_flat (f : BForm) (r : BRow) : rwP f r f.widths.length = (if r.struck then 45 else 32) :: ((fldRow f r).map fun l => l ++ [124]).flatten := by
  unfold rwP fldRow
  rw [List.map_map]; rfl
theorem lett_row {f : BForm} {r : BRow} (hf : FormOk f) (hr : RowOk f r) : lettB (rwP f r f.widths.length) = letB f r := by
  unfold lettB letB letN
  have e : (ltS (rwP f r f.widths.length) (rwP f r f.widths.length).length).1 = (if r.struck then 11 else 0) + addL 0 (fldRow f r).flatten := by
    unfold ltS
    rw [List.take_length, rwP_flat, List.drop_one, List.tail_cons]
    have := lt_flds _ (row_flds hf hr) (if r.struck then 11 else 0) 0
    have e0 : (if nth ((if r.struck then (45 : UInt8) else 32) :: ((fldRow f r).map fun l => l ++ [124]).flatten) 0 = 45 then (11 : Int) else 0) = if r.struck then 11 else 0 := by
      show (if (if r.struck then (45 : UInt8) else 32) = 45 then (11 : Int) else 0) = _
      cases r.struck <;> rfl
    rw [e0]
    exact congrArg Prod.fst this
  rw [e]
theorem lett_ok {f : BForm} {r : BRow} (hf : FormOk f) (hr : RowOk f r) : LtOk (rwP f r f.widths.length) := by
  refine ⟨by rw [rwP_flat]; simp, by have := rwP_len hf hr (Nat.le_refl _); have := hf.n2; omega, fun x hx => ?_⟩
  rw [rwP_flat, List.drop_one, List.tail_cons] at hx
  obtain ⟨m, hm, hx⟩ := List.mem_flatten.1 hx
  obtain ⟨l, hl, rfl⟩ := List.mem_map.1 hm
  rcases List.mem_append.1 hx with h | h
  · exact .inl (row_flds hf hr l hl x h)
  · exact .inr (List.mem_singleton.1 h)
def vP (l : Byt) (i : Nat) : Int := (l.take i).foldl (fun a x => 10 * a + valB x) 0
theorem vP_0 (l : Byt) : vP l 0 = 0 := rfl
theorem vP_succ {l : Byt} {i : Nat} (h : i < l.length) : vP l (i + 1) = 10 * vP l i + valB (nth l i) := by
  unfold vP; rw [take_nth h, List.foldl_append]; rfl
theorem vP_bnd {l : Byt} (h : ∀ x ∈ l, FldB x) : ∀ i, i ≤ l.length → 0 ≤ vP l i ∧ vP l i < ((10 ^ i : Nat) : Int)
  | 0, _ => by rw [vP_0]; decide
  | i + 1, hi => by
    have h1 := vP_bnd h i (by omega)
    have h2 := valB_bnd (h _ (nth_mem (show i < l.length by omega)))
    rw [vP_succ (by omega), Nat.pow_succ]
    omega
theorem vP_small {l : Byt} (h : ∀ x ∈ l, FldB x) {i : Nat} (hi : i ≤ l.length) (h6 : l.length ≤ 6) : 0 ≤ vP l i ∧ vP l i < 1000000 := by
  have h1 := vP_bnd h i hi
  have h2 : 10 ^ i ≤ 10 ^ 6 := Nat.pow_le_pow_right (by omega) (by omega)
  omega
theorem valB_dig {d : Nat} (h : d < 10) : valB (UInt8.ofNat (48 + d)) = d := by
  have h1 := dig_toNat h
  unfold valB
  rw [if_neg, h1]
  · omega
  · intro e
    rw [e] at h1
    simp at h1; omega
theorem digF_val : ∀ (k n : Nat), n < 10 ^ (k + 1) → (digF k n).foldl (fun a x => 10 * a + valB x) 0 = (n : Int)
  | 0, n, h => by
    rw [digF]
    show 10 * 0 + valB _ = _
    rw [valB_dig (by simpa using h)]; omega
  | k + 1, n, h => by
    rw [digF]
    split
    · show 10 * 0 + valB _ = _
      rw [valB_dig (by omega)]; omega
    · rw [List.foldl_append, digF_val k (n / 10) (by rw [Nat.pow_succ] at h; omega)]
      show 10 * _ + valB _ = _
      rw [valB_dig (by omega)]; omega
theorem digN_val {n : Nat} (h : n < 10 ^ 26) : vP (digN n) (digN n).length = (n : Int) := by
  unfold vP; rw [List.take_length]; exact digF_val 25 n h
theorem digF_first : ∀ (k n : Nat), n < 10 ^ (k + 1) → 1 ≤ n → (nth (digF k n) 0).toNat ≠ 48
  | 0, n, h, h1 => by
    rw [digF]
    show (UInt8.ofNat (48 + n)).toNat ≠ 48
    rw [dig_toNat (by simpa using h)]; omega
  | k + 1, n, h, h1 => by
    rw [digF]
    split
    · show (UInt8.ofNat (48 + n)).toNat ≠ 48
      rw [dig_toNat (by omega)]; omega
    · have := digF_pos k (n / 10)
      have e : nth (digF k (n / 10) ++ [UInt8.ofNat (48 + n % 10)]) 0 = nth (digF k (n / 10)) 0 := by
        unfold nth
        rw [List.getD_eq_getElem?_getD, List.getD_eq_getElem?_getD, List.getElem?_append_left (by omega)]
      rw [e]
      exact digF_first k (n / 10) (by rw [Nat.pow_succ] at h; omega) (by omega)
theorem digN_first {n : Nat} (h : n < 10 ^ 26) : (digN n).length = 1 ∨ (nth (digN n) 0).toNat ≠ 48 := by
  by_cases e : n = 0
  · subst e; exact .inl rfl
  · exact .inr (digF_first 25 n h (by omega))
def trimB (c : UInt8) : Byt → Byt
  | [] => []
  | x :: l => if x = c then trimB c l else x :: l
theorem trim_fld {n w : Int} (h : n.toNat < 10 ^ 26) : trimB 32 (fldN n w) = digN n.toNat := by
  unfold fldN padW
  have h2 : trimB 32 (digN n.toNat) = digN n.toNat := by
    have h1 := digN_pos n.toNat
    have h2 := digF_fld 25 n.toNat h
    unfold digN at h1 ⊢
    cases hl : digF 25 n.toNat with
    | nil => rfl
    | cons x l =>
      rw [hl] at h2
      have h3 := h2 x List.mem_cons_self
      rw [trimB, if_neg]
      intro e; subst e; simp at h3
  generalize w.toNat - (digN n.toNat).length = k
  induction k with
  | zero => exact h2
  | succ k ih => rw [List.replicate_succ, List.cons_append, trimB, if_pos rfl, ih]
end Go.Proofs.YtjjndkenddigiaaGreatDoor

namespace Go.Proofs.YtjjndkenddigiaaGreatDoor
open Go Go.T
set_option maxHeartbeats 4000000
theorem trim_go {c : UInt8} {l : Byt} (h : (decide ((l.length : Int) > 0) && decide (((nth l 0).toNat : Int) = (c.toNat : Int))) = true) : trimB c (l.drop 1) = trimB c l ∧ 1 ≤ l.length := by
  cases l with
  | nil => simp at h
  | cons x l =>
    rw [Bool.and_eq_true, decide_eq_true_eq, decide_eq_true_eq] at h
    have e : x = c := u8_i.1 h.2
    exact ⟨by rw [List.drop_one, List.tail_cons, trimB, if_pos e], by simp⟩
theorem trim_end {c : UInt8} {l : Byt} (h : (decide ((l.length : Int) > 0) && decide (((nth l 0).toNat : Int) = (c.toNat : Int))) = false) : l = trimB c l := by
  cases l with
  | nil => rfl
  | cons x l =>
    rw [trimB, if_neg]
    intro e
    subst e
    simp [nth] at h
theorem trim_0 {c : UInt8} {l : Byt} (h : (decide (l = []) || decide (([32] : Byt) = [])) = true) : l = trimB c l := by
  simp at h; subst h; rfl
theorem val_0 {x : UInt8} (h : (x.toNat : Int) = 32) : (0 : Int) = valB x := by
  have : x = 32 := UInt8.toNat_inj.1 (by show x.toNat = 32; omega)
  unfold valB; rw [if_pos this]
theorem val_1 {x : UInt8} (hx : FldB x) (h : ¬ (x.toNat : Int) = 32) : (x.toNat : Int) - 48 = valB x ∧ 48 ≤ x.toNat ∧ x.toNat ≤ 57 := by
  have : x ≠ 32 := fun e => h (by rw [e]; rfl)
  unfold valB; rw [if_neg this]
  exact ⟨rfl, hx.resolve_left this⟩
theorem lt_i1 {l : Byt} (h : ((nth l 0).toNat : Int) = 45) : (11 : Int) = (ltS l 1).1 := by
  have : nth l 0 = 45 := UInt8.toNat_inj.1 (by show (nth l 0).toNat = 45; omega)
  rw [lt_1, if_pos this]
theorem lt_i0 {l : Byt} (h : ¬ ((nth l 0).toNat : Int) = 45) : (0 : Int) = (ltS l 1).1 := by
  rw [lt_1, if_neg fun e => h (by rw [e]; rfl)]
theorem lt_skip {l : Byt} {i : Nat} (h1 : 1 ≤ i) (hi : i < l.length) (h : ((nth l i).toNat : Int) = 124) : ltS l i = ltS l (i + 1) := by
  have : nth l i = 124 := UInt8.toNat_inj.1 (by show (nth l i).toNat = 124; omega)
  rw [lt_succ h1 hi]; unfold ltF; rw [if_pos this]
theorem lt_add {l : Byt} {i : Nat} (h1 : 1 ≤ i) (hi : i < l.length) (h : ¬ ((nth l i).toNat : Int) = 124) : ltS l (i + 1) = ((ltS l i).1 + ((ltS l i).2 + 1) * valB (nth l i), (ltS l i).2 + 1) := by
  rw [lt_succ h1 hi]; unfold ltF; rw [if_neg fun e => h (by rw [e]; rfl)]
theorem lett_n {l : Byt} (h : 0 ≤ (ltS l l.length).1) : 97 + (ltS l l.length).1.tmod 23 = ((lettB l).toNat : Int) := by
  have e : (ltS l l.length).1.tmod 23 = (((ltS l l.length).1.toNat % 23 : Nat) : Int) := by
    rw [show (ltS l l.length).1 = (((ltS l l.length).1.toNat : Nat) : Int) by omega]; rfl
  have hm := Nat.mod_lt (ltS l l.length).1.toNat (show 0 < 23 by decide)
  unfold lettB
  rw [UInt8.toNat_ofNat', e]
  omega
theorem fl_mark {n w : Int} {t : Byt} (h : (fldN n w).length = w.toNat) : nth (fldN n w ++ 124 :: t) w.toNat = 124 := by
  unfold nth
  rw [List.getD_eq_getElem?_getD, List.getElem?_append_right (by omega), h, Nat.sub_self]; rfl
theorem fl_take {n w : Int} {t : Byt} (h : (fldN n w).length = w.toNat) : (fldN n w ++ 124 :: t).take w.toNat = fldN n w := by
  rw [← h, List.take_left]
theorem fl_drop {n w : Int} {t : Byt} (h : (fldN n w).length = w.toNat) : (fldN n w ++ 124 :: t).drop (w.toNat + 1) = t := by
  rw [← List.drop_drop, ← h, List.drop_left]; rfl
theorem fl_six {n w : Int} (h0 : 0 ≤ n) (h1 : 1 ≤ w) (h2 : w ≤ 6) (h : n < ten w) : (digN n.toNat).length ≤ 6 := by
  have h3 : n.toNat < 10 ^ w.toNat := by unfold ten at h; omega
  have h4 : 10 ^ w.toNat ≤ 10 ^ 6 := Nat.pow_le_pow_right (by omega) (by omega)
  exact (digN_len (w := 6) (by omega) (by omega)).2 (by omega)
theorem digN_fld {n : Nat} (h : n < 10 ^ 26) : ∀ x ∈ digN n, 48 ≤ x.toNat ∧ x.toNat ≤ 57 := digF_fld 25 n h
theorem fl_bool {l : Byt} (h : 1 ≤ l.length) (h2 : l.length = 1 ∨ (nth l 0).toNat ≠ 48) : (!decide (l = []) && (decide ((l.length : Int) = 1) || !decide (((nth l 0).toNat : Int) = 48))) = true := by
  cases l with
  | nil => simp at h
  | cons x l =>
    rcases h2 with h2 | h2
    · rw [decide_eq_true (show (((x :: l).length : Nat) : Int) = 1 by omega)]; simp
    · rw [decide_eq_false (show ¬ ((nth (x :: l) 0).toNat : Int) = 48 by omega)]; simp
theorem n32 : nth ([32] : Byt) 0 = 32 := rfl
attribute [local irreducible] trimB valB ltS lettB vP jn digN fldN
attribute [local irreducible] dInt dBool dSl dPp dPtr dAgg dTup dClo dAny dEx dStr dGd dCells dVec dVs dRow dOp nth Tri Into TOps Ctr bodyPost Exit.then Exit.inBlock Code.wp Code.wpIn dPa dArr dMp dMap CtrG keepPost iterPost bodyPostM roundQ
set_option maxRecDepth 100000 in
theorem c_sHasSuffix (a b : Byt) (ha : a.length ≤ 1000000) : Ctr Tryz.prog 112 [Ty.str (bs a), Ty.str (bs b)] (Ty.bool (decide (b.length ≤ a.length) && decide (a.drop (a.length - b.length) = b))) := by
  refine fn_intro Tryz.func112 rfl (by decide) Tryz.ntmps112 (by exact Nat.le_of_ble_eq_true rfl) fun w0 M0 => ?_
  refine t_seq ?_
  refine t_region ?_
  refine asB rfl ?_
  refine r_nil ?_
  refine i_then ?_
  refine t_seq ?_
  refine t_region ?_
  refine mvS' rfl ?_
  refine r_lenS rfl rfl rfl ?_
  refine mvS' rfl ?_
  refine r_lenS rfl rfl rfl ?_
  refine r_bin rfl rfl rfl ?_
  refine mvB rfl ?_
  apply r_guard (s := 10) rfl rfl rfl
  · intro hg; apply opT_of; (refine mvS' rfl ?_); refine r_nil ?_; exact rfl
  · exact rfl
  · exact rfl
  apply r_guard (s := 10) rfl rfl rfl
  · intro hg; apply opT_of; (refine mvS' rfl ?_); refine r_nil ?_; exact rfl
  · exact rfl
  · exact rfl
  apply r_guard (s := 10) rfl rfl rfl
  · intro hg; apply opT_strip (s := 12) rfl (by (rw [hg]; rfl)); apply opT_of; (refine r_lenS rfl rfl rfl ?_); refine r_nil ?_; exact rfl
  · exact rfl
  · exact rfl
  apply r_guard (s := 10) rfl rfl rfl
  · intro hg; apply opT_of; (refine mvS' rfl ?_); refine r_nil ?_; exact rfl
  · exact rfl
  · exact rfl
  apply r_guard (s := 10) rfl rfl rfl
  · intro hg; apply opT_strip (s := 14) rfl (by (rw [hg]; rfl)); apply opT_of; (refine r_lenS rfl rfl rfl ?_); refine r_nil ?_; exact rfl
  · exact rfl
  · exact rfl
  apply r_guard (s := 10) rfl rfl rfl
  · intro hg; apply opT_strip (s := 13) rfl (by (rw [hg]; rfl)); apply opT_strip (s := 15) rfl (by (rw [hg]; rfl)); apply opT_of; (refine r_sub rfl rfl (by simp at hg; omega) (by omega) ?_); refine r_nil ?_; exact rfl
  · exact rfl
  · exact rfl
  apply r_guard (s := 10) rfl rfl rfl
  · intro hg; apply opT_strip (s := 11) rfl (by (rw [hg]; rfl)); apply opT_strip (s := 16) rfl (by (rw [hg]; rfl)); apply opT_of; (refine r_cutS_lo (lo := a.length - b.length) rfl (congrArg (Ty.int .i64) (show (a.length : Int) - (b.length : Int) = ((a.length - b.length : Nat) : Int) by simp at hg; omega)) rfl rfl (by omega) ?_); refine r_nil ?_; exact rfl
  · exact rfl
  · exact rfl
  apply r_guard (s := 10) rfl rfl rfl
  · intro hg; apply opT_of; (refine mvS' rfl ?_); refine r_nil ?_; exact rfl
  · exact rfl
  · exact rfl
  apply r_guard (s := 10) rfl rfl rfl
  · intro hg; apply opT_strip (s := 17) rfl (by (rw [hg]; rfl)); apply opT_strip (s := 18) rfl (by (rw [hg]; rfl)); apply opT_of; (refine r_eqlS rfl rfl ?_); refine r_nil ?_; exact rfl
  · exact rfl
  · exact rfl
  refine r_and rfl rfl ?_
  refine asB rfl ?_
  refine r_nil ?_
  refine i_then ?_
  refine t_ret ?_
  refine i_rp1 rfl rfl ?_
  all_goals skip
  exact ret_eq rfl rfl (congrArg Ty.bool (by rw [Bool.eq_iff_iff]; simp))
set_option maxRecDepth 100000 in
theorem c_HasSuffix (a b : Byt) (ha : a.length ≤ 1000000) : Ctr Tryz.prog 55 [Ty.str (bs a), Ty.str (bs b)] (Ty.bool (decide (b.length ≤ a.length) && decide (a.drop (a.length - b.length) = b))) := by
  refine fn_intro Tryz.func55 rfl (by decide) Tryz.ntmps55 (by exact Nat.le_of_ble_eq_true rfl) fun w0 M0 => ?_
  refine t_seq ?_
  refine t_region ?_
  refine asB rfl ?_
  refine r_nil ?_
  refine i_then ?_
  refine t_seq ?_
  refine t_region ?_
  refine mvS' rfl ?_
  refine mvS' rfl ?_
  refine r_call (c_sHasSuffix a b ha) rfl rfl rfl rfl rfl ?_
  refine asB rfl ?_
  refine r_nil ?_
  refine i_then ?_
  refine t_ret ?_
  refine i_rp1 rfl rfl ?_
  all_goals exact ret_refl rfl rfl
set_option maxRecDepth 100000 in
theorem c_trimByte (l : Byt) (c : UInt8) : Ctr Tryz.prog 113 [Ty.str (bs l), Ty.int .u8 (c.toNat : Int)] (Ty.str (bs (trimB c l))) := by
  refine fn_intro Tryz.func113 rfl (by decide) Tryz.ntmps113 (by exact Nat.le_of_ble_eq_true rfl) fun w0 M0 => ?_
  refine t_seq ?_
  refine t_region ?_
  refine asS' rfl ?_
  refine r_nil ?_
  refine i_then ?_
  refine t_seq ?_
  refine t_block ?_
  refine t_loop (fun (m : {m : Byt // trimB c m = trimB c l}) => live [(0, Ty.str (bs m.1)), (1, Ty.int .u8 (c.toNat : Int))] []) (fun m => m.1.length) (⟨l, rfl⟩) ?_ fun m => ?_
  · (refine Ent.mk' ?_ ?_ <;> (repeat' (first | exact allSub_zero | exact allTags_nil | refine allSub_succ' ?_ (Ty.sub_any _) | refine allSub_succ' ?_ (Ty.sub_refl _))))
  ·
    refine t_seq ?_
    refine t_seq ?_
    refine t_region ?_
    refine mvS' rfl ?_
    refine r_lenS rfl rfl rfl ?_
    refine r_bin rfl rfl rfl ?_
    refine mvB rfl ?_
    apply r_guard (s := 8) rfl rfl rfl
    · intro hg; apply opT_of; (refine mvS' rfl ?_); refine r_nil ?_; exact rfl
    · exact rfl
    · exact rfl
    apply r_guard (s := 8) rfl rfl rfl
    · intro hg; apply opT_strip (s := 9) rfl (by (rw [hg]; rfl)); apply opT_of; (refine r_idxS (i := 0) rfl rfl rfl rfl (by simp at hg; omega) ?_); refine r_nil ?_; exact rfl
    · exact rfl
    · exact rfl
    apply r_guard (s := 8) rfl rfl rfl
    · intro hg; apply opT_of; (refine mvI rfl ?_); refine r_nil ?_; exact rfl
    · exact rfl
    · exact rfl
    apply r_guard (s := 8) rfl rfl rfl
    · intro hg; apply opT_strip (s := 10) rfl (by (rw [hg]; rfl)); apply opT_strip (s := 11) rfl (by (rw [hg]; rfl)); apply opT_of; (refine r_bin rfl rfl rfl ?_); refine r_nil ?_; exact rfl
    · exact rfl
    · exact rfl
    refine r_and rfl rfl ?_
    refine r_nil ?_
    refine i_then ?_
    refine t_cond rfl (fun hc1 => ?_) (fun hc1 => ?_)
    ·
      refine t_skip ?_
      refine i_then ?_
      refine t_block ?_
      refine t_region ?_
      refine mvS' rfl ?_
      refine r_cutS_lo (lo := 1) rfl rfl rfl rfl (trim_go hc1).2 ?_
      refine asS' rfl ?_
      refine r_nil ?_
      refine i_block ?_
      refine i_round (⟨m.1.drop 1, (trim_go hc1).1.trans m.2⟩) ?_ (by show (m.1.drop 1).length < m.1.length; have := (trim_go hc1).2; rw [List.length_drop]; omega)
      (refine Ent.mk' ?_ ?_ <;> (repeat' (first | exact allSub_zero | exact allTags_nil | refine allSub_succ' ?_ (Ty.sub_any _) | refine allSub_succ' ?_ (Ty.sub_refl _))))
      all_goals skip
    ·
      refine t_exit ?_
      refine i_then_exit ?_
      refine i_then_exit ?_
      refine i_block_exit rfl ?_
      refine i_then ?_
      refine t_seq ?_
      refine t_region ?_
      refine mvS' rfl ?_
      refine asS' rfl ?_
      refine r_nil ?_
      refine i_then ?_
      refine t_ret ?_
      refine i_rp1 rfl rfl ?_
      all_goals skip
      exact ret_eq rfl rfl (congrArg (fun l => Ty.str (bs l)) ((trim_end hc1).trans m.2))
set_option maxRecDepth 100000 in
theorem c_TrimLeft (l : Byt) : Ctr Tryz.prog 57 [Ty.str (bs l), Ty.str (bs [32])] (Ty.str (bs (trimB 32 l))) := by
  refine fn_intro Tryz.func57 rfl (by decide) Tryz.ntmps57 (by exact Nat.le_of_ble_eq_true rfl) fun w0 M0 => ?_
  refine t_seq ?_
  refine t_region ?_
  refine asS' rfl ?_
  refine r_nil ?_
  refine i_then ?_
  refine t_seq ?_
  refine t_seq ?_
  refine t_region ?_
  refine mvS' rfl ?_
  refine r_eqlS (b := []) rfl rfl ?_
  refine mvB rfl ?_
  apply r_guard (s := 9) rfl rfl rfl
  · intro hg; apply opT_of; (refine mvS' rfl ?_); refine r_nil ?_; exact rfl
  · exact rfl
  · exact rfl
  apply r_guard (s := 9) rfl rfl rfl
  · intro hg; apply opT_strip (s := 10) rfl (by (rw [hg]; rfl)); apply opT_of; (refine r_eqlS (b := []) rfl rfl ?_); refine r_nil ?_; exact rfl
  · exact rfl
  · exact rfl
  refine r_or rfl rfl ?_
  refine r_nil ?_
  refine i_then ?_
  refine t_cond rfl (fun hc1 => ?_) (fun hc1 => ?_)
  ·
    refine t_seq ?_
    refine t_region ?_
    refine mvS' rfl ?_
    refine asS' rfl ?_
    refine r_nil ?_
    refine i_then ?_
    refine t_ret ?_
    refine i_then_ret ?_
    refine i_rp1 rfl rfl ?_
    all_goals skip
    exact ret_eq rfl rfl (congrArg (fun l => Ty.str (bs l)) (trim_0 hc1))
  ·
    refine t_skip ?_
    refine i_then ?_
    refine t_seq ?_
    refine t_seq ?_
    refine t_region ?_
    refine mvS' rfl ?_
    refine r_lenS rfl rfl rfl ?_
    refine r_bin rfl rfl rfl ?_
    refine mvB rfl ?_
    apply r_guard (s := 17) rfl rfl rfl
    · intro hg; apply opT_of; (refine mvS' rfl ?_); refine r_nil ?_; exact rfl
    · exact rfl
    · exact rfl
    apply r_guard (s := 17) rfl rfl rfl
    · intro hg; apply opT_strip (s := 18) rfl (by exact hg); apply opT_of; (refine r_idxS (a := [32]) (i := 0) rfl rfl rfl rfl (by decide) ?_); refine r_nil ?_; exact rfl
    · exact rfl
    · exact rfl
    apply r_guard (s := 17) rfl rfl rfl
    · intro hg; apply opT_strip (s := 19) rfl (by exact hg); apply opT_of; (refine r_bin rfl rfl rfl ?_); refine r_nil ?_; exact rfl
    · exact rfl
    · exact rfl
    refine r_and rfl rfl ?_
    refine r_nil ?_
    refine i_then ?_
    refine t_cond_tt rfl ((by rw [n32]; rfl)) ?_
    refine t_seq ?_
    refine t_region ?_
    refine mvS' rfl ?_
    refine mvS' rfl ?_
    refine r_idxS (a := [32]) (i := 0) rfl rfl rfl rfl (by decide) ?_
    refine r_call (c_trimByte l (nth [32] 0)) rfl rfl rfl rfl rfl ?_
    refine asS' rfl ?_
    refine r_nil ?_
    refine i_then ?_
    refine t_ret ?_
    refine i_then_ret ?_
    refine i_rp1 rfl rfl ?_
    all_goals skip
    exact ret_eq rfl rfl (congrArg (fun l => Ty.str (bs l)) (by rw [n32]))
set_option maxRecDepth 100000 in
theorem c_Split (l : List Byt) (x : Byt) (h : ∀ y ∈ x :: l, (10 : UInt8) ∉ y) (hl : (jn (x :: l)).length ≤ 100000) : Ctr Tryz.prog 59 [Ty.str (bs (jn (x :: l))), Ty.str (bs [10])] (Ty.sl StrE (x :: l)) := by
  refine fn_intro Tryz.func59 rfl (by decide) Tryz.ntmps59 (by exact Nat.le_of_ble_eq_true rfl) fun w0 M0 => ?_
  refine t_seq ?_
  refine t_region ?_
  refine asX rfl ?_
  refine r_nil ?_
  refine i_then ?_
  refine t_seq ?_
  refine t_region ?_
  refine mvS' rfl ?_
  refine mvS' rfl ?_
  refine r_call (c_genSplit l x h hl) rfl rfl rfl rfl rfl ?_
  refine asS rfl ?_
  refine r_nil ?_
  refine i_then ?_
  refine t_ret ?_
  refine i_rp1 rfl rfl ?_
  all_goals exact ret_refl rfl rfl
set_option maxRecDepth 100000 in
theorem c_value (x : UInt8) (h : FldB x) : Ctr Tryz.prog 58 [Ty.int .u8 (x.toNat : Int)] (Ty.int .i64 (valB x)) := by
  refine fn_intro Tryz.func58 rfl (by decide) Tryz.ntmps58 (by exact Nat.le_of_ble_eq_true rfl) fun w0 M0 => ?_
  refine t_seq ?_
  refine t_region ?_
  refine asI rfl ?_
  refine r_nil ?_
  refine i_then ?_
  refine t_seq ?_
  refine t_seq ?_
  refine t_region ?_
  refine mvI rfl ?_
  refine r_bin rfl rfl rfl ?_
  refine r_nil ?_
  refine i_then ?_
  refine t_cond_dec rfl (fun hc1 => ?_) (fun hc1 => ?_)
  ·
    refine t_seq ?_
    refine t_region ?_
    refine asI rfl ?_
    refine r_nil ?_
    refine i_then ?_
    refine t_ret ?_
    refine i_then_ret ?_
    refine i_rp1 rfl rfl ?_
    all_goals skip
    exact ret_eq rfl rfl (congrArg (Ty.int .i64) (val_0 hc1))
  ·
    refine t_skip ?_
    refine i_then ?_
    refine t_seq ?_
    have hv := val_1 h hc1
    refine t_region ?_
    refine mvI rfl ?_
    refine r_bin (ty := Ty.int .u8 ((x.toNat : Int) - 48)) rfl rfl (by show some _ = some _; rw [IntWalk.u8_in _ (by omega)]) ?_
    refine r_convK rfl rfl rfl rfl (IntWalk.i64_in ((x.toNat : Int) - 48) (by omega)) ?_
    refine asI rfl ?_
    refine r_nil ?_
    refine i_then ?_
    refine t_ret ?_
    refine i_rp1 rfl rfl ?_
    all_goals skip
    exact ret_eq rfl rfl (congrArg (Ty.int .i64) hv.1)
set_option maxRecDepth 100000 in
theorem c_lawLetter (l : Byt) (h : LtOk l) : Ctr Tryz.prog 60 [Ty.str (bs l)] (Ty.int .u8 ((lettB l).toNat : Int)) := by
  refine fn_intro Tryz.func60 rfl (by decide) Tryz.ntmps60 (by exact Nat.le_of_ble_eq_true rfl) fun w0 M0 => ?_
  have hl1 := h.1
  have hl2 := h.2.1
  refine t_seq ?_
  refine t_region ?_
  refine asI rfl ?_
  refine r_nil ?_
  refine i_then ?_
  refine t_seq ?_
  refine t_region ?_
  refine asI rfl ?_
  refine asI rfl ?_
  refine r_nil ?_
  refine i_then ?_
  refine t_join (J := live [(0, Ty.str (bs l)), (3, Ty.int .i64 (ltS l 1).1), (4, Ty.int .i64 0)] []) ?_ ?_
  ·
    refine t_seq ?_
    refine t_region ?_
    refine mvS' rfl ?_
    refine r_idxS (i := 0) rfl rfl rfl rfl (by omega) ?_
    refine r_bin rfl rfl rfl ?_
    refine r_nil ?_
    refine i_then ?_
    refine t_cond_dec rfl (fun hc1 => ?_) (fun hc1 => ?_)
    ·
      refine t_region ?_
      refine asI rfl ?_
      refine r_nil ?_
      refine i_join ?_
      (refine Ent.mk' ?_ ?_ <;> (repeat' (first | exact allSub_zero | exact allTags_nil | refine allSub_succ' ?_ (Ty.sub_any _) | refine allSub_succ' ?_ (Ty.sub_refl _) | refine allSub_succ' ?_ ?_)))
      all_goals exact Ty.sub_int (lt_i1 hc1)
    ·
      refine t_skip ?_
      refine i_join ?_
      (refine Ent.mk' ?_ ?_ <;> (repeat' (first | exact allSub_zero | exact allTags_nil | refine allSub_succ' ?_ (Ty.sub_any _) | refine allSub_succ' ?_ (Ty.sub_refl _) | refine allSub_succ' ?_ ?_)))
      all_goals exact Ty.sub_int (lt_i0 hc1)
  ·
    refine t_seq ?_
    refine t_seq ?_
    refine t_region ?_
    refine asI rfl ?_
    refine r_nil ?_
    refine i_then ?_
    refine t_block ?_
    refine t_loop (fun (i : {i : Nat // 1 ≤ i ∧ i ≤ l.length}) => live [(0, Ty.str (bs l)), (3, Ty.int .i64 (ltS l i.1).1), (4, Ty.int .i64 (ltS l i.1).2), (5, Ty.int .i64 (i.1 : Nat))] []) (fun i => l.length - i.1) (⟨1, Nat.le_refl _, hl1⟩) ?_ fun i => ?_
    · (refine Ent.mk' ?_ ?_ <;> (repeat' (first | exact allSub_zero | exact allTags_nil | refine allSub_succ' ?_ (Ty.sub_any _) | refine allSub_succ' ?_ (Ty.sub_refl _) | refine allSub_succ' ?_ ?_)))
      all_goals exact Ty.sub_int (congrArg Prod.snd (lt_1 l)).symm
    ·
      have hb := lt_bnd h i.1 i.2.1 i.2.2
      refine t_seq ?_
      refine t_seq ?_
      refine t_region ?_
      refine mvI rfl ?_
      refine mvS' rfl ?_
      refine r_lenS rfl rfl rfl ?_
      refine r_bin rfl rfl rfl ?_
      refine r_nil ?_
      refine i_then ?_
      refine t_cond_dec rfl (fun hc2 => ?_) (fun hc2 => ?_)
      ·
        refine t_skip ?_
        refine i_then ?_
        refine t_seq ?_
        refine t_block ?_
        refine t_seq ?_
        have hil : i.1 < l.length := by omega
        have hm := lt_mem h i.2.1 hil
        refine t_region ?_
        refine mvS' rfl ?_
        refine mvI rfl ?_
        refine r_idxS (i := i.1) rfl rfl rfl rfl hil ?_
        refine r_bin rfl rfl rfl ?_
        refine r_nil ?_
        refine i_then ?_
        refine t_cond_ndec rfl (fun hc3 => ?_) (fun hc3 => ?_)
        ·
          refine t_seq ?_
          have hf : FldB (nth l i.1) := hm.resolve_right fun e => hc3 (by rw [e]; rfl)
          have hvb := valB_bnd hf
          refine t_region ?_
          refine mvI rfl ?_
          refine r_add rfl rfl (by omega) (by omega) ?_
          refine asI rfl ?_
          refine r_nil ?_
          refine i_then ?_
          have hq1 : 0 ≤ ((ltS l i.1).2 + 1) * valB (nth l i.1) := Int.mul_nonneg (by omega) hvb.1
          have hq2 : ((ltS l i.1).2 + 1) * valB (nth l i.1) ≤ 201 * 9 := Int.mul_le_mul (by omega) hvb.2 hvb.1 (by omega)
          refine t_region ?_
          refine mvI rfl ?_
          refine mvI rfl ?_
          refine mvS' rfl ?_
          refine mvI rfl ?_
          refine r_idxS (i := i.1) rfl rfl rfl rfl hil ?_
          refine r_call (c_value (nth l i.1) hf) rfl rfl rfl rfl rfl ?_
          refine r_mul rfl rfl (by omega) (by omega) ?_
          refine r_add rfl rfl (by omega) (by omega) ?_
          refine asI rfl ?_
          refine r_nil ?_
          refine i_block ?_
          refine i_then ?_
          refine t_region ?_
          refine mvI rfl ?_
          refine r_add rfl rfl (by omega) (by omega) ?_
          refine asI rfl ?_
          refine r_nil ?_
          refine i_round (⟨i.1 + 1, by omega⟩) ?_ (by show l.length - (i.1 + 1) < l.length - i.1; omega)
          (refine Ent.mk' ?_ ?_ <;> (repeat' (first | exact allSub_zero | exact allTags_nil | refine allSub_succ' ?_ (Ty.sub_any _) | refine allSub_succ' ?_ (Ty.sub_refl _) | refine allSub_succ' ?_ ?_)))
          all_goals skip
          all_goals first | exact Ty.sub_int (congrArg Prod.fst (lt_add i.2.1 hil (by omega))).symm | exact Ty.sub_int (congrArg Prod.snd (lt_add i.2.1 hil (by omega))).symm
        ·
          refine t_skip ?_
          refine i_block ?_
          refine i_then ?_
          refine t_region ?_
          refine mvI rfl ?_
          refine r_add rfl rfl (by omega) (by omega) ?_
          refine asI rfl ?_
          refine r_nil ?_
          refine i_round (⟨i.1 + 1, by omega⟩) ?_ (by show l.length - (i.1 + 1) < l.length - i.1; omega)
          (refine Ent.mk' ?_ ?_ <;> (repeat' (first | exact allSub_zero | exact allTags_nil | refine allSub_succ' ?_ (Ty.sub_any _) | refine allSub_succ' ?_ (Ty.sub_refl _) | refine allSub_succ' ?_ ?_)))
          all_goals skip
          all_goals first | exact Ty.sub_int (congrArg Prod.fst (lt_skip i.2.1 hil (by omega))) | exact Ty.sub_int (congrArg Prod.snd (lt_skip i.2.1 hil (by omega)))
      ·
        refine t_exit ?_
        refine i_then_exit ?_
        refine i_then_exit ?_
        refine i_block_exit rfl ?_
        refine i_then ?_
        refine t_seq ?_
        have hie : i.1 = l.length := by omega
        have hln := lett_n (l := l) (by rw [← hie]; exact hb.2.2.1)
        have hlu : ((lettB l).toNat : Int) < 256 := by have := (lettB l).toNat_lt; omega
        rw [← hie] at hln
        refine t_region ?_
        refine mvI rfl ?_
        refine r_rem rfl rfl (by omega) ?_
        refine r_add rfl rfl (by rw [hln]; omega) (by rw [hln]; omega) ?_
        refine r_convK rfl rfl rfl rfl (IntWalk.u8_in _ (by rw [hln]; omega)) ?_
        refine asI rfl ?_
        refine r_nil ?_
        refine i_then ?_
        refine t_ret ?_
        refine i_rp1 rfl rfl ?_
        all_goals skip
        exact ret_eq rfl rfl (congrArg (Ty.int .u8) hln)
set_option maxRecDepth 100000 in
theorem c_fieldIs (n w : Int) (tail : Byt) (h0 : 0 ≤ n) (hw : 1 ≤ w ∧ w ≤ 6) (hn : n < ten w) (h6 : n ≤ 1000000) : Ctr Tryz.prog 56 [Ty.str (bs (fldN n w ++ 124 :: tail)), Ty.int .i64 w] (Ty.tup [Ty.int .i64 n, Ty.str (bs tail), Ty.bool true]) := by
  refine fn_intro Tryz.func56 rfl (by decide) Tryz.ntmps56 (by exact Nat.le_of_ble_eq_true rfl) fun w0 M0 => ?_
  have hfl := fldN_len h0 hw.1 (by omega) hn
  have hlen : (fldN n w ++ 124 :: tail).length = w.toNat + 1 + tail.length := by rw [List.length_append, List.length_cons]; omega
  have hmk := fl_mark (t := tail) hfl
  have hnn : n.toNat < 10 ^ 26 := by omega
  have htk : trimB 32 ((fldN n w ++ 124 :: tail).take w.toNat) = digN n.toNat := by rw [fl_take hfl, trim_fld hnn]
  have hdr := fl_drop (t := tail) hfl
  have hdp := digN_pos n.toNat
  have hdl : (digN n.toNat).length ≤ 6 := fl_six h0 hw.1 hw.2 hn
  have hdf : ∀ x ∈ digN n.toNat, 48 ≤ x.toNat ∧ x.toNat ≤ 57 := digN_fld hnn
  have hvl := digN_val hnn
  have hft := digN_first hnn
  refine t_seq ?_
  refine t_region ?_
  refine asI rfl ?_
  refine asS' rfl ?_
  refine asB rfl ?_
  refine r_nil ?_
  refine i_then ?_
  refine t_seq ?_
  refine t_seq ?_
  refine t_region ?_
  refine mvS' rfl ?_
  refine r_lenS rfl rfl rfl ?_
  refine mvI rfl ?_
  refine r_bin rfl rfl rfl ?_
  refine mvB rfl ?_
  apply r_guard (s := 14) rfl rfl rfl
  · intro hg; apply opT_of; (refine mvS' rfl ?_); refine r_nil ?_; exact rfl
  · exact rfl
  · exact rfl
  apply r_guard (s := 14) rfl rfl rfl
  · intro hg; apply opT_of; (refine mvI rfl ?_); refine r_nil ?_; exact rfl
  · exact rfl
  · exact rfl
  apply r_guard (s := 14) rfl rfl rfl
  · intro hg; apply opT_strip (s := 15) rfl (by (rw [hg]; rfl)); apply opT_strip (s := 16) rfl (by (rw [hg]; rfl)); apply opT_of; (refine r_idxS (i := w.toNat) rfl (congrArg (Ty.int .i64) (show w = ((w.toNat : Nat) : Int) by omega)) rfl rfl (by omega) ?_); refine r_nil ?_; exact rfl
  · exact rfl
  · exact rfl
  apply r_guard (s := 14) rfl rfl rfl
  · intro hg; apply opT_strip (s := 17) rfl (by (rw [hg]; rfl)); apply opT_of; (refine r_bin rfl rfl rfl ?_); refine r_nil ?_; exact rfl
  · exact rfl
  · exact rfl
  refine r_or rfl rfl ?_
  refine r_nil ?_
  refine i_then ?_
  refine t_cond_ff rfl ((by rw [hmk, decide_eq_false (show ¬ (((fldN n w ++ 124 :: tail).length : Nat) : Int) ≤ w by omega)]; rfl)) ?_
  refine t_skip ?_
  refine i_then ?_
  refine t_seq ?_
  refine t_region ?_
  refine mvS' rfl ?_
  refine mvI rfl ?_
  refine r_cutS_hi (hi := w.toNat) rfl (congrArg (Ty.int .i64) (show w = ((w.toNat : Nat) : Int) by omega)) rfl rfl (by omega) ?_
  refine r_call (c_TrimLeft ((fldN n w ++ 124 :: tail).take w.toNat)) rfl rfl rfl rfl rfl ?_
  refine asS' rfl ?_
  refine r_nil ?_
  refine i_then ?_
  refine t_seq ?_
  refine t_as (s := 7) rfl (Ty.str_eq htk) ?_
  refine t_region ?_
  refine asI rfl ?_
  refine r_nil ?_
  refine i_then ?_
  refine t_seq ?_
  refine t_seq ?_
  refine t_region ?_
  refine mvS' rfl ?_
  refine r_lenS rfl rfl rfl ?_
  refine mvI rfl ?_
  refine r_nil ?_
  refine i_then ?_
  refine t_block ?_
  refine t_loop (fun (i : {i : Nat // i ≤ (digN n.toNat).length}) => live [(0, Ty.str (bs (fldN n w ++ 124 :: tail))), (1, Ty.int .i64 w), (7, Ty.str (bs (digN n.toNat))), (8, Ty.int .i64 (vP (digN n.toNat) i.1)), (25, Ty.int .i64 (digN n.toNat).length), (26, Ty.int .i64 (i.1 : Nat))] []) (fun i => (digN n.toNat).length - i.1) (⟨0, Nat.zero_le _⟩) ?_ fun i => ?_
  · (refine Ent.mk' ?_ ?_ <;> (repeat' (first | exact allSub_zero | exact allTags_nil | refine allSub_succ' ?_ (Ty.sub_any _) | refine allSub_succ' ?_ (Ty.sub_refl _) | refine allSub_succ' ?_ ?_)))
    all_goals exact Ty.sub_int (vP_0 _).symm
  ·
    have hv := vP_small (fun x hx => .inr (hdf x hx)) i.2 hdl
    refine t_seq ?_
    refine t_region ?_
    refine r_bin rfl rfl rfl ?_
    refine r_nil ?_
    refine i_then ?_
    refine t_seq ?_
    refine t_cond_dec rfl (fun hc2 => ?_) (fun hc2 => ?_)
    ·
      refine t_skip ?_
      refine i_then ?_
      refine t_seq ?_
      refine t_block ?_
      refine t_seq ?_
      have hil : i.1 < (digN n.toNat).length := by omega
      have hd := hdf _ (nth_mem hil)
      have hvs := vP_succ hil
      have hvb := valB_bnd (.inr hd)
      refine t_region ?_
      refine mvI rfl ?_
      refine asI rfl ?_
      refine r_nil ?_
      refine i_then ?_
      refine t_seq ?_
      refine t_seq ?_
      refine t_region ?_
      refine mvS' rfl ?_
      refine mvI rfl ?_
      refine r_idxS (i := i.1) rfl rfl rfl rfl hil ?_
      refine r_bin rfl rfl rfl ?_
      refine mvB rfl ?_
      apply r_guard (s := 33) rfl rfl rfl
      · intro hg; apply opT_of; (refine mvS' rfl ?_); refine r_nil ?_; exact rfl
      · exact rfl
      · exact rfl
      apply r_guard (s := 33) rfl rfl rfl
      · intro hg; apply opT_of; (refine mvI rfl ?_); refine r_nil ?_; exact rfl
      · exact rfl
      · exact rfl
      apply r_guard (s := 33) rfl rfl rfl
      · intro hg; apply opT_strip (s := 34) rfl (by (rw [hg]; rfl)); apply opT_strip (s := 35) rfl (by (rw [hg]; rfl)); apply opT_of; (refine r_idxS (i := i.1) rfl rfl rfl rfl hil ?_); refine r_nil ?_; exact rfl
      · exact rfl
      · exact rfl
      apply r_guard (s := 33) rfl rfl rfl
      · intro hg; apply opT_strip (s := 36) rfl (by (rw [hg]; rfl)); apply opT_of; (refine r_bin rfl rfl rfl ?_); refine r_nil ?_; exact rfl
      · exact rfl
      · exact rfl
      refine r_or rfl rfl ?_
      refine r_nil ?_
      refine i_then ?_
      refine t_cond_ff rfl ((by rw [decide_eq_false (show ¬ ((nth (digN n.toNat) i.1).toNat : Int) < 48 by omega), decide_eq_false (show ¬ ((nth (digN n.toNat) i.1).toNat : Int) > 57 by omega)]; rfl)) ?_
      refine t_skip ?_
      refine i_then ?_
      refine t_region ?_
      refine mvI rfl ?_
      refine r_mul rfl rfl (by omega) (by omega) ?_
      refine mvS' rfl ?_
      refine mvI rfl ?_
      refine r_idxS (i := i.1) rfl rfl rfl rfl hil ?_
      refine r_call (c_value (nth (digN n.toNat) i.1) (.inr hd)) rfl rfl rfl rfl rfl ?_
      refine r_add rfl rfl (by omega) (by omega) ?_
      refine asI rfl ?_
      refine r_nil ?_
      refine i_block ?_
      refine i_then ?_
      refine t_region ?_
      refine r_add rfl rfl (by omega) (by omega) ?_
      refine mvI rfl ?_
      refine r_nil ?_
      refine i_round (⟨i.1 + 1, by omega⟩) ?_ (by show (digN n.toNat).length - (i.1 + 1) < (digN n.toNat).length - i.1; omega)
      (refine Ent.mk' ?_ ?_ <;> (repeat' (first | exact allSub_zero | exact allTags_nil | refine allSub_succ' ?_ (Ty.sub_any _) | refine allSub_succ' ?_ (Ty.sub_refl _) | refine allSub_succ' ?_ ?_)))
      all_goals skip
      all_goals exact Ty.sub_int hvs.symm
    ·
      refine t_exit ?_
      refine i_then_exit ?_
      refine i_then_exit ?_
      refine i_block_exit rfl ?_
      refine i_then ?_
      refine t_seq ?_
      have hie : i.1 = (digN n.toNat).length := by omega
      have hvn : vP (digN n.toNat) i.1 = n := by rw [hie, hvl]; omega
      refine t_draw mixed rfl ?_
      refine mvI rfl ?_
      refine mvS' rfl ?_
      refine mvI rfl ?_
      refine r_add rfl rfl (by omega) (by omega) ?_
      refine r_cutS_lo (lo := w.toNat + 1) rfl (congrArg (Ty.int .i64) (show w + 1 = ((w.toNat + 1 : Nat) : Int) by omega)) rfl rfl (by omega) ?_
      refine mvS' rfl ?_
      refine r_neqS (b := []) rfl rfl ?_
      refine mvB rfl ?_
      apply r_guard (s := 54) rfl rfl rfl
      · intro hg; apply opT_of; (refine mvS' rfl ?_); refine r_nil ?_; exact rfl
      · exact rfl
      · exact rfl
      apply r_guard (s := 54) rfl rfl rfl
      · intro hg; apply opT_strip (s := 55) rfl (by (rw [hg]; rfl)); apply opT_of; (refine r_lenS rfl rfl rfl ?_); refine r_nil ?_; exact rfl
      · exact rfl
      · exact rfl
      apply r_guard (s := 54) rfl rfl rfl
      · intro hg; apply opT_strip (s := 56) rfl (by (rw [hg]; rfl)); apply opT_of; (refine r_bin rfl rfl rfl ?_); refine r_nil ?_; exact rfl
      · exact rfl
      · exact rfl
      apply r_guard (s := 54) rfl rfl rfl
      · intro hg; apply opT_strip (s := 57) rfl (by (rw [hg]; rfl)); apply opT_of; (refine mvB rfl ?_); refine r_nil ?_; exact rfl
      · exact rfl
      · exact rfl
      apply r_guardG (s := 58) rfl rfl rfl
      · intro hg1 hg2; apply opT_of; (refine mvS' rfl ?_); refine r_nil ?_; exact rfl
      · exact rfl
      · exact rfl
      apply r_guardG (s := 58) rfl rfl rfl
      · intro hg1 hg2; apply opT_strip (s := 59) rfl (by (rw [hg1, hg2]; rfl)); apply opT_of; (refine r_idxS (i := 0) rfl rfl rfl rfl (by omega) ?_); refine r_nil ?_; exact rfl
      · exact rfl
      · exact rfl
      apply r_guardG (s := 58) rfl rfl rfl
      · intro hg1 hg2; apply opT_strip (s := 60) rfl (by (rw [hg1, hg2]; rfl)); apply opT_of; (refine r_bin rfl rfl rfl ?_); refine r_nil ?_; exact rfl
      · exact rfl
      · exact rfl
      apply r_guard (s := 54) rfl rfl rfl
      · intro hg; apply opT_strip (s := 58) rfl (by (rw [hg]; rfl)); apply opT_stripG (s := 61) rfl (by (rw [hg]; rfl)); apply opT_of; (refine r_or rfl rfl ?_); refine r_nil ?_; exact rfl
      · exact rfl
      · exact rfl
      refine r_and rfl rfl ?_
      refine asI rfl ?_
      refine asS' rfl ?_
      refine asB rfl ?_
      refine r_nil ?_
      refine ⟨by kernel_rfl, ?_⟩
      refine i_then ?_
      refine t_ret ?_
      refine i_rp3 rfl rfl rfl rfl ?_ ?_ ?_
      all_goals skip
      all_goals first | exact ret_eq rfl rfl (congrArg (Ty.int .i64) hvn) | exact ret_eq rfl rfl (congrArg (fun l => Ty.str (bs l)) hdr) | exact ret_eq rfl rfl (congrArg Ty.bool (fl_bool hdp hft))
end Go.Proofs.YtjjndkenddigiaaGreatDoor

namespace Go.Proofs.YtjjndkenddigiaaGreatDoor
open Go Go.T
set_option maxHeartbeats 2000000
attribute [local irreducible] dInt dBool dSl dPp dPtr dAgg dTup dClo dAny dEx dStr dGd dCells dVec dVs dRow dOp nth Tri Into TOps Ctr bodyPost Exit.then Exit.inBlock Code.wp Code.wpIn dPa dArr dMp dMap CtrG keepPost iterPost bodyPostM roundQ
end Go.Proofs.YtjjndkenddigiaaGreatDoor

namespace Go.T
open Go Go.RowKit
def viewF (Mc : Tags) (g : Option Nat) (own : Nat → Option Nat) : Tags := fun b => match Mc b with | none => none | some u => if u < Zt then some 7000 else if some b = g then some 1000 else match own b with | some t => some t | none => some 5000
structure OwnF (Mc : Tags) (g : Option Nat) (own : Nat → Option Nat) : Prop where
  at' : ∀ b t, own b = some t → Mc b = some (Zt + b) ∧ some b ≠ g ∧ 1001 < t ∧ t < 1010
  inj : ∀ b b' t, own b = some t → own b' = some t → b = b'
section
variable {Mc : Tags} {g : Option Nat} {own : Nat → Option Nat} {b : Nat}
theorem viewF_none (h : viewF Mc g own b = none) : Mc b = none := by
  unfold viewF at h
  split at h
  · assumption
  · split at h
    · cases h
    · split at h
      · cases h
      · split at h <;> cases h
theorem viewF_none' (h : Mc b = none) : viewF Mc g own b = none := by simp [viewF, h]
theorem viewF_g {b : Nat} (h : Mc b = some (Zt + b)) : viewF Mc (some b) own b = some 1000 := by
  have : ¬ Zt + b < Zt := by omega
  simp [viewF, h, this]
theorem viewF_own {t : Nat} (ho : OwnF Mc g own) (h : own b = some t) : viewF Mc g own b = some t := by
  obtain ⟨h1, h2, _⟩ := ho.at' b t h
  have : ¬ Zt + b < Zt := by omega
  simp [viewF, h1, h2, this, h]
theorem viewF_old (h : Mc b = some (Zt + b)) (hg : some b ≠ g) (ho : own b = none) : viewF Mc g own b = some 5000 := by
  have : ¬ Zt + b < Zt := by omega
  simp [viewF, h, hg, this, ho]
theorem viewF_wf {w : World} (wf : Wf w Mc) (ho : OwnF Mc g own) : Wf w (viewF Mc g own) := by
  refine ⟨fun b t h => ?_, fun b b' t ht h h' => ?_, wf.amb.same fun b h => viewF_none' h⟩
  · cases hm : Mc b with
    | none => rw [viewF_none' hm] at h; cases h
    | some u => exact wf.lt b u hm
  · have key : ∀ b, viewF Mc g own b = some (t + 1) → (some b = g ∧ t + 1 = 1000) ∨ own b = some (t + 1) := fun b h => by
      unfold viewF at h
      split at h
      · cases h
      · split at h
        · injection h with h; omega
        · split at h
          · injection h with h; rename_i hg; exact .inl ⟨hg, h.symm⟩
          · split at h
            · rename_i q hq; injection h with h; subst h; exact .inr hq
            · injection h with h; omega
    rcases key b h with ⟨e1, e2⟩ | e1 <;> rcases key b' h' with ⟨e3, e4⟩ | e3
    · rw [← e3] at e1; injection e1
    · have := (ho.at' _ _ e3).2.2.1; omega
    · have := (ho.at' _ _ e1).2.2.1; omega
    · exact ho.inj _ _ _ e1 e3
theorem viewF_ck {w : World} {J : World → Tags → Prop} (wf : Wf w Mc) (z : ZOk Mc) (hj : J w Mc) : dCK J w (viewF Mc g own) := by
  refine ⟨Mc, wf, z, hj, fun b h => viewF_none h, fun b u _ h hu => ?_⟩
  unfold viewF at h
  split at h
  · cases h
  · rename_i v hv
    split at h
    · injection h with h; exact absurd h.symm hu
    · rw [hv]; congr 1; exact z b v hv (by omega)
end
def takeF (own : Nat → Option Nat) (t : Nat) : Prop := t < Zt ∨ ∃ b, t = Zt + b ∧ own b ≠ none
def yPostF (own : Nat → Option Nat) (w : World) (Mc : Tags) (J1 Jx : World → Tags → Prop) (e : Ending) (w' : World) : Prop :=
  ∃ M', Wf w' M' ∧ ZOk M' ∧ Le (takeF own) (takeF own) w Mc w' M' ∧ ((e = .returned (.bool true) ∧ J1 w' M') ∨ (e = .returned (.bool false) ∧ Jx w' M'))
def MoreF (P : Program) (f : FuncId) (T : Nat) (capTys args : List Ty) (J0 J1 Jx : World → Tags → Prop) : Prop :=
  (∃ fn, P.funcs[f]? = some fn ∧ (fn.name == "runtime.NumGoroutine") = false ∧ fn.body.isNone = false) ∧
  ∀ (w : World) (Mc : Tags) (g : Nat) (own : Nat → Option Nat) (vs cs cs' : List Value), Wf w Mc → ZOk Mc → OwnF Mc (some g) own → dens w (viewF Mc (some g) own) args vs → dens w Mc capTys cs → dens w Mc capTys cs' → Mc g = some (Zt + g) →
    w.heap[g]? = some (.cells #[.func (.func f) #[] (cs' ++ [gp g]).toArray] T (0, 0)) → J0 w Mc →
    Calls P f (vs ++ (cs ++ [gp g])).toArray w (yPostF own w Mc J1 Jx)
def FndC (P : Program) (fv : Value) (encs : List (List Ty)) (J : Nat → World → Tags → Prop) (Jx : World → Tags → Prop) : Prop :=
  ∃ fid cs, fv = .func (.func fid) #[] cs ∧ (∃ fn, P.funcs[fid]? = some fn ∧ (fn.name == "runtime.NumGoroutine") = false ∧ fn.body.isNone = false) ∧
  ∀ (k : Nat) (tys : List Ty), encs[k]? = some tys → ∀ w Mc vs, Wf w Mc → ZOk Mc → J k w Mc → dens w Mc tys vs → Calls P fid (vs ++ cs.toList).toArray w (yPost w Mc (J (k + 1)) Jx)
def oldF (Mc : Tags) (g : Nat) (own : Nat → Option Nat) (b : Nat) : Prop := Mc b = some (Zt + b) ∧ b ≠ g ∧ own b = none
section
variable {P : Program}
theorem moreF_intro {f : FuncId} {fn : Func} {c : Code} {T : Nat} {capTys args : List Ty} {J0 J1 Jx : World → Tags → Prop} {n : Nat} (h0 : Cb J0) (hf : P.funcs[f]? = some fn) (hb : fn.body = some c) (hn : (fn.name == "runtime.NumGoroutine") = false) (hnt : fn.ntmps = n) (hl : (args ++ (capTys ++ [Ty.ptr 1000 0])).length ≤ n)
    (h3 : depsOf capTys = []) (h4 : cdepsOf capTys = [])
    (h : ∀ w Mc g own cs', Wf w Mc → ZOk Mc → OwnF Mc (some g) own → Mc g = some (Zt + g) → w.heap[g]? = some (.cells #[.func (.func f) #[] (cs' ++ [gp g]).toArray] T (0, 0)) →
      Tri P ⟨n, w, viewF Mc (some g) own, [7000, 5000, 1000], .marks⟩ c (entryG (args ++ (capTys ++ [Ty.ptr 1000 0])) [(7000, .ck h0), (1000, .cells T [.ex (.func (.func f) #[] (cs' ++ [gp g]).toArray)]), (1001, .me g T (.func (.func f) #[] (cs' ++ [gp g]).toArray) capTys cs' h3 h4), (5000, .snap w (oldF Mc g own))]) (bodyPostM Fence.wide 0 P fn (yPostF own w Mc J1 Jx))) : MoreF P f T capTys args J0 J1 Jx := by
  refine ⟨⟨fn, hf, hn, by rw [hb]; rfl⟩, fun w Mc g own vs cs cs' wf z ho hv hcs hcs' hg hh hj => callsIn_wide.1 (callsIn_of_wp_marks (n := 0) hf hb trivial (h w Mc g own cs' wf z ho hg hh _ _ ?_))⟩
  have hnn : ∀ b, Mc b = none → viewF Mc (some g) own b = none := fun b hb => viewF_none' hb
  have hg0 : viewF Mc (some g) own g = some 1000 := viewF_g hg
  have hall : dens w (viewF Mc (some g) own) (args ++ (capTys ++ [Ty.ptr 1000 0])) (vs ++ (cs ++ [gp g])) := dens_append hv (dens_append (conv_nodeps hnn h3 h4 hcs) ⟨⟨g, hg0, rfl⟩, trivial⟩)
  have hlen := dens_len hall
  refine ⟨viewF Mc (some g) own, ⟨viewF_wf wf ho, Le.refl _ _ _ _, by simp [hnt]; simp at hlen hl; omega, Defs.nil⟩, fun c hc => ?_, fun x hx => ?_⟩
  · simp only [entryG]
    cases ha : (args ++ (capTys ++ [Ty.ptr 1000 0]))[c]? with
    | none => trivial
    | some ty =>
      obtain ⟨v, hv, hdv⟩ := dens_get hall c ty ha
      have : ((vs ++ (cs ++ [gp g])).toArray ++ Array.replicate (fn.ntmps - (vs ++ (cs ++ [gp g])).toArray.size) undef).getD c undef = v := by
        have hlt : c < (vs ++ (cs ++ [gp g])).length := (List.getElem?_eq_some_iff.1 hv).1
        rw [Array.getD_eq_getD_getElem?, Array.getElem?_append_left (by simpa using hlt), List.getElem?_toArray, hv]; rfl
      rw [this]; exact hdv
  · simp only [entryG, List.mem_cons, List.not_mem_nil, or_false] at hx
    rcases hx with rfl | rfl | rfl | rfl
    · exact ⟨rfl, viewF_ck wf z hj⟩
    · exact ⟨g, _, hg0, hh, rfl, trivial⟩
    · exact ⟨hg0, hh, conv_nodeps hnn h3 h4 hcs'⟩
    · intro b ⟨hb1, hb2, hb3⟩
      exact ⟨viewF_old hb1 (by simpa using hb2) hb3, rfl⟩
section
variable {A : As} {fn : Func} {n : Nat} {J1 Jx : World → Tags → Prop}
theorem fret_le {w w' : World} {Mc M Mc' : Tags} {g T : Nat} {own : Nat → Option Nat} {v : Value} {tys : List Ty} {cs : List Value} {h3 : depsOf tys = []} {h4 : cdepsOf tys = []} (z : ZOk Mc) (wf : Wf w Mc) (hg : w.heap[g]? = some (.cells #[v] T (0, 0)))
    (hb : Le (fun t => 1 ≤ t) (fun t => 1 ≤ t ∧ t ∉ [7000, 5000, 1000]) w (viewF Mc (some g) own) w' M) (hm : (Cont.me g T v tys cs h3 h4).den w' M 1001) (ho : (Cont.snap w (oldF Mc g own)).den w' M 5000) (k1 : ∀ b, M b = none → Mc' b = none) (k2 : ∀ b u, b < w'.heap.size → M b = some u → u ≠ 7000 → Mc' b = some (Zt + b)) :
    Le (takeF own) (takeF own) w Mc w' Mc' := by
  refine ⟨hb.size, hb.os, hb.tape, hb.out, fun b hlt h => ?_, fun b t h ht => ?_⟩
  · obtain ⟨a, c⟩ := hb.pub b hlt (viewF_none' h)
    exact ⟨k1 b a, c⟩
  · have hz : ¬ t < Zt := fun e => ht (.inl e)
    have e := z b t h (by omega)
    subst e
    have hlt : b < w'.heap.size := Nat.lt_of_lt_of_le (wf.lt b _ h) hb.size
    have hno : own b = none := Classical.byContradiction fun e => ht (.inr ⟨b, rfl, e⟩)
    by_cases e : b = g
    · subst e
      exact ⟨k2 b 1000 hlt hm.1 (by decide), fun _ => hm.2.1.trans hg.symm⟩
    · obtain ⟨a, c⟩ := ho b ⟨h, e, hno⟩
      exact ⟨k2 b 5000 hlt a (by decide), fun _ => c⟩
variable [T : Tab P]
theorem results_cell1 {tm ty b : Nat} {ti : TI} {v : Value} {w : World} {tmps : Array Value} (hr : fn.results = #[.cell tm ty]) (hT : T.tab[ty]? = some ti) (ha : ti.k.agg = false) (e : tmps.getD tm undef = .pointer (some ⟨b, 0, none⟩)) (hc : w.cell? ⟨b, 0, none⟩ = some v) : (results fn tmps).run P w = .ok v w := by
  have hload : (loadVar ty ⟨b, 0, none⟩).run P w = .ok v w := by
    have := run_load1 (P := P) hT ha (w := w) (b := b) (off := 0) hc
    simpa [Instr.loadAt, Instr.sureAddr] using this
  have e'' : tmps[tm]?.getD undef = .pointer (some ⟨b, 0, none⟩) := by rw [← Array.getD_eq_getD_getElem?]; exact e
  simp [results, hr, e'', asAddr, hload]
theorem cell_at {tm tg Tb : Nat} {ty : Ty} {w : World} {M : Tags} {x : Value} (wf : Wf w M) (hx : (Ty.ptr tg 0).den w M x) (hc : (Cont.cells Tb [ty]).den w M tg) (h1 : Tag1 tg) : ∃ b v, x = .pointer (some ⟨b, 0, none⟩) ∧ w.cell? ⟨b, 0, none⟩ = some v ∧ ty.den w M v := by
  obtain ⟨b, hb, e⟩ := hx
  obtain ⟨b', ⟨cs⟩, hb', hh, hds⟩ := hc
  obtain ⟨u, rfl⟩ : ∃ u, tg = u + 1 := ⟨tg - 1, by have := h1.1; omega⟩
  have := wf.inj b b' u h1.2 hb hb'
  subst this
  match cs, hds with
  | [v], ⟨hv, _⟩ => exact ⟨b, v, e, by simp [World.cell?, hh], hv⟩
theorem i_retFy {tm ty tg Tb g Tg : Nat} {ti : TI} {w : World} {Mc : Tags} {own : Nat → Option Nat} {v : Value} {tys : List Ty} {cs : List Value} {t : Ty} {h3 : depsOf tys = []} {h4 : cdepsOf tys = []} {h1 : Cb J1} {hx : Cb Jx} (z : ZOk Mc) (wf : Wf w Mc) (hg : w.heap[g]? = some (.cells #[v] Tg (0, 0))) (hr : fn.results = #[.cell tm ty]) (htm : Nat.blt tm n = true) (hs : A.slots tm = .ptr tg 0) (hc : A.tag tg = some (.cells Tb [t])) (h1' : Tag1 tg) (hT : T.tab[ty]? = some ti) (ha : ti.k.agg = false) (hm : A.tag 1001 = some (.me g Tg v tys cs h3 h4)) (ho : A.tag 5000 = some (.snap w (oldF Mc g own))) (ht : t.Sub (.yb true h1 hx)) :
    Into ⟨n, w, viewF Mc (some g) own, [7000, 5000, 1000], .plain⟩ A (bodyPost P fn (yPostF own w Mc J1 Jx) .ret) := by
  intro a w' ⟨M, ok, hsl, htg⟩
  have hd := hsl tm (by simpa using htm)
  rw [hs] at hd
  obtain ⟨b, x, e, hcl, hdx⟩ := cell_at (tm := tm) ok.wf hd (htg _ (tag_mem hc)) h1'
  have hres := results_cell1 (P := P) (fn := fn) hr hT ha e hcl
  rcases ht _ _ _ hdx with ⟨ev, Mc', wf', z', hj, k1, k2⟩ | ⟨ev, Mc', wf', z', hj, k1, k2⟩
  · exact ⟨ok.nodefers (by simp), _, hres, Mc', wf', z', fret_le (h3 := h3) (h4 := h4) z wf hg ok.base (htg _ (tag_mem hm)) (htg _ (tag_mem ho)) k1 k2, .inl ⟨by rw [ev], hj⟩⟩
  · exact ⟨ok.nodefers (by simp), _, hres, Mc', wf', z', fret_le (h3 := h3) (h4 := h4) z wf hg ok.base (htg _ (tag_mem hm)) (htg _ (tag_mem ho)) k1 k2, .inr ⟨by rw [ev]; rfl, hj⟩⟩
theorem i_retFt {tm ty tg Tb g Tg : Nat} {ti : TI} {w : World} {Mc : Tags} {own : Nat → Option Nat} {v : Value} {tys : List Ty} {cs : List Value} {h3 : depsOf tys = []} {h4 : cdepsOf tys = []} {J : World → Tags → Prop} {hj : Cb J} (z : ZOk Mc) (wf : Wf w Mc) (e : J = J1) (hg : w.heap[g]? = some (.cells #[v] Tg (0, 0))) (hr : fn.results = #[.cell tm ty]) (htm : Nat.blt tm n = true) (hs : A.slots tm = .ptr tg 0) (hc : A.tag tg = some (.cells Tb [.bool true])) (h1' : Tag1 tg) (hT : T.tab[ty]? = some ti) (ha : ti.k.agg = false) (hm : A.tag 1001 = some (.me g Tg v tys cs h3 h4)) (ho : A.tag 5000 = some (.snap w (oldF Mc g own))) (hk : A.tag 7000 = some (.ck hj)) :
    Into ⟨n, w, viewF Mc (some g) own, [7000, 5000, 1000], .plain⟩ A (bodyPost P fn (yPostF own w Mc J1 Jx) .ret) := by
  subst e
  intro a w' ⟨M, ok, hsl, htg⟩
  have hd := hsl tm (by simpa using htm)
  rw [hs] at hd
  obtain ⟨b, x, e, hcl, hdx⟩ := cell_at (tm := tm) ok.wf hd (htg _ (tag_mem hc)) h1'
  have hres := results_cell1 (P := P) (fn := fn) hr hT ha e hcl
  have ev : x = .bool true := hdx
  obtain ⟨_, Mc', wf', z', hj, k1, k2⟩ := htg _ (tag_mem hk)
  exact ⟨ok.nodefers (by simp), _, hres, Mc', wf', z', fret_le (h3 := h3) (h4 := h4) z wf hg ok.base (htg _ (tag_mem hm)) (htg _ (tag_mem ho)) k1 k2, .inl ⟨by rw [ev], hj⟩⟩
theorem i_retFx {tm ty tg Tb g Tg : Nat} {ti : TI} {w : World} {Mc : Tags} {own : Nat → Option Nat} {v : Value} {tys : List Ty} {cs : List Value} {h3 : depsOf tys = []} {h4 : cdepsOf tys = []} {hx : Cb Jx} (z : ZOk Mc) (wf : Wf w Mc) (hg : w.heap[g]? = some (.cells #[v] Tg (0, 0))) (hr : fn.results = #[.cell tm ty]) (htm : Nat.blt tm n = true) (hs : A.slots tm = .ptr tg 0) (hc : A.tag tg = some (.cells Tb [.bool false])) (h1' : Tag1 tg) (hT : T.tab[ty]? = some ti) (ha : ti.k.agg = false) (hm : A.tag 1001 = some (.me g Tg v tys cs h3 h4)) (ho : A.tag 5000 = some (.snap w (oldF Mc g own))) (hk : A.tag 7000 = some (.ck hx)) :
    Into ⟨n, w, viewF Mc (some g) own, [7000, 5000, 1000], .plain⟩ A (bodyPost P fn (yPostF own w Mc J1 Jx) .ret) := by
  intro a w' ⟨M, ok, hsl, htg⟩
  have hd := hsl tm (by simpa using htm)
  rw [hs] at hd
  obtain ⟨b, x, e, hcl, hdx⟩ := cell_at (tm := tm) ok.wf hd (htg _ (tag_mem hc)) h1'
  have hres := results_cell1 (P := P) (fn := fn) hr hT ha e hcl
  have ev : x = .bool false := hdx
  obtain ⟨_, Mc', wf', z', hj, k1, k2⟩ := htg _ (tag_mem hk)
  exact ⟨ok.nodefers (by simp), _, hres, Mc', wf', z', fret_le (h3 := h3) (h4 := h4) z wf hg ok.base (htg _ (tag_mem hm)) (htg _ (tag_mem ho)) k1 k2, .inr ⟨by rw [ev], hj⟩⟩
end
variable {fr : Fr} {ops : Array Oper} {A : As} {rest : List Oper} {K : As → List (As × Fx) → Prop} {d : Nat} {t ty' : TypeId} {p : String} {e : Array Edge}
theorem r_callFnd {c k : Nat} {fv : Value} {encs : List (List Ty)} {J : Nat → World → Tags → Prop} {Jx : World → Tags → Prop} (hJ : ∀ k, Cb (J k)) (hJx : Cb Jx) (hF : FndC P fv encs J Jx) {xs : List Operand} {ats : Array TypeId} {tys : List Ty}
    (hc : A.op fr (.tmp c) = .ex fv) (hx : opsTy A fr xs = tys) (hd : depsOf tys = []) (hdc : cdepsOf tys = []) (hk : encs[k]? = some tys) (ht : A.tag 7000 = some (.ck (hJ k)))
    (h : TOps P fr ops rest (A.after { d := some d, ty := .yb true (hJ (k + 1)) hJx, S := [7000], rs := c :: xs.flatMap opR, rt := [7000] }) fun A' l' => K A' ((A, { d := some d, ty := .yb true (hJ (k + 1)) hJx, S := [7000], rs := c :: xs.flatMap opR, rt := [7000] }) :: l')) :
    TOps P fr ops (⟨some d, .call ⟨.value (.tmp c), xs.toArray, ats⟩, t, p, e, none⟩ :: rest) A K := by
  refine ⟨{ d := some d, ty := .yb true (hJ (k + 1)) hJx, S := [7000], rs := c :: xs.flatMap opR, rt := [7000] }, ⟨rfl, by simp, by simp, by simp, fun a w M wf hsz hrd htg => ?_⟩, h⟩
  rw [if_pos (by simp [Region.wanted])]
  have hcv := op_den (x := .tmp c) (rs := c :: xs.flatMap opR) (fun u hu => by exact (List.mem_singleton.1 hu) ▸ List.mem_cons_self) hrd
  rw [hc] at hcv
  obtain ⟨fid, cs, efv, ⟨fn, hf, hn, hb⟩, hcall⟩ := hF
  subst efv
  have hcv : a.eval (.tmp c) = .func (.func fid) #[] cs := hcv
  obtain ⟨_, Mc, wfc, z, hj, h1, h2⟩ := htg _ (tag_mem ht) (by simp)
  have hv : dens w Mc tys (xs.map a.eval) := conv_nodeps h1 hd hdc (hx ▸ opsTy_dens (rs := c :: xs.flatMap opR) hrd fun x hx c hc => List.mem_cons_of_mem _ (List.mem_flatMap.2 ⟨x, hx, hc⟩))
  have hn' : fn.name ≠ "runtime.NumGoroutine" := by simpa using hn
  have hb' : fn.body ≠ none := fun h => by rw [h] at hb; cases hb
  refine wp_in_enter (f := fid) (args := (xs.map a.eval ++ cs.toList).toArray) (by simp [execOp, resolve, hcv, Deferred.ofValue, invoke, callFunc, hf, hn', hb']) ((hcall k tys hk w Mc _ wfc z hj hv).mono fun en w' ⟨Mc', wf', z', le, hor⟩ => ?_)
  obtain ⟨g1, g2, g3, g4⟩ := backY_ok wf wf' h1 h2 le
  rcases hor with ⟨rfl, hj'⟩ | ⟨rfl, hj'⟩
  · exact ⟨.bool true, rfl, .bool true, rfl, _, g1, g2, .inl ⟨rfl, Mc', wf', z', hj', g3, g4⟩, by simp⟩
  · exact ⟨.bool false, rfl, .bool false, rfl, _, g1, g2, .inr ⟨rfl, Mc', wf', z', hj', g3, g4⟩, by simp⟩
def ownM (M : Tags) (ρ : List (Nat × Nat)) (b : Nat) : Option Nat := (M b).bind fun t => ρ.lookup t
def handOk (fr : Fr) (ρ : List (Nat × Nat)) (tg : Nat) : Bool := reOk ρ && ρ.all fun x => !fr.pass.contains x.1 && (!(x.1 == 7000) && (!(x.1 == tg) && (Nat.blt 1001 x.2 && Nat.blt x.2 1010)))
theorem handOk_spec {fr : Fr} {ρ : List (Nat × Nat)} {tg : Nat} (h : handOk fr ρ tg = true) : reOk ρ = true ∧ ∀ x ∈ ρ, x.1 ∉ fr.pass ∧ x.1 ≠ 7000 ∧ x.1 ≠ tg ∧ 1001 < x.2 ∧ x.2 < 1010 := by
  simp only [handOk, Bool.and_eq_true, List.all_eq_true, Bool.not_eq_true', Nat.blt_eq, beq_eq_false_iff_ne] at h
  refine ⟨h.1, fun x hx => ?_⟩
  obtain ⟨h1, h2, h3, h4, h5⟩ := h.2 x hx
  exact ⟨by simpa using h1, h2, h3, h4, h5⟩
def backF (w : World) (ρ : List (Nat × Nat)) (M Mc' : Tags) : Tags := fun b => if b < w.heap.size ∧ ownM M ρ b = none then M b else (Mc' b).map fun _ => 7000
theorem hand_view {w : World} {M Mc : Tags} {ρ : List (Nat × Nat)} {tg g : Nat} {fr : Fr} (hok : handOk fr ρ tg = true) (wf : Wf w M) (hg : M g = some tg) (h1 : ∀ b, M b = none → Mc b = none) (h2 : ∀ b u, b < w.heap.size → M b = some u → u ≠ 7000 → Mc b = some (Zt + b)) :
    OwnF Mc (some g) (ownM M ρ) ∧ Re ρ M (viewF Mc (some g) (ownM M ρ)) := by
  obtain ⟨hr, hq⟩ := handOk_spec hok
  have part : ∀ b t, ownM M ρ b = some t → ∃ u, M b = some u ∧ (u, t) ∈ ρ := fun b t h => by
    obtain ⟨u, hu, hl⟩ := Option.bind_eq_some_iff.1 h
    exact ⟨u, hu, lookup_mem' hl⟩
  have how : OwnF Mc (some g) (ownM M ρ) := by
    refine ⟨fun b t h => ?_, fun b b' t h h' => ?_⟩
    · obtain ⟨u, hu, hm⟩ := part b t h
      obtain ⟨_, e2, e3, e4, e5⟩ := hq _ hm
      refine ⟨h2 b u (wf.lt b u hu) hu e2, fun e => ?_, e4, e5⟩
      injection e with e
      subst e
      rw [hu] at hg; injection hg with hg; exact e3 hg
    · obtain ⟨u, hu, hm⟩ := part b t h
      obtain ⟨u', hu', hm'⟩ := part b' t h'
      have e : u = u' := ((reOk_spec hr _ hm).2.2 _ hm').2 rfl
      subst e
      obtain ⟨v, rfl⟩ : ∃ v, u = v + 1 := ⟨u - 1, by have := (reOk_spec hr _ hm).1; omega⟩
      exact wf.inj b b' v (by have := reOk_fam hr hm; have := (hq _ hm).2.2.2.2; omega) hu hu'
  refine ⟨how, ⟨fun b h => viewF_none' (h1 b h), fun x hx b h => viewF_own how ?_⟩⟩
  unfold ownM
  rw [h]; exact mem_lookup' hr hx
theorem backF_ok {w w' : World} {M Mc Mc' : Tags} {ρ : List (Nat × Nat)} (wf : Wf w M) (wf' : Wf w' Mc') (h1 : ∀ b, M b = none → Mc b = none) (h2 : ∀ b u, b < w.heap.size → M b = some u → u ≠ 7000 → Mc b = some (Zt + b)) (le : Le (takeF (ownM M ρ)) (takeF (ownM M ρ)) w Mc w' Mc') :
    Wf w' (backF w ρ M Mc') ∧ Le (· ∈ [7000]) (· ∈ ρ.map Prod.fst) w M w' (backF w ρ M Mc') ∧ (∀ b, backF w ρ M Mc' b = none → Mc' b = none) ∧ ∀ b u, b < w'.heap.size → backF w ρ M Mc' b = some u → u ≠ 7000 → Mc' b = some (Zt + b) := by
  have pubK : ∀ b, M b = none → ownM M ρ b = none := fun b h => by simp [ownM, h]
  have keep : ∀ b u, M b = some u → u ∉ ρ.map Prod.fst → ownM M ρ b = none := fun b u h hu => by
    unfold ownM
    rw [h]
    show ρ.lookup u = none
    cases hl : ρ.lookup u with
    | none => rfl
    | some c => exact absurd (List.mem_map.2 ⟨_, lookup_mem' hl, rfl⟩) hu
  have stay : ∀ b u, M b = some u → ownM M ρ b = none → u ≠ 7000 → Mc' b = some (Zt + b) ∧ w'.heap[b]? = w.heap[b]? := fun b u h ho hu => by
    have ht : ¬ takeF (ownM M ρ) (Zt + b) := by
      rintro (h | ⟨q, h, hq⟩)
      · omega
      · have : q = b := by omega
        subst this; exact hq ho
    obtain ⟨a, c⟩ := le.own b _ (h2 b u (wf.lt b u h) h hu) ht
    exact ⟨a, c ht⟩
  unfold backF
  refine ⟨⟨fun b u h => ?_, fun b b' u ht1 h h' => ?_, wf.amb.of fun b hb hm => ⟨by simp [hb, hm, pubK b hm], (le.pub b hb (h1 b hm)).2⟩⟩, ⟨le.size, le.os, le.tape, le.out, fun b hb hm => ⟨by simp [hb, hm, pubK b hm], (le.pub b hb (h1 b hm)).2⟩, fun b u hm hk => ⟨?_, fun hs => ?_⟩⟩, fun b h => ?_, fun b u _ h hu => ?_⟩
  · split at h
    · rename_i hc; exact Nat.lt_of_lt_of_le hc.1 le.size
    · obtain ⟨v, hv, _⟩ := Option.map_eq_some_iff.1 h
      exact wf'.lt b v hv
  · have part : ∀ b, (if b < w.heap.size ∧ ownM M ρ b = none then M b else (Mc' b).map fun _ => 7000) = some (u + 1) → M b = some (u + 1) := fun b h => by
      split at h
      · exact h
      · obtain ⟨v, _, hv⟩ := Option.map_eq_some_iff.1 h
        omega
    exact wf.inj b b' u ht1 (part b h) (part b' h')
  · rw [if_pos ⟨wf.lt b u hm, keep b u hm hk⟩]; exact hm
  · have hu : u ≠ 7000 := fun e => hs (by simp [e])
    exact (stay b u hm (keep b u hm hk) hu).2
  · split at h
    · rename_i hc; exact (le.pub b hc.1 (h1 b h)).1
    · simpa using h
  · split at h
    · rename_i hc; exact (stay b u h hc.2 hu).1
    · obtain ⟨v, _, hv⟩ := Option.map_eq_some_iff.1 h
      exact absurd hv.symm hu
theorem run_callFuncF {f : FuncId} {T : Nat} {capTys args : List Ty} {J0 J1 Jx : World → Tags → Prop} (hF : MoreF P f T capTys args J0 J1 Jx) (vs : Array Value) (w : World) : (callFunc f vs).run P w = .ok (.enter f vs) w := by
  obtain ⟨⟨fn, hf, hn, hb⟩, _⟩ := hF
  have hn' : fn.name ≠ "runtime.NumGoroutine" := by simpa using hn
  have hb' : fn.body ≠ none := fun h => by rw [h] at hb; cases hb
  simp [callFunc, hf, hn', hb']
theorem r_callF (ρ : List (Nat × Nat)) {c f T g : Nat} {capTys args ss : List Ty} {cs' : List Value} {J0 J1 Jx : World → Tags → Prop} (h0 : Cb J0) (h1 : Cb J1) (hx : Cb Jx) (hM : MoreF P f T capTys args J0 J1 Jx) {h3 : depsOf capTys = []} {h4 : cdepsOf capTys = []} {xs : List Operand} {ats : Array TypeId}
    (hc : A.op fr (.tmp c) = .ex (.func (.func f) #[] (cs' ++ [gp g]).toArray)) (hxs : opsTy A fr xs = ss) (hl : Convs ρ ss args) (hok : handOk fr ρ 1000 = true)
    (hme : A.tag 1001 = some (.me g T (.func (.func f) #[] (cs' ++ [gp g]).toArray) capTys cs' h3 h4)) (hck : A.tag 7000 = some (.ck h0))
    (h : TOps P fr ops rest (A.after { d := some d, ty := .yb true h1 hx, S := [7000], K := ρ.map Prod.fst, rs := c :: xs.flatMap opR, rt := [7000, 1001] }) fun A' l' => K A' ((A, { d := some d, ty := .yb true h1 hx, S := [7000], K := ρ.map Prod.fst, rs := c :: xs.flatMap opR, rt := [7000, 1001] }) :: l')) :
    TOps P fr ops (⟨some d, .call ⟨.value (.tmp c), xs.toArray, ats⟩, t, p, e, none⟩ :: rest) A K := by
  obtain ⟨hro, hq⟩ := handOk_spec hok
  refine ⟨{ d := some d, ty := .yb true h1 hx, S := [7000], K := ρ.map Prod.fst, rs := c :: xs.flatMap opR, rt := [7000, 1001] }, ⟨rfl, by simp, by simp, fun u hu => by
    obtain ⟨x, hx, rfl⟩ := List.mem_map.1 hu
    exact ⟨(reOk_spec hro x hx).1, (hq x hx).1⟩, fun a w M wf hsz hrd htg => ?_⟩, h⟩
  rw [if_pos (by simp [Region.wanted])]
  have hcv := op_den (x := .tmp c) (rs := c :: xs.flatMap opR) (fun u hu => by exact (List.mem_singleton.1 hu) ▸ List.mem_cons_self) hrd
  rw [hc] at hcv
  have hcv : a.eval (.tmp c) = .func (.func f) #[] (cs' ++ [gp g]).toArray := hcv
  obtain ⟨e1, e2, e3⟩ := htg _ (tag_mem hme) (by simp)
  obtain ⟨_, Mc, wfc, z, hj, k1, k2⟩ := htg _ (tag_mem hck) (by simp)
  have hg : g < w.heap.size := (Array.getElem?_eq_some_iff.1 e2).1
  obtain ⟨how, hre⟩ := hand_view hok wf e1 k1 k2
  have hv : dens w (viewF Mc (some g) (ownM M ρ)) args (xs.map a.eval) := convs_dens wf (viewF_wf wfc how) hre hl (hxs ▸ opsTy_dens (rs := c :: xs.flatMap opR) hrd fun x hx c hc => List.mem_cons_of_mem _ (List.mem_flatMap.2 ⟨x, hx, hc⟩))
  have hcs : dens w Mc capTys cs' := conv_nodeps k1 h3 h4 e3
  have hcall := hM.2 w Mc g (ownM M ρ) _ cs' cs' wfc z how hv hcs hcs (k2 g 1000 hg e1 (by decide)) e2 hj
  refine wp_in_enter (f := f) (args := (xs.map a.eval ++ (cs' ++ [gp g])).toArray) (by simp [execOp, resolve, hcv, Deferred.ofValue, invoke, run_callFuncF hM]) (hcall.mono fun en w' ⟨Mc', wf', z', le, hor⟩ => ?_)
  obtain ⟨g1, g2, g3, g4⟩ := backF_ok wf wf' k1 k2 le
  rcases hor with ⟨rfl, hj'⟩ | ⟨rfl, hj'⟩
  · exact ⟨.bool true, rfl, .bool true, rfl, _, g1, g2, .inl ⟨rfl, Mc', wf', z', hj', g3, g4⟩, by simp⟩
  · exact ⟨.bool false, rfl, .bool false, rfl, _, g1, g2, .inr ⟨rfl, Mc', wf', z', hj', g3, g4⟩, by simp⟩
theorem r_callF0 (ρ : List (Nat × Nat)) {dst : Option Nat} {c f T tg : Nat} {capTys args ss : List Ty} {J0 J1 Jx : World → Tags → Prop} (h0 : Cb J0) (h1 : Cb J1) (hx : Cb Jx) (hM : MoreF P f T capTys args J0 J1 Jx) (h3 : depsOf capTys = []) (h4 : cdepsOf capTys = []) {xs : List Operand} {ats : Array TypeId}
    (hc : A.op fr (.tmp c) = .clo f (capTys ++ [.ptr tg 0])) (hxs : opsTy A fr xs = ss) (hl : Convs ρ ss args) (hok : handOk fr ρ tg = true)
    (hcell : A.tag tg = some (.cells T [.clo f (capTys ++ [.ptr tg 0])])) (htg1 : Tag1 tg) (hck : A.tag 7000 = some (.ck h0))
    (h : TOps P fr ops rest (A.after { d := dst, ty := Ty.any, S := [7000], K := ρ.map Prod.fst, sets := [(7000, Cont.ce h1 hx)], rs := c :: xs.flatMap opR, rt := [7000, tg] }) fun A' l' => K A' ((A, { d := dst, ty := Ty.any, S := [7000], K := ρ.map Prod.fst, sets := [(7000, Cont.ce h1 hx)], rs := c :: xs.flatMap opR, rt := [7000, tg] }) :: l')) :
    TOps P fr ops (⟨dst, .call ⟨.value (.tmp c), xs.toArray, ats⟩, t, p, e, none⟩ :: rest) A K := by
  obtain ⟨hro, hq⟩ := handOk_spec hok
  refine ⟨_, ⟨rfl, by simp, by simp, fun u hu => by
    obtain ⟨x, hx, rfl⟩ := List.mem_map.1 hu
    exact ⟨(reOk_spec hro x hx).1, (hq x hx).1⟩, fun a w M wf hsz hrd htg => ?_⟩, h⟩
  rw [if_pos (by simp [Region.wanted])]
  have hcv := op_den (x := .tmp c) (rs := c :: xs.flatMap opR) (fun u hu => by exact (List.mem_singleton.1 hu) ▸ List.mem_cons_self) hrd
  rw [hc] at hcv
  obtain ⟨⟨cl⟩, ev, hcl⟩ := hcv
  have split : ∀ (l : List Value), dens w M (capTys ++ [.ptr tg 0]) l → ∃ cs b, l = cs ++ [gp b] ∧ dens w M capTys cs ∧ M b = some tg := fun l hl => by
    have hlen := dens_len hl
    rw [List.length_append, List.length_singleton] at hlen
    have g1 := dens_take capTys.length hl
    have g2 := dens_drop capTys.length hl
    rw [List.take_left] at g1
    rw [List.drop_left] at g2
    have e1 : (l.drop capTys.length).length = 1 := by rw [List.length_drop]; omega
    obtain ⟨v, hv⟩ := List.length_eq_one_iff.1 e1
    rw [hv] at g2
    obtain ⟨⟨b, hb, ev⟩, _⟩ := g2
    exact ⟨_, b, by subst ev; have h9 := List.take_append_drop capTys.length l; rw [hv] at h9; exact h9.symm, g1, hb⟩
  obtain ⟨cs, g, rfl, hcs, hg⟩ := split _ hcl
  obtain ⟨b', ⟨cells⟩, hb', hh, hdd⟩ := htg _ (tag_mem hcell) (by simp)
  obtain ⟨u, rfl⟩ : ∃ u, tg = u + 1 := ⟨tg - 1, by have := htg1.1; omega⟩
  have hbg : g = b' := wf.inj g b' u htg1.2 hg hb'
  subst hbg
  obtain ⟨v', rfl⟩ : ∃ v', cells = [v'] := by
    have hlen := dens_len hdd
    exact List.length_eq_one_iff.1 (by simpa using hlen)
  obtain ⟨⟨⟨cl'⟩, ev', hcl'⟩, _⟩ := hdd
  obtain ⟨cs', g', rfl, hcs', hg'⟩ := split _ hcl'
  have hgg : g' = g := wf.inj g' g u htg1.2 hg' hg
  subst hgg
  subst ev'
  obtain ⟨_, Mc, wfc, z, hj, k1, k2⟩ := htg _ (tag_mem hck) (by simp)
  have hgs : g' < w.heap.size := (Array.getElem?_eq_some_iff.1 hh).1
  have hcv : a.eval (.tmp c) = .func (.func f) #[] (cs ++ [gp g']).toArray := ev
  obtain ⟨how, hre⟩ := hand_view hok wf hg k1 k2
  have hv : dens w (viewF Mc (some g') (ownM M ρ)) args (xs.map a.eval) := convs_dens wf (viewF_wf wfc how) hre hl (hxs ▸ opsTy_dens (rs := c :: xs.flatMap opR) hrd fun x hx c hc => List.mem_cons_of_mem _ (List.mem_flatMap.2 ⟨x, hx, hc⟩))
  have hcall := hM.2 w Mc g' (ownM M ρ) _ cs cs' wfc z how hv (conv_nodeps k1 h3 h4 hcs) (conv_nodeps k1 h3 h4 hcs') (k2 g' _ hgs hg (by have := htg1.2; omega)) hh hj
  refine wp_in_enter (f := f) (args := (xs.map a.eval ++ (cs ++ [gp g'])).toArray) (by simp [execOp, resolve, hcv, Deferred.ofValue, invoke, run_callFuncF hM]) (hcall.mono fun en w' ⟨Mc', wf', z', le, hor⟩ => ?_)
  obtain ⟨g1, g2, g3, g4⟩ := backF_ok wf wf' k1 k2 le
  rcases hor with ⟨rfl, hj'⟩ | ⟨rfl, hj'⟩
  · exact ⟨.bool true, rfl, .bool true, rfl, _, g1, g2, trivial, fun x hx => by rw [List.mem_singleton.1 hx]; exact ⟨rfl, .inl ⟨Mc', wf', z', hj', g3, g4⟩⟩⟩
  · exact ⟨.bool false, rfl, .bool false, rfl, _, g1, g2, trivial, fun x hx => by rw [List.mem_singleton.1 hx]; exact ⟨rfl, .inr ⟨Mc', wf', z', hj', g3, g4⟩⟩⟩
end
end Go.T

namespace Go.T
open Go Go.RowKit
def CtrFd (P : Program) (f : FuncId) (args : Value → List Ty) (encs : List (List Ty)) : Prop :=
  (∃ fn, P.funcs[f]? = some fn ∧ (fn.name == "runtime.NumGoroutine") = false ∧ fn.body.isNone = false) ∧
  ∀ fv J Jx, (∀ k, Cb (J k)) → Cb Jx → FndC P fv encs J Jx → ∀ w M us, Wf w M → ZOk M → dens w M (args fv) us → J 0 w M → Calls P f us.toArray w (izPost w M encs.length J Jx)
theorem CtrG.ex {P : Program} {f : FuncId} {F : List Nat} {pre post : List (Nat × Cont)} {args : List Ty} {res : Ty} (h : CtrG P f F pre args post res) : ∃ fn, P.funcs[f]? = some fn ∧ (fn.name == "runtime.NumGoroutine") = false ∧ fn.body.isNone = false := h.1
section
variable {P : Program}
theorem fnFd_intro {f : FuncId} {fn : Func} {c : Code} {args : Value → List Ty} {encs : List (List Ty)} {n : Nat} (hf : P.funcs[f]? = some fn) (hb : fn.body = some c) (hn : (fn.name == "runtime.NumGoroutine") = false) (hnt : fn.ntmps = n) (hl : ∀ v, (args v).length ≤ n) (hdd : ∀ v, depsOf (args v) = [] ∧ cdepsOf (args v) = [])
    (h : ∀ fv J Jx (hJ : ∀ k, Cb (J k)) (hJx : Cb Jx), FndC P fv encs J Jx → ∀ w0 Mc, Wf w0 Mc → ZOk Mc → Tri P ⟨n, w0, startM Mc none, [7000, 5000], .plain⟩ c (entryG (args fv) [(7000, .ck (hJ 0)), (5000, .snap w0 (oldZ Mc))]) (bodyPost P fn (izPost w0 Mc encs.length J Jx))) : CtrFd P f args encs := by
  refine ⟨⟨fn, hf, hn, by rw [hb]; rfl⟩, fun fv J Jx hJ hJx hF w Mc vs wf z hd hj => calls_of_wp hf hb (wpIn_wide.1 (h fv J Jx hJ hJx hF w Mc wf z _ _ ?_))⟩
  have hall : dens w (startM Mc none) (args fv) vs := conv_nodeps (fun b hb => startM_none' hb) (hdd fv).1 (hdd fv).2 hd
  have hlen := dens_len hall
  have hl := hl fv
  refine ⟨startM Mc none, ⟨startM_wf wf, Le.refl _ _ _ _, by simp [hnt, hlen]; omega, Defs.nil⟩, fun c hc => ?_, fun x hx => ?_⟩
  · simp only [entryG]
    cases ha : (args fv)[c]? with
    | none => trivial
    | some ty =>
      obtain ⟨v, hv, hdv⟩ := dens_get hall c ty ha
      have : (vs.toArray ++ Array.replicate (fn.ntmps - vs.toArray.size) undef).getD c undef = v := by
        have hlt : c < vs.length := (List.getElem?_eq_some_iff.1 hv).1
        rw [Array.getD_eq_getD_getElem?, Array.getElem?_append_left (by simpa using hlt)]
        simp [hv]
      rw [this]; exact hdv
  · simp only [entryG, List.mem_cons, List.not_mem_nil, or_false] at hx
    rcases hx with rfl | rfl
    · exact ⟨rfl, startM_ck wf z hj⟩
    · intro b hb
      refine ⟨?_, rfl⟩
      have : ¬ Zt + b < Zt := by omega
      have hb : Mc b = some (Zt + b) := hb
      simp [startM, hb, this]
theorem i_retFd {A : As} {fn : Func} {n m k : Nat} {w0 : World} {Mc : Tags} {J : Nat → World → Tags → Prop} {Jx : World → Tags → Prop} {hJ : ∀ k, Cb (J k)} {h1 : Cb (J k)} {hx : Cb Jx} (z : ZOk Mc) (wf : Wf w0 Mc) (e : k = m) (hr : fn.results = #[]) (ht : A.tag 7000 = some (.ce h1 hx)) (ho : A.tag 5000 = some (.snap w0 (oldZ Mc))) : Into ⟨n, w0, startM Mc none, [7000, 5000], .plain⟩ A (bodyPost P fn (izPost w0 Mc m J Jx) .normal) := by
  subst e
  intro a w' ⟨M, ok, hsl, htg⟩
  obtain ⟨_, h | h⟩ := htg _ (tag_mem ht)
  · obtain ⟨Mc', wf', z', hj, k1, k2⟩ := h
    exact ⟨ok.nodefers (by simp), _, results_none hr _ _ _, _, Mc', rfl, wf', z', zret_le z wf ok.base (htg _ (tag_mem ho)) k1 k2, .inl hj⟩
  · obtain ⟨Mc', wf', z', hj, k1, k2⟩ := h
    exact ⟨ok.nodefers (by simp), _, results_none hr _ _ _, _, Mc', rfl, wf', z', zret_le z wf ok.base (htg _ (tag_mem ho)) k1 k2, .inr hj⟩
def JF (p : Prop) (S K : List Nat) (w1 : World) (M1 : Tags) (tgs : List (Nat × Cont)) (w : World) (M : Tags) : Prop :=
  p ∧ Le (· ∈ S) (· ∈ K) w1 M1 w M ∧ ∀ x ∈ tgs, x.2.den w M x.1
theorem JF_cb {p : Prop} {S K : List Nat} {w1 : World} {M1 : Tags} {tgs : List (Nat × Cont)} (hM : ∀ b u, M1 b = some u → u < Zt) (ht : tagsOk tgs = true) : Cb (JF p S K w1 M1 tgs) := by
  intro w M w' M' wf' le ⟨hp, h1, h2⟩
  refine ⟨hp, ⟨Nat.le_trans h1.size le.size, le.os.trans h1.os, le.tape.trans h1.tape, le.out.trans h1.out, fun b hb hm => ?_, fun b t hm hk => ?_⟩, fun x hx => ?_⟩
  · obtain ⟨a, c⟩ := h1.pub b hb hm
    obtain ⟨a', c'⟩ := le.pub b (Nat.lt_of_lt_of_le hb h1.size) a
    exact ⟨a', c'.trans c⟩
  · have := hM b t hm
    obtain ⟨a, c⟩ := h1.own b t hm hk
    obtain ⟨a', c'⟩ := le.own b t a (by omega)
    exact ⟨a', fun hs => (c' (by omega)).trans (c hs)⟩
  · obtain ⟨⟨_, e2⟩, e3, e4⟩ := tagsOk_spec ht x hx
    exact x.2.mono le (fun t ht hz => by have := (e3 t ht).2; omega) (fun t ht hz => by have := (e4 t ht).2; omega) (by omega) (by omega) (h2 x hx)
theorem fnd_of {fid : FuncId} {encs : List (List Ty)} {caps : List Ty} {cs : Array Value} {S K mv F : List Nat} {w1 : World} {M1 : Tags} {px : Prop} {ok : Nat → Prop} {tgs : Nat → List (Nat × Cont)} {tgx : List (Nat × Cont)} {ρ : List (Nat × Nat)} {pre post : Nat → List (Nat × Cont)} {argsF : Nat → List Ty} {go : Nat → Bool}
    (hex : ∃ fn, P.funcs[fid]? = some fn ∧ (fn.name == "runtime.NumGoroutine") = false ∧ fn.body.isNone = false)
    (hG : ∀ k, ok k → k < encs.length → CtrG P fid F (pre k) (argsF k) (post k) (Ty.bool (go k)))
    (hcs : dens w1 M1 caps cs.toList) (hdk : disj (depsOf caps) K = true) (hds : disj (cdepsOf caps) S = true)
    (hr : reOk ρ = true) (hmv : ∀ x ∈ ρ, x.1 ∈ mv ∨ x.2 ∈ F) (hmr : ∀ t ∈ mv, ∃ g, (t, g) ∈ ρ) (hS : ∀ t ∈ ρ.map Prod.fst, t ∈ S ∧ t < Zt) (hK : ∀ t ∈ mv, t ∈ K ∧ t < Zt)
    (hpub : ∀ tys ∈ encs, depsOf tys = [] ∧ cdepsOf tys = [])
    (harg : ∀ k tys, encs[k]? = some tys → Convs ρ (tys ++ caps) (argsF k))
    (hpre : ∀ k, PreCs ⟨anyT, tgs k⟩ ρ (pre k))
    (hpost1 : ∀ k, ok k → go k = true → PostCs (post k) ρ (tgs (k + 1))) (hpostx : ∀ k, ok k → go k = false → PostCs (post k) ρ tgx)
    (hok1 : ∀ k, ok k → k < encs.length → go k = true → ok (k + 1)) (hokx : ∀ k, ok k → k < encs.length → go k = false → px) :
    FndC P (.func (.func fid) #[] cs) encs (fun k => JF (ok k) S K w1 M1 (tgs k)) (JF px S K w1 M1 tgx) := by
  refine ⟨fid, cs, rfl, hex, fun k tys hk w Mc vs wf z ⟨hok, hle, htg⟩ hv => ?_⟩
  have hkl : k < encs.length := (List.getElem?_eq_some_iff.1 hk).1
  have hcs' : dens w Mc caps cs.toList := dens_mono hle (fun t ht hk => disj_spec hdk t ht hk) (fun t ht hs => disj_spec hds t ht hs) hcs
  have wfg := giveG_wf hr wf
  have hre := giveG_re hr (M := Mc)
  have hc := (hG k hok hkl).2 w _ (vs ++ cs.toList) wfg (convs_dens wf wfg hre (harg k tys hk) (dens_append hv hcs')) (pre_get (A := ⟨anyT, tgs k⟩) wf wfg hre (fun x hx _ => htg x hx) (hpre k))
  refine hc.mono fun en w' ⟨r, M', he, wf', le, hden, hp⟩ => ?_
  obtain ⟨h1, h2, h3⟩ := callG_left (mv := mv) hr hmv hmr wf wf' le
  have hz : ZOk (backG w ρ mv Mc M') := fun b u h hu => by
    unfold backG at h
    split at h
    · exact z b u h hu
    · obtain ⟨q, _, hl⟩ := Option.bind_eq_some_iff.1 h
      have hm := lookup_mem' hl
      obtain ⟨x, hx, e⟩ := List.mem_map.1 hm
      injection e with e1 e2
      have := (hS x.1 (List.mem_map.2 ⟨x, hx, rfl⟩)).2
      omega
  have hleN : Le (· ∈ S) (· ∈ K) w1 M1 w' (backG w ρ mv Mc M') := (hle.trans h2).weaken (fun t ht => ht.elim id fun h => (hS t h).1) (fun t ht => ht.elim id fun h => (hK t h).1)
  have hleZ : Le (fun t => t < Zt) (fun t => t < Zt) w Mc w' (backG w ρ mv Mc M') := h2.weaken (fun t ht => (hS t ht).2) (fun t ht => (hK t ht).2)
  have er : r = .bool (go k) := hden
  cases hgo : go k with
  | true => exact ⟨_, h1, hz, hleZ, .inl ⟨by rw [he, er, hgo], hok1 k hok hkl hgo, hleN, fun x hx => (post_get wf' h1 h3 hp (hpost1 k hok hgo) x hx).2⟩⟩
  | false => exact ⟨_, h1, hz, hleZ, .inr ⟨by rw [he, er, hgo], hokx k hok hkl hgo, hleN, fun x hx => (post_get wf' h1 h3 hp (hpostx k hok hgo) x hx).2⟩⟩
variable {fr : Fr} {ops : Array Oper} {A : As} {rest : List Oper} {K' : As → List (As × Fx) → Prop} {d : Nat} {t ty' : TypeId} {p : String} {e : Array Edge}
theorem opT_callFd {dst : Option Nat} {f fid : FuncId} {args : Value → List Ty} {encs : List (List Ty)} {xs : List Operand} {ats : Array TypeId} {ss caps : List Ty} {S K mv F : List Nat} {px : Prop} {ok : Nat → Prop} {tgs : Nat → List (Nat × Cont)} {tgx sets : List (Nat × Cont)} {ρ : List (Nat × Nat)} {pre post : Nat → List (Nat × Cont)} {argsF : Nat → List Ty} {go : Nat → Bool}
    (hF : CtrFd P f args encs) (hx : opsTy A fr xs = ss) (hfv : ∀ w M vs, dens w M ss vs → ∃ cs : Array Value, dens w M caps cs.toList ∧ dens w M (args (.func (.func fid) #[] cs)) vs) (hdd : ∀ v, depsOf (args v) = [] ∧ cdepsOf (args v) = [])
    (hex : ∃ fn, P.funcs[fid]? = some fn ∧ (fn.name == "runtime.NumGoroutine") = false ∧ fn.body.isNone = false)
    (hG : ∀ k, ok k → k < encs.length → CtrG P fid F (pre k) (argsF k) (post k) (Ty.bool (go k)))
    (hdk : disj (depsOf caps) K = true) (hds : disj (cdepsOf caps) S = true) (hcz : inZ (depsOf caps) = true)
    (hr : reOk ρ = true) (hmv : ∀ x ∈ ρ, x.1 ∈ mv ∨ x.2 ∈ F) (hmr : ∀ t ∈ mv, ∃ g, (t, g) ∈ ρ) (hS : ∀ t ∈ ρ.map Prod.fst, t ∈ S ∧ t < Zt) (hK : ∀ t ∈ mv, t ∈ K ∧ t < Zt)
    (hpub : ∀ tys ∈ encs, depsOf tys = [] ∧ cdepsOf tys = [])
    (harg : ∀ k tys, encs[k]? = some tys → Convs ρ (tys ++ caps) (argsF k))
    (hpre : ∀ k, PreCs ⟨anyT, tgs k⟩ ρ (pre k))
    (hpost1 : ∀ k, ok k → go k = true → PostCs (post k) ρ (tgs (k + 1))) (hpostx : ∀ k, ok k → go k = false → PostCs (post k) ρ tgx)
    (hok0 : ok 0) (hok1 : ∀ k, ok k → k < encs.length → go k = true → ok (k + 1)) (hokx : ∀ k, ok k → k < encs.length → go k = false → px)
    (htk : ∀ k, tagsOk (tgs k) = true) (htx : tagsOk tgx = true) (hc0 : allTags A (tgs 0)) (hS1 : ∀ t ∈ S, 1 ≤ t) (hK1 : ∀ t ∈ K, 1 ≤ t ∧ t ∉ fr.pass)
    (hout : ∀ x ∈ sets, x.1 ∈ S ∨ x.1 ∈ K) (hts : tagsOk sets = true) (hend : ok encs.length → ∀ w M, (∀ x ∈ tgs encs.length, x.2.den w M x.1) → ∀ x ∈ sets, x.2.den w M x.1) (hendx : px → ∀ w M, (∀ x ∈ tgx, x.2.den w M x.1) → ∀ x ∈ sets, x.2.den w M x.1) :
    OpT P fr ops ⟨dst, .call ⟨.value (.func f), xs.toArray, ats⟩, t, p, e, none⟩ A { d := dst, ty := Ty.any, S := S, K := K, sets := sets, rs := xs.flatMap opR, rt := A.tags.map Prod.fst } := by
  refine ⟨rfl, hout, hS1, hK1, fun a w M wf hsz hrd htg => ?_⟩
  rw [if_pos (by simp [Region.wanted])]
  have hvs : dens w M ss (xs.map a.eval) := hx ▸ opsTy_dens (rs := xs.flatMap opR) hrd fun x hx c hc => List.mem_flatMap.2 ⟨x, hx, hc⟩
  obtain ⟨cs, hcs, hav⟩ := hfv w M _ hvs
  have wfz := foldZ_wf wf
  have hzz : ZOk (foldZ M) := fun b u h hu => by have := foldZ_u h; omega
  have hle : Le (fun t => Zt ≤ t) (fun t => Zt ≤ t) w M w (foldZ M) := ⟨Nat.le_refl _, rfl, rfl, rfl, fun b _ hm => ⟨foldZ_none hm, rfl⟩, fun b u hm hk => ⟨foldZ_lt hm (Nat.lt_of_not_le hk), fun _ => rfl⟩⟩
  have hlt : ∀ b u, foldZ M b = some u → u < Zt := fun b u h => foldZ_u h
  have hcs' : dens w (foldZ M) caps cs.toList := dens_mono (S := fun _ => False) (K := fun t => Zt ≤ t) ⟨Nat.le_refl _, rfl, rfl, rfl, hle.pub, fun b u hm hk => ⟨(hle.own b u hm hk).1, fun _ => rfl⟩⟩ (fun t ht hz => by have := (inZ_spec hcz t ht).2; omega) (fun _ _ h => h) hcs
  have htg0 : ∀ x ∈ tgs 0, x.2.den w (foldZ M) x.1 := fun x hx => by
    obtain ⟨C, hC, hsub⟩ := allTags_get hc0 x hx
    have hm := tag_mem hC
    obtain ⟨⟨_, e2⟩, e3, e4⟩ := tagsOk_spec (htk 0) x hx
    refine x.2.mono (S := fun _ => False) (K := fun t => Zt ≤ t) ⟨Nat.le_refl _, rfl, rfl, rfl, hle.pub, fun b u hm hk => ⟨(hle.own b u hm hk).1, fun _ => rfl⟩⟩ (fun t ht hz => by have := (e3 t ht).2; omega) (fun _ _ h => h) (fun h => h) (by omega) (hsub _ _ _ (htg _ hm (List.mem_map.2 ⟨_, hm, rfl⟩)))
  have hfnd := fnd_of (P := P) (px := px) (ok := ok) (w1 := w) (M1 := foldZ M) hex hG hcs' hdk hds hr hmv hmr hS hK hpub harg hpre hpost1 hpostx hok1 hokx
  have hcall := hF.2 _ _ _ (fun k => JF_cb hlt (htk k)) (JF_cb hlt htx) hfnd w (foldZ M) _ wfz hzz (conv_nodeps (fun b h => foldZ_none h) (hdd _).1 (hdd _).2 hav) ⟨hok0, Le.refl _ _ _ _, htg0⟩
  have hrun : (execOp a.eval ⟨dst, .call ⟨.value (.func f), xs.toArray, ats⟩, t, p, e, none⟩).run P w = .ok (.enter f (xs.map a.eval).toArray) w := by
    obtain ⟨⟨fn, hf, hn, hb⟩, _⟩ := hF
    have hn' : fn.name ≠ "runtime.NumGoroutine" := by simpa using hn
    have hb' : fn.body ≠ none := fun h => by rw [h] at hb; cases hb
    simp [execOp, resolve, Act.eval, Deferred.ofValue, invoke, callFunc, hf, hn', hb']
  refine wp_in_enter hrun (hcall.mono fun en w' ⟨r, M', he, wf', z', leZ, hor⟩ => ?_)
  -- what holds in either case
  have key : Le (· ∈ S) (· ∈ K) w (foldZ M) w' M' ∧ ∀ x ∈ sets, x.2.den w' M' x.1 := by
    rcases hor with ⟨h1, h2, h3⟩ | ⟨h1, h2, h3⟩
    · exact ⟨h2, hend h1 _ _ h3⟩
    · exact ⟨h2, hendx h1 _ _ h3⟩
  obtain ⟨kl, ks⟩ := key
  have kept : ∀ b u, M b = some u → Zt ≤ u → backZ w M M' b = some u := fun b u h hu => by unfold backZ; rw [h]; simp [wf.lt b u h, hu]
  have other : ∀ b, (∀ u, M b = some u → u < Zt) → backZ w M M' b = foldZ M' b := fun b h => by
    unfold backZ
    cases hm : M b with
    | none => rfl
    | some u => have := h u hm; simp only; rw [if_neg (by omega)]
  have high : ∀ b u, M b = some u → Zt ≤ u → M' b = some 0 ∧ w'.heap[b]? = w.heap[b]? := fun b u h hu => by
    obtain ⟨a1, c1⟩ := kl.own b 0 (foldZ_ge h hu) (fun h => by have := (hK1 0 h).1; omega)
    exact ⟨a1, c1 (fun h => by have := hS1 0 h; omega)⟩
  have wf2 : Wf w' (backZ w M M') := by
    refine ⟨fun b u h => ?_, fun b b' u ht1 h h' => ?_, wf.amb.of fun b hb hm => ?_⟩
    · unfold backZ at h
      split at h
      · split at h
        · rename_i hc; exact Nat.lt_of_lt_of_le hc.1 kl.size
        · exact (foldZ_wf wf').lt b u h
      · exact (foldZ_wf wf').lt b u h
    · have part : ∀ b, backZ w M M' b = some (u + 1) → foldZ M' b = some (u + 1) := fun b h => by
        unfold backZ at h
        split at h
        · split at h
          · injection h with h
            rename_i v hc hcc
            subst h
            exact absurd hcc.2 (by have : Zt = 1000000 := rfl; omega)
          · exact h
        · exact h
      exact (foldZ_wf wf').inj b b' u ht1 (part b h) (part b' h')
    · obtain ⟨a1, c1⟩ := kl.pub b hb (foldZ_none hm)
      exact ⟨by rw [other b (fun u hu => by rw [hm] at hu; cases hu)]; exact foldZ_none a1, c1⟩
  have le2 : Le (· ∈ S) (· ∈ K) w M w' (backZ w M M') := by
    refine ⟨kl.size, kl.os, kl.tape, kl.out, fun b hb hm => ?_, fun b u hm hk => ?_⟩
    · obtain ⟨a1, c1⟩ := kl.pub b hb (foldZ_none hm)
      exact ⟨by rw [other b (fun u hu => by rw [hm] at hu; cases hu)]; exact foldZ_none a1, c1⟩
    · rcases Nat.lt_or_ge u Zt with hu | hu
      · obtain ⟨a1, c1⟩ := kl.own b u (foldZ_lt hm hu) hk
        exact ⟨by rw [other b (fun v hv => by rw [hm] at hv; injection hv with hv; omega)]; exact foldZ_lt a1 hu, c1⟩
      · exact ⟨kept b u hm hu, fun _ => (high b u hm hu).2⟩
  refine ⟨r, he, r, rfl, _, wf2, le2, trivial, fun x hx => ?_⟩
  obtain ⟨⟨e1, e2⟩, e3, e4⟩ := tagsOk_spec hts x hx
  refine x.2.mono (w := w') (M := M') (S := fun _ => False) (K := fun u => Zt ≤ u ∨ u = 0) ⟨Nat.le_refl _, rfl, rfl, rfl, fun b hb hm => ⟨?_, rfl⟩, fun b u hm hk => ⟨?_, fun _ => rfl⟩⟩ (fun u hu hz => by have := e3 u hu; omega) (fun _ _ h => h) (fun h => h) (by omega) (ks x hx)
  · rcases hmb : M b with _ | v
    · rw [other b (fun u hu => by rw [hmb] at hu; cases hu)]; exact foldZ_none hm
    · rcases Nat.lt_or_ge v Zt with hv | hv
      · rw [other b (fun u hu => by rw [hmb] at hu; injection hu with hu; omega)]; exact foldZ_none hm
      · have := (high b v hmb hv).1; rw [this] at hm; cases hm
  · have hu : u < Zt := Nat.lt_of_not_le fun h => hk (.inl h)
    rcases hmb : M b with _ | v
    · rw [other b (fun u hu => by rw [hmb] at hu; cases hu)]; exact foldZ_lt hm hu
    · rcases Nat.lt_or_ge v Zt with hv | hv
      · rw [other b (fun u hu => by rw [hmb] at hu; injection hu with hu; omega)]; exact foldZ_lt hm hu
      · have := (high b v hmb hv).1
        rw [this] at hm
        injection hm with hm
        exact absurd (.inr hm.symm) hk
theorem r_op {o : Oper} {f : Fx} (h' : OpT P fr ops o A f) (h : TOps P fr ops rest (A.after f) fun A' l' => K' A' ((A, f) :: l')) : TOps P fr ops (o :: rest) A K' := ⟨f, h', h⟩
end
end Go.T

namespace Go.T
open Go Go.RowKit
section
variable {P : Program} {fr : Fr} {ops : Array Oper} {A : As} {rest : List Oper} {K : As → List (As × Fx) → Prop} {d : Nat} {t ty' : TypeId} {p : String} {e : Array Edge} {x y : Operand} {ti te ts : TI} {el tg : Nat} [T : Tab P]
theorem r_convRS {src : TypeId} {a : Byt} (hx : A.op fr x = .row UB el tg a) (hS : T.tab[src]? = some ts) (hks : ts.k = .slice el) (hT : T.tab[ty']? = some ti) (hk : ti.k = .string) (hu : P.underlying el = some (.int .u8))
    (h : TOps P fr ops rest (A.set d (.str (bs a))) fun A' l' => K A' ((A, { d := some d, ty := .str (bs a), rs := opR x }) :: l')) : TOps P fr ops (⟨some d, .convert src ty' x, t, p, e, none⟩ :: rest) A K :=
  tops_pure (opT_pure rfl rfl fun ac w M wf hr _ => by
    have hdx := op_den (x := x) (fun _ h => h) hr
    rw [hx] at hdx
    obtain ⟨_, D, _, hD, hkd, _⟩ := tab_info hS
    rw [hks] at hkd
    cases D <;> simp only [TK.of, reduceCtorEq, TK.slice.injEq] at hkd
    subst hkd
    obtain ⟨cs, hown, hd, hM⟩ := hdx
    rcases hown.2 with ⟨ex, h0⟩ | ⟨g, cap, cur, ex, _, hh, hn, hm, hsz, htk⟩
    · have ha : a = [] := List.length_eq_zero_iff.1 h0
      subst ha
      refine ⟨.string (bs []), ?_, rfl⟩
      simp only [execOp, ex, Sem.run_bind, run_convert_bytes_string w src ty' _ none 0 0 hD hu (tab_string hT hk)]
      rfl
    · have hrun := run_convert_bytes_back (P := P) w src ty' _ ⟨g, 0, none⟩ cap a hD hu (tab_string hT hk) (fun j hj => by
        rw [Addr.add_lit]
        have hj2 : j < a.length := hj
        obtain ⟨u, hu, hdu⟩ := dens_get hd (j * 1 + 0) _ (flat_elem UB a hj2 0 (Ty.int .u8 ((nth a j).toNat : Int)) rfl)
        have hu2 : u = .int .u8 ((nth a j).toNat : Int) := hdu
        subst hu2
        rw [← htk, List.getElem?_take] at hu
        split at hu
        · rw [Nat.mul_one, Nat.add_zero] at hu
          rw [nth_lt hj2] at hu
          simpa [World.cell?, hh] using hu
        · cases hu)
      exact ⟨.string (bs a), by simp only [execOp, ex, Sem.run_bind, hrun]; rfl, rfl⟩) h
theorem r_loadFact {D off Tb : Nat} {l tys : List Ty} {vs : List Value} {v : Value} {ty : Ty} {h1 : depsOf tys = []} {h2 : cdepsOf tys = []} (tg : Nat) (hx : A.op fr x = .ptr D off) (hc : A.tag D = some (.cells Tb l)) (hD : Tag1 D) (hT : T.tab[ty']? = some ti) (ha : ti.k.agg = false) (hl : l[off]? = some (.ex v)) (hv : A.tag tg = some (Cont.fact tys vs h1 h2)) (hvs : vs[off]? = some v) (hty : tys[off]? = some ty)
    (h : TOps P fr ops rest (A.set d ty) fun A' l => K A' ((A, { d := some d, ty := ty, rs := opR x, rt := [D, tg] }) :: l)) : TOps P fr ops (⟨some d, .load ty' x, t, p, e, none⟩ :: rest) A K :=
  tops_pure (opT_pure rfl rfl fun a w M wf hr ht => by
    have := op_den (x := x) (fun _ h => h) hr
    rw [hx] at this
    obtain ⟨b, hb, e⟩ := this
    obtain ⟨u, hu, hd⟩ := own_cell wf hD hb (ht _ (tag_mem hc) (by simp)) hl
    have hd : u = v := hd
    subst hd
    have hf : dens w M tys vs := ht _ (tag_mem hv) (by simp)
    obtain ⟨u2, hu2, hd2⟩ := dens_get hf off ty hty
    rw [hvs] at hu2
    injection hu2 with hu2
    subst hu2
    exact ⟨u, by simp [execOp, e, run_load1 hT ha hu], hd2⟩) h
theorem r_loadFactN {D Tb : Nat} {tys : List Ty} {vs : List Value} {h1 : depsOf tys = []} {h2 : cdepsOf tys = []} (tg : Nat) (hx : A.op fr x = .ptr D 0) (hc : A.tag D = some (.cells Tb (vs.map Ty.ex))) (hD : Tag1 D) (hT : T.tab[ty']? = some ti) (ha : ti.k.agg = true) (hl : vs.length = ti.size) (hv : A.tag tg = some (Cont.fact tys vs h1 h2))
    (h : TOps P fr ops rest (A.set d (.agg tys)) fun A' l => K A' ((A, { d := some d, ty := .agg tys, rs := opR x, rt := [D, tg] }) :: l)) : TOps P fr ops (⟨some d, .load ty' x, t, p, e, none⟩ :: rest) A K :=
  tops_pure (opT_pure rfl rfl fun a w M wf hr ht => by
    have := op_den (x := x) (fun _ h => h) hr
    rw [hx] at this
    obtain ⟨b, hb, e⟩ := this
    obtain ⟨b', cs, hb', hh, hd⟩ := ht _ (tag_mem hc) (by simp)
    obtain ⟨u, rfl⟩ : ∃ u, D = u + 1 := ⟨D - 1, by have := hD.1; omega⟩
    have := wf.inj b b' u hD.2 hb hb'
    subst this
    have hcs := dens_ex_eq hd
    have hf : dens w M tys vs := ht _ (tag_mem hv) (by simp)
    have hload := run_loadN (P := P) hT ha (w := w) (b := b) (off := 0) (cs := vs) hl fun j v hj => by
      rw [← hcs] at hj
      simpa [World.cell?, hh] using hj
    exact ⟨.agg vs.toArray, by simp [execOp, e, hload], _, rfl, by simpa using hf⟩) h
omit T in
theorem r_box_own1 {ty : Ty} (hx : A.op fr x = ty) (h1 : ty.one = true) (hp : fr.pass.contains (d + 1) = false) (hdp : disj ty.deps [d + 1] = true)
    (h : TOps P fr ops rest (A.after { d := some d, ty := .ptr (d + 1) 0, K := [d + 1], sets := [(d + 1, .cells ty' [ty])], rs := opR x }) fun A' l' => K A' ((A, { d := some d, ty := .ptr (d + 1) 0, K := [d + 1], sets := [(d + 1, .cells ty' [ty])], rs := opR x }) :: l')) :
    TOps P fr ops (⟨some d, .box ty' x, t, p, e, none⟩ :: rest) A K := by
  refine ⟨_, opT_mem rfl rfl (by simp) (by simp) (by simp at hp ⊢; exact hp) fun a w M wf hr _ => ?_, h⟩
  have hd := op_den (x := x) (fun _ h => h) hr
  rw [hx] at hd
  have hone := ty.isOne h1 hd
  have hcells : (a.eval x).cells = #[a.eval x] := by
    cases hv : a.eval x <;> first | rfl | (rw [hv] at hone; simp [Value.oneCell'] at hone)
  obtain ⟨h1, h2, h3⟩ := le_alloc wf (.cells #[a.eval x] ty') (d + 1)
  refine ⟨.pointer (some ⟨w.heap.size, 0, none⟩), w.alloc (.cells #[a.eval x] ty'), ?_, _, h1, h2, ⟨_, h3, rfl⟩, ?_⟩
  · simp [execOp, Instr.box, newVar, newRow, newObj, Sem.run, hcells]
  · intro x hx
    simp only [List.mem_singleton] at hx
    subst hx
    exact ⟨w.heap.size, #[a.eval _], h3, alloc_new _ _, ty.mono h2 (disj_spec hdp) (by intro _ _ h; cases h) hd, trivial⟩
end
section
variable {P : Program} {fr : Fr} {A : As} {Q : Exit → Act → World → Prop} {c : Code}
theorem t_factTo (tg' : Nat) {tg : Nat} {tys tys' : List Ty} {vs : List Value} {h1 : depsOf tys = []} {h2 : cdepsOf tys = []} (h3 : depsOf tys' = []) (h4 : cdepsOf tys' = []) (hf : A.tag tg = some (Cont.fact tys vs h1 h2)) (hs : ∀ w M, dens w M tys vs → dens w M tys' vs)
    (h : Tri P fr c ⟨A.slots, (tg', Cont.fact tys' vs h3 h4) :: A.tags⟩ Q) : Tri P fr c A Q := by
  intro a w ⟨M, ok, hsl, htg⟩
  refine h a w ⟨M, ok, hsl, fun x hx => ?_⟩
  rcases List.mem_cons.1 hx with rfl | hx
  · have : dens w M tys vs := htg _ (tag_mem hf)
    exact hs _ _ this
  · exact htg x hx
end
end Go.T

namespace Go.Proofs.YtjjndkenddigiaaGreatDoor
open Go Go.T
set_option maxHeartbeats 2000000
def finC (text : Byt) (fv : Value) : List Ty := [Ty.pp [Ty.str (bs text), Ty.ex fv]]
structure FIx (f : BForm) (text : Byt) (L0 : List (Byt × Rdr)) where
  s : Byt
  p : Rdr
  ok : RdrOk f p
  le : s.length ≤ text.length
  same : filS f p s (text.drop s.length) = L0
theorem cv_rdr {ρ : List (Nat × Nat)} {f : BForm} {p : Rdr} {a b : Nat} (h : (a, b) ∈ ρ) : Conv ρ (Ty.agg (rdrT f p a)) (Ty.agg (rdrT f p b)) :=
  cv_agg (cv_cons (cv_cons (cv_cons (cv_cons (cv_cons (cv_cons (cv_cons (cv_cons (cv_cons (cv_cons (cv_cons (cv_cons cv_nil (cv_pub rfl rfl)) (cv_row h)) (cv_pub rfl rfl)) (cv_pub rfl rfl)) (cv_pub rfl rfl)) (cv_pub rfl rfl)) (cv_pub rfl rfl)) (cv_pub rfl rfl)) (cv_pub rfl rfl)) (cv_pub rfl rfl)) (cv_pub rfl rfl)) (cv_pub rfl rfl))
theorem cc_rdrP {ρ : List (Nat × Nat)} {a b T : Nat} {f : BForm} {p : Rdr} {l : List Ty} (h : (a, b) ∈ ρ) (e : l = rdrPl f p) : ConvC ρ a (.cells T l) b (.cells T (rdrPl f p)) := by
  subst e
  exact cc_cells_eq h rfl rfl rfl
theorem fi_end {f : BForm} {text : Byt} {L0 : List (Byt × Rdr)} (x : FIx f text L0) (h : ¬ (x.s.length : Int) < (text.length : Int)) : L0 = if wholeR x.p = true then [(x.s, x.p)] else [] := by
  have e : text.drop x.s.length = [] := List.drop_of_length_le (by omega)
  have := x.same
  rw [e, fil_nil] at this
  exact this.symm
theorem fi_stop {f : BForm} {text : Byt} {L0 : List (Byt × Rdr)} (x : FIx f text L0) (h : x.s.length < text.length) (h2 : ¬ ((nth text x.s.length).toNat : Int) = 63) (h3 : ¬ nth text x.s.length ∈ canR f x.p) : L0 = [] := by
  rw [← x.same, drop_cons' h]
  exact fil_stop (fun e => h2 (by rw [e]; rfl)) h3
def FIx.next {f : BForm} {text : Byt} {L0 : List (Byt × Rdr)} (x : FIx f text L0) (h : x.s.length < text.length) (h2 : ¬ ((nth text x.s.length).toNat : Int) = 63) (h3 : nth text x.s.length ∈ canR f x.p) : FIx f text L0 :=
  ⟨x.s ++ [nth text x.s.length], nextR f x.p (nth text x.s.length), next_ok x.ok h3, by simp; omega, by
    have h0 := x.same
    rw [drop_cons' h, fil_step (fun e => h2 (by rw [e]; rfl)) h3] at h0
    simpa using h0⟩
theorem fi_torn {f : BForm} {text : Byt} {L0 : List (Byt × Rdr)} (x : FIx f text L0) (h : x.s.length < text.length) (h2 : ((nth text x.s.length).toNat : Int) = 63) : filS f x.p x.s (63 :: text.drop (x.s.length + 1)) = L0 := by
  have e : nth text x.s.length = 63 := UInt8.toNat_inj.1 (by show _ = 63; omega)
  have h0 := x.same
  rw [drop_cons' h, e] at h0
  exact h0
theorem fi_sub {f : BForm} {text : Byt} {L0 AL : List (Byt × Rdr)} {m0 : Nat} (x : FIx f text L0) (h : x.s.length < text.length) (h2 : ((nth text x.s.length).toNat : Int) = 63) (hp : L0 <+: AL.drop m0) {k : Nat} (hk : k < (canR f x.p).length) :
    filS f (nextR f x.p (nth (canR f x.p) k)) (x.s ++ [nth (canR f x.p) k]) (text.drop (x.s ++ [nth (canR f x.p) k]).length) <+: AL.drop (m0 + (upF f x.p x.s (text.drop (x.s.length + 1)) k).length) := by
  have h1 := up_pre (f := f) (p := x.p) (s := x.s) (t := text.drop (x.s.length + 1)) hk
  rw [fi_torn x h h2] at h1
  have := pre_drop (List.IsPrefix.trans h1 hp)
  simpa using this
theorem fi_up {f : BForm} {text : Byt} {L0 : List (Byt × Rdr)} {m0 : Nat} (x : FIx f text L0) {k : Nat} (hk : k < (canR f x.p).length) :
    m0 + (upF f x.p x.s (text.drop (x.s.length + 1)) k).length + (filS f (nextR f x.p (nth (canR f x.p) k)) (x.s ++ [nth (canR f x.p) k]) (text.drop (x.s ++ [nth (canR f x.p) k]).length)).length = m0 + (upF f x.p x.s (text.drop (x.s.length + 1)) (k + 1)).length := by
  rw [up_succ hk, List.length_append]; simp; omega
theorem plain_UB : ∀ x : UInt8, ∀ t ∈ UB.tys x, t.Plain := fun x t ht => by
  rw [show t = Ty.int .u8 (x.toNat : Int) from List.mem_singleton.1 ht]; exact plain_int _ _
attribute [local irreducible] figC canR numF digF' pushN letB lineB figR nextR stepQ sumL wholeR filS upF fillR
attribute [local irreducible] dInt dBool dSl dPp dPtr dAgg dTup dClo dAny dEx dStr dGd dCells dVec dVs dRow dOp nth Tri Into TOps Ctr bodyPost Exit.then Exit.inBlock Code.wp Code.wpIn dPa dArr dMp dMap CtrG keepPost iterPost bodyPostM roundQ
set_option maxRecDepth 100000 in
theorem k_Clone_rows (l : List BRow) (h : l.length ≤ 1000) : CtrG Tryz.prog 129 [] [] [Ty.sl BRowE l] [] (Ty.row BRowE 66 6 l) := by
  refine fnG_intro Tryz.func129 rfl (by decide) Tryz.ntmps129 (by exact Nat.le_of_ble_eq_true rfl) fun w0 M0 => ?_
  refine t_seq ?_
  refine t_region ?_
  refine asX rfl ?_
  refine r_nil ?_
  refine i_then ?_
  refine t_seq ?_
  refine t_seq ?_
  refine t_region ?_
  refine mvS rfl ?_
  refine r_eqnil und25 rfl ?_
  refine r_nil ?_
  refine i_then ?_
  refine t_cond_nb rfl (fun hc1 => ?_) (fun hc1 => ?_)
  ·
    refine t_seq ?_
    refine t_region ?_
    refine asX rfl ?_
    refine r_nil ?_
    refine i_then ?_
    refine t_ret ?_
    refine i_then_ret ?_
    refine g_ret1 [6] rfl rfl (by decide) (by repeat (exact rc_nil)) ?_
    all_goals skip
    all_goals (obtain rfl : l = [] := hc1; exact rg_cv cv_nilrow)
  ·
    refine t_skip ?_
    refine i_then ?_
    refine t_seq ?_
    refine t_region ?_
    refine r_buildRow (E := BRowE) rfl rfl rfl rfl ?_
    refine mvS rfl ?_
    refine r_append rfl rfl (by decide) rfl rfl rfl rfl rfl rfl (by decide) (by (simp <;> omega)) (by (simp <;> omega)) ?_
    refine asR rfl ?_
    refine r_nil ?_
    refine i_then ?_
    refine t_ret ?_
    refine g_ret1 [6] rfl rfl (by decide) (by repeat (exact rc_nil)) ?_
    all_goals skip
    all_goals exact rg_cv (cv_row (by decide))
set_option maxRecDepth 100000 in
theorem k_Clone_u8 (l : Byt) (h : l.length ≤ 65536) : CtrG Tryz.prog 130 [] [] [Ty.sl UB l] [] (Ty.row UB 5 6 l) := by
  refine fnG_intro Tryz.func130 rfl (by decide) Tryz.ntmps130 (by exact Nat.le_of_ble_eq_true rfl) fun w0 M0 => ?_
  refine t_seq ?_
  refine t_region ?_
  refine asX rfl ?_
  refine r_nil ?_
  refine i_then ?_
  refine t_seq ?_
  refine t_seq ?_
  refine t_region ?_
  refine mvS rfl ?_
  refine r_eqnil und81 rfl ?_
  refine r_nil ?_
  refine i_then ?_
  refine t_cond_nb rfl (fun hc1 => ?_) (fun hc1 => ?_)
  ·
    refine t_seq ?_
    refine t_region ?_
    refine asX rfl ?_
    refine r_nil ?_
    refine i_then ?_
    refine t_ret ?_
    refine i_then_ret ?_
    refine g_ret1 [6] rfl rfl (by decide) (by repeat (exact rc_nil)) ?_
    all_goals skip
    all_goals (obtain rfl : l = [] := hc1; exact rg_cv cv_nilrow)
  ·
    refine t_skip ?_
    refine i_then ?_
    refine t_seq ?_
    refine t_region ?_
    refine r_buildRow (E := UB) rfl rfl rfl rfl ?_
    refine mvS rfl ?_
    refine r_append rfl rfl (by decide) rfl rfl rfl rfl rfl rfl (by decide) (by (simp <;> omega)) (by (simp <;> omega)) ?_
    refine asR rfl ?_
    refine r_nil ?_
    refine i_then ?_
    refine t_ret ?_
    refine g_ret1 [6] rfl rfl (by decide) (by repeat (exact rc_nil)) ?_
    all_goals skip
    all_goals exact rg_cv (cv_row (by decide))
set_option maxRecDepth 100000 in
theorem k_canP (f : BForm) (p : Rdr) : CtrG Tryz.prog 128 [1000] [(1000, Cont.cells 177 (rdrPl f p))] [Ty.ptr 1000 0] [(1000, Cont.cells 177 (rdrPl f p))] (Ty.clo 151 [Ty.pp [Ty.ptr 1000 0]]) := by
  refine fnG_intro Tryz.func128 rfl (by decide) Tryz.ntmps128 (by exact Nat.le_of_ble_eq_true rfl) fun w0 M0 => ?_
  refine t_seq ?_
  refine t_region ?_
  refine r_box_one (ty := Ty.ptr 1000 0) rfl rfl ?_
  refine asX rfl ?_
  refine r_nil ?_
  refine i_then ?_
  refine t_seq ?_
  refine t_region ?_
  refine r_makeFunc rfl ?_
  refine asF rfl ?_
  refine r_nil ?_
  refine i_then ?_
  refine t_ret ?_
  refine g_ret1 [1000] rfl rfl (by decide) ?_ ?_
  exact rc_cons rfl (cc_rdrP (by decide) rfl) rc_nil
  all_goals skip
  all_goals exact rg_cv (cv_clo (cv_cons cv_nil (cv_pp (cv_cons cv_nil (cv_ptr (by decide))))))
set_option maxRecDepth 100000 in
theorem c_wholeP (f : BForm) (p : Rdr) : Ctr Tryz.prog 121 [Ty.pp (rdrPl f p)] (Ty.bool (wholeR p)) := by
  refine fn_intro Tryz.func121 rfl (by decide) Tryz.ntmps121 (by exact Nat.le_of_ble_eq_true rfl) fun w0 M0 => ?_
  refine t_seq ?_
  refine t_region ?_
  refine asB rfl ?_
  refine r_nil ?_
  refine i_then ?_
  refine t_seq ?_
  refine t_region ?_
  refine mvP rfl ?_
  refine r_nilCheck_pp rfl ?_
  refine r_field_pp rfl rfl rfl rfl rfl (by decide) ?_
  refine r_field_pp rfl rfl rfl rfl rfl (by decide) ?_
  refine r_load_pp rfl rfl rfl rfl ?_
  refine mvB rfl ?_
  apply r_guard (s := 8) rfl rfl rfl
  · intro hg; apply opT_of; (refine mvP rfl ?_); refine r_nil ?_; exact rfl
  · exact rfl
  · exact rfl
  apply r_guard (s := 8) rfl rfl rfl
  · intro hg; apply opT_strip (s := 9) rfl (by (rw [hg]; rfl)); apply opT_of; (refine r_nilCheck_pp rfl ?_); refine r_nil ?_; exact rfl
  · exact rfl
  · exact rfl
  apply r_guard (s := 8) rfl rfl rfl
  · intro hg; apply opT_strip (s := 10) rfl (by (rw [hg]; rfl)); apply opT_of; (refine r_field_pp rfl rfl rfl rfl rfl (by decide) ?_); refine r_nil ?_; exact rfl
  · exact rfl
  · exact rfl
  apply r_guard (s := 8) rfl rfl rfl
  · intro hg; apply opT_strip (s := 11) rfl (by (rw [hg]; rfl)); apply opT_of; (refine r_load_pp rfl rfl rfl rfl ?_); refine r_nil ?_; exact rfl
  · exact rfl
  · exact rfl
  apply r_guard (s := 8) rfl rfl rfl
  · intro hg; apply opT_strip (s := 12) rfl (by (rw [hg]; rfl)); apply opT_of; (refine r_eqlS rfl rfl ?_); refine r_nil ?_; exact rfl
  · exact rfl
  · exact rfl
  refine r_and rfl rfl ?_
  refine asB rfl ?_
  refine r_nil ?_
  refine i_then ?_
  refine t_ret ?_
  refine i_rp1 rfl rfl ?_
  all_goals skip
  all_goals exact ret_eq rfl rfl (congrArg Ty.bool (whole_eq p))
set_option maxRecDepth 100000 in
theorem c_fillS (f : BForm) (text : Byt) (hl : text.length ≤ 65536) (AL : List (Byt × Rdr)) (fv : Value) (J : Nat → World → Tags → Prop) (Jx : World → Tags → Prop) (hJ : ∀ k, Cb (J k)) (hJx : Cb Jx) (hF : FndC Tryz.prog fv (AL.map (encF f)) J Jx) (s : Byt) (p : Rdr) (m0 : Nat) (ho : RdrOk f p) (hs : s.length ≤ text.length) (hp : filS f p s (text.drop s.length) <+: AL.drop m0) (ih : ∀ (s' : Byt) (p' : Rdr) (k' : Nat), text.length - s'.length < text.length - s.length → s'.length ≤ text.length → RdrOk f p' → filS f p' s' (text.drop s'.length) <+: AL.drop k' → MoreF Tryz.prog 127 173 (finC text fv) [Ty.row UB 5 1002 s', Ty.agg (rdrT f p' 1003)] (J k') (J (k' + (filS f p' s' (text.drop s'.length)).length)) Jx) : MoreF Tryz.prog 127 173 (finC text fv) [Ty.row UB 5 1002 s, Ty.agg (rdrT f p 1003)] (J (m0)) (J (m0 + (filS f p s (text.drop s.length)).length)) Jx := by
  refine moreF_intro (hJ (m0)) Tryz.func127 rfl (by decide) Tryz.ntmps127 (by exact Nat.le_of_ble_eq_true rfl) rfl rfl fun w0 Mc g own cs0 wf0 z0 how0 hg0 hh0 => ?_
  refine t_seq ?_
  refine t_region ?_
  refine r_box_own1 (ty := Ty.row UB 5 1002 s) rfl rfl rfl rfl ?_
  refine r_box_own rfl rfl rfl ?_
  refine r_alloc rfl (by exact List.cons_ne_nil _ _) rfl ?_
  refine r_nil ?_
  refine i_then ?_
  refine t_seq ?_
  refine t_seq ?_
  refine t_region ?_
  refine r_load_ptr rfl rfl (by decide) rfl rfl rfl ?_
  refine r_len_row rfl rfl rfl ?_
  refine asI rfl ?_
  refine r_nil ?_
  refine i_then ?_
  refine t_block ?_
  refine t_loop (fun (x : {x : FIx f text (filS f p s (text.drop s.length)) // s.length ≤ x.s.length}) => live [(2, Ty.pp [Ty.str (bs text), Ty.ex fv]), (3, Ty.ptr 1000 0), (4, Ty.ptr 5 0), (5, Ty.ptr 6 0), (6, Ty.ptr 7 0), (7, Ty.int .i64 (x.1.s.length : Nat))] [(5, Cont.cells 81 [Ty.row UB 5 1002 x.1.s]), (6, Cont.cells 177 (rdrT f x.1.p 1003)), (7, Cont.cells 4 [Ty.bool false]), (7000, Cont.ck (hJ m0)), (1000, Cont.cells 173 [Ty.ex (.func (.func 127) #[] (cs0 ++ [gp g]).toArray)]), (1001, Cont.me g 173 (.func (.func 127) #[] (cs0 ++ [gp g]).toArray) (finC text fv) cs0 rfl rfl), (5000, Cont.snap w0 (oldF Mc g own))]) (fun x => text.length - x.1.s.length) (⟨⟨s, p, ho, hs, rfl⟩, Nat.le_refl _⟩) ?_ fun x => ?_
  · (refine Ent.mk' ?_ ?_ <;> (repeat' (first | exact allSub_zero | exact allTags_nil | refine allSub_succ' ?_ (Ty.sub_any _) | refine allSub_succ' ?_ (Ty.sub_refl _) | refine allTags_cons rfl (Cont.sub_refl _) ?_)))
    all_goals trace_state
  ·
    have hxl := x.1.le
    have hxs := x.2
    have hlp := x.1.ok.len
    refine t_seq ?_
    refine t_seq ?_
    refine t_region ?_
    refine mvI rfl ?_
    refine r_field_pp rfl rfl rfl rfl rfl (by decide) ?_
    refine r_load_pp rfl rfl rfl rfl ?_
    refine r_lenS rfl rfl rfl ?_
    refine r_bin rfl rfl rfl ?_
    refine r_nil ?_
    refine i_then ?_
    refine t_cond_dec rfl (fun hc1 => ?_) (fun hc1 => ?_)
    ·
      refine t_skip ?_
      refine i_then ?_
      refine t_seq ?_
      refine t_block ?_
      refine t_seq ?_
      have hlt : x.1.s.length < text.length := by omega
      refine t_region ?_
      refine r_field_pp rfl rfl rfl rfl rfl (by decide) ?_
      refine r_load_pp rfl rfl rfl rfl ?_
      refine mvI rfl ?_
      refine r_idxS (i := x.1.s.length) rfl rfl rfl rfl hlt ?_
      refine asI rfl ?_
      refine r_nil ?_
      refine i_then ?_
      refine t_seq ?_
      refine t_seq ?_
      refine t_region ?_
      refine mvI rfl ?_
      refine r_bin rfl rfl rfl ?_
      refine r_nil ?_
      refine i_then ?_
      refine t_cond_ndec rfl (fun hc2 => ?_) (fun hc2 => ?_)
      ·
        refine t_seq ?_
        refine t_seq ?_
        refine t_region ?_
        refine mvI rfl ?_
        refine r_callG [(6, 1000), (1003, 1001)] [1003] [(6, Cont.cells 177 (rdrT f (stepQ f x.1.p (nth text x.1.s.length)) 1003))] (k_step f _ x.1.ok (nth text x.1.s.length)) rfl rfl (by repeat (first | exact cv_nil | refine cv_cons ?_ ?_ | exact cv_ptr List.mem_cons_self | exact cv_pub rfl rfl)) (pre_cons (a := 6) (b := 1000) (by exact List.mem_cons_self) rfl (cc_rdr (by exact List.mem_cons_self) (List.mem_cons_of_mem _ List.mem_cons_self) rfl) pre_nil) (post_cons (a := 6) (b := 1000) (by exact List.mem_cons_self) rfl (cc_rdr (by exact List.mem_cons_self) (List.mem_cons_of_mem _ List.mem_cons_self) rfl) post_nil) (cv_pub rfl rfl) ?_
        refine r_not rfl ?_
        refine r_nil ?_
        refine i_then ?_
        refine t_cond_ndec rfl (fun hc3 => ?_) (fun hc3 => ?_)
        ·
          refine t_seq ?_
          refine t_region ?_
          refine r_store1 rfl rfl (by decide) rfl rfl (by exact (rfl : _ = Ty.bool _)) rfl (by exact Nat.le_of_ble_eq_true rfl) rfl rfl (by exact (rfl : _ = [_])) ?_
          refine r_nil ?_
          refine i_then ?_
          refine t_ret ?_
          refine i_then_ret ?_
          refine i_then_ret ?_
          refine i_block_ret ?_
          refine i_then_ret ?_
          refine i_then_ret ?_
          refine i_block_ret ?_
          refine i_then_ret ?_
          refine m_ret rfl ?_
          exact i_retFt (hj := hJ _) z0 wf0 (congrArg J (by rw [fi_stop x.1 hlt hc2 hc3]; rfl)) hh0 rfl rfl rfl rfl (by decide) rfl rfl rfl rfl rfl
        ·
          refine t_skip ?_
          refine i_then ?_
          refine t_seq ?_
          refine t_asC (tg := 6) (D := Cont.cells 177 (rdrT f (nextR f x.1.p (nth text x.1.s.length)) 1003)) rfl (by rw [stepQ_yes hc3]; exact Cont.sub_refl _) ?_
          refine t_region ?_
          refine r_load_ptr rfl rfl (by decide) rfl rfl rfl ?_
          refine mvI rfl ?_
          refine r_buildSlice (E := UB) (xs := [_]) rfl rfl rfl rfl rfl (by decide) (by decide) (by repeat (first | exact (Parts.nil : Parts _ _ [] _) | (show Parts _ _ ((_, _) :: _) _; apply Parts.one; (· exact (rfl : _ = Ty.int _ _)); (· exact rfl)))) (by exact rfl) rfl ?_
          refine r_append rfl rfl (by decide) rfl rfl rfl rfl rfl rfl (by decide) (by (simp <;> omega)) (by (simp <;> omega)) ?_
          refine r_store1 rfl rfl (by decide) rfl rfl (by exact (rfl : _ = Ty.row _ _ _ _)) rfl (by exact Nat.le_of_ble_eq_true rfl) rfl rfl (by exact (rfl : _ = [_])) ?_
          refine r_nil ?_
          refine i_then ?_
          refine t_exit ?_
          refine i_then_exit ?_
          refine i_block_exit rfl ?_
          refine i_then ?_
          refine t_region ?_
          refine mvI rfl ?_
          refine r_add rfl rfl (by omega) (by omega) ?_
          refine asI rfl ?_
          refine r_nil ?_
          refine i_round (⟨x.1.next hlt hc2 hc3, by show s.length ≤ (x.1.s ++ [_]).length; simp; omega⟩) ?_ (by show text.length - (x.1.s ++ [nth text x.1.s.length]).length < text.length - x.1.s.length; simp; omega)
          (refine Ent.mk' ?_ ?_ <;> (repeat' (first | exact allSub_zero | exact allTags_nil | refine allSub_succ' ?_ (Ty.sub_any _) | refine allSub_succ' ?_ (Ty.sub_refl _) | refine allTags_cons rfl (Cont.sub_refl _) ?_ | refine allSub_succ' ?_ ?_)))
          all_goals skip
          all_goals exact Ty.sub_int (by show ((x.1.s.length : Nat) : Int) + 1 = (((x.1.s ++ [nth text x.1.s.length]).length : Nat) : Int); simp)
      ·
        refine t_skip ?_
        refine i_then ?_
        refine t_seq ?_
        refine t_seq ?_
        refine t_pubC (tg := 1003) [] [(6, Cont.cells 177 (rdrPl f x.1.p))] (by decide) rfl trivial ⟨pubC_cells rfl rfl ⟨pubTy_same rfl, pubTy_same rfl, pubTy_same rfl, pubTy_same rfl, pubTy_same rfl, pubTy_same rfl, pubTy_same rfl, pubTy_same rfl, pubTy_same rfl, pubTy_same rfl, pubTy_row, pubTy_same rfl, trivial⟩, trivial⟩ ?_
        refine t_region ?_
        refine r_callG (res' := Ty.clo 151 [Ty.pp [Ty.ptr 6 0]]) [(6, 1000)] [] [(6, Cont.cells 177 (rdrPl f x.1.p))] (k_canP f x.1.p) rfl rfl (cv_cons cv_nil (cv_ptr (by exact List.mem_cons_self))) (pre_cons (a := 6) (b := 1000) (by exact List.mem_cons_self) rfl (cc_rdrP (by exact List.mem_cons_self) rfl) pre_nil) (post_cons (a := 6) (b := 1000) (by exact List.mem_cons_self) rfl (cc_rdrP (by exact List.mem_cons_self) rfl) post_nil) (cv_clo (cv_cons cv_nil (cv_pp (cv_cons cv_nil (cv_ptr (by exact List.mem_cons_self)))))) ?_
        refine r_nil ?_
        refine i_then ?_
        refine t_name (D := 6) (Tb := 177) (tys := rdrPl f x.1.p) (r := []) rfl rfl rfl (by decide) fun vs hvs => ?_
        obtain ⟨v0, v1, v2, v3, v4, v5, v6, v7, v8, v9, v10, v11, rfl⟩ := twelve hvs rfl
        refine t_factTo 4001 (tg := 4000) (tys := rdrPl f x.1.p) (tys' := rdrPl f x.1.p) (vs := [v0, v1, v2, v3, v4, v5, v6, v7, v8, v9, v10, v11]) rfl rfl rfl (fun _ _ h => h) ?_
        refine t_factTo 4000 (tg := 4001) (tys := rdrPl f x.1.p) (tys' := rdrN f x.1.p v10) (vs := [v0, v1, v2, v3, v4, v5, v6, v7, v8, v9, v10, v11]) rfl rfl rfl (fun _ _ ⟨h0, h1, h2, h3, h4, h5, h6, h7, h8, h9, _, h11⟩ => ⟨h0, h1, h2, h3, h4, h5, h6, h7, h8, h9, (dens_ex [v10]).1, h11⟩) ?_
        refine t_block ?_
        refine t_rangeFuncT (ps := [34]) (lk [(2, Ty.pp [Ty.str (bs text), Ty.ex fv]), (3, Ty.ptr 1000 0), (4, Ty.ptr 5 0), (5, Ty.ptr 6 0), (6, Ty.ptr 7 0)]) (fun k => [(6, Cont.cells 177 [Ty.ex v0, Ty.ex v1, Ty.ex v2, Ty.ex v3, Ty.ex v4, Ty.ex v5, Ty.ex v6, Ty.ex v7, Ty.ex v8, Ty.ex v9, Ty.ex v10, Ty.ex v11]), (4000, Cont.fact (rdrN f x.1.p v10) [v0, v1, v2, v3, v4, v5, v6, v7, v8, v9, v10, v11] rfl rfl), (4001, Cont.fact (rdrPl f x.1.p) [v0, v1, v2, v3, v4, v5, v6, v7, v8, v9, v10, v11] rfl rfl), (5, Cont.cells 81 [Ty.row UB 5 1002 x.1.s]), (7, Cont.cells 4 [Ty.bool false]), (7000, Cont.ck (hJ (m0 + (upF f x.1.p x.1.s (text.drop (x.1.s.length + 1)) k).length))), (1000, Cont.cells 173 [Ty.ex (.func (.func 127) #[] (cs0 ++ [gp g]).toArray)]), (1001, Cont.me g 173 (.func (.func 127) #[] (cs0 ++ [gp g]).toArray) (finC text fv) cs0 rfl rfl), (5000, Cont.snap w0 (oldF Mc g own))]) true [(7, Cont.cells 4 [Ty.bool false]), (7000, Cont.ck hJx), (1001, Cont.me g 173 (.func (.func 127) #[] (cs0 ++ [gp g]).toArray) (finC text fv) cs0 rfl rfl), (5000, Cont.snap w0 (oldF Mc g own))] [7000, 5000, 1000, 1001, 1002, 4000, 4001, 5, 6, 7] rfl rfl ((c_can1 f x.1.p x.1.ok v10 0 6 [v0, v1, v2, v3, v4, v5, v6, v7, v8, v9, v10, v11]).1) (ranges_X (D := 6) (n := 60) (sd := 5) (r := fun k => []) (fun b => c_can1 f x.1.p x.1.ok v10 b 6 [v0, v1, v2, v3, v4, v5, v6, v7, v8, v9, v10, v11]) (by decide) (by decide) rfl (fun k => List.mem_cons_self) (List.mem_cons_of_mem _ List.mem_cons_self)) (deps_lt rfl) (deps_lt rfl) (by decide) (by intro t ht; obtain ⟨y, _, rfl⟩ := List.mem_map.1 ht; exact ⟨rfl, rfl, rfl⟩) rfl rfl (fun _ => rfl) rfl ?_ ?_ ?_ ?_
        · (refine Ent.mk' ?_ ?_ <;> (repeat' (first | exact allSub_zero | exact allTags_nil | refine allSub_succ' ?_ (Ty.sub_any _) | refine allSub_succ' ?_ (Ty.sub_refl _) | refine allTags_cons rfl (Cont.sub_refl _) ?_ | refine allTags_cons rfl ?_ ?_)))
          all_goals exact ck_eq hJ (by rw [up_zero]; rfl)
        · intro k tys hk
          obtain ⟨hk1, rfl⟩ := enc_get hk
          have hmem := nth_mem hk1
          refine ⟨live [(2, Ty.pp [Ty.str (bs text), Ty.ex fv]), (3, Ty.ptr 1000 0), (4, Ty.ptr 5 0), (5, Ty.ptr 6 0), (6, Ty.ptr 7 0), (9, Ty.int .u8 ((nth (canR f x.1.p) k).toNat : Int))] [(6, Cont.cells 177 [Ty.ex v0, Ty.ex v1, Ty.ex v2, Ty.ex v3, Ty.ex v4, Ty.ex v5, Ty.ex v6, Ty.ex v7, Ty.ex v8, Ty.ex v9, Ty.ex v10, Ty.ex v11]), (4000, Cont.fact (rdrN f x.1.p v10) [v0, v1, v2, v3, v4, v5, v6, v7, v8, v9, v10, v11] rfl rfl), (4001, Cont.fact (rdrPl f x.1.p) [v0, v1, v2, v3, v4, v5, v6, v7, v8, v9, v10, v11] rfl rfl), (5, Cont.cells 81 [Ty.row UB 5 1002 x.1.s]), (7, Cont.cells 4 [Ty.bool false]), (7000, Cont.ck (hJ (m0 + (upF f x.1.p x.1.s (text.drop (x.1.s.length + 1)) k).length))), (1000, Cont.cells 173 [Ty.ex (.func (.func 127) #[] (cs0 ++ [gp g]).toArray)]), (1001, Cont.me g 173 (.func (.func 127) #[] (cs0 ++ [gp g]).toArray) (finC text fv) cs0 rfl rfl), (5000, Cont.snap w0 (oldF Mc g own))], fun l w M => ?_, fun l w M => ?_⟩
          ·
            refine t_region ?_
            refine asI rfl ?_
            refine r_nil ?_
            refine i_join ?_
            (refine Ent.mk' ?_ ?_ <;> (repeat' (first | exact allSub_zero | exact allTags_nil | refine allSub_succ' ?_ (Ty.sub_any _) | refine allSub_succ' ?_ (Ty.sub_refl _) | refine allTags_cons rfl (Cont.sub_refl _) ?_)))
          ·
            refine t_block ?_
            refine t_seq ?_
            refine t_region ?_
            refine r_loadFactN (tys := rdrPl f x.1.p) (vs := [v0, v1, v2, v3, v4, v5, v6, v7, v8, v9, v10, v11]) 4001 rfl rfl (by decide) rfl rfl rfl rfl ?_
            refine r_alloc rfl (by exact List.cons_ne_nil _ _) rfl ?_
            refine r_storeN rfl rfl (by decide) rfl rfl rfl rfl rfl rfl ?_
            refine r_nil ?_
            refine i_then ?_
            refine t_seq ?_
            refine t_region ?_
            refine r_field_ptr rfl rfl rfl rfl rfl (by decide) ?_
            refine r_loadFact 4001 rfl rfl (by decide) rfl rfl rfl rfl rfl rfl ?_
            refine r_callG [(39, 6)] [39] [] (k_Clone_rows x.1.p.read (by omega)) rfl rfl (by repeat (first | exact cv_nil | refine cv_cons ?_ ?_ | exact cv_pub rfl rfl)) pre_nil post_nil (cv_row (by exact List.mem_cons_self)) ?_
            refine r_field_ptr rfl rfl rfl rfl rfl (by decide) ?_
            refine r_store1 rfl rfl (by decide) rfl rfl (by exact (rfl : _ = Ty.row _ _ _ _)) rfl (by exact Nat.le_of_ble_eq_true rfl) rfl rfl (by exact rfl) ?_
            refine r_nil ?_
            refine i_then ?_
            refine t_seq ?_
            refine t_forget (B := live [(2, Ty.pp [Ty.str (bs text), Ty.ex fv]), (3, Ty.ptr 1000 0), (4, Ty.ptr 5 0), (5, Ty.ptr 6 0), (6, Ty.ptr 7 0), (9, Ty.int .u8 ((nth (canR f x.1.p) k).toNat : Int)), (10, Ty.ptr 11 0)] [(11, Cont.cells 177 (rdrT f (x.1.p) 39)), (6, Cont.cells 177 [Ty.ex v0, Ty.ex v1, Ty.ex v2, Ty.ex v3, Ty.ex v4, Ty.ex v5, Ty.ex v6, Ty.ex v7, Ty.ex v8, Ty.ex v9, Ty.ex v10, Ty.ex v11]), (4000, Cont.fact (rdrN f x.1.p v10) [v0, v1, v2, v3, v4, v5, v6, v7, v8, v9, v10, v11] rfl rfl), (4001, Cont.fact (rdrPl f x.1.p) [v0, v1, v2, v3, v4, v5, v6, v7, v8, v9, v10, v11] rfl rfl), (5, Cont.cells 81 [Ty.row UB 5 1002 x.1.s]), (7, Cont.cells 4 [Ty.bool false]), (7000, Cont.ck (hJ (m0 + (upF f x.1.p x.1.s (text.drop (x.1.s.length + 1)) k).length))), (1000, Cont.cells 173 [Ty.ex (.func (.func 127) #[] (cs0 ++ [gp g]).toArray)]), (1001, Cont.me g 173 (.func (.func 127) #[] (cs0 ++ [gp g]).toArray) (finC text fv) cs0 rfl rfl), (5000, Cont.snap w0 (oldF Mc g own))]) ?_ ?_
            · (refine Ent.mk' ?_ ?_ <;> (repeat' (first | exact allSub_zero | exact allTags_nil | refine allSub_succ' ?_ (Ty.sub_any _) | refine allSub_succ' ?_ (Ty.sub_refl _) | refine allTags_cons rfl (Cont.sub_refl _) ?_)))
            refine t_region ?_
            refine mvI rfl ?_
            refine r_callG [(11, 1000), (39, 1001)] [39] [(11, Cont.cells 177 (rdrT f (nextR f x.1.p (nth (canR f x.1.p) k)) 39))] (k_step f _ x.1.ok (nth (canR f x.1.p) k)) rfl rfl (by repeat (first | exact cv_nil | refine cv_cons ?_ ?_ | exact cv_ptr List.mem_cons_self | exact cv_pub rfl rfl)) (pre_cons (a := 11) (b := 1000) (by exact List.mem_cons_self) rfl (cc_rdr (by exact List.mem_cons_self) (List.mem_cons_of_mem _ List.mem_cons_self) rfl) pre_nil) (post_cons (a := 11) (b := 1000) (by exact List.mem_cons_self) rfl (cc_rdr (by exact List.mem_cons_self) (List.mem_cons_of_mem _ List.mem_cons_self) (by rw [stepQ_yes hmem])) post_nil) (cv_pub rfl rfl) ?_
            refine r_nil ?_
            refine i_then ?_
            refine t_seq ?_
            refine t_forget (B := live [(2, Ty.pp [Ty.str (bs text), Ty.ex fv]), (3, Ty.ptr 1000 0), (4, Ty.ptr 5 0), (5, Ty.ptr 6 0), (6, Ty.ptr 7 0), (9, Ty.int .u8 ((nth (canR f x.1.p) k).toNat : Int)), (10, Ty.ptr 11 0)] [(11, Cont.cells 177 (rdrT f (nextR f x.1.p (nth (canR f x.1.p) k)) 39)), (6, Cont.cells 177 [Ty.ex v0, Ty.ex v1, Ty.ex v2, Ty.ex v3, Ty.ex v4, Ty.ex v5, Ty.ex v6, Ty.ex v7, Ty.ex v8, Ty.ex v9, Ty.ex v10, Ty.ex v11]), (4000, Cont.fact (rdrN f x.1.p v10) [v0, v1, v2, v3, v4, v5, v6, v7, v8, v9, v10, v11] rfl rfl), (4001, Cont.fact (rdrPl f x.1.p) [v0, v1, v2, v3, v4, v5, v6, v7, v8, v9, v10, v11] rfl rfl), (5, Cont.cells 81 [Ty.row UB 5 1002 x.1.s]), (7, Cont.cells 4 [Ty.bool false]), (7000, Cont.ck (hJ (m0 + (upF f x.1.p x.1.s (text.drop (x.1.s.length + 1)) k).length))), (1000, Cont.cells 173 [Ty.ex (.func (.func 127) #[] (cs0 ++ [gp g]).toArray)]), (1001, Cont.me g 173 (.func (.func 127) #[] (cs0 ++ [gp g]).toArray) (finC text fv) cs0 rfl rfl), (5000, Cont.snap w0 (oldF Mc g own))]) ?_ ?_
            · (refine Ent.mk' ?_ ?_ <;> (repeat' (first | exact allSub_zero | exact allTags_nil | refine allSub_succ' ?_ (Ty.sub_any _) | refine allSub_succ' ?_ (Ty.sub_refl _) | refine allTags_cons rfl (Cont.sub_refl _) ?_)))
            refine t_draw mixed rfl ?_
            refine r_load_ptr rfl rfl (by decide) rfl rfl rfl ?_
            refine r_load_ptr rfl rfl (by decide) rfl rfl rfl ?_
            refine r_callGL [1002] 45 (k_Clone_u8 x.1.s (by omega)) rfl (by repeat (first | exact lends_nil | refine lends_cons (lend_row rfl) ?_)) plain_UB (by decide) (by decide) rfl ?_
            refine mvI rfl ?_
            refine r_buildSlice (E := UB) (xs := [_]) rfl rfl rfl rfl rfl (by decide) (by decide) (by repeat (first | exact (Parts.nil : Parts _ _ [] _) | (show Parts _ _ ((_, _) :: _) _; apply Parts.one; (· exact (rfl : _ = Ty.int _ _)); (· exact rfl)))) (by exact rfl) rfl ?_
            refine r_append rfl rfl (by decide) rfl rfl rfl rfl rfl rfl (by decide) (by (simp <;> omega)) (by (simp <;> omega)) ?_
            refine r_load_ptrN rfl rfl (by decide) rfl rfl (by exact Nat.le_of_ble_eq_true rfl) ?_
            refine r_callF (ss := [Ty.row UB 5 45 (x.1.s ++ [nth (canR f x.1.p) k]), Ty.agg (rdrT f (nextR f x.1.p (nth (canR f x.1.p) k)) 39)]) [(45, 1002), (39, 1003)] (hJ (m0 + (upF f x.1.p x.1.s (text.drop (x.1.s.length + 1)) k).length)) (hJ _) hJx (ih (x.1.s ++ [nth (canR f x.1.p) k]) (nextR f x.1.p (nth (canR f x.1.p) k)) (m0 + (upF f x.1.p x.1.s (text.drop (x.1.s.length + 1)) k).length) (by simp; omega) (by simp; omega) (next_ok x.1.ok hmem) (fi_sub x.1 hlt hc2 hp hk1)) rfl rfl (cv_cons (cv_cons cv_nil (cv_rdr (List.mem_cons_of_mem _ List.mem_cons_self))) (cv_row List.mem_cons_self)) rfl rfl rfl ?_
            refine r_notY (h1 := hJ _) (hx := hJx) rfl ?_
            refine r_nil ?_
            refine ⟨by kernel_rfl, ?_⟩
            refine i_then ?_
            refine t_condY (h1 := hJ _) (hx := hJx) rfl ?_ ?_
            ·
              refine t_seq ?_
              refine t_region ?_
              refine r_store1 rfl rfl (by decide) rfl rfl (by exact (rfl : _ = Ty.bool _)) rfl (by exact Nat.le_of_ble_eq_true rfl) rfl rfl (by exact (rfl : _ = [_])) ?_
              refine r_nil ?_
              refine i_then ?_
              refine t_ret ?_
              refine i_block_ret ?_
              refine q_ret ?_
              (refine Ent.mk' ?_ ?_ <;> (repeat' (first | exact allSub_zero | exact allTags_nil | refine allSub_succ' ?_ (Ty.sub_any _) | refine allTags_cons rfl (Cont.sub_refl _) ?_)))
            ·
              refine t_skip ?_
              refine i_block ?_
              refine q_normal ?_
              (refine Ent.mk' ?_ ?_ <;> (repeat' (first | exact allSub_zero | exact allTags_nil | refine allSub_succ' ?_ (Ty.sub_any _) | refine allTags_cons rfl (Cont.sub_refl _) ?_ | refine allTags_cons rfl ?_ ?_)))
              all_goals exact ck_eq hJ (fi_up x.1 hk1)
        ·
          refine i_block ?_
          refine i_then ?_
          refine t_seq ?_
          refine t_region ?_
          refine r_store1 rfl rfl (by decide) rfl rfl (by exact (rfl : _ = Ty.bool _)) rfl (by exact Nat.le_of_ble_eq_true rfl) rfl rfl (by exact (rfl : _ = [_])) ?_
          refine r_nil ?_
          refine i_then ?_
          refine t_ret ?_
          refine i_block_ret ?_
          refine i_then_ret ?_
          refine i_then_ret ?_
          refine i_block_ret ?_
          refine i_then_ret ?_
          refine m_ret rfl ?_
          exact i_retFt (hj := hJ _) z0 wf0 (congrArg J (by rw [List.length_map, up_all, fi_torn x.1 hlt hc2])) hh0 rfl rfl rfl rfl (by decide) rfl rfl rfl rfl rfl
        · intro _
          refine i_block_ret ?_
          refine i_then_ret ?_
          refine i_block_ret ?_
          refine i_then_ret ?_
          refine i_then_ret ?_
          refine i_block_ret ?_
          refine i_then_ret ?_
          refine m_ret rfl ?_
          exact i_retFx (hx := hJx) z0 wf0 hh0 rfl rfl rfl rfl (by decide) rfl rfl rfl rfl rfl
    ·
      refine t_exit ?_
      refine i_then_exit ?_
      refine i_then_exit ?_
      refine i_block_exit rfl ?_
      refine i_then ?_
      refine t_seq ?_
      refine t_pubC (tg := 1003) [] [(6, Cont.cells 177 (rdrPl f x.1.p))] (by decide) rfl trivial ⟨pubC_cells rfl rfl ⟨pubTy_same rfl, pubTy_same rfl, pubTy_same rfl, pubTy_same rfl, pubTy_same rfl, pubTy_same rfl, pubTy_same rfl, pubTy_same rfl, pubTy_same rfl, pubTy_same rfl, pubTy_row, pubTy_same rfl, trivial⟩, trivial⟩ ?_
      refine t_pub (tg := 6) [(5, Ty.pp (rdrPl f x.1.p))] (by decide) rfl ⟨pub_ptr (T := 177) (tg := 6) (off := 0) (l := rdrPl f x.1.p) rfl rfl rfl (by decide), trivial⟩ ?_
      refine t_region ?_
      refine r_call (c_wholeP _ _) rfl rfl rfl rfl rfl ?_
      refine r_not rfl ?_
      refine mvB rfl ?_
      cases hsp : (wholeR x.1.p)
      ·
        refine r_off rfl rfl rfl rfl ?_
        refine r_off rfl rfl rfl rfl ?_
        refine r_off rfl rfl rfl rfl ?_
        refine r_off rfl rfl rfl rfl ?_
        refine r_off rfl rfl rfl rfl ?_
        refine r_pkT rfl rfl ?_
        refine r_store1 (ty := Ty.bool true) rfl rfl (by decide) rfl rfl rfl rfl (by exact Nat.le_of_ble_eq_true rfl) rfl rfl (by exact (rfl : _ = [_])) ?_
        refine r_nil ?_
        refine i_then ?_
        refine t_ret ?_
        refine m_ret rfl ?_
        exact i_retFt (hj := hJ _) z0 wf0 (congrArg J (by rw [fi_end x.1 hc1, hsp]; rfl)) hh0 rfl rfl rfl rfl (by decide) rfl rfl rfl rfl rfl
      ·
        (refine r_on rfl rfl rfl (by apply opT_of; (refine r_field_pp rfl rfl rfl rfl rfl (by decide) ?_); refine r_nil ?_; exact rfl) ?_)
        (refine r_on rfl rfl rfl (by apply opT_of; (refine r_load_pp rfl rfl rfl rfl ?_); refine r_nil ?_; exact rfl) ?_)
        (refine r_on rfl rfl rfl (by apply opT_of; (refine r_load_ptr rfl rfl (by decide) rfl rfl rfl ?_); refine r_nil ?_; exact rfl) ?_)
        (refine r_on rfl rfl rfl (by apply opT_of; (refine r_convRS rfl rfl rfl rfl rfl Tryz.underlying5 ?_); refine r_nil ?_; exact rfl) ?_)
        (refine r_on rfl rfl rfl (by apply opT_of; (refine r_callFnd hJ hJx hF rfl rfl rfl rfl (by rw [List.getElem?_map, pre_get (by have h := hp; rw [fi_end x.1 hc1, hsp] at h; exact h)]; rfl) rfl ?_); refine r_nil ?_; exact rfl) ?_)
        refine r_pkF rfl rfl ?_
        refine r_store1 (ty := Ty.yb true (hJ (m0 + 1)) hJx) rfl rfl (by decide) rfl rfl rfl rfl (by exact Nat.le_of_ble_eq_true rfl) rfl rfl (by exact (rfl : _ = [_])) ?_
        refine r_nil ?_
        refine i_then ?_
        refine t_ret ?_
        refine m_ret rfl ?_
        exact i_retFy (h1 := hJ _) (hx := hJx) z0 wf0 hh0 rfl rfl rfl rfl (by decide) rfl rfl rfl rfl (Ty.sub_yb (h1 := hJ (m0 + 1)) (congrArg J (by rw [fi_end x.1 hc1, hsp]; rfl)))
end Go.Proofs.YtjjndkenddigiaaGreatDoor

namespace Go.Proofs.YtjjndkenddigiaaGreatDoor
open Go Go.T
theorem figs_few (a : Bool) : (figs a).length ≤ 10 := by cases a <;> decide
theorem can_few (f : BForm) (p : Rdr) : (canR f p).length ≤ 11 := by
  unfold canR
  split
  · simp
  · split
    · rw [figC_eq, List.length_append]
      have := figs_few (ctnB f p)
      split <;> simp <;> omega
    · split
      · split <;> simp
      · rw [List.length_append]
        split <;> split <;> simp
theorem flat_le {α β : Type} {n : Nat} (g : α → List β) : ∀ (l : List α), (∀ x ∈ l, (g x).length ≤ n) → (l.flatMap g).length ≤ l.length * n
  | [], _ => by simp
  | x :: l, h => by
    rw [List.flatMap_cons, List.length_append, List.length_cons, Nat.succ_mul]
    have := flat_le g l fun y hy => h y (List.mem_cons_of_mem _ hy)
    have := h x List.mem_cons_self
    omega
theorem fil_few {f : BForm} : ∀ (t : Byt) (p : Rdr), (fillR f p t).length ≤ 11 ^ tornN t
  | [], p => by
    rw [fillR]; split <;> simp [tornN]
  | c :: t, p => by
    rw [fillR]
    split
    · rename_i hc
      have e : tornN (c :: t) = tornN t := by unfold tornN; rw [List.count_cons_of_ne (by exact hc)]
      rw [e]
      split
      · simp
      · rw [List.length_map]; exact fil_few t _
    · rename_i hc
      have hc : c = 63 := by simpa using hc
      have e : tornN (c :: t) = tornN t + 1 := by unfold tornN; rw [hc, List.count_cons_self]
      rw [e, Nat.pow_succ, Nat.mul_comm]
      refine Nat.le_trans (flat_le (n := 11 ^ tornN t) _ _ fun d _ => ?_) (Nat.mul_le_mul_right _ (can_few f p))
      rw [List.length_map]; exact fil_few t _
theorem all_few {f : BForm} {text : Byt} (h : (tornN text : Int) ≤ 4) : (allF f text).length ≤ 14641 := by
  have h1 := fil_few (f := f) text Rdr.new
  have h2 : 11 ^ tornN text ≤ 11 ^ 4 := Nat.pow_le_pow_right (by omega) (by omega)
  unfold allF; omega
end Go.Proofs.YtjjndkenddigiaaGreatDoor

namespace Go.Proofs.YtjjndkenddigiaaGreatDoor
open Go Go.T
set_option maxHeartbeats 2000000
theorem c_fill1 (f : BForm) (text : Byt) (hl : text.length ≤ 65536) (AL : List (Byt × Rdr)) (fv : Value) (J : Nat → World → Tags → Prop) (Jx : World → Tags → Prop) (hJ : ∀ k, Cb (J k)) (hJx : Cb Jx) (hF : FndC Tryz.prog fv (AL.map (encF f)) J Jx) : ∀ (n : Nat) (s : Byt) (p : Rdr) (m0 : Nat), text.length - s.length ≤ n → RdrOk f p → s.length ≤ text.length → filS f p s (text.drop s.length) <+: AL.drop m0 →
    MoreF Tryz.prog 127 173 (finC text fv) [Ty.row UB 5 1002 s, Ty.agg (rdrT f p 1003)] (J m0) (J (m0 + (filS f p s (text.drop s.length)).length)) Jx
  | 0, s, p, m0, hn, ho, hs, hp => c_fillS f text hl AL fv J Jx hJ hJx hF s p m0 ho hs hp fun s' p' k' h _ _ _ => absurd h (by omega)
  | n + 1, s, p, m0, hn, ho, hs, hp => c_fillS f text hl AL fv J Jx hJ hJx hF s p m0 ho hs hp fun s' p' k' h h2 h3 h4 => c_fill1 f text hl AL fv J Jx hJ hJx hF n s' p' k' (by omega) h3 h2 h4
def finT (f : BForm) (text : Byt) (fv : Value) : List Ty := [Ty.agg [Ty.str (bs text), Ty.ex fv], frmT f]
theorem fin_hfv {f : BForm} {text : Byt} {fid : FuncId} {caps : List Ty} (w : World) (M : Tags) (vs : List Value) (h : dens w M [Ty.agg [Ty.str (bs text), Ty.clo fid caps], frmT f] vs) : ∃ cs : Array Value, dens w M caps cs.toList ∧ dens w M (finT f text (.func (.func fid) #[] cs)) vs := by
  match vs, h with
  | [v, u], ⟨⟨zs, e, ha⟩, h2, _⟩ =>
    obtain ⟨zs⟩ := zs
    match zs, ha with
    | [a1, a2], ⟨h3, ⟨cs, e2, h4⟩, _⟩ => exact ⟨cs, h4, ⟨⟨_, e, h3, e2, trivial⟩, h2, trivial⟩⟩
theorem allE_pub (f : BForm) (l : List (Byt × Rdr)) : ∀ tys ∈ l.map (encF f), depsOf tys = [] ∧ cdepsOf tys = [] := by
  intro t ht
  obtain ⟨y, _, rfl⟩ := List.mem_map.1 ht
  exact ⟨rfl, rfl⟩
def cntV (f : BForm) (text : Byt) : Int × Int := if tornE f text ≠ 0 then (0, tornE f text) else ((((allF f text).length : Nat) : Int), 0)
def filL (f : BForm) (text : Byt) (k : Nat) : List Byt := ((allF f text).take k).map Prod.fst
def filV (f : BForm) (text : Byt) : List Byt × Int := if tornE f text ≠ 0 then ([], tornE f text) else (filL f text 2, 0)
def resB (f : BForm) (text : Byt) (k : Nat) : Book := if k = 0 then Book.zero else ⟨f, (nth (allF f text) (k - 1)).2.read⟩
def resV (f : BForm) (text : Byt) : Book × Int := if tornE f text ≠ 0 then (Book.zero, tornE f text) else if (allF f text).length = 0 then (Book.zero, 6) else if (allF f text).length = 1 then (resB f text 1, 0) else (Book.zero, 7)
theorem cnt_1 {f : BForm} {text : Byt} (h : ¬ tornE f text = 0) : cntV f text = (0, tornE f text) := if_pos h
theorem cnt_2 {f : BForm} {text : Byt} (h : tornE f text = 0) : cntV f text = ((((allF f text).length : Nat) : Int), 0) := if_neg (fun e => e h)
theorem fv_1 {f : BForm} {text : Byt} (h : ¬ tornE f text = 0) : filV f text = ([], tornE f text) := if_pos h
theorem fv_2 {f : BForm} {text : Byt} (h : tornE f text = 0) : filV f text = (filL f text 2, 0) := if_neg (fun e => e h)
theorem rv_1 {f : BForm} {text : Byt} (h : ¬ tornE f text = 0) : resV f text = (Book.zero, tornE f text) := if_pos h
theorem rv_2 {f : BForm} {text : Byt} (h : tornE f text = 0) (h2 : ((min 2 (allF f text).length : Nat) : Int) = 0) : resV f text = (Book.zero, 6) := by
  unfold resV; rw [if_neg (fun e => e h), if_pos (by omega)]
theorem rv_3 {f : BForm} {text : Byt} (h : tornE f text = 0) (h2 : ¬ ((min 2 (allF f text).length : Nat) : Int) = 0) (h3 : ((min 2 (allF f text).length : Nat) : Int) = 1) : resV f text = (resB f text (min 2 (allF f text).length), 0) := by
  unfold resV; rw [if_neg (fun e => e h), if_neg (by omega), if_pos (by omega), show min 2 (allF f text).length = 1 by omega]
theorem rv_4 {f : BForm} {text : Byt} (h : tornE f text = 0) (h2 : ¬ ((min 2 (allF f text).length : Nat) : Int) = 0) (h3 : ¬ ((min 2 (allF f text).length : Nat) : Int) = 1) : resV f text = (Book.zero, 7) := by
  unfold resV; rw [if_neg (fun e => e h), if_neg (by omega), if_neg (by omega)]
theorem torn_ok {f : BForm} {text : Byt} (h : tornE f text = 0) : FormOk f ∧ text.length ≤ 65536 ∧ (tornN text : Int) ≤ 4 := by
  unfold tornE at h
  split at h
  · rename_i h1; exact absurd h h1
  · rename_i h1
    split at h
    · cases h
    · rename_i h2
      split at h
      · cases h
      · rename_i h3
        exact ⟨frmY_zero.1 (by simpa using h1), by omega, by omega⟩
theorem all_ok {f : BForm} {text : Byt} (hf : FormOk f) {k : Nat} (hk : k < (allF f text).length) : RdrOk f (nth (allF f text) k).2 := (fillR_ok text _ (new_ok hf) _ (nth_mem hk)).1
theorem enc_at {f : BForm} {text : Byt} {k : Nat} {tys : List Ty} (h : ((allF f text).map (encF f))[k]? = some tys) : k < (allF f text).length ∧ tys = encF f (nth (allF f text) k) := enc_get h
theorem filL_succ {f : BForm} {text : Byt} {k : Nat} (hk : k < (allF f text).length) : filL f text (k + 1) = filL f text k ++ [(nth (allF f text) k).1] := by
  unfold filL; rw [take_nth hk, List.map_append]; rfl
theorem filL_all {f : BForm} {text : Byt} (h : (allF f text).length < 2) : filL f text (allF f text).length = filL f text 2 := by
  unfold filL; rw [List.take_of_length_le (Nat.le_refl _), List.take_of_length_le (by omega)]
theorem filL_len (f : BForm) (text : Byt) (k : Nat) : (filL f text k).length ≤ k := by unfold filL; rw [List.length_map, List.length_take]; omega
theorem fil_nil0 {f : BForm} {text : Byt} : (Ty.ex (.slice none 0 0)).Sub (Ty.row StrE 9 500 (filL f text 0)) := by
  rw [show filL f text 0 = [] from by simp [filL]]; exact Ty.nil_row
theorem res_zero {f : BForm} {text : Byt} : Subs [Ty.ex (.slice none 0 0), Ty.int .i64 0, Ty.ex (.slice none 0 0)] (bokTys (resB f text 0)) := ⟨Ty.nil_sl, Ty.sub_refl _, Ty.nil_sl, trivial⟩
theorem resB_succ (f : BForm) (text : Byt) (k : Nat) : resB f text (k + 1) = ⟨f, (nth (allF f text) k).2.read⟩ := by unfold resB; rw [if_neg (by omega)]; rfl
theorem res_b (k : Nat) : decide ((k : Int) + 1 < 2) = decide (k + 1 < 2) := by rw [decide_eq_decide]; omega
theorem fil_b (l : List Byt) (s : Byt) : decide (((l ++ [s]).length : Int) < 2) = decide ((l.length : Int) + 1 < 2) := by simp
theorem filL_len2 {f : BForm} {text : Byt} {k : Nat} (h : k < (allF f text).length) : (filL f text k).length = k := by unfold filL; rw [List.length_map, List.length_take]; omega
theorem fil_px {f : BForm} {text : Byt} {k : Nat} (h : k < 2) (h2 : ¬ k + 1 < 2) : PostCs [(1000, Cont.cells 53 [Ty.row StrE 9 1001 (filL f text (k + 1))])] [(8, 1000), (500, 1001)] [(8, Cont.cells 53 [Ty.row StrE 9 500 (filL f text 2)])] := by
  obtain rfl : k = 1 := by omega
  exact post_cons (a := 8) (b := 1000) (by decide) rfl (cc_cells (by decide) (cv_cons cv_nil (cv_row (by decide)))) post_nil
theorem res_px {f : BForm} {text : Byt} {k : Nat} (h : k < 2) (h2 : ¬ k + 1 < 2) : PostCs [(1000, Cont.cells 27 (bokTys (resB f text (k + 1)))), (1001, Cont.cells 3 [Ty.int .i64 ((k + 1 : Nat) : Int)])] [(8, 1000), (9, 1001)] [(8, Cont.cells 27 (bokTys (resB f text 2))), (9, Cont.cells 3 [Ty.int .i64 ((2 : Nat) : Int)])] := by
  obtain rfl : k = 1 := by omega
  exact post_cons (a := 8) (b := 1000) (by decide) rfl (cc_cells_eq (by decide) rfl rfl rfl) (post_cons (a := 9) (b := 1001) (by decide) rfl (cc_cells_eq (by decide) rfl rfl rfl) post_nil)
attribute [local irreducible] allF tornE wholeR cntV filV resV filL resB
attribute [local irreducible] dInt dBool dSl dPp dPtr dAgg dTup dClo dAny dEx dStr dGd dCells dVec dVs dRow dOp nth Tri Into TOps Ctr bodyPost Exit.then Exit.inBlock Code.wp Code.wpIn dPa dArr dMp dMap CtrG keepPost iterPost bodyPostM roundQ
set_option maxRecDepth 100000 in
theorem c_fill (f : BForm) (hf : FormOk f) (text : Byt) (hl : text.length ≤ 65536) : CtrFd Tryz.prog 83 (fun fv => (finT f text fv)) ((allF f text).map (encF f)) := by
  refine fnFd_intro Tryz.func83 rfl (by decide) Tryz.ntmps83 (fun _ => by exact Nat.le_of_ble_eq_true rfl) (fun _ => ⟨rfl, rfl⟩) fun fv J Jx hJ hJx hF w0 Mc wf0 z0 => ?_
  refine t_seq ?_
  refine t_region ?_
  refine r_box_agg rfl ?_
  refine r_box_agg rfl ?_
  refine r_nil ?_
  refine i_then ?_
  refine t_seq ?_
  refine t_region ?_
  refine r_alloc rfl (by exact List.cons_ne_nil _ _) rfl ?_
  refine r_nil ?_
  refine i_then ?_
  refine t_seq ?_
  refine t_region ?_
  refine r_makeFunc rfl ?_
  refine r_store1 rfl rfl (by decide) rfl rfl (by exact (rfl : _ = Ty.clo _ _)) rfl (by exact Nat.le_of_ble_eq_true rfl) rfl rfl (by exact (rfl : _ = [_])) ?_
  refine r_nil ?_
  refine i_then ?_
  refine t_draw mixed rfl ?_
  refine r_load_ptr rfl rfl (by decide) rfl rfl rfl ?_
  refine r_load_ppN rfl rfl rfl (by exact Nat.le_of_ble_eq_true rfl) ?_
  refine r_callG [(9, 6), (500, 5)] [9, 500] [(9, Cont.cells 177 (rdrT f Rdr.new 500))] (k_opened f) rfl rfl (by repeat (first | exact cv_nil | refine cv_cons ?_ ?_ | exact cv_pub rfl rfl)) pre_nil (post_cons (a := 9) (b := 6) (by exact List.mem_cons_self) rfl (cc_rdr (by exact List.mem_cons_self) (List.mem_cons_of_mem _ List.mem_cons_self) rfl) post_nil) (cv_ptr (by exact List.mem_cons_self)) ?_
  refine r_nilCheck_ptr rfl ?_
  refine r_load_ptrN rfl rfl (by decide) rfl rfl (by exact Nat.le_of_ble_eq_true rfl) ?_
  refine r_callF0 (tg := 5) (ss := [Ty.ex (.slice none 0 0), Ty.agg (rdrT f Rdr.new 500)]) [(500, 1003)] (hJ 0) (hJ (0 + (filS f Rdr.new [] (text.drop ([] : Byt).length)).length)) hJx (c_fill1 f text hl (allF f text) fv J Jx hJ hJx hF text.length [] Rdr.new 0 (by simp) (new_ok hf) (Nat.zero_le _) (by rw [List.length_nil, List.drop_zero, fil_all, List.drop_zero]; exact List.prefix_rfl)) rfl rfl rfl rfl (cv_cons (cv_cons cv_nil (cv_rdr List.mem_cons_self)) cv_nilrow) rfl rfl (by decide) rfl ?_
  refine r_nil ?_
  refine ⟨by kernel_rfl, ?_⟩
  exact i_retFd (hJ := hJ) (h1 := hJ _) (hx := hJx) z0 wf0 (by rw [List.length_nil, List.drop_zero, fil_all, List.length_map, Nat.zero_add]) rfl rfl rfl
set_option maxRecDepth 100000 in
theorem k_Count1 (k : Nat) (h : k ≤ 100000) : CtrG Tryz.prog 82 [1000] [(1000, Cont.cells 3 [Ty.int .i64 (k : Nat)])] [Ty.any, Ty.any, Ty.ptr 1000 0] [(1000, Cont.cells 3 [Ty.int .i64 ((k + 1 : Nat) : Int)])] (Ty.bool true) := by
  refine fnG_intro Tryz.func82 rfl (by decide) Tryz.ntmps82 (by exact Nat.le_of_ble_eq_true rfl) fun w0 M0 => ?_
  refine t_seq ?_
  refine t_region ?_
  refine asB rfl ?_
  refine r_nil ?_
  refine i_then ?_
  refine t_seq ?_
  refine t_region ?_
  refine r_load_ptr rfl rfl (by decide) rfl rfl rfl ?_
  refine r_add rfl rfl (by omega) (by omega) ?_
  refine r_store1 rfl rfl (by decide) rfl rfl (by exact (rfl : _ = Ty.int _ _)) rfl (by exact Nat.le_of_ble_eq_true rfl) rfl rfl (by exact (rfl : _ = [_])) ?_
  refine r_nil ?_
  refine i_then ?_
  refine t_seq ?_
  refine t_region ?_
  refine asB rfl ?_
  refine r_nil ?_
  refine i_then ?_
  refine t_ret ?_
  refine g_ret1 [1000] rfl rfl (by decide) ?_ ?_
  exact rc_cons rfl (cc_cells_eq (by decide) rfl rfl rfl) rc_nil
  all_goals exact rg_cv (cv_pub rfl rfl)
set_option maxRecDepth 100000 in
theorem c_Count (f : BForm) (text : Byt) : Ctr Tryz.prog 27 [frmT f, Ty.str (bs text)] (Ty.tup [Ty.int .i64 (cntV f text).1, Ty.int .i64 (cntV f text).2]) := by
  refine fn_intro Tryz.func27 rfl (by decide) Tryz.ntmps27 (by exact Nat.le_of_ble_eq_true rfl) fun w0 M0 => ?_
  refine t_seq ?_
  refine t_region ?_
  refine r_box_agg rfl ?_
  refine asI rfl ?_
  refine asI rfl ?_
  refine r_nil ?_
  refine i_then ?_
  refine t_seq ?_
  refine t_seq ?_
  refine t_region ?_
  refine r_load_ppN rfl rfl rfl (by exact Nat.le_of_ble_eq_true rfl) ?_
  refine mvS' rfl ?_
  refine r_call (c_torn _ _) rfl rfl rfl rfl rfl ?_
  refine asI rfl ?_
  refine r_nil ?_
  refine i_then ?_
  refine t_seq ?_
  refine t_region ?_
  refine mvI rfl ?_
  refine r_bin rfl rfl rfl ?_
  refine r_nil ?_
  refine i_then ?_
  refine t_cond_ndec rfl (fun hc1 => ?_) (fun hc1 => ?_)
  ·
    refine t_seq ?_
    refine t_region ?_
    refine mvI rfl ?_
    refine asI rfl ?_
    refine asI rfl ?_
    refine r_nil ?_
    refine i_then ?_
    refine t_ret ?_
    refine i_then_ret ?_
    refine i_rp2 rfl rfl rfl ?_ ?_
    all_goals skip
    all_goals (rw [cnt_1 hc1]; exact ret_refl rfl rfl)
  ·
    refine t_skip ?_
    refine i_then ?_
    refine t_seq ?_
    refine t_region ?_
    refine r_alloc rfl (by exact List.cons_ne_nil _ _) rfl ?_
    refine r_store1 rfl rfl (by decide) rfl rfl (by exact (rfl : _ = Ty.int _ _)) rfl (by exact Nat.le_of_ble_eq_true rfl) rfl rfl (by exact (rfl : _ = [_])) ?_
    refine r_nil ?_
    refine i_then ?_
    refine t_seq ?_
    obtain ⟨hf, hl, h4⟩ := torn_ok hc1
    have hfew := all_few (f := f) h4
    refine t_region ?_
    refine mvS' rfl ?_
    refine r_makeFunc rfl ?_
    refine r_build rfl rfl (by exact List.cons_ne_nil _ _) rfl (by repeat (first | exact (Parts.nil : Parts _ _ [] _) | (show Parts _ _ ((_, _) :: _) _; apply Parts.one; (· first | exact (rfl : _ = Ty.clo _ _) | exact (rfl : _ = Ty.str _)); (· exact rfl)))) (by exact (rfl : _ = some [_, _])) ?_
    refine r_load_ppN rfl rfl rfl (by exact Nat.le_of_ble_eq_true rfl) ?_
    refine r_op (opT_callFd (fid := 82) (caps := [Ty.ptr 8 0]) (S := [8]) (K := []) (mv := []) (F := [1000]) (px := False) (ok := fun _ => True) (tgs := fun k => [(8, Cont.cells 3 [Ty.int .i64 (k : Nat)])]) (tgx := []) (sets := [(8, Cont.cells 3 [Ty.int .i64 ((allF f text).length : Nat)])]) (ρ := [(8, 1000)]) (pre := fun k => [(1000, Cont.cells 3 [Ty.int .i64 (k : Nat)])]) (post := fun k => [(1000, Cont.cells 3 [Ty.int .i64 ((k + 1 : Nat) : Int)])]) (argsF := fun _ => [Ty.any, Ty.any, Ty.ptr 1000 0]) (go := fun _ => true) (c_fill f hf text hl) rfl fin_hfv (fun _ => ⟨rfl, rfl⟩) (k_Count1 0 (by decide)).ex (fun k _ hk => k_Count1 k (by rw [List.length_map] at hk; omega)) rfl rfl rfl rfl (by decide) (by intro t h; cases h) (by decide) (by decide) (allE_pub f _) (fun k tys hk => by obtain ⟨_, rfl⟩ := enc_at hk; exact cv_cons (cv_cons (cv_cons cv_nil (cv_ptr (by decide))) cv_any) cv_any) (fun k => pre_cons (a := 8) (by decide) rfl (cc_cells_eq (by decide) rfl rfl rfl) pre_nil) (fun k _ _ => post_cons (a := 8) (b := 1000) (by decide) rfl (cc_cells_eq (by decide) rfl rfl rfl) post_nil) (fun k _ h => by cases h) trivial (fun _ _ _ _ => trivial) (fun _ _ _ h => by cases h) (fun _ => rfl) rfl (allTags_cons rfl (Cont.sub_subs ⟨Ty.sub_int rfl, trivial⟩) allTags_nil) (by decide) (by intro t h; cases h) (by simp) rfl (fun _ w M h x hx => by rw [List.length_map] at h; exact h x hx) (fun h => h.elim)) ?_
    refine r_nil ?_
    refine i_then ?_
    refine t_seq ?_
    refine t_region ?_
    refine r_load_ptr rfl rfl (by decide) rfl rfl rfl ?_
    refine asI rfl ?_
    refine asI rfl ?_
    refine r_nil ?_
    refine i_then ?_
    refine t_ret ?_
    refine i_rp2 rfl rfl rfl ?_ ?_
    all_goals skip
    all_goals (rw [cnt_2 hc1]; exact ret_refl rfl rfl)
set_option maxRecDepth 100000 in
theorem k_Fillings1 (s : Byt) (l : List Byt) (h : l.length ≤ 2) : CtrG Tryz.prog 84 [1000] [(1000, Cont.cells 53 [Ty.row StrE 9 1001 l])] [Ty.str (bs s), Ty.any, Ty.ptr 1000 0] [(1000, Cont.cells 53 [Ty.row StrE 9 1001 (l ++ [s])])] (Ty.bool (decide (((l.length : Nat) : Int) + 1 < 2))) := by
  refine fnG_intro Tryz.func84 rfl (by decide) Tryz.ntmps84 (by exact Nat.le_of_ble_eq_true rfl) fun w0 M0 => ?_
  refine t_seq ?_
  refine t_region ?_
  refine asB rfl ?_
  refine r_nil ?_
  refine i_then ?_
  refine t_seq ?_
  refine t_region ?_
  refine r_load_ptr rfl rfl (by decide) rfl rfl rfl ?_
  refine mvS' rfl ?_
  refine r_buildSlice (E := StrE) (xs := [_]) rfl rfl rfl rfl rfl (by decide) (by decide) (by repeat (first | exact (Parts.nil : Parts _ _ [] _) | (show Parts _ _ ((_, _) :: _) _; apply Parts.one; (· exact (rfl : _ = Ty.str _)); (· exact rfl)))) (by exact rfl) rfl ?_
  refine r_append rfl rfl (by decide) rfl rfl rfl rfl rfl rfl (by decide) (by (simp <;> omega)) (by (simp <;> omega)) ?_
  refine r_store1 rfl rfl (by decide) rfl rfl (by exact (rfl : _ = Ty.row _ _ _ _)) rfl (by exact Nat.le_of_ble_eq_true rfl) rfl rfl (by exact (rfl : _ = [_])) ?_
  refine r_nil ?_
  refine i_then ?_
  refine t_seq ?_
  refine t_region ?_
  refine r_load_ptr rfl rfl (by decide) rfl rfl rfl ?_
  refine r_len_row rfl rfl rfl ?_
  refine r_bin rfl rfl rfl ?_
  refine asB rfl ?_
  refine r_nil ?_
  refine i_then ?_
  refine t_ret ?_
  refine g_ret1 [1000, 1001] rfl rfl (by decide) ?_ ?_
  exact rc_cons rfl (cc_cells (by decide) (cv_cons cv_nil (cv_row (by decide)))) rc_nil
  all_goals skip
  all_goals exact rg_cv (cv_sub rfl rfl (Ty.sub_bool (fil_b _ _)))
theorem fil_ctr {f : BForm} {text : Byt} {k : Nat} (hk : k < (allF f text).length) (h2 : k < 2) : CtrG Tryz.prog 84 [1000] [(1000, Cont.cells 53 [Ty.row StrE 9 1001 (filL f text k)])] [Ty.str (bs (nth (allF f text) k).1), Ty.any, Ty.ptr 1000 0] [(1000, Cont.cells 53 [Ty.row StrE 9 1001 (filL f text (k + 1))])] (Ty.bool (decide (k + 1 < 2))) := by
  have h := k_Fillings1 (nth (allF f text) k).1 (filL f text k) (by have := filL_len f text k; omega)
  rw [← filL_succ hk, filL_len2 hk] at h
  rwa [show decide ((k : Int) + 1 < 2) = decide (k + 1 < 2) from by rw [decide_eq_decide]; omega] at h
set_option maxRecDepth 100000 in
theorem c_Fillings (f : BForm) (text : Byt) : Ctr Tryz.prog 28 [frmT f, Ty.str (bs text)] (Ty.tup [Ty.sl StrE (filV f text).1, Ty.int .i64 (filV f text).2]) := by
  refine fn_intro Tryz.func28 rfl (by decide) Tryz.ntmps28 (by exact Nat.le_of_ble_eq_true rfl) fun w0 M0 => ?_
  refine t_seq ?_
  refine t_region ?_
  refine r_box_agg rfl ?_
  refine asX rfl ?_
  refine asI rfl ?_
  refine r_nil ?_
  refine i_then ?_
  refine t_seq ?_
  refine t_seq ?_
  refine t_region ?_
  refine r_load_ppN rfl rfl rfl (by exact Nat.le_of_ble_eq_true rfl) ?_
  refine mvS' rfl ?_
  refine r_call (c_torn _ _) rfl rfl rfl rfl rfl ?_
  refine asI rfl ?_
  refine r_nil ?_
  refine i_then ?_
  refine t_seq ?_
  refine t_region ?_
  refine mvI rfl ?_
  refine r_bin rfl rfl rfl ?_
  refine r_nil ?_
  refine i_then ?_
  refine t_cond_ndec rfl (fun hc1 => ?_) (fun hc1 => ?_)
  ·
    refine t_seq ?_
    refine t_region ?_
    refine mvI rfl ?_
    refine asX rfl ?_
    refine asI rfl ?_
    refine r_nil ?_
    refine i_then ?_
    refine t_ret ?_
    refine i_then_ret ?_
    refine i_rp2 rfl rfl rfl ?_ ?_
    all_goals skip
    all_goals (rw [fv_1 hc1]; first | exact ret_refl rfl rfl | exact ret_nil)
  ·
    refine t_skip ?_
    refine i_then ?_
    refine t_seq ?_
    refine t_region ?_
    refine r_alloc rfl (by exact List.cons_ne_nil _ _) rfl ?_
    refine r_nil ?_
    refine i_then ?_
    refine t_seq ?_
    obtain ⟨hf, hl, h4⟩ := torn_ok hc1
    have hfew := all_few (f := f) h4
    refine t_region ?_
    refine mvS' rfl ?_
    refine r_makeFunc rfl ?_
    refine r_build rfl rfl (by exact List.cons_ne_nil _ _) rfl (by repeat (first | exact (Parts.nil : Parts _ _ [] _) | (show Parts _ _ ((_, _) :: _) _; apply Parts.one; (· first | exact (rfl : _ = Ty.clo _ _) | exact (rfl : _ = Ty.str _)); (· exact rfl)))) (by exact (rfl : _ = some [_, _])) ?_
    refine r_load_ppN rfl rfl rfl (by exact Nat.le_of_ble_eq_true rfl) ?_
    refine r_op (opT_callFd (fid := 84) (caps := [Ty.ptr 8 0]) (S := [8, 500]) (K := [500]) (mv := [500]) (F := [1000]) (px := 2 ≤ (allF f text).length) (ok := fun k => k < 2) (tgs := fun k => [(8, Cont.cells 53 [Ty.row StrE 9 500 (filL f text k)])]) (tgx := [(8, Cont.cells 53 [Ty.row StrE 9 500 (filL f text 2)])]) (sets := [(8, Cont.cells 53 [Ty.row StrE 9 500 (filL f text 2)])]) (ρ := [(8, 1000), (500, 1001)]) (pre := fun k => [(1000, Cont.cells 53 [Ty.row StrE 9 1001 (filL f text k)])]) (post := fun k => [(1000, Cont.cells 53 [Ty.row StrE 9 1001 (filL f text (k + 1))])]) (argsF := fun k => [Ty.str (bs (nth (allF f text) k).1), Ty.any, Ty.ptr 1000 0]) (go := fun k => decide (k + 1 < 2)) (c_fill f hf text hl) rfl fin_hfv (fun _ => ⟨rfl, rfl⟩) (k_Fillings1 [] [] (by decide)).ex (fun k h2 hk => by rw [List.length_map] at hk; exact fil_ctr hk h2) rfl rfl rfl rfl (by decide) (by intro t h; rw [List.mem_singleton.1 h]; exact ⟨1001, by decide⟩) (by decide) (by decide) (allE_pub f _) (fun k tys hk => by obtain ⟨_, rfl⟩ := enc_at hk; exact cv_cons (cv_cons (cv_cons cv_nil (cv_ptr (by decide))) cv_any) (cv_pub rfl rfl)) (fun k => pre_cons (a := 8) (by decide) rfl (cc_cells (by decide) (cv_cons cv_nil (cv_row (by decide)))) pre_nil) (fun k _ _ => post_cons (a := 8) (b := 1000) (by decide) rfl (cc_cells (by decide) (cv_cons cv_nil (cv_row (by decide)))) post_nil) (fun k h2 hg => fil_px h2 (of_decide_eq_false hg)) (by decide) (fun k _ _ hg => of_decide_eq_true hg) (fun k h1 h2 hg => by have hg := of_decide_eq_false hg; rw [List.length_map] at h2; omega) (fun _ => rfl) rfl (allTags_cons rfl (Cont.sub_subs ⟨fil_nil0, trivial⟩) allTags_nil) (by decide) (by intro t h; rw [List.mem_singleton.1 h]; exact ⟨by decide, by simp⟩) (by simp) rfl (fun hlt w M h x hx => by rw [List.length_map] at h hlt; rw [filL_all hlt] at h; exact h x hx) (fun _ w M h x hx => h x hx)) ?_
    refine r_nil ?_
    refine i_then ?_
    refine t_seq ?_
    refine t_region ?_
    refine r_load_ptr rfl rfl (by decide) rfl rfl rfl ?_
    refine asR rfl ?_
    refine asI rfl ?_
    refine r_nil ?_
    refine i_then ?_
    refine t_ret ?_
    refine i_rp2 rfl rfl rfl ?_ ?_
    all_goals skip
    all_goals (rw [fv_2 hc1]; first | exact ret_row (by decide) | exact ret_refl rfl rfl)
set_option maxRecDepth 100000 in
theorem c_bookP (f : BForm) (p : Rdr) (h : p.read.length ≤ 13) (hw : f.widths.length ≤ 1000) (hn : ∀ r ∈ p.read, r.nums.length ≤ 1000) : Ctr Tryz.prog 86 [Ty.pp (rdrPl f p)] (bokT ⟨f, p.read⟩) := by
  refine fn_intro Tryz.func86 rfl (by decide) Tryz.ntmps86 (by exact Nat.le_of_ble_eq_true rfl) fun w0 M0 => ?_
  refine t_seq ?_
  refine t_region ?_
  refine r_alloc rfl (by exact List.cons_ne_nil _ _) rfl ?_
  refine r_nil ?_
  refine i_then ?_
  refine t_seq ?_
  refine t_draw mixed rfl ?_
  refine mvP rfl ?_
  refine r_nilCheck_pp rfl ?_
  refine r_field_pp rfl rfl rfl rfl rfl (by decide) ?_
  refine r_load_ppN rfl rfl rfl (by exact Nat.le_of_ble_eq_true rfl) ?_
  refine mvP rfl ?_
  refine r_nilCheck_pp rfl ?_
  refine r_field_pp rfl rfl rfl rfl rfl (by decide) ?_
  refine r_load_pp rfl rfl rfl rfl ?_
  refine r_build rfl rfl (by exact List.cons_ne_nil _ _) rfl (by repeat (first | exact (Parts.nil : Parts _ _ [] _) | (show Parts _ _ ((_, _) :: _) _; apply Parts.one; (· exact (rfl : _ = Ty.sl _ _)); (· exact rfl)) | (show Parts _ _ ((_, _) :: _) _; apply Parts.agg; (· exact (rfl : _ = Ty.agg _))))) (by exact (rfl : _ = some [_, _, _])) ?_
  refine r_call (c_own ⟨f, p.read⟩ h hw hn) rfl rfl rfl rfl rfl ?_
  refine r_storeN rfl rfl (by decide) rfl rfl rfl rfl rfl rfl ?_
  refine r_nil ?_
  refine ⟨by kernel_rfl, ?_⟩
  refine i_then ?_
  refine t_ret ?_
  refine i_rcell rfl rfl rfl rfl (by decide) rfl rfl rfl ?_
  exact ret_refl rfl rfl
set_option maxRecDepth 100000 in
theorem k_Restore1 (f : BForm) (p : Rdr) (h : p.read.length ≤ 13) (hw : f.widths.length ≤ 1000) (hn : ∀ r ∈ p.read, r.nums.length ≤ 1000) (b : Book) (k : Nat) (hk : k ≤ 2) : CtrG Tryz.prog 85 [1000, 1001] [(1000, Cont.cells 27 (bokTys b)), (1001, Cont.cells 3 [Ty.int .i64 (k : Nat)])] [Ty.any, Ty.pp (rdrPl f p), Ty.ptr 1000 0, Ty.ptr 1001 0] [(1000, Cont.cells 27 (bokTys ⟨f, p.read⟩)), (1001, Cont.cells 3 [Ty.int .i64 ((k + 1 : Nat) : Int)])] (Ty.bool (decide (k + 1 < 2))) := by
  refine fnG_intro Tryz.func85 rfl (by decide) Tryz.ntmps85 (by exact Nat.le_of_ble_eq_true rfl) fun w0 M0 => ?_
  refine t_seq ?_
  refine t_region ?_
  refine asB rfl ?_
  refine r_nil ?_
  refine i_then ?_
  refine t_seq ?_
  refine t_region ?_
  refine mvP rfl ?_
  refine r_call (c_bookP f p h hw hn) rfl rfl rfl rfl rfl ?_
  refine r_storeN rfl rfl (by decide) rfl rfl rfl rfl rfl rfl ?_
  refine r_nil ?_
  refine i_then ?_
  refine t_seq ?_
  refine t_region ?_
  refine r_load_ptr rfl rfl (by decide) rfl rfl rfl ?_
  refine r_add rfl rfl (by omega) (by omega) ?_
  refine r_store1 rfl rfl (by decide) rfl rfl (by exact (rfl : _ = Ty.int _ _)) rfl (by exact Nat.le_of_ble_eq_true rfl) rfl rfl (by exact (rfl : _ = [_])) ?_
  refine r_nil ?_
  refine i_then ?_
  refine t_seq ?_
  refine t_region ?_
  refine r_load_ptr rfl rfl (by decide) rfl rfl rfl ?_
  refine r_bin rfl rfl rfl ?_
  refine asB rfl ?_
  refine r_nil ?_
  refine i_then ?_
  refine t_ret ?_
  refine g_ret1 [1000, 1001] rfl rfl (by decide) ?_ ?_
  exact rc_cons rfl (cc_cells_eq (by decide) rfl rfl rfl) (rc_cons rfl (cc_cells_eq (by decide) rfl rfl rfl) rc_nil)
  all_goals skip
  all_goals exact rg_cv (cv_sub rfl rfl (Ty.sub_bool (res_b k)))
theorem res_ctr {f : BForm} {text : Byt} {k : Nat} (hf : FormOk f) (ho : RdrOk f (nth (allF f text) k).2) (h2 : k < 2) : CtrG Tryz.prog 85 [1000, 1001] [(1000, Cont.cells 27 (bokTys (resB f text k))), (1001, Cont.cells 3 [Ty.int .i64 (k : Nat)])] [Ty.any, Ty.pp (rdrPl f (nth (allF f text) k).2), Ty.ptr 1000 0, Ty.ptr 1001 0] [(1000, Cont.cells 27 (bokTys (resB f text (k + 1)))), (1001, Cont.cells 3 [Ty.int .i64 ((k + 1 : Nat) : Int)])] (Ty.bool (decide (k + 1 < 2))) := by
  have h := k_Restore1 f (nth (allF f text) k).2 ho.len (by have := hf.n2; omega) ho.num_len (resB f text k) k (by omega)
  rwa [← resB_succ] at h
set_option maxRecDepth 100000 in
theorem c_Restore (f : BForm) (text : Byt) : Ctr Tryz.prog 29 [frmT f, Ty.str (bs text)] (Ty.tup [bokT (resV f text).1, Ty.int .i64 (resV f text).2]) := by
  refine fn_intro Tryz.func29 rfl (by decide) Tryz.ntmps29 (by exact Nat.le_of_ble_eq_true rfl) fun w0 M0 => ?_
  refine t_seq ?_
  refine t_region ?_
  refine r_box_agg rfl ?_
  refine r_alloc rfl (by exact List.cons_ne_nil _ _) rfl ?_
  refine asI rfl ?_
  refine r_nil ?_
  refine i_then ?_
  refine t_seq ?_
  refine t_seq ?_
  refine t_region ?_
  refine r_load_ppN rfl rfl rfl (by exact Nat.le_of_ble_eq_true rfl) ?_
  refine mvS' rfl ?_
  refine r_call (c_torn _ _) rfl rfl rfl rfl rfl ?_
  refine asI rfl ?_
  refine r_nil ?_
  refine i_then ?_
  refine t_seq ?_
  refine t_region ?_
  refine mvI rfl ?_
  refine r_bin rfl rfl rfl ?_
  refine r_nil ?_
  refine i_then ?_
  refine t_cond_ndec rfl (fun hc1 => ?_) (fun hc1 => ?_)
  ·
    refine t_seq ?_
    refine t_region ?_
    refine r_build rfl rfl (by exact List.cons_ne_nil _ _) rfl (by repeat (exact (Parts.nil : Parts _ _ [] _))) (by exact (rfl : _ = some [_, _, _])) ?_
    refine mvI rfl ?_
    refine r_storeN rfl rfl (by decide) rfl rfl rfl rfl rfl rfl ?_
    refine asI rfl ?_
    refine r_nil ?_
    refine i_then ?_
    refine t_ret ?_
    refine i_then_ret ?_
    refine i_rcell2 rfl rfl rfl rfl rfl (by decide) rfl rfl rfl ?_ ?_
    all_goals skip
    all_goals (rw [rv_1 hc1]; first | exact ret_sub rfl rfl zero_bok | exact ret_refl rfl rfl)
  ·
    refine t_skip ?_
    refine i_then ?_
    refine t_seq ?_
    refine t_region ?_
    refine r_alloc rfl (by exact List.cons_ne_nil _ _) rfl ?_
    refine r_nil ?_
    refine i_then ?_
    refine t_seq ?_
    refine t_region ?_
    refine r_alloc rfl (by exact List.cons_ne_nil _ _) rfl ?_
    refine r_store1 rfl rfl (by decide) rfl rfl (by exact (rfl : _ = Ty.int _ _)) rfl (by exact Nat.le_of_ble_eq_true rfl) rfl rfl (by exact (rfl : _ = [_])) ?_
    refine r_nil ?_
    refine i_then ?_
    refine t_seq ?_
    obtain ⟨hf, hl, h4⟩ := torn_ok hc1
    have hfew := all_few (f := f) h4
    refine t_region ?_
    refine mvS' rfl ?_
    refine r_makeFunc rfl ?_
    refine r_build rfl rfl (by exact List.cons_ne_nil _ _) rfl (by repeat (first | exact (Parts.nil : Parts _ _ [] _) | (show Parts _ _ ((_, _) :: _) _; apply Parts.one; (· first | exact (rfl : _ = Ty.clo _ _) | exact (rfl : _ = Ty.str _)); (· exact rfl)))) (by exact (rfl : _ = some [_, _])) ?_
    refine r_load_ppN rfl rfl rfl (by exact Nat.le_of_ble_eq_true rfl) ?_
    refine r_op (opT_callFd (fid := 85) (caps := [Ty.ptr 8 0, Ty.ptr 9 0]) (S := [8, 9]) (K := []) (mv := []) (F := [1000, 1001]) (px := 2 ≤ (allF f text).length) (ok := fun k => k < 2) (tgs := fun k => [(8, Cont.cells 27 (bokTys (resB f text k))), (9, Cont.cells 3 [Ty.int .i64 (k : Nat)])]) (tgx := [(8, Cont.cells 27 (bokTys (resB f text 2))), (9, Cont.cells 3 [Ty.int .i64 ((2 : Nat) : Int)])]) (sets := [(8, Cont.cells 27 (bokTys (resB f text (min 2 (allF f text).length)))), (9, Cont.cells 3 [Ty.int .i64 ((min 2 (allF f text).length : Nat) : Int)])]) (ρ := [(8, 1000), (9, 1001)]) (pre := fun k => [(1000, Cont.cells 27 (bokTys (resB f text k))), (1001, Cont.cells 3 [Ty.int .i64 (k : Nat)])]) (post := fun k => [(1000, Cont.cells 27 (bokTys (resB f text (k + 1)))), (1001, Cont.cells 3 [Ty.int .i64 ((k + 1 : Nat) : Int)])]) (argsF := fun k => [Ty.any, Ty.pp (rdrPl f (nth (allF f text) k).2), Ty.ptr 1000 0, Ty.ptr 1001 0]) (go := fun k => decide (k + 1 < 2)) (c_fill f hf text hl) rfl fin_hfv (fun _ => ⟨rfl, rfl⟩) (k_Restore1 f Rdr.new (by decide) (by have := hf.n2; omega) (by intro r h; cases h) Book.zero 0 (by decide)).ex (fun k h2 hk => by rw [List.length_map] at hk; have ho := all_ok hf hk; exact res_ctr hf ho h2) rfl rfl rfl rfl (by decide) (by intro t h; cases h) (by decide) (by decide) (allE_pub f _) (fun k tys hk => by obtain ⟨_, rfl⟩ := enc_at hk; exact cv_cons (cv_cons (cv_cons (cv_cons cv_nil (cv_ptr (by decide))) (cv_ptr (by decide))) (cv_pub rfl rfl)) cv_any) (fun k => pre_cons (a := 8) (by decide) rfl (cc_cells_eq (by decide) rfl rfl rfl) (pre_cons (a := 9) (by decide) rfl (cc_cells_eq (by decide) rfl rfl rfl) pre_nil)) (fun k _ _ => post_cons (a := 8) (b := 1000) (by decide) rfl (cc_cells_eq (by decide) rfl rfl rfl) (post_cons (a := 9) (b := 1001) (by decide) rfl (cc_cells_eq (by decide) rfl rfl rfl) post_nil)) (fun k h2 hg => res_px h2 (of_decide_eq_false hg)) (by decide) (fun k _ _ hg => of_decide_eq_true hg) (fun k h1 h2 hg => by have hg := of_decide_eq_false hg; rw [List.length_map] at h2; omega) (fun _ => rfl) rfl (allTags_cons rfl (Cont.sub_subs res_zero) (allTags_cons rfl (Cont.sub_subs ⟨Ty.sub_int rfl, trivial⟩) allTags_nil)) (by decide) (by intro t h; cases h) (by simp) rfl (fun hlt w M h x hx => by rw [List.length_map] at h hlt; rw [show min 2 (allF f text).length = (allF f text).length by omega] at hx; exact h x hx) (fun hge w M h x hx => by rw [show min 2 (allF f text).length = 2 by omega] at hx; exact h x hx)) ?_
    refine r_nil ?_
    refine i_then ?_
    refine t_seq ?_
    refine t_seq ?_
    refine t_region ?_
    refine r_load_ptr rfl rfl (by decide) rfl rfl rfl ?_
    refine r_nil ?_
    refine i_then ?_
    refine t_block ?_
    refine t_seq ?_
    refine t_region ?_
    refine r_bin rfl rfl rfl ?_
    refine asB rfl ?_
    refine r_nil ?_
    refine i_then ?_
    refine t_cond_dec rfl (fun hc2 => ?_) (fun hc2 => ?_)
    ·
      refine t_seq ?_
      refine t_region ?_
      refine r_build rfl rfl (by exact List.cons_ne_nil _ _) rfl (by repeat (exact (Parts.nil : Parts _ _ [] _))) (by exact (rfl : _ = some [_, _, _])) ?_
      refine r_storeN rfl rfl (by decide) rfl rfl rfl rfl rfl rfl ?_
      refine asI rfl ?_
      refine r_nil ?_
      refine i_then ?_
      refine t_ret ?_
      refine i_block_ret ?_
      refine i_then_ret ?_
      refine i_rcell2 rfl rfl rfl rfl rfl (by decide) rfl rfl rfl ?_ ?_
      all_goals skip
      all_goals (rw [rv_2 hc1 hc2]; first | exact ret_sub rfl rfl zero_bok | exact ret_refl rfl rfl)
    ·
      refine t_seq ?_
      refine t_region ?_
      refine r_bin rfl rfl rfl ?_
      refine asB rfl ?_
      refine r_nil ?_
      refine i_then ?_
      refine t_cond_dec rfl (fun hc3 => ?_) (fun hc3 => ?_)
      ·
        refine t_seq ?_
        refine t_region ?_
        refine r_load_ptrN rfl rfl (by decide) rfl rfl (by exact Nat.le_of_ble_eq_true rfl) ?_
        refine r_storeN rfl rfl (by decide) rfl rfl rfl rfl rfl rfl ?_
        refine asI rfl ?_
        refine r_nil ?_
        refine i_then ?_
        refine t_ret ?_
        refine i_block_ret ?_
        refine i_then_ret ?_
        refine i_rcell2 rfl rfl rfl rfl rfl (by decide) rfl rfl rfl ?_ ?_
        all_goals skip
        all_goals (rw [rv_3 hc1 hc2 hc3]; exact ret_refl rfl rfl)
      ·
        refine t_skip ?_
        refine i_block ?_
        refine i_then ?_
        refine t_seq ?_
        refine t_region ?_
        refine r_build rfl rfl (by exact List.cons_ne_nil _ _) rfl (by repeat (exact (Parts.nil : Parts _ _ [] _))) (by exact (rfl : _ = some [_, _, _])) ?_
        refine r_storeN rfl rfl (by decide) rfl rfl rfl rfl rfl rfl ?_
        refine asI rfl ?_
        refine r_nil ?_
        refine i_then ?_
        refine t_ret ?_
        refine i_rcell2 rfl rfl rfl rfl rfl (by decide) rfl rfl rfl ?_ ?_
        all_goals skip
        all_goals (rw [rv_4 hc1 hc2 hc3]; first | exact ret_sub rfl rfl zero_bok | exact ret_refl rfl rfl)
end Go.Proofs.YtjjndkenddigiaaGreatDoor

namespace Go.Proofs.YtjjndkenddigiaaGreatDoor
open Go Go.T Go.RowKit
def bTwo : Book := ⟨⟨[3, 2], 2⟩, [⟨[12, 5], false⟩, ⟨[100, 40], false⟩, ⟨[7, 0], true⟩]⟩
def tTwo : Byt := [32, 32, 49, 50, 124, 32, 53, 124, 107, 10, 32, 49, 48, 48, 124, 52, 48, 124, 114, 10, 61, 32, 32, 49, 49, 50, 124, 32, 32, 52, 53, 124, 10, 43, 32, 32, 49, 49, 50, 124, 32, 32, 52, 53, 124, 10, 45, 32, 32, 55, 124, 32, 48, 124, 106, 10, 61, 32, 32, 49, 49, 50, 124, 32, 32, 52, 53, 124, 10]
def tTwo1 : Byt := tTwo.take 8 ++ [106] ++ tTwo.drop 9
def tTwo2 : Byt := tTwo.take 34
def tTwo3 : Byt := [32, 32, 63, 50, 124, 32, 53, 124, 63, 10, 32, 49, 48, 48, 124, 52, 48, 124, 114, 10, 61, 32, 32, 49, 49, 50, 124, 32, 32, 52, 53, 124, 10, 43, 32, 32, 49, 49, 50, 124, 32, 32, 52, 53, 124, 10, 45, 32, 32, 55, 124, 32, 48, 124, 106, 10, 61, 32, 32, 49, 49, 50, 124, 32, 32, 52, 53, 124, 10]
def fOne : BForm := ⟨[1], 1⟩
def tOne : Byt := [32, 63, 124, 63, 10, 61, 32, 32, 63, 124, 10]
def lOne : List Byt := [[32, 48, 124, 97, 10, 61, 32, 32, 48, 124, 10], [32, 49, 124, 98, 10, 61, 32, 32, 49, 124, 10]]
theorem aw1 : printV bTwo = tTwo := by kernel_rfl
theorem aw1' : bokY bTwo = 0 := by kernel_rfl
theorem aw2 : parV bTwo.form tTwo1 = (Book.zero, 8, 11) := by kernel_rfl
theorem aw3 : parV bTwo.form tTwo2 = (Book.zero, 34, 11) := by kernel_rfl
theorem aw4 : tearV tTwo [2, 8] = (tTwo3, 0) := by kernel_rfl
theorem aw5 : allF bTwo.form tTwo3 = [(tTwo, (runR bTwo.form Rdr.new tTwo).2)] := by kernel_rfl
theorem aw5' : (runR bTwo.form Rdr.new tTwo).2.read = bTwo.rows := by kernel_rfl
theorem aw6 : (allF fOne tOne).length = 10 := by kernel_rfl
theorem aw7 : ((allF fOne tOne).take 2).map Prod.fst = lOne := by kernel_rfl
theorem aw8 : footV bTwo = [[112, 45], [112, 45]] := by kernel_rfl
end Go.Proofs.YtjjndkenddigiaaGreatDoor

namespace Go.Proofs.YtjjndkenddigiaaGreatDoor
open Go Go.T
set_option maxHeartbeats 4000000
theorem pubTy_row_eq {A : As} {α : Type} {E : El α} {T tg : Nat} {xs ys : List α} (h : xs = ys) : PubTy A tg (Ty.row E T tg xs) (Ty.sl E ys) := by subst h; exact pubTy_row
theorem row_eqB (a b : BRow) : ((a.struck == b.struck) && decide (a.nums = b.nums)) = decide (a = b) := by
  cases a; cases b; rw [Bool.eq_iff_iff]; simp [and_comm]
theorem sameB_eq (a b : Book) : ((decide (a.form.widths = b.form.widths) && decide (a.form.lines = b.form.lines)) && decide (a.rows = b.rows)) = decide (a = b) := by
  obtain ⟨⟨aw, al⟩, ar⟩ := a
  obtain ⟨⟨bw, bl⟩, br⟩ := b
  rw [Bool.eq_iff_iff]; simp [and_assoc]
theorem aw_res : resV bTwo.form tTwo3 = (bTwo, 0) := by
  have e1 : tornE bTwo.form tTwo3 = 0 := by kernel_rfl
  unfold resV resB
  rw [aw5, e1]
  have := aw5'
  rw [if_neg (by decide), if_neg (by decide), if_pos (by decide), if_neg (by decide)]
  show ((⟨bTwo.form, (runR bTwo.form Rdr.new tTwo).2.read⟩ : Book), (0 : Int)) = _
  rw [this]
theorem aw_cnt : cntV fOne tOne = (10, 0) := by
  have e1 : tornE fOne tOne = 0 := by kernel_rfl
  unfold cntV; rw [aw6, e1]; rfl
theorem aw_fil : filV fOne tOne = (lOne, 0) := by
  have e1 : tornE fOne tOne = 0 := by kernel_rfl
  unfold filV filL; rw [aw7, e1]; rfl
attribute [local irreducible] printV parV tearV cntV filV resV footV bokY
attribute [local irreducible] dInt dBool dSl dPp dPtr dAgg dTup dClo dAny dEx dStr dGd dCells dVec dVs dRow dOp nth Tri Into TOps Ctr bodyPost Exit.then Exit.inBlock Code.wp Code.wpIn dPa dArr dMp dMap CtrG keepPost iterPost bodyPostM roundQ
set_option maxRecDepth 100000 in
theorem c_same1 (a b : BRow) : Ctr Tryz.prog 77 [rowT a, rowT b] (Ty.bool (decide (a = b))) := by
  refine fn_intro Tryz.func77 rfl (by decide) Tryz.ntmps77 (by exact Nat.le_of_ble_eq_true rfl) fun w0 M0 => ?_
  refine t_seq ?_
  refine t_region ?_
  refine r_box_agg rfl ?_
  refine r_box_agg rfl ?_
  refine asB rfl ?_
  refine r_nil ?_
  refine i_then ?_
  refine t_seq ?_
  refine t_region ?_
  refine r_field_pp rfl rfl rfl rfl rfl (by decide) ?_
  refine r_load_pp rfl rfl rfl rfl ?_
  refine r_field_pp rfl rfl rfl rfl rfl (by decide) ?_
  refine r_load_pp rfl rfl rfl rfl ?_
  refine r_eql_B und4 rfl rfl ?_
  refine mvB rfl ?_
  apply r_guard (s := 10) rfl rfl rfl
  · intro hg; apply opT_of; (refine r_field_pp rfl rfl rfl rfl rfl (by decide) ?_); refine r_nil ?_; exact rfl
  · exact rfl
  · exact rfl
  apply r_guard (s := 10) rfl rfl rfl
  · intro hg; apply opT_strip (s := 11) rfl (by (rw [hg]; rfl)); apply opT_of; (refine r_load_pp rfl rfl rfl rfl ?_); refine r_nil ?_; exact rfl
  · exact rfl
  · exact rfl
  apply r_guard (s := 10) rfl rfl rfl
  · intro hg; apply opT_of; (refine r_field_pp rfl rfl rfl rfl rfl (by decide) ?_); refine r_nil ?_; exact rfl
  · exact rfl
  · exact rfl
  apply r_guard (s := 10) rfl rfl rfl
  · intro hg; apply opT_strip (s := 13) rfl (by (rw [hg]; rfl)); apply opT_of; (refine r_load_pp rfl rfl rfl rfl ?_); refine r_nil ?_; exact rfl
  · exact rfl
  · exact rfl
  apply r_guard (s := 10) rfl rfl rfl
  · intro hg; apply opT_strip (s := 12) rfl (by (rw [hg]; rfl)); apply opT_strip (s := 14) rfl (by (rw [hg]; rfl)); apply opT_of; (refine r_call (c_Eq_int _ _) rfl rfl rfl rfl rfl ?_); refine r_nil ?_; exact rfl
  · exact rfl
  · exact rfl
  refine r_and rfl rfl ?_
  refine asB rfl ?_
  refine r_nil ?_
  refine i_then ?_
  refine t_ret ?_
  refine i_rp1 rfl rfl ?_
  all_goals skip
  exact ret_eq rfl rfl (congrArg Ty.bool (row_eqB a b))
set_option maxRecDepth 100000 in
theorem c_EqualFunc (a b : List BRow) : Ctr Tryz.prog 76 [Ty.sl BRowE a, Ty.sl BRowE b, Ty.clo 77 []] (Ty.bool (decide (a = b))) := by
  refine fn_intro Tryz.func76 rfl (by decide) Tryz.ntmps76 (by exact Nat.le_of_ble_eq_true rfl) fun w0 M0 => ?_
  refine t_fact (s := 0) rfl rfl sl_len fun ha => ?_
  refine t_fact (s := 1) rfl rfl sl_len fun hb => ?_
  refine t_seq ?_
  refine t_region ?_
  refine asB rfl ?_
  refine r_nil ?_
  refine i_then ?_
  refine t_seq ?_
  refine t_seq ?_
  refine t_region ?_
  refine mvS rfl ?_
  refine r_len rfl rfl rfl ?_
  refine mvS rfl ?_
  refine r_len rfl rfl rfl ?_
  refine r_bin rfl rfl rfl ?_
  refine r_nil ?_
  refine i_then ?_
  refine t_cond_ndec rfl (fun hc1 => ?_) (fun hc1 => ?_)
  ·
    try (simp only [Classical.not_not] at hc1)
    refine t_seq ?_
    refine t_region ?_
    refine asB rfl ?_
    refine r_nil ?_
    refine i_then ?_
    refine t_ret ?_
    refine i_then_ret ?_
    refine i_rp1 rfl rfl ?_
    all_goals skip
    exact ret_eq rfl rfl (congrArg Ty.bool (by rw [eq_comm, decide_eq_false_iff_not]; intro e; subst e; exact hc1 rfl))
  ·
    try (simp only [Classical.not_not] at hc1)
    refine t_skip ?_
    refine i_then ?_
    refine t_seq ?_
    refine t_seq ?_
    refine t_region ?_
    refine mvS rfl ?_
    refine r_len rfl rfl rfl ?_
    refine mvI rfl ?_
    refine r_nil ?_
    refine i_then ?_
    refine t_block ?_
    refine t_loop (fun (k : {k : Nat // a.take k = b.take k}) => live [(1, Ty.sl BRowE b), (2, Ty.clo 77 []), (15, Ty.sl BRowE a), (16, Ty.int .i64 a.length), (17, Ty.int .i64 (k.1 : Nat))] []) (fun k => a.length - k.1) (⟨0, by simp⟩) ?_ fun k => ?_
    · (refine Ent.mk' ?_ ?_ <;> (repeat' (first | exact allSub_zero | exact allTags_nil | refine allSub_succ' ?_ (Ty.sub_any _) | refine allSub_succ' ?_ (Ty.sub_refl _))))
    ·
      have hlen : a.length = b.length := by omega
      refine t_seq ?_
      refine t_region ?_
      refine r_bin rfl rfl rfl ?_
      refine r_nil ?_
      refine i_then ?_
      refine t_seq ?_
      refine t_cond_dec rfl (fun hc2 => ?_) (fun hc2 => ?_)
      ·
        try (simp only [Classical.not_not] at hc2)
        refine t_skip ?_
        refine i_then ?_
        refine t_seq ?_
        refine t_block ?_
        refine t_seq ?_
        refine t_region ?_
        refine mvI rfl ?_
        refine r_index_slN rfl rfl rfl rfl rfl rfl (by omega) ?_
        refine r_load_ppN rfl rfl rfl (by exact Nat.le_of_ble_eq_true rfl) ?_
        refine r_alloc rfl (by exact List.cons_ne_nil _ _) rfl ?_
        refine asI rfl ?_
        refine r_storeN rfl rfl (by decide) rfl rfl rfl rfl rfl rfl ?_
        refine r_nil ?_
        refine i_then ?_
        refine t_seq ?_
        refine t_region ?_
        refine mvS rfl ?_
        refine mvI rfl ?_
        refine r_index_slN rfl rfl rfl rfl rfl rfl (by omega) ?_
        refine r_load_ppN rfl rfl rfl (by exact Nat.le_of_ble_eq_true rfl) ?_
        refine r_alloc rfl (by exact List.cons_ne_nil _ _) rfl ?_
        refine r_storeN rfl rfl (by decide) rfl rfl rfl rfl rfl rfl ?_
        refine r_nil ?_
        refine i_then ?_
        refine t_seq ?_
        refine t_region ?_
        refine mvF rfl ?_
        refine r_load_ptrN rfl rfl (by decide) rfl rfl (by exact Nat.le_of_ble_eq_true rfl) ?_
        refine r_load_ptrN rfl rfl (by decide) rfl rfl (by exact Nat.le_of_ble_eq_true rfl) ?_
        refine r_callv rfl (c_same1 (nth a k.1) (nth b k.1)) rfl rfl rfl rfl rfl ?_
        refine r_not rfl ?_
        refine r_nil ?_
        refine i_then ?_
        refine t_cond_ndec rfl (fun hc3 => ?_) (fun hc3 => ?_)
        ·
          try (simp only [Classical.not_not] at hc3)
          refine t_seq ?_
          refine t_region ?_
          refine asB rfl ?_
          refine r_nil ?_
          refine i_then ?_
          refine t_ret ?_
          refine i_block_ret ?_
          refine i_then_ret ?_
          refine i_then_ret ?_
          refine i_block_ret ?_
          refine i_then_ret ?_
          refine i_rp1 rfl rfl ?_
          all_goals skip
          exact ret_eq rfl rfl (congrArg Ty.bool (by rw [eq_comm, decide_eq_false_iff_not]; exact ne_of_nth (k := k.1) (hc3)))
        ·
          try (simp only [Classical.not_not] at hc3)
          refine t_skip ?_
          refine i_block ?_
          refine i_then ?_
          refine t_region ?_
          refine r_add rfl rfl (by omega) (by omega) ?_
          refine mvI rfl ?_
          refine r_nil ?_
          refine i_round (⟨k.1 + 1, by rw [take_nth (by omega), take_nth (by omega), k.2, hc3]⟩) ?_ (by show a.length - (k.1 + 1) < a.length - k.1; omega)
          (refine Ent.mk' ?_ ?_ <;> (repeat' (first | exact allSub_zero | exact allTags_nil | refine allSub_succ' ?_ (Ty.sub_any _) | refine allSub_succ' ?_ (Ty.sub_refl _))))
          all_goals skip
      ·
        try (simp only [Classical.not_not] at hc2)
        refine t_exit ?_
        refine i_then_exit ?_
        refine i_then_exit ?_
        refine i_block_exit rfl ?_
        refine i_then ?_
        refine t_seq ?_
        refine t_region ?_
        refine asB rfl ?_
        refine r_nil ?_
        refine i_then ?_
        refine t_ret ?_
        refine i_rp1 rfl rfl ?_
        all_goals skip
        exact ret_eq rfl rfl (congrArg Ty.bool (by rw [eq_comm, decide_eq_true_eq]; have := k.2; rwa [List.take_of_length_le (by omega), List.take_of_length_le (by omega)] at this))
set_option maxRecDepth 100000 in
theorem c_same (a b : Book) : Ctr Tryz.prog 19 [bokT a, bokT b] (Ty.bool (decide (a = b))) := by
  refine fn_intro Tryz.func19 rfl (by decide) Tryz.ntmps19 (by exact Nat.le_of_ble_eq_true rfl) fun w0 M0 => ?_
  refine t_seq ?_
  refine t_region ?_
  refine r_box_agg rfl ?_
  refine r_box_agg rfl ?_
  refine asB rfl ?_
  refine r_nil ?_
  refine i_then ?_
  refine t_seq ?_
  refine t_region ?_
  refine r_field_pp rfl rfl rfl rfl rfl (by decide) ?_
  refine r_field_pp rfl rfl rfl rfl rfl (by decide) ?_
  refine r_load_pp rfl rfl rfl rfl ?_
  refine r_field_pp rfl rfl rfl rfl rfl (by decide) ?_
  refine r_field_pp rfl rfl rfl rfl rfl (by decide) ?_
  refine r_load_pp rfl rfl rfl rfl ?_
  refine r_call (c_Eq_int _ _) rfl rfl rfl rfl rfl ?_
  refine mvB rfl ?_
  apply r_guard (s := 12) rfl rfl rfl
  · intro hg; apply opT_of; (refine r_field_pp rfl rfl rfl rfl rfl (by decide) ?_); refine r_nil ?_; exact rfl
  · exact rfl
  · exact rfl
  apply r_guard (s := 12) rfl rfl rfl
  · intro hg; apply opT_strip (s := 13) rfl (by (rw [hg]; rfl)); apply opT_of; (refine r_field_pp rfl rfl rfl rfl rfl (by decide) ?_); refine r_nil ?_; exact rfl
  · exact rfl
  · exact rfl
  apply r_guard (s := 12) rfl rfl rfl
  · intro hg; apply opT_strip (s := 14) rfl (by (rw [hg]; rfl)); apply opT_of; (refine r_load_pp rfl rfl rfl rfl ?_); refine r_nil ?_; exact rfl
  · exact rfl
  · exact rfl
  apply r_guard (s := 12) rfl rfl rfl
  · intro hg; apply opT_of; (refine r_field_pp rfl rfl rfl rfl rfl (by decide) ?_); refine r_nil ?_; exact rfl
  · exact rfl
  · exact rfl
  apply r_guard (s := 12) rfl rfl rfl
  · intro hg; apply opT_strip (s := 16) rfl (by (rw [hg]; rfl)); apply opT_of; (refine r_field_pp rfl rfl rfl rfl rfl (by decide) ?_); refine r_nil ?_; exact rfl
  · exact rfl
  · exact rfl
  apply r_guard (s := 12) rfl rfl rfl
  · intro hg; apply opT_strip (s := 17) rfl (by (rw [hg]; rfl)); apply opT_of; (refine r_load_pp rfl rfl rfl rfl ?_); refine r_nil ?_; exact rfl
  · exact rfl
  · exact rfl
  apply r_guard (s := 12) rfl rfl rfl
  · intro hg; apply opT_strip (s := 15) rfl (by (rw [hg]; rfl)); apply opT_strip (s := 18) rfl (by (rw [hg]; rfl)); apply opT_of; (refine r_bin rfl rfl rfl ?_); refine r_nil ?_; exact rfl
  · exact rfl
  · exact rfl
  refine r_and rfl rfl ?_
  refine mvB rfl ?_
  apply r_guard (s := 21) rfl rfl rfl
  · intro hg; apply opT_of; (refine r_field_pp rfl rfl rfl rfl rfl (by decide) ?_); refine r_nil ?_; exact rfl
  · exact rfl
  · exact rfl
  apply r_guard (s := 21) rfl rfl rfl
  · intro hg; apply opT_strip (s := 22) rfl (by (rw [hg]; rfl)); apply opT_of; (refine r_load_pp rfl rfl rfl rfl ?_); refine r_nil ?_; exact rfl
  · exact rfl
  · exact rfl
  apply r_guard (s := 21) rfl rfl rfl
  · intro hg; apply opT_of; (refine r_field_pp rfl rfl rfl rfl rfl (by decide) ?_); refine r_nil ?_; exact rfl
  · exact rfl
  · exact rfl
  apply r_guard (s := 21) rfl rfl rfl
  · intro hg; apply opT_strip (s := 24) rfl (by (rw [hg]; rfl)); apply opT_of; (refine r_load_pp rfl rfl rfl rfl ?_); refine r_nil ?_; exact rfl
  · exact rfl
  · exact rfl
  apply r_guard (s := 21) rfl rfl rfl
  · intro hg; apply opT_strip (s := 23) rfl (by (rw [hg]; rfl)); apply opT_strip (s := 25) rfl (by (rw [hg]; rfl)); apply opT_of; (refine r_call (c_EqualFunc a.rows b.rows) rfl rfl rfl rfl rfl ?_); refine r_nil ?_; exact rfl
  · exact rfl
  · exact rfl
  refine r_and rfl rfl ?_
  refine asB rfl ?_
  refine r_nil ?_
  refine i_then ?_
  refine t_ret ?_
  refine i_rp1 rfl rfl ?_
  all_goals skip
  all_goals exact ret_eq rfl rfl (congrArg Ty.bool (sameB_eq a b))
set_option maxRecDepth 100000 in
theorem c_Two : Ctr Tryz.prog 50 [] (Ty.tup [bokT bTwo, Ty.str (bs tTwo)]) := by
  refine fn_intro Tryz.func50 rfl (by decide) Tryz.ntmps50 (by exact Nat.le_of_ble_eq_true rfl) fun w0 M0 => ?_
  refine t_seq ?_
  refine t_region ?_
  refine r_alloc rfl (by exact List.cons_ne_nil _ _) rfl ?_
  refine asS' rfl ?_
  refine r_nil ?_
  refine i_then ?_
  refine t_seq ?_
  refine t_region ?_
  refine r_buildSlice (E := I64) (xs := [_, _]) rfl rfl rfl rfl rfl (by decide) (by decide) (by repeat (first | exact (Parts.nil : Parts _ _ [] _) | (show Parts _ _ ((_, _) :: _) _; apply Parts.one; (· exact (rfl : _ = Ty.int _ _)); (· exact rfl)))) (by exact rfl) rfl ?_
  refine r_build rfl rfl (by exact List.cons_ne_nil _ _) rfl (by repeat (first | exact (Parts.nil : Parts _ _ [] _) | (show Parts _ _ ((_, _) :: _) _; apply Parts.one; (· first | exact (rfl : _ = Ty.int _ _) | exact (rfl : _ = Ty.sl _ _)); (· exact rfl)))) (by exact (rfl : _ = some [_, _])) ?_
  refine r_buildSlice (E := I64) (xs := [_, _]) rfl rfl rfl rfl rfl (by decide) (by decide) (by repeat (first | exact (Parts.nil : Parts _ _ [] _) | (show Parts _ _ ((_, _) :: _) _; apply Parts.one; (· exact (rfl : _ = Ty.int _ _)); (· exact rfl)))) (by exact rfl) rfl ?_
  refine r_build rfl rfl (by exact List.cons_ne_nil _ _) rfl (by repeat (first | exact (Parts.nil : Parts _ _ [] _) | (show Parts _ _ ((_, _) :: _) _; apply Parts.one; (· exact (rfl : _ = Ty.sl _ _)); (· exact rfl)))) (by exact (rfl : _ = some [_, _])) ?_
  refine r_buildSlice (E := I64) (xs := [_, _]) rfl rfl rfl rfl rfl (by decide) (by decide) (by repeat (first | exact (Parts.nil : Parts _ _ [] _) | (show Parts _ _ ((_, _) :: _) _; apply Parts.one; (· exact (rfl : _ = Ty.int _ _)); (· exact rfl)))) (by exact rfl) rfl ?_
  refine r_build rfl rfl (by exact List.cons_ne_nil _ _) rfl (by repeat (first | exact (Parts.nil : Parts _ _ [] _) | (show Parts _ _ ((_, _) :: _) _; apply Parts.one; (· exact (rfl : _ = Ty.sl _ _)); (· exact rfl)))) (by exact (rfl : _ = some [_, _])) ?_
  refine r_buildSlice (E := I64) (xs := [_, _]) rfl rfl rfl rfl rfl (by decide) (by decide) (by repeat (first | exact (Parts.nil : Parts _ _ [] _) | (show Parts _ _ ((_, _) :: _) _; apply Parts.one; (· exact (rfl : _ = Ty.int _ _)); (· exact rfl)))) (by exact rfl) rfl ?_
  refine r_build rfl rfl (by exact List.cons_ne_nil _ _) rfl (by repeat (first | exact (Parts.nil : Parts _ _ [] _) | (show Parts _ _ ((_, _) :: _) _; apply Parts.one; (· first | exact (rfl : _ = Ty.sl _ _) | exact (rfl : _ = Ty.bool _)); (· exact rfl)))) (by exact (rfl : _ = some [_, _])) ?_
  refine r_buildSlice (E := BRowE) (xs := bTwo.rows) rfl rfl rfl rfl rfl (by decide) (by decide) (by repeat (first | exact (Parts.nil : Parts _ _ [] _) | (show Parts _ _ ((_, _) :: _) _; apply Parts.agg; (· exact (rfl : _ = Ty.agg _))))) (by exact rfl) rfl ?_
  refine r_build rfl rfl (by exact List.cons_ne_nil _ _) rfl (by repeat (first | exact (Parts.nil : Parts _ _ [] _) | (show Parts _ _ ((_, _) :: _) _; apply Parts.one; (· exact (rfl : _ = Ty.sl _ _)); (· exact rfl)) | (show Parts _ _ ((_, _) :: _) _; apply Parts.agg; (· exact (rfl : _ = Ty.agg _))))) (by exact (rfl : _ = some [_, _, _])) ?_
  refine r_storeN rfl rfl (by decide) rfl rfl rfl rfl rfl rfl ?_
  refine asS' rfl ?_
  refine r_nil ?_
  refine i_then ?_
  refine t_ret ?_
  refine i_rcell2 rfl rfl rfl rfl rfl (by decide) rfl rfl rfl ?_ ?_
  all_goals exact ret_refl rfl rfl
  all_goals trace_state
theorem two_rng : ∀ r ∈ bTwo.rows, Rng r.nums := by unfold Rng; decide
theorem c_aw1 : Ctr Tryz.prog 16 [bokT bTwo] (Ty.tup [Ty.str (bs tTwo), Ty.int .i64 0]) := by
  have h := c_Print bTwo two_rng
  rwa [aw1, aw1'] at h
theorem c_aw2 : Ctr Tryz.prog 63 [frmT bTwo.form, Ty.str (bs tTwo1)] (Ty.tup [bokT Book.zero, Ty.int .i64 8, Ty.int .i64 11]) := by
  have h := c_Parse bTwo.form tTwo1 (by decide)
  unfold parT at h
  rwa [aw2] at h
theorem c_aw3 : Ctr Tryz.prog 63 [frmT bTwo.form, Ty.str (bs tTwo2)] (Ty.tup [bokT Book.zero, Ty.int .i64 34, Ty.int .i64 11]) := by
  have h := c_Parse bTwo.form tTwo2 (by decide)
  unfold parT at h
  rwa [aw3] at h
theorem c_aw4 : Ctr Tryz.prog 64 [Ty.str (bs tTwo), Ty.sl I64 [2, 8]] (Ty.tup [Ty.str (bs tTwo3), Ty.int .i64 0]) := by
  have h := c_Tear tTwo [2, 8] (by decide)
  rwa [aw4] at h
theorem c_aw5 : Ctr Tryz.prog 29 [frmT bTwo.form, Ty.str (bs tTwo3)] (Ty.tup [bokT bTwo, Ty.int .i64 0]) := by
  have h := c_Restore bTwo.form tTwo3
  rwa [aw_res] at h
theorem c_aw6 : Ctr Tryz.prog 27 [frmT fOne, Ty.str (bs tOne)] (Ty.tup [Ty.int .i64 10, Ty.int .i64 0]) := by
  have h := c_Count fOne tOne
  rwa [aw_cnt] at h
theorem c_aw7 : Ctr Tryz.prog 28 [frmT fOne, Ty.str (bs tOne)] (Ty.tup [Ty.sl StrE lOne, Ty.int .i64 0]) := by
  have h := c_Fillings fOne tOne
  rwa [aw_fil] at h
theorem c_aw8 : Ctr Tryz.prog 17 [bokT bTwo] (Ty.tup [Ty.sl RowE [[112, 45], [112, 45]], Ty.int .i64 0]) := by
  have h := c_Foots bTwo two_rng
  rwa [aw8, aw1'] at h
set_option maxRecDepth 100000 in
theorem c_awake : Ctr Tryz.prog 10 [] (Ty.bool true) := by
  refine fn_intro Tryz.func10 rfl (by decide) Tryz.ntmps10 (by exact Nat.le_of_ble_eq_true rfl) fun w0 M0 => ?_
  refine t_seq ?_
  refine t_region ?_
  refine asB rfl ?_
  refine r_nil ?_
  refine i_then ?_
  refine t_seq ?_
  refine t_region ?_
  refine r_call (c_Two) rfl rfl rfl rfl rfl ?_
  refine mvT rfl ?_
  refine r_extract rfl rfl ?_
  refine r_extract rfl rfl ?_
  refine r_alloc rfl (by exact List.cons_ne_nil _ _) rfl ?_
  refine r_storeN rfl rfl (by decide) rfl rfl rfl rfl rfl rfl ?_
  refine asS' rfl ?_
  refine r_nil ?_
  refine i_then ?_
  refine t_seq ?_
  refine t_pub (tg := 2) [(1, Ty.pp (bokTys bTwo))] (by decide) rfl ⟨pub_ptr (T := 27) (tg := 2) (off := 0) (l := bokTys bTwo) rfl rfl rfl (by decide), trivial⟩ ?_
  refine t_region ?_
  refine r_load_ppN rfl rfl rfl (by exact Nat.le_of_ble_eq_true rfl) ?_
  refine r_call c_aw1 rfl rfl rfl rfl rfl ?_
  refine mvT rfl ?_
  refine r_extract rfl rfl ?_
  refine r_extract rfl rfl ?_
  refine asS' rfl ?_
  refine asI rfl ?_
  refine r_nil ?_
  refine i_then ?_
  refine t_seq ?_
  refine t_forget (B := live [(1, Ty.pp (bokTys bTwo)), (2, Ty.str (bs tTwo)), (3, Ty.str (bs tTwo)), (4, Ty.int .i64 0)] []) ?_ ?_
  · (refine Ent.mk' ?_ ?_ <;> (repeat' (first | exact allSub_zero | exact allTags_nil | refine allSub_succ' ?_ (Ty.sub_any _) | refine allSub_succ' ?_ (Ty.sub_refl _))))
  refine t_draw mixed rfl ?_
  refine r_field_pp rfl rfl rfl rfl rfl (by decide) ?_
  refine r_load_ppN rfl rfl rfl (by exact Nat.le_of_ble_eq_true rfl) ?_
  refine mvS' rfl ?_
  refine r_cutS_hi (hi := 8) rfl rfl rfl rfl (by decide) ?_
  refine r_catS rfl rfl (by decide) ?_
  refine mvS' rfl ?_
  refine r_cutS_lo (lo := 9) rfl rfl rfl rfl (by decide) ?_
  refine r_catS rfl rfl (by decide) ?_
  refine r_call c_aw2 rfl rfl rfl rfl rfl ?_
  refine mvT rfl ?_
  refine r_extract rfl rfl ?_
  refine r_extract rfl rfl ?_
  refine r_extract rfl rfl ?_
  refine r_alloc rfl (by exact List.cons_ne_nil _ _) rfl ?_
  refine r_storeN rfl rfl (by decide) rfl rfl rfl rfl rfl rfl ?_
  refine asI rfl ?_
  refine asI rfl ?_
  refine r_nil ?_
  refine ⟨by kernel_rfl, ?_⟩
  refine i_then ?_
  refine t_seq ?_
  refine t_forget (B := live [(1, Ty.pp (bokTys bTwo)), (2, Ty.str (bs tTwo)), (3, Ty.str (bs tTwo)), (4, Ty.int .i64 0), (6, Ty.int .i64 8), (7, Ty.int .i64 11)] []) ?_ ?_
  · (refine Ent.mk' ?_ ?_ <;> (repeat' (first | exact allSub_zero | exact allTags_nil | refine allSub_succ' ?_ (Ty.sub_any _) | refine allSub_succ' ?_ (Ty.sub_refl _))))
  refine t_draw mixed rfl ?_
  refine r_field_pp rfl rfl rfl rfl rfl (by decide) ?_
  refine r_load_ppN rfl rfl rfl (by exact Nat.le_of_ble_eq_true rfl) ?_
  refine mvS' rfl ?_
  refine r_cutS_hi (hi := 34) rfl rfl rfl rfl (by decide) ?_
  refine r_call c_aw3 rfl rfl rfl rfl rfl ?_
  refine mvT rfl ?_
  refine r_extract rfl rfl ?_
  refine r_extract rfl rfl ?_
  refine r_extract rfl rfl ?_
  refine r_alloc rfl (by exact List.cons_ne_nil _ _) rfl ?_
  refine r_storeN rfl rfl (by decide) rfl rfl rfl rfl rfl rfl ?_
  refine asI rfl ?_
  refine asI rfl ?_
  refine r_nil ?_
  refine ⟨by kernel_rfl, ?_⟩
  refine i_then ?_
  refine t_seq ?_
  refine t_forget (B := live [(1, Ty.pp (bokTys bTwo)), (2, Ty.str (bs tTwo)), (3, Ty.str (bs tTwo)), (4, Ty.int .i64 0), (6, Ty.int .i64 8), (7, Ty.int .i64 11), (9, Ty.int .i64 34), (10, Ty.int .i64 11)] []) ?_ ?_
  · (refine Ent.mk' ?_ ?_ <;> (repeat' (first | exact allSub_zero | exact allTags_nil | refine allSub_succ' ?_ (Ty.sub_any _) | refine allSub_succ' ?_ (Ty.sub_refl _))))
  refine t_region ?_
  refine mvS' rfl ?_
  refine r_buildSlice (E := I64) (xs := [_, _]) rfl rfl rfl rfl rfl (by decide) (by decide) (by repeat (first | exact (Parts.nil : Parts _ _ [] _) | (show Parts _ _ ((_, _) :: _) _; apply Parts.one; (· exact (rfl : _ = Ty.int _ _)); (· exact rfl)))) (by exact rfl) rfl ?_
  refine r_call c_aw4 rfl rfl rfl rfl rfl ?_
  refine mvT rfl ?_
  refine r_extract rfl rfl ?_
  refine r_extract rfl rfl ?_
  refine asS' rfl ?_
  refine asI rfl ?_
  refine r_nil ?_
  refine i_then ?_
  refine t_seq ?_
  refine t_region ?_
  refine r_field_pp rfl rfl rfl rfl rfl (by decide) ?_
  refine r_load_ppN rfl rfl rfl (by exact Nat.le_of_ble_eq_true rfl) ?_
  refine mvS' rfl ?_
  refine r_call c_aw5 rfl rfl rfl rfl rfl ?_
  refine mvT rfl ?_
  refine r_extract rfl rfl ?_
  refine r_extract rfl rfl ?_
  refine r_alloc rfl (by exact List.cons_ne_nil _ _) rfl ?_
  refine r_storeN rfl rfl (by decide) rfl rfl rfl rfl rfl rfl ?_
  refine asI rfl ?_
  refine r_nil ?_
  refine i_then ?_
  refine t_seq ?_
  refine t_forget (B := live [(1, Ty.pp (bokTys bTwo)), (2, Ty.str (bs tTwo)), (3, Ty.str (bs tTwo)), (4, Ty.int .i64 0), (6, Ty.int .i64 8), (7, Ty.int .i64 11), (9, Ty.int .i64 34), (10, Ty.int .i64 11), (12, Ty.int .i64 0), (13, Ty.ptr 14 0), (14, Ty.int .i64 0)] [(14, Cont.cells 27 (bokTys bTwo))]) ?_ ?_
  · (refine Ent.mk' ?_ ?_ <;> (repeat' (first | exact allSub_zero | exact allTags_nil | refine allSub_succ' ?_ (Ty.sub_any _) | refine allSub_succ' ?_ (Ty.sub_refl _) | refine allTags_cons rfl (Cont.sub_refl _) ?_)))
  refine t_pub (tg := 14) [(13, Ty.pp (bokTys bTwo))] (by decide) rfl ⟨pub_ptr (T := 27) (tg := 14) (off := 0) (l := bokTys bTwo) rfl rfl rfl (by decide), trivial⟩ ?_
  refine t_region ?_
  refine r_buildSlice (E := I64) (xs := [_]) rfl rfl rfl rfl rfl (by decide) (by decide) (by repeat (first | exact (Parts.nil : Parts _ _ [] _) | (show Parts _ _ ((_, _) :: _) _; apply Parts.one; (· exact (rfl : _ = Ty.int _ _)); (· exact rfl)))) (by exact rfl) rfl ?_
  refine r_build rfl rfl (by exact List.cons_ne_nil _ _) rfl (by repeat (first | exact (Parts.nil : Parts _ _ [] _) | (show Parts _ _ ((_, _) :: _) _; apply Parts.one; (· first | exact (rfl : _ = Ty.int _ _) | exact (rfl : _ = Ty.sl _ _)); (· exact rfl)))) (by exact (rfl : _ = some [_, _])) ?_
  refine r_alloc rfl (by exact List.cons_ne_nil _ _) rfl ?_
  refine r_storeN rfl rfl (by decide) rfl rfl rfl rfl rfl rfl ?_
  refine r_nil ?_
  refine i_then ?_
  refine t_seq ?_
  refine t_region ?_
  refine r_load_ptrN rfl rfl (by decide) rfl rfl (by exact Nat.le_of_ble_eq_true rfl) ?_
  refine r_call c_aw6 rfl rfl rfl rfl rfl ?_
  refine mvT rfl ?_
  refine r_extract rfl rfl ?_
  refine r_extract rfl rfl ?_
  refine asI rfl ?_
  refine asI rfl ?_
  refine r_nil ?_
  refine i_then ?_
  refine t_seq ?_
  refine t_region ?_
  refine r_load_ptrN rfl rfl (by decide) rfl rfl (by exact Nat.le_of_ble_eq_true rfl) ?_
  refine r_call c_aw7 rfl rfl rfl rfl rfl ?_
  refine mvT rfl ?_
  refine r_extract rfl rfl ?_
  refine r_extract rfl rfl ?_
  refine asS rfl ?_
  refine asI rfl ?_
  refine r_nil ?_
  refine i_then ?_
  refine t_seq ?_
  refine t_region ?_
  refine r_load_ppN rfl rfl rfl (by exact Nat.le_of_ble_eq_true rfl) ?_
  refine r_call c_aw8 rfl rfl rfl rfl rfl ?_
  refine mvT rfl ?_
  refine r_extract rfl rfl ?_
  refine r_extract rfl rfl ?_
  refine asS rfl ?_
  refine asI rfl ?_
  refine r_nil ?_
  refine i_then ?_
  refine t_seq ?_
  refine t_forget (B := live [(1, Ty.pp (bokTys bTwo)), (2, Ty.str (bs tTwo)), (3, Ty.str (bs tTwo)), (4, Ty.int .i64 0), (6, Ty.int .i64 8), (7, Ty.int .i64 11), (9, Ty.int .i64 34), (10, Ty.int .i64 11), (12, Ty.int .i64 0), (13, Ty.pp (bokTys bTwo)), (14, Ty.int .i64 0), (16, Ty.int .i64 10), (17, Ty.int .i64 0), (18, Ty.sl StrE lOne), (19, Ty.int .i64 0), (20, Ty.sl RowE [[112, 45], [112, 45]]), (21, Ty.int .i64 0)] []) ?_ ?_
  · (refine Ent.mk' ?_ ?_ <;> (repeat' (first | exact allSub_zero | exact allTags_nil | refine allSub_succ' ?_ (Ty.sub_any _) | refine allSub_succ' ?_ (Ty.sub_refl _))))
  refine t_region ?_
  refine mvI rfl ?_
  refine r_bin rfl rfl rfl ?_
  refine mvB rfl ?_
  apply r_guard (s := 85) rfl rfl rfl
  · intro hg; apply opT_of; (refine mvI rfl ?_); refine r_nil ?_; exact rfl
  · exact rfl
  · exact rfl
  apply r_guard (s := 85) rfl rfl rfl
  · intro hg; apply opT_strip (s := 86) rfl (by exact hg); apply opT_of; (refine r_bin rfl rfl rfl ?_); refine r_nil ?_; exact rfl
  · exact rfl
  · exact rfl
  refine r_and rfl rfl ?_
  refine mvB rfl ?_
  apply r_guard (s := 89) rfl rfl rfl
  · intro hg; apply opT_of; (refine mvI rfl ?_); refine r_nil ?_; exact rfl
  · exact rfl
  · exact rfl
  apply r_guard (s := 89) rfl rfl rfl
  · intro hg; apply opT_strip (s := 90) rfl (by exact hg); apply opT_of; (refine r_bin rfl rfl rfl ?_); refine r_nil ?_; exact rfl
  · exact rfl
  · exact rfl
  refine r_and rfl rfl ?_
  refine mvB rfl ?_
  apply r_guard (s := 93) rfl rfl rfl
  · intro hg; apply opT_of; (refine mvI rfl ?_); refine r_nil ?_; exact rfl
  · exact rfl
  · exact rfl
  apply r_guard (s := 93) rfl rfl rfl
  · intro hg; apply opT_strip (s := 94) rfl (by exact hg); apply opT_of; (refine r_bin rfl rfl rfl ?_); refine r_nil ?_; exact rfl
  · exact rfl
  · exact rfl
  refine r_and rfl rfl ?_
  refine mvB rfl ?_
  apply r_guard (s := 97) rfl rfl rfl
  · intro hg; apply opT_of; (refine mvI rfl ?_); refine r_nil ?_; exact rfl
  · exact rfl
  · exact rfl
  apply r_guard (s := 97) rfl rfl rfl
  · intro hg; apply opT_strip (s := 98) rfl (by exact hg); apply opT_of; (refine r_bin rfl rfl rfl ?_); refine r_nil ?_; exact rfl
  · exact rfl
  · exact rfl
  refine r_and rfl rfl ?_
  refine mvB rfl ?_
  apply r_guard (s := 101) rfl rfl rfl
  · intro hg; apply opT_of; (refine mvI rfl ?_); refine r_nil ?_; exact rfl
  · exact rfl
  · exact rfl
  apply r_guard (s := 101) rfl rfl rfl
  · intro hg; apply opT_strip (s := 102) rfl (by exact hg); apply opT_of; (refine r_bin rfl rfl rfl ?_); refine r_nil ?_; exact rfl
  · exact rfl
  · exact rfl
  refine r_and rfl rfl ?_
  refine mvB rfl ?_
  apply r_guard (s := 105) rfl rfl rfl
  · intro hg; apply opT_of; (refine mvI rfl ?_); refine r_nil ?_; exact rfl
  · exact rfl
  · exact rfl
  apply r_guard (s := 105) rfl rfl rfl
  · intro hg; apply opT_strip (s := 106) rfl (by exact hg); apply opT_of; (refine r_bin rfl rfl rfl ?_); refine r_nil ?_; exact rfl
  · exact rfl
  · exact rfl
  refine r_and rfl rfl ?_
  refine mvB rfl ?_
  apply r_guard (s := 109) rfl rfl rfl
  · intro hg; apply opT_of; (refine mvI rfl ?_); refine r_nil ?_; exact rfl
  · exact rfl
  · exact rfl
  apply r_guard (s := 109) rfl rfl rfl
  · intro hg; apply opT_strip (s := 110) rfl (by exact hg); apply opT_of; (refine r_bin rfl rfl rfl ?_); refine r_nil ?_; exact rfl
  · exact rfl
  · exact rfl
  refine r_and rfl rfl ?_
  refine mvB rfl ?_
  apply r_guard (s := 113) rfl rfl rfl
  · intro hg; apply opT_of; (refine mvS' rfl ?_); refine r_nil ?_; exact rfl
  · exact rfl
  · exact rfl
  apply r_guard (s := 113) rfl rfl rfl
  · intro hg; apply opT_of; (refine mvS' rfl ?_); refine r_nil ?_; exact rfl
  · exact rfl
  · exact rfl
  apply r_guard (s := 113) rfl rfl rfl
  · intro hg; apply opT_strip (s := 114) rfl (by exact hg); apply opT_strip (s := 115) rfl (by exact hg); apply opT_of; (refine r_eqlS rfl rfl ?_); refine r_nil ?_; exact rfl
  · exact rfl
  · exact rfl
  refine r_and rfl rfl ?_
  refine mvB rfl ?_
  apply r_guard (s := 118) rfl rfl rfl
  · intro hg; apply opT_of; (refine mvI rfl ?_); refine r_nil ?_; exact rfl
  · exact rfl
  · exact rfl
  apply r_guard (s := 118) rfl rfl rfl
  · intro hg; apply opT_strip (s := 119) rfl (by exact hg); apply opT_of; (refine r_bin rfl rfl rfl ?_); refine r_nil ?_; exact rfl
  · exact rfl
  · exact rfl
  refine r_and rfl rfl ?_
  refine mvB rfl ?_
  apply r_guard (s := 122) rfl rfl rfl
  · intro hg; apply opT_of; (refine mvI rfl ?_); refine r_nil ?_; exact rfl
  · exact rfl
  · exact rfl
  apply r_guard (s := 122) rfl rfl rfl
  · intro hg; apply opT_strip (s := 123) rfl (by exact hg); apply opT_of; (refine r_bin rfl rfl rfl ?_); refine r_nil ?_; exact rfl
  · exact rfl
  · exact rfl
  refine r_and rfl rfl ?_
  refine mvB rfl ?_
  apply r_guard (s := 126) rfl rfl rfl
  · intro hg; apply opT_of; (refine r_load_ppN rfl rfl rfl (by exact Nat.le_of_ble_eq_true rfl) ?_); refine r_nil ?_; exact rfl
  · exact rfl
  · exact rfl
  apply r_guard (s := 126) rfl rfl rfl
  · intro hg; apply opT_of; (refine r_load_ppN rfl rfl rfl (by exact Nat.le_of_ble_eq_true rfl) ?_); refine r_nil ?_; exact rfl
  · exact rfl
  · exact rfl
  apply r_guard (s := 126) rfl rfl rfl
  · intro hg; apply opT_strip (s := 127) rfl (by exact hg); apply opT_strip (s := 128) rfl (by exact hg); apply opT_of; (refine r_call (c_same _ _) rfl rfl rfl rfl rfl ?_); refine r_nil ?_; exact rfl
  · exact rfl
  · exact rfl
  refine r_and rfl rfl ?_
  refine mvB rfl ?_
  apply r_guard (s := 131) rfl rfl rfl
  · intro hg; apply opT_of; (refine mvI rfl ?_); refine r_nil ?_; exact rfl
  · exact rfl
  · exact rfl
  apply r_guard (s := 131) rfl rfl rfl
  · intro hg; apply opT_strip (s := 132) rfl (by exact hg); apply opT_of; (refine r_bin rfl rfl rfl ?_); refine r_nil ?_; exact rfl
  · exact rfl
  · exact rfl
  refine r_and rfl rfl ?_
  refine mvB rfl ?_
  apply r_guard (s := 135) rfl rfl rfl
  · intro hg; apply opT_of; (refine mvS rfl ?_); refine r_nil ?_; exact rfl
  · exact rfl
  · exact rfl
  apply r_guard (s := 135) rfl rfl rfl
  · intro hg; apply opT_of; (refine r_buildSlice (E := StrE) (xs := lOne) rfl rfl rfl rfl rfl (by decide) (by decide) (by repeat (first | exact (Parts.nil : Parts _ _ [] _) | (show Parts _ _ ((_, _) :: _) _; apply Parts.one; (· exact (rfl : _ = Ty.str _)); (· exact rfl)))) (by exact rfl) rfl ?_); refine r_nil ?_; exact rfl
  · exact rfl
  · exact rfl
  apply r_guard (s := 135) rfl rfl rfl
  · intro hg; apply opT_strip (s := 136) rfl (by exact hg); apply opT_strip (s := 137) rfl (by exact hg); apply opT_of; (refine r_call (c_Equal_str _ _) rfl rfl rfl rfl rfl ?_); refine r_nil ?_; exact rfl
  · exact rfl
  · exact rfl
  refine r_and rfl rfl ?_
  refine mvB rfl ?_
  apply r_guard (s := 140) rfl rfl rfl
  · intro hg; apply opT_of; (refine mvS rfl ?_); refine r_nil ?_; exact rfl
  · exact rfl
  · exact rfl
  apply r_guard (s := 140) rfl rfl rfl
  · intro hg; apply opT_of; (refine r_buildSlice (E := I64) (xs := [_, _]) rfl rfl rfl rfl rfl (by decide) (by decide) (by repeat (first | exact (Parts.nil : Parts _ _ [] _) | (show Parts _ _ ((_, _) :: _) _; apply Parts.one; (· exact (rfl : _ = Ty.int _ _)); (· exact rfl)))) (by exact rfl) rfl ?_); refine r_nil ?_; exact rfl
  · exact rfl
  · exact rfl
  apply r_guard (s := 140) rfl rfl rfl
  · intro hg; apply opT_of; (refine r_buildSlice (E := I64) (xs := [_, _]) rfl rfl rfl rfl rfl (by decide) (by decide) (by repeat (first | exact (Parts.nil : Parts _ _ [] _) | (show Parts _ _ ((_, _) :: _) _; apply Parts.one; (· exact (rfl : _ = Ty.int _ _)); (· exact rfl)))) (by exact rfl) rfl ?_); refine r_nil ?_; exact rfl
  · exact rfl
  · exact rfl
  apply r_guard (s := 140) rfl rfl rfl
  · intro hg; apply opT_strip (s := 142) rfl (by exact hg); apply opT_strip (s := 143) rfl (by exact hg); apply opT_of; (refine r_buildSlice (E := RowE) (xs := [[112, 45], [112, 45]]) rfl rfl rfl rfl rfl (by decide) (by decide) (by repeat (first | exact (Parts.nil : Parts _ _ [] _) | (show Parts _ _ ((_, _) :: _) _; apply Parts.one; (· exact (rfl : _ = Ty.sl _ _)); (· exact rfl)))) (by exact rfl) rfl ?_); refine r_nil ?_; exact rfl
  · exact rfl
  · exact rfl
  apply r_guard (s := 140) rfl rfl rfl
  · intro hg; apply opT_strip (s := 141) rfl (by exact hg); apply opT_strip (s := 144) rfl (by exact hg); apply opT_of; (refine r_call (c_EqRows _ _) rfl rfl rfl rfl rfl ?_); refine r_nil ?_; exact rfl
  · exact rfl
  · exact rfl
  refine r_and rfl rfl ?_
  refine asB rfl ?_
  refine r_nil ?_
  refine i_then ?_
  refine t_ret ?_
  refine i_rp1 rfl rfl ?_
  all_goals exact ret_refl rfl rfl
  all_goals trace_state
end Go.Proofs.YtjjndkenddigiaaGreatDoor

namespace Go.Proofs.YtjjndkenddigiaaGreatDoor
open Go Go.T
set_option maxHeartbeats 2000000
attribute [local irreducible] bokY rowY
attribute [local irreducible] dInt dBool dSl dPp dPtr dAgg dTup dClo dAny dEx dStr dGd dCells dVec dVs dRow dOp nth Tri Into TOps Ctr bodyPost Exit.then Exit.inBlock Code.wp Code.wpIn dPa dArr dMp dMap CtrG keepPost iterPost bodyPostM roundQ
end Go.Proofs.YtjjndkenddigiaaGreatDoor

namespace Go.Proofs.YtjjndkenddigiaaGreatDoor
open Go Go.T
set_option maxHeartbeats 2000000
attribute [local irreducible] bokY inB
attribute [local irreducible] dInt dBool dSl dPp dPtr dAgg dTup dClo dAny dEx dStr dGd dCells dVec dVs dRow dOp nth Tri Into TOps Ctr bodyPost Exit.then Exit.inBlock Code.wp Code.wpIn dPa dArr dMp dMap CtrG keepPost iterPost bodyPostM roundQ
end Go.Proofs.YtjjndkenddigiaaGreatDoor

namespace Go.Proofs.YtjjndkenddigiaaGreatDoor
open Go Go.T
set_option maxHeartbeats 2000000

attribute [local irreducible] dInt dBool dSl dPp dPtr dAgg dTup dClo dAny dEx dStr dGd dCells dVec dVs dRow dOp nth Tri Into TOps Ctr bodyPost Exit.then Exit.inBlock Code.wp Code.wpIn dPa dArr dMp dMap CtrG keepPost iterPost bodyPostM roundQ
end Go.Proofs.YtjjndkenddigiaaGreatDoor

namespace Go.Proofs.YtjjndkenddigiaaGreatDoor
open Go Go.T
set_option maxHeartbeats 2000000
attribute [local irreducible] dInt dBool dSl dPp dPtr dAgg dTup dClo dAny dEx dStr dGd dCells dVec dVs dRow dOp nth Tri Into TOps Ctr bodyPost Exit.then Exit.inBlock Code.wp Code.wpIn dPa dArr dMp dMap CtrG keepPost iterPost bodyPostM roundQ
end Go.Proofs.YtjjndkenddigiaaGreatDoor

namespace Go.Proofs.YtjjndkenddigiaaGreatDoor
open Go Go.T
structure Sk where
  grain : List Int
  taken : Int
  mixed : Int
def U8 : El Int := El.mk' 1 (fun n => [Ty.int .u8 n]) (fun _ => rfl) (fun _ => ⟨rfl, rfl, rfl⟩)
def skTys (s : Sk) : List Ty := [Ty.sl U8 s.grain, Ty.int .i64 s.taken, Ty.int .u32 s.mixed]
def mixB (s : Sk) : Int := IntKind.u32.wrap (bits .xor .u32 s.mixed (IntKind.u32.wrap (nth s.grain (s.taken.tmod s.grain.length).toNat)) * 16777619)
def skMix1 (s : Sk) : Sk := if (s.grain.length : Int) > 0 then { s with mixed := mixB s } else s
def skTake (s : Sk) : Sk := { s with taken := s.taken + 1 }
def mixC (s : Sk) : Int := IntKind.u32.wrap (IntKind.u32.wrap (s.mixed * 1664525) + 1013904223)
def skMix2 (s : Sk) : Sk := if s.taken > (s.grain.length : Int) then { s with mixed := mixC s } else s
theorem skMix2_pos {s : Sk} (h : (s.grain.length : Int) < s.taken) : skMix2 s = { s with mixed := mixC s } := if_pos h
theorem skMix2_neg {s : Sk} (h : ¬ (s.grain.length : Int) < s.taken) : skMix2 s = s := if_neg h
def skNext (s : Sk) : Sk := skMix2 (skTake (skMix1 s))
theorem skNext_neg {s : Sk} (h : ¬ ((skMix1 s).grain.length : Int) < (skMix1 s).taken + 1) : (skMix1 s).mixed = (skNext s).mixed := (congrArg Sk.mixed (skMix2_neg (s := skTake (skMix1 s)) h)).symm
def skVal (s : Sk) : Int := IntKind.i64.wrap (bits .and .u32 (bits .xor .u32 s.mixed (s.mixed / 2 ^ (15 : Int).toNat) / 2 ^ (8 : Int).toNat) 65535)
def Sk.Ok (s : Sk) (n : Int) : Prop := 0 ≤ s.taken ∧ s.taken + n ≤ 4611686018427387904
theorem skMix1_pos {s : Sk} (h : (0 : Int) < s.grain.length) : skMix1 s = { s with mixed := mixB s } := if_pos h
theorem skMix1_neg {s : Sk} (h : ¬ (0 : Int) < s.grain.length) : skMix1 s = s := if_neg h
theorem tmod_in {a b : Int} (ha : 0 ≤ a) (hb : 0 < b) : 0 ≤ a.tmod b ∧ a.tmod b < b := by
  rw [Int.tmod_eq_emod_of_nonneg ha]
  exact ⟨Int.emod_nonneg _ (by omega), Int.emod_lt_of_pos _ hb⟩
theorem skMix1_taken (s : Sk) : (skMix1 s).taken = s.taken := by unfold skMix1; split <;> rfl
theorem skMix1_grain (s : Sk) : (skMix1 s).grain = s.grain := by unfold skMix1; split <;> rfl
theorem skMix2_taken (s : Sk) : (skMix2 s).taken = s.taken := by unfold skMix2; split <;> rfl
theorem skMix2_grain (s : Sk) : (skMix2 s).grain = s.grain := by unfold skMix2; split <;> rfl
theorem skNext_taken (s : Sk) : (skNext s).taken = s.taken + 1 := by unfold skNext; rw [skMix2_taken, skTake, skMix1_taken]
theorem bits_and_ffff (a : Int) : 0 ≤ bits .and .u32 a 65535 ∧ bits .and .u32 a 65535 ≤ 65535 := by
  have e : bits .and .u32 a 65535 = IntKind.u32.wrap (((BitVec.ofInt 32 a &&& BitVec.ofInt 32 65535).toNat : Nat) : Int) := rfl
  have h1 : (BitVec.ofInt 32 a &&& BitVec.ofInt 32 65535).toNat ≤ 65535 := by
    rw [BitVec.toNat_and]
    exact Nat.and_le_right
  rw [e]
  generalize (BitVec.ofInt 32 a &&& BitVec.ofInt 32 65535).toNat = n at h1
  have : IntKind.u32.wrap (n : Int) = (n : Int) % 4294967296 := rfl
  rw [this]; omega
theorem skVal_bound (s : Sk) : 0 ≤ skVal s ∧ skVal s ≤ 65535 := by
  have h := bits_and_ffff (bits .xor .u32 s.mixed (s.mixed / 2 ^ (15 : Int).toNat) / 2 ^ (8 : Int).toNat)
  unfold skVal
  rw [IntWalk.i64_in _ (by omega)]; exact h
def skBelow (s : Sk) (n : Int) : Int := (skVal (skNext s)).tmod (max 1 n)
theorem skBelow_bound (s : Sk) (n : Int) : 0 ≤ skBelow s n ∧ skBelow s n < max 1 n ∧ skBelow s n ≤ 65535 := by
  have h := skVal_bound (skNext s)
  unfold skBelow
  have h1 : (skVal (skNext s)).tmod (max 1 n) = skVal (skNext s) % max 1 n := Int.tmod_eq_emod_of_nonneg h.1
  have h2 := Int.emod_lt_of_pos (skVal (skNext s)) (show 0 < max 1 n by omega)
  have h3 := Int.emod_nonneg (skVal (skNext s)) (show max 1 n ≠ 0 by omega)
  have h4 : skVal (skNext s) % max 1 n ≤ skVal (skNext s) := by
    have := Int.mul_ediv_add_emod (skVal (skNext s)) (max 1 n)
    have hq : 0 ≤ skVal (skNext s) / max 1 n := Int.ediv_nonneg h.1 (by omega)
    have : 0 ≤ max 1 n * (skVal (skNext s) / max 1 n) := Int.mul_nonneg (by omega) hq
    omega
  omega
def skAmong (s : Sk) (lo hi : Int) : Int := lo + skBelow s (hi - lo + 1)
def skRare (s : Sk) (n : Int) : Bool := decide (skBelow s n = 0)
def skFill (grain : List Int) : Sk := ⟨grain, 0, bits .xor .u32 2166136261 (IntKind.u32.wrap grain.length)⟩
theorem skFill_ok (g : List Int) : (skFill g).Ok 4000000000000000000 := by unfold skFill Sk.Ok; simp
end Go.Proofs.YtjjndkenddigiaaGreatDoor

namespace Go.Proofs.YtjjndkenddigiaaGreatDoor
open Go Go.T
set_option maxHeartbeats 2000000
attribute [local irreducible] dInt dBool dSl dPp dPtr dAgg dTup dClo dAny dEx dStr dGd dCells dVec dVs dRow dOp nth Tri Into TOps Ctr bodyPost Exit.then Exit.inBlock Code.wp Code.wpIn dPa dArr dMp dMap CtrG keepPost iterPost bodyPostM roundQ
set_option maxRecDepth 100000 in
theorem c_handful (s : Sk) (h : s.Ok 1) : CtrG Tryz.prog 134 [1000] [(1000, Cont.cells 147 (skTys s))] [Ty.ptr 1000 0] [(1000, Cont.cells 147 (skTys (skNext s)))] (Ty.int .i64 (skVal (skNext s))) := by
  refine fnG_intro Tryz.func134 rfl (by decide) Tryz.ntmps134 (by exact Nat.le_of_ble_eq_true rfl) fun w0 M0 => ?_
  have h0 : 0 ≤ s.taken ∧ s.taken + 1 ≤ 4611686018427387904 := h
  refine t_seq ?_
  refine t_region ?_
  refine asI rfl ?_
  refine r_nil ?_
  refine i_then ?_
  refine t_join (J := live [(0, Ty.ptr 1000 0)] [(1000, Cont.cells 147 (skTys (skMix1 s)))]) ?_ ?_
  ·
    refine t_seq ?_
    refine t_region ?_
    refine mvO rfl ?_
    refine r_nilCheck_ptr rfl ?_
    refine r_field_ptr rfl rfl rfl rfl rfl (by decide) ?_
    refine r_load_ptr rfl rfl (by decide) rfl rfl rfl ?_
    refine r_len rfl rfl rfl ?_
    refine asI rfl ?_
    refine r_nil ?_
    refine i_then ?_
    refine t_seq ?_
    refine t_region ?_
    refine mvI rfl ?_
    refine r_bin rfl rfl rfl ?_
    refine r_nil ?_
    refine i_then ?_
    refine t_cond_dec rfl (fun hc1 => ?_) (fun hc1 => ?_)
    ·
      have hm := tmod_in (a := s.taken) (b := s.grain.length) h0.1 (by omega)
      refine t_draw mixed rfl ?_
      refine mvO rfl ?_
      refine mvO rfl ?_
      refine r_nilCheck_ptr rfl ?_
      refine r_field_ptr rfl rfl rfl rfl rfl (by decide) ?_
      refine r_load_ptr rfl rfl (by decide) rfl rfl rfl ?_
      refine mvO rfl ?_
      refine r_nilCheck_ptr rfl ?_
      refine r_field_ptr rfl rfl rfl rfl rfl (by decide) ?_
      refine r_load_ptr rfl rfl (by decide) rfl rfl rfl ?_
      refine mvO rfl ?_
      refine r_nilCheck_ptr rfl ?_
      refine r_field_ptr rfl rfl rfl rfl rfl (by decide) ?_
      refine r_load_ptr rfl rfl (by decide) rfl rfl rfl ?_
      refine mvI rfl ?_
      refine r_rem rfl rfl (by omega) ?_
      refine r_index_sl rfl rfl rfl rfl rfl rfl (by omega) (by omega) ?_
      refine r_load_pp rfl rfl rfl rfl ?_
      refine r_conv rfl rfl rfl rfl ?_
      refine r_bin rfl rfl rfl ?_
      refine r_bin rfl rfl rfl ?_
      refine r_nilCheck_ptr rfl ?_
      refine r_field_ptr rfl rfl rfl rfl rfl (by decide) ?_
      refine r_store1 rfl rfl (by decide) rfl rfl (by exact (rfl : _ = Ty.int _ _)) rfl (by exact Nat.le_of_ble_eq_true rfl) rfl rfl (by exact rfl) ?_
      refine r_nil ?_
      refine ⟨by kernel_rfl, ?_⟩
      refine i_join ?_
      (refine Ent.mk' ?_ ?_ <;> (repeat' (first | exact allSub_zero | exact allTags_nil | exact subs_nil | refine allSub_succ' ?_ (Ty.sub_any _) | refine allSub_succ' ?_ (Ty.sub_refl _) | refine allTags_cons rfl (Cont.sub_subs ?_) ?_ | refine subs_cons ?_ ?_)))
      all_goals first | exact Ty.sub_int (congrArg Sk.mixed (skMix1_pos hc1).symm) | exact Ty.sub_int (skMix1_taken s).symm | exact Ty.sub_sl (skMix1_grain s).symm
    ·
      refine t_skip ?_
      refine i_join ?_
      (refine Ent.mk' ?_ ?_ <;> (repeat' (first | exact allSub_zero | exact allTags_nil | exact subs_nil | refine allSub_succ' ?_ (Ty.sub_any _) | refine allSub_succ' ?_ (Ty.sub_refl _) | refine allTags_cons rfl (Cont.sub_subs ?_) ?_ | refine subs_cons ?_ ?_)))
      all_goals first | exact Ty.sub_int (congrArg Sk.mixed (skMix1_neg hc1).symm) | exact Ty.sub_int (skMix1_taken s).symm | exact Ty.sub_sl (skMix1_grain s).symm
  ·
    refine t_seq ?_
    have h1 := skMix1_taken s
    refine t_region ?_
    refine mvO rfl ?_
    refine r_nilCheck_ptr rfl ?_
    refine r_field_ptr rfl rfl rfl rfl rfl (by decide) ?_
    refine r_load_ptr rfl rfl (by decide) rfl rfl rfl ?_
    refine r_add rfl rfl (by omega) (by omega) ?_
    refine r_nilCheck_ptr rfl ?_
    refine r_field_ptr rfl rfl rfl rfl rfl (by decide) ?_
    refine r_store1 rfl rfl (by decide) rfl rfl (by exact (rfl : _ = Ty.int _ _)) rfl (by exact Nat.le_of_ble_eq_true rfl) rfl rfl (by exact rfl) ?_
    refine r_nil ?_
    refine i_then ?_
    refine t_join (J := live [(0, Ty.ptr 1000 0)] [(1000, Cont.cells 147 (skTys (skNext s)))]) ?_ ?_
    ·
      refine t_seq ?_
      refine t_draw mixed rfl ?_
      refine mvO rfl ?_
      refine r_nilCheck_ptr rfl ?_
      refine r_field_ptr rfl rfl rfl rfl rfl (by decide) ?_
      refine r_load_ptr rfl rfl (by decide) rfl rfl rfl ?_
      refine mvO rfl ?_
      refine r_nilCheck_ptr rfl ?_
      refine r_field_ptr rfl rfl rfl rfl rfl (by decide) ?_
      refine r_load_ptr rfl rfl (by decide) rfl rfl rfl ?_
      refine r_len rfl rfl rfl ?_
      refine r_bin rfl rfl rfl ?_
      refine r_nil ?_
      refine ⟨by kernel_rfl, ?_⟩
      refine i_then ?_
      refine t_cond_dec rfl (fun hc2 => ?_) (fun hc2 => ?_)
      ·
        refine t_region ?_
        refine mvO rfl ?_
        refine mvO rfl ?_
        refine r_nilCheck_ptr rfl ?_
        refine r_field_ptr rfl rfl rfl rfl rfl (by decide) ?_
        refine r_load_ptr rfl rfl (by decide) rfl rfl rfl ?_
        refine r_bin rfl rfl rfl ?_
        refine r_bin rfl rfl rfl ?_
        refine r_nilCheck_ptr rfl ?_
        refine r_field_ptr rfl rfl rfl rfl rfl (by decide) ?_
        refine r_store1 rfl rfl (by decide) rfl rfl (by exact (rfl : _ = Ty.int _ _)) rfl (by exact Nat.le_of_ble_eq_true rfl) rfl rfl (by exact rfl) ?_
        refine r_nil ?_
        refine i_join ?_
        (refine Ent.mk' ?_ ?_ <;> (repeat' (first | exact allSub_zero | exact allTags_nil | exact subs_nil | refine allSub_succ' ?_ (Ty.sub_any _) | refine allSub_succ' ?_ (Ty.sub_refl _) | refine allTags_cons rfl (Cont.sub_subs ?_) ?_ | refine subs_cons ?_ ?_)))
        all_goals first | exact Ty.sub_int (congrArg Sk.mixed (skMix2_pos (s := skTake (skMix1 s)) hc2).symm) | exact Ty.sub_int (skMix2_taken (skTake (skMix1 s))).symm | exact Ty.sub_sl (skMix2_grain (skTake (skMix1 s))).symm
      ·
        refine t_skip ?_
        refine i_join ?_
        (refine Ent.mk' ?_ ?_ <;> (repeat' (first | exact allSub_zero | exact allTags_nil | exact subs_nil | refine allSub_succ' ?_ (Ty.sub_any _) | refine allSub_succ' ?_ (Ty.sub_refl _) | refine allTags_cons rfl (Cont.sub_subs ?_) ?_ | refine subs_cons ?_ ?_)))
        all_goals first | exact Ty.sub_int (skNext_neg hc2) | exact Ty.sub_int (skMix2_taken (skTake (skMix1 s))).symm | exact Ty.sub_sl (skMix2_grain (skTake (skMix1 s))).symm
    ·
      refine t_seq ?_
      refine t_draw mixed rfl ?_
      refine mvO rfl ?_
      refine r_nilCheck_ptr rfl ?_
      refine r_field_ptr rfl rfl rfl rfl rfl (by decide) ?_
      refine r_load_ptr rfl rfl (by decide) rfl rfl rfl ?_
      refine mvO rfl ?_
      refine r_nilCheck_ptr rfl ?_
      refine r_field_ptr rfl rfl rfl rfl rfl (by decide) ?_
      refine r_load_ptr rfl rfl (by decide) rfl rfl rfl ?_
      refine r_shr rfl rfl (by omega) (by decide) ?_
      refine r_bin rfl rfl rfl ?_
      refine r_shr rfl rfl (by omega) (by decide) ?_
      refine r_bin rfl rfl rfl ?_
      refine r_conv rfl rfl rfl rfl ?_
      refine asI rfl ?_
      refine r_nil ?_
      refine ⟨by kernel_rfl, ?_⟩
      refine i_then ?_
      refine t_ret ?_
      refine g_ret1 [1000] rfl rfl (by decide) (by repeat (first | exact rc_nil | refine rc_cons rfl (cc_cells_eq (by decide) rfl rfl rfl) ?_)) ?_
      all_goals exact rg_cv (cv_pub rfl rfl)
      all_goals exact rg_cv (cv_eq rfl rfl rfl)
set_option maxRecDepth 100000 in
theorem c_Below (s : Sk) (h : s.Ok 1) (n : Int) : CtrG Tryz.prog 98 [1000] [(1000, Cont.cells 147 (skTys s))] [Ty.ptr 1000 0, Ty.int .i64 n] [(1000, Cont.cells 147 (skTys (skNext s)))] (Ty.int .i64 (skBelow s n)) := by
  refine fnG_intro Tryz.func98 rfl (by decide) Tryz.ntmps98 (by exact Nat.le_of_ble_eq_true rfl) fun w0 M0 => ?_
  refine t_seq ?_
  refine t_region ?_
  refine asI rfl ?_
  refine r_nil ?_
  refine i_then ?_
  refine t_seq ?_
  refine t_region ?_
  refine mvO rfl ?_
  refine r_callG [(1000, 1000)] [] [(1000, Cont.cells 147 (skTys (skNext s)))] (c_handful s h) rfl rfl (by repeat (first | exact cv_nil | refine cv_cons ?_ ?_ | exact cv_ptr List.mem_cons_self)) (pre_cons (a := 1000) (b := 1000) (by exact List.mem_cons_self) rfl (cc_cells_eq (by exact List.mem_cons_self) rfl rfl rfl) pre_nil) (post_cons (a := 1000) (b := 1000) (by exact List.mem_cons_self) rfl (cc_cells_eq (by exact List.mem_cons_self) rfl rfl rfl) post_nil) (cv_pub rfl rfl) ?_
  refine mvI rfl ?_
  refine r_max rfl rfl ?_
  refine r_rem rfl rfl (by omega) ?_
  refine asI rfl ?_
  refine r_nil ?_
  refine i_then ?_
  refine t_ret ?_
  refine g_ret1 [1000] rfl rfl (by decide) (by repeat (first | exact rc_nil | refine rc_cons rfl (cc_cells_eq (by decide) rfl rfl rfl) ?_)) ?_
  all_goals exact rg_cv (cv_pub rfl rfl)
set_option maxRecDepth 100000 in
theorem c_Among (s : Sk) (h : s.Ok 1) (lo hi : Int) (hlo : -1000000 ≤ lo ∧ lo ≤ 1000000) (hhi : -1000000 ≤ hi ∧ hi ≤ 1000000) : CtrG Tryz.prog 97 [1000] [(1000, Cont.cells 147 (skTys s))] [Ty.ptr 1000 0, Ty.int .i64 lo, Ty.int .i64 hi] [(1000, Cont.cells 147 (skTys (skNext s)))] (Ty.int .i64 (skAmong s lo hi)) := by
  refine fnG_intro Tryz.func97 rfl (by decide) Tryz.ntmps97 (by exact Nat.le_of_ble_eq_true rfl) fun w0 M0 => ?_
  have hb := skBelow_bound s (hi - lo + 1)
  refine t_seq ?_
  refine t_region ?_
  refine asI rfl ?_
  refine r_nil ?_
  refine i_then ?_
  refine t_seq ?_
  refine t_region ?_
  refine mvI rfl ?_
  refine mvO rfl ?_
  refine mvI rfl ?_
  refine mvI rfl ?_
  refine r_sub rfl rfl (by omega) (by omega) ?_
  refine r_add rfl rfl (by omega) (by omega) ?_
  refine r_callG [(1000, 1000)] [] [(1000, Cont.cells 147 (skTys (skNext s)))] (c_Below s h _) rfl rfl (by repeat (first | exact cv_nil | refine cv_cons ?_ ?_ | exact cv_ptr List.mem_cons_self | exact cv_pub rfl rfl)) (pre_cons (a := 1000) (b := 1000) (by exact List.mem_cons_self) rfl (cc_cells_eq (by exact List.mem_cons_self) rfl rfl rfl) pre_nil) (post_cons (a := 1000) (b := 1000) (by exact List.mem_cons_self) rfl (cc_cells_eq (by exact List.mem_cons_self) rfl rfl rfl) post_nil) (cv_pub rfl rfl) ?_
  refine r_add rfl rfl (by omega) (by omega) ?_
  refine asI rfl ?_
  refine r_nil ?_
  refine i_then ?_
  refine t_ret ?_
  refine g_ret1 [1000] rfl rfl (by decide) (by repeat (first | exact rc_nil | refine rc_cons rfl (cc_cells_eq (by decide) rfl rfl rfl) ?_)) ?_
  all_goals exact rg_cv (cv_pub rfl rfl)
set_option maxRecDepth 100000 in
theorem c_Rare (s : Sk) (h : s.Ok 1) (n : Int) : CtrG Tryz.prog 99 [1000] [(1000, Cont.cells 147 (skTys s))] [Ty.ptr 1000 0, Ty.int .i64 n] [(1000, Cont.cells 147 (skTys (skNext s)))] (Ty.bool (skRare s n)) := by
  refine fnG_intro Tryz.func99 rfl (by decide) Tryz.ntmps99 (by exact Nat.le_of_ble_eq_true rfl) fun w0 M0 => ?_
  refine t_seq ?_
  refine t_region ?_
  refine asB rfl ?_
  refine r_nil ?_
  refine i_then ?_
  refine t_seq ?_
  refine t_region ?_
  refine mvO rfl ?_
  refine mvI rfl ?_
  refine r_callG [(1000, 1000)] [] [(1000, Cont.cells 147 (skTys (skNext s)))] (c_Below s h n) rfl rfl (by repeat (first | exact cv_nil | refine cv_cons ?_ ?_ | exact cv_ptr List.mem_cons_self | exact cv_pub rfl rfl)) (pre_cons (a := 1000) (b := 1000) (by exact List.mem_cons_self) rfl (cc_cells_eq (by exact List.mem_cons_self) rfl rfl rfl) pre_nil) (post_cons (a := 1000) (b := 1000) (by exact List.mem_cons_self) rfl (cc_cells_eq (by exact List.mem_cons_self) rfl rfl rfl) post_nil) (cv_pub rfl rfl) ?_
  refine r_bin rfl rfl rfl ?_
  refine asB rfl ?_
  refine r_nil ?_
  refine i_then ?_
  refine t_ret ?_
  refine g_ret1 [1000] rfl rfl (by decide) (by repeat (first | exact rc_nil | refine rc_cons rfl (cc_cells_eq (by decide) rfl rfl rfl) ?_)) ?_
  all_goals exact rg_cv (cv_pub rfl rfl)
set_option maxRecDepth 100000 in
theorem c_Fill (g : List Int) : CtrG Tryz.prog 45 [] [] [Ty.sl U8 g] [(10, Cont.cells 147 (skTys (skFill g)))] (Ty.ptr 10 0) := by
  refine fnG_intro Tryz.func45 rfl (by decide) Tryz.ntmps45 (by exact Nat.le_of_ble_eq_true rfl) fun w0 M0 => ?_
  refine t_seq ?_
  refine t_region ?_
  refine asX rfl ?_
  refine r_nil ?_
  refine i_then ?_
  refine t_seq ?_
  skip
  refine t_region ?_
  refine mvS rfl ?_
  refine mvS rfl ?_
  refine r_len rfl rfl rfl ?_
  refine r_conv rfl rfl rfl rfl ?_
  refine r_bin rfl rfl rfl ?_
  refine r_build rfl rfl (by exact List.cons_ne_nil _ _) rfl (by repeat (first | exact (Parts.nil : Parts _ _ [] _) | (show Parts _ _ ((_, _) :: _) _; apply Parts.one; (· first | exact (rfl : _ = Ty.int _ _) | exact (rfl : _ = Ty.sl _ _)); (· exact rfl)))) (by exact (rfl : _ = some [_, _, _])) ?_
  refine r_box_own rfl rfl rfl ?_
  refine asO rfl ?_
  refine r_nil ?_
  refine i_then ?_
  refine t_ret ?_
  refine g_ret1 [10] rfl rfl (by decide) (by repeat (first | exact rc_nil | refine rc_cons rfl (cc_cells_eq (by decide) rfl rfl rfl) ?_)) ?_
  all_goals skip
  exact rg_cv (cv_ptr (by exact List.mem_cons_self))
end Go.Proofs.YtjjndkenddigiaaGreatDoor

namespace Go.Proofs.YtjjndkenddigiaaGreatDoor
open Go Go.T
def skN (s : Sk) : Nat → Sk
  | 0 => s
  | k + 1 => skNext (skN s k)
theorem skN_succ (s : Sk) (k : Nat) : skN s (k + 1) = skNext (skN s k) := rfl
theorem skN_add (s : Sk) (a : Nat) : ∀ b, skN (skN s a) b = skN s (a + b)
  | 0 => rfl
  | b + 1 => by rw [skN_succ, skN_add s a b]; rfl
theorem skN_taken (s : Sk) : ∀ k, (skN s k).taken = s.taken + k
  | 0 => by simp [skN]
  | k + 1 => by rw [skN_succ, skNext_taken, skN_taken s k]; omega
theorem skN_ok {s : Sk} {n : Int} {k : Nat} {m : Int} (h : s.Ok n) (hk : (k : Int) + m ≤ n) : (skN s k).Ok m := by
  have := skN_taken s k
  unfold Sk.Ok at *
  omega
def entV (f : BForm) (s : Sk) (k : Nat) : Int := skBelow (skN s (1 + 2 * k + 1)) (skAmong (skN s (1 + 2 * k)) 1 (ten (nth f.widths k)))
def entN (f : BForm) (s : Sk) (k : Nat) : List Int := (List.range k).map (entV f s)
def entR (f : BForm) (s : Sk) : BRow := ⟨entN f s f.widths.length, skRare s 5⟩
theorem entN_succ (f : BForm) (s : Sk) (k : Nat) : entN f s (k + 1) = entN f s k ++ [entV f s k] := by unfold entN; rw [List.range_succ, List.map_append]; rfl
theorem entN_len (f : BForm) (s : Sk) (k : Nat) : (entN f s k).length = k := by simp [entN]
def stp (f : BForm) : Nat := 1 + 2 * f.widths.length
def mdW (s : Sk) (k : Nat) : List Int := (List.range k).map fun i => skAmong (skN s (2 + i)) 1 4
theorem mdW_succ (s : Sk) (k : Nat) : mdW s (k + 1) = mdW s k ++ [skAmong (skN s (2 + k)) 1 4] := by unfold mdW; rw [List.range_succ, List.map_append]; rfl
theorem mdW_len (s : Sk) (k : Nat) : (mdW s k).length = k := by simp [mdW]
def mdC (s : Sk) : Nat := (skAmong (skN s 1) 1 4).toNat
def mdF (s : Sk) : BForm := ⟨mdW s (mdC s), skAmong s 1 6⟩
def mdS (s : Sk) (k : Nat) : Sk := skN s (2 + mdC s + 1 + k * stp (mdF s))
def mdR (s : Sk) (k : Nat) : List BRow := (List.range k).map fun j => entR (mdF s) (mdS s j)
theorem mdR_succ (s : Sk) (k : Nat) : mdR s (k + 1) = mdR s k ++ [entR (mdF s) (mdS s k)] := by unfold mdR; rw [List.range_succ, List.map_append]; rfl
theorem mdR_len (s : Sk) (k : Nat) : (mdR s k).length = k := by simp [mdR]
def mdN (s : Sk) (n : Int) : Nat := (skBelow (skN s (2 + mdC s)) (n + 1)).toNat
def mdB (s : Sk) (n : Int) : Book := ⟨mdF s, mdR s (mdN s n)⟩
theorem mdS_succ (s : Sk) (k : Nat) : skN (mdS s k) (stp (mdF s)) = mdS s (k + 1) := by
  unfold mdS
  rw [skN_add, Nat.succ_mul, Nat.add_assoc]
theorem among_bnd (s : Sk) {lo hi : Int} (h : lo ≤ hi) : lo ≤ skAmong s lo hi ∧ skAmong s lo hi ≤ hi := by
  have := skBelow_bound s (hi - lo + 1)
  unfold skAmong; omega
theorem mdC_bnd (s : Sk) : 1 ≤ mdC s ∧ mdC s ≤ 4 := by
  have := among_bnd (skN s 1) (lo := 1) (hi := 4) (by omega)
  unfold mdC; omega
theorem mdC_int (s : Sk) : ((mdC s : Nat) : Int) = skAmong (skN s 1) 1 4 := by
  have := among_bnd (skN s 1) (lo := 1) (hi := 4) (by omega)
  unfold mdC; omega
theorem mdN_bnd (s : Sk) {n : Int} (h : 0 ≤ n) : (mdN s n : Int) ≤ n := by
  have := skBelow_bound (skN s (2 + mdC s)) (n + 1)
  unfold mdN; omega
theorem mdN_int (s : Sk) (n : Int) : ((mdN s n : Nat) : Int) = skBelow (skN s (2 + mdC s)) (n + 1) := by
  have := skBelow_bound (skN s (2 + mdC s)) (n + 1)
  unfold mdN; omega
theorem mdF_wid (s : Sk) : (mdF s).widths.length = mdC s := mdW_len s _
theorem mdF_ok (s : Sk) : FormOk (mdF s) := by
  have h := mdC_bnd s
  have hl := among_bnd s (lo := 1) (hi := 6) (by omega)
  refine ⟨by rw [mdF_wid]; omega, by rw [mdF_wid]; omega, fun x hx => ?_, hl.1, hl.2⟩
  obtain ⟨i, _, rfl⟩ := List.mem_map.1 (show x ∈ (List.range (mdC s)).map _ from hx)
  exact among_bnd _ (by omega)
theorem nth_range {α : Type} [Inhabited α] {g : Nat → α} {n k : Nat} (h : k < n) : nth ((List.range n).map g) k = g k := by simp [nth, h]
theorem entR_ok {f : BForm} (hf : FormOk f) (s : Sk) : RowOk f (entR f s) := by
  refine ⟨entN_len f s _, fun c hc => ?_⟩
  show 0 ≤ nth (entN f s f.widths.length) c ∧ nth (entN f s f.widths.length) c < _
  have hw := nth_wid hf hc
  have ht := ten_pos (nth f.widths c)
  unfold entN
  rw [nth_range hc]
  have h1 := among_bnd (skN s (1 + 2 * c)) (lo := 1) (hi := ten (nth f.widths c)) (by omega)
  have h2 := skBelow_bound (skN s (1 + 2 * c + 1)) (skAmong (skN s (1 + 2 * c)) 1 (ten (nth f.widths c)))
  unfold entV; omega
theorem mdB_ok (s : Sk) {n : Int} (h : 0 ≤ n ∧ n ≤ 12) : BookOk (mdB s n) := by
  refine ⟨mdF_ok s, ?_, fun r hr => ?_⟩
  · show (mdR s (mdN s n)).length ≤ 12
    rw [mdR_len]
    have := mdN_bnd s h.1; omega
  · obtain ⟨j, _, rfl⟩ := List.mem_map.1 (show r ∈ (List.range (mdN s n)).map _ from hr)
    exact entR_ok (mdF_ok s) _
end Go.Proofs.YtjjndkenddigiaaGreatDoor
