/- Lemmas: the program and the reference walked, plain laws. -/
import Derived.Test.YtifgbnbkimcchaaWc
namespace Go.Proofs.Ytifgbnbkimcchaa
open Go Go.T
set_option maxHeartbeats 2000000
attribute [local irreducible] dInt dBool dSl dPp dPtr dAgg dTup dClo dAny dEx dStr dGd dCells dVec dVs dRow dOp nth Tri Into TOps Ctr bodyPost Exit.then Exit.inBlock Code.wp Code.wpIn dWhen dPa dPe dAo dArr dMp dPm dMap dCJ CtrG CtrI OpY keepPost iterPost bodyPostM roundQ
end Go.Proofs.Ytifgbnbkimcchaa

namespace Go.Proofs.Ytifgbnbkimcchaa
open Go Go.T
theorem nodup_not {l : List Int} (h : l.Nodup) {i : Nat} (hi : i < l.length) : nth l i ∉ l.take i := by
  have h1 : (l.take (i + 1)).Nodup := h.sublist (List.take_sublist _ _)
  rw [take_nth hi, List.nodup_append] at h1
  exact fun hx => h1.2.2 _ hx _ (List.mem_singleton.2 rfl) rfl
theorem nodup_few {l : List Int} {n : Nat} (hn : n ≤ 8) (h : l.Nodup) (hr : ∀ x ∈ l, 0 ≤ x ∧ x < (n : Int)) : l.length ≤ n := by
  have h1 := (pop_setOf hn hr l.length (Nat.le_refl _)).2.2 fun i hi => nodup_not h hi
  have h2 := setOf_lt hr l.length (Nat.le_refl _)
  have := List.all_eq_true.1 (List.all_eq_true.1 pop_lt_all n (List.mem_range.2 (by omega))) _ (List.mem_range.2 h2)
  rw [Nat.ble_eq, h1] at this; exact this
structure Bfs (f : Flr) (b : Int) (i : Nat) (met : List Int) : Prop where
  has : b ∈ met
  nodup : met.Nodup
  rng : ∀ x ∈ met, 0 ≤ x ∧ x < (f.turnings.length : Int)
  sound : ∀ x ∈ met, x = b ∨ Lead f.rules x b
  closed : ∀ j, j < i → ∀ r ∈ f.rules, r.nxt = nth met j → r.fst ∈ met
  le : i ≤ met.length
theorem bfs_start {f : Flr} {b : Int} (hb : 0 ≤ b ∧ b < f.turnings.length) : Bfs f b 0 [b] :=
  ⟨by simp, by simp, fun x hx => by rw [List.mem_singleton.1 hx]; exact hb, fun x hx => .inl (List.mem_singleton.1 hx), fun j hj => by omega, by simp⟩
structure BfsIn (f : Flr) (b : Int) (i : Nat) (k : Nat) (met : List Int) : Prop where
  bfs : Bfs f b i met
  lt : i < met.length
  done : ∀ r ∈ f.rules.take k, r.nxt = nth met i → r.fst ∈ met
theorem bfs_in {f : Flr} {b : Int} {i : Nat} {met : List Int} (h : Bfs f b i met) (hi : i < met.length) : BfsIn f b i 0 met := ⟨h, hi, fun r hr => by simp at hr⟩
theorem nth_app {l : List Int} {x : Int} {j : Nat} (h : j < l.length) : nth (l ++ [x]) j = nth l j := by
  rw [nth_lt (by simp; omega), nth_lt h, List.getElem_append_left h]
theorem bfsIn_add {f : Flr} (hru : f.Ruled) {b : Int} {i k : Nat} {met : List Int} (h : BfsIn f b i k met) (hk : k < f.rules.length) (h1 : (nth f.rules k).nxt = nth met i) (h2 : (nth f.rules k).fst ∉ met) : BfsIn f b i (k + 1) (met ++ [(nth f.rules k).fst]) := by
  have hm := nth_mem (xs := f.rules) hk
  have hr := (hru.2 _ hm).1
  have hl : (nth f.rules k).fst = b ∨ Lead f.rules (nth f.rules k).fst b := by
    have h3 : Lead f.rules (nth f.rules k).fst (nth met i) := by rw [← h1]; exact .one hm
    rcases h.bfs.sound _ (nth_mem h.lt) with h4 | h4
    · rw [h4] at h3; exact .inr h3
    · exact .inr (Lead.trans h3 h4)
  refine ⟨⟨List.mem_append_left _ h.bfs.has, ?_, fun x hx => ?_, fun x hx => ?_, fun j hj r hr' hn => ?_, by simp; have := h.lt; omega⟩, by simp; have := h.lt; omega, fun r hr' hn => ?_⟩
  · rw [List.nodup_append]
    refine ⟨h.bfs.nodup, by simp, fun x hx y hy => ?_⟩
    rw [List.mem_singleton.1 hy]; rintro rfl; exact h2 hx
  · rcases List.mem_append.1 hx with hx | hx
    · exact h.bfs.rng x hx
    · rw [List.mem_singleton.1 hx]; exact hr
  · rcases List.mem_append.1 hx with hx | hx
    · exact h.bfs.sound x hx
    · rw [List.mem_singleton.1 hx]; exact hl
  · rw [nth_app (by have := h.lt; omega)] at hn
    exact List.mem_append_left _ (h.bfs.closed j hj r hr' hn)
  · rw [nth_app h.lt] at hn
    rw [take_nth hk] at hr'
    rcases List.mem_append.1 hr' with hx | hx
    · exact List.mem_append_left _ (h.done r hx hn)
    · rw [List.mem_singleton.1 hx]; simp
theorem bfsIn_skip {f : Flr} {b : Int} {i k : Nat} {met : List Int} (h : BfsIn f b i k met) (hk : k < f.rules.length) (h1 : (nth f.rules k).nxt = nth met i → (nth f.rules k).fst ∈ met) : BfsIn f b i (k + 1) met := by
  refine ⟨h.bfs, h.lt, fun r hr' hn => ?_⟩
  rw [take_nth hk] at hr'
  rcases List.mem_append.1 hr' with hx | hx
  · exact h.done r hx hn
  · rw [List.mem_singleton.1 hx] at hn ⊢; exact h1 hn
def bfsT (f : Flr) (i k : Nat) (met : List Int) : List Int := if (decide ((nth f.rules k).nxt = nth met i) && !decide ((nth f.rules k).fst ∈ met)) = true then met ++ [(nth f.rules k).fst] else met
theorem bfsIn_step {f : Flr} (hru : f.Ruled) {b : Int} {i k : Nat} {met : List Int} (h : BfsIn f b i k met) (hk : k < f.rules.length) : BfsIn f b i (k + 1) (bfsT f i k met) := by
  unfold bfsT
  split
  · rename_i hc
    simp only [Bool.and_eq_true, decide_eq_true_eq, Bool.not_eq_true', decide_eq_false_iff_not] at hc
    exact bfsIn_add hru h hk hc.1 hc.2
  · rename_i hc
    simp only [Bool.and_eq_true, decide_eq_true_eq, Bool.not_eq_true', decide_eq_false_iff_not, not_and, Classical.not_not] at hc
    exact bfsIn_skip h hk hc
theorem bfs_next {f : Flr} {b : Int} {i k : Nat} {met : List Int} (h : BfsIn f b i k met) (hk : f.rules.length ≤ k) : Bfs f b (i + 1) met := by
  refine ⟨h.bfs.has, h.bfs.nodup, h.bfs.rng, h.bfs.sound, fun j hj r hr hn => ?_, by have := h.lt; omega⟩
  rcases Nat.lt_or_ge j i with hx | hx
  · exact h.bfs.closed j hx r hr hn
  · have e : j = i := by omega
    rw [e] at hn
    exact h.done r (by rw [List.take_of_length_le hk]; exact hr) hn
theorem closed_lead {f : Flr} {met : List Int} (hcl : ∀ r ∈ f.rules, r.nxt ∈ met → r.fst ∈ met) {a c : Int} (hl : Lead f.rules a c) : c ∈ met → a ∈ met := by
  induction hl with
  | one hr => exact hcl _ hr
  | step hr _ ih => exact fun hm => ih (hcl _ hr hm)
theorem bfs_end {f : Flr} {a b : Int} {i : Nat} {met : List Int} (h : Bfs f b i met) (hi : met.length ≤ i) (ha : 0 ≤ a ∧ a < f.turnings.length) : (!decide (a = b) && decide (a ∈ met)) = (!decide (a = b) && decide (a ∈ aheadM f b)) := by
  by_cases hab : a = b
  · rw [decide_eq_true hab]; rfl
  · congr 1
    rw [decide_eq_decide, mem_aheadM]
    constructor
    · intro hm
      rcases h.sound a hm with hx | hx
      · exact absurd hx hab
      · exact ⟨ha, hx⟩
    · rintro ⟨_, hl⟩
      refine closed_lead (fun r hr hm => ?_) hl h.has
      obtain ⟨j, hj, e⟩ := List.getElem_of_mem hm
      exact h.closed j (by omega) r hr (by rw [nth_lt hj, e])
end Go.Proofs.Ytifgbnbkimcchaa

namespace Go.Proofs.Ytifgbnbkimcchaa
open Go Go.T
set_option maxHeartbeats 2000000
attribute [local irreducible] dInt dBool dSl dPp dPtr dAgg dTup dClo dAny dEx dStr dGd dCells dVec dVs dRow dOp nth Tri Into TOps Ctr bodyPost Exit.then Exit.inBlock Code.wp Code.wpIn dWhen dPa dPe dAo dArr dMp dPm dMap dCJ CtrG CtrI OpY keepPost iterPost bodyPostM roundQ
set_option maxRecDepth 100000 in
theorem c_ahead5 (f : Flr) (hr : f.Right) (a b : Int) (ha : 0 ≤ a ∧ a < f.turnings.length) (hb : 0 ≤ b ∧ b < f.turnings.length) : Ctr Try.prog 57 [flrT f, Ty.int .i64 a, Ty.int .i64 b] (Ty.bool (!decide (a = b) && decide (a ∈ aheadM f b))) := by
  refine fn_intro Try.func57 rfl (by decide) Try.ntmps57 (by exact Nat.le_of_ble_eq_true rfl) fun w0 M0 => ?_
  have h8 := hr.ruled.1
  have h16 := hr.ranged.rules
  refine t_seq ?_
  refine t_region ?_
  refine r_box_agg rfl ?_
  refine asB rfl ?_
  refine r_nil ?_
  refine i_then ?_
  refine t_seq ?_
  refine t_region ?_
  refine mvI rfl ?_
  refine r_buildRowN (E := I64) (xs := [b]) rfl rfl rfl rfl rfl (by decide) (by decide) (by repeat (first | exact (Parts.nil : Parts _ _ [] _) | (show Parts _ _ ((_, _) :: _) _; apply Parts.one; (· exact (rfl : _ = Ty.int _ _)); (· exact rfl)))) (by exact rfl) rfl rfl ?_
  refine asR rfl ?_
  refine r_nil ?_
  refine i_then ?_
  refine t_seq ?_
  refine t_seq ?_
  refine t_region ?_
  refine asI rfl ?_
  refine r_nil ?_
  refine i_then ?_
  refine t_block ?_
  refine t_loop (fun (x : {x : Nat × List Int // Bfs f b x.1 x.2}) => live [(1, Ty.int .i64 a), (2, Ty.int .i64 b), (3, Ty.pp (flrTys f)), (7, Ty.row I64 3 13 x.1.2), (8, Ty.int .i64 (x.1.1 : Nat))] []) (fun x => f.turnings.length - x.1.1) (⟨(0, [b]), bfs_start hb⟩) ?_ fun x => ?_
  · (refine Ent.mk' ?_ ?_ <;> (repeat' (first | exact allSub_zero | exact allTags_nil | refine allSub_succ' ?_ (Ty.sub_any _) | refine allSub_succ' ?_ (Ty.sub_refl _))))
  ·
    have hx := x.2
    have hfew := nodup_few h8 hx.nodup hx.rng
    have hxle := hx.le
    refine t_seq ?_
    refine t_seq ?_
    refine t_region ?_
    refine mvI rfl ?_
    refine mvR rfl ?_
    refine r_len_row rfl rfl rfl ?_
    refine r_bin rfl rfl rfl ?_
    refine r_nil ?_
    refine i_then ?_
    refine t_cond_dec rfl (fun hc1 => ?_) (fun hc1 => ?_)
    ·
      refine t_skip ?_
      refine i_then ?_
      refine t_seq ?_
      refine t_block ?_
      refine t_seq ?_
      have hxlt : x.1.1 < x.1.2.length := by omega
      refine t_region ?_
      refine r_field_pp rfl rfl rfl rfl rfl (by decide) ?_
      refine r_load_pp rfl rfl rfl rfl ?_
      refine r_len rfl rfl rfl ?_
      refine mvI rfl ?_
      refine r_nil ?_
      refine i_then ?_
      refine t_block ?_
      refine t_loop (fun (y : {y : Nat × List Int // y.1 ≤ f.rules.length ∧ BfsIn f b x.1.1 y.1 y.2}) => live [(1, Ty.int .i64 a), (2, Ty.int .i64 b), (3, Ty.pp (flrTys f)), (7, Ty.row I64 3 13 y.1.2), (8, Ty.int .i64 (x.1.1 : Nat)), (20, Ty.sl RulE f.rules), (21, Ty.int .i64 f.rules.length), (22, Ty.int .i64 (y.1.1 : Nat))] []) (fun y => f.rules.length - y.1.1) (⟨(0, x.1.2), Nat.zero_le _, bfs_in hx hxlt⟩) ?_ fun y => ?_
      · (refine Ent.mk' ?_ ?_ <;> (repeat' (first | exact allSub_zero | exact allTags_nil | refine allSub_succ' ?_ (Ty.sub_any _) | refine allSub_succ' ?_ (Ty.sub_refl _))))
      ·
        have hy1 := y.2.1
        have hy := y.2.2
        have hylt := hy.lt
        have hfy := nodup_few h8 hy.bfs.nodup hy.bfs.rng
        refine t_seq ?_
        refine t_region ?_
        refine r_bin rfl rfl rfl ?_
        refine r_nil ?_
        refine i_then ?_
        refine t_seq ?_
        refine t_cond_dec rfl (fun hc2 => ?_) (fun hc2 => ?_)
        ·
          refine t_skip ?_
          refine i_then ?_
          refine t_seq ?_
          refine t_block ?_
          refine t_seq ?_
          refine t_region ?_
          refine r_index_slN rfl rfl rfl rfl rfl rfl (by omega) ?_
          refine r_load_ppN rfl rfl rfl (by exact Nat.le_of_ble_eq_true rfl) ?_
          refine r_alloc rfl (by exact List.cons_ne_nil _ _) rfl ?_
          refine r_storeN rfl rfl (by decide) rfl rfl rfl rfl rfl rfl ?_
          refine r_nil ?_
          refine i_then ?_
          refine t_seq ?_
          refine t_draw mixed rfl ?_
          refine r_field_ptr rfl rfl rfl rfl rfl (by decide) ?_
          refine r_load_ptr rfl rfl (by decide) rfl rfl rfl ?_
          refine mvR rfl ?_
          refine mvI rfl ?_
          refine r_index_rowN rfl rfl rfl rfl rfl rfl (by omega) ?_
          refine r_load_op rfl rfl rfl rfl ?_
          refine r_bin rfl rfl rfl ?_
          refine mvB rfl ?_
          apply r_guard (s := 33) rfl rfl rfl
          · intro hg; apply opT_of; (refine mvR rfl ?_); refine r_nil ?_; exact rfl
          · exact rfl
          · exact rfl
          apply r_guard (s := 33) rfl rfl rfl
          · intro hg; apply opT_of; (refine r_field_ptr rfl rfl rfl rfl rfl (by decide) ?_); refine r_nil ?_; exact rfl
          · exact rfl
          · exact rfl
          apply r_guard (s := 33) rfl rfl rfl
          · intro hg; apply opT_strip (s := 35) rfl (by (rw [hg]; rfl)); apply opT_of; (refine r_load_ptr rfl rfl (by decide) rfl rfl rfl ?_); refine r_nil ?_; exact rfl
          · exact rfl
          · exact rfl
          apply r_guard (s := 33) rfl rfl rfl
          · intro hg; apply opT_strip (s := 34) rfl (by (rw [hg]; rfl)); apply opT_strip (s := 36) rfl (by (rw [hg]; rfl)); apply opT_of; (refine r_callL [13] (c_Contains_int _ _) rfl (by repeat (first | exact lends_nil | refine lends_cons (lend_pub rfl rfl) ?_ | refine lends_cons (lend_row rfl) ?_)) (by exact plain_bool _) ?_); refine r_nil ?_; exact rfl
          · exact rfl
          · exact rfl
          apply r_guard (s := 33) rfl rfl rfl
          · intro hg; apply opT_strip (s := 37) rfl (by (rw [hg]; rfl)); apply opT_of; (refine r_not rfl ?_); refine r_nil ?_; exact rfl
          · exact rfl
          · exact rfl
          refine r_and rfl rfl ?_
          refine r_nil ?_
          refine ⟨by kernel_rfl, ?_⟩
          refine i_then ?_
          refine t_cond rfl (fun hc3 => ?_) (fun hc3 => ?_)
          ·
            refine t_region ?_
            refine mvR rfl ?_
            refine r_field_ptr rfl rfl rfl rfl rfl (by decide) ?_
            refine r_load_ptr rfl rfl (by decide) rfl rfl rfl ?_
            refine r_buildSlice (E := I64) (xs := [_]) rfl rfl rfl rfl rfl (by decide) (by decide) (by repeat (first | exact (Parts.nil : Parts _ _ [] _) | (show Parts _ _ ((_, _) :: _) _; apply Parts.one; (· exact (rfl : _ = Ty.int _ _)); (· exact rfl)))) (by exact rfl) rfl ?_
            refine r_append rfl rfl (by decide) rfl rfl rfl rfl rfl rfl (by decide) (by (simp <;> omega)) (by (simp <;> omega)) ?_
            refine asR rfl ?_
            refine r_nil ?_
            refine i_block ?_
            refine i_then ?_
            refine t_region ?_
            refine r_add rfl rfl (by omega) (by omega) ?_
            refine mvI rfl ?_
            refine r_nil ?_
            refine i_round (⟨(y.1.1 + 1, bfsT f x.1.1 y.1.1 y.1.2), by show y.1.1 + 1 ≤ _; omega, bfsIn_step hr.ruled hy (by omega)⟩) ?_ (by show f.rules.length - (y.1.1 + 1) < f.rules.length - y.1.1; omega)
            (refine Ent.mk' ?_ ?_ <;> (repeat' (first | exact allSub_zero | exact allTags_nil | refine allSub_succ' ?_ (Ty.sub_any _) | refine allSub_succ' ?_ (Ty.sub_refl _) | refine allSub_succ' ?_ ?_)))
            all_goals skip
            all_goals exact Ty.sub_row (show _ = bfsT f x.1.1 y.1.1 y.1.2 from (if_pos hc3).symm)
          ·
            refine t_skip ?_
            refine i_block ?_
            refine i_then ?_
            refine t_region ?_
            refine r_add rfl rfl (by omega) (by omega) ?_
            refine mvI rfl ?_
            refine r_nil ?_
            refine i_round (⟨(y.1.1 + 1, bfsT f x.1.1 y.1.1 y.1.2), by show y.1.1 + 1 ≤ _; omega, bfsIn_step hr.ruled hy (by omega)⟩) ?_ (by show f.rules.length - (y.1.1 + 1) < f.rules.length - y.1.1; omega)
            (refine Ent.mk' ?_ ?_ <;> (repeat' (first | exact allSub_zero | exact allTags_nil | refine allSub_succ' ?_ (Ty.sub_any _) | refine allSub_succ' ?_ (Ty.sub_refl _) | refine allSub_succ' ?_ ?_)))
            all_goals skip
            all_goals exact Ty.sub_row (show _ = bfsT f x.1.1 y.1.1 y.1.2 from (if_neg (Bool.eq_false_iff.1 hc3)).symm)
        ·
          refine t_exit ?_
          refine i_then_exit ?_
          refine i_then_exit ?_
          refine i_block_exit rfl ?_
          refine i_block ?_
          refine i_then ?_
          refine t_region ?_
          refine mvI rfl ?_
          refine r_add rfl rfl (by omega) (by omega) ?_
          refine asI rfl ?_
          refine r_nil ?_
          refine i_round (⟨(x.1.1 + 1, y.1.2), bfs_next y.2.2 (by omega)⟩) ?_ (by show f.turnings.length - (x.1.1 + 1) < f.turnings.length - x.1.1; omega)
          (refine Ent.mk' ?_ ?_ <;> (repeat' (first | exact allSub_zero | exact allTags_nil | refine allSub_succ' ?_ (Ty.sub_any _) | refine allSub_succ' ?_ (Ty.sub_refl _))))
          all_goals skip
    ·
      refine t_exit ?_
      refine i_then_exit ?_
      refine i_then_exit ?_
      refine i_block_exit rfl ?_
      refine i_then ?_
      refine t_seq ?_
      refine t_region ?_
      refine mvI rfl ?_
      refine mvI rfl ?_
      refine r_bin rfl rfl rfl ?_
      refine mvB rfl ?_
      apply r_guard (s := 49) rfl rfl rfl
      · intro hg; apply opT_of; (refine mvR rfl ?_); refine r_nil ?_; exact rfl
      · exact rfl
      · exact rfl
      apply r_guard (s := 49) rfl rfl rfl
      · intro hg; apply opT_of; (refine mvI rfl ?_); refine r_nil ?_; exact rfl
      · exact rfl
      · exact rfl
      apply r_guard (s := 49) rfl rfl rfl
      · intro hg; apply opT_strip (s := 50) rfl (by (rw [hg]; rfl)); apply opT_strip (s := 51) rfl (by (rw [hg]; rfl)); apply opT_of; (refine r_callL [13] (c_Contains_int _ _) rfl (by repeat (first | exact lends_nil | refine lends_cons (lend_pub rfl rfl) ?_ | refine lends_cons (lend_row rfl) ?_)) (by exact plain_bool _) ?_); refine r_nil ?_; exact rfl
      · exact rfl
      · exact rfl
      refine r_and rfl rfl ?_
      refine asB rfl ?_
      refine r_nil ?_
      refine i_then ?_
      refine t_ret ?_
      refine i_rp1 rfl rfl ?_
      all_goals skip
      all_goals exact ret_eq rfl rfl (congrArg Ty.bool (bfs_end hx (by omega) ha))
end Go.Proofs.Ytifgbnbkimcchaa

namespace Go.T
open Go
section
variable {P : Program} {fr : Fr} {A : As} {c : Code} {Q : Exit → Act → World → Prop}
def PubTy (A : As) (tg : Nat) (t0 t : Ty) : Prop := ∀ w M v, Wf w M → (∀ x ∈ A.tags, x.2.den w M x.1) → t0.den w M v → t.den w (pubTag M tg) v
def AllTy (A : As) (tg : Nat) : List Ty → List Ty → Prop
  | [], [] => True
  | a :: l, b :: l' => PubTy A tg a b ∧ AllTy A tg l l'
  | _, _ => False
def PubC (A : As) (tg : Nat) (x : Nat × Cont) : Prop := ∀ w M, Wf w M → (∀ x ∈ A.tags, x.2.den w M x.1) → x.2.den w (pubTag M tg) x.1
def AllC (A : As) (tg : Nat) : List (Nat × Cont) → Prop
  | [] => True
  | x :: l => PubC A tg x ∧ AllC A tg l
theorem pubTy_same {tg : Nat} {t : Ty} (h : disj t.deps [tg] = true) : PubTy A tg t t := fun w M _ _ _ hd =>
  t.mono (pubTag_le (w := w)) (disj_spec h) (fun _ _ h => by cases h) hd
theorem pubTy_row {α : Type} {E : El α} {T tg : Nat} {xs : List α} : PubTy A tg (.row E T tg xs) (.sl E xs) := fun w M v wf _ hd =>
  row_sl wf hd (fun b hb => by simp [pubTag, hb]) (fun b hb => by simp [pubTag, hb])
theorem pubTy_vs {α : Type} {E : El α} {T tg n : Nat} {xs : List α} (hc : A.tag tg = some (.vec E T xs)) (hn : xs.length = n) (h1 : 1 ≤ tg) : PubTy A tg (.vs tg n) (.sl E xs) := fun w M v wf ht hd => by
  have hv : dVec E T xs w M tg := ht _ (tag_mem hc)
  subst hn
  rcases hd with ⟨h0, rfl⟩ | ⟨b, cc, hb, e, hn1, hn2⟩
  · exact ⟨none, 0, by rw [h0], by omega, by simp [maxLen], fun h => absurd h (by omega)⟩
  refine ⟨_, cc, e, hn1, hn2, fun _ => ⟨b, 0, rfl, by simp [pubTag, hb], wf.lt b _ hb, fun i t hi => ?_⟩⟩
  obtain ⟨u, hu, hdu⟩ := vec_cell wf h1 hb hv hi
  refine ⟨u, by rw [Nat.zero_add]; exact hu, t.mono (pubTag_le (w := w)) ?_ ?_ hdu⟩
  · intro u hu
    have : u ∈ depsOf (xs.flatMap E.tys) := List.mem_flatMap.2 ⟨t, List.mem_of_getElem? hi, hu⟩
    rw [E.flat_deps] at this; cases this
  · intro u _ h; cases h
theorem allTy_dens {tg : Nat} {w : World} {M : Tags} (wf : Wf w M) (ht : ∀ x ∈ A.tags, x.2.den w M x.1) : ∀ {l l' : List Ty} {vs : List Value}, AllTy A tg l l' → dens w M l vs → dens w (pubTag M tg) l' vs
  | [], [], [], _, _ => trivial
  | _ :: _, _ :: _, _ :: _, ⟨h1, h2⟩, ⟨h3, h4⟩ => ⟨h1 _ _ _ wf ht h3, allTy_dens wf ht h2 h4⟩
theorem pubC_cells {tg o T : Nat} {l l' : List Ty} (ho : A.tag o = some (.cells T l)) (hne : Nat.beq o tg = false) (h : AllTy A tg l l') : PubC A tg (o, .cells T l') := fun w M wf ht => by
  obtain ⟨b, cs, hb, hh, hd⟩ := ht _ (tag_mem ho)
  refine ⟨b, cs, ?_, hh, allTy_dens wf ht h hd⟩
  unfold pubTag
  rw [if_neg]
  · exact hb
  · rw [hb]; intro e; injection e with e; subst e; simp at hne
theorem allC_mem {tg : Nat} {w : World} {M : Tags} (wf : Wf w M) (ht : ∀ x ∈ A.tags, x.2.den w M x.1) : ∀ {lt : List (Nat × Cont)}, AllC A tg lt → ∀ {x : Nat × Cont}, x ∈ lt → x.2.den w (pubTag M tg) x.1
  | y :: _, ⟨h1, h2⟩, x, hx => by
    rcases List.mem_cons.1 hx with rfl | hx
    · exact h1 w M wf ht
    · exact allC_mem wf ht h2 hx
theorem t_pubC {tg : Nat} (l : List (Nat × Ty)) (lt : List (Nat × Cont)) (h1 : 1 ≤ tg) (hp : fr.pass.contains tg = false) (hl : AllPub A tg l) (hlt : AllC A tg lt) (h : Tri P fr c ⟨(A.pub tg l).slots, lt ++ (A.pub tg l).tags⟩ Q) : Tri P fr c A Q := fun a w ⟨M, ok, hsl, ht⟩ => by
  have le : Le (· ∈ ([] : List Nat)) (· ∈ [tg]) w M w (pubTag M tg) := pubTag_le
  refine h a w ⟨pubTag M tg, ⟨pubTag_wf ok.wf, Fr.base_step ok.base (by intro _ h; cases h) (fun t ht => by simp only [List.mem_singleton] at ht; subst ht; exact ⟨h1, by simpa using hp⟩) le, ok.size, ok.defers.step (by intro _ h; cases h) (fun t ht => by simp only [List.mem_singleton] at ht; subst ht; exact h1) le⟩, fun i hi => ?_, fun x hx => ?_⟩
  · have base : (killSlots [] [tg] A.slots i).den w (pubTag M tg) (a.tmps.getD i undef) := by
      rcases killSlots_spec [] [tg] A.slots i with ⟨e, hdj⟩ | ⟨_, e⟩
      · rw [e]; exact (A.slots i).mono le (safe_spec hdj).1 (safe_spec hdj).2 (hsl i hi)
      · rw [e]; trivial
    show (setL l (killSlots [] [tg] A.slots) i).den _ _ _
    clear h
    induction l with
    | nil => exact base
    | cons x l ih =>
      obtain ⟨d, t⟩ := x
      unfold setL
      cases hb : Nat.beq i d with
      | false => simp only [cond_false]; exact ih hl.2
      | true =>
        have : i = d := Nat.eq_of_beq_eq_true hb
        subst this
        simp only [cond_true]
        exact hl.1 w M _ ok.wf ht (hsl i hi)
  · rcases List.mem_append.1 (show x ∈ lt ++ (A.pub tg l).tags from hx) with hx | hx
    · exact allC_mem ok.wf ht hlt hx
    · exact killTags_den le hx fun y hy _ => ht y hy
end
section
open Go.RowKit
variable {P : Program} {A : As} {fn : Func} {n : Nat} {w0 : World} {M0 : Tags} {F : List Nat} {post : List (Nat × Cont)} [T : Tab P]
theorem g_rcell (L : List Nat) {tm ty tg Tb : Nat} {l : List Ty} {ti : TI} {res : Ty} (hr : fn.results = #[.cell tm ty]) (ht : Nat.blt tm n = true) (hx : A.slots tm = .ptr tg 0) (hc : A.tag tg = some (.cells Tb l)) (h1 : 1 ≤ tg) (hT : T.tab[ty]? = some ti) (ha : ti.k.agg = true) (hl : l.length = ti.size)
    (hL : ∀ t ∈ F, t ∈ L) (hp : RetCs A L post) (hs : RetG L (.agg l) res) :
    Into ⟨n, w0, M0, F, .plain⟩ A (bodyPost P fn (keepPost F post w0 M0 res) .ret) := by
  intro a w ⟨M, ok, hsl, htg⟩
  have hd := hsl tm (by simpa using ht)
  rw [hx] at hd
  obtain ⟨b, hb, e⟩ := hd
  obtain ⟨b', cs, hb', hh, hds⟩ := htg _ (tag_mem hc)
  obtain ⟨u, rfl⟩ : ∃ u, tg = u + 1 := ⟨tg - 1, by omega⟩
  have := ok.wf.inj b b' u hb hb'
  subst this
  have hlen := dens_len hds
  have hload := run_loadN (P := P) hT ha (w := w) (b := b) (off := 0) (cs := cs.toList) (by rw [hlen, hl]) (fun j v hj => by simpa [World.cell?, hh] using hj)
  have hload' : (loadVar ty ⟨b, 0, none⟩).run P w = .ok (.agg cs) w := by simpa [Instr.loadAt, Instr.sureAddr] using hload
  refine ⟨ok.nodefers (by simp), .agg cs, ?_, _, pubG L M, rfl, pubG_wf ok.wf, base_pubG hL ok.base, hs _ _ _ ok.wf ⟨cs, rfl, hds⟩, rc_get ok.wf htg hp⟩
  have e' : a.tmps.getD tm undef = .pointer (some ⟨b, 0, none⟩) := e
  have e'' : a.tmps[tm]?.getD undef = .pointer (some ⟨b, 0, none⟩) := by rw [← Array.getD_eq_getD_getElem?]; exact e'
  simp [results, hr, e'', asAddr, hload']
end
end Go.T

namespace Go.Proofs.Ytifgbnbkimcchaa
open Go Go.T
theorem sum_set_int {l : List Int} : ∀ {i : Nat}, i < l.length → ∀ v : Int, (l.set i v).sum = l.sum - nth l i + v := by
  induction l with
  | nil => intro i h; simp at h
  | cons x l ih =>
    intro i h v
    cases i with
    | zero => simp [nth]; omega
    | succ i =>
      have := ih (i := i) (by simpa using h) v
      simp only [List.set_cons_succ, List.sum_cons, this]
      have : nth (x :: l) (i + 1) = nth l i := rfl
      omega
theorem le_sum_int {l : List Int} (h : ∀ x ∈ l, 0 ≤ x) : 0 ≤ l.sum ∧ ∀ x ∈ l, x ≤ l.sum := by
  induction l with
  | nil => simp
  | cons y l ih =>
    have h1 := ih fun x hx => h x (List.mem_cons_of_mem _ hx)
    have h2 := h y List.mem_cons_self
    refine ⟨by rw [List.sum_cons]; omega, fun x hx => ?_⟩
    rw [List.sum_cons]
    rcases List.mem_cons.1 hx with rfl | hx
    · omega
    · have := h1.2 x hx; omega
theorem mem_nth_of {l : List Int} {P : Int → Prop} (h : ∀ j, j < l.length → P (nth l j)) : ∀ x ∈ l, P x := fun x hx => by
  obtain ⟨i, hi, rfl⟩ := List.getElem_of_mem hx
  have := h i hi
  rwa [nth_lt hi] at this
def shUp (n : Nat) (s : Sk) : Nat → List Int × Sk
  | 0 => (List.replicate n 0, s)
  | k + 1 => ((shUp n s k).1.set (skBelow (shUp n s k).2 n).toNat (nth (shUp n s k).1 (skBelow (shUp n s k).2 n).toNat + 1), skNext (shUp n s k).2)
theorem below_in {s : Sk} {n : Nat} (hn : 1 ≤ n) : 0 ≤ skBelow s n ∧ skBelow s n < n := by
  have := skBelow_bound s n; omega
theorem sh_spec {n : Nat} (hn : 1 ≤ n) (s : Sk) : ∀ k, (shUp n s k).1.length = n ∧ (shUp n s k).1.sum = k ∧ (∀ j, j < n → 0 ≤ nth (shUp n s k).1 j) ∧ (shUp n s k).2.taken = s.taken + k
  | 0 => ⟨by simp [shUp], by simp [shUp], fun j hj => by simp [shUp, nth, hj], by simp [shUp]⟩
  | k + 1 => by
    obtain ⟨h1, h2, h3, h4⟩ := sh_spec hn s k
    have hb := below_in (s := (shUp n s k).2) hn
    refine ⟨?_, ?_, fun j hj => ?_, ?_⟩
    · show (List.set _ _ _).length = _
      rw [List.length_set, h1]
    · show (List.set _ _ _).sum = _
      rw [sum_set_int (by omega), h2]; omega
    · show 0 ≤ nth (List.set _ _ _) j
      have := h3 j hj
      have := h3 (skBelow (shUp n s k).2 n).toNat (by omega)
      rw [nth_set_int]; split <;> omega
    · show (skNext _).taken = _
      rw [skNext_taken, h4]; omega
def bearUp (sh : List Int) (has : Int) (bears : List Int) : Nat → List Int
  | 0 => bears
  | k + 1 => (bearUp sh has bears k).set k (nth (bearUp sh has bears k) k + nth sh k * has)
theorem bear_spec (sh : List Int) (has : Int) (bears : List Int) : ∀ k, (bearUp sh has bears k).length = bears.length ∧ ∀ j, j < bears.length → nth (bearUp sh has bears k) j = nth bears j + if j < k then nth sh j * has else 0
  | 0 => ⟨rfl, fun j _ => by simp [bearUp]⟩
  | k + 1 => by
    obtain ⟨h1, h2⟩ := bear_spec sh has bears k
    refine ⟨by show (List.set _ _ _).length = _; rw [List.length_set, h1], fun j hj => ?_⟩
    show nth (List.set _ _ _) j = _
    rw [nth_set_int]
    by_cases e : k = j
    · subst e
      rw [if_pos ⟨rfl, by omega⟩, h2 k hj, if_neg (by omega), if_pos (by omega)]; omega
    · rw [if_neg (fun h => e h.1), h2 j hj]
      by_cases hjk : j < k
      · rw [if_pos hjk, if_pos (by omega)]
      · rw [if_neg hjk, if_neg (by omega)]
structure Mk where
  bears : List Int
  bins : List Bin
  left : List Int
  sk : Sk
def mkBin (n : Nat) (p : Mk) : Bin := ⟨skBelow p.sk 60, (shUp n (skNext p.sk) 4).1⟩
def binsUp (n : Nat) (s : Sk) : Nat → Mk
  | 0 => ⟨List.replicate n 0, [], [], s⟩
  | k + 1 => ⟨bearUp (mkBin n (binsUp n s k)).shares (mkBin n (binsUp n s k)).has (binsUp n s k).bears n, (binsUp n s k).bins ++ [mkBin n (binsUp n s k)], (binsUp n s k).left ++ [(mkBin n (binsUp n s k)).has], (shUp n (skNext (binsUp n s k).sk) 4).2⟩
structure BinOk (n : Nat) (b : Bin) : Prop where
  has : 0 ≤ b.has ∧ b.has ≤ 59
  len : b.shares.length = n
  sum : b.shares.sum = 4
  rng : ∀ j, j < n → 0 ≤ nth b.shares j ∧ nth b.shares j ≤ 4
theorem mkBin_ok {n : Nat} (hn : 1 ≤ n) (p : Mk) : BinOk n (mkBin n p) := by
  obtain ⟨h1, h2, h3, _⟩ := sh_spec hn (skNext p.sk) 4
  have hb := skBelow_bound p.sk 60
  have h5 : ∀ x ∈ (shUp n (skNext p.sk) 4).1, 0 ≤ x := mem_nth_of fun j hj => h3 j (by omega)
  have h6 := (le_sum_int h5).2
  refine ⟨⟨hb.1, ?_⟩, h1, h2, fun j hj => ⟨h3 j hj, ?_⟩⟩
  · show skBelow p.sk 60 ≤ 59
    omega
  · have := h6 _ (nth_mem (show j < _ by omega))
    rw [h2] at this
    exact this
structure MkOk (n k : Nat) (s : Sk) (p : Mk) : Prop where
  bears : p.bears.length = n
  bearsR : ∀ j, j < n → 0 ≤ nth p.bears j ∧ nth p.bears j ≤ 236 * k
  bins : p.bins.length = k
  binOk : ∀ b ∈ p.bins, BinOk n b
  left : p.left = p.bins.map Bin.has
  taken : p.sk.taken = s.taken + 5 * k
theorem bins_spec {n : Nat} (hn : 1 ≤ n) (s : Sk) : ∀ k, MkOk n k s (binsUp n s k)
  | 0 => ⟨by simp [binsUp], fun j hj => by simp [binsUp, nth, hj], rfl, fun b hb => by simp [binsUp] at hb, rfl, by simp [binsUp]⟩
  | k + 1 => by
    have h := bins_spec hn s k
    have hb := mkBin_ok hn (binsUp n s k)
    have hu := bear_spec (mkBin n (binsUp n s k)).shares (mkBin n (binsUp n s k)).has (binsUp n s k).bears n
    refine ⟨?_, fun j hj => ?_, ?_, fun b hb' => ?_, ?_, ?_⟩
    · exact hu.1.trans h.bears
    · show 0 ≤ nth (bearUp _ _ _ _) j ∧ nth (bearUp _ _ _ _) j ≤ _
      rw [hu.2 j (by rw [h.bears]; exact hj), if_pos hj]
      have h1 := h.bearsR j hj
      have h2 := hb.rng j hj
      have h3 := hb.has
      have h4 : 0 ≤ nth (mkBin n (binsUp n s k)).shares j * (mkBin n (binsUp n s k)).has := Int.mul_nonneg h2.1 h3.1
      have h5 : nth (mkBin n (binsUp n s k)).shares j * (mkBin n (binsUp n s k)).has ≤ 4 * 59 := Int.mul_le_mul h2.2 h3.2 h3.1 (by omega)
      omega
    · show (_ ++ [_]).length = _
      rw [List.length_append, h.bins]; rfl
    · rcases List.mem_append.1 hb' with hb' | hb'
      · exact h.binOk b hb'
      · rw [List.mem_singleton.1 hb']; exact hb
    · show _ ++ [_] = List.map _ (_ ++ [_])
      rw [List.map_append, h.left]; rfl
    · show (shUp _ _ _).2.taken = _
      rw [(sh_spec hn _ 4).2.2.2, skNext_taken, h.taken]; omega
def upOne (xs : List Int) (s : Sk) (k : Nat) : List Int := xs.set k (nth xs k + skBelow s 90)
def downOne (ys : List Int) (k : Nat) : List Int := ys.set k (max 0 (nth ys k - 60))
def upsUp (xs : List Int) (s : Sk) : Nat → List Int × Sk
  | 0 => (xs, s)
  | k + 1 => (if skRare (skNext (upsUp xs s k).2) 9 then downOne (upOne (upsUp xs s k).1 (upsUp xs s k).2 k) k else upOne (upsUp xs s k).1 (upsUp xs s k).2 k, skNext (skNext (upsUp xs s k).2))
theorem ups_spec (xs : List Int) (s : Sk) (hx : ∀ j, j < xs.length → 0 ≤ nth xs j) : ∀ k, (upsUp xs s k).1.length = xs.length ∧ (∀ j, j < xs.length → 0 ≤ nth (upsUp xs s k).1 j ∧ nth (upsUp xs s k).1 j ≤ nth xs j + if j < k then 90 else 0) ∧ (upsUp xs s k).2.taken = s.taken + 2 * k
  | 0 => ⟨rfl, fun j hj => by have := hx j hj; simp [upsUp]; omega, by simp [upsUp]⟩
  | k + 1 => by
    obtain ⟨h1, h2, h3⟩ := ups_spec xs s hx k
    have hb := skBelow_bound (upsUp xs s k).2 90
    have hy : ∀ j, j < xs.length → 0 ≤ nth (upOne (upsUp xs s k).1 (upsUp xs s k).2 k) j ∧ nth (upOne (upsUp xs s k).1 (upsUp xs s k).2 k) j ≤ nth xs j + if j < k + 1 then 90 else 0 := fun j hj => by
      have h4 := h2 j hj
      rw [upOne, nth_set_int]
      by_cases e : k = j
      · subst e
        rw [if_neg (by omega)] at h4
        rw [if_pos ⟨rfl, by omega⟩, if_pos (by omega)]; omega
      · rw [if_neg (fun h => e h.1)]
        by_cases hjk : j < k
        · rw [if_pos hjk] at h4; rw [if_pos (by omega)]; exact h4
        · rw [if_neg hjk] at h4; rw [if_neg (by omega)]; exact h4
    have hl : (upOne (upsUp xs s k).1 (upsUp xs s k).2 k).length = xs.length := by rw [upOne, List.length_set, h1]
    refine ⟨?_, fun j hj => ?_, ?_⟩
    · show (if _ then _ else _ : List Int).length = _
      split
      · rw [downOne, List.length_set, hl]
      · exact hl
    · show 0 ≤ nth (if _ then _ else _ : List Int) j ∧ nth (if _ then _ else _ : List Int) j ≤ _
      have h4 := hy j hj
      split
      · rw [downOne, nth_set_int]
        split
        · rename_i e
          obtain ⟨rfl, _⟩ := e
          omega
        · exact h4
      · exact h4
    · show (skNext (skNext _)).taken = _
      rw [skNext_taken, skNext_taken, h3]; omega
end Go.Proofs.Ytifgbnbkimcchaa

namespace Go.Proofs.Ytifgbnbkimcchaa
open Go Go.T
structure Tk where
  left : List Int
  trn : List Trn
  sk : Sk
def srcOf (left : List Int) (a : Int) : Int := if a ≠ -1 ∧ nth left a.toNat = 0 then -1 else a
def dstOf (m : Nat) (a b : Int) : Int := if a = b then modM (a + 1) m else b
def sacksOf (left : List Int) (a n : Int) : Int := if a ≠ -1 then min n (nth left a.toNat) else n
def leftOf (left : List Int) (a n : Int) : List Int := if a ≠ -1 then left.set a.toNat (nth left a.toNat - n) else left
def tkSrc (m : Nat) (p : Tk) : Int := srcOf p.left (skAmong p.sk (-1) ((m : Int) - 1))
def tkDst (m : Nat) (p : Tk) : Int := dstOf m (tkSrc m p) (skAmong (skNext p.sk) (-1) ((m : Int) - 1))
def tkSacks (m : Nat) (p : Tk) : Int := sacksOf p.left (tkSrc m p) (skAmong (skNext (skNext p.sk)) 1 20)
def mkTrn (m : Nat) (p : Tk) : Trn := ⟨tkSrc m p, tkDst m p, tkSacks m p⟩
def trnsUp (m : Nat) (left : List Int) (s : Sk) : Nat → Tk
  | 0 => ⟨left, [], s⟩
  | k + 1 => ⟨leftOf (trnsUp m left s k).left (tkSrc m (trnsUp m left s k)) (tkSacks m (trnsUp m left s k)), (trnsUp m left s k).trn ++ [mkTrn m (trnsUp m left s k)], skNext (skNext (skNext (trnsUp m left s k).sk))⟩
def tookL (ts : List Trn) (i : Int) : Int := (ts.map fun t => if t.src = i then t.sacks else 0).sum
structure TrnOk (m : Nat) (t : Trn) : Prop where
  src : -1 ≤ t.src ∧ t.src < m
  dst : -1 ≤ t.dst ∧ t.dst < m
  ne : t.src ≠ t.dst
  sacks : 1 ≤ t.sacks ∧ t.sacks ≤ 20
structure TkOk (m k : Nat) (l0 : List Int) (s : Sk) (p : Tk) : Prop where
  left : p.left.length = m
  pos : ∀ j, j < m → 0 ≤ nth p.left j
  took : ∀ j, j < m → nth p.left j + tookL p.trn j = nth l0 j
  trn : p.trn.length = k
  trnOk : ∀ t ∈ p.trn, TrnOk m t
  taken : p.sk.taken = s.taken + 3 * k
theorem among_in {s : Sk} {lo hi : Int} (h : lo ≤ hi) : lo ≤ skAmong s lo hi ∧ skAmong s lo hi ≤ hi := by
  have := skBelow_bound s (hi - lo + 1)
  unfold skAmong; omega
theorem mod_next {m : Nat} (hm : 2 ≤ m) {a : Int} (h : -1 ≤ a ∧ a < m) : 0 ≤ modM (a + 1) m ∧ modM (a + 1) m < m ∧ modM (a + 1) m ≠ a := by
  unfold modM
  have h1 := Int.emod_nonneg (a + 1) (show (m : Int) ≠ 0 by omega)
  rw [if_neg (by omega), Int.tmod_eq_emod_of_nonneg (show 0 ≤ a + 1 by omega), Int.tmod_eq_emod_of_nonneg (show 0 ≤ (a + 1) % (m : Int) + m by omega), Int.add_emod_right, Int.emod_emod]
  by_cases e : a + 1 = m
  · rw [e, Int.emod_self]; omega
  · rw [Int.emod_eq_of_lt (by omega) (by omega)]; omega
theorem src_in {m : Nat} (hm : 2 ≤ m) (p : Tk) : -1 ≤ tkSrc m p ∧ tkSrc m p < m ∧ (tkSrc m p = -1 ∨ nth p.left (tkSrc m p).toNat ≠ 0) := by
  have h := among_in (s := p.sk) (show (-1 : Int) ≤ (m : Int) - 1 by omega)
  unfold tkSrc srcOf
  split
  · omega
  · rename_i hn
    by_cases e : skAmong p.sk (-1) ((m : Int) - 1) = -1
    · exact ⟨h.1, by omega, .inl e⟩
    · exact ⟨h.1, by omega, .inr fun h0 => hn ⟨e, h0⟩⟩
theorem mkTrn_ok {m : Nat} (hm : 2 ≤ m) {p : Tk} (hp : ∀ j, j < m → 0 ≤ nth p.left j) : TrnOk m (mkTrn m p) := by
  have h1 := src_in hm p
  have h2 := among_in (s := skNext p.sk) (show (-1 : Int) ≤ (m : Int) - 1 by omega)
  have h3 := among_in (s := skNext (skNext p.sk)) (show (1 : Int) ≤ 20 by omega)
  have h4 := mod_next hm ⟨h1.1, h1.2.1⟩
  have h5 : (-1 ≤ tkDst m p ∧ tkDst m p < m) ∧ tkSrc m p ≠ tkDst m p := by
    unfold tkDst dstOf
    split
    · exact ⟨by omega, fun e => h4.2.2 e.symm⟩
    · exact ⟨by omega, by assumption⟩
  refine ⟨⟨h1.1, h1.2.1⟩, h5.1, h5.2, ?_⟩
  show 1 ≤ tkSacks m p ∧ tkSacks m p ≤ 20
  unfold tkSacks sacksOf
  split
  · rename_i hn
    have h6 := hp (tkSrc m p).toNat (by omega)
    have h7 := h1.2.2.resolve_left hn
    omega
  · exact h3
theorem took_snoc (ts : List Trn) (t : Trn) (i : Int) : tookL (ts ++ [t]) i = tookL ts i + if t.src = i then t.sacks else 0 := by simp [tookL]
theorem trns_spec {m : Nat} (hm : 2 ≤ m) {left : List Int} (hl : left.length = m) (h0 : ∀ j, j < m → 0 ≤ nth left j) (s : Sk) : ∀ k, TkOk m k left s (trnsUp m left s k)
  | 0 => ⟨hl, h0, fun j _ => by simp [trnsUp, tookL], rfl, fun t ht => by simp [trnsUp] at ht, by simp [trnsUp]⟩
  | k + 1 => by
    have h := trns_spec hm hl h0 s k
    have ht := mkTrn_ok hm h.pos
    have h1 := src_in hm (trnsUp m left s k)
    have key : ∀ j, j < m → nth (trnsUp m left s (k + 1)).left j = nth (trnsUp m left s k).left j - if tkSrc m (trnsUp m left s k) = (j : Int) then tkSacks m (trnsUp m left s k) else 0 := fun j hj => by
      show nth (leftOf _ _ _) j = _
      unfold leftOf
      split
      · rw [nth_set_int]
        by_cases e : tkSrc m (trnsUp m left s k) = (j : Int)
        · rw [e, if_pos ⟨by omega, by have := h.left; omega⟩, if_pos rfl]; rfl
        · rw [if_neg (by omega), if_neg e]; omega
      · rw [if_neg (by omega)]; omega
    refine ⟨?_, fun j hj => ?_, fun j hj => ?_, ?_, fun t ht' => ?_, ?_⟩
    · show (leftOf _ _ _).length = _
      unfold leftOf; split
      · rw [List.length_set, h.left]
      · exact h.left
    · rw [key j hj]
      have := h.pos j hj
      split
      · rename_i e
        have h5 : tkSacks m (trnsUp m left s k) = min (skAmong (skNext (skNext (trnsUp m left s k).sk)) 1 20) (nth (trnsUp m left s k).left j) := by
          unfold tkSacks sacksOf
          rw [if_pos (by omega), e]; rfl
        omega
      · omega
    · rw [key j hj]
      show _ + tookL (_ ++ [_]) _ = _
      rw [took_snoc]
      have := h.took j hj
      show nth (trnsUp m left s k).left j - (if tkSrc m (trnsUp m left s k) = (j : Int) then tkSacks m (trnsUp m left s k) else 0) + (tookL (trnsUp m left s k).trn j + if tkSrc m (trnsUp m left s k) = (j : Int) then tkSacks m (trnsUp m left s k) else 0) = _
      omega
    · show (_ ++ [_]).length = _
      rw [List.length_append, h.trn]; rfl
    · rcases List.mem_append.1 ht' with ht' | ht'
      · exact h.trnOk t ht'
      · rw [List.mem_singleton.1 ht']; exact ht
    · show (skNext (skNext (skNext _))).taken = _
      rw [skNext_taken, skNext_taken, skNext_taken, h.taken]; omega
def rulesUp (order : List Int) (T : Nat) (s : Sk) : Nat → List Rul × Sk
  | 0 => ([], s)
  | k + 1 => (if skBelow (rulesUp order T s k).2 T < skBelow (skNext (rulesUp order T s k).2) T then (rulesUp order T s k).1 ++ [⟨nth order (skBelow (rulesUp order T s k).2 T).toNat, nth order (skBelow (skNext (rulesUp order T s k).2) T).toNat⟩] else (rulesUp order T s k).1, skNext (skNext (rulesUp order T s k).2))
def RulOk (order : List Int) (T : Nat) (r : Rul) : Prop := ∃ a b : Nat, a < b ∧ b < T ∧ r = ⟨nth order a, nth order b⟩
theorem rules_spec (order : List Int) (T : Nat) (s : Sk) : ∀ k, (rulesUp order T s k).1.length ≤ k ∧ (∀ r ∈ (rulesUp order T s k).1, RulOk order T r) ∧ (rulesUp order T s k).2.taken = s.taken + 2 * k
  | 0 => ⟨by simp [rulesUp], fun r hr => by simp [rulesUp] at hr, by simp [rulesUp]⟩
  | k + 1 => by
    obtain ⟨h1, h2, h3⟩ := rules_spec order T s k
    have ha := skBelow_bound (rulesUp order T s k).2 T
    have hb := skBelow_bound (skNext (rulesUp order T s k).2) T
    refine ⟨?_, fun r hr => ?_, ?_⟩
    · show (if _ then _ else _ : List Rul).length ≤ _
      split
      · simp; omega
      · omega
    · change r ∈ (if _ then _ else _ : List Rul) at hr
      split at hr
      · rename_i hlt
        rcases List.mem_append.1 hr with hr | hr
        · exact h2 r hr
        · exact ⟨_, _, by omega, by omega, List.mem_singleton.1 hr⟩
      · exact h2 r hr
    · show (skNext (skNext _)).taken = _
      rw [skNext_taken, skNext_taken, h3]; omega
theorem nodup_inj {l : List Int} (h : l.Nodup) {a b : Nat} (ha : a < l.length) (hb : b < l.length) (e : nth l a = nth l b) : a = b := by
  rcases Nat.lt_trichotomy a b with hlt | rfl | hlt
  · exact absurd (e ▸ (by rw [nth_lt ha]; exact List.mem_take_iff_getElem.2 ⟨a, by omega, rfl⟩ : nth l a ∈ l.take b)) (nodup_not h hb)
  · rfl
  · exact absurd (e ▸ (by rw [nth_lt hb]; exact List.mem_take_iff_getElem.2 ⟨b, by omega, rfl⟩ : nth l b ∈ l.take a)) (nodup_not h ha)
theorem lead_order {order : List Int} {rules : List Rul} (hn : order.Nodup) (h : ∀ r ∈ rules, RulOk order order.length r) {x y : Int} (hl : Lead rules x y) : ∃ a b : Nat, a < b ∧ b < order.length ∧ x = nth order a ∧ y = nth order b := by
  induction hl with
  | one hr =>
    obtain ⟨a, b, h1, h2, rfl⟩ := h _ hr
    exact ⟨a, b, h1, h2, rfl, rfl⟩
  | step hr _ ih =>
    obtain ⟨a, b, h1, h2, e⟩ := h _ hr
    obtain ⟨c, d, h3, h4, h5, h6⟩ := ih
    rw [e] at h6 ⊢
    have := nodup_inj hn (by omega) h4 h6
    subst this
    exact ⟨c, b, by omega, h2, h5, rfl⟩
end Go.Proofs.Ytifgbnbkimcchaa

namespace Go.Proofs.Ytifgbnbkimcchaa
open Go Go.T
structure Md where
  s : Sk
  t : Nat
def Md.n (d : Md) : Nat := (skAmong d.s 1 4).toNat
def Md.m (d : Md) : Nat := (skAmong (skNext d.s) 2 5).toNat
def Md.bn (d : Md) (k : Nat) : Mk := binsUp d.n (skNext (skNext d.s)) k
def Md.up (d : Md) (k : Nat) : List Int × Sk := upsUp (d.bn d.m).bears (d.bn d.m).sk k
def Md.T (d : Md) : Nat := (skBelow (d.up d.n).2 ((d.t : Int) + 1)).toNat
def Md.tk (d : Md) (k : Nat) : Tk := trnsUp d.m (d.bn d.m).left (skNext (d.up d.n).2) k
def Md.order (d : Md) : List Int × Sk := shufUp (d.tk d.T).sk d.T
def Md.R (d : Md) : Nat := (skBelow d.order.2 6).toNat
def Md.ru (d : Md) (k : Nat) : List Rul × Sk := rulesUp d.order.1 d.T (skNext d.order.2) k
def Md.flr (d : Md) : Flr := ⟨(d.up d.n).1, (d.bn d.m).bins, (d.tk d.T).trn, (d.ru d.R).1⟩
def Md.sk (d : Md) : Sk := (d.ru d.R).2
theorem Md.n_in (d : Md) : 1 ≤ d.n ∧ d.n ≤ 4 ∧ (d.n : Int) = skAmong d.s 1 4 := by
  have := among_in (s := d.s) (show (1 : Int) ≤ 4 by omega)
  unfold Md.n; omega
theorem Md.m_in (d : Md) : 2 ≤ d.m ∧ d.m ≤ 5 ∧ (d.m : Int) = skAmong (skNext d.s) 2 5 := by
  have := among_in (s := skNext d.s) (show (2 : Int) ≤ 5 by omega)
  unfold Md.m; omega
theorem Md.T_in (d : Md) : d.T ≤ d.t ∧ (d.T : Int) = skBelow (d.up d.n).2 ((d.t : Int) + 1) := by
  have := skBelow_bound (d.up d.n).2 ((d.t : Int) + 1)
  unfold Md.T; omega
theorem Md.R_in (d : Md) : d.R ≤ 5 ∧ (d.R : Int) = skBelow d.order.2 6 := by
  have := skBelow_bound d.order.2 6
  unfold Md.R; omega
theorem Md.bnOk (d : Md) (k : Nat) : MkOk d.n k (skNext (skNext d.s)) (d.bn k) := bins_spec d.n_in.1 _ k
theorem Md.upOk (d : Md) (k : Nat) : (d.up k).1.length = d.n ∧ (∀ j, j < d.n → 0 ≤ nth (d.up k).1 j ∧ nth (d.up k).1 j ≤ nth (d.bn d.m).bears j + if j < k then 90 else 0) ∧ (d.up k).2.taken = (d.bn d.m).sk.taken + 2 * k := by
  have h := d.bnOk d.m
  have := ups_spec (d.bn d.m).bears (d.bn d.m).sk (fun j hj => (h.bearsR j (by rw [← h.bears]; exact hj)).1) k
  rw [h.bears] at this
  exact this
theorem Md.left_pos (d : Md) : (d.bn d.m).left.length = d.m ∧ ∀ j, j < d.m → 0 ≤ nth (d.bn d.m).left j ∧ nth (d.bn d.m).left j ≤ 59 ∧ nth (d.bn d.m).left j = (nth (d.bn d.m).bins j).has := by
  have h := d.bnOk d.m
  have hl : (d.bn d.m).left.length = d.m := by rw [h.left, List.length_map, h.bins]
  refine ⟨hl, fun j hj => ?_⟩
  have hb : j < (d.bn d.m).bins.length := by rw [h.bins]; exact hj
  have e : nth (d.bn d.m).left j = (nth (d.bn d.m).bins j).has := by
    rw [nth_lt hb, nth_lt (by omega)]
    simp only [h.left, List.getElem_map]
  have := (h.binOk _ (nth_mem hb)).has
  rw [e]; omega
theorem Md.tkOk (d : Md) (k : Nat) : TkOk d.m k (d.bn d.m).left (skNext (d.up d.n).2) (d.tk k) := trns_spec d.m_in.1 d.left_pos.1 (fun j hj => (d.left_pos.2 j hj).1) _ k
theorem Md.orderOk (d : Md) : d.order.1.length = d.T ∧ d.order.1.Nodup ∧ (∀ x, x ∈ d.order.1 ↔ 0 ≤ x ∧ x < (d.T : Int)) ∧ d.order.2.taken = (d.tk d.T).sk.taken + d.T := shuf_spec _ _
theorem Md.ruOk (d : Md) (k : Nat) : (d.ru k).1.length ≤ k ∧ (∀ r ∈ (d.ru k).1, RulOk d.order.1 d.T r) ∧ (d.ru k).2.taken = (skNext d.order.2).taken + 2 * k := rules_spec _ _ _ k
theorem Md.taken (d : Md) : d.sk.taken ≤ d.s.taken + (52 + 4 * d.t) := by
  have h1 := (d.bnOk d.m).taken
  have h2 := (d.upOk d.n).2.2
  have h3 := (d.tkOk d.T).taken
  have h4 := d.orderOk.2.2.2
  have h5 := (d.ruOk d.R).2.2
  have h6 := d.n_in
  have h7 := d.m_in
  have h8 := d.T_in
  have h9 := d.R_in
  rw [skNext_taken] at h3 h5 h1
  rw [skNext_taken] at h1
  unfold Md.sk
  omega
theorem rule_in {d : Md} {r : Rul} (h : RulOk d.order.1 d.T r) : (0 ≤ r.fst ∧ r.fst < (d.T : Int)) ∧ 0 ≤ r.nxt ∧ r.nxt < (d.T : Int) := by
  obtain ⟨a, b, h1, h2, rfl⟩ := h
  have ho := d.orderOk
  exact ⟨(ho.2.2.1 _).1 (nth_mem (by omega)), (ho.2.2.1 _).1 (nth_mem (by omega))⟩
theorem any_not_of {α : Type} {q : α → Bool} {l : List α} (h : ∀ x ∈ l, q x = false) : l.any q = false := by
  rw [Bool.eq_false_iff]; intro hc
  obtain ⟨x, hx, hq⟩ := List.any_eq_true.1 hc
  rw [h x hx] at hq; cases hq
theorem offB_of {n lo hi : Int} (h : lo ≤ n ∧ n ≤ hi) : offB n lo hi = false := by
  simp only [offB, Bool.or_eq_false_iff, decide_eq_false_iff_not]; omega
theorem Md.right (d : Md) (ht : d.t ≤ 8) : checkP d.flr = 0 := by
  have h1 := d.bnOk d.m
  have h2 := d.upOk d.n
  have h3 := d.tkOk d.T
  have h4 := d.orderOk
  have h5 := d.ruOk d.R
  have h6 := d.n_in
  have h7 := d.m_in
  have h8 := d.T_in
  have h9 := d.R_in
  have hB : d.flr.bears.length = d.n := h2.1
  have hb : d.flr.bins.length = d.m := h1.bins
  have hT : d.flr.turnings.length = d.T := h3.trn
  have hR : d.flr.rules.length ≤ 5 := Nat.le_trans h5.1 h9.1
  rw [check_eq, checkM, if_neg, if_neg, if_neg, if_neg, if_neg, linkedM, if_neg, if_neg, if_neg, if_neg, if_neg]
  · rw [Bool.not_eq_true]
    refine any_not_of fun t _ => decide_eq_false fun hm => ?_
    obtain ⟨_, hl⟩ := mem_aheadM.1 hm
    obtain ⟨a, b, hab, hbt, ea, eb⟩ := lead_order h4.2.1 (fun r hr => by rw [h4.1]; exact h5.2.1 r hr) hl
    have := nodup_inj h4.2.1 (by omega) hbt (ea.symm.trans eb)
    omega
  · rw [Bool.not_eq_true]
    refine any_not_of fun i hi => ?_
    have hi := mem_iot.1 hi
    have hj : i.toNat < d.m := by omega
    have hbk := h1.binOk _ (nth_mem (xs := (d.bn d.m).bins) (k := i.toNat) (by rw [h1.bins]; exact hj))
    show d.flr.wrongAt i.toNat (nth (d.bn d.m).bins i.toNat) = false
    unfold Flr.wrongAt
    rw [hbk.sum]
    have hk := h3.took _ hj
    have hp := h3.pos _ hj
    have hl := (d.left_pos.2 _ hj).2.2
    have e : takenM d.flr d.flr.turnings i.toNat = tookL (d.tk d.T).trn i.toNat := rfl
    have hx : ¬ tookL (d.tk d.T).trn i.toNat > (nth (d.bn d.m).bins i.toNat).has := by omega
    rw [e, decide_eq_false hx]; rfl
  · rw [Bool.not_eq_true]
    exact any_not_of fun t hm => decide_eq_false (h3.trnOk t hm).ne
  · rw [Bool.not_eq_true]
    refine any_not_of fun r hm => ?_
    have := rule_in (h5.2.1 r hm)
    rw [hT, offB_of (by omega), offB_of (by omega)]; rfl
  · rw [Bool.not_eq_true]
    refine any_not_of fun t hm => ?_
    have h := h3.trnOk t hm
    have := h.src
    have := h.dst
    rw [hb, offB_of (by omega), offB_of (by omega)]; rfl
  · rw [Bool.not_eq_true]
    refine any_not_of fun t hm => ?_
    have := (h3.trnOk t hm).sacks
    exact offB_of (by omega)
  · rw [Bool.not_eq_true]
    refine any_not_of fun b hm => ?_
    have h := h1.binOk b hm
    have := h.has
    rw [offB_of (by omega), Bool.false_or]
    exact any_not_of (mem_nth_of (P := fun n => offB n 0 4 = false) fun j hj => offB_of (h.rng j (by rw [← h.len]; exact hj)))
  · rw [Bool.not_eq_true]
    refine any_not_of (mem_nth_of (P := fun n => offB n 0 4000 = false) fun j hj => offB_of ?_)
    have hj : j < d.n := by rw [← hB]; exact hj
    have h := h2.2.1 j hj
    have h0 := h1.bearsR j hj
    rw [if_pos hj] at h
    show 0 ≤ nth (d.up d.n).1 j ∧ nth (d.up d.n).1 j ≤ 4000
    omega
  · rw [Bool.not_eq_true]
    refine any_not_of fun b hm => ?_
    rw [(h1.binOk b hm).len, hB]; simp
  · rw [Bool.not_eq_true]
    unfold Flr.many
    rw [hB, hb, hT, offB_of (by omega), decide_eq_false (by omega), decide_eq_false (by omega), decide_eq_false (by omega)]; rfl
end Go.Proofs.Ytifgbnbkimcchaa

namespace Go.Proofs.Ytifgbnbkimcchaa
open Go Go.T
set_option maxHeartbeats 2000000
attribute [local irreducible] dInt dBool dSl dPp dPtr dAgg dTup dClo dAny dEx dStr dGd dCells dVec dVs dRow dOp nth Tri Into TOps Ctr bodyPost Exit.then Exit.inBlock Code.wp Code.wpIn dWhen dPa dPe dAo dArr dMp dPm dMap dCJ CtrG CtrI OpY keepPost iterPost bodyPostM roundQ
theorem binsUp_succ (n : Nat) (s : Sk) (k : Nat) : binsUp n s (k + 1) = ⟨bearUp (mkBin n (binsUp n s k)).shares (mkBin n (binsUp n s k)).has (binsUp n s k).bears n, (binsUp n s k).bins ++ [mkBin n (binsUp n s k)], (binsUp n s k).left ++ [(mkBin n (binsUp n s k)).has], (shUp n (skNext (binsUp n s k).sk) 4).2⟩ := rfl
theorem upsUp_succ (xs : List Int) (s : Sk) (k : Nat) : upsUp xs s (k + 1) = (if skRare (skNext (upsUp xs s k).2) 9 then downOne (upOne (upsUp xs s k).1 (upsUp xs s k).2 k) k else upOne (upsUp xs s k).1 (upsUp xs s k).2 k, skNext (skNext (upsUp xs s k).2)) := rfl
theorem trnsUp_succ (m : Nat) (l : List Int) (s : Sk) (k : Nat) : trnsUp m l s (k + 1) = ⟨leftOf (trnsUp m l s k).left (tkSrc m (trnsUp m l s k)) (tkSacks m (trnsUp m l s k)), (trnsUp m l s k).trn ++ [mkTrn m (trnsUp m l s k)], skNext (skNext (skNext (trnsUp m l s k).sk))⟩ := rfl
theorem rulesUp_succ2 (o : List Int) (T : Nat) (s : Sk) (k : Nat) : (rulesUp o T s (k + 1)).2 = skNext (skNext (rulesUp o T s k).2) := rfl
theorem rulesUp_yes (o : List Int) (T : Nat) (s : Sk) (k : Nat) (h : skBelow (rulesUp o T s k).2 T < skBelow (skNext (rulesUp o T s k).2) T) : (rulesUp o T s (k + 1)).1 = (rulesUp o T s k).1 ++ [⟨nth o (skBelow (rulesUp o T s k).2 T).toNat, nth o (skBelow (skNext (rulesUp o T s k).2) T).toNat⟩] := if_pos h
theorem rulesUp_no (o : List Int) (T : Nat) (s : Sk) (k : Nat) (h : ¬ skBelow (rulesUp o T s k).2 T < skBelow (skNext (rulesUp o T s k).2) T) : (rulesUp o T s (k + 1)).1 = (rulesUp o T s k).1 := if_neg h
attribute [local irreducible] skNext skBelow skAmong skRare bearUp shUp mkBin
theorem bn_zero (d : Md) : d.bn 0 = ⟨List.replicate d.n 0, [], [], skNext (skNext d.s)⟩ := by unfold Md.bn binsUp; rfl
theorem bn_succ (d : Md) (k : Nat) : d.bn (k + 1) = ⟨bearUp (mkBin d.n (d.bn k)).shares (mkBin d.n (d.bn k)).has (d.bn k).bears d.n, (d.bn k).bins ++ [mkBin d.n (d.bn k)], (d.bn k).left ++ [(mkBin d.n (d.bn k)).has], (shUp d.n (skNext (d.bn k).sk) 4).2⟩ := by unfold Md.bn; exact binsUp_succ _ _ _
theorem sh_zero (n : Nat) (s : Sk) : shUp n s 0 = (List.replicate n 0, s) := by unfold shUp; rfl
theorem sh_succ (n : Nat) (s : Sk) (k : Nat) : shUp n s (k + 1) = ((shUp n s k).1.set (skBelow (shUp n s k).2 n).toNat (nth (shUp n s k).1 (skBelow (shUp n s k).2 n).toNat + 1), skNext (shUp n s k).2) := by rw [shUp]
theorem bear_zero (sh : List Int) (has : Int) (b : List Int) : bearUp sh has b 0 = b := by rw [bearUp]
theorem bear_succ (sh : List Int) (has : Int) (b : List Int) (k : Nat) : bearUp sh has b (k + 1) = (bearUp sh has b k).set k (nth (bearUp sh has b k) k + nth sh k * has) := by rw [bearUp]
theorem up_zero (d : Md) : d.up 0 = ((d.bn d.m).bears, (d.bn d.m).sk) := by unfold Md.up upsUp; rfl
theorem up_sk (d : Md) (k : Nat) : (d.up (k + 1)).2 = skNext (skNext (d.up k).2) := by unfold Md.up; rw [upsUp_succ]
theorem up_yes (d : Md) (k : Nat) (h : skRare (skNext (d.up k).2) 9 = true) : (d.up (k + 1)).1 = downOne (upOne (d.up k).1 (d.up k).2 k) k := by unfold Md.up at *; rw [upsUp_succ]; exact if_pos h
theorem up_no (d : Md) (k : Nat) (h : skRare (skNext (d.up k).2) 9 = false) : (d.up (k + 1)).1 = upOne (d.up k).1 (d.up k).2 k := by unfold Md.up at *; rw [upsUp_succ]; exact if_neg (Bool.eq_false_iff.1 h)
theorem tk_zero (d : Md) : d.tk 0 = ⟨(d.bn d.m).left, [], skNext (d.up d.n).2⟩ := by unfold Md.tk trnsUp; rfl
theorem tk_succ (d : Md) (k : Nat) : d.tk (k + 1) = ⟨leftOf (d.tk k).left (tkSrc d.m (d.tk k)) (tkSacks d.m (d.tk k)), (d.tk k).trn ++ [mkTrn d.m (d.tk k)], skNext (skNext (skNext (d.tk k).sk))⟩ := by unfold Md.tk; rw [trnsUp_succ]
theorem ru_zero (d : Md) : d.ru 0 = ([], skNext d.order.2) := by unfold Md.ru rulesUp; rfl
theorem ru_sk (d : Md) (k : Nat) : (d.ru (k + 1)).2 = skNext (skNext (d.ru k).2) := by unfold Md.ru; rw [rulesUp_succ2]
theorem ru_yes (d : Md) (k : Nat) (h : skBelow (d.ru k).2 d.T < skBelow (skNext (d.ru k).2) d.T) : (d.ru (k + 1)).1 = (d.ru k).1 ++ [⟨nth d.order.1 (skBelow (d.ru k).2 d.T).toNat, nth d.order.1 (skBelow (skNext (d.ru k).2) d.T).toNat⟩] := by unfold Md.ru at *; exact rulesUp_yes _ _ _ _ h
theorem ru_no (d : Md) (k : Nat) (h : ¬ skBelow (d.ru k).2 d.T < skBelow (skNext (d.ru k).2) d.T) : (d.ru (k + 1)).1 = (d.ru k).1 := by unfold Md.ru at *; exact rulesUp_no _ _ _ _ h
theorem mkBin_has (n : Nat) (p : Mk) : (mkBin n p).has = skBelow p.sk 60 := by unfold mkBin; rfl
theorem mkBin_shares (n : Nat) (p : Mk) : (mkBin n p).shares = (shUp n (skNext p.sk) 4).1 := by unfold mkBin; rfl
theorem ne_of_hg {a b : Int} (h : (!decide (a = b)) = true) : a ≠ b := by simpa using h
theorem c_Shuf (s : Sk) (n m : Nat) (e : m = n) (hn : n ≤ 1000) (h : s.Ok (n + 1)) : CtrG Try.prog 54 [1000] [(1000, Cont.cells 158 (skTys s))] [Ty.ptr 1000 0, Ty.int .i64 (m : Nat)] [(1000, Cont.cells 158 (skTys (shufUp s n).2))] (Ty.sl I64 (shufUp s n).1) := by
  subst e; exact c_Shuffle s m hn h
theorem nil_row_eq {α : Type} {E : El α} {T tg : Nat} {xs : List α} (e : [] = xs) : (Ty.ex (.slice none 0 0)).Sub (Ty.row E T tg xs) := by subst e; exact Ty.nil_row
theorem sh_le {n : Nat} (hn : 1 ≤ n) (s : Sk) (k : Nat) {j : Nat} (hj : j < n) : 0 ≤ nth (shUp n s k).1 j ∧ nth (shUp n s k).1 j ≤ k := by
  obtain ⟨h1, h2, h3, _⟩ := sh_spec hn s k
  have h5 : ∀ x ∈ (shUp n s k).1, 0 ≤ x := mem_nth_of fun j hj => h3 j (by omega)
  have h6 := (le_sum_int h5).2 _ (nth_mem (show j < (shUp n s k).1.length by omega))
  rw [h2] at h6
  exact ⟨h3 j hj, h6⟩
theorem wrap_in {n : Int} (h : -9223372036854775808 ≤ n ∧ n ≤ 9223372036854775807) : IntKind.i64.wrap n = n := IntWalk.i64_in _ (by omega)
theorem sh_set {n : Nat} (hn : 1 ≤ n) (s : Sk) {k : Nat} (hk : k ≤ 4) : (shUp n s k).1.set (skBelow (shUp n s k).2 n).toNat (IntKind.i64.wrap (nth (shUp n s k).1 (skBelow (shUp n s k).2 n).toNat + 1)) = (shUp n s (k + 1)).1 := by
  have hb := below_in (s := (shUp n s k).2) hn
  have := sh_le hn s k (show (skBelow (shUp n s k).2 n).toNat < n by omega)
  rw [sh_succ, wrap_in (by omega)]
theorem bear_set {n k i : Nat} {s : Sk} {p : Mk} (hp : MkOk n k s p) (hk : k ≤ 5) (hi : i < n) {b : Bin} (hb : BinOk n b) : (bearUp b.shares b.has p.bears i).set i (IntKind.i64.wrap (nth (bearUp b.shares b.has p.bears i) i + IntKind.i64.wrap (nth b.shares i * b.has))) = bearUp b.shares b.has p.bears (i + 1) := by
  have h1 := hp.bearsR i hi
  have h2 := hb.rng i hi
  have h3 := hb.has
  have h4 : 0 ≤ nth b.shares i * b.has := Int.mul_nonneg h2.1 h3.1
  have h5 : nth b.shares i * b.has ≤ 4 * 59 := Int.mul_le_mul h2.2 h3.2 h3.1 (by omega)
  have h6 := (bear_spec b.shares b.has p.bears i).2 i (by rw [hp.bears]; exact hi)
  rw [if_neg (by omega)] at h6
  rw [bear_succ, wrap_in (n := nth b.shares i * b.has) (by omega), wrap_in (by omega)]
theorem up_bounds {d : Md} {i : Nat} (hi : i < d.n) : 0 ≤ nth (d.up i).1 i ∧ nth (d.up i).1 i ≤ 2000 ∧ (d.up i).1.length = d.n := by
  obtain ⟨h1, h2, _⟩ := d.upOk i
  have h3 := (d.bnOk d.m).bearsR i hi
  have h4 := h2 i hi
  have h5 := d.m_in
  rw [if_neg (by omega)] at h4
  omega
theorem up_set {d : Md} {i : Nat} (hi : i < d.n) : (d.up i).1.set i (IntKind.i64.wrap (nth (d.up i).1 i + skBelow (d.up i).2 90)) = upOne (d.up i).1 (d.up i).2 i := by
  have h := up_bounds hi
  have hb := skBelow_bound (d.up i).2 90
  rw [wrap_in (by omega)]; rfl
theorem up_set2 {d : Md} {i : Nat} (hi : i < d.n) : ((d.up i).1.set i (IntKind.i64.wrap (nth (d.up i).1 i + skBelow (d.up i).2 90))).set i (max 0 (IntKind.i64.wrap (nth ((d.up i).1.set i (IntKind.i64.wrap (nth (d.up i).1 i + skBelow (d.up i).2 90))) i - 60))) = downOne (upOne (d.up i).1 (d.up i).2 i) i := by
  have h := up_bounds hi
  have hb := skBelow_bound (d.up i).2 90
  rw [up_set hi]
  have e : nth (upOne (d.up i).1 (d.up i).2 i) i = nth (d.up i).1 i + skBelow (d.up i).2 90 := by
    unfold upOne; rw [nth_set_int, if_pos ⟨rfl, by omega⟩]
  rw [wrap_in (by rw [e]; omega)]; rfl
section
variable {m L : Nat} (e : L = m) (p : Tk)
include e
theorem src_yes (h : (!decide (skAmong p.sk (-1) ((L : Int) - 1) = -1) && decide (nth p.left (skAmong p.sk (-1) ((L : Int) - 1)).toNat = 0)) = true) : -1 = tkSrc m p := by
  subst e; unfold tkSrc srcOf; rw [if_pos (by simpa using h)]
theorem src_no (h : (!decide (skAmong p.sk (-1) ((L : Int) - 1) = -1) && decide (nth p.left (skAmong p.sk (-1) ((L : Int) - 1)).toNat = 0)) = false) : skAmong p.sk (-1) ((L : Int) - 1) = tkSrc m p := by
  subst e; unfold tkSrc srcOf; rw [if_neg (by intro hx; simp [hx.1, hx.2] at h)]
theorem dst_yes (h : tkSrc m p = skAmong (skNext p.sk) (-1) ((L : Int) - 1)) : modM (tkSrc m p + 1) L = tkDst m p := by
  subst e; unfold tkDst dstOf; rw [if_pos h]
theorem dst_no (h : ¬ tkSrc m p = skAmong (skNext p.sk) (-1) ((L : Int) - 1)) : skAmong (skNext p.sk) (-1) ((L : Int) - 1) = tkDst m p := by
  subst e; unfold tkDst dstOf; rw [if_neg h]
end
section
variable {m : Nat} {p : Tk}
theorem sacks_yes (h : ¬ tkSrc m p = -1) : min (skAmong (skNext (skNext p.sk)) 1 20) (nth p.left (tkSrc m p).toNat) = tkSacks m p := by
  unfold tkSacks sacksOf; rw [if_pos h]
theorem sacks_no (h : tkSrc m p = -1) : skAmong (skNext (skNext p.sk)) 1 20 = tkSacks m p := by
  unfold tkSacks sacksOf; rw [if_neg (fun x => x h)]
theorem left_no (h : tkSrc m p = -1) : p.left = leftOf p.left (tkSrc m p) (tkSacks m p) := by
  unfold leftOf; rw [if_neg (fun x => x h)]
theorem left_yes (h : ¬ tkSrc m p = -1) (hb : 0 ≤ nth p.left (tkSrc m p).toNat ∧ nth p.left (tkSrc m p).toNat ≤ 1000) : p.left.set (tkSrc m p).toNat (IntKind.i64.wrap (nth p.left (tkSrc m p).toNat - min (skAmong (skNext (skNext p.sk)) 1 20) (nth p.left (tkSrc m p).toNat))) = leftOf p.left (tkSrc m p) (tkSacks m p) := by
  have ha := among_in (s := skNext (skNext p.sk)) (show (1 : Int) ≤ 20 by omega)
  have hs := sacks_yes h
  rw [wrap_in (by omega), hs]
  unfold leftOf; rw [if_pos h]
end
theorem left_bound {d : Md} {k j : Nat} (hj : j < d.m) : 0 ≤ nth (d.tk k).left j ∧ nth (d.tk k).left j ≤ 1000 := by
  have h := d.tkOk k
  have h1 := h.pos j hj
  have h2 := h.took j hj
  have h3 := d.left_pos.2 j hj
  have h4 : 0 ≤ tookL (d.tk k).trn j := by
    unfold tookL
    refine (le_sum_int fun x hx => ?_).1
    obtain ⟨t, ht, rfl⟩ := List.mem_map.1 hx
    have := (h.trnOk t ht).sacks
    split <;> omega
  omega
theorem ru_at {d : Md} {k : Nat} (h : skBelow (d.ru k).2 (d.order.1.length : Nat) < skBelow (skNext (d.ru k).2) (d.order.1.length : Nat)) : (d.ru k).1 ++ [⟨nth d.order.1 (skBelow (d.ru k).2 (d.order.1.length : Nat)).toNat, nth d.order.1 (skBelow (skNext (d.ru k).2) (d.order.1.length : Nat)).toNat⟩] = (d.ru (k + 1)).1 := by
  have e := d.orderOk.1
  rw [e] at h ⊢
  exact (ru_yes d k h).symm
theorem ru_no2 {d : Md} {k : Nat} (h : ¬ skBelow (d.ru k).2 (d.order.1.length : Nat) < skBelow (skNext (d.ru k).2) (d.order.1.length : Nat)) : (d.ru k).1 = (d.ru (k + 1)).1 := by
  have e := d.orderOk.1
  rw [e] at h
  exact (ru_no d k h).symm
attribute [local irreducible] Md.bn Md.up Md.tk Md.ru shufUp
set_option maxRecDepth 100000 in
theorem c_Made5 (d : Md) (ht : d.t ≤ 8) (h : d.s.Ok 100) : CtrG Try.prog 52 [1000] [(1000, Cont.cells 158 (skTys d.s))] [Ty.ptr 1000 0, Ty.int .i64 (d.t : Nat)] [(1000, Cont.cells 158 (skTys d.sk))] (flrT d.flr) := by
  refine fnG_intro Try.func52 rfl (by decide) Try.ntmps52 (by exact Nat.le_of_ble_eq_true rfl) fun w0 M0 => ?_
  have h0 : 0 ≤ d.s.taken ∧ d.s.taken + 100 ≤ 4611686018427387904 := h
  have hn := d.n_in
  have hm := d.m_in
  have hs1 := skNext_taken d.s
  have hT := d.T_in
  have hR := d.R_in
  have htk1 : (skNext (skNext d.s)).taken = d.s.taken + 2 := by rw [skNext_taken, skNext_taken]; omega
  have hbm := d.bnOk d.m
  have hun := d.upOk d.n
  have htT := d.tkOk d.T
  have hor := d.orderOk
  have hlp := d.left_pos
  have hbmt := hbm.taken
  have hbmb := hbm.bins
  have htTl := htT.trn
  have hunt := hun.2.2
  have htTt := htT.taken
  have hort := hor.2.2.2
  have hq1 := skNext_taken (d.up d.n).2
  have hq2 := skNext_taken d.order.2
  refine t_seq ?_
  refine t_region ?_
  refine r_alloc rfl (by exact List.cons_ne_nil _ _) rfl ?_
  refine r_nil ?_
  refine i_then ?_
  refine t_seq ?_
  refine t_region ?_
  refine mvO rfl ?_
  refine r_callG [(1000, 1000)] [] [(1000, Cont.cells 158 (skTys (skNext d.s)))] (c_Among d.s ⟨by omega, by omega⟩ 1 4 (by omega) (by omega)) rfl rfl (by repeat (first | exact cv_nil | refine cv_cons ?_ ?_ | exact cv_ptr List.mem_cons_self | exact cv_pub rfl rfl)) (pre_cons (a := 1000) (b := 1000) (by exact List.mem_cons_self) rfl (cc_cells_eq (by exact List.mem_cons_self) rfl rfl rfl) pre_nil) (post_cons (a := 1000) (b := 1000) (by exact List.mem_cons_self) rfl (cc_cells_eq (by exact List.mem_cons_self) rfl rfl rfl) post_nil) (cv_pub rfl rfl) ?_
  refine r_makeV (E := I64) rfl rfl rfl rfl rfl rfl rfl (by decide) rfl (by omega) (by (dsimp only; omega)) (by omega) ?_
  refine r_build rfl rfl (by exact List.cons_ne_nil _ _) rfl (by repeat (first | exact (Parts.nil : Parts _ _ [] _) | (show Parts _ _ ((_, _) :: _) _; apply Parts.one; (· exact (rfl : _ = Ty.vs _ _)); (· exact rfl)))) (by exact (rfl : _ = some [_, _, _, _])) ?_
  refine r_alloc rfl (by exact List.cons_ne_nil _ _) rfl ?_
  refine r_storeN rfl rfl (by decide) rfl rfl rfl rfl rfl rfl ?_
  refine r_nil ?_
  refine i_then ?_
  refine t_seq ?_
  refine t_region ?_
  refine asX rfl ?_
  refine r_nil ?_
  refine i_then ?_
  refine t_seq ?_
  refine t_seq ?_
  refine t_region ?_
  refine mvO rfl ?_
  refine r_callG [(1000, 1000)] [] [(1000, Cont.cells 158 (skTys (skNext (skNext d.s))))] (c_Among (skNext d.s) ⟨by omega, by omega⟩ 2 5 (by omega) (by omega)) rfl rfl (by repeat (first | exact cv_nil | refine cv_cons ?_ ?_ | exact cv_ptr List.mem_cons_self | exact cv_pub rfl rfl)) (pre_cons (a := 1000) (b := 1000) (by exact List.mem_cons_self) rfl (cc_cells_eq (by exact List.mem_cons_self) rfl rfl rfl) pre_nil) (post_cons (a := 1000) (b := 1000) (by exact List.mem_cons_self) rfl (cc_cells_eq (by exact List.mem_cons_self) rfl rfl rfl) post_nil) (cv_pub rfl rfl) ?_
  refine mvI rfl ?_
  refine r_nil ?_
  refine i_then ?_
  refine t_block ?_
  refine t_loop (fun (k : {k : Nat // k ≤ d.m}) => live [(0, Ty.ptr 1000 0), (1, Ty.int .i64 (d.t : Nat)), (4, Ty.ptr 5 0), (5, Ty.ptr 6 0), (6, Ty.row I64 3 76 (d.bn k.1).left), (22, Ty.int .i64 (d.m : Nat)), (23, Ty.int .i64 (k.1 : Nat))] [(1000, Cont.cells 158 (skTys (d.bn k.1).sk)), (5, Cont.cells 27 [Ty.ex (.slice none 0 0), Ty.ex (.slice none 0 0), Ty.ex (.slice none 0 0), Ty.ex (.slice none 0 0)]), (6, Cont.cells 27 [Ty.vs 20 d.n, Ty.row BinE 79 71 (d.bn k.1).bins, Ty.row TrnE 99 171 [], Ty.row RulE 69 206 []]), (20, Cont.vec I64 3 (d.bn k.1).bears)]) (fun k => d.m - k.1) (⟨0, by omega⟩) ?_ fun k => ?_
  · (refine Ent.mk' ?_ ?_ <;> (repeat' (first | exact allSub_zero | exact allTags_nil | exact subs_nil | refine allSub_succ' ?_ (Ty.sub_any _) | refine allSub_succ' ?_ (Ty.sub_refl _) | refine allTags_cons rfl (Cont.sub_refl _) ?_ | refine allTags_cons rfl (Cont.sub_subs ?_) ?_ | refine subs_cons ?_ (Ty.sub_refl _) | refine subs_cons ?_ Ty.nil_row | refine subs_cons ?_ ?_ | refine allTags_cons rfl ?_ ?_ | refine allSub_succ' ?_ ?_)))
    all_goals first | exact Ty.sub_int d.m_in.2.2.symm | exact Ty.sub_int (congrArg (fun p => p.sk.mixed) (bn_zero d).symm) | exact Ty.sub_int (congrArg (fun p => p.sk.taken) (bn_zero d).symm) | exact Ty.sub_sl (congrArg (fun p => p.sk.grain) (bn_zero d).symm) | exact nil_row_eq (congrArg Mk.left (bn_zero d)).symm | exact nil_row_eq (congrArg Mk.bins (bn_zero d)).symm | exact Cont.sub_vec (congrArg Mk.bears (bn_zero d)).symm
  ·
    have hk := k.2
    have hbk := d.bnOk k.1
    have hbt := hbk.taken
    have hbk1 := hbk.bins
    have hbk2 : (d.bn k.1).left.length = k.1 := by rw [hbk.left, List.length_map, hbk.bins]
    have hmb := mkBin_ok d.n_in.1 (d.bn k.1)
    refine t_seq ?_
    refine t_region ?_
    refine r_bin rfl rfl rfl ?_
    refine r_nil ?_
    refine i_then ?_
    refine t_seq ?_
    refine t_cond_dec rfl (fun hc1 => ?_) (fun hc1 => ?_)
    ·
      refine t_skip ?_
      refine i_then ?_
      refine t_seq ?_
      refine t_block ?_
      refine t_seq ?_
      have hok : (d.bn k.1).sk.Ok 1 := ⟨by omega, by omega⟩
      refine t_draw mixed rfl ?_
      refine mvO rfl ?_
      refine r_callG [(1000, 1000)] [] [(1000, Cont.cells 158 (skTys (skNext (d.bn k.1).sk)))] (c_Below (d.bn k.1).sk hok _) rfl rfl (by repeat (first | exact cv_nil | refine cv_cons ?_ ?_ | exact cv_ptr List.mem_cons_self | exact cv_pub rfl rfl)) (pre_cons (a := 1000) (b := 1000) (by exact List.mem_cons_self) rfl (cc_cells_eq (by exact List.mem_cons_self) rfl rfl rfl) pre_nil) (post_cons (a := 1000) (b := 1000) (by exact List.mem_cons_self) rfl (cc_cells_eq (by exact List.mem_cons_self) rfl rfl rfl) post_nil) (cv_pub rfl rfl) ?_
      refine r_field_ptr rfl rfl rfl rfl rfl (by decide) ?_
      refine r_load_ptr rfl rfl (by decide) rfl rfl rfl ?_
      refine r_len_vs rfl rfl rfl ?_
      refine r_makeV (E := I64) rfl rfl rfl rfl rfl rfl rfl (by decide) rfl (by omega) (by (dsimp only; omega)) (by omega) ?_
      refine r_build rfl rfl (by exact List.cons_ne_nil _ _) rfl (by repeat (first | exact (Parts.nil : Parts _ _ [] _) | (show Parts _ _ ((_, _) :: _) _; apply Parts.one; (· first | exact (rfl : _ = Ty.int _ _) | exact (rfl : _ = Ty.vs _ _)); (· exact rfl)))) (by exact (rfl : _ = some [_, _])) ?_
      refine r_alloc rfl (by exact List.cons_ne_nil _ _) rfl ?_
      refine r_storeN rfl rfl (by decide) rfl rfl rfl rfl rfl rfl ?_
      refine r_nil ?_
      refine ⟨by kernel_rfl, ?_⟩
      refine i_then ?_
      refine t_seq ?_
      refine t_seq ?_
      refine t_region ?_
      refine mvI rfl ?_
      refine r_nil ?_
      refine i_then ?_
      refine t_block ?_
      refine t_loop (fun (j : {j : Nat // j ≤ 4}) => live [(0, Ty.ptr 1000 0), (1, Ty.int .i64 (d.t : Nat)), (4, Ty.ptr 5 0), (5, Ty.ptr 6 0), (6, Ty.row I64 3 76 (d.bn k.1).left), (7, Ty.ptr 8 0), (22, Ty.int .i64 (d.m : Nat)), (23, Ty.int .i64 (k.1 : Nat)), (32, Ty.int .i64 (j.1 : Nat))] [(1000, Cont.cells 158 (skTys (shUp d.n (skNext (d.bn k.1).sk) j.1).2)), (5, Cont.cells 27 [Ty.ex (.slice none 0 0), Ty.ex (.slice none 0 0), Ty.ex (.slice none 0 0), Ty.ex (.slice none 0 0)]), (6, Cont.cells 27 [Ty.vs 20 d.n, Ty.row BinE 79 71 (d.bn k.1).bins, Ty.row TrnE 99 171 [], Ty.row RulE 69 206 []]), (20, Cont.vec I64 3 (d.bn k.1).bears), (8, Cont.cells 79 [Ty.int .i64 (mkBin d.n (d.bn k.1)).has, Ty.vs 31 d.n]), (31, Cont.vec I64 3 (shUp d.n (skNext (d.bn k.1).sk) j.1).1)]) (fun j => 4 - j.1) (⟨0, by omega⟩) ?_ fun j => ?_
      · (refine Ent.mk' ?_ ?_ <;> (repeat' (first | exact allSub_zero | exact allTags_nil | exact subs_nil | refine allSub_succ' ?_ (Ty.sub_any _) | refine allSub_succ' ?_ (Ty.sub_refl _) | refine allTags_cons rfl (Cont.sub_refl _) ?_ | refine allTags_cons rfl (Cont.sub_subs ?_) ?_ | refine subs_cons ?_ (Ty.sub_refl _) | refine subs_cons ?_ ?_ | refine allTags_cons rfl ?_ ?_)))
        all_goals first | exact Ty.sub_int (congrArg (fun p => p.2.mixed) (sh_zero d.n (skNext (d.bn k.1).sk)).symm) | exact Ty.sub_int (congrArg (fun p => p.2.taken) (sh_zero d.n (skNext (d.bn k.1).sk)).symm) | exact Ty.sub_sl (congrArg (fun p => p.2.grain) (sh_zero d.n (skNext (d.bn k.1).sk)).symm) | exact Ty.sub_int (mkBin_has _ _).symm | exact Cont.sub_vec (congrArg Prod.fst (sh_zero d.n (skNext (d.bn k.1).sk))).symm
      ·
        have hj := j.2
        have hsh := sh_spec d.n_in.1 (skNext (d.bn k.1).sk) j.1
        have hst := skNext_taken (d.bn k.1).sk
        refine t_seq ?_
        refine t_region ?_
        refine r_bin rfl rfl rfl ?_
        refine r_nil ?_
        refine i_then ?_
        refine t_seq ?_
        refine t_cond_dec rfl (fun hc2 => ?_) (fun hc2 => ?_)
        ·
          refine t_skip ?_
          refine i_then ?_
          refine t_seq ?_
          refine t_block ?_
          have hok : (shUp d.n (skNext (d.bn k.1).sk) j.1).2.Ok 1 := ⟨by omega, by omega⟩
          have hbi := below_in (s := (shUp d.n (skNext (d.bn k.1).sk) j.1).2) d.n_in.1
          refine t_draw mixed rfl ?_
          refine r_field_ptr rfl rfl rfl rfl rfl (by decide) ?_
          refine r_load_ptr rfl rfl (by decide) rfl rfl rfl ?_
          refine mvO rfl ?_
          refine r_field_ptr rfl rfl rfl rfl rfl (by decide) ?_
          refine r_load_ptr rfl rfl (by decide) rfl rfl rfl ?_
          refine r_len_vs rfl rfl rfl ?_
          refine r_callG [(1000, 1000)] [] [(1000, Cont.cells 158 (skTys (skNext (shUp d.n (skNext (d.bn k.1).sk) j.1).2)))] (c_Below (shUp d.n (skNext (d.bn k.1).sk) j.1).2 hok _) rfl rfl (by repeat (first | exact cv_nil | refine cv_cons ?_ ?_ | exact cv_ptr List.mem_cons_self | exact cv_pub rfl rfl)) (pre_cons (a := 1000) (b := 1000) (by exact List.mem_cons_self) rfl (cc_cells_eq (by exact List.mem_cons_self) rfl rfl rfl) pre_nil) (post_cons (a := 1000) (b := 1000) (by exact List.mem_cons_self) rfl (cc_cells_eq (by exact List.mem_cons_self) rfl rfl rfl) post_nil) (cv_pub rfl rfl) ?_
          refine r_index_vsI rfl rfl rfl rfl rfl (by omega) (by omega) ?_
          refine r_load_vecB rfl rfl rfl (by decide) rfl rfl (by omega) rfl ?_
          refine r_bin rfl rfl rfl ?_
          refine r_index_vsI rfl rfl rfl rfl rfl (by omega) (by omega) ?_
          refine r_store_vecB rfl rfl rfl (by decide) rfl rfl (by exact (rfl : _ = Ty.int _ _)) rfl (by omega) (by decide) rfl rfl ?_
          refine r_nil ?_
          refine ⟨by kernel_rfl, ?_⟩
          refine i_block ?_
          refine i_then ?_
          refine t_region ?_
          refine r_add rfl rfl (by omega) (by omega) ?_
          refine mvI rfl ?_
          refine r_nil ?_
          refine i_round (⟨j.1 + 1, by omega⟩) ?_ (by show 4 - (j.1 + 1) < 4 - j.1; omega)
          (refine Ent.mk' ?_ ?_ <;> (repeat' (first | exact allSub_zero | exact allTags_nil | exact subs_nil | refine allSub_succ' ?_ (Ty.sub_any _) | refine allSub_succ' ?_ (Ty.sub_refl _) | refine allTags_cons rfl (Cont.sub_refl _) ?_ | refine allTags_cons rfl (Cont.sub_subs ?_) ?_ | refine subs_cons ?_ ?_ | refine allTags_cons rfl ?_ ?_)))
          all_goals skip
          all_goals first | exact Ty.sub_int (congrArg (fun p => p.2.mixed) (sh_succ d.n (skNext (d.bn k.1).sk) j.1).symm) | exact Ty.sub_int (congrArg (fun p => p.2.taken) (sh_succ d.n (skNext (d.bn k.1).sk) j.1).symm) | exact Ty.sub_sl (congrArg (fun p => p.2.grain) (sh_succ d.n (skNext (d.bn k.1).sk) j.1).symm) | exact Cont.sub_vec (sh_set d.n_in.1 (skNext (d.bn k.1).sk) j.2)
        ·
          refine t_exit ?_
          refine i_then_exit ?_
          refine i_then_exit ?_
          refine i_block_exit rfl ?_
          refine i_then ?_
          refine t_seq ?_
          refine t_seq ?_
          have hx : ¬ (j.1 : Int) < 4 := hc2
          obtain ⟨j, hx2⟩ := j
          obtain rfl : j = 4 := by simp only at hx; omega
          refine t_region ?_
          refine r_field_ptr rfl rfl rfl rfl rfl (by decide) ?_
          refine r_load_ptr rfl rfl (by decide) rfl rfl rfl ?_
          refine r_len_vs rfl rfl rfl ?_
          refine mvI rfl ?_
          refine r_nil ?_
          refine i_then ?_
          refine t_block ?_
          refine t_loop (fun (i : {i : Nat // i ≤ d.n}) => live [(0, Ty.ptr 1000 0), (1, Ty.int .i64 (d.t : Nat)), (4, Ty.ptr 5 0), (5, Ty.ptr 6 0), (6, Ty.row I64 3 76 (d.bn k.1).left), (7, Ty.ptr 8 0), (22, Ty.int .i64 (d.m : Nat)), (23, Ty.int .i64 (k.1 : Nat)), (47, Ty.vs 31 d.n), (48, Ty.int .i64 (d.n : Nat)), (49, Ty.int .i64 (i.1 : Nat))] [(1000, Cont.cells 158 (skTys (shUp d.n (skNext (d.bn k.1).sk) 4).2)), (5, Cont.cells 27 [Ty.ex (.slice none 0 0), Ty.ex (.slice none 0 0), Ty.ex (.slice none 0 0), Ty.ex (.slice none 0 0)]), (6, Cont.cells 27 [Ty.vs 20 d.n, Ty.row BinE 79 71 (d.bn k.1).bins, Ty.row TrnE 99 171 [], Ty.row RulE 69 206 []]), (20, Cont.vec I64 3 (bearUp (mkBin d.n (d.bn k.1)).shares (mkBin d.n (d.bn k.1)).has (d.bn k.1).bears i.1)), (8, Cont.cells 79 [Ty.int .i64 (mkBin d.n (d.bn k.1)).has, Ty.vs 31 d.n]), (31, Cont.vec I64 3 (mkBin d.n (d.bn k.1)).shares)]) (fun i => d.n - i.1) (⟨0, by omega⟩) ?_ fun i => ?_
          · (refine Ent.mk' ?_ ?_ <;> (repeat' (first | exact allSub_zero | exact allTags_nil | refine allSub_succ' ?_ (Ty.sub_any _) | refine allSub_succ' ?_ (Ty.sub_refl _) | refine allTags_cons rfl (Cont.sub_refl _) ?_ | refine allTags_cons rfl ?_ ?_)))
            all_goals first | exact Cont.sub_vec (bear_zero _ _ _).symm | exact Cont.sub_vec (mkBin_shares _ _).symm
          ·
            have hi := i.2
            have hbe := bear_spec (mkBin d.n (d.bn k.1)).shares (mkBin d.n (d.bn k.1)).has (d.bn k.1).bears i.1
            have hbe1 := hbe.1
            have hbkb := hbk.bears
            have hmbl := hmb.len
            refine t_seq ?_
            refine t_region ?_
            refine r_bin rfl rfl rfl ?_
            refine r_nil ?_
            refine i_then ?_
            refine t_seq ?_
            refine t_cond_dec rfl (fun hc3 => ?_) (fun hc3 => ?_)
            ·
              refine t_skip ?_
              refine i_then ?_
              refine t_seq ?_
              refine t_block ?_
              refine t_seq ?_
              refine t_region ?_
              refine mvI rfl ?_
              refine r_index_vs rfl rfl rfl rfl rfl (by omega) ?_
              refine r_load_vecB rfl rfl rfl (by decide) rfl rfl (by omega) rfl ?_
              refine asI rfl ?_
              refine asI rfl ?_
              refine r_nil ?_
              refine i_then ?_
              refine t_draw mixed rfl ?_
              refine r_field_ptr rfl rfl rfl rfl rfl (by decide) ?_
              refine r_load_ptr rfl rfl (by decide) rfl rfl rfl ?_
              refine mvI rfl ?_
              refine r_index_vs rfl rfl rfl rfl rfl (by omega) ?_
              refine r_load_vecB rfl rfl rfl (by decide) rfl rfl (by omega) rfl ?_
              refine mvI rfl ?_
              refine r_field_ptr rfl rfl rfl rfl rfl (by decide) ?_
              refine r_load_ptr rfl rfl (by decide) rfl rfl rfl ?_
              refine r_bin rfl rfl rfl ?_
              refine r_bin rfl rfl rfl ?_
              refine r_index_vs rfl rfl rfl rfl rfl (by omega) ?_
              refine r_store_vecB rfl rfl rfl (by decide) rfl rfl (by exact (rfl : _ = Ty.int _ _)) rfl (by omega) (by decide) rfl rfl ?_
              refine r_nil ?_
              refine ⟨by kernel_rfl, ?_⟩
              refine i_block ?_
              refine i_then ?_
              refine t_region ?_
              refine r_add rfl rfl (by omega) (by omega) ?_
              refine mvI rfl ?_
              refine r_nil ?_
              refine i_round (⟨i.1 + 1, by omega⟩) ?_ (by show d.n - (i.1 + 1) < d.n - i.1; omega)
              (refine Ent.mk' ?_ ?_ <;> (repeat' (first | exact allSub_zero | exact allTags_nil | refine allSub_succ' ?_ (Ty.sub_any _) | refine allSub_succ' ?_ (Ty.sub_refl _) | refine allTags_cons rfl (Cont.sub_refl _) ?_ | refine allTags_cons rfl ?_ ?_)))
              all_goals skip
              all_goals exact Cont.sub_vec (bear_set hbk (by omega) (by omega) hmb)
            ·
              refine t_exit ?_
              refine i_then_exit ?_
              refine i_then_exit ?_
              refine i_block_exit rfl ?_
              refine i_then ?_
              have hx : ¬ (i.1 : Int) < (d.n : Nat) := hc3
              obtain ⟨i, hx2⟩ := i
              obtain rfl : i = d.n := by simp only at hx; omega
              refine t_pubC (tg := 31) [] [(8, Cont.cells 79 [Ty.int .i64 (mkBin d.n (d.bn k.1)).has, Ty.sl I64 (mkBin d.n (d.bn k.1)).shares])] (by decide) rfl trivial ⟨pubC_cells rfl rfl ⟨pubTy_same rfl, pubTy_vs rfl hmb.len (by decide), trivial⟩, trivial⟩ ?_
              refine t_draw mixed rfl ?_
              refine r_field_ptr rfl rfl rfl rfl rfl (by decide) ?_
              refine r_load_ptr rfl rfl (by decide) rfl rfl rfl ?_
              refine r_load_ptrN rfl rfl (by decide) rfl rfl (by exact Nat.le_of_ble_eq_true rfl) ?_
              refine r_buildSlice (E := BinE) (xs := [mkBin d.n (d.bn k.1)]) rfl rfl rfl rfl rfl (by decide) (by decide) (by repeat (first | exact (Parts.nil : Parts _ _ [] _) | (show Parts _ _ ((_, _) :: _) _; apply Parts.agg; (· exact (rfl : _ = Ty.agg _))))) (by exact rfl) rfl ?_
              refine r_append rfl rfl (by decide) rfl rfl rfl rfl rfl rfl (by decide) (by (simp <;> omega)) (by (simp <;> omega)) ?_
              refine mvR rfl ?_
              refine r_field_ptr rfl rfl rfl rfl rfl (by decide) ?_
              refine r_load_ptr rfl rfl (by decide) rfl rfl rfl ?_
              refine r_buildSlice (E := I64) (xs := [_]) rfl rfl rfl rfl rfl (by decide) (by decide) (by repeat (first | exact (Parts.nil : Parts _ _ [] _) | (show Parts _ _ ((_, _) :: _) _; apply Parts.one; (· exact (rfl : _ = Ty.int _ _)); (· exact rfl)))) (by exact rfl) rfl ?_
              refine r_append rfl rfl (by decide) rfl rfl rfl rfl rfl rfl (by decide) (by (simp <;> omega)) (by (simp <;> omega)) ?_
              refine r_field_ptr rfl rfl rfl rfl rfl (by decide) ?_
              refine r_store1 rfl rfl (by decide) rfl rfl (by exact (rfl : _ = Ty.row _ _ _ _)) rfl (by exact Nat.le_of_ble_eq_true rfl) rfl rfl (by exact rfl) ?_
              refine asR rfl ?_
              refine r_nil ?_
              refine ⟨by kernel_rfl, ?_⟩
              refine i_block ?_
              refine i_then ?_
              refine t_region ?_
              refine r_add rfl rfl (by omega) (by omega) ?_
              refine mvI rfl ?_
              refine r_nil ?_
              refine i_round (⟨k.1 + 1, by omega⟩) ?_ (by show d.m - (k.1 + 1) < d.m - k.1; omega)
              (refine Ent.mk' ?_ ?_ <;> (repeat' (first | exact allSub_zero | exact allTags_nil | exact subs_nil | refine allSub_succ' ?_ (Ty.sub_any _) | refine allSub_succ' ?_ (Ty.sub_refl _) | refine allTags_cons rfl (Cont.sub_refl _) ?_ | refine allTags_cons rfl (Cont.sub_subs ?_) ?_ | refine subs_cons ?_ (Ty.sub_refl _) | refine subs_cons ?_ ?_ | refine allTags_cons rfl ?_ ?_ | refine allSub_succ' ?_ ?_)))
              all_goals skip
              all_goals first | exact Ty.sub_int (congrArg (fun p => p.sk.mixed) (bn_succ d k.1).symm) | exact Ty.sub_int (congrArg (fun p => p.sk.taken) (bn_succ d k.1).symm) | exact Ty.sub_sl (congrArg (fun p => p.sk.grain) (bn_succ d k.1).symm) | exact Ty.sub_row (congrArg Mk.bins (bn_succ d k.1)).symm | exact Cont.sub_vec (congrArg Mk.bears (bn_succ d k.1)).symm | exact Ty.sub_row (congrArg Mk.left (bn_succ d k.1)).symm
    ·
      refine t_exit ?_
      refine i_then_exit ?_
      refine i_then_exit ?_
      refine i_block_exit rfl ?_
      refine i_then ?_
      refine t_seq ?_
      refine t_seq ?_
      have hx : ¬ (k.1 : Int) < (d.m : Nat) := hc1
      obtain ⟨k, hx2⟩ := k
      obtain rfl : k = d.m := by simp only at hx; omega
      refine t_region ?_
      refine r_field_ptr rfl rfl rfl rfl rfl (by decide) ?_
      refine r_load_ptr rfl rfl (by decide) rfl rfl rfl ?_
      refine r_len_vs rfl rfl rfl ?_
      refine mvI rfl ?_
      refine r_nil ?_
      refine i_then ?_
      refine t_block ?_
      refine t_loop (fun (i : {i : Nat // i ≤ d.n}) => live [(0, Ty.ptr 1000 0), (1, Ty.int .i64 (d.t : Nat)), (4, Ty.ptr 5 0), (5, Ty.ptr 6 0), (6, Ty.row I64 3 76 (d.bn d.m).left), (80, Ty.int .i64 (d.n : Nat)), (81, Ty.int .i64 (i.1 : Nat))] [(1000, Cont.cells 158 (skTys (d.up i.1).2)), (5, Cont.cells 27 [Ty.ex (.slice none 0 0), Ty.ex (.slice none 0 0), Ty.ex (.slice none 0 0), Ty.ex (.slice none 0 0)]), (6, Cont.cells 27 [Ty.vs 20 d.n, Ty.row BinE 79 71 (d.bn d.m).bins, Ty.row TrnE 99 171 [], Ty.row RulE 69 206 []]), (20, Cont.vec I64 3 (d.up i.1).1)]) (fun i => d.n - i.1) (⟨0, by omega⟩) ?_ fun i => ?_
      · (refine Ent.mk' ?_ ?_ <;> (repeat' (first | exact allSub_zero | exact allTags_nil | exact subs_nil | refine allSub_succ' ?_ (Ty.sub_any _) | refine allSub_succ' ?_ (Ty.sub_refl _) | refine allTags_cons rfl (Cont.sub_refl _) ?_ | refine allTags_cons rfl (Cont.sub_subs ?_) ?_ | refine subs_cons ?_ ?_ | refine allTags_cons rfl ?_ ?_)))
        all_goals first | exact Ty.sub_int (congrArg (fun p => p.2.mixed) (up_zero d).symm) | exact Ty.sub_int (congrArg (fun p => p.2.taken) (up_zero d).symm) | exact Ty.sub_sl (congrArg (fun p => p.2.grain) (up_zero d).symm) | exact Cont.sub_vec (congrArg Prod.fst (up_zero d)).symm
      ·
        have hi := i.2
        have hup := d.upOk i.1
        have hupt := hup.2.2
        have hun1 := skNext_taken (d.up i.1).2
        refine t_seq ?_
        refine t_region ?_
        refine r_bin rfl rfl rfl ?_
        refine r_nil ?_
        refine i_then ?_
        refine t_seq ?_
        refine t_cond_dec rfl (fun hc4 => ?_) (fun hc4 => ?_)
        ·
          refine t_skip ?_
          refine i_then ?_
          refine t_seq ?_
          refine t_block ?_
          refine t_seq ?_
          refine t_region ?_
          refine mvI rfl ?_
          refine asI rfl ?_
          refine r_nil ?_
          refine i_then ?_
          refine t_seq ?_
          refine t_draw mixed rfl ?_
          refine r_field_ptr rfl rfl rfl rfl rfl (by decide) ?_
          refine r_load_ptr rfl rfl (by decide) rfl rfl rfl ?_
          refine mvI rfl ?_
          refine r_index_vs rfl rfl rfl rfl rfl (by omega) ?_
          refine r_load_vecB rfl rfl rfl (by decide) rfl rfl (by omega) rfl ?_
          refine mvO rfl ?_
          refine r_callG [(1000, 1000)] [] [(1000, Cont.cells 158 (skTys (skNext (d.up i.1).2)))] (c_Below (d.up i.1).2 ⟨by omega, by omega⟩ _) rfl rfl (by repeat (first | exact cv_nil | refine cv_cons ?_ ?_ | exact cv_ptr List.mem_cons_self | exact cv_pub rfl rfl)) (pre_cons (a := 1000) (b := 1000) (by exact List.mem_cons_self) rfl (cc_cells_eq (by exact List.mem_cons_self) rfl rfl rfl) pre_nil) (post_cons (a := 1000) (b := 1000) (by exact List.mem_cons_self) rfl (cc_cells_eq (by exact List.mem_cons_self) rfl rfl rfl) post_nil) (cv_pub rfl rfl) ?_
          refine r_bin rfl rfl rfl ?_
          refine r_index_vs rfl rfl rfl rfl rfl (by omega) ?_
          refine r_store_vecB rfl rfl rfl (by decide) rfl rfl (by exact (rfl : _ = Ty.int _ _)) rfl (by omega) (by decide) rfl rfl ?_
          refine r_nil ?_
          refine ⟨by kernel_rfl, ?_⟩
          refine i_then ?_
          refine t_seq ?_
          refine t_region ?_
          refine mvO rfl ?_
          refine r_callG [(1000, 1000)] [] [(1000, Cont.cells 158 (skTys (skNext (skNext (d.up i.1).2))))] (c_Rare (skNext (d.up i.1).2) ⟨by omega, by omega⟩ _) rfl rfl (by repeat (first | exact cv_nil | refine cv_cons ?_ ?_ | exact cv_ptr List.mem_cons_self | exact cv_pub rfl rfl)) (pre_cons (a := 1000) (b := 1000) (by exact List.mem_cons_self) rfl (cc_cells_eq (by exact List.mem_cons_self) rfl rfl rfl) pre_nil) (post_cons (a := 1000) (b := 1000) (by exact List.mem_cons_self) rfl (cc_cells_eq (by exact List.mem_cons_self) rfl rfl rfl) post_nil) (cv_pub rfl rfl) ?_
          refine r_nil ?_
          refine i_then ?_
          refine t_cond rfl (fun hc5 => ?_) (fun hc5 => ?_)
          ·
            refine t_draw mixed rfl ?_
            refine r_field_ptr rfl rfl rfl rfl rfl (by decide) ?_
            refine r_load_ptr rfl rfl (by decide) rfl rfl rfl ?_
            refine mvI rfl ?_
            refine r_field_ptr rfl rfl rfl rfl rfl (by decide) ?_
            refine r_load_ptr rfl rfl (by decide) rfl rfl rfl ?_
            refine mvI rfl ?_
            refine r_index_vs rfl rfl rfl rfl rfl (by omega) ?_
            refine r_load_vecB rfl rfl rfl (by decide) rfl rfl (by (simp <;> omega)) rfl ?_
            refine r_bin rfl rfl rfl ?_
            refine r_max rfl rfl ?_
            refine r_index_vs rfl rfl rfl rfl rfl (by omega) ?_
            refine r_store_vecB rfl rfl rfl (by decide) rfl rfl (by exact (rfl : _ = Ty.int _ _)) rfl (by (simp <;> omega)) (by decide) rfl rfl ?_
            refine r_nil ?_
            refine ⟨by kernel_rfl, ?_⟩
            refine i_block ?_
            refine i_then ?_
            refine t_region ?_
            refine r_add rfl rfl (by omega) (by omega) ?_
            refine mvI rfl ?_
            refine r_nil ?_
            refine i_round (⟨i.1 + 1, by omega⟩) ?_ (by show d.n - (i.1 + 1) < d.n - i.1; omega)
            (refine Ent.mk' ?_ ?_ <;> (repeat' (first | exact allSub_zero | exact allTags_nil | exact subs_nil | refine allSub_succ' ?_ (Ty.sub_any _) | refine allSub_succ' ?_ (Ty.sub_refl _) | refine allTags_cons rfl (Cont.sub_refl _) ?_ | refine allTags_cons rfl (Cont.sub_subs ?_) ?_ | refine subs_cons ?_ ?_ | refine allTags_cons rfl ?_ ?_)))
            all_goals skip
            all_goals first | exact Ty.sub_int (congrArg Sk.mixed (up_sk d i.1)).symm | exact Ty.sub_int (congrArg Sk.taken (up_sk d i.1)).symm | exact Ty.sub_sl (congrArg Sk.grain (up_sk d i.1)).symm | exact Cont.sub_vec ((up_set2 (by omega)).trans (up_yes d i.1 hc5).symm)
          ·
            refine t_skip ?_
            refine i_block ?_
            refine i_then ?_
            refine t_region ?_
            refine r_add rfl rfl (by omega) (by omega) ?_
            refine mvI rfl ?_
            refine r_nil ?_
            refine i_round (⟨i.1 + 1, by omega⟩) ?_ (by show d.n - (i.1 + 1) < d.n - i.1; omega)
            (refine Ent.mk' ?_ ?_ <;> (repeat' (first | exact allSub_zero | exact allTags_nil | exact subs_nil | refine allSub_succ' ?_ (Ty.sub_any _) | refine allSub_succ' ?_ (Ty.sub_refl _) | refine allTags_cons rfl (Cont.sub_refl _) ?_ | refine allTags_cons rfl (Cont.sub_subs ?_) ?_ | refine subs_cons ?_ ?_ | refine allTags_cons rfl ?_ ?_)))
            all_goals skip
            all_goals first | exact Ty.sub_int (congrArg Sk.mixed (up_sk d i.1)).symm | exact Ty.sub_int (congrArg Sk.taken (up_sk d i.1)).symm | exact Ty.sub_sl (congrArg Sk.grain (up_sk d i.1)).symm | exact Cont.sub_vec ((up_set (by omega)).trans (up_no d i.1 hc5).symm)
        ·
          refine t_exit ?_
          refine i_then_exit ?_
          refine i_then_exit ?_
          refine i_block_exit rfl ?_
          refine i_then ?_
          refine t_seq ?_
          refine t_seq ?_
          have hx : ¬ (i.1 : Int) < (d.n : Nat) := hc4
          obtain ⟨i, hx2⟩ := i
          obtain rfl : i = d.n := by simp only at hx; omega
          refine t_own (s := 6) rfl rfl ?_
          refine t_region ?_
          refine mvO rfl ?_
          refine mvI rfl ?_
          refine r_add rfl rfl (by omega) (by omega) ?_
          refine r_callG [(1000, 1000)] [] [(1000, Cont.cells 158 (skTys (skNext (d.up d.n).2)))] (c_Below (d.up d.n).2 ⟨by omega, by omega⟩ _) rfl rfl (by repeat (first | exact cv_nil | refine cv_cons ?_ ?_ | exact cv_ptr List.mem_cons_self | exact cv_pub rfl rfl)) (pre_cons (a := 1000) (b := 1000) (by exact List.mem_cons_self) rfl (cc_cells_eq (by exact List.mem_cons_self) rfl rfl rfl) pre_nil) (post_cons (a := 1000) (b := 1000) (by exact List.mem_cons_self) rfl (cc_cells_eq (by exact List.mem_cons_self) rfl rfl rfl) post_nil) (cv_pub rfl rfl) ?_
          refine mvI rfl ?_
          refine r_nil ?_
          refine i_then ?_
          refine t_block ?_
          refine t_loop (fun (k : {k : Nat // k ≤ d.T}) => live [(0, Ty.ptr 1000 0), (1, Ty.int .i64 (d.t : Nat)), (4, Ty.ptr 5 0), (5, Ty.ptr 6 0), (6, Ty.vs 76 d.m), (110, Ty.int .i64 (d.T : Nat)), (111, Ty.int .i64 (k.1 : Nat))] [(1000, Cont.cells 158 (skTys (d.tk k.1).sk)), (5, Cont.cells 27 [Ty.ex (.slice none 0 0), Ty.ex (.slice none 0 0), Ty.ex (.slice none 0 0), Ty.ex (.slice none 0 0)]), (6, Cont.cells 27 [Ty.vs 20 d.n, Ty.row BinE 79 71 (d.bn d.m).bins, Ty.row TrnE 99 171 (d.tk k.1).trn, Ty.row RulE 69 206 []]), (20, Cont.vec I64 3 (d.up d.n).1), (76, Cont.vec I64 3 (d.tk k.1).left)]) (fun k => d.T - k.1) (⟨0, by omega⟩) ?_ fun k => ?_
          · (refine Ent.mk' ?_ ?_ <;> (repeat' (first | exact allSub_zero | exact allTags_nil | exact subs_nil | refine allSub_succ' ?_ (Ty.sub_any _) | refine allSub_succ' ?_ (Ty.sub_refl _) | refine allTags_cons rfl (Cont.sub_refl _) ?_ | refine allTags_cons rfl (Cont.sub_subs ?_) ?_ | refine subs_cons ?_ (Ty.sub_refl _) | refine subs_cons ?_ ?_ | refine allTags_cons rfl ?_ ?_ | refine allSub_succ' ?_ ?_)))
            all_goals first | exact Ty.sub_eq (congrArg (Ty.vs 76) d.left_pos.1) | exact Ty.sub_int d.T_in.2.symm | exact Ty.sub_int (congrArg (fun p => p.sk.mixed) (tk_zero d).symm) | exact Ty.sub_int (congrArg (fun p => p.sk.taken) (tk_zero d).symm) | exact Ty.sub_sl (congrArg (fun p => p.sk.grain) (tk_zero d).symm) | exact Ty.sub_row (congrArg Tk.trn (tk_zero d)).symm | exact Cont.sub_vec (congrArg Tk.left (tk_zero d)).symm
          ·
            have hk := k.2
            have htk := d.tkOk k.1
            have htt := htk.taken
            have hsi := src_in d.m_in.1 (d.tk k.1)
            have htl := htk.left
            have htl2 := htk.trn
            have ham := among_in (s := (d.tk k.1).sk) (show (-1 : Int) ≤ (((d.bn d.m).bins.length : Nat) : Int) - 1 by omega)
            have hti := mkTrn_ok d.m_in.1 htk.pos
            have hn1 := skNext_taken (d.tk k.1).sk
            have hn2 := skNext_taken (skNext (d.tk k.1).sk)
            refine t_seq ?_
            refine t_region ?_
            refine r_bin rfl rfl rfl ?_
            refine r_nil ?_
            refine i_then ?_
            refine t_seq ?_
            refine t_cond_dec rfl (fun hc6 => ?_) (fun hc6 => ?_)
            ·
              refine t_skip ?_
              refine i_then ?_
              refine t_seq ?_
              refine t_block ?_
              refine t_seq ?_
              refine t_draw mixed rfl ?_
              refine mvO rfl ?_
              refine r_field_ptr rfl rfl rfl rfl rfl (by decide) ?_
              refine r_load_ptr rfl rfl (by decide) rfl rfl rfl ?_
              refine r_len_row rfl rfl rfl ?_
              refine r_sub rfl rfl (by omega) (by omega) ?_
              refine r_callG [(1000, 1000)] [] [(1000, Cont.cells 158 (skTys (skNext (d.tk k.1).sk)))] (c_Among (d.tk k.1).sk ⟨by omega, by omega⟩ (-1) ((((d.bn d.m).bins.length : Nat) : Int) - 1) (by omega) (by omega)) rfl rfl (by repeat (first | exact cv_nil | refine cv_cons ?_ ?_ | exact cv_ptr List.mem_cons_self | exact cv_pub rfl rfl)) (pre_cons (a := 1000) (b := 1000) (by exact List.mem_cons_self) rfl (cc_cells_eq (by exact List.mem_cons_self) rfl rfl rfl) pre_nil) (post_cons (a := 1000) (b := 1000) (by exact List.mem_cons_self) rfl (cc_cells_eq (by exact List.mem_cons_self) rfl rfl rfl) post_nil) (cv_pub rfl rfl) ?_
              refine mvO rfl ?_
              refine r_field_ptr rfl rfl rfl rfl rfl (by decide) ?_
              refine r_load_ptr rfl rfl (by decide) rfl rfl rfl ?_
              refine r_len_row rfl rfl rfl ?_
              refine r_sub rfl rfl (by omega) (by omega) ?_
              refine r_callG [(1000, 1000)] [] [(1000, Cont.cells 158 (skTys (skNext (skNext (d.tk k.1).sk))))] (c_Among (skNext (d.tk k.1).sk) ⟨by omega, by omega⟩ (-1) ((((d.bn d.m).bins.length : Nat) : Int) - 1) (by omega) (by omega)) rfl rfl (by repeat (first | exact cv_nil | refine cv_cons ?_ ?_ | exact cv_ptr List.mem_cons_self | exact cv_pub rfl rfl)) (pre_cons (a := 1000) (b := 1000) (by exact List.mem_cons_self) rfl (cc_cells_eq (by exact List.mem_cons_self) rfl rfl rfl) pre_nil) (post_cons (a := 1000) (b := 1000) (by exact List.mem_cons_self) rfl (cc_cells_eq (by exact List.mem_cons_self) rfl rfl rfl) post_nil) (cv_pub rfl rfl) ?_
              refine asI rfl ?_
              refine asI rfl ?_
              refine r_nil ?_
              refine ⟨by kernel_rfl, ?_⟩
              refine i_then ?_
              refine t_join (J := live [(0, Ty.ptr 1000 0), (1, Ty.int .i64 (d.t : Nat)), (4, Ty.ptr 5 0), (5, Ty.ptr 6 0), (6, Ty.vs 76 d.m), (110, Ty.int .i64 (d.T : Nat)), (111, Ty.int .i64 (k.1 : Nat)), (11, Ty.int .i64 (tkSrc d.m (d.tk k.1))), (12, Ty.int .i64 (skAmong (skNext (d.tk k.1).sk) (-1) ((((d.bn d.m).bins.length : Nat) : Int) - 1)))] [(1000, Cont.cells 158 (skTys (skNext (skNext (d.tk k.1).sk)))), (5, Cont.cells 27 [Ty.ex (.slice none 0 0), Ty.ex (.slice none 0 0), Ty.ex (.slice none 0 0), Ty.ex (.slice none 0 0)]), (6, Cont.cells 27 [Ty.vs 20 d.n, Ty.row BinE 79 71 (d.bn d.m).bins, Ty.row TrnE 99 171 (d.tk k.1).trn, Ty.row RulE 69 206 []]), (20, Cont.vec I64 3 (d.up d.n).1), (76, Cont.vec I64 3 (d.tk k.1).left)]) ?_ ?_
              ·
                refine t_seq ?_
                refine t_region ?_
                refine mvI rfl ?_
                refine r_bin rfl rfl rfl ?_
                refine mvB rfl ?_
                apply r_guard (s := 127) rfl rfl rfl
                · intro hg; apply opT_of; (refine mvV rfl ?_); refine r_nil ?_; exact rfl
                · exact rfl
                · exact rfl
                apply r_guard (s := 127) rfl rfl rfl
                · intro hg; apply opT_of; (refine mvI rfl ?_); refine r_nil ?_; exact rfl
                · exact rfl
                · exact rfl
                apply r_guard (s := 127) rfl rfl rfl
                · intro hg; apply opT_strip (s := 128) rfl (by (rw [hg]; rfl)); apply opT_strip (s := 129) rfl (by (rw [hg]; rfl)); apply opT_of; (refine r_index_vsI rfl rfl rfl rfl rfl (by have := ne_of_hg hg; omega) (by have := ne_of_hg hg; omega) ?_); refine r_nil ?_; exact rfl
                · exact rfl
                · exact rfl
                apply r_guard (s := 127) rfl rfl rfl
                · intro hg; apply opT_strip (s := 130) rfl (by (rw [hg]; rfl)); apply opT_of; (refine r_load_vecB rfl rfl rfl (by decide) rfl rfl (by omega) rfl ?_); refine r_nil ?_; exact rfl
                · exact rfl
                · exact rfl
                apply r_guard (s := 127) rfl rfl rfl
                · intro hg; apply opT_strip (s := 131) rfl (by (rw [hg]; rfl)); apply opT_of; (refine r_bin rfl rfl rfl ?_); refine r_nil ?_; exact rfl
                · exact rfl
                · exact rfl
                refine r_and rfl rfl ?_
                refine r_nil ?_
                refine i_then ?_
                refine t_cond rfl (fun hc7 => ?_) (fun hc7 => ?_)
                ·
                  refine t_region ?_
                  refine asI rfl ?_
                  refine r_nil ?_
                  refine i_join ?_
                  (refine Ent.mk' ?_ ?_ <;> (repeat' (first | exact allSub_zero | exact allTags_nil | refine allSub_succ' ?_ (Ty.sub_any _) | refine allSub_succ' ?_ (Ty.sub_refl _) | refine allTags_cons rfl (Cont.sub_refl _) ?_ | refine allSub_succ' ?_ ?_)))
                  all_goals exact Ty.sub_int (src_yes hbm.bins _ hc7)
                ·
                  refine t_skip ?_
                  refine i_join ?_
                  (refine Ent.mk' ?_ ?_ <;> (repeat' (first | exact allSub_zero | exact allTags_nil | refine allSub_succ' ?_ (Ty.sub_any _) | refine allSub_succ' ?_ (Ty.sub_refl _) | refine allTags_cons rfl (Cont.sub_refl _) ?_ | refine allSub_succ' ?_ ?_)))
                  all_goals exact Ty.sub_int (src_no hbm.bins _ hc7)
              ·
                refine t_join (J := live [(0, Ty.ptr 1000 0), (1, Ty.int .i64 (d.t : Nat)), (4, Ty.ptr 5 0), (5, Ty.ptr 6 0), (6, Ty.vs 76 d.m), (110, Ty.int .i64 (d.T : Nat)), (111, Ty.int .i64 (k.1 : Nat)), (11, Ty.int .i64 (tkSrc d.m (d.tk k.1))), (12, Ty.int .i64 (tkDst d.m (d.tk k.1)))] [(1000, Cont.cells 158 (skTys (skNext (skNext (d.tk k.1).sk)))), (5, Cont.cells 27 [Ty.ex (.slice none 0 0), Ty.ex (.slice none 0 0), Ty.ex (.slice none 0 0), Ty.ex (.slice none 0 0)]), (6, Cont.cells 27 [Ty.vs 20 d.n, Ty.row BinE 79 71 (d.bn d.m).bins, Ty.row TrnE 99 171 (d.tk k.1).trn, Ty.row RulE 69 206 []]), (20, Cont.vec I64 3 (d.up d.n).1), (76, Cont.vec I64 3 (d.tk k.1).left)]) ?_ ?_
                ·
                  refine t_seq ?_
                  refine t_region ?_
                  refine mvI rfl ?_
                  refine mvI rfl ?_
                  refine r_bin rfl rfl rfl ?_
                  refine r_nil ?_
                  refine i_then ?_
                  refine t_cond_dec rfl (fun hc8 => ?_) (fun hc8 => ?_)
                  ·
                    refine t_region ?_
                    refine mvI rfl ?_
                    refine r_add rfl rfl (by omega) (by omega) ?_
                    refine r_field_ptr rfl rfl rfl rfl rfl (by decide) ?_
                    refine r_load_ptr rfl rfl (by decide) rfl rfl rfl ?_
                    refine r_len_row rfl rfl rfl ?_
                    refine r_call (c_Mod _ _ (by omega) (by omega)) rfl rfl rfl rfl rfl ?_
                    refine asI rfl ?_
                    refine r_nil ?_
                    refine i_join ?_
                    (refine Ent.mk' ?_ ?_ <;> (repeat' (first | exact allSub_zero | exact allTags_nil | refine allSub_succ' ?_ (Ty.sub_any _) | refine allSub_succ' ?_ (Ty.sub_refl _) | refine allTags_cons rfl (Cont.sub_refl _) ?_ | refine allSub_succ' ?_ ?_)))
                    all_goals exact Ty.sub_int (dst_yes hbm.bins _ hc8)
                  ·
                    refine t_skip ?_
                    refine i_join ?_
                    (refine Ent.mk' ?_ ?_ <;> (repeat' (first | exact allSub_zero | exact allTags_nil | refine allSub_succ' ?_ (Ty.sub_any _) | refine allSub_succ' ?_ (Ty.sub_refl _) | refine allTags_cons rfl (Cont.sub_refl _) ?_ | refine allSub_succ' ?_ ?_)))
                    all_goals exact Ty.sub_int (dst_no hbm.bins _ hc8)
                ·
                  refine t_seq ?_
                  refine t_region ?_
                  refine mvI rfl ?_
                  refine mvI rfl ?_
                  refine mvO rfl ?_
                  refine r_callG [(1000, 1000)] [] [(1000, Cont.cells 158 (skTys (skNext (skNext (skNext (d.tk k.1).sk)))))] (c_Among (skNext (skNext (d.tk k.1).sk)) ⟨by omega, by omega⟩ 1 20 (by omega) (by omega)) rfl rfl (by repeat (first | exact cv_nil | refine cv_cons ?_ ?_ | exact cv_ptr List.mem_cons_self | exact cv_pub rfl rfl)) (pre_cons (a := 1000) (b := 1000) (by exact List.mem_cons_self) rfl (cc_cells_eq (by exact List.mem_cons_self) rfl rfl rfl) pre_nil) (post_cons (a := 1000) (b := 1000) (by exact List.mem_cons_self) rfl (cc_cells_eq (by exact List.mem_cons_self) rfl rfl rfl) post_nil) (cv_pub rfl rfl) ?_
                  refine r_build rfl rfl (by exact List.cons_ne_nil _ _) rfl (by repeat (first | exact (Parts.nil : Parts _ _ [] _) | (show Parts _ _ ((_, _) :: _) _; apply Parts.one; (· exact (rfl : _ = Ty.int _ _)); (· exact rfl)))) (by exact (rfl : _ = some [_, _, _])) ?_
                  refine r_alloc rfl (by exact List.cons_ne_nil _ _) rfl ?_
                  refine r_storeN rfl rfl (by decide) rfl rfl rfl rfl rfl rfl ?_
                  refine r_nil ?_
                  refine i_then ?_
                  refine t_join (J := live [(0, Ty.ptr 1000 0), (1, Ty.int .i64 (d.t : Nat)), (4, Ty.ptr 5 0), (5, Ty.ptr 6 0), (6, Ty.vs 76 d.m), (110, Ty.int .i64 (d.T : Nat)), (111, Ty.int .i64 (k.1 : Nat)), (13, Ty.ptr 14 0)] [(1000, Cont.cells 158 (skTys (skNext (skNext (skNext (d.tk k.1).sk))))), (5, Cont.cells 27 [Ty.ex (.slice none 0 0), Ty.ex (.slice none 0 0), Ty.ex (.slice none 0 0), Ty.ex (.slice none 0 0)]), (6, Cont.cells 27 [Ty.vs 20 d.n, Ty.row BinE 79 71 (d.bn d.m).bins, Ty.row TrnE 99 171 (d.tk k.1).trn, Ty.row RulE 69 206 []]), (20, Cont.vec I64 3 (d.up d.n).1), (76, Cont.vec I64 3 (leftOf (d.tk k.1).left (tkSrc d.m (d.tk k.1)) (tkSacks d.m (d.tk k.1)))), (14, Cont.cells 99 [Ty.int .i64 (tkSrc d.m (d.tk k.1)), Ty.int .i64 (tkDst d.m (d.tk k.1)), Ty.int .i64 (tkSacks d.m (d.tk k.1))])]) ?_ ?_
                  ·
                    refine t_seq ?_
                    refine t_region ?_
                    refine mvI rfl ?_
                    refine r_bin rfl rfl rfl ?_
                    refine r_nil ?_
                    refine i_then ?_
                    refine t_cond_ndec rfl (fun hc9 => ?_) (fun hc9 => ?_)
                    ·
                      refine t_seq ?_
                      refine t_draw mixed rfl ?_
                      refine r_field_ptr rfl rfl rfl rfl rfl (by decide) ?_
                      refine r_load_ptr rfl rfl (by decide) rfl rfl rfl ?_
                      refine mvV rfl ?_
                      refine mvI rfl ?_
                      refine r_index_vsI rfl rfl rfl rfl rfl (by omega) (by omega) ?_
                      refine r_load_vecB rfl rfl rfl (by decide) rfl rfl (by omega) rfl ?_
                      refine r_min rfl rfl ?_
                      refine r_field_ptr rfl rfl rfl rfl rfl (by decide) ?_
                      refine r_store1 rfl rfl (by decide) rfl rfl (by exact (rfl : _ = Ty.int _ _)) rfl (by exact Nat.le_of_ble_eq_true rfl) rfl rfl (by exact rfl) ?_
                      refine r_nil ?_
                      refine ⟨by kernel_rfl, ?_⟩
                      refine i_then ?_
                      refine t_draw mixed rfl ?_
                      refine mvV rfl ?_
                      refine mvI rfl ?_
                      refine r_index_vsI rfl rfl rfl rfl rfl (by omega) (by omega) ?_
                      refine r_load_vecB rfl rfl rfl (by decide) rfl rfl (by omega) rfl ?_
                      refine r_field_ptr rfl rfl rfl rfl rfl (by decide) ?_
                      refine r_load_ptr rfl rfl (by decide) rfl rfl rfl ?_
                      refine r_bin rfl rfl rfl ?_
                      refine r_index_vsI rfl rfl rfl rfl rfl (by omega) (by omega) ?_
                      refine r_store_vecB rfl rfl rfl (by decide) rfl rfl (by exact (rfl : _ = Ty.int _ _)) rfl (by omega) (by decide) rfl rfl ?_
                      refine r_nil ?_
                      refine ⟨by kernel_rfl, ?_⟩
                      refine i_join ?_
                      (refine Ent.mk' ?_ ?_ <;> (repeat' (first | exact allSub_zero | exact allTags_nil | exact subs_nil | refine allSub_succ' ?_ (Ty.sub_any _) | refine allSub_succ' ?_ (Ty.sub_refl _) | refine allTags_cons rfl (Cont.sub_refl _) ?_ | refine allTags_cons rfl (Cont.sub_subs ?_) ?_ | refine subs_cons ?_ (Ty.sub_refl _) | refine subs_cons ?_ ?_ | refine allTags_cons rfl ?_ ?_)))
                      all_goals first | exact Cont.sub_vec (left_yes hc9 (left_bound (by omega))) | exact Ty.sub_int (sacks_yes hc9)
                    ·
                      refine t_skip ?_
                      refine i_join ?_
                      (refine Ent.mk' ?_ ?_ <;> (repeat' (first | exact allSub_zero | exact allTags_nil | exact subs_nil | refine allSub_succ' ?_ (Ty.sub_any _) | refine allSub_succ' ?_ (Ty.sub_refl _) | refine allTags_cons rfl (Cont.sub_refl _) ?_ | refine allTags_cons rfl (Cont.sub_subs ?_) ?_ | refine subs_cons ?_ (Ty.sub_refl _) | refine subs_cons ?_ ?_ | refine allTags_cons rfl ?_ ?_)))
                      all_goals first | exact Cont.sub_vec (left_no hc9) | exact Ty.sub_int (sacks_no hc9)
                  ·
                    refine t_region ?_
                    refine r_field_ptr rfl rfl rfl rfl rfl (by decide) ?_
                    refine r_load_ptr rfl rfl (by decide) rfl rfl rfl ?_
                    refine r_load_ptrN rfl rfl (by decide) rfl rfl (by exact Nat.le_of_ble_eq_true rfl) ?_
                    refine r_buildSlice (E := TrnE) (xs := [mkTrn d.m (d.tk k.1)]) rfl rfl rfl rfl rfl (by decide) (by decide) (by repeat (first | exact (Parts.nil : Parts _ _ [] _) | (show Parts _ _ ((_, _) :: _) _; apply Parts.agg; (· exact (rfl : _ = Ty.agg _))))) (by exact rfl) rfl ?_
                    refine r_append rfl rfl (by decide) rfl rfl rfl rfl rfl rfl (by decide) (by (simp <;> omega)) (by (simp <;> omega)) ?_
                    refine r_field_ptr rfl rfl rfl rfl rfl (by decide) ?_
                    refine r_store1 rfl rfl (by decide) rfl rfl (by exact (rfl : _ = Ty.row _ _ _ _)) rfl (by exact Nat.le_of_ble_eq_true rfl) rfl rfl (by exact rfl) ?_
                    refine r_nil ?_
                    refine i_block ?_
                    refine i_then ?_
                    refine t_region ?_
                    refine r_add rfl rfl (by omega) (by omega) ?_
                    refine mvI rfl ?_
                    refine r_nil ?_
                    refine i_round (⟨k.1 + 1, by omega⟩) ?_ (by show d.T - (k.1 + 1) < d.T - k.1; omega)
                    (refine Ent.mk' ?_ ?_ <;> (repeat' (first | exact allSub_zero | exact allTags_nil | exact subs_nil | refine allSub_succ' ?_ (Ty.sub_any _) | refine allSub_succ' ?_ (Ty.sub_refl _) | refine allTags_cons rfl (Cont.sub_refl _) ?_ | refine allTags_cons rfl (Cont.sub_subs ?_) ?_ | refine subs_cons ?_ (Ty.sub_refl _) | refine subs_cons ?_ ?_ | refine allTags_cons rfl ?_ ?_)))
                    all_goals skip
                    all_goals first | exact Ty.sub_int (congrArg (fun p => p.sk.mixed) (tk_succ d k.1).symm) | exact Ty.sub_int (congrArg (fun p => p.sk.taken) (tk_succ d k.1).symm) | exact Ty.sub_sl (congrArg (fun p => p.sk.grain) (tk_succ d k.1).symm) | exact Ty.sub_row (congrArg Tk.trn (tk_succ d k.1)).symm | exact Cont.sub_vec (congrArg Tk.left (tk_succ d k.1)).symm
            ·
              refine t_exit ?_
              refine i_then_exit ?_
              refine i_then_exit ?_
              refine i_block_exit rfl ?_
              refine i_then ?_
              refine t_seq ?_
              have hx : ¬ (k.1 : Int) < (d.T : Nat) := hc6
              obtain ⟨k, hx2⟩ := k
              obtain rfl : k = d.T := by simp only at hx; omega
              refine t_region ?_
              refine mvO rfl ?_
              refine r_field_ptr rfl rfl rfl rfl rfl (by decide) ?_
              refine r_load_ptr rfl rfl (by decide) rfl rfl rfl ?_
              refine r_len_row rfl rfl rfl ?_
              refine r_callG [(1000, 1000)] [] [(1000, Cont.cells 158 (skTys (d.order.2)))] (c_Shuf (d.tk d.T).sk d.T (d.tk d.T).trn.length htTl (by omega) ⟨by omega, by omega⟩) rfl rfl (by repeat (first | exact cv_nil | refine cv_cons ?_ ?_ | exact cv_ptr List.mem_cons_self | exact cv_pub rfl rfl)) (pre_cons (a := 1000) (b := 1000) (by exact List.mem_cons_self) rfl (cc_cells_eq (by exact List.mem_cons_self) rfl rfl rfl) pre_nil) (post_cons (a := 1000) (b := 1000) (by exact List.mem_cons_self) rfl (cc_cells_eq (by exact List.mem_cons_self) rfl rfl rfl) post_nil) (cv_pub rfl rfl) ?_
              refine asS rfl ?_
              refine r_nil ?_
              refine i_then ?_
              refine t_seq ?_
              refine t_seq ?_
              refine t_region ?_
              refine mvO rfl ?_
              refine r_callG [(1000, 1000)] [] [(1000, Cont.cells 158 (skTys (skNext d.order.2)))] (c_Below d.order.2 ⟨by omega, by omega⟩ _) rfl rfl (by repeat (first | exact cv_nil | refine cv_cons ?_ ?_ | exact cv_ptr List.mem_cons_self | exact cv_pub rfl rfl)) (pre_cons (a := 1000) (b := 1000) (by exact List.mem_cons_self) rfl (cc_cells_eq (by exact List.mem_cons_self) rfl rfl rfl) pre_nil) (post_cons (a := 1000) (b := 1000) (by exact List.mem_cons_self) rfl (cc_cells_eq (by exact List.mem_cons_self) rfl rfl rfl) post_nil) (cv_pub rfl rfl) ?_
              refine mvI rfl ?_
              refine r_nil ?_
              refine i_then ?_
              refine t_block ?_
              refine t_loop (fun (k : {k : Nat // k ≤ d.R}) => live [(0, Ty.ptr 1000 0), (1, Ty.int .i64 (d.t : Nat)), (4, Ty.ptr 5 0), (5, Ty.ptr 6 0), (14, Ty.sl I64 d.order.1), (179, Ty.int .i64 (d.R : Nat)), (180, Ty.int .i64 (k.1 : Nat))] [(1000, Cont.cells 158 (skTys (d.ru k.1).2)), (5, Cont.cells 27 [Ty.ex (.slice none 0 0), Ty.ex (.slice none 0 0), Ty.ex (.slice none 0 0), Ty.ex (.slice none 0 0)]), (6, Cont.cells 27 [Ty.vs 20 d.n, Ty.row BinE 79 71 (d.bn d.m).bins, Ty.row TrnE 99 171 (d.tk d.T).trn, Ty.row RulE 69 206 (d.ru k.1).1]), (20, Cont.vec I64 3 (d.up d.n).1)]) (fun k => d.R - k.1) (⟨0, by omega⟩) ?_ fun k => ?_
              · (refine Ent.mk' ?_ ?_ <;> (repeat' (first | exact allSub_zero | exact allTags_nil | exact subs_nil | refine allSub_succ' ?_ (Ty.sub_any _) | refine allSub_succ' ?_ (Ty.sub_refl _) | refine allTags_cons rfl (Cont.sub_refl _) ?_ | refine allTags_cons rfl (Cont.sub_subs ?_) ?_ | refine subs_cons ?_ (Ty.sub_refl _) | refine subs_cons ?_ ?_ | refine allSub_succ' ?_ ?_)))
                all_goals first | exact Ty.sub_int d.R_in.2.symm | exact Ty.sub_int (congrArg (fun p => p.2.mixed) (ru_zero d).symm) | exact Ty.sub_int (congrArg (fun p => p.2.taken) (ru_zero d).symm) | exact Ty.sub_sl (congrArg (fun p => p.2.grain) (ru_zero d).symm) | exact Ty.sub_row (congrArg Prod.fst (ru_zero d)).symm
              ·
                have hk := k.2
                have hru := d.ruOk k.1
                have hrt := hru.2.2
                have hru1 := skNext_taken (d.ru k.1).2
                have hb1 := skBelow_bound (d.ru k.1).2 (d.order.1.length : Nat)
                have hb2 := skBelow_bound (skNext (d.ru k.1).2) (d.order.1.length : Nat)
                refine t_seq ?_
                refine t_region ?_
                refine r_bin rfl rfl rfl ?_
                refine r_nil ?_
                refine i_then ?_
                refine t_seq ?_
                refine t_cond_dec rfl (fun hc10 => ?_) (fun hc10 => ?_)
                ·
                  refine t_skip ?_
                  refine i_then ?_
                  refine t_seq ?_
                  refine t_block ?_
                  refine t_seq ?_
                  refine t_region ?_
                  refine mvO rfl ?_
                  refine mvS rfl ?_
                  refine r_len rfl rfl rfl ?_
                  refine r_callG [(1000, 1000)] [] [(1000, Cont.cells 158 (skTys (skNext (d.ru k.1).2)))] (c_Below (d.ru k.1).2 ⟨by omega, by omega⟩ _) rfl rfl (by repeat (first | exact cv_nil | refine cv_cons ?_ ?_ | exact cv_ptr List.mem_cons_self | exact cv_pub rfl rfl)) (pre_cons (a := 1000) (b := 1000) (by exact List.mem_cons_self) rfl (cc_cells_eq (by exact List.mem_cons_self) rfl rfl rfl) pre_nil) (post_cons (a := 1000) (b := 1000) (by exact List.mem_cons_self) rfl (cc_cells_eq (by exact List.mem_cons_self) rfl rfl rfl) post_nil) (cv_pub rfl rfl) ?_
                  refine mvO rfl ?_
                  refine mvS rfl ?_
                  refine r_len rfl rfl rfl ?_
                  refine r_callG [(1000, 1000)] [] [(1000, Cont.cells 158 (skTys (skNext (skNext (d.ru k.1).2))))] (c_Below (skNext (d.ru k.1).2) ⟨by omega, by omega⟩ _) rfl rfl (by repeat (first | exact cv_nil | refine cv_cons ?_ ?_ | exact cv_ptr List.mem_cons_self | exact cv_pub rfl rfl)) (pre_cons (a := 1000) (b := 1000) (by exact List.mem_cons_self) rfl (cc_cells_eq (by exact List.mem_cons_self) rfl rfl rfl) pre_nil) (post_cons (a := 1000) (b := 1000) (by exact List.mem_cons_self) rfl (cc_cells_eq (by exact List.mem_cons_self) rfl rfl rfl) post_nil) (cv_pub rfl rfl) ?_
                  refine asI rfl ?_
                  refine asI rfl ?_
                  refine r_nil ?_
                  refine i_then ?_
                  refine t_seq ?_
                  refine t_region ?_
                  refine mvI rfl ?_
                  refine mvI rfl ?_
                  refine r_bin rfl rfl rfl ?_
                  refine r_nil ?_
                  refine i_then ?_
                  refine t_cond_dec rfl (fun hc11 => ?_) (fun hc11 => ?_)
                  ·
                    refine t_draw mixed rfl ?_
                    refine r_field_ptr rfl rfl rfl rfl rfl (by decide) ?_
                    refine r_load_ptr rfl rfl (by decide) rfl rfl rfl ?_
                    refine mvS rfl ?_
                    refine mvI rfl ?_
                    refine r_index_sl rfl rfl rfl rfl rfl rfl (by omega) (by omega) ?_
                    refine r_load_pp rfl rfl rfl rfl ?_
                    refine mvS rfl ?_
                    refine mvI rfl ?_
                    refine r_index_sl rfl rfl rfl rfl rfl rfl (by omega) (by omega) ?_
                    refine r_load_pp rfl rfl rfl rfl ?_
                    refine r_build rfl rfl (by exact List.cons_ne_nil _ _) rfl (by repeat (first | exact (Parts.nil : Parts _ _ [] _) | (show Parts _ _ ((_, _) :: _) _; apply Parts.one; (· exact (rfl : _ = Ty.int _ _)); (· exact rfl)))) (by exact (rfl : _ = some [_, _])) ?_
                    refine r_buildSlice (E := RulE) (xs := [⟨nth d.order.1 (skBelow (d.ru k.1).2 (d.order.1.length : Nat)).toNat, nth d.order.1 (skBelow (skNext (d.ru k.1).2) (d.order.1.length : Nat)).toNat⟩]) rfl rfl rfl rfl rfl (by decide) (by decide) (by repeat (first | exact (Parts.nil : Parts _ _ [] _) | (show Parts _ _ ((_, _) :: _) _; apply Parts.agg; (· exact (rfl : _ = Ty.agg _))))) (by exact rfl) rfl ?_
                    refine r_append rfl rfl (by decide) rfl rfl rfl rfl rfl rfl (by decide) (by (simp <;> omega)) (by (simp <;> omega)) ?_
                    refine r_field_ptr rfl rfl rfl rfl rfl (by decide) ?_
                    refine r_store1 rfl rfl (by decide) rfl rfl (by exact (rfl : _ = Ty.row _ _ _ _)) rfl (by exact Nat.le_of_ble_eq_true rfl) rfl rfl (by exact rfl) ?_
                    refine r_nil ?_
                    refine ⟨by kernel_rfl, ?_⟩
                    refine i_block ?_
                    refine i_then ?_
                    refine t_region ?_
                    refine r_add rfl rfl (by omega) (by omega) ?_
                    refine mvI rfl ?_
                    refine r_nil ?_
                    refine i_round (⟨k.1 + 1, by omega⟩) ?_ (by show d.R - (k.1 + 1) < d.R - k.1; omega)
                    (refine Ent.mk' ?_ ?_ <;> (repeat' (first | exact allSub_zero | exact allTags_nil | exact subs_nil | refine allSub_succ' ?_ (Ty.sub_any _) | refine allSub_succ' ?_ (Ty.sub_refl _) | refine allTags_cons rfl (Cont.sub_refl _) ?_ | refine allTags_cons rfl (Cont.sub_subs ?_) ?_ | refine subs_cons ?_ (Ty.sub_refl _) | refine subs_cons ?_ ?_)))
                    all_goals skip
                    all_goals first | exact Ty.sub_int (congrArg Sk.mixed (ru_sk d k.1)).symm | exact Ty.sub_int (congrArg Sk.taken (ru_sk d k.1)).symm | exact Ty.sub_sl (congrArg Sk.grain (ru_sk d k.1)).symm | exact Ty.sub_row (ru_at hc11)
                  ·
                    refine t_skip ?_
                    refine i_block ?_
                    refine i_then ?_
                    refine t_region ?_
                    refine r_add rfl rfl (by omega) (by omega) ?_
                    refine mvI rfl ?_
                    refine r_nil ?_
                    refine i_round (⟨k.1 + 1, by omega⟩) ?_ (by show d.R - (k.1 + 1) < d.R - k.1; omega)
                    (refine Ent.mk' ?_ ?_ <;> (repeat' (first | exact allSub_zero | exact allTags_nil | exact subs_nil | refine allSub_succ' ?_ (Ty.sub_any _) | refine allSub_succ' ?_ (Ty.sub_refl _) | refine allTags_cons rfl (Cont.sub_refl _) ?_ | refine allTags_cons rfl (Cont.sub_subs ?_) ?_ | refine subs_cons ?_ (Ty.sub_refl _) | refine subs_cons ?_ ?_)))
                    all_goals skip
                    all_goals first | exact Ty.sub_int (congrArg Sk.mixed (ru_sk d k.1)).symm | exact Ty.sub_int (congrArg Sk.taken (ru_sk d k.1)).symm | exact Ty.sub_sl (congrArg Sk.grain (ru_sk d k.1)).symm | exact Ty.sub_row (ru_no2 hc11)
                ·
                  refine t_exit ?_
                  refine i_then_exit ?_
                  refine i_then_exit ?_
                  refine i_block_exit rfl ?_
                  refine i_then ?_
                  refine t_seq ?_
                  have hx : ¬ (k.1 : Int) < (d.R : Nat) := hc10
                  obtain ⟨k, hx2⟩ := k
                  obtain rfl : k = d.R := by simp only at hx; omega
                  refine t_pubC (tg := 20) [] [(6, Cont.cells 27 [Ty.sl I64 (d.up d.n).1, Ty.row BinE 79 71 (d.bn d.m).bins, Ty.row TrnE 99 171 (d.tk d.T).trn, Ty.row RulE 69 206 (d.ru d.R).1])] (by decide) rfl trivial ⟨pubC_cells rfl rfl ⟨pubTy_vs rfl hun.1 (by decide), pubTy_same rfl, pubTy_same rfl, pubTy_same rfl, trivial⟩, trivial⟩ ?_
                  refine t_pubC (tg := 71) [] [(6, Cont.cells 27 [Ty.sl I64 (d.up d.n).1, Ty.sl BinE (d.bn d.m).bins, Ty.row TrnE 99 171 (d.tk d.T).trn, Ty.row RulE 69 206 (d.ru d.R).1])] (by decide) rfl trivial ⟨pubC_cells rfl rfl ⟨pubTy_same rfl, pubTy_row, pubTy_same rfl, pubTy_same rfl, trivial⟩, trivial⟩ ?_
                  refine t_pubC (tg := 171) [] [(6, Cont.cells 27 [Ty.sl I64 (d.up d.n).1, Ty.sl BinE (d.bn d.m).bins, Ty.sl TrnE (d.tk d.T).trn, Ty.row RulE 69 206 (d.ru d.R).1])] (by decide) rfl trivial ⟨pubC_cells rfl rfl ⟨pubTy_same rfl, pubTy_same rfl, pubTy_row, pubTy_same rfl, trivial⟩, trivial⟩ ?_
                  refine t_pubC (tg := 206) [] [(6, Cont.cells 27 [Ty.sl I64 (d.up d.n).1, Ty.sl BinE (d.bn d.m).bins, Ty.sl TrnE (d.tk d.T).trn, Ty.sl RulE (d.ru d.R).1])] (by decide) rfl trivial ⟨pubC_cells rfl rfl ⟨pubTy_same rfl, pubTy_same rfl, pubTy_same rfl, pubTy_row, trivial⟩, trivial⟩ ?_
                  refine t_region ?_
                  refine r_load_ptrN rfl rfl (by decide) rfl rfl (by exact Nat.le_of_ble_eq_true rfl) ?_
                  refine r_storeN rfl rfl (by decide) rfl rfl rfl rfl rfl rfl ?_
                  refine r_nil ?_
                  refine i_then ?_
                  refine t_ret ?_
                  refine g_rcell [1000] rfl rfl rfl rfl (by decide) rfl rfl rfl (by decide) (by repeat (first | exact rc_nil | refine rc_cons rfl (cc_cells_eq (by decide) rfl rfl rfl) ?_)) ?_
                  all_goals exact rg_cv (cv_pub rfl rfl)
                  skip
end Go.Proofs.Ytifgbnbkimcchaa

namespace Go.Proofs.Ytifgbnbkimcchaa
open Go Go.T
theorem orders_in {f : Flr} {l : List Int} (hlen : l.length = f.turnings.length) (hr : ∀ i, i < l.length → readyM f (l.take i) (nth l i) = true) (hrg : ∀ x ∈ l, 0 ≤ x ∧ x < (f.turnings.length : Int)) : ∀ m k, k ≤ l.length → l.length < k + m → l ∈ ordersM f m (l.take k)
  | 0, k, h1, h2 => by omega
  | m + 1, k, h1, h2 => by
    rw [ordersM]
    by_cases hk : (l.take k).length = f.turnings.length
    · rw [if_pos hk]
      have : k = l.length := by rw [List.length_take] at hk; omega
      rw [this, List.take_length]; exact List.mem_singleton.2 rfl
    · rw [if_neg hk]
      have hk2 : k < l.length := by
        rcases Nat.lt_or_ge k l.length with h | h
        · exact h
        · rw [List.length_take] at hk; omega
      have hx := hrg _ (nth_mem hk2)
      refine List.mem_flatMap.2 ⟨nth l k, mem_iot.2 hx, ?_⟩
      rw [if_pos (hr k hk2), ← take_nth hk2]
      exact orders_in hlen hr hrg m (k + 1) (by omega) (by omega)
theorem order_ready {f : Flr} {l : List Int} (ho : orderM f l = 0) : ∀ i, i < l.length → readyM f (l.take i) (nth l i) = true := fun i hi => by
  obtain ⟨h1, h2, h3, h4⟩ := order_spec ho
  unfold readyM
  rw [Bool.and_eq_true, List.all_eq_true]
  exact ⟨by simpa using h3 i hi, fun a ha => decide_eq_true (h4 i hi a ha)⟩
theorem orders_all {f : Flr} {l : List Int} (ho : orderM f l = 0) : l ∈ ordersR f := by
  have h := order_spec ho
  have := orders_in h.1 (order_ready ho) h.2.1 (f.turnings.length + 1) 0 (Nat.zero_le _) (by omega)
  rwa [List.take_zero] at this
theorem iot_pair (n : Nat) : (iot n).Pairwise fun a b => a < b := by
  unfold iot
  rw [List.pairwise_map]
  exact List.pairwise_lt_range.imp fun h => by omega
theorem keepR_mem {f : Flr} (h : checkM f = 0) {l : List Int} : l ∈ keepR f ↔ orderM f l = 0 ∧ 0 ≤ marginM f l := by
  have hp : checkP f = 0 := by rw [check_eq]; exact h
  unfold keepR keepM
  rw [if_neg (fun hx => hx h), List.mem_filter]
  exact ⟨fun ⟨h1, h2⟩ => ⟨orders_right hp h1, of_decide_eq_true h2⟩, fun ⟨h1, h2⟩ => ⟨orders_all h1, decide_eq_true h2⟩⟩
theorem state_sum {f : Flr} (hn : f.Named) {l : List Int} (hl : ∀ x ∈ l, 0 ≤ x ∧ x < (f.turnings.length : Int)) {b : Nat} (hb : b < f.bears.length) : ∀ k, k ≤ l.length → sumT f (stateM f l k) f.bins.length b = loadO f l b k
  | 0, _ => by
    have := first_eq f hb
    rw [nth_loads (order := []) (k := 0) (Nat.zero_le _), loadM_nth f _ hb] at this
    unfold loadO
    rw [List.take_zero]
    simp only [List.map_nil, List.sum_nil, Int.add_zero]
    exact this
  | k + 1, hk => by
    have hx := hl _ (nth_mem (xs := l) (k := k) (by omega))
    obtain ⟨t, e⟩ := Int.eq_ofNat_of_zero_le hx.1
    have ih := state_sum hn hl hb k (by omega)
    rw [stateM_succ (by omega), loadO_succ f (by omega), e, sumT_step hn (by omega) (stateM_len f l k), ih]; rfl
theorem loads_loadO {f : Flr} (hn : f.Named) {l : List Int} (hl : ∀ x ∈ l, 0 ≤ x ∧ x < (f.turnings.length : Int)) {b : Nat} (hb : b < f.bears.length) {k : Nat} (hk : k ≤ l.length) : nth (nth (loadsM f l) k) b = loadO f l b k := by
  rw [nth_loads hk, loadM_nth f _ hb, state_sum hn hl hb k hk]
theorem le_minRow (f : Flr) (l : List Int) (n x : Int) : ∀ j, x ≤ minRow f l j n ↔ x ≤ n ∧ ∀ b, b < j → x ≤ nth f.bears b - nth l b
  | 0 => ⟨fun h => ⟨h, fun b hb => by omega⟩, fun h => h.1⟩
  | j + 1 => by
    rw [minRow_succ, Int.le_min, le_minRow f l n x j]
    constructor
    · rintro ⟨⟨h1, h2⟩, h3⟩
      refine ⟨h1, fun b hb => ?_⟩
      rcases Nat.lt_or_ge b j with h | h
      · exact h2 b h
      · rw [show b = j by omega]; exact h3
    · rintro ⟨h1, h2⟩
      exact ⟨⟨h1, fun b hb => h2 b (by omega)⟩, h2 j (by omega)⟩
theorem le_marginUp (f : Flr) (ls : List (List Int)) (x : Int) : ∀ k, k ≤ ls.length → (x ≤ marginUp f ls k ↔ x ≤ nth f.bears 0 - nth (nth ls 0) 0 ∧ ∀ i, i < k → ∀ b, b < f.bears.length → x ≤ nth f.bears b - nth (nth ls i) b)
  | 0, _ => ⟨fun h => ⟨h, fun i hi => by omega⟩, fun h => h.1⟩
  | k + 1, hk => by
    rw [marginUp_succ (by omega), le_minRow, le_marginUp f ls x k (by omega)]
    constructor
    · rintro ⟨⟨h1, h2⟩, h3⟩
      refine ⟨h1, fun i hi => ?_⟩
      rcases Nat.lt_or_ge i k with h | h
      · exact h2 i h
      · rw [show i = k by omega]; exact h3
    · rintro ⟨h1, h2⟩
      exact ⟨⟨h1, fun i hi => h2 i (by omega)⟩, h2 k (by omega)⟩
theorem le_marginM {f : Flr} (hb : 1 ≤ f.bears.length) (l : List Int) (x : Int) : x ≤ marginM f l ↔ ∀ k, k ≤ l.length → ∀ b, b < f.bears.length → x ≤ nth f.bears b - nth (nth (loadsM f l) k) b := by
  unfold marginM
  rw [le_marginUp f _ x _ (by rw [loadsM_len]; omega)]
  exact ⟨fun h k hk => h.2 k (by omega), fun h => ⟨h 0 (Nat.zero_le _) 0 (by omega), fun i hi => h i (by omega)⟩⟩
theorem maxUp_le {l : List Int} {x : Int} : ∀ k, k ≤ l.length → (maxUp l k ≤ x ↔ nth l 0 ≤ x ∧ ∀ i, i < k → nth l i ≤ x)
  | 0, _ => ⟨fun h => ⟨by simpa [maxUp] using h, fun i hi => by omega⟩, fun h => by simpa [maxUp] using h.1⟩
  | k + 1, hk => by
    rw [maxUp_succ (by omega), Int.max_le, maxUp_le k (by omega)]
    constructor
    · rintro ⟨⟨h1, h2⟩, h3⟩
      refine ⟨h1, fun i hi => ?_⟩
      rcases Nat.lt_or_ge i k with h | h
      · exact h2 i h
      · rw [show i = k by omega]; exact h3
    · rintro ⟨h1, h2⟩
      exact ⟨⟨h1, fun i hi => h2 i (by omega)⟩, h2 k (by omega)⟩
theorem maxM_up (l : List Int) : maxM l = maxUp l l.length := by unfold maxM maxUp; rw [List.take_length]
theorem maxM_le {l : List Int} {x : Int} (h : 0 < l.length) : maxM l ≤ x ↔ ∀ i, i < l.length → nth l i ≤ x := by
  rw [maxM_up, maxUp_le _ (Nat.le_refl _)]
  exact ⟨fun h => h.2, fun h' => ⟨h' 0 h, h'⟩⟩
theorem le_marL (f : Flr) (l : List Int) (x : Int) : ∀ n, x ≤ marL f l n ↔ x ≤ 1099511627776 ∧ ∀ b, b < n → ∀ k, k ≤ l.length → x ≤ nth f.bears b - loadO f l b k
  | 0 => ⟨fun h => ⟨h, fun b hb => by omega⟩, fun h => h.1⟩
  | n + 1 => by
    rw [marL_succ, Int.le_min, le_marL f l x n]
    have key : x ≤ nth f.bears n - maxM (loadsO f l n) ↔ ∀ k, k ≤ l.length → x ≤ nth f.bears n - loadO f l n k := by
      have : x ≤ nth f.bears n - maxM (loadsO f l n) ↔ maxM (loadsO f l n) ≤ nth f.bears n - x := by omega
      rw [this, maxM_le (by rw [loadsO_len]; omega), loadsO_len]
      constructor
      · intro h k hk
        have := h k (by omega)
        rw [loadsO_nth f n hk] at this; omega
      · intro h k hk
        have := h k (by omega)
        rw [loadsO_nth f n (by omega)]; omega
    rw [key]
    constructor
    · rintro ⟨⟨h1, h2⟩, h3⟩
      refine ⟨h1, fun b hb => ?_⟩
      rcases Nat.lt_or_ge b n with h | h
      · exact h2 b h
      · rw [show b = n by omega]; exact h3
    · rintro ⟨h1, h2⟩
      exact ⟨⟨h1, fun b hb => h2 b (by omega)⟩, h2 n (by omega)⟩
theorem marL_eq {f : Flr} (hr : f.Right) {l : List Int} (hl : ∀ x ∈ l, 0 ≤ x ∧ x < (f.turnings.length : Int)) (h20 : l.length ≤ 20) : marL f l f.bears.length = marginM f l := by
  have hb := hr.ranged.bears1
  have key : ∀ x, x ≤ 1099511627776 → (x ≤ marL f l f.bears.length ↔ x ≤ marginM f l) := fun x hx => by
    rw [le_marL, le_marginM hb]
    constructor
    · rintro ⟨_, h⟩ k hk b hb'
      rw [loads_loadO hr.named hl hb' hk]; exact h b hb' k hk
    · intro h
      refine ⟨hx, fun b hb' k hk => ?_⟩
      have := h k hk b hb'
      rwa [loads_loadO hr.named hl hb' hk] at this
  have h1 : marL f l f.bears.length ≤ 1099511627776 := ((le_marL f l _ _).1 (Int.le_refl _)).1
  have h2 : marginM f l ≤ 1099511627776 := by
    have h3 := (le_marginM hb l _).1 (Int.le_refl _) 0 (Nat.zero_le _) 0 (by omega)
    have h4 := load_bound hr.ranged hl h20 (Nat.zero_le _) 0
    have h5 := bear_bound hr.ranged 0
    omega
  have h3 := (key _ h1).1 (Int.le_refl _)
  have h4 := (key _ h2).2 (Int.le_refl _)
  omega
end Go.Proofs.Ytifgbnbkimcchaa

namespace Go.Proofs.Ytifgbnbkimcchaa
open Go Go.T
def over (f : Flr) (l : List Int) (t b : Nat) : Prop := nth (nth (loadsM f l) t) b > nth f.bears b
instance (f : Flr) (l : List Int) (t b : Nat) : Decidable (over f l t b) := by unfold over; infer_instance
def clr (f : Flr) (l : List Int) (t b : Nat) : Bool := decide ((∀ j, j < t → breakRow f (nth (loadsM f l) j) = none) ∧ ∀ j, j < b → ¬ over f l t j)
theorem breakRow_some {f : Flr} {r : List Int} (h : breakRow f r = none) {j : Nat} (hj : j < f.bears.length) : ¬ nth r j > nth f.bears j := by
  unfold breakRow at h
  rw [List.find?_eq_none] at h
  have := h j (List.mem_range.2 hj)
  simpa using this
theorem break_none_iff {f : Flr} (hb : 1 ≤ f.bears.length) (l : List Int) : (breakM f l).isSome = decide (marginM f l < 0) := by
  rw [Bool.eq_iff_iff, decide_eq_true_eq]
  by_cases h : 0 ≤ marginM f l
  · have : breakM f l = none := breakM_none fun j hj => breakRow_none fun b hb' => by
      have := (le_marginM hb l 0).1 h j hj b hb'
      omega
    rw [this]
    exact ⟨fun h => (by cases h), fun h => (by omega)⟩
  · refine ⟨fun _ => by omega, fun _ => ?_⟩
    cases e : breakM f l with
    | some x => rfl
    | none =>
      exfalso; apply h
      rw [le_marginM hb]
      intro k hk b hb'
      unfold breakM at e
      rw [List.findSome?_eq_none_iff] at e
      have := e k (List.mem_range.2 (by omega))
      have := breakRow_some (Option.map_eq_none_iff.1 this) hb'
      omega
structure Answers (f : Flr) (l : List Int) : Prop where
  rows : rowsE f l = loadsM f l
  ord : orderE f l = 0
  mar : marE f l = marginM f l
  marl : marL f l f.bears.length = marginM f l
  brk : brkE f l = if marginM f l < 0 then 0 else 6
  brkT : brkT f l = breakT f l
  brkB : brkB f l = breakB f l
  rng : ∀ x ∈ l, 0 ≤ x ∧ x < (f.turnings.length : Int)
  len : l.length = f.turnings.length
  nodup : l.Nodup
  all : ∀ x, x ∈ l ↔ 0 ≤ x ∧ x < (f.turnings.length : Int)
theorem answers {f : Flr} (h : checkP f = 0) {l : List Int} (ho : orderM f l = 0) : Answers f l := by
  have hc : checkM f = 0 := by rw [← check_eq]; exact h
  have hr := check_right h
  have he : orderE f l = 0 := by unfold orderE; rw [if_neg (fun x => x hc)]; exact ho
  obtain ⟨h1, h2, _, _⟩ := order_spec ho
  have hrep := order_rep h ho l.length (Nat.le_refl _)
  rw [List.take_length] at hrep
  have h8 := hr.ranged.turnings
  refine ⟨by unfold rowsE; rw [if_neg (fun x => x he)], he, by unfold marE; rw [if_neg (fun x => x he)], marL_eq hr h2 (by omega), ?_, by unfold Go.Proofs.Ytifgbnbkimcchaa.brkT; rw [if_neg (fun x => x he)], by unfold Go.Proofs.Ytifgbnbkimcchaa.brkB; rw [if_neg (fun x => x he)], h2, h1, hrep.nodup, fun x => ⟨fun hx => h2 x hx, fun hx => order_all h hrep h1 hx⟩⟩
  unfold brkE
  rw [if_neg (fun x => x he), break_none_iff hr.ranged.bears1]
  by_cases hm : marginM f l < 0
  · rw [if_pos hm, if_pos (decide_eq_true hm)]
  · rw [if_neg hm, if_neg (by simpa using hm)]
end Go.Proofs.Ytifgbnbkimcchaa

namespace Go.Proofs.Ytifgbnbkimcchaa
open Go Go.T
structure SaferF (f : Flr) : Prop where
  mar : marginR f = marginsR f
  all : allowedL f (safestP f).1 = true
  marl : marL f (safestP f).1 f.bears.length = marginR f
  keep : decide (0 < ((keepR f).length : Int)) = decide (0 ≤ marginR f)
  err : decide (safeE f = 0) = decide (0 ≤ marginR f)
  err6 : decide (safeE f = 6) = !decide (0 ≤ marginR f)
  rng : ∀ x ∈ safeR f, 0 ≤ x ∧ x < (f.turnings.length : Int)
  few : (safeR f).length ≤ f.turnings.length
theorem keepR_right {f : Flr} (h : checkM f = 0) {l : List Int} (hl : l ∈ keepR f) : orderM f l = 0 := ((keepR_mem h).1 hl).1
end Go.Proofs.Ytifgbnbkimcchaa

namespace Go.Proofs.Ytifgbnbkimcchaa
open Go Go.T
set_option maxHeartbeats 2000000
attribute [local irreducible] dInt dBool dSl dPp dPtr dAgg dTup dClo dAny dEx dStr dGd dCells dVec dVs dRow dOp nth Tri Into TOps Ctr bodyPost Exit.then Exit.inBlock Code.wp Code.wpIn dWhen dPa dPe dAo dArr dMp dPm dMap dCJ CtrG CtrI OpY keepPost iterPost bodyPostM roundQ
theorem fill_ok (g : List Int) : (skFill g).Ok 100 := by have h := skFill_ok g; unfold Sk.Ok at *; omega
theorem made_right (g : List Int) (t : Nat) (ht : t ≤ 8) : checkP (Md.flr ⟨skFill g, t⟩) = 0 := Md.right _ ht
theorem small_right {f : Flr} (hr : f.Right) : f.Small := ⟨by have := hr.ranged.bears; omega, by have := hr.ranged.bins; omega, by have := hr.ranged.turnings; omega, by have := hr.ranged.rules; omega, fun b hb => by have h1 := hr.ranged.shares b hb; have h2 := hr.ranged.bears; omega⟩
def tryS (f : Flr) (s : Sk) : Nat → Sk
  | 0 => s
  | k + 1 => (triedUp f (tryS f s k) f.turnings.length).2
def tryO (f : Flr) (s : Sk) (k : Nat) : List Int := (triedUp f (tryS f s k) f.turnings.length).1
def oneT (f : Flr) (x : Int) : Int := if 1 < f.turnings.length then (IntKind.i64.wrap x).tmod f.turnings.length else 0
def mustJ (f : Flr) (x y : Int) : Bool := if 1 < f.turnings.length then mustR f (oneT f x) (oneT f y) else false
theorem oneT_in {f : Flr} {x : Int} (hx : 0 ≤ x ∧ x ≤ 255) (h : 1 < f.turnings.length) : 0 ≤ oneT f x ∧ oneT f x < f.turnings.length := by
  unfold oneT
  rw [if_pos h, wrap_in (by omega)]
  exact tmod_in hx.1 (by omega)
theorem oneT_yes {f : Flr} (h : 1 < f.turnings.length) (x : Int) : (IntKind.i64.wrap x).tmod f.turnings.length = oneT f x := by unfold oneT; rw [if_pos h]
attribute [local irreducible] tryS tryO Md.flr safeR safeE firstsR marginR keepR mustR mustV oneT mustJ safestP
end Go.Proofs.Ytifgbnbkimcchaa

namespace Go.Proofs.Ytifgbnbkimcchaa
open Go Go.T
set_option maxHeartbeats 2000000
attribute [local irreducible] dInt dBool dSl dPp dPtr dAgg dTup dClo dAny dEx dStr dGd dCells dVec dVs dRow dOp nth Tri Into TOps Ctr bodyPost Exit.then Exit.inBlock Code.wp Code.wpIn dWhen dPa dPe dAo dArr dMp dPm dMap dCJ CtrG CtrI OpY keepPost iterPost bodyPostM roundQ
attribute [local irreducible] tryS tryO Md.flr rowsE marE brkE brkT brkB orderE clr
end Go.Proofs.Ytifgbnbkimcchaa

namespace Go.T
open Go Go.RowKit
theorem setRow_set {w : World} {g : Nat} {old : Array Value} {t : TypeId} (cs : Array Value) (hg : w.heap[g]? = some (.cells old t (0, 0))) : w.setRow g cs = { w with heap := w.heap.setIfInBounds g (.cells cs t (0, 0)) } := by
  unfold World.setRow
  congr 1
  obtain ⟨hlt, hv⟩ := Array.getElem?_eq_some_iff.1 hg
  apply Array.ext_getElem?
  intro i
  by_cases e : g = i
  · subst e
    rw [Array.getElem?_modify, if_pos rfl, hg, Array.getElem?_setIfInBounds_self_of_lt hlt]; rfl
  · rw [Array.getElem?_modify, if_neg e, Array.getElem?_setIfInBounds_ne e]
theorem flat_drop {α : Type} (E : El α) : ∀ (xs : List α) (n : Nat), (xs.flatMap E.tys).drop (n * E.size) = (xs.drop n).flatMap E.tys
  | [], n => by simp
  | x :: xs, 0 => by simp
  | x :: xs, n + 1 => by
    rw [List.flatMap_cons, List.drop_succ_cons, ← flat_drop E xs n, List.drop_append, E.len, Nat.succ_mul, List.drop_of_length_le (by rw [E.len]; omega), List.nil_append]
    congr 1; omega
theorem vec_put {α : Type} {E : El α} {xs ys : List α} {w : World} {M : Tags} {cur vs : List Value} {i : Nat} (hd : dens w M (xs.flatMap E.tys) (cur.take (xs.flatMap E.tys).length)) (hv : dens w M (ys.flatMap E.tys) vs) (hi : i + ys.length ≤ xs.length) :
    dens w M ((xs.take i ++ (ys ++ xs.drop (i + ys.length))).flatMap E.tys) ((cur.take (i * E.size) ++ vs ++ cur.drop (i * E.size + vs.length)).take ((xs.take i ++ (ys ++ xs.drop (i + ys.length))).flatMap E.tys).length) := by
  have hvl : vs.length = ys.length * E.size := by rw [dens_len hv, flat_len]
  have hN : (xs.flatMap E.tys).length = xs.length * E.size := flat_len E xs
  have hcl : xs.length * E.size ≤ cur.length := by
    have := dens_len hd
    rw [List.length_take, hN] at this; omega
  have hm : (i + ys.length) * E.size ≤ xs.length * E.size := Nat.mul_le_mul_right _ hi
  have hm2 : (i + ys.length) * E.size = i * E.size + ys.length * E.size := Nat.add_mul _ _ _
  have hxl : (xs.take i ++ (ys ++ xs.drop (i + ys.length))).length = xs.length := by simp; omega
  rw [flat_len E (xs.take i ++ (ys ++ xs.drop (i + ys.length))), hxl, List.flatMap_append, List.flatMap_append]
  have e : (cur.take (i * E.size) ++ vs ++ cur.drop (i * E.size + vs.length)).take (xs.length * E.size) = cur.take (i * E.size) ++ (vs ++ (cur.take (xs.length * E.size)).drop ((i + ys.length) * E.size)) := by
    have l1 : (cur.take (i * E.size)).length = i * E.size := by rw [List.length_take]; omega
    rw [List.append_assoc, List.take_append, List.take_append, l1]
    have e1 : (cur.take (i * E.size)).take (xs.length * E.size) = cur.take (i * E.size) := List.take_of_length_le (by omega)
    have e2 : vs.take (xs.length * E.size - i * E.size) = vs := List.take_of_length_le (by omega)
    rw [e1, e2, hvl, hm2, List.drop_take]
    congr 3; omega
  rw [e]
  rw [hN] at hd
  refine dens_app ?_ (dens_app hv ?_)
  · have := dens_take (i * E.size) hd
    rw [flat_take, List.take_take, Nat.min_eq_left (by omega)] at this; exact this
  · have := dens_drop ((i + ys.length) * E.size) hd
    rw [flat_drop] at this; exact this
section
variable {P : Program} {fr : Fr} {ops : Array Oper} {A : As} {rest : List Oper} {K : As → List (As × Fx) → Prop} {d : Nat} {t ty' : TypeId} {p : String} {e : Array Edge} [T : Tab P]
theorem set_split {α : Type} {xs : List α} {i : Nat} (h : i < xs.length) (z : α) : xs.take i ++ ([z] ++ xs.drop (i + [z].length)) = xs.set i z := by
  rw [List.set_eq_take_append_cons_drop, if_pos h]; rfl
theorem r_store_vecE {α : Type} {E : El α} {xs : List α} {x y : Operand} {tg off Tb : Nat} {ti : TI} {z : α} (i : Nat) (hx : A.op fr x = .ptr tg off) (he : off = i * E.size) (hc : A.tag tg = some (.vec E Tb xs)) (h1 : 1 ≤ tg) (hT : T.tab[ty']? = some ti) (hsz : ti.size = E.size) (hy : A.op fr y = .agg (E.tys z)) (hi : i < xs.length)
    (h : TOps P fr ops rest (A.after { d := none, S := [tg], sets := [(tg, .vec E Tb (xs.set i z))], rs := opR x ++ opR y, rt := [tg] }) fun A' l'' => K A' ((A, { d := none, S := [tg], sets := [(tg, .vec E Tb (xs.set i z))], rs := opR x ++ opR y, rt := [tg] }) :: l'')) :
    TOps P fr ops (⟨none, .store ty' x y, t, p, e, none⟩ :: rest) A K := by
  refine ⟨_, opT_unit rfl rfl rfl (by simp) (by simpa using h1) (by simp) fun a w M wf hr ht => ?_, h⟩
  obtain ⟨hdx, hdy⟩ := op2 hr
  rw [hx] at hdx; rw [hy] at hdy
  obtain ⟨b, hb, ex⟩ := hdx
  obtain ⟨vs, ey, hvs⟩ := hdy
  rcases vec_den hc w M ht with rfl | ⟨b', cs, hb', hh, hd⟩
  · exact absurd hi (Nat.not_lt_zero _)
  obtain ⟨u, rfl⟩ : ∃ u, tg = u + 1 := ⟨tg - 1, by omega⟩
  have := wf.inj b b' u hb hb'
  subst this
  have hlen := dens_len hd
  have hvl : vs.size = E.size := by have := dens_len hvs; rw [E.len] at this; simpa using this
  have hoff : i * E.size + E.size ≤ cs.size := by
    rw [flat_len, List.length_take] at hlen
    have : (i + 1) * E.size ≤ xs.length * E.size := Nat.mul_le_mul_right _ hi
    rw [Nat.succ_mul] at this
    simp at hlen; omega
  have hones : ∀ v ∈ vs.toList, v.oneCell' = true := dens_ones hvs (fun t ht => by
    have := flat_ones E [z] t (by simpa using ht)
    exact this)
  have hst := run_storeCells_at (P := P) b off Tb vs.toList 0 cs w hh (by simp [he, hvl]; omega) hones
  rw [setRow_set _ hh] at hst
  obtain ⟨h1', h2', h3'⟩ := store_le (cs' := (cs.toList.take (off + 0) ++ vs.toList ++ cs.toList.drop (off + 0 + vs.toList.length)).toArray) (Tb := Tb) wf hb _ rfl
  refine ⟨_, ?_, M, h1', h2', trivial, ?_⟩
  · simp only [execOp, Instr.storeAt, Instr.sureAddr, ex, ey, storeVar, Value.cells, run_sizeOf' hT, Sem.run_bind, Sem.run_pure, Result.andThen_ok, hsz, hvl, hst]
    simp [hst]
  · intro z' hz'
    simp only [List.mem_singleton] at hz'
    subst hz'
    refine .inr ⟨b, _, hb, h3', ?_⟩
    have hp := vec_put (ys := [z]) (vs := vs.toList) (i := i) hd (by simpa using hvs) (by show i + 1 ≤ _; omega)
    rw [set_split hi, ← he] at hp
    exact dens_mono h2' (by intro _ _ h; cases h) (by rw [E.flat_cdeps]; intro _ h; cases h) (by simpa using hp)
end
section
variable {P : Program} {A : As} {fn : Func} {n : Nat} {w0 : World} {M0 : Tags} [T : Tab P]
theorem i_rcell2 {tm ty tg Tb t2 : Nat} {l : List Ty} {ti : TI} {r1 r2 : Ty} (hr : fn.results = #[.cell tm ty, .tmp t2]) (ht : Nat.blt tm n = true) (h2 : Nat.blt t2 n = true) (hx : A.slots tm = .ptr tg 0) (hc : A.tag tg = some (.cells Tb l)) (h1 : 1 ≤ tg) (hT : T.tab[ty]? = some ti) (ha : ti.k.agg = true) (hl : l.length = ti.size) (hs : RetSub (.agg l) r1) (hs2 : RetSub (A.slots t2) r2) :
    Into ⟨n, w0, M0, [], .plain⟩ A (bodyPost P fn (retPost w0 M0 (Ty.tup [r1, r2])) .ret) := by
  intro a w ⟨M, ok, hsl, htg⟩
  have hd := hsl tm (by simpa using ht)
  rw [hx] at hd
  obtain ⟨b, hb, e⟩ := hd
  obtain ⟨b', cs, hb', hh, hds⟩ := htg _ (tag_mem hc)
  obtain ⟨u, rfl⟩ : ∃ u, tg = u + 1 := ⟨tg - 1, by omega⟩
  have := ok.wf.inj b b' u hb hb'
  subst this
  have hlen := dens_len hds
  have hload := run_loadN (P := P) hT ha (w := w) (b := b) (off := 0) (cs := cs.toList) (by rw [hlen, hl]) (fun j v hj => by simpa [World.cell?, hh] using hj)
  have hload' : (loadVar ty ⟨b, 0, none⟩).run P w = .ok (.agg cs) w := by simpa [Instr.loadAt, Instr.sureAddr] using hload
  refine ⟨ok.nodefers (by simp), .tuple #[.agg cs, a.tmps.getD t2 undef], ?_, _, pubM M, rfl, pubM_wf ok.wf, base_pub (fr := ⟨n, w0, M0, [], .plain⟩) (fun _ h => h) ok.base, _, rfl, hs _ _ _ ok.wf ⟨cs, rfl, hds⟩, hs2 _ _ _ ok.wf (hsl t2 (by simpa using h2)), trivial⟩
  have e' : a.tmps.getD tm undef = .pointer (some ⟨b, 0, none⟩) := e
  have e'' : a.tmps[tm]?.getD undef = .pointer (some ⟨b, 0, none⟩) := by rw [← Array.getD_eq_getD_getElem?]; exact e'
  simp [results, hr, e'', asAddr, hload']
end
section
variable {P : Program} {fr : Fr} {ops : Array Oper} {A : As} {rest : List Oper} {K : As → List (As × Fx) → Prop} {d : Nat} {t ty' : TypeId} {p : String} {e : Array Edge} [T : Tab P]
theorem r_copyV {α : Type} {E : El α} {zs ys : List α} {x y : Operand} {tg n el st st' Tb : Nat} {ti te : TI} (hx : A.op fr x = .vs tg n) (hy : A.op fr y = .sl E ys) (hc : A.tag tg = some (.vec E Tb zs)) (h1 : 1 ≤ tg) (hT : T.tab[st]? = some ti) (hk : ti.k = .slice el) (hE : T.tab[el]? = some te) (hs : te.size = E.size) (hn : zs.length = n) (hle : ys.length ≤ n)
    (h : TOps P fr ops rest (A.after { d := some d, ty := .int .i64 (ys.length : Nat), S := [tg], sets := [(tg, .vec E Tb (ys ++ zs.drop ys.length))], rs := opR x ++ opR y, rt := [tg] }) fun A' l'' => K A' ((A, { d := some d, ty := .int .i64 (ys.length : Nat), S := [tg], sets := [(tg, .vec E Tb (ys ++ zs.drop ys.length))], rs := opR x ++ opR y, rt := [tg] }) :: l'')) :
    TOps P fr ops (⟨some d, .call ⟨.builtin .copy, #[x, y], #[st, st']⟩, t, p, e, none⟩ :: rest) A K := by
  refine ⟨_, opT_mem rfl rfl (by simp) (by simpa using h1) (by simp) fun a w M wf hr ht => ?_, h⟩
  obtain ⟨hdx, hdy⟩ := op2 hr
  rw [hx] at hdx; rw [hy] at hdy
  obtain ⟨_, D, _, hD, hkd, _⟩ := tab_info hT
  rw [hk] at hkd
  cases D <;> simp only [TK.of, reduceCtorEq, TK.slice.injEq] at hkd
  subst hkd
  rename_i el
  have hsz := fun w => run_sizeOf' (P := P) hE w
  obtain ⟨ad, c, ey, hc1, hc2, hp⟩ := hdy
  have hmin : Nat.min ys.length n = ys.length := Nat.min_eq_left hle
  by_cases hys : ys = []
  · subst hys
    have hl : ∀ (q : Addr), (loadCells q 0).run P w = .ok #[] w := fun q => by simpa using run_loadCells_list (P := P) w q [] (by simp)
    have hrun : (Builtin.copy_ #[st, st'] t #[a.eval x, a.eval y]).run P w = .ok (goInt 0) w := by
      rw [ey]
      rcases hdx with ⟨_, ex⟩ | ⟨b, c', _, ex, _⟩ <;> rw [ex] <;> cases ad <;> simp [Builtin.copy_, run_underlying hD, Builtin.lenOf, Builtin.firstCells, hsz, storeCells, hl]
    refine ⟨goInt 0, w, by simp [execOp, resolve, invoke, builtin, hrun], M, wf, (Le.refl _ _ w M), rfl, ?_⟩
    intro z' hz'
    simp only [List.mem_singleton] at hz'
    subst hz'
    have hv : (Cont.vec E Tb zs).den w M tg := vec_den hc w M ht
    simpa using hv
  · have hpos : 0 < ys.length := List.length_pos_iff.2 hys
    obtain ⟨b', off, rfl, hp'⟩ := hp hpos
    obtain ⟨news, hn1, hn2, hn3⟩ := pub_cells hp' _ (Nat.le_refl _)
    rw [List.take_length] at hn2
    rw [flat_len] at hn1
    rcases hdx with ⟨h0, _⟩ | ⟨b, c', hb, ex, _⟩
    · omega
    rcases vec_den hc w M ht with rfl | ⟨b2, cs, hb2, hh, hd⟩
    · simp at hn; omega
    obtain ⟨u, rfl⟩ : ∃ u, tg = u + 1 := ⟨tg - 1, by omega⟩
    have := wf.inj b b2 u hb hb2
    subst this
    have hlen := dens_len hd
    have hm : ys.length * E.size ≤ zs.length * E.size := Nat.mul_le_mul_right _ (by omega)
    have hoff : ys.length * E.size ≤ cs.size := by
      rw [flat_len, List.length_take] at hlen
      simp at hlen; omega
    have hst := run_storeCells_at (P := P) b 0 Tb news 0 cs w hh (by omega) (dens_ones hn2 (flat_ones E ys))
    rw [setRow_set _ hh] at hst
    obtain ⟨h1', h2', h3'⟩ := store_le (cs' := (cs.toList.take (0 + 0) ++ news ++ cs.toList.drop (0 + 0 + news.length)).toArray) (Tb := Tb) wf hb _ rfl
    have hld : (loadCells ⟨b', off, none⟩ (ys.length * E.size)).run P w = .ok news.toArray w := by
      rw [← hn1]
      exact run_loadCells_list (P := P) w _ news (fun j v hj => by rw [Addr.add_lit]; exact hn3 j v hj)
    have hrun : (Builtin.copy_ #[st, st'] t #[a.eval x, a.eval y]).run P w = .ok (goInt ys.length) { w with heap := w.heap.setIfInBounds b (.cells (cs.toList.take (0 + 0) ++ news ++ cs.toList.drop (0 + 0 + news.length)).toArray Tb (0, 0)) } := by
      rw [ex, ey]
      simp only [Builtin.copy_, run_underlying hD, Builtin.lenOf, Builtin.firstCells, hsz, hs, hmin, hld, Sem.run_bind, Sem.run_pure, Result.andThen_ok]
      simp [run_underlying hD, hsz, hs, hmin, hld]
      simp at hst
      rw [hst]
      simp
    refine ⟨goInt ys.length, _, by simp [execOp, resolve, invoke, builtin, hrun], M, h1', h2', rfl, ?_⟩
    intro z' hz'
    simp only [List.mem_singleton] at hz'
    subst hz'
    refine .inr ⟨b, _, hb, h3', ?_⟩
    have hq := vec_put (xs := zs) (ys := ys) (vs := news) (i := 0) hd hn2 (by omega)
    rw [List.take_zero, List.nil_append, Nat.zero_add, Nat.zero_mul] at hq
    exact dens_mono h2' (by intro _ _ h; cases h) (by rw [E.flat_cdeps]; intro _ h; cases h) (by simpa using hq)
end
end Go.T

namespace Go.Proofs.Ytifgbnbkimcchaa
open Go Go.T
def noFlr : Flr := ⟨[], [], [], []⟩
def moreF (f : Flr) (r : Rul) : Flr := { f with rules := f.rules ++ [r] }
def waitP (f : Flr) (r : Rul) : Flr × Int :=
  if checkP f ≠ 0 then (noFlr, checkP f) else if (f.rules.length : Int) = 16 then (noFlr, 9) else if checkP (moreF f r) ≠ 0 then (noFlr, checkP (moreF f r)) else (moreF f r, 0)
section
variable {f : Flr} {r : Rul}
theorem wait1 (h : ¬ checkP f = 0) : waitP f r = (noFlr, checkP f) := if_pos h
theorem wait2 (h : checkP f = 0) (h2 : (f.rules.length : Int) = 16) : waitP f r = (noFlr, 9) := by unfold waitP; rw [if_neg (fun x => x h), if_pos h2]
theorem wait3 (h : checkP f = 0) (h2 : ¬ (f.rules.length : Int) = 16) (h3 : ¬ checkP (moreF f r) = 0) : waitP f r = (noFlr, checkP (moreF f r)) := by unfold waitP; rw [if_neg (fun x => x h), if_neg h2, if_pos h3]
theorem wait4 (h : checkP f = 0) (h2 : ¬ (f.rules.length : Int) = 16) (h3 : checkP (moreF f r) = 0) : waitP f r = (moreF f r, 0) := by unfold waitP; rw [if_neg (fun x => x h), if_neg h2, if_neg (fun x => x h3)]
end
theorem rules_put {α : Type} (l : List α) (r x0 : α) {n : Nat} (h : n = l.length + 1) : (l ++ (List.replicate n x0).drop l.length).set l.length r = l ++ [r] := by
  subst h
  have : (List.replicate (l.length + 1) x0).drop l.length = [x0] := by rw [List.drop_replicate]; simp
  rw [this, List.set_append, if_neg (by omega), Nat.sub_self]; rfl
theorem Lead.mono {l m : List Rul} (h : ∀ r ∈ l, r ∈ m) {x y : Int} (hl : Lead l x y) : Lead m x y := by
  induction hl with
  | one hr => exact .one (h _ hr)
  | step hr _ ih => exact .step (h _ hr) ih
theorem lead_first {l : List Rul} {r : Rul} {x y : Int} (h : Lead (l ++ [r]) x y) : Lead l x y ∨ ((x = r.fst ∨ Lead l x r.fst) ∧ (r.nxt = y ∨ Lead (l ++ [r]) r.nxt y)) := by
  induction h with
  | @one q hq =>
    rcases List.mem_append.1 hq with hq | hq
    · exact .inl (.one hq)
    · obtain rfl := List.mem_singleton.1 hq
      exact .inr ⟨.inl rfl, .inl rfl⟩
  | @step q a hq _ ih =>
    rcases ih with ih | ⟨h1, h2⟩
    · rcases List.mem_append.1 hq with hq | hq
      · exact .inl (.step hq ih)
      · obtain rfl := List.mem_singleton.1 hq
        exact .inr ⟨.inr ih, .inl rfl⟩
    · refine .inr ⟨h1, .inr ?_⟩
      rcases h2 with h2 | h2
      · rw [h2]; exact .one hq
      · exact .step hq h2
theorem lead_last {l : List Rul} {r : Rul} {x y : Int} (h : Lead (l ++ [r]) x y) : Lead l x y ∨ r.nxt = y ∨ Lead l r.nxt y := by
  induction h with
  | @one q hq =>
    rcases List.mem_append.1 hq with hq | hq
    · exact .inl (.one hq)
    · obtain rfl := List.mem_singleton.1 hq
      exact .inr (.inl rfl)
  | @step q a hq _ ih =>
    rcases List.mem_append.1 hq with hq | hq
    · rcases ih with ih | ih | ih
      · exact .inl (.step hq ih)
      · exact .inr (.inr (by rw [ih]; exact .one hq))
      · exact .inr (.inr (.step hq ih))
    · obtain rfl := List.mem_singleton.1 hq
      exact .inr (.inl rfl)
theorem round_more {l : List Rul} {r : Rul} (hn : ∀ t, ¬ Lead l t t) : (∃ t, Lead (l ++ [r]) t t) ↔ r.fst = r.nxt ∨ Lead l r.nxt r.fst := by
  constructor
  · rintro ⟨t, h⟩
    rcases lead_first h with h | ⟨h1, h2⟩
    · exact absurd h (hn t)
    · have h3 : r.nxt = r.fst ∨ Lead (l ++ [r]) r.nxt r.fst := by
        rcases h1 with h1 | h1
        · rw [← h1]; exact h2
        · have h1 := h1.mono (m := l ++ [r]) fun a ha => List.mem_append_left _ ha
          rcases h2 with h2 | h2
          · rw [h2]; exact .inr h1
          · exact .inr (h2.trans h1)
      rcases h3 with h3 | h3
      · exact .inl h3.symm
      · rcases lead_last h3 with h | h | h
        · exact .inr h
        · exact .inl h.symm
        · exact .inr h
  · have hone : Lead (l ++ [r]) r.fst r.nxt := .one (List.mem_append_right _ (List.mem_singleton.2 rfl))
    rintro (h | h)
    · exact ⟨r.fst, by rw [h] at hone ⊢; exact hone⟩
    · exact ⟨r.nxt, (h.mono fun a ha => List.mem_append_left _ ha).trans hone⟩
theorem clash_iff {f : Flr} (hf : f.Ruled) : clashP f = true ↔ ∃ t, Lead f.rules t t := by
  rw [clash_eq hf, List.any_eq_true]
  constructor
  · rintro ⟨t, _, h⟩
    exact ⟨t, (mem_aheadM.1 (of_decide_eq_true h)).2⟩
  · rintro ⟨t, h⟩
    have := lead_named hf h
    exact ⟨t, mem_iot.2 this.1, decide_eq_true (mem_aheadM.2 ⟨this.1, h⟩)⟩
theorem ruled_more {f : Flr} (hf : f.Ruled) {r : Rul} (h : (0 ≤ r.fst ∧ r.fst < f.turnings.length) ∧ 0 ≤ r.nxt ∧ r.nxt < f.turnings.length) : (moreF f r).Ruled := by
  refine ⟨hf.1, fun q hq => ?_⟩
  rcases List.mem_append.1 hq with hq | hq
  · exact hf.2 q hq
  · obtain rfl := List.mem_singleton.1 hq
    show (0 ≤ q.fst ∧ q.fst < (f.turnings.length : Int)) ∧ (0 ≤ q.nxt ∧ q.nxt < (f.turnings.length : Int))
    omega
theorem rightM_zero (f : Flr) : rightM f = 0 ↔ right1 f = false ∧ right2 f = false ∧ right3 f = false ∧ right4 f = false ∧ right5 f = false ∧ right6 f = false ∧ right7 f = false := by
  unfold rightM
  cases right1 f <;> cases right2 f <;> cases right3 f <;> cases right4 f <;> cases right5 f <;> cases right6 f <;> cases right7 f <;> simp
theorem right_more {f : Flr} (h : checkP f = 0) (h16 : f.rules.length < 16) {r : Rul} (hr : (0 ≤ r.fst ∧ r.fst < f.turnings.length) ∧ 0 ≤ r.nxt ∧ r.nxt < f.turnings.length) : rightM (moreF f r) = 0 := by
  have h0 : rightM f = 0 := by
    unfold checkP at h
    split at h
    · exact h
    · rename_i hx; exact Classical.byContradiction fun hy => hx hy
  rw [rightM_zero] at h0 ⊢
  obtain ⟨h1, h2, h3, h4, h5, h6, h7⟩ := h0
  refine ⟨?_, h2, h3, ?_, h5, h6, h7⟩
  · have e : ((moreF f r).rules.length : Int) = (f.rules.length : Int) + 1 := by show ((f.rules ++ [r]).length : Int) = _; simp
    simp only [right1, Bool.or_eq_false_iff, decide_eq_false_iff_not] at h1 ⊢
    exact ⟨⟨h1.1.1, by rw [e]; omega⟩, h1.2⟩
  · simp only [right4, Bool.or_eq_false_iff, Bool.not_eq_false'] at h4 ⊢
    refine ⟨h4.1, ?_⟩
    show ((f.rules ++ [r]).all fun r => inB r.fst 0 (f.turnings.length - 1) && inB r.nxt 0 (f.turnings.length - 1)) = true
    rw [List.all_append, h4.2]
    have e1 : inB r.fst 0 (f.turnings.length - 1) = true := by unfold inB; simp; omega
    have e2 : inB r.nxt 0 (f.turnings.length - 1) = true := by unfold inB; simp; omega
    simp [e1, e2]
theorem check_more {f : Flr} (h : checkP f = 0) (h16 : f.rules.length < 16) {r : Rul} (hr : (0 ≤ r.fst ∧ r.fst < f.turnings.length) ∧ 0 ≤ r.nxt ∧ r.nxt < f.turnings.length) : (r.fst = r.nxt ∨ Lead f.rules r.nxt r.fst → checkP (moreF f r) = 7) ∧ (¬ (r.fst = r.nxt ∨ Lead f.rules r.nxt r.fst) → checkP (moreF f r) = 0) := by
  have hc := clash_iff (ruled_more (check_right h).ruled hr)
  have hm := round_more (l := f.rules) (r := r) (fun t => no_round h t)
  have e : (∃ t, Lead (moreF f r).rules t t) ↔ r.fst = r.nxt ∨ Lead f.rules r.nxt r.fst := hm
  rw [e] at hc
  unfold checkP
  rw [if_neg (fun x => x (right_more h h16 hr))]
  constructor
  · intro hx; rw [if_pos (hc.2 hx)]
  · intro hx; rw [if_neg (fun y => hx (hc.1 y))]
theorem wait_more {f : Flr} (h : checkP f = 0) (h16 : f.rules.length < 16) {r : Rul} (hr : (0 ≤ r.fst ∧ r.fst < f.turnings.length) ∧ 0 ≤ r.nxt ∧ r.nxt < f.turnings.length) : (r.fst = r.nxt ∨ Lead f.rules r.nxt r.fst → waitP f r = (noFlr, 7)) ∧ (¬ (r.fst = r.nxt ∨ Lead f.rules r.nxt r.fst) → waitP f r = (moreF f r, 0) ∧ checkP (moreF f r) = 0) := by
  obtain ⟨h1, h2⟩ := check_more h h16 hr
  constructor
  · intro hx
    have := h1 hx
    rw [wait3 h (by omega) (by omega), this]
  · intro hx
    exact ⟨wait4 h (by omega) (h2 hx), h2 hx⟩
def befL (l : List Int) (a b : Int) : Bool := (List.range l.length).all fun i => !decide (nth l i = b) || decide (a ∈ l.take i)
theorem befL_iff {l : List Int} {a b : Int} : befL l a b = true ↔ ∀ i, i < l.length → nth l i = b → a ∈ l.take i := by
  unfold befL
  rw [List.all_eq_true]
  constructor
  · intro h i hi e
    have := h i (List.mem_range.2 hi)
    rw [decide_eq_true e] at this
    simpa using this
  · intro h i hi
    by_cases e : nth l i = b
    · rw [decide_eq_true (h i (List.mem_range.1 hi) e)]; simp
    · rw [decide_eq_false e]; rfl
theorem ready_more (f : Flr) (a b : Int) (done : List Int) (t : Int) : readyL (moreF f ⟨a, b⟩) done t = (readyL f done t && !(decide (b = t) && !decide (a ∈ done))) := by
  unfold readyL
  show (!decide (t ∈ done) && !((f.rules ++ [(⟨a, b⟩ : Rul)]).any fun r => decide (r.nxt = t) && !decide (r.fst ∈ done))) = _
  rw [List.any_append]
  simp [Bool.and_assoc]
theorem order_more {f : Flr} {a b : Int} (h : checkP f = 0) (hm : checkP (moreF f ⟨a, b⟩) = 0) (l : List Int) : orderM (moreF f ⟨a, b⟩) l = 0 ↔ orderM f l = 0 ∧ befL l a b = true := by
  have e1 : orderM (moreF f ⟨a, b⟩) l = 0 ↔ allowedL (moreF f ⟨a, b⟩) l = true := by rw [allowed_law hm, decide_eq_true_eq]
  have e2 : orderM f l = 0 ↔ allowedL f l = true := by rw [allowed_law h, decide_eq_true_eq]
  rw [e1, e2]
  unfold allowedL
  rw [Bool.and_eq_true, Bool.and_eq_true, List.all_eq_true, List.all_eq_true, befL_iff]
  have hs : ∀ i, stepOk (moreF f ⟨a, b⟩) l i = true ↔ stepOk f l i = true ∧ (nth l i = b → a ∈ l.take i) := fun i => by
    unfold stepOk
    rw [ready_more]
    show (decide (0 ≤ nth l i) && decide (nth l i < (f.turnings.length : Int)) && (readyL f (l.take i) (nth l i) && !(decide (b = nth l i) && !decide (a ∈ l.take i)))) = true ↔ _
    by_cases e : b = nth l i
    · subst e
      by_cases ha : a ∈ l.take i <;> simp [ha]
    · have e' : ¬ nth l i = b := fun x => e x.symm
      simp [e, e']
  constructor
  · rintro ⟨h1, h2⟩
    exact ⟨⟨fun i hi => ((hs i).1 (h1 i hi)).1, h2⟩, fun i hi => ((hs i).1 (h1 i (List.mem_range.2 hi))).2⟩
  · rintro ⟨⟨h1, h2⟩, h3⟩
    exact ⟨fun i hi => (hs i).2 ⟨h1 i hi, h3 i (List.mem_range.1 hi)⟩, h2⟩
theorem margin_more (f : Flr) (r : Rul) (l : List Int) : marginM (moreF f r) l = marginM f l := rfl
theorem nodup_nth {l : List Int} (h : l.Nodup) {i j : Nat} (hi : i < l.length) (hj : j < l.length) (e : nth l i = nth l j) : i = j := by
  rcases Nat.lt_trichotomy i j with hlt | rfl | hlt
  · exact absurd (e ▸ (by rw [nth_lt hi]; exact List.mem_take_iff_getElem.2 ⟨i, by omega, rfl⟩ : nth l i ∈ l.take j)) (nodup_not h hj)
  · rfl
  · exact absurd (e ▸ (by rw [nth_lt hj]; exact List.mem_take_iff_getElem.2 ⟨j, by omega, rfl⟩ : nth l j ∈ l.take i)) (nodup_not h hi)
theorem mem_nth {l : List Int} {x : Int} (h : x ∈ l) : ∃ i, i < l.length ∧ nth l i = x := by
  obtain ⟨i, hi, e⟩ := List.getElem_of_mem h
  exact ⟨i, hi, by rw [nth_lt hi, e]⟩
theorem mem_take_nth {l : List Int} {x : Int} {j : Nat} (h : x ∈ l.take j) : ∃ i, i < j ∧ i < l.length ∧ nth l i = x := by
  obtain ⟨i, hi, e⟩ := List.mem_take_iff_getElem.1 h
  exact ⟨i, by omega, by omega, by rw [nth_lt (by omega), e]⟩
theorem nth_take_mem {l : List Int} {i j : Nat} (hij : i < j) (hi : i < l.length) : nth l i ∈ l.take j := by
  rw [nth_lt hi]; exact List.mem_take_iff_getElem.2 ⟨i, by omega, rfl⟩
theorem bef_either {l : List Int} (h : l.Nodup) {a b : Int} (ha : a ∈ l) (hb : b ∈ l) (hne : a ≠ b) : befL l b a = !befL l a b := by
  obtain ⟨i, hi, ei⟩ := mem_nth ha
  obtain ⟨j, hj, ej⟩ := mem_nth hb
  have hij : i ≠ j := fun e => hne (by rw [← ei, ← ej, e])
  have key : ∀ {i j : Nat} {a b : Int}, i < l.length → j < l.length → nth l i = a → nth l j = b → i < j → befL l a b = true ∧ befL l b a = false := by
    intro i j a b hi hj ei ej hlt
    refine ⟨befL_iff.2 fun k hk ek => ?_, Bool.eq_false_iff.2 fun hx => ?_⟩
    · have : k = j := nodup_nth h hk hj (by rw [ek, ej])
      rw [this, ← ei]; exact nth_take_mem hlt hi
    · obtain ⟨k, hk, hkl, ek⟩ := mem_take_nth (befL_iff.1 hx i hi ei)
      have : k = j := nodup_nth h hkl hj (by rw [ek, ej])
      omega
  rcases Nat.lt_or_gt_of_ne hij with hlt | hlt
  · obtain ⟨h1, h2⟩ := key hi hj ei ej hlt
    rw [h1, h2]; rfl
  · obtain ⟨h1, h2⟩ := key hj hi ej ei hlt
    rw [h1, h2]; rfl
theorem orders_nodup (f : Flr) : ∀ (m : Nat) (done : List Int), (ordersM f m done).Nodup
  | 0, _ => List.Pairwise.nil
  | m + 1, done => by
    rw [ordersM]
    split
    · exact List.pairwise_singleton _ _
    · unfold List.Nodup
      rw [List.pairwise_flatMap]
      refine ⟨fun t _ => ?_, (iot_pair _).imp fun {t t'} h a ha b hb => ?_⟩
      · split
        · exact orders_nodup f m _
        · exact List.Pairwise.nil
      · split at ha
        · split at hb
          · obtain ⟨r, rfl, _⟩ := orders_ext m _ a ha
            obtain ⟨r', rfl, _⟩ := orders_ext m _ b hb
            intro e
            rw [List.append_assoc, List.append_assoc] at e
            have := List.append_cancel_left e
            have : t = t' := by injection this
            omega
          · cases hb
        · cases ha
theorem keep_nodup (f : Flr) : (keepR f).Nodup := by
  unfold keepR
  split
  · exact List.Pairwise.nil
  · exact (orders_nodup f _ _).filter _
theorem keep_more {f : Flr} {a b : Int} (h : checkP f = 0) (hm : checkP (moreF f ⟨a, b⟩) = 0) : (keepR (moreF f ⟨a, b⟩)).length = ((keepR f).filter fun l => befL l a b).length := by
  have h0 : checkM f = 0 := by rw [← check_eq]; exact h
  have h1 : checkM (moreF f ⟨a, b⟩) = 0 := by rw [← check_eq]; exact hm
  refine ((List.perm_ext_iff_of_nodup (keep_nodup _) ((keep_nodup f).filter _)).2 fun l => ?_).length_eq
  rw [List.mem_filter, keepR_mem h0, keepR_mem h1, order_more h hm, margin_more]
  constructor
  · rintro ⟨⟨h1, h2⟩, h3⟩; exact ⟨⟨h1, h3⟩, h2⟩
  · rintro ⟨⟨h1, h3⟩, h2⟩; exact ⟨⟨h1, h2⟩, h3⟩
theorem filter_two {α : Type} (p : α → Bool) : ∀ l : List α, l.length = (l.filter p).length + (l.filter fun x => !p x).length
  | [] => rfl
  | x :: l => by
    have ih := filter_two p l
    cases hp : p x <;> simp [hp] <;> omega
def sideN (f : Flr) (a b : Int) : Nat := ((keepR f).filter fun l => befL l a b).length
theorem count_two {f : Flr} (h : checkP f = 0) {a b : Int} (ha : 0 ≤ a ∧ a < f.turnings.length) (hb : 0 ≤ b ∧ b < f.turnings.length) (hne : a ≠ b) : (keepR f).length = sideN f a b + sideN f b a := by
  have h0 : checkM f = 0 := by rw [← check_eq]; exact h
  rw [filter_two (fun l => befL l a b) (keepR f)]
  unfold sideN
  congr 2
  refine List.filter_congr fun l hl => ?_
  have hans := answers h (keepR_right h0 hl)
  exact (bef_either hans.nodup ((hans.all a).2 ha) ((hans.all b).2 hb) hne).symm
theorem side_none {f : Flr} (h : checkP f = 0) {a b : Int} (ha : 0 ≤ a ∧ a < f.turnings.length) (hl : b ∈ aheadM f a) : sideN f a b = 0 := by
  have h0 : checkM f = 0 := by rw [← check_eq]; exact h
  unfold sideN
  have : (keepR f).filter (fun l => befL l a b) = [] := List.filter_eq_nil_iff.2 fun l hk hx => by
    have ho := keepR_right h0 hk
    have hans := answers h ho
    obtain ⟨i, hi, ei⟩ := mem_nth ((hans.all a).2 ha)
    obtain ⟨j, hji, hj, ej⟩ := mem_take_nth ((order_spec ho).2.2.2 i hi b (by rw [ei]; exact hl))
    obtain ⟨k, hkj, hk, ek⟩ := mem_take_nth (befL_iff.1 hx j hj ej)
    have := nodup_nth hans.nodup hk hi (by rw [ek, ei])
    omega
  rw [this]; rfl
theorem nodup_one {α : Type} [Inhabited α] {l : List α} (h : l.Nodup) (x : α) (hx : ∀ y ∈ l, y = x) : l.length ≤ 1 := by
  match l, h, hx with
  | [], _, _ => exact Nat.zero_le _
  | [_], _, _ => exact Nat.le_refl _
  | y :: z :: r, h, hx =>
    exfalso
    have e1 := hx y List.mem_cons_self
    have e2 := hx z (List.mem_cons_of_mem _ List.mem_cons_self)
    have := (List.pairwise_cons.1 h).1 z List.mem_cons_self
    exact this (by rw [e1, e2])
theorem keep_one {f : Flr} (h : checkP f = 0) (hT : f.turnings.length < 2) : (keepR f).length ≤ 1 := by
  have h0 : checkM f = 0 := by rw [← check_eq]; exact h
  refine nodup_one (keep_nodup f) (iot f.turnings.length) fun l hl => ?_
  have hans := answers h (keepR_right h0 hl)
  have hlen := hans.len
  have h1 : f.turnings.length = 0 ∨ f.turnings.length = 1 := by omega
  rcases h1 with h1 | h1
  · rw [h1] at hlen ⊢
    exact List.eq_nil_of_length_eq_zero hlen
  · match l, hlen, hans.rng with
    | [x], _, hr =>
      have := hr x List.mem_cons_self
      have : x = 0 := by omega
      rw [this, h1]; rfl
    | [], hlen, _ => simp at hlen; omega
    | _ :: _ :: _, hlen, _ => simp at hlen; omega
end Go.Proofs.Ytifgbnbkimcchaa

namespace Go.Proofs.Ytifgbnbkimcchaa
open Go Go.T
set_option maxHeartbeats 2000000
attribute [local irreducible] dInt dBool dSl dPp dPtr dAgg dTup dClo dAny dEx dStr dGd dCells dVec dVs dRow dOp nth Tri Into TOps Ctr bodyPost Exit.then Exit.inBlock Code.wp Code.wpIn dWhen dPa dPe dAo dArr dMp dPm dMap dCJ CtrG CtrI OpY keepPost iterPost bodyPostM roundQ
theorem und24 : Try.prog.underlying 24 = some (.slice 99) := by kernel_rfl
theorem no_flr : RetSub (Ty.agg [Ty.ex (.slice none 0 0), Ty.ex (.slice none 0 0), Ty.ex (.slice none 0 0), Ty.ex (.slice none 0 0)]) (flrT noFlr) := ret_agg (rets_cons ret_nil (rets_cons ret_nil (rets_cons ret_nil (rets_cons ret_nil rets_nil))))
theorem no_flr_eq {g : Flr} (e : g = noFlr) : RetSub (Ty.agg [Ty.ex (.slice none 0 0), Ty.ex (.slice none 0 0), Ty.ex (.slice none 0 0), Ty.ex (.slice none 0 0)]) (flrT g) := e ▸ no_flr
theorem small_more {f : Flr} (h : checkP f = 0) (r : Rul) : (moreF f r).Small := by
  have hr := (check_right h).ranged
  have hs := small_right (check_right h)
  refine ⟨hs.bears, hs.bins, hs.turnings, ?_, hs.shares⟩
  have := hr.rules
  show (f.rules ++ [r]).length ≤ 21
  simp; omega
set_option maxRecDepth 100000 in
theorem c_Clone_trn (l : List Trn) (h : l.length ≤ 1000) : Ctr Try.prog 105 [Ty.sl TrnE l] (Ty.sl TrnE l) := by
  refine fn_intro Try.func105 rfl (by decide) Try.ntmps105 (by exact Nat.le_of_ble_eq_true rfl) fun w0 M0 => ?_
  refine t_seq ?_
  refine t_region ?_
  refine asX rfl ?_
  refine r_nil ?_
  refine i_then ?_
  refine t_seq ?_
  refine t_seq ?_
  refine t_region ?_
  refine mvS rfl ?_
  refine r_eqnil und24 rfl ?_
  refine r_nil ?_
  refine i_then ?_
  refine t_cond_nb rfl (fun hc1 => ?_) (fun hc1 => ?_)
  ·
    refine t_seq ?_
    refine t_region ?_
    refine asX rfl ?_
    refine r_nil ?_
    refine i_then ?_
    refine t_ret ?_
    refine i_then_ret ?_
    refine i_rp1 rfl rfl ?_
    all_goals skip
    exact ret_nil_eq hc1
  ·
    refine t_skip ?_
    refine i_then ?_
    refine t_seq ?_
    refine t_region ?_
    refine r_buildRow (E := TrnE) rfl rfl rfl rfl ?_
    refine mvS rfl ?_
    refine r_append rfl rfl (by decide) rfl rfl rfl rfl rfl rfl (by decide) (by (simp <;> omega)) (by (simp <;> omega)) ?_
    refine asR rfl ?_
    refine r_nil ?_
    refine i_then ?_
    refine t_ret ?_
    refine i_rp1 rfl rfl ?_
    all_goals exact ret_row (by decide)
    skip
set_option maxRecDepth 100000 in
theorem c_Wait (f : Flr) (hs : f.Small) (r : Rul) : Ctr Try.prog 42 [flrT f, Ty.agg (RulE.tys r)] (Ty.tup [flrT (waitP f r).1, Ty.int .i64 (waitP f r).2]) := by
  refine fn_intro Try.func42 rfl (by decide) Try.ntmps42 (by exact Nat.le_of_ble_eq_true rfl) fun w0 M0 => ?_
  have hs1 := hs.bears; have hs2 := hs.bins; have hs3 := hs.turnings; have hs4 := hs.rules
  have hs1 := hs.bears
  have hs2 := hs.bins
  have hs3 := hs.turnings
  have hs4 := hs.rules
  refine t_seq ?_
  refine t_region ?_
  refine r_box_agg rfl ?_
  refine r_box_agg rfl ?_
  refine r_alloc rfl (by exact List.cons_ne_nil _ _) rfl ?_
  refine asI rfl ?_
  refine r_nil ?_
  refine i_then ?_
  refine t_seq ?_
  refine t_seq ?_
  refine t_region ?_
  refine r_load_ppN rfl rfl rfl (by exact Nat.le_of_ble_eq_true rfl) ?_
  refine r_call (c_Check f hs) rfl rfl rfl rfl rfl ?_
  refine asI rfl ?_
  refine r_nil ?_
  refine i_then ?_
  refine t_seq ?_
  refine t_region ?_
  refine mvI rfl ?_
  refine r_bin rfl rfl rfl ?_
  refine r_nil ?_
  refine i_then ?_
  refine t_cond_ndec rfl (fun hc1 => ?_) (fun hc1 => ?_)
  ·
    refine t_seq ?_
    refine t_region ?_
    refine r_build rfl rfl (by exact List.cons_ne_nil _ _) rfl (by repeat (exact (Parts.nil : Parts _ _ [] _))) (by exact (rfl : _ = some [_, _, _, _])) ?_
    refine mvI rfl ?_
    refine r_storeN rfl rfl (by decide) rfl rfl rfl rfl rfl rfl ?_
    refine asI rfl ?_
    refine r_nil ?_
    refine i_then ?_
    refine t_ret ?_
    refine i_then_ret ?_
    refine i_rcell2 rfl rfl rfl rfl rfl (by decide) rfl rfl rfl ?_ ?_
    all_goals skip
    all_goals first | exact no_flr_eq (congrArg Prod.fst (wait1 hc1)) | exact ret_eq rfl rfl (congrArg (Ty.int .i64) (congrArg Prod.snd (wait1 hc1)).symm)
  ·
    refine t_skip ?_
    refine i_then ?_
    refine t_seq ?_
    refine t_seq ?_
    refine t_region ?_
    refine r_field_pp rfl rfl rfl rfl rfl (by decide) ?_
    refine r_load_pp rfl rfl rfl rfl ?_
    refine r_len rfl rfl rfl ?_
    refine r_bin rfl rfl rfl ?_
    refine r_nil ?_
    refine i_then ?_
    refine t_cond_dec rfl (fun hc2 => ?_) (fun hc2 => ?_)
    ·
      refine t_seq ?_
      refine t_region ?_
      refine r_build rfl rfl (by exact List.cons_ne_nil _ _) rfl (by repeat (exact (Parts.nil : Parts _ _ [] _))) (by exact (rfl : _ = some [_, _, _, _])) ?_
      refine r_storeN rfl rfl (by decide) rfl rfl rfl rfl rfl rfl ?_
      refine asI rfl ?_
      refine r_nil ?_
      refine i_then ?_
      refine t_ret ?_
      refine i_then_ret ?_
      refine i_rcell2 rfl rfl rfl rfl rfl (by decide) rfl rfl rfl ?_ ?_
      all_goals skip
      all_goals first | exact no_flr_eq (congrArg Prod.fst (wait2 hc1 hc2)) | exact ret_eq rfl rfl (congrArg (Ty.int .i64) (congrArg Prod.snd (wait2 hc1 hc2)).symm)
    ·
      refine t_skip ?_
      refine i_then ?_
      refine t_seq ?_
      refine t_draw mixed rfl ?_
      refine r_field_pp rfl rfl rfl rfl rfl (by decide) ?_
      refine r_load_pp rfl rfl rfl rfl ?_
      refine r_call (c_Clone_int f.bears (by omega)) rfl rfl rfl rfl rfl ?_
      refine r_field_pp rfl rfl rfl rfl rfl (by decide) ?_
      refine r_load_pp rfl rfl rfl rfl ?_
      refine r_call (c_Clone_trn f.turnings (by omega)) rfl rfl rfl rfl rfl ?_
      refine r_field_pp rfl rfl rfl rfl rfl (by decide) ?_
      refine r_load_pp rfl rfl rfl rfl ?_
      refine r_len rfl rfl rfl ?_
      refine r_add rfl rfl (by omega) (by omega) ?_
      refine r_makeV (E := RulE) (x0 := ⟨0, 0⟩) rfl rfl rfl rfl rfl rfl rfl (by decide) rfl (by omega) (by (dsimp only; omega)) (by omega) ?_
      refine r_build rfl rfl (by exact List.cons_ne_nil _ _) rfl (by repeat (first | exact (Parts.nil : Parts _ _ [] _) | (show Parts _ _ ((_, _) :: _) _; apply Parts.one; (· first | exact (rfl : _ = Ty.sl _ _) | exact (rfl : _ = Ty.vs _ _)); (· exact rfl)))) (by exact (rfl : _ = some [_, _, _, _])) ?_
      refine r_alloc rfl (by exact List.cons_ne_nil _ _) rfl ?_
      refine r_storeN rfl rfl (by decide) rfl rfl rfl rfl rfl rfl ?_
      refine r_nil ?_
      refine ⟨by kernel_rfl, ?_⟩
      refine i_then ?_
      refine t_seq ?_
      refine t_region ?_
      refine r_field_ptr rfl rfl rfl rfl rfl (by decide) ?_
      refine r_load_ptr rfl rfl (by decide) rfl rfl rfl ?_
      refine r_field_pp rfl rfl rfl rfl rfl (by decide) ?_
      refine r_load_pp rfl rfl rfl rfl ?_
      refine r_copyV rfl rfl rfl (by decide) rfl rfl rfl rfl (by (simp <;> omega)) (by omega) ?_
      refine r_nil ?_
      refine i_then ?_
      refine t_seq ?_
      refine t_region ?_
      refine r_field_ptr rfl rfl rfl rfl rfl (by decide) ?_
      refine r_load_ptr rfl rfl (by decide) rfl rfl rfl ?_
      refine r_field_pp rfl rfl rfl rfl rfl (by decide) ?_
      refine r_load_pp rfl rfl rfl rfl ?_
      refine r_len rfl rfl rfl ?_
      refine r_load_ppN rfl rfl rfl (by exact Nat.le_of_ble_eq_true rfl) ?_
      refine r_index_vs rfl rfl rfl rfl rfl (by omega) ?_
      refine r_store_vecE f.rules.length rfl rfl rfl (by decide) rfl rfl rfl (by (simp <;> omega)) ?_
      refine r_nil ?_
      refine i_then ?_
      refine t_seq ?_
      refine t_seq ?_
      refine t_region ?_
      refine r_field_pp rfl rfl rfl rfl rfl (by decide) ?_
      refine r_load_pp rfl rfl rfl rfl ?_
      refine r_len rfl rfl rfl ?_
      refine mvI rfl ?_
      refine r_nil ?_
      refine i_then ?_
      refine t_block ?_
      refine t_loop (fun (k : {k : Nat // k ≤ f.bins.length}) => live [(2, Ty.pp (flrTys f)), (4, Ty.ptr 5 0), (7, Ty.ptr 8 0), (47, Ty.sl BinE f.bins), (48, Ty.int .i64 f.bins.length), (49, Ty.int .i64 (k.1 : Nat))] [(5, Cont.cells 27 [Ty.ex (.slice none 0 0), Ty.ex (.slice none 0 0), Ty.ex (.slice none 0 0), Ty.ex (.slice none 0 0)]), (8, Cont.cells 27 [Ty.sl I64 f.bears, Ty.row BinE 79 63 (f.bins.take k.1), Ty.sl TrnE f.turnings, Ty.vs 33 (f.rules.length + 1)]), (33, Cont.vec RulE 69 (f.rules ++ [r]))]) (fun k => f.bins.length - k.1) (⟨0, by omega⟩) ?_ fun k => ?_
      · (refine Ent.mk' ?_ ?_ <;> (repeat' (first | exact allSub_zero | exact allTags_nil | exact subs_nil | refine allSub_succ' ?_ (Ty.sub_any _) | refine allSub_succ' ?_ (Ty.sub_refl _) | refine allTags_cons rfl (Cont.sub_refl _) ?_ | refine allTags_cons rfl (Cont.sub_subs ?_) ?_ | refine subs_cons ?_ (Ty.sub_refl _) | refine subs_cons ?_ Ty.nil_row | refine allTags_cons rfl ?_ ?_)))
        all_goals exact Cont.sub_vec (rules_put f.rules r _ (by omega))
      ·
        have hk := k.2
        refine t_seq ?_
        refine t_region ?_
        refine r_bin rfl rfl rfl ?_
        refine r_nil ?_
        refine i_then ?_
        refine t_seq ?_
        refine t_cond_dec rfl (fun hc3 => ?_) (fun hc3 => ?_)
        ·
          refine t_skip ?_
          refine i_then ?_
          refine t_seq ?_
          refine t_block ?_
          refine t_seq ?_
          refine t_region ?_
          refine r_index_slN rfl rfl rfl rfl rfl rfl (by omega) ?_
          refine r_load_ppN rfl rfl rfl (by exact Nat.le_of_ble_eq_true rfl) ?_
          refine r_alloc rfl (by exact List.cons_ne_nil _ _) rfl ?_
          refine r_storeN rfl rfl (by decide) rfl rfl rfl rfl rfl rfl ?_
          refine r_nil ?_
          refine i_then ?_
          refine t_draw mixed rfl ?_
          refine r_field_ptr rfl rfl rfl rfl rfl (by decide) ?_
          refine r_load_ptr rfl rfl (by decide) rfl rfl rfl ?_
          refine r_field_ptr rfl rfl rfl rfl rfl (by decide) ?_
          refine r_load_ptr rfl rfl (by decide) rfl rfl rfl ?_
          refine r_field_ptr rfl rfl rfl rfl rfl (by decide) ?_
          refine r_load_ptr rfl rfl (by decide) rfl rfl rfl ?_
          refine r_call (c_Clone_int (nth f.bins k.1).shares (by have := hs.shares _ (nth_mem (xs := f.bins) (k := k.1) (by omega)); omega)) rfl rfl rfl rfl rfl ?_
          refine r_build rfl rfl (by exact List.cons_ne_nil _ _) rfl (by repeat (first | exact (Parts.nil : Parts _ _ [] _) | (show Parts _ _ ((_, _) :: _) _; apply Parts.one; (· first | exact (rfl : _ = Ty.int _ _) | exact (rfl : _ = Ty.sl _ _)); (· exact rfl)))) (by exact (rfl : _ = some [_, _])) ?_
          refine r_buildSlice (E := BinE) (xs := [nth f.bins k.1]) rfl rfl rfl rfl rfl (by decide) (by decide) (by repeat (first | exact (Parts.nil : Parts _ _ [] _) | (show Parts _ _ ((_, _) :: _) _; apply Parts.agg; (· exact (rfl : _ = Ty.agg _))))) (by exact rfl) rfl ?_
          refine r_append rfl rfl (by decide) rfl rfl rfl rfl rfl rfl (by decide) (by (simp <;> omega)) (by (simp <;> omega)) ?_
          refine r_field_ptr rfl rfl rfl rfl rfl (by decide) ?_
          refine r_store1 rfl rfl (by decide) rfl rfl (by exact (rfl : _ = Ty.row _ _ _ _)) rfl (by exact Nat.le_of_ble_eq_true rfl) rfl rfl (by exact rfl) ?_
          refine r_nil ?_
          refine ⟨by kernel_rfl, ?_⟩
          refine i_block ?_
          refine i_then ?_
          refine t_region ?_
          refine r_add rfl rfl (by omega) (by omega) ?_
          refine mvI rfl ?_
          refine r_nil ?_
          refine i_round (⟨k.1 + 1, by omega⟩) ?_ (by show f.bins.length - (k.1 + 1) < f.bins.length - k.1; omega)
          (refine Ent.mk' ?_ ?_ <;> (repeat' (first | exact allSub_zero | exact allTags_nil | exact subs_nil | refine allSub_succ' ?_ (Ty.sub_any _) | refine allSub_succ' ?_ (Ty.sub_refl _) | refine allTags_cons rfl (Cont.sub_refl _) ?_ | refine allTags_cons rfl (Cont.sub_subs ?_) ?_ | refine subs_cons ?_ (Ty.sub_refl _) | refine subs_cons ?_ ?_)))
          all_goals exact Ty.sub_row (take_nth (by omega)).symm
        ·
          refine t_exit ?_
          refine i_then_exit ?_
          refine i_then_exit ?_
          refine i_block_exit rfl ?_
          refine i_then ?_
          refine t_seq ?_
          refine t_seq ?_
          have hkn : k.1 = f.bins.length := by have := k.2; omega
          have htk : f.bins.take k.1 = f.bins := List.take_of_length_le (by omega)
          refine t_pubC (tg := 63) [] [(8, Cont.cells 27 [Ty.sl I64 f.bears, Ty.sl BinE (f.bins.take k.1), Ty.sl TrnE f.turnings, Ty.vs 33 (f.rules.length + 1)])] (by decide) rfl trivial ⟨pubC_cells rfl rfl ⟨pubTy_same rfl, pubTy_row, pubTy_same rfl, pubTy_same rfl, trivial⟩, trivial⟩ ?_
          refine t_pubC (tg := 33) [] [(8, Cont.cells 27 [Ty.sl I64 f.bears, Ty.sl BinE (f.bins.take k.1), Ty.sl TrnE f.turnings, Ty.sl RulE (f.rules ++ [r])])] (by decide) rfl trivial ⟨pubC_cells rfl rfl ⟨pubTy_same rfl, pubTy_same rfl, pubTy_same rfl, pubTy_vs rfl (by simp) (by decide), trivial⟩, trivial⟩ ?_
          refine t_forget (B := live [(4, Ty.ptr 5 0), (7, Ty.ptr 8 0)] [(5, Cont.cells 27 [Ty.ex (.slice none 0 0), Ty.ex (.slice none 0 0), Ty.ex (.slice none 0 0), Ty.ex (.slice none 0 0)]), (8, Cont.cells 27 (flrTys (moreF f r)))]) ?_ ?_
          · (refine Ent.mk' ?_ ?_ <;> (repeat' (first | exact allSub_zero | exact allTags_nil | exact subs_nil | refine allSub_succ' ?_ (Ty.sub_any _) | refine allSub_succ' ?_ (Ty.sub_refl _) | refine allTags_cons rfl (Cont.sub_refl _) ?_ | refine allTags_cons rfl (Cont.sub_subs ?_) ?_ | refine subs_cons ?_ (Ty.sub_refl _) | refine subs_cons ?_ ?_)))
            all_goals exact Ty.sub_sl htk
          refine t_region ?_
          refine r_load_ptrN rfl rfl (by decide) rfl rfl (by exact Nat.le_of_ble_eq_true rfl) ?_
          refine r_call (c_Check (moreF f r) (small_more hc1 r)) rfl rfl rfl rfl rfl ?_
          refine asI rfl ?_
          refine r_nil ?_
          refine i_then ?_
          refine t_seq ?_
          refine t_region ?_
          refine mvI rfl ?_
          refine r_bin rfl rfl rfl ?_
          refine r_nil ?_
          refine i_then ?_
          refine t_cond_ndec rfl (fun hc4 => ?_) (fun hc4 => ?_)
          ·
            refine t_seq ?_
            refine t_region ?_
            refine r_build rfl rfl (by exact List.cons_ne_nil _ _) rfl (by repeat (exact (Parts.nil : Parts _ _ [] _))) (by exact (rfl : _ = some [_, _, _, _])) ?_
            refine mvI rfl ?_
            refine r_storeN rfl rfl (by decide) rfl rfl rfl rfl rfl rfl ?_
            refine asI rfl ?_
            refine r_nil ?_
            refine i_then ?_
            refine t_ret ?_
            refine i_then_ret ?_
            refine i_rcell2 rfl rfl rfl rfl rfl (by decide) rfl rfl rfl ?_ ?_
            all_goals skip
            all_goals first | exact no_flr_eq (congrArg Prod.fst (wait3 hc1 hc2 hc4)) | exact ret_eq rfl rfl (congrArg (Ty.int .i64) (congrArg Prod.snd (wait3 hc1 hc2 hc4)).symm)
          ·
            refine t_skip ?_
            refine i_then ?_
            refine t_seq ?_
            refine t_region ?_
            refine r_load_ptrN rfl rfl (by decide) rfl rfl (by exact Nat.le_of_ble_eq_true rfl) ?_
            refine r_storeN rfl rfl (by decide) rfl rfl rfl rfl rfl rfl ?_
            refine asI rfl ?_
            refine r_nil ?_
            refine i_then ?_
            refine t_ret ?_
            refine i_rcell2 rfl rfl rfl rfl rfl (by decide) rfl rfl rfl ?_ ?_
            all_goals skip
            all_goals first | exact ret_eq rfl rfl (congrArg (Ty.int .i64) (congrArg Prod.snd (wait4 hc1 hc2 hc4)).symm) | exact ret_eq rfl rfl (congrArg flrT (congrArg Prod.fst (wait4 hc1 hc2 hc4)).symm)
end Go.Proofs.Ytifgbnbkimcchaa

namespace Go.Proofs.Ytifgbnbkimcchaa
open Go Go.T
def cntR (f : Flr) (a b : Int) : Int := if b ∈ aheadM f a then 0 else ((keepR (moreF f ⟨a, b⟩)).length : Int)
theorem ahead_lead {f : Flr} (a b : Int) (hb : 0 ≤ b ∧ b < f.turnings.length) : b ∈ aheadM f a ↔ Lead f.rules b a := by rw [mem_aheadM]; exact ⟨fun h => h.2, fun h => ⟨hb, h⟩⟩
theorem cnt_side {f : Flr} (h : checkP f = 0) (h16 : f.rules.length < 16) {a b : Int} (ha : 0 ≤ a ∧ a < f.turnings.length) (hb : 0 ≤ b ∧ b < f.turnings.length) (hne : a ≠ b) : cntR f a b = (sideN f a b : Int) := by
  unfold cntR
  by_cases hl : b ∈ aheadM f a
  · rw [if_pos hl, side_none h ha hl]; rfl
  · rw [if_neg hl]
    have hw := (wait_more (r := ⟨a, b⟩) h h16 ⟨ha, hb⟩).2 (fun hx => by
      rcases hx with hx | hx
      · exact hne hx
      · exact hl ((ahead_lead a b hb).2 hx))
    rw [keep_more h hw.2]; rfl
theorem wait_side {f : Flr} (h : checkP f = 0) (h16 : f.rules.length < 16) {a b : Int} (ha : 0 ≤ a ∧ a < f.turnings.length) (hb : 0 ≤ b ∧ b < f.turnings.length) (hne : a ≠ b) : (b ∈ aheadM f a → waitP f ⟨a, b⟩ = (noFlr, 7)) ∧ (b ∉ aheadM f a → waitP f ⟨a, b⟩ = (moreF f ⟨a, b⟩, 0) ∧ checkP (moreF f ⟨a, b⟩) = 0) := by
  obtain ⟨h1, h2⟩ := wait_more (r := ⟨a, b⟩) h h16 ⟨ha, hb⟩
  exact ⟨fun hl => h1 (.inr ((ahead_lead a b hb).1 hl)), fun hl => h2 fun hx => hx.elim (fun e => hne e) fun hx => hl ((ahead_lead a b hb).2 hx)⟩
theorem count_sum {f : Flr} (h : checkP f = 0) (h16 : f.rules.length < 16) {a b : Int} (ha : 0 ≤ a ∧ a < f.turnings.length) (hb : 0 ≤ b ∧ b < f.turnings.length) (hne : a ≠ b) : ((keepR f).length : Int) = cntR f a b + cntR f b a := by
  rw [cnt_side h h16 ha hb hne, cnt_side h h16 hb ha (fun e => hne e.symm), count_two h ha hb hne]; omega
theorem keep_few {f : Flr} (h : checkP f = 0) : ((keepR f).length : Int) ≤ 1073741824 := by
  have h0 : checkM f = 0 := by rw [← check_eq]; exact h
  have h8 := nt8 h
  have h1 := ordersM_len h8 (f.turnings.length + 1) []
  have h2 := pow8 (n := f.turnings.length + 1) (by omega)
  unfold keepR
  rw [if_neg (fun x => x h0)]
  have := List.length_filter_le (fun l => decide (marginM f l ≥ 0)) (ordersR f)
  unfold keepM ordersR at *
  omega
theorem cnt_bound {f : Flr} (h : checkP f = 0) (h16 : f.rules.length < 16) {a b : Int} (ha : 0 ≤ a ∧ a < f.turnings.length) (hb : 0 ≤ b ∧ b < f.turnings.length) (hne : a ≠ b) : 0 ≤ cntR f a b ∧ cntR f a b ≤ 1073741824 := by
  have h1 := keep_few h
  have h2 := count_sum h h16 ha hb hne
  have h3 := cnt_side h h16 ha hb hne
  have h4 := cnt_side h h16 hb ha (fun e => hne e.symm)
  omega
def pairR (a b : Int) : List Rul := [⟨a, b⟩, ⟨b, a⟩]
def sumC (f : Flr) (a b : Int) : Nat → Int
  | 0 => 0
  | 1 => cntR f a b
  | _ => cntR f a b + cntR f b a
structure PairF (f : Flr) (a b : Int) (k : Nat) : Prop where
  fst : 0 ≤ (nth (pairR a b) k).fst ∧ (nth (pairR a b) k).fst < f.turnings.length
  nxt : 0 ≤ (nth (pairR a b) k).nxt ∧ (nth (pairR a b) k).nxt < f.turnings.length
  ne : (nth (pairR a b) k).fst ≠ (nth (pairR a b) k).nxt
  sum : sumC f a b (k + 1) = sumC f a b k + cntR f (nth (pairR a b) k).fst (nth (pairR a b) k).nxt
theorem pair_facts {f : Flr} {a b : Int} (ha : 0 ≤ a ∧ a < f.turnings.length) (hb : 0 ≤ b ∧ b < f.turnings.length) (hne : a ≠ b) {k : Nat} (hk : k < 2) : PairF f a b k := by
  have : k = 0 ∨ k = 1 := by omega
  rcases this with rfl | rfl
  · exact ⟨ha, hb, hne, by show cntR f a b = 0 + cntR f a b; omega⟩
  · exact ⟨hb, ha, fun e => hne e.symm, rfl⟩
theorem sum_bound2 {f : Flr} (h : checkP f = 0) (h16 : f.rules.length < 16) {a b : Int} (ha : 0 ≤ a ∧ a < f.turnings.length) (hb : 0 ≤ b ∧ b < f.turnings.length) (hne : a ≠ b) : ∀ k, 0 ≤ sumC f a b k ∧ sumC f a b k ≤ 2147483648
  | 0 => by simp [sumC]
  | 1 => by have := cnt_bound h h16 ha hb hne; simp only [sumC]; omega
  | k + 2 => by
    have := cnt_bound h h16 ha hb hne
    have := cnt_bound h h16 hb ha (fun e => hne e.symm)
    simp only [sumC]; omega
theorem sumC_zero (f : Flr) (a b : Int) : sumC f a b 0 = 0 := rfl
theorem sumC_two (f : Flr) (a b : Int) : sumC f a b 2 = cntR f a b + cntR f b a := rfl
theorem wait_pair {f : Flr} (h : checkP f = 0) (h16 : f.rules.length < 16) {r : Rul} (ha : 0 ≤ r.fst ∧ r.fst < f.turnings.length) (hb : 0 ≤ r.nxt ∧ r.nxt < f.turnings.length) (hne : r.fst ≠ r.nxt) : (r.nxt ∈ aheadM f r.fst → waitP f r = (noFlr, 7)) ∧ (r.nxt ∉ aheadM f r.fst → waitP f r = (moreF f r, 0) ∧ checkP (moreF f r) = 0) := by
  cases r; exact wait_side h h16 ha hb hne
theorem cnt_pair (f : Flr) (r : Rul) : cntR f r.fst r.nxt = if r.nxt ∈ aheadM f r.fst then 0 else ((keepR (moreF f r)).length : Int) := by cases r; rfl
theorem pair_yes {a b : Int} {l : List Int} (h : (!decide (a = b) && decide (a ∈ l)) = true) : a ∈ l := by simpa using (Bool.and_eq_true_iff.1 h).2
theorem pair_no {a b : Int} {l : List Int} (hne : b ≠ a) (h : (!decide (a = b) && decide (a ∈ l)) = false) : a ∉ l := fun hx => by
  rw [decide_eq_true hx, decide_eq_false (fun e => hne e.symm)] at h
  cases h
end Go.Proofs.Ytifgbnbkimcchaa

namespace Go.Proofs.Ytifgbnbkimcchaa
open Go Go.T
set_option maxHeartbeats 2000000
attribute [local irreducible] dInt dBool dSl dPp dPtr dAgg dTup dClo dAny dEx dStr dGd dCells dVec dVs dRow dOp nth Tri Into TOps Ctr bodyPost Exit.then Exit.inBlock Code.wp Code.wpIn dWhen dPa dPe dAo dArr dMp dPm dMap dCJ CtrG CtrI OpY keepPost iterPost bodyPostM roundQ
def oneB (f : Flr) (x y : Int) : Int := if oneT f x = oneT f y then (oneT f x + 1).tmod f.turnings.length else oneT f y
theorem oneB_in {f : Flr} {x y : Int} (hx : 0 ≤ x ∧ x ≤ 255) (hy : 0 ≤ y ∧ y ≤ 255) (h : 1 < f.turnings.length) : (0 ≤ oneB f x y ∧ oneB f x y < f.turnings.length) ∧ oneT f x ≠ oneB f x y := by
  have h1 := oneT_in hx h
  have h2 := oneT_in hy h
  unfold oneB
  split
  · have h3 := tmod_in (a := oneT f x + 1) (b := f.turnings.length) (by omega) (by omega)
    refine ⟨h3, fun e => ?_⟩
    rw [Int.tmod_eq_emod_of_nonneg (by omega)] at e
    by_cases he : oneT f x + 1 = f.turnings.length
    · rw [he, Int.emod_self] at e; omega
    · rw [Int.emod_eq_of_lt (by omega) (by omega)] at e; omega
  · exact ⟨h2, by assumption⟩
theorem oneB_yes {f : Flr} (h : 1 < f.turnings.length) {x y : Int} (e : (IntKind.i64.wrap x).tmod f.turnings.length = (IntKind.i64.wrap y).tmod f.turnings.length) : ((IntKind.i64.wrap x).tmod f.turnings.length + 1).tmod f.turnings.length = oneB f x y := by
  rw [oneT_yes h, oneT_yes h] at e
  unfold oneB; rw [if_pos e, oneT_yes h]
theorem oneB_no {f : Flr} (h : 1 < f.turnings.length) {x y : Int} (e : ¬ (IntKind.i64.wrap x).tmod f.turnings.length = (IntKind.i64.wrap y).tmod f.turnings.length) : (IntKind.i64.wrap y).tmod f.turnings.length = oneB f x y := by
  rw [oneT_yes h, oneT_yes h] at e
  unfold oneB; rw [if_neg e, oneT_yes h]
theorem made5r (g : List Int) (t : Nat) (ht : t ≤ 8) : ∃ f s', checkP f = 0 ∧ f.turnings.length ≤ t ∧ f.rules.length ≤ 5 ∧ CtrG Try.prog 52 [1000] [(1000, Cont.cells 158 (skTys (skFill g)))] [Ty.ptr 1000 0, Ty.int .i64 (t : Nat)] [(1000, Cont.cells 158 (skTys s'))] (flrT f) :=
  ⟨_, _, made_right g t ht, by have h := (Md.T_in ⟨skFill g, t⟩).1; have e := (Md.tkOk ⟨skFill g, t⟩ (Md.T ⟨skFill g, t⟩)).trn; exact Nat.le_trans (Nat.le_of_eq e) h, by have h := (Md.ruOk ⟨skFill g, t⟩ (Md.R ⟨skFill g, t⟩)).1; have h2 := (Md.R_in ⟨skFill g, t⟩).1; exact Nat.le_trans h h2, c_Made5 ⟨skFill g, t⟩ ht (fill_ok g)⟩
theorem small_wait {f : Flr} (h : checkP f = 0) (r : Rul) : (waitP f r).1.Small := by
  have hno : noFlr.Small := ⟨by decide, by decide, by decide, by decide, fun b hb => by cases hb⟩
  unfold waitP
  rw [if_neg (fun x => x h)]
  split
  · exact hno
  · split
    · exact hno
    · exact small_more h r
attribute [local irreducible] Md.flr oneT oneB cntR sumC pairR waitP keepR
set_option maxRecDepth 100000 in
theorem c_FloorCounted (g : List Int) (x y : Int) (hx : 0 ≤ x ∧ x ≤ 255) (hy : 0 ≤ y ∧ y ≤ 255) : Ctr Try.prog 8 [Ty.sl U8 g, Ty.int .u8 x, Ty.int .u8 y] (Ty.bool true) := by
  refine fn_intro Try.func8 rfl (by decide) Try.ntmps8 (by exact Nat.le_of_ble_eq_true rfl) fun w0 M0 => ?_
  refine t_seq ?_
  refine t_region ?_
  refine asB rfl ?_
  refine r_nil ?_
  refine i_then ?_
  refine t_seq ?_
  obtain ⟨f, s1, hp, _, h5, hM⟩ := made5r g 8 (Nat.le_refl 8)
  have h0 : checkM f = 0 := by rw [← check_eq]; exact hp
  have hr := check_right hp
  have hs := small_right hr
  have h8 := hr.ranged.turnings
  have h16 : f.rules.length < 16 := by omega
  have hkf := keep_few hp
  refine t_region ?_
  refine mvS rfl ?_
  refine r_callG [(21, 10)] [21] [(21, Cont.cells 158 (skTys (skFill g)))] (c_Fill g) rfl rfl (by repeat (first | exact cv_nil | refine cv_cons ?_ ?_ | exact cv_pub rfl rfl)) pre_nil (post_cons (a := 21) (b := 10) (by exact List.mem_cons_self) rfl (cc_cells_eq (by exact List.mem_cons_self) rfl rfl rfl) post_nil) (cv_ptr (by exact List.mem_cons_self)) ?_
  refine r_callG [(21, 1000)] [] [(21, Cont.cells 158 (skTys (s1)))] (hM) rfl rfl (by repeat (first | exact cv_nil | refine cv_cons ?_ ?_ | exact cv_ptr List.mem_cons_self | exact cv_pub rfl rfl)) (pre_cons (a := 21) (b := 1000) (by exact List.mem_cons_self) rfl (cc_cells_eq (by exact List.mem_cons_self) rfl rfl rfl) pre_nil) (post_cons (a := 21) (b := 1000) (by exact List.mem_cons_self) rfl (cc_cells_eq (by exact List.mem_cons_self) rfl rfl rfl) post_nil) (cv_pub rfl rfl) ?_
  refine r_alloc rfl (by exact List.cons_ne_nil _ _) rfl ?_
  refine r_storeN rfl rfl (by decide) rfl rfl rfl rfl rfl rfl ?_
  refine r_nil ?_
  refine i_then ?_
  refine t_seq ?_
  refine t_region ?_
  refine r_load_ptrN rfl rfl (by decide) rfl rfl (by exact Nat.le_of_ble_eq_true rfl) ?_
  refine r_call (s_Count f hs) rfl rfl rfl rfl rfl ?_
  refine mvT rfl ?_
  refine r_extract rfl rfl ?_
  refine r_extract rfl rfl ?_
  refine asI rfl ?_
  refine asI rfl ?_
  refine r_nil ?_
  refine i_then ?_
  refine t_seq ?_
  refine t_seq ?_
  refine t_region ?_
  refine mvI rfl ?_
  refine r_bin rfl rfl rfl ?_
  refine r_nil ?_
  refine i_then ?_
  refine t_cond_ff rfl (by simp [h0]) ?_
  refine t_skip ?_
  refine i_then ?_
  refine t_seq ?_
  refine t_seq ?_
  refine t_region ?_
  refine r_field_ptr rfl rfl rfl rfl rfl (by decide) ?_
  refine r_load_ptr rfl rfl (by decide) rfl rfl rfl ?_
  refine r_len rfl rfl rfl ?_
  refine r_bin rfl rfl rfl ?_
  refine r_nil ?_
  refine i_then ?_
  refine t_cond_dec rfl (fun hc2 => ?_) (fun hc2 => ?_)
  ·
    refine t_seq ?_
    refine t_region ?_
    refine mvI rfl ?_
    refine r_bin rfl rfl rfl ?_
    refine mvB rfl ?_
    apply r_guard (s := 35) rfl rfl rfl
    · intro hg; apply opT_of; (refine r_call (c_awake) rfl rfl rfl rfl rfl ?_); refine r_nil ?_; exact rfl
    · exact rfl
    · exact rfl
    refine r_and rfl rfl ?_
    refine asB rfl ?_
    refine r_nil ?_
    refine i_then ?_
    refine t_ret ?_
    refine i_then_ret ?_
    refine i_rp1 rfl rfl ?_
    all_goals skip
    all_goals exact ret_eq rfl rfl (congrArg Ty.bool (by have h1 := keep_one hp (by have h := hc2; omega); rw [decide_eq_true (show ((keepR f).length : Int) ≤ 1 by omega)]; rfl))
  ·
    refine t_skip ?_
    refine i_then ?_
    refine t_seq ?_
    have hT : 1 < f.turnings.length := by have h := hc2; omega
    have hax := oneT_in hx hT
    rw [← oneT_yes hT] at hax
    refine t_draw mixed rfl ?_
    refine mvI rfl ?_
    refine r_conv rfl rfl rfl rfl ?_
    refine r_field_ptr rfl rfl rfl rfl rfl (by decide) ?_
    refine r_load_ptr rfl rfl (by decide) rfl rfl rfl ?_
    refine r_len rfl rfl rfl ?_
    refine r_rem rfl rfl (by omega) ?_
    refine mvI rfl ?_
    refine r_conv rfl rfl rfl rfl ?_
    refine r_field_ptr rfl rfl rfl rfl rfl (by decide) ?_
    refine r_load_ptr rfl rfl (by decide) rfl rfl rfl ?_
    refine r_len rfl rfl rfl ?_
    refine r_rem rfl rfl (by omega) ?_
    refine asI rfl ?_
    refine asI rfl ?_
    refine r_nil ?_
    refine ⟨by kernel_rfl, ?_⟩
    refine i_then ?_
    refine t_join (J := live [(7, Ty.ptr 8 0), (8, Ty.int .i64 ((keepR f).length : Nat)), (10, Ty.int .i64 (oneT f x)), (11, Ty.int .i64 (oneB f x y))] [(8, Cont.cells 27 (flrTys f))]) ?_ ?_
    ·
      refine t_seq ?_
      refine t_region ?_
      refine mvI rfl ?_
      refine mvI rfl ?_
      refine r_bin rfl rfl rfl ?_
      refine r_nil ?_
      refine i_then ?_
      refine t_cond_dec rfl (fun hc3 => ?_) (fun hc3 => ?_)
      ·
        refine t_region ?_
        refine mvI rfl ?_
        refine r_add rfl rfl (by omega) (by omega) ?_
        refine r_field_ptr rfl rfl rfl rfl rfl (by decide) ?_
        refine r_load_ptr rfl rfl (by decide) rfl rfl rfl ?_
        refine r_len rfl rfl rfl ?_
        refine r_rem rfl rfl (by omega) ?_
        refine asI rfl ?_
        refine r_nil ?_
        refine i_join ?_
        (refine Ent.mk' ?_ ?_ <;> (repeat' (first | exact allSub_zero | exact allTags_nil | refine allSub_succ' ?_ (Ty.sub_any _) | refine allSub_succ' ?_ (Ty.sub_refl _) | refine allTags_cons rfl (Cont.sub_refl _) ?_ | refine allSub_succ' ?_ ?_)))
        all_goals first | exact Ty.sub_int (oneT_yes hT x) | exact Ty.sub_int (oneB_yes hT hc3)
      ·
        refine t_skip ?_
        refine i_join ?_
        (refine Ent.mk' ?_ ?_ <;> (repeat' (first | exact allSub_zero | exact allTags_nil | refine allSub_succ' ?_ (Ty.sub_any _) | refine allSub_succ' ?_ (Ty.sub_refl _) | refine allTags_cons rfl (Cont.sub_refl _) ?_ | refine allSub_succ' ?_ ?_)))
        all_goals first | exact Ty.sub_int (oneT_yes hT x) | exact Ty.sub_int (oneB_no hT hc3)
    ·
      refine t_seq ?_
      have ha := oneT_in hx hT
      obtain ⟨hb, hne⟩ := oneB_in hx hy hT
      refine t_region ?_
      refine asI rfl ?_
      refine r_nil ?_
      refine i_then ?_
      refine t_seq ?_
      refine t_seq ?_
      refine t_region ?_
      refine mvI rfl ?_
      refine mvI rfl ?_
      refine r_build rfl rfl (by exact List.cons_ne_nil _ _) rfl (by repeat (first | exact (Parts.nil : Parts _ _ [] _) | (show Parts _ _ ((_, _) :: _) _; apply Parts.one; (· exact (rfl : _ = Ty.int _ _)); (· exact rfl)))) (by exact (rfl : _ = some [_, _])) ?_
      refine mvI rfl ?_
      refine mvI rfl ?_
      refine r_build rfl rfl (by exact List.cons_ne_nil _ _) rfl (by repeat (first | exact (Parts.nil : Parts _ _ [] _) | (show Parts _ _ ((_, _) :: _) _; apply Parts.one; (· exact (rfl : _ = Ty.int _ _)); (· exact rfl)))) (by exact (rfl : _ = some [_, _])) ?_
      refine r_buildSlice (E := RulE) (xs := pairR (oneT f x) (oneB f x y)) rfl rfl rfl rfl rfl (by decide) (by decide) (by repeat (first | exact (Parts.nil : Parts _ _ [] _) | (show Parts _ _ ((_, _) :: _) _; apply Parts.agg; (· exact (rfl : _ = Ty.agg _))))) (by unfold pairR; exact rfl) (by unfold pairR; exact rfl) ?_
      refine r_len rfl rfl rfl ?_
      refine mvI rfl ?_
      refine r_nil ?_
      refine i_then ?_
      refine t_block ?_
      refine t_loop (fun (k : {k : Nat // k ≤ 2}) => live [(7, Ty.ptr 8 0), (8, Ty.int .i64 ((keepR f).length : Nat)), (10, Ty.int .i64 (oneT f x)), (11, Ty.int .i64 (oneB f x y)), (12, Ty.int .i64 (sumC f (oneT f x) (oneB f x y) k.1)), (65, Ty.sl RulE (pairR (oneT f x) (oneB f x y))), (66, Ty.int .i64 2), (67, Ty.int .i64 (k.1 : Nat))] [(8, Cont.cells 27 (flrTys f))]) (fun k => 2 - k.1) (⟨0, by omega⟩) ?_ fun k => ?_
      · (refine Ent.mk' ?_ ?_ <;> (repeat' (first | exact allSub_zero | exact allTags_nil | refine allSub_succ' ?_ (Ty.sub_any _) | refine allSub_succ' ?_ (Ty.sub_refl _) | refine allTags_cons rfl (Cont.sub_refl _) ?_ | refine allSub_succ' ?_ ?_)))
        all_goals first | exact Ty.sub_int (sumC_zero f (oneT f x) (oneB f x y)).symm | exact Ty.sub_int (by unfold pairR; rfl)
      ·
        have hk := k.2
        have hpl : (pairR (oneT f x) (oneB f x y)).length = 2 := by unfold pairR; rfl
        have hsb := sum_bound2 hp h16 ha hb hne k.1
        refine t_seq ?_
        refine t_region ?_
        refine r_bin rfl rfl rfl ?_
        refine r_nil ?_
        refine i_then ?_
        refine t_seq ?_
        refine t_cond_dec rfl (fun hc4 => ?_) (fun hc4 => ?_)
        ·
          refine t_skip ?_
          refine i_then ?_
          refine t_seq ?_
          refine t_block ?_
          refine t_seq ?_
          have hpf := pair_facts ha hb hne (k := k.1) (by omega)
          have hws := wait_pair hp h16 hpf.fst hpf.nxt hpf.ne
          refine t_region ?_
          refine r_index_slN rfl rfl rfl rfl rfl rfl (by omega) ?_
          refine r_load_ppN rfl rfl rfl (by exact Nat.le_of_ble_eq_true rfl) ?_
          refine r_alloc rfl (by exact List.cons_ne_nil _ _) rfl ?_
          refine r_storeN rfl rfl (by decide) rfl rfl rfl rfl rfl rfl ?_
          refine r_nil ?_
          refine i_then ?_
          refine t_seq ?_
          refine t_region ?_
          refine r_load_ptrN rfl rfl (by decide) rfl rfl (by exact Nat.le_of_ble_eq_true rfl) ?_
          refine r_load_ptrN rfl rfl (by decide) rfl rfl (by exact Nat.le_of_ble_eq_true rfl) ?_
          refine r_call (c_Wait f hs (nth (pairR (oneT f x) (oneB f x y)) k.1)) rfl rfl rfl rfl rfl ?_
          refine mvT rfl ?_
          refine r_extract rfl rfl ?_
          refine r_extract rfl rfl ?_
          refine r_alloc rfl (by exact List.cons_ne_nil _ _) rfl ?_
          refine r_storeN rfl rfl (by decide) rfl rfl rfl rfl rfl rfl ?_
          refine asI rfl ?_
          refine r_nil ?_
          refine i_then ?_
          refine t_seq ?_
          refine t_seq ?_
          refine t_region ?_
          refine r_load_ptrN rfl rfl (by decide) rfl rfl (by exact Nat.le_of_ble_eq_true rfl) ?_
          refine r_field_ptr rfl rfl rfl rfl rfl (by decide) ?_
          refine r_load_ptr rfl rfl (by decide) rfl rfl rfl ?_
          refine r_field_ptr rfl rfl rfl rfl rfl (by decide) ?_
          refine r_load_ptr rfl rfl (by decide) rfl rfl rfl ?_
          refine r_call (c_ahead5 f hr _ _ hpf.nxt hpf.fst) rfl rfl rfl rfl rfl ?_
          refine r_nil ?_
          refine i_then ?_
          refine t_cond rfl (fun hc5 => ?_) (fun hc5 => ?_)
          ·
            refine t_seq ?_
            refine t_seq ?_
            refine t_region ?_
            refine mvI rfl ?_
            refine r_bin rfl rfl rfl ?_
            refine r_nil ?_
            refine i_then ?_
            refine t_cond_ff rfl (by rw [hws.1 (pair_yes hc5)]; rfl) ?_
            refine t_skip ?_
            refine i_then ?_
            refine t_exit ?_
            refine i_then_exit ?_
            refine i_block_exit rfl ?_
            refine i_then ?_
            refine t_region ?_
            refine r_add rfl rfl (by omega) (by omega) ?_
            refine mvI rfl ?_
            refine r_nil ?_
            refine i_round (⟨k.1 + 1, by omega⟩) ?_ (by show 2 - (k.1 + 1) < 2 - k.1; omega)
            (refine Ent.mk' ?_ ?_ <;> (repeat' (first | exact allSub_zero | exact allTags_nil | refine allSub_succ' ?_ (Ty.sub_any _) | refine allSub_succ' ?_ (Ty.sub_refl _) | refine allTags_cons rfl (Cont.sub_refl _) ?_ | refine allSub_succ' ?_ ?_)))
            all_goals skip
            all_goals exact Ty.sub_int (by rw [hpf.sum, cnt_pair, if_pos (pair_yes hc5), Int.add_zero])
          ·
            refine t_skip ?_
            refine i_then ?_
            refine t_seq ?_
            refine t_region ?_
            refine r_load_ptrN rfl rfl (by decide) rfl rfl (by exact Nat.le_of_ble_eq_true rfl) ?_
            refine r_call (s_Count (waitP f (nth (pairR (oneT f x) (oneB f x y)) k.1)).1 (small_wait hp _)) rfl rfl rfl rfl rfl ?_
            refine mvT rfl ?_
            refine r_extract rfl rfl ?_
            refine r_extract rfl rfl ?_
            refine asI rfl ?_
            refine asI rfl ?_
            refine r_nil ?_
            refine i_then ?_
            refine t_seq ?_
            refine t_seq ?_
            refine t_region ?_
            refine mvI rfl ?_
            refine r_bin rfl rfl rfl ?_
            refine mvB rfl ?_
            apply r_guard (s := 92) rfl rfl rfl
            · intro hg; apply opT_of; (refine mvI rfl ?_); refine r_nil ?_; exact rfl
            · exact rfl
            · exact rfl
            apply r_guard (s := 92) rfl rfl rfl
            · intro hg; apply opT_strip (s := 93) rfl (by (rw [hg]; rfl)); apply opT_of; (refine r_bin rfl rfl rfl ?_); refine r_nil ?_; exact rfl
            · exact rfl
            · exact rfl
            refine r_or rfl rfl ?_
            refine r_nil ?_
            refine i_then ?_
            refine t_cond_ff rfl (by rw [(hws.2 (pair_no hpf.ne hc5)).1, ← check_eq, (hws.2 (pair_no hpf.ne hc5)).2]; rfl) ?_
            refine t_skip ?_
            refine i_then ?_
            have hcb : ((keepR (waitP f (nth (pairR (oneT f x) (oneB f x y)) k.1)).1).length : Int) = cntR f (nth (pairR (oneT f x) (oneB f x y)) k.1).fst (nth (pairR (oneT f x) (oneB f x y)) k.1).nxt := by rw [(hws.2 (pair_no hpf.ne hc5)).1, cnt_pair, if_neg (pair_no hpf.ne hc5)]
            have hcb2 := cnt_bound hp h16 hpf.fst hpf.nxt hpf.ne
            refine t_region ?_
            refine mvI rfl ?_
            refine mvI rfl ?_
            refine r_add rfl rfl (by omega) (by omega) ?_
            refine asI rfl ?_
            refine r_nil ?_
            refine i_block ?_
            refine i_then ?_
            refine t_region ?_
            refine r_add rfl rfl (by omega) (by omega) ?_
            refine mvI rfl ?_
            refine r_nil ?_
            refine i_round (⟨k.1 + 1, by omega⟩) ?_ (by show 2 - (k.1 + 1) < 2 - k.1; omega)
            (refine Ent.mk' ?_ ?_ <;> (repeat' (first | exact allSub_zero | exact allTags_nil | refine allSub_succ' ?_ (Ty.sub_any _) | refine allSub_succ' ?_ (Ty.sub_refl _) | refine allTags_cons rfl (Cont.sub_refl _) ?_ | refine allSub_succ' ?_ ?_)))
            all_goals skip
            all_goals exact Ty.sub_int (by rw [hpf.sum, hcb])
        ·
          refine t_exit ?_
          refine i_then_exit ?_
          refine i_then_exit ?_
          refine i_block_exit rfl ?_
          refine i_then ?_
          refine t_seq ?_
          refine t_region ?_
          refine mvI rfl ?_
          refine mvI rfl ?_
          refine r_bin rfl rfl rfl ?_
          refine mvB rfl ?_
          apply r_guard (s := 103) rfl rfl rfl
          · intro hg; apply opT_of; (refine r_call (c_awake) rfl rfl rfl rfl rfl ?_); refine r_nil ?_; exact rfl
          · exact rfl
          · exact rfl
          refine r_and rfl rfl ?_
          refine asB rfl ?_
          refine r_nil ?_
          refine i_then ?_
          refine t_ret ?_
          refine i_rp1 rfl rfl ?_
          all_goals skip
          all_goals exact ret_eq rfl rfl (congrArg Ty.bool (by have h1 := count_sum hp h16 ha hb hne; have h2 : k.1 = 2 := (by have := k.2; omega); rw [h2, sumC_two, decide_eq_true h1]; rfl))
end Go.Proofs.Ytifgbnbkimcchaa

namespace Go.T
open Go Go.RowKit Go.ChangeShapes Go.WideShapes Go.ChangeAt
def pubs : Tags := fun _ => none
theorem wf_pubs (w : World) : Wf w pubs := ⟨fun _ _ h => (by cases h), fun _ _ _ h => (by cases h)⟩
theorem pubs_zero : ∀ b t, pubs b = some t → t = 0 := fun _ _ h => by cases h
structure Rd {α : Type} (P : Program) (e : TypeId) (E : El α) : Prop where
  size : P.cellsOf e = E.size
  pos : 0 < E.size
  rd : ∀ {H : Type} {enc : TypeId × Value → H} {w : World} {base : Nat} {held : Bool} {n : Nat} {cs : List Value} {y : DataW H × List MemPlace}, DataW.trod enc P w base (fun _ => true) held n e cs = some y → ∃ x, dens w pubs (E.tys x) cs
section
variable {H : Type} {enc : TypeId × Value → H} {P : Program} {w : World} {base : Nat} {held : Bool} {α : Type} {E : El α} {t e : TypeId} {n : Nat} {cs : List Value} {y : DataW H × List MemPlace}
theorem rd_sl (hR : Rd P e E) (ht : P.underlying t = some (.slice e)) (h : DataW.trod enc P w base (fun _ => true) held n t cs = some y) : ∃ v xs, cs = [v] ∧ (Ty.sl E xs).den w pubs v := by
  rcases Go.Deep.open_slice ht h with ⟨rfl, _⟩ | ⟨a, len, cap, m, k, D, Pl, rfl, _, hl, hm, hmm, _, hel⟩
  · exact ⟨_, [], rfl, none, 0, rfl, Nat.le_refl _, Nat.zero_le _, fun h => absurd h (Nat.lt_irrefl _)⟩
  have hlm : len ≤ m := by rw [hmm]; simpa using hl
  have hX : ∀ i : Fin len, ∃ x : α, ∃ cs', w.cells? base (a.add (i.1 * P.cellsOf e)) (P.cellsOf e) = some cs' ∧ dens w pubs (E.tys x) cs' := fun i => by
    obtain ⟨cs', h1, h2⟩ := hel i.1 (Nat.lt_of_lt_of_le i.2 hlm)
    obtain ⟨x, hx⟩ := hR.rd h2
    exact ⟨x, cs', h1, hx⟩
  let X : Fin len → α := fun i => (hX i).choose
  have hXs : ∀ i : Fin len, ∃ cs', w.cells? base (a.add (i.1 * P.cellsOf e)) (P.cellsOf e) = some cs' ∧ dens w pubs (E.tys (X i)) cs' := fun i => (hX i).choose_spec
  have hlen : (List.ofFn X).length = len := by simp
  refine ⟨_, List.ofFn X, rfl, some a, cap, by rw [hlen], by rw [hlen]; exact hl, hm, fun h0 => ?_⟩
  rw [hlen] at h0
  have hcell : ∀ (i : Fin len) (j : Nat) (u : Ty), (E.tys (X i))[j]? = some u → ∃ v, w.cell? (a.add (i.1 * E.size + j)) = some v ∧ u.den w pubs v := fun i j u hu => by
    obtain ⟨cs', h1, h2⟩ := hXs i
    obtain ⟨v, hv, hd⟩ := dens_get h2 j u hu
    obtain ⟨_, g1, g2⟩ := World.cells?_some h1
    have hj : j < P.cellsOf e := by
      rw [hR.size, ← E.len (X i)]
      exact (List.getElem?_eq_some_iff.1 hu).1
    refine ⟨v, ?_, hd⟩
    have := g2 j hj
    rw [Go.Deep.add_add, hv, hR.size] at this
    exact this
  have hsz := hR.pos
  have hfirst : ∃ v, w.cell? (a.add 0) = some v := by
    obtain ⟨u, hu⟩ : ∃ u, (E.tys (X ⟨0, h0⟩))[0]? = some u := ⟨_, List.getElem?_eq_getElem (by rw [E.len]; exact hsz)⟩
    obtain ⟨v, hv, _⟩ := hcell ⟨0, h0⟩ 0 u hu
    exact ⟨v, by simpa using hv⟩
  obtain ⟨b, off, sp⟩ := a
  obtain ⟨v0, hv0⟩ := hfirst
  have hsp : sp = none := by simpa [Addr.add] using World.cell?_spot hv0
  subst hsp
  have hb : b < w.heap.size := by
    obtain ⟨cs', h1, _⟩ := hXs ⟨0, h0⟩
    have := World.cells?_block h1 (by rw [hR.size]; exact hsz)
    simpa [Addr.add] using this
  refine ⟨b, off, rfl, rfl, hb, fun i u hu => ?_⟩
  have hi : i < len * E.size := by
    have := (List.getElem?_eq_some_iff.1 hu).1
    rw [flat_len, hlen] at this; exact this
  have hk : i / E.size < len := Nat.div_lt_of_lt_mul (by rw [Nat.mul_comm]; exact hi)
  have hj : i % E.size < E.size := Nat.mod_lt _ hsz
  have hij : i / E.size * E.size + i % E.size = i := by rw [Nat.mul_comm]; exact Nat.div_add_mod i E.size
  have hu2 := hu
  rw [← hij, flat_get E _ _ _ (by rw [hlen]; exact hk) hj, List.getElem?_ofFn, dif_pos hk] at hu2
  obtain ⟨v, hv, hd⟩ := hcell ⟨i / E.size, hk⟩ (i % E.size) u hu2
  refine ⟨v, ?_, hd⟩
  rw [← Go.WideShapes.add_plain]
  rw [hij] at hv
  exact hv
theorem rd_sl1 {c : Value} (hR : Rd P e E) (ht : P.underlying t = some (.slice e)) (h : DataW.trod enc P w base (fun _ => true) held n t [c] = some y) : ∃ xs, (Ty.sl E xs).den w pubs c := by
  obtain ⟨v, xs, e, hd⟩ := rd_sl hR ht h
  exact ⟨xs, by rw [show c = v by simpa using e]; exact hd⟩
end
section
variable {w w' : World} {S K : Nat → Prop} {M' : Tags}
theorem le_block (le : Le S K w pubs w' M') {b : Nat} (hb : b < w.heap.size) : w'.heap[b]? = w.heap[b]? := (le.pub b hb rfl).2
theorem le_same (le : Le S K w pubs w' M') {p : MemPlace} (hp : p.block < w.heap.size) : w.sameAt w' p := by
  cases p with
  | cell b o => exact World.cell?_of_block (w := w) (le_block le hp)
  | map b => exact le_block le hp
theorem le_kept (le : Le S K w pubs w' M') (may : MemPlace → Prop) : w.keptBut w' may := by
  refine ⟨le.os, le.out, fun i hi => ?_⟩
  have e := le_block le hi
  rw [e]
  split
  · rename_i h1 h2
    rw [h1] at h2
    simp only [Option.some.injEq, Obj.cells.injEq] at h2
    obtain ⟨rfl, rfl, rfl⟩ := h2
    exact ⟨rfl, rfl, rfl, fun _ _ => rfl⟩
  · rename_i h1 h2
    rw [h1] at h2
    simp only [Option.some.injEq, Obj.map.injEq] at h2
    exact Or.inr ⟨h2.1.symm, h2.2.symm⟩
  · rfl
theorem le_frozen (le : Le S K w pubs w' M') {a : Addr} (ha : a.block < w.heap.size) : w'.frozen? a = w.frozen? a := by
  unfold World.frozen?
  rw [le_block le ha]
end
section
variable {H : Type} {enc : TypeId × Value → H} {P : Program}
theorem trodAll_stays (hl : laidOutB P = true) {w w' : World} {sp : Nat → Bool} : ∀ {ts : List TypeId} {vs : List Value} {ds : List (DataW H)} {ps : List MemPlace}, (∀ t ∈ ts, P.readableRec t = true ∧ t < P.types.size) →
    DataW.TrodAll enc P w 0 (fun _ => true) true ts vs ds ps → (∀ p ∈ ps, w.sameAt w' p) → (∀ p ∈ ps, sp p.block = true) → DataW.TrodAll enc P w' 0 sp true ts vs ds ps
  | [], [], [], _, _, h, _, _ => h
  | t :: ts, v :: vs, d :: ds, _, ht, ⟨p, q, h1, h2, e⟩, hs, hsp => by
    subst e
    have h0 := ht t List.mem_cons_self
    exact ⟨p, q, Go.WideElems.Trod_stays hl h0.1 h0.2 h1 (fun x hx => hs x (List.mem_append_left _ hx)) (fun x hx => hsp x (List.mem_append_left _ hx)),
      trodAll_stays hl (fun t h => ht t (List.mem_cons_of_mem _ h)) h2 (fun x hx => hs x (List.mem_append_right _ hx)) (fun x hx => hsp x (List.mem_append_right _ hx)), rfl⟩
theorem post_true {f : Func} {s : ChangeSpec} {apart fresh handsOn again : Bool} {W W' : World} {args : Array Value} {ds : List (DataW H)} {before : List MemPlace} {S K : Nat → Prop} {M' : Tags}
    (hl : laidOutB P = true) (hv : s.vars = []) (hrd : ∀ t ∈ f.params.toList, P.readableRec t = true ∧ t < P.types.size) {tb : TypeId} (htb : P.underlying tb = some .bool) (hrt : f.resultTypes = #[tb])
    (hW : DataW.Whole enc P f.params.toList s.vars apart W args.toList ds [] before) (hres : (s.fn H (ds ++ [])).results = [.lit (.bool true)]) (hargs : (s.fn H (ds ++ [])).args = ds) (hvars : (s.fn H (ds ++ [])).vars = [])
    (le : Le S K W pubs W' M') : s.post enc P f apart fresh handsOn again W args (.bool true) W' := by
  have hW0 := hW
  obtain ⟨p, q, hA, hV, hb, hfz, hn⟩ := hW0
  have hlt := DataW.TrodAll.lt hA
  have hq : q = [] := by rw [hv] at hV; exact (trodVars_none hV).2
  subst hq
  have hbp : before = p := by rw [hb]; simp
  have hre : ∀ (b : Nat) (sp : Nat → Bool) (hd : Bool), DataW.TrodAll enc P W' b sp hd f.resultTypes.toList ((Value.bool true).resultList f.resultTypes.size) (s.fn H (ds ++ [])).results [] := fun b sp hd => by
    rw [hrt, hres]; exact trodAll_mk1 (shut_bool htb true)
  have har : ∀ sp : Nat → Bool, (∀ x ∈ p, sp x.block = true) → DataW.TrodAll enc P W' 0 sp true f.params.toList args.toList (s.fn H (ds ++ [])).args p := fun sp hsp => by
    rw [hargs]; exact trodAll_stays hl hrd hA (fun x hx => le_same le (hlt x hx)) hsp
  have hva : ∀ sp : Nat → Bool, DataW.TrodVars enc P W' sp s.vars (s.fn H (ds ++ [])).vars [] := fun sp => by
    rw [hvars, hv]; exact rfl
  have hok : ∀ (j : Nat) (t : TypeId) (r : Value), f.resultTypes[j]? = some t → ((Value.bool true).resultList f.resultTypes.size)[j]? = some r → Value.okWide P W' .any 0 t r := by
    exact ok_one (by rw [hrt]) rfl (okWide_bool_mk htb true)
  refine ⟨ds, [], before, [], p, [], hW, hre _ _ _, har _ (fun x hx => by simpa using hlt x hx), hva _, World.keptBut_mono (fun x hx => hx) (le_kept le _), fun _ => ?_⟩
  refine ⟨hok, _, _, ([] ++ p) ++ [], ⟨[] ++ p, [], trodAll_append (har _ (fun _ _ => rfl)) (hre _ _ _), hva _, rfl, ?_, ?_⟩, ?_⟩
  · intro b off hp
    have hp' : MemPlace.cell b off ∈ p := by simpa using hp
    rw [le_frozen le (hlt _ hp')]
    exact hfz b off (by rw [hbp]; exact hp')
  · intro ha
    have := hn ha
    rw [hbp] at this
    simpa using this
  · intro x hx _
    rw [hbp]
    simpa using hx
end
end Go.T

namespace Go.Proofs.Ytifgbnbkimcchaa
open Go Go.T Go.RowKit Go.ChangeShapes Go.WideShapes Go.ChangeAt
section
variable {H : Type} {enc : TypeId × Value → H} {W : World} {base : Nat} {held : Bool} {v : Value} {d : DataW H} {p : List MemPlace}
end
end Go.Proofs.Ytifgbnbkimcchaa

namespace Go.Proofs.Ytifgbnbkimcchaa
open Go Go.T Go.RowKit Go.ChangeShapes Go.WideShapes Go.ChangeAt
theorem rdU8 : Rd Try.prog 5 U8 := ⟨by kernel_rfl, by decide, fun h => by
  obtain ⟨i, rfl, _⟩ := DataW.trod_int Try.underlying5 h
  exact ⟨i, rfl, trivial⟩⟩
section
variable {H : Type} {enc : TypeId × Value → H} {W : World} {base : Nat} {held : Bool} {v : Value} {d : DataW H} {p : List MemPlace}
set_option maxRecDepth 100000 in
theorem rd_u8 (hv : Value.okWide Try.prog W .any base 5 v) (h : DataW.Trod enc Try.prog W 0 (fun _ => true) held 5 v d p) : ∃ n : Int, (0 ≤ n ∧ n ≤ 255) ∧ (Ty.int .u8 n).den W pubs v := by
  obtain ⟨n, rfl, _, _, hw⟩ := open_int Try.underlying5 hv h
  refine ⟨n, ?_, rfl⟩
  simp [Lit.wf, IntKind.wrap] at hw
  have e1 : IntKind.u8.min = 0 := rfl
  have e2 : IntKind.u8.max = 255 := rfl
  omega
set_option maxRecDepth 100000 in
theorem rd_bytes (hv : Value.okWide Try.prog W .any base 92 v) (h : DataW.Trod enc Try.prog W 0 (fun _ => true) held 92 v d p) : ∃ l, (Ty.sl U8 l).den W pubs v := by
  obtain ⟨a, len, cap, rfl⟩ := okWide_slice Try.underlying92 hv
  obtain ⟨n, hn⟩ := h
  exact rd_sl1 rdU8 Try.underlying92 (by simpa [Value.cells] using hn)
end
end Go.Proofs.Ytifgbnbkimcchaa
