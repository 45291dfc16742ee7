/- Lemmas: the program and the reference walked, plain laws. -/
import Derived.Test.YtjjndkenddigiaaGreatDoorFd
namespace Go.Proofs.YtjjndkenddigiaaGreatDoor
open Go Go.T
theorem sumC_cons (r : BRow) (l : List BRow) (c : Nat) : sumC (r :: l) c = wthR r c + sumC l c := by simp [sumC]
theorem sumC_set : ∀ {l : List BRow} {i : Nat}, i < l.length → ∀ (z : BRow) (c : Nat), sumC (l.set i z) c = sumC l c - wthR (nth l i) c + wthR z c
  | [], i, h, _, _ => absurd h (Nat.not_lt_zero _)
  | r :: l, 0, _, z, c => by
    rw [List.set_cons_zero, sumC_cons, sumC_cons, show nth (r :: l) 0 = r from rfl]; omega
  | r :: l, i + 1, h, z, c => by
    rw [List.set_cons_succ, sumC_cons, sumC_cons, sumC_set (l := l) (i := i) (by simpa using h) z c, show nth (r :: l) (i + 1) = nth l i by simp [nth]]; omega
theorem sumC_take_set {l : List BRow} {i m : Nat} (hi : i < l.length) (hm : m ≤ l.length) (z : BRow) (c : Nat) :
    sumC ((l.set i z).take m) c = if i < m then sumC (l.take m) c - wthR (nth l i) c + wthR z c else sumC (l.take m) c := by
  rw [List.take_set]
  split
  · rename_i h
    rw [sumC_set (by rw [List.length_take]; omega)]
    congr 3
    unfold nth
    rw [List.getD_eq_getElem?_getD, List.getD_eq_getElem?_getD, List.getElem?_take_of_lt h]
  · rename_i h
    rw [List.set_eq_of_length_le (by rw [List.length_take]; omega)]
theorem footL_len2 (b : Book) : (footL b).length = pgs b.form.lines.toNat b.rows.length := footL_len b
theorem nth_footL {b : Book} {p : Nat} (h : p < pgs b.form.lines.toNat b.rows.length) : nth (footL b) p = (sumL (b.rows.take (endN b.form.lines.toNat b.rows.length p))).take b.form.widths.length := by
  unfold footL
  rw [nth, List.getD_eq_getElem?_getD, ends_eq, List.map_map, List.getElem?_map, List.getElem?_range h]
  simp
theorem foot_wid {b : Book} (hb : BookOk b) {x : List Int} (h : x ∈ footL b) : x.length = b.form.widths.length := by
  unfold footL at h
  rw [List.mem_map] at h
  obtain ⟨n, _, rfl⟩ := h
  have := hb.form.n2
  rw [List.length_take, show (sumL (b.rows.take n.toNat)).length = 4 from rfl]; omega
theorem nth_foot2 {b : Book} (hb : BookOk b) {p c : Nat} (h : p < pgs b.form.lines.toNat b.rows.length) (hc : c < b.form.widths.length) :
    nth (nth (footL b) p) c = sumC (b.rows.take (endN b.form.lines.toNat b.rows.length p)) c := by
  rw [nth_footL h]
  have := hb.form.n2
  rw [← nth_sumL _ (show c < 4 by omega)]
  unfold nth
  rw [List.getD_eq_getElem?_getD, List.getD_eq_getElem?_getD, List.getElem?_take_of_lt hc]
theorem foot_bnd {b : Book} (hb : BookOk b) {p c : Nat} (h : p < pgs b.form.lines.toNat b.rows.length) (hc : c < b.form.widths.length) :
    0 ≤ nth (nth (footL b) p) c ∧ nth (nth (footL b) p) c ≤ 120000 := by
  rw [nth_foot2 hb h hc]
  have h1 := sumC_bnd (take_small (book_small hb) (endN b.form.lines.toNat b.rows.length p)) c
  have h2 := hb.few
  rw [List.length_take] at h1
  omega
def stkR (b : Book) (i : Nat) : Book := ⟨b.form, b.rows.set i ⟨(nth b.rows i).nums, true⟩⟩
def moreR (b : Book) (r : BRow) : Book := ⟨b.form, b.rows ++ [r]⟩
theorem stk_ok {b : Book} (hb : BookOk b) {i : Nat} (hi : i < b.rows.length) : BookOk (stkR b i) := by
  refine ⟨hb.form, by have := hb.few; simpa [stkR] using this, fun r hr => ?_⟩
  rcases List.mem_or_eq_of_mem_set (show r ∈ b.rows.set i ⟨(nth b.rows i).nums, true⟩ from hr) with h | h
  · exact hb.row r h
  · subst h
    have := hb.row _ (nth_mem hi)
    exact ⟨this.len, this.num⟩
theorem more_ok {b : Book} (hb : BookOk b) (h : b.rows.length ≤ 11) {r : BRow} (hr : RowOk b.form r) : BookOk (moreR b r) := by
  refine ⟨hb.form, by simp [moreR]; omega, fun x hx => ?_⟩
  rcases List.mem_append.1 (show x ∈ b.rows ++ [r] from hx) with h | h
  · exact hb.row x h
  · rw [List.mem_singleton.1 h]; exact hr
theorem stk_len (b : Book) (i : Nat) : (stkR b i).rows.length = b.rows.length := by simp [stkR]
theorem stk_foots {b : Book} (i : Nat) : (footL (stkR b i)).length = (footL b).length := by
  rw [footL_len2, footL_len2, stk_len]; rfl
theorem lin_pos {b : Book} (hb : BookOk b) : 1 ≤ b.form.lines.toNat ∧ b.form.lines.toNat ≤ 6 := by
  have := hb.form.l1; have := hb.form.l2; omega
theorem end_lt {L n i p : Nat} (hL : 1 ≤ L ∧ L ≤ 6) (hi : i < n) (hp : p < pgs L n) : i < endN L n p ↔ i < (p + 1) * L := by
  unfold endN
  split
  · exact Iff.rfl
  · rename_i h
    refine ⟨fun _ => ?_, fun _ => hi⟩
    unfold pgs at h hp
    have e : p = (n - 1) / L := by omega
    subst e
    rcases six_cases hL with rfl | rfl | rfl | rfl | rfl | rfl <;> omega
theorem pgs_pos (L n : Nat) : 1 ≤ pgs L n := Nat.le_add_left 1 _
theorem end_last {L n : Nat} : endN L n (pgs L n - 1) = n := by
  have := pgs_pos L n
  unfold endN; rw [if_neg (by omega)]
theorem stk_foot {b : Book} (hb : BookOk b) {i p c : Nat} (hi : i < b.rows.length) (hs : (nth b.rows i).struck = false) (hp : p < (footL b).length) (hc : c < b.form.widths.length) :
    nth (nth (footL (stkR b i)) p) c = nth (nth (footL b) p) c - (if (i : Int) < ((p : Int) + 1) * b.form.lines then nth (nth b.rows i).nums c else 0) := by
  rw [footL_len2] at hp
  have hL := lin_pos hb
  rw [nth_foot2 (stk_ok hb hi) (by rw [stk_len]; exact hp) hc, nth_foot2 hb hp hc, stk_len]
  show sumC ((b.rows.set i ⟨(nth b.rows i).nums, true⟩).take (endN b.form.lines.toNat b.rows.length p)) c = _
  rw [sumC_take_set hi (end_le hL hp).1]
  have h1 := end_lt hL hi hp
  have h2 : ((i : Int) < ((p : Int) + 1) * b.form.lines) ↔ i < (p + 1) * b.form.lines.toNat := by
    have e : ((b.form.lines.toNat : Nat) : Int) = b.form.lines := Int.toNat_of_nonneg (by have := hb.form.l1; omega)
    rw [← e]
    constructor
    · intro h; exact_mod_cast h
    · intro h; exact_mod_cast h
  by_cases h : i < endN b.form.lines.toNat b.rows.length p
  · rw [if_pos h, if_pos (h2.2 (h1.1 h))]
    have e1 : wthR (nth b.rows i) c = nth (nth b.rows i).nums c := by unfold wthR; rw [hs]; rfl
    have e2 : wthR ⟨(nth b.rows i).nums, true⟩ c = 0 := rfl
    rw [e1, e2]; omega
  · rw [if_neg h, if_neg (fun e => h (h1.2 (h2.1 e)))]; omega
theorem more_foots {b : Book} (hb : BookOk b) (r : BRow) : (footL b).length ≤ (footL (moreR b r)).length := by
  rw [footL_len2, footL_len2]
  have hL := lin_pos hb
  show pgs b.form.lines.toNat b.rows.length ≤ pgs b.form.lines.toNat (b.rows ++ [r]).length
  rw [List.length_append, List.length_singleton]
  unfold pgs
  have := Nat.div_le_div_right (c := b.form.lines.toNat) (show b.rows.length - 1 ≤ b.rows.length + 1 - 1 by omega)
  omega
theorem last_foot {b : Book} (hb : BookOk b) {c : Nat} (hc : c < b.form.widths.length) : nth (nth (footL b) ((footL b).length - 1)) c = sumC b.rows c := by
  have hp := pgs_pos b.form.lines.toNat b.rows.length
  rw [footL_len2, nth_foot2 hb (by omega) hc, end_last, List.take_length]
theorem cor_foot {b : Book} (hb : BookOk b) (h11 : b.rows.length ≤ 11) {r : BRow} (hr : RowOk b.form r) {i c : Nat} (hi : i < b.rows.length) (hs : (nth b.rows i).struck = false) (hc : c < b.form.widths.length) :
    nth (nth (footL (moreR (stkR b i) r)) ((footL (moreR (stkR b i) r)).length - 1)) c = nth (nth (footL b) ((footL b).length - 1)) c - nth (nth b.rows i).nums c + (if r.struck = true then 0 else nth r.nums c) := by
  rw [last_foot (more_ok (stk_ok hb hi) (by rw [stk_len]; exact h11) hr) hc, last_foot hb hc]
  show sumC (b.rows.set i ⟨(nth b.rows i).nums, true⟩ ++ [r]) c = _
  rw [sumC_snoc, sumC_set hi]
  have e1 : wthR (nth b.rows i) c = nth (nth b.rows i).nums c := by unfold wthR; rw [hs]; rfl
  have e2 : wthR ⟨(nth b.rows i).nums, true⟩ c = 0 := rfl
  rw [e1, e2]; unfold wthR; omega
theorem num_bndR {b : Book} (hb : BookOk b) {i c : Nat} (hi : i < b.rows.length) : 0 ≤ nth (nth b.rows i).nums c ∧ nth (nth b.rows i).nums c < 10000 := (book_small hb _ (nth_mem hi)).2 c
theorem filter_none {q : Nat → Bool} : ∀ {m : Nat}, (∀ j, j < m → q j = false) → (List.range m).filter q = []
  | 0, _ => rfl
  | m + 1, h => by rw [List.range_succ, List.filter_append, filter_none fun j hj => h j (by omega)]; simp [h m (by omega)]
theorem filter_one {q : Nat → Bool} {i : Nat} : ∀ {m : Nat}, i < m → (∀ j, j < m → q j = decide (j = i)) → (List.range m).filter q = [i]
  | 0, h, _ => absurd h (Nat.not_lt_zero _)
  | m + 1, h, hq => by
    rw [List.range_succ, List.filter_append]
    by_cases e : i = m
    · subst e
      rw [filter_none fun j hj => by rw [hq j (by omega)]; exact decide_eq_false (by omega)]
      simp [hq i (by omega)]
    · rw [filter_one (m := m) (by omega) fun j hj => hq j (by omega)]
      simp [hq m (by omega)]; omega
end Go.Proofs.YtjjndkenddigiaaGreatDoor

namespace Go.Proofs.YtjjndkenddigiaaGreatDoor
open Go Go.T
set_option maxHeartbeats 4000000
theorem zr_row {f : BForm} (hf : FormOk f) {r : BRow} (hr : RowOk f r) : Rng r.nums := fun x hx => by
  obtain ⟨c, hc, e⟩ := List.getElem_of_mem hx
  have h := (small_of hf hr).2 c
  rw [show nth r.nums c = x by simp [nth, hc, e]] at h
  omega
theorem zr_of {b : Book} (hb : BookOk b) : ∀ r ∈ b.rows, Rng r.nums := fun r hr => zr_row hb.form (hb.row r hr)
theorem fill_200z (g : List Int) : (skFill g).Ok 200 := by have := skFill_ok g; unfold Sk.Ok at *; omega
theorem fill_20z (g : List Int) : (skFill g).Ok 20 := by have := skFill_ok g; unfold Sk.Ok at *; omega
theorem c_PutIs {b : Book} {r : BRow} (hb : BookOk b) (h : b.rows.length ≤ 11) (hr : RowOk b.form r) : Ctr Tryz.prog 41 [bokT b, rowT r] (Ty.tup [bokT (moreR b r), Ty.int .i64 0]) := by
  have h2 := c_Put b (zr_of hb) r (zr_row hb.form hr)
  rw [pv_4 (bokY_zero.2 hb) (by omega) (rowY_zero.2 hr)] at h2
  exact h2
theorem c_StrikeIs {b : Book} (hb : BookOk b) {i : Int} {q : Book} {y : Int} (h : strV b i = (q, y)) : Ctr Tryz.prog 42 [bokT b, Ty.int .i64 i] (Ty.tup [bokT q, Ty.int .i64 y]) := by
  have h2 := c_Strike b (zr_of hb) i
  rwa [h] at h2
theorem c_CorrectIs {b : Book} (hb : BookOk b) {i : Int} {r : BRow} (hr : RowOk b.form r) {q : Book} {y : Int} (h : corV b i r = (q, y)) : Ctr Tryz.prog 43 [bokT b, Ty.int .i64 i, rowT r] (Ty.tup [bokT q, Ty.int .i64 y]) := by
  have h2 := c_Correct b (zr_of hb) i r (zr_row hb.form hr)
  rwa [h] at h2
theorem c_FootsOk {b : Book} (hb : BookOk b) : Ctr Tryz.prog 17 [bokT b] (Ty.tup [Ty.sl RowE (footL b), Ty.int .i64 0]) := by
  have h := c_Foots b (zr_of hb)
  rwa [show footV b = footL b from if_pos (bokY_zero.2 hb), bokY_zero.2 hb] at h
theorem c_DifferIs {a b : Book} (ha : BookOk a) (hb : BookOk b) {l : List Int} (h : difV a b = (l, 0)) : Ctr Tryz.prog 47 [bokT a, bokT b] (Ty.tup [Ty.sl I64 l, Ty.int .i64 0]) := by
  have h2 := c_Differ a b (zr_of ha) (zr_of hb)
  rwa [h] at h2
theorem col_yes {f : BForm} {l : List (List Int)} (h0 : 0 < l.length) (h : ∀ x ∈ l, x.length = f.widths.length) : colB f l = true := by
  unfold colB
  rw [Bool.and_eq_true, decide_eq_true_eq]
  refine ⟨by omega, ?_⟩
  rw [Bool.not_eq_true', List.any_eq_false]
  intro x hx
  rw [h x hx]; simp
theorem c_colIs {f : BForm} {l : List (List Int)} (h0 : 0 < l.length) (h : ∀ x ∈ l, x.length = f.widths.length) : Ctr Tryz.prog 49 [frmT f, Ty.sl RowE l] (Ty.bool true) := by
  have h2 := c_columns f l
  rwa [col_yes h0 h] at h2
theorem c_sameIs (a : Book) : Ctr Tryz.prog 19 [bokT a, bokT a] (Ty.bool true) := by
  have h2 := c_same a a
  rwa [decide_eq_true rfl] at h2
theorem c_sameTk (b : Book) (r : BRow) : Ctr Tryz.prog 19 [bokT ⟨b.form, (moreR b r).rows.take b.rows.length⟩, bokT b] (Ty.bool true) := by
  have h2 := c_sameIs b
  have e : (⟨b.form, (moreR b r).rows.take b.rows.length⟩ : Book) = b := by
    show (⟨b.form, (b.rows ++ [r]).take b.rows.length⟩ : Book) = b
    rw [List.take_left]
  rw [e]; exact h2
theorem md_few (s : Sk) {n : Int} (h : 0 ≤ n) : ((mdB s n).rows.length : Int) ≤ n := by
  have h1 := mdN_bnd s h
  have h2 : (mdB s n).rows.length = mdN s n := mdR_len _ _
  omega
theorem in_yes {i n : Nat} : inB (i : Int) 0 ((n : Int) - 1) = decide (i < n) := by
  unfold inB; rw [Bool.eq_iff_iff]; simp; omega
theorem dif_same {a b : Book} {j : Nat} (h1 : j < a.rows.length) (h2 : j < b.rows.length) (h : nth a.rows j = nth b.rows j) : difB a b j = false := by
  unfold difB; rw [in_yes, in_yes, h]; simp [h1, h2]
theorem dif_out1 {a b : Book} {j : Nat} (h : ¬ j < a.rows.length) : difB a b j = true := by
  unfold difB; rw [in_yes]; simp [h]
theorem dif_out2 {a b : Book} {j : Nat} (h : ¬ j < b.rows.length) : difB a b j = true := by
  unfold difB; rw [in_yes, in_yes]; simp [h]
theorem dif_stk {a b : Book} {j : Nat} (h : ¬ (nth a.rows j).struck = (nth b.rows j).struck) : difB a b j = true := by
  unfold difB; simp [h]
theorem dif_is {a b : Book} (ha : BookOk a) (hb : BookOk b) (hf : a.form = b.form) : difV a b = (difL a b (maxN a b), 0) := by
  unfold difV; rw [if_neg (dv_0 ha hb), if_neg (by rw [hf]; simp)]
theorem dif_one {a b : Book} {i m : Nat} (hi : i < m) (h : ∀ j, j < m → difB a b j = decide (j = i)) : difL a b m = [(i : Int)] := by
  unfold difL; rw [filter_one hi h]; rfl
theorem nth_app {l : List BRow} {r : BRow} {j : Nat} (h : j < l.length) : nth (l ++ [r]) j = nth l j := by
  unfold nth; rw [List.getD_eq_getElem?_getD, List.getD_eq_getElem?_getD, List.getElem?_append_left h]
theorem nth_set_ne {l : List BRow} {z : BRow} {i j : Nat} (h : ¬ j = i) : nth (l.set i z) j = nth l j := by
  unfold nth; rw [List.getD_eq_getElem?_getD, List.getD_eq_getElem?_getD, List.getElem?_set_ne (fun e => h e.symm)]
theorem nth_set_eq {l : List BRow} {z : BRow} {i : Nat} (h : i < l.length) : nth (l.set i z) i = z := by
  unfold nth; rw [List.getD_eq_getElem?_getD, List.getElem?_set_self h]; rfl
theorem more_len (b : Book) (r : BRow) : (moreR b r).rows.length = b.rows.length + 1 := by simp [moreR]
theorem dif_put {b : Book} {r : BRow} (hb : BookOk b) (h : b.rows.length ≤ 11) (hr : RowOk b.form r) : difV b (moreR b r) = ([(b.rows.length : Int)], 0) := by
  have hl := more_len b r
  rw [dif_is hb (more_ok hb h hr) rfl, show maxN b (moreR b r) = b.rows.length + 1 by unfold maxN; omega, dif_one (i := b.rows.length) (by omega)]
  intro j hj
  by_cases e : j = b.rows.length
  · rw [dif_out1 (by omega), decide_eq_true e]
  · rw [dif_same (by omega) (by omega) (nth_app (by omega)).symm, decide_eq_false e]
theorem dif_str {b : Book} (hb : BookOk b) {i : Nat} (hi : i < b.rows.length) (hs : (nth b.rows i).struck = false) : difV b (stkR b i) = ([(i : Int)], 0) := by
  have hl := stk_len b i
  rw [dif_is hb (stk_ok hb hi) rfl, show maxN b (stkR b i) = b.rows.length by unfold maxN; omega, dif_one hi]
  intro j hj
  by_cases e : j = i
  · subst e
    rw [dif_stk, decide_eq_true rfl]
    rw [show nth (stkR b j).rows j = ⟨(nth b.rows j).nums, true⟩ from nth_set_eq hi, hs]; simp
  · rw [dif_same hj (by omega) (nth_set_ne e).symm, decide_eq_false e]
theorem dif_cor {b : Book} {r : BRow} (hb : BookOk b) (h : b.rows.length ≤ 11) (hr : RowOk b.form r) {i : Nat} (hi : i < b.rows.length) (hs : (nth b.rows i).struck = false) : difV (moreR (stkR b i) r) b = ([(i : Int), (b.rows.length : Int)], 0) := by
  have hl := stk_len b i
  have hl2 := more_len (stkR b i) r
  rw [dif_is (more_ok (stk_ok hb hi) (by omega) hr) hb rfl, show maxN (moreR (stkR b i) r) b = b.rows.length + 1 by unfold maxN; omega, ← dif_yes (dif_out2 (by omega)), dif_one hi]
  · rfl
  intro j hj
  have e2 : nth (moreR (stkR b i) r).rows j = nth (stkR b i).rows j := nth_app (by omega)
  by_cases e : j = i
  · subst e
    rw [dif_stk, decide_eq_true rfl]
    rw [e2, show nth (stkR b j).rows j = ⟨(nth b.rows j).nums, true⟩ from nth_set_eq hi, hs]; simp
  · rw [dif_same (by omega) hj (e2.trans (nth_set_ne e)), decide_eq_false e]
theorem str_stk {b : Book} (hb : BookOk b) {i : Nat} (hi : i < b.rows.length) : strV (stkR b i) (i : Int) = (Book.zero, 5) :=
  sv_3 (bokY_zero.2 (stk_ok hb hi)) (by rw [stk_len]; exact hi) (by rw [show nth (stkR b i).rows i = ⟨(nth b.rows i).nums, true⟩ from nth_set_eq hi])
theorem cor_is {b : Book} {r : BRow} (hb : BookOk b) (h : b.rows.length ≤ 11) (hr : RowOk b.form r) {i : Nat} (hi : i < b.rows.length) (hs : (nth b.rows i).struck = false) : corV b (i : Int) r = (moreR (stkR b i) r, 0) := by
  have e := sv_4 (bokY_zero.2 hb) hi hs
  rw [cv_2 (by rw [e]), e]
  exact pv_4 (bokY_zero.2 (stk_ok hb hi)) (by rw [show (⟨b.form, b.rows.set i ⟨(nth b.rows i).nums, true⟩⟩ : Book).rows.length = b.rows.length from stk_len b i]; omega) (rowY_zero.2 hr)
theorem cor_no {b : Book} {r : BRow} (hb : BookOk b) {i : Nat} (hi : i < b.rows.length) (hs : (nth b.rows i).struck = true) : corV b (i : Int) r = (Book.zero, 5) := by
  have e := sv_3 (bokY_zero.2 hb) hi hs
  rw [cv_1 (by rw [e]; decide), e]
theorem str_0 {b : Book} (hb : BookOk b) (h : (b.rows.length : Int) = 0) : strV b 0 = (Book.zero, 1) := by
  unfold strV; rw [if_neg (fun e => e (bokY_zero.2 hb)), if_pos (by rw [h]; decide)]
theorem sv_4s {b : Book} (hb : BookOk b) {i : Nat} (hi : i < b.rows.length) (hs : (nth b.rows i).struck = false) : strV b (i : Int) = (stkR b i, 0) := sv_4 (bokY_zero.2 hb) hi hs
theorem cor_ok {b : Book} {r : BRow} (hb : BookOk b) (h : b.rows.length ≤ 11) (hr : RowOk b.form r) {i : Nat} (hi : i < b.rows.length) : BookOk (moreR (stkR b i) r) := more_ok (stk_ok hb hi) (by rw [stk_len]; exact h) hr
theorem stk_wid {b : Book} (hb : BookOk b) {i : Nat} (hi : i < b.rows.length) : ∀ x ∈ footL (stkR b i), x.length = b.form.widths.length := fun x hx => foot_wid (stk_ok hb hi) hx
theorem cor_wid {b : Book} {r : BRow} (hb : BookOk b) (h : b.rows.length ≤ 11) (hr : RowOk b.form r) {i : Nat} (hi : i < b.rows.length) : ∀ x ∈ footL (moreR (stkR b i) r), x.length = b.form.widths.length := fun x hx => foot_wid (cor_ok hb h hr hi) hx
theorem cor_12 {b : Book} {r : BRow} (hb : BookOk b) (h : b.rows.length ≤ 11) (hr : RowOk b.form r) {i : Nat} (hi : i < b.rows.length) : (footL (moreR (stkR b i) r)).length ≤ 12 := by
  have hco := cor_ok hb h hr hi
  rw [footL_len2]; exact pgs_le (lin_pos hco) hco.few
theorem cor_more {b : Book} {r : BRow} (hb : BookOk b) {i : Nat} (hi : i < b.rows.length) : (footL b).length ≤ (footL (moreR (stkR b i) r)).length := by
  rw [← stk_foots i]; exact more_foots (stk_ok hb hi) r
def lessV (b : Book) (i p c : Nat) : Int := if (i : Int) < ((p : Int) + 1) * b.form.lines then nth (nth b.rows i).nums c else 0
theorem less_yes {b : Book} {i p c : Nat} (h : (i : Int) < ((p : Int) + 1) * b.form.lines) : nth (nth b.rows i).nums c = lessV b i p c := (if_pos h).symm
theorem less_no {b : Book} {i p c : Nat} (h : ¬ (i : Int) < ((p : Int) + 1) * b.form.lines) : 0 = lessV b i p c := (if_neg h).symm
def plusV (r : BRow) (c : Nat) : Int := if r.struck = true then 0 else nth r.nums c
theorem plus_yes {r : BRow} {c : Nat} (h : (!r.struck) = true) : nth r.nums c = plusV r c := (if_neg (by simpa using h)).symm
theorem plus_no {r : BRow} {c : Nat} (h : (!r.struck) = false) : 0 = plusV r c := (if_pos (by simpa using h)).symm
theorem mul_72 {f : BForm} (hf : FormOk f) {p : Nat} (hp : p < 12) : 0 ≤ ((p : Int) + 1) * f.lines ∧ ((p : Int) + 1) * f.lines ≤ 72 := by
  have h1 := hf.l1
  have h2 := hf.l2
  exact ⟨Int.mul_nonneg (by omega) (by omega), Int.le_trans (Int.mul_le_mul (show (p : Int) + 1 ≤ 12 by omega) h2 (by omega) (by omega)) (by decide)⟩
attribute [local irreducible] moreR stkR strV corV putV difV footV footL mdB mdF skFill entR lessV plusV colB
attribute [local irreducible] dInt dBool dSl dPp dPtr dAgg dTup dClo dAny dEx dStr dGd dCells dVec dVs dRow dOp nth Tri Into TOps Ctr bodyPost Exit.then Exit.inBlock Code.wp Code.wpIn dPa dArr dMp dMap CtrG keepPost iterPost bodyPostM roundQ
set_option maxRecDepth 100000 in
theorem c_BookStruck (g g1 : List Int) (o : Int) (ho : 0 ≤ o ∧ o ≤ 255) : Ctr Tryz.prog 6 [Ty.sl U8 g, Ty.sl U8 g1, Ty.int .u8 o] (Ty.bool true) := by
  refine fn_intro Tryz.func6 rfl (by decide) Tryz.ntmps6 (by exact Nat.le_of_ble_eq_true rfl) fun w0 M0 => ?_
  refine t_seq ?_
  refine t_region ?_
  refine asB rfl ?_
  refine r_nil ?_
  refine i_then ?_
  refine t_seq ?_
  refine t_region ?_
  refine mvS rfl ?_
  refine r_callG [(20, 10)] [20] [(20, Cont.cells 147 (skTys (skFill g)))] (c_Fill g) rfl rfl (cv_cons cv_nil (cv_pub rfl rfl)) pre_nil (post_cons (a := 20) (b := 10) (by exact List.mem_cons_self) rfl (cc_cells_eq (by exact List.mem_cons_self) rfl rfl rfl) post_nil) (cv_ptr (by exact List.mem_cons_self)) ?_
  refine r_callG (res' := bokT (mdB (skFill g) 11)) [(20, 1000)] [] [] (c_Made (skFill g) (fill_200z g) 11 (by decide)) rfl rfl (cv_cons (cv_cons cv_nil (cv_pub rfl rfl)) (cv_ptr (by exact List.mem_cons_self))) (pre_cons (a := 20) (b := 1000) (by exact List.mem_cons_self) rfl (cc_cells_eq (by exact List.mem_cons_self) rfl rfl rfl) pre_nil) post_nil (cv_pub rfl rfl) ?_
  refine r_alloc rfl (by exact List.cons_ne_nil _ _) rfl ?_
  refine r_storeN rfl rfl (by decide) rfl rfl rfl rfl rfl rfl ?_
  refine r_nil ?_
  refine i_then ?_
  refine t_seq ?_
  refine t_forget (B := live [(1, Ty.sl U8 g1), (2, Ty.int .u8 o), (7, Ty.ptr 8 0)] [(8, Cont.cells 27 (bokTys (mdB (skFill g) 11)))]) ?_ ?_
  · (refine Ent.mk' ?_ ?_ <;> (repeat' (first | exact allSub_zero | exact allTags_nil | refine allSub_succ' ?_ (Ty.sub_any _) | refine allSub_succ' ?_ (Ty.sub_refl _) | refine allTags_cons rfl (Cont.sub_refl _) ?_)))
  have hb : BookOk (mdB (skFill g) 11) := mdB_ok _ (by decide)
  have h11 : (mdB (skFill g) 11).rows.length ≤ 11 := by have := md_few (skFill g) (n := 11) (by decide); omega
  generalize hB : mdB (skFill g) 11 = b at hb h11 ⊢
  have hfw := hb.form.n2
  have hl1 := hb.form.l1
  have hfew := hb.few
  refine t_draw mixed rfl ?_
  refine mvS rfl ?_
  refine r_callG [(21, 10)] [21] [(21, Cont.cells 147 (skTys (skFill g1)))] (c_Fill g1) rfl rfl (cv_cons cv_nil (cv_pub rfl rfl)) pre_nil (post_cons (a := 21) (b := 10) (by exact List.mem_cons_self) rfl (cc_cells_eq (by exact List.mem_cons_self) rfl rfl rfl) post_nil) (cv_ptr (by exact List.mem_cons_self)) ?_
  refine r_field_ptr rfl rfl rfl rfl rfl (by decide) ?_
  refine r_load_ptrN rfl rfl (by decide) rfl rfl (by exact Nat.le_of_ble_eq_true rfl) ?_
  refine r_callG (res' := rowT (entR b.form (skFill g1))) [(21, 1000)] [21] [] (c_Entry b.form hb.form (skFill g1) (fill_20z g1)) rfl rfl (cv_cons (cv_cons cv_nil (cv_pub rfl rfl)) (cv_ptr (by exact List.mem_cons_self))) (pre_cons (a := 21) (b := 1000) (by exact List.mem_cons_self) rfl (cc_cells_eq (by exact List.mem_cons_self) rfl rfl rfl) pre_nil) (post_nil) (cv_pub rfl rfl) ?_
  refine r_alloc rfl (by exact List.cons_ne_nil _ _) rfl ?_
  refine r_storeN rfl rfl (by decide) rfl rfl rfl rfl rfl rfl ?_
  refine r_nil ?_
  refine ⟨by kernel_rfl, ?_⟩
  refine i_then ?_
  refine t_seq ?_
  refine t_forget (B := live [(2, Ty.int .u8 o), (7, Ty.ptr 8 0), (8, Ty.ptr 9 0)] [(8, Cont.cells 27 (bokTys b)), (9, Cont.cells 66 (BRowE.tys (entR b.form (skFill g1))))]) ?_ ?_
  · (refine Ent.mk' ?_ ?_ <;> (repeat' (first | exact allSub_zero | exact allTags_nil | refine allSub_succ' ?_ (Ty.sub_any _) | refine allSub_succ' ?_ (Ty.sub_refl _) | refine allTags_cons rfl (Cont.sub_refl _) ?_)))
  have hr : RowOk b.form (entR b.form (skFill g1)) := entR_ok hb.form _
  generalize hR : entR b.form (skFill g1) = r at hr ⊢
  have hrl := hr.len
  refine t_region ?_
  refine r_load_ptrN rfl rfl (by decide) rfl rfl (by exact Nat.le_of_ble_eq_true rfl) ?_
  refine r_load_ptrN rfl rfl (by decide) rfl rfl (by exact Nat.le_of_ble_eq_true rfl) ?_
  refine r_call (c_PutIs hb h11 hr) rfl rfl rfl rfl rfl ?_
  refine mvT rfl ?_
  refine r_extract rfl rfl ?_
  refine r_extract rfl rfl ?_
  refine r_alloc rfl (by exact List.cons_ne_nil _ _) rfl ?_
  refine r_storeN rfl rfl (by decide) rfl rfl rfl rfl rfl rfl ?_
  refine asI rfl ?_
  refine r_nil ?_
  refine i_then ?_
  refine t_seq ?_
  refine t_seq ?_
  refine t_forget (B := live [(2, Ty.int .u8 o), (7, Ty.ptr 8 0), (8, Ty.ptr 9 0), (9, Ty.ptr 10 0), (10, Ty.int .i64 0)] [(8, Cont.cells 27 (bokTys b)), (9, Cont.cells 66 (BRowE.tys r)), (10, Cont.cells 27 (bokTys (moreR b r)))]) ?_ ?_
  · (refine Ent.mk' ?_ ?_ <;> (repeat' (first | exact allSub_zero | exact allTags_nil | refine allSub_succ' ?_ (Ty.sub_any _) | refine allSub_succ' ?_ (Ty.sub_refl _) | refine allTags_cons rfl (Cont.sub_refl _) ?_)))
  have hml := more_len b r
  refine t_draw mixed rfl ?_
  refine mvI rfl ?_
  refine r_bin rfl rfl rfl ?_
  refine mvB rfl ?_
  apply r_guard (s := 51) rfl rfl rfl
  · intro hg; apply opT_of; (refine r_field_ptr rfl rfl rfl rfl rfl (by decide) ?_); refine r_nil ?_; exact rfl
  · exact rfl
  · exact rfl
  apply r_guard (s := 51) rfl rfl rfl
  · intro hg; apply opT_strip (s := 52) rfl (by (rw [hg]; rfl)); apply opT_of; (refine r_load_ptr rfl rfl (by decide) rfl rfl rfl ?_); refine r_nil ?_; exact rfl
  · exact rfl
  · exact rfl
  apply r_guard (s := 51) rfl rfl rfl
  · intro hg; apply opT_strip (s := 53) rfl (by (rw [hg]; rfl)); apply opT_of; (refine r_len rfl rfl rfl ?_); refine r_nil ?_; exact rfl
  · exact rfl
  · exact rfl
  apply r_guard (s := 51) rfl rfl rfl
  · intro hg; apply opT_of; (refine r_field_ptr rfl rfl rfl rfl rfl (by decide) ?_); refine r_nil ?_; exact rfl
  · exact rfl
  · exact rfl
  apply r_guard (s := 51) rfl rfl rfl
  · intro hg; apply opT_strip (s := 55) rfl (by (rw [hg]; rfl)); apply opT_of; (refine r_load_ptr rfl rfl (by decide) rfl rfl rfl ?_); refine r_nil ?_; exact rfl
  · exact rfl
  · exact rfl
  apply r_guard (s := 51) rfl rfl rfl
  · intro hg; apply opT_strip (s := 56) rfl (by (rw [hg]; rfl)); apply opT_of; (refine r_len rfl rfl rfl ?_); refine r_nil ?_; exact rfl
  · exact rfl
  · exact rfl
  apply r_guard (s := 51) rfl rfl rfl
  · intro hg; apply opT_strip (s := 57) rfl (by (rw [hg]; rfl)); apply opT_of; (refine r_add rfl rfl (by omega) (by omega) ?_); refine r_nil ?_; exact rfl
  · exact rfl
  · exact rfl
  apply r_guard (s := 51) rfl rfl rfl
  · intro hg; apply opT_strip (s := 54) rfl (by (rw [hg]; rfl)); apply opT_strip (s := 58) rfl (by (rw [hg]; rfl)); apply opT_of; (refine r_bin rfl rfl rfl ?_); refine r_nil ?_; exact rfl
  · exact rfl
  · exact rfl
  refine r_or rfl rfl ?_
  refine mvB rfl ?_
  apply r_guard (s := 61) rfl rfl rfl
  · intro hg; apply opT_of; (refine r_field_ptr rfl rfl rfl rfl rfl (by decide) ?_); refine r_nil ?_; exact rfl
  · exact rfl
  · exact rfl
  apply r_guard (s := 61) rfl rfl rfl
  · intro hg; apply opT_strip (s := 62) rfl (by (rw [hg]; rfl)); apply opT_of; (refine r_load_ptrN rfl rfl (by decide) rfl rfl (by exact Nat.le_of_ble_eq_true rfl) ?_); refine r_nil ?_; exact rfl
  · exact rfl
  · exact rfl
  apply r_guard (s := 61) rfl rfl rfl
  · intro hg; apply opT_of; (refine r_field_ptr rfl rfl rfl rfl rfl (by decide) ?_); refine r_nil ?_; exact rfl
  · exact rfl
  · exact rfl
  apply r_guard (s := 61) rfl rfl rfl
  · intro hg; apply opT_strip (s := 64) rfl (by (rw [hg]; rfl)); apply opT_of; (refine r_load_ptr rfl rfl (by decide) rfl rfl rfl ?_); refine r_nil ?_; exact rfl
  · exact rfl
  · exact rfl
  apply r_guard (s := 61) rfl rfl rfl
  · intro hg; apply opT_of; (refine r_field_ptr rfl rfl rfl rfl rfl (by decide) ?_); refine r_nil ?_; exact rfl
  · exact rfl
  · exact rfl
  apply r_guard (s := 61) rfl rfl rfl
  · intro hg; apply opT_strip (s := 66) rfl (by (rw [hg]; rfl)); apply opT_of; (refine r_load_ptr rfl rfl (by decide) rfl rfl rfl ?_); refine r_nil ?_; exact rfl
  · exact rfl
  · exact rfl
  apply r_guard (s := 61) rfl rfl rfl
  · intro hg; apply opT_strip (s := 67) rfl (by (rw [hg]; rfl)); apply opT_of; (refine r_len rfl rfl rfl ?_); refine r_nil ?_; exact rfl
  · exact rfl
  · exact rfl
  apply r_guard (s := 61) rfl rfl rfl
  · intro hg; apply opT_strip (s := 65) rfl (by (rw [hg]; rfl)); apply opT_strip (s := 68) rfl (by (rw [hg]; rfl)); apply opT_of; (refine r_cut_hi rfl rfl rfl rfl rfl rfl (by omega) ?_); refine r_nil ?_; exact rfl
  · exact rfl
  · exact rfl
  apply r_guard (s := 61) rfl rfl rfl
  · intro hg; apply opT_strip (s := 63) rfl (by (rw [hg]; rfl)); apply opT_strip (s := 69) rfl (by (rw [hg]; rfl)); apply opT_of; (refine r_build rfl rfl (by exact List.cons_ne_nil _ _) rfl (by repeat (first | exact (Parts.nil : Parts _ _ [] _) | (show Parts _ _ ((_, _) :: _) _; apply Parts.one; (· exact (rfl : _ = Ty.sl _ _)); (· exact rfl)) | (show Parts _ _ ((_, _) :: _) _; apply Parts.agg; (· exact (rfl : _ = Ty.agg _))))) (by exact (rfl : _ = some [_, _, _])) ?_); refine r_nil ?_; exact rfl
  · exact rfl
  · exact rfl
  apply r_guard (s := 61) rfl rfl rfl
  · intro hg; apply opT_of; (refine r_load_ptrN rfl rfl (by decide) rfl rfl (by exact Nat.le_of_ble_eq_true rfl) ?_); refine r_nil ?_; exact rfl
  · exact rfl
  · exact rfl
  apply r_guard (s := 61) rfl rfl rfl
  · intro hg; apply opT_strip (s := 70) rfl (by (rw [hg]; rfl)); apply opT_strip (s := 71) rfl (by (rw [hg]; rfl)); apply opT_of; (refine r_call (c_sameTk b r) rfl rfl rfl rfl rfl ?_); refine r_nil ?_; exact rfl
  · exact rfl
  · exact rfl
  apply r_guard (s := 61) rfl rfl rfl
  · intro hg; apply opT_strip (s := 72) rfl (by (rw [hg]; rfl)); apply opT_of; (refine r_not rfl ?_); refine r_nil ?_; exact rfl
  · exact rfl
  · exact rfl
  refine r_or rfl rfl ?_
  refine r_nil ?_
  refine ⟨by kernel_rfl, ?_⟩
  refine i_then ?_
  refine t_cond rfl (fun hc1 => ?_) (fun hc1 => ?_)
  ·
    refine t_seq ?_
    refine t_region ?_
    refine asB rfl ?_
    refine r_nil ?_
    refine i_then ?_
    refine t_ret ?_
    refine i_then_ret ?_
    refine i_rp1 rfl rfl ?_
    all_goals skip
    all_goals (exfalso; simp [hml] at hc1)
  ·
    refine t_skip ?_
    refine i_then ?_
    refine t_seq ?_
    refine t_seq ?_
    refine t_region ?_
    refine r_load_ptrN rfl rfl (by decide) rfl rfl (by exact Nat.le_of_ble_eq_true rfl) ?_
    refine r_load_ptrN rfl rfl (by decide) rfl rfl (by exact Nat.le_of_ble_eq_true rfl) ?_
    refine r_call (c_DifferIs hb (more_ok hb h11 hr) (dif_put hb h11 hr)) rfl rfl rfl rfl rfl ?_
    refine mvT rfl ?_
    refine r_extract rfl rfl ?_
    refine r_extract rfl rfl ?_
    refine asS rfl ?_
    refine asI rfl ?_
    refine r_nil ?_
    refine i_then ?_
    refine t_seq ?_
    refine t_region ?_
    refine mvI rfl ?_
    refine r_bin rfl rfl rfl ?_
    refine mvB rfl ?_
    apply r_guard (s := 83) rfl rfl rfl
    · intro hg; apply opT_of; (refine mvS rfl ?_); refine r_nil ?_; exact rfl
    · exact rfl
    · exact rfl
    apply r_guard (s := 83) rfl rfl rfl
    · intro hg; apply opT_of; (refine r_field_ptr rfl rfl rfl rfl rfl (by decide) ?_); refine r_nil ?_; exact rfl
    · exact rfl
    · exact rfl
    apply r_guard (s := 83) rfl rfl rfl
    · intro hg; apply opT_strip (s := 85) rfl (by (rw [hg]; rfl)); apply opT_of; (refine r_load_ptr rfl rfl (by decide) rfl rfl rfl ?_); refine r_nil ?_; exact rfl
    · exact rfl
    · exact rfl
    apply r_guard (s := 83) rfl rfl rfl
    · intro hg; apply opT_strip (s := 86) rfl (by (rw [hg]; rfl)); apply opT_of; (refine r_len rfl rfl rfl ?_); refine r_nil ?_; exact rfl
    · exact rfl
    · exact rfl
    apply r_guard (s := 83) rfl rfl rfl
    · intro hg; apply opT_strip (s := 87) rfl (by (rw [hg]; rfl)); apply opT_of; (refine r_buildSlice (E := I64) (xs := [_]) rfl rfl rfl rfl rfl (by decide) (by decide) (by repeat (first | exact (Parts.nil : Parts _ _ [] _) | (show Parts _ _ ((_, _) :: _) _; apply Parts.one; (· exact (rfl : _ = Ty.int _ _)); (· exact rfl)))) (by exact rfl) rfl ?_); refine r_nil ?_; exact rfl
    · exact rfl
    · exact rfl
    apply r_guard (s := 83) rfl rfl rfl
    · intro hg; apply opT_strip (s := 84) rfl (by (rw [hg]; rfl)); apply opT_strip (s := 88) rfl (by (rw [hg]; rfl)); apply opT_of; (refine r_call (c_Equal_int _ _) rfl rfl rfl rfl rfl ?_); refine r_nil ?_; exact rfl
    · exact rfl
    · exact rfl
    apply r_guard (s := 83) rfl rfl rfl
    · intro hg; apply opT_strip (s := 89) rfl (by (rw [hg]; rfl)); apply opT_of; (refine r_not rfl ?_); refine r_nil ?_; exact rfl
    · exact rfl
    · exact rfl
    refine r_or rfl rfl ?_
    refine r_nil ?_
    refine i_then ?_
    refine t_cond_ndec rfl (fun hc2 => ?_) (fun hc2 => ?_)
    ·
      refine t_seq ?_
      refine t_region ?_
      refine asB rfl ?_
      refine r_nil ?_
      refine i_then ?_
      refine t_ret ?_
      refine i_then_ret ?_
      refine i_rp1 rfl rfl ?_
      all_goals skip
      all_goals exact absurd rfl hc2
    ·
      refine t_skip ?_
      refine i_then ?_
      refine t_seq ?_
      refine t_forget (B := live [(2, Ty.int .u8 o), (7, Ty.ptr 8 0), (8, Ty.ptr 9 0)] [(8, Cont.cells 27 (bokTys b)), (9, Cont.cells 66 (BRowE.tys r))]) ?_ ?_
      · (refine Ent.mk' ?_ ?_ <;> (repeat' (first | exact allSub_zero | exact allTags_nil | refine allSub_succ' ?_ (Ty.sub_any _) | refine allSub_succ' ?_ (Ty.sub_refl _) | refine allTags_cons rfl (Cont.sub_refl _) ?_)))
      refine t_region ?_
      refine r_load_ptrN rfl rfl (by decide) rfl rfl (by exact Nat.le_of_ble_eq_true rfl) ?_
      refine r_call (c_FootsOk hb) rfl rfl rfl rfl rfl ?_
      refine mvT rfl ?_
      refine r_extract rfl rfl ?_
      refine r_extract rfl rfl ?_
      refine asS rfl ?_
      refine asI rfl ?_
      refine r_nil ?_
      refine i_then ?_
      refine t_seq ?_
      refine t_seq ?_
      have hpos : 0 < (footL b).length := by rw [footL_len2]; exact pgs_pos _ _
      have hf12 : (footL b).length ≤ 12 := by rw [footL_len2]; exact pgs_le (lin_pos hb) hfew
      have hfl : ∀ x ∈ footL b, x.length = b.form.widths.length := fun x hx => foot_wid hb hx
      refine t_region ?_
      refine mvI rfl ?_
      refine r_bin rfl rfl rfl ?_
      refine mvB rfl ?_
      apply r_guard (s := 99) rfl rfl rfl
      · intro hg; apply opT_of; (refine r_field_ptr rfl rfl rfl rfl rfl (by decide) ?_); refine r_nil ?_; exact rfl
      · exact rfl
      · exact rfl
      apply r_guard (s := 99) rfl rfl rfl
      · intro hg; apply opT_strip (s := 100) rfl (by (rw [hg]; rfl)); apply opT_of; (refine r_load_ptrN rfl rfl (by decide) rfl rfl (by exact Nat.le_of_ble_eq_true rfl) ?_); refine r_nil ?_; exact rfl
      · exact rfl
      · exact rfl
      apply r_guard (s := 99) rfl rfl rfl
      · intro hg; apply opT_of; (refine mvS rfl ?_); refine r_nil ?_; exact rfl
      · exact rfl
      · exact rfl
      apply r_guard (s := 99) rfl rfl rfl
      · intro hg; apply opT_strip (s := 101) rfl (by (rw [hg]; rfl)); apply opT_strip (s := 102) rfl (by (rw [hg]; rfl)); apply opT_of; (refine r_call (c_colIs hpos hfl) rfl rfl rfl rfl rfl ?_); refine r_nil ?_; exact rfl
      · exact rfl
      · exact rfl
      apply r_guard (s := 99) rfl rfl rfl
      · intro hg; apply opT_strip (s := 103) rfl (by (rw [hg]; rfl)); apply opT_of; (refine r_not rfl ?_); refine r_nil ?_; exact rfl
      · exact rfl
      · exact rfl
      refine r_or rfl rfl ?_
      refine r_nil ?_
      refine i_then ?_
      refine t_cond rfl (fun hc3 => ?_) (fun hc3 => ?_)
      ·
        refine t_seq ?_
        refine t_region ?_
        refine asB rfl ?_
        refine r_nil ?_
        refine i_then ?_
        refine t_ret ?_
        refine i_then_ret ?_
        refine i_rp1 rfl rfl ?_
        all_goals skip
        all_goals (exfalso; simp at hc3)
      ·
        refine t_skip ?_
        refine i_then ?_
        refine t_seq ?_
        refine t_seq ?_
        refine t_region ?_
        refine r_field_ptr rfl rfl rfl rfl rfl (by decide) ?_
        refine r_load_ptr rfl rfl (by decide) rfl rfl rfl ?_
        refine r_len rfl rfl rfl ?_
        refine r_bin rfl rfl rfl ?_
        refine r_nil ?_
        refine i_then ?_
        refine t_cond_dec rfl (fun hc4 => ?_) (fun hc4 => ?_)
        ·
          refine t_seq ?_
          refine t_region ?_
          refine r_load_ptrN rfl rfl (by decide) rfl rfl (by exact Nat.le_of_ble_eq_true rfl) ?_
          refine r_call (c_StrikeIs hb (str_0 hb hc4)) rfl rfl rfl rfl rfl ?_
          refine mvT rfl ?_
          refine r_extract rfl rfl ?_
          refine r_extract rfl rfl ?_
          refine r_alloc rfl (by exact List.cons_ne_nil _ _) rfl ?_
          refine r_storeN rfl rfl (by decide) rfl rfl rfl rfl rfl rfl ?_
          refine asI rfl ?_
          refine r_nil ?_
          refine i_then ?_
          refine t_seq ?_
          refine t_region ?_
          refine mvI rfl ?_
          refine r_bin rfl rfl rfl ?_
          refine mvB rfl ?_
          apply r_guard (s := 117) rfl rfl rfl
          · intro hg; apply opT_of; (refine r_call c_awake rfl rfl rfl rfl rfl ?_); refine r_nil ?_; exact rfl
          · exact rfl
          · exact rfl
          refine r_and rfl rfl ?_
          refine asB rfl ?_
          refine r_nil ?_
          refine i_then ?_
          refine t_ret ?_
          refine i_then_ret ?_
          refine i_rp1 rfl rfl ?_
          all_goals exact ret_refl rfl rfl
          all_goals trace_state
        ·
          refine t_skip ?_
          refine i_then ?_
          refine t_seq ?_
          refine t_region ?_
          refine mvI rfl ?_
          refine r_convK rfl rfl rfl rfl (IntWalk.i64_in o (by omega)) ?_
          refine r_field_ptr rfl rfl rfl rfl rfl (by decide) ?_
          refine r_load_ptr rfl rfl (by decide) rfl rfl rfl ?_
          refine r_len rfl rfl rfl ?_
          refine r_rem rfl rfl (by omega) ?_
          refine asI rfl ?_
          refine r_nil ?_
          refine i_then ?_
          refine t_seq ?_
          obtain ⟨i, hi, hoi⟩ : ∃ i : Nat, i < b.rows.length ∧ o.tmod (b.rows.length : Int) = i := by
            have := tmod_in (a := o) (b := b.rows.length) ho.1 (by omega)
            exact ⟨(o.tmod b.rows.length).toNat, by omega, by omega⟩
          refine t_as (s := 16) rfl (Ty.sub_int hoi) ?_
          obtain ⟨S, y, hS⟩ : ∃ S y, strV b (i : Int) = (S, y) := ⟨_, _, rfl⟩
          obtain ⟨C, z, hC⟩ : ∃ C z, corV b (i : Int) r = (C, z) := ⟨_, _, rfl⟩
          have hor := hb.row _ (nth_mem hi)
          have horl := hor.len
          refine t_region ?_
          refine r_field_ptr rfl rfl rfl rfl rfl (by decide) ?_
          refine r_load_ptr rfl rfl (by decide) rfl rfl rfl ?_
          refine mvI rfl ?_
          refine r_index_slN rfl rfl rfl rfl rfl rfl (by omega) ?_
          refine r_load_ppN rfl rfl rfl (by exact Nat.le_of_ble_eq_true rfl) ?_
          refine r_alloc rfl (by exact List.cons_ne_nil _ _) rfl ?_
          refine r_storeN rfl rfl (by decide) rfl rfl rfl rfl rfl rfl ?_
          refine r_nil ?_
          refine i_then ?_
          refine t_seq ?_
          refine t_region ?_
          refine r_load_ptrN rfl rfl (by decide) rfl rfl (by exact Nat.le_of_ble_eq_true rfl) ?_
          refine mvI rfl ?_
          refine r_call (c_StrikeIs hb hS) rfl rfl rfl rfl rfl ?_
          refine mvT rfl ?_
          refine r_extract rfl rfl ?_
          refine r_extract rfl rfl ?_
          refine r_alloc rfl (by exact List.cons_ne_nil _ _) rfl ?_
          refine r_storeN rfl rfl (by decide) rfl rfl rfl rfl rfl rfl ?_
          refine asI rfl ?_
          refine r_nil ?_
          refine i_then ?_
          refine t_seq ?_
          refine t_region ?_
          refine r_load_ptrN rfl rfl (by decide) rfl rfl (by exact Nat.le_of_ble_eq_true rfl) ?_
          refine mvI rfl ?_
          refine r_load_ptrN rfl rfl (by decide) rfl rfl (by exact Nat.le_of_ble_eq_true rfl) ?_
          refine r_call (c_CorrectIs hb hr hC) rfl rfl rfl rfl rfl ?_
          refine mvT rfl ?_
          refine r_extract rfl rfl ?_
          refine r_extract rfl rfl ?_
          refine r_alloc rfl (by exact List.cons_ne_nil _ _) rfl ?_
          refine r_storeN rfl rfl (by decide) rfl rfl rfl rfl rfl rfl ?_
          refine asI rfl ?_
          refine r_nil ?_
          refine i_then ?_
          refine t_seq ?_
          refine t_seq ?_
          refine t_forget (B := live [(7, Ty.ptr 8 0), (8, Ty.ptr 9 0), (10, Ty.int .i64 y), (13, Ty.sl RowE (footL b)), (16, Ty.int .i64 (i : Nat)), (17, Ty.ptr 18 0), (18, Ty.ptr 19 0), (19, Ty.ptr 20 0), (20, Ty.int .i64 z)] [(8, Cont.cells 27 (bokTys b)), (9, Cont.cells 66 (BRowE.tys r)), (18, Cont.cells 66 (BRowE.tys (nth b.rows i))), (19, Cont.cells 27 (bokTys S)), (20, Cont.cells 27 (bokTys C))]) ?_ ?_
          · (refine Ent.mk' ?_ ?_ <;> (repeat' (first | exact allSub_zero | exact allTags_nil | refine allSub_succ' ?_ (Ty.sub_any _) | refine allSub_succ' ?_ (Ty.sub_refl _) | refine allTags_cons rfl (Cont.sub_refl _) ?_)))
          refine t_region ?_
          refine r_field_ptr rfl rfl rfl rfl rfl (by decide) ?_
          refine r_load_ptr rfl rfl (by decide) rfl rfl rfl ?_
          refine r_nil ?_
          refine i_then ?_
          refine t_cond rfl (fun hc5 => ?_) (fun hc5 => ?_)
          ·
            refine t_seq ?_
            obtain ⟨e1, e2⟩ := Prod.mk.inj (hS.symm.trans (sv_3 (bokY_zero.2 hb) hi hc5))
            obtain ⟨e3, e4⟩ := Prod.mk.inj (hC.symm.trans (cor_no (r := r) hb hi hc5))
            subst e2
            subst e4
            refine t_region ?_
            refine mvI rfl ?_
            refine r_bin rfl rfl rfl ?_
            refine mvB rfl ?_
            apply r_guard (s := 148) rfl rfl rfl
            · intro hg; apply opT_of; (refine mvI rfl ?_); refine r_nil ?_; exact rfl
            · exact rfl
            · exact rfl
            apply r_guard (s := 148) rfl rfl rfl
            · intro hg; apply opT_strip (s := 149) rfl (by exact hg); apply opT_of; (refine r_bin rfl rfl rfl ?_); refine r_nil ?_; exact rfl
            · exact rfl
            · exact rfl
            refine r_and rfl rfl ?_
            refine mvB rfl ?_
            apply r_guard (s := 152) rfl rfl rfl
            · intro hg; apply opT_of; (refine r_call c_awake rfl rfl rfl rfl rfl ?_); refine r_nil ?_; exact rfl
            · exact rfl
            · exact rfl
            refine r_and rfl rfl ?_
            refine asB rfl ?_
            refine r_nil ?_
            refine i_then ?_
            refine t_ret ?_
            refine i_then_ret ?_
            refine i_rp1 rfl rfl ?_
            all_goals exact ret_refl rfl rfl
            all_goals trace_state
          ·
            refine t_skip ?_
            refine i_then ?_
            refine t_seq ?_
            obtain ⟨e1, e2⟩ := Prod.mk.inj (hS.symm.trans (sv_4s hb hi hc5))
            obtain ⟨e3, e4⟩ := Prod.mk.inj (hC.symm.trans (cor_is hb h11 hr hi hc5))
            subst e1
            subst e2
            subst e3
            subst e4
            have hso := stk_ok hb hi
            have hco := cor_ok hb h11 hr hi
            have hG1 : (footL (stkR b i)).length = (footL b).length := stk_foots i
            have hG2 : ∀ x ∈ footL (stkR b i), x.length = b.form.widths.length := stk_wid hb hi
            have hG3 : ∀ p c, p < (footL b).length → c < b.form.widths.length → nth (nth (footL (stkR b i)) p) c = nth (nth (footL b) p) c - lessV b i p c := fun p c hp hc => by unfold lessV; exact stk_foot hb hi hc5 hp hc
            have hH1 : (footL b).length ≤ (footL (moreR (stkR b i) r)).length := cor_more hb hi
            have hH0 : (footL (moreR (stkR b i) r)).length ≤ 12 := cor_12 hb h11 hr hi
            have hH2 : ∀ x ∈ footL (moreR (stkR b i) r), x.length = b.form.widths.length := cor_wid hb h11 hr hi
            have hH3 : ∀ c, c < b.form.widths.length → nth (nth (footL (moreR (stkR b i) r)) ((footL (moreR (stkR b i) r)).length - 1)) c = nth (nth (footL b) ((footL b).length - 1)) c - nth (nth b.rows i).nums c + plusV r c := fun c hc => by unfold plusV; exact cor_foot hb h11 hr hi hc5 hc
            have hF3 : ∀ p c, p < (footL b).length → c < b.form.widths.length → 0 ≤ nth (nth (footL b) p) c ∧ nth (nth (footL b) p) c ≤ 120000 := fun p c hp hc => foot_bnd hb (by rw [← footL_len2]; exact hp) hc
            have hO3 : ∀ c, 0 ≤ nth (nth b.rows i).nums c ∧ nth (nth b.rows i).nums c < 10000 := fun c => num_bndR hb hi
            have hL3 : ∀ p c, 0 ≤ lessV b i p c ∧ lessV b i p c < 10000 := fun p c => by unfold lessV; have := hO3 c; split <;> omega
            have hP3 : ∀ c, 0 ≤ plusV r c ∧ plusV r c < 10000 := fun c => by unfold plusV; have := (small_of hb.form hr).2 c; split <;> omega
            refine t_region ?_
            refine r_load_ptrN rfl rfl (by decide) rfl rfl (by exact Nat.le_of_ble_eq_true rfl) ?_
            refine r_call (c_FootsOk hso) rfl rfl rfl rfl rfl ?_
            refine mvT rfl ?_
            refine r_extract rfl rfl ?_
            refine r_extract rfl rfl ?_
            refine asS rfl ?_
            refine asI rfl ?_
            refine r_nil ?_
            refine i_then ?_
            refine t_seq ?_
            refine t_region ?_
            refine r_load_ptrN rfl rfl (by decide) rfl rfl (by exact Nat.le_of_ble_eq_true rfl) ?_
            refine r_call (c_FootsOk hco) rfl rfl rfl rfl rfl ?_
            refine mvT rfl ?_
            refine r_extract rfl rfl ?_
            refine r_extract rfl rfl ?_
            refine asS rfl ?_
            refine asI rfl ?_
            refine r_nil ?_
            refine i_then ?_
            refine t_seq ?_
            refine t_seq ?_
            generalize hF : footL b = F at *
            generalize hG : footL (stkR b i) = G at *
            generalize hH : footL (moreR (stkR b i) r) = H at *
            refine t_region ?_
            refine mvI rfl ?_
            refine r_bin rfl rfl rfl ?_
            refine mvB rfl ?_
            apply r_guard (s := 167) rfl rfl rfl
            · intro hg; apply opT_of; (refine mvI rfl ?_); refine r_nil ?_; exact rfl
            · exact rfl
            · exact rfl
            apply r_guard (s := 167) rfl rfl rfl
            · intro hg; apply opT_strip (s := 168) rfl (by (rw [hg]; rfl)); apply opT_of; (refine r_bin rfl rfl rfl ?_); refine r_nil ?_; exact rfl
            · exact rfl
            · exact rfl
            refine r_or rfl rfl ?_
            refine mvB rfl ?_
            apply r_guard (s := 171) rfl rfl rfl
            · intro hg; apply opT_of; (refine mvI rfl ?_); refine r_nil ?_; exact rfl
            · exact rfl
            · exact rfl
            apply r_guard (s := 171) rfl rfl rfl
            · intro hg; apply opT_strip (s := 172) rfl (by (rw [hg]; rfl)); apply opT_of; (refine r_bin rfl rfl rfl ?_); refine r_nil ?_; exact rfl
            · exact rfl
            · exact rfl
            refine r_or rfl rfl ?_
            refine mvB rfl ?_
            apply r_guard (s := 175) rfl rfl rfl
            · intro hg; apply opT_of; (refine mvI rfl ?_); refine r_nil ?_; exact rfl
            · exact rfl
            · exact rfl
            apply r_guard (s := 175) rfl rfl rfl
            · intro hg; apply opT_strip (s := 176) rfl (by (rw [hg]; rfl)); apply opT_of; (refine r_bin rfl rfl rfl ?_); refine r_nil ?_; exact rfl
            · exact rfl
            · exact rfl
            refine r_or rfl rfl ?_
            refine mvB rfl ?_
            apply r_guard (s := 179) rfl rfl rfl
            · intro hg; apply opT_of; (refine mvS rfl ?_); refine r_nil ?_; exact rfl
            · exact rfl
            · exact rfl
            apply r_guard (s := 179) rfl rfl rfl
            · intro hg; apply opT_strip (s := 180) rfl (by (rw [hg]; rfl)); apply opT_of; (refine r_len rfl rfl rfl ?_); refine r_nil ?_; exact rfl
            · exact rfl
            · exact rfl
            apply r_guard (s := 179) rfl rfl rfl
            · intro hg; apply opT_of; (refine mvS rfl ?_); refine r_nil ?_; exact rfl
            · exact rfl
            · exact rfl
            apply r_guard (s := 179) rfl rfl rfl
            · intro hg; apply opT_strip (s := 182) rfl (by (rw [hg]; rfl)); apply opT_of; (refine r_len rfl rfl rfl ?_); refine r_nil ?_; exact rfl
            · exact rfl
            · exact rfl
            apply r_guard (s := 179) rfl rfl rfl
            · intro hg; apply opT_strip (s := 181) rfl (by (rw [hg]; rfl)); apply opT_strip (s := 183) rfl (by (rw [hg]; rfl)); apply opT_of; (refine r_bin rfl rfl rfl ?_); refine r_nil ?_; exact rfl
            · exact rfl
            · exact rfl
            refine r_or rfl rfl ?_
            refine mvB rfl ?_
            apply r_guard (s := 186) rfl rfl rfl
            · intro hg; apply opT_of; (refine mvS rfl ?_); refine r_nil ?_; exact rfl
            · exact rfl
            · exact rfl
            apply r_guard (s := 186) rfl rfl rfl
            · intro hg; apply opT_strip (s := 187) rfl (by (rw [hg]; rfl)); apply opT_of; (refine r_len rfl rfl rfl ?_); refine r_nil ?_; exact rfl
            · exact rfl
            · exact rfl
            apply r_guard (s := 186) rfl rfl rfl
            · intro hg; apply opT_of; (refine mvS rfl ?_); refine r_nil ?_; exact rfl
            · exact rfl
            · exact rfl
            apply r_guard (s := 186) rfl rfl rfl
            · intro hg; apply opT_strip (s := 189) rfl (by (rw [hg]; rfl)); apply opT_of; (refine r_len rfl rfl rfl ?_); refine r_nil ?_; exact rfl
            · exact rfl
            · exact rfl
            apply r_guard (s := 186) rfl rfl rfl
            · intro hg; apply opT_strip (s := 188) rfl (by (rw [hg]; rfl)); apply opT_strip (s := 190) rfl (by (rw [hg]; rfl)); apply opT_of; (refine r_bin rfl rfl rfl ?_); refine r_nil ?_; exact rfl
            · exact rfl
            · exact rfl
            refine r_or rfl rfl ?_
            refine mvB rfl ?_
            apply r_guard (s := 193) rfl rfl rfl
            · intro hg; apply opT_of; (refine r_field_ptr rfl rfl rfl rfl rfl (by decide) ?_); refine r_nil ?_; exact rfl
            · exact rfl
            · exact rfl
            apply r_guard (s := 193) rfl rfl rfl
            · intro hg; apply opT_strip (s := 194) rfl (by (rw [hg]; rfl)); apply opT_of; (refine r_load_ptrN rfl rfl (by decide) rfl rfl (by exact Nat.le_of_ble_eq_true rfl) ?_); refine r_nil ?_; exact rfl
            · exact rfl
            · exact rfl
            apply r_guard (s := 193) rfl rfl rfl
            · intro hg; apply opT_of; (refine mvS rfl ?_); refine r_nil ?_; exact rfl
            · exact rfl
            · exact rfl
            apply r_guard (s := 193) rfl rfl rfl
            · intro hg; apply opT_strip (s := 195) rfl (by (rw [hg]; rfl)); apply opT_strip (s := 196) rfl (by (rw [hg]; rfl)); apply opT_of; (refine r_call (c_colIs (by omega) hG2) rfl rfl rfl rfl rfl ?_); refine r_nil ?_; exact rfl
            · exact rfl
            · exact rfl
            apply r_guard (s := 193) rfl rfl rfl
            · intro hg; apply opT_strip (s := 197) rfl (by (rw [hg]; rfl)); apply opT_of; (refine r_not rfl ?_); refine r_nil ?_; exact rfl
            · exact rfl
            · exact rfl
            refine r_or rfl rfl ?_
            refine mvB rfl ?_
            apply r_guard (s := 200) rfl rfl rfl
            · intro hg; apply opT_of; (refine r_field_ptr rfl rfl rfl rfl rfl (by decide) ?_); refine r_nil ?_; exact rfl
            · exact rfl
            · exact rfl
            apply r_guard (s := 200) rfl rfl rfl
            · intro hg; apply opT_strip (s := 201) rfl (by (rw [hg]; rfl)); apply opT_of; (refine r_load_ptrN rfl rfl (by decide) rfl rfl (by exact Nat.le_of_ble_eq_true rfl) ?_); refine r_nil ?_; exact rfl
            · exact rfl
            · exact rfl
            apply r_guard (s := 200) rfl rfl rfl
            · intro hg; apply opT_of; (refine mvS rfl ?_); refine r_nil ?_; exact rfl
            · exact rfl
            · exact rfl
            apply r_guard (s := 200) rfl rfl rfl
            · intro hg; apply opT_strip (s := 202) rfl (by (rw [hg]; rfl)); apply opT_strip (s := 203) rfl (by (rw [hg]; rfl)); apply opT_of; (refine r_call (c_colIs (by omega) hH2) rfl rfl rfl rfl rfl ?_); refine r_nil ?_; exact rfl
            · exact rfl
            · exact rfl
            apply r_guard (s := 200) rfl rfl rfl
            · intro hg; apply opT_strip (s := 204) rfl (by (rw [hg]; rfl)); apply opT_of; (refine r_not rfl ?_); refine r_nil ?_; exact rfl
            · exact rfl
            · exact rfl
            refine r_or rfl rfl ?_
            refine r_nil ?_
            refine i_then ?_
            refine t_cond rfl (fun hc6 => ?_) (fun hc6 => ?_)
            ·
              refine t_seq ?_
              refine t_region ?_
              refine asB rfl ?_
              refine r_nil ?_
              refine i_then ?_
              refine t_ret ?_
              refine i_then_ret ?_
              refine i_rp1 rfl rfl ?_
              all_goals skip
              all_goals (exfalso; simp [hG1] at hc6; omega)
            ·
              refine t_skip ?_
              refine i_then ?_
              refine t_seq ?_
              refine t_seq ?_
              refine t_region ?_
              refine mvS rfl ?_
              refine r_len rfl rfl rfl ?_
              refine mvI rfl ?_
              refine r_nil ?_
              refine i_then ?_
              refine t_block ?_
              refine t_loop (fun (k : {k : Nat // k ≤ G.length}) => live [(7, Ty.ptr 8 0), (8, Ty.ptr 9 0), (13, Ty.sl RowE F), (16, Ty.int .i64 (i : Nat)), (17, Ty.ptr 18 0), (18, Ty.ptr 19 0), (19, Ty.ptr 20 0), (23, Ty.sl RowE H), (207, Ty.sl RowE G), (208, Ty.int .i64 G.length), (209, Ty.int .i64 (k.1 : Nat))] [(8, Cont.cells 27 (bokTys b)), (9, Cont.cells 66 (BRowE.tys r)), (18, Cont.cells 66 (BRowE.tys (nth b.rows i))), (19, Cont.cells 27 (bokTys (stkR b i))), (20, Cont.cells 27 (bokTys (moreR (stkR b i) r)))]) (fun k => G.length - k.1) (⟨0, Nat.zero_le _⟩) ?_ fun k => ?_
              · (refine Ent.mk' ?_ ?_ <;> (repeat' (first | exact allSub_zero | exact allTags_nil | refine allSub_succ' ?_ (Ty.sub_any _) | refine allSub_succ' ?_ (Ty.sub_refl _) | refine allTags_cons rfl (Cont.sub_refl _) ?_)))
              ·
                have hk := k.2
                refine t_seq ?_
                refine t_region ?_
                refine r_bin rfl rfl rfl ?_
                refine r_nil ?_
                refine i_then ?_
                refine t_seq ?_
                refine t_cond_dec rfl (fun hc7 => ?_) (fun hc7 => ?_)
                ·
                  refine t_skip ?_
                  refine i_then ?_
                  refine t_seq ?_
                  refine t_block ?_
                  refine t_seq ?_
                  have hkg : k.1 < G.length := by omega
                  have hrow := hG2 _ (nth_mem hkg)
                  refine t_region ?_
                  refine mvI rfl ?_
                  refine r_index_slN rfl rfl rfl rfl rfl rfl (by omega) ?_
                  refine r_load_pp rfl rfl rfl rfl ?_
                  refine asI rfl ?_
                  refine asS rfl ?_
                  refine r_nil ?_
                  refine i_then ?_
                  refine t_seq ?_
                  refine t_region ?_
                  refine mvS rfl ?_
                  refine r_len rfl rfl rfl ?_
                  refine mvI rfl ?_
                  refine r_nil ?_
                  refine i_then ?_
                  refine t_block ?_
                  refine t_loop (fun (c : {c : Nat // c ≤ b.form.widths.length}) => live [(7, Ty.ptr 8 0), (8, Ty.ptr 9 0), (13, Ty.sl RowE F), (16, Ty.int .i64 (i : Nat)), (17, Ty.ptr 18 0), (18, Ty.ptr 19 0), (19, Ty.ptr 20 0), (23, Ty.sl RowE H), (25, Ty.int .i64 (k.1 : Nat)), (207, Ty.sl RowE G), (208, Ty.int .i64 G.length), (209, Ty.int .i64 (k.1 : Nat)), (214, Ty.sl I64 (nth G k.1)), (215, Ty.int .i64 b.form.widths.length), (216, Ty.int .i64 (c.1 : Nat))] [(8, Cont.cells 27 (bokTys b)), (9, Cont.cells 66 (BRowE.tys r)), (18, Cont.cells 66 (BRowE.tys (nth b.rows i))), (19, Cont.cells 27 (bokTys (stkR b i))), (20, Cont.cells 27 (bokTys (moreR (stkR b i) r)))]) (fun c => b.form.widths.length - c.1) (⟨0, Nat.zero_le _⟩) ?_ fun c => ?_
                  · (refine Ent.mk' ?_ ?_ <;> (repeat' (first | exact allSub_zero | exact allTags_nil | refine allSub_succ' ?_ (Ty.sub_any _) | refine allSub_succ' ?_ (Ty.sub_refl _) | refine allTags_cons rfl (Cont.sub_refl _) ?_ | refine allSub_succ' ?_ ?_)))
                    all_goals exact Ty.sub_int (by rw [hrow])
                  ·
                    have hcl := c.2
                    refine t_seq ?_
                    refine t_region ?_
                    refine r_bin rfl rfl rfl ?_
                    refine r_nil ?_
                    refine i_then ?_
                    refine t_seq ?_
                    refine t_cond_dec rfl (fun hc8 => ?_) (fun hc8 => ?_)
                    ·
                      refine t_skip ?_
                      refine i_then ?_
                      refine t_seq ?_
                      refine t_block ?_
                      refine t_seq ?_
                      have hcc : c.1 < b.form.widths.length := by omega
                      have hfr := hfl _ (nth_mem (xs := F) (k := k.1) (by omega))
                      have hg3 := hG3 k.1 c.1 (by omega) hcc
                      have hf3 := hF3 k.1 c.1 (by omega) hcc
                      have ho3 := hO3 c.1
                      have hl3 := hL3 k.1 c.1
                      have hml72 := mul_72 hb.form (p := k.1) (by omega)
                      refine t_region ?_
                      refine mvI rfl ?_
                      refine r_index_slN rfl rfl rfl rfl rfl rfl (by omega) ?_
                      refine r_load_pp rfl rfl rfl rfl ?_
                      refine asI rfl ?_
                      refine asI rfl ?_
                      refine r_nil ?_
                      refine i_then ?_
                      refine t_seq ?_
                      refine t_region ?_
                      refine asI rfl ?_
                      refine r_nil ?_
                      refine i_then ?_
                      refine t_join (J := live [(7, Ty.ptr 8 0), (8, Ty.ptr 9 0), (13, Ty.sl RowE F), (16, Ty.int .i64 (i : Nat)), (17, Ty.ptr 18 0), (18, Ty.ptr 19 0), (19, Ty.ptr 20 0), (23, Ty.sl RowE H), (25, Ty.int .i64 (k.1 : Nat)), (27, Ty.int .i64 (c.1 : Nat)), (28, Ty.int .i64 (nth (nth G k.1) c.1)), (29, Ty.int .i64 (lessV b i k.1 c.1)), (207, Ty.sl RowE G), (208, Ty.int .i64 G.length), (209, Ty.int .i64 (k.1 : Nat)), (214, Ty.sl I64 (nth G k.1)), (215, Ty.int .i64 b.form.widths.length), (216, Ty.int .i64 (c.1 : Nat))] [(8, Cont.cells 27 (bokTys b)), (9, Cont.cells 66 (BRowE.tys r)), (18, Cont.cells 66 (BRowE.tys (nth b.rows i))), (19, Cont.cells 27 (bokTys (stkR b i))), (20, Cont.cells 27 (bokTys (moreR (stkR b i) r)))]) ?_ ?_
                      ·
                        refine t_seq ?_
                        refine t_region ?_
                        refine mvI rfl ?_
                        refine mvI rfl ?_
                        refine r_add rfl rfl (by omega) (by omega) ?_
                        refine r_field_ptr rfl rfl rfl rfl rfl (by decide) ?_
                        refine r_field_ptr rfl rfl rfl rfl rfl (by decide) ?_
                        refine r_load_ptr rfl rfl (by decide) rfl rfl rfl ?_
                        refine r_mul rfl rfl (by omega) (by omega) ?_
                        refine r_bin rfl rfl rfl ?_
                        refine r_nil ?_
                        refine i_then ?_
                        refine t_cond_dec rfl (fun hc9 => ?_) (fun hc9 => ?_)
                        ·
                          refine t_region ?_
                          refine r_field_ptr rfl rfl rfl rfl rfl (by decide) ?_
                          refine r_load_ptr rfl rfl (by decide) rfl rfl rfl ?_
                          refine mvI rfl ?_
                          refine r_index_slN rfl rfl rfl rfl rfl rfl (by omega) ?_
                          refine r_load_pp rfl rfl rfl rfl ?_
                          refine asI rfl ?_
                          refine r_nil ?_
                          refine i_join ?_
                          (refine Ent.mk' ?_ ?_ <;> (repeat' (first | exact allSub_zero | exact allTags_nil | refine allSub_succ' ?_ (Ty.sub_any _) | refine allSub_succ' ?_ (Ty.sub_refl _) | refine allTags_cons rfl (Cont.sub_refl _) ?_ | refine allSub_succ' ?_ ?_)))
                          all_goals exact Ty.sub_int (less_yes hc9)
                        ·
                          refine t_skip ?_
                          refine i_join ?_
                          (refine Ent.mk' ?_ ?_ <;> (repeat' (first | exact allSub_zero | exact allTags_nil | refine allSub_succ' ?_ (Ty.sub_any _) | refine allSub_succ' ?_ (Ty.sub_refl _) | refine allTags_cons rfl (Cont.sub_refl _) ?_ | refine allSub_succ' ?_ ?_)))
                          all_goals exact Ty.sub_int (less_no hc9)
                      ·
                        refine t_seq ?_
                        refine t_region ?_
                        refine mvI rfl ?_
                        refine mvS rfl ?_
                        refine mvI rfl ?_
                        refine r_index_slN rfl rfl rfl rfl rfl rfl (by omega) ?_
                        refine r_load_pp rfl rfl rfl rfl ?_
                        refine mvI rfl ?_
                        refine r_index_slN rfl rfl rfl rfl rfl rfl (by omega) ?_
                        refine r_load_pp rfl rfl rfl rfl ?_
                        refine mvI rfl ?_
                        refine r_sub rfl rfl (by omega) (by omega) ?_
                        refine r_bin rfl rfl rfl ?_
                        refine r_nil ?_
                        refine i_then ?_
                        refine t_cond_ndec rfl (fun hc10 => ?_) (fun hc10 => ?_)
                        ·
                          refine t_seq ?_
                          refine t_region ?_
                          refine asB rfl ?_
                          refine r_nil ?_
                          refine i_then ?_
                          refine t_ret ?_
                          refine i_block_ret ?_
                          refine i_then_ret ?_
                          refine i_then_ret ?_
                          refine i_block_ret ?_
                          refine i_block_ret ?_
                          refine i_then_ret ?_
                          refine i_then_ret ?_
                          refine i_block_ret ?_
                          refine i_then_ret ?_
                          refine i_rp1 rfl rfl ?_
                          all_goals skip
                          all_goals exact absurd hg3 hc10
                        ·
                          refine t_skip ?_
                          refine i_block ?_
                          refine i_then ?_
                          refine t_region ?_
                          refine r_add rfl rfl (by omega) (by omega) ?_
                          refine mvI rfl ?_
                          refine r_nil ?_
                          refine i_round (⟨c.1 + 1, by omega⟩) ?_ (by show b.form.widths.length - (c.1 + 1) < b.form.widths.length - c.1; omega)
                          (refine Ent.mk' ?_ ?_ <;> (repeat' (first | exact allSub_zero | exact allTags_nil | refine allSub_succ' ?_ (Ty.sub_any _) | refine allSub_succ' ?_ (Ty.sub_refl _) | refine allTags_cons rfl (Cont.sub_refl _) ?_)))
                          all_goals skip
                    ·
                      refine t_exit ?_
                      refine i_then_exit ?_
                      refine i_then_exit ?_
                      refine i_block_exit rfl ?_
                      refine i_block ?_
                      refine i_then ?_
                      refine t_region ?_
                      refine r_add rfl rfl (by omega) (by omega) ?_
                      refine mvI rfl ?_
                      refine r_nil ?_
                      refine i_round (⟨k.1 + 1, by omega⟩) ?_ (by show G.length - (k.1 + 1) < G.length - k.1; omega)
                      (refine Ent.mk' ?_ ?_ <;> (repeat' (first | exact allSub_zero | exact allTags_nil | refine allSub_succ' ?_ (Ty.sub_any _) | refine allSub_succ' ?_ (Ty.sub_refl _) | refine allTags_cons rfl (Cont.sub_refl _) ?_)))
                      all_goals skip
                ·
                  refine t_exit ?_
                  refine i_then_exit ?_
                  refine i_then_exit ?_
                  refine i_block_exit rfl ?_
                  refine i_then ?_
                  refine t_seq ?_
                  refine t_seq ?_
                  have hlast := hH2 _ (nth_mem (xs := H) (k := H.length - 1) (by omega))
                  have hlastF := hfl _ (nth_mem (xs := F) (k := F.length - 1) (by omega))
                  refine t_region ?_
                  refine mvS rfl ?_
                  refine mvS rfl ?_
                  refine r_len rfl rfl rfl ?_
                  refine r_sub rfl rfl (by omega) (by omega) ?_
                  refine r_index_slN (i := H.length - 1) rfl (congrArg (Ty.int .i64) (show (H.length : Int) - 1 = ((H.length - 1 : Nat) : Int) by omega)) rfl rfl rfl rfl (by omega) ?_
                  refine r_load_pp rfl rfl rfl rfl ?_
                  refine r_len rfl rfl rfl ?_
                  refine mvI rfl ?_
                  refine r_nil ?_
                  refine i_then ?_
                  refine t_block ?_
                  refine t_loop (fun (c : {c : Nat // c ≤ b.form.widths.length}) => live [(7, Ty.ptr 8 0), (8, Ty.ptr 9 0), (13, Ty.sl RowE F), (16, Ty.int .i64 (i : Nat)), (17, Ty.ptr 18 0), (18, Ty.ptr 19 0), (19, Ty.ptr 20 0), (252, Ty.sl I64 (nth H (H.length - 1))), (253, Ty.int .i64 b.form.widths.length), (254, Ty.int .i64 (c.1 : Nat))] [(8, Cont.cells 27 (bokTys b)), (9, Cont.cells 66 (BRowE.tys r)), (18, Cont.cells 66 (BRowE.tys (nth b.rows i))), (19, Cont.cells 27 (bokTys (stkR b i))), (20, Cont.cells 27 (bokTys (moreR (stkR b i) r)))]) (fun c => b.form.widths.length - c.1) (⟨0, Nat.zero_le _⟩) ?_ fun c => ?_
                  · (refine Ent.mk' ?_ ?_ <;> (repeat' (first | exact allSub_zero | exact allTags_nil | refine allSub_succ' ?_ (Ty.sub_any _) | refine allSub_succ' ?_ (Ty.sub_refl _) | refine allTags_cons rfl (Cont.sub_refl _) ?_ | refine allSub_succ' ?_ ?_)))
                    all_goals exact Ty.sub_int (by rw [hlast])
                  ·
                    have hcl := c.2
                    refine t_seq ?_
                    refine t_region ?_
                    refine r_bin rfl rfl rfl ?_
                    refine r_nil ?_
                    refine i_then ?_
                    refine t_seq ?_
                    refine t_cond_dec rfl (fun hc11 => ?_) (fun hc11 => ?_)
                    ·
                      refine t_skip ?_
                      refine i_then ?_
                      refine t_seq ?_
                      refine t_block ?_
                      refine t_seq ?_
                      have hcc : c.1 < b.form.widths.length := by omega
                      have hg3 := hH3 c.1 hcc
                      have hf3 := hF3 (F.length - 1) c.1 (by omega) hcc
                      have ho3 := hO3 c.1
                      have hp3 := hP3 c.1
                      refine t_region ?_
                      refine mvI rfl ?_
                      refine r_index_slN rfl rfl rfl rfl rfl rfl (by omega) ?_
                      refine r_load_pp rfl rfl rfl rfl ?_
                      refine asI rfl ?_
                      refine asI rfl ?_
                      refine r_nil ?_
                      refine i_then ?_
                      refine t_seq ?_
                      refine t_region ?_
                      refine asI rfl ?_
                      refine r_nil ?_
                      refine i_then ?_
                      refine t_join (J := live [(7, Ty.ptr 8 0), (8, Ty.ptr 9 0), (13, Ty.sl RowE F), (16, Ty.int .i64 (i : Nat)), (17, Ty.ptr 18 0), (18, Ty.ptr 19 0), (19, Ty.ptr 20 0), (30, Ty.int .i64 (c.1 : Nat)), (31, Ty.int .i64 (nth (nth H (H.length - 1)) c.1)), (32, Ty.int .i64 (plusV r c.1)), (252, Ty.sl I64 (nth H (H.length - 1))), (253, Ty.int .i64 b.form.widths.length), (254, Ty.int .i64 (c.1 : Nat))] [(8, Cont.cells 27 (bokTys b)), (9, Cont.cells 66 (BRowE.tys r)), (18, Cont.cells 66 (BRowE.tys (nth b.rows i))), (19, Cont.cells 27 (bokTys (stkR b i))), (20, Cont.cells 27 (bokTys (moreR (stkR b i) r)))]) ?_ ?_
                      ·
                        refine t_seq ?_
                        refine t_region ?_
                        refine r_field_ptr rfl rfl rfl rfl rfl (by decide) ?_
                        refine r_load_ptr rfl rfl (by decide) rfl rfl rfl ?_
                        refine r_not rfl ?_
                        refine r_nil ?_
                        refine i_then ?_
                        refine t_cond rfl (fun hc12 => ?_) (fun hc12 => ?_)
                        ·
                          refine t_region ?_
                          refine r_field_ptr rfl rfl rfl rfl rfl (by decide) ?_
                          refine r_load_ptr rfl rfl (by decide) rfl rfl rfl ?_
                          refine mvI rfl ?_
                          refine r_index_slN rfl rfl rfl rfl rfl rfl (by omega) ?_
                          refine r_load_pp rfl rfl rfl rfl ?_
                          refine asI rfl ?_
                          refine r_nil ?_
                          refine i_join ?_
                          (refine Ent.mk' ?_ ?_ <;> (repeat' (first | exact allSub_zero | exact allTags_nil | refine allSub_succ' ?_ (Ty.sub_any _) | refine allSub_succ' ?_ (Ty.sub_refl _) | refine allTags_cons rfl (Cont.sub_refl _) ?_ | refine allSub_succ' ?_ ?_)))
                          all_goals exact Ty.sub_int (plus_yes hc12)
                        ·
                          refine t_skip ?_
                          refine i_join ?_
                          (refine Ent.mk' ?_ ?_ <;> (repeat' (first | exact allSub_zero | exact allTags_nil | refine allSub_succ' ?_ (Ty.sub_any _) | refine allSub_succ' ?_ (Ty.sub_refl _) | refine allTags_cons rfl (Cont.sub_refl _) ?_ | refine allSub_succ' ?_ ?_)))
                          all_goals exact Ty.sub_int (plus_no hc12)
                      ·
                        refine t_seq ?_
                        refine t_draw mixed rfl ?_
                        refine mvI rfl ?_
                        refine mvS rfl ?_
                        refine mvS rfl ?_
                        refine r_len rfl rfl rfl ?_
                        refine r_sub rfl rfl (by omega) (by omega) ?_
                        refine r_index_slN (i := F.length - 1) rfl (congrArg (Ty.int .i64) (show (F.length : Int) - 1 = ((F.length - 1 : Nat) : Int) by omega)) rfl rfl rfl rfl (by omega) ?_
                        refine r_load_pp rfl rfl rfl rfl ?_
                        refine mvI rfl ?_
                        refine r_index_slN rfl rfl rfl rfl rfl rfl (by omega) ?_
                        refine r_load_pp rfl rfl rfl rfl ?_
                        refine r_field_ptr rfl rfl rfl rfl rfl (by decide) ?_
                        refine r_load_ptr rfl rfl (by decide) rfl rfl rfl ?_
                        refine mvI rfl ?_
                        refine r_index_slN rfl rfl rfl rfl rfl rfl (by omega) ?_
                        refine r_load_pp rfl rfl rfl rfl ?_
                        refine r_sub rfl rfl (by omega) (by omega) ?_
                        refine mvI rfl ?_
                        refine r_add rfl rfl (by omega) (by omega) ?_
                        refine r_bin rfl rfl rfl ?_
                        refine r_nil ?_
                        refine ⟨by kernel_rfl, ?_⟩
                        refine i_then ?_
                        refine t_cond_ndec rfl (fun hc13 => ?_) (fun hc13 => ?_)
                        ·
                          refine t_seq ?_
                          refine t_region ?_
                          refine asB rfl ?_
                          refine r_nil ?_
                          refine i_then ?_
                          refine t_ret ?_
                          refine i_block_ret ?_
                          refine i_then_ret ?_
                          refine i_then_ret ?_
                          refine i_block_ret ?_
                          refine i_then_ret ?_
                          refine i_rp1 rfl rfl ?_
                          all_goals skip
                          all_goals exact absurd hg3 hc13
                        ·
                          refine t_skip ?_
                          refine i_block ?_
                          refine i_then ?_
                          refine t_region ?_
                          refine r_add rfl rfl (by omega) (by omega) ?_
                          refine mvI rfl ?_
                          refine r_nil ?_
                          refine i_round (⟨c.1 + 1, by omega⟩) ?_ (by show b.form.widths.length - (c.1 + 1) < b.form.widths.length - c.1; omega)
                          (refine Ent.mk' ?_ ?_ <;> (repeat' (first | exact allSub_zero | exact allTags_nil | refine allSub_succ' ?_ (Ty.sub_any _) | refine allSub_succ' ?_ (Ty.sub_refl _) | refine allTags_cons rfl (Cont.sub_refl _) ?_)))
                          all_goals skip
                    ·
                      refine t_exit ?_
                      refine i_then_exit ?_
                      refine i_then_exit ?_
                      refine i_block_exit rfl ?_
                      refine i_then ?_
                      refine t_seq ?_
                      refine t_region ?_
                      refine r_load_ptrN rfl rfl (by decide) rfl rfl (by exact Nat.le_of_ble_eq_true rfl) ?_
                      refine r_load_ptrN rfl rfl (by decide) rfl rfl (by exact Nat.le_of_ble_eq_true rfl) ?_
                      refine r_call (c_DifferIs hb hso (dif_str hb hi hc5)) rfl rfl rfl rfl rfl ?_
                      refine mvT rfl ?_
                      refine r_extract rfl rfl ?_
                      refine r_extract rfl rfl ?_
                      refine asS rfl ?_
                      refine asI rfl ?_
                      refine r_nil ?_
                      refine i_then ?_
                      refine t_seq ?_
                      refine t_region ?_
                      refine r_load_ptrN rfl rfl (by decide) rfl rfl (by exact Nat.le_of_ble_eq_true rfl) ?_
                      refine r_load_ptrN rfl rfl (by decide) rfl rfl (by exact Nat.le_of_ble_eq_true rfl) ?_
                      refine r_call (c_DifferIs hco hb (dif_cor hb h11 hr hi hc5)) rfl rfl rfl rfl rfl ?_
                      refine mvT rfl ?_
                      refine r_extract rfl rfl ?_
                      refine r_extract rfl rfl ?_
                      refine asS rfl ?_
                      refine asI rfl ?_
                      refine r_nil ?_
                      refine i_then ?_
                      refine t_seq ?_
                      refine t_region ?_
                      refine r_load_ptrN rfl rfl (by decide) rfl rfl (by exact Nat.le_of_ble_eq_true rfl) ?_
                      refine mvI rfl ?_
                      refine r_call (c_StrikeIs hso (str_stk hb hi)) rfl rfl rfl rfl rfl ?_
                      refine mvT rfl ?_
                      refine r_extract rfl rfl ?_
                      refine r_extract rfl rfl ?_
                      refine asI rfl ?_
                      refine r_nil ?_
                      refine i_then ?_
                      refine t_seq ?_
                      refine t_region ?_
                      refine mvI rfl ?_
                      refine r_bin rfl rfl rfl ?_
                      refine mvB rfl ?_
                      apply r_guard (s := 307) rfl rfl rfl
                      · intro hg; apply opT_of; (refine mvI rfl ?_); refine r_nil ?_; exact rfl
                      · exact rfl
                      · exact rfl
                      apply r_guard (s := 307) rfl rfl rfl
                      · intro hg; apply opT_strip (s := 308) rfl (by exact hg); apply opT_of; (refine r_bin rfl rfl rfl ?_); refine r_nil ?_; exact rfl
                      · exact rfl
                      · exact rfl
                      refine r_and rfl rfl ?_
                      refine mvB rfl ?_
                      apply r_guard (s := 311) rfl rfl rfl
                      · intro hg; apply opT_of; (refine mvI rfl ?_); refine r_nil ?_; exact rfl
                      · exact rfl
                      · exact rfl
                      apply r_guard (s := 311) rfl rfl rfl
                      · intro hg; apply opT_strip (s := 312) rfl (by exact hg); apply opT_of; (refine r_bin rfl rfl rfl ?_); refine r_nil ?_; exact rfl
                      · exact rfl
                      · exact rfl
                      refine r_and rfl rfl ?_
                      refine mvB rfl ?_
                      apply r_guard (s := 315) rfl rfl rfl
                      · intro hg; apply opT_of; (refine mvS rfl ?_); refine r_nil ?_; exact rfl
                      · exact rfl
                      · exact rfl
                      apply r_guard (s := 315) rfl rfl rfl
                      · intro hg; apply opT_of; (refine mvI rfl ?_); refine r_nil ?_; exact rfl
                      · exact rfl
                      · exact rfl
                      apply r_guard (s := 315) rfl rfl rfl
                      · intro hg; apply opT_strip (s := 317) rfl (by exact hg); apply opT_of; (refine r_buildSlice (E := I64) (xs := [_]) rfl rfl rfl rfl rfl (by decide) (by decide) (by repeat (first | exact (Parts.nil : Parts _ _ [] _) | (show Parts _ _ ((_, _) :: _) _; apply Parts.one; (· exact (rfl : _ = Ty.int _ _)); (· exact rfl)))) (by exact rfl) rfl ?_); refine r_nil ?_; exact rfl
                      · exact rfl
                      · exact rfl
                      apply r_guard (s := 315) rfl rfl rfl
                      · intro hg; apply opT_strip (s := 316) rfl (by exact hg); apply opT_strip (s := 318) rfl (by exact hg); apply opT_of; (refine r_call (c_Equal_int _ _) rfl rfl rfl rfl rfl ?_); refine r_nil ?_; exact rfl
                      · exact rfl
                      · exact rfl
                      refine r_and rfl rfl ?_
                      refine mvB rfl ?_
                      apply r_guard (s := 321) rfl rfl rfl
                      · intro hg; apply opT_of; (refine mvS rfl ?_); refine r_nil ?_; exact rfl
                      · exact rfl
                      · exact rfl
                      apply r_guard (s := 321) rfl rfl rfl
                      · intro hg; apply opT_of; (refine mvI rfl ?_); refine r_nil ?_; exact rfl
                      · exact rfl
                      · exact rfl
                      apply r_guard (s := 321) rfl rfl rfl
                      · intro hg; apply opT_of; (refine r_field_ptr rfl rfl rfl rfl rfl (by decide) ?_); refine r_nil ?_; exact rfl
                      · exact rfl
                      · exact rfl
                      apply r_guard (s := 321) rfl rfl rfl
                      · intro hg; apply opT_strip (s := 324) rfl (by (rw [hg]; rfl)); apply opT_of; (refine r_load_ptr rfl rfl (by decide) rfl rfl rfl ?_); refine r_nil ?_; exact rfl
                      · exact rfl
                      · exact rfl
                      apply r_guard (s := 321) rfl rfl rfl
                      · intro hg; apply opT_strip (s := 325) rfl (by (rw [hg]; rfl)); apply opT_of; (refine r_len rfl rfl rfl ?_); refine r_nil ?_; exact rfl
                      · exact rfl
                      · exact rfl
                      apply r_guard (s := 321) rfl rfl rfl
                      · intro hg; apply opT_strip (s := 323) rfl (by (rw [hg]; rfl)); apply opT_strip (s := 326) rfl (by (rw [hg]; rfl)); apply opT_of; (refine r_buildSlice (E := I64) (xs := [_, _]) rfl rfl rfl rfl rfl (by decide) (by decide) (by repeat (first | exact (Parts.nil : Parts _ _ [] _) | (show Parts _ _ ((_, _) :: _) _; apply Parts.one; (· exact (rfl : _ = Ty.int _ _)); (· exact rfl)))) (by exact rfl) rfl ?_); refine r_nil ?_; exact rfl
                      · exact rfl
                      · exact rfl
                      apply r_guard (s := 321) rfl rfl rfl
                      · intro hg; apply opT_strip (s := 322) rfl (by (rw [hg]; rfl)); apply opT_strip (s := 327) rfl (by (rw [hg]; rfl)); apply opT_of; (refine r_call (c_Equal_int _ _) rfl rfl rfl rfl rfl ?_); refine r_nil ?_; exact rfl
                      · exact rfl
                      · exact rfl
                      refine r_and rfl rfl ?_
                      refine mvB rfl ?_
                      apply r_guard (s := 330) rfl rfl rfl
                      · intro hg; apply opT_of; (refine r_call c_awake rfl rfl rfl rfl rfl ?_); refine r_nil ?_; exact rfl
                      · exact rfl
                      · exact rfl
                      refine r_and rfl rfl ?_
                      refine asB rfl ?_
                      refine r_nil ?_
                      refine i_then ?_
                      refine t_ret ?_
                      refine i_rp1 rfl rfl ?_
                      all_goals skip
                      all_goals exact ret_eq rfl rfl (congrArg Ty.bool (by simp))
end Go.Proofs.YtjjndkenddigiaaGreatDoor

namespace Go.T
open Go Go.RowKit Go.ChangeShapes Go.WideShapes Go.ChangeAt
def pubs : Tags := fun _ => none
theorem wf_pubs (w : World) (h : Amb w pubs) : Wf w pubs := ⟨fun _ _ h => (by cases h), fun _ _ _ _ h => (by cases h), h⟩
theorem pubs_zero : ∀ b t, pubs b = some t → t = 0 := fun _ _ h => by cases h
structure Rd {α : Type} (P : Program) (e : TypeId) (E : El α) : Prop where
  size : P.cellsOf e = E.size
  pos : 0 < E.size
  rd : ∀ {H : Type} {enc : TypeId × Value → H} {w : World} {base : Nat} {held : Bool} {n : Nat} {cs : List Value} {y : DataW H × List MemPlace}, DataW.trod enc P w base (fun _ => true) held n e cs = some y → ∃ x, dens w pubs (E.tys x) cs
section
variable {H : Type} {enc : TypeId × Value → H} {P : Program} {w : World} {base : Nat} {held : Bool} {α : Type} {E : El α} {t e : TypeId} {n : Nat} {cs : List Value} {y : DataW H × List MemPlace}
theorem rd_sl (hR : Rd P e E) (ht : P.underlying t = some (.slice e)) (h : DataW.trod enc P w base (fun _ => true) held n t cs = some y) : ∃ v xs, cs = [v] ∧ (Ty.sl E xs).den w pubs v := by
  rcases Go.Deep.open_slice ht h with ⟨rfl, _⟩ | ⟨a, len, cap, m, k, D, Pl, rfl, _, hl, hm, hmm, _, hel⟩
  · exact ⟨_, [], rfl, none, 0, rfl, Nat.le_refl _, Nat.zero_le _, fun h => absurd h (Nat.lt_irrefl _)⟩
  have hlm : len ≤ m := by rw [hmm]; simpa using hl
  have hX : ∀ i : Fin len, ∃ x : α, ∃ cs', w.cells? base (a.add (i.1 * P.cellsOf e)) (P.cellsOf e) = some cs' ∧ dens w pubs (E.tys x) cs' := fun i => by
    obtain ⟨cs', h1, h2⟩ := hel i.1 (Nat.lt_of_lt_of_le i.2 hlm)
    obtain ⟨x, hx⟩ := hR.rd h2
    exact ⟨x, cs', h1, hx⟩
  let X : Fin len → α := fun i => (hX i).choose
  have hXs : ∀ i : Fin len, ∃ cs', w.cells? base (a.add (i.1 * P.cellsOf e)) (P.cellsOf e) = some cs' ∧ dens w pubs (E.tys (X i)) cs' := fun i => (hX i).choose_spec
  have hlen : (List.ofFn X).length = len := by simp
  refine ⟨_, List.ofFn X, rfl, some a, cap, by rw [hlen], by rw [hlen]; exact hl, hm, fun h0 => ?_⟩
  rw [hlen] at h0
  have hcell : ∀ (i : Fin len) (j : Nat) (u : Ty), (E.tys (X i))[j]? = some u → ∃ v, w.cell? (a.add (i.1 * E.size + j)) = some v ∧ u.den w pubs v := fun i j u hu => by
    obtain ⟨cs', h1, h2⟩ := hXs i
    obtain ⟨v, hv, hd⟩ := dens_get h2 j u hu
    obtain ⟨_, g1, g2⟩ := World.cells?_some h1
    have hj : j < P.cellsOf e := by
      rw [hR.size, ← E.len (X i)]
      exact (List.getElem?_eq_some_iff.1 hu).1
    refine ⟨v, ?_, hd⟩
    have := g2 j hj
    rw [Go.Deep.add_add, hv, hR.size] at this
    exact this
  have hsz := hR.pos
  have hfirst : ∃ v, w.cell? (a.add 0) = some v := by
    obtain ⟨u, hu⟩ : ∃ u, (E.tys (X ⟨0, h0⟩))[0]? = some u := ⟨_, List.getElem?_eq_getElem (by rw [E.len]; exact hsz)⟩
    obtain ⟨v, hv, _⟩ := hcell ⟨0, h0⟩ 0 u hu
    exact ⟨v, by simpa using hv⟩
  obtain ⟨b, off, sp⟩ := a
  obtain ⟨v0, hv0⟩ := hfirst
  have hsp : sp = none := by simpa [Addr.add] using World.cell?_spot hv0
  subst hsp
  have hb : b < w.heap.size := by
    obtain ⟨cs', h1, _⟩ := hXs ⟨0, h0⟩
    have := World.cells?_block h1 (by rw [hR.size]; exact hsz)
    simpa [Addr.add] using this
  refine ⟨b, off, rfl, rfl, hb, fun i u hu => ?_⟩
  have hi : i < len * E.size := by
    have := (List.getElem?_eq_some_iff.1 hu).1
    rw [flat_len, hlen] at this; exact this
  have hk : i / E.size < len := Nat.div_lt_of_lt_mul (by rw [Nat.mul_comm]; exact hi)
  have hj : i % E.size < E.size := Nat.mod_lt _ hsz
  have hij : i / E.size * E.size + i % E.size = i := by rw [Nat.mul_comm]; exact Nat.div_add_mod i E.size
  have hu2 := hu
  rw [← hij, flat_get E _ _ _ (by rw [hlen]; exact hk) hj, List.getElem?_ofFn, dif_pos hk] at hu2
  obtain ⟨v, hv, hd⟩ := hcell ⟨i / E.size, hk⟩ (i % E.size) u hu2
  refine ⟨v, ?_, hd⟩
  rw [← Go.WideShapes.add_plain]
  rw [hij] at hv
  exact hv
theorem rd_sl1 {c : Value} (hR : Rd P e E) (ht : P.underlying t = some (.slice e)) (h : DataW.trod enc P w base (fun _ => true) held n t [c] = some y) : ∃ xs, (Ty.sl E xs).den w pubs c := by
  obtain ⟨v, xs, e, hd⟩ := rd_sl hR ht h
  exact ⟨xs, by rw [show c = v by simpa using e]; exact hd⟩
end
section
variable {w w' : World} {S K : Nat → Prop} {M' : Tags}
theorem le_block (le : Le S K w pubs w' M') {b : Nat} (hb : b < w.heap.size) : w'.heap[b]? = w.heap[b]? := (le.pub b hb rfl).2
theorem le_same (le : Le S K w pubs w' M') {p : MemPlace} (hp : p.block < w.heap.size) : w.sameAt w' p := by
  cases p with
  | cell b o => exact World.cell?_of_block (w := w) (le_block le hp)
  | map b => exact le_block le hp
theorem le_kept (le : Le S K w pubs w' M') (may : MemPlace → Prop) : w.keptBut w' may := by
  refine ⟨le.os, le.out, fun i hi => ?_⟩
  have e := le_block le hi
  rw [e]
  split
  · rename_i h1 h2
    rw [h1] at h2
    simp only [Option.some.injEq, Obj.cells.injEq] at h2
    obtain ⟨rfl, rfl, rfl⟩ := h2
    exact ⟨rfl, rfl, rfl, fun _ _ => rfl⟩
  · rename_i h1 h2
    rw [h1] at h2
    simp only [Option.some.injEq, Obj.map.injEq] at h2
    exact Or.inr ⟨h2.1.symm, h2.2.symm⟩
  · rfl
theorem le_frozen (le : Le S K w pubs w' M') {a : Addr} (ha : a.block < w.heap.size) : w'.frozen? a = w.frozen? a := by
  unfold World.frozen?
  rw [le_block le ha]
end
section
variable {H : Type} {enc : TypeId × Value → H} {P : Program}
theorem trodAll_stays (hl : laidOutB P = true) {w w' : World} {sp : Nat → Bool} : ∀ {ts : List TypeId} {vs : List Value} {ds : List (DataW H)} {ps : List MemPlace}, (∀ t ∈ ts, P.readableRec t = true ∧ t < P.types.size) →
    DataW.TrodAll enc P w 0 (fun _ => true) true ts vs ds ps → (∀ p ∈ ps, w.sameAt w' p) → (∀ p ∈ ps, sp p.block = true) → DataW.TrodAll enc P w' 0 sp true ts vs ds ps
  | [], [], [], _, _, h, _, _ => h
  | t :: ts, v :: vs, d :: ds, _, ht, ⟨p, q, h1, h2, e⟩, hs, hsp => by
    subst e
    have h0 := ht t List.mem_cons_self
    exact ⟨p, q, Go.WideElems.Trod_stays hl h0.1 h0.2 h1 (fun x hx => hs x (List.mem_append_left _ hx)) (fun x hx => hsp x (List.mem_append_left _ hx)),
      trodAll_stays hl (fun t h => ht t (List.mem_cons_of_mem _ h)) h2 (fun x hx => hs x (List.mem_append_right _ hx)) (fun x hx => hsp x (List.mem_append_right _ hx)), rfl⟩
theorem post_true {f : Func} {s : ChangeSpec} {apart fresh handsOn again : Bool} {W W' : World} {args : Array Value} {ds : List (DataW H)} {before : List MemPlace} {S K : Nat → Prop} {M' : Tags}
    (hl : laidOutB P = true) (hv : s.vars = []) (hrd : ∀ t ∈ f.params.toList, P.readableRec t = true ∧ t < P.types.size) {tb : TypeId} (htb : P.underlying tb = some .bool) (hrt : f.resultTypes = #[tb])
    (hW : DataW.Whole enc P f.params.toList s.vars apart W args.toList ds [] before) (hres : (s.fn H (ds ++ [])).results = [.lit (.bool true)]) (hargs : (s.fn H (ds ++ [])).args = ds) (hvars : (s.fn H (ds ++ [])).vars = [])
    (le : Le S K W pubs W' M') : s.post enc P f apart fresh handsOn again W args (.bool true) W' := by
  have hW0 := hW
  obtain ⟨p, q, hA, hV, hb, hfz, hn⟩ := hW0
  have hlt := DataW.TrodAll.lt hA
  have hq : q = [] := by rw [hv] at hV; exact (trodVars_none hV).2
  subst hq
  have hbp : before = p := by rw [hb]; simp
  have hre : ∀ (b : Nat) (sp : Nat → Bool) (hd : Bool), DataW.TrodAll enc P W' b sp hd f.resultTypes.toList ((Value.bool true).resultList f.resultTypes.size) (s.fn H (ds ++ [])).results [] := fun b sp hd => by
    rw [hrt, hres]; exact trodAll_mk1 (shut_bool htb true)
  have har : ∀ sp : Nat → Bool, (∀ x ∈ p, sp x.block = true) → DataW.TrodAll enc P W' 0 sp true f.params.toList args.toList (s.fn H (ds ++ [])).args p := fun sp hsp => by
    rw [hargs]; exact trodAll_stays hl hrd hA (fun x hx => le_same le (hlt x hx)) hsp
  have hva : ∀ sp : Nat → Bool, DataW.TrodVars enc P W' sp s.vars (s.fn H (ds ++ [])).vars [] := fun sp => by
    rw [hvars, hv]; exact rfl
  have hok : ∀ (j : Nat) (t : TypeId) (r : Value), f.resultTypes[j]? = some t → ((Value.bool true).resultList f.resultTypes.size)[j]? = some r → Value.okWide P W' .any 0 t r := by
    exact ok_one (by rw [hrt]) rfl (okWide_bool_mk htb true)
  refine ⟨ds, [], before, [], p, [], hW, hre _ _ _, har _ (fun x hx => by simpa using hlt x hx), hva _, World.keptBut_mono (fun x hx => hx) (le_kept le _), fun _ => ?_⟩
  refine ⟨hok, _, _, ([] ++ p) ++ [], ⟨[] ++ p, [], trodAll_append (har _ (fun _ _ => rfl)) (hre _ _ _), hva _, rfl, ?_, ?_⟩, ?_⟩
  · intro b off hp
    have hp' : MemPlace.cell b off ∈ p := by simpa using hp
    rw [le_frozen le (hlt _ hp')]
    exact hfz b off (by rw [hbp]; exact hp')
  · intro ha
    have := hn ha
    rw [hbp] at this
    simpa using this
  · intro x hx _
    rw [hbp]
    simpa using hx
end
end Go.T

namespace Go.Proofs.YtjjndkenddigiaaGreatDoor
open Go Go.T Go.RowKit Go.ChangeShapes Go.WideShapes Go.ChangeAt
abbrev laidL : List (String × DataW Unit) := [("math/bits.deBruijn32tab", Rows.laid_math_bits_deBruijn32tab), ("math/bits.deBruijn64tab", Rows.laid_math_bits_deBruijn64tab), ("internal/strconv.uint64pow10", Rows.laid_internal_strconv_uint64pow10)]
theorem gPow : Tryz.prog.globalNamed "internal/strconv.uint64pow10" = some 3 := by kernel_rfl
theorem tPow : (Tryz.prog.globals[3]?).map (·.type) = some 219 := by kernel_rfl
theorem uPow : Tryz.prog.underlying 219 = some (.array 20 188) := by kernel_rfl
theorem uPowE : Tryz.prog.underlying 188 = some (.int .u64) := by kernel_rfl
theorem arr_cells {H : Type} {enc : TypeId × Value → H} {W : World} {base : Nat} {spare : Nat → Bool} {held : Bool} {m n t : Nat} {k : IntKind} {cs : List Value} {xs : List (DataW H × List MemPlace)} {zs : List Int} (hE : Tryz.prog.underlying t = some (.int k)) (hc : Tryz.prog.cellsOf t = 1) (hlen : cs.length = n) (hxl : xs.length = n) (hzl : zs.length = n)
    (hel : ∀ i, i < n → DataW.trod enc Tryz.prog W base spare held m t ((cs.drop (i * Tryz.prog.cellsOf t)).take (Tryz.prog.cellsOf t)) = xs[i]?) (hx : xs.map (·.1) = zs.map fun z => .lit (.int k z)) : cs = zs.map fun z => .int k z := by
  apply List.ext_getElem (by simp [hlen, hzl])
  intro i h1 h2
  have hi : i < n := by omega
  have h := hel i hi
  rw [hc, Nat.mul_one, List.drop_eq_getElem_cons h1, List.take_succ_cons, List.take_zero, List.getElem?_eq_getElem (by omega)] at h
  obtain ⟨z, e1, e2, _⟩ := DataW.trod_int hE h
  have e3 : (xs.map (·.1))[i]? = some (.lit (.int k z)) := by rw [List.getElem?_map, List.getElem?_eq_getElem (by omega), e2]; rfl
  rw [hx, List.getElem?_map, List.getElem?_eq_getElem (by omega)] at e3
  simp only [Option.map_some, Option.some.injEq, DataW.lit.injEq, Lit.int.injEq, true_and] at e3
  have e4 : cs[i] = .int k z := by injection e1
  rw [e4, List.getElem_map, e3]
set_option maxRecDepth 100000 in
theorem amb_of {W : World} (h : laidMetH Tryz.prog laidL W) : Amb W pubs := by
  rw [MakeChecks.laidMetH_plain _ _ _ (by kernel_rfl)] at h
  obtain ⟨ps, ⟨_, _, _, _, _, _, _, _, _, _, ⟨_, _, _, _, _, _, _, _, _, _, ⟨g, t, cs, fu, p, q, hg, ht, hv, hd, _, _⟩, _⟩, _⟩, _⟩ := h
  obtain rfl := Option.some.inj (gPow.symm.trans hg)
  obtain rfl := Option.some.inj (tPow.symm.trans ht)
  obtain ⟨xs, m, _, hx, hlen, hn, hel⟩ := DataW.trod_array uPow hd
  have hE : Tryz.prog.cellsOf 188 = 1 := by kernel_rfl
  have hA : Tryz.prog.cellsOf 219 = 20 := by kernel_rfl
  simp only [Prod.mk.injEq] at hx
  have hcs : cs.toList = Lib.pow10Tab.map fun z => Value.int .u64 z := arr_cells uPowE hE (hlen.trans hA) hn rfl hel (by
    have h1 := hx.1
    injection h1 with h1
    exact h1.symm)
  intro x hx
  rw [List.mem_singleton.1 hx]
  refine ⟨rfl, ?_⟩
  simp only [World.var?, gPow, Option.bind_some] at hv
  split at hv
  · rename_i c T z hh
    injection hv with hv
    subst hv
    refine ⟨T, z, ?_⟩
    rw [hh]
    congr 2
    rw [← hcs]
  · cases hv
set_option maxRecDepth 100000 in
theorem door_met (os : Os) (args : Array Value) : laidMetH Tryz.prog laidL ((World.doorLaid Tryz.prog 2000 os).forCall (fun _ _ => 0) ⟨#[], args, []⟩).memory :=
  laidMetH_of_parts3 (fuel := 40) (laidMet_of_run' 40 (by kernel_rfl) (by kernel_rfl)) (by kernel_rfl) (by kernel_rfl)
section
variable {H : Type} {enc : TypeId × Value → H} {W : World} {base : Nat} {held : Bool} {v : Value} {d : DataW H} {p : List MemPlace}
end
end Go.Proofs.YtjjndkenddigiaaGreatDoor

namespace Go.Proofs.YtjjndkenddigiaaGreatDoor
open Go Go.T Go.RowKit Go.ChangeShapes Go.WideShapes Go.ChangeAt
theorem rdU8n : Rd Tryz.prog 5 U8 := ⟨by kernel_rfl, by decide, fun h => by
  obtain ⟨i, rfl, _⟩ := DataW.trod_int Tryz.underlying5 h
  exact ⟨i, rfl, trivial⟩⟩
section
variable {H : Type} {enc : TypeId × Value → H} {W : World} {base : Nat} {held : Bool} {v : Value} {d : DataW H} {p : List MemPlace}
set_option maxRecDepth 100000 in
theorem rd_u8 (hv : Value.okWide Tryz.prog W .any base 5 v) (h : DataW.Trod enc Tryz.prog W 0 (fun _ => true) held 5 v d p) : ∃ n : Int, (0 ≤ n ∧ n ≤ 255) ∧ (Ty.int .u8 n).den W pubs v := by
  obtain ⟨n, rfl, _, _, hw⟩ := open_int Tryz.underlying5 hv h
  refine ⟨n, ?_, rfl⟩
  simp [Lit.wf, IntKind.wrap] at hw
  have e1 : IntKind.u8.min = 0 := rfl
  have e2 : IntKind.u8.max = 255 := rfl
  omega
set_option maxRecDepth 100000 in
theorem rd_sack (hv : Value.okWide Tryz.prog W .any base 81 v) (h : DataW.Trod enc Tryz.prog W 0 (fun _ => true) held 81 v d p) : ∃ l, (Ty.sl U8 l).den W pubs v := by
  obtain ⟨a, len, cap, rfl⟩ := okWide_slice Tryz.underlying81 hv
  obtain ⟨n, hn⟩ := h
  exact rd_sl1 rdU8n Tryz.underlying81 (by simpa [Value.cells] using hn)
end
end Go.Proofs.YtjjndkenddigiaaGreatDoor
