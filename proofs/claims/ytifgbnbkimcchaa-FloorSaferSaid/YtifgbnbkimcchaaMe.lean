/- Lemmas: the program and the reference walked, plain laws. -/
import Derived.Test.YtifgbnbkimcchaaMd
namespace Go.Proofs.Ytifgbnbkimcchaa
open Go Go.T
set_option maxHeartbeats 2000000
attribute [local irreducible] dInt dBool dSl dPp dPtr dAgg dTup dClo dAny dEx dStr dGd dCells dVec dVs dRow dOp nth Tri Into TOps Ctr bodyPost Exit.then Exit.inBlock Code.wp Code.wpIn dWhen dPa dPe dAo dArr dMp dPm dMap dCJ CtrG CtrI OpY keepPost iterPost bodyPostM roundQ
theorem fill_ok (g : List Int) : (skFill g).Ok 100 := by have h := skFill_ok g; unfold Sk.Ok at *; omega
theorem made_right (g : List Int) (t : Nat) (ht : t ≤ 8) : checkP (Md.flr ⟨skFill g, t⟩) = 0 := Md.right _ ht
theorem made5 (g : List Int) (t : Nat) (ht : t ≤ 8) : ∃ f s', checkP f = 0 ∧ f.turnings.length ≤ t ∧ CtrG Try.prog 52 [1000] [(1000, Cont.cells 158 (skTys (skFill g)))] [Ty.ptr 1000 0, Ty.int .i64 (t : Nat)] [(1000, Cont.cells 158 (skTys s'))] (flrT f) :=
  ⟨_, _, made_right g t ht, by have h := (Md.T_in ⟨skFill g, t⟩).1; have e := (Md.tkOk ⟨skFill g, t⟩ (Md.T ⟨skFill g, t⟩)).trn; exact Nat.le_trans (Nat.le_of_eq e) h, c_Made5 ⟨skFill g, t⟩ ht (fill_ok g)⟩
theorem small_right {f : Flr} (hr : f.Right) : f.Small := ⟨by have := hr.ranged.bears; omega, by have := hr.ranged.bins; omega, by have := hr.ranged.turnings; omega, by have := hr.ranged.rules; omega, fun b hb => by have h1 := hr.ranged.shares b hb; have h2 := hr.ranged.bears; omega⟩
def tryS (f : Flr) (s : Sk) : Nat → Sk
  | 0 => s
  | k + 1 => (triedUp f (tryS f s k) f.turnings.length).2
theorem tryS_taken {f : Flr} (hp : checkP f = 0) (s : Sk) : ∀ k, (tryS f s k).taken = s.taken + k * f.turnings.length
  | 0 => by simp [tryS]
  | k + 1 => by
    show (triedUp _ _ _).2.taken = _
    rw [(tried_spec hp _ _ (Nat.le_refl _)).2.1, tryS_taken hp s k]
    have : ((k + 1 : Nat) : Int) * (f.turnings.length : Int) = (k : Int) * (f.turnings.length : Int) + (f.turnings.length : Int) := by
      rw [Int.natCast_add, Int.add_mul]; simp
    omega
theorem tryS_ok {f : Flr} (hp : checkP f = 0) (g : List Int) {k : Nat} (hk : k ≤ 8) : (tryS f (skFill g) k).Ok 100 := by
  have h := skFill_ok g
  unfold Sk.Ok at *
  rw [tryS_taken hp]
  have h8 := nt8 hp
  have : (k : Int) * (f.turnings.length : Int) ≤ 8 * 8 := Int.mul_le_mul (by omega) (by omega) (by omega) (by omega)
  have : 0 ≤ (k : Int) * (f.turnings.length : Int) := Int.mul_nonneg (by omega) (by omega)
  omega
def tryO (f : Flr) (s : Sk) (k : Nat) : List Int := (triedUp f (tryS f s k) f.turnings.length).1
theorem tryO_right {f : Flr} (hp : checkP f = 0) (s : Sk) (k : Nat) : orderM f (tryO f s k) = 0 := tried_right hp _
theorem c_try (f : Flr) (hp : checkP f = 0) (g : List Int) (k : Nat) (hk : k ≤ 8) : CtrG Try.prog 58 [1000] [(1000, Cont.cells 158 (skTys (tryS f (skFill g) k)))] [Ty.ptr 1000 0, flrT f] [(1000, Cont.cells 158 (skTys (tryS f (skFill g) (k + 1))))] (Ty.sl I64 (tryO f (skFill g) k)) := c_tried5 f hp _ (tryS_ok hp g hk)
def oneT (f : Flr) (x : Int) : Int := if 1 < f.turnings.length then (IntKind.i64.wrap x).tmod f.turnings.length else 0
def mustJ (f : Flr) (x y : Int) : Bool := if 1 < f.turnings.length then mustR f (oneT f x) (oneT f y) else false
theorem oneT_in {f : Flr} {x : Int} (hx : 0 ≤ x ∧ x ≤ 255) (h : 1 < f.turnings.length) : 0 ≤ oneT f x ∧ oneT f x < f.turnings.length := by
  unfold oneT
  rw [if_pos h, wrap_in (by omega)]
  exact tmod_in hx.1 (by omega)
theorem oneT_yes {f : Flr} (h : 1 < f.turnings.length) (x : Int) : (IntKind.i64.wrap x).tmod f.turnings.length = oneT f x := by unfold oneT; rw [if_pos h]
theorem oneT_no {f : Flr} (h : ¬ (1 : Int) < (f.turnings.length : Nat)) (x : Int) : 0 = oneT f x := by unfold oneT; rw [if_neg (by omega)]
theorem mustJ_yes {f : Flr} (h : 1 < f.turnings.length) (x y : Int) : mustR f ((IntKind.i64.wrap x).tmod f.turnings.length) ((IntKind.i64.wrap y).tmod f.turnings.length) = mustJ f x y := by unfold mustJ; rw [if_pos h, oneT_yes h, oneT_yes h]
theorem mustJ_no {f : Flr} (h : ¬ (1 : Int) < (f.turnings.length : Nat)) (x y : Int) : false = mustJ f x y := by unfold mustJ; rw [if_neg (by omega)]
theorem mustJ_true {f : Flr} {x y : Int} (hx : 0 ≤ x ∧ x ≤ 255) (hy : 0 ≤ y ∧ y ≤ 255) (h : mustJ f x y = true) : (0 ≤ oneT f x ∧ oneT f x < f.turnings.length) ∧ (0 ≤ oneT f y ∧ oneT f y < f.turnings.length) ∧ mustR f (oneT f x) (oneT f y) = true := by
  unfold mustJ at h
  split at h
  · rename_i hT
    exact ⟨oneT_in hx hT, oneT_in hy hT, h⟩
  · cases h
theorem tryS_zero (f : Flr) (s : Sk) : s = tryS f s 0 := rfl
attribute [local irreducible] tryS tryO Md.flr safeR safeE firstsR marginR keepR mustR mustV oneT mustJ safestP
set_option maxRecDepth 100000 in
theorem c_FloorSafer (g t : List Int) (x y : Int) (hx : 0 ≤ x ∧ x ≤ 255) (hy : 0 ≤ y ∧ y ≤ 255) : Ctr Try.prog 10 [Ty.sl U8 g, Ty.sl U8 t, Ty.int .u8 x, Ty.int .u8 y] (Ty.bool true) := by
  refine fn_intro Try.func10 rfl (by decide) Try.ntmps10 (by exact Nat.le_of_ble_eq_true rfl) fun w0 M0 => ?_
  refine t_seq ?_
  refine t_region ?_
  refine asB rfl ?_
  refine r_nil ?_
  refine i_then ?_
  refine t_seq ?_
  obtain ⟨f, s1, hp, _, hM⟩ := made5 g 8 (Nat.le_refl 8)
  have h0 : checkM f = 0 := by rw [← check_eq]; exact hp
  have hr := check_right hp
  have hs := small_right hr
  have h8 := hr.ranged.turnings
  have hsf := (safest_law f).2.1 h0
  have hrg : ∀ x ∈ (safestP f).1, 0 ≤ x ∧ x < (f.turnings.length : Int) := hsf.rep.choose_spec.rng
  have hF := safer_facts hp
  have hll : (safestP f).1.length ≤ 1000 := by have := hsf.len; omega
  refine t_region ?_
  refine mvS rfl ?_
  refine r_callG [(29, 10)] [29] [(29, Cont.cells 158 (skTys (skFill g)))] (c_Fill g) rfl rfl (by repeat (first | exact cv_nil | refine cv_cons ?_ ?_ | exact cv_pub rfl rfl)) pre_nil (post_cons (a := 29) (b := 10) (by exact List.mem_cons_self) rfl (cc_cells_eq (by exact List.mem_cons_self) rfl rfl rfl) post_nil) (cv_ptr (by exact List.mem_cons_self)) ?_
  refine r_callG [(29, 1000)] [] [(29, Cont.cells 158 (skTys (s1)))] (hM) rfl rfl (by repeat (first | exact cv_nil | refine cv_cons ?_ ?_ | exact cv_ptr List.mem_cons_self | exact cv_pub rfl rfl)) (pre_cons (a := 29) (b := 1000) (by exact List.mem_cons_self) rfl (cc_cells_eq (by exact List.mem_cons_self) rfl rfl rfl) pre_nil) (post_cons (a := 29) (b := 1000) (by exact List.mem_cons_self) rfl (cc_cells_eq (by exact List.mem_cons_self) rfl rfl rfl) post_nil) (cv_pub rfl rfl) ?_
  refine r_alloc rfl (by exact List.cons_ne_nil _ _) rfl ?_
  refine r_storeN rfl rfl (by decide) rfl rfl rfl rfl rfl rfl ?_
  refine r_nil ?_
  refine i_then ?_
  refine t_seq ?_
  refine t_region ?_
  refine r_load_ptrN rfl rfl (by decide) rfl rfl (by exact Nat.le_of_ble_eq_true rfl) ?_
  refine r_call (s_Safe f hs) rfl rfl rfl rfl rfl ?_
  refine mvT rfl ?_
  refine r_extract rfl rfl ?_
  refine r_extract rfl rfl ?_
  refine asS rfl ?_
  refine asI rfl ?_
  refine r_nil ?_
  refine i_then ?_
  refine t_seq ?_
  refine t_region ?_
  refine r_load_ptrN rfl rfl (by decide) rfl rfl (by exact Nat.le_of_ble_eq_true rfl) ?_
  refine r_call (s_Safest f hs) rfl rfl rfl rfl rfl ?_
  refine mvT rfl ?_
  refine r_extract rfl rfl ?_
  refine r_extract rfl rfl ?_
  refine r_extract rfl rfl ?_
  refine asS rfl ?_
  refine asI rfl ?_
  refine asI rfl ?_
  refine r_nil ?_
  refine i_then ?_
  refine t_seq ?_
  refine t_region ?_
  refine r_load_ptrN rfl rfl (by decide) rfl rfl (by exact Nat.le_of_ble_eq_true rfl) ?_
  refine r_call (s_Count f hs) rfl rfl rfl rfl rfl ?_
  refine mvT rfl ?_
  refine r_extract rfl rfl ?_
  refine r_extract rfl rfl ?_
  refine asI rfl ?_
  refine asI rfl ?_
  refine r_nil ?_
  refine i_then ?_
  refine t_seq ?_
  refine t_region ?_
  refine r_load_ptrN rfl rfl (by decide) rfl rfl (by exact Nat.le_of_ble_eq_true rfl) ?_
  refine r_call (s_Firsts f hs) rfl rfl rfl rfl rfl ?_
  refine mvT rfl ?_
  refine r_extract rfl rfl ?_
  refine r_extract rfl rfl ?_
  refine asS rfl ?_
  refine asI rfl ?_
  refine r_nil ?_
  refine i_then ?_
  refine t_seq ?_
  refine t_seq ?_
  refine t_region ?_
  refine mvI rfl ?_
  refine r_bin rfl rfl rfl ?_
  refine mvB rfl ?_
  apply r_guard (s := 53) rfl rfl rfl
  · intro hg; apply opT_of; (refine mvI rfl ?_); refine r_nil ?_; exact rfl
  · exact rfl
  · exact rfl
  apply r_guard (s := 53) rfl rfl rfl
  · intro hg; apply opT_strip (s := 54) rfl (by (rw [hg]; rfl)); apply opT_of; (refine r_bin rfl rfl rfl ?_); refine r_nil ?_; exact rfl
  · exact rfl
  · exact rfl
  refine r_or rfl rfl ?_
  refine mvB rfl ?_
  apply r_guard (s := 57) rfl rfl rfl
  · intro hg; apply opT_of; (refine r_load_ptrN rfl rfl (by decide) rfl rfl (by exact Nat.le_of_ble_eq_true rfl) ?_); refine r_nil ?_; exact rfl
  · exact rfl
  · exact rfl
  apply r_guard (s := 57) rfl rfl rfl
  · intro hg; apply opT_of; (refine mvS rfl ?_); refine r_nil ?_; exact rfl
  · exact rfl
  · exact rfl
  apply r_guard (s := 57) rfl rfl rfl
  · intro hg; apply opT_strip (s := 58) rfl (by (rw [hg]; rfl)); apply opT_strip (s := 59) rfl (by (rw [hg]; rfl)); apply opT_of; (refine r_call (c_allowed5 f _ (by omega)) rfl rfl rfl rfl rfl ?_); refine r_nil ?_; exact rfl
  · exact rfl
  · exact rfl
  apply r_guard (s := 57) rfl rfl rfl
  · intro hg; apply opT_strip (s := 60) rfl (by (rw [hg]; rfl)); apply opT_of; (refine r_not rfl ?_); refine r_nil ?_; exact rfl
  · exact rfl
  · exact rfl
  refine r_or rfl rfl ?_
  refine mvB rfl ?_
  apply r_guard (s := 63) rfl rfl rfl
  · intro hg; apply opT_of; (refine r_load_ptrN rfl rfl (by decide) rfl rfl (by exact Nat.le_of_ble_eq_true rfl) ?_); refine r_nil ?_; exact rfl
  · exact rfl
  · exact rfl
  apply r_guard (s := 63) rfl rfl rfl
  · intro hg; apply opT_of; (refine mvS rfl ?_); refine r_nil ?_; exact rfl
  · exact rfl
  · exact rfl
  apply r_guard (s := 63) rfl rfl rfl
  · intro hg; apply opT_strip (s := 64) rfl (by (rw [hg]; rfl)); apply opT_strip (s := 65) rfl (by (rw [hg]; rfl)); apply opT_of; (refine r_callL [10, 29] (c_margin5 f hr (safestP f).1 hrg hll) rfl (by repeat (first | exact lends_nil | refine lends_cons (lend_pub rfl rfl) ?_)) (by exact plain_int _ _) ?_); refine r_nil ?_; exact rfl
  · exact rfl
  · exact rfl
  apply r_guard (s := 63) rfl rfl rfl
  · intro hg; apply opT_of; (refine mvI rfl ?_); refine r_nil ?_; exact rfl
  · exact rfl
  · exact rfl
  apply r_guard (s := 63) rfl rfl rfl
  · intro hg; apply opT_strip (s := 66) rfl (by (rw [hg]; rfl)); apply opT_strip (s := 67) rfl (by (rw [hg]; rfl)); apply opT_of; (refine r_bin rfl rfl rfl ?_); refine r_nil ?_; exact rfl
  · exact rfl
  · exact rfl
  refine r_or rfl rfl ?_
  refine mvB rfl ?_
  apply r_guard (s := 70) rfl rfl rfl
  · intro hg; apply opT_of; (refine mvI rfl ?_); refine r_nil ?_; exact rfl
  · exact rfl
  · exact rfl
  apply r_guard (s := 70) rfl rfl rfl
  · intro hg; apply opT_strip (s := 71) rfl (by (rw [hg]; rfl)); apply opT_of; (refine r_bin rfl rfl rfl ?_); refine r_nil ?_; exact rfl
  · exact rfl
  · exact rfl
  apply r_guard (s := 70) rfl rfl rfl
  · intro hg; apply opT_of; (refine mvI rfl ?_); refine r_nil ?_; exact rfl
  · exact rfl
  · exact rfl
  apply r_guard (s := 70) rfl rfl rfl
  · intro hg; apply opT_strip (s := 73) rfl (by (rw [hg]; rfl)); apply opT_of; (refine r_bin rfl rfl rfl ?_); refine r_nil ?_; exact rfl
  · exact rfl
  · exact rfl
  apply r_guard (s := 70) rfl rfl rfl
  · intro hg; apply opT_strip (s := 72) rfl (by (rw [hg]; rfl)); apply opT_strip (s := 74) rfl (by (rw [hg]; rfl)); apply opT_of; (refine r_neq_B und4 rfl rfl ?_); refine r_nil ?_; exact rfl
  · exact rfl
  · exact rfl
  refine r_or rfl rfl ?_
  refine mvB rfl ?_
  apply r_guard (s := 77) rfl rfl rfl
  · intro hg; apply opT_of; (refine mvI rfl ?_); refine r_nil ?_; exact rfl
  · exact rfl
  · exact rfl
  apply r_guard (s := 77) rfl rfl rfl
  · intro hg; apply opT_strip (s := 78) rfl (by (rw [hg]; rfl)); apply opT_of; (refine r_bin rfl rfl rfl ?_); refine r_nil ?_; exact rfl
  · exact rfl
  · exact rfl
  apply r_guard (s := 77) rfl rfl rfl
  · intro hg; apply opT_of; (refine mvI rfl ?_); refine r_nil ?_; exact rfl
  · exact rfl
  · exact rfl
  apply r_guard (s := 77) rfl rfl rfl
  · intro hg; apply opT_strip (s := 80) rfl (by (rw [hg]; rfl)); apply opT_of; (refine r_bin rfl rfl rfl ?_); refine r_nil ?_; exact rfl
  · exact rfl
  · exact rfl
  apply r_guard (s := 77) rfl rfl rfl
  · intro hg; apply opT_strip (s := 79) rfl (by (rw [hg]; rfl)); apply opT_strip (s := 81) rfl (by (rw [hg]; rfl)); apply opT_of; (refine r_neq_B und4 rfl rfl ?_); refine r_nil ?_; exact rfl
  · exact rfl
  · exact rfl
  refine r_or rfl rfl ?_
  refine mvB rfl ?_
  apply r_guard (s := 84) rfl rfl rfl
  · intro hg; apply opT_of; (refine mvI rfl ?_); refine r_nil ?_; exact rfl
  · exact rfl
  · exact rfl
  apply r_guard (s := 84) rfl rfl rfl
  · intro hg; apply opT_strip (s := 85) rfl (by (rw [hg]; rfl)); apply opT_of; (refine r_bin rfl rfl rfl ?_); refine r_nil ?_; exact rfl
  · exact rfl
  · exact rfl
  refine r_or rfl rfl ?_
  refine mvB rfl ?_
  apply r_guard (s := 88) rfl rfl rfl
  · intro hg; apply opT_of; (refine mvI rfl ?_); refine r_nil ?_; exact rfl
  · exact rfl
  · exact rfl
  apply r_guard (s := 88) rfl rfl rfl
  · intro hg; apply opT_strip (s := 89) rfl (by (rw [hg]; rfl)); apply opT_of; (refine r_bin rfl rfl rfl ?_); refine r_nil ?_; exact rfl
  · exact rfl
  · exact rfl
  apply r_guard (s := 88) rfl rfl rfl
  · intro hg; apply opT_strip (s := 90) rfl (by (rw [hg]; rfl)); apply opT_of; (refine mvB rfl ?_); refine r_nil ?_; exact rfl
  · exact rfl
  · exact rfl
  apply r_guardG (s := 91) rfl rfl rfl
  · intro hg1 hg2; apply opT_of; (refine mvI rfl ?_); refine r_nil ?_; exact rfl
  · exact rfl
  · exact rfl
  apply r_guardG (s := 91) rfl rfl rfl
  · intro hg1 hg2; apply opT_strip (s := 92) rfl (by (rw [hg1, hg2]; rfl)); apply opT_of; (refine r_bin rfl rfl rfl ?_); refine r_nil ?_; exact rfl
  · exact rfl
  · exact rfl
  apply r_guard (s := 88) rfl rfl rfl
  · intro hg; apply opT_strip (s := 91) rfl (by (rw [hg]; rfl)); apply opT_stripG (s := 93) rfl (by (rw [hg]; rfl)); apply opT_of; (refine r_and rfl rfl ?_); refine r_nil ?_; exact rfl
  · exact rfl
  · exact rfl
  refine r_or rfl rfl ?_
  refine mvB rfl ?_
  apply r_guard (s := 96) rfl rfl rfl
  · intro hg; apply opT_of; (refine mvI rfl ?_); refine r_nil ?_; exact rfl
  · exact rfl
  · exact rfl
  apply r_guard (s := 96) rfl rfl rfl
  · intro hg; apply opT_of; (refine mvI rfl ?_); refine r_nil ?_; exact rfl
  · exact rfl
  · exact rfl
  apply r_guard (s := 96) rfl rfl rfl
  · intro hg; apply opT_strip (s := 97) rfl (by (rw [hg]; rfl)); apply opT_strip (s := 98) rfl (by (rw [hg]; rfl)); apply opT_of; (refine r_bin rfl rfl rfl ?_); refine r_nil ?_; exact rfl
  · exact rfl
  · exact rfl
  refine r_or rfl rfl ?_
  refine r_nil ?_
  refine i_then ?_
  refine t_cond_ff rfl (safer1 hp) ?_
  refine t_skip ?_
  refine i_then ?_
  refine t_seq ?_
  refine t_seq ?_
  refine t_draw mixed rfl ?_
  refine mvI rfl ?_
  refine r_bin rfl rfl rfl ?_
  refine mvB rfl ?_
  apply r_guard (s := 103) rfl rfl rfl
  · intro hg; apply opT_of; (refine r_load_ptrN rfl rfl (by decide) rfl rfl (by exact Nat.le_of_ble_eq_true rfl) ?_); refine r_nil ?_; exact rfl
  · exact rfl
  · exact rfl
  apply r_guard (s := 103) rfl rfl rfl
  · intro hg; apply opT_of; (refine mvS rfl ?_); refine r_nil ?_; exact rfl
  · exact rfl
  · exact rfl
  apply r_guard (s := 103) rfl rfl rfl
  · intro hg; apply opT_strip (s := 104) rfl (by (rw [hg]; rfl)); apply opT_strip (s := 105) rfl (by (rw [hg]; rfl)); apply opT_of; (refine r_call (c_allowed5 f _ (by omega)) rfl rfl rfl rfl rfl ?_); refine r_nil ?_; exact rfl
  · exact rfl
  · exact rfl
  apply r_guard (s := 103) rfl rfl rfl
  · intro hg; apply opT_strip (s := 106) rfl (by (rw [hg]; rfl)); apply opT_of; (refine r_not rfl ?_); refine r_nil ?_; exact rfl
  · exact rfl
  · exact rfl
  apply r_guard (s := 103) rfl rfl rfl
  · intro hg; apply opT_strip (s := 107) rfl (by (rw [hg]; rfl)); apply opT_of; (refine mvB rfl ?_); refine r_nil ?_; exact rfl
  · exact rfl
  · exact rfl
  apply r_guardG (s := 108) rfl rfl rfl
  · intro hg1 hg2; apply opT_of; (refine r_load_ptrN rfl rfl (by decide) rfl rfl (by exact Nat.le_of_ble_eq_true rfl) ?_); refine r_nil ?_; exact rfl
  · exact rfl
  · exact rfl
  apply r_guardG (s := 108) rfl rfl rfl
  · intro hg1 hg2; apply opT_of; (refine mvS rfl ?_); refine r_nil ?_; exact rfl
  · exact rfl
  · exact rfl
  apply r_guardG (s := 108) rfl rfl rfl
  · intro hg1 hg2; apply opT_strip (s := 109) rfl (by (rw [hg1, hg2]; rfl)); apply opT_strip (s := 110) rfl (by (rw [hg1, hg2]; rfl)); apply opT_of; (refine r_callL [10, 29] (c_margin5 f hr (safeR f) hF.rng (by have := hF.few; omega)) rfl (by repeat (first | exact lends_nil | refine lends_cons (lend_pub rfl rfl) ?_)) (by exact plain_int _ _) ?_); refine r_nil ?_; exact rfl
  · exact rfl
  · exact rfl
  apply r_guardG (s := 108) rfl rfl rfl
  · intro hg1 hg2; apply opT_strip (s := 111) rfl (by (rw [hg1, hg2]; rfl)); apply opT_of; (refine r_bin rfl rfl rfl ?_); refine r_nil ?_; exact rfl
  · exact rfl
  · exact rfl
  apply r_guard (s := 103) rfl rfl rfl
  · intro hg; apply opT_strip (s := 108) rfl (by (rw [hg]; rfl)); apply opT_stripG (s := 112) rfl (by (rw [hg]; rfl)); apply opT_of; (refine r_or rfl rfl ?_); refine r_nil ?_; exact rfl
  · exact rfl
  · exact rfl
  apply r_guard (s := 103) rfl rfl rfl
  · intro hg; apply opT_strip (s := 113) rfl (by (rw [hg]; rfl)); apply opT_of; (refine mvB rfl ?_); refine r_nil ?_; exact rfl
  · exact rfl
  · exact rfl
  apply r_guardG (s := 114) rfl rfl rfl
  · intro hg1 hg2; apply opT_of; (refine mvS rfl ?_); refine r_nil ?_; exact rfl
  · exact rfl
  · exact rfl
  apply r_guardG (s := 114) rfl rfl rfl
  · intro hg1 hg2; apply opT_strip (s := 115) rfl (by (rw [hg1, hg2]; rfl)); apply opT_of; (refine r_len rfl rfl rfl ?_); refine r_nil ?_; exact rfl
  · exact rfl
  · exact rfl
  apply r_guardG (s := 114) rfl rfl rfl
  · intro hg1 hg2; apply opT_strip (s := 116) rfl (by (rw [hg1, hg2]; rfl)); apply opT_of; (refine r_bin rfl rfl rfl ?_); refine r_nil ?_; exact rfl
  · exact rfl
  · exact rfl
  apply r_guardG (s := 114) rfl rfl rfl
  · intro hg1 hg2; apply opT_strip (s := 117) rfl (by (rw [hg1, hg2]; rfl)); apply opT_of; (refine mvB rfl ?_); refine r_nil ?_; exact rfl
  · exact rfl
  · exact rfl
  apply r_guardG (s := 118) rfl rfl rfl
  · intro hg1 hg2; apply opT_of; (refine mvS rfl ?_); refine r_nil ?_; exact rfl
  · exact rfl
  · exact rfl
  apply r_guardG (s := 118) rfl rfl rfl
  · intro hg1 hg2; apply opT_strip (s := 119) rfl (by (rw [hg1, hg2]; rfl)); apply opT_of; (refine r_len rfl rfl rfl ?_); refine r_nil ?_; exact rfl
  · exact rfl
  · exact rfl
  apply r_guardG (s := 118) rfl rfl rfl
  · intro hg1 hg2; apply opT_strip (s := 120) rfl (by (rw [hg1, hg2]; rfl)); apply opT_of; (refine r_bin rfl rfl rfl ?_); refine r_nil ?_; exact rfl
  · exact rfl
  · exact rfl
  apply r_guardG (s := 118) rfl rfl rfl
  · intro hg1 hg2; apply opT_strip (s := 121) rfl (by (rw [hg1, hg2]; rfl)); apply opT_of; (refine mvB rfl ?_); refine r_nil ?_; exact rfl
  · exact rfl
  · exact rfl
  apply r_guardG (s := 122) rfl rfl rfl
  · intro hg1 hg2; apply opT_of; (refine mvS rfl ?_); refine r_nil ?_; exact rfl
  · exact rfl
  · exact rfl
  apply r_guardG (s := 122) rfl rfl rfl
  · intro hg1 hg2; apply opT_strip (s := 123) rfl (by (rw [hg1, hg2]; rfl)); apply opT_of; (refine r_index_slN rfl rfl rfl rfl rfl rfl (by have := of_decide_eq_false hg2; show (0 : Nat) < _; omega) ?_); refine r_nil ?_; exact rfl
  · exact rfl
  · exact rfl
  apply r_guardG (s := 122) rfl rfl rfl
  · intro hg1 hg2; apply opT_strip (s := 124) rfl (by (rw [hg1, hg2]; rfl)); apply opT_of; (refine r_load_pp rfl rfl rfl rfl ?_); refine r_nil ?_; exact rfl
  · exact rfl
  · exact rfl
  apply r_guardG (s := 122) rfl rfl rfl
  · intro hg1 hg2; apply opT_of; (refine mvS rfl ?_); refine r_nil ?_; exact rfl
  · exact rfl
  · exact rfl
  apply r_guardG (s := 122) rfl rfl rfl
  · intro hg1 hg2; apply opT_strip (s := 126) rfl (by (rw [hg1, hg2]; rfl)); apply opT_of; (refine r_index_slN rfl rfl rfl rfl rfl rfl (firsts_safe_len hp (by have := of_decide_eq_false hg2; omega)) ?_); refine r_nil ?_; exact rfl
  · exact rfl
  · exact rfl
  apply r_guardG (s := 122) rfl rfl rfl
  · intro hg1 hg2; apply opT_strip (s := 127) rfl (by (rw [hg1, hg2]; rfl)); apply opT_of; (refine r_load_pp rfl rfl rfl rfl ?_); refine r_nil ?_; exact rfl
  · exact rfl
  · exact rfl
  apply r_guardG (s := 122) rfl rfl rfl
  · intro hg1 hg2; apply opT_strip (s := 125) rfl (by (rw [hg1, hg2]; rfl)); apply opT_strip (s := 128) rfl (by (rw [hg1, hg2]; rfl)); apply opT_of; (refine r_bin rfl rfl rfl ?_); refine r_nil ?_; exact rfl
  · exact rfl
  · exact rfl
  apply r_guardG (s := 118) rfl rfl rfl
  · intro hg1 hg2; apply opT_strip (s := 122) rfl (by (rw [hg1, hg2]; rfl)); apply opT_stripG (s := 129) rfl (by (rw [hg1, hg2]; rfl)); apply opT_of; (refine r_or rfl rfl ?_); refine r_nil ?_; exact rfl
  · exact rfl
  · exact rfl
  apply r_guardG (s := 114) rfl rfl rfl
  · intro hg1 hg2; apply opT_strip (s := 118) rfl (by (rw [hg1, hg2]; rfl)); apply opT_stripG (s := 130) rfl (by (rw [hg1, hg2]; rfl)); apply opT_of; (refine r_and rfl rfl ?_); refine r_nil ?_; exact rfl
  · exact rfl
  · exact rfl
  apply r_guard (s := 103) rfl rfl rfl
  · intro hg; apply opT_strip (s := 114) rfl (by (rw [hg]; rfl)); apply opT_stripG (s := 131) rfl (by (rw [hg]; rfl)); apply opT_of; (refine r_or rfl rfl ?_); refine r_nil ?_; exact rfl
  · exact rfl
  · exact rfl
  refine r_and rfl rfl ?_
  refine r_nil ?_
  refine ⟨by kernel_rfl, ?_⟩
  refine i_then ?_
  refine t_cond_ff rfl (safer2 hp) ?_
  refine t_skip ?_
  refine i_then ?_
  refine t_seq ?_
  refine t_region ?_
  refine asI rfl ?_
  refine asI rfl ?_
  refine r_nil ?_
  refine i_then ?_
  refine t_seq ?_
  refine t_region ?_
  refine asB rfl ?_
  refine asI rfl ?_
  refine r_nil ?_
  refine i_then ?_
  refine t_join (J := live [(1, Ty.sl U8 t), (9, Ty.ptr 10 0), (10, Ty.sl I64 (safeR f)), (13, Ty.int .i64 (marginR f)), (17, Ty.sl I64 (firstsR f)), (19, Ty.int .i64 (oneT f x)), (20, Ty.int .i64 (oneT f y)), (21, Ty.bool (mustJ f x y))] [(10, Cont.cells 27 (flrTys f))]) ?_ ?_
  ·
    refine t_seq ?_
    refine t_region ?_
    refine r_field_ptr rfl rfl rfl rfl rfl (by decide) ?_
    refine r_load_ptr rfl rfl (by decide) rfl rfl rfl ?_
    refine r_len rfl rfl rfl ?_
    refine asI rfl ?_
    refine r_nil ?_
    refine i_then ?_
    refine t_seq ?_
    refine t_region ?_
    refine mvI rfl ?_
    refine r_bin rfl rfl rfl ?_
    refine r_nil ?_
    refine i_then ?_
    refine t_cond_dec rfl (fun hc3 => ?_) (fun hc3 => ?_)
    ·
      refine t_seq ?_
      refine t_draw mixed rfl ?_
      refine mvI rfl ?_
      refine r_conv rfl rfl rfl rfl ?_
      refine mvI rfl ?_
      refine r_rem rfl rfl (by omega) ?_
      refine mvI rfl ?_
      refine r_conv rfl rfl rfl rfl ?_
      refine mvI rfl ?_
      refine r_rem rfl rfl (by omega) ?_
      refine asI rfl ?_
      refine asI rfl ?_
      refine r_nil ?_
      refine ⟨by kernel_rfl, ?_⟩
      refine i_then ?_
      refine t_seq ?_
      have hT : 1 < f.turnings.length := by have h := hc3; omega
      have ha : 0 ≤ (IntKind.i64.wrap x).tmod f.turnings.length ∧ (IntKind.i64.wrap x).tmod f.turnings.length < f.turnings.length := by rw [oneT_yes hT]; exact oneT_in hx hT
      have hb : 0 ≤ (IntKind.i64.wrap y).tmod f.turnings.length ∧ (IntKind.i64.wrap y).tmod f.turnings.length < f.turnings.length := by rw [oneT_yes hT]; exact oneT_in hy hT
      refine t_region ?_
      refine r_load_ptrN rfl rfl (by decide) rfl rfl (by exact Nat.le_of_ble_eq_true rfl) ?_
      refine mvI rfl ?_
      refine mvI rfl ?_
      refine r_call (s_Must f hs _ _) rfl rfl rfl rfl rfl ?_
      refine mvT rfl ?_
      refine r_extract rfl rfl ?_
      refine r_extract rfl rfl ?_
      refine asB rfl ?_
      refine asI rfl ?_
      refine r_nil ?_
      refine i_then ?_
      refine t_seq ?_
      refine t_seq ?_
      refine t_region ?_
      refine mvI rfl ?_
      refine mvI rfl ?_
      refine r_bin rfl rfl rfl ?_
      refine mvI rfl ?_
      refine r_bin rfl rfl rfl ?_
      refine r_neq_B und4 rfl rfl ?_
      refine mvB rfl ?_
      apply r_guard (s := 160) rfl rfl rfl
      · intro hg; apply opT_of; (refine mvI rfl ?_); refine r_nil ?_; exact rfl
      · exact rfl
      · exact rfl
      apply r_guard (s := 160) rfl rfl rfl
      · intro hg; apply opT_of; (refine mvI rfl ?_); refine r_nil ?_; exact rfl
      · exact rfl
      · exact rfl
      apply r_guard (s := 160) rfl rfl rfl
      · intro hg; apply opT_strip (s := 161) rfl (by (rw [hg]; rfl)); apply opT_strip (s := 162) rfl (by (rw [hg]; rfl)); apply opT_of; (refine r_bin rfl rfl rfl ?_); refine r_nil ?_; exact rfl
      · exact rfl
      · exact rfl
      apply r_guard (s := 160) rfl rfl rfl
      · intro hg; apply opT_strip (s := 163) rfl (by (rw [hg]; rfl)); apply opT_of; (refine mvB rfl ?_); refine r_nil ?_; exact rfl
      · exact rfl
      · exact rfl
      apply r_guardG (s := 164) rfl rfl rfl
      · intro hg1 hg2; apply opT_of; (refine mvI rfl ?_); refine r_nil ?_; exact rfl
      · exact rfl
      · exact rfl
      apply r_guardG (s := 164) rfl rfl rfl
      · intro hg1 hg2; apply opT_of; (refine mvI rfl ?_); refine r_nil ?_; exact rfl
      · exact rfl
      · exact rfl
      apply r_guardG (s := 164) rfl rfl rfl
      · intro hg1 hg2; apply opT_strip (s := 165) rfl (by (rw [hg1, hg2]; rfl)); apply opT_strip (s := 166) rfl (by (rw [hg1, hg2]; rfl)); apply opT_of; (refine r_bin rfl rfl rfl ?_); refine r_nil ?_; exact rfl
      · exact rfl
      · exact rfl
      apply r_guard (s := 160) rfl rfl rfl
      · intro hg; apply opT_strip (s := 164) rfl (by (rw [hg]; rfl)); apply opT_stripG (s := 167) rfl (by (rw [hg]; rfl)); apply opT_of; (refine r_and rfl rfl ?_); refine r_nil ?_; exact rfl
      · exact rfl
      · exact rfl
      refine r_or rfl rfl ?_
      refine r_nil ?_
      refine i_then ?_
      refine t_cond_ff rfl (safer4 hp ha hb) ?_
      refine t_skip ?_
      refine i_then ?_
      refine t_seq ?_
      refine t_region ?_
      refine mvI rfl ?_
      refine r_bin rfl rfl rfl ?_
      refine mvB rfl ?_
      apply r_guard (s := 172) rfl rfl rfl
      · intro hg; apply opT_of; (refine r_load_ptrN rfl rfl (by decide) rfl rfl (by exact Nat.le_of_ble_eq_true rfl) ?_); refine r_nil ?_; exact rfl
      · exact rfl
      · exact rfl
      apply r_guard (s := 172) rfl rfl rfl
      · intro hg; apply opT_of; (refine mvI rfl ?_); refine r_nil ?_; exact rfl
      · exact rfl
      · exact rfl
      apply r_guard (s := 172) rfl rfl rfl
      · intro hg; apply opT_of; (refine mvI rfl ?_); refine r_nil ?_; exact rfl
      · exact rfl
      · exact rfl
      apply r_guard (s := 172) rfl rfl rfl
      · intro hg; apply opT_strip (s := 173) rfl (by (rw [hg]; rfl)); apply opT_strip (s := 174) rfl (by (rw [hg]; rfl)); apply opT_strip (s := 175) rfl (by (rw [hg]; rfl)); apply opT_of; (refine r_callL [10, 29] (c_ahead5 f hr _ _ ha hb) rfl (by repeat (first | exact lends_nil | refine lends_cons (lend_pub rfl rfl) ?_)) (by exact plain_bool _) ?_); refine r_nil ?_; exact rfl
      · exact rfl
      · exact rfl
      refine r_and rfl rfl ?_
      refine mvB rfl ?_
      apply r_guard (s := 178) rfl rfl rfl
      · intro hg; apply opT_of; (refine mvB rfl ?_); refine r_nil ?_; exact rfl
      · exact rfl
      · exact rfl
      apply r_guard (s := 178) rfl rfl rfl
      · intro hg; apply opT_strip (s := 179) rfl (by (rw [hg]; rfl)); apply opT_of; (refine r_not rfl ?_); refine r_nil ?_; exact rfl
      · exact rfl
      · exact rfl
      refine r_and rfl rfl ?_
      refine mvB rfl ?_
      apply r_guard (s := 182) rfl rfl rfl
      · intro hg; apply opT_of; (refine mvB rfl ?_); refine r_nil ?_; exact rfl
      · exact rfl
      · exact rfl
      apply r_guard (s := 182) rfl rfl rfl
      · intro hg; apply opT_strip (s := 183) rfl (by (rw [hg]; rfl)); apply opT_of; (refine mvB rfl ?_); refine r_nil ?_; exact rfl
      · exact rfl
      · exact rfl
      apply r_guardG (s := 184) rfl rfl rfl
      · intro hg1 hg2; apply opT_of; (refine mvS rfl ?_); refine r_nil ?_; exact rfl
      · exact rfl
      · exact rfl
      apply r_guardG (s := 184) rfl rfl rfl
      · intro hg1 hg2; apply opT_of; (refine mvI rfl ?_); refine r_nil ?_; exact rfl
      · exact rfl
      · exact rfl
      apply r_guardG (s := 184) rfl rfl rfl
      · intro hg1 hg2; apply opT_strip (s := 185) rfl (by (rw [hg1, hg2]; rfl)); apply opT_strip (s := 186) rfl (by (rw [hg1, hg2]; rfl)); apply opT_of; (refine r_call (c_Index_int _ _) rfl rfl rfl rfl rfl ?_); refine r_nil ?_; exact rfl
      · exact rfl
      · exact rfl
      apply r_guardG (s := 184) rfl rfl rfl
      · intro hg1 hg2; apply opT_of; (refine mvS rfl ?_); refine r_nil ?_; exact rfl
      · exact rfl
      · exact rfl
      apply r_guardG (s := 184) rfl rfl rfl
      · intro hg1 hg2; apply opT_of; (refine mvI rfl ?_); refine r_nil ?_; exact rfl
      · exact rfl
      · exact rfl
      apply r_guardG (s := 184) rfl rfl rfl
      · intro hg1 hg2; apply opT_strip (s := 188) rfl (by (rw [hg1, hg2]; rfl)); apply opT_strip (s := 189) rfl (by (rw [hg1, hg2]; rfl)); apply opT_of; (refine r_call (c_Index_int _ _) rfl rfl rfl rfl rfl ?_); refine r_nil ?_; exact rfl
      · exact rfl
      · exact rfl
      apply r_guardG (s := 184) rfl rfl rfl
      · intro hg1 hg2; apply opT_strip (s := 187) rfl (by (rw [hg1, hg2]; rfl)); apply opT_strip (s := 190) rfl (by (rw [hg1, hg2]; rfl)); apply opT_of; (refine r_bin rfl rfl rfl ?_); refine r_nil ?_; exact rfl
      · exact rfl
      · exact rfl
      apply r_guard (s := 182) rfl rfl rfl
      · intro hg; apply opT_strip (s := 184) rfl (by (rw [hg]; rfl)); apply opT_stripG (s := 191) rfl (by (rw [hg]; rfl)); apply opT_of; (refine r_and rfl rfl ?_); refine r_nil ?_; exact rfl
      · exact rfl
      · exact rfl
      refine r_or rfl rfl ?_
      refine r_nil ?_
      refine i_then ?_
      refine t_cond_ff rfl (safer5 hp ha hb) ?_
      refine t_skip ?_
      refine i_join ?_
      (refine Ent.mk' ?_ ?_ <;> (repeat' (first | exact allSub_zero | exact allTags_nil | refine allSub_succ' ?_ (Ty.sub_any _) | refine allSub_succ' ?_ (Ty.sub_refl _) | refine allTags_cons rfl (Cont.sub_refl _) ?_ | refine allSub_succ' ?_ ?_)))
      all_goals first | exact Ty.sub_int (oneT_yes hT _) | exact Ty.sub_bool (mustJ_yes hT _ _)
    ·
      refine t_skip ?_
      refine i_join ?_
      (refine Ent.mk' ?_ ?_ <;> (repeat' (first | exact allSub_zero | exact allTags_nil | refine allSub_succ' ?_ (Ty.sub_any _) | refine allSub_succ' ?_ (Ty.sub_refl _) | refine allTags_cons rfl (Cont.sub_refl _) ?_ | refine allSub_succ' ?_ ?_)))
      all_goals first | exact Ty.sub_int (oneT_no hc3 _) | exact Ty.sub_bool (mustJ_no hc3 _ _)
  ·
    refine t_seq ?_
    refine t_region ?_
    refine mvS rfl ?_
    refine r_callG [(196, 10)] [196] [(196, Cont.cells 158 (skTys (skFill t)))] (c_Fill t) rfl rfl (by repeat (first | exact cv_nil | refine cv_cons ?_ ?_ | exact cv_pub rfl rfl)) pre_nil (post_cons (a := 196) (b := 10) (by exact List.mem_cons_self) rfl (cc_cells_eq (by exact List.mem_cons_self) rfl rfl rfl) post_nil) (cv_ptr (by exact List.mem_cons_self)) ?_
    refine asO rfl ?_
    refine r_nil ?_
    refine i_then ?_
    refine t_seq ?_
    refine t_seq ?_
    refine t_region ?_
    refine mvI rfl ?_
    refine r_nil ?_
    refine i_then ?_
    refine t_block ?_
    refine t_loop (fun (k : {k : Nat // k ≤ 8}) => live [(9, Ty.ptr 10 0), (10, Ty.sl I64 (safeR f)), (13, Ty.int .i64 (marginR f)), (17, Ty.sl I64 (firstsR f)), (19, Ty.int .i64 (oneT f x)), (20, Ty.int .i64 (oneT f y)), (21, Ty.bool (mustJ f x y)), (24, Ty.ptr 196 0), (196, Ty.int .i64 (k.1 : Nat))] [(10, Cont.cells 27 (flrTys f)), (196, Cont.cells 158 (skTys (tryS f (skFill t) k.1)))]) (fun k => 8 - k.1) (⟨0, by omega⟩) ?_ fun k => ?_
    · (refine Ent.mk' ?_ ?_ <;> (repeat' (first | exact allSub_zero | exact allTags_nil | exact subs_nil | refine allSub_succ' ?_ (Ty.sub_any _) | refine allSub_succ' ?_ (Ty.sub_refl _) | refine allTags_cons rfl (Cont.sub_refl _) ?_ | refine allTags_cons rfl (Cont.sub_subs ?_) ?_ | refine subs_cons ?_ ?_)))
      all_goals first | exact Ty.sub_int (congrArg Sk.mixed (tryS_zero f (skFill t))) | exact Ty.sub_int (congrArg Sk.taken (tryS_zero f (skFill t))) | exact Ty.sub_sl (congrArg Sk.grain (tryS_zero f (skFill t)))
    ·
      have hk := k.2
      have hto := answers hp (tryO_right hp (skFill t) k.1)
      have htl := hto.len
      refine t_seq ?_
      refine t_region ?_
      refine r_bin rfl rfl rfl ?_
      refine r_nil ?_
      refine i_then ?_
      refine t_seq ?_
      refine t_cond_dec rfl (fun hc6 => ?_) (fun hc6 => ?_)
      ·
        refine t_skip ?_
        refine i_then ?_
        refine t_seq ?_
        refine t_block ?_
        refine t_seq ?_
        refine t_region ?_
        refine mvO rfl ?_
        refine r_load_ptrN rfl rfl (by decide) rfl rfl (by exact Nat.le_of_ble_eq_true rfl) ?_
        refine r_callG [(196, 1000)] [] [(196, Cont.cells 158 (skTys (tryS f (skFill t) (k.1 + 1))))] (c_try f hp t k.1 hk) rfl rfl (by repeat (first | exact cv_nil | refine cv_cons ?_ ?_ | exact cv_ptr List.mem_cons_self | exact cv_pub rfl rfl)) (pre_cons (a := 196) (b := 1000) (by exact List.mem_cons_self) rfl (cc_cells_eq (by exact List.mem_cons_self) rfl rfl rfl) pre_nil) (post_cons (a := 196) (b := 1000) (by exact List.mem_cons_self) rfl (cc_cells_eq (by exact List.mem_cons_self) rfl rfl rfl) post_nil) (cv_pub rfl rfl) ?_
        refine asS rfl ?_
        refine r_nil ?_
        refine i_then ?_
        refine t_seq ?_
        refine t_region ?_
        refine r_load_ptrN rfl rfl (by decide) rfl rfl (by exact Nat.le_of_ble_eq_true rfl) ?_
        refine mvS rfl ?_
        refine r_callL [10, 196] (c_margin5 f hr (tryO f (skFill t) k.1) hto.rng (by omega)) rfl (by repeat (first | exact lends_nil | refine lends_cons (lend_pub rfl rfl) ?_)) (by exact plain_int _ _) ?_
        refine asI rfl ?_
        refine r_nil ?_
        refine i_then ?_
        refine t_seq ?_
        refine t_region ?_
        refine mvI rfl ?_
        refine mvI rfl ?_
        refine r_bin rfl rfl rfl ?_
        refine mvB rfl ?_
        apply r_guard (s := 207) rfl rfl rfl
        · intro hg; apply opT_of; (refine mvI rfl ?_); refine r_nil ?_; exact rfl
        · exact rfl
        · exact rfl
        apply r_guard (s := 207) rfl rfl rfl
        · intro hg; apply opT_strip (s := 208) rfl (by (rw [hg]; rfl)); apply opT_of; (refine r_bin rfl rfl rfl ?_); refine r_nil ?_; exact rfl
        · exact rfl
        · exact rfl
        apply r_guard (s := 207) rfl rfl rfl
        · intro hg; apply opT_strip (s := 209) rfl (by (rw [hg]; rfl)); apply opT_of; (refine mvB rfl ?_); refine r_nil ?_; exact rfl
        · exact rfl
        · exact rfl
        apply r_guardG (s := 210) rfl rfl rfl
        · intro hg1 hg2; apply opT_of; (refine mvS rfl ?_); refine r_nil ?_; exact rfl
        · exact rfl
        · exact rfl
        apply r_guardG (s := 210) rfl rfl rfl
        · intro hg1 hg2; apply opT_of; (refine mvS rfl ?_); refine r_nil ?_; exact rfl
        · exact rfl
        · exact rfl
        apply r_guardG (s := 210) rfl rfl rfl
        · intro hg1 hg2; apply opT_strip (s := 211) rfl (by (rw [hg1, hg2]; rfl)); apply opT_strip (s := 212) rfl (by (rw [hg1, hg2]; rfl)); apply opT_of; (refine r_call (c_Compare_int _ _) rfl rfl rfl rfl rfl ?_); refine r_nil ?_; exact rfl
        · exact rfl
        · exact rfl
        apply r_guardG (s := 210) rfl rfl rfl
        · intro hg1 hg2; apply opT_strip (s := 213) rfl (by (rw [hg1, hg2]; rfl)); apply opT_of; (refine r_bin rfl rfl rfl ?_); refine r_nil ?_; exact rfl
        · exact rfl
        · exact rfl
        apply r_guard (s := 207) rfl rfl rfl
        · intro hg; apply opT_strip (s := 210) rfl (by (rw [hg]; rfl)); apply opT_stripG (s := 214) rfl (by (rw [hg]; rfl)); apply opT_of; (refine r_and rfl rfl ?_); refine r_nil ?_; exact rfl
        · exact rfl
        · exact rfl
        refine r_or rfl rfl ?_
        refine mvB rfl ?_
        apply r_guard (s := 217) rfl rfl rfl
        · intro hg; apply opT_of; (refine mvI rfl ?_); refine r_nil ?_; exact rfl
        · exact rfl
        · exact rfl
        apply r_guard (s := 217) rfl rfl rfl
        · intro hg; apply opT_strip (s := 218) rfl (by (rw [hg]; rfl)); apply opT_of; (refine r_bin rfl rfl rfl ?_); refine r_nil ?_; exact rfl
        · exact rfl
        · exact rfl
        apply r_guard (s := 217) rfl rfl rfl
        · intro hg; apply opT_strip (s := 219) rfl (by (rw [hg]; rfl)); apply opT_of; (refine mvB rfl ?_); refine r_nil ?_; exact rfl
        · exact rfl
        · exact rfl
        apply r_guardG (s := 220) rfl rfl rfl
        · intro hg1 hg2; apply opT_of; (refine mvS rfl ?_); refine r_nil ?_; exact rfl
        · exact rfl
        · exact rfl
        apply r_guardG (s := 220) rfl rfl rfl
        · intro hg1 hg2; apply opT_strip (s := 221) rfl (by (rw [hg1, hg2]; rfl)); apply opT_of; (refine r_len rfl rfl rfl ?_); refine r_nil ?_; exact rfl
        · exact rfl
        · exact rfl
        apply r_guardG (s := 220) rfl rfl rfl
        · intro hg1 hg2; apply opT_strip (s := 222) rfl (by (rw [hg1, hg2]; rfl)); apply opT_of; (refine r_bin rfl rfl rfl ?_); refine r_nil ?_; exact rfl
        · exact rfl
        · exact rfl
        apply r_guard (s := 217) rfl rfl rfl
        · intro hg; apply opT_strip (s := 220) rfl (by (rw [hg]; rfl)); apply opT_stripG (s := 223) rfl (by (rw [hg]; rfl)); apply opT_of; (refine r_and rfl rfl ?_); refine r_nil ?_; exact rfl
        · exact rfl
        · exact rfl
        apply r_guard (s := 217) rfl rfl rfl
        · intro hg; apply opT_strip (s := 224) rfl (by (rw [hg]; rfl)); apply opT_of; (refine mvB rfl ?_); refine r_nil ?_; exact rfl
        · exact rfl
        · exact rfl
        apply r_guardG (s := 225) rfl rfl rfl
        · intro hg1 hg2; apply opT_of; (refine mvS rfl ?_); refine r_nil ?_; exact rfl
        · exact rfl
        · exact rfl
        apply r_guardG (s := 225) rfl rfl rfl
        · intro hg1 hg2; apply opT_of; (refine mvS rfl ?_); refine r_nil ?_; exact rfl
        · exact rfl
        · exact rfl
        apply r_guardG (s := 225) rfl rfl rfl
        · intro hg1 hg2; apply opT_strip (s := 227) rfl (by (rw [hg1, hg2]; rfl)); apply opT_of; (refine r_index_slN rfl rfl rfl rfl rfl rfl (by have h := (Bool.and_eq_true_iff.1 hg2).2; have := of_decide_eq_true h; show (0 : Nat) < _; omega) ?_); refine r_nil ?_; exact rfl
        · exact rfl
        · exact rfl
        apply r_guardG (s := 225) rfl rfl rfl
        · intro hg1 hg2; apply opT_strip (s := 228) rfl (by (rw [hg1, hg2]; rfl)); apply opT_of; (refine r_load_pp rfl rfl rfl rfl ?_); refine r_nil ?_; exact rfl
        · exact rfl
        · exact rfl
        apply r_guardG (s := 225) rfl rfl rfl
        · intro hg1 hg2; apply opT_strip (s := 226) rfl (by (rw [hg1, hg2]; rfl)); apply opT_strip (s := 229) rfl (by (rw [hg1, hg2]; rfl)); apply opT_of; (refine r_call (c_Contains_int _ _) rfl rfl rfl rfl rfl ?_); refine r_nil ?_; exact rfl
        · exact rfl
        · exact rfl
        apply r_guardG (s := 225) rfl rfl rfl
        · intro hg1 hg2; apply opT_strip (s := 230) rfl (by (rw [hg1, hg2]; rfl)); apply opT_of; (refine r_not rfl ?_); refine r_nil ?_; exact rfl
        · exact rfl
        · exact rfl
        apply r_guard (s := 217) rfl rfl rfl
        · intro hg; apply opT_strip (s := 225) rfl (by (rw [hg]; rfl)); apply opT_stripG (s := 231) rfl (by (rw [hg]; rfl)); apply opT_of; (refine r_and rfl rfl ?_); refine r_nil ?_; exact rfl
        · exact rfl
        · exact rfl
        refine r_or rfl rfl ?_
        refine mvB rfl ?_
        apply r_guard (s := 234) rfl rfl rfl
        · intro hg; apply opT_of; (refine mvI rfl ?_); refine r_nil ?_; exact rfl
        · exact rfl
        · exact rfl
        apply r_guard (s := 234) rfl rfl rfl
        · intro hg; apply opT_strip (s := 235) rfl (by (rw [hg]; rfl)); apply opT_of; (refine r_bin rfl rfl rfl ?_); refine r_nil ?_; exact rfl
        · exact rfl
        · exact rfl
        apply r_guard (s := 234) rfl rfl rfl
        · intro hg; apply opT_strip (s := 236) rfl (by (rw [hg]; rfl)); apply opT_of; (refine mvB rfl ?_); refine r_nil ?_; exact rfl
        · exact rfl
        · exact rfl
        apply r_guardG (s := 237) rfl rfl rfl
        · intro hg1 hg2; apply opT_of; (refine mvB rfl ?_); refine r_nil ?_; exact rfl
        · exact rfl
        · exact rfl
        apply r_guard (s := 234) rfl rfl rfl
        · intro hg; apply opT_strip (s := 237) rfl (by (rw [hg]; rfl)); apply opT_stripG (s := 238) rfl (by (rw [hg]; rfl)); apply opT_of; (refine r_and rfl rfl ?_); refine r_nil ?_; exact rfl
        · exact rfl
        · exact rfl
        apply r_guard (s := 234) rfl rfl rfl
        · intro hg; apply opT_strip (s := 239) rfl (by (rw [hg]; rfl)); apply opT_of; (refine mvB rfl ?_); refine r_nil ?_; exact rfl
        · exact rfl
        · exact rfl
        apply r_guardG (s := 240) rfl rfl rfl
        · intro hg1 hg2; apply opT_of; (refine mvS rfl ?_); refine r_nil ?_; exact rfl
        · exact rfl
        · exact rfl
        apply r_guardG (s := 240) rfl rfl rfl
        · intro hg1 hg2; apply opT_of; (refine mvI rfl ?_); refine r_nil ?_; exact rfl
        · exact rfl
        · exact rfl
        apply r_guardG (s := 240) rfl rfl rfl
        · intro hg1 hg2; apply opT_strip (s := 241) rfl (by (rw [hg1, hg2]; rfl)); apply opT_strip (s := 242) rfl (by (rw [hg1, hg2]; rfl)); apply opT_of; (refine r_call (c_Index_int _ _) rfl rfl rfl rfl rfl ?_); refine r_nil ?_; exact rfl
        · exact rfl
        · exact rfl
        apply r_guardG (s := 240) rfl rfl rfl
        · intro hg1 hg2; apply opT_of; (refine mvS rfl ?_); refine r_nil ?_; exact rfl
        · exact rfl
        · exact rfl
        apply r_guardG (s := 240) rfl rfl rfl
        · intro hg1 hg2; apply opT_of; (refine mvI rfl ?_); refine r_nil ?_; exact rfl
        · exact rfl
        · exact rfl
        apply r_guardG (s := 240) rfl rfl rfl
        · intro hg1 hg2; apply opT_strip (s := 244) rfl (by (rw [hg1, hg2]; rfl)); apply opT_strip (s := 245) rfl (by (rw [hg1, hg2]; rfl)); apply opT_of; (refine r_call (c_Index_int _ _) rfl rfl rfl rfl rfl ?_); refine r_nil ?_; exact rfl
        · exact rfl
        · exact rfl
        apply r_guardG (s := 240) rfl rfl rfl
        · intro hg1 hg2; apply opT_strip (s := 243) rfl (by (rw [hg1, hg2]; rfl)); apply opT_strip (s := 246) rfl (by (rw [hg1, hg2]; rfl)); apply opT_of; (refine r_bin rfl rfl rfl ?_); refine r_nil ?_; exact rfl
        · exact rfl
        · exact rfl
        apply r_guard (s := 234) rfl rfl rfl
        · intro hg; apply opT_strip (s := 240) rfl (by (rw [hg]; rfl)); apply opT_stripG (s := 247) rfl (by (rw [hg]; rfl)); apply opT_of; (refine r_and rfl rfl ?_); refine r_nil ?_; exact rfl
        · exact rfl
        · exact rfl
        refine r_or rfl rfl ?_
        refine r_nil ?_
        refine i_then ?_
        refine t_cond_ff rfl (safer7 hp (tryO_right hp (skFill t) k.1) (mustJ_true hx hy)) ?_
        refine t_skip ?_
        refine i_block ?_
        refine i_then ?_
        refine t_region ?_
        refine r_add rfl rfl (by omega) (by omega) ?_
        refine mvI rfl ?_
        refine r_nil ?_
        refine i_round (⟨k.1 + 1, by omega⟩) ?_ (by show 8 - (k.1 + 1) < 8 - k.1; omega)
        (refine Ent.mk' ?_ ?_ <;> (repeat' (first | exact allSub_zero | exact allTags_nil | refine allSub_succ' ?_ (Ty.sub_any _) | refine allSub_succ' ?_ (Ty.sub_refl _) | refine allTags_cons rfl (Cont.sub_refl _) ?_)))
        all_goals skip
      ·
        refine t_exit ?_
        refine i_then_exit ?_
        refine i_then_exit ?_
        refine i_block_exit rfl ?_
        refine i_then ?_
        refine t_seq ?_
        refine t_region ?_
        refine r_call (c_awake) rfl rfl rfl rfl rfl ?_
        refine asB rfl ?_
        refine r_nil ?_
        refine i_then ?_
        refine t_ret ?_
        refine i_rp1 rfl rfl ?_
        all_goals exact ret_refl rfl rfl
end Go.Proofs.Ytifgbnbkimcchaa

namespace Go.T
open Go Go.RowKit Go.ChangeShapes Go.WideShapes Go.ChangeAt
def pubs : Tags := fun _ => none
theorem wf_pubs (w : World) : Wf w pubs := ⟨fun _ _ h => (by cases h), fun _ _ _ h => (by cases h)⟩
theorem pubs_zero : ∀ b t, pubs b = some t → t = 0 := fun _ _ h => by cases h
structure Rd {α : Type} (P : Program) (e : TypeId) (E : El α) : Prop where
  size : P.cellsOf e = E.size
  pos : 0 < E.size
  rd : ∀ {H : Type} {enc : TypeId × Value → H} {w : World} {base : Nat} {held : Bool} {n : Nat} {cs : List Value} {y : DataW H × List MemPlace}, DataW.trod enc P w base (fun _ => true) held n e cs = some y → ∃ x, dens w pubs (E.tys x) cs
section
variable {H : Type} {enc : TypeId × Value → H} {P : Program} {w : World} {base : Nat} {held : Bool} {α : Type} {E : El α} {t e : TypeId} {n : Nat} {cs : List Value} {y : DataW H × List MemPlace}
theorem rd_sl (hR : Rd P e E) (ht : P.underlying t = some (.slice e)) (h : DataW.trod enc P w base (fun _ => true) held n t cs = some y) : ∃ v xs, cs = [v] ∧ (Ty.sl E xs).den w pubs v := by
  rcases Go.Deep.open_slice ht h with ⟨rfl, _⟩ | ⟨a, len, cap, m, k, D, Pl, rfl, _, hl, hm, hmm, _, hel⟩
  · exact ⟨_, [], rfl, none, 0, rfl, Nat.le_refl _, Nat.zero_le _, fun h => absurd h (Nat.lt_irrefl _)⟩
  have hlm : len ≤ m := by rw [hmm]; simpa using hl
  have hX : ∀ i : Fin len, ∃ x : α, ∃ cs', w.cells? base (a.add (i.1 * P.cellsOf e)) (P.cellsOf e) = some cs' ∧ dens w pubs (E.tys x) cs' := fun i => by
    obtain ⟨cs', h1, h2⟩ := hel i.1 (Nat.lt_of_lt_of_le i.2 hlm)
    obtain ⟨x, hx⟩ := hR.rd h2
    exact ⟨x, cs', h1, hx⟩
  let X : Fin len → α := fun i => (hX i).choose
  have hXs : ∀ i : Fin len, ∃ cs', w.cells? base (a.add (i.1 * P.cellsOf e)) (P.cellsOf e) = some cs' ∧ dens w pubs (E.tys (X i)) cs' := fun i => (hX i).choose_spec
  have hlen : (List.ofFn X).length = len := by simp
  refine ⟨_, List.ofFn X, rfl, some a, cap, by rw [hlen], by rw [hlen]; exact hl, hm, fun h0 => ?_⟩
  rw [hlen] at h0
  have hcell : ∀ (i : Fin len) (j : Nat) (u : Ty), (E.tys (X i))[j]? = some u → ∃ v, w.cell? (a.add (i.1 * E.size + j)) = some v ∧ u.den w pubs v := fun i j u hu => by
    obtain ⟨cs', h1, h2⟩ := hXs i
    obtain ⟨v, hv, hd⟩ := dens_get h2 j u hu
    obtain ⟨_, g1, g2⟩ := World.cells?_some h1
    have hj : j < P.cellsOf e := by
      rw [hR.size, ← E.len (X i)]
      exact (List.getElem?_eq_some_iff.1 hu).1
    refine ⟨v, ?_, hd⟩
    have := g2 j hj
    rw [Go.Deep.add_add, hv, hR.size] at this
    exact this
  have hsz := hR.pos
  have hfirst : ∃ v, w.cell? (a.add 0) = some v := by
    obtain ⟨u, hu⟩ : ∃ u, (E.tys (X ⟨0, h0⟩))[0]? = some u := ⟨_, List.getElem?_eq_getElem (by rw [E.len]; exact hsz)⟩
    obtain ⟨v, hv, _⟩ := hcell ⟨0, h0⟩ 0 u hu
    exact ⟨v, by simpa using hv⟩
  obtain ⟨b, off, sp⟩ := a
  obtain ⟨v0, hv0⟩ := hfirst
  have hsp : sp = none := by simpa [Addr.add] using World.cell?_spot hv0
  subst hsp
  have hb : b < w.heap.size := by
    obtain ⟨cs', h1, _⟩ := hXs ⟨0, h0⟩
    have := World.cells?_block h1 (by rw [hR.size]; exact hsz)
    simpa [Addr.add] using this
  refine ⟨b, off, rfl, rfl, hb, fun i u hu => ?_⟩
  have hi : i < len * E.size := by
    have := (List.getElem?_eq_some_iff.1 hu).1
    rw [flat_len, hlen] at this; exact this
  have hk : i / E.size < len := Nat.div_lt_of_lt_mul (by rw [Nat.mul_comm]; exact hi)
  have hj : i % E.size < E.size := Nat.mod_lt _ hsz
  have hij : i / E.size * E.size + i % E.size = i := by rw [Nat.mul_comm]; exact Nat.div_add_mod i E.size
  have hu2 := hu
  rw [← hij, flat_get E _ _ _ (by rw [hlen]; exact hk) hj, List.getElem?_ofFn, dif_pos hk] at hu2
  obtain ⟨v, hv, hd⟩ := hcell ⟨i / E.size, hk⟩ (i % E.size) u hu2
  refine ⟨v, ?_, hd⟩
  rw [← Go.WideShapes.add_plain]
  rw [hij] at hv
  exact hv
theorem rd_sl1 {c : Value} (hR : Rd P e E) (ht : P.underlying t = some (.slice e)) (h : DataW.trod enc P w base (fun _ => true) held n t [c] = some y) : ∃ xs, (Ty.sl E xs).den w pubs c := by
  obtain ⟨v, xs, e, hd⟩ := rd_sl hR ht h
  exact ⟨xs, by rw [show c = v by simpa using e]; exact hd⟩
end
section
variable {w w' : World} {S K : Nat → Prop} {M' : Tags}
theorem le_block (le : Le S K w pubs w' M') {b : Nat} (hb : b < w.heap.size) : w'.heap[b]? = w.heap[b]? := (le.pub b hb rfl).2
theorem le_same (le : Le S K w pubs w' M') {p : MemPlace} (hp : p.block < w.heap.size) : w.sameAt w' p := by
  cases p with
  | cell b o => exact World.cell?_of_block (w := w) (le_block le hp)
  | map b => exact le_block le hp
theorem le_kept (le : Le S K w pubs w' M') (may : MemPlace → Prop) : w.keptBut w' may := by
  refine ⟨le.os, le.out, fun i hi => ?_⟩
  have e := le_block le hi
  rw [e]
  split
  · rename_i h1 h2
    rw [h1] at h2
    simp only [Option.some.injEq, Obj.cells.injEq] at h2
    obtain ⟨rfl, rfl, rfl⟩ := h2
    exact ⟨rfl, rfl, rfl, fun _ _ => rfl⟩
  · rename_i h1 h2
    rw [h1] at h2
    simp only [Option.some.injEq, Obj.map.injEq] at h2
    exact Or.inr ⟨h2.1.symm, h2.2.symm⟩
  · rfl
theorem le_frozen (le : Le S K w pubs w' M') {a : Addr} (ha : a.block < w.heap.size) : w'.frozen? a = w.frozen? a := by
  unfold World.frozen?
  rw [le_block le ha]
end
section
variable {H : Type} {enc : TypeId × Value → H} {P : Program}
theorem trodAll_stays (hl : laidOutB P = true) {w w' : World} {sp : Nat → Bool} : ∀ {ts : List TypeId} {vs : List Value} {ds : List (DataW H)} {ps : List MemPlace}, (∀ t ∈ ts, P.readableRec t = true ∧ t < P.types.size) →
    DataW.TrodAll enc P w 0 (fun _ => true) true ts vs ds ps → (∀ p ∈ ps, w.sameAt w' p) → (∀ p ∈ ps, sp p.block = true) → DataW.TrodAll enc P w' 0 sp true ts vs ds ps
  | [], [], [], _, _, h, _, _ => h
  | t :: ts, v :: vs, d :: ds, _, ht, ⟨p, q, h1, h2, e⟩, hs, hsp => by
    subst e
    have h0 := ht t List.mem_cons_self
    exact ⟨p, q, Go.WideElems.Trod_stays hl h0.1 h0.2 h1 (fun x hx => hs x (List.mem_append_left _ hx)) (fun x hx => hsp x (List.mem_append_left _ hx)),
      trodAll_stays hl (fun t h => ht t (List.mem_cons_of_mem _ h)) h2 (fun x hx => hs x (List.mem_append_right _ hx)) (fun x hx => hsp x (List.mem_append_right _ hx)), rfl⟩
theorem post_true {f : Func} {s : ChangeSpec} {apart fresh handsOn again : Bool} {W W' : World} {args : Array Value} {ds : List (DataW H)} {before : List MemPlace} {S K : Nat → Prop} {M' : Tags}
    (hl : laidOutB P = true) (hv : s.vars = []) (hrd : ∀ t ∈ f.params.toList, P.readableRec t = true ∧ t < P.types.size) {tb : TypeId} (htb : P.underlying tb = some .bool) (hrt : f.resultTypes = #[tb])
    (hW : DataW.Whole enc P f.params.toList s.vars apart W args.toList ds [] before) (hres : (s.fn H (ds ++ [])).results = [.lit (.bool true)]) (hargs : (s.fn H (ds ++ [])).args = ds) (hvars : (s.fn H (ds ++ [])).vars = [])
    (le : Le S K W pubs W' M') : s.post enc P f apart fresh handsOn again W args (.bool true) W' := by
  have hW0 := hW
  obtain ⟨p, q, hA, hV, hb, hfz, hn⟩ := hW0
  have hlt := DataW.TrodAll.lt hA
  have hq : q = [] := by rw [hv] at hV; exact (trodVars_none hV).2
  subst hq
  have hbp : before = p := by rw [hb]; simp
  have hre : ∀ (b : Nat) (sp : Nat → Bool) (hd : Bool), DataW.TrodAll enc P W' b sp hd f.resultTypes.toList ((Value.bool true).resultList f.resultTypes.size) (s.fn H (ds ++ [])).results [] := fun b sp hd => by
    rw [hrt, hres]; exact trodAll_mk1 (shut_bool htb true)
  have har : ∀ sp : Nat → Bool, (∀ x ∈ p, sp x.block = true) → DataW.TrodAll enc P W' 0 sp true f.params.toList args.toList (s.fn H (ds ++ [])).args p := fun sp hsp => by
    rw [hargs]; exact trodAll_stays hl hrd hA (fun x hx => le_same le (hlt x hx)) hsp
  have hva : ∀ sp : Nat → Bool, DataW.TrodVars enc P W' sp s.vars (s.fn H (ds ++ [])).vars [] := fun sp => by
    rw [hvars, hv]; exact rfl
  have hok : ∀ (j : Nat) (t : TypeId) (r : Value), f.resultTypes[j]? = some t → ((Value.bool true).resultList f.resultTypes.size)[j]? = some r → Value.okWide P W' .any 0 t r := by
    exact ok_one (by rw [hrt]) rfl (okWide_bool_mk htb true)
  refine ⟨ds, [], before, [], p, [], hW, hre _ _ _, har _ (fun x hx => by simpa using hlt x hx), hva _, World.keptBut_mono (fun x hx => hx) (le_kept le _), fun _ => ?_⟩
  refine ⟨hok, _, _, ([] ++ p) ++ [], ⟨[] ++ p, [], trodAll_append (har _ (fun _ _ => rfl)) (hre _ _ _), hva _, rfl, ?_, ?_⟩, ?_⟩
  · intro b off hp
    have hp' : MemPlace.cell b off ∈ p := by simpa using hp
    rw [le_frozen le (hlt _ hp')]
    exact hfz b off (by rw [hbp]; exact hp')
  · intro ha
    have := hn ha
    rw [hbp] at this
    simpa using this
  · intro x hx _
    rw [hbp]
    simpa using hx
end
end Go.T

namespace Go.Proofs.Ytifgbnbkimcchaa
open Go Go.T Go.RowKit Go.ChangeShapes Go.WideShapes Go.ChangeAt
section
variable {H : Type} {enc : TypeId × Value → H} {W : World} {base : Nat} {held : Bool} {v : Value} {d : DataW H} {p : List MemPlace}
end
end Go.Proofs.Ytifgbnbkimcchaa

namespace Go.Proofs.Ytifgbnbkimcchaa
open Go Go.T Go.RowKit Go.ChangeShapes Go.WideShapes Go.ChangeAt
theorem rdU8 : Rd Try.prog 5 U8 := ⟨by kernel_rfl, by decide, fun h => by
  obtain ⟨i, rfl, _⟩ := DataW.trod_int Try.underlying5 h
  exact ⟨i, rfl, trivial⟩⟩
section
variable {H : Type} {enc : TypeId × Value → H} {W : World} {base : Nat} {held : Bool} {v : Value} {d : DataW H} {p : List MemPlace}
set_option maxRecDepth 100000 in
theorem rd_u8 (hv : Value.okWide Try.prog W .any base 5 v) (h : DataW.Trod enc Try.prog W 0 (fun _ => true) held 5 v d p) : ∃ n : Int, (0 ≤ n ∧ n ≤ 255) ∧ (Ty.int .u8 n).den W pubs v := by
  obtain ⟨n, rfl, _, _, hw⟩ := open_int Try.underlying5 hv h
  refine ⟨n, ?_, rfl⟩
  simp [Lit.wf, IntKind.wrap] at hw
  have e1 : IntKind.u8.min = 0 := rfl
  have e2 : IntKind.u8.max = 255 := rfl
  omega
set_option maxRecDepth 100000 in
theorem rd_bytes (hv : Value.okWide Try.prog W .any base 92 v) (h : DataW.Trod enc Try.prog W 0 (fun _ => true) held 92 v d p) : ∃ l, (Ty.sl U8 l).den W pubs v := by
  obtain ⟨a, len, cap, rfl⟩ := okWide_slice Try.underlying92 hv
  obtain ⟨n, hn⟩ := h
  exact rd_sl1 rdU8 Try.underlying92 (by simpa [Value.cells] using hn)
end
end Go.Proofs.Ytifgbnbkimcchaa
