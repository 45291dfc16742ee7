/- Lemmas: the program and the reference walked, plain laws. -/
import Derived.Test.YtelbollidfdcjaaGreatLb
namespace Go.Proofs.YtelbollidfdcjaaGreat
open Go Go.T
set_option maxHeartbeats 2000000
structure aj.Small (y : aj) : Prop where
  bins : y.bins.length ≤ 1000
  moves : y.moves.length ≤ 1000
  levels : y.levels.length ≤ 1000
def y4 (y : aj) : Ty := Ty.Qi 135 [eA y]
def HK (y : aj) : Ty := Ty.pp [Ty.kP 142 [Ty.pp [y4 y]]]
theorem H9 {y : aj} (h : lO y = false) : 1 ≤ y.days ∧ y.days ≤ 5 := by
 unfold lO at h
 simp only [Bool.or_eq_false_iff, Bool.not_eq_false', fB] at h
 exact h.1.1.1
def eE (y : aj) (k : Int) : Int := if bO y = 0 then if y.bin k = true then 0 else 1 else bO y
theorem HG {y : aj} {k : Int} (h : (decide (bO y = 0) && !y.bin k) = true) : 1 = eE y k := by
 rw [Bool.and_eq_true, decide_eq_true_eq, Bool.not_eq_true'] at h
 unfold eE; rw [if_pos h.1, if_neg (by rw [h.2]; decide)]
theorem H8 {y : aj} {k : Int} (h : (decide (bO y = 0) && !y.bin k) = false) : bO y = eE y k := by
 unfold eE
 by_cases e : bO y = 0
 ·rw [decide_eq_true e, Bool.true_and, Bool.not_eq_false'] at h
  rw [if_pos e, if_pos h, e]
 rw [if_neg e]
attribute [local irreducible] gF eX lq nY g7 gx g9 g5 g8 nW gz nT dM fj nM gC oB nth fW dR ay dK bodyPost Exit.then Exit.inBlock Code.wp Code.wpIn n9 hO nO ni gy eU cM cN bodyPostM dO
set_option maxRecDepth 100000 in
theorem vV (n lo hi : Int) : dK Tryz.prog 111 [Ty.int .i64 n, Ty.int .i64 lo, Ty.int .i64 hi] (Ty.bool (zh n lo hi)) := by
 refine au Tryz.func111 rfl (by decide) Tryz.ntmps111 (by exact Nat.le_of_ble_eq_true rfl) fun w0 M0 => ?_
 refine aE (aB (dF rfl (aD (aC (aE (aB (bG rfl (bG rfl (bA rfl rfl rfl ?_)))))))))
 refine eF rfl ?_
 apply aM (s := 10) rfl rfl rfl
 ·intro hg; apply aP; (refine bG rfl ?_); refine aD ?_; exact rfl
 ·exact rfl
 ·exact rfl
 apply aM (s := 10) rfl rfl rfl
 ·intro hg; apply aP; (refine bG rfl ?_); refine aD ?_; exact rfl
 ·exact rfl
 ·exact rfl
 apply aM (s := 10) rfl rfl rfl
 ·intro hg; apply aK (s := 11) rfl (by (rw [hg]; rfl)); apply aK (s := 12) rfl (by (rw [hg]; rfl)); apply aP; (refine bA rfl rfl rfl ?_); refine aD ?_; exact rfl
 ·exact rfl
 ·exact rfl
 refine dm rfl rfl (dF rfl (aD (aC (az (bU rfl rfl ?_)))))
 all_goals exact cI rfl rfl
set_option maxRecDepth 100000 in
theorem GW (y : aj) (hs : y.Small) (n : Int) : dK Tryz.prog 135 [eA y, Ty.int .i64 n] (Ty.bool (y.bin n)) := by
 refine au Tryz.func135 rfl (by decide) Tryz.ntmps135 (by exact Nat.le_of_ble_eq_true rfl) fun w0 M0 => ?_
 have hs1 := hs.bins
 refine aE (aB (bH rfl (dF rfl (aD (aC (aE (aB (bG rfl ?_))))))))
 refine aJ rfl rfl rfl rfl rfl (by decide) ?_
 refine aL rfl rfl rfl rfl (b9 rfl rfl rfl ?_)
 refine fk rfl rfl (by omega) (by omega) ?_
 refine ak (vV _ _ _) rfl rfl rfl rfl rfl (dF rfl (aD (aC (az (bU rfl rfl ?_)))))
 all_goals exact cI rfl rfl
set_option maxRecDepth 100000 in
theorem QD (y : aj) (n : Int) : dK Tryz.prog 122 [eA y, Ty.int .i64 n] (Ty.bool (y.time n)) := by
 refine au Tryz.func122 rfl (by decide) Tryz.ntmps122 (by exact Nat.le_of_ble_eq_true rfl) fun w0 M0 => ?_
 refine aE (aB (bH rfl (dF rfl (aD (aC (aE (aB (bG rfl ?_))))))))
 refine aJ rfl rfl rfl rfl rfl (by decide) ?_
 refine aL rfl rfl rfl rfl (ak (vV _ _ _) rfl rfl rfl rfl rfl (dF rfl (aD (aC (az (bU rfl rfl ?_))))))
 all_goals exact cI rfl rfl
set_option maxRecDepth 100000 in
theorem uJ (s : Span) : dK Tryz.prog 145 [Ty.agg (cA.tys s)] (Ty.bool (fQ s)) := by
 refine au Tryz.func145 rfl (by decide) Tryz.ntmps145 (by exact Nat.le_of_ble_eq_true rfl) fun w0 M0 => ?_
 refine aE (aB (bH rfl (dF rfl (aD (aC (aE (aB ?_)))))))
 refine aJ rfl rfl rfl rfl rfl (by decide) ?_
 refine aL rfl rfl rfl rfl (ak (vV _ _ _) rfl rfl rfl rfl rfl (eF rfl ?_))
 apply aM (s := 6) rfl rfl rfl
 ·intro hg; apply aP; (refine aJ rfl rfl rfl rfl rfl (by decide) ?_); refine aD ?_; exact rfl
 ·exact rfl
 ·exact rfl
 apply aM (s := 6) rfl rfl rfl
 ·intro hg; apply aK (s := 7) rfl (by (rw [hg]; rfl)); apply aP; (refine aL rfl rfl rfl rfl ?_); refine aD ?_; exact rfl
 ·exact rfl
 ·exact rfl
 apply aM (s := 6) rfl rfl rfl
 ·intro hg; apply aK (s := 8) rfl (by (rw [hg]; rfl)); apply aP; (refine ak (vV _ _ _) rfl rfl rfl rfl rfl ?_); refine aD ?_; exact rfl
 ·exact rfl
 ·exact rfl
 refine dm rfl rfl (dF rfl (aD (aC (az (bU rfl rfl ?_)))))
 all_goals exact cI rfl rfl
set_option maxRecDepth 100000 in
theorem xE (s : Span) : dK Tryz.prog 154 [Ty.agg (cA.tys s)] (Ty.bool (fu s)) := by
 refine au Tryz.func154 rfl (by decide) Tryz.ntmps154 (by exact Nat.le_of_ble_eq_true rfl) fun w0 M0 => ?_
 refine aE (aB (bH rfl (dF rfl (aD (aC (aE (aB ?_)))))))
 refine aJ rfl rfl rfl rfl rfl (by decide) ?_
 refine aL rfl rfl rfl rfl ?_
 refine aJ rfl rfl rfl rfl rfl (by decide) ?_
 refine aL rfl rfl rfl rfl (bA rfl rfl rfl (dF rfl (aD (aC (az (bU rfl rfl ?_))))))
 all_goals exact cI rfl rfl
set_option maxRecDepth 100000 in
theorem Bu (y : aj) (hs : y.Small) (n : Int) : dK Tryz.prog 142 [Ty.int .i64 n, Ty.pp [y4 y]] (Ty.bool (y.fin n)) := by
 refine au Tryz.func142 rfl (by decide) Tryz.ntmps142 (by exact Nat.le_of_ble_eq_true rfl) fun w0 M0 => ?_
 refine aE (aB (dF rfl (aD (aC (aE (aB (bG rfl (bA rfl rfl rfl (eF rfl ?_)))))))))
 apply aM (s := 6) rfl rfl rfl
 ·intro hg; apply aP; (refine aL rfl rfl rfl rfl ?_); refine aD ?_; exact rfl
 ·exact rfl
 ·exact rfl
 apply aM (s := 6) rfl rfl rfl
 ·intro hg; apply aP; (refine bG rfl ?_); refine aD ?_; exact rfl
 ·exact rfl
 ·exact rfl
 apply aM (s := 6) rfl rfl rfl
 ·intro hg; apply aK (s := 7) rfl (by (rw [hg]; rfl)); apply aK (s := 8) rfl (by (rw [hg]; rfl)); apply aP; (refine fC rfl (FA (GW y hs n) rfl rfl rfl rfl rfl rfl) rfl ?_); refine aD ?_; exact rfl
 ·exact rfl
 ·exact rfl
 refine iK rfl rfl (dF rfl (aD (aC (az (bU rfl rfl ?_)))))
 all_goals exact cI rfl rfl
set_option maxRecDepth 100000 in
theorem KN (b : tM) : dK Tryz.prog 144 [Ty.agg (fO.tys b)] (Ty.bool (zh b.holds 0 300 && fQ b.first)) := by
 refine au Tryz.func144 rfl (by decide) Tryz.ntmps144 (by exact Nat.le_of_ble_eq_true rfl) fun w0 M0 => ?_
 refine aE (aB (bH rfl (dF rfl (aD (aC (aE (aB ?_)))))))
 refine aJ rfl rfl rfl rfl rfl (by decide) ?_
 refine aL rfl rfl rfl rfl (ak (vV _ _ _) rfl rfl rfl rfl rfl (eF rfl ?_))
 apply aM (s := 6) rfl rfl rfl
 ·intro hg; apply aP; (refine aJ rfl rfl rfl rfl rfl (by decide) ?_); refine aD ?_; exact rfl
 ·exact rfl
 ·exact rfl
 apply aM (s := 6) rfl rfl rfl
 ·intro hg; apply aK (s := 7) rfl (by (rw [hg]; rfl)); apply aP; (refine aY rfl rfl rfl (by exact Nat.le_of_ble_eq_true rfl) ?_); refine aD ?_; exact rfl
 ·exact rfl
 ·exact rfl
 apply aM (s := 6) rfl rfl rfl
 ·intro hg; apply aK (s := 8) rfl (by (rw [hg]; rfl)); apply aP; (refine ak (uJ _) rfl rfl rfl rfl rfl ?_); refine aD ?_; exact rfl
 ·exact rfl
 ·exact rfl
 refine dm rfl rfl (dF rfl (aD (aC (az (bU rfl rfl ?_)))))
 all_goals exact cI rfl rfl
set_option maxRecDepth 100000 in
theorem Lr (m : Move) : dK Tryz.prog 147 [Ty.agg (eH.tys m)] (Ty.bool (fQ m.sacks)) := by
 refine au Tryz.func147 rfl (by decide) Tryz.ntmps147 (by exact Nat.le_of_ble_eq_true rfl) fun w0 M0 => ?_
 refine aE (aB (bH rfl (dF rfl (aD (aC (aE (aB ?_)))))))
 refine aJ rfl rfl rfl rfl rfl (by decide) ?_
 refine aY rfl rfl rfl (by exact Nat.le_of_ble_eq_true rfl) ?_
 refine ak (uJ _) rfl rfl rfl rfl rfl (dF rfl (aD (aC (az (bU rfl rfl ?_)))))
 all_goals exact cI rfl rfl
set_option maxRecDepth 100000 in
theorem Kq (l : Level) : dK Tryz.prog 149 [Ty.agg (dY.tys l)] (Ty.bool (fQ l.sacks)) := by
 refine au Tryz.func149 rfl (by decide) Tryz.ntmps149 (by exact Nat.le_of_ble_eq_true rfl) fun w0 M0 => ?_
 refine aE (aB (bH rfl (dF rfl (aD (aC (aE (aB ?_)))))))
 refine aJ rfl rfl rfl rfl rfl (by decide) ?_
 refine aY rfl rfl rfl (by exact Nat.le_of_ble_eq_true rfl) ?_
 refine ak (uJ _) rfl rfl rfl rfl rfl (dF rfl (aD (aC (az (bU rfl rfl ?_)))))
 all_goals exact cI rfl rfl
set_option maxRecDepth 100000 in
theorem MC (y : aj) (hs : y.Small) (hd : 1 ≤ y.days ∧ y.days ≤ 5) (m : Move) : dK Tryz.prog 150 [Ty.agg (eH.tys m), Ty.pp (bC y), HK y] (Ty.bool ((zh m.day 0 (y.days - 1) && y.fin m.src) && y.fin m.dst)) := by
 refine au Tryz.func150 rfl (by decide) Tryz.ntmps150 (by exact Nat.le_of_ble_eq_true rfl) fun w0 M0 => ?_
 refine aE (aB (bH rfl (dF rfl (aD (aC (aE (aB ?_)))))))
 refine aJ rfl rfl rfl rfl rfl (by decide) ?_
 refine aL rfl rfl rfl rfl ?_
 refine aJ rfl rfl rfl rfl rfl (by decide) ?_
 refine aL rfl rfl rfl rfl ?_
 refine fk rfl rfl (by omega) (by omega) ?_
 refine ak (vV _ _ _) rfl rfl rfl rfl rfl (eF rfl ?_)
 apply aM (s := 11) rfl rfl rfl
 ·intro hg; apply aP; (refine aL rfl rfl rfl rfl ?_); refine aD ?_; exact rfl
 ·exact rfl
 ·exact rfl
 apply aM (s := 11) rfl rfl rfl
 ·intro hg; apply aP; (refine aJ rfl rfl rfl rfl rfl (by decide) ?_); refine aD ?_; exact rfl
 ·exact rfl
 ·exact rfl
 apply aM (s := 11) rfl rfl rfl
 ·intro hg; apply aK (s := 13) rfl (by (rw [hg]; rfl)); apply aP; (refine aL rfl rfl rfl rfl ?_); refine aD ?_; exact rfl
 ·exact rfl
 ·exact rfl
 apply aM (s := 11) rfl rfl rfl
 ·intro hg; apply aK (s := 12) rfl (by (rw [hg]; rfl)); apply aK (s := 14) rfl (by (rw [hg]; rfl)); apply aP; (refine fC rfl (dx (Bu y hs m.src) rfl rfl rfl rfl rfl rfl) rfl ?_); refine aD ?_; exact rfl
 ·exact rfl
 ·exact rfl
 refine dm rfl rfl (eF rfl ?_)
 apply aM (s := 17) rfl rfl rfl
 ·intro hg; apply aP; (refine aL rfl rfl rfl rfl ?_); refine aD ?_; exact rfl
 ·exact rfl
 ·exact rfl
 apply aM (s := 17) rfl rfl rfl
 ·intro hg; apply aP; (refine aJ rfl rfl rfl rfl rfl (by decide) ?_); refine aD ?_; exact rfl
 ·exact rfl
 ·exact rfl
 apply aM (s := 17) rfl rfl rfl
 ·intro hg; apply aK (s := 19) rfl (by (rw [hg]; rfl)); apply aP; (refine aL rfl rfl rfl rfl ?_); refine aD ?_; exact rfl
 ·exact rfl
 ·exact rfl
 apply aM (s := 17) rfl rfl rfl
 ·intro hg; apply aK (s := 18) rfl (by (rw [hg]; rfl)); apply aK (s := 20) rfl (by (rw [hg]; rfl)); apply aP; (refine fC rfl (dx (Bu y hs m.dst) rfl rfl rfl rfl rfl rfl) rfl ?_); refine aD ?_; exact rfl
 ·exact rfl
 ·exact rfl
 refine dm rfl rfl (dF rfl (aD (aC (az (bU rfl rfl ?_)))))
 all_goals exact cI rfl rfl
set_option maxRecDepth 100000 in
theorem Ld (y : aj) (hs : y.Small) (l : Level) : dK Tryz.prog 151 [Ty.agg (dY.tys l), Ty.pp (bC y), Ty.pp [y4 y]] (Ty.bool (y.time l.day && y.bin l.bin)) := by
 refine au Tryz.func151 rfl (by decide) Tryz.ntmps151 (by exact Nat.le_of_ble_eq_true rfl) fun w0 M0 => ?_
 refine aE (aB (bH rfl (dF rfl (aD (aC (aE (aB ?_)))))))
 refine aY rfl rfl rfl (by exact Nat.le_of_ble_eq_true rfl) ?_
 refine aJ rfl rfl rfl rfl rfl (by decide) ?_
 refine aL rfl rfl rfl rfl (ak (QD y _) rfl rfl rfl rfl rfl (eF rfl ?_))
 apply aM (s := 9) rfl rfl rfl
 ·intro hg; apply aP; (refine aL rfl rfl rfl rfl ?_); refine aD ?_; exact rfl
 ·exact rfl
 ·exact rfl
 apply aM (s := 9) rfl rfl rfl
 ·intro hg; apply aP; (refine aJ rfl rfl rfl rfl rfl (by decide) ?_); refine aD ?_; exact rfl
 ·exact rfl
 ·exact rfl
 apply aM (s := 9) rfl rfl rfl
 ·intro hg; apply aK (s := 11) rfl (by (rw [hg]; rfl)); apply aP; (refine aL rfl rfl rfl rfl ?_); refine aD ?_; exact rfl
 ·exact rfl
 ·exact rfl
 apply aM (s := 9) rfl rfl rfl
 ·intro hg; apply aK (s := 10) rfl (by (rw [hg]; rfl)); apply aK (s := 12) rfl (by (rw [hg]; rfl)); apply aP; (refine fC rfl (FA (GW y hs l.bin) rfl rfl rfl rfl rfl rfl) rfl ?_); refine aD ?_; exact rfl
 ·exact rfl
 ·exact rfl
 refine dm rfl rfl (dF rfl (aD (aC (az (bU rfl rfl ?_)))))
 all_goals exact cI rfl rfl
set_option maxRecDepth 100000 in
theorem Ks (m : Move) : dK Tryz.prog 152 [Ty.agg (eH.tys m)] (Ty.bool (!decide (m.src = m.dst))) := by
 refine au Tryz.func152 rfl (by decide) Tryz.ntmps152 (by exact Nat.le_of_ble_eq_true rfl) fun w0 M0 => ?_
 refine aE (aB (bH rfl (dF rfl (aD (aC (aE (aB ?_)))))))
 refine aJ rfl rfl rfl rfl rfl (by decide) ?_
 refine aL rfl rfl rfl rfl ?_
 refine aJ rfl rfl rfl rfl rfl (by decide) ?_
 refine aL rfl rfl rfl rfl (bA rfl rfl rfl (dF rfl (aD (aC (az (bU rfl rfl ?_))))))
 all_goals exact cI rfl rfl
set_option maxRecDepth 100000 in
theorem KD (b : tM) : dK Tryz.prog 153 [Ty.agg (fO.tys b)] (Ty.bool (fu b.first)) := by
 refine au Tryz.func153 rfl (by decide) Tryz.ntmps153 (by exact Nat.le_of_ble_eq_true rfl) fun w0 M0 => ?_
 refine aE (aB (bH rfl (dF rfl (aD (aC (aE (aB ?_)))))))
 refine aJ rfl rfl rfl rfl rfl (by decide) ?_
 refine aY rfl rfl rfl (by exact Nat.le_of_ble_eq_true rfl) ?_
 refine ak (xE _) rfl rfl rfl rfl rfl (dF rfl (aD (aC (az (bU rfl rfl ?_)))))
 all_goals exact cI rfl rfl
set_option maxRecDepth 100000 in
theorem Jz (m : Move) : dK Tryz.prog 155 [Ty.agg (eH.tys m)] (Ty.bool (fu m.sacks)) := by
 refine au Tryz.func155 rfl (by decide) Tryz.ntmps155 (by exact Nat.le_of_ble_eq_true rfl) fun w0 M0 => ?_
 refine aE (aB (bH rfl (dF rfl (aD (aC (aE (aB ?_)))))))
 refine aJ rfl rfl rfl rfl rfl (by decide) ?_
 refine aY rfl rfl rfl (by exact Nat.le_of_ble_eq_true rfl) ?_
 refine ak (xE _) rfl rfl rfl rfl rfl (dF rfl (aD (aC (az (bU rfl rfl ?_)))))
 all_goals exact cI rfl rfl
set_option maxRecDepth 100000 in
theorem H7 (l : Level) : dK Tryz.prog 156 [Ty.agg (dY.tys l)] (Ty.bool (fu l.sacks)) := by
 refine au Tryz.func156 rfl (by decide) Tryz.ntmps156 (by exact Nat.le_of_ble_eq_true rfl) fun w0 M0 => ?_
 refine aE (aB (bH rfl (dF rfl (aD (aC (aE (aB ?_)))))))
 refine aJ rfl rfl rfl rfl rfl (by decide) ?_
 refine aY rfl rfl rfl (by exact Nat.le_of_ble_eq_true rfl) ?_
 refine ak (xE _) rfl rfl rfl rfl rfl (dF rfl (aD (aC (az (bU rfl rfl ?_)))))
 all_goals exact cI rfl rfl
set_option maxRecDepth 100000 in
theorem lF (y : aj) (hs : y.Small) : dK Tryz.prog 70 [eA y] (Ty.int .i64 (bO y)) := by
 refine au Tryz.func70 rfl (by decide) Tryz.ntmps70 (by exact Nat.le_of_ble_eq_true rfl) fun w0 M0 => ?_
 have hs1 := hs.bins
 have hs2 := hs.moves
 have hs3 := hs.levels
 refine aE (aB (bH rfl (bZ rfl (aD (aC (aE (aB ?_)))))))
 refine aY rfl rfl rfl (by exact Nat.le_of_ble_eq_true rfl) ?_
 refine Ir (l := [eA y]) rfl ?_
 refine bf rfl (by exact List.cons_ne_nil _ _) rfl ?_
 refine cv rfl rfl (by decide) rfl rfl (by exact (rfl : _ = Ty.Qi _ _)) rfl (by exact Nat.le_of_ble_eq_true rfl) rfl rfl (by exact (rfl : _ = [_])) ?_
 refine aD (aC (aE ?_))
 refine lP (tg := 4) [(3, Ty.pp [y4 y])] (by decide) rfl ⟨m5 (T := 118) (tg := 4) (off := 0) (l := [y4 y]) rfl rfl rfl (by decide), trivial⟩ ?_
 refine aB (dW rfl ?_)
 refine bf rfl (by exact List.cons_ne_nil _ _) rfl ?_
 refine cv rfl rfl (by decide) rfl rfl (by exact (rfl : _ = Ty.kP _ _)) rfl (by exact Nat.le_of_ble_eq_true rfl) rfl rfl (by exact (rfl : _ = [_])) ?_
 refine aD (aC (aE (aZ (aE ?_))))
 refine lP (tg := 5) [(4, HK y)] (by decide) rfl ⟨m5 (T := 118) (tg := 5) (off := 0) (l := [Ty.kP 142 [Ty.pp [y4 y]]]) rfl rfl rfl (by decide), trivial⟩ ?_
 refine aB ?_
 refine aJ rfl rfl rfl rfl rfl (by decide) ?_
 refine aL rfl rfl rfl rfl (ak (vV _ _ _) rfl rfl rfl rfl rfl (eJ rfl (eF rfl ?_)))
 apply aM (s := 13) rfl rfl rfl
 ·intro hg; apply aP; (refine aJ rfl rfl rfl rfl rfl (by decide) ?_); refine aD ?_; exact rfl
 ·exact rfl
 ·exact rfl
 apply aM (s := 13) rfl rfl rfl
 ·intro hg; apply aK (s := 14) rfl (by (rw [hg]; rfl)); apply aP; (refine aL rfl rfl rfl rfl ?_); refine aD ?_; exact rfl
 ·exact rfl
 ·exact rfl
 apply aM (s := 13) rfl rfl rfl
 ·intro hg; apply aK (s := 15) rfl (by (rw [hg]; rfl)); apply aP; (refine b9 rfl rfl rfl ?_); refine aD ?_; exact rfl
 ·exact rfl
 ·exact rfl
 apply aM (s := 13) rfl rfl rfl
 ·intro hg; apply aK (s := 16) rfl (by (rw [hg]; rfl)); apply aP; (refine ak (vV _ _ _) rfl rfl rfl rfl rfl ?_); refine aD ?_; exact rfl
 ·exact rfl
 ·exact rfl
 apply aM (s := 13) rfl rfl rfl
 ·intro hg; apply aK (s := 17) rfl (by (rw [hg]; rfl)); apply aP; (refine eJ rfl ?_); refine aD ?_; exact rfl
 ·exact rfl
 ·exact rfl
 refine iK rfl rfl (eF rfl ?_)
 apply aM (s := 20) rfl rfl rfl
 ·intro hg; apply aP; (refine aJ rfl rfl rfl rfl rfl (by decide) ?_); refine aD ?_; exact rfl
 ·exact rfl
 ·exact rfl
 apply aM (s := 20) rfl rfl rfl
 ·intro hg; apply aK (s := 21) rfl (by (rw [hg]; rfl)); apply aP; (refine aL rfl rfl rfl rfl ?_); refine aD ?_; exact rfl
 ·exact rfl
 ·exact rfl
 apply aM (s := 20) rfl rfl rfl
 ·intro hg; apply aK (s := 22) rfl (by (rw [hg]; rfl)); apply aP; (refine b9 rfl rfl rfl ?_); refine aD ?_; exact rfl
 ·exact rfl
 ·exact rfl
 apply aM (s := 20) rfl rfl rfl
 ·intro hg; apply aK (s := 23) rfl (by (rw [hg]; rfl)); apply aP; (refine bA rfl rfl rfl ?_); refine aD ?_; exact rfl
 ·exact rfl
 ·exact rfl
 refine iK rfl rfl (eF rfl ?_)
 apply aM (s := 26) rfl rfl rfl
 ·intro hg; apply aP; (refine aJ rfl rfl rfl rfl rfl (by decide) ?_); refine aD ?_; exact rfl
 ·exact rfl
 ·exact rfl
 apply aM (s := 26) rfl rfl rfl
 ·intro hg; apply aK (s := 27) rfl (by (rw [hg]; rfl)); apply aP; (refine aL rfl rfl rfl rfl ?_); refine aD ?_; exact rfl
 ·exact rfl
 ·exact rfl
 apply aM (s := 26) rfl rfl rfl
 ·intro hg; apply aK (s := 28) rfl (by (rw [hg]; rfl)); apply aP; (refine b9 rfl rfl rfl ?_); refine aD ?_; exact rfl
 ·exact rfl
 ·exact rfl
 apply aM (s := 26) rfl rfl rfl
 ·intro hg; apply aK (s := 29) rfl (by (rw [hg]; rfl)); apply aP; (refine bA rfl rfl rfl ?_); refine aD ?_; exact rfl
 ·exact rfl
 ·exact rfl
 refine iK rfl rfl (dF rfl (aD (aC ?_)))
 refine cF rfl (fun hc1 => ?_) (fun hc1 => ?_)
 ·
  refine aE (aB (bZ rfl (aD (aC (az (bB (aS (bU rfl rfl ?_))))))))
  all_goals skip
  exact av rfl rfl (congrArg (Ty.int .i64) (by rw [bO, if_pos (show lO y = true from hc1)]))
 refine aE ?_
 refine fR (B := live [(1, Ty.pp (bC y)), (3, Ty.pp [y4 y]), (4, HK y)] []) ?_ ?_
 ·(refine cV.mk' ?_ ?_ <;> (repeat' (first | exact aH | exact aI | refine aA ?_ (Ty.aT _) | refine aA ?_ (Ty.aF _))))
 refine aB ?_
 refine aJ rfl rfl rfl rfl rfl (by decide) ?_
 refine aL rfl rfl rfl rfl ?_
 refine ak (vO y.bins (Ty.kP _ []) rfl (fun b => zh b.holds 0 300 && fQ b.first) rfl rfl fun b _ => dx (KN b) rfl rfl rfl rfl rfl rfl) rfl rfl rfl rfl rfl ?_
 refine eJ rfl (dF rfl (aD (aC ?_)))
 refine cF rfl (fun hc2 => ?_) (fun hc2 => ?_)
 ·
  refine aE (aB (bZ rfl (aD (aC (az (bB (aS (bU rfl rfl ?_))))))))
  all_goals skip
  exact av rfl rfl (congrArg (Ty.int .i64) (by rw [bO, if_neg (ng (show lO y = false from hc1)), if_pos (show kX y = true from hc2)]))
 refine aE (aB ?_)
 refine aJ rfl rfl rfl rfl rfl (by decide) ?_
 refine aL rfl rfl rfl rfl ?_
 refine ak (nA y.moves (Ty.kP _ []) rfl (fun m => fQ m.sacks) rfl rfl fun m _ => dx (Lr m) rfl rfl rfl rfl rfl rfl) rfl rfl rfl rfl rfl ?_
 refine eJ rfl (eF rfl ?_)
 apply aM (s := 42) rfl rfl rfl
 ·intro hg; apply aP; (refine aJ rfl rfl rfl rfl rfl (by decide) ?_); refine aD ?_; exact rfl
 ·exact rfl
 ·exact rfl
 apply aM (s := 42) rfl rfl rfl
 ·intro hg; apply aK (s := 43) rfl (by (rw [hg]; rfl)); apply aP; (refine aL rfl rfl rfl rfl ?_); refine aD ?_; exact rfl
 ·exact rfl
 ·exact rfl
 apply aM (s := 42) rfl rfl rfl
 ·intro hg; apply aK (s := 44) rfl (by (rw [hg]; rfl)); apply aP; (refine ak (pg y.levels (Ty.kP _ []) rfl (fun l => fQ l.sacks) rfl rfl fun l _ => dx (Kq l) rfl rfl rfl rfl rfl rfl) rfl rfl rfl rfl rfl ?_); refine aD ?_; exact rfl
 ·exact rfl
 ·exact rfl
 apply aM (s := 42) rfl rfl rfl
 ·intro hg; apply aK (s := 45) rfl (by (rw [hg]; rfl)); apply aP; (refine eJ rfl ?_); refine aD ?_; exact rfl
 ·exact rfl
 ·exact rfl
 refine iK rfl rfl (dF rfl (aD (aC ?_)))
 refine cF rfl (fun hc3 => ?_) (fun hc3 => ?_)
 ·
  refine aE (aB (bZ rfl (aD (aC (az (bB (aS (bU rfl rfl ?_))))))))
  all_goals skip
  exact av rfl rfl (congrArg (Ty.int .i64) (by rw [bO, if_neg (ng (show lO y = false from hc1)), if_neg (ng (show kX y = false from hc2)), if_pos (show jB y = true from hc3)]))
 refine aE ?_
 refine fR (B := live [(1, Ty.pp (bC y)), (3, Ty.pp [y4 y]), (4, HK y)] []) ?_ ?_
 ·(refine cV.mk' ?_ ?_ <;> (repeat' (first | exact aH | exact aI | refine aA ?_ (Ty.aT _) | refine aA ?_ (Ty.aF _))))
 have hd := H9 hc1
 refine aB ?_
 refine aJ rfl rfl rfl rfl rfl (by decide) ?_
 refine aL rfl rfl rfl rfl (dW rfl ?_)
 refine ak (nA y.moves (Ty.kP _ [Ty.pp (bC y), HK y]) rfl (fun m => (zh m.day 0 (y.days - 1) && y.fin m.src) && y.fin m.dst) rfl rfl fun m _ => dx (MC y hs hd m) rfl rfl rfl rfl rfl rfl) rfl rfl rfl rfl rfl ?_
 refine eJ rfl (dF rfl (aD (aC ?_)))
 refine cF rfl (fun hc4 => ?_) (fun hc4 => ?_)
 ·
  refine aE (aB (bZ rfl (aD (aC (az (bB (aS (bU rfl rfl ?_))))))))
  all_goals skip
  exact av rfl rfl (congrArg (Ty.int .i64) (by rw [bO, if_neg (ng (show lO y = false from hc1)), if_neg (ng (show kX y = false from hc2)), if_neg (ng (show jB y = false from hc3)), if_pos (show xZ y = true from hc4)]))
 refine aE (aB ?_)
 refine aJ rfl rfl rfl rfl rfl (by decide) ?_
 refine aL rfl rfl rfl rfl (dW rfl ?_)
 refine ak (pg y.levels (Ty.kP _ [Ty.pp (bC y), Ty.pp [y4 y]]) rfl (fun l => y.time l.day && y.bin l.bin) rfl rfl fun l _ => dx (Ld y hs l) rfl rfl rfl rfl rfl rfl) rfl rfl rfl rfl rfl ?_
 refine eJ rfl (dF rfl (aD (aC ?_)))
 refine cF rfl (fun hc5 => ?_) (fun hc5 => ?_)
 ·
  refine aE (aB (bZ rfl (aD (aC (az (bB (aS (bU rfl rfl ?_))))))))
  all_goals skip
  exact av rfl rfl (congrArg (Ty.int .i64) (by rw [bO, if_neg (ng (show lO y = false from hc1)), if_neg (ng (show kX y = false from hc2)), if_neg (ng (show jB y = false from hc3)), if_neg (ng (show xZ y = false from hc4)), if_pos (show rQ y = true from hc5)]))
 refine aE ?_
 refine fR (B := live [(1, Ty.pp (bC y)), (3, Ty.pp [y4 y]), (4, HK y)] []) ?_ ?_
 ·(refine cV.mk' ?_ ?_ <;> (repeat' (first | exact aH | exact aI | refine aA ?_ (Ty.aT _) | refine aA ?_ (Ty.aF _))))
 refine aB ?_
 refine aJ rfl rfl rfl rfl rfl (by decide) ?_
 refine aL rfl rfl rfl rfl ?_
 refine ak (nA y.moves (Ty.kP _ []) rfl (fun m => !decide (m.src = m.dst)) rfl rfl fun m _ => dx (Ks m) rfl rfl rfl rfl rfl rfl) rfl rfl rfl rfl rfl ?_
 refine eJ rfl (dF rfl (aD (aC ?_)))
 refine cF rfl (fun hc6 => ?_) (fun hc6 => ?_)
 ·
  refine aE (aB (bZ rfl (aD (aC (az (bB (aS (bU rfl rfl ?_))))))))
  all_goals skip
  exact av rfl rfl (congrArg (Ty.int .i64) (by rw [bO, if_neg (ng (show lO y = false from hc1)), if_neg (ng (show kX y = false from hc2)), if_neg (ng (show jB y = false from hc3)), if_neg (ng (show xZ y = false from hc4)), if_neg (ng (show rQ y = false from hc5)), if_pos (show qB y = true from hc6)]))
 refine aE (aB ?_)
 refine aJ rfl rfl rfl rfl rfl (by decide) ?_
 refine aL rfl rfl rfl rfl ?_
 refine ak (vO y.bins (Ty.kP _ []) rfl (fun b => fu b.first) rfl rfl fun b _ => dx (KD b) rfl rfl rfl rfl rfl rfl) rfl rfl rfl rfl rfl ?_
 refine eJ rfl (eF rfl ?_)
 apply aM (s := 70) rfl rfl rfl
 ·intro hg; apply aP; (refine aJ rfl rfl rfl rfl rfl (by decide) ?_); refine aD ?_; exact rfl
 ·exact rfl
 ·exact rfl
 apply aM (s := 70) rfl rfl rfl
 ·intro hg; apply aK (s := 71) rfl (by (rw [hg]; rfl)); apply aP; (refine aL rfl rfl rfl rfl ?_); refine aD ?_; exact rfl
 ·exact rfl
 ·exact rfl
 apply aM (s := 70) rfl rfl rfl
 ·intro hg; apply aK (s := 72) rfl (by (rw [hg]; rfl)); apply aP; (refine ak (nA y.moves (Ty.kP _ []) rfl (fun m => fu m.sacks) rfl rfl fun m _ => dx (Jz m) rfl rfl rfl rfl rfl rfl) rfl rfl rfl rfl rfl ?_); refine aD ?_; exact rfl
 ·exact rfl
 ·exact rfl
 apply aM (s := 70) rfl rfl rfl
 ·intro hg; apply aK (s := 73) rfl (by (rw [hg]; rfl)); apply aP; (refine eJ rfl ?_); refine aD ?_; exact rfl
 ·exact rfl
 ·exact rfl
 refine iK rfl rfl (eF rfl ?_)
 apply aM (s := 76) rfl rfl rfl
 ·intro hg; apply aP; (refine aJ rfl rfl rfl rfl rfl (by decide) ?_); refine aD ?_; exact rfl
 ·exact rfl
 ·exact rfl
 apply aM (s := 76) rfl rfl rfl
 ·intro hg; apply aK (s := 77) rfl (by (rw [hg]; rfl)); apply aP; (refine aL rfl rfl rfl rfl ?_); refine aD ?_; exact rfl
 ·exact rfl
 ·exact rfl
 apply aM (s := 76) rfl rfl rfl
 ·intro hg; apply aK (s := 78) rfl (by (rw [hg]; rfl)); apply aP; (refine ak (pg y.levels (Ty.kP _ []) rfl (fun l => fu l.sacks) rfl rfl fun l _ => dx (H7 l) rfl rfl rfl rfl rfl rfl) rfl rfl rfl rfl rfl ?_); refine aD ?_; exact rfl
 ·exact rfl
 ·exact rfl
 apply aM (s := 76) rfl rfl rfl
 ·intro hg; apply aK (s := 79) rfl (by (rw [hg]; rfl)); apply aP; (refine eJ rfl ?_); refine aD ?_; exact rfl
 ·exact rfl
 ·exact rfl
 refine iK rfl rfl (dF rfl (aD (aC ?_)))
 refine cF rfl (fun hc7 => ?_) (fun hc7 => ?_)
 ·
  refine aE (aB (bZ rfl (aD (aC (az (bB (aS (bU rfl rfl ?_))))))))
  all_goals skip
  exact av rfl rfl (congrArg (Ty.int .i64) (by rw [bO, if_neg (ng (show lO y = false from hc1)), if_neg (ng (show kX y = false from hc2)), if_neg (ng (show jB y = false from hc3)), if_neg (ng (show xZ y = false from hc4)), if_neg (ng (show rQ y = false from hc5)), if_neg (ng (show qB y = false from hc6)), if_pos (show qM y = true from hc7)]))
 refine af (bI (aC (aE (aB (bZ rfl (aD (aC (az (bU rfl rfl ?_)))))))))
 all_goals skip
 exact av rfl rfl (congrArg (Ty.int .i64) (by rw [bO, if_neg (ng (show lO y = false from hc1)), if_neg (ng (show kX y = false from hc2)), if_neg (ng (show jB y = false from hc3)), if_neg (ng (show xZ y = false from hc4)), if_neg (ng (show rQ y = false from hc5)), if_neg (ng (show qB y = false from hc6)), if_neg (ng (show qM y = false from hc7))]))
set_option maxRecDepth 100000 in
theorem BN (y : aj) (hs : y.Small) (k : Int) : dK Tryz.prog 90 [eA y, Ty.int .i64 k] (Ty.int .i64 (eE y k)) := by
 refine au Tryz.func90 rfl (by decide) Tryz.ntmps90 (by exact Nat.le_of_ble_eq_true rfl) fun w0 M0 => ?_
 refine aE (aB (bH rfl (bZ rfl (aD (aC (aE (aB ?_)))))))
 refine aY rfl rfl rfl (by exact Nat.le_of_ble_eq_true rfl) ?_
 refine ak (lF y hs) rfl rfl rfl rfl rfl (bZ rfl (aD (aC (aE (aE (aB (bG rfl (bA rfl rfl rfl (eF rfl ?_)))))))))
 apply aM (s := 10) rfl rfl rfl
 ·intro hg; apply aP; (refine aY rfl rfl rfl (by exact Nat.le_of_ble_eq_true rfl) ?_); refine aD ?_; exact rfl
 ·exact rfl
 ·exact rfl
 apply aM (s := 10) rfl rfl rfl
 ·intro hg; apply aP; (refine bG rfl ?_); refine aD ?_; exact rfl
 ·exact rfl
 ·exact rfl
 apply aM (s := 10) rfl rfl rfl
 ·intro hg; apply aK (s := 11) rfl (by (rw [hg]; rfl)); apply aK (s := 12) rfl (by (rw [hg]; rfl)); apply aP; (refine ak (GW y hs _) rfl rfl rfl rfl rfl ?_); refine aD ?_; exact rfl
 ·exact rfl
 ·exact rfl
 apply aM (s := 10) rfl rfl rfl
 ·intro hg; apply aK (s := 13) rfl (by (rw [hg]; rfl)); apply aP; (refine eJ rfl ?_); refine aD ?_; exact rfl
 ·exact rfl
 ·exact rfl
 refine dm rfl rfl (aD (aC ?_))
 refine cF rfl (fun hc1 => ?_) (fun hc1 => ?_)
 ·
  refine aB (bZ rfl (aD (aC (aE (aB (bG rfl (bZ rfl (aD (aC ?_)))))))))
  refine az (bU rfl rfl ?_)
  all_goals skip
  all_goals exact av rfl rfl (congrArg (Ty.int .i64) (HG hc1))
 refine af (aC (aE (aB (bG rfl (bZ rfl (aD (aC (az (bU rfl rfl ?_)))))))))
 all_goals skip
 all_goals exact av rfl rfl (congrArg (Ty.int .i64) (H8 hc1))
end Go.Proofs.YtelbollidfdcjaaGreat
namespace Go.T
open Go Go.RowKit
def rP (A : As) (L : List Nat) (s t : Ty) : Prop := ∀ w M v, Wf w M → (∀ x ∈ A.tags, x.1 ∈ L → x.2.den w M x.1) → s.den w M v → t.den w (rA M L) v
def oC (A : As) (L : List Nat) : List Ty → List Ty → Prop
  | [], [] => True
  | s :: ss, t :: ts => rP A L s t ∧ oC A L ss ts
  | _, _ => False
theorem cL {A : As} {L : List Nat} : oC A L [] [] := trivial
theorem aW {A : As} {L : List Nat} {s t : Ty} {ss ts : List Ty} (h : rP A L s t) (h' : oC A L ss ts) : oC A L (s :: ss) (t :: ts) := ⟨h, h'⟩
theorem pK {A : As} {L : List Nat} {w : World} {M : bF} (wf : Wf w M) (ht : ∀ x ∈ A.tags, x.1 ∈ L → x.2.den w M x.1) : ∀ {ss ts : List Ty} {vs : List Value}, oC A L ss ts → cK w M ss vs → cK w (rA M L) ts vs
  | [], [], [], _, _ => trivial
  | _ :: _, _ :: _, _ :: _, ⟨h, h'⟩, ⟨h1, h2⟩ => ⟨h _ _ _ wf ht h1, pK wf ht h' h2⟩
theorem bQ {A : As} {L : List Nat} {s t : Ty} (h : Q3 L s t) : rP A L s t := fun w M v wf _ hd => h w M v wf hd
theorem zK {A : As} {L : List Nat} {ss ts : List Ty} (h : oC A L ss ts) : rP A L (Ty.agg ss) (Ty.agg ts) := fun _ _ _ wf ht ⟨cs, e, hd⟩ => ⟨cs, e, pK wf ht h hd⟩
theorem jS {A : As} {L : List Nat} {α : Type} {E : El α} {T tg n : Nat} {xs : List α} (hc : A.tag tg = some (.vec E T xs)) (hn : xs.length = n) (h1 : gL tg) (hL : L.contains tg = true) : rP A L (.vs tg n) (.sl E xs) := fun w M v wf ht hd => by
 have hL' : tg ∈ L := by simpa using hL
 have hv : fj E T xs w M tg := ht _ (cj hc) hL'
 subst hn
 rcases hd with ⟨h0, rfl⟩ | ⟨b, cc, hb, e, hn1, hn2⟩
 ·exact ⟨none, 0, by rw [h0], by omega, by simp [maxLen], fun h => absurd h (by omega)⟩
 refine ⟨_, cc, e, hn1, hn2, fun _ => ⟨b, 0, rfl, BI hb hL', wf.lt b _ hb, fun i t hi => ?_⟩⟩
 obtain ⟨u, hu, hdu⟩ := n5 wf h1 hb hv hi
 refine ⟨u, by rw [Nat.zero_add]; exact hu, t.mono (S := fun _ => True) (K := fun _ => True) (w := w) ⟨Nat.le_refl _, rfl, rfl, rfl, fun b _ hm => ⟨jo hm, rfl⟩, fun b t _ h => absurd trivial h⟩ ?_ ?_ hdu⟩
 ·intro u hu
  have : u ∈ cG (xs.flatMap E.tys) := List.mem_flatMap.2 ⟨t, List.mem_of_getElem? hi, hu⟩
  rw [E.cY] at this; cases this
 intro u hu
 have : u ∈ bl (xs.flatMap E.tys) := List.mem_flatMap.2 ⟨t, List.mem_of_getElem? hi, hu⟩
 rw [E.cS] at this; cases this
section
variable {P : Program} {fr : Fr} {ops : Array Oper} {A : As} {rest : List Oper} {K : As → List (As × Fx) → Prop} {d : Nat} {t ty' : TypeId} {p : String} {e : Array Edge} {Q : Exit → Act → World → Prop} {c : Code}
theorem dr (L : List Nat) {f : FuncId} {args : List Ty} {res : Ty} (hF : dK P f args res) {xs : List Operand} {ats : Array TypeId} {ss : List Ty} (hx : o9 A fr xs = ss) (hl : oC A L ss args) (hp : res.Plain)
 (h : ay P fr ops rest (A.set d res) fun A' l => K A' ((A, { d := some d, ty := res, rs := xs.flatMap cO, rt := L }) :: l)) : ay P fr ops (⟨some d, .call ⟨.value (.func f), xs.toArray, ats⟩, t, p, e, none⟩ :: rest) A K := by
 refine ⟨{ d := some d, ty := res, rs := xs.flatMap cO, rt := L }, ⟨rfl, by simp, by simp, by simp, fun a w M wf _ hrd htg => ?_⟩, h⟩
 rw [if_pos (by simp [Region.wanted])]
 have hv : cK w M ss (xs.map a.eval) := hx ▸ iP hrd fun x hx c hc => List.mem_flatMap.2 ⟨x, hx, hc⟩
 have hc := hF.2 w _ _ (N1 (L := L) wf) uM (pK wf htg hl hv)
 have hrun : (execOp a.eval ⟨some d, .call ⟨.value (.func f), xs.toArray, ats⟩, t, p, e, none⟩).run P w = .ok (.enter f (xs.map a.eval).toArray) w := by
  simp [execOp, resolve, Act.eval, Deferred.ofValue, invoke, oK hF]
 refine mq hrun ?_
 refine hc.mono fun en w' ⟨r, M', he, wf', le, hden⟩ => ?_
 obtain ⟨h1, h2, h3⟩ := Ee wf le hp hden
 exact ⟨r, he, r, rfl, _, h1, h2, h3, by simp⟩
end
section
open Go.RowKit
variable {P : Program} {A : As} {fn : Func} {n : Nat} {w0 : World} {M0 : bF} {F : List Nat} {post : List (Nat × Cont)} [T : lX P]
end
section
variable {P : Program} {fr : Fr} {ops : Array Oper} {A : As} {rest : List Oper} {K : As → List (As × Fx) → Prop} {d : Nat} {t ty' : TypeId} {p : String} {e : Array Edge} [T : lX P]
def R3 (w : World) (M : bF) (J : Nat) (v : Value) : Prop := v = .slice none 0 0 ∨ ∃ g n c cur T, v = .slice (some ⟨g, 0, none⟩) n c ∧ M g = some J ∧ w.heap[g]? = some (.cells cur T (0, 0)) ∧ n ≤ cur.size
def Cont.fit (vs : List Value) : Cont :=
  { den := fun w M J => ∀ v ∈ vs, R3 w M J v
    mono := fun le _ _ hs hk h v hv => (h v hv).imp id fun ⟨g, n, c, cur, T, e, hg, hh, hn⟩ => let ⟨h1, h2⟩ := le.own g _ hg hk
      ⟨g, n, c, cur, T, e, h1, (h2 hs).trans hh, hn⟩ }
end
instance : Inhabited {v : Value // v.oneCell' = true} := ⟨⟨.bool true, rfl⟩⟩
section
variable {P : Program} {fr : Fr} {A : As} {Q : Exit → Act → World → Prop} {code : Code}
end
end Go.T
namespace Go.T
open Go Go.RowKit
def vN {α : Type} (E : El α) (T J : Nat) (xs : List α) (w : World) (M : bF) (v : Value) : Prop :=
  (xs = [] ∧ v = .slice none 0 0) ∨ ∃ g off c cur, v = .slice (some ⟨g, off, none⟩) xs.length c ∧ M g = some J ∧ w.heap[g]? = some (.cells cur T (0, 0)) ∧ xs.length ≤ c ∧ c ≤ maxLen ∧ off + c * E.size ≤ cur.size ∧ cK w M (xs.flatMap E.tys) ((cur.toList.drop off).take (xs.length * E.size))
def Ty.fo {α : Type} (E : El α) (T J : Nat) (xs : List α) : Ty :=
  ⟨vN E T J xs, [J], [J], fun le hk hs h => h.imp id fun ⟨g, off, c, cur, e, hg, hh, h1, h2, h3, h4⟩ =>
    let ⟨a, b⟩ := le.own g J hg (hk J (by simp))
    ⟨g, off, c, cur, e, a, (b (hs J (by simp))).trans hh, h1, h2, h3, bw le (by rw [E.cY]; intro _ h; cases h) (by rw [E.cS]; intro _ h; cases h) h4⟩, true, fun _ h => by
      rcases h with ⟨_, rfl⟩ | ⟨_, _, _, _, rfl, _⟩ <;> rfl⟩
def ji (size : Nat) : Value → Option (Nat × Nat)
  | .slice (some a) n _ => some (a.block, a.off + n * size)
  | _ => none
def roomy : Value → Bool
  | .slice _ n c => Nat.blt n c
  | _ => false
section
variable {κ α : Type} [DecidableEq κ]
def zN (size : Nat) (vs : List Value) : Prop := ∀ (i j : Nat) (v u : Value) (g e e' : Nat), vs[i]? = some v → vs[j]? = some u → ji size v = some (g, e) → ji size u = some (g, e') → i = j
def SX (enc : κ → Value) (E : El α) (T J : Nat) (q : List (κ × List α)) (w : World) (M : bF) (t : Nat) : Prop :=
  (q.map Prod.fst).Nodup ∧ ∃ b es clock, M b = some t ∧ w.heap[b]? = some (.map es clock) ∧ es.toList.map (·.key) = q.map (fun x => enc x.1) ∧ cK w M (q.map fun x => Ty.fo E T J x.2) (es.toList.map (·.val)) ∧ zN E.size (es.toList.map (·.val))
omit [DecidableEq κ] in
theorem tj {E : El α} {T J : Nat} {q : List (κ × List α)} : (∀ u ∈ cG (q.map fun x => Ty.fo E T J x.2), u = J) ∧ ∀ u ∈ bl (q.map fun x => Ty.fo E T J x.2), u = J := by
 constructor <;>
 ·intro u hu
  simp only [cG, bl, List.mem_flatMap, List.mem_map] at hu
  obtain ⟨t, ⟨x, _, rfl⟩, hu⟩ := hu
  simpa [Ty.fo] using hu
def Cont.mr (enc : κ → Value) (E : El α) (T J : Nat) (q : List (κ × List α)) : Cont :=
  { den := SX enc E T J q, deps := [J], cdeps := [J]
    mono := fun le hk hs hst hkt ⟨hn, b, es, clock, h1, h2, h3, h4, h5⟩ => let ⟨a, c⟩ := le.own b _ h1 hkt
      ⟨hn, b, es, clock, a, (c hst).trans h2, h3, bw le (fun u hu => by rw [tj.1 u hu]; exact hk J (by simp)) (fun u hu => by rw [tj.2 u hu]; exact hs J (by simp)) h4, h5⟩ }
omit [DecidableEq κ] in
theorem Cont.uj {enc : κ → Value} {E : El α} {T J : Nat} {q q' : List (κ × List α)} (h : q = q') : (Cont.mr enc E T J q).Sub (Cont.mr enc E T J q') := h ▸ Cont.aF _
def SI (size t : Nat) (q : List (κ × List α)) (k : κ) (w : World) (M : bF) (v : Value) : Prop :=
  ∀ (g e0 : Nat), ji size v = some (g, e0) → ∃ (b : Nat) (es : Array MapEntry) (clock : Nat), M b = some t ∧ w.heap[b]? = some (.map es clock) ∧ ∀ (j : Nat) (u : Value) (e1 : Nat), (es.toList.map (·.val))[j]? = some u → ji size u = some (g, e1) → (q[j]?).map Prod.fst = some k ∧ (roomy v = true → e1 ≤ e0)
def SZ (E : El α) (T t J : Nat) (q : List (κ × List α)) (k : κ) (xs : List α) (w : World) (M : bF) (v : Value) : Prop := vN E T J xs w M v ∧ SI E.size t q k w M v
def Ty.qv (E : El α) (T t J : Nat) (q : List (κ × List α)) (k : κ) (xs : List α) : Ty :=
  ⟨SZ E T t J q k xs, [t, J], [t, J], fun le hk hs ⟨h, h'⟩ => ⟨(Ty.fo E T J xs).mono le (fun u hu => hk u (by simp [Ty.fo] at hu ⊢; exact .inr hu)) (fun u hu => hs u (by simp [Ty.fo] at hu ⊢; exact .inr hu)) h, fun g e0 he =>
    let ⟨b, es, clock, h1, h2, h3⟩ := h' g e0 he
    let ⟨a, c⟩ := le.own b t h1 (hk t (by simp))
    ⟨b, es, clock, a, (c (hs t (by simp))).trans h2, h3⟩⟩, true, fun ho h => (Ty.fo E T J xs).isOne ho h.1⟩
omit [DecidableEq κ] in
theorem DZ (q : List (κ × List α)) (hn : (q.map Prod.fst).Nodup) {i j : Nat} {k : κ} (hi : (q[i]?).map Prod.fst = some k) (hj : (q[j]?).map Prod.fst = some k) : i = j := by
 rw [← List.getElem?_map] at hi hj
 obtain ⟨h1, e1⟩ := List.getElem?_eq_some_iff.1 hi
 obtain ⟨h2, e2⟩ := List.getElem?_eq_some_iff.1 hj
 exact (List.getElem_inj hn).1 (e1.trans e2.symm)
theorem BH {q : List (κ × List α)} {k : κ} {i : Nat} (h : (q.map Prod.fst).findIdx? (fun x => decide (x = k)) = some i) : (q[i]?).map Prod.fst = some k := by
 obtain ⟨v, hv, _⟩ := p9 q k i h
 rw [hv]; rfl
theorem H6 (q : List (κ × List α)) (k : κ) (v : List α) (hn : (q.map Prod.fst).Nodup) : ((iN q k v).map Prod.fst).Nodup := by
  cases hi : (q.map Prod.fst).findIdx? (fun x => decide (x = k)) with
  | some i =>
    obtain ⟨u, hu, _, hp⟩ := p9 q k i hi
    rw [hp, List.map_set]
    have : (q.map Prod.fst).set i k = q.map Prod.fst := by
      apply List.ext_getElem?
      intro j
      rw [List.getElem?_set]
      by_cases e : i = j
      · subst e
        have hlt := (List.getElem?_eq_some_iff.1 hu).1
        rw [if_pos rfl, if_pos (by simpa using hlt), List.getElem?_map, hu]; rfl
      · rw [if_neg e]
    rw [this]; exact hn
  | none =>
    obtain ⟨_, hp⟩ := q3 q k hi
    rw [hp, List.map_append, List.nodup_append]
    refine ⟨hn, by simp, fun a ha b hb => ?_⟩
    simp only [List.map_cons, List.map_nil, List.mem_singleton] at hb
    subst hb
    intro e
    subst e
    rw [List.findIdx?_eq_none_iff] at hi
    have := hi a ha
    simp at this
end
section
variable {P : Program} {fr : Fr} {ops : Array Oper} {A : As} {rest : List Oper} {K : As → List (As × Fx) → Prop} {d : Nat} {t ty' mt kt et : TypeId} {p : String} {e : Array Edge}
variable {κ α : Type} [DecidableEq κ] {E : El α} {Tb J tg : Nat} {q : List (κ × List α)} {k : κ} {xs ys : List α}
omit [DecidableEq κ] in
theorem Om {x : Operand} {enc : κ → Value} (hx : A.op fr x = .mp tg) (hc : A.tag tg = some (.mr enc E Tb J q)) (h1 : gL tg) {a : Act} {w : World} {M : bF} {rs : List Nat} (wf : Wf w M) (hr : ∀ c ∈ cO x, c ∈ rs) (hrd : ∀ c ∈ rs, c < fr.n → (A.slots c).den w M (a.tmps.getD c undef)) (htg : ∀ y ∈ A.tags, y.1 ∈ [tg] → y.2.den w M y.1) :
 (q.map Prod.fst).Nodup ∧ ∃ b es clock, a.eval x = .map (some b) ∧ M b = some tg ∧ w.heap[b]? = some (.map es clock) ∧ es.toList.map (·.key) = q.map (fun x => enc x.1) ∧ cK w M (q.map fun x => Ty.fo E Tb J x.2) (es.toList.map (·.val)) ∧ zN E.size (es.toList.map (·.val)) := by
 have hxd := cU hr hrd
 rw [hx] at hxd
 obtain ⟨b, e1, e2⟩ := hxd
 obtain ⟨hn, b', es, clock, h2, h3⟩ := htg _ (cj hc) (by simp)
 obtain ⟨u, rfl⟩ : ∃ u, tg = u + 1 := ⟨tg - 1, by omega⟩
 have : b = b' := wf.inj b b' u (by omega) e2 h2
 subst this
 exact ⟨hn, b, es, clock, e1, e2, h3⟩
theorem Cg {es : Array MapEntry} {i : Nat} {en : MapEntry} (h : es[i]? = some en) : (es.toList.map (·.val))[i]? = some en.val := by
 rw [List.getElem?_map, Array.getElem?_toList, h]; rfl
omit [DecidableEq κ] in
theorem Ex (enc : κ → Value) (E : El α) (Tb J : Nat) (hm : mapOf P mt = some (kt, et)) (hp : fr.pass.contains (d + 1) = false)
 (h : ay P fr ops rest (A.after { d := some d, ty := .mp (d + 1), K := [d + 1], sets := [(d + 1, .mr enc E Tb J [])] }) fun A' l' => K A' ((A, { d := some d, ty := .mp (d + 1), K := [d + 1], sets := [(d + 1, .mr enc E Tb J [])] }) :: l')) :
 ay P fr ops (⟨some d, .makeMap mt none, t, p, e, none⟩ :: rest) A K := by
 refine ⟨_, gK rfl rfl (by simp) (by simp) (by simp at hp ⊢; exact hp) fun a w M wf _ _ => ?_, h⟩
 have hrun : (execOp a.eval ⟨some d, .makeMap mt none, t, p, e, none⟩).run P w = .ok (.value (.map (some w.heap.size))) (w.alloc (.map #[] 0)) := by
  simp [execOp, Instr.makeMap, newObj, Sem.run]
 obtain ⟨h1, h2, h3⟩ := kD wf (.map #[] 0) (d + 1)
 refine ⟨_, _, hrun, _, h1, h2, ⟨_, rfl, h3⟩, fun x hx => ?_⟩
 rw [List.mem_singleton.1 hx]
 exact ⟨by simp, w.heap.size, #[], 0, h3, iE _ _, rfl, trivial, fun i j v u g e e' hi => by simp at hi⟩
theorem AM {x y : Operand} {kty : Ty} (KK : yw P kt κ) (hx : A.op fr x = .mp tg) (hc : A.tag tg = some (.mr KK.enc E Tb J q)) (h1 : gL tg) (hy : A.op fr y = kty) (hk : ur kty (KK.enc k)) (hm : mapOf P mt = some (kt, et)) (hz : zeroOf P et = some (.slice none 0 0))
 (h : ay P fr ops rest (A.set d (.qv E Tb tg J q k ((ep q k).getD []))) fun A' l' => K A' ((A, { d := some d, ty := .qv E Tb tg J q k ((ep q k).getD []), rs := cO x ++ cO y, rt := [tg] }) :: l')) :
 ay P fr ops (⟨some d, .lookup mt x y false, t, p, e, none⟩ :: rest) A K :=
 bM (bV rfl rfl fun a w M wf hrd htg => by
  obtain ⟨hn, b, es, clock, e1, e2, h3, h4, h5, h6⟩ := Om hx hc h1 wf (fun c hc => List.mem_append_left _ hc) hrd htg
  have hyd := cU (fun c hc => List.mem_append_right (cO x) hc) hrd
  rw [hy] at hyd
  have hu := qX hm
  rcases sx KK h4 h5 k with ⟨i, v, en, hi, hg, hen, _, hd, hf⟩ | ⟨_, hg, hf⟩
  ·refine ⟨en.val, ?_, by rw [hg]; exact hd, fun g e0 he => ⟨b, es, clock, e2, h3, fun j u e1 hj hju => ?_⟩⟩
   ·simp only [execOp, e1, hk _ _ _ hyd]
    simp [Instr.lookup, underlying, hu, getObj, Sem.run, h3, KK.check, hf]
   have hij := h6 i j en.val u g e0 e1 (Cg hen) hj he hju
   subst hij
   rw [Cg hen] at hj
   injection hj with hj
   subst hj
   rw [he] at hju
   injection hju with hju
   injection hju with _ hju
   exact ⟨BH hi, fun _ => by omega⟩
  refine ⟨.slice none 0 0, ?_, by rw [hg]; exact .inl ⟨rfl, rfl⟩, fun g e0 he => by simp [ji] at he⟩
  simp only [execOp, e1, hk _ _ _ hyd]
  simp [Instr.lookup, underlying, hu, getObj, Sem.run, h3, KK.check, hf, xe hz]) h
theorem zL {x y z : Operand} {kty : Ty} (KK : yw P kt κ) (hx : A.op fr x = .mp tg) (hc : A.tag tg = some (.mr KK.enc E Tb J q)) (h1 : gL tg) (hy : A.op fr y = kty) (hk : ur kty (KK.enc k)) (hz : A.op fr z = .qv E Tb tg J q k xs) (hm : mapOf P mt = some (kt, et)) (hJ : Nat.beq J tg = false)
 (h : ay P fr ops rest (A.after { d := none, S := [tg], sets := [(tg, .mr KK.enc E Tb J (iN q k xs))], rs := cO x ++ (cO y ++ cO z), rt := [tg] }) fun A' l' => K A' ((A, { d := none, S := [tg], sets := [(tg, .mr KK.enc E Tb J (iN q k xs))], rs := cO x ++ (cO y ++ cO z), rt := [tg] }) :: l')) :
 ay P fr ops (⟨none, .mapUpdate mt x y z, t, p, e, none⟩ :: rest) A K := by
 have hJ' : J ≠ tg := fun h => by subst h; simp at hJ
 refine ⟨_, mS rfl rfl rfl (by simp) (by simpa using h1.1) (by simp) fun a w M wf hrd htg => ?_, h⟩
 obtain ⟨hn, b, es, clock, e1, e2, h3, h4, h5, h6⟩ := Om hx hc h1 wf (fun c hc => List.mem_append_left _ hc) hrd htg
 have hyd := cU (fun c hc => List.mem_append_right (cO x) (List.mem_append_left (cO z) hc)) hrd
 have hzd := cU (fun c hc => List.mem_append_right (cO x) (List.mem_append_right (cO y) hc)) hrd
 rw [hy] at hyd
 rw [hz] at hzd
 obtain ⟨hrow, hown⟩ := hzd
 have hu := qX hm
 have hblt : b < w.heap.size := wf.lt b _ e2
 have own' : ∀ (g e0 : Nat), ji E.size (a.eval z) = some (g, e0) → ∀ (j : Nat) (u : Value) (e' : Nat), (es.toList.map (·.val))[j]? = some u → ji E.size u = some (g, e') → (q[j]?).map Prod.fst = some k := fun g e0 he j u e' hj hju => by
  obtain ⟨b', es', c', g1, g2, g3⟩ := hown g e0 he
  obtain ⟨u', rfl⟩ : ∃ u, tg = u + 1 := ⟨tg - 1, by omega⟩
  have : b = b' := wf.inj b b' u' (by omega) e2 g1
  subst this
  rw [h3] at g2
  injection g2 with g2
  injection g2 with g2 g4
  subst g2
  exact (g3 j u e' hj hju).1
 have fin : ∀ (es' : Array MapEntry) (clock' : Nat), es'.toList.map (·.key) = (iN q k xs).map (fun x => KK.enc x.1) → cK w M ((iN q k xs).map fun x => Ty.fo E Tb J x.2) (es'.toList.map (·.val)) → zN E.size (es'.toList.map (·.val)) →
  (Instr.mapUpdate mt (.map (some b)) (KK.enc k) (a.eval z)).run P w = .ok () { w with heap := w.heap.setIfInBounds b (.map es' clock') } →
  ∃ w', (execOp a.eval ⟨none, .mapUpdate mt x y z, t, p, e, none⟩).run P w = .ok .skip w' ∧ Fx.left { d := none, S := [tg], sets := [(tg, .mr KK.enc E Tb J (iN q k xs))], rs := cO x ++ (cO y ++ cO z), rt := [tg] } w M w' undef := by
  intro es' clock' hk' hd' hap hrun
  have hr : (execOp a.eval ⟨none, .mapUpdate mt x y z, t, p, e, none⟩).run P w = .ok .skip { w with heap := w.heap.setIfInBounds b (.map es' clock') } := by
   simp only [execOp, e1, hk _ _ _ hyd]
   simp [hrun]
  have le : Le (· ∈ [tg]) (· ∈ ([] : List Nat)) w M { w with heap := w.heap.setIfInBounds b (.map es' clock') } M := by
   refine ⟨by simp, rfl, rfl, rfl, fun b2 hlt hm2 => ⟨hm2, ?_⟩, fun b2 u hm2 _ => ⟨hm2, fun hs => ?_⟩⟩
   ·have : b ≠ b2 := fun h => by subst h; rw [e2] at hm2; cases hm2
    simp [Array.getElem?_setIfInBounds, this]
   have : b ≠ b2 := fun h => by subst h; rw [e2] at hm2; injection hm2 with hm2; exact hs (by simp [hm2])
   simp [Array.getElem?_setIfInBounds, this]
  refine ⟨_, hr, M, ⟨fun b2 u h => by simpa using wf.lt b2 u h, wf.inj⟩, le, trivial, fun x hx => ?_⟩
  rw [List.mem_singleton.1 hx]
  refine ⟨H6 q k xs hn, b, es', clock', e2, by simp [hblt], hk', ?_, hap⟩
  exact bw le (fun _ _ => by simp) (fun u hu => by rw [tj.2 u hu]; simpa using hJ') hd'
 rcases sx KK h4 h5 k with ⟨i, v0, en, hi, hg, hen, hkey, hd, hf⟩ | ⟨hi, hg, hf⟩
 ·obtain ⟨v1, hv1, _, hput⟩ := p9 q k i hi
  have hil : i < es.size := (Array.getElem?_eq_some_iff.1 hen).1
  have hes : (es.modify i fun e => { e with key := KK.enc k, val := a.eval z }).toList = es.toList.set i { en with key := KK.enc k, val := a.eval z } := by
   rw [Array.toList_modify, List.modify_eq_set, Array.getElem?_toList, hen]; rfl
  refine fin (es.modify i fun e => { e with key := KK.enc k, val := a.eval z }) clock ?_ ?_ ?_ ?_
  ·rw [hput, List.map_set, hes, List.map_set, h4]
  ·rw [hput, List.map_set, hes, List.map_set]
   exact tF h5 hrow
  ·rw [hes, List.map_set]
   intro i1 j1 v u g e' e'' hi1 hj1 hv hu
   rw [List.getElem?_set] at hi1 hj1
   by_cases c1 : i = i1 <;> by_cases c2 : i = j1
   ·omega
   ·rw [if_pos c1] at hi1; rw [if_neg c2] at hj1
    split at hi1
    ·injection hi1 with hi1
     have hi1 : a.eval z = v := hi1
     subst hi1
     have := DZ q hn (own' g e' hv j1 u e'' hj1 hu) (BH hi)
     omega
    cases hi1
   ·rw [if_neg c1] at hi1; rw [if_pos c2] at hj1
    split at hj1
    ·injection hj1 with hj1
     have hj1 : a.eval z = u := hj1
     subst hj1
     have := DZ q hn (own' g e'' hu i1 v e' hi1 hv) (BH hi)
     omega
    cases hj1
   rw [if_neg c1] at hi1; rw [if_neg c2] at hj1
   exact h6 i1 j1 v u g e' e'' hi1 hj1 hv hu
  simp [Instr.mapUpdate, underlying, hu, getObj, setObj, Sem.run, h3, KK.check, hf, hen, hkey, Instr.keyThatStays, KK.same]
 obtain ⟨_, hput⟩ := q3 q k hi
 have hlen : (es.toList.map (·.val)).length = q.length := by have := congrArg List.length h4; simpa using this
 have hno : ∀ j, (q[j]?).map Prod.fst ≠ some k := fun j hj => by
  rw [List.findIdx?_eq_none_iff] at hi
  rw [← List.getElem?_map] at hj
  have := hi k (List.mem_of_getElem? hj)
  simp at this
 refine fin (es.push { key := KK.enc k, val := a.eval z, born := clock }) (clock + 1) ?_ ?_ ?_ ?_
 ·rw [hput]; simp [h4]
 ·rw [hput]; simp only [Array.toList_push, List.map_append, List.map_cons, List.map_nil]
  exact fJ h5 ⟨hrow, trivial⟩
 ·simp only [Array.toList_push, List.map_append, List.map_cons, List.map_nil]
  intro i1 j1 v u g e' e'' hi1 hj1 hv hu
  rw [List.getElem?_append] at hi1 hj1
  split at hi1 <;> split at hj1
  ·exact h6 i1 j1 v u g e' e'' hi1 hj1 hv hu
  ·rw [List.getElem?_singleton] at hj1
   split at hj1
   ·injection hj1 with hj1
    subst hj1
    exact absurd (own' g e'' hu i1 v e' hi1 hv) (hno i1)
   cases hj1
  ·rw [List.getElem?_singleton] at hi1
   split at hi1
   ·injection hi1 with hi1
    subst hi1
    exact absurd (own' g e' hv j1 u e'' hj1 hu) (hno j1)
   cases hi1
  rw [List.getElem?_singleton] at hi1 hj1
  split at hi1 <;> split at hj1 <;> first | omega | (exfalso; simp at hj1; done) | (exfalso; simp at hi1; done)
 simp [Instr.mapUpdate, underlying, hu, getObj, setObj, Sem.run, h3, KK.check, hf]
end
section
variable {P : Program} {fr : Fr} {ops : Array Oper} {A : As} {rest : List Oper} {K : As → List (As × Fx) → Prop} {d : Nat} {t ty' mt kt et : TypeId} {p : String} {e : Array Edge} [T : lX P]
variable {κ α : Type} [DecidableEq κ] {E : El α} {Tb J tg : Nat} {q : List (κ × List α)} {k : κ} {xs ys : List α}
theorem zD [Inhabited α] {w : World} {M : bF} {g off i j : Nat} {cur : Array Value} {ty : Ty} (hh : w.heap[g]? = some (.cells cur Tb (0, 0))) (hd : cK w M (xs.flatMap E.tys) ((cur.toList.drop off).take (xs.length * E.size))) (hi : i < xs.length) (hl : (E.tys (nth xs i))[j]? = some ty) :
 ∃ u, w.cell? ⟨g, off + i * E.size + j, none⟩ = some u ∧ ty.den w M u := by
 obtain ⟨u, hu, hdu⟩ := dQ hd _ ty (n8 E xs hi j ty hl)
 rw [List.getElem?_take] at hu
 split at hu
 ·rw [List.getElem?_drop] at hu
  exact ⟨u, by rw [Nat.add_assoc]; simpa [World.cell?, hh] using hu, hdu⟩
 cases hu
end
end Go.T
namespace Go.T
open Go Go.RowKit
section
variable {P : Program} {fr : Fr} {ops : Array Oper} {A : As} {rest : List Oper} {K : As → List (As × Fx) → Prop} {d : Nat} {t ty' mt kt et : TypeId} {p : String} {e : Array Edge} [T : lX P]
variable {κ α : Type} [DecidableEq κ] {E : El α} {Tb J tg : Nat} {q : List (κ × List α)} {k : κ} {xs ys : List α}
theorem LX (l news : List Value) (o n m e : Nat) (he : o + n ≤ e) (hl : e + news.length ≤ l.length) : (((l.take e ++ news ++ l.drop (e + news.length)).drop o).take n) = (l.drop o).take n := by
 apply List.ext_getElem?
 intro i
 rw [List.getElem?_take, List.getElem?_take]
 split
 ·rename_i hi
  rw [List.getElem?_drop, List.getElem?_drop, List.append_assoc, List.getElem?_append_left (by rw [List.length_take]; omega), List.getElem?_take, if_pos (by omega)]
 rfl
theorem DO (l news : List Value) (o n : Nat) (hl : o + n + news.length ≤ l.length) : (((l.take (o + n) ++ news ++ l.drop (o + n + news.length)).drop o).take (n + news.length)) = (l.drop o).take n ++ news := by
 have h1 : (l.take (o + n) ++ news ++ l.drop (o + n + news.length)).drop o = (l.drop o).take n ++ news ++ l.drop (o + n + news.length) := by
  rw [List.append_assoc, List.drop_append_of_le_length (by rw [List.length_take]; omega), List.drop_take, show o + n - o = n by omega, List.append_assoc]
 have h2 : ((l.drop o).take n ++ news).length = n + news.length := by rw [List.length_append, List.length_take, List.length_drop, Nat.min_eq_left (by omega)]
 rw [h1, List.take_left' h2]
omit [DecidableEq κ] in
theorem JA {w : World} {M : bF} {vs : List Value} (hd : cK w M (q.map fun x => Ty.fo E Tb J x.2) vs) {j : Nat} {u : Value} {g e1 : Nat} (hj : vs[j]? = some u) (hu : ji E.size u = some (g, e1)) : M g = some J := by
 have hlen := cW hd
 have hlt := (List.getElem?_eq_some_iff.1 hj).1
 obtain ⟨x, hx, hdx⟩ := dQ hd j (Ty.fo E Tb J (q[j]'(by simpa [hlen] using hlt)).2) (by rw [List.getElem?_map, List.getElem?_eq_getElem (by simpa [hlen] using hlt)]; rfl)
 rw [hj] at hx
 injection hx with hx
 subst hx
 rcases hdx with ⟨_, e⟩ | ⟨g', off, c, cur, e, hg, _⟩
 ·rw [e] at hu; simp [ji] at hu
 rw [e] at hu
 simp only [ji, Option.some.injEq, Prod.mk.injEq] at hu
 rw [← hu.1]; exact hg
theorem AN {x y : Operand} {enc : κ → Value} {st el : Nat} {ti te : TI} (hx : A.op fr x = .qv E el tg J q k xs) (hy : A.op fr y = .sl E ys) (hc : A.tag tg = some (.mr enc E el J q)) (h1 : gL tg) (hJ : 4096 ≤ J) (hp : fr.pass.contains J = false) (hpos : 0 < ys.length) (hT : T.eS[st]? = some ti) (hk : ti.k = .slice el) (hE : T.eS[el]? = some te) (hs : te.size = E.size) (hz : te.zero.length = te.size) (h0 : 0 < te.size)
    (hlen : (xs.length + ys.length) * te.bytes ≤ 140737488355328) (hlen' : xs.length + ys.length ≤ 9223372036854775807)
    (h : ay P fr ops rest (A.after { d := some d, ty := .qv E el tg J q k (xs ++ ys), S := [tg, J], sets := [(tg, .mr enc E el J q)], rs := cO x ++ cO y, rt := [tg] }) fun A' l' => K A' ((A, { d := some d, ty := .qv E el tg J q k (xs ++ ys), S := [tg, J], sets := [(tg, .mr enc E el J q)], rs := cO x ++ cO y, rt := [tg] }) :: l')) :
    ay P fr ops (⟨some d, .call ⟨.builtin .append, #[x, y], #[st, st]⟩, t, p, e, none⟩ :: rest) A K := by
  refine ⟨_, gK rfl rfl (by simp) (by simp; exact ⟨h1.1, by omega⟩) (by simp) fun a w M wf hr htg => ?_, h⟩
  obtain ⟨hdx, hdy⟩ := op2 hr
  rw [hx] at hdx; rw [hy] at hdy
  obtain ⟨hrow, hown⟩ := hdx
  obtain ⟨hn, b, es, clock, hb, hhb, hkeys, hvals, hap⟩ := htg _ (cj hc) (by simp)
  have ownb : ∀ (g e0 : Nat), ji E.size (a.eval x) = some (g, e0) → ∀ (j : Nat) (u : Value) (e1 : Nat), (es.toList.map (·.val))[j]? = some u → ji E.size u = some (g, e1) → (q[j]?).map Prod.fst = some k ∧ (roomy (a.eval x) = true → e1 ≤ e0) := fun g e0 he => by
    obtain ⟨b', es', c', g1, g2, g3⟩ := hown g e0 he
    obtain ⟨u', hu'⟩ : ∃ u, tg = u + 1 := ⟨tg - 1, by omega⟩
    have : b = b' := by
      have hb' : M b = some (u' + 1) := hu' ▸ hb
      have g1' : M b' = some (u' + 1) := hu' ▸ g1
      exact wf.inj b b' u' (by omega) hb' g1'
    subst this
    rw [hhb] at g2
    injection g2 with g2
    injection g2 with g2 _
    subst g2
    exact g3
  obtain ⟨_, D, _, hD, hkd, _⟩ := c6 hT
  rw [hk] at hkd
  cases D <;> simp only [TK.of, reduceCtorEq, TK.slice.injEq] at hkd
  subst hkd
  rename_i el
  obtain ⟨i, _, hi, _, _, hsz, hby, hze⟩ := c6 hE
  obtain ⟨zz, hiz, hzc⟩ : ∃ z, i.zero = some z ∧ z.cells.size = i.size := by
    cases hiz : i.zero with
    | none => rw [hiz] at hze; rw [← hze] at hz; simp at hz; omega
    | some z => rw [hiz] at hze; exact ⟨z, rfl, by simp at hze; rw [hsz, ← hz, ← hze]; simp⟩
  obtain ⟨ad, c', ey, hc1, hc2, hpp⟩ := hdy
  obtain ⟨b', off', rfl, hp'⟩ := hpp hpos
  obtain ⟨news, hn1, hn2, hn3⟩ := nZ hp' _ (Nat.le_refl _)
  rw [List.take_length] at hn2
  have hnl : news.length = ys.length * i.size := by rw [hn1, dB, hsz, hs]
  have hnews : ∀ j u, news[j]? = some u → w.cell? ((⟨b', off', none⟩ : Addr).add j) = some u := fun j u hj => by rw [Addr.add_lit]; exact hn3 j u hj
  have hones := ku hn2 (mJ E ys)
  have hesz : E.size = i.size := by rw [hsz, hs]
  -- behind a growth
  have grown : ∀ (olds : List Value) (cap : Nat), cK w M (xs.flatMap E.tys) olds → cap < xs.length + ys.length →
      (Builtin.append_ #[st, st] t #[a.eval x, a.eval y]).run P w = .ok (.slice (some ⟨w.heap.size, 0, none⟩) (xs.length + ys.length) (grownCap w (xs.length + ys.length) cap el)) (w.drew.alloc (.cells (olds.toArray ++ news.toArray ++ Builtin.zeroCells zz.cells (grownCap w (xs.length + ys.length) cap el - (xs.length + ys.length))) el)) →
      ∃ v w', (execOp a.eval ⟨some d, .call ⟨.builtin .append, #[x, y], #[st, st]⟩, t, p, e, none⟩).run P w = .ok (.value v) w' ∧ Fx.left { d := some d, ty := .qv E el tg J q k (xs ++ ys), S := [tg, J], sets := [(tg, .mr enc E el J q)], rs := cO x ++ cO y, rt := [tg] } w M w' v := by
    intro olds cap hdo hcap hrun
    have holen : olds.length = xs.length * i.size := by rw [cW hdo, dB, hesz]
    have hge := grownCap_ge w (xs.length + ys.length) cap el
    have hcm : grownCap w (xs.length + ys.length) cap el ≤ maxLen := grownCap_le_maxLen w (xs.length + ys.length) cap el (by simp only [maxLen]; omega)
    have hsize : (w.drew.alloc (.cells (olds.toArray ++ news.toArray ++ Builtin.zeroCells zz.cells (grownCap w (xs.length + ys.length) cap el - (xs.length + ys.length))) el)).heap.size = w.heap.size + 1 := by simp
    have hold : ∀ b2, b2 < w.heap.size → (w.drew.alloc (.cells (olds.toArray ++ news.toArray ++ Builtin.zeroCells zz.cells (grownCap w (xs.length + ys.length) cap el - (xs.length + ys.length))) el)).heap[b2]? = w.heap[b2]? := fun b2 h => Below.heap_alloc w.drew _ b2 h
    have hnew : (w.drew.alloc (.cells (olds.toArray ++ news.toArray ++ Builtin.zeroCells zz.cells (grownCap w (xs.length + ys.length) cap el - (xs.length + ys.length))) el)).heap[w.heap.size]? = some (.cells (olds.toArray ++ news.toArray ++ Builtin.zeroCells zz.cells (grownCap w (xs.length + ys.length) cap el - (xs.length + ys.length))) el (0, 0)) := iE w.drew _
    have hos : (w.drew.alloc (.cells (olds.toArray ++ news.toArray ++ Builtin.zeroCells zz.cells (grownCap w (xs.length + ys.length) cap el - (xs.length + ys.length))) el)).os = w.os ∧ (w.drew.alloc (.cells (olds.toArray ++ news.toArray ++ Builtin.zeroCells zz.cells (grownCap w (xs.length + ys.length) cap el - (xs.length + ys.length))) el)).tape = w.tape ∧ (w.drew.alloc (.cells (olds.toArray ++ news.toArray ++ Builtin.zeroCells zz.cells (grownCap w (xs.length + ys.length) cap el - (xs.length + ys.length))) el)).output = w.output := ⟨rfl, rfl, rfl⟩
    have hcs : (olds.toArray ++ news.toArray ++ Builtin.zeroCells zz.cells (grownCap w (xs.length + ys.length) cap el - (xs.length + ys.length))).size = grownCap w (xs.length + ys.length) cap el * i.size := by
      simp only [Array.size_append, List.size_toArray, size_zeroCells, hzc, holen, hnl, ← Nat.add_mul]
      congr 1
      omega
    have htk : ((olds.toArray ++ news.toArray ++ Builtin.zeroCells zz.cells (grownCap w (xs.length + ys.length) cap el - (xs.length + ys.length))).toList.drop 0).take ((xs ++ ys).length * E.size) = olds ++ news := by
      rw [List.drop_zero]
      simp only [Array.toList_append]
      rw [List.take_left' (by rw [List.length_append, holen, hnl, List.length_append, hesz, Nat.add_mul])]
    generalize hw' : (w.drew.alloc (.cells (olds.toArray ++ news.toArray ++ Builtin.zeroCells zz.cells (grownCap w (xs.length + ys.length) cap el - (xs.length + ys.length))) el)) = w' at *
    generalize hcu : (olds.toArray ++ news.toArray ++ Builtin.zeroCells zz.cells (grownCap w (xs.length + ys.length) cap el - (xs.length + ys.length))) = cu at *
    have le : Le (· ∈ [tg, J]) (· ∈ ([] : List Nat)) w M w' (fun b2 => if b2 = w.heap.size then some J else M b2) :=
      ⟨by omega, hos.1, hos.2.1, hos.2.2, fun b2 hb2 hm => ⟨by rw [if_neg (by omega)]; exact hm, hold b2 hb2⟩, fun b2 u hm _ => by
        have := wf.lt b2 u hm
        exact ⟨by rw [if_neg (by omega)]; exact hm, fun _ => hold b2 this⟩⟩
    have le0 : Le (· ∈ ([] : List Nat)) (· ∈ ([] : List Nat)) w M w' (fun b2 => if b2 = w.heap.size then some J else M b2) :=
      ⟨by omega, hos.1, hos.2.1, hos.2.2, fun b2 hb2 hm => ⟨by rw [if_neg (by omega)]; exact hm, hold b2 hb2⟩, fun b2 u hm _ => by
        have := wf.lt b2 u hm
        exact ⟨by rw [if_neg (by omega)]; exact hm, fun _ => hold b2 this⟩⟩
    have wf' : Wf w' (fun b2 => if b2 = w.heap.size then some J else M b2) := by
      refine ⟨fun b2 u hm => ?_, fun b2 b3 u ht1 hm hm' => ?_⟩
      · split at hm
        · omega
        · have := wf.lt b2 u hm; omega
      · split at hm
        · injection hm with hm; omega
        · split at hm'
          · injection hm' with hm'; omega
          · exact wf.inj b2 b3 u ht1 hm hm'
    have hblt := wf.lt b tg hb
    refine ⟨.slice (some ⟨w.heap.size, 0, none⟩) (xs.length + ys.length) (grownCap w (xs.length + ys.length) cap el), w', by simp [execOp, resolve, invoke, builtin, hrun], _, wf', le, ⟨.inr ⟨w.heap.size, 0, grownCap w (xs.length + ys.length) cap el, cu, by rw [List.length_append], by simp, hnew, by rw [List.length_append]; exact hge, hcm, by rw [hcs, hesz]; omega, ?_⟩, fun g e0 he => ?_⟩, fun y hy => ?_⟩
    · rw [htk, List.flatMap_append]
      exact j0 (bw le0 (by rw [E.cY]; intro _ h; cases h) (by rw [E.cS]; intro _ h; cases h) hdo) (bw le0 (by rw [E.cY]; intro _ h; cases h) (by rw [E.cS]; intro _ h; cases h) hn2)
    · simp only [ji, Option.some.injEq, Prod.mk.injEq] at he
      obtain ⟨rfl, _⟩ := he
      refine ⟨b, es, clock, (if_neg (by omega)).trans hb, (hold b hblt).trans hhb, fun j u e1 hj hju => ?_⟩
      have := wf.lt _ _ (JA hvals hj hju)
      omega
    · rw [List.mem_singleton.1 hy]
      refine ⟨hn, b, es, clock, (if_neg (by omega)).trans hb, (hold b hblt).trans hhb, hkeys, ?_, hap⟩
      exact bw le0 (fun _ _ h => by cases h) (fun _ _ h => by cases h) hvals
  rcases hrow with ⟨hxe, ex⟩ | ⟨g, off, cap, cur, ex, hg, hh, hxc, hcm, hfit, hdx⟩
  · have hrn := run_append_nil (P := P) w st t el i zz hD hi hiz ⟨b', off', none⟩ ys.length c' news hnl hnews hpos (by omega) (by rw [hby]; have := hlen; rw [Nat.add_mul] at this; omega)
    subst hxe
    refine grown [] 0 trivial (by simpa using hpos) ?_
    rw [ex, ey]
    simpa using hrn
  · by_cases hroom : xs.length + ys.length ≤ cap
    · -- in place
      have hm : (xs.length + ys.length) * E.size ≤ cap * E.size := Nat.mul_le_mul_right _ hroom
      rw [Nat.add_mul] at hm
      have hcf : off + xs.length * i.size + news.length ≤ cur.size := by rw [hnl, ← hesz]; omega
      have hf := run_firstCells_some (P := P) w i.size ys.length ⟨b', off', none⟩ ys.length c' news hnl hnews
      have hst := run_storeCells_at (P := P) g (off + xs.length * i.size) el news 0 cur w hh (by simpa using hcf) hones
      rw [oM _ hh] at hst
      simp only [Nat.add_zero] at hst
      obtain ⟨h1', h2', h3'⟩ := lK (cs' := (cur.toList.take (off + xs.length * i.size) ++ news ++ cur.toList.drop (off + xs.length * i.size + news.length)).toArray) (Tb := el) wf hg _ rfl
      have hrun : (Builtin.append_ #[st, st] t #[a.eval x, a.eval y]).run P w = .ok (.slice (some ⟨g, off, none⟩) (xs.length + ys.length) cap) { w with heap := w.heap.setIfInBounds g (.cells (cur.toList.take (off + xs.length * i.size) ++ news ++ cur.toList.drop (off + xs.length * i.size + news.length)).toArray el (0, 0)) } := by
        rw [ex, ey]
        simp [Builtin.append_, run_underlying hD, sizeOf, typeInfo, hi, Builtin.lenOf, hroom, hf, Addr.add_lit, hst]
      have le : Le (· ∈ [tg, J]) (· ∈ ([] : List Nat)) w M { w with heap := w.heap.setIfInBounds g (.cells (cur.toList.take (off + xs.length * i.size) ++ news ++ cur.toList.drop (off + xs.length * i.size + news.length)).toArray el (0, 0)) } M :=
        h2'.weaken (fun u hu => by simp only [List.mem_singleton] at hu; subst hu; simp) (fun _ h => by cases h)
      have hgb : g ≠ b := fun e => by rw [e, hhb] at hh; cases hh
      have hroomy : roomy (a.eval x) = true := by rw [ex]; simp [roomy]; omega
      have hb' : ({ w with heap := w.heap.setIfInBounds g (.cells (cur.toList.take (off + xs.length * i.size) ++ news ++ cur.toList.drop (off + xs.length * i.size + news.length)).toArray el (0, 0)) } : World).heap[b]? = some (.map es clock) := by
        show (w.heap.setIfInBounds g _)[b]? = _
        rw [Array.getElem?_setIfInBounds_ne hgb]; exact hhb
      refine ⟨.slice (some ⟨g, off, none⟩) (xs.length + ys.length) cap, _, by simp [execOp, resolve, invoke, builtin, hrun], M, h1', le, ⟨.inr ⟨g, off, cap, _, by rw [List.length_append], hg, h3', by rw [List.length_append]; exact hroom, hcm, ?_, ?_⟩, fun g' e0 he => ?_⟩, fun y hy => ?_⟩
      · simp only [List.size_toArray, List.length_append, List.length_take, List.length_drop, Array.length_toList]
        omega
      · rw [List.length_append, Nat.add_mul, hesz, ← hnl, List.toList_toArray, DO _ _ _ _ (by simpa using hcf), List.flatMap_append]
        refine bw h2' (by rw [← List.flatMap_append, E.cY]; intro _ h; cases h) (by rw [← List.flatMap_append, E.cS]; intro _ h; cases h) (j0 ?_ hn2)
        rw [← hesz]; exact hdx
      · simp only [ji, Option.some.injEq, Prod.mk.injEq] at he
        obtain ⟨rfl, rfl⟩ := he
        refine ⟨b, es, clock, hb, hb', fun j u e1 hj hju => ?_⟩
        have := ownb g (off + xs.length * E.size) (by rw [ex]; rfl) j u e1 hj hju
        refine ⟨this.1, fun _ => ?_⟩
        have := this.2 hroomy
        rw [Nat.add_mul]; omega
      · rw [List.mem_singleton.1 hy]
        refine ⟨hn, b, es, clock, hb, hb', hkeys, ?_, hap⟩
        refine gB (by rw [cW hvals]) fun j ty hj => ?_
        obtain ⟨u, hu, hdu⟩ := dQ hvals j ty hj
        refine ⟨u, hu, ?_⟩
        rw [List.getElem?_map] at hj
        obtain ⟨qe, _, rfl⟩ := Option.map_eq_some_iff.1 hj
        rcases hdu with h | ⟨g2, off2, c2, cur2, e2, hg2, hh2, k1, k2, k3, k4⟩
        · exact .inl h
        · by_cases hgg : g = g2
          · subst hgg
            rw [hh] at hh2
            injection hh2 with hh2
            injection hh2 with ha _
            subst ha
            have hend := (ownb g (off + xs.length * E.size) (by rw [ex]; rfl) j u _ hu (by rw [e2]; rfl)).2 hroomy
            refine .inr ⟨g, off2, c2, _, e2, hg, h3', k1, k2, ?_, ?_⟩
            · simp only [List.size_toArray, List.length_append, List.length_take, List.length_drop, Array.length_toList]
              omega
            · rw [List.toList_toArray, LX _ _ _ _ 0 _ (by rw [← hesz]; exact hend) (by simpa using hcf)]
              exact bw h2' (by rw [E.cY]; intro _ h; cases h) (by rw [E.cS]; intro _ h; cases h) k4
          · refine .inr ⟨g2, off2, c2, cur2, e2, hg2, ?_, k1, k2, k3, bw h2' (by rw [E.cY]; intro _ h; cases h) (by rw [E.cS]; intro _ h; cases h) k4⟩
            show (w.heap.setIfInBounds g _)[g2]? = _
            rw [Array.getElem?_setIfInBounds_ne hgg]; exact hh2
    · have holds : ∀ j u, ((cur.toList.drop off).take (xs.length * E.size))[j]? = some u → w.cell? ((⟨g, off, none⟩ : Addr).add j) = some u := fun j u hj => by
        rw [List.getElem?_take] at hj
        split at hj
        · rw [List.getElem?_drop] at hj
          rw [Addr.add_lit]
          simpa [World.cell?, hh] using hj
        · cases hj
      have hol : ((cur.toList.drop off).take (xs.length * E.size)).length = xs.length * i.size := by rw [cW hdx, dB, hesz]
      have hrn := run_append_grow (P := P) w st t el i zz hD hi hiz ⟨g, off, none⟩ xs.length cap _ hol holds ⟨b', off', none⟩ ys.length c' news hnl hnews (by omega) (by omega) (growslice_fits (by omega) (by rw [hby]; exact hlen))
      refine grown _ cap hdx (by omega) ?_
      rw [ex, ey]
      exact hrn
end
end Go.T
namespace Go.T
open Go Go.RowKit
end Go.T
namespace Go.T
open Go Go.RowKit Go.Lib
section
variable {P : Program} {fr : Fr} {ops : Array Oper} {A : As} {rest : List Oper} {K : As → List (As × Fx) → Prop} {d : Nat} {t ty' ty2 : TypeId} {p : String} {e : Array Edge} [T : lX P]
end
end Go.T
namespace Go.T
open Go Go.RowKit
section
variable {P : Program} {fr : Fr} {ops : Array Oper} {A : As} {rest : List Oper} {K : As → List (As × Fx) → Prop} {t mt : TypeId} {p : String} {e : Array Edge} {d : Option Nat} {x y z : Operand}
end
section
variable {P : Program} {fr : Fr} {ops : Array Oper} {A : As} {rest : List Oper} {K : As → List (As × Fx) → Prop} {d : Nat} {t mt kt et : TypeId} {p : String} {e : Array Edge}
variable {κ β : Type} [DecidableEq κ]
end
section
variable {A : As} {κ β : Type} [DecidableEq κ]
end
section
variable {P : Program} {fr : Fr} {ops : Array Oper} {A : As} {rest : List Oper} {K : As → List (As × Fx) → Prop} {t ty' : TypeId} {p : String} {e : Array Edge} [T : lX P]
end
section
variable {P : Program} {fr : Fr} {ops : Array Oper} {A : As} {rest : List Oper} {K : As → List (As × Fx) → Prop} {d : Nat} {t ty' : TypeId} {p : String} {e : Array Edge} [T : lX P]
theorem lV {α : Type} [Inhabited α] {E : El α} {xs : List α} {x : Operand} {tg off Tb : Nat} {ti : TI} (i : Nat) (hx : A.op fr x = .ptr tg off) (he : off = i * E.size) (hc : A.tag tg = some (.vec E Tb xs)) (h1 : gL tg) (hT : T.eS[ty']? = some ti) (ha : ti.k.agg = true) (hsz : ti.size = E.size) (hi : i < xs.length)
 (h : ay P fr ops rest (A.set d (.agg (E.tys (nth xs i)))) fun A' l => K A' ((A, { d := some d, ty := .agg (E.tys (nth xs i)), rs := cO x, rt := [tg] }) :: l)) : ay P fr ops (⟨some d, .load ty' x, t, p, e, none⟩ :: rest) A K :=
 bM (bV rfl rfl fun a w M wf hr ht => by
  have := cU (x := x) (fun _ h => h) hr
  rw [hx] at this
  obtain ⟨b, hb, e⟩ := this
  obtain ⟨cs, g1, g2, g3⟩ := sI (l := E.tys (nth xs i)) (b := b) (q := off) (off := 0) (n := ti.size) (m := E.tys (nth xs i)) (fun j t hj => n5 wf h1 hb (so hc w M ht) (by
   rw [he]; exact n8 E xs hi j t hj)) (by rw [List.drop_zero, hsz, ← E.len (nth xs i), List.take_length]) (by rw [E.len, hsz])
  exact ⟨.agg cs.toArray, by simp only [execOp, e]; rw [Sem.run_bind, iY (off := off) hT ha g1 (by simpa using g3)]; rfl, cs.toArray, rfl, by simpa using g2⟩) h
end
section
variable {P : Program} {A : As} {fn : Func} {n : Nat} {w0 : World} {M0 : bF} [T : lX P]
end
section
variable {P : Program} {fr : Fr} {A : As} {c : Code} {Q : Exit → Act → World → Prop}
theorem jz {tg : Nat} {C D : Cont} (hc : A.tag tg = some C) (h : C.Sub D) (h' : fW P fr c ⟨A.slots, (tg, D) :: A.tags⟩ Q) : fW P fr c A Q := fun a w ⟨M, ok, hsl, ht⟩ =>
 h' a w ⟨M, ok, hsl, fun x hx => by
  rcases List.mem_cons.1 hx with rfl | hx
  ·exact h _ _ _ (ht _ (cj hc))
  exact ht x hx⟩
end
section
variable {P : Program} {fr : Fr} {ops : Array Oper} {A : As} {rest : List Oper} {K : As → List (As × Fx) → Prop} {d : Nat} {t mt kt et : TypeId} {p : String} {e : Array Edge} {κ β : Type} [DecidableEq κ]
end
end Go.T
namespace Go.T
open Go Go.RowKit
def QW (J : World → bF → Prop) (w : World) (M : bF) : Prop :=
  ∃ Mc, Wf w Mc ∧ G3 Mc ∧ J w Mc ∧ (∀ b, M b = none → Mc b = none) ∧ ∀ b u, b < w.heap.size → M b = some u → u ≠ 7000 → Mc b = some (Zt + b)
theorem wo {J : World → bF → Prop} (hJ : Cb J) {S K : Nat → Prop} {w w' : World} {M M' : bF} (le : Le S K w M w' M') (hs : ¬ S 7000) (hk : ¬ K 7000) (h : QW J w M) : QW J w' M' := by
  obtain ⟨Mc, wf, z, hj, h1, h2⟩ := h
  have own : ∀ b, M b = some 7000 → M' b = some 7000 ∧ w'.heap[b]? = w.heap[b]? := fun b h => let ⟨a, c⟩ := le.own b _ h hk; ⟨a, c hs⟩
  have mb : ∀ b t, Mc b = some t → t < Zt → M b = some 7000 := fun b t h ht => by
    cases hm : M b with
    | none => rw [h1 b hm] at h; cases h
    | some u =>
      by_cases e : u = 7000
      · rw [e]
      · have := h2 b u (wf.lt b t h) hm e
        rw [this] at h; injection h with h; omega
  let N : bF := fun b => if b < w'.heap.size then (match M' b with | none => none | some u => if u = 7000 then (if b < w.heap.size ∧ M b = some 7000 then Mc b else some (Zt + b)) else some (Zt + b)) else none
  have hN : ∀ b, N b = if b < w'.heap.size then (match M' b with | none => none | some u => if u = 7000 then (if b < w.heap.size ∧ M b = some 7000 then Mc b else some (Zt + b)) else some (Zt + b)) else none := fun _ => rfl
  have zok : G3 N := by
    intro b u h hu
    rw [hN] at h
    split at h
    · split at h
      · cases h
      · split at h
        · split at h
          · exact z b u h hu
          · injection h with h; exact h.symm
        · injection h with h; exact h.symm
    · cases h
  have wf' : Wf w' N := by
    refine ⟨fun b t h => ?_, fun b b' t ht1 h h' => ?_⟩
    · rw [hN] at h
      split at h
      · assumption
      · cases h
    · have part : ∀ b, N b = some (t + 1) → Mc b = some (t + 1) := fun b h => by
        have hz : t + 1 < Zt := by unfold Zt; omega
        rw [hN] at h
        split at h
        · split at h
          · cases h
          · split at h
            · split at h
              · exact h
              · injection h with h; omega
            · injection h with h; omega
        · cases h
      exact wf.inj b b' t ht1 (part b h) (part b' h')
  have lez : Le (fun t => Zt ≤ t) (fun t => Zt ≤ t) w Mc w' N := by
    refine ⟨le.size, le.os, le.tape, le.out, fun b hb hm => ?_, fun b t hm ht => ?_⟩
    · have hb' : b < w'.heap.size := Nat.lt_of_lt_of_le hb le.size
      cases hmb : M b with
      | none =>
        obtain ⟨a, c⟩ := le.qj b hb hmb
        exact ⟨by rw [hN, if_pos hb', a], c⟩
      | some u =>
        by_cases e : u = 7000
        · subst e
          obtain ⟨a, c⟩ := own b hmb
          exact ⟨by rw [hN, if_pos hb', a]; show (if (7000 : Nat) = 7000 then _ else _) = _; rw [if_pos rfl, if_pos ⟨hb, hmb⟩]; exact hm, c⟩
        · rw [h2 b u hb hmb e] at hm; cases hm
    · have hlt := wf.lt b t hm
      have h0 := mb b t hm (Nat.lt_of_not_le ht)
      obtain ⟨a, c⟩ := own b h0
      refine ⟨?_, fun _ => c⟩
      rw [hN, if_pos (Nat.lt_of_lt_of_le hlt le.size), a]
      show (if (7000 : Nat) = 7000 then _ else _) = _
      rw [if_pos rfl, if_pos ⟨hlt, h0⟩]; exact hm
  refine ⟨N, wf', zok, hJ _ _ _ _ wf' lez hj, fun b h => ?_, fun b u hb h hu => ?_⟩
  · rw [hN, h]; split <;> rfl
  · rw [hN, if_pos hb, h]; show (if u = 7000 then _ else _) = _; rw [if_neg hu]
def Cont.ck {J : World → bF → Prop} (hJ : Cb J) : Cont :=
  { den := fun w M t => t = 7000 ∧ QW J w M
    mono := fun le _ _ hs hk ⟨e, h⟩ => ⟨e, wo hJ le (e ▸ hs) (e ▸ hk) h⟩ }
theorem Cont.Pv {J : Nat → World → bF → Prop} (hJ : ∀ k, Cb (J k)) {a b : Nat} (e : a = b) : (Cont.ck (hJ a)).Sub (Cont.ck (hJ b)) := by subst e; exact Cont.aF _
def Sd (b1 : Bool) (J1 Jx : World → bF → Prop) (w : World) (M : bF) (v : Value) : Prop := (v = .bool b1 ∧ QW J1 w M) ∨ (v = .bool (!b1) ∧ QW Jx w M)
def Ty.yb {J1 Jx : World → bF → Prop} (b1 : Bool) (h1 : Cb J1) (hx : Cb Jx) : Ty :=
  ⟨Sd b1 J1 Jx, [7000], [7000], fun le hk hs h => h.imp (fun ⟨e, h⟩ => ⟨e, wo h1 le (hs _ (by simp)) (hk _ (by simp)) h⟩) (fun ⟨e, h⟩ => ⟨e, wo hx le (hs _ (by simp)) (hk _ (by simp)) h⟩), true, fun _ h => h.elim (fun ⟨e, _⟩ => e ▸ rfl) (fun ⟨e, _⟩ => e ▸ rfl)⟩
def Cont.me (g T : Nat) (v : Value) (tys : List Ty) (cs : List Value) (h1 : cG tys = []) (h2 : bl tys = []) : Cont :=
  { den := fun w M _ => M g = some 1000 ∧ w.heap[g]? = some (.cells #[v] T (0, 0)) ∧ cK w M tys cs
    deps := [1000], cdeps := [1000]
    mono := fun le hk hs _ _ ⟨e1, e2, e3⟩ => let ⟨a, c⟩ := le.own g _ e1 (hk 1000 (by simp)); ⟨a, (c (hs 1000 (by simp))).trans e2, bw le (by rw [h1]; intro _ h; cases h) (by rw [h2]; intro _ h; cases h) e3⟩ }
def Br (w : World) (M1 Mc' : bF) : bF := fun b => if b < w.heap.size then M1 b else (Mc' b).map fun _ => 7000
theorem LP {w w' : World} {M1 Mc Mc' : bF} (wf1 : Wf w M1) (wf' : Wf w' Mc') (h1 : ∀ b, M1 b = none → Mc b = none) (h2 : ∀ b u, b < w.heap.size → M1 b = some u → u ≠ 7000 → Mc b = some (Zt + b)) (le : Le (fun t => t < Zt) (fun t => t < Zt) w Mc w' Mc') :
 Wf w' (Br w M1 Mc') ∧ Le (· ∈ [7000]) (· ∈ ([] : List Nat)) w M1 w' (Br w M1 Mc') ∧ (∀ b, Br w M1 Mc' b = none → Mc' b = none) ∧ ∀ b u, b < w'.heap.size → Br w M1 Mc' b = some u → u ≠ 7000 → Mc' b = some (Zt + b) := by
 unfold Br
 refine ⟨⟨fun b u h => ?_, fun b b' u ht1 h h' => ?_⟩, ⟨le.size, le.os, le.tape, le.out, fun b hb hm => ⟨by simp [hb, hm], (le.qj b hb (h1 b hm)).2⟩, fun b u hm _ => ⟨by simp [wf1.lt b u hm, hm], fun hs => ?_⟩⟩, fun b h => ?_, fun b u _ h hu => ?_⟩
 ·split at h
  ·exact Nat.lt_of_lt_of_le ‹_› le.size
  obtain ⟨v, hv, _⟩ := Option.map_eq_some_iff.1 h
  exact wf'.lt b v hv
 ·have part : ∀ b, (if b < w.heap.size then M1 b else (Mc' b).map fun _ => 7000) = some (u + 1) → M1 b = some (u + 1) := fun b h => by
   split at h
   ·exact h
   obtain ⟨v, _, hv⟩ := Option.map_eq_some_iff.1 h
   omega
  exact wf1.inj b b' u ht1 (part b h) (part b' h')
 ·have hu : u ≠ 7000 := fun e => hs (by simp [e])
  exact (le.own b _ (h2 b u (wf1.lt b _ hm) hm hu) (by omega)).2 (by omega)
 ·split at h
  ·exact (le.qj b ‹_› (h1 b h)).1
  simpa using h
 split at h
 ·exact (le.own b _ (h2 b u ‹_› h hu) (by omega)).1
 obtain ⟨v, _, hv⟩ := Option.map_eq_some_iff.1 h
 exact absurd hv.symm hu
section
variable {P : Program} {fr : Fr} {ops : Array Oper} {A : As} {rest : List Oper} {K : As → List (As × Fx) → Prop} {d : Nat} {t ty' : TypeId} {p : String} {e : Array Edge}
theorem DY {c l k : Nat} {encs : List (List Ty)} {J : Nat → World → bF → Prop} {Jx : World → bF → Prop} (hJ : ∀ k, Cb (J k)) (hJx : Cb Jx) (hY : QY P l encs J Jx) {xs : List Operand} {ats : Array TypeId} {tys : List Ty}
 (hkd : fr.kd = .plain) (hc : A.op fr (.tmp c) = .ex (yv l)) (hx : o9 A fr xs = tys) (hd : cG tys = []) (hdc : bl tys = []) (hk : encs[k]? = some tys) (ht : A.tag 7000 = some (.ck (hJ k)))
 (h : ay P fr ops rest (A.after { d := some d, ty := .yb true (hJ (k + 1)) hJx, S := [7000], rs := c :: xs.flatMap cO, rt := [7000] }) fun A' l' => K A' ((A, { d := some d, ty := .yb true (hJ (k + 1)) hJx, S := [7000], rs := c :: xs.flatMap cO, rt := [7000] }) :: l')) :
 ay P fr ops (⟨some d, .call ⟨.value (.tmp c), xs.toArray, ats⟩, t, p, e, none⟩ :: rest) A K := by
 refine ⟨{ d := some d, ty := .yb true (hJ (k + 1)) hJx, S := [7000], rs := c :: xs.flatMap cO, rt := [7000] }, ⟨rfl, by simp, by simp, by simp, fun a w M wf hsz hrd htg => ?_⟩, h⟩
 rw [if_pos (by simp [Region.wanted])]
 have hcv := cU (x := .tmp c) (rs := c :: xs.flatMap cO) (fun u hu => by exact (List.mem_singleton.1 hu) ▸ List.mem_cons_self) hrd
 rw [hc] at hcv
 have hcv : a.eval (.tmp c) = yv l := hcv
 obtain ⟨_, Mc, wfc, z, hj, h1, h2⟩ := htg _ (cj ht) (by simp)
 have hv : cK w Mc tys (xs.map a.eval) := iI h1 hd hdc (hx ▸ iP (rs := c :: xs.flatMap cO) hrd fun x hx c hc => List.mem_cons_of_mem _ (List.mem_flatMap.2 ⟨x, hx, hc⟩))
 obtain ⟨fn, tmps, assign, body, hy, hR⟩ := hY k tys hk w Mc _ wfc z hj hv
 refine ⟨fun f _ => fr.kd.wK f, ?_⟩
 have hrun : (execOp a.eval ⟨some d, .call ⟨.value (.tmp c), xs.toArray, ats⟩, t, p, e, none⟩).run P w = .ok (.round l fn tmps assign body) w := by
  simp [execOp, resolve, hcv, yv, Deferred.ofValue, invoke, hy]
 rw [Oper.semAt_eq _ _ _ (by intro c h; cases h), hrun, Oper.uponIn_round]
 refine ⟨fun h => (by rw [fr.kd.w8] at h; cases h), ?_⟩
 have hfe : fr.kd.jQ = Fence.wide := by rw [hkd]; rfl
 rw [hfe]
 refine RoundIn.mono hR fun en w' ⟨Mc', wf', z', le, hor⟩ => ?_
 obtain ⟨g1, g2, g3, g4⟩ := LP wf wf' h1 h2 le
 rcases hor with ⟨rfl, hj'⟩ | ⟨rfl, hj'⟩
 ·exact ⟨.bool true, rfl, _, g1, g2, .inl ⟨rfl, Mc', wf', z', hj', g3, g4⟩, by simp⟩
 exact ⟨.bool false, rfl, _, g1, g2, .inr ⟨rfl, Mc', wf', z', hj', g3, g4⟩, by simp⟩
theorem LL {x : Operand} {J1 Jx : World → bF → Prop} {h1 : Cb J1} {hx : Cb Jx} {b1 : Bool} (hop : A.op fr x = .yb b1 h1 hx)
 (h : ay P fr ops rest (A.set d (.yb (!b1) h1 hx)) fun A' l' => K A' ((A, { d := some d, ty := .yb (!b1) h1 hx, rs := cO x }) :: l')) : ay P fr ops (⟨some d, .unOp .not ty' x, t, p, e, none⟩ :: rest) A K :=
 bM (bV rfl rfl fun a w M _ hrd _ => by
  have hdx := cU (x := x) (fun _ h => h) hrd
  rw [hop] at hdx
  rcases hdx with ⟨ex, hj⟩ | ⟨ex, hj⟩
  ·exact ⟨.bool (!b1), by simp [execOp, ex, Op.unary], .inl ⟨rfl, hj⟩⟩
  exact ⟨.bool (!!b1), by simp [execOp, ex, Op.unary], .inr ⟨rfl, hj⟩⟩) h
end
section
variable {P : Program} {fr : Fr} {A : As} {Q : Exit → Act → World → Prop} {x y : Code}
theorem GD {c : Operand} {J1 Jx : World → bF → Prop} {h1 : Cb J1} {hx : Cb Jx} (hc : A.op fr c = .yb false h1 hx) (hth : fW P fr x ⟨A.slots, (7000, .ck hx) :: A.tags⟩ Q) (hel : fW P fr y ⟨A.slots, (7000, .ck h1) :: A.tags⟩ Q) : fW P fr (.cond c x y) A Q := fun a w ha => by
 obtain ⟨M, ok, hs, ht⟩ := ha
 have hd := cU (x := c) (rs := cO c) (fun _ h => h) (fun c _ hn => hs c hn)
 rw [hc] at hd
 rcases hd with ⟨ev, hj⟩ | ⟨ev, hj⟩
 ·exact wpIn_cond_false ev (hel a w ⟨M, ok, hs, fun x hx => by
   rcases List.mem_cons.1 hx with rfl | hx
   ·exact ⟨rfl, hj⟩
   exact ht x hx⟩)
 ·exact wpIn_cond_true ev (hth a w ⟨M, ok, hs, fun x hx => by
   rcases List.mem_cons.1 hx with rfl | hx
   ·exact ⟨rfl, hj⟩
   exact ht x hx⟩)
end
def lZ (Mc : bF) (g : Option Nat) : bF := fun b => match Mc b with | none => none | some u => if u < Zt then some 7000 else if some b = g then some 1000 else some 5000
theorem Cd {Mc : bF} {g : Option Nat} {b : Nat} (h : lZ Mc g b = none) : Mc b = none := by
 unfold lZ at h
 split at h
 ·assumption
 split at h
 ·cases h
 split at h <;> cases h
theorem oL {Mc : bF} {g : Option Nat} {b : Nat} (h : Mc b = none) : lZ Mc g b = none := by simp [lZ, h]
theorem G5 {w : World} {Mc : bF} {g : Option Nat} (wf : Wf w Mc) : Wf w (lZ Mc g) := by
  refine ⟨fun b t h => ?_, fun b b' t ht h h' => ?_⟩
  · cases hm : Mc b with
    | none => rw [oL hm] at h; cases h
    | some u => exact wf.lt b u hm
  · have key : ∀ b, lZ Mc g b = some (t + 1) → some b = g := fun b h => by
      unfold lZ at h
      split at h
      · cases h
      · split at h
        · injection h with h; omega
        · split at h
          · assumption
          · injection h with h; omega
    have e1 := key b h
    have e2 := key b' h'
    rw [← e2] at e1; injection e1
theorem G2 {w : World} {Mc : bF} {g : Option Nat} {J : World → bF → Prop} (wf : Wf w Mc) (z : G3 Mc) (hj : J w Mc) : QW J w (lZ Mc g) := by
 refine ⟨Mc, wf, z, hj, fun b h => Cd h, fun b u _ h hu => ?_⟩
 unfold lZ at h
 split at h
 ·cases h
 rename_i v hv
 split at h
 ·injection h with h; exact absurd h.symm hu
 rw [hv]; congr 1; exact z b v hv (by omega)
section
variable {P : Program}
variable {A : As} {fn : Func} {n : Nat} {J1 Jx : World → bF → Prop}
end
end Go.T
namespace Go.T
open Go Go.RowKit
section
variable {P : Program} {fr : Fr} {ops : Array Oper} {A : As} {rest : List Oper} {K : As → List (As × Fx) → Prop} {d : Nat} {t ty' : TypeId} {p : String} {e : Array Edge} [T : lX P]
variable {α : Type} {E : El α} {Tb J : Nat} {xs ys : List α}
theorem PS {x : Operand} {ti : TI} {el : Nat} (hx : A.op fr x = .fo E Tb J xs) (hT : T.eS[ty']? = some ti) (hk : ti.k = .slice el)
 (h : ay P fr ops rest (A.set d (.int .i64 (xs.length : Nat))) fun A' l => K A' ((A, { d := some d, ty := .int .i64 (xs.length : Nat), rs := cO x }) :: l)) :
 ay P fr ops (⟨some d, .call ⟨.builtin .len, #[x], #[ty']⟩, t, p, e, none⟩ :: rest) A K :=
 bM (bV rfl rfl fun a w M _ hr _ => by
  have := cU (x := x) (fun _ h => h) hr
  rw [hx] at this
  have h1 := this
  obtain ⟨_, D, _, hD, hkd, _⟩ := c6 hT
  rw [hk] at hkd
  cases D <;> simp only [TK.of, reduceCtorEq, TK.slice.injEq] at hkd
  refine ⟨.int .i64 xs.length, ?_, rfl⟩
  rcases h1 with ⟨hn, ex⟩ | ⟨g, off, c, cur, ex, _⟩
  ·simp [execOp, ex, resolve, invoke, builtin, Builtin.len_, run_underlying hD, hn, goInt]
  simp [execOp, ex, resolve, invoke, builtin, Builtin.len_, run_underlying hD, goInt]) h
theorem LZ [Inhabited α] {x y : Operand} {kd : IntKind} {i : Nat} {ti te : TI} {el : Nat} (hx : A.op fr x = .fo E Tb J xs) (hy : A.op fr y = .int kd i) (hT : T.eS[ty']? = some ti) (hk : ti.k = .slice el) (hE : T.eS[el]? = some te) (hs : te.size = E.size) (hi : i < xs.length)
 (h : ay P fr ops rest (A.set d (.op J (E.tys (nth xs i)))) fun A' l' => K A' ((A, { d := some d, ty := .op J (E.tys (nth xs i)), rs := cO x ++ cO y }) :: l')) : ay P fr ops (⟨some d, .indexAddr ty' x y, t, p, e, none⟩ :: rest) A K :=
 bM (bV rfl rfl fun a w M _ hr _ => by
  obtain ⟨hdx, hdy⟩ := op2 hr
  rw [hx] at hdx; rw [hy] at hdy
  have h1 := hdx
  have ey : a.eval y = .int kd i := hdy
  rcases h1 with ⟨h0, _⟩ | ⟨g, off, c, cur, ex, hg, hh, hn, _, _, hd⟩
  ·subst h0; simp at hi
  refine ⟨_, by simp only [execOp, ex, ey, Sem.run_bind, iR hT hk hE (Int.natCast_nonneg i) (show (i : Int).toNat < xs.length from hi)]; rfl, g, off + i * te.size, by simp, hg, fun j ty hj => ?_⟩
  rw [hs]
  exact zD hh hd hi hj) h
theorem QO {x y : Operand} {kd : IntKind} {lo : Nat} {ti te : TI} {el : Nat} (hx : A.op fr x = .fo E Tb J xs) (hy : A.op fr y = .int kd lo) (hT : T.eS[ty']? = some ti) (hk : ti.k = .slice el) (hE : T.eS[el]? = some te) (hs : te.size = E.size) (hlo : lo ≤ xs.length) (h0 : 0 < xs.length)
 (h : ay P fr ops rest (A.set d (.fo E Tb J (xs.drop lo))) fun A' l' => K A' ((A, { d := some d, ty := .fo E Tb J (xs.drop lo), rs := cO x ++ cO y }) :: l')) : ay P fr ops (⟨some d, .slice ty' x (some y) none none, t, p, e, none⟩ :: rest) A K :=
 bM (bV rfl rfl fun a w M _ hr _ => by
  obtain ⟨hdx, hdy⟩ := op2 hr
  rw [hx] at hdx; rw [hy] at hdy
  have h1 := hdx
  have ey : a.eval y = .int kd lo := hdy
  obtain ⟨_, D, _, hD, hkd, _⟩ := c6 hT
  rw [hk] at hkd
  cases D <;> simp only [TK.of, reduceCtorEq, TK.slice.injEq] at hkd
  subst hkd
  have hsz := fun w => dP (P := P) hE w
  rcases h1 with ⟨hn, _⟩ | ⟨g, off, c, cur, ex, hg, hh, hn, hc, hsz2, hd⟩
  ·subst hn; simp at h0
  have hlc : lo ≤ c := by omega
  have hrun : ∃ ad, (execOp a.eval ⟨some d, .slice ty' x (some y) none none, t, p, e, none⟩).run P w = .ok (.value (.slice (some ad) (xs.length - lo) (c - lo))) w ∧ ad = (if c = lo then (⟨g, off, none⟩ : Addr) else ⟨g, off + lo * E.size, none⟩) := by
   refine ⟨_, ?_, rfl⟩
   simp [execOp, ex, ey, Instr.sliceAt, Instr.slice, run_underlying hD, Instr.sliceBounds, Instr.sliceBound, asIntOf, hsz, hs, hn, hlo]
   by_cases hcl : c = lo
   ·simp [hcl]
   simp [hcl]; exact Addr.add_lit _ _ _
  obtain ⟨ad, hrun, had⟩ := hrun
  have hlen : (xs.drop lo).length = xs.length - lo := List.length_drop
  have key : cK w M ((xs.drop lo).flatMap E.tys) ((cur.toList.drop (off + lo * E.size)).take ((xs.drop lo).length * E.size)) := by
   have := n4 (lo * E.size) hd
   rw [List.drop_take, List.drop_drop, ← Nat.sub_mul] at this
   have e1 : (xs.flatMap E.tys).drop (lo * E.size) = (xs.drop lo).flatMap E.tys := by
    have : xs.flatMap E.tys = (xs.take lo).flatMap E.tys ++ (xs.drop lo).flatMap E.tys := by rw [← List.flatMap_append, List.take_append_drop]
    rw [this, List.drop_left' (by rw [dB, List.length_take, Nat.min_eq_left hlo])]
   rw [e1] at this
   rw [hlen]; exact this
  by_cases hcl : c = lo
  ·rw [if_pos hcl] at had
   subst had
   refine ⟨_, hrun, .inr ⟨g, off, c - lo, cur, by rw [hlen], hg, hh, by rw [hlen]; omega, by omega, ?_, ?_⟩⟩
   ·have : c - lo = 0 := by omega
    rw [this]; omega
   have h0' : xs.drop lo = [] := List.eq_nil_of_length_eq_zero (by rw [hlen]; omega)
   rw [h0']; simp [cK]
  rw [if_neg hcl] at had
  subst had
  refine ⟨_, hrun, .inr ⟨g, off + lo * E.size, c - lo, cur, by rw [hlen], hg, hh, by rw [hlen]; omega, by omega, ?_, key⟩⟩
  rw [Nat.add_assoc, ← Nat.add_mul, show lo + (c - lo) = c by omega]; exact hsz2) h
theorem II {x y : Operand} {st el : Nat} {ti te : TI} (hx : A.op fr x = .fo E el J xs) (hy : A.op fr y = .sl E ys) (hJ : 4096 ≤ J) (hp : fr.pass.contains J = false) (hpos : 0 < ys.length) (hT : T.eS[st]? = some ti) (hk : ti.k = .slice el) (hE : T.eS[el]? = some te) (hs : te.size = E.size) (hz : te.zero.length = te.size) (h0 : 0 < te.size)
    (hlen : (xs.length + ys.length) * te.bytes ≤ 140737488355328) (hlen' : xs.length + ys.length ≤ 9223372036854775807)
    (h : ay P fr ops rest (A.after { d := some d, ty := .fo E el J (xs ++ ys), S := [J], rs := cO x ++ cO y }) fun A' l' => K A' ((A, { d := some d, ty := .fo E el J (xs ++ ys), S := [J], rs := cO x ++ cO y }) :: l')) :
    ay P fr ops (⟨some d, .call ⟨.builtin .append, #[x, y], #[st, st]⟩, t, p, e, none⟩ :: rest) A K := by
  refine ⟨_, gK rfl rfl (by simp) (by simp; omega) (by simp) fun a w M wf hr htg => ?_, h⟩
  obtain ⟨hdx, hdy⟩ := op2 hr
  rw [hx] at hdx; rw [hy] at hdy
  have hrow := hdx
  obtain ⟨_, D, _, hD, hkd, _⟩ := c6 hT
  rw [hk] at hkd
  cases D <;> simp only [TK.of, reduceCtorEq, TK.slice.injEq] at hkd
  subst hkd
  rename_i el
  obtain ⟨i, _, hi, _, _, hsz, hby, hze⟩ := c6 hE
  obtain ⟨zz, hiz, hzc⟩ : ∃ z, i.zero = some z ∧ z.cells.size = i.size := by
    cases hiz : i.zero with
    | none => rw [hiz] at hze; rw [← hze] at hz; simp at hz; omega
    | some z => rw [hiz] at hze; exact ⟨z, rfl, by simp at hze; rw [hsz, ← hz, ← hze]; simp⟩
  obtain ⟨ad, c', ey, hc1, hc2, hpp⟩ := hdy
  obtain ⟨b', off', rfl, hp'⟩ := hpp hpos
  obtain ⟨news, hn1, hn2, hn3⟩ := nZ hp' _ (Nat.le_refl _)
  rw [List.take_length] at hn2
  have hnl : news.length = ys.length * i.size := by rw [hn1, dB, hsz, hs]
  have hnews : ∀ j u, news[j]? = some u → w.cell? ((⟨b', off', none⟩ : Addr).add j) = some u := fun j u hj => by rw [Addr.add_lit]; exact hn3 j u hj
  have hones := ku hn2 (mJ E ys)
  have hesz : E.size = i.size := by rw [hsz, hs]
  -- behind a growth
  have grown : ∀ (olds : List Value) (cap : Nat), cK w M (xs.flatMap E.tys) olds → cap < xs.length + ys.length →
      (Builtin.append_ #[st, st] t #[a.eval x, a.eval y]).run P w = .ok (.slice (some ⟨w.heap.size, 0, none⟩) (xs.length + ys.length) (grownCap w (xs.length + ys.length) cap el)) (w.drew.alloc (.cells (olds.toArray ++ news.toArray ++ Builtin.zeroCells zz.cells (grownCap w (xs.length + ys.length) cap el - (xs.length + ys.length))) el)) →
      ∃ v w', (execOp a.eval ⟨some d, .call ⟨.builtin .append, #[x, y], #[st, st]⟩, t, p, e, none⟩).run P w = .ok (.value v) w' ∧ Fx.left { d := some d, ty := .fo E el J (xs ++ ys), S := [J], rs := cO x ++ cO y } w M w' v := by
    intro olds cap hdo hcap hrun
    have holen : olds.length = xs.length * i.size := by rw [cW hdo, dB, hesz]
    have hge := grownCap_ge w (xs.length + ys.length) cap el
    have hcm : grownCap w (xs.length + ys.length) cap el ≤ maxLen := grownCap_le_maxLen w (xs.length + ys.length) cap el (by simp only [maxLen]; omega)
    have hsize : (w.drew.alloc (.cells (olds.toArray ++ news.toArray ++ Builtin.zeroCells zz.cells (grownCap w (xs.length + ys.length) cap el - (xs.length + ys.length))) el)).heap.size = w.heap.size + 1 := by simp
    have hold : ∀ b2, b2 < w.heap.size → (w.drew.alloc (.cells (olds.toArray ++ news.toArray ++ Builtin.zeroCells zz.cells (grownCap w (xs.length + ys.length) cap el - (xs.length + ys.length))) el)).heap[b2]? = w.heap[b2]? := fun b2 h => Below.heap_alloc w.drew _ b2 h
    have hnew : (w.drew.alloc (.cells (olds.toArray ++ news.toArray ++ Builtin.zeroCells zz.cells (grownCap w (xs.length + ys.length) cap el - (xs.length + ys.length))) el)).heap[w.heap.size]? = some (.cells (olds.toArray ++ news.toArray ++ Builtin.zeroCells zz.cells (grownCap w (xs.length + ys.length) cap el - (xs.length + ys.length))) el (0, 0)) := iE w.drew _
    have hos : (w.drew.alloc (.cells (olds.toArray ++ news.toArray ++ Builtin.zeroCells zz.cells (grownCap w (xs.length + ys.length) cap el - (xs.length + ys.length))) el)).os = w.os ∧ (w.drew.alloc (.cells (olds.toArray ++ news.toArray ++ Builtin.zeroCells zz.cells (grownCap w (xs.length + ys.length) cap el - (xs.length + ys.length))) el)).tape = w.tape ∧ (w.drew.alloc (.cells (olds.toArray ++ news.toArray ++ Builtin.zeroCells zz.cells (grownCap w (xs.length + ys.length) cap el - (xs.length + ys.length))) el)).output = w.output := ⟨rfl, rfl, rfl⟩
    have hcs : (olds.toArray ++ news.toArray ++ Builtin.zeroCells zz.cells (grownCap w (xs.length + ys.length) cap el - (xs.length + ys.length))).size = grownCap w (xs.length + ys.length) cap el * i.size := by
      simp only [Array.size_append, List.size_toArray, size_zeroCells, hzc, holen, hnl, ← Nat.add_mul]
      congr 1
      omega
    have htk : ((olds.toArray ++ news.toArray ++ Builtin.zeroCells zz.cells (grownCap w (xs.length + ys.length) cap el - (xs.length + ys.length))).toList.drop 0).take ((xs ++ ys).length * E.size) = olds ++ news := by
      rw [List.drop_zero]
      simp only [Array.toList_append]
      rw [List.take_left' (by rw [List.length_append, holen, hnl, List.length_append, hesz, Nat.add_mul])]
    generalize hw' : (w.drew.alloc (.cells (olds.toArray ++ news.toArray ++ Builtin.zeroCells zz.cells (grownCap w (xs.length + ys.length) cap el - (xs.length + ys.length))) el)) = w' at *
    generalize hcu : (olds.toArray ++ news.toArray ++ Builtin.zeroCells zz.cells (grownCap w (xs.length + ys.length) cap el - (xs.length + ys.length))) = cu at *
    have le : Le (· ∈ [J]) (· ∈ ([] : List Nat)) w M w' (fun b2 => if b2 = w.heap.size then some J else M b2) :=
      ⟨by omega, hos.1, hos.2.1, hos.2.2, fun b2 hb2 hm => ⟨by rw [if_neg (by omega)]; exact hm, hold b2 hb2⟩, fun b2 u hm _ => by
        have := wf.lt b2 u hm
        exact ⟨by rw [if_neg (by omega)]; exact hm, fun _ => hold b2 this⟩⟩
    have le0 : Le (· ∈ ([] : List Nat)) (· ∈ ([] : List Nat)) w M w' (fun b2 => if b2 = w.heap.size then some J else M b2) :=
      ⟨by omega, hos.1, hos.2.1, hos.2.2, fun b2 hb2 hm => ⟨by rw [if_neg (by omega)]; exact hm, hold b2 hb2⟩, fun b2 u hm _ => by
        have := wf.lt b2 u hm
        exact ⟨by rw [if_neg (by omega)]; exact hm, fun _ => hold b2 this⟩⟩
    have wf' : Wf w' (fun b2 => if b2 = w.heap.size then some J else M b2) := by
      refine ⟨fun b2 u hm => ?_, fun b2 b3 u ht1 hm hm' => ?_⟩
      · split at hm
        · omega
        · have := wf.lt b2 u hm; omega
      · split at hm
        · injection hm with hm; omega
        · split at hm'
          · injection hm' with hm'; omega
          · exact wf.inj b2 b3 u ht1 hm hm'
    refine ⟨.slice (some ⟨w.heap.size, 0, none⟩) (xs.length + ys.length) (grownCap w (xs.length + ys.length) cap el), w', by simp [execOp, resolve, invoke, builtin, hrun], _, wf', le, .inr ⟨w.heap.size, 0, grownCap w (xs.length + ys.length) cap el, cu, by rw [List.length_append], by simp, hnew, by rw [List.length_append]; exact hge, hcm, by rw [hcs, hesz]; omega, ?_⟩, by simp⟩
    rw [htk, List.flatMap_append]
    exact j0 (bw le0 (by rw [E.cY]; intro _ h; cases h) (by rw [E.cS]; intro _ h; cases h) hdo) (bw le0 (by rw [E.cY]; intro _ h; cases h) (by rw [E.cS]; intro _ h; cases h) hn2)
  rcases hrow with ⟨hxe, ex⟩ | ⟨g, off, cap, cur, ex, hg, hh, hxc, hcm, hfit, hdx⟩
  · have hrn := run_append_nil (P := P) w st t el i zz hD hi hiz ⟨b', off', none⟩ ys.length c' news hnl hnews hpos (by omega) (by rw [hby]; have := hlen; rw [Nat.add_mul] at this; omega)
    subst hxe
    refine grown [] 0 trivial (by simpa using hpos) ?_
    rw [ex, ey]
    simpa using hrn
  · by_cases hroom : xs.length + ys.length ≤ cap
    · -- in place
      have hm : (xs.length + ys.length) * E.size ≤ cap * E.size := Nat.mul_le_mul_right _ hroom
      rw [Nat.add_mul] at hm
      have hcf : off + xs.length * i.size + news.length ≤ cur.size := by rw [hnl, ← hesz]; omega
      have hf := run_firstCells_some (P := P) w i.size ys.length ⟨b', off', none⟩ ys.length c' news hnl hnews
      have hst := run_storeCells_at (P := P) g (off + xs.length * i.size) el news 0 cur w hh (by simpa using hcf) hones
      rw [oM _ hh] at hst
      simp only [Nat.add_zero] at hst
      obtain ⟨h1', h2', h3'⟩ := lK (cs' := (cur.toList.take (off + xs.length * i.size) ++ news ++ cur.toList.drop (off + xs.length * i.size + news.length)).toArray) (Tb := el) wf hg _ rfl
      have hrun : (Builtin.append_ #[st, st] t #[a.eval x, a.eval y]).run P w = .ok (.slice (some ⟨g, off, none⟩) (xs.length + ys.length) cap) { w with heap := w.heap.setIfInBounds g (.cells (cur.toList.take (off + xs.length * i.size) ++ news ++ cur.toList.drop (off + xs.length * i.size + news.length)).toArray el (0, 0)) } := by
        rw [ex, ey]
        simp [Builtin.append_, run_underlying hD, sizeOf, typeInfo, hi, Builtin.lenOf, hroom, hf, Addr.add_lit, hst]
      have le : Le (· ∈ [J]) (· ∈ ([] : List Nat)) w M { w with heap := w.heap.setIfInBounds g (.cells (cur.toList.take (off + xs.length * i.size) ++ news ++ cur.toList.drop (off + xs.length * i.size + news.length)).toArray el (0, 0)) } M :=
        h2'.weaken (fun u hu => by simp only [List.mem_singleton] at hu; subst hu; simp) (fun _ h => by cases h)
      refine ⟨.slice (some ⟨g, off, none⟩) (xs.length + ys.length) cap, _, by simp [execOp, resolve, invoke, builtin, hrun], M, h1', le, .inr ⟨g, off, cap, _, by rw [List.length_append], hg, h3', by rw [List.length_append]; exact hroom, hcm, ?_, ?_⟩, by simp⟩
      · simp only [List.size_toArray, List.length_append, List.length_take, List.length_drop, Array.length_toList]
        omega
      · rw [List.length_append, Nat.add_mul, hesz, ← hnl, List.toList_toArray, DO _ _ _ _ (by simpa using hcf), List.flatMap_append]
        refine bw h2' (by rw [← List.flatMap_append, E.cY]; intro _ h; cases h) (by rw [← List.flatMap_append, E.cS]; intro _ h; cases h) (j0 ?_ hn2)
        rw [← hesz]; exact hdx
    · have holds : ∀ j u, ((cur.toList.drop off).take (xs.length * E.size))[j]? = some u → w.cell? ((⟨g, off, none⟩ : Addr).add j) = some u := fun j u hj => by
        rw [List.getElem?_take] at hj
        split at hj
        · rw [List.getElem?_drop] at hj
          rw [Addr.add_lit]
          simpa [World.cell?, hh] using hj
        · cases hj
      have hol : ((cur.toList.drop off).take (xs.length * E.size)).length = xs.length * i.size := by rw [cW hdx, dB, hesz]
      have hrn := run_append_grow (P := P) w st t el i zz hD hi hiz ⟨g, off, none⟩ xs.length cap _ hol holds ⟨b', off', none⟩ ys.length c' news hnl hnews (by omega) (by omega) (growslice_fits (by omega) (by rw [hby]; exact hlen))
      refine grown _ cap hdx (by omega) ?_
      rw [ex, ey]
      exact hrn
end
section
variable {P : Program} {fr : Fr} {A : As} {c : Code} {Q : Exit → Act → World → Prop}
end
end Go.T
namespace Go.T
open Go Go.RowKit
section
variable {P : Program} {fr : Fr} {ops : Array Oper} {A : As} {rest : List Oper} {K : As → List (As × Fx) → Prop} {d : Nat} {t : TypeId} {p : String} {e : Array Edge}
end
end Go.T
namespace Go.T
open Go Go.RowKit
theorem Ty.BE {α : Type} {E : El α} {T tg n : Nat} {xs : List α} (hn : xs.length = n) : (Ty.row E T tg xs).Sub (Ty.vs tg n) := fun w M v ⟨cs, h1, h2, h3⟩ => by
 subst hn
 rcases h1.2 with ⟨e, h0⟩ | ⟨g, cap, cur, ex, _, hh, hn1, hcap, _, htk⟩
 ·exact .inl ⟨h0, e⟩
 exact .inr ⟨g, cap, h3 g (by rw [ex]; rfl), ex, hn1, hcap⟩
theorem Cont.kY {T : Nat} {l l' : List Ty} (h : Ml l l') : (Cont.cells T l).Sub (Cont.cells T l') := fun w M v ⟨b, cs, h1, h2, h3⟩ => ⟨b, cs, h1, h2, uE h h3⟩
end Go.T
namespace Go.T
open Go Go.RowKit
end Go.T
namespace Go.T
open Go Go.RowKit
section
variable {P : Program} {fr : Fr} {A : As} {c : Code} {Q : Exit → Act → World → Prop}
theorem qx {α : Type} {E : El α} {T Tc tg c0 : Nat} {l : List Ty} {xs : List α} (i : Nat) (hc : A.tag c0 = some (.cells Tc l)) (hi : l[i]? = some (.row E T tg xs))
 (h : fW P fr c ⟨A.slots, (tg, .vec E T xs) :: A.tags⟩ Q) : fW P fr c A Q := fun a w ⟨M, ok, hsl, ht⟩ => by
 refine h a w ⟨M, ok, hsl, fun x hx => ?_⟩
 rcases List.mem_cons.1 hx with rfl | hx
 ·obtain ⟨b, cs, hb, hh, hd⟩ := ht _ (cj hc)
  obtain ⟨v, _, ⟨ds, h1, h2, h3⟩⟩ := dQ hd i _ hi
  rcases h1.2 with ⟨e, h0⟩ | ⟨g, cap, cur, ex, _, hh, hn1, hcap, _, htk⟩
  ·exact .inl (List.length_eq_zero_iff.1 h0)
  have hg : M g = some tg := h3 g (by rw [ex]; rfl)
  exact .inr ⟨g, cur, hg, hh, by rw [dB, htk]; exact h2⟩
 exact ht x hx
end
end Go.T
namespace Go.T
open Go Go.RowKit
section
variable {P : Program} {A : As} {fn : Func} {n : Nat} {w0 : World} {M0 : bF}
end
end Go.T
namespace Go.T
open Go Go.RowKit
section
variable {P : Program} {fr : Fr} {A : As} {c : Code} {Q : Exit → Act → World → Prop}
end
section
variable {P : Program} {A : As} {fn : Func} {n : Nat} {w0 : World} {M0 : bF}
end
end Go.T
namespace Go.T
open Go Go.RowKit
section
variable {P : Program} {fr : Fr} {ops : Array Oper} {A : As} {rest : List Oper} {K : As → List (As × Fx) → Prop} {d : Nat} {t : TypeId} {p : String} {e : Array Edge} {y : Operand}
theorem Aj {c : Operand} {b : Bool} (hc : A.op fr c = .bool false) (hy : A.op fr y = .bool b)
 (h : ay P fr ops rest (A.set d (.bool b)) fun A' l' => K A' ((A, { d := some d, ty := .bool b, rs := cO c ++ cO y }) :: l')) : ay P fr ops (⟨some d, .pick c (.const (.bool true)) y, t, p, e, none⟩ :: rest) A K :=
 bM (bV rfl rfl fun a w M _ hrd _ => by
  obtain ⟨hdc, hdy⟩ := op2 hrd
  rw [hc] at hdc; rw [hy] at hdy
  have ec : a.eval c = .bool false := hdc
  have ey : a.eval y = .bool b := hdy
  exact ⟨.bool b, by simp only [execOp, ec, ey]; simp [asBool], rfl⟩) h
theorem N6 {c : Operand} (hc : A.op fr c = .bool true)
 (h : ay P fr ops rest (A.set d (.bool true)) fun A' l' => K A' ((A, { d := some d, ty := .bool true, rs := cO c ++ cO y }) :: l')) : ay P fr ops (⟨some d, .pick c (.const (.bool true)) y, t, p, e, none⟩ :: rest) A K :=
 bM (bV rfl rfl fun a w M _ hrd _ => by
  obtain ⟨hdc, _⟩ := op2 hrd
  rw [hc] at hdc
  have ec : a.eval c = .bool true := hdc
  exact ⟨.bool true, by simp only [execOp, ec]; simp [asBool, Act.eval], rfl⟩) h
theorem Be {op : Op} {j s : Nat} {want : Bool} (hs : pP ops j = some s) (hn : Nat.blt s fr.n = true) (hc : A.slots s = .ex undef)
 (h : ay P fr ops rest (A.set d (.ex undef)) fun A' l' => K A' ((A, { d := some d, ty := .ex undef, rs := [s] }) :: l')) : ay P fr ops (⟨some d, op, t, p, e, some (j, want)⟩ :: rest) A K := by
 refine ⟨{ d := some d, ty := .ex undef, rs := [s] }, ⟨rfl, (by simp), (by simp), (by simp), fun a w M wf hsz hrd htg => ?_⟩, h⟩
 have hv := hrd s List.mem_cons_self (by simpa using hn)
 rw [hc] at hv
 have hy := rJ (ops := ops) hs (by rw [hsz]; simpa using hn) hv
 have hw : Region.wanted ⟨some d, op, t, p, e, some (j, want)⟩ (yielded ops a.tmps) = false := by
  simp only [Region.wanted, hy]
  cases want <;> simp_all
 rw [if_neg (by rw [hw]; simp)]
 exact ⟨M, wf, Le.refl _ _ _ _, rfl, by simp⟩
end
section
variable {P : Program} {fr : Fr} {A : As} {Q : Exit → Act → World → Prop} {code : Code}
end
end Go.T
namespace Go.T
open Go Go.RowKit
section
variable {P : Program} {fr : Fr} {A : As} {Q : Exit → Act → World → Prop}
end
end Go.T
namespace Go.T
open Go Go.RowKit
section
variable {P : Program} {fr : Fr} {ops : Array Oper} {A : As} {rest : List Oper} {K : As → List (As × Fx) → Prop} {d : Nat} {t ty' : TypeId} {p : String} {e : Array Edge} [T : lX P]
end
section
open Go.RowKit
variable {P : Program} {A : As} {fn : Func} {n : Nat} {w0 : World} {M0 : bF} {F : List Nat} {post : List (Nat × Cont)} [T : lX P]
end
section
variable {P : Program} {fr : Fr} {A : As}
end
end Go.T
namespace Go.T
open Go Go.RowKit
section
variable {P : Program} {fr : Fr} {A : As}
end
end Go.T
namespace Go.T
open Go Go.RowKit
end Go.T
namespace Go.T
open Go Go.RowKit
def Q9 (tys : List Ty) (vs : List Value) (w : World) (M : bF) (_ : Nat) : Prop := cK w M tys vs
def Cont.fact (tys : List Ty) (vs : List Value) (h1 : cG tys = []) (h2 : bl tys = []) : Cont :=
  { den := Q9 tys vs, deps := [], cdeps := [], mono := fun le _ _ _ _ h => bw le (by rw [h1]; intro _ h; cases h) (by rw [h2]; intro _ h; cases h) h }
def XB (b D Tb : Nat) (vs : List Value) (J : Nat → World → bF → Prop) : Prop :=
  ∀ k w M, Wf w M → J k w M → M b = some D ∧ ∃ cs : Array Value, w.heap[b]? = some (.cells cs Tb (0, 0)) ∧ cs.toList.take vs.length = vs
def Ji (P : Program) (f : FuncId) (b D Tb : Nat) (vs : List Value) (tys : List Ty) (args : Nat → List Ty) (encs : List (List Ty)) (resD resS : Ty) : Prop :=
  (∃ fn, P.funcs[f]? = some fn ∧ (fn.name == "runtime.NumGoroutine") = false ∧ fn.body.isNone = false) ∧
  ∀ l J Jx, (∀ k, Cb (J k)) → Cb Jx → XB b D Tb vs J → QY P l encs J Jx → ∀ w M us, Wf w M → G3 M → cK w M (args l) us → cK w M tys vs → J 0 w M →
    Calls P f us.toArray w (cN encs.length J Jx resD resS)
section
variable {P : Program}
theorem Du {f b D Tb : Nat} {us : List Value} {tys : List Ty} {fn : Func} {c : Code} {args : Nat → List Ty} {encs : List (List Ty)} {n : Nat} (h1 : cG tys = []) (h2 : bl tys = []) (hf : P.funcs[f]? = some fn) (hb : fn.body = some c) (hn : (fn.name == "runtime.NumGoroutine") = false) (hnt : fn.ntmps = n) (hl : ∀ l, (args l).length ≤ n) (hdd : ∀ l, cG (args l) = [] ∧ bl (args l) = [])
    (h : ∀ l J Jx (hJ : ∀ k, Cb (J k)) (hJx : Cb Jx), XB b D Tb us J → QY P l encs J Jx → ∀ w0 M0, fW P ⟨n, w0, M0, [7000, 5000], .plain⟩ c (uZ (args l) [(7000, .ck (hJ 0)), (4000, Cont.fact tys us h1 h2)]) (bodyPost P fn (cN encs.length J Jx (Ty.lD []) (Ty.lD [])))) : Ji P f b D Tb us tys args encs (Ty.lD []) (Ty.lD []) := by
  refine ⟨⟨fn, hf, hn, by rw [hb]; rfl⟩, fun l J Jx hJ hJx hX hY w Mc vs wf z hd hus hj => calls_of_wp hf hb (wpIn_wide.1 (h l J Jx hJ hJx hX hY w (lZ Mc none) _ _ ?_))⟩
  have hall : cK w (lZ Mc none) (args l) vs := iI (fun b hb => oL hb) (hdd l).1 (hdd l).2 hd
  have hlen := cW hall
  have hl := hl l
  refine ⟨lZ Mc none, ⟨G5 wf, Le.refl _ _ _ _, by simp [hnt, hlen]; omega, Defs.nil⟩, fun c hc => ?_, fun x hx => ?_⟩
  · simp only [uZ]
    cases ha : (args l)[c]? with
    | none => trivial
    | some ty =>
      obtain ⟨v, hv, hdv⟩ := dQ hall c ty ha
      have : (vs.toArray ++ Array.replicate (fn.ntmps - vs.toArray.size) undef).getD c undef = v := by
        have hlt : c < vs.length := (List.getElem?_eq_some_iff.1 hv).1
        rw [Array.getD_eq_getD_getElem?, Array.getElem?_append_left (by simpa using hlt)]
        simp [hv]
      rw [this]; exact hdv
  · rcases List.mem_cons.1 hx with rfl | hx
    · exact ⟨rfl, G2 wf z hj⟩
    · rw [List.mem_singleton.1 hx]
      exact iI (fun b hb => oL hb) h1 h2 hus
theorem Mx {fn : Func} {n : Nat} {A : As} {w0 : World} {M0 : bF} {J : Nat → World → bF → Prop} {Jx : World → bF → Prop} {m : Nat} {h1 : Cb (J m)} (hr : fn.results = #[]) (ht : A.tag 7000 = some (.ck h1)) : dR ⟨n, w0, M0, [7000, 5000], .plain⟩ A (bodyPost P fn (cN m J Jx (Ty.lD []) (Ty.lD [])) .normal) := by
 intro a w' ⟨M, ok, hsl, htg⟩
 obtain ⟨_, Mc', wf', z', hj, k1, k2⟩ := htg _ (cj ht)
 exact ⟨ok.iT (by simp), _, results_none hr _ _ _, _, Mc', rfl, wf', z', .inl ⟨⟨_, rfl, trivial⟩, hj⟩⟩
theorem Lu {fn : Func} {n : Nat} {A : As} {w0 : World} {M0 : bF} {J : Nat → World → bF → Prop} {Jx : World → bF → Prop} {m k : Nat} {hJ : ∀ k, Cb (J k)} (e : k = m) (hr : fn.results = #[]) (ht : A.tag 7000 = some (.ck (hJ k))) : dR ⟨n, w0, M0, [7000, 5000], .plain⟩ A (bodyPost P fn (cN m J Jx (Ty.lD []) (Ty.lD [])) .normal) := by
 subst e; exact Mx hr ht
theorem Fh {fn : Func} {n : Nat} {A : As} {w0 : World} {M0 : bF} {J : Nat → World → bF → Prop} {Jx : World → bF → Prop} {m : Nat} {hx : Cb Jx} (hr : fn.results = #[]) (ht : A.tag 7000 = some (.ck hx)) : dR ⟨n, w0, M0, [7000, 5000], .plain⟩ A (bodyPost P fn (cN m J Jx (Ty.lD []) (Ty.lD [])) .ret) := by
 intro a w' ⟨M, ok, hsl, htg⟩
 obtain ⟨_, Mc', wf', z', hj, k1, k2⟩ := htg _ (cj ht)
 exact ⟨ok.iT (by simp), _, results_none hr _ _ _, _, Mc', rfl, wf', z', .inr ⟨⟨_, rfl, trivial⟩, hj⟩⟩
variable {fr : Fr} {ops : Array Oper} {A : As} {rest : List Oper} {K : As → List (As × Fx) → Prop} {d : Nat} {t ty' : TypeId} {p : String} {e : Array Edge} [T : lX P]
omit T in
theorem lN {x : Operand} {b off : Nat} (hx : A.op fr x = .ex (.pointer (some ⟨b, off, none⟩)))
 (h : ay P fr ops rest (A.set d (.ex (.pointer (some ⟨b, off, none⟩)))) fun A' l' => K A' ((A, { d := some d, ty := .ex (.pointer (some ⟨b, off, none⟩)), rs := cO x }) :: l')) : ay P fr ops (⟨some d, .nilCheck x, t, p, e, none⟩ :: rest) A K :=
 bM (bV rfl rfl fun a w M _ hrd _ => by
  have hdx := cU (x := x) (fun _ h => h) hrd
  rw [hx] at hdx
  have ex : a.eval x = .pointer (some ⟨b, off, none⟩) := hdx
  exact ⟨_, by simp [execOp, ex], rfl⟩) h
theorem jL {x : Operand} {b off f : Nat} {ti tf : TI} {fs : List (Nat × Nat)} {o ft : Nat} (hx : A.op fr x = .ex (.pointer (some ⟨b, off, none⟩))) (hT : T.eS[ty']? = some ti) (hk : ti.k = .struct fs) (hf : fs[f]? = some (o, ft)) (hF : T.eS[ft]? = some tf) (h0 : tf.size ≠ 0)
 (h : ay P fr ops rest (A.set d (.ex (.pointer (some ⟨b, off + o, none⟩)))) fun A' l' => K A' ((A, { d := some d, ty := .ex (.pointer (some ⟨b, off + o, none⟩)), rs := cO x }) :: l')) : ay P fr ops (⟨some d, .fieldAddr ty' x f, t, p, e, none⟩ :: rest) A K :=
 bM (bV rfl rfl fun a w M _ hrd _ => by
  have hdx := cU (x := x) (fun _ h => h) hrd
  rw [hx] at hdx
  have ex : a.eval x = .pointer (some ⟨b, off, none⟩) := hdx
  exact ⟨_, by simp [execOp, ex, uY hT hk hf hF h0], rfl⟩) h
def SN {α : Type} (v : Value) (E : El α) (T tg : Nat) (xs : List α) (w : World) (M : bF) (_ : Nat) : Prop := (Ty.row E T tg xs).den w M v
def Cont.rv {α : Type} (v : Value) (E : El α) (T tg : Nat) (xs : List α) : Cont :=
  { den := SN v E T tg xs, deps := (Ty.row E T tg xs).deps, cdeps := (Ty.row E T tg xs).cdeps, mono := fun le hk hs _ _ h => (Ty.row E T tg xs).mono le hk hs h }
theorem qT {α : Type} {E : El α} {c : Nat} {y : Operand} {st el tg : Nat} {v : Value} {ti te : TI} {xs ys : List α} (hx : A.op fr (.tmp c) = .ex v) (hc : A.tag tg = some (.rv v E el tg xs)) (hy : A.op fr y = .sl E ys) (hcy : (cO y).contains c = false) (h1 : 1 ≤ tg) (hp : fr.pass.contains tg = false) (hT : T.eS[st]? = some ti) (hk : ti.k = .slice el) (hE : T.eS[el]? = some te) (hs : te.size = E.size) (hz : te.zero.length = te.size) (h0 : 0 < te.size)
 (hlen : (xs.length + ys.length) * te.bytes ≤ 140737488355328) (hlen' : xs.length + ys.length ≤ 9223372036854775807) (hyA : (A.set c (.row E el tg xs)).op fr y = A.op fr y) (hxA : (A.set c (.row E el tg xs)).op fr (.tmp c) = .row E el tg xs)
 (h : ay P fr ops rest (A.after { d := some d, ty := .row E el tg (xs ++ ys), K := [tg], rs := cO (.tmp c) ++ cO y, rt := [tg] }) fun A' l' => K A' ((A, { d := some d, ty := .row E el tg (xs ++ ys), K := [tg], rs := cO (.tmp c) ++ cO y, rt := [tg] }) :: l')) :
 ay P fr ops (⟨some d, .call ⟨.builtin .append, #[.tmp c, y], #[st, st]⟩, t, p, e, none⟩ :: rest) A K := by
 refine ⟨_, ?_, h⟩
 obtain ⟨a1, a2, a3, a4, a5⟩ := yB (P := P) (fr := fr) (ops := ops) (A := A.set c (.row E el tg xs)) (d := d) (t := t) (p := p) (e := e) (x := .tmp c) (y := y) (E := E) (xs := xs) (ys := ys) (st := st) (by rw [hxA]; exact Ty.aF _) (hyA.trans hy) h1 hp hT hk hE hs hz h0 hlen hlen'
 refine ⟨a1, a2, a3, a4, fun a w M wf hsz hr ht => a5 a w M wf hsz (fun c' hc' hn => ?_) (fun x _ hx => by cases hx)⟩
 by_cases e : c' = c
 ·subst e
  have h1 : (A.slots c').den w M (a.tmps.getD c' undef) := hr c' hc' hn
  have h2 : SN v E el tg xs w M tg := ht _ (cj hc) (by simp)
  have h3 : A.slots c' = .ex v := by
   have h5 : (bif Nat.blt c' fr.n then A.slots c' else Ty.any) = .ex v := hx
   have h6 : Nat.blt c' fr.n = true := by rw [Nat.blt_eq]; exact hn
   rw [h6, cond_true] at h5
   exact h5
  rw [h3] at h1
  have h4 : a.tmps.getD c' undef = v := h1
  show ((A.set c' (.row E el tg xs)).slots c').den w M _
  simp only [As.set, Nat.beq_refl, cond_true]
  rw [h4]; exact h2
 show ((A.set c (.row E el tg xs)).slots c').den w M _
 have : Nat.beq c' c = false := by cases hb : Nat.beq c' c with | false => rfl | true => exact absurd (Nat.eq_of_beq_eq_true hb) e
 simp only [As.set, this, cond_false]
 exact hr c' hc' hn
theorem B3 {vs l : List Value} {i : Nat} {v : Value} (h : l.take vs.length = vs) (hv : vs[i]? = some v) : l[i]? = some v := by
 have hi : i < vs.length := (List.getElem?_eq_some_iff.1 hv).1
 rw [← h, List.getElem?_take, if_pos hi] at hv
 exact hv
theorem sj {x : Operand} {b D Tb off k : Nat} {vs : List Value} {tys : List Ty} {J : Nat → World → bF → Prop} {hJ : ∀ k, Cb (J k)} {ti : TI} {ty : Ty} {h1 : cG tys = []} {h2 : bl tys = []} (hX : XB b D Tb vs J) (hx : A.op fr x = .ex (.pointer (some ⟨b, off, none⟩))) (ht : A.tag 7000 = some (.ck (hJ k))) (htf : A.tag 4000 = some (Cont.fact tys vs h1 h2)) (hT : T.eS[ty']? = some ti) (ha : ti.k.agg = false) (hl : tys[off]? = some ty)
 (h : ay P fr ops rest (A.set d ty) fun A' l => K A' ((A, { d := some d, ty := ty, rs := cO x, rt := [7000, 4000] }) :: l)) : ay P fr ops (⟨some d, .load ty' x, t, p, e, none⟩ :: rest) A K :=
 bM (bV rfl rfl fun a w M wf hr htg => by
  have hdx := cU (x := x) (fun _ h => h) hr
  rw [hx] at hdx
  have ex : a.eval x = .pointer (some ⟨b, off, none⟩) := hdx
  obtain ⟨_, Mc, wfc, z, hj, g1, g2⟩ := htg _ (cj ht) (by simp)
  have hf : cK w M tys vs := htg _ (cj htf) (by simp)
  obtain ⟨_, cs, hh, hcs⟩ := hX k w Mc wfc hj
  obtain ⟨v, hv, hd⟩ := dQ hf off ty hl
  have hv' : w.cell? ⟨b, off, none⟩ = some v := by
   have := B3 hcs hv
   simpa [World.cell?, hh] using this
  exact ⟨v, by simp [execOp, ex, kT hT ha hv'], hd⟩) h
theorem qp {b D Tb k : Nat} {vs : List Value} {tys : List Ty} {J : Nat → World → bF → Prop} {hJ : ∀ k, Cb (J k)} {h1 : cG tys = []} {h2 : bl tys = []} {L : List Nat} (hX : XB b D Tb vs J) (hD : D < 4096) (ht : A.tag 7000 = some (.ck (hJ k))) (htf : A.tag 4000 = some (Cont.fact tys vs h1 h2)) (hL0 : L.contains 7000 = true) (hL1 : L.contains 4000 = true) :
    rP A L (.ex (.pointer (some ⟨b, 0, none⟩))) (.pp tys) := fun w M v wf htg hv => by
  have hv : v = .pointer (some ⟨b, 0, none⟩) := hv
  have hL0 : 7000 ∈ L := by simpa using hL0
  have hL1 : 4000 ∈ L := by simpa using hL1
  obtain ⟨_, Mc, wfc, z, hj, g1, g2⟩ := htg _ (cj ht) hL0
  have hf : cK w M tys vs := htg _ (cj htf) hL1
  obtain ⟨hb, cs, hh, hcs⟩ := hX k w Mc wfc hj
  have hlt : b < w.heap.size := wfc.lt b _ hb
  have hm : rA M L b = none := by
    cases hm : M b with
    | none => exact jo hm
    | some u =>
      by_cases e : u = 7000
      · subst e; exact BI hm hL0
      · have := g2 b u hlt hm e
        rw [this] at hb
        injection hb with hb
        have : Zt = 1000000 := rfl
        omega
  have hf2 : cK w (rA M L) tys vs := bw (S := fun _ => True) (K := fun _ => True) (w' := w) ⟨Nat.le_refl _, rfl, rfl, rfl, fun b _ hm => ⟨jo hm, rfl⟩, fun b t _ h => absurd trivial h⟩ (by rw [h1]; intro _ h; cases h) (by rw [h2]; intro _ h; cases h) hf
  refine ⟨b, 0, hv, hm, hlt, fun i t hi => ?_⟩
  obtain ⟨x, hx, hdx⟩ := dQ hf2 i t hi
  refine ⟨x, ?_, hdx⟩
  have := B3 hcs hx
  simpa [World.cell?, hh] using this
end
theorem v9 {l : List Nat} (h : l.all (fun t => Nat.blt t 1000000) = true) : ∀ t ∈ l, t < Zt := fun t ht => by
 have := List.all_eq_true.1 h t ht
 rw [Nat.blt_eq] at this; exact this
section
variable {P : Program} {fr : Fr} {A : As} {Q : Exit → Act → World → Prop} {c : Code}
theorem qd {w : World} {M : bF} {l1 l2 : List Ty} {vs : List Value} (h : cK w M (l1 ++ l2) vs) : ∃ v1 v2, vs = v1 ++ v2 ∧ cK w M l1 v1 ∧ cK w M l2 v2 := by
  induction l1 generalizing vs with
  | nil => exact ⟨[], vs, rfl, trivial, h⟩
  | cons t l1 ih =>
    cases vs with
    | nil => cases h
    | cons v vs =>
      obtain ⟨v1, v2, e, h1, h2⟩ := ih h.2
      exact ⟨v :: v1, v2, by rw [e]; rfl, ⟨h.1, h1⟩, h2⟩
theorem Fm {w : World} {M : bF} : ∀ (vs : List Value), cK w M (vs.map Ty.ex) vs
  | [] => trivial
  | _ :: vs => ⟨rfl, Fm vs⟩
theorem r7 {w : World} {M : bF} : ∀ {vs us : List Value}, cK w M (vs.map Ty.ex) us → us = vs
  | [], [], _ => rfl
  | [], _ :: _, h => by cases h
  | _ :: _, [], h => by cases h
  | v :: vs, u :: us, h => by rw [show u = v from h.1, r7 h.2]
theorem KC {D Tb : Nat} {tys r : List Ty} (h1 : cG tys = []) (h2 : bl tys = []) (hc : A.tag D = some (.cells Tb (tys ++ r))) (hD : gL D)
 (h : ∀ vs, vs.length = tys.length → fW P fr c ⟨A.slots, (D, .cells Tb (vs.map Ty.ex ++ r)) :: (4000, Cont.fact tys vs h1 h2) :: A.tags.filter fun x => !(x.1 == D)⟩ Q) : fW P fr c A Q := by
 intro a w ⟨M, ok, hsl, htg⟩
 obtain ⟨b, cs, hb, hh, hd⟩ := htg _ (cj hc)
 obtain ⟨v1, v2, e, d1, d2⟩ := qd hd
 refine h v1 (cW d1) a w ⟨M, ok, hsl, fun x hx => ?_⟩
 rcases List.mem_cons.1 hx with rfl | hx
 ·exact ⟨b, cs, hb, hh, by rw [e]; exact fJ (Fm v1) d2⟩
 rcases List.mem_cons.1 hx with rfl | hx
 ·exact d1
 exact htg x (List.mem_filter.1 hx).1
theorem CH {D Tb : Nat} {vs : List Value} {tys r : List Ty} {h1 : cG tys = []} {h2 : bl tys = []} (hc : A.tag D = some (.cells Tb (vs.map Ty.ex ++ r))) (hf : A.tag 4000 = some (Cont.fact tys vs h1 h2))
 (h : fW P fr c ⟨A.slots, (D, .cells Tb (tys ++ r)) :: A.tags.filter fun x => !(x.1 == D)⟩ Q) : fW P fr c A Q := by
 intro a w ⟨M, ok, hsl, htg⟩
 obtain ⟨b, cs, hb, hh, hd⟩ := htg _ (cj hc)
 have hfd : cK w M tys vs := htg _ (cj hf)
 refine h a w ⟨M, ok, hsl, fun x hx => ?_⟩
 rcases List.mem_cons.1 hx with rfl | hx
 ·obtain ⟨v1, v2, e, d1, d2⟩ := qd hd
  rw [r7 d1] at e
  exact ⟨b, cs, hb, hh, by rw [e]; exact fJ hfd d2⟩
 exact htg x (List.mem_filter.1 hx).1
theorem wC {D Tb tg : Nat} {α : Type} {E : El α} {T : Nat} {xs : List α} (l1 : List Ty) {l2 : List Ty} (hc : A.tag D = some (.cells Tb (l1 ++ Ty.row E T tg xs :: l2)))
    (h : ∀ v, fW P fr c ⟨A.slots, (D, .cells Tb (l1 ++ Ty.ex v :: l2)) :: (tg, Cont.rv v E T tg xs) :: A.tags.filter fun x => !(x.1 == D)⟩ Q) : fW P fr c A Q := by
  intro a w ⟨M, ok, hsl, htg⟩
  obtain ⟨b, cs, hb, hh, hd⟩ := htg _ (cj hc)
  obtain ⟨v1, v2, e, d1, d2⟩ := qd hd
  match v2, d2 with
  | v :: v2, d2 =>
    refine h v a w ⟨M, ok, hsl, fun x hx => ?_⟩
    rcases List.mem_cons.1 hx with rfl | hx
    · exact ⟨b, cs, hb, hh, by rw [e]; exact fJ d1 ⟨rfl, d2.2⟩⟩
    · rcases List.mem_cons.1 hx with rfl | hx
      · exact d2.1
      · exact htg x (List.mem_filter.1 hx).1
theorem zO {T tg off : Nat} {l : List Ty} (hc : A.tag tg = some (.cells T l)) (hd : lW (cG l) [tg] = true) (h1 : gL tg) : vJ A tg (.ptr tg off) (.pp (l.drop off)) := fun w M v wf ht hv =>
 m5 (A := A.set 0 (.ptr tg off)) (s := 0) rfl hc hd h1 w M v wf ht hv
theorem KH {tg i : Nat} {t : Ty} : ∀ {l l' : List Ty}, zA A tg l l' → l'[i]? = some t → ∃ i', i' = i ∧ ∃ s, l[i']? = some s ∧ vJ A tg s t := by
  induction i with
  | zero =>
    intro l l' h e
    match l, l', h with
    | [], [], _ => cases e
    | s :: _, t' :: _, h => injection e with e; subst e; exact ⟨0, rfl, s, rfl, h.1⟩
  | succ i ih =>
    intro l l' h e
    match l, l', h with
    | [], [], _ => cases e
    | _ :: l, _ :: l', h =>
      obtain ⟨i', rfl, s, h1, h2⟩ := ih (l := l) (l' := l') h.2 e
      exact ⟨i' + 1, rfl, s, h1, h2⟩
theorem DQ {tg : Nat} {l l' : List Ty} (h : zA A tg l l') : vJ A tg (.pp l) (.pp l') := fun w M v wf ht ⟨b, off, e, m1, m2, m3⟩ => by
 refine ⟨b, off, e, by simp [eN, m1], m2, fun i t hi => ?_⟩
 obtain ⟨_, rfl, s, h1, h2⟩ := KH h hi
 obtain ⟨x, hx, hdx⟩ := m3 _ s h1
 exact ⟨x, hx, h2 w M x wf ht hdx⟩
theorem A4 {tg s : Nat} {l l' : List Ty} (hx : A.slots s = .pp l) (h : zA A tg l l') : AI A tg s (.pp l') := fun w M v wf ht hv => DQ h w M v wf ht (hx ▸ hv)
theorem Da {f D Tb n sd : Nat} {tys : List Ty} {vs : List Value} {h1 : cG tys = []} {h2 : bl tys = []} {oA : List Ty} {encs : List (List Ty)} {resD resS : Ty} {s : Nat → Ty} {tg : Nat → List (Nat × Cont)} {r : Nat → List Ty}
    (hI : ∀ b, Ji P f b D Tb vs tys (fun l => Ty.ex (yv l) :: Ty.pp [Ty.ex (.pointer (some ⟨b, 0, none⟩))] :: oA) encs resD resS)
    (hD : gL D) (hsn : sd < n) (hsd : s sd = Ty.ptr D 0) (htD : ∀ k, (D, Cont.cells Tb (vs.map Ty.ex ++ r k)) ∈ tg k) (htf : (4000, Cont.fact tys vs h1 h2) ∈ tg 0) :
    ∀ (l : Nat) (J : Nat → World → bF → Prop) (Jx : World → bF → Prop) (tm : Array Value), (∀ k, Cb (J k)) → Cb Jx → QY P l encs J Jx → (∀ k w M, J k w M → (∀ c, c < n → (s c).den w M (tm.getD c undef)) ∧ ∀ x ∈ tg k, x.2.den w M x.1) → ∀ w M us, Wf w M → G3 M → cK w M (Ty.ex (yv l) :: Ty.pp [Ty.ptr D 0] :: oA) us → J 0 w M → Calls P f us.toArray w (cN encs.length J Jx resD resS) := by
  intro l J Jx tm hJ hJx hY hS w M us wf z hd hj
  obtain ⟨u, rfl⟩ : ∃ u, D = u + 1 := ⟨D - 1, by have := hD.1; omega⟩
  have hat : ∀ k w M, Wf w M → J k w M → ∃ b, M b = some (u + 1) ∧ tm.getD sd undef = .pointer (some ⟨b, 0, none⟩) ∧ ∃ cs : Array Value, w.heap[b]? = some (.cells cs Tb (0, 0)) ∧ cs.toList.take vs.length = vs := fun k w M wf hj => by
    obtain ⟨g1, g2⟩ := hS k w M hj
    have g3 := g1 sd hsn
    rw [hsd] at g3
    obtain ⟨b, hb, e⟩ := g3
    obtain ⟨b', cs, hb', hh, hds⟩ := g2 _ (htD k)
    have := wf.inj b b' u hD.2 hb hb'
    subst this
    obtain ⟨v1, v2, e2, d1, d2⟩ := qd hds
    rw [r7 d1] at e2
    exact ⟨b, hb, e, cs, hh, by rw [e2, List.take_left']; rfl⟩
  obtain ⟨b, hb, eb, _⟩ := hat 0 w M wf hj
  have hX : XB b (u + 1) Tb vs J := fun k w' M' wf' hj' => by
    obtain ⟨b', hb', eb', cs, hh, hcs⟩ := hat k w' M' wf' hj'
    rw [eb] at eb'
    injection eb' with eb'
    injection eb' with eb'
    injection eb' with eb' _ _
    subst eb'
    exact ⟨hb', cs, hh, hcs⟩
  refine (hI b).2 l J Jx hJ hJx hX hY w M us wf z ?_ ((hS 0 w M hj).2 _ htf) hj
  match us, hd with
  | u1 :: u2 :: us, ⟨d1, ⟨q, off, e, m1, m2, m3⟩, d3⟩ =>
    refine ⟨d1, ⟨q, off, e, m1, m2, fun i t hi => ?_⟩, d3⟩
    cases i with
    | succ i => cases hi
    | zero =>
      obtain ⟨x, hx, b', hb', ex⟩ := m3 0 _ rfl
      have := wf.inj b b' u hD.2 hb hb'
      subst this
      injection hi with hi
      subst hi
      exact ⟨x, hx, ex⟩
end
end Go.T
namespace Go.Proofs.YtelbollidfdcjaaGreat
open Go Go.T
set_option maxHeartbeats 4000000
section
variable {y : aj}
theorem HD (hr : y.bY) : (y.bins.length : Int) * y.days = (y.cells : Nat) := by
 rw [← D_eq hr]; unfold aj.cells; simp
theorem nx (hr : y.bY) : y.cells ≤ 20 := by
 have h1 := hr.bins; have h2 := hr.days; have h3 := D_eq hr
 have := Nat.mul_le_mul (show y.bins.length ≤ 4 by omega) (show y.D ≤ 5 by omega)
 unfold aj.cells; omega
theorem DT {s d : Int} (hs : 0 ≤ s ∧ s ≤ 4) (hd : 0 ≤ d ∧ d ≤ 6) : 0 ≤ s * d ∧ s * d ≤ 24 := by
 have : s = 0 ∨ s = 1 ∨ s = 2 ∨ s = 3 ∨ s = 4 := by omega
 rcases this with e | e | e | e | e <;> subst e <;> omega
def gH (n : Int) (l : List Int) : Int := l.foldl min n
theorem EM (n : Int) (l : List Int) : gH n (l.take 0) = n := rfl
theorem Ew {n : Int} {l : List Int} {k : Nat} (h : k < l.length) : min (gH n (l.take k)) (nth l k) = gH n (l.take (k + 1)) := by
 unfold gH; rw [cR h, List.foldl_append]; rfl
def xL (k : Nat) : List Bool := List.replicate k true ++ List.replicate (8 - k) false
def bE : List Bool := List.replicate 8 true
theorem z4 {k : Nat} (h : k ≤ 8) : (xL k).length = 8 := by unfold xL; rw [List.length_append, List.length_replicate, List.length_replicate]; omega
theorem Eu {k : Nat} (h : k < 8) : (xL k).set k true = xL (k + 1) := by
 unfold xL
 rw [List.set_append_right _ _ (by simp), List.length_replicate, Nat.sub_self, show 8 - k = (8 - (k + 1)) + 1 by omega, List.replicate_succ, List.set_cons_zero, List.replicate_succ', List.append_assoc]; rfl
theorem Pd (hr : y.bY) {s d : Int} (h : s = -1) : ((y.cells : Nat) : Int) = y.cell s d := by rw [h, qK hr]
theorem O7 {s d : Int} (h : ¬ s = -1) : s * y.days + d = y.cell s d := (if_neg h).symm
theorem Ky (hr : y.bY) {b t : Nat} : (b : Int) * (y.days + 1) + t = (y.kept b t : Nat) := by
 rw [← D_eq hr]; unfold aj.kept; simp
end
attribute [local irreducible] aj.cell aj.kept aj.cells gH
attribute [local irreducible] gF eX lq nY g7 gx g9 g5 g8 nW gz nT dM fj nM gC oB nth fW dR ay dK bodyPost Exit.then Exit.inBlock Code.wp Code.wpIn n9 hO nO ni gy eU cM cN bodyPostM dO
set_option maxRecDepth 100000 in
theorem tP (n : Int) (l : List Int) : dK Tryz.prog 180 [Ty.int .i64 n, Ty.sl c7 l] (Ty.int .i64 (gH n l)) := by
 refine au Tryz.func180 rfl (by decide) Tryz.ntmps180 (by exact Nat.le_of_ble_eq_true rfl) fun w0 M0 => ?_
 refine gP (s := 1) rfl rfl gO fun hln => ?_
 refine aE (aB (bZ rfl (aD (aC (aE (aE (aB (ew rfl (b9 rfl rfl rfl ?_)))))))))
 refine bG rfl (aD (aC (aZ ?_)))
 refine bz (fun (k : {k : Nat // k ≤ l.length}) => live [(0, Ty.int .i64 (gH n (l.take k.1))), (7, Ty.sl c7 l), (8, Ty.int .i64 l.length), (9, Ty.int .i64 (k.1 : Nat))] []) (fun k => l.length - k.1) (⟨0, by omega⟩) ?_ fun k => ?_
 ·(refine cV.mk' ?_ ?_ <;> (repeat' (first | exact aH | exact aI | refine aA ?_ (Ty.aT _) | refine aA ?_ (Ty.aF _) | refine aA ?_ ?_)))
  all_goals exact Ty.bD (EM n l).symm
 refine aE (aB (bA rfl rfl rfl (aD (aC (aE ?_)))))
 refine ah rfl (fun hc1 => ?_) (fun hc1 => ?_)
 ·
  refine af (aC (aE (aZ (aE (aB ?_)))))
  refine aq rfl rfl rfl rfl rfl rfl (by omega) ?_
  refine aL rfl rfl rfl rfl (bZ rfl (aD (aC (aB (bG rfl (bG rfl (Cc rfl rfl (bZ rfl (aD ?_)))))))))
  refine bI (aC (aB ?_))
  refine bp rfl rfl (by omega) (by omega) ?_
  refine bG rfl (aD ?_)
  refine bL (⟨k.1 + 1, by omega⟩) ?_ (by show l.length - (k.1 + 1) < l.length - k.1; omega)
  (refine cV.mk' ?_ ?_ <;> (repeat' (first | exact aH | exact aI | refine aA ?_ (Ty.aT _) | refine aA ?_ (Ty.aF _) | refine aA ?_ ?_)))
  all_goals skip
  all_goals exact Ty.bD (Ew (by omega))
 refine b8 (aQ (aQ (aa rfl (aC (aE (aB (bG rfl (bZ rfl (aD ?_)))))))))
 refine aC (az (bU rfl rfl ?_))
 all_goals skip
 all_goals exact av rfl rfl (congrArg (Ty.int .i64) (by rw [List.take_of_length_le (by have := k.2; omega)]))
set_option maxRecDepth 100000 in
theorem rR : dK Tryz.prog 118 [] (Ty.arr fE bE) := by
 refine au Tryz.func118 rfl (by decide) Tryz.ntmps118 (by exact Nat.le_of_ble_eq_true rfl) fun w0 M0 => ?_
 refine aE (aB ?_)
 refine bf rfl (by exact List.cons_ne_nil _ _) rfl ?_
 refine aD (aC (aE (aB ?_)))
 refine Co (E := fE) (xs := List.replicate 8 false) rfl (by exact List.cons_ne_nil _ _) rfl rfl ?_
 refine aD (aC (aE (aE (aB (bG rfl (aD (aC (aZ ?_))))))))
 refine bz (fun (k : {k : Nat // k ≤ 8}) => live [(0, Ty.ptr 1 0), (1, Ty.ptr 2 0), (3, Ty.int .i64 (k.1 : Nat))] [(1, Cont.cells 180 [Ty.bool false, Ty.bool false, Ty.bool false, Ty.bool false, Ty.bool false, Ty.bool false, Ty.bool false, Ty.bool false]), (2, Cont.vec fE 180 (xL k.1))]) (fun k => 8 - k.1) (⟨0, by omega⟩) ?_ fun k => ?_
 ·(refine cV.mk' ?_ ?_ <;> (repeat' (first | exact aH | exact aI | refine aA ?_ (Ty.aT _) | refine aA ?_ (Ty.aF _) | refine aG rfl (Cont.aF _) ?_)))
 have hkl := z4 k.2
 refine aE (aB (bA rfl rfl rfl (aD (aC (aE ?_)))))
 refine ah rfl (fun hc1 => ?_) (fun hc1 => ?_)
 ·
  refine af (aC (aE (aZ (aE (aB (bG rfl (bZ rfl (aD (aC ?_)))))))))
  refine aB (bG rfl ?_)
  refine su (n := 8) rfl rfl rfl rfl rfl (by omega) (by omega) ?_
  refine tE rfl rfl rfl (by decide) rfl rfl (by exact (rfl : _ = Ty.bool _)) rfl (by omega) (by decide) rfl rfl ?_
  refine aD (bI (aC (aB ?_)))
  refine bp rfl rfl (by omega) (by omega) ?_
  refine bG rfl (aD ?_)
  refine bL (⟨k.1 + 1, by omega⟩) ?_ (by show 8 - (k.1 + 1) < 8 - k.1; omega)
  (refine cV.mk' ?_ ?_ <;> (repeat' (first | exact aH | exact aI | refine aA ?_ (Ty.aT _) | refine aA ?_ (Ty.aF _) | refine aG rfl (Cont.aF _) ?_ | refine aG rfl ?_ ?_)))
  all_goals skip
  all_goals exact Cont.dA (Eu (by omega))
 refine b8 (aQ (aQ (aa rfl (aC (aE ?_)))))
 obtain ⟨k, hk⟩ := k
 obtain rfl : k = 8 := by have h1 : ¬ (k : Int) < 8 := hc1; have h2 : k ≤ 8 := hk; omega
 have hkl := z4 hk
 refine aB ?_
 refine ir rfl rfl (by decide) rfl rfl (by rw [hkl]; rfl) (fun e => by rw [e] at hkl; cases hkl) ?_
 refine DD rfl rfl (by decide) rfl rfl (by rw [hkl]; rfl) rfl ?_
 refine aD (aC (az ?_))
 refine C1 (show xL 8 = bE from rfl) rfl rfl rfl rfl (by decide) rfl rfl (by rw [hkl]; rfl) (fun e => by rw [e] at hkl; cases hkl)
set_option maxRecDepth 100000 in
theorem oH (y : aj) (hr : y.bY) : dK Tryz.prog 131 [Ty.pp (bC y)] (Ty.int .i64 (y.cells : Nat)) := by
 refine au Tryz.func131 rfl (by decide) Tryz.ntmps131 (by exact Nat.le_of_ble_eq_true rfl) fun w0 M0 => ?_
 have hcm := HD hr
 have hcl := nx hr
 refine aE (aB (bZ rfl (aD (aC (aE (cH mixed rfl (jV rfl (cC rfl ?_))))))))
 refine aJ rfl rfl rfl rfl rfl (by decide) ?_
 refine aJ rfl rfl rfl rfl rfl (by decide) ?_
 refine aL rfl rfl rfl rfl (b9 rfl rfl rfl (jV rfl (cC rfl ?_)))
 refine aJ rfl rfl rfl rfl rfl (by decide) ?_
 refine aJ rfl rfl rfl rfl rfl (by decide) ?_
 refine aL rfl rfl rfl rfl ?_
 refine xz rfl rfl (by rw [hcm]; omega) (by rw [hcm]; omega) ?_
 refine bZ rfl (aD ?_)
 refine ⟨by kernel_rfl, ?_⟩
 refine aC (az (bU rfl rfl ?_))
 all_goals skip
 all_goals exact av rfl rfl (congrArg (Ty.int .i64) hcm)
set_option maxRecDepth 100000 in
theorem uf (y : aj) (hr : y.bY) (s d : Int) (hs : -1 ≤ s ∧ s < y.bins.length) (hd : 0 ≤ d ∧ d ≤ y.days) : dK Tryz.prog 132 [Ty.pp (bC y), Ty.int .i64 s, Ty.int .i64 d] (Ty.int .i64 (y.cell s d)) := by
 refine au Tryz.func132 rfl (by decide) Tryz.ntmps132 (by exact Nat.le_of_ble_eq_true rfl) fun w0 M0 => ?_
 have h1 := hr.bins
 have h2 := hr.days
 refine aE (aB (bZ rfl (aD (aC (aE (aE (aB (bG rfl (bA rfl rfl rfl ?_)))))))))
 refine aD (aC ?_)
 refine ah rfl (fun hc1 => ?_) (fun hc1 => ?_)
 ·
  refine aE (aB (jV rfl (ak (oH y hr) rfl rfl rfl rfl rfl (bZ rfl (aD (aC (az (aS (bU rfl rfl ?_)))))))))
  all_goals skip
  all_goals exact av rfl rfl (congrArg (Ty.int .i64) (Pd hr hc1))
 refine af (aC (aE ?_))
 have hb := DT (s := s) (d := y.days) (by omega) (by omega)
 refine aB (bG rfl (jV rfl (cC rfl ?_)))
 refine aJ rfl rfl rfl rfl rfl (by decide) ?_
 refine aJ rfl rfl rfl rfl rfl (by decide) ?_
 refine aL rfl rfl rfl rfl ?_
 refine xz rfl rfl (by omega) (by omega) ?_
 refine bG rfl ?_
 refine bp rfl rfl (by omega) (by omega) ?_
 refine bZ rfl (aD (aC (az (bU rfl rfl ?_))))
 all_goals skip
 all_goals exact av rfl rfl (congrArg (Ty.int .i64) (O7 hc1))
set_option maxRecDepth 100000 in
theorem D5 (y : aj) (hr : y.bY) (b t : Nat) (hb : b < y.bins.length) (ht : t ≤ y.D) : dK Tryz.prog 89 [Ty.pp (bC y), Ty.int .i64 (b : Nat), Ty.int .i64 (t : Nat)] (Ty.int .i64 (y.kept b t : Nat)) := by
 refine au Tryz.func89 rfl (by decide) Tryz.ntmps89 (by exact Nat.le_of_ble_eq_true rfl) fun w0 M0 => ?_
 have h1 := hr.bins
 have h2 := hr.days
 have h3 := D_eq hr
 have h4 := DT (s := (b : Nat)) (d := y.days + 1) (by omega) (by omega)
 refine aE (aB (bZ rfl (aD (aC (aE (aB (bG rfl (jV rfl (cC rfl ?_)))))))))
 refine aJ rfl rfl rfl rfl rfl (by decide) ?_
 refine aJ rfl rfl rfl rfl rfl (by decide) ?_
 refine aL rfl rfl rfl rfl ?_
 refine bp rfl rfl (by omega) (by omega) ?_
 refine xz rfl rfl (by omega) (by omega) ?_
 refine bG rfl ?_
 refine bp rfl rfl (by omega) (by omega) ?_
 refine bZ rfl (aD (aC (az (bU rfl rfl ?_))))
 all_goals skip
 all_goals exact av rfl rfl (congrArg (Ty.int .i64) (Ky hr))
end Go.Proofs.YtelbollidfdcjaaGreat
namespace Go.Proofs.YtelbollidfdcjaaGreat
open Go Go.T
set_option maxHeartbeats 8000000
def kB (f : cB) : List Ty := [Ty.agg (dw.tys f)]
section
variable {y : aj} {c : Nat → Bool} {b t : Nat}
def Ep (y : aj) (b t : Nat) : Int := if 0 < t then y.cell b ((t : Int) - 1) else (y.cells : Nat)
def Il (y : aj) (b t : Nat) : Int := if t < y.D then y.cell b t else (y.cells : Nat)
def wI (s d : Int) (k : Span) : List Ty := [Ty.int .i64 s, Ty.int .i64 d, Ty.int .i64 k.lo, Ty.int .i64 k.hi]
theorem Nb (h : (t : Int) > 0) : y.cell b ((t : Int) - 1) = Ep y b t := (if_pos (by omega)).symm
theorem P3 (h : ¬ (t : Int) > 0) : ((y.cells : Nat) : Int) = Ep y b t := (if_neg (by omega)).symm
theorem OO (hr : y.bY) (h : (t : Int) < y.days) : y.cell b t = Il y b t := (if_pos (by have := D_eq hr; omega)).symm
theorem PE (hr : y.bY) (h : ¬ (t : Int) < y.days) : ((y.cells : Nat) : Int) = Il y b t := (if_neg (by have := D_eq hr; omega)).symm
theorem ME (h : (t : Int) > 0) : 0 = (dj y b t).lo ∧ (nth y.bins b).holds = (dj y b t).hi := by unfold dj; rw [if_pos (by omega)]; exact ⟨rfl, rfl⟩
theorem Ol (h : ¬ (t : Int) > 0) : max 0 (nth y.bins b).first.lo = (dj y b t).lo ∧ gH (nth y.bins b).holds [(nth y.bins b).first.hi] = (dj y b t).hi := by unfold dj; rw [if_neg (by omega)]; exact ⟨rfl, rfl⟩
theorem FE {s : Span} {k : Nat} (h : ((c k && decide ((nth y.levels k).bin = b)) && decide ((nth y.levels k).day = t)) = true) : max (dz y c b t s k).lo (nth y.levels k).sacks.lo = (dz y c b t s (k + 1)).lo ∧ gH (dz y c b t s k).hi [(nth y.levels k).sacks.hi] = (dz y c b t s (k + 1)).hi := by
 show _ = (if _ then _ else _ : Span).lo ∧ _ = (if _ then _ else _ : Span).hi
 rw [if_pos h]; exact ⟨rfl, rfl⟩
theorem LM {s : Span} {k : Nat} (h : ((c k && decide ((nth y.levels k).bin = b)) && decide ((nth y.levels k).day = t)) = false) : (dz y c b t s k).lo = (dz y c b t s (k + 1)).lo ∧ (dz y c b t s k).hi = (dz y c b t s (k + 1)).hi := by
 show _ = (if _ then _ else _ : Span).lo ∧ _ = (if _ then _ else _ : Span).hi
 rw [if_neg (by rw [h]; decide)]; exact ⟨rfl, rfl⟩
theorem B2 (s : Span) : s.lo = (dz y c b t s 0).lo ∧ s.hi = (dz y c b t s 0).hi := ⟨rfl, rfl⟩
theorem OP {s : Span} {k : Nat} (hk : k ≤ y.levels.length) (h : ¬ (k : Int) < (y.levels.length : Int)) : dz y c b t s k = dz y c b t s y.levels.length := by rw [show k = y.levels.length by omega]
theorem M7 (hb : b < y.bins.length) (ht : t ≤ y.D) : kB (nth (aO y c) (b * (y.D + 1) + t)) = [Ty.agg (wI (Ep y b t) (Il y b t) (dz y c b t (dj y b t) y.levels.length))] := congrArg kB (gR (c := c) hb ht)
theorem NY {i : Nat} (hi : i < y.moves.length) : kB (nth (aO y c) (y.bins.length * (y.D + 1) + i)) = [Ty.agg [Ty.int .i64 (y.cell (nth y.moves i).src (nth y.moves i).day), Ty.int .i64 (y.cell (nth y.moves i).dst (nth y.moves i).day), Ty.int .i64 (nth y.moves i).sacks.lo, Ty.int .i64 (nth y.moves i).sacks.hi]] := congrArg kB (gT (c := c) hi)
theorem GV (hb : b < y.bins.length) (ht : t ≤ y.D) : b * (y.D + 1) + t < (aO y c).length := by
 rw [fH]; have h := oE hb ht; unfold aj.kept at h; omega
theorem JZ {J : Nat → World → bF → Prop} (hJ : ∀ k, Cb (J k)) {m k : Nat} (e : m = k) : (Cont.ck (hJ m)).Sub (Cont.ck (hJ k)) := Cont.Pv hJ e
end
attribute [local irreducible] aj.cell aj.cells gH Ep Il dj dz aO
attribute [local irreducible] gF eX lq nY g7 gx g9 g5 g8 nW gz nT dM fj nM gC oB nth fW dR ay dK bodyPost Exit.then Exit.inBlock Code.wp Code.wpIn n9 hO nO ni gy eU cM cN bodyPostM dO
set_option maxRecDepth 100000 in
theorem vn (y : aj) (hr : y.bY) (c8 : List Bool) (hc8 : c8.length = 8) (b D : Nat) (hD : D < 4096) (vs : List Value) : Ji Tryz.prog 196 b D 185 vs (bC y) (fun l => [Ty.ex (yv l), Ty.pp [Ty.ex (.pointer (some ⟨b, 0, none⟩))], Ty.pa fE c8 0]) ((aO y (nth c8)).map kB) (Ty.lD []) (Ty.lD []) := by
 refine Du rfl rfl Tryz.func196 rfl (by decide) Tryz.ntmps196 (fun _ => by exact Nat.le_of_ble_eq_true rfl) (fun _ => ⟨rfl, rfl⟩) fun l J Jx hJ hJx hX hY w0 M0 => ?_
 have h1 := hr.bins
 have h2 := hr.days
 have h3 := D_eq hr
 have h4 := hr.moves
 have h5 := hr.levels
 refine aE (aE (aB (aL rfl rfl rfl rfl (lN rfl ?_))))
 refine jL rfl rfl rfl rfl rfl (by decide) ?_
 refine jL rfl rfl rfl rfl rfl (by decide) ?_
 refine sj hX rfl rfl rfl rfl rfl rfl (b9 rfl rfl rfl (bG rfl (aD (aC (aZ ?_)))))
 refine bz (fun (k : {k : Nat // k ≤ y.bins.length}) => live [(0, Ty.ex (yv l)), (1, Ty.pp [Ty.ex (.pointer (some ⟨b, 0, none⟩))]), (2, Ty.pa fE c8 0), (16, Ty.sl fO y.bins), (17, Ty.int .i64 y.bins.length), (18, Ty.int .i64 (k.1 : Nat))] [(7000, Cont.ck (hJ (k.1 * (y.D + 1)))), (4000, Cont.fact (bC y) vs rfl rfl)]) (fun k => y.bins.length - k.1) (⟨0, by omega⟩) ?_ fun k => ?_
 ·(refine cV.mk' ?_ ?_ <;> (repeat' (first | exact aH | exact aI | refine aA ?_ (Ty.aT _) | refine aA ?_ (Ty.aF _) | refine aG rfl (Cont.aF _) ?_ | refine aG rfl ?_ ?_)))
  all_goals exact JZ hJ (Nat.zero_mul _).symm
 refine aE (aB (bA rfl rfl rfl (aD (aC (aE ?_)))))
 refine ah rfl (fun hc1 => ?_) (fun hc1 => ?_)
 ·
  refine af (aC (aE (aZ (aE (aB (bG rfl ?_))))))
  refine aq rfl rfl rfl rfl rfl rfl (by omega) ?_
  refine aY rfl rfl rfl (by exact Nat.le_of_ble_eq_true rfl) ?_
  refine bf rfl (by exact List.cons_ne_nil _ _) rfl ?_
  refine bZ rfl ?_
  refine bS rfl rfl (by decide) rfl rfl rfl rfl rfl rfl ?_
  refine aD (aC (aE (aB (aL rfl rfl rfl rfl (lN rfl ?_)))))
  refine jL rfl rfl rfl rfl rfl (by decide) ?_
  refine jL rfl rfl rfl rfl rfl (by decide) ?_
  refine sj hX rfl rfl rfl rfl rfl rfl ?_
  refine bp rfl rfl (by omega) (by omega) ?_
  refine bG rfl (aD (aC (aZ ?_)))
  refine bz (fun (t : {t : Nat // t ≤ y.D + 1}) => live [(0, Ty.ex (yv l)), (1, Ty.pp [Ty.ex (.pointer (some ⟨b, 0, none⟩))]), (2, Ty.pa fE c8 0), (4, Ty.int .i64 (k.1 : Nat)), (5, Ty.ptr 6 0), (16, Ty.sl fO y.bins), (17, Ty.int .i64 y.bins.length), (18, Ty.int .i64 (k.1 : Nat)), (28, Ty.int .i64 (y.days + 1)), (29, Ty.int .i64 (t.1 : Nat))] [(6, Cont.cells 39 (fO.tys (nth y.bins k.1))), (7000, Cont.ck (hJ (k.1 * (y.D + 1) + t.1))), (4000, Cont.fact (bC y) vs rfl rfl)]) (fun t => y.D + 1 - t.1) (⟨0, by omega⟩) ?_ fun t => ?_
  ·(refine cV.mk' ?_ ?_ <;> (repeat' (first | exact aH | exact aI | refine aA ?_ (Ty.aT _) | refine aA ?_ (Ty.aF _) | refine aG rfl (Cont.aF _) ?_)))
  refine aE (aB (bA rfl rfl rfl (aD (aC (aE ?_)))))
  refine ah rfl (fun hc2 => ?_) (fun hc2 => ?_)
  ·
   refine af (aC (aE (aZ (aE (aB (bG rfl (bZ rfl (aD (aC ?_)))))))))
   refine aE (cH mixed rfl (aL rfl rfl rfl rfl ?_))
   refine dr [7000, 4000] (oH y hr) rfl (aW (qp hX hD rfl rfl rfl rfl) cL) (by exact dJ _ _) ?_
   refine aL rfl rfl rfl rfl ?_
   refine dr [7000, 4000] (oH y hr) rfl (aW (qp hX hD rfl rfl rfl rfl) cL) (by exact dJ _ _) ?_
   refine aR rfl rfl rfl rfl rfl (by decide) ?_
   refine aX rfl rfl (by decide) rfl rfl rfl ?_
   refine cq rfl rfl (by exact List.cons_ne_nil _ _) rfl (by repeat (first | exact (aV.nil : aV _ _ [] _) | (show aV _ _ ((_, _) :: _) _; apply aV.one; (· exact (rfl : _ = Ty.int _ _)); (· exact rfl)))) (by exact (rfl : _ = some [_, _, _, _])) ?_
   refine bf rfl (by exact List.cons_ne_nil _ _) rfl ?_
   refine bS rfl rfl (by decide) rfl rfl rfl rfl rfl rfl ?_
   refine aD ?_
   refine ⟨by kernel_rfl, ?_⟩
   refine aC ?_
   refine iZ (J := live [(0, Ty.ex (yv l)), (1, Ty.pp [Ty.ex (.pointer (some ⟨b, 0, none⟩))]), (2, Ty.pa fE c8 0), (4, Ty.int .i64 (k.1 : Nat)), (5, Ty.ptr 6 0), (6, Ty.int .i64 (t.1 : Nat)), (7, Ty.ptr 8 0), (16, Ty.sl fO y.bins), (17, Ty.int .i64 y.bins.length), (18, Ty.int .i64 (k.1 : Nat)), (28, Ty.int .i64 (y.days + 1)), (29, Ty.int .i64 (t.1 : Nat))] [(6, Cont.cells 39 (fO.tys (nth y.bins k.1))), (8, Cont.cells 187 [Ty.int .i64 (Ep y k.1 t.1), Ty.int .i64 (y.cells : Nat), Ty.int .i64 (dj y k.1 t.1).lo, Ty.int .i64 (dj y k.1 t.1).hi]), (7000, Cont.ck (hJ (k.1 * (y.D + 1) + t.1))), (4000, Cont.fact (bC y) vs rfl rfl)]) ?_ ?_
   ·
    refine aE (aB (bG rfl (bA rfl rfl rfl (aD (aC ?_)))))
    refine ah rfl (fun hc3 => ?_) (fun hc3 => ?_)
    ·
     refine aB (aL rfl rfl rfl rfl (bG rfl (bG rfl ?_)))
     refine fk rfl rfl (by omega) (by omega) ?_
     refine dr [7000, 4000] (uf y hr (k.1 : Nat) ((t.1 : Int) - 1) (by omega) (by omega)) rfl (aW (qp hX hD rfl rfl rfl rfl) (aW (bQ (bR rfl rfl)) (aW (bQ (bR rfl rfl)) cL))) (by exact dJ _ _) ?_
     refine aR rfl rfl rfl rfl rfl (by decide) ?_
     refine cv rfl rfl (by decide) rfl rfl (by exact (rfl : _ = Ty.int _ _)) rfl (by exact Nat.le_of_ble_eq_true rfl) rfl rfl (by exact rfl) ?_
     refine aD (dX ?_)
     (refine cV.mk' ?_ ?_ <;> (repeat' (first | exact aH | exact aI | exact cr | refine aA ?_ (Ty.aT _) | refine aA ?_ (Ty.aF _) | refine aG rfl (Cont.aF _) ?_ | refine aG rfl (Cont.ct ?_) ?_ | refine bJ ?_ (Ty.aF _) | refine bJ ?_ ?_)))
     all_goals first | exact Ty.bD (Nb hc3) | exact Ty.bD (ME hc3).1 | exact Ty.bD (ME hc3).2
    refine cH mixed rfl ?_
    refine aR rfl rfl rfl rfl rfl (by decide) ?_
    refine aR rfl rfl rfl rfl rfl (by decide) ?_
    refine aX rfl rfl (by decide) rfl rfl rfl ?_
    refine vA rfl rfl ?_
    refine aR rfl rfl rfl rfl rfl (by decide) ?_
    refine aX rfl rfl (by decide) rfl rfl rfl ?_
    refine aR rfl rfl rfl rfl rfl (by decide) ?_
    refine aR rfl rfl rfl rfl rfl (by decide) ?_
    refine aX rfl rfl (by decide) rfl rfl rfl ?_
    refine bX (E := c7) (xs := [_]) rfl rfl rfl rfl rfl (by decide) (by decide) (by repeat (first | exact (aV.nil : aV _ _ [] _) | (show aV _ _ ((_, _) :: _) _; apply aV.one; (· exact (rfl : _ = Ty.int _ _)); (· exact rfl)))) (by exact rfl) rfl ?_
    refine ak (tP _ _) rfl rfl rfl rfl rfl ?_
    refine aR rfl rfl rfl rfl rfl (by decide) ?_
    refine cv rfl rfl (by decide) rfl rfl (by exact (rfl : _ = Ty.int _ _)) rfl (by exact Nat.le_of_ble_eq_true rfl) rfl rfl (by exact rfl) ?_
    refine aR rfl rfl rfl rfl rfl (by decide) ?_
    refine cv rfl rfl (by decide) rfl rfl (by exact (rfl : _ = Ty.int _ _)) rfl (by exact Nat.le_of_ble_eq_true rfl) rfl rfl (by exact rfl) ?_
    refine aD ?_
    refine ⟨by kernel_rfl, ?_⟩
    refine dX ?_
    (refine cV.mk' ?_ ?_ <;> (repeat' (first | exact aH | exact aI | exact cr | refine aA ?_ (Ty.aT _) | refine aA ?_ (Ty.aF _) | refine aG rfl (Cont.aF _) ?_ | refine aG rfl (Cont.ct ?_) ?_ | refine bJ ?_ (Ty.aF _) | refine bJ ?_ ?_)))
    all_goals first | exact Ty.bD (P3 hc3) | exact Ty.bD (Ol hc3).1 | exact Ty.bD (Ol hc3).2
   refine iZ (J := live [(0, Ty.ex (yv l)), (1, Ty.pp [Ty.ex (.pointer (some ⟨b, 0, none⟩))]), (2, Ty.pa fE c8 0), (4, Ty.int .i64 (k.1 : Nat)), (5, Ty.ptr 6 0), (6, Ty.int .i64 (t.1 : Nat)), (7, Ty.ptr 8 0), (16, Ty.sl fO y.bins), (17, Ty.int .i64 y.bins.length), (18, Ty.int .i64 (k.1 : Nat)), (28, Ty.int .i64 (y.days + 1)), (29, Ty.int .i64 (t.1 : Nat))] [(6, Cont.cells 39 (fO.tys (nth y.bins k.1))), (8, Cont.cells 187 (wI (Ep y k.1 t.1) (Il y k.1 t.1) (dj y k.1 t.1))), (7000, Cont.ck (hJ (k.1 * (y.D + 1) + t.1))), (4000, Cont.fact (bC y) vs rfl rfl)]) ?_ ?_
   ·
    refine aE (aB (bG rfl (aL rfl rfl rfl rfl (lN rfl ?_))))
    refine jL rfl rfl rfl rfl rfl (by decide) ?_
    refine jL rfl rfl rfl rfl rfl (by decide) ?_
    refine sj hX rfl rfl rfl rfl rfl rfl (bA rfl rfl rfl (aD (aC ?_)))
    refine ah rfl (fun hc4 => ?_) (fun hc4 => ?_)
    ·
     refine aB (aL rfl rfl rfl rfl (bG rfl (bG rfl ?_)))
     refine dr [7000, 4000] (uf y hr (k.1 : Nat) (t.1 : Nat) (by omega) (by omega)) rfl (aW (qp hX hD rfl rfl rfl rfl) (aW (bQ (bR rfl rfl)) (aW (bQ (bR rfl rfl)) cL))) (by exact dJ _ _) ?_
     refine aR rfl rfl rfl rfl rfl (by decide) ?_
     refine cv rfl rfl (by decide) rfl rfl (by exact (rfl : _ = Ty.int _ _)) rfl (by exact Nat.le_of_ble_eq_true rfl) rfl rfl (by exact rfl) ?_
     refine aD (dX ?_)
     (refine cV.mk' ?_ ?_ <;> (repeat' (first | exact aH | exact aI | exact cr | refine aA ?_ (Ty.aT _) | refine aA ?_ (Ty.aF _) | refine aG rfl (Cont.aF _) ?_ | refine aG rfl (Cont.ct ?_) ?_ | refine bJ ?_ (Ty.aF _) | refine bJ ?_ ?_)))
     all_goals exact Ty.bD (OO hr hc4)
    refine af (dX ?_)
    (refine cV.mk' ?_ ?_ <;> (repeat' (first | exact aH | exact aI | exact cr | refine aA ?_ (Ty.aT _) | refine aA ?_ (Ty.aF _) | refine aG rfl (Cont.aF _) ?_ | refine aG rfl (Cont.ct ?_) ?_ | refine bJ ?_ (Ty.aF _) | refine bJ ?_ ?_)))
    all_goals exact Ty.bD (PE hr hc4)
   refine aE (aE (aB (aL rfl rfl rfl rfl (lN rfl ?_))))
   refine jL rfl rfl rfl rfl rfl (by decide) ?_
   refine jL rfl rfl rfl rfl rfl (by decide) ?_
   refine sj hX rfl rfl rfl rfl rfl rfl (b9 rfl rfl rfl (bG rfl (aD (aC (aZ ?_)))))
   refine bz (fun (i : {i : Nat // i ≤ y.levels.length}) => live [(0, Ty.ex (yv l)), (1, Ty.pp [Ty.ex (.pointer (some ⟨b, 0, none⟩))]), (2, Ty.pa fE c8 0), (4, Ty.int .i64 (k.1 : Nat)), (5, Ty.ptr 6 0), (6, Ty.int .i64 (t.1 : Nat)), (7, Ty.ptr 8 0), (16, Ty.sl fO y.bins), (17, Ty.int .i64 y.bins.length), (18, Ty.int .i64 (k.1 : Nat)), (28, Ty.int .i64 (y.days + 1)), (29, Ty.int .i64 (t.1 : Nat)), (76, Ty.sl dY y.levels), (77, Ty.int .i64 y.levels.length), (78, Ty.int .i64 (i.1 : Nat))] [(6, Cont.cells 39 (fO.tys (nth y.bins k.1))), (8, Cont.cells 187 (wI (Ep y k.1 t.1) (Il y k.1 t.1) (dz y (nth c8) k.1 t.1 (dj y k.1 t.1) i.1))), (7000, Cont.ck (hJ (k.1 * (y.D + 1) + t.1))), (4000, Cont.fact (bC y) vs rfl rfl)]) (fun i => y.levels.length - i.1) (⟨0, by omega⟩) ?_ fun i => ?_
   ·(refine cV.mk' ?_ ?_ <;> (repeat' (first | exact aH | exact aI | exact cr | refine aA ?_ (Ty.aT _) | refine aA ?_ (Ty.aF _) | refine aG rfl (Cont.aF _) ?_ | refine aG rfl (Cont.ct ?_) ?_ | refine bJ ?_ (Ty.aF _) | refine bJ ?_ ?_)))
    all_goals first | exact Ty.bD (B2 _).1 | exact Ty.bD (B2 _).2
   have hi := i.2
   refine aE (aB (bA rfl rfl rfl (aD (aC (aE ?_)))))
   refine ah rfl (fun hc5 => ?_) (fun hc5 => ?_)
   ·
    refine af (aC (aE (aZ (aE (aB (bG rfl ?_))))))
    refine aq rfl rfl rfl rfl rfl rfl (by omega) ?_
    refine aY rfl rfl rfl (by exact Nat.le_of_ble_eq_true rfl) ?_
    refine bf rfl (by exact List.cons_ne_nil _ _) rfl ?_
    refine bZ rfl ?_
    refine bS rfl rfl (by decide) rfl rfl rfl rfl rfl rfl ?_
    refine aD (aC (aE (aB (bG rfl ?_))))
    refine E2 (n := 8) rfl rfl rfl rfl rfl (by omega) ?_
    refine HY rfl rfl rfl (Nat.zero_add _) (by omega) rfl ?_
    refine eF rfl ?_
    apply aM (s := 86) rfl rfl rfl
    ·intro hg; apply aP; (refine aR rfl rfl rfl rfl rfl (by decide) ?_); refine aD ?_; exact rfl
    ·exact rfl
    ·exact rfl
    apply aM (s := 86) rfl rfl rfl
    ·intro hg; apply aK (s := 87) rfl (by (rw [hg]; rfl)); apply aP; (refine aX rfl rfl (by decide) rfl rfl rfl ?_); refine aD ?_; exact rfl
    ·exact rfl
    ·exact rfl
    apply aM (s := 86) rfl rfl rfl
    ·intro hg; apply aP; (refine bG rfl ?_); refine aD ?_; exact rfl
    ·exact rfl
    ·exact rfl
    apply aM (s := 86) rfl rfl rfl
    ·intro hg; apply aK (s := 88) rfl (by (rw [hg]; rfl)); apply aK (s := 89) rfl (by (rw [hg]; rfl)); apply aP; (refine bA rfl rfl rfl ?_); refine aD ?_; exact rfl
    ·exact rfl
    ·exact rfl
    refine dm rfl rfl (eF rfl ?_)
    apply aM (s := 92) rfl rfl rfl
    ·intro hg; apply aP; (refine aR rfl rfl rfl rfl rfl (by decide) ?_); refine aD ?_; exact rfl
    ·exact rfl
    ·exact rfl
    apply aM (s := 92) rfl rfl rfl
    ·intro hg; apply aK (s := 93) rfl (by (rw [hg]; rfl)); apply aP; (refine aX rfl rfl (by decide) rfl rfl rfl ?_); refine aD ?_; exact rfl
    ·exact rfl
    ·exact rfl
    apply aM (s := 92) rfl rfl rfl
    ·intro hg; apply aP; (refine bG rfl ?_); refine aD ?_; exact rfl
    ·exact rfl
    ·exact rfl
    apply aM (s := 92) rfl rfl rfl
    ·intro hg; apply aK (s := 94) rfl (by (rw [hg]; rfl)); apply aK (s := 95) rfl (by (rw [hg]; rfl)); apply aP; (refine bA rfl rfl rfl ?_); refine aD ?_; exact rfl
    ·exact rfl
    ·exact rfl
    refine dm rfl rfl (aD (aC ?_))
    refine cF rfl (fun hc6 => ?_) (fun hc6 => ?_)
    ·
     refine cH mixed rfl ?_
     refine aR rfl rfl rfl rfl rfl (by decide) ?_
     refine aX rfl rfl (by decide) rfl rfl rfl ?_
     refine aR rfl rfl rfl rfl rfl (by decide) ?_
     refine aR rfl rfl rfl rfl rfl (by decide) ?_
     refine aX rfl rfl (by decide) rfl rfl rfl ?_
     refine vA rfl rfl ?_
     refine aR rfl rfl rfl rfl rfl (by decide) ?_
     refine aX rfl rfl (by decide) rfl rfl rfl ?_
     refine aR rfl rfl rfl rfl rfl (by decide) ?_
     refine aR rfl rfl rfl rfl rfl (by decide) ?_
     refine aX rfl rfl (by decide) rfl rfl rfl ?_
     refine bX (E := c7) (xs := [_]) rfl rfl rfl rfl rfl (by decide) (by decide) (by repeat (first | exact (aV.nil : aV _ _ [] _) | (show aV _ _ ((_, _) :: _) _; apply aV.one; (· exact (rfl : _ = Ty.int _ _)); (· exact rfl)))) (by exact rfl) rfl ?_
     refine ak (tP _ _) rfl rfl rfl rfl rfl ?_
     refine aR rfl rfl rfl rfl rfl (by decide) ?_
     refine cv rfl rfl (by decide) rfl rfl (by exact (rfl : _ = Ty.int _ _)) rfl (by exact Nat.le_of_ble_eq_true rfl) rfl rfl (by exact rfl) ?_
     refine aR rfl rfl rfl rfl rfl (by decide) ?_
     refine cv rfl rfl (by decide) rfl rfl (by exact (rfl : _ = Ty.int _ _)) rfl (by exact Nat.le_of_ble_eq_true rfl) rfl rfl (by exact rfl) ?_
     refine aD ?_
     refine ⟨by kernel_rfl, ?_⟩
     refine bI (aC (aB ?_))
     refine bp rfl rfl (by omega) (by omega) ?_
     refine bG rfl (aD ?_)
     refine bL (⟨i.1 + 1, by omega⟩) ?_ (by show y.levels.length - (i.1 + 1) < y.levels.length - i.1; omega)
     (refine cV.mk' ?_ ?_ <;> (repeat' (first | exact aH | exact aI | exact cr | refine aA ?_ (Ty.aT _) | refine aA ?_ (Ty.aF _) | refine aG rfl (Cont.aF _) ?_ | refine aG rfl (Cont.ct ?_) ?_ | refine bJ ?_ (Ty.aF _) | refine bJ ?_ ?_)))
     all_goals skip
     all_goals first | exact Ty.bD (FE hc6).1 | exact Ty.bD (FE hc6).2
    refine af (bI (aC (aB ?_)))
    refine bp rfl rfl (by omega) (by omega) ?_
    refine bG rfl (aD ?_)
    refine bL (⟨i.1 + 1, by omega⟩) ?_ (by show y.levels.length - (i.1 + 1) < y.levels.length - i.1; omega)
    (refine cV.mk' ?_ ?_ <;> (repeat' (first | exact aH | exact aI | exact cr | refine aA ?_ (Ty.aT _) | refine aA ?_ (Ty.aF _) | refine aG rfl (Cont.aF _) ?_ | refine aG rfl (Cont.ct ?_) ?_ | refine bJ ?_ (Ty.aF _) | refine bJ ?_ ?_)))
    all_goals skip
    all_goals first | exact Ty.bD (LM hc6).1 | exact Ty.bD (LM hc6).2
   refine b8 (aQ (aQ (aa rfl (aC (aE ?_)))))
   refine jz (tg := 8) rfl (Cont.nU (congrArg (wI _ _) (OP i.2 hc5))) ?_
   refine aB (SM rfl ?_)
   refine bu rfl rfl (by decide) rfl rfl (by exact Nat.le_of_ble_eq_true rfl) ?_
   refine DY hJ hJx hY rfl rfl rfl rfl rfl (G0 (GV (by omega) (by omega)) (M7 (by omega) (by omega))) rfl ?_
   refine LL (h1 := hJ _) (hx := hJx) rfl ?_
   refine aD (aC ?_)
   refine GD (h1 := hJ _) (hx := hJx) rfl ?_ ?_
   ·
    refine az (bB (aS (aS (bB (bB (aS (aS (bB (aS ?_)))))))))
    exact Fh rfl rfl
   refine af (bI (aC (aB ?_)))
   refine bp rfl rfl (by omega) (by omega) ?_
   refine bG rfl (aD ?_)
   refine bL (⟨t.1 + 1, by omega⟩) ?_ (by show y.D + 1 - (t.1 + 1) < y.D + 1 - t.1; omega)
   (refine cV.mk' ?_ ?_ <;> (repeat' (first | exact aH | exact aI | refine aA ?_ (Ty.aT _) | refine aA ?_ (Ty.aF _) | refine aG rfl (Cont.aF _) ?_)))
   all_goals skip
  refine b8 (aQ (aQ (aa rfl (bI (aC (aB ?_))))))
  refine bp rfl rfl (by omega) (by omega) ?_
  refine bG rfl (aD ?_)
  refine bL (⟨k.1 + 1, by omega⟩) ?_ (by show y.bins.length - (k.1 + 1) < y.bins.length - k.1; omega)
  (refine cV.mk' ?_ ?_ <;> (repeat' (first | exact aH | exact aI | refine aA ?_ (Ty.aT _) | refine aA ?_ (Ty.aF _) | refine aG rfl (Cont.aF _) ?_ | refine aG rfl ?_ ?_)))
  all_goals skip
  all_goals exact JZ hJ (show k.1 * (y.D + 1) + t.1 = (k.1 + 1) * (y.D + 1) by rw [Nat.succ_mul]; have := t.2; omega)
 refine b8 (aQ (aQ (aa rfl (aC (aE (aB (aL rfl rfl rfl rfl (lN rfl ?_))))))))
 refine jL rfl rfl rfl rfl rfl (by decide) ?_
 refine jL rfl rfl rfl rfl rfl (by decide) ?_
 refine sj hX rfl rfl rfl rfl rfl rfl (b9 rfl rfl rfl (bG rfl (aD (aC (aZ ?_)))))
 refine bz (fun (i : {i : Nat // i ≤ y.moves.length}) => live [(0, Ty.ex (yv l)), (1, Ty.pp [Ty.ex (.pointer (some ⟨b, 0, none⟩))]), (124, Ty.sl eH y.moves), (125, Ty.int .i64 y.moves.length), (126, Ty.int .i64 (i.1 : Nat))] [(7000, Cont.ck (hJ (y.bins.length * (y.D + 1) + i.1))), (4000, Cont.fact (bC y) vs rfl rfl)]) (fun i => y.moves.length - i.1) (⟨0, by omega⟩) ?_ fun i => ?_
 ·(refine cV.mk' ?_ ?_ <;> (repeat' (first | exact aH | exact aI | refine aA ?_ (Ty.aT _) | refine aA ?_ (Ty.aF _) | refine aG rfl (Cont.aF _) ?_ | refine aG rfl ?_ ?_)))
  all_goals exact JZ hJ (show k.1 * (y.D + 1) = y.bins.length * (y.D + 1) + 0 by rw [show k.1 = y.bins.length by have := k.2; omega]; rfl)
 refine aE (aB (bA rfl rfl rfl (aD (aC (aE ?_)))))
 refine ah rfl (fun hc8 => ?_) (fun hc8 => ?_)
 ·
  refine af (aC (aE (aZ (aE (aB ?_)))))
  refine aq rfl rfl rfl rfl rfl rfl (by omega) ?_
  refine aY rfl rfl rfl (by exact Nat.le_of_ble_eq_true rfl) ?_
  refine bf rfl (by exact List.cons_ne_nil _ _) rfl ?_
  refine bS rfl rfl (by decide) rfl rfl rfl rfl rfl rfl ?_
  refine aD (aC (aE ?_))
  have hm := hr.move _ (cT (xs := y.moves) (k := i.1) (by omega))
  refine cH mixed rfl (SM rfl (aL rfl rfl rfl rfl ?_))
  refine aR rfl rfl rfl rfl rfl (by decide) ?_
  refine aX rfl rfl (by decide) rfl rfl rfl ?_
  refine aR rfl rfl rfl rfl rfl (by decide) ?_
  refine aX rfl rfl (by decide) rfl rfl rfl ?_
  refine dr [7000, 4000] (uf y hr (nth y.moves i.1).src (nth y.moves i.1).day hm.2.1 (by omega)) rfl (aW (qp hX hD rfl rfl rfl rfl) (aW (bQ (bR rfl rfl)) (aW (bQ (bR rfl rfl)) cL))) (by exact dJ _ _) ?_
  refine aL rfl rfl rfl rfl ?_
  refine aR rfl rfl rfl rfl rfl (by decide) ?_
  refine aX rfl rfl (by decide) rfl rfl rfl ?_
  refine aR rfl rfl rfl rfl rfl (by decide) ?_
  refine aX rfl rfl (by decide) rfl rfl rfl ?_
  refine dr [7000, 4000] (uf y hr (nth y.moves i.1).dst (nth y.moves i.1).day hm.2.2.1 (by omega)) rfl (aW (qp hX hD rfl rfl rfl rfl) (aW (bQ (bR rfl rfl)) (aW (bQ (bR rfl rfl)) cL))) (by exact dJ _ _) ?_
  refine aR rfl rfl rfl rfl rfl (by decide) ?_
  refine aR rfl rfl rfl rfl rfl (by decide) ?_
  refine aX rfl rfl (by decide) rfl rfl rfl ?_
  refine aR rfl rfl rfl rfl rfl (by decide) ?_
  refine aR rfl rfl rfl rfl rfl (by decide) ?_
  refine aX rfl rfl (by decide) rfl rfl rfl ?_
  refine cq rfl rfl (by exact List.cons_ne_nil _ _) rfl (by repeat (first | exact (aV.nil : aV _ _ [] _) | (show aV _ _ ((_, _) :: _) _; apply aV.one; (· exact (rfl : _ = Ty.int _ _)); (· exact rfl)))) (by exact (rfl : _ = some [_, _, _, _])) ?_
  refine DY hJ hJx hY rfl rfl rfl rfl rfl (G0 (by rw [fH]; omega) (NY (by omega))) rfl ?_
  refine LL (h1 := hJ _) (hx := hJx) rfl ?_
  refine aD ?_
  refine ⟨by kernel_rfl, ?_⟩
  refine aC ?_
  refine GD (h1 := hJ _) (hx := hJx) rfl ?_ ?_
  ·
   refine az (bB (aS (aS (bB ?_))))
   exact Fh rfl rfl
  refine af (bI (aC (aB ?_)))
  refine bp rfl rfl (by omega) (by omega) ?_
  refine bG rfl (aD ?_)
  refine bL (⟨i.1 + 1, by omega⟩) ?_ (by show y.moves.length - (i.1 + 1) < y.moves.length - i.1; omega)
  (refine cV.mk' ?_ ?_ <;> (repeat' (first | exact aH | exact aI | refine aA ?_ (Ty.aT _) | refine aA ?_ (Ty.aF _) | refine aG rfl (Cont.aF _) ?_)))
  all_goals skip
 refine b8 (aQ (aQ (aa rfl ?_)))
 exact Lu (hJ := hJ) (by rw [List.length_map, fH, show i.1 = y.moves.length by have := i.2; omega]) rfl rfl
end Go.Proofs.YtelbollidfdcjaaGreat
namespace Go.T
open Go Go.RowKit
theorem Lj {ρ : List (Nat × Nat)} {a b : Nat} (h : (a, b) ∈ ρ) : Conv ρ (.mp a) (.mp b) := fun _ _ _ _ _ _ hre ⟨k, e, hk⟩ => ⟨k, e, hre.some _ h k hk⟩
def MJ {α : Type} (E : El α) : VT (List α) := ⟨fun xs => Ty.sl E xs, fun _ => ⟨rfl, rfl⟩⟩
section
variable {A : As}
theorem F5 {α : Type} {E : El α} {T J : Nat} {xs : List α} {w : World} {M : bF} {v : Value} (wf : Wf w M) (h : vN E T J xs w M v) : lq E xs w (eN M J) v := by
 rcases h with ⟨rfl, rfl⟩ | ⟨g, off, c, cur, rfl, hg, hh, h1, h2, h3, h4⟩
 ·exact ⟨none, 0, rfl, Nat.le_refl _, by simp [maxLen], fun h => absurd h (by simp)⟩
 refine ⟨_, c, rfl, h1, h2, fun h0 => ⟨g, off, rfl, by simp [eN, hg], wf.lt g _ hg, fun i t hi => ?_⟩⟩
 obtain ⟨u, hu, hdu⟩ := dQ h4 i t hi
 refine ⟨u, ?_, t.mono (jj (w := w)) ?_ (fun _ _ h => by cases h) hdu⟩
 ·have hlt : i < xs.length * E.size := by
   have := (List.getElem?_eq_some_iff.1 hu).1
   rw [List.length_take] at this; omega
  rw [List.getElem?_take, if_pos hlt, List.getElem?_drop] at hu
  simpa [World.cell?, hh] using hu
 intro u hu
 have : u ∈ cG (xs.flatMap E.tys) := List.mem_flatMap.2 ⟨t, List.mem_of_getElem? hi, hu⟩
 rw [E.cY] at this; cases this
theorem OK {κ α : Type} [DecidableEq κ] {enc : κ → Value} {E : El α} {T J m : Nat} {q : List (κ × List α)} (hc : A.tag m = some (.mr enc E T J q)) (hne : Nat.beq m J = false) : Nd A J (m, .mp enc (MJ E) q) := fun w M wf ht => by
  obtain ⟨_, b, es, clock, h1, h2, h3, h4, _⟩ := ht _ (cj hc)
  have hmj : m ≠ J := fun h => by subst h; simp at hne
  refine ⟨b, by simp [eN, h1, hmj], es, clock, h2, h3, ?_⟩
  have key : ∀ (l : List (κ × List α)) (vs : List Value), cK w M (l.map fun x => Ty.fo E T J x.2) vs → cK w (eN M J) (l.map fun x => (MJ E).ty x.2) vs := by
    intro l
    induction l with
    | nil => intro vs h; cases vs with | nil => trivial | cons => cases h
    | cons x l ih =>
      intro vs h
      cases vs with
      | nil => cases h
      | cons v vs => exact ⟨F5 wf h.1, ih vs h.2⟩
  exact key q _ h4
theorem jk {L : List Nat} {l1 l2 : List Ty} (h1 : cG l1 = []) (h2 : bl l1 = []) : rP A L (.pp (l1 ++ l2)) (.pp l1) := fun w M v _ _ ⟨b, off, e, m1, m2, m3⟩ => by
 refine ⟨b, off, e, jo m1, m2, fun i t hi => ?_⟩
 have hl : i < l1.length := (List.getElem?_eq_some_iff.1 hi).1
 obtain ⟨x, hx, hd⟩ := m3 i t (by rw [List.getElem?_append_left hl]; exact hi)
 refine ⟨x, hx, t.mono (S := fun _ => True) (K := fun _ => True) ⟨Nat.le_refl _, rfl, rfl, rfl, fun b _ hm => ⟨jo hm, rfl⟩, fun b t _ h => absurd trivial h⟩ ?_ ?_ hd⟩
 ·intro u hu
  have : u ∈ cG l1 := List.mem_flatMap.2 ⟨t, List.mem_of_getElem? hi, hu⟩
  rw [h1] at this; cases this
 intro u hu
 have : u ∈ bl l1 := List.mem_flatMap.2 ⟨t, List.mem_of_getElem? hi, hu⟩
 rw [h2] at this; cases this
theorem HR {L : List Nat} {i : Nat} {t : Ty} : ∀ {l l' : List Ty}, oC A L l l' → l'[i]? = some t → ∃ s, l[i]? = some s ∧ rP A L s t := by
  induction i with
  | zero =>
    intro l l' h e
    match l, l', h with
    | [], [], _ => cases e
    | s :: _, t' :: _, h => injection e with e; subst e; exact ⟨s, rfl, h.1⟩
  | succ i ih =>
    intro l l' h e
    match l, l', h with
    | [], [], _ => cases e
    | _ :: l, _ :: l', h => exact ih (l := l) (l' := l') h.2 e
theorem jy {L : List Nat} {l l' : List Ty} (h : oC A L l l') : rP A L (.pp l) (.pp l') := fun w M v wf ht ⟨b, off, e, m1, m2, m3⟩ => by
 refine ⟨b, off, e, jo m1, m2, fun i t hi => ?_⟩
 obtain ⟨s, h1, h2⟩ := HR h hi
 obtain ⟨x, hx, hd⟩ := m3 i s h1
 exact ⟨x, hx, h2 w M x wf ht hd⟩
end
section
variable {P : Program} {fr : Fr} {A : As} {c : Code} {Q : Exit → Act → World → Prop}
theorem O5 {α : Type} {E : El α} {T J tg s : Nat} {xs : List α} (hs : Nat.blt s fr.n = true) (hc : A.slots s = .row E T tg xs) (h1 : gL tg) (hJ : 4096 ≤ J) (hp : fr.pass.contains tg = false)
    (h : fW P fr c ⟨fun i => bif Nat.beq i s then .fo E T J xs else iB [] [tg] A.slots i, nP [] [tg] A.tags⟩ Q) : fW P fr c A Q := fun a w ⟨M, ok, hsl, ht⟩ => by
  have le : Le (· ∈ ([] : List Nat)) (· ∈ [tg]) w M w (nC M tg J) := x7
  refine h a w ⟨nC M tg J, ⟨DG hJ ok.wf, Fr.ju ok.base (by intro _ h; cases h) (fun t ht => by simp only [List.mem_singleton] at ht; subst ht; exact ⟨h1.1, by simpa using hp⟩) le, ok.size, ok.defers.step (by intro _ h; cases h) (fun t ht => by simp only [List.mem_singleton] at ht; subst ht; exact h1.1) le⟩, fun i hi => ?_, fun x hx => ?_⟩
  · cases hb : Nat.beq i s with
    | false =>
      simp only [hb, cond_false]
      rcases gJ [] [tg] A.slots i with ⟨e, hdj⟩ | ⟨_, e⟩
      · rw [e]; exact (A.slots i).mono le (fZ hdj).1 (fZ hdj).2 (hsl i hi)
      · rw [e]; trivial
    | true =>
      have his : i = s := Nat.eq_of_beq_eq_true hb
      subst his
      simp only [hb, cond_true]
      have hd := hsl i hi
      rw [hc] at hd
      obtain ⟨vs, hown, hcs, hM⟩ := hd
      rcases hown.2 with ⟨ez, h0⟩ | ⟨g, cap, cur, ez, _, hh, hnc, hcap, hsz, htk⟩
      · exact .inl ⟨List.length_eq_zero_iff.1 h0, ez⟩
      · have hg : M g = some tg := hM g (by rw [ez]; rfl)
        refine .inr ⟨g, 0, cap, cur, ez, by simp [nC, hg], hh, hnc, hcap, by omega, ?_⟩
        rw [List.drop_zero, htk]
        exact bw (x7 (w := w)) (by rw [E.cY]; intro _ h; cases h) (by rw [E.cS]; intro _ h; cases h) hcs
  · exact jF le hx fun y hy _ => ht y hy
end
end Go.T
namespace Go.Proofs.YtelbollidfdcjaaGreat
open Go Go.T
set_option maxHeartbeats 8000000
theorem four {vs : List Value} {n : Nat} (h : vs.length = n) (e : n = 4) : ∃ a b c d, vs = [a, b, c, d] := by
  subst e
  match vs, h with
  | [a, b, c, d], _ => exact ⟨a, b, c, d, rfl⟩
def Fp (y : aj) : List Ty := [Ty.int .i64 y.days, Ty.sl fO y.bins, Ty.sl eH y.moves, Ty.sl dY y.levels, Ty.ex (.slice none 0 0), Ty.ex (.slice none 0 0)]
def Q8 (y : aj) (F A : Nat) (fl : List cB) (a : List Int) : List Ty := [Ty.int .i64 y.days, Ty.sl fO y.bins, Ty.sl eH y.moves, Ty.sl dY y.levels, Ty.row dw 187 F fl, Ty.row c7 3 A a]
theorem GF {fl : List cB} {k : Nat} (h : k < fl.length) : (fN fl).take k ++ [(nth fl k).lo] = (fN fl).take (k + 1) := by
 unfold fN; rw [← List.map_take, ← List.map_take, cR h, List.map_append]; rfl
theorem De {y : aj} {fl : List cB} {α : Type} {f : cB → α} : [Ty.int .i64 y.days, Ty.sl fO y.bins, Ty.sl eH y.moves, Ty.sl dY y.levels, Ty.row dw 187 23 (fl.take (fl.map f).length), Ty.row c7 3 31 ((fN fl).take (fl.map f).length)] = Q8 y 23 31 fl (fN fl) := by
 rw [List.length_map, List.take_of_length_le (Nat.le_refl _), List.take_of_length_le (by unfold fN; rw [List.length_map]; exact Nat.le_refl _)]; rfl
def sW (y : aj) (F A m n : Nat) : List Ty := [Ty.int .i64 y.days, Ty.sl fO y.bins, Ty.sl eH y.moves, Ty.sl dY y.levels, Ty.vs F m, Ty.vs A n]
def dZ (y : aj) (fl : List cB) (A n : Nat) : List Ty := [Ty.int .i64 y.days, Ty.sl fO y.bins, Ty.sl eH y.moves, Ty.sl dY y.levels, Ty.sl dw fl, Ty.vs A n]
def mm (y : aj) (fl : List cB) (a : List Int) : List Ty := [Ty.int .i64 y.days, Ty.sl fO y.bins, Ty.sl eH y.moves, Ty.sl dY y.levels, Ty.sl dw fl, Ty.sl c7 a]
theorem Aq (fl : List cB) : (fN fl).length = fl.length := by unfold fN; rw [List.length_map]
theorem iV {y : aj} (hr : y.bY) {c : Nat → Bool} : (aO y c).length ≤ 34 := by
 have h1 := hr.bins; have h2 := hr.days; have h3 := D_eq hr; have h4 := hr.moves
 have := Nat.mul_le_mul (show y.bins.length ≤ 4 by omega) (show y.D + 1 ≤ 6 by omega)
 rw [fH]; omega
attribute [local irreducible] aO fN
attribute [local irreducible] gF eX lq nY g7 gx g9 g5 g8 nW gz nT dM fj nM gC oB nth fW dR ay dK bodyPost Exit.then Exit.inBlock Code.wp Code.wpIn n9 hO nO ni gy eU cM cN bodyPostM dO
set_option maxRecDepth 100000 in
theorem MV (y : aj) (c8 : List Bool) (hc8 : c8.length = 8) : eU Tryz.prog 173 [1000] [(1000, Cont.cells 185 (Fp y))] [Ty.ptr 1000 0, Ty.arr fE c8] [(1000, Cont.cells 185 (Fp y))] (Ty.kP 196 [Ty.pp [Ty.ptr 1000 0], Ty.pa fE c8 0]) := by
 refine ff Tryz.func173 rfl (by decide) Tryz.ntmps173 (by exact Nat.le_of_ble_eq_true rfl) fun w0 M0 => ?_
 refine aE (aB ?_)
 refine iD (ty := Ty.ptr 1000 0) rfl rfl ?_
 refine uC rfl (mK rfl (aD (aC (aE (aB (dW rfl (SP rfl (aD (aC ?_)))))))))
 refine az ?_
 refine jJ [1000] rfl rfl (by decide) (by repeat (first | exact gm | refine eO rfl (lU (by decide) rfl rfl rfl) ?_)) ?_
 all_goals skip
 all_goals exact iw (uc (aN (aN bW (aU rfl rfl)) (e9 (aN bW (kC (by decide))))))
set_option maxRecDepth 100000 in
theorem tJ (y : aj) (hr : y.bY) (c8 : List Bool) (hc8 : c8.length = 8) : eU Tryz.prog 117 [] [] [eA y, Ty.arr fE c8] [(23, Cont.vec dw 187 (aO y (nth c8))), (31, Cont.vec c7 3 (fN (aO y (nth c8))))] (Ty.pp (sW y 23 31 (aO y (nth c8)).length (aO y (nth c8)).length)) := by
 refine sA Tryz.func117 rfl (by decide) Tryz.ntmps117 (by exact Nat.le_of_ble_eq_true rfl) fun w0 M0 => ?_
 have hfl := iV (c := nth c8) hr
 refine aE (aB (bH rfl (uC rfl (mK rfl (aD (aC (aE (aB ?_))))))))
 refine aY rfl rfl rfl (by exact Nat.le_of_ble_eq_true rfl) ?_
 refine cq rfl rfl (by exact List.cons_ne_nil _ _) rfl (by repeat (first | exact (aV.nil : aV _ _ [] _) | (show aV _ _ ((_, _) :: _) _; apply aV.agg; (· exact (rfl : _ = Ty.agg _))))) (by exact rfl) ?_
 refine z3 rfl rfl rfl ?_
 refine bf rfl (by exact List.cons_ne_nil _ _) rfl ?_
 refine cv rfl rfl (by decide) rfl rfl (by exact (rfl : _ = Ty.ptr _ _)) rfl (by exact Nat.le_of_ble_eq_true rfl) rfl rfl (by exact (rfl : _ = [_])) ?_
 refine aD (aC (aE (aE (aB ?_))))
 refine aX rfl rfl (by decide) rfl rfl rfl ?_
 refine xD rfl rfl rfl (by rw [hc8]; rfl) ?_
 refine dI (res' := Ty.kP 196 [Ty.pp [Ty.ptr 10 0], Ty.pa fE c8 0]) [(10, 1000)] [] [(10, Cont.cells 185 (Fp y))] (MV y c8 hc8) rfl rfl (aN (aN bW (aU rfl rfl)) (kC (by exact List.mem_cons_self))) (cz (a := 10) (b := 1000) (by exact List.mem_cons_self) rfl (lU (by exact List.mem_cons_self) rfl rfl rfl) pre_nil) (bk (a := 10) (b := 1000) (by exact List.mem_cons_self) rfl (lU (by exact List.mem_cons_self) rfl rfl rfl) post_nil) (uc (aN (aN bW (aU rfl rfl)) (e9 (aN bW (kC (by exact List.mem_cons_self)))))) ?_
 refine aD (aC ?_)
 refine KC (D := 10) (Tb := 185) (tys := bC y) (r := [Ty.ex (.slice none 0 0), Ty.ex (.slice none 0 0)]) rfl rfl rfl (by decide) fun vs hvs => ?_
 obtain ⟨v0, v1, v2, v3, rfl⟩ := four hvs rfl
 refine aZ ?_
 refine sy (ps := [13]) (lk [(5, Ty.ptr 6 0), (9, Ty.ptr 10 0)]) (fun k => [(6, Cont.cells 152 [Ty.ptr 10 0]), (10, Cont.cells 185 [Ty.ex v0, Ty.ex v1, Ty.ex v2, Ty.ex v3, Ty.row dw 187 23 ((aO y (nth c8)).take k), Ty.row c7 3 31 ((fN (aO y (nth c8))).take k)]), (4000, Cont.fact (bC y) [v0, v1, v2, v3] rfl rfl)]) false [] [6, 10, 4000] rfl rfl ((vn y hr c8 hc8 0 10 (by decide) [v0, v1, v2, v3]).1) (Da (D := 10) (n := 36) (sd := 9) (r := fun k => [Ty.row dw 187 23 ((aO y (nth c8)).take k), Ty.row c7 3 31 ((fN (aO y (nth c8))).take k)]) (fun b => vn y hr c8 hc8 b 10 (by decide) [v0, v1, v2, v3]) (by decide) (by decide) rfl (fun k => List.mem_cons_of_mem _ List.mem_cons_self) (List.mem_cons_of_mem _ (List.mem_cons_of_mem _ List.mem_cons_self))) (v9 rfl) (v9 rfl) (by decide) (by intro t ht; obtain ⟨x, _, rfl⟩ := List.mem_map.1 ht; exact ⟨rfl, rfl, rfl⟩) rfl rfl (fun _ => rfl) rfl ?_ ?_ ?_ (by intro h; cases h)
 ·(refine cV.mk' ?_ ?_ <;> (repeat' (first | exact aH | exact aI | exact cr | refine aA ?_ (Ty.aT _) | refine aA ?_ (Ty.aF _) | refine aG rfl (Cont.aF _) ?_ | refine aG rfl (Cont.ct ?_) ?_ | refine bJ ?_ (Ty.aF _) | refine bJ ?_ Ty.gU)))
  all_goals trace_state
 ·intro k tys hk
  obtain ⟨hk1, rfl⟩ := FB hk
  refine ⟨live [(5, Ty.ptr 6 0), (6, Ty.ptr 7 0), (9, Ty.ptr 10 0)] [(6, Cont.cells 152 [Ty.ptr 10 0]), (7, Cont.cells 187 (dw.tys (nth (aO y (nth c8)) k))), (10, Cont.cells 185 [Ty.ex v0, Ty.ex v1, Ty.ex v2, Ty.ex v3, Ty.row dw 187 23 ((aO y (nth c8)).take k), Ty.row c7 3 31 ((fN (aO y (nth c8))).take k)]), (4000, Cont.fact (bC y) [v0, v1, v2, v3] rfl rfl)], fun l w M => ?_, fun l w M => ?_⟩
  ·
   refine aB ?_
   refine bf rfl (by exact List.cons_ne_nil _ _) rfl ?_
   refine bS rfl rfl (by decide) rfl rfl rfl rfl rfl rfl ?_
   refine aD (dX ?_)
   (refine cV.mk' ?_ ?_ <;> (repeat' (first | exact aH | exact aI | refine aA ?_ (Ty.aT _) | refine aA ?_ (Ty.aF _) | refine aG rfl (Cont.aF _) ?_)))
  refine aZ ?_
  refine wC (D := 10) (Tb := 185) (tg := 23) [Ty.ex v0, Ty.ex v1, Ty.ex v2, Ty.ex v3] rfl fun v4 => ?_
  refine wC (D := 10) (Tb := 185) (tg := 31) [Ty.ex v0, Ty.ex v1, Ty.ex v2, Ty.ex v3, Ty.ex v4] rfl fun v5 => ?_
  refine cH mixed rfl ?_
  refine aX rfl rfl (by decide) rfl rfl rfl ?_
  refine aX rfl rfl (by decide) rfl rfl rfl ?_
  refine aX rfl rfl (by decide) rfl rfl rfl ?_
  refine cg rfl ?_
  refine aR rfl rfl rfl rfl rfl (by decide) ?_
  refine aX rfl rfl (by decide) rfl rfl rfl ?_
  refine bu rfl rfl (by decide) rfl rfl (by exact Nat.le_of_ble_eq_true rfl) ?_
  refine bX (E := dw) (xs := [_]) rfl rfl rfl rfl rfl (by decide) (by decide) (by repeat (first | exact (aV.nil : aV _ _ [] _) | (show aV _ _ ((_, _) :: _) _; apply aV.agg; (· exact (rfl : _ = Ty.agg _))))) (by exact rfl) rfl ?_
  refine qT (tg := 23) rfl rfl rfl rfl (by decide) rfl rfl rfl rfl rfl rfl (by decide) (by (simp <;> omega)) (by (simp <;> omega)) rfl rfl ?_
  refine aX rfl rfl (by decide) rfl rfl rfl ?_
  refine cg rfl ?_
  refine aR rfl rfl rfl rfl rfl (by decide) ?_
  refine aX rfl rfl (by decide) rfl rfl rfl ?_
  refine aR rfl rfl rfl rfl rfl (by decide) ?_
  refine aX rfl rfl (by decide) rfl rfl rfl ?_
  refine bX (E := c7) (xs := [_]) rfl rfl rfl rfl rfl (by decide) (by decide) (by repeat (first | exact (aV.nil : aV _ _ [] _) | (show aV _ _ ((_, _) :: _) _; apply aV.one; (· exact (rfl : _ = Ty.int _ _)); (· exact rfl)))) (by exact rfl) rfl ?_
  refine qT (tg := 31) rfl rfl rfl rfl (by decide) rfl rfl rfl rfl rfl rfl (by decide) (by (simp <;> omega)) (by (simp <;> omega)) rfl rfl ?_
  refine cg rfl ?_
  refine aR rfl rfl rfl rfl rfl (by decide) ?_
  refine cv rfl rfl (by decide) rfl rfl (by exact (rfl : _ = Ty.row _ _ _ _)) rfl (by exact Nat.le_of_ble_eq_true rfl) rfl rfl (by exact rfl) ?_
  refine cg rfl ?_
  refine aR rfl rfl rfl rfl rfl (by decide) ?_
  refine cv rfl rfl (by decide) rfl rfl (by exact (rfl : _ = Ty.row _ _ _ _)) rfl (by exact Nat.le_of_ble_eq_true rfl) rfl rfl (by exact rfl) ?_
  refine aD ?_
  refine ⟨by kernel_rfl, ?_⟩
  refine bI (B4 ?_)
  (refine cV.mk' ?_ ?_ <;> (repeat' (first | exact aH | exact aI | exact cr | refine aA ?_ (Ty.aT _) | refine aG rfl (Cont.aF _) ?_ | refine aG rfl (Cont.ct ?_) ?_ | refine bJ ?_ (Ty.aF _) | refine bJ ?_ ?_)))
  all_goals first | exact Ty.eG (cR hk1).symm | exact Ty.eG (GF hk1)
 refine bI (aC (aE ?_))
 refine CH (D := 10) (Tb := 185) (vs := [v0, v1, v2, v3]) (tys := bC y) (r := [Ty.row dw 187 23 ((aO y (nth c8)).take ((aO y (nth c8)).map kB).length), Ty.row c7 3 31 ((fN (aO y (nth c8))).take ((aO y (nth c8)).map kB).length)]) rfl rfl ?_
 refine jz (tg := 10) rfl (Cont.nU (T := 185) (De (y := y) (fl := aO y (nth c8)) (f := kB))) ?_
 refine qx (c0 := 10) (tg := 23) 4 rfl rfl ?_
 refine qx (c0 := 10) (tg := 31) 5 rfl rfl ?_
 refine jz (tg := 10) rfl (Cont.kY (l' := sW y 23 31 (aO y (nth c8)).length (aO y (nth c8)).length) ⟨Ty.aF _, Ty.aF _, Ty.aF _, Ty.aF _, Ty.BE rfl, Ty.BE (Aq _), trivial⟩) ?_
 refine jY (tg := 10) [] [(6, Cont.cells 152 [Ty.pp (sW y 23 31 (aO y (nth c8)).length (aO y (nth c8)).length)])] (by decide) rfl trivial ⟨fV rfl rfl ⟨zO rfl rfl (by decide), trivial⟩, trivial⟩ ?_
 refine aB ?_
 refine aX rfl rfl (by decide) rfl rfl rfl ?_
 refine MY rfl (aD (aC (az (Ly rfl ?_))))
 refine jJ [23, 31] rfl rfl (by decide) (by repeat (first | exact gm | refine eO rfl (bt (by decide) rfl) ?_)) ?_
 all_goals skip
 all_goals exact iw (e9 (aN (aN (aN (aN (aN (aN bW (dV (by decide))) (dV (by decide))) (aU rfl rfl)) (aU rfl rfl)) (aU rfl rfl)) (aU rfl rfl)))
end Go.Proofs.YtelbollidfdcjaaGreat
namespace Go.Proofs.YtelbollidfdcjaaGreat
open Go Go.T
section
variable {fl : List cB} {a : List Int} {n k : Nat} {c : Int} {w : Way}
abbrev WQ : Type := List (Int × List Way)
def pI (q : WQ) (c : Int) : List Way := (ep q c).getD []
def IQ (q : WQ) (c : Int) (w : Way) : WQ := iN q c (pI q c ++ [w])
theorem Dn (q : WQ) (c c' : Int) (w : Way) : pI (IQ q c w) c' = pI q c' ++ (if c = c' then [w] else []) := by
 unfold IQ
 show (ep (iN _ _ _) c').getD [] = _
 rw [zU]
 by_cases e : c = c'
 ·subst e; rw [if_pos rfl, if_pos rfl]; rfl
 rw [if_neg e, if_neg e, List.append_nil]; rfl
def nu (fl : List cB) (a : List Int) (q : WQ) (k : Nat) : WQ := if nth a k < (nth fl k).hi then IQ q (nth fl k).src ⟨k, true⟩ else q
def eY (fl : List cB) (a : List Int) : Nat → WQ
  | 0 => []
  | k + 1 => if nth a k > (nth fl k).lo then IQ (nu fl a (eY fl a k) k) (nth fl k).dst ⟨k, false⟩ else nu fl a (eY fl a k) k
theorem IT (fl : List cB) (a : List Int) : ([] : WQ) = eY fl a 0 := rfl
theorem K0 {q : WQ} (h : ¬ nth a k < (nth fl k).hi) : q = nu fl a q k := (if_neg h).symm
theorem Lv (h : ¬ nth a k > (nth fl k).lo) : nu fl a (eY fl a k) k = eY fl a (k + 1) := (if_neg h).symm
theorem uD {q : WQ} : pI (nu fl a q k) c = pI q c ++ (if nth a k < (nth fl k).hi ∧ (nth fl k).src = c then [⟨k, true⟩] else []) := by
 unfold nu
 by_cases h : nth a k < (nth fl k).hi
 ·rw [if_pos h, Dn]
  by_cases e : (nth fl k).src = c
  ·rw [if_pos e, if_pos ⟨h, e⟩]
  rw [if_neg e, if_neg fun h => e h.2]
 rw [if_neg h, if_neg fun h' => h h'.1, List.append_nil]
theorem uK : ∀ k, pI (eY fl a k) c = (List.range k).flatMap (Cf fl a c)
  | 0 => rfl
  | k + 1 => by
    rw [List.range_succ, List.flatMap_append, List.flatMap_singleton, ← uK k]
    show pI (if _ then _ else _) c = _
    unfold Cf
    by_cases h : nth a k > (nth fl k).lo
    · rw [if_pos h, Dn, uD, List.append_assoc]
      congr 2
      by_cases e : (nth fl k).dst = c
      · rw [if_pos e, if_pos ⟨h, e⟩]
      · rw [if_neg e, if_neg fun h => e h.2]
    · rw [if_neg h, uD, if_neg (c := _ ∧ (nth fl k).dst = c) (fun h' => h h'.1), List.append_nil]
theorem tA : pI (eY fl a fl.length) c = bP fl a c := uK _
theorem zg (k : Nat) : (pI (eY fl a k) c).length ≤ 2 * k := by
  rw [uK]
  have key : ∀ n, ((List.range n).flatMap (Cf fl a c)).length ≤ 2 * n := by
    intro n
    induction n with
    | zero => simp
    | succ n ih => rw [List.range_succ, List.flatMap_append, List.length_append, List.flatMap_singleton]; have := Cz (fl := fl) (a := a) (c := c) n; omega
  exact key k
theorem Is : (pI (nu fl a (eY fl a k) k) c).length ≤ 2 * k + 1 := by
 rw [uD, List.length_append]
 have := zg (fl := fl) (a := a) (c := c) k
 split <;> simp <;> omega
def pZ (fl : List cB) (a : List Int) (k : Nat) (c : Int) : Int := cw (fun i => (ind ((nth fl i).dst = c) - ind ((nth fl i).src = c)) * nth a i) k
def fA (fl : List cB) (a : List Int) (n k : Nat) : List Int := (List.range n).map fun c => pZ fl a k (c : Nat)
theorem ke : (fA fl a n k).length = n := by unfold fA; rw [List.length_map, List.length_range]
theorem jW {c : Nat} (h : c < n) : nth (fA fl a n k) c = pZ fl a k c := fI _ h
theorem EY : fA fl a n fl.length = gq fl a n := rfl
theorem CS {l l' : List Int} (h : l.length = l'.length) (h' : ∀ i, i < l.length → nth l i = nth l' i) : l = l' := by
 refine List.ext_getElem h fun i h1 h2 => ?_
 have := h' i h1
 unfold nth at this
 rw [List.getD_eq_getElem?_getD, List.getD_eq_getElem?_getD, List.getElem?_eq_getElem h1, List.getElem?_eq_getElem h2] at this
 exact this
def oz (fl : List cB) (a : List Int) (l : List Int) (k : Nat) : List Int := l.set (nth fl k).src.toNat (nth l (nth fl k).src.toNat - nth a k)
theorem C7 (hs : 0 ≤ (nth fl k).src ∧ (nth fl k).src < n) (hd : 0 ≤ (nth fl k).dst ∧ (nth fl k).dst < n) :
 (oz fl a (fA fl a n k) k).set (nth fl k).dst.toNat (nth (oz fl a (fA fl a n k) k) (nth fl k).dst.toNat + nth a k) = fA fl a n (k + 1) := by
 have hS : ∀ c, c < n → nth (oz fl a (fA fl a n k) k) c = pZ fl a k c - ind ((nth fl k).src = (c : Int)) * nth a k := fun c hc => by
  unfold oz
  rw [kE (by rw [ke]; exact hc)]
  by_cases e : (nth fl k).src.toNat = c
  ·rw [if_pos e, e, jW hc, fX (by omega), Int.one_mul]
  rw [if_neg e, jW hc, fF (by omega), Int.zero_mul, Int.sub_zero]
 have hl : (oz fl a (fA fl a n k) k).length = n := by unfold oz; rw [List.length_set, ke]
 refine CS (by rw [List.length_set, hl, ke]) fun c hc => ?_
 rw [List.length_set, hl] at hc
 rw [kE (by rw [hl]; exact hc), jW hc]
 show _ = pZ fl a k c + (ind ((nth fl k).dst = (c : Int)) - ind ((nth fl k).src = (c : Int))) * nth a k
 rw [Int.sub_mul]
 by_cases e : (nth fl k).dst.toNat = c
 ·rw [if_pos e, e, hS c hc, fX (p := (nth fl k).dst = (c : Int)) (by omega), Int.one_mul]; omega
 rw [if_neg e, hS c hc, fF (p := (nth fl k).dst = (c : Int)) (by omega), Int.zero_mul]; omega
theorem Ie (fl : List cB) (a l : List Int) (k : Nat) : (oz fl a l k).length = l.length := List.length_set
theorem HV (fl : List cB) (a : List Int) (n : Nat) : List.replicate (((n : Nat) : Int)).toNat 0 = fA fl a n 0 := by
 rw [Int.toNat_natCast]
 refine CS (by rw [List.length_replicate, ke]) fun i hi => ?_
 rw [List.length_replicate] at hi
 rw [jW hi, BD _ _ _ hi]; rfl
theorem IF {c : Nat} (h : ∀ c : Int, -(300 * (k : Int)) ≤ pZ fl a k c ∧ pZ fl a k c ≤ 300 * k) (ha : 0 ≤ nth a k ∧ nth a k ≤ 300) (hc : c < n) (hs : (nth fl k).src.toNat < n) : -(300 * (k : Int) + 300) ≤ nth (oz fl a (fA fl a n k) k) c ∧ nth (oz fl a (fA fl a n k) k) c ≤ 300 * k := by
 unfold oz
 rw [kE (by rw [ke]; exact hc)]
 split
 ·rw [jW hs]; have := h ((nth fl k).src.toNat : Nat); omega
 rw [jW hc]; have := h (c : Nat); omega
theorem y9 (ha : ∀ i, i < k → 0 ≤ nth a i ∧ nth a i ≤ 300) : -(300 * (k : Int)) ≤ pZ fl a k c ∧ pZ fl a k c ≤ 300 * k := by
 refine pO (b := 300) fun i hi => ?_
 have := ha i hi
 unfold ind
 split <;> split <;> simp <;> omega
end
end Go.Proofs.YtelbollidfdcjaaGreat
namespace Go.Proofs.YtelbollidfdcjaaGreat
open Go Go.T
set_option maxHeartbeats 8000000
section
variable {fl : List cB} {a : List Int} {n : Nat} {w : Way}
theorem NO (h : w.more = true) : (nth fl w.ix).src = w.iH fl := (if_pos h).symm
theorem P5 (h : w.more = false) : (nth fl w.ix).dst = w.iH fl := (if_neg (by rw [h]; decide)).symm
theorem FT (h : w.more = true) : (nth fl w.ix).dst = w.fin fl ∧ (nth fl w.ix).hi - nth a w.ix = w.room fl a := ⟨(if_pos h).symm, (if_pos h).symm⟩
theorem LB (h : w.more = false) : (nth fl w.ix).src = w.fin fl ∧ nth a w.ix - (nth fl w.ix).lo = w.room fl a := ⟨(if_neg (by rw [h]; decide)).symm, (if_neg (by rw [h]; decide)).symm⟩
structure l8 (y : aj) (fl : List cB) (a : List Int) : Prop where
  right : y.bY
  net : Net fl (y.cells + 1)
  bd : Bd fl
  inb : ya fl a
  rE : fl.length ≤ 34
theorem l8.Pc {y : aj} (h : l8 y fl a) {i : Nat} (hi : i < fl.length) : (0 ≤ nth a i ∧ nth a i ≤ 300) ∧ (0 ≤ (nth fl i).lo ∧ (nth fl i).lo ≤ 300) ∧ 0 ≤ (nth fl i).hi ∧ (nth fl i).hi ≤ 300 := by
 have h1 := h.bd i hi
 have h2 := h.inb.2 i hi
 omega
theorem RM {l : List Way} {k : Nat} {d : Int} (hk : k < l.length) (hm : (nth l k).more = true) : (eD a (l.take k) d).set (nth l k).ix (nth (eD a (l.take k) d) (nth l k).ix + d) = eD a (l.take (k + 1)) d := by
 rw [cR hk, sH]; unfold lu yc; rw [hm]; rfl
theorem Qq {l : List Way} {k : Nat} {d : Int} (hk : k < l.length) (hm : (nth l k).more = false) : (eD a (l.take k) d).set (nth l k).ix (nth (eD a (l.take k) d) (nth l k).ix - d) = eD a (l.take (k + 1)) d := by
 rw [cR hk, sH]; unfold lu yc; rw [hm]; rfl
theorem AR {l : List Way} {d : Int} (hd : 0 ≤ d ∧ d ≤ 20000) (ha : ∀ i, -300 ≤ nth a i ∧ nth a i ≤ 300) (hw : ∀ w ∈ l, w.ix < a.length) : ∀ k, k ≤ l.length → ∀ i, -(20000 * ((k : Int) + 1)) ≤ nth (eD a (l.take k) d) i ∧ nth (eD a (l.take k) d) i ≤ 20000 * ((k : Int) + 1)
  | 0, _, i => by rw [List.take_zero]; have := ha i; show _ ≤ nth a i ∧ nth a i ≤ _; omega
  | k + 1, hk, i => by
    have ih := AR hd ha hw k (by omega) i
    rw [cR (by omega), sH, kg (by rw [uA]; exact hw _ (cT (by omega)))]
    split
    · unfold yc; split <;> omega
    · omega
theorem D8 (a : List Int) (l : List Way) (d : Int) : a = eD a (l.take 0) d := rfl
theorem M9 {l : List Int} {i : Nat} (h : l.length ≤ i) : nth l i = 0 := by
 unfold nth; rw [List.getD_eq_getElem?_getD, List.getElem?_eq_none h]; rfl
theorem l8.abs {y : aj} (h : l8 y fl a) (i : Nat) : -300 ≤ nth a i ∧ nth a i ≤ 300 := by
 by_cases c : i < fl.length
 ·have := (h.Pc c).1; omega
 rw [M9 (by rw [h.inb.1]; omega)]; omega
end
theorem oN : mapOf Tryz.prog 227 = some (3, 222) := by kernel_rfl
theorem vm : zeroOf Tryz.prog 222 = some (.slice none 0 0) := by kernel_rfl
def KI : yw Tryz.prog 3 Int := PY Tryz.prog 3 .i64 Tryz.underlying3
theorem sZ (n : Int) : ur (Ty.int .i64 n) (KI.enc n) := Nk
attribute [local irreducible] aO fN Way.iH Way.fin Way.room eY nu IQ eD fA pZ
attribute [local irreducible] gF eX lq nY g7 gx g9 g5 g8 nW gz nT dM fj nM gC oB nth fW dR ay dK bodyPost Exit.then Exit.inBlock Code.wp Code.wpIn n9 hO nO ni gy eU cM cN bodyPostM dO
set_option maxRecDepth 100000 in
theorem BB (y : aj) (fl : List cB) (a : List Int) (w : Way) (hw : w.ix < fl.length) : dK Tryz.prog 181 [Ty.pp (mm y fl a), Ty.agg (gQ.tys w)] (Ty.int .i64 (w.iH fl)) := by
 refine au Tryz.func181 rfl (by decide) Tryz.ntmps181 (by exact Nat.le_of_ble_eq_true rfl) fun w0 M0 => ?_
 refine aE (aB (bH rfl (bZ rfl (aD (aC (aE (aE (aB ?_))))))))
 refine aJ rfl rfl rfl rfl rfl (by decide) ?_
 refine aL rfl rfl rfl rfl (aD (aC ?_))
 refine cF rfl (fun hc1 => ?_) (fun hc1 => ?_)
 ·
  refine aE (cH mixed rfl (jV rfl (cC rfl ?_)))
  refine aJ rfl rfl rfl rfl rfl (by decide) ?_
  refine aL rfl rfl rfl rfl ?_
  refine aJ rfl rfl rfl rfl rfl (by decide) ?_
  refine aL rfl rfl rfl rfl ?_
  refine aq rfl rfl rfl rfl rfl rfl (by omega) ?_
  refine aJ rfl rfl rfl rfl rfl (by decide) ?_
  refine aL rfl rfl rfl rfl (bZ rfl (aD ?_))
  refine ⟨by kernel_rfl, ?_⟩
  refine aC (az (aS (bU rfl rfl ?_)))
  all_goals skip
  all_goals exact av rfl rfl (congrArg (Ty.int .i64) (NO hc1))
 refine af (aC (aE (cH mixed rfl (jV rfl (cC rfl ?_)))))
 refine aJ rfl rfl rfl rfl rfl (by decide) ?_
 refine aL rfl rfl rfl rfl ?_
 refine aJ rfl rfl rfl rfl rfl (by decide) ?_
 refine aL rfl rfl rfl rfl ?_
 refine aq rfl rfl rfl rfl rfl rfl (by omega) ?_
 refine aJ rfl rfl rfl rfl rfl (by decide) ?_
 refine aL rfl rfl rfl rfl (bZ rfl (aD ?_))
 refine ⟨by kernel_rfl, ?_⟩
 refine aC (az (bU rfl rfl ?_))
 all_goals skip
 all_goals exact av rfl rfl (congrArg (Ty.int .i64) (P5 hc1))
set_option maxRecDepth 100000 in
theorem Fj (y : aj) (fl : List cB) (a : List Int) (h : l8 y fl a) (w : Way) (hw : w.ix < fl.length) : dK Tryz.prog 182 [Ty.pp (mm y fl a), Ty.agg (gQ.tys w)] (Ty.lD [Ty.int .i64 (w.fin fl), Ty.int .i64 (w.room fl a)]) := by
 refine au Tryz.func182 rfl (by decide) Tryz.ntmps182 (by exact Nat.le_of_ble_eq_true rfl) fun w0 M0 => ?_
 have hl := h.inb.1
 have hb := h.Pc hw
 refine aE (aB (bH rfl (bZ rfl (bZ rfl (aD (aC (aE (cH mixed rfl (jV rfl ?_)))))))))
 refine cC rfl ?_
 refine aJ rfl rfl rfl rfl rfl (by decide) ?_
 refine aL rfl rfl rfl rfl ?_
 refine aJ rfl rfl rfl rfl rfl (by decide) ?_
 refine aL rfl rfl rfl rfl ?_
 refine aq rfl rfl rfl rfl rfl rfl (by omega) ?_
 refine aY rfl rfl rfl (by exact Nat.le_of_ble_eq_true rfl) ?_
 refine bf rfl (by exact List.cons_ne_nil _ _) rfl ?_
 refine bS rfl rfl (by decide) rfl rfl rfl rfl rfl rfl ?_
 refine aD ?_
 refine ⟨by kernel_rfl, ?_⟩
 refine aC (aE (aE (aB ?_)))
 refine aJ rfl rfl rfl rfl rfl (by decide) ?_
 refine aL rfl rfl rfl rfl (aD (aC ?_))
 refine cF rfl (fun hc1 => ?_) (fun hc1 => ?_)
 ·
  refine aE (cH mixed rfl ?_)
  refine aR rfl rfl rfl rfl rfl (by decide) ?_
  refine aX rfl rfl (by decide) rfl rfl rfl ?_
  refine aR rfl rfl rfl rfl rfl (by decide) ?_
  refine aX rfl rfl (by decide) rfl rfl rfl ?_
  refine jV rfl (cC rfl ?_)
  refine aJ rfl rfl rfl rfl rfl (by decide) ?_
  refine aL rfl rfl rfl rfl ?_
  refine aJ rfl rfl rfl rfl rfl (by decide) ?_
  refine aL rfl rfl rfl rfl ?_
  refine aq rfl rfl rfl rfl rfl rfl (by omega) ?_
  refine aL rfl rfl rfl rfl ?_
  refine fk rfl rfl (by omega) (by omega) ?_
  refine bZ rfl (bZ rfl (aD ?_))
  refine ⟨by kernel_rfl, ?_⟩
  refine aC (az (aS ?_))
  refine fY rfl rfl rfl ?_ ?_
  all_goals skip
  all_goals first | exact av rfl rfl (congrArg (Ty.int .i64) (FT (a := a) hc1).1) | exact av rfl rfl (congrArg (Ty.int .i64) (FT (a := a) hc1).2)
 refine af (aC (aE (cH mixed rfl ?_)))
 refine aR rfl rfl rfl rfl rfl (by decide) ?_
 refine aX rfl rfl (by decide) rfl rfl rfl ?_
 refine jV rfl (cC rfl ?_)
 refine aJ rfl rfl rfl rfl rfl (by decide) ?_
 refine aL rfl rfl rfl rfl ?_
 refine aJ rfl rfl rfl rfl rfl (by decide) ?_
 refine aL rfl rfl rfl rfl ?_
 refine aq rfl rfl rfl rfl rfl rfl (by omega) ?_
 refine aL rfl rfl rfl rfl ?_
 refine aR rfl rfl rfl rfl rfl (by decide) ?_
 refine aX rfl rfl (by decide) rfl rfl rfl ?_
 refine fk rfl rfl (by omega) (by omega) ?_
 refine bZ rfl (bZ rfl (aD ?_))
 refine ⟨by kernel_rfl, ?_⟩
 refine aC (az ?_)
 refine fY rfl rfl rfl ?_ ?_
 all_goals skip
 all_goals first | exact av rfl rfl (congrArg (Ty.int .i64) (LB (a := a) hc1).1) | exact av rfl rfl (congrArg (Ty.int .i64) (LB (a := a) hc1).2)
set_option maxRecDepth 100000 in
theorem Kk (y : aj) (fl : List cB) (a : List Int) (h : l8 y fl a) (l : List Way) (hl : l.length ≤ 100) (hw : ∀ w ∈ l, w.ix < fl.length) (d : Int) (hd : 0 ≤ d ∧ d ≤ 20000) : eU Tryz.prog 183 [1000] [(1000, Cont.vec c7 3 a)] [Ty.pp (dZ y fl 1000 fl.length), Ty.sl gQ l, Ty.int .i64 d] [(1000, Cont.vec c7 3 (eD a l d))] (Ty.lD []) := by
 refine ff Tryz.func183 rfl (by decide) Tryz.ntmps183 (by exact Nat.le_of_ble_eq_true rfl) fun w0 M0 => ?_
 have hal := h.inb.1
 refine aE (aB (ew rfl (b9 rfl rfl rfl (bG rfl (aD (aC (aZ ?_)))))))
 refine bz (fun (k : {k : Nat // k ≤ l.length}) => live [(0, Ty.pp (dZ y fl 1000 fl.length)), (2, Ty.int .i64 d), (8, Ty.sl gQ l), (9, Ty.int .i64 l.length), (10, Ty.int .i64 (k.1 : Nat))] [(1000, Cont.vec c7 3 (eD a (l.take k.1) d))]) (fun k => l.length - k.1) (⟨0, by omega⟩) ?_ fun k => ?_
 ·(refine cV.mk' ?_ ?_ <;> (repeat' (first | exact aH | exact aI | refine aA ?_ (Ty.aT _) | refine aA ?_ (Ty.aF _) | refine aG rfl ?_ ?_)))
  all_goals exact Cont.dA (D8 _ _ _)
 have hsl := uA d (l.take k.1) a
 have hk := k.2
 have hsa := AR hd h.abs (fun w hw' => by rw [hal]; exact hw w hw') k.1 k.2
 refine aE (aB (bA rfl rfl rfl (aD (aC (aE ?_)))))
 refine ah rfl (fun hc1 => ?_) (fun hc1 => ?_)
 ·
  refine af (aC (aE (aZ (aE ?_))))
  have hwk := hw _ (cT (xs := l) (k := k.1) (by omega))
  have hsk := hsa (nth l k.1).ix
  refine aB ?_
  refine aq rfl rfl rfl rfl rfl rfl (by omega) ?_
  refine aY rfl rfl rfl (by exact Nat.le_of_ble_eq_true rfl) ?_
  refine bf rfl (by exact List.cons_ne_nil _ _) rfl ?_
  refine bS rfl rfl (by decide) rfl rfl rfl rfl rfl rfl ?_
  refine aD (aC (aE (aB ?_)))
  refine aR rfl rfl rfl rfl rfl (by decide) ?_
  refine aX rfl rfl (by decide) rfl rfl rfl ?_
  refine aD (aC ?_)
  refine cF rfl (fun hc2 => ?_) (fun hc2 => ?_)
  ·
   refine cH mixed rfl (jV rfl (cC rfl ?_))
   refine aJ rfl rfl rfl rfl rfl (by decide) ?_
   refine aL rfl rfl rfl rfl ?_
   refine aR rfl rfl rfl rfl rfl (by decide) ?_
   refine aX rfl rfl (by decide) rfl rfl rfl ?_
   refine dS rfl rfl rfl rfl rfl (by omega) ?_
   refine fL rfl rfl rfl (by decide) rfl rfl (by omega) rfl ?_
   refine bG rfl ?_
   refine bp rfl rfl (by omega) (by omega) ?_
   refine dS rfl rfl rfl rfl rfl (by omega) ?_
   refine j4 rfl rfl rfl (by decide) rfl rfl (by exact (rfl : _ = Ty.int _ _)) rfl (by omega) (by decide) rfl rfl ?_
   refine aD ?_
   refine ⟨by kernel_rfl, ?_⟩
   refine bI (aC (aB ?_))
   refine bp rfl rfl (by omega) (by omega) ?_
   refine bG rfl (aD ?_)
   refine bL (⟨k.1 + 1, by omega⟩) ?_ (by show l.length - (k.1 + 1) < l.length - k.1; omega)
   (refine cV.mk' ?_ ?_ <;> (repeat' (first | exact aH | exact aI | refine aA ?_ (Ty.aT _) | refine aA ?_ (Ty.aF _) | refine aG rfl ?_ ?_)))
   all_goals skip
   all_goals exact Cont.dA (RM (by omega) hc2)
  refine cH mixed rfl (jV rfl (cC rfl ?_))
  refine aJ rfl rfl rfl rfl rfl (by decide) ?_
  refine aL rfl rfl rfl rfl ?_
  refine aR rfl rfl rfl rfl rfl (by decide) ?_
  refine aX rfl rfl (by decide) rfl rfl rfl ?_
  refine dS rfl rfl rfl rfl rfl (by omega) ?_
  refine fL rfl rfl rfl (by decide) rfl rfl (by omega) rfl ?_
  refine bG rfl ?_
  refine fk rfl rfl (by omega) (by omega) ?_
  refine dS rfl rfl rfl rfl rfl (by omega) ?_
  refine j4 rfl rfl rfl (by decide) rfl rfl (by exact (rfl : _ = Ty.int _ _)) rfl (by omega) (by decide) rfl rfl ?_
  refine aD ?_
  refine ⟨by kernel_rfl, ?_⟩
  refine bI (aC (aB ?_))
  refine bp rfl rfl (by omega) (by omega) ?_
  refine bG rfl (aD ?_)
  refine bL (⟨k.1 + 1, by omega⟩) ?_ (by show l.length - (k.1 + 1) < l.length - k.1; omega)
  (refine cV.mk' ?_ ?_ <;> (repeat' (first | exact aH | exact aI | refine aA ?_ (Ty.aT _) | refine aA ?_ (Ty.aF _) | refine aG rfl ?_ ?_)))
  all_goals skip
  all_goals exact Cont.dA (Qq (by omega) hc2)
 refine b8 (aQ (aQ (aa rfl (Oi ?_))))
 refine LK [1000] rfl (by decide) ?_
 ·exact eO rfl (bt (by decide) (by rw [List.take_of_length_le (by have := k.2; omega)])) gm
set_option maxRecDepth 100000 in
theorem Po (y : aj) (fl : List cB) (a : List Int) (h : l8 y fl a) : eU Tryz.prog 178 [1000] [(1000, Cont.vec c7 3 a)] [Ty.pp (dZ y fl 1000 fl.length)] [(1000, Cont.vec c7 3 a)] (Ty.sl c7 (gq fl a (y.cells + 1))) := by
 refine ff Tryz.func178 rfl (by decide) Tryz.ntmps178 (by exact Nat.le_of_ble_eq_true rfl) fun w0 M0 => ?_
 have hal := h.inb.1
 have hcl := nx h.right
 have hfl := h.rE
 refine aE (aB (mK rfl (aD (aC (aE (aB (jV rfl ?_)))))))
 refine dr [] (oH y h.right) rfl (aW (jk (l1 := bC y) (l2 := [Ty.sl dw fl, Ty.vs 1000 fl.length]) rfl rfl) cL) (by exact dJ _ _) ?_
 refine bp rfl rfl (by omega) (by omega) ?_
 refine qV (E := c7) (x0 := 0) rfl rfl rfl rfl rfl rfl rfl (by decide) rfl (by omega) (by (dsimp only; omega)) (by omega) ?_
 refine SG rfl (aD (aC (aE (aE (aB (jV rfl (cC rfl ?_)))))))
 refine aJ rfl rfl rfl rfl rfl (by decide) ?_
 refine aL rfl rfl rfl rfl (b9 rfl rfl rfl (bG rfl (aD (aC (aZ ?_)))))
 refine bz (fun (k : {k : Nat // k ≤ fl.length}) => live [(0, Ty.pp (dZ y fl 1000 fl.length)), (3, Ty.vs 10 (y.cells + 1)), (13, Ty.sl dw fl), (14, Ty.int .i64 fl.length), (15, Ty.int .i64 (k.1 : Nat))] [(1000, Cont.vec c7 3 a), (10, Cont.vec c7 3 (fA fl a (y.cells + 1) k.1))]) (fun k => fl.length - k.1) (⟨0, by omega⟩) ?_ fun k => ?_
 ·(refine cV.mk' ?_ ?_ <;> (repeat' (first | exact aH | exact aI | refine aA ?_ (Ty.aT _) | refine aA ?_ (Ty.aF _) | refine aG rfl (Cont.aF _) ?_ | refine aG rfl ?_ ?_)))
  all_goals exact Cont.dA (HV _ _ _)
 have hk := k.2
 have hul := ke (fl := fl) (a := a) (n := y.cells + 1) (k := k.1)
 refine aE (aB (bA rfl rfl rfl (aD (aC (aE ?_)))))
 refine ah rfl (fun hc1 => ?_) (fun hc1 => ?_)
 ·
  refine af (aC (aE (aZ (aE (aB (bG rfl ?_))))))
  refine aq rfl rfl rfl rfl rfl rfl (by omega) ?_
  refine aY rfl rfl rfl (by exact Nat.le_of_ble_eq_true rfl) ?_
  refine bf rfl (by exact List.cons_ne_nil _ _) rfl ?_
  refine bZ rfl ?_
  refine bS rfl rfl (by decide) rfl rfl rfl rfl rfl rfl ?_
  refine aD (aC (aE ?_))
  have hs := h.net.src k.1 (by omega)
  have hd := h.net.dst k.1 (by omega)
  have hamt := (h.Pc (show k.1 < fl.length by omega)).1
  have habs := fun c => y9 (fl := fl) (a := a) (c := c) (k := k.1) fun i hi => (h.Pc (show i < fl.length by omega)).1
  have hn1 := jW (fl := fl) (a := a) (n := y.cells + 1) (k := k.1) (c := (nth fl k.1).src.toNat) (by omega)
  have hb1 := habs ((nth fl k.1).src.toNat : Nat)
  refine cH mixed rfl (MZ rfl ?_)
  refine aR rfl rfl rfl rfl rfl (by decide) ?_
  refine aX rfl rfl (by decide) rfl rfl rfl ?_
  refine gX rfl rfl rfl rfl rfl hs.1 (by omega) ?_
  refine fL rfl rfl rfl (by decide) rfl rfl (by omega) rfl ?_
  refine jV rfl (cC rfl ?_)
  refine aJ rfl rfl rfl rfl rfl (by decide) ?_
  refine aL rfl rfl rfl rfl (bG rfl ?_)
  refine dS rfl rfl rfl rfl rfl (by omega) ?_
  refine fL rfl rfl rfl (by decide) rfl rfl (by omega) rfl ?_
  refine fk rfl rfl (by omega) (by omega) ?_
  refine gX rfl rfl rfl rfl rfl hs.1 (by omega) ?_
  refine j4 rfl rfl rfl (by decide) rfl rfl (by exact (rfl : _ = Ty.int _ _)) rfl (by omega) (by decide) rfl rfl ?_
  refine aD ?_
  refine ⟨by kernel_rfl, ?_⟩
  refine aC ?_
  have hsl : (oz fl a (fA fl a (y.cells + 1) k.1) k.1).length = y.cells + 1 := (Ie _ _ _ _).trans hul
  have hb2 := IF (fl := fl) (a := a) (n := y.cells + 1) (k := k.1) (c := (nth fl k.1).dst.toNat) habs hamt (by omega) (by omega)
  unfold oz at hb2 hsl
  refine cH mixed rfl (MZ rfl ?_)
  refine aR rfl rfl rfl rfl rfl (by decide) ?_
  refine aX rfl rfl (by decide) rfl rfl rfl ?_
  refine gX rfl rfl rfl rfl rfl hd.1 (by omega) ?_
  refine fL rfl rfl rfl (by decide) rfl rfl (by omega) rfl ?_
  refine jV rfl (cC rfl ?_)
  refine aJ rfl rfl rfl rfl rfl (by decide) ?_
  refine aL rfl rfl rfl rfl (bG rfl ?_)
  refine dS rfl rfl rfl rfl rfl (by omega) ?_
  refine fL rfl rfl rfl (by decide) rfl rfl (by omega) rfl ?_
  refine bp rfl rfl (by omega) (by omega) ?_
  refine gX rfl rfl rfl rfl rfl hd.1 (by omega) ?_
  refine j4 rfl rfl rfl (by decide) rfl rfl (by exact (rfl : _ = Ty.int _ _)) rfl (by omega) (by decide) rfl rfl ?_
  refine aD ?_
  refine ⟨by kernel_rfl, ?_⟩
  refine bI (aC (aB ?_))
  refine bp rfl rfl (by omega) (by omega) ?_
  refine bG rfl (aD ?_)
  refine bL (⟨k.1 + 1, by omega⟩) ?_ (by show fl.length - (k.1 + 1) < fl.length - k.1; omega)
  (refine cV.mk' ?_ ?_ <;> (repeat' (first | exact aH | exact aI | refine aA ?_ (Ty.aT _) | refine aA ?_ (Ty.aF _) | refine aG rfl (Cont.aF _) ?_ | refine aG rfl ?_ ?_)))
  all_goals skip
  all_goals exact Cont.dA (C7 hs hd)
 refine b8 (aQ (aQ (aa rfl (aC (aE ?_)))))
 refine lP (tg := 10) [(3, Ty.sl c7 (fA fl a (y.cells + 1) k.1))] (by decide) rfl ⟨Pk rfl rfl hul (by decide), trivial⟩ ?_
 refine gl (s := 3) rfl (Ty.EG (show fA fl a (y.cells + 1) k.1 = gq fl a (y.cells + 1) by rw [show k.1 = fl.length by have := k.2; omega]; exact EY)) ?_
 refine aB (ew rfl (F8 rfl (aD (aC (az ?_)))))
 refine jJ [1000] rfl rfl (by decide) (by repeat (first | exact gm | refine eO rfl (bt (by decide) rfl) ?_)) ?_
 all_goals exact iw (aU rfl rfl)
end Go.Proofs.YtelbollidfdcjaaGreat
namespace Go.Proofs.YtelbollidfdcjaaGreat
open Go Go.T
section
variable {fl : List cB} {a : List Int} {n : Nat} {s t : Int} {x : sJ}
def eK (x : sJ) : Int := nth x.queue 0
def kN (x : sJ) : sJ := ⟨x.by_, x.queue.drop 1⟩
theorem queue_eq (h : 0 < x.queue.length) : x.queue = eK x :: x.queue.drop 1 := by
  unfold eK
  cases hq : x.queue with
  | nil => rw [hq] at h; exact absurd h (by simp)
  | cons c r => rfl
structure Mo (fl : List cB) (a : List Int) (n : Nat) (s : Int) (x : sJ) : Prop where
  inv : mO fl a n s x none
  same : n7 (xj fl a s) x = cJ fl a s
  short : x.queue.length ≤ x.by_.length + 1
theorem Ry (hs : 0 ≤ s ∧ s < n) : Mo fl a n s ⟨[], [s]⟩ := ⟨Oe hs, rfl, Nat.le_refl _⟩
theorem KV (h : 0 < x.queue.length) : xj fl a s x = .inl (fS fl a s (eK x) (kN x) (bP fl a (eK x)).length) := by
 have e := queue_eq h
 unfold xj
 rw [e]; rfl
theorem Mo.fold (hN : Net fl n) (h : Mo fl a n s x) (hq : 0 < x.queue.length) {k : Nat} (hk : k ≤ (bP fl a (eK x)).length) :
 (fS fl a s (eK x) (kN x) k).queue.length ≤ n ∧ (fS fl a s (eK x) (kN x) k).by_.length ≤ n ∧ (fS fl a s (eK x) (kN x) k).queue.length ≤ (fS fl a s (eK x) (kN x) k).by_.length := by
 have h1 := (h.inv.pop (queue_eq hq)).fold hN k hk
 have h2 := h1.rE
 have h3 := wZ (fl := fl) (a := a) (s := s) (c := eK x) (x := kN x) k hk
 have h4 := h.short
 have e1 : (kN x).queue.length + 1 = x.queue.length := by show (x.queue.drop 1).length + 1 = _; rw [List.length_drop]; omega
 have e2 : (kN x).by_ = x.by_ := rfl
 rw [e2] at h3
 change (fS fl a s (eK x) (kN x) k).by_.length ≤ n at h2
 omega
theorem Mo.next (hN : Net fl n) (h : Mo fl a n s x) (hq : 0 < x.queue.length) : Mo fl a n s (fS fl a s (eK x) (kN x) (bP fl a (eK x)).length) ∧ Pj n (fS fl a s (eK x) (kN x) (bP fl a (eK x)).length) < Pj n x := by
 obtain ⟨h1, h2⟩ := xB hN h.inv (queue_eq hq)
 exact ⟨⟨h1, by rw [← iW (KV hq)]; exact h.same, by have := (h.fold hN hq (Nat.le_refl _)).2.2; omega⟩, h2⟩
theorem Mo.end (h : Mo fl a n s x) (hq : ¬ 0 < x.queue.length) : x.by_ = cJ fl a s := by
 rw [← h.same]
 refine (jD ?_).symm
 unfold xj
 rw [List.length_eq_zero_iff.1 (show x.queue.length = 0 by omega)]
theorem AA {c : Int} {z : sJ} {k : Nat} (hk : k < (bP fl a c).length) (h : vi fl s (fS fl a s c z k).by_ (nth (bP fl a c) k) = true) :
 iN (fS fl a s c z k).by_ ((nth (bP fl a c) k).fin fl) (nth (bP fl a c) k) = (fS fl a s c z (k + 1)).by_ ∧ (fS fl a s c z k).queue ++ [(nth (bP fl a c) k).fin fl] = (fS fl a s c z (k + 1)).queue := by
 rw [oY hk, uR h]; exact ⟨rfl, rfl⟩
theorem C3 {c : Int} {z : sJ} {k : Nat} (hk : k < (bP fl a c).length) (h : vi fl s (fS fl a s c z k).by_ (nth (bP fl a c) k) = false) :
 (fS fl a s c z k).by_ = (fS fl a s c z (k + 1)).by_ ∧ (fS fl a s c z k).queue = (fS fl a s c z (k + 1)).queue := by
 rw [oY hk, yM h]; exact ⟨rfl, rfl⟩
theorem xy {c : Int} {z : sJ} : fS fl a s c z 0 = z := rfl
structure JX (fl : List cB) (n : Nat) (a0 a : List Int) : Prop where
  inb : ya fl a
  same : n7 (GN fl n) a = gV fl n a0
theorem JX.done {a0 : List Int} (h : JX fl n a0 a) (e : dc fl a n < 0) : gV fl n a0 = (0, false, a) := by
 rw [← h.same]; exact jD (if_pos e)
theorem JX.stuck {a0 : List Int} (h : JX fl n a0 a) (e : ¬ dc fl a n < 0) (e2 : eZ fl a n (cJ fl a (dc fl a n)) < 0) : gV fl n a0 = (dc fl a n, true, a) := by
 rw [← h.same]; exact jD ((if_neg e).trans (if_pos e2))
theorem JX.next {a0 : List Int} (hN : Net fl n) (h : JX fl n a0 a) (e : ¬ dc fl a n < 0) (e2 : ¬ eZ fl a n (cJ fl a (dc fl a n)) < 0) :
 JX fl n a0 (kM fl a (dc fl a n) (eZ fl a n (cJ fl a (dc fl a n)))) ∧ RX fl a n (dc fl a n) (eZ fl a n (cJ fl a (dc fl a n))) := by
 obtain ⟨s, s1, s2, s3⟩ := wh e
 obtain ⟨t, t1, t2, t3, t4⟩ := uN e2
 rw [s2] at t2 t3 ⊢
 rw [t2]
 have hS := sent hN h.inb s1 t1 s3 t3 t4
 refine ⟨⟨hS.inb, ?_⟩, hS⟩
 rw [← h.same]
 refine (iW ?_).symm
 unfold GN
 rw [if_neg e, s2, if_neg (by rw [t2]; omega), t2]
structure N3 (fl : List cB) (a : List Int) (q : List (Int × Way)) (s t : Int) (dep : Int → Nat) (x : Int × List Way) : Prop where
  inv : Kp fl a q s t dep x
  same : n7 (Fy fl q s) x = iJ fl q s t
theorem R1 {dep : Int → Nat} {q : List (Int × Way)} (ht : wD q s t) : N3 fl a q s t dep (t, []) :=
 ⟨⟨rfl, (fun w h => by cases h), (fun w h => by cases h), List.nodup_nil, ht, by simp⟩, rfl⟩
theorem E6 {q : List (Int × Way)} {x : Int × List Way} (hx : x.1 = s) : Fy fl q s x = .inr x.2 := if_pos hx
theorem E5 {q : List (Int × Way)} {x : Int × List Way} (hx : ¬ x.1 = s) : Fy fl q s x = .inl ((kO q x.1).iH fl, x.2 ++ [kO q x.1]) := if_neg hx
theorem N3.next {dep : Int → Nat} {q : List (Int × Way)} (hd : ∀ c w, ep q c = some w → Open fl a w ∧ w.fin fl = c ∧ wD q s (w.iH fl) ∧ dep (w.iH fl) < dep c ∧ dep c ≤ q.length) {x : Int × List Way} (h : N3 fl a q s t dep x) (hx : ¬ x.1 = s) :
 N3 fl a q s t dep ((kO q x.1).iH fl, x.2 ++ [kO q x.1]) ∧ dep ((kO q x.1).iH fl) < dep x.1 ∧ Open fl a (kO q x.1) := by
 obtain ⟨h1, h2⟩ := h.inv.next hd hx
 refine ⟨⟨h1, ?_⟩, h2, h1.ways _ (List.mem_append.2 (.inr (List.mem_singleton.2 rfl)))⟩
 rw [← h.same]
 exact (iW (E5 hx)).symm
theorem N3.end {dep : Int → Nat} {q : List (Int × Way)} {x : Int × List Way} (h : N3 fl a q s t dep x) (hx : x.1 = s) : x.2 = iJ fl q s t := by
 rw [← h.same]; exact (jD (E6 hx)).symm
theorem N3.rE {dep : Int → Nat} {q : List (Int × Way)} {x : Int × List Way} (h : N3 fl a q s t dep x) : x.2.length ≤ dep t := by
 have := h.inv.rE; omega
end
end Go.Proofs.YtelbollidfdcjaaGreat
namespace Go.Proofs.YtelbollidfdcjaaGreat
open Go Go.T
set_option maxHeartbeats 8000000
def rY : VT Way := ⟨fun w => Ty.agg (gQ.tys w), fun _ => ⟨rfl, rfl⟩⟩
theorem mF : mapOf Tryz.prog 196 = some (3, 199) := by kernel_rfl
theorem oR : zeroOf Tryz.prog 199 = some (.agg #[.int .i64 0, .bool false]) := by kernel_rfl
theorem mP : ∀ w M, (rY.ty (default : Way)).den w M (.agg #[.int .i64 0, .bool false]) := fun _ _ => ⟨_, rfl, rfl, rfl, trivial⟩
theorem B7 : ∀ w M, ((MJ gQ).ty []).den w M (.slice none 0 0) := fun w M => Ty.An w M _ rfl
section
variable {fl : List cB} {a : List Int} {s : Int} {q : List (Int × Way)} {w : Way}
theorem Hf {q : WQ} {k : Nat} (h : nth a k < (nth fl k).hi) : iN q (nth fl k).src ((ep q (nth fl k).src).getD [] ++ [⟨k, true⟩]) = nu fl a q k := (if_pos h).symm
theorem Ib {k : Nat} (h : nth a k > (nth fl k).lo) : iN (nu fl a (eY fl a k) k) (nth fl k).dst ((ep (nu fl a (eY fl a k) k) (nth fl k).dst).getD [] ++ [⟨k, false⟩]) = eY fl a (k + 1) := (if_pos h).symm
theorem new_eq : (!(ep q (w.fin fl)).isSome && !decide (w.fin fl = s)) = vi fl s q w := rfl
end
theorem Mz {α : Type} {E : El α} {T J : Nat} {l l' : List α} (e : l = l') : (Ty.fo E T J l).Sub (Ty.fo E T J l') := Ty.sub_eq (congrArg (Ty.fo E T J) e)
attribute [local irreducible] aO fN Way.iH Way.fin Way.room eY nu IQ eD fA pZ bP fS cJ vi eK
attribute [local irreducible] gF eX lq nY g7 gx g9 g5 g8 nW gz nT dM fj nM gC oB nth fW dR ay dK bodyPost Exit.then Exit.inBlock Code.wp Code.wpIn n9 hO nO ni gy eU cM cN bodyPostM dO
set_option maxRecDepth 100000 in
theorem Jk (y : aj) (fl : List cB) (a : List Int) (h : l8 y fl a) : eU Tryz.prog 184 [1000] [(1000, Cont.vec c7 3 a)] [Ty.pp (dZ y fl 1000 fl.length)] [(1000, Cont.vec c7 3 a)] (Ty.pm KI.enc (MJ gQ) (eY fl a fl.length)) := by
 refine ff Tryz.func184 rfl (by decide) Tryz.ntmps184 (by exact Nat.le_of_ble_eq_true rfl) fun w0 M0 => ?_
 have hal := h.inb.1
 have hfl := h.rE
 refine aE (aB (mK rfl (aD (aC (aE (aB (Ex KI.enc gQ 199 6000 oN rfl (Rk rfl (aD ?_)))))))))
 refine aC (aE (aE (aB (jV rfl (cC rfl ?_)))))
 refine aJ rfl rfl rfl rfl rfl (by decide) ?_
 refine aL rfl rfl rfl rfl (b9 rfl rfl rfl (bG rfl (aD (aC (aZ ?_)))))
 refine bz (fun (k : {k : Nat // k ≤ fl.length}) => live [(0, Ty.pp (dZ y fl 1000 fl.length)), (3, Ty.mp 7), (10, Ty.sl dw fl), (11, Ty.int .i64 fl.length), (12, Ty.int .i64 (k.1 : Nat))] [(1000, Cont.vec c7 3 a), (7, Cont.mr KI.enc gQ 199 6000 (eY fl a k.1))]) (fun k => fl.length - k.1) (⟨0, by omega⟩) ?_ fun k => ?_
 ·(refine cV.mk' ?_ ?_ <;> (repeat' (first | exact aH | exact aI | refine aA ?_ (Ty.aT _) | refine aA ?_ (Ty.aF _) | refine aG rfl (Cont.aF _) ?_ | refine aG rfl ?_ ?_)))
  all_goals exact Cont.uj (IT fl a)
 have hk := k.2
 refine aE (aB (bA rfl rfl rfl (aD (aC (aE ?_)))))
 refine ah rfl (fun hc1 => ?_) (fun hc1 => ?_)
 ·
  refine af (aC (aE (aZ (aE (aB (bG rfl ?_))))))
  refine aq rfl rfl rfl rfl rfl rfl (by omega) ?_
  refine aY rfl rfl rfl (by exact Nat.le_of_ble_eq_true rfl) ?_
  refine bf rfl (by exact List.cons_ne_nil _ _) rfl ?_
  refine bZ rfl ?_
  refine bS rfl rfl (by decide) rfl rfl rfl rfl rfl rfl ?_
  refine aD (aC ?_)
  refine iZ (J := live [(0, Ty.pp (dZ y fl 1000 fl.length)), (3, Ty.mp 7), (4, Ty.int .i64 (k.1 : Nat)), (5, Ty.ptr 6 0), (10, Ty.sl dw fl), (11, Ty.int .i64 fl.length), (12, Ty.int .i64 (k.1 : Nat))] [(1000, Cont.vec c7 3 a), (7, Cont.mr KI.enc gQ 199 6000 (nu fl a (eY fl a k.1) k.1)), (6, Cont.cells 187 (dw.tys (nth fl k.1)))]) ?_ ?_
  ·
   refine aE (cH mixed rfl (jV rfl (cC rfl ?_)))
   refine aJ rfl rfl rfl rfl rfl (by decide) ?_
   refine aL rfl rfl rfl rfl (bG rfl ?_)
   refine dS rfl rfl rfl rfl rfl (by omega) ?_
   refine fL rfl rfl rfl (by decide) rfl rfl (by omega) rfl ?_
   refine aR rfl rfl rfl rfl rfl (by decide) ?_
   refine aX rfl rfl (by decide) rfl rfl rfl ?_
   refine bA rfl rfl rfl (aD ?_)
   refine ⟨by kernel_rfl, ?_⟩
   refine aC ?_
   refine ah rfl (fun hc2 => ?_) (fun hc2 => ?_)
   ·
    have hq := fun c => zg (fl := fl) (a := a) (c := c) k.1
    have hq1 := hq (nth fl k.1).src
    refine cH mixed rfl (HZ rfl ?_)
    refine aR rfl rfl rfl rfl rfl (by decide) ?_
    refine aX rfl rfl (by decide) rfl rfl rfl ?_
    refine HZ rfl ?_
    refine aR rfl rfl rfl rfl rfl (by decide) ?_
    refine aX rfl rfl (by decide) rfl rfl rfl ?_
    refine AM KI rfl rfl (by decide) rfl (sZ _) oN vm ?_
    refine bG rfl ?_
    refine cq rfl rfl (by exact List.cons_ne_nil _ _) rfl (by repeat (first | exact (aV.nil : aV _ _ [] _) | (show aV _ _ ((_, _) :: _) _; apply aV.one; (· first | exact (rfl : _ = Ty.int _ _) | exact (rfl : _ = Ty.bool _)); (· exact rfl)))) (by exact (rfl : _ = some [_, _])) ?_
    refine bX (E := gQ) (xs := [⟨k.1, true⟩]) rfl rfl rfl rfl rfl (by decide) (by decide) (by repeat (first | exact (aV.nil : aV _ _ [] _) | (show aV _ _ ((_, _) :: _) _; apply aV.agg; (· exact (rfl : _ = Ty.agg _))))) (by exact rfl) rfl ?_
    refine AN rfl rfl rfl (by decide) (by decide) rfl (by show 0 < 1; decide) rfl rfl rfl rfl rfl (by decide) (by show (((ep _ _).getD []).length + 1) * 16 ≤ _; unfold pI at hq1; omega) (by show ((ep _ _).getD []).length + 1 ≤ _; unfold pI at hq1; omega) ?_
    refine zL KI rfl rfl (by decide) rfl (sZ _) rfl oN rfl ?_
    refine aD ?_
    refine ⟨by kernel_rfl, ?_⟩
    refine dX ?_
    (refine cV.mk' ?_ ?_ <;> (repeat' (first | exact aH | exact aI | refine aA ?_ (Ty.aT _) | refine aA ?_ (Ty.aF _) | refine aG rfl (Cont.aF _) ?_ | refine aG rfl ?_ ?_)))
    all_goals exact Cont.uj (Hf hc2)
   refine af (dX ?_)
   (refine cV.mk' ?_ ?_ <;> (repeat' (first | exact aH | exact aI | refine aA ?_ (Ty.aT _) | refine aA ?_ (Ty.aF _) | refine aG rfl (Cont.aF _) ?_ | refine aG rfl ?_ ?_)))
   all_goals exact Cont.uj (K0 hc2)
  refine aE (cH mixed rfl (jV rfl (cC rfl ?_)))
  refine aJ rfl rfl rfl rfl rfl (by decide) ?_
  refine aL rfl rfl rfl rfl (bG rfl ?_)
  refine dS rfl rfl rfl rfl rfl (by omega) ?_
  refine fL rfl rfl rfl (by decide) rfl rfl (by omega) rfl ?_
  refine aR rfl rfl rfl rfl rfl (by decide) ?_
  refine aX rfl rfl (by decide) rfl rfl rfl ?_
  refine bA rfl rfl rfl (aD ?_)
  refine ⟨by kernel_rfl, ?_⟩
  refine aC ?_
  refine ah rfl (fun hc3 => ?_) (fun hc3 => ?_)
  ·
   have hq2 := Is (fl := fl) (a := a) (c := (nth fl k.1).dst) (k := k.1)
   refine cH mixed rfl (HZ rfl ?_)
   refine aR rfl rfl rfl rfl rfl (by decide) ?_
   refine aX rfl rfl (by decide) rfl rfl rfl ?_
   refine HZ rfl ?_
   refine aR rfl rfl rfl rfl rfl (by decide) ?_
   refine aX rfl rfl (by decide) rfl rfl rfl ?_
   refine AM KI rfl rfl (by decide) rfl (sZ _) oN vm ?_
   refine bG rfl ?_
   refine cq rfl rfl (by exact List.cons_ne_nil _ _) rfl (by repeat (first | exact (aV.nil : aV _ _ [] _) | (show aV _ _ ((_, _) :: _) _; apply aV.one; (· first | exact (rfl : _ = Ty.int _ _) | exact (rfl : _ = Ty.bool _)); (· exact rfl)))) (by exact (rfl : _ = some [_, _])) ?_
   refine bX (E := gQ) (xs := [⟨k.1, false⟩]) rfl rfl rfl rfl rfl (by decide) (by decide) (by repeat (first | exact (aV.nil : aV _ _ [] _) | (show aV _ _ ((_, _) :: _) _; apply aV.agg; (· exact (rfl : _ = Ty.agg _))))) (by exact rfl) rfl ?_
   refine AN rfl rfl rfl (by decide) (by decide) rfl (by show 0 < 1; decide) rfl rfl rfl rfl rfl (by decide) (by show (((ep _ _).getD []).length + 1) * 16 ≤ _; unfold pI at hq2; omega) (by show ((ep _ _).getD []).length + 1 ≤ _; unfold pI at hq2; omega) ?_
   refine zL KI rfl rfl (by decide) rfl (sZ _) rfl oN rfl ?_
   refine aD ?_
   refine ⟨by kernel_rfl, ?_⟩
   refine bI (aC (aB ?_))
   refine bp rfl rfl (by omega) (by omega) ?_
   refine bG rfl (aD ?_)
   refine bL (⟨k.1 + 1, by omega⟩) ?_ (by show fl.length - (k.1 + 1) < fl.length - k.1; omega)
   (refine cV.mk' ?_ ?_ <;> (repeat' (first | exact aH | exact aI | refine aA ?_ (Ty.aT _) | refine aA ?_ (Ty.aF _) | refine aG rfl (Cont.aF _) ?_ | refine aG rfl ?_ ?_)))
   all_goals skip
   all_goals exact Cont.uj (Ib hc3)
  refine af (bI (aC (aB ?_)))
  refine bp rfl rfl (by omega) (by omega) ?_
  refine bG rfl (aD ?_)
  refine bL (⟨k.1 + 1, by omega⟩) ?_ (by show fl.length - (k.1 + 1) < fl.length - k.1; omega)
  (refine cV.mk' ?_ ?_ <;> (repeat' (first | exact aH | exact aI | refine aA ?_ (Ty.aT _) | refine aA ?_ (Ty.aF _) | refine aG rfl (Cont.aF _) ?_ | refine aG rfl ?_ ?_)))
  all_goals skip
  all_goals exact Cont.uj (Lv hc3)
 refine b8 (aQ (aQ (aa rfl (aC (aE ?_)))))
 refine jz (tg := 7) rfl (Cont.uj (show eY fl a k.1 = eY fl a fl.length by rw [show k.1 = fl.length by have := k.2; omega])) ?_
 refine jY (tg := 6000) [] [(7, Cont.mp KI.enc (MJ gQ) (eY fl a fl.length))] (by decide) rfl trivial ⟨OK rfl rfl, trivial⟩ ?_
 refine lP (tg := 7) [(3, Ty.pm KI.enc (MJ gQ) (eY fl a fl.length))] (by decide) rfl ⟨Pm rfl rfl (by decide), trivial⟩ ?_
 refine aB (Pq rfl (PX rfl (aD (aC (az ?_)))))
 refine jJ [1000] rfl rfl (by decide) (by repeat (first | exact gm | refine eO rfl (bt (by decide) rfl) ?_)) ?_
 all_goals exact iw (aU rfl rfl)
set_option maxRecDepth 100000 in
theorem Fa (y : aj) (fl : List cB) (a : List Int) (h : l8 y fl a) (s : Int) (hs : 0 ≤ s ∧ s < (y.cells + 1 : Nat)) : eU Tryz.prog 130 [1000] [(1000, Cont.vec c7 3 a)] [Ty.pp (dZ y fl 1000 fl.length), Ty.int .i64 s] [(1000, Cont.vec c7 3 a), (16, Cont.mp KI.enc rY (cJ fl a s))] (Ty.mp 16) := by
 refine ff Tryz.func130 rfl (by decide) Tryz.ntmps130 (by exact Nat.le_of_ble_eq_true rfl) fun w0 M0 => ?_
 have hal := h.inb.1
 have hN := h.net
 have hcl := nx h.right
 refine aE (aB (mK rfl (aD (aC (aE (aB (HW KI.enc rY mF rfl (Rk rfl (aD ?_)))))))))
 refine aC (aE (aB (jV rfl ?_)))
 refine dI [(1000, 1000)] [] [(1000, Cont.vec c7 3 a)] (Jk y fl a h) rfl rfl (aN bW (e9 (aN (aN (aN (aN (aN (aN bW (dV (by exact List.mem_cons_self))) (aU rfl rfl)) (aU rfl rfl)) (aU rfl rfl)) (aU rfl rfl)) (aU rfl rfl)))) (cz (a := 1000) (b := 1000) (by exact List.mem_cons_self) rfl (bt (by exact List.mem_cons_self) rfl) pre_nil) (bk (a := 1000) (b := 1000) (by exact List.mem_cons_self) rfl (bt (by exact List.mem_cons_self) rfl) post_nil) (aU rfl rfl) ?_
 refine PX rfl (aD (aC (aE (aB (bG rfl ?_)))))
 refine By (E := c7) (xs := [s]) rfl rfl rfl rfl rfl (by decide) (by decide) (by repeat (first | exact (aV.nil : aV _ _ [] _) | (show aV _ _ ((_, _) :: _) _; apply aV.one; (· exact (rfl : _ = Ty.int _ _)); (· exact rfl)))) (by exact rfl) rfl rfl ?_
 refine yg rfl (aD (aC (aE ?_)))
 refine O5 (s := 7) (J := 4100) (tg := 20) rfl rfl (by decide) (by decide) rfl ?_
 refine aZ ?_
 refine bz (fun (x : {x : sJ // Mo fl a (y.cells + 1) s x}) => live [(0, Ty.pp (dZ y fl 1000 fl.length)), (1, Ty.int .i64 s), (5, Ty.mp 16), (6, Ty.pm KI.enc (MJ gQ) (eY fl a fl.length)), (7, Ty.fo c7 3 4100 x.1.queue)] [(1000, Cont.vec c7 3 a), (16, Cont.mp KI.enc rY x.1.by_)]) (fun x => Pj (y.cells + 1) x.1) (⟨⟨[], [s]⟩, Ry hs⟩) ?_ fun x => ?_
 ·(refine cV.mk' ?_ ?_ <;> (repeat' (first | exact aH | exact aI | refine aA ?_ (Ty.aT _) | refine aA ?_ (Ty.aF _) | refine aG rfl (Cont.aF _) ?_)))
 refine aE (aE (aB ?_))
 refine eL (rfl : _ = Ty.fo _ _ _ _) ?_
 refine PS rfl rfl rfl (bA rfl rfl rfl (aD (aC ?_)))
 refine ah rfl (fun hc1 => ?_) (fun hc1 => ?_)
 ·
  refine af (aC (aZ (aE ?_)))
  have hlen : 0 < x.1.queue.length := by omega
  refine aB ?_
  refine eL (rfl : _ = Ty.fo _ _ _ _) ?_
  refine LZ (i := 0) rfl rfl rfl rfl rfl rfl hlen ?_
  refine G4 rfl rfl rfl rfl (bZ rfl (aD (aC (aE (aB ?_)))))
  refine eL (rfl : _ = Ty.fo _ _ _ _) ?_
  refine QO (lo := 1) rfl rfl rfl rfl rfl rfl hlen hlen ?_
  refine g6 (rfl : _ = Ty.fo _ _ _ _) ?_
  refine aD (aC (aE ?_))
  refine gl (s := 8) rfl (Ty.bD (show nth x.1.queue 0 = eK x.1 by unfold eK; rfl)) ?_
  refine aB (Pq rfl (bG rfl ?_))
  refine zI KI (z0 := []) rfl rfl (sZ _) oN vm B7 ?_
  refine b9 (E := gQ) (xs := pI (eY fl a fl.length) (eK x.1)) rfl rfl rfl ?_
  refine bG rfl (aD (aC ?_))
  refine gl (s := 30) rfl (show (Ty.sl gQ (pI (eY fl a fl.length) (eK x.1))).Sub (Ty.sl gQ (bP fl a (eK x.1))) from Ty.EG tA) ?_
  refine gl (s := 31) rfl (Ty.bD (congrArg (fun l : List Way => ((l.length : Nat) : Int)) (tA (c := eK x.1)))) ?_
  refine aZ ?_
  refine bz (fun (j : {j : Nat // j ≤ (bP fl a (eK x.1)).length}) => live [(0, Ty.pp (dZ y fl 1000 fl.length)), (1, Ty.int .i64 s), (5, Ty.mp 16), (6, Ty.pm KI.enc (MJ gQ) (eY fl a fl.length)), (7, Ty.fo c7 3 4100 (fS fl a s (eK x.1) (kN x.1) j.1).queue), (8, Ty.int .i64 (eK x.1)), (30, Ty.sl gQ (bP fl a (eK x.1))), (31, Ty.int .i64 (bP fl a (eK x.1)).length), (32, Ty.int .i64 (j.1 : Nat))] [(1000, Cont.vec c7 3 a), (16, Cont.mp KI.enc rY (fS fl a s (eK x.1) (kN x.1) j.1).by_)]) (fun j => (bP fl a (eK x.1)).length - j.1) (⟨0, by omega⟩) ?_ fun j => ?_
  ·(refine cV.mk' ?_ ?_ <;> (repeat' (first | exact aH | exact aI | refine aA ?_ (Ty.aT _) | refine aA ?_ (Ty.aF _) | refine aG rfl (Cont.aF _) ?_ | refine aG rfl ?_ ?_ | refine aA ?_ ?_)))
   all_goals first | exact Mz (congrArg sJ.queue (xy (fl := fl) (a := a) (s := s) (c := eK x.1) (z := kN x.1)).symm) | exact Cont.yP (show x.1.by_ = (fS fl a s (eK x.1) (kN x.1) 0).by_ by rw [xy]; rfl)
  have hj := j.2
  have hwl := qE (fl := fl) (a := a) (c := eK x.1)
  have hfl := h.rE
  have hff := x.2.fold hN hlen hj
  refine aE (aB (bA rfl rfl rfl (aD (aC (aE ?_)))))
  refine ah rfl (fun hc2 => ?_) (fun hc2 => ?_)
  ·
   refine af (aC (aE (aZ (aE (aB ?_)))))
   refine aq rfl rfl rfl rfl rfl rfl (by omega) ?_
   refine aY rfl rfl rfl (by exact Nat.le_of_ble_eq_true rfl) ?_
   refine bf rfl (by exact List.cons_ne_nil _ _) rfl ?_
   refine bS rfl rfl (by decide) rfl rfl rfl rfl rfl rfl ?_
   refine aD (aC (aE ?_))
   have hwj := (nr.1 (cT (xs := bP fl a (eK x.1)) (k := j.1) (by omega))).1
   refine aB (jV rfl ?_)
   refine bu rfl rfl (by decide) rfl rfl (by exact Nat.le_of_ble_eq_true rfl) ?_
   refine dr [1000] (Fj y fl a h (nth (bP fl a (eK x.1)) j.1) hwj.1) rfl (aW (jy (aW (bQ (bR rfl rfl)) (aW (bQ (bR rfl rfl)) (aW (bQ (bR rfl rfl)) (aW (bQ (bR rfl rfl)) (aW (bQ (bR rfl rfl)) (aW (jS rfl hal (by decide) rfl) cL))))))) (aW (bQ (bR rfl rfl)) cL)) (by exact ql (by repeat (first | exact qm | refine oU (by exact dJ _ _) ?_))) ?_
   refine rH rfl (bN rfl rfl (bN rfl rfl (bZ rfl (bZ rfl (aD (aC (aE (aB (HZ rfl ?_)))))))))
   refine bG rfl ?_
   refine qo KI (k := (nth (bP fl a (eK x.1)) j.1).fin fl) (z0 := (default : Way)) rfl rfl (by decide) rfl (sZ _) mF oR mP ?_
   refine rH rfl (bN rfl rfl (bN rfl rfl ?_))
   refine bf rfl (by exact List.cons_ne_nil _ _) rfl ?_
   refine bS rfl rfl (by decide) rfl rfl rfl rfl rfl rfl ?_
   refine dF rfl (aD (aC (aE (aB (eF rfl (eJ rfl (eF rfl ?_)))))))
   apply aM (s := 50) rfl rfl rfl
   ·intro hg; apply aP; (refine bG rfl ?_); refine aD ?_; exact rfl
   ·exact rfl
   ·exact rfl
   apply aM (s := 50) rfl rfl rfl
   ·intro hg; apply aP; (refine bG rfl ?_); refine aD ?_; exact rfl
   ·exact rfl
   ·exact rfl
   apply aM (s := 50) rfl rfl rfl
   ·intro hg; apply aK (s := 51) rfl (by (rw [hg]; rfl)); apply aK (s := 52) rfl (by (rw [hg]; rfl)); apply aP; (refine bA rfl rfl rfl ?_); refine aD ?_; exact rfl
   ·exact rfl
   ·exact rfl
   refine dm rfl rfl (aD (aC ?_))
   refine cF rfl (fun hc3 => ?_) (fun hc3 => ?_)
   ·
    refine aE (aB (HZ rfl (bG rfl ?_)))
    refine bu rfl rfl (by decide) rfl rfl (by exact Nat.le_of_ble_eq_true rfl) ?_
    refine DU KI (k := (nth (bP fl a (eK x.1)) j.1).fin fl) (v := nth (bP fl a (eK x.1)) j.1) rfl rfl (by decide) rfl (sZ _) rfl rfl mF ?_
    refine aD (aC (aB ?_))
    refine eL (rfl : _ = Ty.fo _ _ _ _) ?_
    refine bG rfl ?_
    refine bX (E := c7) (xs := [_]) rfl rfl rfl rfl rfl (by decide) (by decide) (by repeat (first | exact (aV.nil : aV _ _ [] _) | (show aV _ _ ((_, _) :: _) _; apply aV.one; (· exact (rfl : _ = Ty.int _ _)); (· exact rfl)))) (by exact rfl) rfl ?_
    refine II rfl rfl (by decide) rfl (by show 0 < 1; decide) rfl rfl rfl rfl rfl (by decide) (by show (_ + 1) * 8 ≤ _; omega) (by show _ + 1 ≤ _; omega) ?_
    refine g6 (rfl : _ = Ty.fo _ _ _ _) ?_
    refine aD (bI (aC (aB ?_)))
    refine bp rfl rfl (by omega) (by omega) ?_
    refine bG rfl (aD ?_)
    refine bL (⟨j.1 + 1, by omega⟩) ?_ (by show (bP fl a (eK x.1)).length - (j.1 + 1) < (bP fl a (eK x.1)).length - j.1; omega)
    (refine cV.mk' ?_ ?_ <;> (repeat' (first | exact aH | exact aI | refine aA ?_ (Ty.aT _) | refine aA ?_ (Ty.aF _) | refine aG rfl (Cont.aF _) ?_ | refine aG rfl ?_ ?_ | refine aA ?_ ?_)))
    all_goals skip
    all_goals first | exact Mz (AA (by omega) (by rw [← new_eq]; exact hc3)).2 | exact Cont.yP (AA (by omega) (by rw [← new_eq]; exact hc3)).1
   refine af (bI (aC (aB ?_)))
   refine bp rfl rfl (by omega) (by omega) ?_
   refine bG rfl (aD ?_)
   refine bL (⟨j.1 + 1, by omega⟩) ?_ (by show (bP fl a (eK x.1)).length - (j.1 + 1) < (bP fl a (eK x.1)).length - j.1; omega)
   (refine cV.mk' ?_ ?_ <;> (repeat' (first | exact aH | exact aI | refine aA ?_ (Ty.aT _) | refine aA ?_ (Ty.aF _) | refine aG rfl (Cont.aF _) ?_ | refine aG rfl ?_ ?_ | refine aA ?_ ?_)))
   all_goals skip
   all_goals first | exact Mz (C3 (by omega) (by rw [← new_eq]; exact hc3)).2 | exact Cont.yP (C3 (by omega) (by rw [← new_eq]; exact hc3)).1
  refine b8 (aQ (aQ (aa rfl (bI ?_))))
  refine bL (⟨fS fl a s (eK x.1) (kN x.1) (bP fl a (eK x.1)).length, (x.2.next hN hlen).1⟩) ?_ (by exact (x.2.next hN hlen).2)
  (refine cV.mk' ?_ ?_ <;> (repeat' (first | exact aH | exact aI | refine aA ?_ (Ty.aT _) | refine aA ?_ (Ty.aF _) | refine aG rfl (Cont.aF _) ?_ | refine aG rfl ?_ ?_ | refine aA ?_ ?_)))
  all_goals skip
  all_goals first | exact Mz (congrArg (fun n => (fS fl a s (eK x.1) (kN x.1) n).queue) (show j.1 = _ by have := j.2; omega)) | exact Cont.yP (congrArg (fun n => (fS fl a s (eK x.1) (kN x.1) n).by_) (show j.1 = _ by have := j.2; omega))
 refine b8 (aQ (aQ (aa rfl (aC (aE ?_)))))
 refine jz (tg := 16) rfl (Cont.yP (x.2.end (by omega))) ?_
 refine aB (HZ rfl (Rk rfl (aD (aC (az ?_)))))
 refine jJ [1000, 16] rfl rfl (by decide) (by repeat (first | exact gm | refine eO rfl (bt (by decide) rfl) ?_ | refine eO rfl (Li (by decide) rfl) ?_)) ?_
 all_goals skip
 all_goals exact iw (Lj (by decide))
end Go.Proofs.YtelbollidfdcjaaGreat
namespace Go.Proofs.YtelbollidfdcjaaGreat
open Go Go.T
section
variable {fl : List cB} {a : List Int} {n : Nat} {q : List (Int × Way)}
theorem En {n k : Nat} (h : k ≤ n) : (List.range n).take k = List.range k := by
 rw [List.take_range, Nat.min_eq_left h]
theorem NU {j : Nat} (hj : j < n) (h : ∀ i, i < j → jt fl a q i = false) (hc : jt fl a q j = true) : (j : Int) = eZ fl a n q := by
 unfold eZ
 refine (iQ (by rw [List.length_range]; exact hj) (fun x hx => ?_) ?_).symm
 ·rw [En (by omega)] at hx
  exact h x (List.mem_range.1 hx)
 rw [List.getElem_range]; exact hc
theorem Kj {j : Nat} (hj : n ≤ j) (h : ∀ i, i < j → jt fl a q i = false) : -1 = eZ fl a n q := by
 unfold eZ
 refine (jE fun x hx => ?_).symm
 exact h x (by have := List.mem_range.1 hx; omega)
theorem Dr {j : Nat} (hj : j < n) : ((ep q (j : Int)).isSome && decide (nth (gq fl a n) j < 0)) = jt fl a q j := by
 unfold jt; rw [uS hj]
theorem KA (hl : fl.length ≤ 34) (ha : ∀ i, i < fl.length → 0 ≤ nth a i ∧ nth a i ≤ 300) (c : Int) : -10200 ≤ over fl a c ∧ over fl a c ≤ 10200 := by
 have h := y9 (fl := fl) (a := a) (c := c) (k := fl.length) ha
 have e : pZ fl a fl.length c = over fl a c := rfl
 rw [e] at h; omega
theorem wv (m : Int) (fl : List cB) (a : List Int) : m = fK fl a m [] := rfl
theorem JK {s t : Int} {l : List Way} (e : l = iJ fl (cJ fl a s) s t) : eD a l (fK fl a (min (over fl a s) (-over fl a t)) l) = kM fl a s t := by subst e; rfl
end
end Go.Proofs.YtelbollidfdcjaaGreat
namespace Go.Proofs.YtelbollidfdcjaaGreat
open Go Go.T
set_option maxHeartbeats 16000000
structure K3 (y : aj) (fl : List cB) (a : List Int) : Prop where
  right : y.bY
  net : Net fl (y.cells + 1)
  bd : Bd fl
  inb : iC fl = true → ya fl a
  rE : fl.length ≤ 34
section
variable {y : aj} {fl : List cB} {a : List Int} {n : Nat}
theorem Bb (h : (!fl.all fun f => decide (f.lo ≤ f.hi)) = true) : iC fl = false := lp h
theorem oO (h : (!fl.all fun f => decide (f.lo ≤ f.hi)) = false) : iC fl = true := eo h
theorem Pe (h : iC fl = false) : 0 = (bh fl n a).1 ∧ true = (bh fl n a).2.1 ∧ a = (bh fl n a).2.2 := by rw [AG h]; exact ⟨rfl, rfl, rfl⟩
theorem QB {b : List Int} (h : iC fl = true) (hx : JX fl n a b) (e : dc fl b n < 0) : 0 = (bh fl n a).1 ∧ false = (bh fl n a).2.1 ∧ b = (bh fl n a).2.2 := by rw [mQ h, hx.done e]; exact ⟨rfl, rfl, rfl⟩
theorem Pb {b : List Int} (h : iC fl = true) (hx : JX fl n a b) (e : ¬ dc fl b n < 0) (e2 : eZ fl b n (cJ fl b (dc fl b n)) < 0) : dc fl b n = (bh fl n a).1 ∧ true = (bh fl n a).2.1 ∧ b = (bh fl n a).2.2 := by rw [mQ h, hx.stuck e e2]; exact ⟨rfl, rfl, rfl⟩
theorem SH (h : ya fl a) : JX fl n a a := ⟨h, rfl⟩
theorem NI {x z : Int} (h1 : 0 < x) (h2 : z < 0) : 0 < min x (-z) := by omega
theorem has_eq : fidx (fun v : Int => decide (v > 0)) (gq fl a n) = dc fl a n := rfl
theorem J5 (m x : Int) : gH m [x] = min m x := rfl
theorem yG {m : Int} {l : List Way} {w : Way} : gH (fK fl a m l) [w.room fl a] = fK fl a m (l ++ [w]) := (J5 _ _).trans (sG m l).symm
theorem Gg {k : Int} (h : 0 ≤ k ∧ k < n) : nth (gq fl a n) k.toNat = over fl a k := by rw [uS (by omega)]; congr 1; omega
theorem Kz {x : Int} (h : -20000 ≤ x ∧ x ≤ 20000) : IntKind.i64.wrap (0 - x) = -x := by rw [show (0 : Int) - x = -x by omega]; exact IntWalk.i64_in _ (by omega)
end
attribute [local irreducible] aO fN Way.iH Way.fin Way.room eY eD fA gq over bP cJ dc eZ jt fK iJ kM bh gV gH
attribute [local irreducible] gF eX lq nY g7 gx g9 g5 g8 nW gz nT dM fj nM gC oB nth fW dR ay dK bodyPost Exit.then Exit.inBlock Code.wp Code.wpIn n9 hO nO ni gy eU cM cN bodyPostM dO
set_option maxRecDepth 100000 in
theorem I6 (f : cB) : dK Tryz.prog 177 [Ty.agg (dw.tys f)] (Ty.bool (decide (f.lo ≤ f.hi))) := by
 refine au Tryz.func177 rfl (by decide) Tryz.ntmps177 (by exact Nat.le_of_ble_eq_true rfl) fun w0 M0 => ?_
 refine aE (aB (bH rfl (dF rfl (aD (aC (aE (aB ?_)))))))
 refine aJ rfl rfl rfl rfl rfl (by decide) ?_
 refine aL rfl rfl rfl rfl ?_
 refine aJ rfl rfl rfl rfl rfl (by decide) ?_
 refine aL rfl rfl rfl rfl (bA rfl rfl rfl (dF rfl (aD (aC (az (bU rfl rfl ?_))))))
 all_goals exact cI rfl rfl
set_option maxRecDepth 100000 in
theorem L6 (v : Int) : dK Tryz.prog 179 [Ty.int .i64 v] (Ty.bool (decide (v > 0))) := by
 refine au Tryz.func179 rfl (by decide) Tryz.ntmps179 (by exact Nat.le_of_ble_eq_true rfl) fun w0 M0 => ?_
 refine aE (aB (dF rfl (aD (aC (aE (aB (bG rfl (bA rfl rfl rfl (dF rfl ?_)))))))))
 refine aD (aC (az (bU rfl rfl ?_)))
 all_goals exact cI rfl rfl
set_option maxRecDepth 100000 in
theorem FH (y : aj) (fl : List cB) (a : List Int) (h : K3 y fl a) : eU Tryz.prog 129 [1000] [(1000, Cont.vec c7 3 a)] [Ty.pp (dZ y fl 1000 fl.length)] [(1000, Cont.vec c7 3 (bh fl (y.cells + 1) a).2.2)] (Ty.lD [Ty.int .i64 (bh fl (y.cells + 1) a).1, Ty.bool (bh fl (y.cells + 1) a).2.1]) := by
 refine ff Tryz.func129 rfl (by decide) Tryz.ntmps129 (by exact Nat.le_of_ble_eq_true rfl) fun w0 M0 => ?_
 have hcl := nx h.right
 have hfl := h.rE
 have hN := h.net
 refine aE (aB (bZ rfl (dF rfl (aD (aC (aE (aE (aB (jV rfl ?_)))))))))
 refine cC rfl ?_
 refine aJ rfl rfl rfl rfl rfl (by decide) ?_
 refine aL rfl rfl rfl rfl ?_
 refine ak (Cv fl (Ty.kP _ []) rfl (fun f => decide (f.lo ≤ f.hi)) rfl rfl fun f _ => dx (I6 f) rfl rfl rfl rfl rfl rfl) rfl rfl rfl rfl rfl ?_
 refine eJ rfl (aD (aC ?_))
 refine cF rfl (fun hc1 => ?_) (fun hc1 => ?_)
 ·
  refine aE (aB (bZ rfl (dF rfl (aD (aC (az (aS ?_)))))))
  refine Af [1000] rfl rfl rfl (by decide) ?_ ?_ ?_
  ·exact eO rfl (bt (by decide) (Pe (Bb hc1)).2.2) gm
  all_goals skip
  all_goals first | exact iw (qD rfl rfl (congrArg (Ty.int .i64) (Pe (Bb hc1)).1)) | exact iw (qD rfl rfl (congrArg Ty.bool (Pe (Bb hc1)).2.1))
 refine af (aC (aZ ?_))
 refine bz (fun (x : {b : List Int // JX fl (y.cells + 1) a b}) => live [(0, Ty.pp (dZ y fl 1000 fl.length))] [(1000, Cont.vec c7 3 x.1)]) (fun x => Qw fl (y.cells + 1) x.1) (⟨a, SH (h.inb (oO hc1))⟩) ?_ fun x => ?_
 ·(refine cV.mk' ?_ ?_ <;> (repeat' (first | exact aH | exact aI | refine aA ?_ (Ty.aT _) | refine aA ?_ (Ty.aF _) | refine aG rfl (Cont.aF _) ?_)))
 have hF : l8 y fl x.1 := ⟨h.right, h.net, h.bd, x.2.inb, h.rE⟩
 have hal := hF.inb.1
 have hov := KA h.rE fun i hi => (hF.Pc hi).1
 have hol : (gq fl x.1 (y.cells + 1)).length = (y.cells + 1) := zi
 refine aZ (aE (aB (jV rfl ?_)))
 refine dI [(1000, 1000)] [] [(1000, Cont.vec c7 3 x.1)] (Po y fl x.1 hF) rfl rfl (aN bW (e9 (aN (aN (aN (aN (aN (aN bW (dV (by exact List.mem_cons_self))) (aU rfl rfl)) (aU rfl rfl)) (aU rfl rfl)) (aU rfl rfl)) (aU rfl rfl)))) (cz (a := 1000) (b := 1000) (by exact List.mem_cons_self) rfl (bt (by exact List.mem_cons_self) rfl) pre_nil) (bk (a := 1000) (b := 1000) (by decide) rfl (bt (by decide) rfl) post_nil) (aU rfl rfl) ?_
 refine F8 rfl (aD (aC (aE (aB (ew rfl ?_)))))
 refine ak (vZ (gq fl x.1 (y.cells + 1)) (Ty.kP _ []) rfl (fun v => decide (v > 0)) rfl rfl fun v _ => dx (L6 v) rfl rfl rfl rfl rfl rfl) rfl rfl rfl rfl rfl ?_
 refine bZ rfl (aD (aC (aE (aE ?_))))
 refine gl (s := 5) rfl (Ty.bD (has_eq (fl := fl) (a := x.1) (n := (y.cells + 1)))) ?_
 refine aB (bG rfl (bA rfl rfl rfl (aD (aC ?_))))
 refine ah rfl (fun hc2 => ?_) (fun hc2 => ?_)
 ·
  refine aE (aB (bZ rfl (dF rfl (aD (aC (az (aS (bB (aS ?_)))))))))
  refine bB ?_
  refine Af [1000] rfl rfl rfl (by decide) ?_ ?_ ?_
  ·exact eO rfl (bt (by decide) (QB (oO hc1) x.2 hc2).2.2) gm
  all_goals skip
  all_goals first | exact iw (qD rfl rfl (congrArg (Ty.int .i64) (QB (oO hc1) x.2 hc2).1)) | exact iw (qD rfl rfl (congrArg Ty.bool (QB (oO hc1) x.2 hc2).2.1))
 refine af (aC (aE ?_))
 obtain ⟨s, s1, s2, s3⟩ := wh hc2
 have hs : 0 ≤ (dc fl x.1 (y.cells + 1)) ∧ (dc fl x.1 (y.cells + 1)) < ((y.cells + 1) : Nat) := by omega
 refine aB (jV rfl (bG rfl ?_))
 refine dI (res' := Ty.mp 32) [(1000, 1000), (32, 16)] [32] [(1000, Cont.vec c7 3 x.1), (32, Cont.mp KI.enc rY (cJ fl x.1 (dc fl x.1 (y.cells + 1))))] (Fa y fl x.1 hF (dc fl x.1 (y.cells + 1)) hs) rfl rfl (aN (aN bW (aU rfl rfl)) (e9 (aN (aN (aN (aN (aN (aN bW (dV (by exact List.mem_cons_self))) (aU rfl rfl)) (aU rfl rfl)) (aU rfl rfl)) (aU rfl rfl)) (aU rfl rfl)))) (cz (a := 1000) (b := 1000) (by exact List.mem_cons_self) rfl (bt (by exact List.mem_cons_self) rfl) pre_nil) (bk (a := 1000) (b := 1000) (by decide) rfl (bt (by decide) rfl) (bk (a := 32) (b := 16) (by decide) rfl (Li (by decide) rfl) post_nil)) (Lj (by decide)) ?_
 refine Rk rfl (aD (aC (aE (aB (bZ rfl (aD (aC ?_)))))))
 refine iZ (J := live [(0, Ty.pp (dZ y fl 1000 fl.length)), (4, Ty.sl c7 (gq fl x.1 (y.cells + 1))), (5, Ty.int .i64 (dc fl x.1 (y.cells + 1))), (6, Ty.mp 32), (7, Ty.int .i64 (eZ fl x.1 (y.cells + 1) (cJ fl x.1 (dc fl x.1 (y.cells + 1)))))] [(1000, Cont.vec c7 3 x.1), (32, Cont.mp KI.enc rY (cJ fl x.1 (dc fl x.1 (y.cells + 1))))]) ?_ ?_
 ·
  refine aE (aB (ew rfl (b9 rfl rfl rfl (bG rfl (aD (aC (aZ ?_)))))))
  refine bz (fun (j : {j : Nat // j ≤ (y.cells + 1) ∧ ∀ i, i < j → jt fl x.1 (cJ fl x.1 (dc fl x.1 (y.cells + 1))) i = false}) => live [(0, Ty.pp (dZ y fl 1000 fl.length)), (4, Ty.sl c7 (gq fl x.1 (y.cells + 1))), (5, Ty.int .i64 (dc fl x.1 (y.cells + 1))), (6, Ty.mp 32), (7, Ty.int .i64 (-1)), (32, Ty.sl c7 (gq fl x.1 (y.cells + 1))), (33, Ty.int .i64 (gq fl x.1 (y.cells + 1)).length), (34, Ty.int .i64 (j.1 : Nat))] [(1000, Cont.vec c7 3 x.1), (32, Cont.mp KI.enc rY (cJ fl x.1 (dc fl x.1 (y.cells + 1))))]) (fun j => (y.cells + 1) - j.1) (⟨0, Nat.zero_le _, fun i hi => absurd hi (Nat.not_lt_zero i)⟩) ?_ fun j => ?_
  ·(refine cV.mk' ?_ ?_ <;> (repeat' (first | exact aH | exact aI | refine aA ?_ (Ty.aT _) | refine aA ?_ (Ty.aF _) | refine aG rfl (Cont.aF _) ?_)))
  have hj := j.2.1
  refine aE (aB (bA rfl rfl rfl (aD (aC (aE ?_)))))
  refine ah rfl (fun hc3 => ?_) (fun hc3 => ?_)
  ·
   refine af (aC (aE (aZ (aE (aB (bG rfl ?_))))))
   refine aq rfl rfl rfl rfl rfl rfl (by omega) ?_
   refine aL rfl rfl rfl rfl (bZ rfl (bZ rfl (aD (aC (aE (aB (HZ rfl (bG rfl ?_))))))))
   refine qo KI (k := ((j.1 : Nat) : Int)) (z0 := (default : Way)) rfl rfl (by decide) rfl (sZ _) mF oR mP ?_
   refine rH rfl (bN rfl rfl (bN rfl rfl ?_))
   refine bf rfl (by exact List.cons_ne_nil _ _) rfl ?_
   refine bS rfl rfl (by decide) rfl rfl rfl rfl rfl rfl ?_
   refine dF rfl (aD (aC (aE (aB (eF rfl (eF rfl ?_))))))
   apply aM (s := 46) rfl rfl rfl
   ·intro hg; apply aP; (refine bG rfl ?_); refine aD ?_; exact rfl
   ·exact rfl
   ·exact rfl
   apply aM (s := 46) rfl rfl rfl
   ·intro hg; apply aK (s := 47) rfl (by (rw [hg]; rfl)); apply aP; (refine bA rfl rfl rfl ?_); refine aD ?_; exact rfl
   ·exact rfl
   ·exact rfl
   refine dm rfl rfl (aD (aC ?_))
   refine cF rfl (fun hc4 => ?_) (fun hc4 => ?_)
   ·
    refine aE (aB (bG rfl (bZ rfl (aD (aC (b8 (gk rfl (aQ (aQ ?_)))))))))
    refine aa rfl (dX ?_)
    (refine cV.mk' ?_ ?_ <;> (repeat' (first | exact aH | exact aI | refine aA ?_ (Ty.aT _) | refine aA ?_ (Ty.aF _) | refine aG rfl (Cont.aF _) ?_ | refine aA ?_ ?_)))
    all_goals exact Ty.bD (NU (by omega) j.2.2 (by rw [← Dr (n := (y.cells + 1)) (by omega)]; exact hc4))
   refine af (bI (aC (aB ?_)))
   refine bp rfl rfl (by omega) (by omega) ?_
   refine bG rfl (aD ?_)
   refine bL (⟨j.1 + 1, by omega, fun i hi => by by_cases e : i = j.1; (subst e; rw [← Dr (n := (y.cells + 1)) (by omega)]; exact hc4); exact j.2.2 i (by omega)⟩) ?_ (by show (y.cells + 1) - (j.1 + 1) < (y.cells + 1) - j.1; omega)
   (refine cV.mk' ?_ ?_ <;> (repeat' (first | exact aH | exact aI | refine aA ?_ (Ty.aT _) | refine aA ?_ (Ty.aF _) | refine aG rfl (Cont.aF _) ?_)))
   all_goals skip
  refine b8 (aQ (aQ (aa rfl (dX ?_))))
  (refine cV.mk' ?_ ?_ <;> (repeat' (first | exact aH | exact aI | refine aA ?_ (Ty.aT _) | refine aA ?_ (Ty.aF _) | refine aG rfl (Cont.aF _) ?_ | refine aA ?_ ?_)))
  all_goals exact Ty.bD (Kj (by omega) j.2.2)
 refine aE (aE (aB (bG rfl (bA rfl rfl rfl (aD (aC ?_))))))
 refine ah rfl (fun hc5 => ?_) (fun hc5 => ?_)
 ·
  refine aE (aB (bG rfl (bZ rfl (dF rfl (aD (aC (az (aS (bB ?_)))))))))
  refine aS (bB ?_)
  refine Af [1000] rfl rfl rfl (by decide) ?_ ?_ ?_
  ·exact eO rfl (bt (by decide) (Pb (oO hc1) x.2 hc2 hc5).2.2) gm
  all_goals skip
  all_goals first | exact iw (qD rfl rfl (congrArg (Ty.int .i64) (Pb (oO hc1) x.2 hc2 hc5).1)) | exact iw (qD rfl rfl (congrArg Ty.bool (Pb (oO hc1) x.2 hc2 hc5).2.1))
 refine af (aC (aE ?_))
 obtain ⟨t, t1, t2, t3, t4⟩ := uN hc5
 have hnx := x.2.next hN hc2 hc5
 have hR := og (a := x.1) hN hs
 obtain ⟨dep, d0, hd⟩ := hR.arc
 have hmet : wD (cJ fl x.1 (dc fl x.1 (y.cells + 1))) (dc fl x.1 (y.cells + 1)) (eZ fl x.1 (y.cells + 1) (cJ fl x.1 (dc fl x.1 (y.cells + 1)))) := by rw [t2]; obtain ⟨v, hv⟩ := Option.isSome_iff_exists.1 t3; exact .inr (lE hv)
 have ht : 0 ≤ (eZ fl x.1 (y.cells + 1) (cJ fl x.1 (dc fl x.1 (y.cells + 1)))) ∧ (eZ fl x.1 (y.cells + 1) (cJ fl x.1 (dc fl x.1 (y.cells + 1)))) < ((y.cells + 1) : Nat) := by omega
 have ho1 := hov (dc fl x.1 (y.cells + 1))
 have ho2 := hov (eZ fl x.1 (y.cells + 1) (cJ fl x.1 (dc fl x.1 (y.cells + 1))))
 have hdq : dep (eZ fl x.1 (y.cells + 1) (cJ fl x.1 (dc fl x.1 (y.cells + 1)))) ≤ 21 := by
  obtain ⟨v, hv⟩ := Option.isSome_iff_exists.1 t3
  have h1 := (hd _ _ hv).2.2.2.2
  have h2 := hR.rE
  rw [t2]; omega
 refine aB (mK rfl (aD (aC (aE ?_))))
 have hoa := Gg (fl := fl) (a := x.1) (n := (y.cells + 1)) hs
 have hob := Gg (fl := fl) (a := x.1) (n := (y.cells + 1)) ht
 refine cH mixed rfl (ew rfl (bG rfl ?_))
 refine ij rfl rfl rfl rfl rfl rfl (by omega) (by omega) ?_
 refine aL rfl rfl rfl rfl (ew rfl (bG rfl ?_))
 refine ij rfl rfl rfl rfl rfl rfl (by omega) (by omega) ?_
 refine aL rfl rfl rfl rfl (RD rfl ?_)
 refine bX (E := c7) (xs := [_]) rfl rfl rfl rfl rfl (by decide) (by decide) (by repeat (first | exact (aV.nil : aV _ _ [] _) | (show aV _ _ ((_, _) :: _) _; apply aV.one; (· exact (rfl : _ = Ty.int _ _)); (· exact rfl)))) (by exact rfl) rfl ?_
 refine ak (tP _ _) rfl rfl rfl rfl rfl (bZ rfl (aD ?_))
 refine ⟨by kernel_rfl, ?_⟩
 refine aC (aE (aE ?_))
 refine gl (s := 13) rfl (Ty.bD (by rw [hoa, hob, Kz (by omega), J5] : _ = (min (over fl x.1 (dc fl x.1 (y.cells + 1))) (-over fl x.1 (eZ fl x.1 (y.cells + 1) (cJ fl x.1 (dc fl x.1 (y.cells + 1)))))))) ?_
 refine aB (bG rfl (bZ rfl (aD (aC (aZ ?_)))))
 refine bz (fun (p : {p : Int × List Way // N3 fl x.1 (cJ fl x.1 (dc fl x.1 (y.cells + 1))) (dc fl x.1 (y.cells + 1)) (eZ fl x.1 (y.cells + 1) (cJ fl x.1 (dc fl x.1 (y.cells + 1)))) dep p}) => live [(0, Ty.pp (dZ y fl 1000 fl.length)), (5, Ty.int .i64 (dc fl x.1 (y.cells + 1))), (6, Ty.mp 32), (12, Ty.row gQ 199 81 p.1.2), (13, Ty.int .i64 (fK fl x.1 (min (over fl x.1 (dc fl x.1 (y.cells + 1))) (-over fl x.1 (eZ fl x.1 (y.cells + 1) (cJ fl x.1 (dc fl x.1 (y.cells + 1)))))) p.1.2)), (14, Ty.int .i64 p.1.1)] [(1000, Cont.vec c7 3 x.1), (32, Cont.mp KI.enc rY (cJ fl x.1 (dc fl x.1 (y.cells + 1))))]) (fun p => dep p.1.1) (⟨((eZ fl x.1 (y.cells + 1) (cJ fl x.1 (dc fl x.1 (y.cells + 1)))), []), R1 hmet⟩) ?_ fun p => ?_
 ·(refine cV.mk' ?_ ?_ <;> (repeat' (first | exact aH | exact aI | refine aA ?_ (Ty.aT _) | refine aA ?_ (Ty.aF _) | refine aA ?_ Ty.gU | refine aG rfl (Cont.aF _) ?_ | refine aA ?_ ?_)))
  all_goals exact Ty.bD (wv _ _ _)
 have hpf := p.2.rE
 refine aE (aE (aB (bG rfl (bG rfl (bA rfl rfl rfl (aD (aC ?_)))))))
 refine c9 rfl (fun hc6 => ?_) (fun hc6 => ?_)
 ·
  refine af (aC (aE (aZ (aE ?_))))
  have hpx := p.2.next hd hc6
  have hpo := hpx.2.2
  refine aB (D2 rfl (HZ rfl (bG rfl ?_)))
  refine xw KI (k := p.1.1) (z0 := (default : Way)) rfl rfl (by decide) rfl (sZ _) mF oR mP ?_
  refine bX (E := gQ) (xs := [kO (cJ fl x.1 (dc fl x.1 (y.cells + 1))) p.1.1]) rfl rfl rfl rfl rfl (by decide) (by decide) (by repeat (first | exact (aV.nil : aV _ _ [] _) | (show aV _ _ ((_, _) :: _) _; apply aV.agg; (· exact (rfl : _ = Ty.agg _))))) (by exact rfl) rfl ?_
  refine dh rfl rfl (by decide) rfl rfl rfl rfl rfl rfl (by decide) (by (simp <;> omega)) (by (simp <;> omega)) ?_
  refine yg rfl (aD (aC (aE (aB (jV rfl (HZ rfl (bG rfl ?_)))))))
  refine xw KI (k := p.1.1) (z0 := (default : Way)) rfl rfl (by decide) rfl (sZ _) mF oR mP ?_
  refine dr [1000] (Fj y fl x.1 hF (kO (cJ fl x.1 (dc fl x.1 (y.cells + 1))) p.1.1) hpo.1) rfl (aW (jy (aW (bQ (bR rfl rfl)) (aW (bQ (bR rfl rfl)) (aW (bQ (bR rfl rfl)) (aW (bQ (bR rfl rfl)) (aW (bQ (bR rfl rfl)) (aW (jS rfl hal (by decide) rfl) cL))))))) (aW (bQ (bR rfl rfl)) cL)) (by exact ql (by repeat (first | exact qm | refine oU (by exact dJ _ _) ?_))) ?_
  refine rH rfl (bN rfl rfl (bN rfl rfl (bZ rfl (bZ rfl (aD (aC (aB (bG rfl (bG rfl ?_)))))))))
  refine bX (E := c7) (xs := [_]) rfl rfl rfl rfl rfl (by decide) (by decide) (by repeat (first | exact (aV.nil : aV _ _ [] _) | (show aV _ _ ((_, _) :: _) _; apply aV.one; (· exact (rfl : _ = Ty.int _ _)); (· exact rfl)))) (by exact rfl) rfl ?_
  refine ak (tP _ _) rfl rfl rfl rfl rfl (bZ rfl (aD (bI (aC (aB (jV rfl (HZ rfl (bG rfl ?_))))))))
  refine xw KI (k := p.1.1) (z0 := (default : Way)) rfl rfl (by decide) rfl (sZ _) mF oR mP ?_
  refine dr [1000] (BB y fl x.1 (kO (cJ fl x.1 (dc fl x.1 (y.cells + 1))) p.1.1) hpo.1) rfl (aW (jy (aW (bQ (bR rfl rfl)) (aW (bQ (bR rfl rfl)) (aW (bQ (bR rfl rfl)) (aW (bQ (bR rfl rfl)) (aW (bQ (bR rfl rfl)) (aW (jS rfl hal (by decide) rfl) cL))))))) (aW (bQ (bR rfl rfl)) cL)) (by exact dJ _ _) ?_
  refine bZ rfl (aD ?_)
  refine bL (⟨((kO (cJ fl x.1 (dc fl x.1 (y.cells + 1))) p.1.1).iH fl, p.1.2 ++ [kO (cJ fl x.1 (dc fl x.1 (y.cells + 1))) p.1.1]), (p.2.next hd hc6).1⟩) ?_ (by exact (p.2.next hd hc6).2.1)
  (refine cV.mk' ?_ ?_ <;> (repeat' (first | exact aH | exact aI | refine aA ?_ (Ty.aT _) | refine aA ?_ (Ty.aF _) | refine aG rfl (Cont.aF _) ?_ | refine aA ?_ ?_)))
  all_goals skip
  all_goals exact Ty.bD yG
 refine b8 (aQ (aQ (aa rfl (aC ?_))))
 have hmp := qq (fl := fl) (a := x.1) (m := (min (over fl x.1 (dc fl x.1 (y.cells + 1))) (-over fl x.1 (eZ fl x.1 (y.cells + 1) (cJ fl x.1 (dc fl x.1 (y.cells + 1))))))) (NI (by rw [s2]; exact s3) (by rw [t2]; exact t4)) p.1.2 p.2.inv.ways
 have hml := (sn (fl := fl) (a := x.1) (min (over fl x.1 (dc fl x.1 (y.cells + 1))) (-over fl x.1 (eZ fl x.1 (y.cells + 1) (cJ fl x.1 (dc fl x.1 (y.cells + 1)))))) p.1.2).1
 refine lP (tg := 81) [(12, Ty.sl gQ p.1.2)] (by decide) rfl ⟨vl rfl, trivial⟩ ?_
 refine aB (jV rfl (ew rfl (bG rfl ?_)))
 refine dI [(1000, 1000)] [] [(1000, Cont.vec c7 3 (eD x.1 p.1.2 (fK fl x.1 (min (over fl x.1 (dc fl x.1 (y.cells + 1))) (-over fl x.1 (eZ fl x.1 (y.cells + 1) (cJ fl x.1 (dc fl x.1 (y.cells + 1)))))) p.1.2)))] (Kk y fl x.1 hF p.1.2 (by omega) (fun w hw => (p.2.inv.ways w hw).1) (fK fl x.1 (min (over fl x.1 (dc fl x.1 (y.cells + 1))) (-over fl x.1 (eZ fl x.1 (y.cells + 1) (cJ fl x.1 (dc fl x.1 (y.cells + 1)))))) p.1.2) (by omega)) rfl rfl (aN (aN (aN bW (aU rfl rfl)) (aU rfl rfl)) (e9 (aN (aN (aN (aN (aN (aN bW (dV (by exact List.mem_cons_self))) (aU rfl rfl)) (aU rfl rfl)) (aU rfl rfl)) (aU rfl rfl)) (aU rfl rfl)))) (cz (a := 1000) (b := 1000) (by exact List.mem_cons_self) rfl (bt (by exact List.mem_cons_self) rfl) pre_nil) (bk (a := 1000) (b := 1000) (by decide) rfl (bt (by decide) rfl) post_nil) (aU rfl rfl) ?_
 refine aD (bI ?_)
 refine bL (⟨kM fl x.1 (dc fl x.1 (y.cells + 1)) (eZ fl x.1 (y.cells + 1) (cJ fl x.1 (dc fl x.1 (y.cells + 1)))), hnx.1⟩) ?_ (by exact hnx.2.less)
 (refine cV.mk' ?_ ?_ <;> (repeat' (first | exact aH | exact aI | refine aA ?_ (Ty.aT _) | refine aA ?_ (Ty.aF _) | refine aG rfl ?_ ?_)))
 all_goals skip
 all_goals exact Cont.dA (JK (p.2.end hc6))
end Go.Proofs.YtelbollidfdcjaaGreat
namespace Go.Proofs.YtelbollidfdcjaaGreat
open Go Go.T
section
variable {fl : List cB} {a : List Int} {n : Nat} {G : Nat → Int} {x : N7}
structure sN (fl : List cB) (a : List Int) (n : Nat) (G : Nat → Int) (x : N7) : Prop where
  inv : mh fl a n G x
  same : n7 (nD fl a n G) x = iq fl a n G
theorem R8 (hn : 0 < n) : sN fl a n G ⟨0, 0, 0, O8 n⟩ := ⟨Ob hn, rfl⟩
theorem sN.r (h : sN fl a n G x) : ¬ n ≤ x.r := by have := h.inv.r; omega
theorem sN.round (h : sN fl a n G x) (hc : n ≤ x.c) (ha : ¬ x.st.at_ < 0) : sN fl a n G ⟨x.r + 1, 0, 0, ⟨x.st.worth, x.st.by_, -1⟩⟩ :=
 ⟨h.inv.round hc (fun e => ha (by rw [h.inv.last e]; decide)), by rw [← iW (vL h.r hc ha)]; exact h.same⟩
theorem sN.stop (h : sN fl a n G x) (hc : n ≤ x.c) (ha : x.st.at_ < 0) : cQ fl a n G = [] := by
 refine vS ?_
 rw [← h.same]; exact jD (xR h.r hc ha)
theorem sN.cell (h : sN fl a n G x) (hc : ¬ n ≤ x.c) (hj : (bP fl a x.c).length ≤ x.j) : sN fl a n G ⟨x.r, x.c + 1, 0, x.st⟩ :=
 ⟨h.inv.cell hc hj, by rw [← iW (xP h.r hc hj)]; exact h.same⟩
theorem sN.no (h : sN fl a n G x) (hc : ¬ n ≤ x.c) (hj : ¬ (bP fl a x.c).length ≤ x.j) (hg : lf fl G x.st x.c (nth (bP fl a x.c) x.j) = false) : sN fl a n G ⟨x.r, x.c, x.j + 1, x.st⟩ :=
 ⟨h.inv.no hc hj hg, by rw [← iW (DI h.r hc hj hg)]; exact h.same⟩
theorem sN.yes (hN : Net fl n) (hG : ∀ i, -1 ≤ G i ∧ G i ≤ 1) (h : sN fl a n G x) (hc : ¬ n ≤ x.c) (hj : ¬ (bP fl a x.c).length ≤ x.j) (hg : lf fl G x.st x.c (nth (bP fl a x.c) x.j) = true) (hr : ¬ x.r + 1 = n) : sN fl a n G ⟨x.r, x.c, x.j + 1, mg fl G x.st x.c (nth (bP fl a x.c) x.j)⟩ :=
 ⟨h.inv.yes hN hG hc hj hg hr, by rw [← iW (zQ h.r hc hj hg hr)]; exact h.same⟩
structure Found (fl : List cB) (a : List Int) (n : Nat) (G : Nat → Int) (st : td) (v : Nat) : Prop where
  found : ∃ R T τ, Gh fl a n G (n - 1) st R T τ ∧ v < n ∧ R v = n
  at_ : st.at_ = v
  same : cQ fl a n G = pG fl st (fm (cP fl st) n v)
  len : st.by_.length = n
theorem sN.last (hN : Net fl n) (hG : ∀ i, -1 ≤ G i ∧ G i ≤ 1) (h : sN fl a n G x) (hc : ¬ n ≤ x.c) (hj : ¬ (bP fl a x.c).length ≤ x.j) (hg : lf fl G x.st x.c (nth (bP fl a x.c) x.j) = true) (hr : x.r + 1 = n) :
    ∃ v : Nat, Found fl a n G (mg fl G x.st x.c (nth (bP fl a x.c) x.j)) v := by
  have h1 := h.inv.found hN hG hc hj hg hr
  have h2 : iq fl a n G = some (mg fl G x.st x.c (nth (bP fl a x.c) x.j)) := by
    rw [← h.same]; exact jD (wW h.r hc hj hg hr)
  cases h1 with
  | some _ R T τ v h3 hv e hR =>
    refine ⟨v, ⟨R, T, τ, h3, hv, hR⟩, e, ?_, h3.len.2⟩
    rw [vM h2, e, Int.toNat_natCast]
theorem mh.small (h : mh fl a n G x) (hn : n ≤ 21) (hl : fl.length ≤ 34) : x.st.worth.length = n ∧ x.st.by_.length = n ∧ ∀ v, v < n → 0 ≤ nth x.st.worth v ∧ nth x.st.worth v ≤ 40000 := by
 obtain ⟨R, T, τ, h1, h2, _⟩ := h.gh
 refine ⟨h1.len.1, h1.len.2, fun v hv => ?_⟩
 have h3 := h1.le v hv
 have h4 := h.r
 have h5 := h.c
 have h6 := h.j.1
 have e1 : x.r * (n * (2 * fl.length)) ≤ 21 * (21 * 68) := Nat.mul_le_mul (by omega) (Nat.mul_le_mul hn (by omega))
 have e2 : x.c * (2 * fl.length) ≤ 21 * 68 := Nat.mul_le_mul (by omega) (by omega)
 omega
variable {st : td} {v s p : Nat}
theorem Found.chain (hN : Net fl n) (h : Found fl a n G st v) {k : Nat} (hk : k < n) : fm (cP fl st) k v < n ∧ Open fl a (nth st.by_ (fm (cP fl st) k v)) ∧ (nth st.by_ (fm (cP fl st) k v)).iH fl = (fm (cP fl st) (k + 1) v : Nat) := by
 obtain ⟨R, T, τ, h1, h2, h3⟩ := h.found
 obtain ⟨a1, a2⟩ := A7 hN h1 h2 h3 k (by omega)
 obtain ⟨b1, _⟩ := h1.way _ a1 (by omega)
 refine ⟨a1, b1, ?_⟩
 have := (hN.way b1.1).1
 show _ = ((((nth st.by_ (fm (cP fl st) k v)).iH fl).toNat : Nat) : Int)
 omega
structure Ow (fl : List cB) (a : List Int) (n : Nat) (st : td) (s p : Nat) (x : Nat × List Way) : Prop where
  at_ : x.1 < n ∧ Open fl a (nth st.by_ x.1) ∧ (nth st.by_ x.1).iH fl = (cP fl st x.1 : Nat)
  ix : ∃ i, i ≤ p ∧ x.1 = fm (cP fl st) i s ∧ x.2.length = i
  same : n7 (DC fl st s) x = pG fl st s
theorem QZ.iH {T : Nat → Nat} (hN : Net fl n) (h : QZ fl a n G st T s) (t : Nat) : fm (cP fl st) t s < n ∧ Open fl a (nth st.by_ (fm (cP fl st) t s)) ∧ (nth st.by_ (fm (cP fl st) t s)).iH fl = (cP fl st (fm (cP fl st) t s) : Nat) := by
 refine ⟨h.at_ t, (h.way t).1, ?_⟩
 have := (hN.way (h.way t).1.1).1
 show _ = ((((nth st.by_ (fm (cP fl st) t s)).iH fl).toNat : Nat) : Int)
 omega
theorem E8 {x : Nat × List Way} (h : ¬ (¬ x.2 = [] ∧ x.1 = s)) : DC fl st s x = .inl (cP fl st x.1, x.2 ++ [nth st.by_ x.1]) := if_neg h
theorem Ea {x : Nat × List Way} (h : ¬ x.2 = [] ∧ x.1 = s) : DC fl st s x = .inr x.2 := if_pos h
theorem Ow.next {T : Nat → Nat} (hN : Net fl n) (hC : QZ fl a n G st T s) (hp : fm (cP fl st) p s = s) (hp1 : 1 ≤ p) {x : Nat × List Way} (h : Ow fl a n st s p x) (hc : ¬ (¬ x.2 = [] ∧ x.1 = s)) :
 Ow fl a n st s p (cP fl st x.1, x.2 ++ [nth st.by_ x.1]) ∧ x.2.length < p := by
 obtain ⟨i, h1, h2, h3⟩ := h.ix
 have hi : i < p := by
  by_cases e : i = p
  ·exfalso; apply hc
   subst e
   exact ⟨fun e => by rw [e] at h3; simp at h3; omega, h2.trans hp⟩
  omega
 have e : cP fl st x.1 = fm (cP fl st) (i + 1) s := by rw [h2]; rfl
 refine ⟨⟨?_, ⟨i + 1, hi, e, by rw [List.length_append, h3]; rfl⟩, ?_⟩, by omega⟩
 ·show cP fl st x.1 < n ∧ Open fl a (nth st.by_ (cP fl st x.1)) ∧ _ = ((cP fl st (cP fl st x.1) : Nat) : Int)
  rw [e]; exact hC.iH hN (i + 1)
 rw [← iW (E8 hc)]; exact h.same
theorem Ow.end {x : Nat × List Way} (h : Ow fl a n st s p x) (hc : ¬ x.2 = [] ∧ x.1 = s) : x.2 = pG fl st s := by
 rw [← h.same]; exact (jD (Ea hc)).symm
theorem Found.SW (hN : Net fl n) (h : Found fl a n G st v) : ∃ T p, QZ fl a n G st T (fm (cP fl st) n v) ∧ 1 ≤ p ∧ p ≤ n ∧ fm (cP fl st) p (fm (cP fl st) n v) = fm (cP fl st) n v ∧ Ow fl a n st (fm (cP fl st) n v) p (fm (cP fl st) n v, []) := by
 obtain ⟨R, T, τ, h1, h2, h3⟩ := h.found
 have hC := I7 hN h1 h2 h3
 obtain ⟨p, p1, p2, p3⟩ := hC.back
 exact ⟨T, p, hC, p1, p2, p3, ⟨hC.iH hN 0, ⟨0, Nat.zero_le _, rfl, rfl⟩, rfl⟩⟩
structure P8 (fl : List cB) (n : Nat) (G : Nat → Int) (a b : List Int) : Prop where
  feas : iG fl n b
  same : n7 (stepG fl n G) b = gu fl n G a
theorem Dw {b : List Int} (e : cQ fl b n G = []) : stepG fl n G b = .inr b := if_pos e
theorem EH {b : List Int} (e : ¬ cQ fl b n G = []) : stepG fl n G b = .inl (eD b (cQ fl b n G) (fK fl b 300 (cQ fl b n G))) := if_neg e
theorem P8.done {b : List Int} (h : P8 fl n G a b) (e : cQ fl b n G = []) : b = gu fl n G a := by
 rw [← h.same]; exact (jD (Dw e)).symm
theorem P8.next {b : List Int} (hN : Net fl n) (hn : 0 < n) (hB : Bd fl) (hG : ∀ i, -1 ≤ G i ∧ G i ≤ 1) (h : P8 fl n G a b) (e : ¬ cQ fl b n G = []) :
 P8 fl n G a (eD b (cQ fl b n G) (fK fl b 300 (cQ fl b n G))) ∧ (300 * fl.length - l6 fl G (eD b (cQ fl b n G) (fK fl b 300 (cQ fl b n G)))).toNat < (300 * fl.length - l6 fl G b).toNat ∧ FN fl b n G (cQ fl b n G) := by
 rcases vD (a := b) hN hn hG with ⟨e', _⟩ | hc
 ·exact absurd e' e
 have hb := uy h.feas hc
 refine ⟨⟨hb.feas, ?_⟩, ?_, hc⟩
 ·rw [← h.same]; exact (iW (EH e)).symm
 have h1 := hb.more
 have h2 := Gz hB hb.feas.1 hG
 omega
end
def jH (has : Nat → Bool) (x : List Int) (k : Nat) : Int := cw (fun i => if has i = true then nth x i else 0) k
theorem Hh {has : Nat → Bool} {x : List Int} {k : Nat} (h : has k = true) : jH has x k + nth x k = jH has x (k + 1) := by
 show _ = jH has x k + (if _ then _ else _); rw [if_pos h]
theorem JV {has : Nat → Bool} {x : List Int} {k : Nat} (h : has k = false) : jH has x k = jH has x (k + 1) := by
 show _ = jH has x k + (if _ then _ else _); rw [if_neg (by rw [h]; decide)]; omega
theorem Hz {has : Nat → Bool} {x : List Int} {k : Nat} (h : ∀ i, i < k → 0 ≤ nth x i ∧ nth x i ≤ 300) : -(300 * (k : Int)) ≤ jH has x k ∧ jH has x k ≤ 300 * k := by
 refine pO (b := 300) fun i hi => ?_
 have := h i hi
 split <;> omega
theorem MI {has : Nat → Bool} {less : Bool} {i : Nat} (h : has i = false) : cy has less i = 0 := by unfold cy; rw [h]; cases less <;> rfl
theorem AP {has : Nat → Bool} {less : Bool} {i : Nat} (h : has i = true) : cy has less i = if less = true then -1 else 1 := by unfold cy; rw [h]; cases less <;> rfl
theorem NQ {has : Nat → Bool} {less : Bool} {w : Way} (h : has w.ix = false) : 0 = gM (cy has less) w := by
 unfold gM yc; rw [MI h]; cases w.more <;> rfl
theorem Ms {has : Nat → Bool} {less : Bool} {w : Way} (h : has w.ix = true) (e : w.more ≠ less) : 1 = gM (cy has less) w := by
 unfold gM yc; rw [AP h]
 cases hm : w.more <;> cases hl : less <;> first | rfl | exact absurd (hm.trans hl.symm) e
theorem NF {has : Nat → Bool} {less : Bool} {w : Way} (h : has w.ix = true) (e : w.more = less) : -1 = gM (cy has less) w := by
 unfold gM yc; rw [AP h, e]
 cases less <;> rfl
end Go.Proofs.YtelbollidfdcjaaGreat
namespace Go.Proofs.YtelbollidfdcjaaGreat
open Go Go.T
set_option maxHeartbeats 16000000
theorem QN : Tryz.prog.underlying 4 = some .bool := Tryz.underlying4
section
variable {fl : List cB} {a : List Int} {n : Nat} {G : Nat → Int} {st : td} {r c j : Nat} {w : Way}
def nk (fl : List cB) (G : Nat → Int) (st : td) (c : Nat) (w : Way) : td := if lf fl G st c w = true then mg fl G st c w else st
theorem qZ (h : nth st.worth c + gM G w > nth st.worth (w.fin fl).toNat) : nk fl G st c w = mg fl G st c w := if_pos (decide_eq_true h)
theorem tH (h : ¬ nth st.worth c + gM G w > nth st.worth (w.fin fl).toNat) : nk fl G st c w = st := if_neg (by rw [show lf fl G st c w = false from decide_eq_false h]; decide)
theorem sN.P0 (hN : Net fl n) (hG : ∀ i, -1 ≤ G i ∧ G i ≤ 1) (h : sN fl a n G ⟨r, c, j, st⟩) (hc : c < n) (hj : j < (bP fl a c).length) (hg : nth st.worth c + gM G (nth (bP fl a c) j) > nth st.worth ((nth (bP fl a c) j).fin fl).toNat) (hr : ¬ (r : Int) = n - 1) : sN fl a n G ⟨r, c, j + 1, nk fl G st c (nth (bP fl a c) j)⟩ := by
 rw [qZ hg]; exact h.yes hN hG (Nat.not_le.2 hc) (Nat.not_le.2 hj) (decide_eq_true hg) (by show ¬ r + 1 = n; intro e; apply hr; rw [← e]; show (r : Int) = ((r + 1 : Nat) : Int) - 1; omega)
theorem sN.Qe (h : sN fl a n G ⟨r, c, j, st⟩) (hc : c < n) (hj : j < (bP fl a c).length) (hg : ¬ nth st.worth c + gM G (nth (bP fl a c) j) > nth st.worth ((nth (bP fl a c) j).fin fl).toNat) : sN fl a n G ⟨r, c, j + 1, nk fl G st c (nth (bP fl a c) j)⟩ := by
 rw [tH hg]; exact h.no (Nat.not_le.2 hc) (Nat.not_le.2 hj) (decide_eq_false hg)
theorem Qr (h : nth st.worth c + gM G w > nth st.worth (w.fin fl).toNat) : st.worth.set (w.fin fl).toNat (nth st.worth c + gM G w) = (nk fl G st c w).worth := by rw [qZ h]; rfl
theorem RN (h : nth st.worth c + gM G w > nth st.worth (w.fin fl).toNat) : st.by_.set (w.fin fl).toNat w = (nk fl G st c w).by_ := by rw [qZ h]; rfl
theorem Rb (h : nth st.worth c + gM G w > nth st.worth (w.fin fl).toNat) : w.fin fl = (nk fl G st c w).at_ := by rw [qZ h]; rfl
theorem RY (h : ¬ nth st.worth c + gM G w > nth st.worth (w.fin fl).toNat) : st.worth = (nk fl G st c w).worth := by rw [tH h]
theorem Rf (h : ¬ nth st.worth c + gM G w > nth st.worth (w.fin fl).toNat) : st.by_ = (nk fl G st c w).by_ := by rw [tH h]
theorem RW (h : ¬ nth st.worth c + gM G w > nth st.worth (w.fin fl).toNat) : st.at_ = (nk fl G st c w).at_ := by rw [tH h]
theorem sN.hit (hN : Net fl n) (hG : ∀ i, -1 ≤ G i ∧ G i ≤ 1) (h : sN fl a n G ⟨r, c, j, st⟩) (hc : c < n) (hj : j < (bP fl a c).length) (hg : nth st.worth c + gM G (nth (bP fl a c) j) > nth st.worth ((nth (bP fl a c) j).fin fl).toNat) (hr : (r : Int) = n - 1) :
 ∃ (v : Nat) (s' : td), st.worth.set ((nth (bP fl a c) j).fin fl).toNat (nth st.worth c + gM G (nth (bP fl a c) j)) = s'.worth ∧ st.by_.set ((nth (bP fl a c) j).fin fl).toNat (nth (bP fl a c) j) = s'.by_ ∧ (nth (bP fl a c) j).fin fl = ((v : Nat) : Int) ∧ Found fl a n G s' v := by
 obtain ⟨v, hv⟩ := h.last hN hG (Nat.not_le.2 hc) (Nat.not_le.2 hj) (decide_eq_true hg) (by show r + 1 = n; have := h.inv.r; omega)
 exact ⟨v, _, rfl, rfl, hv.at_, hv⟩
theorem On {e : List Way} {s : Nat} (h : (decide ((e.length : Int) = 0) || !decide ((c : Int) = (s : Int))) = true) : ¬ (¬ e = [] ∧ c = s) := by
 rintro ⟨h1, h2⟩
 have h3 : (e.length : Int) ≠ 0 := fun h => h1 (List.length_eq_zero_iff.1 (by omega))
 rw [decide_eq_false h3, decide_eq_true (by omega)] at h; cases h
theorem Qn {e : List Way} {s : Nat} (h : (decide ((e.length : Int) = 0) || !decide ((c : Int) = (s : Int))) = false) : ¬ e = [] ∧ c = s := by
 rw [Bool.or_eq_false_iff] at h
 refine ⟨fun e0 => ?_, ?_⟩
 ·subst e0; exact absurd h.1 (by decide)
 have := of_decide_eq_true (eo h.2 : decide ((c : Int) = (s : Int)) = true); omega
theorem RJ {e : List Way} {p : Nat} (h : e.length < p) : p - (e ++ [w]).length < p - e.length := by rw [List.length_append]; show p - (e.length + 1) < _; omega
theorem SU {s p : Nat} {x : Nat × List Way} (h : Ow fl a n st s p x) (hc : ¬ x.2 = [] ∧ x.1 = s) : pG fl st s ≠ [] := by rw [← h.end hc]; exact hc.1
end
attribute [local irreducible] aO fN Way.iH Way.fin Way.room eY eD fA gq over bP cJ dc eZ jt fK iJ kM bh gV gH gM cy cQ gu pG iq nk mg
attribute [local irreducible] gF eX lq nY g7 gx g9 g5 g8 nW gz nT dM fj nM gC oB nth fW dR ay dK bodyPost Exit.then Exit.inBlock Code.wp Code.wpIn n9 hO nO ni gy eU cM cN bodyPostM dO
set_option maxRecDepth 100000 in
theorem n6 (y : aj) (fl : List cB) (a : List Int) (h : K3 y fl a) : eU Tryz.prog 119 [1000] [(1000, Cont.vec c7 3 a)] [Ty.pp (dZ y fl 1000 fl.length)] [(1000, Cont.vec c7 3 (bh fl (y.cells + 1) a).2.2)] (Ty.bool (!(bh fl (y.cells + 1) a).2.1)) := by
 refine ff Tryz.func119 rfl (by decide) Tryz.ntmps119 (by exact Nat.le_of_ble_eq_true rfl) fun w0 M0 => ?_
 refine aE (aB (dF rfl (aD (aC (aE (aB (jV rfl ?_)))))))
 refine dI [(1000, 1000)] [] [(1000, Cont.vec c7 3 (bh fl (y.cells + 1) a).2.2)] (FH y fl a h) rfl rfl (aN bW (e9 (aN (aN (aN (aN (aN (aN bW (dV (by exact List.mem_cons_self))) (aU rfl rfl)) (aU rfl rfl)) (aU rfl rfl)) (aU rfl rfl)) (aU rfl rfl)))) (cz (a := 1000) (b := 1000) (by exact List.mem_cons_self) rfl (bt (by exact List.mem_cons_self) rfl) pre_nil) (bk (a := 1000) (b := 1000) (by decide) rfl (bt (by decide) rfl) post_nil) (aU rfl rfl) ?_
 refine rH rfl (bN rfl rfl (bN rfl rfl (bZ rfl (dF rfl (aD (aC (aE (aB (eF rfl ?_)))))))))
 refine eJ rfl (dF rfl (aD (aC (az ?_))))
 refine jJ [1000] rfl rfl (by decide) (by repeat (first | exact gm | refine eO rfl (bt (by decide) rfl) ?_)) ?_
 all_goals exact iw (aU rfl rfl)
set_option maxRecDepth 100000 in
theorem F9 (th : Ty) (h1 : th.deps = []) (h2 : th.cdeps = []) (has : Nat → Bool) (less : Bool) (w : Way) (hf : pJ Tryz.prog (Ty.nd th h1 h2) [Ty.int .i64 ((w.ix : Nat) : Int)] (Ty.bool (has w.ix))) : dK Tryz.prog 202 [Ty.agg [Ty.nd th h1 h2, Ty.bool less], Ty.agg (gQ.tys w)] (Ty.int .i64 (gM (cy has less) w)) := by
 refine au Tryz.func202 rfl (by decide) Tryz.ntmps202 (by exact Nat.le_of_ble_eq_true rfl) fun w0 M0 => ?_
 refine aE (aB (bH rfl (bH rfl (bZ rfl (aD (aC (aE (aE (aB ?_)))))))))
 refine aJ rfl rfl rfl rfl rfl (by decide) ?_
 refine aL rfl rfl rfl rfl ?_
 refine aJ rfl rfl rfl rfl rfl (by decide) ?_
 refine aL rfl rfl rfl rfl (fC rfl hf rfl (eJ rfl (aD (aC ?_))))
 refine cF rfl (fun hc1 => ?_) (fun hc1 => ?_)
 ·
  refine aE (aB (bZ rfl (aD (aC (az (aS (bU rfl rfl ?_)))))))
  all_goals skip
  all_goals exact av rfl rfl (congrArg (Ty.int .i64) (NQ (lp hc1)))
 refine af (aC (aE (aE (aB ?_))))
 refine aJ rfl rfl rfl rfl rfl (by decide) ?_
 refine aL rfl rfl rfl rfl ?_
 refine aJ rfl rfl rfl rfl rfl (by decide) ?_
 refine aL rfl rfl rfl rfl (BZ QN rfl rfl (aD (aC ?_)))
 refine c9 rfl (fun hc2 => ?_) (fun hc2 => ?_)
 ·
  refine aE (aB (bZ rfl (aD (aC (az (aS (bU rfl rfl ?_)))))))
  all_goals skip
  all_goals exact av rfl rfl (congrArg (Ty.int .i64) (Ms (eo hc1) hc2))
 refine af (aC (aE (aB (bZ rfl (aD (aC (az (bU rfl rfl ?_))))))))
 all_goals skip
 all_goals exact av rfl rfl (congrArg (Ty.int .i64) (NF (eo hc1) hc2))
set_option maxRecDepth 100000 in
theorem Jj (y : aj) (fl : List cB) (a : List Int) (h : l8 y fl a) (th : Ty) (h1 : th.deps = []) (h2 : th.cdeps = []) (has : Nat → Bool) (hf : ∀ i, i < fl.length → pJ Tryz.prog (Ty.nd th h1 h2) [Ty.int .i64 ((i : Nat) : Int)] (Ty.bool (has i))) (less : Bool) : eU Tryz.prog 195 [1000] [(1000, Cont.vec c7 3 a)] [Ty.pp (dZ y fl 1000 fl.length), Ty.agg [Ty.nd th h1 h2, Ty.bool less]] [(1000, Cont.vec c7 3 a)] (Ty.Iz gQ (cQ fl a (y.cells + 1) (cy has less))) := by
 refine ff Tryz.func195 rfl (by decide) Tryz.ntmps195 (by exact Nat.le_of_ble_eq_true rfl) fun w0 M0 => ?_
 have hal := h.inb.1
 have hN := h.net
 have hfl := h.rE
 have hcl := nx h.right
 have hG := tW (has := has) less
 refine aE (aB (bH rfl (mK rfl (aD (aC (Nr (aE (aB (jV rfl ?_)))))))))
 refine dr [] (oH y h.right) rfl (aW (jk (l1 := bC y) (l2 := [Ty.sl dw fl, Ty.vs 1000 fl.length]) rfl rfl) cL) (by exact dJ _ _) ?_
 refine bp rfl rfl (by omega) (by omega) ?_
 refine bZ rfl (aD (aC (aE (cH mixed rfl (bG rfl ?_)))))
 refine qV (E := c7) (x0 := 0) rfl rfl rfl rfl rfl rfl rfl (by decide) rfl (by omega) (by (dsimp only; omega)) (by omega) ?_
 refine bG rfl ?_
 refine qV (E := gQ) (x0 := default) rfl rfl rfl rfl rfl rfl rfl (by decide) rfl (by omega) (by (dsimp only; omega)) (by omega) ?_
 refine SG rfl (SG rfl (aD ?_))
 refine ⟨by kernel_rfl, ?_⟩
 refine aC (aE (aB (jV rfl ?_)))
 refine dI [(1000, 1000)] [] [(1000, Cont.vec c7 3 a)] (Jk y fl a h) rfl rfl (aN bW (e9 (aN (aN (aN (aN (aN (aN bW (dV (by exact List.mem_cons_self))) (aU rfl rfl)) (aU rfl rfl)) (aU rfl rfl)) (aU rfl rfl)) (aU rfl rfl)))) (cz (a := 1000) (b := 1000) (by exact List.mem_cons_self) rfl (bt (by exact List.mem_cons_self) rfl) pre_nil) (bk (a := 1000) (b := 1000) (by decide) rfl (bt (by decide) rfl) post_nil) (aU rfl rfl) ?_
 refine PX rfl (aD (aC (aE (aB (bZ rfl (aD (aC (aE (Mt ?_)))))))))
 refine aC (aE (aE (aB (bG rfl (bG rfl (aD (aC (aZ ?_))))))))
 refine bz (fun (x : {x : Nat × td // sN fl a (y.cells + 1) (cy has less) ⟨x.1, 0, 0, x.2⟩ ∧ x.2.at_ = -1}) => live [(0, Ty.pp (dZ y fl 1000 fl.length)), (3, Ty.pp [Ty.nd th h1 h2, Ty.bool less]), (5, Ty.int .i64 ((y.cells + 1) : Nat)), (6, Ty.vs 23 (y.cells + 1)), (7, Ty.vs 25 (y.cells + 1)), (8, Ty.pm KI.enc (MJ gQ) (eY fl a fl.length)), (27, Ty.int .i64 ((y.cells + 1) : Nat)), (28, Ty.int .i64 ((x.1.1 : Nat) : Int))] [(1000, Cont.vec c7 3 a), (23, Cont.vec c7 3 x.1.2.worth), (25, Cont.vec gQ 199 x.1.2.by_)]) (fun x => (y.cells + 1) - x.1.1) (⟨(0, O8 (y.cells + 1)), R8 (by omega), rfl⟩) ?_ fun x => ?_
 ·(refine cV.mk' ?_ ?_ <;> (repeat' (first | exact aH | exact aI | refine aA ?_ (Ty.aT _) | refine aA ?_ (Ty.aF _) | refine aG rfl (Cont.aF _) ?_)))
 have hxr : x.1.1 < (y.cells + 1) := x.2.1.inv.r
 have hxs : x.1.2.worth.length = (y.cells + 1) ∧ x.1.2.by_.length = (y.cells + 1) := ⟨(x.2.1.inv.small (by omega) hfl).1, (x.2.1.inv.small (by omega) hfl).2.1⟩
 refine aE (aB (bA rfl rfl rfl (aD (aC (aE ?_)))))
 refine qn rfl (decide_eq_true (by show ((x.1.1 : Nat) : Int) < ((y.cells + 1) : Nat); have : x.1.1 < (y.cells + 1) := hxr; omega)) ?_
 refine af (aC (aE (aZ (aE (aB (bG rfl (bZ rfl (aD (aC ?_)))))))))
 refine aE (aB (bZ rfl (aD (aC (aE (aE (aB (bG rfl (bG rfl ?_)))))))))
 refine aD (aC (aZ ?_))
 refine bz (fun (z : {z : Nat × td // sN fl a (y.cells + 1) (cy has less) ⟨x.1.1, z.1, 0, z.2⟩}) => live [(0, Ty.pp (dZ y fl 1000 fl.length)), (3, Ty.pp [Ty.nd th h1 h2, Ty.bool less]), (5, Ty.int .i64 ((y.cells + 1) : Nat)), (6, Ty.vs 23 (y.cells + 1)), (7, Ty.vs 25 (y.cells + 1)), (8, Ty.pm KI.enc (MJ gQ) (eY fl a fl.length)), (9, Ty.int .i64 z.1.2.at_), (10, Ty.int .i64 ((x.1.1 : Nat) : Int)), (27, Ty.int .i64 ((y.cells + 1) : Nat)), (28, Ty.int .i64 ((x.1.1 : Nat) : Int)), (31, Ty.int .i64 ((y.cells + 1) : Nat)), (32, Ty.int .i64 ((z.1.1 : Nat) : Int))] [(1000, Cont.vec c7 3 a), (23, Cont.vec c7 3 z.1.2.worth), (25, Cont.vec gQ 199 z.1.2.by_)]) (fun z => (y.cells + 1) - z.1.1) (⟨(0, x.1.2), x.2.1⟩) ?_ fun z => ?_
 ·(refine cV.mk' ?_ ?_ <;> (repeat' (first | exact aH | exact aI | refine aA ?_ (Ty.aT _) | refine aA ?_ (Ty.aF _) | refine aG rfl (Cont.aF _) ?_ | refine aA ?_ ?_)))
  all_goals exact Ty.bD x.2.2.symm
 have hzc : z.1.1 ≤ (y.cells + 1) := z.2.inv.c
 have hzs : z.1.2.worth.length = (y.cells + 1) ∧ z.1.2.by_.length = (y.cells + 1) := ⟨(z.2.inv.small (by omega) hfl).1, (z.2.inv.small (by omega) hfl).2.1⟩
 refine aE (aB (bA rfl rfl rfl (aD (aC (aE ?_)))))
 refine ah rfl (fun hc2 => ?_) (fun hc2 => ?_)
 ·
  refine af (aC (aE (aZ (aE (aB (bG rfl (bZ rfl (aD (aC ?_)))))))))
  refine aE (aB (Pq rfl (bG rfl ?_)))
  refine zI KI (z0 := []) rfl rfl (sZ _) oN vm B7 ?_
  refine b9 (E := gQ) (xs := pI (eY fl a fl.length) ((z.1.1 : Nat) : Int)) rfl rfl rfl ?_
  refine bG rfl (aD (aC ?_))
  refine gl (s := 37) rfl (show (Ty.sl gQ (pI (eY fl a fl.length) ((z.1.1 : Nat) : Int))).Sub (Ty.sl gQ (bP fl a z.1.1)) from Ty.EG tA) ?_
  refine gl (s := 38) rfl (Ty.bD (congrArg (fun l : List Way => ((l.length : Nat) : Int)) (tA (c := ((z.1.1 : Nat) : Int))))) ?_
  refine aZ ?_
  refine bz (fun (u : {u : Nat × td // sN fl a (y.cells + 1) (cy has less) ⟨x.1.1, z.1.1, u.1, u.2⟩}) => live [(0, Ty.pp (dZ y fl 1000 fl.length)), (3, Ty.pp [Ty.nd th h1 h2, Ty.bool less]), (5, Ty.int .i64 ((y.cells + 1) : Nat)), (6, Ty.vs 23 (y.cells + 1)), (7, Ty.vs 25 (y.cells + 1)), (8, Ty.pm KI.enc (MJ gQ) (eY fl a fl.length)), (9, Ty.int .i64 u.1.2.at_), (10, Ty.int .i64 ((x.1.1 : Nat) : Int)), (11, Ty.int .i64 ((z.1.1 : Nat) : Int)), (27, Ty.int .i64 ((y.cells + 1) : Nat)), (28, Ty.int .i64 ((x.1.1 : Nat) : Int)), (31, Ty.int .i64 ((y.cells + 1) : Nat)), (32, Ty.int .i64 ((z.1.1 : Nat) : Int)), (37, Ty.sl gQ (bP fl a z.1.1)), (38, Ty.int .i64 (bP fl a z.1.1).length), (39, Ty.int .i64 ((u.1.1 : Nat) : Int))] [(1000, Cont.vec c7 3 a), (23, Cont.vec c7 3 u.1.2.worth), (25, Cont.vec gQ 199 u.1.2.by_)]) (fun u => (bP fl a z.1.1).length - u.1.1) (⟨(0, z.1.2), z.2⟩) ?_ fun u => ?_
  ·(refine cV.mk' ?_ ?_ <;> (repeat' (first | exact aH | exact aI | refine aA ?_ (Ty.aT _) | refine aA ?_ (Ty.aF _) | refine aG rfl (Cont.aF _) ?_)))
  have hus : u.1.2.worth.length = (y.cells + 1) ∧ u.1.2.by_.length = (y.cells + 1) ∧ ∀ v, v < (y.cells + 1) → 0 ≤ nth u.1.2.worth v ∧ nth u.1.2.worth v ≤ 40000 := u.2.inv.small (by omega) hfl
  have hwl := qE (fl := fl) (a := a) (c := ((z.1.1 : Nat) : Int))
  refine aE (aB (bA rfl rfl rfl (aD (aC (aE ?_)))))
  refine ah rfl (fun hc3 => ?_) (fun hc3 => ?_)
  ·
   refine af (aC (aE (aZ (aE ?_))))
   have hzn : z.1.1 < (y.cells + 1) := by omega
   have hun : u.1.1 < (bP fl a z.1.1).length := by omega
   have hwo := (nr.1 (cT (xs := bP fl a z.1.1) (k := u.1.1) hun)).1
   have hwj := hwo
   have hwf := (hN.way hwo.1).2
   have haw := Fg hG (nth (bP fl a z.1.1) u.1.1)
   have hu1 := hus.2.2 z.1.1 hzn
   have hu2 := hus.2.2 ((nth (bP fl a z.1.1) u.1.1).fin fl).toNat (by omega)
   refine aB ?_
   refine aq rfl rfl rfl rfl rfl rfl (by omega) ?_
   refine aY rfl rfl rfl (by exact Nat.le_of_ble_eq_true rfl) ?_
   refine bf rfl (by exact List.cons_ne_nil _ _) rfl ?_
   refine bS rfl rfl (by decide) rfl rfl rfl rfl rfl rfl ?_
   refine aD (aC (aE (aB (jV rfl ?_))))
   refine bu rfl rfl (by decide) rfl rfl (by exact Nat.le_of_ble_eq_true rfl) ?_
   refine dr [1000] (Fj y fl a h (nth (bP fl a z.1.1) u.1.1) hwj.1) rfl (aW (jy (aW (bQ (bR rfl rfl)) (aW (bQ (bR rfl rfl)) (aW (bQ (bR rfl rfl)) (aW (bQ (bR rfl rfl)) (aW (bQ (bR rfl rfl)) (aW (jS rfl hal (by decide) rfl) cL))))))) (aW (bQ (bR rfl rfl)) cL)) (by exact ql (by repeat (first | exact qm | refine oU (by exact dJ _ _) ?_))) ?_
   refine rH rfl (bN rfl rfl (bN rfl rfl (bZ rfl (bZ rfl (aD (aC (aE (cH mixed rfl (MZ rfl ?_)))))))))
   refine bG rfl ?_
   refine dS rfl rfl rfl rfl rfl (by omega) ?_
   refine fL rfl rfl rfl (by decide) rfl rfl (by omega) rfl ?_
   refine aY rfl rfl rfl (by exact Nat.le_of_ble_eq_true rfl) ?_
   refine bu rfl rfl (by decide) rfl rfl (by exact Nat.le_of_ble_eq_true rfl) ?_
   refine ak (F9 th h1 h2 has less (nth (bP fl a z.1.1) u.1.1) (hf _ hwj.1)) rfl rfl rfl rfl rfl ?_
   refine bp rfl rfl (by omega) (by omega) ?_
   refine MZ rfl (bG rfl ?_)
   refine gX rfl rfl rfl rfl rfl (by omega) (by omega) ?_
   refine fL rfl rfl rfl (by decide) rfl rfl (by omega) rfl ?_
   refine bA rfl rfl rfl (aD ?_)
   refine ⟨by kernel_rfl, ?_⟩
   refine aC ?_
   refine ah rfl (fun hc4 => ?_) (fun hc4 => ?_)
   ·
    refine aE (cH mixed rfl (MZ rfl (bG rfl (MZ rfl (bG rfl (MZ rfl (bG rfl ?_)))))))
    refine dS rfl rfl rfl rfl rfl (by omega) ?_
    refine fL rfl rfl rfl (by decide) rfl rfl (by omega) rfl ?_
    refine aY rfl rfl rfl (by exact Nat.le_of_ble_eq_true rfl) ?_
    refine bu rfl rfl (by decide) rfl rfl (by exact Nat.le_of_ble_eq_true rfl) ?_
    refine ak (F9 th h1 h2 has less (nth (bP fl a z.1.1) u.1.1) (hf _ hwj.1)) rfl rfl rfl rfl rfl ?_
    refine bp rfl rfl (by omega) (by omega) ?_
    refine bu rfl rfl (by decide) rfl rfl (by exact Nat.le_of_ble_eq_true rfl) ?_
    refine bG rfl ?_
    refine gX rfl rfl rfl rfl rfl (by omega) (by omega) ?_
    refine j4 rfl rfl rfl (by decide) rfl rfl (by exact (rfl : _ = Ty.int _ _)) rfl (by omega) (by decide) rfl rfl ?_
    refine gX rfl rfl rfl rfl rfl (by omega) (by omega) ?_
    refine ot (E := gQ) (z := (nth (bP fl a z.1.1) u.1.1)) ((nth (bP fl a z.1.1) u.1.1).fin fl).toNat rfl rfl rfl (by decide) rfl rfl rfl (by omega) ?_
    refine bZ rfl (aD ?_)
    refine ⟨by kernel_rfl, ?_⟩
    refine aC (aE (aB (bG rfl (bG rfl ?_))))
    refine fk rfl rfl (by omega) (by omega) ?_
    refine bA rfl rfl rfl (aD (aC ?_))
    refine ah rfl (fun hc5 => ?_) (fun hc5 => ?_)
    ·
     refine b8 (gk rfl (aQ (aQ (gk rfl (gk rfl (aQ (aQ (gk rfl (aQ ?_)))))))))
     refine gk rfl (aQ (aQ (aa rfl (aC (aE (aE ?_))))))
     obtain ⟨v, st, e1, e2, e3, hFd⟩ := u.2.hit hN hG hzn hun hc4 hc5
     obtain ⟨T, p, hC, p1, p2, p3, hX⟩ := hFd.SW hN
     refine jz (tg := 25) rfl (Cont.dA e2) ?_
     refine gl (s := 9) rfl (Ty.bD e3) ?_
     refine aB (bG rfl (bG rfl (aD (aC (aZ ?_)))))
     refine bz (fun (i : {i : Nat // i ≤ (y.cells + 1)}) => live [(0, Ty.pp (dZ y fl 1000 fl.length)), (5, Ty.int .i64 ((y.cells + 1) : Nat)), (7, Ty.vs 25 (y.cells + 1)), (9, Ty.int .i64 ((fm (cP fl st) i.1 v : Nat) : Int)), (87, Ty.int .i64 ((y.cells + 1) : Nat)), (88, Ty.int .i64 ((i.1 : Nat) : Int))] [(1000, Cont.vec c7 3 a), (25, Cont.vec gQ 199 st.by_)]) (fun i => (y.cells + 1) - i.1) (⟨0, by omega⟩) ?_ fun i => ?_
     ·(refine cV.mk' ?_ ?_ <;> (repeat' (first | exact aH | exact aI | refine aA ?_ (Ty.aT _) | refine aA ?_ (Ty.aF _) | refine aG rfl (Cont.aF _) ?_)))
     refine aE (aB (bA rfl rfl rfl (aD (aC (aE ?_)))))
     refine ah rfl (fun hc6 => ?_) (fun hc6 => ?_)
     ·
      refine af (aC (aE (aZ ?_)))
      have hch := hFd.chain hN (k := i.1) (by omega)
      have hbl := hFd.len
      refine aB (jV rfl (MZ rfl (bG rfl ?_)))
      refine dS rfl rfl rfl rfl rfl (by omega) ?_
      refine lV (fm (cP fl st) i.1 v) rfl rfl rfl (by decide) rfl rfl rfl (by omega) ?_
      refine dr [1000] (BB y fl a (nth st.by_ (fm (cP fl st) i.1 v)) hch.2.1.1) rfl (aW (jy (aW (bQ (bR rfl rfl)) (aW (bQ (bR rfl rfl)) (aW (bQ (bR rfl rfl)) (aW (bQ (bR rfl rfl)) (aW (bQ (bR rfl rfl)) (aW (jS rfl hal (by decide) rfl) cL))))))) (aW (bQ (bR rfl rfl)) cL)) (by exact dJ _ _) ?_
      refine bZ rfl (aD (bI (aC (aB ?_))))
      refine bp rfl rfl (by omega) (by omega) ?_
      refine bG rfl (aD ?_)
      refine bL (⟨i.1 + 1, by omega⟩) ?_ (by show (y.cells + 1) - (i.1 + 1) < (y.cells + 1) - i.1; omega)
      (refine cV.mk' ?_ ?_ <;> (repeat' (first | exact aH | exact aI | refine aA ?_ (Ty.aT _) | refine aA ?_ (Ty.aF _) | refine aG rfl (Cont.aF _) ?_ | refine aA ?_ ?_)))
      all_goals skip
      all_goals exact Ty.bD hch.2.2
     refine b8 (aQ (aQ (aa rfl (aC (aE ?_)))))
     have hbl := hFd.len
     have hin : i.1 = (y.cells + 1) := by have := i.2; omega
     refine gl (s := 9) rfl (Ty.bD (by rw [hin] : _ = ((fm (cP fl st) (y.cells + 1) v : Nat) : Int))) ?_
     refine aB (mK rfl (aD (aC (aE (aE (aB (bG rfl (bZ rfl (aD ?_)))))))))
     refine aC (aZ ?_)
     refine bz (fun (c : {c : Nat × List Way // Ow fl a (y.cells + 1) st (fm (cP fl st) (y.cells + 1) v) p c}) => live [(0, Ty.pp (dZ y fl 1000 fl.length)), (7, Ty.vs 25 (y.cells + 1)), (9, Ty.int .i64 ((fm (cP fl st) (y.cells + 1) v : Nat) : Int)), (16, Ty.row gQ 199 118 c.1.2), (17, Ty.int .i64 ((c.1.1 : Nat) : Int))] [(1000, Cont.vec c7 3 a), (25, Cont.vec gQ 199 st.by_)]) (fun c => p - c.1.2.length) (⟨(fm (cP fl st) (y.cells + 1) v, []), hX⟩) ?_ fun c => ?_
     ·(refine cV.mk' ?_ ?_ <;> (repeat' (first | exact aH | exact aI | refine aA ?_ (Ty.aT _) | refine aA ?_ (Ty.aF _) | refine aA ?_ Ty.gU | refine aG rfl (Cont.aF _) ?_)))
      all_goals trace_state
     have hcx := c.2.at_
     have hci : c.1.2.length ≤ p := by obtain ⟨i, i1, _, i3⟩ := c.2.ix; omega
     refine aE (aE (aB (D2 rfl (HT rfl rfl rfl (bA rfl rfl rfl (eF rfl ?_))))))
     apply aM (s := 101) rfl rfl rfl
     ·intro hg; apply aP; (refine bG rfl ?_); refine aD ?_; exact rfl
     ·exact rfl
     ·exact rfl
     apply aM (s := 101) rfl rfl rfl
     ·intro hg; apply aP; (refine bG rfl ?_); refine aD ?_; exact rfl
     ·exact rfl
     ·exact rfl
     apply aM (s := 101) rfl rfl rfl
     ·intro hg; apply aK (s := 102) rfl (by (rw [hg]; rfl)); apply aK (s := 103) rfl (by (rw [hg]; rfl)); apply aP; (refine bA rfl rfl rfl ?_); refine aD ?_; exact rfl
     ·exact rfl
     ·exact rfl
     refine iK rfl rfl (aD (aC ?_))
     refine cF rfl (fun hc7 => ?_) (fun hc7 => ?_)
     ·
      refine af (aC (aE (aZ (aB (D2 rfl (MZ rfl (bG rfl ?_)))))))
      refine dS rfl rfl rfl rfl rfl (by omega) ?_
      refine lV c.1.1 rfl rfl rfl (by decide) rfl rfl rfl (by omega) ?_
      refine bX (E := gQ) (xs := [_]) rfl rfl rfl rfl rfl (by decide) (by decide) (by repeat (first | exact (aV.nil : aV _ _ [] _) | (show aV _ _ ((_, _) :: _) _; apply aV.agg; (· exact (rfl : _ = Ty.agg _))))) (by exact rfl) rfl ?_
      refine dh rfl rfl (by decide) rfl rfl rfl rfl rfl rfl (by decide) (by (simp <;> omega)) (by (simp <;> omega)) ?_
      refine yg rfl (aD (bI (aC (aB (jV rfl (MZ rfl (bG rfl ?_)))))))
      refine dS rfl rfl rfl rfl rfl (by omega) ?_
      refine lV c.1.1 rfl rfl rfl (by decide) rfl rfl rfl (by omega) ?_
      refine dr [1000] (BB y fl a (nth st.by_ c.1.1) hcx.2.1.1) rfl (aW (jy (aW (bQ (bR rfl rfl)) (aW (bQ (bR rfl rfl)) (aW (bQ (bR rfl rfl)) (aW (bQ (bR rfl rfl)) (aW (bQ (bR rfl rfl)) (aW (jS rfl hal (by decide) rfl) cL))))))) (aW (bQ (bR rfl rfl)) cL)) (by exact dJ _ _) ?_
      refine bZ rfl (aD ?_)
      refine bL (⟨(cP fl st c.1.1, c.1.2 ++ [nth st.by_ c.1.1]), (c.2.next hN hC p3 p1 (On hc7)).1⟩) ?_ (by exact RJ (c.2.next hN hC p3 p1 (On hc7)).2)
      (refine cV.mk' ?_ ?_ <;> (repeat' (first | exact aH | exact aI | refine aA ?_ (Ty.aT _) | refine aA ?_ (Ty.aF _) | refine aG rfl (Cont.aF _) ?_ | refine aA ?_ ?_)))
      all_goals skip
      all_goals exact Ty.bD hcx.2.2
     refine b8 (aQ (aQ (aa rfl (aC (aE (aB (D2 rfl (yg rfl (aD ?_)))))))))
     refine aC (az (vG ?_))
     refine jJ [1000] rfl rfl (by decide) (by repeat (first | exact gm | refine eO rfl (bt (by decide) rfl) ?_)) ?_
     all_goals skip
     all_goals exact ET (by decide) rfl (by rw [hFd.same]; exact c.2.end (Qn hc7)) (by rw [hFd.same]; exact SU c.2 (Qn hc7))
    refine af (bI (aC (aB ?_)))
    refine bp rfl rfl (by omega) (by omega) ?_
    refine bG rfl (aD ?_)
    refine bL (⟨(u.1.1 + 1, nk fl (cy has less) u.1.2 z.1.1 (nth (bP fl a z.1.1) u.1.1)), by exact u.2.P0 hN hG hzn hun hc4 hc5⟩) ?_ (by show (bP fl a z.1.1).length - (u.1.1 + 1) < (bP fl a z.1.1).length - u.1.1; omega)
    (refine cV.mk' ?_ ?_ <;> (repeat' (first | exact aH | exact aI | refine aA ?_ (Ty.aT _) | refine aA ?_ (Ty.aF _) | refine aG rfl (Cont.aF _) ?_ | refine aG rfl ?_ ?_ | refine aA ?_ ?_)))
    all_goals skip
    all_goals first | exact Cont.dA (Qr hc4) | exact Cont.dA (RN hc4) | exact Ty.bD (Rb hc4)
   refine af (bI (aC (aB ?_)))
   refine bp rfl rfl (by omega) (by omega) ?_
   refine bG rfl (aD ?_)
   refine bL (⟨(u.1.1 + 1, nk fl (cy has less) u.1.2 z.1.1 (nth (bP fl a z.1.1) u.1.1)), by exact u.2.Qe hzn hun hc4⟩) ?_ (by show (bP fl a z.1.1).length - (u.1.1 + 1) < (bP fl a z.1.1).length - u.1.1; omega)
   (refine cV.mk' ?_ ?_ <;> (repeat' (first | exact aH | exact aI | refine aA ?_ (Ty.aT _) | refine aA ?_ (Ty.aF _) | refine aG rfl (Cont.aF _) ?_ | refine aG rfl ?_ ?_ | refine aA ?_ ?_)))
   all_goals skip
   all_goals first | exact Cont.dA (RY hc4) | exact Cont.dA (Rf hc4) | exact Ty.bD (RW hc4)
  refine b8 (aQ (aQ (aa rfl (bI (aC (aB ?_))))))
  refine bp rfl rfl (by omega) (by omega) ?_
  refine bG rfl (aD ?_)
  refine bL (⟨(z.1.1 + 1, u.1.2), u.2.cell (by show ¬ (y.cells + 1) ≤ z.1.1; omega) (by show (bP fl a z.1.1).length ≤ u.1.1; omega)⟩) ?_ (by show (y.cells + 1) - (z.1.1 + 1) < (y.cells + 1) - z.1.1; omega)
  (refine cV.mk' ?_ ?_ <;> (repeat' (first | exact aH | exact aI | refine aA ?_ (Ty.aT _) | refine aA ?_ (Ty.aF _) | refine aG rfl (Cont.aF _) ?_)))
  all_goals skip
 refine b8 (aQ (aQ (aa rfl (aC (aE (aB (bG rfl (bA rfl rfl rfl (aD ?_)))))))))
 refine aC ?_
 refine ah rfl (fun hc8 => ?_) (fun hc8 => ?_)
 ·
  refine aE (aB (mK rfl (aD (aC (az (bB (aS (aS (bB ?_)))))))))
  refine aS (vG ?_)
  refine jJ [1000] rfl rfl (by decide) (by repeat (first | exact gm | refine eO rfl (bt (by decide) rfl) ?_)) ?_
  all_goals skip
  all_goals exact E0 (z.2.stop (by show (y.cells + 1) ≤ z.1.1; omega) (by assumption))
 refine af (bI (aC (aB ?_)))
 refine bp rfl rfl (by omega) (by omega) ?_
 refine bG rfl (aD ?_)
 refine bL (⟨(x.1.1 + 1, ⟨z.1.2.worth, z.1.2.by_, -1⟩), z.2.round (by show (y.cells + 1) ≤ z.1.1; omega) (by assumption), rfl⟩) ?_ (by show (y.cells + 1) - (x.1.1 + 1) < (y.cells + 1) - x.1.1; omega)
 (refine cV.mk' ?_ ?_ <;> (repeat' (first | exact aH | exact aI | refine aA ?_ (Ty.aT _) | refine aA ?_ (Ty.aF _) | refine aG rfl (Cont.aF _) ?_)))
 all_goals skip
end Go.Proofs.YtelbollidfdcjaaGreat
namespace Go.Proofs.YtelbollidfdcjaaGreat
open Go Go.T
set_option maxHeartbeats 16000000
theorem Ox : Tryz.prog.underlying 28 = some (.slice 3) := by kernel_rfl
theorem QJ : Tryz.prog.underlying 222 = some (.slice 199) := by kernel_rfl
section
variable {y : aj} {fl : List cB} {a : List Int} {n : Nat} {has : Nat → Bool} {xs : List Int}
theorem Rz {G : Nat → Int} (h : iG fl n a) : P8 fl n G a a := ⟨h, rfl⟩
theorem Lx {c : Nat → Bool} {b : Nat} (hl : a.length = (aO y c).length) (hb : b < y.bins.length) : y.kept b 0 < a.length := by rw [hl]; exact GV hb (Nat.zero_le _)
theorem OJ {x : List Int} {i k : Nat} (h : i = k) : jH has x i = jH has x k := by rw [h]
theorem Mn (fl : List cB) (has : Nat → Bool) (x : List Int) : jH has x fl.length = jM fl has x := rfl
theorem NS (hN : Net fl n) (hn : 0 < n) (hB : Bd fl) (h : iG fl n a) : (⟨jM fl has (gu fl n (cy has true) a), jM fl has (gu fl n (cy has false) (Bj fl n has a))⟩ : Span) = iF fl n has := (sP hN hn hB h).2.2.eq.symm
def iM (y : aj) (a : List Int) (k : Nat) : List Int := (List.range k).map fun b => nth a (y.kept b 0)
theorem DM (k : Nat) : iM y a k ++ [nth a (y.kept k 0)] = iM y a (k + 1) := by unfold iM; rw [List.range_succ, List.map_append]; rfl
theorem Cp : iM y a 0 = [] := rfl
theorem E3 (k : Nat) : (iM y a k).length = k := by unfold iM; rw [List.length_map, List.length_range]
theorem told_eq (y : aj) (a : List Int) : (⟨iM y a y.bins.length, a.drop (y.bins.length * (y.D + 1))⟩ : dg) = gN y a := rfl
theorem Jl (h : xs = []) : (Ty.fP (.slice none 0 0)).Sub (Ty.row c7 3 26 xs) := by subst h; exact Ty.gU
theorem lo_eq (fl : List cB) (n : Nat) (has : Nat → Bool) (a : List Int) : gu fl n (cy has true) a = Bj fl n has a := rfl
theorem hi_eq (fl : List cB) (n : Nat) (has : Nat → Bool) (a : List Int) : gu fl n (cy has false) (Bj fl n has a) = yp fl n has a := rfl
end
attribute [local irreducible] aO fN Way.iH Way.fin Way.room eY eD fA gq over bP cJ dc eZ jt fK iJ kM bh gV gH gM cy cQ gu pG iq jH jM iF Bj yp iM aj.kept
attribute [local irreducible] gF eX lq nY g7 gx g9 g5 g8 nW gz nT dM fj nM gC oB nth fW dR ay dK bodyPost Exit.then Exit.inBlock Code.wp Code.wpIn n9 hO nO ni gy eU cM cN bodyPostM dO
set_option maxRecDepth 100000 in
theorem Cy (l : List Int) (h : l.length ≤ 1000) : dK Tryz.prog 172 [Ty.sl c7 l] (Ty.sl c7 l) := by
 refine au Tryz.func172 rfl (by decide) Tryz.ntmps172 (by exact Nat.le_of_ble_eq_true rfl) fun w0 M0 => ?_
 refine aE (aB (mK rfl (aD (aC (aE (aE (aB (ew rfl (FY Ox rfl ?_)))))))))
 refine aD (aC ?_)
 refine zW rfl (fun hc1 => ?_) (fun hc1 => ?_)
 ·
  refine aE (aB (mK rfl (aD (aC (az (aS (bU rfl rfl ?_)))))))
  all_goals skip
  exact gZ hc1
 refine af (aC (aE (aB ?_)))
 refine xx (E := c7) rfl rfl rfl rfl ?_
 refine ew rfl ?_
 refine dh rfl rfl (by decide) rfl rfl rfl rfl rfl rfl (by decide) (by (simp <;> omega)) (by (simp <;> omega)) ?_
 refine yg rfl (aD (aC (az (bU rfl rfl ?_))))
 all_goals exact nB (by decide)
 skip
set_option maxRecDepth 100000 in
theorem Jq (y : aj) (fl : List cB) (a : List Int) (h : l8 y fl a) (hfe : iG fl (y.cells + 1) a) (th : Ty) (h1 : th.deps = []) (h2 : th.cdeps = []) (has : Nat → Bool) (hf : ∀ i, i < fl.length → pJ Tryz.prog (Ty.nd th h1 h2) [Ty.int .i64 ((i : Nat) : Int)] (Ty.bool (has i))) (less : Bool) : eU Tryz.prog 164 [1000] [(1000, Cont.vec c7 3 a)] [Ty.pp (dZ y fl 1000 fl.length), Ty.agg [Ty.nd th h1 h2, Ty.bool less]] [(1000, Cont.vec c7 3 (gu fl (y.cells + 1) (cy has less) a))] (Ty.int .i64 (jM fl has (gu fl (y.cells + 1) (cy has less) a))) := by
 refine ff Tryz.func164 rfl (by decide) Tryz.ntmps164 (by exact Nat.le_of_ble_eq_true rfl) fun w0 M0 => ?_
 have hN := h.net
 have hfl := h.rE
 have hcl := nx h.right
 have hG := tW (has := has) less
 have hn : 0 < (y.cells + 1) := Nat.succ_pos _
 refine aE (aB (bH rfl (bZ rfl (aD (aC (aE (aZ ?_)))))))
 refine bz (fun (b : {b : List Int // P8 fl (y.cells + 1) (cy has less) a b}) => live [(0, Ty.pp (dZ y fl 1000 fl.length)), (3, Ty.pp [Ty.nd th h1 h2, Ty.bool less])] [(1000, Cont.vec c7 3 b.1)]) (fun b => (300 * fl.length - l6 fl (cy has less) b.1).toNat) (⟨a, Rz hfe⟩) ?_ fun b => ?_
 ·(refine cV.mk' ?_ ?_ <;> (repeat' (first | exact aH | exact aI | refine aA ?_ (Ty.aT _) | refine aA ?_ (Ty.aF _) | refine aG rfl (Cont.aF _) ?_)))
 have hF : l8 y fl b.1 := ⟨h.right, h.net, h.bd, b.2.feas.1, h.rE⟩
 have hal := hF.inb.1
 refine aZ (aE (aB (jV rfl ?_)))
 refine aY rfl rfl rfl (by exact Nat.le_of_ble_eq_true rfl) ?_
 refine dI [(1000, 1000)] [] [(1000, Cont.vec c7 3 b.1)] (Jj y fl b.1 hF th h1 h2 has hf less) rfl rfl (aN (aN bW (aU rfl rfl)) (e9 (aN (aN (aN (aN (aN (aN bW (dV (by exact List.mem_cons_self))) (aU rfl rfl)) (aU rfl rfl)) (aU rfl rfl)) (aU rfl rfl)) (aU rfl rfl)))) (cz (a := 1000) (b := 1000) (by exact List.mem_cons_self) rfl (bt (by exact List.mem_cons_self) rfl) pre_nil) (bk (a := 1000) (b := 1000) (by decide) rfl (bt (by decide) rfl) post_nil) (aU rfl rfl) ?_
 refine Sa rfl (aD (aC (aE (aE (aB (SV rfl (LD QJ rfl (aD (aC ?_)))))))))
 refine cF rfl (fun hc1 => ?_) (fun hc1 => ?_)
 ·
  refine b8 (aQ (gk rfl (aQ (aa rfl (aC (aE ?_))))))
  have hb : b.1 = (gu fl (y.cells + 1) (cy has less) a) := b.2.done (List.isEmpty_iff.1 hc1)
  have hF2 : l8 y fl (gu fl (y.cells + 1) (cy has less) a) := by rw [← hb]; exact hF
  have hal2 := hF2.inb.1
  refine jz (tg := 1000) rfl (Cont.dA hb) ?_
  refine aB (bZ rfl (aD (aC (aE (aE (aB (jV rfl (cC rfl ?_))))))))
  refine aJ rfl rfl rfl rfl rfl (by decide) ?_
  refine aL rfl rfl rfl rfl (KP rfl rfl rfl (bG rfl (aD (aC (aZ ?_)))))
  refine bz (fun (i : {i : Nat // i ≤ fl.length}) => live [(0, Ty.pp (dZ y fl 1000 fl.length)), (3, Ty.pp [Ty.nd th h1 h2, Ty.bool less]), (11, Ty.int .i64 (jH has (gu fl (y.cells + 1) (cy has less) a) i.1)), (43, Ty.vs 1000 fl.length), (44, Ty.int .i64 fl.length), (45, Ty.int .i64 (i.1 : Nat))] [(1000, Cont.vec c7 3 (gu fl (y.cells + 1) (cy has less) a))]) (fun i => fl.length - i.1) (⟨0, by omega⟩) ?_ fun i => ?_
  ·(refine cV.mk' ?_ ?_ <;> (repeat' (first | exact aH | exact aI | refine aA ?_ (Ty.aT _) | refine aA ?_ (Ty.aF _) | refine aG rfl (Cont.aF _) ?_ | refine aA ?_ ?_)))
   all_goals exact Ty.bD (by unfold jH; rfl)
  have hi := i.2
  have hup := Hz (has := has) (x := (gu fl (y.cells + 1) (cy has less) a)) (k := i.1) fun q hq => (hF2.Pc (by omega)).1
  refine aE (aB (bA rfl rfl rfl (aD (aC (aE ?_)))))
  refine ah rfl (fun hc2 => ?_) (fun hc2 => ?_)
  ·
   refine af (aC (aE (aZ (aE (aB (bG rfl ?_))))))
   refine dS rfl rfl rfl rfl rfl (by omega) ?_
   refine fL rfl rfl rfl (by decide) rfl rfl (by omega) rfl ?_
   refine bZ rfl (bZ rfl (aD (aC (aE ?_))))
   have hai := (hF2.Pc (show i.1 < fl.length by omega)).1
   refine aB ?_
   refine aJ rfl rfl rfl rfl rfl (by decide) ?_
   refine aL rfl rfl rfl rfl (bG rfl ?_)
   refine fC rfl (hf i.1 (by omega)) rfl ?_
   refine aD (aC ?_)
   refine cF rfl (fun hc3 => ?_) (fun hc3 => ?_)
   ·
    refine aB (bG rfl (bG rfl ?_))
    refine bp rfl rfl (by omega) (by omega) ?_
    refine bZ rfl (aD (bI (aC (aB ?_))))
    refine bp rfl rfl (by omega) (by omega) ?_
    refine bG rfl (aD ?_)
    refine bL (⟨i.1 + 1, by omega⟩) ?_ (by show fl.length - (i.1 + 1) < fl.length - i.1; omega)
    (refine cV.mk' ?_ ?_ <;> (repeat' (first | exact aH | exact aI | refine aA ?_ (Ty.aT _) | refine aA ?_ (Ty.aF _) | refine aG rfl (Cont.aF _) ?_ | refine aA ?_ ?_)))
    all_goals skip
    all_goals exact Ty.bD (Hh hc3)
   refine af (bI (aC (aB ?_)))
   refine bp rfl rfl (by omega) (by omega) ?_
   refine bG rfl (aD ?_)
   refine bL (⟨i.1 + 1, by omega⟩) ?_ (by show fl.length - (i.1 + 1) < fl.length - i.1; omega)
   (refine cV.mk' ?_ ?_ <;> (repeat' (first | exact aH | exact aI | refine aA ?_ (Ty.aT _) | refine aA ?_ (Ty.aF _) | refine aG rfl (Cont.aF _) ?_ | refine aA ?_ ?_)))
   all_goals skip
   all_goals exact Ty.bD (JV hc3)
  refine b8 (aQ (aQ (aa rfl (aC (aE (aB (bG rfl (bZ rfl (aD ?_)))))))))
  refine aC (az ?_)
  refine jJ [1000] rfl rfl (by decide) (by repeat (first | exact gm | refine eO rfl (bt (by decide) rfl) ?_)) ?_
  all_goals skip
  all_goals exact iw (qD rfl rfl (congrArg (Ty.int .i64) ((OJ (by have := i.2; omega)).trans (Mn fl has _))))
 refine af (aC (aE ?_))
 refine gl (s := 5) rfl (show (Ty.Iz gQ (cQ fl b.1 (y.cells + 1) (cy has less))).Sub (Ty.sl gQ (cQ fl b.1 (y.cells + 1) (cy has less))) from Ty.QF) ?_
 have hne : ¬ (cQ fl b.1 (y.cells + 1) (cy has less)) = [] := fun e => by rw [e] at hc1; cases hc1
 have hnx := b.2.next hN hn h.bd hG hne
 have hC := hnx.2.2
 have hlen := hC.rE
 refine aB (bZ rfl (aD (aC (aE (aE (aB (ew rfl (b9 rfl rfl rfl (bG rfl ?_)))))))))
 refine aD (aC (aZ ?_))
 refine bz (fun (j : {j : Nat // j ≤ (cQ fl b.1 (y.cells + 1) (cy has less)).length}) => live [(0, Ty.pp (dZ y fl 1000 fl.length)), (3, Ty.pp [Ty.nd th h1 h2, Ty.bool less]), (5, Ty.sl gQ (cQ fl b.1 (y.cells + 1) (cy has less))), (6, Ty.int .i64 (fK fl b.1 300 ((cQ fl b.1 (y.cells + 1) (cy has less)).take j.1))), (19, Ty.sl gQ (cQ fl b.1 (y.cells + 1) (cy has less))), (20, Ty.int .i64 (cQ fl b.1 (y.cells + 1) (cy has less)).length), (21, Ty.int .i64 (j.1 : Nat))] [(1000, Cont.vec c7 3 b.1)]) (fun j => (cQ fl b.1 (y.cells + 1) (cy has less)).length - j.1) (⟨0, by omega⟩) ?_ fun j => ?_
 ·(refine cV.mk' ?_ ?_ <;> (repeat' (first | exact aH | exact aI | refine aA ?_ (Ty.aT _) | refine aA ?_ (Ty.aF _) | refine aG rfl (Cont.aF _) ?_ | refine aA ?_ ?_)))
  all_goals exact Ty.bD (wv _ _ _)
 have hj := j.2
 refine aE (aB (bA rfl rfl rfl (aD (aC (aE ?_)))))
 refine ah rfl (fun hc4 => ?_) (fun hc4 => ?_)
 ·
  refine af (aC (aE (aZ (aE (aB ?_)))))
  refine aq rfl rfl rfl rfl rfl rfl (by omega) ?_
  refine aY rfl rfl rfl (by exact Nat.le_of_ble_eq_true rfl) ?_
  refine bf rfl (by exact List.cons_ne_nil _ _) rfl ?_
  refine bS rfl rfl (by decide) rfl rfl rfl rfl rfl rfl ?_
  refine aD (aC (aE ?_))
  have hwj := hC.ways _ (cT (xs := (cQ fl b.1 (y.cells + 1) (cy has less))) (k := j.1) (by omega))
  refine aB (jV rfl ?_)
  refine bu rfl rfl (by decide) rfl rfl (by exact Nat.le_of_ble_eq_true rfl) ?_
  refine dr [1000] (Fj y fl b.1 hF (nth (cQ fl b.1 (y.cells + 1) (cy has less)) j.1) hwj.1) rfl (aW (jy (aW (bQ (bR rfl rfl)) (aW (bQ (bR rfl rfl)) (aW (bQ (bR rfl rfl)) (aW (bQ (bR rfl rfl)) (aW (bQ (bR rfl rfl)) (aW (jS rfl hal (by decide) rfl) cL))))))) (aW (bQ (bR rfl rfl)) cL)) (by exact ql (by repeat (first | exact qm | refine oU (by exact dJ _ _) ?_))) ?_
  refine rH rfl (bN rfl rfl (bN rfl rfl (bZ rfl (bZ rfl (aD (aC (aB (bG rfl (bG rfl ?_)))))))))
  refine bX (E := c7) (xs := [_]) rfl rfl rfl rfl rfl (by decide) (by decide) (by repeat (first | exact (aV.nil : aV _ _ [] _) | (show aV _ _ ((_, _) :: _) _; apply aV.one; (· exact (rfl : _ = Ty.int _ _)); (· exact rfl)))) (by exact rfl) rfl ?_
  refine ak (tP _ _) rfl rfl rfl rfl rfl (bZ rfl (aD (bI (aC (aB ?_)))))
  refine bp rfl rfl (by omega) (by omega) ?_
  refine bG rfl (aD ?_)
  refine bL (⟨j.1 + 1, by omega⟩) ?_ (by show (cQ fl b.1 (y.cells + 1) (cy has less)).length - (j.1 + 1) < (cQ fl b.1 (y.cells + 1) (cy has less)).length - j.1; omega)
  (refine cV.mk' ?_ ?_ <;> (repeat' (first | exact aH | exact aI | refine aA ?_ (Ty.aT _) | refine aA ?_ (Ty.aF _) | refine aG rfl (Cont.aF _) ?_ | refine aA ?_ ?_)))
  all_goals skip
  all_goals exact Ty.bD (by rw [cR (by omega)]; exact yG)
 refine b8 (aQ (aQ (aa rfl (aC ?_))))
 have hmp := qq (fl := fl) (a := b.1) (m := 300) (by decide) (cQ fl b.1 (y.cells + 1) (cy has less)) hC.ways
 have hml := (sn (fl := fl) (a := b.1) 300 (cQ fl b.1 (y.cells + 1) (cy has less))).1
 refine gl (s := 6) rfl (Ty.bD (by rw [List.take_of_length_le (by omega)] : _ = fK fl b.1 300 (cQ fl b.1 (y.cells + 1) (cy has less)))) ?_
 refine aB (jV rfl (ew rfl (bG rfl ?_)))
 refine dI [(1000, 1000)] [] [(1000, Cont.vec c7 3 (eD b.1 (cQ fl b.1 (y.cells + 1) (cy has less)) (fK fl b.1 300 (cQ fl b.1 (y.cells + 1) (cy has less)))))] (Kk y fl b.1 hF (cQ fl b.1 (y.cells + 1) (cy has less)) (by omega) (fun w hw => (hC.ways w hw).1) (fK fl b.1 300 (cQ fl b.1 (y.cells + 1) (cy has less))) (by omega)) rfl rfl (aN (aN (aN bW (aU rfl rfl)) (aU rfl rfl)) (e9 (aN (aN (aN (aN (aN (aN bW (dV (by exact List.mem_cons_self))) (aU rfl rfl)) (aU rfl rfl)) (aU rfl rfl)) (aU rfl rfl)) (aU rfl rfl)))) (cz (a := 1000) (b := 1000) (by exact List.mem_cons_self) rfl (bt (by exact List.mem_cons_self) rfl) pre_nil) (bk (a := 1000) (b := 1000) (by decide) rfl (bt (by decide) rfl) post_nil) (aU rfl rfl) ?_
 refine aD (bI ?_)
 refine bL (⟨eD b.1 (cQ fl b.1 (y.cells + 1) (cy has less)) (fK fl b.1 300 (cQ fl b.1 (y.cells + 1) (cy has less))), hnx.1⟩) ?_ (by exact hnx.2.1)
 (refine cV.mk' ?_ ?_ <;> (repeat' (first | exact aH | exact aI | refine aA ?_ (Ty.aT _) | refine aA ?_ (Ty.aF _) | refine aG rfl (Cont.aF _) ?_)))
 all_goals skip
set_option maxRecDepth 100000 in
theorem ES (y : aj) (fl : List cB) (a : List Int) (h : l8 y fl a) (hfe : iG fl (y.cells + 1) a) (th : Ty) (h1 : th.deps = []) (h2 : th.cdeps = []) (has : Nat → Bool) (hf : ∀ i, i < fl.length → pJ Tryz.prog (Ty.nd th h1 h2) [Ty.int .i64 ((i : Nat) : Int)] (Ty.bool (has i))) (ho : th.one = true) : eU Tryz.prog 87 [1000] [(1000, Cont.vec c7 3 a)] [Ty.pp (dZ y fl 1000 fl.length), Ty.nd th h1 h2] [(1000, Cont.vec c7 3 (yp fl (y.cells + 1) has a))] (Ty.agg (cA.tys (iF fl (y.cells + 1) has))) := by
 refine ff Tryz.func87 rfl (by decide) Tryz.ntmps87 (by exact Nat.le_of_ble_eq_true rfl) fun w0 M0 => ?_
 have hsp := sP (has := has) h.net (Nat.succ_pos _) h.bd hfe
 have hF : l8 y fl (Bj fl (y.cells + 1) has a) := ⟨h.right, h.net, h.bd, hsp.1.1, h.rE⟩
 refine aE (aB ?_)
 refine bf rfl (by exact List.cons_ne_nil _ _) rfl ?_
 refine aD (aC (aE (aB (jV rfl ?_))))
 refine eL (ty := Ty.nd th h1 h2) rfl ?_
 refine cq rfl rfl (by exact List.cons_ne_nil _ _) rfl (aV.one (ty := Ty.nd th h1 h2) rfl ho (aV.one (ty := Ty.bool true) rfl rfl aV.nil)) (by exact (rfl : _ = some [_, _])) ?_
 refine dI [(1000, 1000)] [] [(1000, Cont.vec c7 3 (Bj fl (y.cells + 1) has a))] (Jq y fl a h hfe th h1 h2 has hf true) rfl rfl (aN (aN bW (aU rfl rfl)) (e9 (aN (aN (aN (aN (aN (aN bW (dV (by exact List.mem_cons_self))) (aU rfl rfl)) (aU rfl rfl)) (aU rfl rfl)) (aU rfl rfl)) (aU rfl rfl)))) (cz (a := 1000) (b := 1000) (by exact List.mem_cons_self) rfl (bt (by exact List.mem_cons_self) rfl) pre_nil) (bk (a := 1000) (b := 1000) (by decide) rfl (bt (by decide) (lo_eq _ _ _ _)) post_nil) (aU rfl rfl) ?_
 refine bZ rfl (aD (aC (aE (aB (bG rfl (jV rfl ?_))))))
 refine eL (ty := Ty.nd th h1 h2) rfl ?_
 refine cq rfl rfl (by exact List.cons_ne_nil _ _) rfl (aV.one (ty := Ty.nd th h1 h2) rfl ho (aV.one (ty := Ty.bool false) rfl rfl aV.nil)) (by exact (rfl : _ = some [_, _])) ?_
 refine dI [(1000, 1000)] [] [(1000, Cont.vec c7 3 (yp fl (y.cells + 1) has a))] (Jq y fl (Bj fl (y.cells + 1) has a) hF hsp.1 th h1 h2 has hf false) rfl rfl (aN (aN bW (aU rfl rfl)) (e9 (aN (aN (aN (aN (aN (aN bW (dV (by exact List.mem_cons_self))) (aU rfl rfl)) (aU rfl rfl)) (aU rfl rfl)) (aU rfl rfl)) (aU rfl rfl)))) (cz (a := 1000) (b := 1000) (by exact List.mem_cons_self) rfl (bt (by exact List.mem_cons_self) rfl) pre_nil) (bk (a := 1000) (b := 1000) (by decide) rfl (bt (by decide) (hi_eq _ _ _ _)) post_nil) (aU rfl rfl) ?_
 refine cq rfl rfl (by exact List.cons_ne_nil _ _) rfl (by repeat (first | exact (aV.nil : aV _ _ [] _) | (show aV _ _ ((_, _) :: _) _; apply aV.one; (· exact (rfl : _ = Ty.int _ _)); (· exact rfl)))) (by exact (rfl : _ = some [_, _])) ?_
 refine bS rfl rfl (by decide) rfl rfl rfl rfl rfl rfl ?_
 refine aD (aC (az ?_))
 refine OD [1000] rfl rfl rfl rfl (by decide) rfl rfl rfl (by decide) (by repeat (first | exact gm | refine eO rfl (bt (by decide) rfl) ?_)) ?_
 all_goals skip
 all_goals exact iw (qD rfl rfl (congrArg (fun s => Ty.agg (cA.tys s)) (NS h.net (Nat.succ_pos _) h.bd hfe)))
set_option maxRecDepth 100000 in
theorem P4 (y : aj) (c : Nat → Bool) (a : List Int) (hr : y.bY) (hl : a.length = (aO y c).length) : dK Tryz.prog 120 [Ty.pp (mm y (aO y c) a)] (AD (gN y a)) := by
 refine au Tryz.func120 rfl (by decide) Tryz.ntmps120 (by exact Nat.le_of_ble_eq_true rfl) fun w0 M0 => ?_
 have hfl := fH (y := y) (c := c)
 have h1 := hr.bins
 have h2 := hr.days
 have h3 := D_eq hr
 have h4 := hr.moves
 have hf34 : (aO y c).length ≤ 34 := iV hr
 refine aE (aB ?_)
 refine bf rfl (by exact List.cons_ne_nil _ _) rfl ?_
 refine aD (aC (aE (aB ?_)))
 refine bf rfl (by exact List.cons_ne_nil _ _) rfl ?_
 refine aD (aC (aE (aE (aB (jV rfl (cC rfl ?_))))))
 refine aJ rfl rfl rfl rfl rfl (by decide) ?_
 refine aJ rfl rfl rfl rfl rfl (by decide) ?_
 refine aL rfl rfl rfl rfl (b9 rfl rfl rfl (bG rfl (aD (aC (aZ ?_)))))
 refine bz (fun (k : {k : Nat // k ≤ y.bins.length}) => live [(0, Ty.pp (mm y (aO y c) a)), (2, Ty.ptr 3 0), (3, Ty.ptr 4 0), (9, Ty.sl fO y.bins), (10, Ty.int .i64 y.bins.length), (11, Ty.int .i64 (k.1 : Nat))] [(3, Cont.cells 30 [Ty.ex (.slice none 0 0), Ty.ex (.slice none 0 0)]), (4, Cont.cells 30 [Ty.row c7 3 26 (iM y a k.1), Ty.ex (.slice none 0 0)])]) (fun k => y.bins.length - k.1) (⟨0, by omega⟩) ?_ fun k => ?_
 ·(refine cV.mk' ?_ ?_ <;> (repeat' (first | exact aH | exact aI | exact cr | refine aA ?_ (Ty.aT _) | refine aA ?_ (Ty.aF _) | refine aG rfl (Cont.aF _) ?_ | refine aG rfl (Cont.ct ?_) ?_ | refine bJ ?_ (Ty.aF _) | refine bJ ?_ ?_)))
  all_goals exact Jl Cp
 have hk := k.2
 have hfk := E3 (y := y) (a := a) k.1
 refine aE (aB (bA rfl rfl rfl (aD (aC (aE ?_)))))
 refine ah rfl (fun hc1 => ?_) (fun hc1 => ?_)
 ·
  refine af (aC (aE (aZ (aE (aB (bG rfl (bZ rfl (aD (aC ?_)))))))))
  have hkl := Lx hl (show k.1 < y.bins.length by omega)
  refine cH mixed rfl ?_
  refine aR rfl rfl rfl rfl rfl (by decide) ?_
  refine aX rfl rfl (by decide) rfl rfl rfl ?_
  refine jV rfl (cC rfl ?_)
  refine aJ rfl rfl rfl rfl rfl (by decide) ?_
  refine aL rfl rfl rfl rfl (jV rfl (bG rfl ?_))
  refine dr [] (D5 y hr k.1 0 (by omega) (Nat.zero_le _)) rfl (aW (jk (l1 := bC y) (l2 := [Ty.sl dw (aO y c), Ty.sl c7 a]) rfl rfl) (aW (bQ (bR rfl rfl)) (aW (bQ (bR rfl rfl)) cL))) (by exact dJ _ _) ?_
  refine aq rfl rfl rfl rfl rfl rfl (by omega) ?_
  refine aL rfl rfl rfl rfl ?_
  refine bX (E := c7) (xs := [_]) rfl rfl rfl rfl rfl (by decide) (by decide) (by repeat (first | exact (aV.nil : aV _ _ [] _) | (show aV _ _ ((_, _) :: _) _; apply aV.one; (· exact (rfl : _ = Ty.int _ _)); (· exact rfl)))) (by exact rfl) rfl ?_
  refine dh rfl rfl (by decide) rfl rfl rfl rfl rfl rfl (by decide) (by (simp <;> omega)) (by (simp <;> omega)) ?_
  refine aR rfl rfl rfl rfl rfl (by decide) ?_
  refine cv rfl rfl (by decide) rfl rfl (by exact (rfl : _ = Ty.row _ _ _ _)) rfl (by exact Nat.le_of_ble_eq_true rfl) rfl rfl (by exact rfl) ?_
  refine aD ?_
  refine ⟨by kernel_rfl, ?_⟩
  refine bI (aC (aB ?_))
  refine bp rfl rfl (by omega) (by omega) ?_
  refine bG rfl (aD ?_)
  refine bL (⟨k.1 + 1, by omega⟩) ?_ (by show y.bins.length - (k.1 + 1) < y.bins.length - k.1; omega)
  (refine cV.mk' ?_ ?_ <;> (repeat' (first | exact aH | exact aI | exact cr | refine aA ?_ (Ty.aT _) | refine aA ?_ (Ty.aF _) | refine aG rfl (Cont.aF _) ?_ | refine aG rfl (Cont.ct ?_) ?_ | refine bJ ?_ (Ty.aF _) | refine bJ ?_ ?_)))
  all_goals skip
  all_goals exact Ty.eG (DM _)
 refine b8 (aQ (aQ (aa rfl (aC (aE (cH mixed rfl (jV rfl (cC rfl ?_))))))))
 refine aJ rfl rfl rfl rfl rfl (by decide) ?_
 refine aL rfl rfl rfl rfl (jV rfl (cC rfl ?_))
 refine aJ rfl rfl rfl rfl rfl (by decide) ?_
 refine aL rfl rfl rfl rfl (b9 rfl rfl rfl (jV rfl (cC rfl ?_)))
 refine aJ rfl rfl rfl rfl rfl (by decide) ?_
 refine aJ rfl rfl rfl rfl rfl (by decide) ?_
 refine aL rfl rfl rfl rfl (b9 rfl rfl rfl ?_)
 refine fk rfl rfl (by omega) (by omega) ?_
 refine MB (lo := y.bins.length * (y.D + 1)) rfl (by exact congrArg (Ty.int .i64) (by rw [hfl]; omega : ((aO y c).length : Int) - (y.moves.length : Int) = ((y.bins.length * (y.D + 1) : Nat) : Int))) rfl rfl rfl rfl (by rw [hl]; omega) ?_
 refine ak (Cy _ (by rw [List.length_drop]; omega)) rfl rfl rfl rfl rfl ?_
 refine aR rfl rfl rfl rfl rfl (by decide) ?_
 refine cv rfl rfl (by decide) rfl rfl (by exact (rfl : _ = Ty.sl _ _)) rfl (by exact Nat.le_of_ble_eq_true rfl) rfl rfl (by exact rfl) ?_
 refine aD ?_
 refine ⟨by kernel_rfl, ?_⟩
 refine aC (aE (aB ?_))
 refine bu rfl rfl (by decide) rfl rfl (by exact Nat.le_of_ble_eq_true rfl) ?_
 refine bS rfl rfl (by decide) rfl rfl rfl rfl rfl rfl ?_
 refine aD (aC (az ?_))
 refine mC rfl rfl rfl rfl (by decide) rfl rfl rfl ?_
 exact wB (ts := m7 (gN y a)) (jf (wR (by decide) (show iM y a k.1 = (gN y a).first by rw [show k.1 = y.bins.length by have := k.2; omega]; exact congrArg dg.first (told_eq y a))) (jf (cI rfl rfl) tK))
end Go.Proofs.YtelbollidfdcjaaGreat
