/- Lemmas: the program and the reference walked, plain laws. -/
import Derived.Test.YtelbollidfdcjaaGreatGb
namespace Go.Proofs.YtelbollidfdcjaaGreat
open Go Go.T
set_option maxHeartbeats 2000000
structure ay.Small (y : ay) : Prop where
  bins : y.bins.length ≤ 1000
  moves : y.moves.length ≤ 1000
  levels : y.levels.length ≤ 1000
def xO (y : ay) : Ty := Ty.MO 135 [fW y]
def FD (y : ay) : Ty := Ty.pp [Ty.jz 142 [Ty.pp [xO y]]]
theorem FC {y : ay} (h : mC y = false) : 1 ≤ y.days ∧ y.days ≤ 5 := by
 unfold mC at h
 simp only [Bool.or_eq_false_iff, Bool.not_eq_false', gV] at h
 exact h.1.1.1
def eH (y : ay) (k : Int) : Int := if bX y = 0 then if y.bin k = true then 0 else 1 else bX y
theorem E2 {y : ay} {k : Int} (h : (decide (bX y = 0) && !y.bin k) = true) : 1 = eH y k := by
 rw [Bool.and_eq_true, decide_eq_true_eq, Bool.not_eq_true'] at h
 unfold eH; rw [if_pos h.1, if_neg (by rw [h.2]; decide)]
theorem Ek {y : ay} {k : Int} (h : (decide (bX y = 0) && !y.bin k) = false) : bX y = eH y k := by
 unfold eH
 by_cases e : bX y = 0
 ·rw [decide_eq_true e, Bool.true_and, Bool.not_eq_false'] at h
  rw [if_pos e, if_pos h, e]
 rw [if_neg e]
attribute [local irreducible] ir fj nK qW jL jQ jI jN jJ q3 jR qd eI gu qj gx qy nth fV dm ak eB bodyPost Exit.then Exit.inBlock Code.wp Code.wpIn qg jT qZ q6 jM eR cm cq bodyPostM eM
set_option maxRecDepth 100000 in
theorem uT (n lo hi : Int) : eB Tryz.prog 111 [Ty.int .i64 n, Ty.int .i64 lo, Ty.int .i64 hi] (Ty.bool (BU n lo hi)) := by
 refine bC Tryz.func111 rfl (by decide) Tryz.ntmps111 (by exact Nat.le_of_ble_eq_true rfl) fun w0 M0 => ?_
 refine aG (aA (dg rfl (aD (aC (aG (aA (bS rfl (bS rfl (bJ rfl rfl rfl ?_)))))))))
 refine gj rfl ?_
 apply aV (s := 10) rfl rfl rfl
 ·intro hg; apply aX; (refine bS rfl ?_); refine aD ?_; exact rfl
 ·exact rfl
 ·exact rfl
 apply aV (s := 10) rfl rfl rfl
 ·intro hg; apply aX; (refine bS rfl ?_); refine aD ?_; exact rfl
 ·exact rfl
 ·exact rfl
 apply aV (s := 10) rfl rfl rfl
 ·intro hg; apply aS (s := 11) rfl (by (rw [hg]; rfl)); apply aS (s := 12) rfl (by (rw [hg]; rfl)); apply aX; (refine bJ rfl rfl rfl ?_); refine aD ?_; exact rfl
 ·exact rfl
 ·exact rfl
 refine ep rfl rfl (dg rfl (aD (aC (bE (bz rfl rfl ?_)))))
 all_goals exact cQ rfl rfl
set_option maxRecDepth 100000 in
theorem D6 (y : ay) (hs : y.Small) (n : Int) : eB Tryz.prog 135 [fW y, Ty.int .i64 n] (Ty.bool (y.bin n)) := by
 refine bC Tryz.func135 rfl (by decide) Tryz.ntmps135 (by exact Nat.le_of_ble_eq_true rfl) fun w0 M0 => ?_
 have hs1 := hs.bins
 refine aG (aA (bR rfl (dg rfl (aD (aC (aG (aA (bS rfl ?_))))))))
 refine aR rfl rfl rfl rfl rfl (by decide) ?_
 refine aO rfl rfl rfl rfl (dP rfl rfl rfl ?_)
 refine iC rfl rfl (by omega) (by omega) ?_
 refine bA (uT _ _ _) rfl rfl rfl rfl rfl (dg rfl (aD (aC (bE (bz rfl rfl ?_)))))
 all_goals exact cQ rfl rfl
set_option maxRecDepth 100000 in
theorem Lf (y : ay) (n : Int) : eB Tryz.prog 122 [fW y, Ty.int .i64 n] (Ty.bool (y.time n)) := by
 refine bC Tryz.func122 rfl (by decide) Tryz.ntmps122 (by exact Nat.le_of_ble_eq_true rfl) fun w0 M0 => ?_
 refine aG (aA (bR rfl (dg rfl (aD (aC (aG (aA (bS rfl ?_))))))))
 refine aR rfl rfl rfl rfl rfl (by decide) ?_
 refine aO rfl rfl rfl rfl (bA (uT _ _ _) rfl rfl rfl rfl rfl (dg rfl (aD (aC (bE (bz rfl rfl ?_))))))
 all_goals exact cQ rfl rfl
set_option maxRecDepth 100000 in
theorem tT (s : Span) : eB Tryz.prog 145 [Ty.agg (dx.tys s)] (Ty.bool (gR s)) := by
 refine bC Tryz.func145 rfl (by decide) Tryz.ntmps145 (by exact Nat.le_of_ble_eq_true rfl) fun w0 M0 => ?_
 refine aG (aA (bR rfl (dg rfl (aD (aC (aG (aA ?_)))))))
 refine aR rfl rfl rfl rfl rfl (by decide) ?_
 refine aO rfl rfl rfl rfl (bA (uT _ _ _) rfl rfl rfl rfl rfl (gj rfl ?_))
 apply aV (s := 6) rfl rfl rfl
 ·intro hg; apply aX; (refine aR rfl rfl rfl rfl rfl (by decide) ?_); refine aD ?_; exact rfl
 ·exact rfl
 ·exact rfl
 apply aV (s := 6) rfl rfl rfl
 ·intro hg; apply aS (s := 7) rfl (by (rw [hg]; rfl)); apply aX; (refine aO rfl rfl rfl rfl ?_); refine aD ?_; exact rfl
 ·exact rfl
 ·exact rfl
 apply aV (s := 6) rfl rfl rfl
 ·intro hg; apply aS (s := 8) rfl (by (rw [hg]; rfl)); apply aX; (refine bA (uT _ _ _) rfl rfl rfl rfl rfl ?_); refine aD ?_; exact rfl
 ·exact rfl
 ·exact rfl
 refine ep rfl rfl (dg rfl (aD (aC (bE (bz rfl rfl ?_)))))
 all_goals exact cQ rfl rfl
set_option maxRecDepth 100000 in
theorem wj (s : Span) : eB Tryz.prog 154 [Ty.agg (dx.tys s)] (Ty.bool (iD s)) := by
 refine bC Tryz.func154 rfl (by decide) Tryz.ntmps154 (by exact Nat.le_of_ble_eq_true rfl) fun w0 M0 => ?_
 refine aG (aA (bR rfl (dg rfl (aD (aC (aG (aA ?_)))))))
 refine aR rfl rfl rfl rfl rfl (by decide) ?_
 refine aO rfl rfl rfl rfl ?_
 refine aR rfl rfl rfl rfl rfl (by decide) ?_
 refine aO rfl rfl rfl rfl (bJ rfl rfl rfl (dg rfl (aD (aC (bE (bz rfl rfl ?_))))))
 all_goals exact cQ rfl rfl
set_option maxRecDepth 100000 in
theorem BB (y : ay) (hs : y.Small) (n : Int) : eB Tryz.prog 142 [Ty.int .i64 n, Ty.pp [xO y]] (Ty.bool (y.fin n)) := by
 refine bC Tryz.func142 rfl (by decide) Tryz.ntmps142 (by exact Nat.le_of_ble_eq_true rfl) fun w0 M0 => ?_
 refine aG (aA (dg rfl (aD (aC (aG (aA (bS rfl (bJ rfl rfl rfl (gj rfl ?_)))))))))
 apply aV (s := 6) rfl rfl rfl
 ·intro hg; apply aX; (refine aO rfl rfl rfl rfl ?_); refine aD ?_; exact rfl
 ·exact rfl
 ·exact rfl
 apply aV (s := 6) rfl rfl rfl
 ·intro hg; apply aX; (refine bS rfl ?_); refine aD ?_; exact rfl
 ·exact rfl
 ·exact rfl
 apply aV (s := 6) rfl rfl rfl
 ·intro hg; apply aS (s := 7) rfl (by (rw [hg]; rfl)); apply aS (s := 8) rfl (by (rw [hg]; rfl)); apply aX; (refine eX rfl (DT (D6 y hs n) rfl rfl rfl rfl rfl rfl) rfl ?_); refine aD ?_; exact rfl
 ·exact rfl
 ·exact rfl
 refine oK rfl rfl (dg rfl (aD (aC (bE (bz rfl rfl ?_)))))
 all_goals exact cQ rfl rfl
set_option maxRecDepth 100000 in
theorem Ft (b : uV) : eB Tryz.prog 144 [Ty.agg (dr.tys b)] (Ty.bool (BU b.holds 0 300 && gR b.first)) := by
 refine bC Tryz.func144 rfl (by decide) Tryz.ntmps144 (by exact Nat.le_of_ble_eq_true rfl) fun w0 M0 => ?_
 refine aG (aA (bR rfl (dg rfl (aD (aC (aG (aA ?_)))))))
 refine aR rfl rfl rfl rfl rfl (by decide) ?_
 refine aO rfl rfl rfl rfl (bA (uT _ _ _) rfl rfl rfl rfl rfl (gj rfl ?_))
 apply aV (s := 6) rfl rfl rfl
 ·intro hg; apply aX; (refine aR rfl rfl rfl rfl rfl (by decide) ?_); refine aD ?_; exact rfl
 ·exact rfl
 ·exact rfl
 apply aV (s := 6) rfl rfl rfl
 ·intro hg; apply aS (s := 7) rfl (by (rw [hg]; rfl)); apply aX; (refine aZ rfl rfl rfl (by exact Nat.le_of_ble_eq_true rfl) ?_); refine aD ?_; exact rfl
 ·exact rfl
 ·exact rfl
 apply aV (s := 6) rfl rfl rfl
 ·intro hg; apply aS (s := 8) rfl (by (rw [hg]; rfl)); apply aX; (refine bA (tT _) rfl rfl rfl rfl rfl ?_); refine aD ?_; exact rfl
 ·exact rfl
 ·exact rfl
 refine ep rfl rfl (dg rfl (aD (aC (bE (bz rfl rfl ?_)))))
 all_goals exact cQ rfl rfl
set_option maxRecDepth 100000 in
theorem Gv (m : Move) : eB Tryz.prog 147 [Ty.agg (dJ.tys m)] (Ty.bool (gR m.sacks)) := by
 refine bC Tryz.func147 rfl (by decide) Tryz.ntmps147 (by exact Nat.le_of_ble_eq_true rfl) fun w0 M0 => ?_
 refine aG (aA (bR rfl (dg rfl (aD (aC (aG (aA ?_)))))))
 refine aR rfl rfl rfl rfl rfl (by decide) ?_
 refine aZ rfl rfl rfl (by exact Nat.le_of_ble_eq_true rfl) ?_
 refine bA (tT _) rfl rfl rfl rfl rfl (dg rfl (aD (aC (bE (bz rfl rfl ?_)))))
 all_goals exact cQ rfl rfl
set_option maxRecDepth 100000 in
theorem F4 (l : Level) : eB Tryz.prog 149 [Ty.agg (dK.tys l)] (Ty.bool (gR l.sacks)) := by
 refine bC Tryz.func149 rfl (by decide) Tryz.ntmps149 (by exact Nat.le_of_ble_eq_true rfl) fun w0 M0 => ?_
 refine aG (aA (bR rfl (dg rfl (aD (aC (aG (aA ?_)))))))
 refine aR rfl rfl rfl rfl rfl (by decide) ?_
 refine aZ rfl rfl rfl (by exact Nat.le_of_ble_eq_true rfl) ?_
 refine bA (tT _) rfl rfl rfl rfl rfl (dg rfl (aD (aC (bE (bz rfl rfl ?_)))))
 all_goals exact cQ rfl rfl
set_option maxRecDepth 100000 in
theorem HD (y : ay) (hs : y.Small) (hd : 1 ≤ y.days ∧ y.days ≤ 5) (m : Move) : eB Tryz.prog 150 [Ty.agg (dJ.tys m), Ty.pp (bZ y), FD y] (Ty.bool ((BU m.day 0 (y.days - 1) && y.fin m.src) && y.fin m.dst)) := by
 refine bC Tryz.func150 rfl (by decide) Tryz.ntmps150 (by exact Nat.le_of_ble_eq_true rfl) fun w0 M0 => ?_
 refine aG (aA (bR rfl (dg rfl (aD (aC (aG (aA ?_)))))))
 refine aR rfl rfl rfl rfl rfl (by decide) ?_
 refine aO rfl rfl rfl rfl ?_
 refine aR rfl rfl rfl rfl rfl (by decide) ?_
 refine aO rfl rfl rfl rfl ?_
 refine iC rfl rfl (by omega) (by omega) ?_
 refine bA (uT _ _ _) rfl rfl rfl rfl rfl (gj rfl ?_)
 apply aV (s := 11) rfl rfl rfl
 ·intro hg; apply aX; (refine aO rfl rfl rfl rfl ?_); refine aD ?_; exact rfl
 ·exact rfl
 ·exact rfl
 apply aV (s := 11) rfl rfl rfl
 ·intro hg; apply aX; (refine aR rfl rfl rfl rfl rfl (by decide) ?_); refine aD ?_; exact rfl
 ·exact rfl
 ·exact rfl
 apply aV (s := 11) rfl rfl rfl
 ·intro hg; apply aS (s := 13) rfl (by (rw [hg]; rfl)); apply aX; (refine aO rfl rfl rfl rfl ?_); refine aD ?_; exact rfl
 ·exact rfl
 ·exact rfl
 apply aV (s := 11) rfl rfl rfl
 ·intro hg; apply aS (s := 12) rfl (by (rw [hg]; rfl)); apply aS (s := 14) rfl (by (rw [hg]; rfl)); apply aX; (refine eX rfl (dV (BB y hs m.src) rfl rfl rfl rfl rfl rfl) rfl ?_); refine aD ?_; exact rfl
 ·exact rfl
 ·exact rfl
 refine ep rfl rfl (gj rfl ?_)
 apply aV (s := 17) rfl rfl rfl
 ·intro hg; apply aX; (refine aO rfl rfl rfl rfl ?_); refine aD ?_; exact rfl
 ·exact rfl
 ·exact rfl
 apply aV (s := 17) rfl rfl rfl
 ·intro hg; apply aX; (refine aR rfl rfl rfl rfl rfl (by decide) ?_); refine aD ?_; exact rfl
 ·exact rfl
 ·exact rfl
 apply aV (s := 17) rfl rfl rfl
 ·intro hg; apply aS (s := 19) rfl (by (rw [hg]; rfl)); apply aX; (refine aO rfl rfl rfl rfl ?_); refine aD ?_; exact rfl
 ·exact rfl
 ·exact rfl
 apply aV (s := 17) rfl rfl rfl
 ·intro hg; apply aS (s := 18) rfl (by (rw [hg]; rfl)); apply aS (s := 20) rfl (by (rw [hg]; rfl)); apply aX; (refine eX rfl (dV (BB y hs m.dst) rfl rfl rfl rfl rfl rfl) rfl ?_); refine aD ?_; exact rfl
 ·exact rfl
 ·exact rfl
 refine ep rfl rfl (dg rfl (aD (aC (bE (bz rfl rfl ?_)))))
 all_goals exact cQ rfl rfl
set_option maxRecDepth 100000 in
theorem HF (y : ay) (hs : y.Small) (l : Level) : eB Tryz.prog 151 [Ty.agg (dK.tys l), Ty.pp (bZ y), Ty.pp [xO y]] (Ty.bool (y.time l.day && y.bin l.bin)) := by
 refine bC Tryz.func151 rfl (by decide) Tryz.ntmps151 (by exact Nat.le_of_ble_eq_true rfl) fun w0 M0 => ?_
 refine aG (aA (bR rfl (dg rfl (aD (aC (aG (aA ?_)))))))
 refine aZ rfl rfl rfl (by exact Nat.le_of_ble_eq_true rfl) ?_
 refine aR rfl rfl rfl rfl rfl (by decide) ?_
 refine aO rfl rfl rfl rfl (bA (Lf y _) rfl rfl rfl rfl rfl (gj rfl ?_))
 apply aV (s := 9) rfl rfl rfl
 ·intro hg; apply aX; (refine aO rfl rfl rfl rfl ?_); refine aD ?_; exact rfl
 ·exact rfl
 ·exact rfl
 apply aV (s := 9) rfl rfl rfl
 ·intro hg; apply aX; (refine aR rfl rfl rfl rfl rfl (by decide) ?_); refine aD ?_; exact rfl
 ·exact rfl
 ·exact rfl
 apply aV (s := 9) rfl rfl rfl
 ·intro hg; apply aS (s := 11) rfl (by (rw [hg]; rfl)); apply aX; (refine aO rfl rfl rfl rfl ?_); refine aD ?_; exact rfl
 ·exact rfl
 ·exact rfl
 apply aV (s := 9) rfl rfl rfl
 ·intro hg; apply aS (s := 10) rfl (by (rw [hg]; rfl)); apply aS (s := 12) rfl (by (rw [hg]; rfl)); apply aX; (refine eX rfl (DT (D6 y hs l.bin) rfl rfl rfl rfl rfl rfl) rfl ?_); refine aD ?_; exact rfl
 ·exact rfl
 ·exact rfl
 refine ep rfl rfl (dg rfl (aD (aC (bE (bz rfl rfl ?_)))))
 all_goals exact cQ rfl rfl
set_option maxRecDepth 100000 in
theorem Hw (m : Move) : eB Tryz.prog 152 [Ty.agg (dJ.tys m)] (Ty.bool (!decide (m.src = m.dst))) := by
 refine bC Tryz.func152 rfl (by decide) Tryz.ntmps152 (by exact Nat.le_of_ble_eq_true rfl) fun w0 M0 => ?_
 refine aG (aA (bR rfl (dg rfl (aD (aC (aG (aA ?_)))))))
 refine aR rfl rfl rfl rfl rfl (by decide) ?_
 refine aO rfl rfl rfl rfl ?_
 refine aR rfl rfl rfl rfl rfl (by decide) ?_
 refine aO rfl rfl rfl rfl (bJ rfl rfl rfl (dg rfl (aD (aC (bE (bz rfl rfl ?_))))))
 all_goals exact cQ rfl rfl
set_option maxRecDepth 100000 in
theorem G5 (b : uV) : eB Tryz.prog 153 [Ty.agg (dr.tys b)] (Ty.bool (iD b.first)) := by
 refine bC Tryz.func153 rfl (by decide) Tryz.ntmps153 (by exact Nat.le_of_ble_eq_true rfl) fun w0 M0 => ?_
 refine aG (aA (bR rfl (dg rfl (aD (aC (aG (aA ?_)))))))
 refine aR rfl rfl rfl rfl rfl (by decide) ?_
 refine aZ rfl rfl rfl (by exact Nat.le_of_ble_eq_true rfl) ?_
 refine bA (wj _) rfl rfl rfl rfl rfl (dg rfl (aD (aC (bE (bz rfl rfl ?_)))))
 all_goals exact cQ rfl rfl
set_option maxRecDepth 100000 in
theorem HX (m : Move) : eB Tryz.prog 155 [Ty.agg (dJ.tys m)] (Ty.bool (iD m.sacks)) := by
 refine bC Tryz.func155 rfl (by decide) Tryz.ntmps155 (by exact Nat.le_of_ble_eq_true rfl) fun w0 M0 => ?_
 refine aG (aA (bR rfl (dg rfl (aD (aC (aG (aA ?_)))))))
 refine aR rfl rfl rfl rfl rfl (by decide) ?_
 refine aZ rfl rfl rfl (by exact Nat.le_of_ble_eq_true rfl) ?_
 refine bA (wj _) rfl rfl rfl rfl rfl (dg rfl (aD (aC (bE (bz rfl rfl ?_)))))
 all_goals exact cQ rfl rfl
set_option maxRecDepth 100000 in
theorem FE (l : Level) : eB Tryz.prog 156 [Ty.agg (dK.tys l)] (Ty.bool (iD l.sacks)) := by
 refine bC Tryz.func156 rfl (by decide) Tryz.ntmps156 (by exact Nat.le_of_ble_eq_true rfl) fun w0 M0 => ?_
 refine aG (aA (bR rfl (dg rfl (aD (aC (aG (aA ?_)))))))
 refine aR rfl rfl rfl rfl rfl (by decide) ?_
 refine aZ rfl rfl rfl (by exact Nat.le_of_ble_eq_true rfl) ?_
 refine bA (wj _) rfl rfl rfl rfl rfl (dg rfl (aD (aC (bE (bz rfl rfl ?_)))))
 all_goals exact cQ rfl rfl
set_option maxRecDepth 100000 in
theorem kO (y : ay) (hs : y.Small) : eB Tryz.prog 70 [fW y] (Ty.int .i64 (bX y)) := by
 refine bC Tryz.func70 rfl (by decide) Tryz.ntmps70 (by exact Nat.le_of_ble_eq_true rfl) fun w0 M0 => ?_
 have hs1 := hs.bins
 have hs2 := hs.moves
 have hs3 := hs.levels
 refine aG (aA (bR rfl (cJ rfl (aD (aC (aG (aA ?_)))))))
 refine aZ rfl rfl rfl (by exact Nat.le_of_ble_eq_true rfl) ?_
 refine FO (l := [fW y]) rfl ?_
 refine cE rfl (by exact List.cons_ne_nil _ _) rfl ?_
 refine cw rfl rfl (by decide) rfl rfl (by exact (rfl : _ = Ty.MO _ _)) rfl (by exact Nat.le_of_ble_eq_true rfl) rfl rfl (by exact (rfl : _ = [_])) ?_
 refine aD (aC (aG ?_))
 refine k6 (tg := 4) [(3, Ty.pp [xO y])] (by decide) rfl ⟨mE (T := 118) (tg := 4) (off := 0) (l := [xO y]) rfl rfl rfl (by decide), trivial⟩ ?_
 refine aA (dS rfl ?_)
 refine cE rfl (by exact List.cons_ne_nil _ _) rfl ?_
 refine cw rfl rfl (by decide) rfl rfl (by exact (rfl : _ = Ty.jz _ _)) rfl (by exact Nat.le_of_ble_eq_true rfl) rfl rfl (by exact (rfl : _ = [_])) ?_
 refine aD (aC (aG (au (aG ?_))))
 refine k6 (tg := 5) [(4, FD y)] (by decide) rfl ⟨mE (T := 118) (tg := 5) (off := 0) (l := [Ty.jz 142 [Ty.pp [xO y]]]) rfl rfl rfl (by decide), trivial⟩ ?_
 refine aA ?_
 refine aR rfl rfl rfl rfl rfl (by decide) ?_
 refine aO rfl rfl rfl rfl (bA (uT _ _ _) rfl rfl rfl rfl rfl (eD rfl (gj rfl ?_)))
 apply aV (s := 13) rfl rfl rfl
 ·intro hg; apply aX; (refine aR rfl rfl rfl rfl rfl (by decide) ?_); refine aD ?_; exact rfl
 ·exact rfl
 ·exact rfl
 apply aV (s := 13) rfl rfl rfl
 ·intro hg; apply aS (s := 14) rfl (by (rw [hg]; rfl)); apply aX; (refine aO rfl rfl rfl rfl ?_); refine aD ?_; exact rfl
 ·exact rfl
 ·exact rfl
 apply aV (s := 13) rfl rfl rfl
 ·intro hg; apply aS (s := 15) rfl (by (rw [hg]; rfl)); apply aX; (refine dP rfl rfl rfl ?_); refine aD ?_; exact rfl
 ·exact rfl
 ·exact rfl
 apply aV (s := 13) rfl rfl rfl
 ·intro hg; apply aS (s := 16) rfl (by (rw [hg]; rfl)); apply aX; (refine bA (uT _ _ _) rfl rfl rfl rfl rfl ?_); refine aD ?_; exact rfl
 ·exact rfl
 ·exact rfl
 apply aV (s := 13) rfl rfl rfl
 ·intro hg; apply aS (s := 17) rfl (by (rw [hg]; rfl)); apply aX; (refine eD rfl ?_); refine aD ?_; exact rfl
 ·exact rfl
 ·exact rfl
 refine oK rfl rfl (gj rfl ?_)
 apply aV (s := 20) rfl rfl rfl
 ·intro hg; apply aX; (refine aR rfl rfl rfl rfl rfl (by decide) ?_); refine aD ?_; exact rfl
 ·exact rfl
 ·exact rfl
 apply aV (s := 20) rfl rfl rfl
 ·intro hg; apply aS (s := 21) rfl (by (rw [hg]; rfl)); apply aX; (refine aO rfl rfl rfl rfl ?_); refine aD ?_; exact rfl
 ·exact rfl
 ·exact rfl
 apply aV (s := 20) rfl rfl rfl
 ·intro hg; apply aS (s := 22) rfl (by (rw [hg]; rfl)); apply aX; (refine dP rfl rfl rfl ?_); refine aD ?_; exact rfl
 ·exact rfl
 ·exact rfl
 apply aV (s := 20) rfl rfl rfl
 ·intro hg; apply aS (s := 23) rfl (by (rw [hg]; rfl)); apply aX; (refine bJ rfl rfl rfl ?_); refine aD ?_; exact rfl
 ·exact rfl
 ·exact rfl
 refine oK rfl rfl (gj rfl ?_)
 apply aV (s := 26) rfl rfl rfl
 ·intro hg; apply aX; (refine aR rfl rfl rfl rfl rfl (by decide) ?_); refine aD ?_; exact rfl
 ·exact rfl
 ·exact rfl
 apply aV (s := 26) rfl rfl rfl
 ·intro hg; apply aS (s := 27) rfl (by (rw [hg]; rfl)); apply aX; (refine aO rfl rfl rfl rfl ?_); refine aD ?_; exact rfl
 ·exact rfl
 ·exact rfl
 apply aV (s := 26) rfl rfl rfl
 ·intro hg; apply aS (s := 28) rfl (by (rw [hg]; rfl)); apply aX; (refine dP rfl rfl rfl ?_); refine aD ?_; exact rfl
 ·exact rfl
 ·exact rfl
 apply aV (s := 26) rfl rfl rfl
 ·intro hg; apply aS (s := 29) rfl (by (rw [hg]; rfl)); apply aX; (refine bJ rfl rfl rfl ?_); refine aD ?_; exact rfl
 ·exact rfl
 ·exact rfl
 refine oK rfl rfl (dg rfl (aD (aC ?_)))
 refine ct rfl (fun hc1 => ?_) (fun hc1 => ?_)
 ·
  refine aG (aA (cJ rfl (aD (aC (bE (bL (aW (bz rfl rfl ?_))))))))
  all_goals skip
  exact bH rfl rfl (congrArg (Ty.int .i64) (by rw [bX, if_pos (show mC y = true from hc1)]))
 refine aG ?_
 refine cr (B := live [(1, Ty.pp (bZ y)), (3, Ty.pp [xO y]), (4, FD y)] []) ?_ ?_
 ·(refine dG.mk' ?_ ?_ <;> (repeat' (first | exact aI | exact aJ | refine aB ?_ (Ty.aT _) | refine aB ?_ (Ty.aE _))))
 refine aA ?_
 refine aR rfl rfl rfl rfl rfl (by decide) ?_
 refine aO rfl rfl rfl rfl ?_
 refine bA (uH y.bins (Ty.jz _ []) rfl (fun b => BU b.holds 0 300 && gR b.first) rfl rfl fun b _ => dV (Ft b) rfl rfl rfl rfl rfl rfl) rfl rfl rfl rfl rfl ?_
 refine eD rfl (dg rfl (aD (aC ?_)))
 refine ct rfl (fun hc2 => ?_) (fun hc2 => ?_)
 ·
  refine aG (aA (cJ rfl (aD (aC (bE (bL (aW (bz rfl rfl ?_))))))))
  all_goals skip
  exact bH rfl rfl (congrArg (Ty.int .i64) (by rw [bX, if_neg (ng (show mC y = false from hc1)), if_pos (show mN y = true from hc2)]))
 refine aG (aA ?_)
 refine aR rfl rfl rfl rfl rfl (by decide) ?_
 refine aO rfl rfl rfl rfl ?_
 refine bA (mM y.moves (Ty.jz _ []) rfl (fun m => gR m.sacks) rfl rfl fun m _ => dV (Gv m) rfl rfl rfl rfl rfl rfl) rfl rfl rfl rfl rfl ?_
 refine eD rfl (gj rfl ?_)
 apply aV (s := 42) rfl rfl rfl
 ·intro hg; apply aX; (refine aR rfl rfl rfl rfl rfl (by decide) ?_); refine aD ?_; exact rfl
 ·exact rfl
 ·exact rfl
 apply aV (s := 42) rfl rfl rfl
 ·intro hg; apply aS (s := 43) rfl (by (rw [hg]; rfl)); apply aX; (refine aO rfl rfl rfl rfl ?_); refine aD ?_; exact rfl
 ·exact rfl
 ·exact rfl
 apply aV (s := 42) rfl rfl rfl
 ·intro hg; apply aS (s := 44) rfl (by (rw [hg]; rfl)); apply aX; (refine bA (oz y.levels (Ty.jz _ []) rfl (fun l => gR l.sacks) rfl rfl fun l _ => dV (F4 l) rfl rfl rfl rfl rfl rfl) rfl rfl rfl rfl rfl ?_); refine aD ?_; exact rfl
 ·exact rfl
 ·exact rfl
 apply aV (s := 42) rfl rfl rfl
 ·intro hg; apply aS (s := 45) rfl (by (rw [hg]; rfl)); apply aX; (refine eD rfl ?_); refine aD ?_; exact rfl
 ·exact rfl
 ·exact rfl
 refine oK rfl rfl (dg rfl (aD (aC ?_)))
 refine ct rfl (fun hc3 => ?_) (fun hc3 => ?_)
 ·
  refine aG (aA (cJ rfl (aD (aC (bE (bL (aW (bz rfl rfl ?_))))))))
  all_goals skip
  exact bH rfl rfl (congrArg (Ty.int .i64) (by rw [bX, if_neg (ng (show mC y = false from hc1)), if_neg (ng (show mN y = false from hc2)), if_pos (show kJ y = true from hc3)]))
 refine aG ?_
 refine cr (B := live [(1, Ty.pp (bZ y)), (3, Ty.pp [xO y]), (4, FD y)] []) ?_ ?_
 ·(refine dG.mk' ?_ ?_ <;> (repeat' (first | exact aI | exact aJ | refine aB ?_ (Ty.aT _) | refine aB ?_ (Ty.aE _))))
 have hd := FC hc1
 refine aA ?_
 refine aR rfl rfl rfl rfl rfl (by decide) ?_
 refine aO rfl rfl rfl rfl (dS rfl ?_)
 refine bA (mM y.moves (Ty.jz _ [Ty.pp (bZ y), FD y]) rfl (fun m => (BU m.day 0 (y.days - 1) && y.fin m.src) && y.fin m.dst) rfl rfl fun m _ => dV (HD y hs hd m) rfl rfl rfl rfl rfl rfl) rfl rfl rfl rfl rfl ?_
 refine eD rfl (dg rfl (aD (aC ?_)))
 refine ct rfl (fun hc4 => ?_) (fun hc4 => ?_)
 ·
  refine aG (aA (cJ rfl (aD (aC (bE (bL (aW (bz rfl rfl ?_))))))))
  all_goals skip
  exact bH rfl rfl (congrArg (Ty.int .i64) (by rw [bX, if_neg (ng (show mC y = false from hc1)), if_neg (ng (show mN y = false from hc2)), if_neg (ng (show kJ y = false from hc3)), if_pos (show Aj y = true from hc4)]))
 refine aG (aA ?_)
 refine aR rfl rfl rfl rfl rfl (by decide) ?_
 refine aO rfl rfl rfl rfl (dS rfl ?_)
 refine bA (oz y.levels (Ty.jz _ [Ty.pp (bZ y), Ty.pp [xO y]]) rfl (fun l => y.time l.day && y.bin l.bin) rfl rfl fun l _ => dV (HF y hs l) rfl rfl rfl rfl rfl rfl) rfl rfl rfl rfl rfl ?_
 refine eD rfl (dg rfl (aD (aC ?_)))
 refine ct rfl (fun hc5 => ?_) (fun hc5 => ?_)
 ·
  refine aG (aA (cJ rfl (aD (aC (bE (bL (aW (bz rfl rfl ?_))))))))
  all_goals skip
  exact bH rfl rfl (congrArg (Ty.int .i64) (by rw [bX, if_neg (ng (show mC y = false from hc1)), if_neg (ng (show mN y = false from hc2)), if_neg (ng (show kJ y = false from hc3)), if_neg (ng (show Aj y = false from hc4)), if_pos (show vP y = true from hc5)]))
 refine aG ?_
 refine cr (B := live [(1, Ty.pp (bZ y)), (3, Ty.pp [xO y]), (4, FD y)] []) ?_ ?_
 ·(refine dG.mk' ?_ ?_ <;> (repeat' (first | exact aI | exact aJ | refine aB ?_ (Ty.aT _) | refine aB ?_ (Ty.aE _))))
 refine aA ?_
 refine aR rfl rfl rfl rfl rfl (by decide) ?_
 refine aO rfl rfl rfl rfl ?_
 refine bA (mM y.moves (Ty.jz _ []) rfl (fun m => !decide (m.src = m.dst)) rfl rfl fun m _ => dV (Hw m) rfl rfl rfl rfl rfl rfl) rfl rfl rfl rfl rfl ?_
 refine eD rfl (dg rfl (aD (aC ?_)))
 refine ct rfl (fun hc6 => ?_) (fun hc6 => ?_)
 ·
  refine aG (aA (cJ rfl (aD (aC (bE (bL (aW (bz rfl rfl ?_))))))))
  all_goals skip
  exact bH rfl rfl (congrArg (Ty.int .i64) (by rw [bX, if_neg (ng (show mC y = false from hc1)), if_neg (ng (show mN y = false from hc2)), if_neg (ng (show kJ y = false from hc3)), if_neg (ng (show Aj y = false from hc4)), if_neg (ng (show vP y = false from hc5)), if_pos (show tD y = true from hc6)]))
 refine aG (aA ?_)
 refine aR rfl rfl rfl rfl rfl (by decide) ?_
 refine aO rfl rfl rfl rfl ?_
 refine bA (uH y.bins (Ty.jz _ []) rfl (fun b => iD b.first) rfl rfl fun b _ => dV (G5 b) rfl rfl rfl rfl rfl rfl) rfl rfl rfl rfl rfl ?_
 refine eD rfl (gj rfl ?_)
 apply aV (s := 70) rfl rfl rfl
 ·intro hg; apply aX; (refine aR rfl rfl rfl rfl rfl (by decide) ?_); refine aD ?_; exact rfl
 ·exact rfl
 ·exact rfl
 apply aV (s := 70) rfl rfl rfl
 ·intro hg; apply aS (s := 71) rfl (by (rw [hg]; rfl)); apply aX; (refine aO rfl rfl rfl rfl ?_); refine aD ?_; exact rfl
 ·exact rfl
 ·exact rfl
 apply aV (s := 70) rfl rfl rfl
 ·intro hg; apply aS (s := 72) rfl (by (rw [hg]; rfl)); apply aX; (refine bA (mM y.moves (Ty.jz _ []) rfl (fun m => iD m.sacks) rfl rfl fun m _ => dV (HX m) rfl rfl rfl rfl rfl rfl) rfl rfl rfl rfl rfl ?_); refine aD ?_; exact rfl
 ·exact rfl
 ·exact rfl
 apply aV (s := 70) rfl rfl rfl
 ·intro hg; apply aS (s := 73) rfl (by (rw [hg]; rfl)); apply aX; (refine eD rfl ?_); refine aD ?_; exact rfl
 ·exact rfl
 ·exact rfl
 refine oK rfl rfl (gj rfl ?_)
 apply aV (s := 76) rfl rfl rfl
 ·intro hg; apply aX; (refine aR rfl rfl rfl rfl rfl (by decide) ?_); refine aD ?_; exact rfl
 ·exact rfl
 ·exact rfl
 apply aV (s := 76) rfl rfl rfl
 ·intro hg; apply aS (s := 77) rfl (by (rw [hg]; rfl)); apply aX; (refine aO rfl rfl rfl rfl ?_); refine aD ?_; exact rfl
 ·exact rfl
 ·exact rfl
 apply aV (s := 76) rfl rfl rfl
 ·intro hg; apply aS (s := 78) rfl (by (rw [hg]; rfl)); apply aX; (refine bA (oz y.levels (Ty.jz _ []) rfl (fun l => iD l.sacks) rfl rfl fun l _ => dV (FE l) rfl rfl rfl rfl rfl rfl) rfl rfl rfl rfl rfl ?_); refine aD ?_; exact rfl
 ·exact rfl
 ·exact rfl
 apply aV (s := 76) rfl rfl rfl
 ·intro hg; apply aS (s := 79) rfl (by (rw [hg]; rfl)); apply aX; (refine eD rfl ?_); refine aD ?_; exact rfl
 ·exact rfl
 ·exact rfl
 refine oK rfl rfl (dg rfl (aD (aC ?_)))
 refine ct rfl (fun hc7 => ?_) (fun hc7 => ?_)
 ·
  refine aG (aA (cJ rfl (aD (aC (bE (bL (aW (bz rfl rfl ?_))))))))
  all_goals skip
  exact bH rfl rfl (congrArg (Ty.int .i64) (by rw [bX, if_neg (ng (show mC y = false from hc1)), if_neg (ng (show mN y = false from hc2)), if_neg (ng (show kJ y = false from hc3)), if_neg (ng (show Aj y = false from hc4)), if_neg (ng (show vP y = false from hc5)), if_neg (ng (show tD y = false from hc6)), if_pos (show tO y = true from hc7)]))
 refine aq (bV (aC (aG (aA (cJ rfl (aD (aC (bE (bz rfl rfl ?_)))))))))
 all_goals skip
 exact bH rfl rfl (congrArg (Ty.int .i64) (by rw [bX, if_neg (ng (show mC y = false from hc1)), if_neg (ng (show mN y = false from hc2)), if_neg (ng (show kJ y = false from hc3)), if_neg (ng (show Aj y = false from hc4)), if_neg (ng (show vP y = false from hc5)), if_neg (ng (show tD y = false from hc6)), if_neg (ng (show tO y = false from hc7))]))
set_option maxRecDepth 100000 in
theorem zu (y : ay) (hs : y.Small) (k : Int) : eB Tryz.prog 90 [fW y, Ty.int .i64 k] (Ty.int .i64 (eH y k)) := by
 refine bC Tryz.func90 rfl (by decide) Tryz.ntmps90 (by exact Nat.le_of_ble_eq_true rfl) fun w0 M0 => ?_
 refine aG (aA (bR rfl (cJ rfl (aD (aC (aG (aA ?_)))))))
 refine aZ rfl rfl rfl (by exact Nat.le_of_ble_eq_true rfl) ?_
 refine bA (kO y hs) rfl rfl rfl rfl rfl (cJ rfl (aD (aC (aG (aG (aA (bS rfl (bJ rfl rfl rfl (gj rfl ?_)))))))))
 apply aV (s := 10) rfl rfl rfl
 ·intro hg; apply aX; (refine aZ rfl rfl rfl (by exact Nat.le_of_ble_eq_true rfl) ?_); refine aD ?_; exact rfl
 ·exact rfl
 ·exact rfl
 apply aV (s := 10) rfl rfl rfl
 ·intro hg; apply aX; (refine bS rfl ?_); refine aD ?_; exact rfl
 ·exact rfl
 ·exact rfl
 apply aV (s := 10) rfl rfl rfl
 ·intro hg; apply aS (s := 11) rfl (by (rw [hg]; rfl)); apply aS (s := 12) rfl (by (rw [hg]; rfl)); apply aX; (refine bA (D6 y hs _) rfl rfl rfl rfl rfl ?_); refine aD ?_; exact rfl
 ·exact rfl
 ·exact rfl
 apply aV (s := 10) rfl rfl rfl
 ·intro hg; apply aS (s := 13) rfl (by (rw [hg]; rfl)); apply aX; (refine eD rfl ?_); refine aD ?_; exact rfl
 ·exact rfl
 ·exact rfl
 refine ep rfl rfl (aD (aC ?_))
 refine ct rfl (fun hc1 => ?_) (fun hc1 => ?_)
 ·
  refine aA (cJ rfl (aD (aC (aG (aA (bS rfl (cJ rfl (aD (aC ?_)))))))))
  refine bE (bz rfl rfl ?_)
  all_goals skip
  all_goals exact bH rfl rfl (congrArg (Ty.int .i64) (E2 hc1))
 refine aq (aC (aG (aA (bS rfl (cJ rfl (aD (aC (bE (bz rfl rfl ?_)))))))))
 all_goals skip
 all_goals exact bH rfl rfl (congrArg (Ty.int .i64) (Ek hc1))
end Go.Proofs.YtelbollidfdcjaaGreat
namespace Go.T
open Go Go.RowKit
def rH (A : As) (L : List Nat) (s t : Ty) : Prop := ∀ w M v, Wf w M → (∀ x ∈ A.tags, x.1 ∈ L → x.2.den w M x.1) → s.den w M v → t.den w (qF M L) v
def nV (A : As) (L : List Nat) : List Ty → List Ty → Prop
  | [], [] => True
  | s :: ss, t :: ts => rH A L s t ∧ nV A L ss ts
  | _, _ => False
theorem bU {A : As} {L : List Nat} : nV A L [] [] := trivial
theorem aL {A : As} {L : List Nat} {s t : Ty} {ss ts : List Ty} (h : rH A L s t) (h' : nV A L ss ts) : nV A L (s :: ss) (t :: ts) := ⟨h, h'⟩
theorem ot {A : As} {L : List Nat} {w : World} {M : bB} (wf : Wf w M) (ht : ∀ x ∈ A.tags, x.1 ∈ L → x.2.den w M x.1) : ∀ {ss ts : List Ty} {vs : List Value}, nV A L ss ts → cV w M ss vs → cV w (qF M L) ts vs
  | [], [], [], _, _ => trivial
  | _ :: _, _ :: _, _ :: _, ⟨h, h'⟩, ⟨h1, h2⟩ => ⟨h _ _ _ wf ht h1, ot wf ht h' h2⟩
theorem af {A : As} {L : List Nat} {s t : Ty} (h : I6 L s t) : rH A L s t := fun w M v wf _ hd => h w M v wf hd
theorem hH {A : As} {L : List Nat} {ss ts : List Ty} (h : nV A L ss ts) : rH A L (Ty.agg ss) (Ty.agg ts) := fun _ _ _ wf ht ⟨cs, e, hd⟩ => ⟨cs, e, ot wf ht h hd⟩
theorem g7 {A : As} {L : List Nat} {α : Type} {E : El α} {T tg n : Nat} {xs : List α} (hc : A.tag tg = some (.vec E T xs)) (hn : xs.length = n) (h1 : gI tg) (hL : L.contains tg = true) : rH A L (.vs tg n) (.sl E xs) := fun w M v wf ht hd => by
 have hL' : tg ∈ L := by simpa using hL
 have hv : gu E T xs w M tg := ht _ (dB hc) hL'
 subst hn
 rcases hd with ⟨h0, rfl⟩ | ⟨b, cc, hb, e, hn1, hn2⟩
 ·exact ⟨none, 0, by rw [h0], by omega, by simp [maxLen], fun h => absurd h (by omega)⟩
 refine ⟨_, cc, e, hn1, hn2, fun _ => ⟨b, 0, rfl, y6 hb hL', wf.lt b _ hb, fun i t hi => ?_⟩⟩
 obtain ⟨u, hu, hdu⟩ := oX wf h1 hb hv hi
 refine ⟨u, by rw [Nat.zero_add]; exact hu, t.mono (S := fun _ => True) (K := fun _ => True) (w := w) ⟨Nat.le_refl _, rfl, rfl, rfl, fun b _ hm => ⟨jg hm, rfl⟩, fun b t _ h => absurd trivial h⟩ ?_ ?_ hdu⟩
 ·intro u hu
  have : u ∈ cN (xs.flatMap E.tys) := List.mem_flatMap.2 ⟨t, List.mem_of_getElem? hi, hu⟩
  rw [E.dM] at this; cases this
 intro u hu
 have : u ∈ bw (xs.flatMap E.tys) := List.mem_flatMap.2 ⟨t, List.mem_of_getElem? hi, hu⟩
 rw [E.cv] at this; cases this
section
variable {P : Program} {fr : Fr} {ops : Array Oper} {A : As} {rest : List Oper} {K : As → List (As × Fx) → Prop} {d : Nat} {t ty' : TypeId} {p : String} {e : Array Edge} {Q : Exit → Act → World → Prop} {c : Code}
theorem dO (L : List Nat) {f : FuncId} {args : List Ty} {res : Ty} (hF : eB P f args res) {xs : List Operand} {ats : Array TypeId} {ss : List Ty} (hx : oH A fr xs = ss) (hl : nV A L ss args) (hp : res.Plain)
 (h : ak P fr ops rest (A.set d res) fun A' l => K A' ((A, { d := some d, ty := res, rs := xs.flatMap cR, rt := L }) :: l)) : ak P fr ops (⟨some d, .call ⟨.value (.func f), xs.toArray, ats⟩, t, p, e, none⟩ :: rest) A K := by
 refine ⟨{ d := some d, ty := res, rs := xs.flatMap cR, rt := L }, ⟨rfl, by simp, by simp, by simp, fun a w M wf _ hrd htg => ?_⟩, h⟩
 rw [if_pos (by simp [Region.wanted])]
 have hv : cV w M ss (xs.map a.eval) := hx ▸ gr hrd fun x hx c hc => List.mem_flatMap.2 ⟨x, hx, hc⟩
 have hc := hF.2 w _ _ (J2 (L := L) wf) sj (ot wf htg hl hv)
 have hrun : (execOp a.eval ⟨some d, .call ⟨.value (.func f), xs.toArray, ats⟩, t, p, e, none⟩).run P w = .ok (.enter f (xs.map a.eval).toArray) w := by
  simp [execOp, resolve, Act.eval, Deferred.ofValue, invoke, n5 hF]
 refine mF hrun ?_
 refine hc.mono fun en w' ⟨r, M', he, wf', le, hden⟩ => ?_
 obtain ⟨h1, h2, h3⟩ := Co wf le hp hden
 exact ⟨r, he, r, rfl, _, h1, h2, h3, by simp⟩
end
section
open Go.RowKit
variable {P : Program} {A : As} {fn : Func} {n : Nat} {w0 : World} {M0 : bB} {F : List Nat} {post : List (Nat × Cont)} [T : k8 P]
end
section
variable {P : Program} {fr : Fr} {ops : Array Oper} {A : As} {rest : List Oper} {K : As → List (As × Fx) → Prop} {d : Nat} {t ty' : TypeId} {p : String} {e : Array Edge} [T : k8 P]
def NU (w : World) (M : bB) (J : Nat) (v : Value) : Prop := v = .slice none 0 0 ∨ ∃ g n c cur T, v = .slice (some ⟨g, 0, none⟩) n c ∧ M g = some J ∧ w.heap[g]? = some (.cells cur T (0, 0)) ∧ n ≤ cur.size
def Cont.fit (vs : List Value) : Cont :=
  { den := fun w M J => ∀ v ∈ vs, NU w M J v
    mono := fun le _ _ hs hk h v hv => (h v hv).imp id fun ⟨g, n, c, cur, T, e, hg, hh, hn⟩ => let ⟨h1, h2⟩ := le.own g _ hg hk
      ⟨g, n, c, cur, T, e, h1, (h2 hs).trans hh, hn⟩ }
end
instance : Inhabited {v : Value // v.oneCell' = true} := ⟨⟨.bool true, rfl⟩⟩
section
variable {P : Program} {fr : Fr} {A : As} {Q : Exit → Act → World → Prop} {code : Code}
end
end Go.T
namespace Go.T
open Go Go.RowKit
def Gg {α : Type} (E : El α) (T J : Nat) (xs : List α) (w : World) (M : bB) (v : Value) : Prop :=
  (xs = [] ∧ v = .slice none 0 0) ∨ ∃ g off c cur, v = .slice (some ⟨g, off, none⟩) xs.length c ∧ M g = some J ∧ w.heap[g]? = some (.cells cur T (0, 0)) ∧ xs.length ≤ c ∧ c ≤ maxLen ∧ off + c * E.size ≤ cur.size ∧ cV w M (xs.flatMap E.tys) ((cur.toList.drop off).take (xs.length * E.size))
def Ty.iX {α : Type} (E : El α) (T J : Nat) (xs : List α) : Ty :=
  ⟨Gg E T J xs, [J], [J], fun le hk hs h => h.imp id fun ⟨g, off, c, cur, e, hg, hh, h1, h2, h3, h4⟩ =>
    let ⟨a, b⟩ := le.own g J hg (hk J (by simp))
    ⟨g, off, c, cur, e, a, (b (hs J (by simp))).trans hh, h1, h2, h3, cI le (by rw [E.dM]; intro _ h; cases h) (by rw [E.cv]; intro _ h; cases h) h4⟩, true, fun _ h => by
      rcases h with ⟨_, rfl⟩ | ⟨_, _, _, _, rfl, _⟩ <;> rfl⟩
def mG (size : Nat) : Value → Option (Nat × Nat)
  | .slice (some a) n _ => some (a.block, a.off + n * size)
  | _ => none
def roomy : Value → Bool
  | .slice _ n c => Nat.blt n c
  | _ => false
section
variable {κ α : Type} [DecidableEq κ]
def Hg (size : Nat) (vs : List Value) : Prop := ∀ (i j : Nat) (v u : Value) (g e e' : Nat), vs[i]? = some v → vs[j]? = some u → mG size v = some (g, e) → mG size u = some (g, e') → i = j
def Nq (enc : κ → Value) (E : El α) (T J : Nat) (q : List (κ × List α)) (w : World) (M : bB) (t : Nat) : Prop :=
  (q.map Prod.fst).Nodup ∧ ∃ b es clock, M b = some t ∧ w.heap[b]? = some (.map es clock) ∧ es.toList.map (·.key) = q.map (fun x => enc x.1) ∧ cV w M (q.map fun x => Ty.iX E T J x.2) (es.toList.map (·.val)) ∧ Hg E.size (es.toList.map (·.val))
omit [DecidableEq κ] in
theorem tH {E : El α} {T J : Nat} {q : List (κ × List α)} : (∀ u ∈ cN (q.map fun x => Ty.iX E T J x.2), u = J) ∧ ∀ u ∈ bw (q.map fun x => Ty.iX E T J x.2), u = J := by
 constructor <;>
 ·intro u hu
  simp only [cN, bw, List.mem_flatMap, List.mem_map] at hu
  obtain ⟨t, ⟨x, _, rfl⟩, hu⟩ := hu
  simpa [Ty.iX] using hu
def Cont.mr (enc : κ → Value) (E : El α) (T J : Nat) (q : List (κ × List α)) : Cont :=
  { den := Nq enc E T J q, deps := [J], cdeps := [J]
    mono := fun le hk hs hst hkt ⟨hn, b, es, clock, h1, h2, h3, h4, h5⟩ => let ⟨a, c⟩ := le.own b _ h1 hkt
      ⟨hn, b, es, clock, a, (c hst).trans h2, h3, cI le (fun u hu => by rw [tH.1 u hu]; exact hk J (by simp)) (fun u hu => by rw [tH.2 u hu]; exact hs J (by simp)) h4, h5⟩ }
omit [DecidableEq κ] in
theorem Cont.sZ {enc : κ → Value} {E : El α} {T J : Nat} {q q' : List (κ × List α)} (h : q = q') : (Cont.mr enc E T J q).Sub (Cont.mr enc E T J q') := h ▸ Cont.aE _
def NG (size t : Nat) (q : List (κ × List α)) (k : κ) (w : World) (M : bB) (v : Value) : Prop :=
  ∀ (g e0 : Nat), mG size v = some (g, e0) → ∃ (b : Nat) (es : Array MapEntry) (clock : Nat), M b = some t ∧ w.heap[b]? = some (.map es clock) ∧ ∀ (j : Nat) (u : Value) (e1 : Nat), (es.toList.map (·.val))[j]? = some u → mG size u = some (g, e1) → (q[j]?).map Prod.fst = some k ∧ (roomy v = true → e1 ≤ e0)
def Nk (E : El α) (T t J : Nat) (q : List (κ × List α)) (k : κ) (xs : List α) (w : World) (M : bB) (v : Value) : Prop := Gg E T J xs w M v ∧ NG E.size t q k w M v
def Ty.qv (E : El α) (T t J : Nat) (q : List (κ × List α)) (k : κ) (xs : List α) : Ty :=
  ⟨Nk E T t J q k xs, [t, J], [t, J], fun le hk hs ⟨h, h'⟩ => ⟨(Ty.iX E T J xs).mono le (fun u hu => hk u (by simp [Ty.iX] at hu ⊢; exact .inr hu)) (fun u hu => hs u (by simp [Ty.iX] at hu ⊢; exact .inr hu)) h, fun g e0 he =>
    let ⟨b, es, clock, h1, h2, h3⟩ := h' g e0 he
    let ⟨a, c⟩ := le.own b t h1 (hk t (by simp))
    ⟨b, es, clock, a, (c (hs t (by simp))).trans h2, h3⟩⟩, true, fun ho h => (Ty.iX E T J xs).isOne ho h.1⟩
omit [DecidableEq κ] in
theorem Bh (q : List (κ × List α)) (hn : (q.map Prod.fst).Nodup) {i j : Nat} {k : κ} (hi : (q[i]?).map Prod.fst = some k) (hj : (q[j]?).map Prod.fst = some k) : i = j := by
 rw [← List.getElem?_map] at hi hj
 obtain ⟨h1, e1⟩ := List.getElem?_eq_some_iff.1 hi
 obtain ⟨h2, e2⟩ := List.getElem?_eq_some_iff.1 hj
 exact (List.getElem_inj hn).1 (e1.trans e2.symm)
theorem zG {q : List (κ × List α)} {k : κ} {i : Nat} (h : (q.map Prod.fst).findIdx? (fun x => decide (x = k)) = some i) : (q[i]?).map Prod.fst = some k := by
 obtain ⟨v, hv, _⟩ := pM q k i h
 rw [hv]; rfl
theorem E6 (q : List (κ × List α)) (k : κ) (v : List α) (hn : (q.map Prod.fst).Nodup) : ((gm q k v).map Prod.fst).Nodup := by
  cases hi : (q.map Prod.fst).findIdx? (fun x => decide (x = k)) with
  | some i =>
    obtain ⟨u, hu, _, hp⟩ := pM q k i hi
    rw [hp, List.map_set]
    have : (q.map Prod.fst).set i k = q.map Prod.fst := by
      apply List.ext_getElem?
      intro j
      rw [List.getElem?_set]
      by_cases e : i = j
      · subst e
        have hlt := (List.getElem?_eq_some_iff.1 hu).1
        rw [if_pos rfl, if_pos (by simpa using hlt), List.getElem?_map, hu]; rfl
      · rw [if_neg e]
    rw [this]; exact hn
  | none =>
    obtain ⟨_, hp⟩ := pN q k hi
    rw [hp, List.map_append, List.nodup_append]
    refine ⟨hn, by simp, fun a ha b hb => ?_⟩
    simp only [List.map_cons, List.map_nil, List.mem_singleton] at hb
    subst hb
    intro e
    subst e
    rw [List.findIdx?_eq_none_iff] at hi
    have := hi a ha
    simp at this
end
section
variable {P : Program} {fr : Fr} {ops : Array Oper} {A : As} {rest : List Oper} {K : As → List (As × Fx) → Prop} {d : Nat} {t ty' mt kt et : TypeId} {p : String} {e : Array Edge}
variable {κ α : Type} [DecidableEq κ] {E : El α} {Tb J tg : Nat} {q : List (κ × List α)} {k : κ} {xs ys : List α}
omit [DecidableEq κ] in
theorem KH {x : Operand} {enc : κ → Value} (hx : A.op fr x = .mp tg) (hc : A.tag tg = some (.mr enc E Tb J q)) (h1 : gI tg) {a : Act} {w : World} {M : bB} {rs : List Nat} (wf : Wf w M) (hr : ∀ c ∈ cR x, c ∈ rs) (hrd : ∀ c ∈ rs, c < fr.n → (A.slots c).den w M (a.tmps.getD c undef)) (htg : ∀ y ∈ A.tags, y.1 ∈ [tg] → y.2.den w M y.1) :
 (q.map Prod.fst).Nodup ∧ ∃ b es clock, a.eval x = .map (some b) ∧ M b = some tg ∧ w.heap[b]? = some (.map es clock) ∧ es.toList.map (·.key) = q.map (fun x => enc x.1) ∧ cV w M (q.map fun x => Ty.iX E Tb J x.2) (es.toList.map (·.val)) ∧ Hg E.size (es.toList.map (·.val)) := by
 have hxd := cY hr hrd
 rw [hx] at hxd
 obtain ⟨b, e1, e2⟩ := hxd
 obtain ⟨hn, b', es, clock, h2, h3⟩ := htg _ (dB hc) (by simp)
 obtain ⟨u, rfl⟩ : ∃ u, tg = u + 1 := ⟨tg - 1, by omega⟩
 have : b = b' := wf.inj b b' u (by omega) e2 h2
 subst this
 exact ⟨hn, b, es, clock, e1, e2, h3⟩
theorem A9 {es : Array MapEntry} {i : Nat} {en : MapEntry} (h : es[i]? = some en) : (es.toList.map (·.val))[i]? = some en.val := by
 rw [List.getElem?_map, Array.getElem?_toList, h]; rfl
omit [DecidableEq κ] in
theorem CS (enc : κ → Value) (E : El α) (Tb J : Nat) (hm : mapOf P mt = some (kt, et)) (hp : fr.pass.contains (d + 1) = false)
 (h : ak P fr ops rest (A.after { d := some d, ty := .mp (d + 1), K := [d + 1], sets := [(d + 1, .mr enc E Tb J [])] }) fun A' l' => K A' ((A, { d := some d, ty := .mp (d + 1), K := [d + 1], sets := [(d + 1, .mr enc E Tb J [])] }) :: l')) :
 ak P fr ops (⟨some d, .makeMap mt none, t, p, e, none⟩ :: rest) A K := by
 refine ⟨_, iB rfl rfl (by simp) (by simp) (by simp at hp ⊢; exact hp) fun a w M wf _ _ => ?_, h⟩
 have hrun : (execOp a.eval ⟨some d, .makeMap mt none, t, p, e, none⟩).run P w = .ok (.value (.map (some w.heap.size))) (w.alloc (.map #[] 0)) := by
  simp [execOp, Instr.makeMap, newObj, Sem.run]
 obtain ⟨h1, h2, h3⟩ := lV wf (.map #[] 0) (d + 1)
 refine ⟨_, _, hrun, _, h1, h2, ⟨_, rfl, h3⟩, fun x hx => ?_⟩
 rw [List.mem_singleton.1 hx]
 exact ⟨by simp, w.heap.size, #[], 0, h3, iY _ _, rfl, trivial, fun i j v u g e e' hi => by simp at hi⟩
theorem x8 {x y : Operand} {kty : Ty} (KK : xF P kt κ) (hx : A.op fr x = .mp tg) (hc : A.tag tg = some (.mr KK.enc E Tb J q)) (h1 : gI tg) (hy : A.op fr y = kty) (hk : uD kty (KK.enc k)) (hm : mapOf P mt = some (kt, et)) (hz : zeroOf P et = some (.slice none 0 0))
 (h : ak P fr ops rest (A.set d (.qv E Tb tg J q k ((eT q k).getD []))) fun A' l' => K A' ((A, { d := some d, ty := .qv E Tb tg J q k ((eT q k).getD []), rs := cR x ++ cR y, rt := [tg] }) :: l')) :
 ak P fr ops (⟨some d, .lookup mt x y false, t, p, e, none⟩ :: rest) A K :=
 bP (bW rfl rfl fun a w M wf hrd htg => by
  obtain ⟨hn, b, es, clock, e1, e2, h3, h4, h5, h6⟩ := KH hx hc h1 wf (fun c hc => List.mem_append_left _ hc) hrd htg
  have hyd := cY (fun c hc => List.mem_append_right (cR x) hc) hrd
  rw [hy] at hyd
  have hu := pT hm
  rcases rK KK h4 h5 k with ⟨i, v, en, hi, hg, hen, _, hd, hf⟩ | ⟨_, hg, hf⟩
  ·refine ⟨en.val, ?_, by rw [hg]; exact hd, fun g e0 he => ⟨b, es, clock, e2, h3, fun j u e1 hj hju => ?_⟩⟩
   ·simp only [execOp, e1, hk _ _ _ hyd]
    simp [Instr.lookup, underlying, hu, getObj, Sem.run, h3, KK.check, hf]
   have hij := h6 i j en.val u g e0 e1 (A9 hen) hj he hju
   subst hij
   rw [A9 hen] at hj
   injection hj with hj
   subst hj
   rw [he] at hju
   injection hju with hju
   injection hju with _ hju
   exact ⟨zG hi, fun _ => by omega⟩
  refine ⟨.slice none 0 0, ?_, by rw [hg]; exact .inl ⟨rfl, rfl⟩, fun g e0 he => by simp [mG] at he⟩
  simp only [execOp, e1, hk _ _ _ hyd]
  simp [Instr.lookup, underlying, hu, getObj, Sem.run, h3, KK.check, hf, vl hz]) h
theorem yH {x y z : Operand} {kty : Ty} (KK : xF P kt κ) (hx : A.op fr x = .mp tg) (hc : A.tag tg = some (.mr KK.enc E Tb J q)) (h1 : gI tg) (hy : A.op fr y = kty) (hk : uD kty (KK.enc k)) (hz : A.op fr z = .qv E Tb tg J q k xs) (hm : mapOf P mt = some (kt, et)) (hJ : Nat.beq J tg = false)
 (h : ak P fr ops rest (A.after { d := none, S := [tg], sets := [(tg, .mr KK.enc E Tb J (gm q k xs))], rs := cR x ++ (cR y ++ cR z), rt := [tg] }) fun A' l' => K A' ((A, { d := none, S := [tg], sets := [(tg, .mr KK.enc E Tb J (gm q k xs))], rs := cR x ++ (cR y ++ cR z), rt := [tg] }) :: l')) :
 ak P fr ops (⟨none, .mapUpdate mt x y z, t, p, e, none⟩ :: rest) A K := by
 have hJ' : J ≠ tg := fun h => by subst h; simp at hJ
 refine ⟨_, l6 rfl rfl rfl (by simp) (by simpa using h1.1) (by simp) fun a w M wf hrd htg => ?_, h⟩
 obtain ⟨hn, b, es, clock, e1, e2, h3, h4, h5, h6⟩ := KH hx hc h1 wf (fun c hc => List.mem_append_left _ hc) hrd htg
 have hyd := cY (fun c hc => List.mem_append_right (cR x) (List.mem_append_left (cR z) hc)) hrd
 have hzd := cY (fun c hc => List.mem_append_right (cR x) (List.mem_append_right (cR y) hc)) hrd
 rw [hy] at hyd
 rw [hz] at hzd
 obtain ⟨hrow, hown⟩ := hzd
 have hu := pT hm
 have hblt : b < w.heap.size := wf.lt b _ e2
 have own' : ∀ (g e0 : Nat), mG E.size (a.eval z) = some (g, e0) → ∀ (j : Nat) (u : Value) (e' : Nat), (es.toList.map (·.val))[j]? = some u → mG E.size u = some (g, e') → (q[j]?).map Prod.fst = some k := fun g e0 he j u e' hj hju => by
  obtain ⟨b', es', c', g1, g2, g3⟩ := hown g e0 he
  obtain ⟨u', rfl⟩ : ∃ u, tg = u + 1 := ⟨tg - 1, by omega⟩
  have : b = b' := wf.inj b b' u' (by omega) e2 g1
  subst this
  rw [h3] at g2
  injection g2 with g2
  injection g2 with g2 g4
  subst g2
  exact (g3 j u e' hj hju).1
 have fin : ∀ (es' : Array MapEntry) (clock' : Nat), es'.toList.map (·.key) = (gm q k xs).map (fun x => KK.enc x.1) → cV w M ((gm q k xs).map fun x => Ty.iX E Tb J x.2) (es'.toList.map (·.val)) → Hg E.size (es'.toList.map (·.val)) →
  (Instr.mapUpdate mt (.map (some b)) (KK.enc k) (a.eval z)).run P w = .ok () { w with heap := w.heap.setIfInBounds b (.map es' clock') } →
  ∃ w', (execOp a.eval ⟨none, .mapUpdate mt x y z, t, p, e, none⟩).run P w = .ok .skip w' ∧ Fx.left { d := none, S := [tg], sets := [(tg, .mr KK.enc E Tb J (gm q k xs))], rs := cR x ++ (cR y ++ cR z), rt := [tg] } w M w' undef := by
  intro es' clock' hk' hd' hap hrun
  have hr : (execOp a.eval ⟨none, .mapUpdate mt x y z, t, p, e, none⟩).run P w = .ok .skip { w with heap := w.heap.setIfInBounds b (.map es' clock') } := by
   simp only [execOp, e1, hk _ _ _ hyd]
   simp [hrun]
  have le : Le (· ∈ [tg]) (· ∈ ([] : List Nat)) w M { w with heap := w.heap.setIfInBounds b (.map es' clock') } M := by
   refine ⟨by simp, rfl, rfl, rfl, fun b2 hlt hm2 => ⟨hm2, ?_⟩, fun b2 u hm2 _ => ⟨hm2, fun hs => ?_⟩⟩
   ·have : b ≠ b2 := fun h => by subst h; rw [e2] at hm2; cases hm2
    simp [Array.getElem?_setIfInBounds, this]
   have : b ≠ b2 := fun h => by subst h; rw [e2] at hm2; injection hm2 with hm2; exact hs (by simp [hm2])
   simp [Array.getElem?_setIfInBounds, this]
  refine ⟨_, hr, M, ⟨fun b2 u h => by simpa using wf.lt b2 u h, wf.inj⟩, le, trivial, fun x hx => ?_⟩
  rw [List.mem_singleton.1 hx]
  refine ⟨E6 q k xs hn, b, es', clock', e2, by simp [hblt], hk', ?_, hap⟩
  exact cI le (fun _ _ => by simp) (fun u hu => by rw [tH.2 u hu]; simpa using hJ') hd'
 rcases rK KK h4 h5 k with ⟨i, v0, en, hi, hg, hen, hkey, hd, hf⟩ | ⟨hi, hg, hf⟩
 ·obtain ⟨v1, hv1, _, hput⟩ := pM q k i hi
  have hil : i < es.size := (Array.getElem?_eq_some_iff.1 hen).1
  have hes : (es.modify i fun e => { e with key := KK.enc k, val := a.eval z }).toList = es.toList.set i { en with key := KK.enc k, val := a.eval z } := by
   rw [Array.toList_modify, List.modify_eq_set, Array.getElem?_toList, hen]; rfl
  refine fin (es.modify i fun e => { e with key := KK.enc k, val := a.eval z }) clock ?_ ?_ ?_ ?_
  ·rw [hput, List.map_set, hes, List.map_set, h4]
  ·rw [hput, List.map_set, hes, List.map_set]
   exact rJ h5 hrow
  ·rw [hes, List.map_set]
   intro i1 j1 v u g e' e'' hi1 hj1 hv hu
   rw [List.getElem?_set] at hi1 hj1
   by_cases c1 : i = i1 <;> by_cases c2 : i = j1
   ·omega
   ·rw [if_pos c1] at hi1; rw [if_neg c2] at hj1
    split at hi1
    ·injection hi1 with hi1
     have hi1 : a.eval z = v := hi1
     subst hi1
     have := Bh q hn (own' g e' hv j1 u e'' hj1 hu) (zG hi)
     omega
    cases hi1
   ·rw [if_neg c1] at hi1; rw [if_pos c2] at hj1
    split at hj1
    ·injection hj1 with hj1
     have hj1 : a.eval z = u := hj1
     subst hj1
     have := Bh q hn (own' g e'' hu i1 v e' hi1 hv) (zG hi)
     omega
    cases hj1
   rw [if_neg c1] at hi1; rw [if_neg c2] at hj1
   exact h6 i1 j1 v u g e' e'' hi1 hj1 hv hu
  simp [Instr.mapUpdate, underlying, hu, getObj, setObj, Sem.run, h3, KK.check, hf, hen, hkey, Instr.keyThatStays, KK.same]
 obtain ⟨_, hput⟩ := pN q k hi
 have hlen : (es.toList.map (·.val)).length = q.length := by have := congrArg List.length h4; simpa using this
 have hno : ∀ j, (q[j]?).map Prod.fst ≠ some k := fun j hj => by
  rw [List.findIdx?_eq_none_iff] at hi
  rw [← List.getElem?_map] at hj
  have := hi k (List.mem_of_getElem? hj)
  simp at this
 refine fin (es.push { key := KK.enc k, val := a.eval z, born := clock }) (clock + 1) ?_ ?_ ?_ ?_
 ·rw [hput]; simp [h4]
 ·rw [hput]; simp only [Array.toList_push, List.map_append, List.map_cons, List.map_nil]
  exact eK h5 ⟨hrow, trivial⟩
 ·simp only [Array.toList_push, List.map_append, List.map_cons, List.map_nil]
  intro i1 j1 v u g e' e'' hi1 hj1 hv hu
  rw [List.getElem?_append] at hi1 hj1
  split at hi1 <;> split at hj1
  ·exact h6 i1 j1 v u g e' e'' hi1 hj1 hv hu
  ·rw [List.getElem?_singleton] at hj1
   split at hj1
   ·injection hj1 with hj1
    subst hj1
    exact absurd (own' g e'' hu i1 v e' hi1 hv) (hno i1)
   cases hj1
  ·rw [List.getElem?_singleton] at hi1
   split at hi1
   ·injection hi1 with hi1
    subst hi1
    exact absurd (own' g e' hv j1 u e'' hj1 hu) (hno j1)
   cases hi1
  rw [List.getElem?_singleton] at hi1 hj1
  split at hi1 <;> split at hj1 <;> first | omega | (exfalso; simp at hj1; done) | (exfalso; simp at hi1; done)
 simp [Instr.mapUpdate, underlying, hu, getObj, setObj, Sem.run, h3, KK.check, hf]
end
section
variable {P : Program} {fr : Fr} {ops : Array Oper} {A : As} {rest : List Oper} {K : As → List (As × Fx) → Prop} {d : Nat} {t ty' mt kt et : TypeId} {p : String} {e : Array Edge} [T : k8 P]
variable {κ α : Type} [DecidableEq κ] {E : El α} {Tb J tg : Nat} {q : List (κ × List α)} {k : κ} {xs ys : List α}
theorem FL [Inhabited α] {w : World} {M : bB} {g off i j : Nat} {cur : Array Value} {ty : Ty} (hh : w.heap[g]? = some (.cells cur Tb (0, 0))) (hd : cV w M (xs.flatMap E.tys) ((cur.toList.drop off).take (xs.length * E.size))) (hi : i < xs.length) (hl : (E.tys (nth xs i))[j]? = some ty) :
 ∃ u, w.cell? ⟨g, off + i * E.size + j, none⟩ = some u ∧ ty.den w M u := by
 obtain ⟨u, hu, hdu⟩ := dc hd _ ty (lQ E xs hi j ty hl)
 rw [List.getElem?_take] at hu
 split at hu
 ·rw [List.getElem?_drop] at hu
  exact ⟨u, by rw [Nat.add_assoc]; simpa [World.cell?, hh] using hu, hdu⟩
 cases hu
end
end Go.T
namespace Go.T
open Go Go.RowKit
section
variable {P : Program} {fr : Fr} {ops : Array Oper} {A : As} {rest : List Oper} {K : As → List (As × Fx) → Prop} {d : Nat} {t ty' mt kt et : TypeId} {p : String} {e : Array Edge} [T : k8 P]
variable {κ α : Type} [DecidableEq κ] {E : El α} {Tb J tg : Nat} {q : List (κ × List α)} {k : κ} {xs ys : List α}
theorem Gn (l news : List Value) (o n m e : Nat) (he : o + n ≤ e) (hl : e + news.length ≤ l.length) : (((l.take e ++ news ++ l.drop (e + news.length)).drop o).take n) = (l.drop o).take n := by
 apply List.ext_getElem?
 intro i
 rw [List.getElem?_take, List.getElem?_take]
 split
 ·rename_i hi
  rw [List.getElem?_drop, List.getElem?_drop, List.append_assoc, List.getElem?_append_left (by rw [List.length_take]; omega), List.getElem?_take, if_pos (by omega)]
 rfl
theorem Am (l news : List Value) (o n : Nat) (hl : o + n + news.length ≤ l.length) : (((l.take (o + n) ++ news ++ l.drop (o + n + news.length)).drop o).take (n + news.length)) = (l.drop o).take n ++ news := by
 have h1 : (l.take (o + n) ++ news ++ l.drop (o + n + news.length)).drop o = (l.drop o).take n ++ news ++ l.drop (o + n + news.length) := by
  rw [List.append_assoc, List.drop_append_of_le_length (by rw [List.length_take]; omega), List.drop_take, show o + n - o = n by omega, List.append_assoc]
 have h2 : ((l.drop o).take n ++ news).length = n + news.length := by rw [List.length_append, List.length_take, List.length_drop, Nat.min_eq_left (by omega)]
 rw [h1, List.take_left' h2]
omit [DecidableEq κ] in
theorem Hz {w : World} {M : bB} {vs : List Value} (hd : cV w M (q.map fun x => Ty.iX E Tb J x.2) vs) {j : Nat} {u : Value} {g e1 : Nat} (hj : vs[j]? = some u) (hu : mG E.size u = some (g, e1)) : M g = some J := by
 have hlen := cX hd
 have hlt := (List.getElem?_eq_some_iff.1 hj).1
 obtain ⟨x, hx, hdx⟩ := dc hd j (Ty.iX E Tb J (q[j]'(by simpa [hlen] using hlt)).2) (by rw [List.getElem?_map, List.getElem?_eq_getElem (by simpa [hlen] using hlt)]; rfl)
 rw [hj] at hx
 injection hx with hx
 subst hx
 rcases hdx with ⟨_, e⟩ | ⟨g', off, c, cur, e, hg, _⟩
 ·rw [e] at hu; simp [mG] at hu
 rw [e] at hu
 simp only [mG, Option.some.injEq, Prod.mk.injEq] at hu
 rw [← hu.1]; exact hg
theorem yA {x y : Operand} {enc : κ → Value} {st el : Nat} {ti te : TI} (hx : A.op fr x = .qv E el tg J q k xs) (hy : A.op fr y = .sl E ys) (hc : A.tag tg = some (.mr enc E el J q)) (h1 : gI tg) (hJ : 4096 ≤ J) (hp : fr.pass.contains J = false) (hpos : 0 < ys.length) (hT : T.e9[st]? = some ti) (hk : ti.k = .slice el) (hE : T.e9[el]? = some te) (hs : te.size = E.size) (hz : te.zero.length = te.size) (h0 : 0 < te.size)
    (hlen : (xs.length + ys.length) * te.bytes ≤ 140737488355328) (hlen' : xs.length + ys.length ≤ 9223372036854775807)
    (h : ak P fr ops rest (A.after { d := some d, ty := .qv E el tg J q k (xs ++ ys), S := [tg, J], sets := [(tg, .mr enc E el J q)], rs := cR x ++ cR y, rt := [tg] }) fun A' l' => K A' ((A, { d := some d, ty := .qv E el tg J q k (xs ++ ys), S := [tg, J], sets := [(tg, .mr enc E el J q)], rs := cR x ++ cR y, rt := [tg] }) :: l')) :
    ak P fr ops (⟨some d, .call ⟨.builtin .append, #[x, y], #[st, st]⟩, t, p, e, none⟩ :: rest) A K := by
  refine ⟨_, iB rfl rfl (by simp) (by simp; exact ⟨h1.1, by omega⟩) (by simp) fun a w M wf hr htg => ?_, h⟩
  obtain ⟨hdx, hdy⟩ := op2 hr
  rw [hx] at hdx; rw [hy] at hdy
  obtain ⟨hrow, hown⟩ := hdx
  obtain ⟨hn, b, es, clock, hb, hhb, hkeys, hvals, hap⟩ := htg _ (dB hc) (by simp)
  have ownb : ∀ (g e0 : Nat), mG E.size (a.eval x) = some (g, e0) → ∀ (j : Nat) (u : Value) (e1 : Nat), (es.toList.map (·.val))[j]? = some u → mG E.size u = some (g, e1) → (q[j]?).map Prod.fst = some k ∧ (roomy (a.eval x) = true → e1 ≤ e0) := fun g e0 he => by
    obtain ⟨b', es', c', g1, g2, g3⟩ := hown g e0 he
    obtain ⟨u', hu'⟩ : ∃ u, tg = u + 1 := ⟨tg - 1, by omega⟩
    have : b = b' := by
      have hb' : M b = some (u' + 1) := hu' ▸ hb
      have g1' : M b' = some (u' + 1) := hu' ▸ g1
      exact wf.inj b b' u' (by omega) hb' g1'
    subst this
    rw [hhb] at g2
    injection g2 with g2
    injection g2 with g2 _
    subst g2
    exact g3
  obtain ⟨_, D, _, hD, hkd, _⟩ := dU hT
  rw [hk] at hkd
  cases D <;> simp only [TK.of, reduceCtorEq, TK.slice.injEq] at hkd
  subst hkd
  rename_i el
  obtain ⟨i, _, hi, _, _, hsz, hby, hze⟩ := dU hE
  obtain ⟨zz, hiz, hzc⟩ : ∃ z, i.zero = some z ∧ z.cells.size = i.size := by
    cases hiz : i.zero with
    | none => rw [hiz] at hze; rw [← hze] at hz; simp at hz; omega
    | some z => rw [hiz] at hze; exact ⟨z, rfl, by simp at hze; rw [hsz, ← hz, ← hze]; simp⟩
  obtain ⟨ad, c', ey, hc1, hc2, hpp⟩ := hdy
  obtain ⟨b', off', rfl, hp'⟩ := hpp hpos
  obtain ⟨news, hn1, hn2, hn3⟩ := pO hp' _ (Nat.le_refl _)
  rw [List.take_length] at hn2
  have hnl : news.length = ys.length * i.size := by rw [hn1, dR, hsz, hs]
  have hnews : ∀ j u, news[j]? = some u → w.cell? ((⟨b', off', none⟩ : Addr).add j) = some u := fun j u hj => by rw [Addr.add_lit]; exact hn3 j u hj
  have hones := mw hn2 (m5 E ys)
  have hesz : E.size = i.size := by rw [hsz, hs]
  -- behind a growth
  have grown : ∀ (olds : List Value) (cap : Nat), cV w M (xs.flatMap E.tys) olds → cap < xs.length + ys.length →
      (Builtin.append_ #[st, st] t #[a.eval x, a.eval y]).run P w = .ok (.slice (some ⟨w.heap.size, 0, none⟩) (xs.length + ys.length) (grownCap w (xs.length + ys.length) cap el)) (w.drew.alloc (.cells (olds.toArray ++ news.toArray ++ Builtin.zeroCells zz.cells (grownCap w (xs.length + ys.length) cap el - (xs.length + ys.length))) el)) →
      ∃ v w', (execOp a.eval ⟨some d, .call ⟨.builtin .append, #[x, y], #[st, st]⟩, t, p, e, none⟩).run P w = .ok (.value v) w' ∧ Fx.left { d := some d, ty := .qv E el tg J q k (xs ++ ys), S := [tg, J], sets := [(tg, .mr enc E el J q)], rs := cR x ++ cR y, rt := [tg] } w M w' v := by
    intro olds cap hdo hcap hrun
    have holen : olds.length = xs.length * i.size := by rw [cX hdo, dR, hesz]
    have hge := grownCap_ge w (xs.length + ys.length) cap el
    have hcm : grownCap w (xs.length + ys.length) cap el ≤ maxLen := grownCap_le_maxLen w (xs.length + ys.length) cap el (by simp only [maxLen]; omega)
    have hsize : (w.drew.alloc (.cells (olds.toArray ++ news.toArray ++ Builtin.zeroCells zz.cells (grownCap w (xs.length + ys.length) cap el - (xs.length + ys.length))) el)).heap.size = w.heap.size + 1 := by simp
    have hold : ∀ b2, b2 < w.heap.size → (w.drew.alloc (.cells (olds.toArray ++ news.toArray ++ Builtin.zeroCells zz.cells (grownCap w (xs.length + ys.length) cap el - (xs.length + ys.length))) el)).heap[b2]? = w.heap[b2]? := fun b2 h => Below.heap_alloc w.drew _ b2 h
    have hnew : (w.drew.alloc (.cells (olds.toArray ++ news.toArray ++ Builtin.zeroCells zz.cells (grownCap w (xs.length + ys.length) cap el - (xs.length + ys.length))) el)).heap[w.heap.size]? = some (.cells (olds.toArray ++ news.toArray ++ Builtin.zeroCells zz.cells (grownCap w (xs.length + ys.length) cap el - (xs.length + ys.length))) el (0, 0)) := iY w.drew _
    have hos : (w.drew.alloc (.cells (olds.toArray ++ news.toArray ++ Builtin.zeroCells zz.cells (grownCap w (xs.length + ys.length) cap el - (xs.length + ys.length))) el)).os = w.os ∧ (w.drew.alloc (.cells (olds.toArray ++ news.toArray ++ Builtin.zeroCells zz.cells (grownCap w (xs.length + ys.length) cap el - (xs.length + ys.length))) el)).tape = w.tape ∧ (w.drew.alloc (.cells (olds.toArray ++ news.toArray ++ Builtin.zeroCells zz.cells (grownCap w (xs.length + ys.length) cap el - (xs.length + ys.length))) el)).output = w.output := ⟨rfl, rfl, rfl⟩
    have hcs : (olds.toArray ++ news.toArray ++ Builtin.zeroCells zz.cells (grownCap w (xs.length + ys.length) cap el - (xs.length + ys.length))).size = grownCap w (xs.length + ys.length) cap el * i.size := by
      simp only [Array.size_append, List.size_toArray, size_zeroCells, hzc, holen, hnl, ← Nat.add_mul]
      congr 1
      omega
    have htk : ((olds.toArray ++ news.toArray ++ Builtin.zeroCells zz.cells (grownCap w (xs.length + ys.length) cap el - (xs.length + ys.length))).toList.drop 0).take ((xs ++ ys).length * E.size) = olds ++ news := by
      rw [List.drop_zero]
      simp only [Array.toList_append]
      rw [List.take_left' (by rw [List.length_append, holen, hnl, List.length_append, hesz, Nat.add_mul])]
    generalize hw' : (w.drew.alloc (.cells (olds.toArray ++ news.toArray ++ Builtin.zeroCells zz.cells (grownCap w (xs.length + ys.length) cap el - (xs.length + ys.length))) el)) = w' at *
    generalize hcu : (olds.toArray ++ news.toArray ++ Builtin.zeroCells zz.cells (grownCap w (xs.length + ys.length) cap el - (xs.length + ys.length))) = cu at *
    have le : Le (· ∈ [tg, J]) (· ∈ ([] : List Nat)) w M w' (fun b2 => if b2 = w.heap.size then some J else M b2) :=
      ⟨by omega, hos.1, hos.2.1, hos.2.2, fun b2 hb2 hm => ⟨by rw [if_neg (by omega)]; exact hm, hold b2 hb2⟩, fun b2 u hm _ => by
        have := wf.lt b2 u hm
        exact ⟨by rw [if_neg (by omega)]; exact hm, fun _ => hold b2 this⟩⟩
    have le0 : Le (· ∈ ([] : List Nat)) (· ∈ ([] : List Nat)) w M w' (fun b2 => if b2 = w.heap.size then some J else M b2) :=
      ⟨by omega, hos.1, hos.2.1, hos.2.2, fun b2 hb2 hm => ⟨by rw [if_neg (by omega)]; exact hm, hold b2 hb2⟩, fun b2 u hm _ => by
        have := wf.lt b2 u hm
        exact ⟨by rw [if_neg (by omega)]; exact hm, fun _ => hold b2 this⟩⟩
    have wf' : Wf w' (fun b2 => if b2 = w.heap.size then some J else M b2) := by
      refine ⟨fun b2 u hm => ?_, fun b2 b3 u ht1 hm hm' => ?_⟩
      · split at hm
        · omega
        · have := wf.lt b2 u hm; omega
      · split at hm
        · injection hm with hm; omega
        · split at hm'
          · injection hm' with hm'; omega
          · exact wf.inj b2 b3 u ht1 hm hm'
    have hblt := wf.lt b tg hb
    refine ⟨.slice (some ⟨w.heap.size, 0, none⟩) (xs.length + ys.length) (grownCap w (xs.length + ys.length) cap el), w', by simp [execOp, resolve, invoke, builtin, hrun], _, wf', le, ⟨.inr ⟨w.heap.size, 0, grownCap w (xs.length + ys.length) cap el, cu, by rw [List.length_append], by simp, hnew, by rw [List.length_append]; exact hge, hcm, by rw [hcs, hesz]; omega, ?_⟩, fun g e0 he => ?_⟩, fun y hy => ?_⟩
    · rw [htk, List.flatMap_append]
      exact kZ (cI le0 (by rw [E.dM]; intro _ h; cases h) (by rw [E.cv]; intro _ h; cases h) hdo) (cI le0 (by rw [E.dM]; intro _ h; cases h) (by rw [E.cv]; intro _ h; cases h) hn2)
    · simp only [mG, Option.some.injEq, Prod.mk.injEq] at he
      obtain ⟨rfl, _⟩ := he
      refine ⟨b, es, clock, (if_neg (by omega)).trans hb, (hold b hblt).trans hhb, fun j u e1 hj hju => ?_⟩
      have := wf.lt _ _ (Hz hvals hj hju)
      omega
    · rw [List.mem_singleton.1 hy]
      refine ⟨hn, b, es, clock, (if_neg (by omega)).trans hb, (hold b hblt).trans hhb, hkeys, ?_, hap⟩
      exact cI le0 (fun _ _ h => by cases h) (fun _ _ h => by cases h) hvals
  rcases hrow with ⟨hxe, ex⟩ | ⟨g, off, cap, cur, ex, hg, hh, hxc, hcm, hfit, hdx⟩
  · have hrn := run_append_nil (P := P) w st t el i zz hD hi hiz ⟨b', off', none⟩ ys.length c' news hnl hnews hpos (by omega) (by rw [hby]; have := hlen; rw [Nat.add_mul] at this; omega)
    subst hxe
    refine grown [] 0 trivial (by simpa using hpos) ?_
    rw [ex, ey]
    simpa using hrn
  · by_cases hroom : xs.length + ys.length ≤ cap
    · -- in place
      have hm : (xs.length + ys.length) * E.size ≤ cap * E.size := Nat.mul_le_mul_right _ hroom
      rw [Nat.add_mul] at hm
      have hcf : off + xs.length * i.size + news.length ≤ cur.size := by rw [hnl, ← hesz]; omega
      have hf := run_firstCells_some (P := P) w i.size ys.length ⟨b', off', none⟩ ys.length c' news hnl hnews
      have hst := run_storeCells_at (P := P) g (off + xs.length * i.size) el news 0 cur w hh (by simpa using hcf) hones
      rw [nO _ hh] at hst
      simp only [Nat.add_zero] at hst
      obtain ⟨h1', h2', h3'⟩ := kV (cs' := (cur.toList.take (off + xs.length * i.size) ++ news ++ cur.toList.drop (off + xs.length * i.size + news.length)).toArray) (Tb := el) wf hg _ rfl
      have hrun : (Builtin.append_ #[st, st] t #[a.eval x, a.eval y]).run P w = .ok (.slice (some ⟨g, off, none⟩) (xs.length + ys.length) cap) { w with heap := w.heap.setIfInBounds g (.cells (cur.toList.take (off + xs.length * i.size) ++ news ++ cur.toList.drop (off + xs.length * i.size + news.length)).toArray el (0, 0)) } := by
        rw [ex, ey]
        simp [Builtin.append_, run_underlying hD, sizeOf, typeInfo, hi, Builtin.lenOf, hroom, hf, Addr.add_lit, hst]
      have le : Le (· ∈ [tg, J]) (· ∈ ([] : List Nat)) w M { w with heap := w.heap.setIfInBounds g (.cells (cur.toList.take (off + xs.length * i.size) ++ news ++ cur.toList.drop (off + xs.length * i.size + news.length)).toArray el (0, 0)) } M :=
        h2'.weaken (fun u hu => by simp only [List.mem_singleton] at hu; subst hu; simp) (fun _ h => by cases h)
      have hgb : g ≠ b := fun e => by rw [e, hhb] at hh; cases hh
      have hroomy : roomy (a.eval x) = true := by rw [ex]; simp [roomy]; omega
      have hb' : ({ w with heap := w.heap.setIfInBounds g (.cells (cur.toList.take (off + xs.length * i.size) ++ news ++ cur.toList.drop (off + xs.length * i.size + news.length)).toArray el (0, 0)) } : World).heap[b]? = some (.map es clock) := by
        show (w.heap.setIfInBounds g _)[b]? = _
        rw [Array.getElem?_setIfInBounds_ne hgb]; exact hhb
      refine ⟨.slice (some ⟨g, off, none⟩) (xs.length + ys.length) cap, _, by simp [execOp, resolve, invoke, builtin, hrun], M, h1', le, ⟨.inr ⟨g, off, cap, _, by rw [List.length_append], hg, h3', by rw [List.length_append]; exact hroom, hcm, ?_, ?_⟩, fun g' e0 he => ?_⟩, fun y hy => ?_⟩
      · simp only [List.size_toArray, List.length_append, List.length_take, List.length_drop, Array.length_toList]
        omega
      · rw [List.length_append, Nat.add_mul, hesz, ← hnl, List.toList_toArray, Am _ _ _ _ (by simpa using hcf), List.flatMap_append]
        refine cI h2' (by rw [← List.flatMap_append, E.dM]; intro _ h; cases h) (by rw [← List.flatMap_append, E.cv]; intro _ h; cases h) (kZ ?_ hn2)
        rw [← hesz]; exact hdx
      · simp only [mG, Option.some.injEq, Prod.mk.injEq] at he
        obtain ⟨rfl, rfl⟩ := he
        refine ⟨b, es, clock, hb, hb', fun j u e1 hj hju => ?_⟩
        have := ownb g (off + xs.length * E.size) (by rw [ex]; rfl) j u e1 hj hju
        refine ⟨this.1, fun _ => ?_⟩
        have := this.2 hroomy
        rw [Nat.add_mul]; omega
      · rw [List.mem_singleton.1 hy]
        refine ⟨hn, b, es, clock, hb, hb', hkeys, ?_, hap⟩
        refine iG (by rw [cX hvals]) fun j ty hj => ?_
        obtain ⟨u, hu, hdu⟩ := dc hvals j ty hj
        refine ⟨u, hu, ?_⟩
        rw [List.getElem?_map] at hj
        obtain ⟨qe, _, rfl⟩ := Option.map_eq_some_iff.1 hj
        rcases hdu with h | ⟨g2, off2, c2, cur2, e2, hg2, hh2, k1, k2, k3, k4⟩
        · exact .inl h
        · by_cases hgg : g = g2
          · subst hgg
            rw [hh] at hh2
            injection hh2 with hh2
            injection hh2 with ha _
            subst ha
            have hend := (ownb g (off + xs.length * E.size) (by rw [ex]; rfl) j u _ hu (by rw [e2]; rfl)).2 hroomy
            refine .inr ⟨g, off2, c2, _, e2, hg, h3', k1, k2, ?_, ?_⟩
            · simp only [List.size_toArray, List.length_append, List.length_take, List.length_drop, Array.length_toList]
              omega
            · rw [List.toList_toArray, Gn _ _ _ _ 0 _ (by rw [← hesz]; exact hend) (by simpa using hcf)]
              exact cI h2' (by rw [E.dM]; intro _ h; cases h) (by rw [E.cv]; intro _ h; cases h) k4
          · refine .inr ⟨g2, off2, c2, cur2, e2, hg2, ?_, k1, k2, k3, cI h2' (by rw [E.dM]; intro _ h; cases h) (by rw [E.cv]; intro _ h; cases h) k4⟩
            show (w.heap.setIfInBounds g _)[g2]? = _
            rw [Array.getElem?_setIfInBounds_ne hgg]; exact hh2
    · have holds : ∀ j u, ((cur.toList.drop off).take (xs.length * E.size))[j]? = some u → w.cell? ((⟨g, off, none⟩ : Addr).add j) = some u := fun j u hj => by
        rw [List.getElem?_take] at hj
        split at hj
        · rw [List.getElem?_drop] at hj
          rw [Addr.add_lit]
          simpa [World.cell?, hh] using hj
        · cases hj
      have hol : ((cur.toList.drop off).take (xs.length * E.size)).length = xs.length * i.size := by rw [cX hdx, dR, hesz]
      have hrn := run_append_grow (P := P) w st t el i zz hD hi hiz ⟨g, off, none⟩ xs.length cap _ hol holds ⟨b', off', none⟩ ys.length c' news hnl hnews (by omega) (by omega) (growslice_fits (by omega) (by rw [hby]; exact hlen))
      refine grown _ cap hdx (by omega) ?_
      rw [ex, ey]
      exact hrn
end
end Go.T
namespace Go.T
open Go Go.RowKit
end Go.T
namespace Go.T
open Go Go.RowKit Go.Lib
section
variable {P : Program} {fr : Fr} {ops : Array Oper} {A : As} {rest : List Oper} {K : As → List (As × Fx) → Prop} {d : Nat} {t ty' ty2 : TypeId} {p : String} {e : Array Edge} [T : k8 P]
end
end Go.T
namespace Go.T
open Go Go.RowKit
section
variable {P : Program} {fr : Fr} {ops : Array Oper} {A : As} {rest : List Oper} {K : As → List (As × Fx) → Prop} {t mt : TypeId} {p : String} {e : Array Edge} {d : Option Nat} {x y z : Operand}
end
section
variable {P : Program} {fr : Fr} {ops : Array Oper} {A : As} {rest : List Oper} {K : As → List (As × Fx) → Prop} {d : Nat} {t mt kt et : TypeId} {p : String} {e : Array Edge}
variable {κ β : Type} [DecidableEq κ]
end
section
variable {A : As} {κ β : Type} [DecidableEq κ]
end
section
variable {P : Program} {fr : Fr} {ops : Array Oper} {A : As} {rest : List Oper} {K : As → List (As × Fx) → Prop} {t ty' : TypeId} {p : String} {e : Array Edge} [T : k8 P]
end
section
variable {P : Program} {fr : Fr} {ops : Array Oper} {A : As} {rest : List Oper} {K : As → List (As × Fx) → Prop} {d : Nat} {t ty' : TypeId} {p : String} {e : Array Edge} [T : k8 P]
theorem om {α : Type} [Inhabited α] {E : El α} {xs : List α} {x : Operand} {tg off Tb : Nat} {ti : TI} (i : Nat) (hx : A.op fr x = .ptr tg off) (he : off = i * E.size) (hc : A.tag tg = some (.vec E Tb xs)) (h1 : gI tg) (hT : T.e9[ty']? = some ti) (ha : ti.k.agg = true) (hsz : ti.size = E.size) (hi : i < xs.length)
 (h : ak P fr ops rest (A.set d (.agg (E.tys (nth xs i)))) fun A' l => K A' ((A, { d := some d, ty := .agg (E.tys (nth xs i)), rs := cR x, rt := [tg] }) :: l)) : ak P fr ops (⟨some d, .load ty' x, t, p, e, none⟩ :: rest) A K :=
 bP (bW rfl rfl fun a w M wf hr ht => by
  have := cY (x := x) (fun _ h => h) hr
  rw [hx] at this
  obtain ⟨b, hb, e⟩ := this
  obtain ⟨cs, g1, g2, g3⟩ := vU (l := E.tys (nth xs i)) (b := b) (q := off) (off := 0) (n := ti.size) (m := E.tys (nth xs i)) (fun j t hj => oX wf h1 hb (sA hc w M ht) (by
   rw [he]; exact lQ E xs hi j t hj)) (by rw [List.drop_zero, hsz, ← E.len (nth xs i), List.take_length]) (by rw [E.len, hsz])
  exact ⟨.agg cs.toArray, by simp only [execOp, e]; rw [Sem.run_bind, gX (off := off) hT ha g1 (by simpa using g3)]; rfl, cs.toArray, rfl, by simpa using g2⟩) h
end
section
variable {P : Program} {A : As} {fn : Func} {n : Nat} {w0 : World} {M0 : bB} [T : k8 P]
end
section
variable {P : Program} {fr : Fr} {A : As} {c : Code} {Q : Exit → Act → World → Prop}
theorem gT {tg : Nat} {C D : Cont} (hc : A.tag tg = some C) (h : C.Sub D) (h' : fV P fr c ⟨A.slots, (tg, D) :: A.tags⟩ Q) : fV P fr c A Q := fun a w ⟨M, ok, hsl, ht⟩ =>
 h' a w ⟨M, ok, hsl, fun x hx => by
  rcases List.mem_cons.1 hx with rfl | hx
  ·exact h _ _ _ (ht _ (dB hc))
  exact ht x hx⟩
end
section
variable {P : Program} {fr : Fr} {ops : Array Oper} {A : As} {rest : List Oper} {K : As → List (As × Fx) → Prop} {d : Nat} {t mt kt et : TypeId} {p : String} {e : Array Edge} {κ β : Type} [DecidableEq κ]
end
end Go.T
namespace Go.T
open Go Go.RowKit
def L8 (J : World → bB → Prop) (w : World) (M : bB) : Prop :=
  ∃ Mc, Wf w Mc ∧ ES Mc ∧ J w Mc ∧ (∀ b, M b = none → Mc b = none) ∧ ∀ b u, b < w.heap.size → M b = some u → u ≠ 7000 → Mc b = some (Zt + b)
theorem wO {J : World → bB → Prop} (hJ : Cb J) {S K : Nat → Prop} {w w' : World} {M M' : bB} (le : Le S K w M w' M') (hs : ¬ S 7000) (hk : ¬ K 7000) (h : L8 J w M) : L8 J w' M' := by
  obtain ⟨Mc, wf, z, hj, h1, h2⟩ := h
  have own : ∀ b, M b = some 7000 → M' b = some 7000 ∧ w'.heap[b]? = w.heap[b]? := fun b h => let ⟨a, c⟩ := le.own b _ h hk; ⟨a, c hs⟩
  have mb : ∀ b t, Mc b = some t → t < Zt → M b = some 7000 := fun b t h ht => by
    cases hm : M b with
    | none => rw [h1 b hm] at h; cases h
    | some u =>
      by_cases e : u = 7000
      · rw [e]
      · have := h2 b u (wf.lt b t h) hm e
        rw [this] at h; injection h with h; omega
  let N : bB := fun b => if b < w'.heap.size then (match M' b with | none => none | some u => if u = 7000 then (if b < w.heap.size ∧ M b = some 7000 then Mc b else some (Zt + b)) else some (Zt + b)) else none
  have hN : ∀ b, N b = if b < w'.heap.size then (match M' b with | none => none | some u => if u = 7000 then (if b < w.heap.size ∧ M b = some 7000 then Mc b else some (Zt + b)) else some (Zt + b)) else none := fun _ => rfl
  have zok : ES N := by
    intro b u h hu
    rw [hN] at h
    split at h
    · split at h
      · cases h
      · split at h
        · split at h
          · exact z b u h hu
          · injection h with h; exact h.symm
        · injection h with h; exact h.symm
    · cases h
  have wf' : Wf w' N := by
    refine ⟨fun b t h => ?_, fun b b' t ht1 h h' => ?_⟩
    · rw [hN] at h
      split at h
      · assumption
      · cases h
    · have part : ∀ b, N b = some (t + 1) → Mc b = some (t + 1) := fun b h => by
        have hz : t + 1 < Zt := by unfold Zt; omega
        rw [hN] at h
        split at h
        · split at h
          · cases h
          · split at h
            · split at h
              · exact h
              · injection h with h; omega
            · injection h with h; omega
        · cases h
      exact wf.inj b b' t ht1 (part b h) (part b' h')
  have lez : Le (fun t => Zt ≤ t) (fun t => Zt ≤ t) w Mc w' N := by
    refine ⟨le.size, le.os, le.tape, le.out, fun b hb hm => ?_, fun b t hm ht => ?_⟩
    · have hb' : b < w'.heap.size := Nat.lt_of_lt_of_le hb le.size
      cases hmb : M b with
      | none =>
        obtain ⟨a, c⟩ := le.qG b hb hmb
        exact ⟨by rw [hN, if_pos hb', a], c⟩
      | some u =>
        by_cases e : u = 7000
        · subst e
          obtain ⟨a, c⟩ := own b hmb
          exact ⟨by rw [hN, if_pos hb', a]; show (if (7000 : Nat) = 7000 then _ else _) = _; rw [if_pos rfl, if_pos ⟨hb, hmb⟩]; exact hm, c⟩
        · rw [h2 b u hb hmb e] at hm; cases hm
    · have hlt := wf.lt b t hm
      have h0 := mb b t hm (Nat.lt_of_not_le ht)
      obtain ⟨a, c⟩ := own b h0
      refine ⟨?_, fun _ => c⟩
      rw [hN, if_pos (Nat.lt_of_lt_of_le hlt le.size), a]
      show (if (7000 : Nat) = 7000 then _ else _) = _
      rw [if_pos rfl, if_pos ⟨hlt, h0⟩]; exact hm
  refine ⟨N, wf', zok, hJ _ _ _ _ wf' lez hj, fun b h => ?_, fun b u hb h hu => ?_⟩
  · rw [hN, h]; split <;> rfl
  · rw [hN, if_pos hb, h]; show (if u = 7000 then _ else _) = _; rw [if_neg hu]
def Cont.ck {J : World → bB → Prop} (hJ : Cb J) : Cont :=
  { den := fun w M t => t = 7000 ∧ L8 J w M
    mono := fun le _ _ hs hk ⟨e, h⟩ => ⟨e, wO hJ le (e ▸ hs) (e ▸ hk) h⟩ }
theorem Cont.L5 {J : Nat → World → bB → Prop} (hJ : ∀ k, Cb (J k)) {a b : Nat} (e : a = b) : (Cont.ck (hJ a)).Sub (Cont.ck (hJ b)) := by subst e; exact Cont.aE _
def Nn (b1 : Bool) (J1 Jx : World → bB → Prop) (w : World) (M : bB) (v : Value) : Prop := (v = .bool b1 ∧ L8 J1 w M) ∨ (v = .bool (!b1) ∧ L8 Jx w M)
def Ty.yb {J1 Jx : World → bB → Prop} (b1 : Bool) (h1 : Cb J1) (hx : Cb Jx) : Ty :=
  ⟨Nn b1 J1 Jx, [7000], [7000], fun le hk hs h => h.imp (fun ⟨e, h⟩ => ⟨e, wO h1 le (hs _ (by simp)) (hk _ (by simp)) h⟩) (fun ⟨e, h⟩ => ⟨e, wO hx le (hs _ (by simp)) (hk _ (by simp)) h⟩), true, fun _ h => h.elim (fun ⟨e, _⟩ => e ▸ rfl) (fun ⟨e, _⟩ => e ▸ rfl)⟩
def BO (w : World) (M1 Mc' : bB) : bB := fun b => if b < w.heap.size then M1 b else (Mc' b).map fun _ => 7000
theorem Gk {w w' : World} {M1 Mc Mc' : bB} (wf1 : Wf w M1) (wf' : Wf w' Mc') (h1 : ∀ b, M1 b = none → Mc b = none) (h2 : ∀ b u, b < w.heap.size → M1 b = some u → u ≠ 7000 → Mc b = some (Zt + b)) (le : Le (fun t => t < Zt) (fun t => t < Zt) w Mc w' Mc') :
 Wf w' (BO w M1 Mc') ∧ Le (· ∈ [7000]) (· ∈ ([] : List Nat)) w M1 w' (BO w M1 Mc') ∧ (∀ b, BO w M1 Mc' b = none → Mc' b = none) ∧ ∀ b u, b < w'.heap.size → BO w M1 Mc' b = some u → u ≠ 7000 → Mc' b = some (Zt + b) := by
 unfold BO
 refine ⟨⟨fun b u h => ?_, fun b b' u ht1 h h' => ?_⟩, ⟨le.size, le.os, le.tape, le.out, fun b hb hm => ⟨by simp [hb, hm], (le.qG b hb (h1 b hm)).2⟩, fun b u hm _ => ⟨by simp [wf1.lt b u hm, hm], fun hs => ?_⟩⟩, fun b h => ?_, fun b u _ h hu => ?_⟩
 ·split at h
  ·exact Nat.lt_of_lt_of_le ‹_› le.size
  obtain ⟨v, hv, _⟩ := Option.map_eq_some_iff.1 h
  exact wf'.lt b v hv
 ·have part : ∀ b, (if b < w.heap.size then M1 b else (Mc' b).map fun _ => 7000) = some (u + 1) → M1 b = some (u + 1) := fun b h => by
   split at h
   ·exact h
   obtain ⟨v, _, hv⟩ := Option.map_eq_some_iff.1 h
   omega
  exact wf1.inj b b' u ht1 (part b h) (part b' h')
 ·have hu : u ≠ 7000 := fun e => hs (by simp [e])
  exact (le.own b _ (h2 b u (wf1.lt b _ hm) hm hu) (by omega)).2 (by omega)
 ·split at h
  ·exact (le.qG b ‹_› (h1 b h)).1
  simpa using h
 split at h
 ·exact (le.own b _ (h2 b u ‹_› h hu) (by omega)).1
 obtain ⟨v, _, hv⟩ := Option.map_eq_some_iff.1 h
 exact absurd hv.symm hu
section
variable {P : Program} {fr : Fr} {ops : Array Oper} {A : As} {rest : List Oper} {K : As → List (As × Fx) → Prop} {d : Nat} {t ty' : TypeId} {p : String} {e : Array Edge}
theorem B3 {c l k : Nat} {encs : List (List Ty)} {J : Nat → World → bB → Prop} {Jx : World → bB → Prop} (hJ : ∀ k, Cb (J k)) (hJx : Cb Jx) (hY : L9 P l encs J Jx) {xs : List Operand} {ats : Array TypeId} {tys : List Ty}
 (hkd : fr.kd = .plain) (hc : A.op fr (.tmp c) = .ex (yv l)) (hx : oH A fr xs = tys) (hd : cN tys = []) (hdc : bw tys = []) (hk : encs[k]? = some tys) (ht : A.tag 7000 = some (.ck (hJ k)))
 (h : ak P fr ops rest (A.after { d := some d, ty := .yb true (hJ (k + 1)) hJx, S := [7000], rs := c :: xs.flatMap cR, rt := [7000] }) fun A' l' => K A' ((A, { d := some d, ty := .yb true (hJ (k + 1)) hJx, S := [7000], rs := c :: xs.flatMap cR, rt := [7000] }) :: l')) :
 ak P fr ops (⟨some d, .call ⟨.value (.tmp c), xs.toArray, ats⟩, t, p, e, none⟩ :: rest) A K := by
 refine ⟨{ d := some d, ty := .yb true (hJ (k + 1)) hJx, S := [7000], rs := c :: xs.flatMap cR, rt := [7000] }, ⟨rfl, by simp, by simp, by simp, fun a w M wf hsz hrd htg => ?_⟩, h⟩
 rw [if_pos (by simp [Region.wanted])]
 have hcv := cY (x := .tmp c) (rs := c :: xs.flatMap cR) (fun u hu => by exact (List.mem_singleton.1 hu) ▸ List.mem_cons_self) hrd
 rw [hc] at hcv
 have hcv : a.eval (.tmp c) = yv l := hcv
 obtain ⟨_, Mc, wfc, z, hj, h1, h2⟩ := htg _ (dB ht) (by simp)
 have hv : cV w Mc tys (xs.map a.eval) := iK h1 hd hdc (hx ▸ gr (rs := c :: xs.flatMap cR) hrd fun x hx c hc => List.mem_cons_of_mem _ (List.mem_flatMap.2 ⟨x, hx, hc⟩))
 obtain ⟨fn, tmps, assign, body, hy, hR⟩ := hY k tys hk w Mc _ wfc z hj hv
 refine ⟨fun f _ => fr.kd.ue f, ?_⟩
 have hrun : (execOp a.eval ⟨some d, .call ⟨.value (.tmp c), xs.toArray, ats⟩, t, p, e, none⟩).run P w = .ok (.round l fn tmps assign body) w := by
  simp [execOp, resolve, hcv, yv, Deferred.ofValue, invoke, hy]
 rw [Oper.semAt_eq _ _ _ (by intro c h; cases h), hrun, Oper.uponIn_round]
 refine ⟨fun h => (by rw [fr.kd.wm] at h; cases h), ?_⟩
 have hfe : fr.kd.jC = Fence.wide := by rw [hkd]; rfl
 rw [hfe]
 refine RoundIn.mono hR fun en w' ⟨Mc', wf', z', le, hor⟩ => ?_
 obtain ⟨g1, g2, g3, g4⟩ := Gk wf wf' h1 h2 le
 rcases hor with ⟨rfl, hj'⟩ | ⟨rfl, hj'⟩
 ·exact ⟨.bool true, rfl, _, g1, g2, .inl ⟨rfl, Mc', wf', z', hj', g3, g4⟩, by simp⟩
 exact ⟨.bool false, rfl, _, g1, g2, .inr ⟨rfl, Mc', wf', z', hj', g3, g4⟩, by simp⟩
theorem Gu {x : Operand} {J1 Jx : World → bB → Prop} {h1 : Cb J1} {hx : Cb Jx} {b1 : Bool} (hop : A.op fr x = .yb b1 h1 hx)
 (h : ak P fr ops rest (A.set d (.yb (!b1) h1 hx)) fun A' l' => K A' ((A, { d := some d, ty := .yb (!b1) h1 hx, rs := cR x }) :: l')) : ak P fr ops (⟨some d, .unOp .not ty' x, t, p, e, none⟩ :: rest) A K :=
 bP (bW rfl rfl fun a w M _ hrd _ => by
  have hdx := cY (x := x) (fun _ h => h) hrd
  rw [hop] at hdx
  rcases hdx with ⟨ex, hj⟩ | ⟨ex, hj⟩
  ·exact ⟨.bool (!b1), by simp [execOp, ex, Op.unary], .inl ⟨rfl, hj⟩⟩
  exact ⟨.bool (!!b1), by simp [execOp, ex, Op.unary], .inr ⟨rfl, hj⟩⟩) h
end
section
variable {P : Program} {fr : Fr} {A : As} {Q : Exit → Act → World → Prop} {x y : Code}
theorem D3 {c : Operand} {J1 Jx : World → bB → Prop} {h1 : Cb J1} {hx : Cb Jx} (hc : A.op fr c = .yb false h1 hx) (hth : fV P fr x ⟨A.slots, (7000, .ck hx) :: A.tags⟩ Q) (hel : fV P fr y ⟨A.slots, (7000, .ck h1) :: A.tags⟩ Q) : fV P fr (.cond c x y) A Q := fun a w ha => by
 obtain ⟨M, ok, hs, ht⟩ := ha
 have hd := cY (x := c) (rs := cR c) (fun _ h => h) (fun c _ hn => hs c hn)
 rw [hc] at hd
 rcases hd with ⟨ev, hj⟩ | ⟨ev, hj⟩
 ·exact wpIn_cond_false ev (hel a w ⟨M, ok, hs, fun x hx => by
   rcases List.mem_cons.1 hx with rfl | hx
   ·exact ⟨rfl, hj⟩
   exact ht x hx⟩)
 ·exact wpIn_cond_true ev (hth a w ⟨M, ok, hs, fun x hx => by
   rcases List.mem_cons.1 hx with rfl | hx
   ·exact ⟨rfl, hj⟩
   exact ht x hx⟩)
end
def kj (Mc : bB) (g : Option Nat) : bB := fun b => match Mc b with | none => none | some u => if u < Zt then some 7000 else if some b = g then some 1000 else some 5000
theorem AR {Mc : bB} {g : Option Nat} {b : Nat} (h : kj Mc g b = none) : Mc b = none := by
 unfold kj at h
 split at h
 ·assumption
 split at h
 ·cases h
 split at h <;> cases h
theorem nu {Mc : bB} {g : Option Nat} {b : Nat} (h : Mc b = none) : kj Mc g b = none := by simp [kj, h]
theorem FW {w : World} {Mc : bB} {g : Option Nat} (wf : Wf w Mc) : Wf w (kj Mc g) := by
  refine ⟨fun b t h => ?_, fun b b' t ht h h' => ?_⟩
  · cases hm : Mc b with
    | none => rw [nu hm] at h; cases h
    | some u => exact wf.lt b u hm
  · have key : ∀ b, kj Mc g b = some (t + 1) → some b = g := fun b h => by
      unfold kj at h
      split at h
      · cases h
      · split at h
        · injection h with h; omega
        · split at h
          · assumption
          · injection h with h; omega
    have e1 := key b h
    have e2 := key b' h'
    rw [← e2] at e1; injection e1
theorem FB {w : World} {Mc : bB} {g : Option Nat} {J : World → bB → Prop} (wf : Wf w Mc) (z : ES Mc) (hj : J w Mc) : L8 J w (kj Mc g) := by
 refine ⟨Mc, wf, z, hj, fun b h => AR h, fun b u _ h hu => ?_⟩
 unfold kj at h
 split at h
 ·cases h
 rename_i v hv
 split at h
 ·injection h with h; exact absurd h.symm hu
 rw [hv]; congr 1; exact z b v hv (by omega)
section
variable {P : Program}
variable {A : As} {fn : Func} {n : Nat} {J1 Jx : World → bB → Prop}
end
end Go.T
namespace Go.T
open Go Go.RowKit
section
variable {P : Program} {fr : Fr} {ops : Array Oper} {A : As} {rest : List Oper} {K : As → List (As × Fx) → Prop} {d : Nat} {t ty' : TypeId} {p : String} {e : Array Edge} [T : k8 P]
variable {α : Type} {E : El α} {Tb J : Nat} {xs ys : List α}
theorem K6 {x : Operand} {ti : TI} {el : Nat} (hx : A.op fr x = .iX E Tb J xs) (hT : T.e9[ty']? = some ti) (hk : ti.k = .slice el)
 (h : ak P fr ops rest (A.set d (.int .i64 (xs.length : Nat))) fun A' l => K A' ((A, { d := some d, ty := .int .i64 (xs.length : Nat), rs := cR x }) :: l)) :
 ak P fr ops (⟨some d, .call ⟨.builtin .len, #[x], #[ty']⟩, t, p, e, none⟩ :: rest) A K :=
 bP (bW rfl rfl fun a w M _ hr _ => by
  have := cY (x := x) (fun _ h => h) hr
  rw [hx] at this
  have h1 := this
  obtain ⟨_, D, _, hD, hkd, _⟩ := dU hT
  rw [hk] at hkd
  cases D <;> simp only [TK.of, reduceCtorEq, TK.slice.injEq] at hkd
  refine ⟨.int .i64 xs.length, ?_, rfl⟩
  rcases h1 with ⟨hn, ex⟩ | ⟨g, off, c, cur, ex, _⟩
  ·simp [execOp, ex, resolve, invoke, builtin, Builtin.len_, run_underlying hD, hn, goInt]
  simp [execOp, ex, resolve, invoke, builtin, Builtin.len_, run_underlying hD, goInt]) h
theorem F3 [Inhabited α] {x y : Operand} {kd : IntKind} {i : Nat} {ti te : TI} {el : Nat} (hx : A.op fr x = .iX E Tb J xs) (hy : A.op fr y = .int kd i) (hT : T.e9[ty']? = some ti) (hk : ti.k = .slice el) (hE : T.e9[el]? = some te) (hs : te.size = E.size) (hi : i < xs.length)
 (h : ak P fr ops rest (A.set d (.op J (E.tys (nth xs i)))) fun A' l' => K A' ((A, { d := some d, ty := .op J (E.tys (nth xs i)), rs := cR x ++ cR y }) :: l')) : ak P fr ops (⟨some d, .indexAddr ty' x y, t, p, e, none⟩ :: rest) A K :=
 bP (bW rfl rfl fun a w M _ hr _ => by
  obtain ⟨hdx, hdy⟩ := op2 hr
  rw [hx] at hdx; rw [hy] at hdy
  have h1 := hdx
  have ey : a.eval y = .int kd i := hdy
  rcases h1 with ⟨h0, _⟩ | ⟨g, off, c, cur, ex, hg, hh, hn, _, _, hd⟩
  ·subst h0; simp at hi
  refine ⟨_, by simp only [execOp, ex, ey, Sem.run_bind, jG hT hk hE (Int.natCast_nonneg i) (show (i : Int).toNat < xs.length from hi)]; rfl, g, off + i * te.size, by simp, hg, fun j ty hj => ?_⟩
  rw [hs]
  exact FL hh hd hi hj) h
theorem Ki {x y : Operand} {kd : IntKind} {lo : Nat} {ti te : TI} {el : Nat} (hx : A.op fr x = .iX E Tb J xs) (hy : A.op fr y = .int kd lo) (hT : T.e9[ty']? = some ti) (hk : ti.k = .slice el) (hE : T.e9[el]? = some te) (hs : te.size = E.size) (hlo : lo ≤ xs.length) (h0 : 0 < xs.length)
 (h : ak P fr ops rest (A.set d (.iX E Tb J (xs.drop lo))) fun A' l' => K A' ((A, { d := some d, ty := .iX E Tb J (xs.drop lo), rs := cR x ++ cR y }) :: l')) : ak P fr ops (⟨some d, .slice ty' x (some y) none none, t, p, e, none⟩ :: rest) A K :=
 bP (bW rfl rfl fun a w M _ hr _ => by
  obtain ⟨hdx, hdy⟩ := op2 hr
  rw [hx] at hdx; rw [hy] at hdy
  have h1 := hdx
  have ey : a.eval y = .int kd lo := hdy
  obtain ⟨_, D, _, hD, hkd, _⟩ := dU hT
  rw [hk] at hkd
  cases D <;> simp only [TK.of, reduceCtorEq, TK.slice.injEq] at hkd
  subst hkd
  have hsz := fun w => dh (P := P) hE w
  rcases h1 with ⟨hn, _⟩ | ⟨g, off, c, cur, ex, hg, hh, hn, hc, hsz2, hd⟩
  ·subst hn; simp at h0
  have hlc : lo ≤ c := by omega
  have hrun : ∃ ad, (execOp a.eval ⟨some d, .slice ty' x (some y) none none, t, p, e, none⟩).run P w = .ok (.value (.slice (some ad) (xs.length - lo) (c - lo))) w ∧ ad = (if c = lo then (⟨g, off, none⟩ : Addr) else ⟨g, off + lo * E.size, none⟩) := by
   refine ⟨_, ?_, rfl⟩
   simp [execOp, ex, ey, Instr.sliceAt, Instr.slice, run_underlying hD, Instr.sliceBounds, Instr.sliceBound, asIntOf, hsz, hs, hn, hlo]
   by_cases hcl : c = lo
   ·simp [hcl]
   simp [hcl]; exact Addr.add_lit _ _ _
  obtain ⟨ad, hrun, had⟩ := hrun
  have hlen : (xs.drop lo).length = xs.length - lo := List.length_drop
  have key : cV w M ((xs.drop lo).flatMap E.tys) ((cur.toList.drop (off + lo * E.size)).take ((xs.drop lo).length * E.size)) := by
   have := lN (lo * E.size) hd
   rw [List.drop_take, List.drop_drop, ← Nat.sub_mul] at this
   have e1 : (xs.flatMap E.tys).drop (lo * E.size) = (xs.drop lo).flatMap E.tys := by
    have : xs.flatMap E.tys = (xs.take lo).flatMap E.tys ++ (xs.drop lo).flatMap E.tys := by rw [← List.flatMap_append, List.take_append_drop]
    rw [this, List.drop_left' (by rw [dR, List.length_take, Nat.min_eq_left hlo])]
   rw [e1] at this
   rw [hlen]; exact this
  by_cases hcl : c = lo
  ·rw [if_pos hcl] at had
   subst had
   refine ⟨_, hrun, .inr ⟨g, off, c - lo, cur, by rw [hlen], hg, hh, by rw [hlen]; omega, by omega, ?_, ?_⟩⟩
   ·have : c - lo = 0 := by omega
    rw [this]; omega
   have h0' : xs.drop lo = [] := List.eq_nil_of_length_eq_zero (by rw [hlen]; omega)
   rw [h0']; simp [cV]
  rw [if_neg hcl] at had
  subst had
  refine ⟨_, hrun, .inr ⟨g, off + lo * E.size, c - lo, cur, by rw [hlen], hg, hh, by rw [hlen]; omega, by omega, ?_, key⟩⟩
  rw [Nat.add_assoc, ← Nat.add_mul, show lo + (c - lo) = c by omega]; exact hsz2) h
theorem FT {x y : Operand} {st el : Nat} {ti te : TI} (hx : A.op fr x = .iX E el J xs) (hy : A.op fr y = .sl E ys) (hJ : 4096 ≤ J) (hp : fr.pass.contains J = false) (hpos : 0 < ys.length) (hT : T.e9[st]? = some ti) (hk : ti.k = .slice el) (hE : T.e9[el]? = some te) (hs : te.size = E.size) (hz : te.zero.length = te.size) (h0 : 0 < te.size)
    (hlen : (xs.length + ys.length) * te.bytes ≤ 140737488355328) (hlen' : xs.length + ys.length ≤ 9223372036854775807)
    (h : ak P fr ops rest (A.after { d := some d, ty := .iX E el J (xs ++ ys), S := [J], rs := cR x ++ cR y }) fun A' l' => K A' ((A, { d := some d, ty := .iX E el J (xs ++ ys), S := [J], rs := cR x ++ cR y }) :: l')) :
    ak P fr ops (⟨some d, .call ⟨.builtin .append, #[x, y], #[st, st]⟩, t, p, e, none⟩ :: rest) A K := by
  refine ⟨_, iB rfl rfl (by simp) (by simp; omega) (by simp) fun a w M wf hr htg => ?_, h⟩
  obtain ⟨hdx, hdy⟩ := op2 hr
  rw [hx] at hdx; rw [hy] at hdy
  have hrow := hdx
  obtain ⟨_, D, _, hD, hkd, _⟩ := dU hT
  rw [hk] at hkd
  cases D <;> simp only [TK.of, reduceCtorEq, TK.slice.injEq] at hkd
  subst hkd
  rename_i el
  obtain ⟨i, _, hi, _, _, hsz, hby, hze⟩ := dU hE
  obtain ⟨zz, hiz, hzc⟩ : ∃ z, i.zero = some z ∧ z.cells.size = i.size := by
    cases hiz : i.zero with
    | none => rw [hiz] at hze; rw [← hze] at hz; simp at hz; omega
    | some z => rw [hiz] at hze; exact ⟨z, rfl, by simp at hze; rw [hsz, ← hz, ← hze]; simp⟩
  obtain ⟨ad, c', ey, hc1, hc2, hpp⟩ := hdy
  obtain ⟨b', off', rfl, hp'⟩ := hpp hpos
  obtain ⟨news, hn1, hn2, hn3⟩ := pO hp' _ (Nat.le_refl _)
  rw [List.take_length] at hn2
  have hnl : news.length = ys.length * i.size := by rw [hn1, dR, hsz, hs]
  have hnews : ∀ j u, news[j]? = some u → w.cell? ((⟨b', off', none⟩ : Addr).add j) = some u := fun j u hj => by rw [Addr.add_lit]; exact hn3 j u hj
  have hones := mw hn2 (m5 E ys)
  have hesz : E.size = i.size := by rw [hsz, hs]
  -- behind a growth
  have grown : ∀ (olds : List Value) (cap : Nat), cV w M (xs.flatMap E.tys) olds → cap < xs.length + ys.length →
      (Builtin.append_ #[st, st] t #[a.eval x, a.eval y]).run P w = .ok (.slice (some ⟨w.heap.size, 0, none⟩) (xs.length + ys.length) (grownCap w (xs.length + ys.length) cap el)) (w.drew.alloc (.cells (olds.toArray ++ news.toArray ++ Builtin.zeroCells zz.cells (grownCap w (xs.length + ys.length) cap el - (xs.length + ys.length))) el)) →
      ∃ v w', (execOp a.eval ⟨some d, .call ⟨.builtin .append, #[x, y], #[st, st]⟩, t, p, e, none⟩).run P w = .ok (.value v) w' ∧ Fx.left { d := some d, ty := .iX E el J (xs ++ ys), S := [J], rs := cR x ++ cR y } w M w' v := by
    intro olds cap hdo hcap hrun
    have holen : olds.length = xs.length * i.size := by rw [cX hdo, dR, hesz]
    have hge := grownCap_ge w (xs.length + ys.length) cap el
    have hcm : grownCap w (xs.length + ys.length) cap el ≤ maxLen := grownCap_le_maxLen w (xs.length + ys.length) cap el (by simp only [maxLen]; omega)
    have hsize : (w.drew.alloc (.cells (olds.toArray ++ news.toArray ++ Builtin.zeroCells zz.cells (grownCap w (xs.length + ys.length) cap el - (xs.length + ys.length))) el)).heap.size = w.heap.size + 1 := by simp
    have hold : ∀ b2, b2 < w.heap.size → (w.drew.alloc (.cells (olds.toArray ++ news.toArray ++ Builtin.zeroCells zz.cells (grownCap w (xs.length + ys.length) cap el - (xs.length + ys.length))) el)).heap[b2]? = w.heap[b2]? := fun b2 h => Below.heap_alloc w.drew _ b2 h
    have hnew : (w.drew.alloc (.cells (olds.toArray ++ news.toArray ++ Builtin.zeroCells zz.cells (grownCap w (xs.length + ys.length) cap el - (xs.length + ys.length))) el)).heap[w.heap.size]? = some (.cells (olds.toArray ++ news.toArray ++ Builtin.zeroCells zz.cells (grownCap w (xs.length + ys.length) cap el - (xs.length + ys.length))) el (0, 0)) := iY w.drew _
    have hos : (w.drew.alloc (.cells (olds.toArray ++ news.toArray ++ Builtin.zeroCells zz.cells (grownCap w (xs.length + ys.length) cap el - (xs.length + ys.length))) el)).os = w.os ∧ (w.drew.alloc (.cells (olds.toArray ++ news.toArray ++ Builtin.zeroCells zz.cells (grownCap w (xs.length + ys.length) cap el - (xs.length + ys.length))) el)).tape = w.tape ∧ (w.drew.alloc (.cells (olds.toArray ++ news.toArray ++ Builtin.zeroCells zz.cells (grownCap w (xs.length + ys.length) cap el - (xs.length + ys.length))) el)).output = w.output := ⟨rfl, rfl, rfl⟩
    have hcs : (olds.toArray ++ news.toArray ++ Builtin.zeroCells zz.cells (grownCap w (xs.length + ys.length) cap el - (xs.length + ys.length))).size = grownCap w (xs.length + ys.length) cap el * i.size := by
      simp only [Array.size_append, List.size_toArray, size_zeroCells, hzc, holen, hnl, ← Nat.add_mul]
      congr 1
      omega
    have htk : ((olds.toArray ++ news.toArray ++ Builtin.zeroCells zz.cells (grownCap w (xs.length + ys.length) cap el - (xs.length + ys.length))).toList.drop 0).take ((xs ++ ys).length * E.size) = olds ++ news := by
      rw [List.drop_zero]
      simp only [Array.toList_append]
      rw [List.take_left' (by rw [List.length_append, holen, hnl, List.length_append, hesz, Nat.add_mul])]
    generalize hw' : (w.drew.alloc (.cells (olds.toArray ++ news.toArray ++ Builtin.zeroCells zz.cells (grownCap w (xs.length + ys.length) cap el - (xs.length + ys.length))) el)) = w' at *
    generalize hcu : (olds.toArray ++ news.toArray ++ Builtin.zeroCells zz.cells (grownCap w (xs.length + ys.length) cap el - (xs.length + ys.length))) = cu at *
    have le : Le (· ∈ [J]) (· ∈ ([] : List Nat)) w M w' (fun b2 => if b2 = w.heap.size then some J else M b2) :=
      ⟨by omega, hos.1, hos.2.1, hos.2.2, fun b2 hb2 hm => ⟨by rw [if_neg (by omega)]; exact hm, hold b2 hb2⟩, fun b2 u hm _ => by
        have := wf.lt b2 u hm
        exact ⟨by rw [if_neg (by omega)]; exact hm, fun _ => hold b2 this⟩⟩
    have le0 : Le (· ∈ ([] : List Nat)) (· ∈ ([] : List Nat)) w M w' (fun b2 => if b2 = w.heap.size then some J else M b2) :=
      ⟨by omega, hos.1, hos.2.1, hos.2.2, fun b2 hb2 hm => ⟨by rw [if_neg (by omega)]; exact hm, hold b2 hb2⟩, fun b2 u hm _ => by
        have := wf.lt b2 u hm
        exact ⟨by rw [if_neg (by omega)]; exact hm, fun _ => hold b2 this⟩⟩
    have wf' : Wf w' (fun b2 => if b2 = w.heap.size then some J else M b2) := by
      refine ⟨fun b2 u hm => ?_, fun b2 b3 u ht1 hm hm' => ?_⟩
      · split at hm
        · omega
        · have := wf.lt b2 u hm; omega
      · split at hm
        · injection hm with hm; omega
        · split at hm'
          · injection hm' with hm'; omega
          · exact wf.inj b2 b3 u ht1 hm hm'
    refine ⟨.slice (some ⟨w.heap.size, 0, none⟩) (xs.length + ys.length) (grownCap w (xs.length + ys.length) cap el), w', by simp [execOp, resolve, invoke, builtin, hrun], _, wf', le, .inr ⟨w.heap.size, 0, grownCap w (xs.length + ys.length) cap el, cu, by rw [List.length_append], by simp, hnew, by rw [List.length_append]; exact hge, hcm, by rw [hcs, hesz]; omega, ?_⟩, by simp⟩
    rw [htk, List.flatMap_append]
    exact kZ (cI le0 (by rw [E.dM]; intro _ h; cases h) (by rw [E.cv]; intro _ h; cases h) hdo) (cI le0 (by rw [E.dM]; intro _ h; cases h) (by rw [E.cv]; intro _ h; cases h) hn2)
  rcases hrow with ⟨hxe, ex⟩ | ⟨g, off, cap, cur, ex, hg, hh, hxc, hcm, hfit, hdx⟩
  · have hrn := run_append_nil (P := P) w st t el i zz hD hi hiz ⟨b', off', none⟩ ys.length c' news hnl hnews hpos (by omega) (by rw [hby]; have := hlen; rw [Nat.add_mul] at this; omega)
    subst hxe
    refine grown [] 0 trivial (by simpa using hpos) ?_
    rw [ex, ey]
    simpa using hrn
  · by_cases hroom : xs.length + ys.length ≤ cap
    · -- in place
      have hm : (xs.length + ys.length) * E.size ≤ cap * E.size := Nat.mul_le_mul_right _ hroom
      rw [Nat.add_mul] at hm
      have hcf : off + xs.length * i.size + news.length ≤ cur.size := by rw [hnl, ← hesz]; omega
      have hf := run_firstCells_some (P := P) w i.size ys.length ⟨b', off', none⟩ ys.length c' news hnl hnews
      have hst := run_storeCells_at (P := P) g (off + xs.length * i.size) el news 0 cur w hh (by simpa using hcf) hones
      rw [nO _ hh] at hst
      simp only [Nat.add_zero] at hst
      obtain ⟨h1', h2', h3'⟩ := kV (cs' := (cur.toList.take (off + xs.length * i.size) ++ news ++ cur.toList.drop (off + xs.length * i.size + news.length)).toArray) (Tb := el) wf hg _ rfl
      have hrun : (Builtin.append_ #[st, st] t #[a.eval x, a.eval y]).run P w = .ok (.slice (some ⟨g, off, none⟩) (xs.length + ys.length) cap) { w with heap := w.heap.setIfInBounds g (.cells (cur.toList.take (off + xs.length * i.size) ++ news ++ cur.toList.drop (off + xs.length * i.size + news.length)).toArray el (0, 0)) } := by
        rw [ex, ey]
        simp [Builtin.append_, run_underlying hD, sizeOf, typeInfo, hi, Builtin.lenOf, hroom, hf, Addr.add_lit, hst]
      have le : Le (· ∈ [J]) (· ∈ ([] : List Nat)) w M { w with heap := w.heap.setIfInBounds g (.cells (cur.toList.take (off + xs.length * i.size) ++ news ++ cur.toList.drop (off + xs.length * i.size + news.length)).toArray el (0, 0)) } M :=
        h2'.weaken (fun u hu => by simp only [List.mem_singleton] at hu; subst hu; simp) (fun _ h => by cases h)
      refine ⟨.slice (some ⟨g, off, none⟩) (xs.length + ys.length) cap, _, by simp [execOp, resolve, invoke, builtin, hrun], M, h1', le, .inr ⟨g, off, cap, _, by rw [List.length_append], hg, h3', by rw [List.length_append]; exact hroom, hcm, ?_, ?_⟩, by simp⟩
      · simp only [List.size_toArray, List.length_append, List.length_take, List.length_drop, Array.length_toList]
        omega
      · rw [List.length_append, Nat.add_mul, hesz, ← hnl, List.toList_toArray, Am _ _ _ _ (by simpa using hcf), List.flatMap_append]
        refine cI h2' (by rw [← List.flatMap_append, E.dM]; intro _ h; cases h) (by rw [← List.flatMap_append, E.cv]; intro _ h; cases h) (kZ ?_ hn2)
        rw [← hesz]; exact hdx
    · have holds : ∀ j u, ((cur.toList.drop off).take (xs.length * E.size))[j]? = some u → w.cell? ((⟨g, off, none⟩ : Addr).add j) = some u := fun j u hj => by
        rw [List.getElem?_take] at hj
        split at hj
        · rw [List.getElem?_drop] at hj
          rw [Addr.add_lit]
          simpa [World.cell?, hh] using hj
        · cases hj
      have hol : ((cur.toList.drop off).take (xs.length * E.size)).length = xs.length * i.size := by rw [cX hdx, dR, hesz]
      have hrn := run_append_grow (P := P) w st t el i zz hD hi hiz ⟨g, off, none⟩ xs.length cap _ hol holds ⟨b', off', none⟩ ys.length c' news hnl hnews (by omega) (by omega) (growslice_fits (by omega) (by rw [hby]; exact hlen))
      refine grown _ cap hdx (by omega) ?_
      rw [ex, ey]
      exact hrn
end
section
variable {P : Program} {fr : Fr} {A : As} {c : Code} {Q : Exit → Act → World → Prop}
end
end Go.T
namespace Go.T
open Go Go.RowKit
section
variable {P : Program} {fr : Fr} {ops : Array Oper} {A : As} {rest : List Oper} {K : As → List (As × Fx) → Prop} {d : Nat} {t : TypeId} {p : String} {e : Array Edge}
end
end Go.T
namespace Go.T
open Go Go.RowKit
theorem Ty.vS {α : Type} {E : El α} {T tg n : Nat} {xs : List α} (hn : xs.length = n) : (Ty.row E T tg xs).Sub (Ty.vs tg n) := fun w M v ⟨cs, h1, h2, h3⟩ => by
 subst hn
 rcases h1.2 with ⟨e, h0⟩ | ⟨g, cap, cur, ex, _, hh, hn1, hcap, _, htk⟩
 ·exact .inl ⟨h0, e⟩
 exact .inr ⟨g, cap, h3 g (by rw [ex]; rfl), ex, hn1, hcap⟩
theorem Cont.eA {T : Nat} {l l' : List Ty} (h : JG l l') : (Cont.cells T l).Sub (Cont.cells T l') := fun w M v ⟨b, cs, h1, h2, h3⟩ => ⟨b, cs, h1, h2, sX h h3⟩
end Go.T
namespace Go.T
open Go Go.RowKit
end Go.T
namespace Go.T
open Go Go.RowKit
section
variable {P : Program} {fr : Fr} {A : As} {c : Code} {Q : Exit → Act → World → Prop}
theorem lK {α : Type} {E : El α} {T Tc tg c0 : Nat} {l : List Ty} {xs : List α} (i : Nat) (hc : A.tag c0 = some (.cells Tc l)) (hi : l[i]? = some (.row E T tg xs))
 (h : fV P fr c ⟨A.slots, (tg, .vec E T xs) :: A.tags⟩ Q) : fV P fr c A Q := fun a w ⟨M, ok, hsl, ht⟩ => by
 refine h a w ⟨M, ok, hsl, fun x hx => ?_⟩
 rcases List.mem_cons.1 hx with rfl | hx
 ·obtain ⟨b, cs, hb, hh, hd⟩ := ht _ (dB hc)
  obtain ⟨v, _, ⟨ds, h1, h2, h3⟩⟩ := dc hd i _ hi
  rcases h1.2 with ⟨e, h0⟩ | ⟨g, cap, cur, ex, _, hh, hn1, hcap, _, htk⟩
  ·exact .inl (List.length_eq_zero_iff.1 h0)
  have hg : M g = some tg := h3 g (by rw [ex]; rfl)
  exact .inr ⟨g, cur, hg, hh, by rw [dR, htk]; exact h2⟩
 exact ht x hx
end
end Go.T
namespace Go.T
open Go Go.RowKit
section
variable {P : Program} {A : As} {fn : Func} {n : Nat} {w0 : World} {M0 : bB}
end
end Go.T
namespace Go.T
open Go Go.RowKit
section
variable {P : Program} {fr : Fr} {A : As} {c : Code} {Q : Exit → Act → World → Prop}
end
section
variable {P : Program} {A : As} {fn : Func} {n : Nat} {w0 : World} {M0 : bB}
end
end Go.T
namespace Go.T
open Go Go.RowKit
section
variable {P : Program} {fr : Fr} {ops : Array Oper} {A : As} {rest : List Oper} {K : As → List (As × Fx) → Prop} {d : Nat} {t : TypeId} {p : String} {e : Array Edge} {y : Operand}
theorem zy {c : Operand} {b : Bool} (hc : A.op fr c = .bool false) (hy : A.op fr y = .bool b)
 (h : ak P fr ops rest (A.set d (.bool b)) fun A' l' => K A' ((A, { d := some d, ty := .bool b, rs := cR c ++ cR y }) :: l')) : ak P fr ops (⟨some d, .pick c (.const (.bool true)) y, t, p, e, none⟩ :: rest) A K :=
 bP (bW rfl rfl fun a w M _ hrd _ => by
  obtain ⟨hdc, hdy⟩ := op2 hrd
  rw [hc] at hdc; rw [hy] at hdy
  have ec : a.eval c = .bool false := hdc
  have ey : a.eval y = .bool b := hdy
  exact ⟨.bool b, by simp only [execOp, ec, ey]; simp [asBool], rfl⟩) h
theorem Im {c : Operand} (hc : A.op fr c = .bool true)
 (h : ak P fr ops rest (A.set d (.bool true)) fun A' l' => K A' ((A, { d := some d, ty := .bool true, rs := cR c ++ cR y }) :: l')) : ak P fr ops (⟨some d, .pick c (.const (.bool true)) y, t, p, e, none⟩ :: rest) A K :=
 bP (bW rfl rfl fun a w M _ hrd _ => by
  obtain ⟨hdc, _⟩ := op2 hrd
  rw [hc] at hdc
  have ec : a.eval c = .bool true := hdc
  exact ⟨.bool true, by simp only [execOp, ec]; simp [asBool, Act.eval], rfl⟩) h
theorem z8 {op : Op} {j s : Nat} {want : Bool} (hs : oS ops j = some s) (hn : Nat.blt s fr.n = true) (hc : A.slots s = .ex undef)
 (h : ak P fr ops rest (A.set d (.ex undef)) fun A' l' => K A' ((A, { d := some d, ty := .ex undef, rs := [s] }) :: l')) : ak P fr ops (⟨some d, op, t, p, e, some (j, want)⟩ :: rest) A K := by
 refine ⟨{ d := some d, ty := .ex undef, rs := [s] }, ⟨rfl, (by simp), (by simp), (by simp), fun a w M wf hsz hrd htg => ?_⟩, h⟩
 have hv := hrd s List.mem_cons_self (by simpa using hn)
 rw [hc] at hv
 have hy := qP (ops := ops) hs (by rw [hsz]; simpa using hn) hv
 have hw : Region.wanted ⟨some d, op, t, p, e, some (j, want)⟩ (yielded ops a.tmps) = false := by
  simp only [Region.wanted, hy]
  cases want <;> simp_all
 rw [if_neg (by rw [hw]; simp)]
 exact ⟨M, wf, Le.refl _ _ _ _, rfl, by simp⟩
end
section
variable {P : Program} {fr : Fr} {A : As} {Q : Exit → Act → World → Prop} {code : Code}
end
end Go.T
namespace Go.T
open Go Go.RowKit
section
variable {P : Program} {fr : Fr} {A : As} {Q : Exit → Act → World → Prop}
end
end Go.T
namespace Go.T
open Go Go.RowKit
section
variable {P : Program} {fr : Fr} {ops : Array Oper} {A : As} {rest : List Oper} {K : As → List (As × Fx) → Prop} {d : Nat} {t ty' : TypeId} {p : String} {e : Array Edge} [T : k8 P]
end
section
open Go.RowKit
variable {P : Program} {A : As} {fn : Func} {n : Nat} {w0 : World} {M0 : bB} {F : List Nat} {post : List (Nat × Cont)} [T : k8 P]
end
section
variable {P : Program} {fr : Fr} {A : As}
end
end Go.T
namespace Go.T
open Go Go.RowKit
section
variable {P : Program} {fr : Fr} {A : As}
end
end Go.T
namespace Go.T
open Go Go.RowKit
end Go.T
namespace Go.T
open Go Go.RowKit
def Mo (tys : List Ty) (vs : List Value) (w : World) (M : bB) (_ : Nat) : Prop := cV w M tys vs
def Cont.fact (tys : List Ty) (vs : List Value) (h1 : cN tys = []) (h2 : bw tys = []) : Cont :=
  { den := Mo tys vs, deps := [], cdeps := [], mono := fun le _ _ _ _ h => cI le (by rw [h1]; intro _ h; cases h) (by rw [h2]; intro _ h; cases h) h }
def XB (b D Tb : Nat) (vs : List Value) (J : Nat → World → bB → Prop) : Prop :=
  ∀ k w M, Wf w M → J k w M → M b = some D ∧ ∃ cs : Array Value, w.heap[b]? = some (.cells cs Tb (0, 0)) ∧ cs.toList.take vs.length = vs
def Gy (P : Program) (f : FuncId) (b D Tb : Nat) (vs : List Value) (tys : List Ty) (args : Nat → List Ty) (encs : List (List Ty)) (resD resS : Ty) : Prop :=
  (∃ fn, P.funcs[f]? = some fn ∧ (fn.name == "runtime.NumGoroutine") = false ∧ fn.body.isNone = false) ∧
  ∀ l J Jx, (∀ k, Cb (J k)) → Cb Jx → XB b D Tb vs J → L9 P l encs J Jx → ∀ w M us, Wf w M → ES M → cV w M (args l) us → cV w M tys vs → J 0 w M →
    Calls P f us.toArray w (cq encs.length J Jx resD resS)
section
variable {P : Program}
theorem CJ {f b D Tb : Nat} {us : List Value} {tys : List Ty} {fn : Func} {c : Code} {args : Nat → List Ty} {encs : List (List Ty)} {n : Nat} (h1 : cN tys = []) (h2 : bw tys = []) (hf : P.funcs[f]? = some fn) (hb : fn.body = some c) (hn : (fn.name == "runtime.NumGoroutine") = false) (hnt : fn.ntmps = n) (hl : ∀ l, (args l).length ≤ n) (hdd : ∀ l, cN (args l) = [] ∧ bw (args l) = [])
    (h : ∀ l J Jx (hJ : ∀ k, Cb (J k)) (hJx : Cb Jx), XB b D Tb us J → L9 P l encs J Jx → ∀ w0 M0, fV P ⟨n, w0, M0, [7000, 5000], .plain⟩ c (s7 (args l) [(7000, .ck (hJ 0)), (4000, Cont.fact tys us h1 h2)]) (bodyPost P fn (cq encs.length J Jx (Ty.kH []) (Ty.kH [])))) : Gy P f b D Tb us tys args encs (Ty.kH []) (Ty.kH []) := by
  refine ⟨⟨fn, hf, hn, by rw [hb]; rfl⟩, fun l J Jx hJ hJx hX hY w Mc vs wf z hd hus hj => calls_of_wp hf hb (wpIn_wide.1 (h l J Jx hJ hJx hX hY w (kj Mc none) _ _ ?_))⟩
  have hall : cV w (kj Mc none) (args l) vs := iK (fun b hb => nu hb) (hdd l).1 (hdd l).2 hd
  have hlen := cX hall
  have hl := hl l
  refine ⟨kj Mc none, ⟨FW wf, Le.refl _ _ _ _, by simp [hnt, hlen]; omega, Defs.nil⟩, fun c hc => ?_, fun x hx => ?_⟩
  · simp only [s7]
    cases ha : (args l)[c]? with
    | none => trivial
    | some ty =>
      obtain ⟨v, hv, hdv⟩ := dc hall c ty ha
      have : (vs.toArray ++ Array.replicate (fn.ntmps - vs.toArray.size) undef).getD c undef = v := by
        have hlt : c < vs.length := (List.getElem?_eq_some_iff.1 hv).1
        rw [Array.getD_eq_getD_getElem?, Array.getElem?_append_left (by simpa using hlt)]
        simp [hv]
      rw [this]; exact hdv
  · rcases List.mem_cons.1 hx with rfl | hx
    · exact ⟨rfl, FB wf z hj⟩
    · rw [List.mem_singleton.1 hx]
      exact iK (fun b hb => nu hb) h1 h2 hus
theorem Iq {fn : Func} {n : Nat} {A : As} {w0 : World} {M0 : bB} {J : Nat → World → bB → Prop} {Jx : World → bB → Prop} {m : Nat} {h1 : Cb (J m)} (hr : fn.results = #[]) (ht : A.tag 7000 = some (.ck h1)) : dm ⟨n, w0, M0, [7000, 5000], .plain⟩ A (bodyPost P fn (cq m J Jx (Ty.kH []) (Ty.kH [])) .normal) := by
 intro a w' ⟨M, ok, hsl, htg⟩
 obtain ⟨_, Mc', wf', z', hj, k1, k2⟩ := htg _ (dB ht)
 exact ⟨ok.gP (by simp), _, results_none hr _ _ _, _, Mc', rfl, wf', z', .inl ⟨⟨_, rfl, trivial⟩, hj⟩⟩
theorem HU {fn : Func} {n : Nat} {A : As} {w0 : World} {M0 : bB} {J : Nat → World → bB → Prop} {Jx : World → bB → Prop} {m k : Nat} {hJ : ∀ k, Cb (J k)} (e : k = m) (hr : fn.results = #[]) (ht : A.tag 7000 = some (.ck (hJ k))) : dm ⟨n, w0, M0, [7000, 5000], .plain⟩ A (bodyPost P fn (cq m J Jx (Ty.kH []) (Ty.kH [])) .normal) := by
 subst e; exact Iq hr ht
theorem DL {fn : Func} {n : Nat} {A : As} {w0 : World} {M0 : bB} {J : Nat → World → bB → Prop} {Jx : World → bB → Prop} {m : Nat} {hx : Cb Jx} (hr : fn.results = #[]) (ht : A.tag 7000 = some (.ck hx)) : dm ⟨n, w0, M0, [7000, 5000], .plain⟩ A (bodyPost P fn (cq m J Jx (Ty.kH []) (Ty.kH [])) .ret) := by
 intro a w' ⟨M, ok, hsl, htg⟩
 obtain ⟨_, Mc', wf', z', hj, k1, k2⟩ := htg _ (dB ht)
 exact ⟨ok.gP (by simp), _, results_none hr _ _ _, _, Mc', rfl, wf', z', .inr ⟨⟨_, rfl, trivial⟩, hj⟩⟩
variable {fr : Fr} {ops : Array Oper} {A : As} {rest : List Oper} {K : As → List (As × Fx) → Prop} {d : Nat} {t ty' : TypeId} {p : String} {e : Array Edge} [T : k8 P]
omit T in
theorem kU {x : Operand} {b off : Nat} (hx : A.op fr x = .ex (.pointer (some ⟨b, off, none⟩)))
 (h : ak P fr ops rest (A.set d (.ex (.pointer (some ⟨b, off, none⟩)))) fun A' l' => K A' ((A, { d := some d, ty := .ex (.pointer (some ⟨b, off, none⟩)), rs := cR x }) :: l')) : ak P fr ops (⟨some d, .nilCheck x, t, p, e, none⟩ :: rest) A K :=
 bP (bW rfl rfl fun a w M _ hrd _ => by
  have hdx := cY (x := x) (fun _ h => h) hrd
  rw [hx] at hdx
  have ex : a.eval x = .pointer (some ⟨b, off, none⟩) := hdx
  exact ⟨_, by simp [execOp, ex], rfl⟩) h
theorem jB {x : Operand} {b off f : Nat} {ti tf : TI} {fs : List (Nat × Nat)} {o ft : Nat} (hx : A.op fr x = .ex (.pointer (some ⟨b, off, none⟩))) (hT : T.e9[ty']? = some ti) (hk : ti.k = .struct fs) (hf : fs[f]? = some (o, ft)) (hF : T.e9[ft]? = some tf) (h0 : tf.size ≠ 0)
 (h : ak P fr ops rest (A.set d (.ex (.pointer (some ⟨b, off + o, none⟩)))) fun A' l' => K A' ((A, { d := some d, ty := .ex (.pointer (some ⟨b, off + o, none⟩)), rs := cR x }) :: l')) : ak P fr ops (⟨some d, .fieldAddr ty' x f, t, p, e, none⟩ :: rest) A K :=
 bP (bW rfl rfl fun a w M _ hrd _ => by
  have hdx := cY (x := x) (fun _ h => h) hrd
  rw [hx] at hdx
  have ex : a.eval x = .pointer (some ⟨b, off, none⟩) := hdx
  exact ⟨_, by simp [execOp, ex, sw hT hk hf hF h0], rfl⟩) h
def Nc {α : Type} (v : Value) (E : El α) (T tg : Nat) (xs : List α) (w : World) (M : bB) (_ : Nat) : Prop := (Ty.row E T tg xs).den w M v
def Cont.rv {α : Type} (v : Value) (E : El α) (T tg : Nat) (xs : List α) : Cont :=
  { den := Nc v E T tg xs, deps := (Ty.row E T tg xs).deps, cdeps := (Ty.row E T tg xs).cdeps, mono := fun le hk hs _ _ h => (Ty.row E T tg xs).mono le hk hs h }
theorem p4 {α : Type} {E : El α} {c : Nat} {y : Operand} {st el tg : Nat} {v : Value} {ti te : TI} {xs ys : List α} (hx : A.op fr (.tmp c) = .ex v) (hc : A.tag tg = some (.rv v E el tg xs)) (hy : A.op fr y = .sl E ys) (hcy : (cR y).contains c = false) (h1 : 1 ≤ tg) (hp : fr.pass.contains tg = false) (hT : T.e9[st]? = some ti) (hk : ti.k = .slice el) (hE : T.e9[el]? = some te) (hs : te.size = E.size) (hz : te.zero.length = te.size) (h0 : 0 < te.size)
 (hlen : (xs.length + ys.length) * te.bytes ≤ 140737488355328) (hlen' : xs.length + ys.length ≤ 9223372036854775807) (hyA : (A.set c (.row E el tg xs)).op fr y = A.op fr y) (hxA : (A.set c (.row E el tg xs)).op fr (.tmp c) = .row E el tg xs)
 (h : ak P fr ops rest (A.after { d := some d, ty := .row E el tg (xs ++ ys), K := [tg], rs := cR (.tmp c) ++ cR y, rt := [tg] }) fun A' l' => K A' ((A, { d := some d, ty := .row E el tg (xs ++ ys), K := [tg], rs := cR (.tmp c) ++ cR y, rt := [tg] }) :: l')) :
 ak P fr ops (⟨some d, .call ⟨.builtin .append, #[.tmp c, y], #[st, st]⟩, t, p, e, none⟩ :: rest) A K := by
 refine ⟨_, ?_, h⟩
 obtain ⟨a1, a2, a3, a4, a5⟩ := vf (P := P) (fr := fr) (ops := ops) (A := A.set c (.row E el tg xs)) (d := d) (t := t) (p := p) (e := e) (x := .tmp c) (y := y) (E := E) (xs := xs) (ys := ys) (st := st) (by rw [hxA]; exact Ty.aE _) (hyA.trans hy) h1 hp hT hk hE hs hz h0 hlen hlen'
 refine ⟨a1, a2, a3, a4, fun a w M wf hsz hr ht => a5 a w M wf hsz (fun c' hc' hn => ?_) (fun x _ hx => by cases hx)⟩
 by_cases e : c' = c
 ·subst e
  have h1 : (A.slots c').den w M (a.tmps.getD c' undef) := hr c' hc' hn
  have h2 : Nc v E el tg xs w M tg := ht _ (dB hc) (by simp)
  have h3 : A.slots c' = .ex v := by
   have h5 : (bif Nat.blt c' fr.n then A.slots c' else Ty.any) = .ex v := hx
   have h6 : Nat.blt c' fr.n = true := by rw [Nat.blt_eq]; exact hn
   rw [h6, cond_true] at h5
   exact h5
  rw [h3] at h1
  have h4 : a.tmps.getD c' undef = v := h1
  show ((A.set c' (.row E el tg xs)).slots c').den w M _
  simp only [As.set, Nat.beq_refl, cond_true]
  rw [h4]; exact h2
 show ((A.set c (.row E el tg xs)).slots c').den w M _
 have : Nat.beq c' c = false := by cases hb : Nat.beq c' c with | false => rfl | true => exact absurd (Nat.eq_of_beq_eq_true hb) e
 simp only [As.set, this, cond_false]
 exact hr c' hc' hn
theorem AV {vs l : List Value} {i : Nat} {v : Value} (h : l.take vs.length = vs) (hv : vs[i]? = some v) : l[i]? = some v := by
 have hi : i < vs.length := (List.getElem?_eq_some_iff.1 hv).1
 rw [← h, List.getElem?_take, if_pos hi] at hv
 exact hv
theorem rD {x : Operand} {b D Tb off k : Nat} {vs : List Value} {tys : List Ty} {J : Nat → World → bB → Prop} {hJ : ∀ k, Cb (J k)} {ti : TI} {ty : Ty} {h1 : cN tys = []} {h2 : bw tys = []} (hX : XB b D Tb vs J) (hx : A.op fr x = .ex (.pointer (some ⟨b, off, none⟩))) (ht : A.tag 7000 = some (.ck (hJ k))) (htf : A.tag 4000 = some (Cont.fact tys vs h1 h2)) (hT : T.e9[ty']? = some ti) (ha : ti.k.agg = false) (hl : tys[off]? = some ty)
 (h : ak P fr ops rest (A.set d ty) fun A' l => K A' ((A, { d := some d, ty := ty, rs := cR x, rt := [7000, 4000] }) :: l)) : ak P fr ops (⟨some d, .load ty' x, t, p, e, none⟩ :: rest) A K :=
 bP (bW rfl rfl fun a w M wf hr htg => by
  have hdx := cY (x := x) (fun _ h => h) hr
  rw [hx] at hdx
  have ex : a.eval x = .pointer (some ⟨b, off, none⟩) := hdx
  obtain ⟨_, Mc, wfc, z, hj, g1, g2⟩ := htg _ (dB ht) (by simp)
  have hf : cV w M tys vs := htg _ (dB htf) (by simp)
  obtain ⟨_, cs, hh, hcs⟩ := hX k w Mc wfc hj
  obtain ⟨v, hv, hd⟩ := dc hf off ty hl
  have hv' : w.cell? ⟨b, off, none⟩ = some v := by
   have := AV hcs hv
   simpa [World.cell?, hh] using this
  exact ⟨v, by simp [execOp, ex, lJ hT ha hv'], hd⟩) h
theorem pX {b D Tb k : Nat} {vs : List Value} {tys : List Ty} {J : Nat → World → bB → Prop} {hJ : ∀ k, Cb (J k)} {h1 : cN tys = []} {h2 : bw tys = []} {L : List Nat} (hX : XB b D Tb vs J) (hD : D < 4096) (ht : A.tag 7000 = some (.ck (hJ k))) (htf : A.tag 4000 = some (Cont.fact tys vs h1 h2)) (hL0 : L.contains 7000 = true) (hL1 : L.contains 4000 = true) :
    rH A L (.ex (.pointer (some ⟨b, 0, none⟩))) (.pp tys) := fun w M v wf htg hv => by
  have hv : v = .pointer (some ⟨b, 0, none⟩) := hv
  have hL0 : 7000 ∈ L := by simpa using hL0
  have hL1 : 4000 ∈ L := by simpa using hL1
  obtain ⟨_, Mc, wfc, z, hj, g1, g2⟩ := htg _ (dB ht) hL0
  have hf : cV w M tys vs := htg _ (dB htf) hL1
  obtain ⟨hb, cs, hh, hcs⟩ := hX k w Mc wfc hj
  have hlt : b < w.heap.size := wfc.lt b _ hb
  have hm : qF M L b = none := by
    cases hm : M b with
    | none => exact jg hm
    | some u =>
      by_cases e : u = 7000
      · subst e; exact y6 hm hL0
      · have := g2 b u hlt hm e
        rw [this] at hb
        injection hb with hb
        have : Zt = 1000000 := rfl
        omega
  have hf2 : cV w (qF M L) tys vs := cI (S := fun _ => True) (K := fun _ => True) (w' := w) ⟨Nat.le_refl _, rfl, rfl, rfl, fun b _ hm => ⟨jg hm, rfl⟩, fun b t _ h => absurd trivial h⟩ (by rw [h1]; intro _ h; cases h) (by rw [h2]; intro _ h; cases h) hf
  refine ⟨b, 0, hv, hm, hlt, fun i t hi => ?_⟩
  obtain ⟨x, hx, hdx⟩ := dc hf2 i t hi
  refine ⟨x, ?_, hdx⟩
  have := AV hcs hx
  simpa [World.cell?, hh] using this
end
theorem vB {l : List Nat} (h : l.all (fun t => Nat.blt t 1000000) = true) : ∀ t ∈ l, t < Zt := fun t ht => by
 have := List.all_eq_true.1 h t ht
 rw [Nat.blt_eq] at this; exact this
section
variable {P : Program} {fr : Fr} {A : As} {Q : Exit → Act → World → Prop} {c : Code}
theorem p5 {w : World} {M : bB} {l1 l2 : List Ty} {vs : List Value} (h : cV w M (l1 ++ l2) vs) : ∃ v1 v2, vs = v1 ++ v2 ∧ cV w M l1 v1 ∧ cV w M l2 v2 := by
  induction l1 generalizing vs with
  | nil => exact ⟨[], vs, rfl, trivial, h⟩
  | cons t l1 ih =>
    cases vs with
    | nil => cases h
    | cons v vs =>
      obtain ⟨v1, v2, e, h1, h2⟩ := ih h.2
      exact ⟨v :: v1, v2, by rw [e]; rfl, ⟨h.1, h1⟩, h2⟩
theorem Dv {w : World} {M : bB} : ∀ (vs : List Value), cV w M (vs.map Ty.ex) vs
  | [] => trivial
  | _ :: vs => ⟨rfl, Dv vs⟩
theorem qn {w : World} {M : bB} : ∀ {vs us : List Value}, cV w M (vs.map Ty.ex) us → us = vs
  | [], [], _ => rfl
  | [], _ :: _, h => by cases h
  | _ :: _, [], h => by cases h
  | v :: vs, u :: us, h => by rw [show u = v from h.1, qn h.2]
theorem HZ {D Tb : Nat} {tys r : List Ty} (h1 : cN tys = []) (h2 : bw tys = []) (hc : A.tag D = some (.cells Tb (tys ++ r))) (hD : gI D)
 (h : ∀ vs, vs.length = tys.length → fV P fr c ⟨A.slots, (D, .cells Tb (vs.map Ty.ex ++ r)) :: (4000, Cont.fact tys vs h1 h2) :: A.tags.filter fun x => !(x.1 == D)⟩ Q) : fV P fr c A Q := by
 intro a w ⟨M, ok, hsl, htg⟩
 obtain ⟨b, cs, hb, hh, hd⟩ := htg _ (dB hc)
 obtain ⟨v1, v2, e, d1, d2⟩ := p5 hd
 refine h v1 (cX d1) a w ⟨M, ok, hsl, fun x hx => ?_⟩
 rcases List.mem_cons.1 hx with rfl | hx
 ·exact ⟨b, cs, hb, hh, by rw [e]; exact eK (Dv v1) d2⟩
 rcases List.mem_cons.1 hx with rfl | hx
 ·exact d1
 exact htg x (List.mem_filter.1 hx).1
theorem Ap {D Tb : Nat} {vs : List Value} {tys r : List Ty} {h1 : cN tys = []} {h2 : bw tys = []} (hc : A.tag D = some (.cells Tb (vs.map Ty.ex ++ r))) (hf : A.tag 4000 = some (Cont.fact tys vs h1 h2))
 (h : fV P fr c ⟨A.slots, (D, .cells Tb (tys ++ r)) :: A.tags.filter fun x => !(x.1 == D)⟩ Q) : fV P fr c A Q := by
 intro a w ⟨M, ok, hsl, htg⟩
 obtain ⟨b, cs, hb, hh, hd⟩ := htg _ (dB hc)
 have hfd : cV w M tys vs := htg _ (dB hf)
 refine h a w ⟨M, ok, hsl, fun x hx => ?_⟩
 rcases List.mem_cons.1 hx with rfl | hx
 ·obtain ⟨v1, v2, e, d1, d2⟩ := p5 hd
  rw [qn d1] at e
  exact ⟨b, cs, hb, hh, by rw [e]; exact eK hfd d2⟩
 exact htg x (List.mem_filter.1 hx).1
theorem vG {D Tb tg : Nat} {α : Type} {E : El α} {T : Nat} {xs : List α} (l1 : List Ty) {l2 : List Ty} (hc : A.tag D = some (.cells Tb (l1 ++ Ty.row E T tg xs :: l2)))
    (h : ∀ v, fV P fr c ⟨A.slots, (D, .cells Tb (l1 ++ Ty.ex v :: l2)) :: (tg, Cont.rv v E T tg xs) :: A.tags.filter fun x => !(x.1 == D)⟩ Q) : fV P fr c A Q := by
  intro a w ⟨M, ok, hsl, htg⟩
  obtain ⟨b, cs, hb, hh, hd⟩ := htg _ (dB hc)
  obtain ⟨v1, v2, e, d1, d2⟩ := p5 hd
  match v2, d2 with
  | v :: v2, d2 =>
    refine h v a w ⟨M, ok, hsl, fun x hx => ?_⟩
    rcases List.mem_cons.1 hx with rfl | hx
    · exact ⟨b, cs, hb, hh, by rw [e]; exact eK d1 ⟨rfl, d2.2⟩⟩
    · rcases List.mem_cons.1 hx with rfl | hx
      · exact d2.1
      · exact htg x (List.mem_filter.1 hx).1
theorem xx {T tg off : Nat} {l : List Ty} (hc : A.tag tg = some (.cells T l)) (hd : kg (cN l) [tg] = true) (h1 : gI tg) : wz A tg (.ptr tg off) (.pp (l.drop off)) := fun w M v wf ht hv =>
 mE (A := A.set 0 (.ptr tg off)) (s := 0) rfl hc hd h1 w M v wf ht hv
theorem HB {tg i : Nat} {t : Ty} : ∀ {l l' : List Ty}, yy A tg l l' → l'[i]? = some t → ∃ i', i' = i ∧ ∃ s, l[i']? = some s ∧ wz A tg s t := by
  induction i with
  | zero =>
    intro l l' h e
    match l, l', h with
    | [], [], _ => cases e
    | s :: _, t' :: _, h => injection e with e; subst e; exact ⟨0, rfl, s, rfl, h.1⟩
  | succ i ih =>
    intro l l' h e
    match l, l', h with
    | [], [], _ => cases e
    | _ :: l, _ :: l', h =>
      obtain ⟨i', rfl, s, h1, h2⟩ := ih (l := l) (l' := l') h.2 e
      exact ⟨i' + 1, rfl, s, h1, h2⟩
theorem Bb {tg : Nat} {l l' : List Ty} (h : yy A tg l l') : wz A tg (.pp l) (.pp l') := fun w M v wf ht ⟨b, off, e, m1, m2, m3⟩ => by
 refine ⟨b, off, e, by simp [eN, m1], m2, fun i t hi => ?_⟩
 obtain ⟨_, rfl, s, h1, h2⟩ := HB h hi
 obtain ⟨x, hx, hdx⟩ := m3 _ s h1
 exact ⟨x, hx, h2 w M x wf ht hdx⟩
theorem zg {tg s : Nat} {l l' : List Ty} (hx : A.slots s = .pp l) (h : yy A tg l l') : yp A tg s (.pp l') := fun w M v wf ht hv => Bb h w M v wf ht (hx ▸ hv)
theorem Ac {f D Tb n sd : Nat} {tys : List Ty} {vs : List Value} {h1 : cN tys = []} {h2 : bw tys = []} {oN : List Ty} {encs : List (List Ty)} {resD resS : Ty} {s : Nat → Ty} {tg : Nat → List (Nat × Cont)} {r : Nat → List Ty}
    (hI : ∀ b, Gy P f b D Tb vs tys (fun l => Ty.ex (yv l) :: Ty.pp [Ty.ex (.pointer (some ⟨b, 0, none⟩))] :: oN) encs resD resS)
    (hD : gI D) (hsn : sd < n) (hsd : s sd = Ty.ptr D 0) (htD : ∀ k, (D, Cont.cells Tb (vs.map Ty.ex ++ r k)) ∈ tg k) (htf : (4000, Cont.fact tys vs h1 h2) ∈ tg 0) :
    ∀ (l : Nat) (J : Nat → World → bB → Prop) (Jx : World → bB → Prop) (tm : Array Value), (∀ k, Cb (J k)) → Cb Jx → L9 P l encs J Jx → (∀ k w M, J k w M → (∀ c, c < n → (s c).den w M (tm.getD c undef)) ∧ ∀ x ∈ tg k, x.2.den w M x.1) → ∀ w M us, Wf w M → ES M → cV w M (Ty.ex (yv l) :: Ty.pp [Ty.ptr D 0] :: oN) us → J 0 w M → Calls P f us.toArray w (cq encs.length J Jx resD resS) := by
  intro l J Jx tm hJ hJx hY hS w M us wf z hd hj
  obtain ⟨u, rfl⟩ : ∃ u, D = u + 1 := ⟨D - 1, by have := hD.1; omega⟩
  have hat : ∀ k w M, Wf w M → J k w M → ∃ b, M b = some (u + 1) ∧ tm.getD sd undef = .pointer (some ⟨b, 0, none⟩) ∧ ∃ cs : Array Value, w.heap[b]? = some (.cells cs Tb (0, 0)) ∧ cs.toList.take vs.length = vs := fun k w M wf hj => by
    obtain ⟨g1, g2⟩ := hS k w M hj
    have g3 := g1 sd hsn
    rw [hsd] at g3
    obtain ⟨b, hb, e⟩ := g3
    obtain ⟨b', cs, hb', hh, hds⟩ := g2 _ (htD k)
    have := wf.inj b b' u hD.2 hb hb'
    subst this
    obtain ⟨v1, v2, e2, d1, d2⟩ := p5 hds
    rw [qn d1] at e2
    exact ⟨b, hb, e, cs, hh, by rw [e2, List.take_left']; rfl⟩
  obtain ⟨b, hb, eb, _⟩ := hat 0 w M wf hj
  have hX : XB b (u + 1) Tb vs J := fun k w' M' wf' hj' => by
    obtain ⟨b', hb', eb', cs, hh, hcs⟩ := hat k w' M' wf' hj'
    rw [eb] at eb'
    injection eb' with eb'
    injection eb' with eb'
    injection eb' with eb' _ _
    subst eb'
    exact ⟨hb', cs, hh, hcs⟩
  refine (hI b).2 l J Jx hJ hJx hX hY w M us wf z ?_ ((hS 0 w M hj).2 _ htf) hj
  match us, hd with
  | u1 :: u2 :: us, ⟨d1, ⟨q, off, e, m1, m2, m3⟩, d3⟩ =>
    refine ⟨d1, ⟨q, off, e, m1, m2, fun i t hi => ?_⟩, d3⟩
    cases i with
    | succ i => cases hi
    | zero =>
      obtain ⟨x, hx, b', hb', ex⟩ := m3 0 _ rfl
      have := wf.inj b b' u hD.2 hb hb'
      subst this
      injection hi with hi
      subst hi
      exact ⟨x, hx, ex⟩
end
end Go.T
namespace Go.Proofs.YtelbollidfdcjaaGreat
open Go Go.T
set_option maxHeartbeats 4000000
section
variable {y : ay}
theorem FF (hr : y.cU) : (y.bins.length : Int) * y.days = (y.cells : Nat) := by
 rw [← D_eq hr]; unfold ay.cells; simp
theorem mj (hr : y.cU) : y.cells ≤ 20 := by
 have h1 := hr.bins; have h2 := hr.days; have h3 := D_eq hr
 have := Nat.mul_le_mul (show y.bins.length ≤ 4 by omega) (show y.D ≤ 5 by omega)
 unfold ay.cells; omega
theorem BY {s d : Int} (hs : 0 ≤ s ∧ s ≤ 4) (hd : 0 ≤ d ∧ d ≤ 6) : 0 ≤ s * d ∧ s * d ≤ 24 := by
 have : s = 0 ∨ s = 1 ∨ s = 2 ∨ s = 3 ∨ s = 4 := by omega
 rcases this with e | e | e | e | e <;> subst e <;> omega
def fk (n : Int) (l : List Int) : Int := l.foldl min n
theorem Cl (n : Int) (l : List Int) : fk n (l.take 0) = n := rfl
theorem CU {n : Int} {l : List Int} {k : Nat} (h : k < l.length) : min (fk n (l.take k)) (nth l k) = fk n (l.take (k + 1)) := by
 unfold fk; rw [eG h, List.foldl_append]; rfl
def vw (k : Nat) : List Bool := List.replicate k true ++ List.replicate (8 - k) false
def az : List Bool := List.replicate 8 true
theorem yh {k : Nat} (h : k ≤ 8) : (vw k).length = 8 := by unfold vw; rw [List.length_append, List.length_replicate, List.length_replicate]; omega
theorem DE {k : Nat} (h : k < 8) : (vw k).set k true = vw (k + 1) := by
 unfold vw
 rw [List.set_append_right _ _ (by simp), List.length_replicate, Nat.sub_self, show 8 - k = (8 - (k + 1)) + 1 by omega, List.replicate_succ, List.set_cons_zero, List.replicate_succ', List.append_assoc]; rfl
theorem LS (hr : y.cU) {s d : Int} (h : s = -1) : ((y.cells : Nat) : Int) = y.cell s d := by rw [h, rT hr]
theorem LZ {s d : Int} (h : ¬ s = -1) : s * y.days + d = y.cell s d := (if_neg h).symm
theorem Hi (hr : y.cU) {b t : Nat} : (b : Int) * (y.days + 1) + t = (y.kept b t : Nat) := by
 rw [← D_eq hr]; unfold ay.kept; simp
end
attribute [local irreducible] ay.cell ay.kept ay.cells fk
attribute [local irreducible] ir fj nK qW jL jQ jI jN jJ q3 jR qd eI gu qj gx qy nth fV dm ak eB bodyPost Exit.then Exit.inBlock Code.wp Code.wpIn qg jT qZ q6 jM eR cm cq bodyPostM eM
set_option maxRecDepth 100000 in
theorem rI (n : Int) (l : List Int) : eB Tryz.prog 180 [Ty.int .i64 n, Ty.sl cy l] (Ty.int .i64 (fk n l)) := by
 refine bC Tryz.func180 rfl (by decide) Tryz.ntmps180 (by exact Nat.le_of_ble_eq_true rfl) fun w0 M0 => ?_
 refine j7 (s := 1) rfl rfl j6 fun hln => ?_
 refine aG (aA (cJ rfl (aD (aC (aG (aG (aA (gw rfl (dP rfl rfl rfl ?_)))))))))
 refine bS rfl (aD (aC (au ?_)))
 refine cg (fun (k : {k : Nat // k ≤ l.length}) => live [(0, Ty.int .i64 (fk n (l.take k.1))), (7, Ty.sl cy l), (8, Ty.int .i64 l.length), (9, Ty.int .i64 (k.1 : Nat))] []) (fun k => l.length - k.1) (⟨0, by omega⟩) ?_ fun k => ?_
 ·(refine dG.mk' ?_ ?_ <;> (repeat' (first | exact aI | exact aJ | refine aB ?_ (Ty.aT _) | refine aB ?_ (Ty.aE _) | refine aB ?_ ?_)))
  all_goals exact Ty.aa (Cl n l).symm
 refine aG (aA (bJ rfl rfl rfl (aD (aC (aG ?_)))))
 refine aj rfl (fun hc1 => ?_) (fun hc1 => ?_)
 ·
  refine aq (aC (aG (au (aG (aA ?_)))))
  refine bf rfl rfl rfl rfl rfl rfl (by omega) ?_
  refine aO rfl rfl rfl rfl (cJ rfl (aD (aC (aA (bS rfl (bS rfl (qL rfl rfl (cJ rfl (aD ?_)))))))))
  refine bV (aC (aA ?_))
  refine cD rfl rfl (by omega) (by omega) ?_
  refine bS rfl (aD ?_)
  refine bk (⟨k.1 + 1, by omega⟩) ?_ (by show l.length - (k.1 + 1) < l.length - k.1; omega)
  (refine dG.mk' ?_ ?_ <;> (repeat' (first | exact aI | exact aJ | refine aB ?_ (Ty.aT _) | refine aB ?_ (Ty.aE _) | refine aB ?_ ?_)))
  all_goals skip
  all_goals exact Ty.aa (CU (by omega))
 refine cj (aQ (aQ (av rfl (aC (aG (aA (bS rfl (cJ rfl (aD ?_)))))))))
 refine aC (bE (bz rfl rfl ?_))
 all_goals skip
 all_goals exact bH rfl rfl (congrArg (Ty.int .i64) (by rw [List.take_of_length_le (by have := k.2; omega)]))
set_option maxRecDepth 100000 in
theorem qN : eB Tryz.prog 118 [] (Ty.arr jA az) := by
 refine bC Tryz.func118 rfl (by decide) Tryz.ntmps118 (by exact Nat.le_of_ble_eq_true rfl) fun w0 M0 => ?_
 refine aG (aA ?_)
 refine cE rfl (by exact List.cons_ne_nil _ _) rfl ?_
 refine aD (aC (aG (aA ?_)))
 refine Bl (E := jA) (xs := List.replicate 8 false) rfl (by exact List.cons_ne_nil _ _) rfl rfl ?_
 refine aD (aC (aG (aG (aA (bS rfl (aD (aC (au ?_))))))))
 refine cg (fun (k : {k : Nat // k ≤ 8}) => live [(0, Ty.ptr 1 0), (1, Ty.ptr 2 0), (3, Ty.int .i64 (k.1 : Nat))] [(1, Cont.cells 180 [Ty.bool false, Ty.bool false, Ty.bool false, Ty.bool false, Ty.bool false, Ty.bool false, Ty.bool false, Ty.bool false]), (2, Cont.vec jA 180 (vw k.1))]) (fun k => 8 - k.1) (⟨0, by omega⟩) ?_ fun k => ?_
 ·(refine dG.mk' ?_ ?_ <;> (repeat' (first | exact aI | exact aJ | refine aB ?_ (Ty.aT _) | refine aB ?_ (Ty.aE _) | refine aF rfl (Cont.aE _) ?_)))
 have hkl := yh k.2
 refine aG (aA (bJ rfl rfl rfl (aD (aC (aG ?_)))))
 refine aj rfl (fun hc1 => ?_) (fun hc1 => ?_)
 ·
  refine aq (aC (aG (au (aG (aA (bS rfl (cJ rfl (aD (aC ?_)))))))))
  refine aA (bS rfl ?_)
  refine ry (n := 8) rfl rfl rfl rfl rfl (by omega) (by omega) ?_
  refine sQ rfl rfl rfl (by decide) rfl rfl (by exact (rfl : _ = Ty.bool _)) rfl (by omega) (by decide) rfl rfl ?_
  refine aD (bV (aC (aA ?_)))
  refine cD rfl rfl (by omega) (by omega) ?_
  refine bS rfl (aD ?_)
  refine bk (⟨k.1 + 1, by omega⟩) ?_ (by show 8 - (k.1 + 1) < 8 - k.1; omega)
  (refine dG.mk' ?_ ?_ <;> (repeat' (first | exact aI | exact aJ | refine aB ?_ (Ty.aT _) | refine aB ?_ (Ty.aE _) | refine aF rfl (Cont.aE _) ?_ | refine aF rfl ?_ ?_)))
  all_goals skip
  all_goals exact Cont.dn (DE (by omega))
 refine cj (aQ (aQ (av rfl (aC (aG ?_)))))
 obtain ⟨k, hk⟩ := k
 obtain rfl : k = 8 := by have h1 : ¬ (k : Int) < 8 := hc1; have h2 : k ≤ 8 := hk; omega
 have hkl := yh hk
 refine aA ?_
 refine iJ rfl rfl (by decide) rfl rfl (by rw [hkl]; rfl) (fun e => by rw [e] at hkl; cases hkl) ?_
 refine BG rfl rfl (by decide) rfl rfl (by rw [hkl]; rfl) rfl ?_
 refine aD (aC (bE ?_))
 refine CB (show vw 8 = az from rfl) rfl rfl rfl rfl (by decide) rfl rfl (by rw [hkl]; rfl) (fun e => by rw [e] at hkl; cases hkl)
set_option maxRecDepth 100000 in
theorem nU (y : ay) (hr : y.cU) : eB Tryz.prog 131 [Ty.pp (bZ y)] (Ty.int .i64 (y.cells : Nat)) := by
 refine bC Tryz.func131 rfl (by decide) Tryz.ntmps131 (by exact Nat.le_of_ble_eq_true rfl) fun w0 M0 => ?_
 have hcm := FF hr
 have hcl := mj hr
 refine aG (aA (cJ rfl (aD (aC (aG (cZ mixed rfl (jF rfl (b9 rfl ?_))))))))
 refine aR rfl rfl rfl rfl rfl (by decide) ?_
 refine aR rfl rfl rfl rfl rfl (by decide) ?_
 refine aO rfl rfl rfl rfl (dP rfl rfl rfl (jF rfl (b9 rfl ?_)))
 refine aR rfl rfl rfl rfl rfl (by decide) ?_
 refine aR rfl rfl rfl rfl rfl (by decide) ?_
 refine aO rfl rfl rfl rfl ?_
 refine D8 rfl rfl (by rw [hcm]; omega) (by rw [hcm]; omega) ?_
 refine cJ rfl (aD ?_)
 refine ⟨by kernel_rfl, ?_⟩
 refine aC (bE (bz rfl rfl ?_))
 all_goals skip
 all_goals exact bH rfl rfl (congrArg (Ty.int .i64) hcm)
set_option maxRecDepth 100000 in
theorem tW (y : ay) (hr : y.cU) (s d : Int) (hs : -1 ≤ s ∧ s < y.bins.length) (hd : 0 ≤ d ∧ d ≤ y.days) : eB Tryz.prog 132 [Ty.pp (bZ y), Ty.int .i64 s, Ty.int .i64 d] (Ty.int .i64 (y.cell s d)) := by
 refine bC Tryz.func132 rfl (by decide) Tryz.ntmps132 (by exact Nat.le_of_ble_eq_true rfl) fun w0 M0 => ?_
 have h1 := hr.bins
 have h2 := hr.days
 refine aG (aA (cJ rfl (aD (aC (aG (aG (aA (bS rfl (bJ rfl rfl rfl ?_)))))))))
 refine aD (aC ?_)
 refine aj rfl (fun hc1 => ?_) (fun hc1 => ?_)
 ·
  refine aG (aA (jF rfl (bA (nU y hr) rfl rfl rfl rfl rfl (cJ rfl (aD (aC (bE (aW (bz rfl rfl ?_)))))))))
  all_goals skip
  all_goals exact bH rfl rfl (congrArg (Ty.int .i64) (LS hr hc1))
 refine aq (aC (aG ?_))
 have hb := BY (s := s) (d := y.days) (by omega) (by omega)
 refine aA (bS rfl (jF rfl (b9 rfl ?_)))
 refine aR rfl rfl rfl rfl rfl (by decide) ?_
 refine aR rfl rfl rfl rfl rfl (by decide) ?_
 refine aO rfl rfl rfl rfl ?_
 refine D8 rfl rfl (by omega) (by omega) ?_
 refine bS rfl ?_
 refine cD rfl rfl (by omega) (by omega) ?_
 refine cJ rfl (aD (aC (bE (bz rfl rfl ?_))))
 all_goals skip
 all_goals exact bH rfl rfl (congrArg (Ty.int .i64) (LZ hc1))
set_option maxRecDepth 100000 in
theorem Ce (y : ay) (hr : y.cU) (b t : Nat) (hb : b < y.bins.length) (ht : t ≤ y.D) : eB Tryz.prog 89 [Ty.pp (bZ y), Ty.int .i64 (b : Nat), Ty.int .i64 (t : Nat)] (Ty.int .i64 (y.kept b t : Nat)) := by
 refine bC Tryz.func89 rfl (by decide) Tryz.ntmps89 (by exact Nat.le_of_ble_eq_true rfl) fun w0 M0 => ?_
 have h1 := hr.bins
 have h2 := hr.days
 have h3 := D_eq hr
 have h4 := BY (s := (b : Nat)) (d := y.days + 1) (by omega) (by omega)
 refine aG (aA (cJ rfl (aD (aC (aG (aA (bS rfl (jF rfl (b9 rfl ?_)))))))))
 refine aR rfl rfl rfl rfl rfl (by decide) ?_
 refine aR rfl rfl rfl rfl rfl (by decide) ?_
 refine aO rfl rfl rfl rfl ?_
 refine cD rfl rfl (by omega) (by omega) ?_
 refine D8 rfl rfl (by omega) (by omega) ?_
 refine bS rfl ?_
 refine cD rfl rfl (by omega) (by omega) ?_
 refine cJ rfl (aD (aC (bE (bz rfl rfl ?_))))
 all_goals skip
 all_goals exact bH rfl rfl (congrArg (Ty.int .i64) (Hi hr))
end Go.Proofs.YtelbollidfdcjaaGreat
namespace Go.Proofs.YtelbollidfdcjaaGreat
open Go Go.T
set_option maxHeartbeats 8000000
def jv (f : cB) : List Ty := [Ty.agg (dZ.tys f)]
section
variable {y : ay} {c : Nat → Bool} {b t : Nat}
def Cm (y : ay) (b t : Nat) : Int := if 0 < t then y.cell b ((t : Int) - 1) else (y.cells : Nat)
def EZ (y : ay) (b t : Nat) : Int := if t < y.D then y.cell b t else (y.cells : Nat)
def uj (s d : Int) (k : Span) : List Ty := [Ty.int .i64 s, Ty.int .i64 d, Ty.int .i64 k.lo, Ty.int .i64 k.hi]
theorem Ih (h : (t : Int) > 0) : y.cell b ((t : Int) - 1) = Cm y b t := (if_pos (by omega)).symm
theorem K3 (h : ¬ (t : Int) > 0) : ((y.cells : Nat) : Int) = Cm y b t := (if_neg (by omega)).symm
theorem JZ (hr : y.cU) (h : (t : Int) < y.days) : y.cell b t = EZ y b t := (if_pos (by have := D_eq hr; omega)).symm
theorem Lh (hr : y.cU) (h : ¬ (t : Int) < y.days) : ((y.cells : Nat) : Int) = EZ y b t := (if_neg (by have := D_eq hr; omega)).symm
theorem Fe (h : (t : Int) > 0) : 0 = (iE y b t).lo ∧ (nth y.bins b).holds = (iE y b t).hi := by unfold iE; rw [if_pos (by omega)]; exact ⟨rfl, rfl⟩
theorem KV (h : ¬ (t : Int) > 0) : max 0 (nth y.bins b).first.lo = (iE y b t).lo ∧ fk (nth y.bins b).holds [(nth y.bins b).first.hi] = (iE y b t).hi := by unfold iE; rw [if_neg (by omega)]; exact ⟨rfl, rfl⟩
theorem DZ {s : Span} {k : Nat} (h : ((c k && decide ((nth y.levels k).bin = b)) && decide ((nth y.levels k).day = t)) = true) : max (gO y c b t s k).lo (nth y.levels k).sacks.lo = (gO y c b t s (k + 1)).lo ∧ fk (gO y c b t s k).hi [(nth y.levels k).sacks.hi] = (gO y c b t s (k + 1)).hi := by
 show _ = (if _ then _ else _ : Span).lo ∧ _ = (if _ then _ else _ : Span).hi
 rw [if_pos h]; exact ⟨rfl, rfl⟩
theorem Fg {s : Span} {k : Nat} (h : ((c k && decide ((nth y.levels k).bin = b)) && decide ((nth y.levels k).day = t)) = false) : (gO y c b t s k).lo = (gO y c b t s (k + 1)).lo ∧ (gO y c b t s k).hi = (gO y c b t s (k + 1)).hi := by
 show _ = (if _ then _ else _ : Span).lo ∧ _ = (if _ then _ else _ : Span).hi
 rw [if_neg (by rw [h]; decide)]; exact ⟨rfl, rfl⟩
theorem AT (s : Span) : s.lo = (gO y c b t s 0).lo ∧ s.hi = (gO y c b t s 0).hi := ⟨rfl, rfl⟩
theorem Iv {s : Span} {k : Nat} (hk : k ≤ y.levels.length) (h : ¬ (k : Int) < (y.levels.length : Int)) : gO y c b t s k = gO y c b t s y.levels.length := by rw [show k = y.levels.length by omega]
theorem JI (hb : b < y.bins.length) (ht : t ≤ y.D) : jv (nth (aK y c) (b * (y.D + 1) + t)) = [Ty.agg (uj (Cm y b t) (EZ y b t) (gO y c b t (iE y b t) y.levels.length))] := congrArg jv (iS (c := c) hb ht)
theorem JQ {i : Nat} (hi : i < y.moves.length) : jv (nth (aK y c) (y.bins.length * (y.D + 1) + i)) = [Ty.agg [Ty.int .i64 (y.cell (nth y.moves i).src (nth y.moves i).day), Ty.int .i64 (y.cell (nth y.moves i).dst (nth y.moves i).day), Ty.int .i64 (nth y.moves i).sacks.lo, Ty.int .i64 (nth y.moves i).sacks.hi]] := congrArg jv (iR (c := c) hi)
theorem EI (hb : b < y.bins.length) (ht : t ≤ y.D) : b * (y.D + 1) + t < (aK y c).length := by
 rw [fG]; have h := pg hb ht; unfold ay.kept at h; omega
theorem HQ {J : Nat → World → bB → Prop} (hJ : ∀ k, Cb (J k)) {m k : Nat} (e : m = k) : (Cont.ck (hJ m)).Sub (Cont.ck (hJ k)) := Cont.L5 hJ e
end
attribute [local irreducible] ay.cell ay.cells fk Cm EZ iE gO aK
attribute [local irreducible] ir fj nK qW jL jQ jI jN jJ q3 jR qd eI gu qj gx qy nth fV dm ak eB bodyPost Exit.then Exit.inBlock Code.wp Code.wpIn qg jT qZ q6 jM eR cm cq bodyPostM eM
set_option maxRecDepth 100000 in
theorem vA (y : ay) (hr : y.cU) (c8 : List Bool) (hc8 : c8.length = 8) (b D : Nat) (hD : D < 4096) (vs : List Value) : Gy Tryz.prog 196 b D 185 vs (bZ y) (fun l => [Ty.ex (yv l), Ty.pp [Ty.ex (.pointer (some ⟨b, 0, none⟩))], Ty.pa jA c8 0]) ((aK y (nth c8)).map jv) (Ty.kH []) (Ty.kH []) := by
 refine CJ rfl rfl Tryz.func196 rfl (by decide) Tryz.ntmps196 (fun _ => by exact Nat.le_of_ble_eq_true rfl) (fun _ => ⟨rfl, rfl⟩) fun l J Jx hJ hJx hX hY w0 M0 => ?_
 have h1 := hr.bins
 have h2 := hr.days
 have h3 := D_eq hr
 have h4 := hr.moves
 have h5 := hr.levels
 refine aG (aG (aA (aO rfl rfl rfl rfl (kU rfl ?_))))
 refine jB rfl rfl rfl rfl rfl (by decide) ?_
 refine jB rfl rfl rfl rfl rfl (by decide) ?_
 refine rD hX rfl rfl rfl rfl rfl rfl (dP rfl rfl rfl (bS rfl (aD (aC (au ?_)))))
 refine cg (fun (k : {k : Nat // k ≤ y.bins.length}) => live [(0, Ty.ex (yv l)), (1, Ty.pp [Ty.ex (.pointer (some ⟨b, 0, none⟩))]), (2, Ty.pa jA c8 0), (16, Ty.sl dr y.bins), (17, Ty.int .i64 y.bins.length), (18, Ty.int .i64 (k.1 : Nat))] [(7000, Cont.ck (hJ (k.1 * (y.D + 1)))), (4000, Cont.fact (bZ y) vs rfl rfl)]) (fun k => y.bins.length - k.1) (⟨0, by omega⟩) ?_ fun k => ?_
 ·(refine dG.mk' ?_ ?_ <;> (repeat' (first | exact aI | exact aJ | refine aB ?_ (Ty.aT _) | refine aB ?_ (Ty.aE _) | refine aF rfl (Cont.aE _) ?_ | refine aF rfl ?_ ?_)))
  all_goals exact HQ hJ (Nat.zero_mul _).symm
 refine aG (aA (bJ rfl rfl rfl (aD (aC (aG ?_)))))
 refine aj rfl (fun hc1 => ?_) (fun hc1 => ?_)
 ·
  refine aq (aC (aG (au (aG (aA (bS rfl ?_))))))
  refine bf rfl rfl rfl rfl rfl rfl (by omega) ?_
  refine aZ rfl rfl rfl (by exact Nat.le_of_ble_eq_true rfl) ?_
  refine cE rfl (by exact List.cons_ne_nil _ _) rfl ?_
  refine cJ rfl ?_
  refine b8 rfl rfl (by decide) rfl rfl rfl rfl rfl rfl ?_
  refine aD (aC (aG (aA (aO rfl rfl rfl rfl (kU rfl ?_)))))
  refine jB rfl rfl rfl rfl rfl (by decide) ?_
  refine jB rfl rfl rfl rfl rfl (by decide) ?_
  refine rD hX rfl rfl rfl rfl rfl rfl ?_
  refine cD rfl rfl (by omega) (by omega) ?_
  refine bS rfl (aD (aC (au ?_)))
  refine cg (fun (t : {t : Nat // t ≤ y.D + 1}) => live [(0, Ty.ex (yv l)), (1, Ty.pp [Ty.ex (.pointer (some ⟨b, 0, none⟩))]), (2, Ty.pa jA c8 0), (4, Ty.int .i64 (k.1 : Nat)), (5, Ty.ptr 6 0), (16, Ty.sl dr y.bins), (17, Ty.int .i64 y.bins.length), (18, Ty.int .i64 (k.1 : Nat)), (28, Ty.int .i64 (y.days + 1)), (29, Ty.int .i64 (t.1 : Nat))] [(6, Cont.cells 39 (dr.tys (nth y.bins k.1))), (7000, Cont.ck (hJ (k.1 * (y.D + 1) + t.1))), (4000, Cont.fact (bZ y) vs rfl rfl)]) (fun t => y.D + 1 - t.1) (⟨0, by omega⟩) ?_ fun t => ?_
  ·(refine dG.mk' ?_ ?_ <;> (repeat' (first | exact aI | exact aJ | refine aB ?_ (Ty.aT _) | refine aB ?_ (Ty.aE _) | refine aF rfl (Cont.aE _) ?_)))
  refine aG (aA (bJ rfl rfl rfl (aD (aC (aG ?_)))))
  refine aj rfl (fun hc2 => ?_) (fun hc2 => ?_)
  ·
   refine aq (aC (aG (au (aG (aA (bS rfl (cJ rfl (aD (aC ?_)))))))))
   refine aG (cZ mixed rfl (aO rfl rfl rfl rfl ?_))
   refine dO [7000, 4000] (nU y hr) rfl (aL (pX hX hD rfl rfl rfl rfl) bU) (by exact dA _ _) ?_
   refine aO rfl rfl rfl rfl ?_
   refine dO [7000, 4000] (nU y hr) rfl (aL (pX hX hD rfl rfl rfl rfl) bU) (by exact dA _ _) ?_
   refine aN rfl rfl rfl rfl rfl (by decide) ?_
   refine aU rfl rfl (by decide) rfl rfl rfl ?_
   refine dD rfl rfl (by exact List.cons_ne_nil _ _) rfl (by repeat (first | exact (aY.nil : aY _ _ [] _) | (show aY _ _ ((_, _) :: _) _; apply aY.one; (· exact (rfl : _ = Ty.int _ _)); (· exact rfl)))) (by exact (rfl : _ = some [_, _, _, _])) ?_
   refine cE rfl (by exact List.cons_ne_nil _ _) rfl ?_
   refine b8 rfl rfl (by decide) rfl rfl rfl rfl rfl rfl ?_
   refine aD ?_
   refine ⟨by kernel_rfl, ?_⟩
   refine aC ?_
   refine kC (J := live [(0, Ty.ex (yv l)), (1, Ty.pp [Ty.ex (.pointer (some ⟨b, 0, none⟩))]), (2, Ty.pa jA c8 0), (4, Ty.int .i64 (k.1 : Nat)), (5, Ty.ptr 6 0), (6, Ty.int .i64 (t.1 : Nat)), (7, Ty.ptr 8 0), (16, Ty.sl dr y.bins), (17, Ty.int .i64 y.bins.length), (18, Ty.int .i64 (k.1 : Nat)), (28, Ty.int .i64 (y.days + 1)), (29, Ty.int .i64 (t.1 : Nat))] [(6, Cont.cells 39 (dr.tys (nth y.bins k.1))), (8, Cont.cells 187 [Ty.int .i64 (Cm y k.1 t.1), Ty.int .i64 (y.cells : Nat), Ty.int .i64 (iE y k.1 t.1).lo, Ty.int .i64 (iE y k.1 t.1).hi]), (7000, Cont.ck (hJ (k.1 * (y.D + 1) + t.1))), (4000, Cont.fact (bZ y) vs rfl rfl)]) ?_ ?_
   ·
    refine aG (aA (bS rfl (bJ rfl rfl rfl (aD (aC ?_)))))
    refine aj rfl (fun hc3 => ?_) (fun hc3 => ?_)
    ·
     refine aA (aO rfl rfl rfl rfl (bS rfl (bS rfl ?_)))
     refine iC rfl rfl (by omega) (by omega) ?_
     refine dO [7000, 4000] (tW y hr (k.1 : Nat) ((t.1 : Int) - 1) (by omega) (by omega)) rfl (aL (pX hX hD rfl rfl rfl rfl) (aL (af (bI rfl rfl)) (aL (af (bI rfl rfl)) bU))) (by exact dA _ _) ?_
     refine aN rfl rfl rfl rfl rfl (by decide) ?_
     refine cw rfl rfl (by decide) rfl rfl (by exact (rfl : _ = Ty.int _ _)) rfl (by exact Nat.le_of_ble_eq_true rfl) rfl rfl (by exact rfl) ?_
     refine aD (ew ?_)
     (refine dG.mk' ?_ ?_ <;> (repeat' (first | exact aI | exact aJ | exact cT | refine aB ?_ (Ty.aT _) | refine aB ?_ (Ty.aE _) | refine aF rfl (Cont.aE _) ?_ | refine aF rfl (Cont.cS ?_) ?_ | refine bM ?_ (Ty.aE _) | refine bM ?_ ?_)))
     all_goals first | exact Ty.aa (Ih hc3) | exact Ty.aa (Fe hc3).1 | exact Ty.aa (Fe hc3).2
    refine cZ mixed rfl ?_
    refine aN rfl rfl rfl rfl rfl (by decide) ?_
    refine aN rfl rfl rfl rfl rfl (by decide) ?_
    refine aU rfl rfl (by decide) rfl rfl rfl ?_
    refine td rfl rfl ?_
    refine aN rfl rfl rfl rfl rfl (by decide) ?_
    refine aU rfl rfl (by decide) rfl rfl rfl ?_
    refine aN rfl rfl rfl rfl rfl (by decide) ?_
    refine aN rfl rfl rfl rfl rfl (by decide) ?_
    refine aU rfl rfl (by decide) rfl rfl rfl ?_
    refine bt (E := cy) (xs := [_]) rfl rfl rfl rfl rfl (by decide) (by decide) (by repeat (first | exact (aY.nil : aY _ _ [] _) | (show aY _ _ ((_, _) :: _) _; apply aY.one; (· exact (rfl : _ = Ty.int _ _)); (· exact rfl)))) (by exact rfl) rfl ?_
    refine bA (rI _ _) rfl rfl rfl rfl rfl ?_
    refine aN rfl rfl rfl rfl rfl (by decide) ?_
    refine cw rfl rfl (by decide) rfl rfl (by exact (rfl : _ = Ty.int _ _)) rfl (by exact Nat.le_of_ble_eq_true rfl) rfl rfl (by exact rfl) ?_
    refine aN rfl rfl rfl rfl rfl (by decide) ?_
    refine cw rfl rfl (by decide) rfl rfl (by exact (rfl : _ = Ty.int _ _)) rfl (by exact Nat.le_of_ble_eq_true rfl) rfl rfl (by exact rfl) ?_
    refine aD ?_
    refine ⟨by kernel_rfl, ?_⟩
    refine ew ?_
    (refine dG.mk' ?_ ?_ <;> (repeat' (first | exact aI | exact aJ | exact cT | refine aB ?_ (Ty.aT _) | refine aB ?_ (Ty.aE _) | refine aF rfl (Cont.aE _) ?_ | refine aF rfl (Cont.cS ?_) ?_ | refine bM ?_ (Ty.aE _) | refine bM ?_ ?_)))
    all_goals first | exact Ty.aa (K3 hc3) | exact Ty.aa (KV hc3).1 | exact Ty.aa (KV hc3).2
   refine kC (J := live [(0, Ty.ex (yv l)), (1, Ty.pp [Ty.ex (.pointer (some ⟨b, 0, none⟩))]), (2, Ty.pa jA c8 0), (4, Ty.int .i64 (k.1 : Nat)), (5, Ty.ptr 6 0), (6, Ty.int .i64 (t.1 : Nat)), (7, Ty.ptr 8 0), (16, Ty.sl dr y.bins), (17, Ty.int .i64 y.bins.length), (18, Ty.int .i64 (k.1 : Nat)), (28, Ty.int .i64 (y.days + 1)), (29, Ty.int .i64 (t.1 : Nat))] [(6, Cont.cells 39 (dr.tys (nth y.bins k.1))), (8, Cont.cells 187 (uj (Cm y k.1 t.1) (EZ y k.1 t.1) (iE y k.1 t.1))), (7000, Cont.ck (hJ (k.1 * (y.D + 1) + t.1))), (4000, Cont.fact (bZ y) vs rfl rfl)]) ?_ ?_
   ·
    refine aG (aA (bS rfl (aO rfl rfl rfl rfl (kU rfl ?_))))
    refine jB rfl rfl rfl rfl rfl (by decide) ?_
    refine jB rfl rfl rfl rfl rfl (by decide) ?_
    refine rD hX rfl rfl rfl rfl rfl rfl (bJ rfl rfl rfl (aD (aC ?_)))
    refine aj rfl (fun hc4 => ?_) (fun hc4 => ?_)
    ·
     refine aA (aO rfl rfl rfl rfl (bS rfl (bS rfl ?_)))
     refine dO [7000, 4000] (tW y hr (k.1 : Nat) (t.1 : Nat) (by omega) (by omega)) rfl (aL (pX hX hD rfl rfl rfl rfl) (aL (af (bI rfl rfl)) (aL (af (bI rfl rfl)) bU))) (by exact dA _ _) ?_
     refine aN rfl rfl rfl rfl rfl (by decide) ?_
     refine cw rfl rfl (by decide) rfl rfl (by exact (rfl : _ = Ty.int _ _)) rfl (by exact Nat.le_of_ble_eq_true rfl) rfl rfl (by exact rfl) ?_
     refine aD (ew ?_)
     (refine dG.mk' ?_ ?_ <;> (repeat' (first | exact aI | exact aJ | exact cT | refine aB ?_ (Ty.aT _) | refine aB ?_ (Ty.aE _) | refine aF rfl (Cont.aE _) ?_ | refine aF rfl (Cont.cS ?_) ?_ | refine bM ?_ (Ty.aE _) | refine bM ?_ ?_)))
     all_goals exact Ty.aa (JZ hr hc4)
    refine aq (ew ?_)
    (refine dG.mk' ?_ ?_ <;> (repeat' (first | exact aI | exact aJ | exact cT | refine aB ?_ (Ty.aT _) | refine aB ?_ (Ty.aE _) | refine aF rfl (Cont.aE _) ?_ | refine aF rfl (Cont.cS ?_) ?_ | refine bM ?_ (Ty.aE _) | refine bM ?_ ?_)))
    all_goals exact Ty.aa (Lh hr hc4)
   refine aG (aG (aA (aO rfl rfl rfl rfl (kU rfl ?_))))
   refine jB rfl rfl rfl rfl rfl (by decide) ?_
   refine jB rfl rfl rfl rfl rfl (by decide) ?_
   refine rD hX rfl rfl rfl rfl rfl rfl (dP rfl rfl rfl (bS rfl (aD (aC (au ?_)))))
   refine cg (fun (i : {i : Nat // i ≤ y.levels.length}) => live [(0, Ty.ex (yv l)), (1, Ty.pp [Ty.ex (.pointer (some ⟨b, 0, none⟩))]), (2, Ty.pa jA c8 0), (4, Ty.int .i64 (k.1 : Nat)), (5, Ty.ptr 6 0), (6, Ty.int .i64 (t.1 : Nat)), (7, Ty.ptr 8 0), (16, Ty.sl dr y.bins), (17, Ty.int .i64 y.bins.length), (18, Ty.int .i64 (k.1 : Nat)), (28, Ty.int .i64 (y.days + 1)), (29, Ty.int .i64 (t.1 : Nat)), (76, Ty.sl dK y.levels), (77, Ty.int .i64 y.levels.length), (78, Ty.int .i64 (i.1 : Nat))] [(6, Cont.cells 39 (dr.tys (nth y.bins k.1))), (8, Cont.cells 187 (uj (Cm y k.1 t.1) (EZ y k.1 t.1) (gO y (nth c8) k.1 t.1 (iE y k.1 t.1) i.1))), (7000, Cont.ck (hJ (k.1 * (y.D + 1) + t.1))), (4000, Cont.fact (bZ y) vs rfl rfl)]) (fun i => y.levels.length - i.1) (⟨0, by omega⟩) ?_ fun i => ?_
   ·(refine dG.mk' ?_ ?_ <;> (repeat' (first | exact aI | exact aJ | exact cT | refine aB ?_ (Ty.aT _) | refine aB ?_ (Ty.aE _) | refine aF rfl (Cont.aE _) ?_ | refine aF rfl (Cont.cS ?_) ?_ | refine bM ?_ (Ty.aE _) | refine bM ?_ ?_)))
    all_goals first | exact Ty.aa (AT _).1 | exact Ty.aa (AT _).2
   have hi := i.2
   refine aG (aA (bJ rfl rfl rfl (aD (aC (aG ?_)))))
   refine aj rfl (fun hc5 => ?_) (fun hc5 => ?_)
   ·
    refine aq (aC (aG (au (aG (aA (bS rfl ?_))))))
    refine bf rfl rfl rfl rfl rfl rfl (by omega) ?_
    refine aZ rfl rfl rfl (by exact Nat.le_of_ble_eq_true rfl) ?_
    refine cE rfl (by exact List.cons_ne_nil _ _) rfl ?_
    refine cJ rfl ?_
    refine b8 rfl rfl (by decide) rfl rfl rfl rfl rfl rfl ?_
    refine aD (aC (aG (aA (bS rfl ?_))))
    refine Cf (n := 8) rfl rfl rfl rfl rfl (by omega) ?_
    refine Eh rfl rfl rfl (Nat.zero_add _) (by omega) rfl ?_
    refine gj rfl ?_
    apply aV (s := 86) rfl rfl rfl
    ·intro hg; apply aX; (refine aN rfl rfl rfl rfl rfl (by decide) ?_); refine aD ?_; exact rfl
    ·exact rfl
    ·exact rfl
    apply aV (s := 86) rfl rfl rfl
    ·intro hg; apply aS (s := 87) rfl (by (rw [hg]; rfl)); apply aX; (refine aU rfl rfl (by decide) rfl rfl rfl ?_); refine aD ?_; exact rfl
    ·exact rfl
    ·exact rfl
    apply aV (s := 86) rfl rfl rfl
    ·intro hg; apply aX; (refine bS rfl ?_); refine aD ?_; exact rfl
    ·exact rfl
    ·exact rfl
    apply aV (s := 86) rfl rfl rfl
    ·intro hg; apply aS (s := 88) rfl (by (rw [hg]; rfl)); apply aS (s := 89) rfl (by (rw [hg]; rfl)); apply aX; (refine bJ rfl rfl rfl ?_); refine aD ?_; exact rfl
    ·exact rfl
    ·exact rfl
    refine ep rfl rfl (gj rfl ?_)
    apply aV (s := 92) rfl rfl rfl
    ·intro hg; apply aX; (refine aN rfl rfl rfl rfl rfl (by decide) ?_); refine aD ?_; exact rfl
    ·exact rfl
    ·exact rfl
    apply aV (s := 92) rfl rfl rfl
    ·intro hg; apply aS (s := 93) rfl (by (rw [hg]; rfl)); apply aX; (refine aU rfl rfl (by decide) rfl rfl rfl ?_); refine aD ?_; exact rfl
    ·exact rfl
    ·exact rfl
    apply aV (s := 92) rfl rfl rfl
    ·intro hg; apply aX; (refine bS rfl ?_); refine aD ?_; exact rfl
    ·exact rfl
    ·exact rfl
    apply aV (s := 92) rfl rfl rfl
    ·intro hg; apply aS (s := 94) rfl (by (rw [hg]; rfl)); apply aS (s := 95) rfl (by (rw [hg]; rfl)); apply aX; (refine bJ rfl rfl rfl ?_); refine aD ?_; exact rfl
    ·exact rfl
    ·exact rfl
    refine ep rfl rfl (aD (aC ?_))
    refine ct rfl (fun hc6 => ?_) (fun hc6 => ?_)
    ·
     refine cZ mixed rfl ?_
     refine aN rfl rfl rfl rfl rfl (by decide) ?_
     refine aU rfl rfl (by decide) rfl rfl rfl ?_
     refine aN rfl rfl rfl rfl rfl (by decide) ?_
     refine aN rfl rfl rfl rfl rfl (by decide) ?_
     refine aU rfl rfl (by decide) rfl rfl rfl ?_
     refine td rfl rfl ?_
     refine aN rfl rfl rfl rfl rfl (by decide) ?_
     refine aU rfl rfl (by decide) rfl rfl rfl ?_
     refine aN rfl rfl rfl rfl rfl (by decide) ?_
     refine aN rfl rfl rfl rfl rfl (by decide) ?_
     refine aU rfl rfl (by decide) rfl rfl rfl ?_
     refine bt (E := cy) (xs := [_]) rfl rfl rfl rfl rfl (by decide) (by decide) (by repeat (first | exact (aY.nil : aY _ _ [] _) | (show aY _ _ ((_, _) :: _) _; apply aY.one; (· exact (rfl : _ = Ty.int _ _)); (· exact rfl)))) (by exact rfl) rfl ?_
     refine bA (rI _ _) rfl rfl rfl rfl rfl ?_
     refine aN rfl rfl rfl rfl rfl (by decide) ?_
     refine cw rfl rfl (by decide) rfl rfl (by exact (rfl : _ = Ty.int _ _)) rfl (by exact Nat.le_of_ble_eq_true rfl) rfl rfl (by exact rfl) ?_
     refine aN rfl rfl rfl rfl rfl (by decide) ?_
     refine cw rfl rfl (by decide) rfl rfl (by exact (rfl : _ = Ty.int _ _)) rfl (by exact Nat.le_of_ble_eq_true rfl) rfl rfl (by exact rfl) ?_
     refine aD ?_
     refine ⟨by kernel_rfl, ?_⟩
     refine bV (aC (aA ?_))
     refine cD rfl rfl (by omega) (by omega) ?_
     refine bS rfl (aD ?_)
     refine bk (⟨i.1 + 1, by omega⟩) ?_ (by show y.levels.length - (i.1 + 1) < y.levels.length - i.1; omega)
     (refine dG.mk' ?_ ?_ <;> (repeat' (first | exact aI | exact aJ | exact cT | refine aB ?_ (Ty.aT _) | refine aB ?_ (Ty.aE _) | refine aF rfl (Cont.aE _) ?_ | refine aF rfl (Cont.cS ?_) ?_ | refine bM ?_ (Ty.aE _) | refine bM ?_ ?_)))
     all_goals skip
     all_goals first | exact Ty.aa (DZ hc6).1 | exact Ty.aa (DZ hc6).2
    refine aq (bV (aC (aA ?_)))
    refine cD rfl rfl (by omega) (by omega) ?_
    refine bS rfl (aD ?_)
    refine bk (⟨i.1 + 1, by omega⟩) ?_ (by show y.levels.length - (i.1 + 1) < y.levels.length - i.1; omega)
    (refine dG.mk' ?_ ?_ <;> (repeat' (first | exact aI | exact aJ | exact cT | refine aB ?_ (Ty.aT _) | refine aB ?_ (Ty.aE _) | refine aF rfl (Cont.aE _) ?_ | refine aF rfl (Cont.cS ?_) ?_ | refine bM ?_ (Ty.aE _) | refine bM ?_ ?_)))
    all_goals skip
    all_goals first | exact Ty.aa (Fg hc6).1 | exact Ty.aa (Fg hc6).2
   refine cj (aQ (aQ (av rfl (aC (aG ?_)))))
   refine gT (tg := 8) rfl (Cont.mz (congrArg (uj _ _) (Iv i.2 hc5))) ?_
   refine aA (NY rfl ?_)
   refine bh rfl rfl (by decide) rfl rfl (by exact Nat.le_of_ble_eq_true rfl) ?_
   refine B3 hJ hJx hY rfl rfl rfl rfl rfl (Dw (EI (by omega) (by omega)) (JI (by omega) (by omega))) rfl ?_
   refine Gu (h1 := hJ _) (hx := hJx) rfl ?_
   refine aD (aC ?_)
   refine D3 (h1 := hJ _) (hx := hJx) rfl ?_ ?_
   ·
    refine bE (bL (aW (aW (bL (bL (aW (aW (bL (aW ?_)))))))))
    exact DL rfl rfl
   refine aq (bV (aC (aA ?_)))
   refine cD rfl rfl (by omega) (by omega) ?_
   refine bS rfl (aD ?_)
   refine bk (⟨t.1 + 1, by omega⟩) ?_ (by show y.D + 1 - (t.1 + 1) < y.D + 1 - t.1; omega)
   (refine dG.mk' ?_ ?_ <;> (repeat' (first | exact aI | exact aJ | refine aB ?_ (Ty.aT _) | refine aB ?_ (Ty.aE _) | refine aF rfl (Cont.aE _) ?_)))
   all_goals skip
  refine cj (aQ (aQ (av rfl (bV (aC (aA ?_))))))
  refine cD rfl rfl (by omega) (by omega) ?_
  refine bS rfl (aD ?_)
  refine bk (⟨k.1 + 1, by omega⟩) ?_ (by show y.bins.length - (k.1 + 1) < y.bins.length - k.1; omega)
  (refine dG.mk' ?_ ?_ <;> (repeat' (first | exact aI | exact aJ | refine aB ?_ (Ty.aT _) | refine aB ?_ (Ty.aE _) | refine aF rfl (Cont.aE _) ?_ | refine aF rfl ?_ ?_)))
  all_goals skip
  all_goals exact HQ hJ (show k.1 * (y.D + 1) + t.1 = (k.1 + 1) * (y.D + 1) by rw [Nat.succ_mul]; have := t.2; omega)
 refine cj (aQ (aQ (av rfl (aC (aG (aA (aO rfl rfl rfl rfl (kU rfl ?_))))))))
 refine jB rfl rfl rfl rfl rfl (by decide) ?_
 refine jB rfl rfl rfl rfl rfl (by decide) ?_
 refine rD hX rfl rfl rfl rfl rfl rfl (dP rfl rfl rfl (bS rfl (aD (aC (au ?_)))))
 refine cg (fun (i : {i : Nat // i ≤ y.moves.length}) => live [(0, Ty.ex (yv l)), (1, Ty.pp [Ty.ex (.pointer (some ⟨b, 0, none⟩))]), (124, Ty.sl dJ y.moves), (125, Ty.int .i64 y.moves.length), (126, Ty.int .i64 (i.1 : Nat))] [(7000, Cont.ck (hJ (y.bins.length * (y.D + 1) + i.1))), (4000, Cont.fact (bZ y) vs rfl rfl)]) (fun i => y.moves.length - i.1) (⟨0, by omega⟩) ?_ fun i => ?_
 ·(refine dG.mk' ?_ ?_ <;> (repeat' (first | exact aI | exact aJ | refine aB ?_ (Ty.aT _) | refine aB ?_ (Ty.aE _) | refine aF rfl (Cont.aE _) ?_ | refine aF rfl ?_ ?_)))
  all_goals exact HQ hJ (show k.1 * (y.D + 1) = y.bins.length * (y.D + 1) + 0 by rw [show k.1 = y.bins.length by have := k.2; omega]; rfl)
 refine aG (aA (bJ rfl rfl rfl (aD (aC (aG ?_)))))
 refine aj rfl (fun hc8 => ?_) (fun hc8 => ?_)
 ·
  refine aq (aC (aG (au (aG (aA ?_)))))
  refine bf rfl rfl rfl rfl rfl rfl (by omega) ?_
  refine aZ rfl rfl rfl (by exact Nat.le_of_ble_eq_true rfl) ?_
  refine cE rfl (by exact List.cons_ne_nil _ _) rfl ?_
  refine b8 rfl rfl (by decide) rfl rfl rfl rfl rfl rfl ?_
  refine aD (aC (aG ?_))
  have hm := hr.move _ (cx (xs := y.moves) (k := i.1) (by omega))
  refine cZ mixed rfl (NY rfl (aO rfl rfl rfl rfl ?_))
  refine aN rfl rfl rfl rfl rfl (by decide) ?_
  refine aU rfl rfl (by decide) rfl rfl rfl ?_
  refine aN rfl rfl rfl rfl rfl (by decide) ?_
  refine aU rfl rfl (by decide) rfl rfl rfl ?_
  refine dO [7000, 4000] (tW y hr (nth y.moves i.1).src (nth y.moves i.1).day hm.2.1 (by omega)) rfl (aL (pX hX hD rfl rfl rfl rfl) (aL (af (bI rfl rfl)) (aL (af (bI rfl rfl)) bU))) (by exact dA _ _) ?_
  refine aO rfl rfl rfl rfl ?_
  refine aN rfl rfl rfl rfl rfl (by decide) ?_
  refine aU rfl rfl (by decide) rfl rfl rfl ?_
  refine aN rfl rfl rfl rfl rfl (by decide) ?_
  refine aU rfl rfl (by decide) rfl rfl rfl ?_
  refine dO [7000, 4000] (tW y hr (nth y.moves i.1).dst (nth y.moves i.1).day hm.2.2.1 (by omega)) rfl (aL (pX hX hD rfl rfl rfl rfl) (aL (af (bI rfl rfl)) (aL (af (bI rfl rfl)) bU))) (by exact dA _ _) ?_
  refine aN rfl rfl rfl rfl rfl (by decide) ?_
  refine aN rfl rfl rfl rfl rfl (by decide) ?_
  refine aU rfl rfl (by decide) rfl rfl rfl ?_
  refine aN rfl rfl rfl rfl rfl (by decide) ?_
  refine aN rfl rfl rfl rfl rfl (by decide) ?_
  refine aU rfl rfl (by decide) rfl rfl rfl ?_
  refine dD rfl rfl (by exact List.cons_ne_nil _ _) rfl (by repeat (first | exact (aY.nil : aY _ _ [] _) | (show aY _ _ ((_, _) :: _) _; apply aY.one; (· exact (rfl : _ = Ty.int _ _)); (· exact rfl)))) (by exact (rfl : _ = some [_, _, _, _])) ?_
  refine B3 hJ hJx hY rfl rfl rfl rfl rfl (Dw (by rw [fG]; omega) (JQ (by omega))) rfl ?_
  refine Gu (h1 := hJ _) (hx := hJx) rfl ?_
  refine aD ?_
  refine ⟨by kernel_rfl, ?_⟩
  refine aC ?_
  refine D3 (h1 := hJ _) (hx := hJx) rfl ?_ ?_
  ·
   refine bE (bL (aW (aW (bL ?_))))
   exact DL rfl rfl
  refine aq (bV (aC (aA ?_)))
  refine cD rfl rfl (by omega) (by omega) ?_
  refine bS rfl (aD ?_)
  refine bk (⟨i.1 + 1, by omega⟩) ?_ (by show y.moves.length - (i.1 + 1) < y.moves.length - i.1; omega)
  (refine dG.mk' ?_ ?_ <;> (repeat' (first | exact aI | exact aJ | refine aB ?_ (Ty.aT _) | refine aB ?_ (Ty.aE _) | refine aF rfl (Cont.aE _) ?_)))
  all_goals skip
 refine cj (aQ (aQ (av rfl ?_)))
 exact HU (hJ := hJ) (by rw [List.length_map, fG, show i.1 = y.moves.length by have := i.2; omega]) rfl rfl
end Go.Proofs.YtelbollidfdcjaaGreat
namespace Go.T
open Go Go.RowKit
theorem Fq {ρ : List (Nat × Nat)} {a b : Nat} (h : (a, b) ∈ ρ) : Conv ρ (.mp a) (.mp b) := fun _ _ _ _ _ _ hre ⟨k, e, hk⟩ => ⟨k, e, hre.some _ h k hk⟩
def Hs {α : Type} (E : El α) : VT (List α) := ⟨fun xs => Ty.sl E xs, fun _ => ⟨rfl, rfl⟩⟩
section
variable {A : As}
theorem JV {α : Type} {E : El α} {T J : Nat} {xs : List α} {w : World} {M : bB} {v : Value} (wf : Wf w M) (h : Gg E T J xs w M v) : nK E xs w (eN M J) v := by
 rcases h with ⟨rfl, rfl⟩ | ⟨g, off, c, cur, rfl, hg, hh, h1, h2, h3, h4⟩
 ·exact ⟨none, 0, rfl, Nat.le_refl _, by simp [maxLen], fun h => absurd h (by simp)⟩
 refine ⟨_, c, rfl, h1, h2, fun h0 => ⟨g, off, rfl, by simp [eN, hg], wf.lt g _ hg, fun i t hi => ?_⟩⟩
 obtain ⟨u, hu, hdu⟩ := dc h4 i t hi
 refine ⟨u, ?_, t.mono (jd (w := w)) ?_ (fun _ _ h => by cases h) hdu⟩
 ·have hlt : i < xs.length * E.size := by
   have := (List.getElem?_eq_some_iff.1 hu).1
   rw [List.length_take] at this; omega
  rw [List.getElem?_take, if_pos hlt, List.getElem?_drop] at hu
  simpa [World.cell?, hh] using hu
 intro u hu
 have : u ∈ cN (xs.flatMap E.tys) := List.mem_flatMap.2 ⟨t, List.mem_of_getElem? hi, hu⟩
 rw [E.dM] at this; cases this
theorem I1 {κ α : Type} [DecidableEq κ] {enc : κ → Value} {E : El α} {T J m : Nat} {q : List (κ × List α)} (hc : A.tag m = some (.mr enc E T J q)) (hne : Nat.beq m J = false) : Kg A J (m, .mp enc (Hs E) q) := fun w M wf ht => by
  obtain ⟨_, b, es, clock, h1, h2, h3, h4, _⟩ := ht _ (dB hc)
  have hmj : m ≠ J := fun h => by subst h; simp at hne
  refine ⟨b, by simp [eN, h1, hmj], es, clock, h2, h3, ?_⟩
  have key : ∀ (l : List (κ × List α)) (vs : List Value), cV w M (l.map fun x => Ty.iX E T J x.2) vs → cV w (eN M J) (l.map fun x => (Hs E).ty x.2) vs := by
    intro l
    induction l with
    | nil => intro vs h; cases vs with | nil => trivial | cons => cases h
    | cons x l ih =>
      intro vs h
      cases vs with
      | nil => cases h
      | cons v vs => exact ⟨JV wf h.1, ih vs h.2⟩
  exact key q _ h4
theorem jU {L : List Nat} {l1 l2 : List Ty} (h1 : cN l1 = []) (h2 : bw l1 = []) : rH A L (.pp (l1 ++ l2)) (.pp l1) := fun w M v _ _ ⟨b, off, e, m1, m2, m3⟩ => by
 refine ⟨b, off, e, jg m1, m2, fun i t hi => ?_⟩
 have hl : i < l1.length := (List.getElem?_eq_some_iff.1 hi).1
 obtain ⟨x, hx, hd⟩ := m3 i t (by rw [List.getElem?_append_left hl]; exact hi)
 refine ⟨x, hx, t.mono (S := fun _ => True) (K := fun _ => True) ⟨Nat.le_refl _, rfl, rfl, rfl, fun b _ hm => ⟨jg hm, rfl⟩, fun b t _ h => absurd trivial h⟩ ?_ ?_ hd⟩
 ·intro u hu
  have : u ∈ cN l1 := List.mem_flatMap.2 ⟨t, List.mem_of_getElem? hi, hu⟩
  rw [h1] at this; cases this
 intro u hu
 have : u ∈ bw l1 := List.mem_flatMap.2 ⟨t, List.mem_of_getElem? hi, hu⟩
 rw [h2] at this; cases this
theorem E9 {L : List Nat} {i : Nat} {t : Ty} : ∀ {l l' : List Ty}, nV A L l l' → l'[i]? = some t → ∃ s, l[i]? = some s ∧ rH A L s t := by
  induction i with
  | zero =>
    intro l l' h e
    match l, l', h with
    | [], [], _ => cases e
    | s :: _, t' :: _, h => injection e with e; subst e; exact ⟨s, rfl, h.1⟩
  | succ i ih =>
    intro l l' h e
    match l, l', h with
    | [], [], _ => cases e
    | _ :: l, _ :: l', h => exact ih (l := l) (l' := l') h.2 e
theorem jm {L : List Nat} {l l' : List Ty} (h : nV A L l l') : rH A L (.pp l) (.pp l') := fun w M v wf ht ⟨b, off, e, m1, m2, m3⟩ => by
 refine ⟨b, off, e, jg m1, m2, fun i t hi => ?_⟩
 obtain ⟨s, h1, h2⟩ := E9 h hi
 obtain ⟨x, hx, hd⟩ := m3 i s h1
 exact ⟨x, hx, h2 w M x wf ht hd⟩
end
section
variable {P : Program} {fr : Fr} {A : As} {c : Code} {Q : Exit → Act → World → Prop}
theorem Lt {α : Type} {E : El α} {T J tg s : Nat} {xs : List α} (hs : Nat.blt s fr.n = true) (hc : A.slots s = .row E T tg xs) (h1 : gI tg) (hJ : 4096 ≤ J) (hp : fr.pass.contains tg = false)
    (h : fV P fr c ⟨fun i => bif Nat.beq i s then .iX E T J xs else gZ [] [tg] A.slots i, mo [] [tg] A.tags⟩ Q) : fV P fr c A Q := fun a w ⟨M, ok, hsl, ht⟩ => by
  have le : Le (· ∈ ([] : List Nat)) (· ∈ [tg]) w M w (sP M tg J) := Al
  refine h a w ⟨sP M tg J, ⟨GJ hJ ok.wf, Fr.jc ok.base (by intro _ h; cases h) (fun t ht => by simp only [List.mem_singleton] at ht; subst ht; exact ⟨h1.1, by simpa using hp⟩) le, ok.size, ok.defers.step (by intro _ h; cases h) (fun t ht => by simp only [List.mem_singleton] at ht; subst ht; exact h1.1) le⟩, fun i hi => ?_, fun x hx => ?_⟩
  · cases hb : Nat.beq i s with
    | false =>
      simp only [hb, cond_false]
      rcases ff [] [tg] A.slots i with ⟨e, hdj⟩ | ⟨_, e⟩
      · rw [e]; exact (A.slots i).mono le (fL hdj).1 (fL hdj).2 (hsl i hi)
      · rw [e]; trivial
    | true =>
      have his : i = s := Nat.eq_of_beq_eq_true hb
      subst his
      simp only [hb, cond_true]
      have hd := hsl i hi
      rw [hc] at hd
      obtain ⟨vs, hown, hcs, hM⟩ := hd
      rcases hown.2 with ⟨ez, h0⟩ | ⟨g, cap, cur, ez, _, hh, hnc, hcap, hsz, htk⟩
      · exact .inl ⟨List.length_eq_zero_iff.1 h0, ez⟩
      · have hg : M g = some tg := hM g (by rw [ez]; rfl)
        refine .inr ⟨g, 0, cap, cur, ez, by simp [sP, hg], hh, hnc, hcap, by omega, ?_⟩
        rw [List.drop_zero, htk]
        exact cI (Al (w := w)) (by rw [E.dM]; intro _ h; cases h) (by rw [E.cv]; intro _ h; cases h) hcs
  · exact iW le hx fun y hy _ => ht y hy
end
end Go.T
namespace Go.Proofs.YtelbollidfdcjaaGreat
open Go Go.T
set_option maxHeartbeats 8000000
theorem four {vs : List Value} {n : Nat} (h : vs.length = n) (e : n = 4) : ∃ a b c d, vs = [a, b, c, d] := by
  subst e
  match vs, h with
  | [a, b, c, d], _ => exact ⟨a, b, c, d, rfl⟩
def Dn (y : ay) : List Ty := [Ty.int .i64 y.days, Ty.sl dr y.bins, Ty.sl dJ y.moves, Ty.sl dK y.levels, Ty.ex (.slice none 0 0), Ty.ex (.slice none 0 0)]
def MI (y : ay) (F A : Nat) (fl : List cB) (a : List Int) : List Ty := [Ty.int .i64 y.days, Ty.sl dr y.bins, Ty.sl dJ y.moves, Ty.sl dK y.levels, Ty.row dZ 187 F fl, Ty.row cy 3 A a]
theorem EG {fl : List cB} {k : Nat} (h : k < fl.length) : (fB fl).take k ++ [(nth fl k).lo] = (fB fl).take (k + 1) := by
 unfold fB; rw [← List.map_take, ← List.map_take, eG h, List.map_append]; rfl
theorem BA {y : ay} {fl : List cB} {α : Type} {f : cB → α} : [Ty.int .i64 y.days, Ty.sl dr y.bins, Ty.sl dJ y.moves, Ty.sl dK y.levels, Ty.row dZ 187 23 (fl.take (fl.map f).length), Ty.row cy 3 31 ((fB fl).take (fl.map f).length)] = MI y 23 31 fl (fB fl) := by
 rw [List.length_map, List.take_of_length_le (Nat.le_refl _), List.take_of_length_le (by unfold fB; rw [List.length_map]; exact Nat.le_refl _)]; rfl
def rZ (y : ay) (F A m n : Nat) : List Ty := [Ty.int .i64 y.days, Ty.sl dr y.bins, Ty.sl dJ y.moves, Ty.sl dK y.levels, Ty.vs F m, Ty.vs A n]
def dW (y : ay) (fl : List cB) (A n : Nat) : List Ty := [Ty.int .i64 y.days, Ty.sl dr y.bins, Ty.sl dJ y.moves, Ty.sl dK y.levels, Ty.sl dZ fl, Ty.vs A n]
def mJ (y : ay) (fl : List cB) (a : List Int) : List Ty := [Ty.int .i64 y.days, Ty.sl dr y.bins, Ty.sl dJ y.moves, Ty.sl dK y.levels, Ty.sl dZ fl, Ty.sl cy a]
theorem AE (fl : List cB) : (fB fl).length = fl.length := by unfold fB; rw [List.length_map]
theorem ig {y : ay} (hr : y.cU) {c : Nat → Bool} : (aK y c).length ≤ 34 := by
 have h1 := hr.bins; have h2 := hr.days; have h3 := D_eq hr; have h4 := hr.moves
 have := Nat.mul_le_mul (show y.bins.length ≤ 4 by omega) (show y.D + 1 ≤ 6 by omega)
 rw [fG]; omega
attribute [local irreducible] aK fB
attribute [local irreducible] ir fj nK qW jL jQ jI jN jJ q3 jR qd eI gu qj gx qy nth fV dm ak eB bodyPost Exit.then Exit.inBlock Code.wp Code.wpIn qg jT qZ q6 jM eR cm cq bodyPostM eM
set_option maxRecDepth 100000 in
theorem HA (y : ay) (c8 : List Bool) (hc8 : c8.length = 8) : eR Tryz.prog 173 [1000] [(1000, Cont.cells 185 (Dn y))] [Ty.ptr 1000 0, Ty.arr jA c8] [(1000, Cont.cells 185 (Dn y))] (Ty.jz 196 [Ty.pp [Ty.ptr 1000 0], Ty.pa jA c8 0]) := by
 refine dw Tryz.func173 rfl (by decide) Tryz.ntmps173 (by exact Nat.le_of_ble_eq_true rfl) fun w0 M0 => ?_
 refine aG (aA ?_)
 refine gY (ty := Ty.ptr 1000 0) rfl rfl ?_
 refine tR rfl (nC rfl (aD (aC (aG (aA (dS rfl (Nd rfl (aD (aC ?_)))))))))
 refine bE ?_
 refine gL [1000] rfl rfl (by decide) (by repeat (first | exact fC | refine dy rfl (ah (by decide) rfl rfl rfl) ?_)) ?_
 all_goals skip
 all_goals exact fS (tV (aH (aH bK (aM rfl rfl)) (eW (aH bK (dN (by decide))))))
set_option maxRecDepth 100000 in
theorem r8 (y : ay) (hr : y.cU) (c8 : List Bool) (hc8 : c8.length = 8) : eR Tryz.prog 117 [] [] [fW y, Ty.arr jA c8] [(23, Cont.vec dZ 187 (aK y (nth c8))), (31, Cont.vec cy 3 (fB (aK y (nth c8))))] (Ty.pp (rZ y 23 31 (aK y (nth c8)).length (aK y (nth c8)).length)) := by
 refine q5 Tryz.func117 rfl (by decide) Tryz.ntmps117 (by exact Nat.le_of_ble_eq_true rfl) fun w0 M0 => ?_
 have hfl := ig (c := nth c8) hr
 refine aG (aA (bR rfl (tR rfl (nC rfl (aD (aC (aG (aA ?_))))))))
 refine aZ rfl rfl rfl (by exact Nat.le_of_ble_eq_true rfl) ?_
 refine dD rfl rfl (by exact List.cons_ne_nil _ _) rfl (by repeat (first | exact (aY.nil : aY _ _ [] _) | (show aY _ _ ((_, _) :: _) _; apply aY.agg; (· exact (rfl : _ = Ty.agg _))))) (by exact rfl) ?_
 refine sY rfl rfl rfl ?_
 refine cE rfl (by exact List.cons_ne_nil _ _) rfl ?_
 refine cw rfl rfl (by decide) rfl rfl (by exact (rfl : _ = Ty.ptr _ _)) rfl (by exact Nat.le_of_ble_eq_true rfl) rfl rfl (by exact (rfl : _ = [_])) ?_
 refine aD (aC (aG (aG (aA ?_))))
 refine aU rfl rfl (by decide) rfl rfl rfl ?_
 refine w8 rfl rfl rfl (by rw [hc8]; rfl) ?_
 refine bu (res' := Ty.jz 196 [Ty.pp [Ty.ptr 10 0], Ty.pa jA c8 0]) [(10, 1000)] [] [(10, Cont.cells 185 (Dn y))] (HA y c8 hc8) rfl rfl (aH (aH bK (aM rfl rfl)) (dN (by exact List.mem_cons_self))) (bq (a := 10) (b := 1000) (by exact List.mem_cons_self) rfl (ah (by exact List.mem_cons_self) rfl rfl rfl) pre_nil) (bG (a := 10) (b := 1000) (by exact List.mem_cons_self) rfl (ah (by exact List.mem_cons_self) rfl rfl rfl) post_nil) (tV (aH (aH bK (aM rfl rfl)) (eW (aH bK (dN (by exact List.mem_cons_self)))))) ?_
 refine aD (aC ?_)
 refine HZ (D := 10) (Tb := 185) (tys := bZ y) (r := [Ty.ex (.slice none 0 0), Ty.ex (.slice none 0 0)]) rfl rfl rfl (by decide) fun vs hvs => ?_
 obtain ⟨v0, v1, v2, v3, rfl⟩ := four hvs rfl
 refine au ?_
 refine sE (ps := [13]) (lk [(5, Ty.ptr 6 0), (9, Ty.ptr 10 0)]) (fun k => [(6, Cont.cells 152 [Ty.ptr 10 0]), (10, Cont.cells 185 [Ty.ex v0, Ty.ex v1, Ty.ex v2, Ty.ex v3, Ty.row dZ 187 23 ((aK y (nth c8)).take k), Ty.row cy 3 31 ((fB (aK y (nth c8))).take k)]), (4000, Cont.fact (bZ y) [v0, v1, v2, v3] rfl rfl)]) false [] [6, 10, 4000] rfl rfl ((vA y hr c8 hc8 0 10 (by decide) [v0, v1, v2, v3]).1) (Ac (D := 10) (n := 36) (sd := 9) (r := fun k => [Ty.row dZ 187 23 ((aK y (nth c8)).take k), Ty.row cy 3 31 ((fB (aK y (nth c8))).take k)]) (fun b => vA y hr c8 hc8 b 10 (by decide) [v0, v1, v2, v3]) (by decide) (by decide) rfl (fun k => List.mem_cons_of_mem _ List.mem_cons_self) (List.mem_cons_of_mem _ (List.mem_cons_of_mem _ List.mem_cons_self))) (vB rfl) (vB rfl) (by decide) (by intro t ht; obtain ⟨x, _, rfl⟩ := List.mem_map.1 ht; exact ⟨rfl, rfl, rfl⟩) rfl rfl (fun _ => rfl) rfl ?_ ?_ ?_ (by intro h; cases h)
 ·(refine dG.mk' ?_ ?_ <;> (repeat' (first | exact aI | exact aJ | exact cT | refine aB ?_ (Ty.aT _) | refine aB ?_ (Ty.aE _) | refine aF rfl (Cont.aE _) ?_ | refine aF rfl (Cont.cS ?_) ?_ | refine bM ?_ (Ty.aE _) | refine bM ?_ Ty.lI)))
  all_goals trace_state
 ·intro k tys hk
  obtain ⟨hk1, rfl⟩ := DU hk
  refine ⟨live [(5, Ty.ptr 6 0), (6, Ty.ptr 7 0), (9, Ty.ptr 10 0)] [(6, Cont.cells 152 [Ty.ptr 10 0]), (7, Cont.cells 187 (dZ.tys (nth (aK y (nth c8)) k))), (10, Cont.cells 185 [Ty.ex v0, Ty.ex v1, Ty.ex v2, Ty.ex v3, Ty.row dZ 187 23 ((aK y (nth c8)).take k), Ty.row cy 3 31 ((fB (aK y (nth c8))).take k)]), (4000, Cont.fact (bZ y) [v0, v1, v2, v3] rfl rfl)], fun l w M => ?_, fun l w M => ?_⟩
  ·
   refine aA ?_
   refine cE rfl (by exact List.cons_ne_nil _ _) rfl ?_
   refine b8 rfl rfl (by decide) rfl rfl rfl rfl rfl rfl ?_
   refine aD (ew ?_)
   (refine dG.mk' ?_ ?_ <;> (repeat' (first | exact aI | exact aJ | refine aB ?_ (Ty.aT _) | refine aB ?_ (Ty.aE _) | refine aF rfl (Cont.aE _) ?_)))
  refine au ?_
  refine vG (D := 10) (Tb := 185) (tg := 23) [Ty.ex v0, Ty.ex v1, Ty.ex v2, Ty.ex v3] rfl fun v4 => ?_
  refine vG (D := 10) (Tb := 185) (tg := 31) [Ty.ex v0, Ty.ex v1, Ty.ex v2, Ty.ex v3, Ty.ex v4] rfl fun v5 => ?_
  refine cZ mixed rfl ?_
  refine aU rfl rfl (by decide) rfl rfl rfl ?_
  refine aU rfl rfl (by decide) rfl rfl rfl ?_
  refine aU rfl rfl (by decide) rfl rfl rfl ?_
  refine cC rfl ?_
  refine aN rfl rfl rfl rfl rfl (by decide) ?_
  refine aU rfl rfl (by decide) rfl rfl rfl ?_
  refine bh rfl rfl (by decide) rfl rfl (by exact Nat.le_of_ble_eq_true rfl) ?_
  refine bt (E := dZ) (xs := [_]) rfl rfl rfl rfl rfl (by decide) (by decide) (by repeat (first | exact (aY.nil : aY _ _ [] _) | (show aY _ _ ((_, _) :: _) _; apply aY.agg; (· exact (rfl : _ = Ty.agg _))))) (by exact rfl) rfl ?_
  refine p4 (tg := 23) rfl rfl rfl rfl (by decide) rfl rfl rfl rfl rfl rfl (by decide) (by (simp <;> omega)) (by (simp <;> omega)) rfl rfl ?_
  refine aU rfl rfl (by decide) rfl rfl rfl ?_
  refine cC rfl ?_
  refine aN rfl rfl rfl rfl rfl (by decide) ?_
  refine aU rfl rfl (by decide) rfl rfl rfl ?_
  refine aN rfl rfl rfl rfl rfl (by decide) ?_
  refine aU rfl rfl (by decide) rfl rfl rfl ?_
  refine bt (E := cy) (xs := [_]) rfl rfl rfl rfl rfl (by decide) (by decide) (by repeat (first | exact (aY.nil : aY _ _ [] _) | (show aY _ _ ((_, _) :: _) _; apply aY.one; (· exact (rfl : _ = Ty.int _ _)); (· exact rfl)))) (by exact rfl) rfl ?_
  refine p4 (tg := 31) rfl rfl rfl rfl (by decide) rfl rfl rfl rfl rfl rfl (by decide) (by (simp <;> omega)) (by (simp <;> omega)) rfl rfl ?_
  refine cC rfl ?_
  refine aN rfl rfl rfl rfl rfl (by decide) ?_
  refine cw rfl rfl (by decide) rfl rfl (by exact (rfl : _ = Ty.row _ _ _ _)) rfl (by exact Nat.le_of_ble_eq_true rfl) rfl rfl (by exact rfl) ?_
  refine cC rfl ?_
  refine aN rfl rfl rfl rfl rfl (by decide) ?_
  refine cw rfl rfl (by decide) rfl rfl (by exact (rfl : _ = Ty.row _ _ _ _)) rfl (by exact Nat.le_of_ble_eq_true rfl) rfl rfl (by exact rfl) ?_
  refine aD ?_
  refine ⟨by kernel_rfl, ?_⟩
  refine bV (B1 ?_)
  (refine dG.mk' ?_ ?_ <;> (repeat' (first | exact aI | exact aJ | exact cT | refine aB ?_ (Ty.aT _) | refine aF rfl (Cont.aE _) ?_ | refine aF rfl (Cont.cS ?_) ?_ | refine bM ?_ (Ty.aE _) | refine bM ?_ ?_)))
  all_goals first | exact Ty.eU (eG hk1).symm | exact Ty.eU (EG hk1)
 refine bV (aC (aG ?_))
 refine Ap (D := 10) (Tb := 185) (vs := [v0, v1, v2, v3]) (tys := bZ y) (r := [Ty.row dZ 187 23 ((aK y (nth c8)).take ((aK y (nth c8)).map jv).length), Ty.row cy 3 31 ((fB (aK y (nth c8))).take ((aK y (nth c8)).map jv).length)]) rfl rfl ?_
 refine gT (tg := 10) rfl (Cont.mz (T := 185) (BA (y := y) (fl := aK y (nth c8)) (f := jv))) ?_
 refine lK (c0 := 10) (tg := 23) 4 rfl rfl ?_
 refine lK (c0 := 10) (tg := 31) 5 rfl rfl ?_
 refine gT (tg := 10) rfl (Cont.eA (l' := rZ y 23 31 (aK y (nth c8)).length (aK y (nth c8)).length) ⟨Ty.aE _, Ty.aE _, Ty.aE _, Ty.aE _, Ty.vS rfl, Ty.vS (AE _), trivial⟩) ?_
 refine nN (tg := 10) [] [(6, Cont.cells 152 [Ty.pp (rZ y 23 31 (aK y (nth c8)).length (aK y (nth c8)).length)])] (by decide) rfl trivial ⟨iP rfl rfl ⟨xx rfl rfl (by decide), trivial⟩, trivial⟩ ?_
 refine aA ?_
 refine aU rfl rfl (by decide) rfl rfl rfl ?_
 refine Ia rfl (aD (aC (bE (Fy rfl ?_))))
 refine gL [23, 31] rfl rfl (by decide) (by repeat (first | exact fC | refine dy rfl (cA (by decide) rfl) ?_)) ?_
 all_goals skip
 all_goals exact fS (eW (aH (aH (aH (aH (aH (aH bK (eF (by decide))) (eF (by decide))) (aM rfl rfl)) (aM rfl rfl)) (aM rfl rfl)) (aM rfl rfl)))
end Go.Proofs.YtelbollidfdcjaaGreat
namespace Go.Proofs.YtelbollidfdcjaaGreat
open Go Go.T
section
variable {fl : List cB} {a : List Int} {n k : Nat} {c : Int} {w : Way}
abbrev WQ : Type := List (Int × List Way)
def oI (q : WQ) (c : Int) : List Way := (eT q c).getD []
def E4 (q : WQ) (c : Int) (w : Way) : WQ := gm q c (oI q c ++ [w])
theorem Bi (q : WQ) (c c' : Int) (w : Way) : oI (E4 q c w) c' = oI q c' ++ (if c = c' then [w] else []) := by
 unfold E4
 show (eT (gm _ _ _) c').getD [] = _
 rw [ym]
 by_cases e : c = c'
 ·subst e; rw [if_pos rfl, if_pos rfl]; rfl
 rw [if_neg e, if_neg e, List.append_nil]; rfl
def mg (fl : List cB) (a : List Int) (q : WQ) (k : Nat) : WQ := if nth a k < (nth fl k).hi then E4 q (nth fl k).src ⟨k, true⟩ else q
def eP (fl : List cB) (a : List Int) : Nat → WQ
  | 0 => []
  | k + 1 => if nth a k > (nth fl k).lo then E4 (mg fl a (eP fl a k) k) (nth fl k).dst ⟨k, false⟩ else mg fl a (eP fl a k) k
theorem Eg (fl : List cB) (a : List Int) : ([] : WQ) = eP fl a 0 := rfl
theorem Hv {q : WQ} (h : ¬ nth a k < (nth fl k).hi) : q = mg fl a q k := (if_neg h).symm
theorem Fo (h : ¬ nth a k > (nth fl k).lo) : mg fl a (eP fl a k) k = eP fl a (k + 1) := (if_neg h).symm
theorem sS {q : WQ} : oI (mg fl a q k) c = oI q c ++ (if nth a k < (nth fl k).hi ∧ (nth fl k).src = c then [⟨k, true⟩] else []) := by
 unfold mg
 by_cases h : nth a k < (nth fl k).hi
 ·rw [if_pos h, Bi]
  by_cases e : (nth fl k).src = c
  ·rw [if_pos e, if_pos ⟨h, e⟩]
  rw [if_neg e, if_neg fun h => e h.2]
 rw [if_neg h, if_neg fun h' => h h'.1, List.append_nil]
theorem tB : ∀ k, oI (eP fl a k) c = (List.range k).flatMap (B4 fl a c)
  | 0 => rfl
  | k + 1 => by
    rw [List.range_succ, List.flatMap_append, List.flatMap_singleton, ← tB k]
    show oI (if _ then _ else _) c = _
    unfold B4
    by_cases h : nth a k > (nth fl k).lo
    · rw [if_pos h, Bi, sS, List.append_assoc]
      congr 2
      by_cases e : (nth fl k).dst = c
      · rw [if_pos e, if_pos ⟨h, e⟩]
      · rw [if_neg e, if_neg fun h => e h.2]
    · rw [if_neg h, sS, if_neg (c := _ ∧ (nth fl k).dst = c) (fun h' => h h'.1), List.append_nil]
theorem rN : oI (eP fl a fl.length) c = bQ fl a c := tB _
theorem yl (k : Nat) : (oI (eP fl a k) c).length ≤ 2 * k := by
  rw [tB]
  have key : ∀ n, ((List.range n).flatMap (B4 fl a c)).length ≤ 2 * n := by
    intro n
    induction n with
    | zero => simp
    | succ n ih => rw [List.range_succ, List.flatMap_append, List.length_append, List.flatMap_singleton]; have := Ar (fl := fl) (a := a) (c := c) n; omega
  exact key k
theorem Ef : (oI (mg fl a (eP fl a k) k) c).length ≤ 2 * k + 1 := by
 rw [sS, List.length_append]
 have := yl (fl := fl) (a := a) (c := c) k
 split <;> simp <;> omega
def oR (fl : List cB) (a : List Int) (k : Nat) (c : Int) : Int := dH (fun i => (ind ((nth fl i).dst = c) - ind ((nth fl i).src = c)) * nth a i) k
def eY (fl : List cB) (a : List Int) (n k : Nat) : List Int := (List.range n).map fun c => oR fl a k (c : Nat)
theorem kF : (eY fl a n k).length = n := by unfold eY; rw [List.length_map, List.length_range]
theorem jO {c : Nat} (h : c < n) : nth (eY fl a n k) c = oR fl a k c := lO _ h
theorem DA : eY fl a n fl.length = gM fl a n := rfl
theorem A2 {l l' : List Int} (h : l.length = l'.length) (h' : ∀ i, i < l.length → nth l i = nth l' i) : l = l' := by
 refine List.ext_getElem h fun i h1 h2 => ?_
 have := h' i h1
 unfold nth at this
 rw [List.getD_eq_getElem?_getD, List.getD_eq_getElem?_getD, List.getElem?_eq_getElem h1, List.getElem?_eq_getElem h2] at this
 exact this
def oC (fl : List cB) (a : List Int) (l : List Int) (k : Nat) : List Int := l.set (nth fl k).src.toNat (nth l (nth fl k).src.toNat - nth a k)
theorem Be (hs : 0 ≤ (nth fl k).src ∧ (nth fl k).src < n) (hd : 0 ≤ (nth fl k).dst ∧ (nth fl k).dst < n) :
 (oC fl a (eY fl a n k) k).set (nth fl k).dst.toNat (nth (oC fl a (eY fl a n k) k) (nth fl k).dst.toNat + nth a k) = eY fl a n (k + 1) := by
 have hS : ∀ c, c < n → nth (oC fl a (eY fl a n k) k) c = oR fl a k c - ind ((nth fl k).src = (c : Int)) * nth a k := fun c hc => by
  unfold oC
  rw [iL (by rw [kF]; exact hc)]
  by_cases e : (nth fl k).src.toNat = c
  ·rw [if_pos e, e, jO hc, fO (by omega), Int.one_mul]
  rw [if_neg e, jO hc, fK (by omega), Int.zero_mul, Int.sub_zero]
 have hl : (oC fl a (eY fl a n k) k).length = n := by unfold oC; rw [List.length_set, kF]
 refine A2 (by rw [List.length_set, hl, kF]) fun c hc => ?_
 rw [List.length_set, hl] at hc
 rw [iL (by rw [hl]; exact hc), jO hc]
 show _ = oR fl a k c + (ind ((nth fl k).dst = (c : Int)) - ind ((nth fl k).src = (c : Int))) * nth a k
 rw [Int.sub_mul]
 by_cases e : (nth fl k).dst.toNat = c
 ·rw [if_pos e, e, hS c hc, fO (p := (nth fl k).dst = (c : Int)) (by omega), Int.one_mul]; omega
 rw [if_neg e, hS c hc, fK (p := (nth fl k).dst = (c : Int)) (by omega), Int.zero_mul]; omega
theorem ER (fl : List cB) (a l : List Int) (k : Nat) : (oC fl a l k).length = l.length := List.length_set
theorem FV (fl : List cB) (a : List Int) (n : Nat) : List.replicate (((n : Nat) : Int)).toNat 0 = eY fl a n 0 := by
 rw [Int.toNat_natCast]
 refine A2 (by rw [List.length_replicate, kF]) fun i hi => ?_
 rw [List.length_replicate] at hi
 rw [jO hi, zq _ _ _ hi]; rfl
theorem Ew {c : Nat} (h : ∀ c : Int, -(300 * (k : Int)) ≤ oR fl a k c ∧ oR fl a k c ≤ 300 * k) (ha : 0 ≤ nth a k ∧ nth a k ≤ 300) (hc : c < n) (hs : (nth fl k).src.toNat < n) : -(300 * (k : Int) + 300) ≤ nth (oC fl a (eY fl a n k) k) c ∧ nth (oC fl a (eY fl a n k) k) c ≤ 300 * k := by
 unfold oC
 rw [iL (by rw [kF]; exact hc)]
 split
 ·rw [jO hs]; have := h ((nth fl k).src.toNat : Nat); omega
 rw [jO hc]; have := h (c : Nat); omega
theorem xW (ha : ∀ i, i < k → 0 ≤ nth a i ∧ nth a i ≤ 300) : -(300 * (k : Int)) ≤ oR fl a k c ∧ oR fl a k c ≤ 300 * k := by
 refine rB (b := 300) fun i hi => ?_
 have := ha i hi
 unfold ind
 split <;> split <;> simp <;> omega
end
end Go.Proofs.YtelbollidfdcjaaGreat
namespace Go.Proofs.YtelbollidfdcjaaGreat
open Go Go.T
set_option maxHeartbeats 8000000
section
variable {fl : List cB} {a : List Int} {n : Nat} {w : Way}
theorem Jc (h : w.more = true) : (nth fl w.ix).src = w.gb fl := (if_pos h).symm
theorem LD (h : w.more = false) : (nth fl w.ix).dst = w.gb fl := (if_neg (by rw [h]; decide)).symm
theorem Dp (h : w.more = true) : (nth fl w.ix).dst = w.fin fl ∧ (nth fl w.ix).hi - nth a w.ix = w.room fl a := ⟨(if_pos h).symm, (if_pos h).symm⟩
theorem HL (h : w.more = false) : (nth fl w.ix).src = w.fin fl ∧ nth a w.ix - (nth fl w.ix).lo = w.room fl a := ⟨(if_neg (by rw [h]; decide)).symm, (if_neg (by rw [h]; decide)).symm⟩
structure lH (y : ay) (fl : List cB) (a : List Int) : Prop where
  right : y.cU
  net : Net fl (y.cells + 1)
  bd : Bd fl
  inb : xC fl a
  nJ : fl.length ≤ 34
theorem lH.LG {y : ay} (h : lH y fl a) {i : Nat} (hi : i < fl.length) : (0 ≤ nth a i ∧ nth a i ≤ 300) ∧ (0 ≤ (nth fl i).lo ∧ (nth fl i).lo ≤ 300) ∧ 0 ≤ (nth fl i).hi ∧ (nth fl i).hi ≤ 300 := by
 have h1 := h.bd i hi
 have h2 := h.inb.2 i hi
 omega
theorem Mn {l : List Way} {k : Nat} {d : Int} (hk : k < l.length) (hm : (nth l k).more = true) : (eC a (l.take k) d).set (nth l k).ix (nth (eC a (l.take k) d) (nth l k).ix + d) = eC a (l.take (k + 1)) d := by
 rw [eG hk, qw]; unfold lA xB; rw [hm]; rfl
theorem ML {l : List Way} {k : Nat} {d : Int} (hk : k < l.length) (hm : (nth l k).more = false) : (eC a (l.take k) d).set (nth l k).ix (nth (eC a (l.take k) d) (nth l k).ix - d) = eC a (l.take (k + 1)) d := by
 rw [eG hk, qw]; unfold lA xB; rw [hm]; rfl
theorem ya {l : List Way} {d : Int} (hd : 0 ≤ d ∧ d ≤ 20000) (ha : ∀ i, -300 ≤ nth a i ∧ nth a i ≤ 300) (hw : ∀ w ∈ l, w.ix < a.length) : ∀ k, k ≤ l.length → ∀ i, -(20000 * ((k : Int) + 1)) ≤ nth (eC a (l.take k) d) i ∧ nth (eC a (l.take k) d) i ≤ 20000 * ((k : Int) + 1)
  | 0, _, i => by rw [List.take_zero]; have := ha i; show _ ≤ nth a i ∧ nth a i ≤ _; omega
  | k + 1, hk, i => by
    have ih := ya hd ha hw k (by omega) i
    rw [eG (by omega), qw, kA (by rw [tM]; exact hw _ (cx (by omega)))]
    split
    · unfold xB; split <;> omega
    · omega
theorem Cu (a : List Int) (l : List Way) (d : Int) : a = eC a (l.take 0) d := rfl
theorem I7 {l : List Int} {i : Nat} (h : l.length ≤ i) : nth l i = 0 := by
 unfold nth; rw [List.getD_eq_getElem?_getD, List.getElem?_eq_none h]; rfl
theorem lH.abs {y : ay} (h : lH y fl a) (i : Nat) : -300 ≤ nth a i ∧ nth a i ≤ 300 := by
 by_cases c : i < fl.length
 ·have := (h.LG c).1; omega
 rw [I7 (by rw [h.inb.1]; omega)]; omega
end
theorem ni : mapOf Tryz.prog 227 = some (3, 222) := by kernel_rfl
theorem uf : zeroOf Tryz.prog 222 = some (.slice none 0 0) := by kernel_rfl
def KI : xF Tryz.prog 3 Int := LB Tryz.prog 3 .i64 Tryz.underlying3
theorem sJ (n : Int) : uD (Ty.int .i64 n) (KI.enc n) := Jo
attribute [local irreducible] aK fB Way.gb Way.fin Way.room eP mg E4 eC eY oR
attribute [local irreducible] ir fj nK qW jL jQ jI jN jJ q3 jR qd eI gu qj gx qy nth fV dm ak eB bodyPost Exit.then Exit.inBlock Code.wp Code.wpIn qg jT qZ q6 jM eR cm cq bodyPostM eM
set_option maxRecDepth 100000 in
theorem zI (y : ay) (fl : List cB) (a : List Int) (w : Way) (hw : w.ix < fl.length) : eB Tryz.prog 181 [Ty.pp (mJ y fl a), Ty.agg (fy.tys w)] (Ty.int .i64 (w.gb fl)) := by
 refine bC Tryz.func181 rfl (by decide) Tryz.ntmps181 (by exact Nat.le_of_ble_eq_true rfl) fun w0 M0 => ?_
 refine aG (aA (bR rfl (cJ rfl (aD (aC (aG (aG (aA ?_))))))))
 refine aR rfl rfl rfl rfl rfl (by decide) ?_
 refine aO rfl rfl rfl rfl (aD (aC ?_))
 refine ct rfl (fun hc1 => ?_) (fun hc1 => ?_)
 ·
  refine aG (cZ mixed rfl (jF rfl (b9 rfl ?_)))
  refine aR rfl rfl rfl rfl rfl (by decide) ?_
  refine aO rfl rfl rfl rfl ?_
  refine aR rfl rfl rfl rfl rfl (by decide) ?_
  refine aO rfl rfl rfl rfl ?_
  refine bf rfl rfl rfl rfl rfl rfl (by omega) ?_
  refine aR rfl rfl rfl rfl rfl (by decide) ?_
  refine aO rfl rfl rfl rfl (cJ rfl (aD ?_))
  refine ⟨by kernel_rfl, ?_⟩
  refine aC (bE (aW (bz rfl rfl ?_)))
  all_goals skip
  all_goals exact bH rfl rfl (congrArg (Ty.int .i64) (Jc hc1))
 refine aq (aC (aG (cZ mixed rfl (jF rfl (b9 rfl ?_)))))
 refine aR rfl rfl rfl rfl rfl (by decide) ?_
 refine aO rfl rfl rfl rfl ?_
 refine aR rfl rfl rfl rfl rfl (by decide) ?_
 refine aO rfl rfl rfl rfl ?_
 refine bf rfl rfl rfl rfl rfl rfl (by omega) ?_
 refine aR rfl rfl rfl rfl rfl (by decide) ?_
 refine aO rfl rfl rfl rfl (cJ rfl (aD ?_))
 refine ⟨by kernel_rfl, ?_⟩
 refine aC (bE (bz rfl rfl ?_))
 all_goals skip
 all_goals exact bH rfl rfl (congrArg (Ty.int .i64) (LD hc1))
set_option maxRecDepth 100000 in
theorem Du (y : ay) (fl : List cB) (a : List Int) (h : lH y fl a) (w : Way) (hw : w.ix < fl.length) : eB Tryz.prog 182 [Ty.pp (mJ y fl a), Ty.agg (fy.tys w)] (Ty.kH [Ty.int .i64 (w.fin fl), Ty.int .i64 (w.room fl a)]) := by
 refine bC Tryz.func182 rfl (by decide) Tryz.ntmps182 (by exact Nat.le_of_ble_eq_true rfl) fun w0 M0 => ?_
 have hl := h.inb.1
 have hb := h.LG hw
 refine aG (aA (bR rfl (cJ rfl (cJ rfl (aD (aC (aG (cZ mixed rfl (jF rfl ?_)))))))))
 refine b9 rfl ?_
 refine aR rfl rfl rfl rfl rfl (by decide) ?_
 refine aO rfl rfl rfl rfl ?_
 refine aR rfl rfl rfl rfl rfl (by decide) ?_
 refine aO rfl rfl rfl rfl ?_
 refine bf rfl rfl rfl rfl rfl rfl (by omega) ?_
 refine aZ rfl rfl rfl (by exact Nat.le_of_ble_eq_true rfl) ?_
 refine cE rfl (by exact List.cons_ne_nil _ _) rfl ?_
 refine b8 rfl rfl (by decide) rfl rfl rfl rfl rfl rfl ?_
 refine aD ?_
 refine ⟨by kernel_rfl, ?_⟩
 refine aC (aG (aG (aA ?_)))
 refine aR rfl rfl rfl rfl rfl (by decide) ?_
 refine aO rfl rfl rfl rfl (aD (aC ?_))
 refine ct rfl (fun hc1 => ?_) (fun hc1 => ?_)
 ·
  refine aG (cZ mixed rfl ?_)
  refine aN rfl rfl rfl rfl rfl (by decide) ?_
  refine aU rfl rfl (by decide) rfl rfl rfl ?_
  refine aN rfl rfl rfl rfl rfl (by decide) ?_
  refine aU rfl rfl (by decide) rfl rfl rfl ?_
  refine jF rfl (b9 rfl ?_)
  refine aR rfl rfl rfl rfl rfl (by decide) ?_
  refine aO rfl rfl rfl rfl ?_
  refine aR rfl rfl rfl rfl rfl (by decide) ?_
  refine aO rfl rfl rfl rfl ?_
  refine bf rfl rfl rfl rfl rfl rfl (by omega) ?_
  refine aO rfl rfl rfl rfl ?_
  refine iC rfl rfl (by omega) (by omega) ?_
  refine cJ rfl (cJ rfl (aD ?_))
  refine ⟨by kernel_rfl, ?_⟩
  refine aC (bE (aW ?_))
  refine fq rfl rfl rfl ?_ ?_
  all_goals skip
  all_goals first | exact bH rfl rfl (congrArg (Ty.int .i64) (Dp (a := a) hc1).1) | exact bH rfl rfl (congrArg (Ty.int .i64) (Dp (a := a) hc1).2)
 refine aq (aC (aG (cZ mixed rfl ?_)))
 refine aN rfl rfl rfl rfl rfl (by decide) ?_
 refine aU rfl rfl (by decide) rfl rfl rfl ?_
 refine jF rfl (b9 rfl ?_)
 refine aR rfl rfl rfl rfl rfl (by decide) ?_
 refine aO rfl rfl rfl rfl ?_
 refine aR rfl rfl rfl rfl rfl (by decide) ?_
 refine aO rfl rfl rfl rfl ?_
 refine bf rfl rfl rfl rfl rfl rfl (by omega) ?_
 refine aO rfl rfl rfl rfl ?_
 refine aN rfl rfl rfl rfl rfl (by decide) ?_
 refine aU rfl rfl (by decide) rfl rfl rfl ?_
 refine iC rfl rfl (by omega) (by omega) ?_
 refine cJ rfl (cJ rfl (aD ?_))
 refine ⟨by kernel_rfl, ?_⟩
 refine aC (bE ?_)
 refine fq rfl rfl rfl ?_ ?_
 all_goals skip
 all_goals first | exact bH rfl rfl (congrArg (Ty.int .i64) (HL (a := a) hc1).1) | exact bH rfl rfl (congrArg (Ty.int .i64) (HL (a := a) hc1).2)
set_option maxRecDepth 100000 in
theorem GZ (y : ay) (fl : List cB) (a : List Int) (h : lH y fl a) (l : List Way) (hl : l.length ≤ 100) (hw : ∀ w ∈ l, w.ix < fl.length) (d : Int) (hd : 0 ≤ d ∧ d ≤ 20000) : eR Tryz.prog 183 [1000] [(1000, Cont.vec cy 3 a)] [Ty.pp (dW y fl 1000 fl.length), Ty.sl fy l, Ty.int .i64 d] [(1000, Cont.vec cy 3 (eC a l d))] (Ty.kH []) := by
 refine dw Tryz.func183 rfl (by decide) Tryz.ntmps183 (by exact Nat.le_of_ble_eq_true rfl) fun w0 M0 => ?_
 have hal := h.inb.1
 refine aG (aA (gw rfl (dP rfl rfl rfl (bS rfl (aD (aC (au ?_)))))))
 refine cg (fun (k : {k : Nat // k ≤ l.length}) => live [(0, Ty.pp (dW y fl 1000 fl.length)), (2, Ty.int .i64 d), (8, Ty.sl fy l), (9, Ty.int .i64 l.length), (10, Ty.int .i64 (k.1 : Nat))] [(1000, Cont.vec cy 3 (eC a (l.take k.1) d))]) (fun k => l.length - k.1) (⟨0, by omega⟩) ?_ fun k => ?_
 ·(refine dG.mk' ?_ ?_ <;> (repeat' (first | exact aI | exact aJ | refine aB ?_ (Ty.aT _) | refine aB ?_ (Ty.aE _) | refine aF rfl ?_ ?_)))
  all_goals exact Cont.dn (Cu _ _ _)
 have hsl := tM d (l.take k.1) a
 have hk := k.2
 have hsa := ya hd h.abs (fun w hw' => by rw [hal]; exact hw w hw') k.1 k.2
 refine aG (aA (bJ rfl rfl rfl (aD (aC (aG ?_)))))
 refine aj rfl (fun hc1 => ?_) (fun hc1 => ?_)
 ·
  refine aq (aC (aG (au (aG ?_))))
  have hwk := hw _ (cx (xs := l) (k := k.1) (by omega))
  have hsk := hsa (nth l k.1).ix
  refine aA ?_
  refine bf rfl rfl rfl rfl rfl rfl (by omega) ?_
  refine aZ rfl rfl rfl (by exact Nat.le_of_ble_eq_true rfl) ?_
  refine cE rfl (by exact List.cons_ne_nil _ _) rfl ?_
  refine b8 rfl rfl (by decide) rfl rfl rfl rfl rfl rfl ?_
  refine aD (aC (aG (aA ?_)))
  refine aN rfl rfl rfl rfl rfl (by decide) ?_
  refine aU rfl rfl (by decide) rfl rfl rfl ?_
  refine aD (aC ?_)
  refine ct rfl (fun hc2 => ?_) (fun hc2 => ?_)
  ·
   refine cZ mixed rfl (jF rfl (b9 rfl ?_))
   refine aR rfl rfl rfl rfl rfl (by decide) ?_
   refine aO rfl rfl rfl rfl ?_
   refine aN rfl rfl rfl rfl rfl (by decide) ?_
   refine aU rfl rfl (by decide) rfl rfl rfl ?_
   refine eJ rfl rfl rfl rfl rfl (by omega) ?_
   refine eo rfl rfl rfl (by decide) rfl rfl (by omega) rfl ?_
   refine bS rfl ?_
   refine cD rfl rfl (by omega) (by omega) ?_
   refine eJ rfl rfl rfl rfl rfl (by omega) ?_
   refine iU rfl rfl rfl (by decide) rfl rfl (by exact (rfl : _ = Ty.int _ _)) rfl (by omega) (by decide) rfl rfl ?_
   refine aD ?_
   refine ⟨by kernel_rfl, ?_⟩
   refine bV (aC (aA ?_))
   refine cD rfl rfl (by omega) (by omega) ?_
   refine bS rfl (aD ?_)
   refine bk (⟨k.1 + 1, by omega⟩) ?_ (by show l.length - (k.1 + 1) < l.length - k.1; omega)
   (refine dG.mk' ?_ ?_ <;> (repeat' (first | exact aI | exact aJ | refine aB ?_ (Ty.aT _) | refine aB ?_ (Ty.aE _) | refine aF rfl ?_ ?_)))
   all_goals skip
   all_goals exact Cont.dn (Mn (by omega) hc2)
  refine cZ mixed rfl (jF rfl (b9 rfl ?_))
  refine aR rfl rfl rfl rfl rfl (by decide) ?_
  refine aO rfl rfl rfl rfl ?_
  refine aN rfl rfl rfl rfl rfl (by decide) ?_
  refine aU rfl rfl (by decide) rfl rfl rfl ?_
  refine eJ rfl rfl rfl rfl rfl (by omega) ?_
  refine eo rfl rfl rfl (by decide) rfl rfl (by omega) rfl ?_
  refine bS rfl ?_
  refine iC rfl rfl (by omega) (by omega) ?_
  refine eJ rfl rfl rfl rfl rfl (by omega) ?_
  refine iU rfl rfl rfl (by decide) rfl rfl (by exact (rfl : _ = Ty.int _ _)) rfl (by omega) (by decide) rfl rfl ?_
  refine aD ?_
  refine ⟨by kernel_rfl, ?_⟩
  refine bV (aC (aA ?_))
  refine cD rfl rfl (by omega) (by omega) ?_
  refine bS rfl (aD ?_)
  refine bk (⟨k.1 + 1, by omega⟩) ?_ (by show l.length - (k.1 + 1) < l.length - k.1; omega)
  (refine dG.mk' ?_ ?_ <;> (repeat' (first | exact aI | exact aJ | refine aB ?_ (Ty.aT _) | refine aB ?_ (Ty.aE _) | refine aF rfl ?_ ?_)))
  all_goals skip
  all_goals exact Cont.dn (ML (by omega) hc2)
 refine cj (aQ (aQ (av rfl (Mx ?_))))
 refine Lx [1000] rfl (by decide) ?_
 ·exact dy rfl (cA (by decide) (by rw [List.take_of_length_le (by have := k.2; omega)])) fC
set_option maxRecDepth 100000 in
theorem Ky (y : ay) (fl : List cB) (a : List Int) (h : lH y fl a) : eR Tryz.prog 178 [1000] [(1000, Cont.vec cy 3 a)] [Ty.pp (dW y fl 1000 fl.length)] [(1000, Cont.vec cy 3 a)] (Ty.sl cy (gM fl a (y.cells + 1))) := by
 refine dw Tryz.func178 rfl (by decide) Tryz.ntmps178 (by exact Nat.le_of_ble_eq_true rfl) fun w0 M0 => ?_
 have hal := h.inb.1
 have hcl := mj h.right
 have hfl := h.nJ
 refine aG (aA (nC rfl (aD (aC (aG (aA (jF rfl ?_)))))))
 refine dO [] (nU y h.right) rfl (aL (jU (l1 := bZ y) (l2 := [Ty.sl dZ fl, Ty.vs 1000 fl.length]) rfl rfl) bU) (by exact dA _ _) ?_
 refine cD rfl rfl (by omega) (by omega) ?_
 refine zL (E := cy) (x0 := 0) rfl rfl rfl rfl rfl rfl rfl (by decide) rfl (by omega) (by (dsimp only; omega)) (by omega) ?_
 refine NK rfl (aD (aC (aG (aG (aA (jF rfl (b9 rfl ?_)))))))
 refine aR rfl rfl rfl rfl rfl (by decide) ?_
 refine aO rfl rfl rfl rfl (dP rfl rfl rfl (bS rfl (aD (aC (au ?_)))))
 refine cg (fun (k : {k : Nat // k ≤ fl.length}) => live [(0, Ty.pp (dW y fl 1000 fl.length)), (3, Ty.vs 10 (y.cells + 1)), (13, Ty.sl dZ fl), (14, Ty.int .i64 fl.length), (15, Ty.int .i64 (k.1 : Nat))] [(1000, Cont.vec cy 3 a), (10, Cont.vec cy 3 (eY fl a (y.cells + 1) k.1))]) (fun k => fl.length - k.1) (⟨0, by omega⟩) ?_ fun k => ?_
 ·(refine dG.mk' ?_ ?_ <;> (repeat' (first | exact aI | exact aJ | refine aB ?_ (Ty.aT _) | refine aB ?_ (Ty.aE _) | refine aF rfl (Cont.aE _) ?_ | refine aF rfl ?_ ?_)))
  all_goals exact Cont.dn (FV _ _ _)
 have hk := k.2
 have hul := kF (fl := fl) (a := a) (n := y.cells + 1) (k := k.1)
 refine aG (aA (bJ rfl rfl rfl (aD (aC (aG ?_)))))
 refine aj rfl (fun hc1 => ?_) (fun hc1 => ?_)
 ·
  refine aq (aC (aG (au (aG (aA (bS rfl ?_))))))
  refine bf rfl rfl rfl rfl rfl rfl (by omega) ?_
  refine aZ rfl rfl rfl (by exact Nat.le_of_ble_eq_true rfl) ?_
  refine cE rfl (by exact List.cons_ne_nil _ _) rfl ?_
  refine cJ rfl ?_
  refine b8 rfl rfl (by decide) rfl rfl rfl rfl rfl rfl ?_
  refine aD (aC (aG ?_))
  have hs := h.net.src k.1 (by omega)
  have hd := h.net.dst k.1 (by omega)
  have hamt := (h.LG (show k.1 < fl.length by omega)).1
  have habs := fun c => xW (fl := fl) (a := a) (c := c) (k := k.1) fun i hi => (h.LG (show i < fl.length by omega)).1
  have hn1 := jO (fl := fl) (a := a) (n := y.cells + 1) (k := k.1) (c := (nth fl k.1).src.toNat) (by omega)
  have hb1 := habs ((nth fl k.1).src.toNat : Nat)
  refine cZ mixed rfl (IY rfl ?_)
  refine aN rfl rfl rfl rfl rfl (by decide) ?_
  refine aU rfl rfl (by decide) rfl rfl rfl ?_
  refine gC rfl rfl rfl rfl rfl hs.1 (by omega) ?_
  refine eo rfl rfl rfl (by decide) rfl rfl (by omega) rfl ?_
  refine jF rfl (b9 rfl ?_)
  refine aR rfl rfl rfl rfl rfl (by decide) ?_
  refine aO rfl rfl rfl rfl (bS rfl ?_)
  refine eJ rfl rfl rfl rfl rfl (by omega) ?_
  refine eo rfl rfl rfl (by decide) rfl rfl (by omega) rfl ?_
  refine iC rfl rfl (by omega) (by omega) ?_
  refine gC rfl rfl rfl rfl rfl hs.1 (by omega) ?_
  refine iU rfl rfl rfl (by decide) rfl rfl (by exact (rfl : _ = Ty.int _ _)) rfl (by omega) (by decide) rfl rfl ?_
  refine aD ?_
  refine ⟨by kernel_rfl, ?_⟩
  refine aC ?_
  have hsl : (oC fl a (eY fl a (y.cells + 1) k.1) k.1).length = y.cells + 1 := (ER _ _ _ _).trans hul
  have hb2 := Ew (fl := fl) (a := a) (n := y.cells + 1) (k := k.1) (c := (nth fl k.1).dst.toNat) habs hamt (by omega) (by omega)
  unfold oC at hb2 hsl
  refine cZ mixed rfl (IY rfl ?_)
  refine aN rfl rfl rfl rfl rfl (by decide) ?_
  refine aU rfl rfl (by decide) rfl rfl rfl ?_
  refine gC rfl rfl rfl rfl rfl hd.1 (by omega) ?_
  refine eo rfl rfl rfl (by decide) rfl rfl (by omega) rfl ?_
  refine jF rfl (b9 rfl ?_)
  refine aR rfl rfl rfl rfl rfl (by decide) ?_
  refine aO rfl rfl rfl rfl (bS rfl ?_)
  refine eJ rfl rfl rfl rfl rfl (by omega) ?_
  refine eo rfl rfl rfl (by decide) rfl rfl (by omega) rfl ?_
  refine cD rfl rfl (by omega) (by omega) ?_
  refine gC rfl rfl rfl rfl rfl hd.1 (by omega) ?_
  refine iU rfl rfl rfl (by decide) rfl rfl (by exact (rfl : _ = Ty.int _ _)) rfl (by omega) (by decide) rfl rfl ?_
  refine aD ?_
  refine ⟨by kernel_rfl, ?_⟩
  refine bV (aC (aA ?_))
  refine cD rfl rfl (by omega) (by omega) ?_
  refine bS rfl (aD ?_)
  refine bk (⟨k.1 + 1, by omega⟩) ?_ (by show fl.length - (k.1 + 1) < fl.length - k.1; omega)
  (refine dG.mk' ?_ ?_ <;> (repeat' (first | exact aI | exact aJ | refine aB ?_ (Ty.aT _) | refine aB ?_ (Ty.aE _) | refine aF rfl (Cont.aE _) ?_ | refine aF rfl ?_ ?_)))
  all_goals skip
  all_goals exact Cont.dn (Be hs hd)
 refine cj (aQ (aQ (av rfl (aC (aG ?_)))))
 refine k6 (tg := 10) [(3, Ty.sl cy (eY fl a (y.cells + 1) k.1))] (by decide) rfl ⟨K7 rfl rfl hul (by decide), trivial⟩ ?_
 refine iF (s := 3) rfl (Ty.eV (show eY fl a (y.cells + 1) k.1 = gM fl a (y.cells + 1) by rw [show k.1 = fl.length by have := k.2; omega]; exact DA)) ?_
 refine aA (gw rfl (DP rfl (aD (aC (bE ?_)))))
 refine gL [1000] rfl rfl (by decide) (by repeat (first | exact fC | refine dy rfl (cA (by decide) rfl) ?_)) ?_
 all_goals exact fS (aM rfl rfl)
end Go.Proofs.YtelbollidfdcjaaGreat
namespace Go.Proofs.YtelbollidfdcjaaGreat
open Go Go.T
section
variable {fl : List cB} {a : List Int} {n : Nat} {s t : Int} {x : qa}
def eE (x : qa) : Int := nth x.queue 0
def jw (x : qa) : qa := ⟨x.by_, x.queue.drop 1⟩
theorem queue_eq (h : 0 < x.queue.length) : x.queue = eE x :: x.queue.drop 1 := by
  unfold eE
  cases hq : x.queue with
  | nil => rw [hq] at h; exact absurd h (by simp)
  | cons c r => rfl
structure Jp (fl : List cB) (a : List Int) (n : Nat) (s : Int) (x : qa) : Prop where
  inv : lX fl a n s x none
  same : mZ (vp fl a s) x = cF fl a s
  short : x.queue.length ≤ x.by_.length + 1
theorem NJ (hs : 0 ≤ s ∧ s < n) : Jp fl a n s ⟨[], [s]⟩ := ⟨KY hs, rfl, Nat.le_refl _⟩
theorem IV (h : 0 < x.queue.length) : vp fl a s x = .inl (fA fl a s (eE x) (jw x) (bQ fl a (eE x)).length) := by
 have e := queue_eq h
 unfold vp
 rw [e]; rfl
theorem Jp.fold (hN : Net fl n) (h : Jp fl a n s x) (hq : 0 < x.queue.length) {k : Nat} (hk : k ≤ (bQ fl a (eE x)).length) :
 (fA fl a s (eE x) (jw x) k).queue.length ≤ n ∧ (fA fl a s (eE x) (jw x) k).by_.length ≤ n ∧ (fA fl a s (eE x) (jw x) k).queue.length ≤ (fA fl a s (eE x) (jw x) k).by_.length := by
 have h1 := (h.inv.pop (queue_eq hq)).fold hN k hk
 have h2 := h1.nJ
 have h3 := wC (fl := fl) (a := a) (s := s) (c := eE x) (x := jw x) k hk
 have h4 := h.short
 have e1 : (jw x).queue.length + 1 = x.queue.length := by show (x.queue.drop 1).length + 1 = _; rw [List.length_drop]; omega
 have e2 : (jw x).by_ = x.by_ := rfl
 rw [e2] at h3
 change (fA fl a s (eE x) (jw x) k).by_.length ≤ n at h2
 omega
theorem Jp.next (hN : Net fl n) (h : Jp fl a n s x) (hq : 0 < x.queue.length) : Jp fl a n s (fA fl a s (eE x) (jw x) (bQ fl a (eE x)).length) ∧ Kf n (fA fl a s (eE x) (jw x) (bQ fl a (eE x)).length) < Kf n x := by
 obtain ⟨h1, h2⟩ := wU hN h.inv (queue_eq hq)
 exact ⟨⟨h1, by rw [← g8 (IV hq)]; exact h.same, by have := (h.fold hN hq (Nat.le_refl _)).2.2; omega⟩, h2⟩
theorem Jp.end (h : Jp fl a n s x) (hq : ¬ 0 < x.queue.length) : x.by_ = cF fl a s := by
 rw [← h.same]
 refine (iV ?_).symm
 unfold vp
 rw [List.length_eq_zero_iff.1 (show x.queue.length = 0 by omega)]
theorem yV {c : Int} {z : qa} {k : Nat} (hk : k < (bQ fl a c).length) (h : uZ fl s (fA fl a s c z k).by_ (nth (bQ fl a c) k) = true) :
 gm (fA fl a s c z k).by_ ((nth (bQ fl a c) k).fin fl) (nth (bQ fl a c) k) = (fA fl a s c z (k + 1)).by_ ∧ (fA fl a s c z k).queue ++ [(nth (bQ fl a c) k).fin fl] = (fA fl a s c z (k + 1)).queue := by
 rw [n6 hk, so h]; exact ⟨rfl, rfl⟩
theorem CD {c : Int} {z : qa} {k : Nat} (hk : k < (bQ fl a c).length) (h : uZ fl s (fA fl a s c z k).by_ (nth (bQ fl a c) k) = false) :
 (fA fl a s c z k).by_ = (fA fl a s c z (k + 1)).by_ ∧ (fA fl a s c z k).queue = (fA fl a s c z (k + 1)).queue := by
 rw [n6 hk, wG h]; exact ⟨rfl, rfl⟩
theorem wY {c : Int} {z : qa} : fA fl a s c z 0 = z := rfl
structure Hl (fl : List cB) (n : Nat) (a0 a : List Int) : Prop where
  inb : xC fl a
  same : mZ (D0 fl n) a = gE fl n a0
theorem Hl.done {a0 : List Int} (h : Hl fl n a0 a) (e : dY fl a n < 0) : gE fl n a0 = (0, false, a) := by
 rw [← h.same]; exact iV (if_pos e)
theorem Hl.stuck {a0 : List Int} (h : Hl fl n a0 a) (e : ¬ dY fl a n < 0) (e2 : eS fl a n (cF fl a (dY fl a n)) < 0) : gE fl n a0 = (dY fl a n, true, a) := by
 rw [← h.same]; exact iV ((if_neg e).trans (if_pos e2))
theorem Hl.next {a0 : List Int} (hN : Net fl n) (h : Hl fl n a0 a) (e : ¬ dY fl a n < 0) (e2 : ¬ eS fl a n (cF fl a (dY fl a n)) < 0) :
 Hl fl n a0 (jy fl a (dY fl a n) (eS fl a n (cF fl a (dY fl a n)))) ∧ M6 fl a n (dY fl a n) (eS fl a n (cF fl a (dY fl a n))) := by
 obtain ⟨s, s1, s2, s3⟩ := wB e
 obtain ⟨t, t1, t2, t3, t4⟩ := tN e2
 rw [s2] at t2 t3 ⊢
 rw [t2]
 have hS := sent hN h.inb s1 t1 s3 t3 t4
 refine ⟨⟨hS.inb, ?_⟩, hS⟩
 rw [← h.same]
 refine (g8 ?_).symm
 unfold D0
 rw [if_neg e, s2, if_neg (by rw [t2]; omega), t2]
structure J0 (fl : List cB) (a : List Int) (q : List (Int × Way)) (s t : Int) (dep : Int → Nat) (x : Int × List Way) : Prop where
  inv : Gq fl a q s t dep x
  same : mZ (DQ fl q s) x = gi fl q s t
theorem NN {dep : Int → Nat} {q : List (Int × Way)} (ht : uu q s t) : J0 fl a q s t dep (t, []) :=
 ⟨⟨rfl, (fun w h => by cases h), (fun w h => by cases h), List.nodup_nil, ht, by simp⟩, rfl⟩
theorem Cg {q : List (Int × Way)} {x : Int × List Way} (hx : x.1 = s) : DQ fl q s x = .inr x.2 := if_pos hx
theorem DC {q : List (Int × Way)} {x : Int × List Way} (hx : ¬ x.1 = s) : DQ fl q s x = .inl ((jx q x.1).gb fl, x.2 ++ [jx q x.1]) := if_neg hx
theorem J0.next {dep : Int → Nat} {q : List (Int × Way)} (hd : ∀ c w, eT q c = some w → Open fl a w ∧ w.fin fl = c ∧ uu q s (w.gb fl) ∧ dep (w.gb fl) < dep c ∧ dep c ≤ q.length) {x : Int × List Way} (h : J0 fl a q s t dep x) (hx : ¬ x.1 = s) :
 J0 fl a q s t dep ((jx q x.1).gb fl, x.2 ++ [jx q x.1]) ∧ dep ((jx q x.1).gb fl) < dep x.1 ∧ Open fl a (jx q x.1) := by
 obtain ⟨h1, h2⟩ := h.inv.next hd hx
 refine ⟨⟨h1, ?_⟩, h2, h1.ways _ (List.mem_append.2 (.inr (List.mem_singleton.2 rfl)))⟩
 rw [← h.same]
 exact (g8 (DC hx)).symm
theorem J0.end {dep : Int → Nat} {q : List (Int × Way)} {x : Int × List Way} (h : J0 fl a q s t dep x) (hx : x.1 = s) : x.2 = gi fl q s t := by
 rw [← h.same]; exact (iV (Cg hx)).symm
theorem J0.nJ {dep : Int → Nat} {q : List (Int × Way)} {x : Int × List Way} (h : J0 fl a q s t dep x) : x.2.length ≤ dep t := by
 have := h.inv.nJ; omega
end
end Go.Proofs.YtelbollidfdcjaaGreat
namespace Go.Proofs.YtelbollidfdcjaaGreat
open Go Go.T
set_option maxHeartbeats 8000000
def qm : VT Way := ⟨fun w => Ty.agg (fy.tys w), fun _ => ⟨rfl, rfl⟩⟩
theorem lD : mapOf Tryz.prog 196 = some (3, 199) := by kernel_rfl
theorem nL : zeroOf Tryz.prog 199 = some (.agg #[.int .i64 0, .bool false]) := by kernel_rfl
theorem lU : ∀ w M, (qm.ty (default : Way)).den w M (.agg #[.int .i64 0, .bool false]) := fun _ _ => ⟨_, rfl, rfl, rfl, trivial⟩
theorem BZ : ∀ w M, ((Hs fy).ty []).den w M (.slice none 0 0) := fun w M => Ty.v9 w M _ rfl
section
variable {fl : List cB} {a : List Int} {s : Int} {q : List (Int × Way)} {w : Way}
theorem FJ {q : WQ} {k : Nat} (h : nth a k < (nth fl k).hi) : gm q (nth fl k).src ((eT q (nth fl k).src).getD [] ++ [⟨k, true⟩]) = mg fl a q k := (if_pos h).symm
theorem Es {k : Nat} (h : nth a k > (nth fl k).lo) : gm (mg fl a (eP fl a k) k) (nth fl k).dst ((eT (mg fl a (eP fl a k) k) (nth fl k).dst).getD [] ++ [⟨k, false⟩]) = eP fl a (k + 1) := (if_pos h).symm
theorem new_eq : (!(eT q (w.fin fl)).isSome && !decide (w.fin fl = s)) = uZ fl s q w := rfl
end
theorem Ir {α : Type} {E : El α} {T J : Nat} {l l' : List α} (e : l = l') : (Ty.iX E T J l).Sub (Ty.iX E T J l') := Ty.sub_eq (congrArg (Ty.iX E T J) e)
attribute [local irreducible] aK fB Way.gb Way.fin Way.room eP mg E4 eC eY oR bQ fA cF uZ eE
attribute [local irreducible] ir fj nK qW jL jQ jI jN jJ q3 jR qd eI gu qj gx qy nth fV dm ak eB bodyPost Exit.then Exit.inBlock Code.wp Code.wpIn qg jT qZ q6 jM eR cm cq bodyPostM eM
set_option maxRecDepth 100000 in
theorem GC (y : ay) (fl : List cB) (a : List Int) (h : lH y fl a) : eR Tryz.prog 184 [1000] [(1000, Cont.vec cy 3 a)] [Ty.pp (dW y fl 1000 fl.length)] [(1000, Cont.vec cy 3 a)] (Ty.pm KI.enc (Hs fy) (eP fl a fl.length)) := by
 refine dw Tryz.func184 rfl (by decide) Tryz.ntmps184 (by exact Nat.le_of_ble_eq_true rfl) fun w0 M0 => ?_
 have hal := h.inb.1
 have hfl := h.nJ
 refine aG (aA (nC rfl (aD (aC (aG (aA (CS KI.enc fy 199 6000 ni rfl (Mb rfl (aD ?_)))))))))
 refine aC (aG (aG (aA (jF rfl (b9 rfl ?_)))))
 refine aR rfl rfl rfl rfl rfl (by decide) ?_
 refine aO rfl rfl rfl rfl (dP rfl rfl rfl (bS rfl (aD (aC (au ?_)))))
 refine cg (fun (k : {k : Nat // k ≤ fl.length}) => live [(0, Ty.pp (dW y fl 1000 fl.length)), (3, Ty.mp 7), (10, Ty.sl dZ fl), (11, Ty.int .i64 fl.length), (12, Ty.int .i64 (k.1 : Nat))] [(1000, Cont.vec cy 3 a), (7, Cont.mr KI.enc fy 199 6000 (eP fl a k.1))]) (fun k => fl.length - k.1) (⟨0, by omega⟩) ?_ fun k => ?_
 ·(refine dG.mk' ?_ ?_ <;> (repeat' (first | exact aI | exact aJ | refine aB ?_ (Ty.aT _) | refine aB ?_ (Ty.aE _) | refine aF rfl (Cont.aE _) ?_ | refine aF rfl ?_ ?_)))
  all_goals exact Cont.sZ (Eg fl a)
 have hk := k.2
 refine aG (aA (bJ rfl rfl rfl (aD (aC (aG ?_)))))
 refine aj rfl (fun hc1 => ?_) (fun hc1 => ?_)
 ·
  refine aq (aC (aG (au (aG (aA (bS rfl ?_))))))
  refine bf rfl rfl rfl rfl rfl rfl (by omega) ?_
  refine aZ rfl rfl rfl (by exact Nat.le_of_ble_eq_true rfl) ?_
  refine cE rfl (by exact List.cons_ne_nil _ _) rfl ?_
  refine cJ rfl ?_
  refine b8 rfl rfl (by decide) rfl rfl rfl rfl rfl rfl ?_
  refine aD (aC ?_)
  refine kC (J := live [(0, Ty.pp (dW y fl 1000 fl.length)), (3, Ty.mp 7), (4, Ty.int .i64 (k.1 : Nat)), (5, Ty.ptr 6 0), (10, Ty.sl dZ fl), (11, Ty.int .i64 fl.length), (12, Ty.int .i64 (k.1 : Nat))] [(1000, Cont.vec cy 3 a), (7, Cont.mr KI.enc fy 199 6000 (mg fl a (eP fl a k.1) k.1)), (6, Cont.cells 187 (dZ.tys (nth fl k.1)))]) ?_ ?_
  ·
   refine aG (cZ mixed rfl (jF rfl (b9 rfl ?_)))
   refine aR rfl rfl rfl rfl rfl (by decide) ?_
   refine aO rfl rfl rfl rfl (bS rfl ?_)
   refine eJ rfl rfl rfl rfl rfl (by omega) ?_
   refine eo rfl rfl rfl (by decide) rfl rfl (by omega) rfl ?_
   refine aN rfl rfl rfl rfl rfl (by decide) ?_
   refine aU rfl rfl (by decide) rfl rfl rfl ?_
   refine bJ rfl rfl rfl (aD ?_)
   refine ⟨by kernel_rfl, ?_⟩
   refine aC ?_
   refine aj rfl (fun hc2 => ?_) (fun hc2 => ?_)
   ·
    have hq := fun c => yl (fl := fl) (a := a) (c := c) k.1
    have hq1 := hq (nth fl k.1).src
    refine cZ mixed rfl (FR rfl ?_)
    refine aN rfl rfl rfl rfl rfl (by decide) ?_
    refine aU rfl rfl (by decide) rfl rfl rfl ?_
    refine FR rfl ?_
    refine aN rfl rfl rfl rfl rfl (by decide) ?_
    refine aU rfl rfl (by decide) rfl rfl rfl ?_
    refine x8 KI rfl rfl (by decide) rfl (sJ _) ni uf ?_
    refine bS rfl ?_
    refine dD rfl rfl (by exact List.cons_ne_nil _ _) rfl (by repeat (first | exact (aY.nil : aY _ _ [] _) | (show aY _ _ ((_, _) :: _) _; apply aY.one; (· first | exact (rfl : _ = Ty.int _ _) | exact (rfl : _ = Ty.bool _)); (· exact rfl)))) (by exact (rfl : _ = some [_, _])) ?_
    refine bt (E := fy) (xs := [⟨k.1, true⟩]) rfl rfl rfl rfl rfl (by decide) (by decide) (by repeat (first | exact (aY.nil : aY _ _ [] _) | (show aY _ _ ((_, _) :: _) _; apply aY.agg; (· exact (rfl : _ = Ty.agg _))))) (by exact rfl) rfl ?_
    refine yA rfl rfl rfl (by decide) (by decide) rfl (by show 0 < 1; decide) rfl rfl rfl rfl rfl (by decide) (by show (((eT _ _).getD []).length + 1) * 16 ≤ _; unfold oI at hq1; omega) (by show ((eT _ _).getD []).length + 1 ≤ _; unfold oI at hq1; omega) ?_
    refine yH KI rfl rfl (by decide) rfl (sJ _) rfl ni rfl ?_
    refine aD ?_
    refine ⟨by kernel_rfl, ?_⟩
    refine ew ?_
    (refine dG.mk' ?_ ?_ <;> (repeat' (first | exact aI | exact aJ | refine aB ?_ (Ty.aT _) | refine aB ?_ (Ty.aE _) | refine aF rfl (Cont.aE _) ?_ | refine aF rfl ?_ ?_)))
    all_goals exact Cont.sZ (FJ hc2)
   refine aq (ew ?_)
   (refine dG.mk' ?_ ?_ <;> (repeat' (first | exact aI | exact aJ | refine aB ?_ (Ty.aT _) | refine aB ?_ (Ty.aE _) | refine aF rfl (Cont.aE _) ?_ | refine aF rfl ?_ ?_)))
   all_goals exact Cont.sZ (Hv hc2)
  refine aG (cZ mixed rfl (jF rfl (b9 rfl ?_)))
  refine aR rfl rfl rfl rfl rfl (by decide) ?_
  refine aO rfl rfl rfl rfl (bS rfl ?_)
  refine eJ rfl rfl rfl rfl rfl (by omega) ?_
  refine eo rfl rfl rfl (by decide) rfl rfl (by omega) rfl ?_
  refine aN rfl rfl rfl rfl rfl (by decide) ?_
  refine aU rfl rfl (by decide) rfl rfl rfl ?_
  refine bJ rfl rfl rfl (aD ?_)
  refine ⟨by kernel_rfl, ?_⟩
  refine aC ?_
  refine aj rfl (fun hc3 => ?_) (fun hc3 => ?_)
  ·
   have hq2 := Ef (fl := fl) (a := a) (c := (nth fl k.1).dst) (k := k.1)
   refine cZ mixed rfl (FR rfl ?_)
   refine aN rfl rfl rfl rfl rfl (by decide) ?_
   refine aU rfl rfl (by decide) rfl rfl rfl ?_
   refine FR rfl ?_
   refine aN rfl rfl rfl rfl rfl (by decide) ?_
   refine aU rfl rfl (by decide) rfl rfl rfl ?_
   refine x8 KI rfl rfl (by decide) rfl (sJ _) ni uf ?_
   refine bS rfl ?_
   refine dD rfl rfl (by exact List.cons_ne_nil _ _) rfl (by repeat (first | exact (aY.nil : aY _ _ [] _) | (show aY _ _ ((_, _) :: _) _; apply aY.one; (· first | exact (rfl : _ = Ty.int _ _) | exact (rfl : _ = Ty.bool _)); (· exact rfl)))) (by exact (rfl : _ = some [_, _])) ?_
   refine bt (E := fy) (xs := [⟨k.1, false⟩]) rfl rfl rfl rfl rfl (by decide) (by decide) (by repeat (first | exact (aY.nil : aY _ _ [] _) | (show aY _ _ ((_, _) :: _) _; apply aY.agg; (· exact (rfl : _ = Ty.agg _))))) (by exact rfl) rfl ?_
   refine yA rfl rfl rfl (by decide) (by decide) rfl (by show 0 < 1; decide) rfl rfl rfl rfl rfl (by decide) (by show (((eT _ _).getD []).length + 1) * 16 ≤ _; unfold oI at hq2; omega) (by show ((eT _ _).getD []).length + 1 ≤ _; unfold oI at hq2; omega) ?_
   refine yH KI rfl rfl (by decide) rfl (sJ _) rfl ni rfl ?_
   refine aD ?_
   refine ⟨by kernel_rfl, ?_⟩
   refine bV (aC (aA ?_))
   refine cD rfl rfl (by omega) (by omega) ?_
   refine bS rfl (aD ?_)
   refine bk (⟨k.1 + 1, by omega⟩) ?_ (by show fl.length - (k.1 + 1) < fl.length - k.1; omega)
   (refine dG.mk' ?_ ?_ <;> (repeat' (first | exact aI | exact aJ | refine aB ?_ (Ty.aT _) | refine aB ?_ (Ty.aE _) | refine aF rfl (Cont.aE _) ?_ | refine aF rfl ?_ ?_)))
   all_goals skip
   all_goals exact Cont.sZ (Es hc3)
  refine aq (bV (aC (aA ?_)))
  refine cD rfl rfl (by omega) (by omega) ?_
  refine bS rfl (aD ?_)
  refine bk (⟨k.1 + 1, by omega⟩) ?_ (by show fl.length - (k.1 + 1) < fl.length - k.1; omega)
  (refine dG.mk' ?_ ?_ <;> (repeat' (first | exact aI | exact aJ | refine aB ?_ (Ty.aT _) | refine aB ?_ (Ty.aE _) | refine aF rfl (Cont.aE _) ?_ | refine aF rfl ?_ ?_)))
  all_goals skip
  all_goals exact Cont.sZ (Fo hc3)
 refine cj (aQ (aQ (av rfl (aC (aG ?_)))))
 refine gT (tg := 7) rfl (Cont.sZ (show eP fl a k.1 = eP fl a fl.length by rw [show k.1 = fl.length by have := k.2; omega])) ?_
 refine nN (tg := 6000) [] [(7, Cont.mp KI.enc (Hs fy) (eP fl a fl.length))] (by decide) rfl trivial ⟨I1 rfl rfl, trivial⟩ ?_
 refine k6 (tg := 7) [(3, Ty.pm KI.enc (Hs fy) (eP fl a fl.length))] (by decide) rfl ⟨Li rfl rfl (by decide), trivial⟩ ?_
 refine aA (K2 rfl (Kl rfl (aD (aC (bE ?_)))))
 refine gL [1000] rfl rfl (by decide) (by repeat (first | exact fC | refine dy rfl (cA (by decide) rfl) ?_)) ?_
 all_goals exact fS (aM rfl rfl)
set_option maxRecDepth 100000 in
theorem Dr (y : ay) (fl : List cB) (a : List Int) (h : lH y fl a) (s : Int) (hs : 0 ≤ s ∧ s < (y.cells + 1 : Nat)) : eR Tryz.prog 130 [1000] [(1000, Cont.vec cy 3 a)] [Ty.pp (dW y fl 1000 fl.length), Ty.int .i64 s] [(1000, Cont.vec cy 3 a), (16, Cont.mp KI.enc qm (cF fl a s))] (Ty.mp 16) := by
 refine dw Tryz.func130 rfl (by decide) Tryz.ntmps130 (by exact Nat.le_of_ble_eq_true rfl) fun w0 M0 => ?_
 have hal := h.inb.1
 have hN := h.net
 have hcl := mj h.right
 refine aG (aA (nC rfl (aD (aC (aG (aA (En KI.enc qm lD rfl (Mb rfl (aD ?_)))))))))
 refine aC (aG (aA (jF rfl ?_)))
 refine bu [(1000, 1000)] [] [(1000, Cont.vec cy 3 a)] (GC y fl a h) rfl rfl (aH bK (eW (aH (aH (aH (aH (aH (aH bK (eF (by exact List.mem_cons_self))) (aM rfl rfl)) (aM rfl rfl)) (aM rfl rfl)) (aM rfl rfl)) (aM rfl rfl)))) (bq (a := 1000) (b := 1000) (by exact List.mem_cons_self) rfl (cA (by exact List.mem_cons_self) rfl) pre_nil) (bG (a := 1000) (b := 1000) (by exact List.mem_cons_self) rfl (cA (by exact List.mem_cons_self) rfl) post_nil) (aM rfl rfl) ?_
 refine Kl rfl (aD (aC (aG (aA (bS rfl ?_)))))
 refine A6 (E := cy) (xs := [s]) rfl rfl rfl rfl rfl (by decide) (by decide) (by repeat (first | exact (aY.nil : aY _ _ [] _) | (show aY _ _ ((_, _) :: _) _; apply aY.one; (· exact (rfl : _ = Ty.int _ _)); (· exact rfl)))) (by exact rfl) rfl rfl ?_
 refine GV rfl (aD (aC (aG ?_)))
 refine Lt (s := 7) (J := 4100) (tg := 20) rfl rfl (by decide) (by decide) rfl ?_
 refine au ?_
 refine cg (fun (x : {x : qa // Jp fl a (y.cells + 1) s x}) => live [(0, Ty.pp (dW y fl 1000 fl.length)), (1, Ty.int .i64 s), (5, Ty.mp 16), (6, Ty.pm KI.enc (Hs fy) (eP fl a fl.length)), (7, Ty.iX cy 3 4100 x.1.queue)] [(1000, Cont.vec cy 3 a), (16, Cont.mp KI.enc qm x.1.by_)]) (fun x => Kf (y.cells + 1) x.1) (⟨⟨[], [s]⟩, NJ hs⟩) ?_ fun x => ?_
 ·(refine dG.mk' ?_ ?_ <;> (repeat' (first | exact aI | exact aJ | refine aB ?_ (Ty.aT _) | refine aB ?_ (Ty.aE _) | refine aF rfl (Cont.aE _) ?_)))
 refine aG (aG (aA ?_))
 refine eL (rfl : _ = Ty.iX _ _ _ _) ?_
 refine K6 rfl rfl rfl (bJ rfl rfl rfl (aD (aC ?_)))
 refine aj rfl (fun hc1 => ?_) (fun hc1 => ?_)
 ·
  refine aq (aC (au (aG ?_)))
  have hlen : 0 < x.1.queue.length := by omega
  refine aA ?_
  refine eL (rfl : _ = Ty.iX _ _ _ _) ?_
  refine F3 (i := 0) rfl rfl rfl rfl rfl rfl hlen ?_
  refine xq rfl rfl rfl rfl (cJ rfl (aD (aC (aG (aA ?_)))))
  refine eL (rfl : _ = Ty.iX _ _ _ _) ?_
  refine Ki (lo := 1) rfl rfl rfl rfl rfl rfl hlen hlen ?_
  refine gG (rfl : _ = Ty.iX _ _ _ _) ?_
  refine aD (aC (aG ?_))
  refine iF (s := 8) rfl (Ty.aa (show nth x.1.queue 0 = eE x.1 by unfold eE; rfl)) ?_
  refine aA (K2 rfl (bS rfl ?_))
  refine xz KI (z0 := []) rfl rfl (sJ _) ni uf BZ ?_
  refine dP (E := fy) (xs := oI (eP fl a fl.length) (eE x.1)) rfl rfl rfl ?_
  refine bS rfl (aD (aC ?_))
  refine iF (s := 30) rfl (show (Ty.sl fy (oI (eP fl a fl.length) (eE x.1))).Sub (Ty.sl fy (bQ fl a (eE x.1))) from Ty.eV rN) ?_
  refine iF (s := 31) rfl (Ty.aa (congrArg (fun l : List Way => ((l.length : Nat) : Int)) (rN (c := eE x.1)))) ?_
  refine au ?_
  refine cg (fun (j : {j : Nat // j ≤ (bQ fl a (eE x.1)).length}) => live [(0, Ty.pp (dW y fl 1000 fl.length)), (1, Ty.int .i64 s), (5, Ty.mp 16), (6, Ty.pm KI.enc (Hs fy) (eP fl a fl.length)), (7, Ty.iX cy 3 4100 (fA fl a s (eE x.1) (jw x.1) j.1).queue), (8, Ty.int .i64 (eE x.1)), (30, Ty.sl fy (bQ fl a (eE x.1))), (31, Ty.int .i64 (bQ fl a (eE x.1)).length), (32, Ty.int .i64 (j.1 : Nat))] [(1000, Cont.vec cy 3 a), (16, Cont.mp KI.enc qm (fA fl a s (eE x.1) (jw x.1) j.1).by_)]) (fun j => (bQ fl a (eE x.1)).length - j.1) (⟨0, by omega⟩) ?_ fun j => ?_
  ·(refine dG.mk' ?_ ?_ <;> (repeat' (first | exact aI | exact aJ | refine aB ?_ (Ty.aT _) | refine aB ?_ (Ty.aE _) | refine aF rfl (Cont.aE _) ?_ | refine aF rfl ?_ ?_ | refine aB ?_ ?_)))
   all_goals first | exact Ir (congrArg qa.queue (wY (fl := fl) (a := a) (s := s) (c := eE x.1) (z := jw x.1)).symm) | exact Cont.vc (show x.1.by_ = (fA fl a s (eE x.1) (jw x.1) 0).by_ by rw [wY]; rfl)
  have hj := j.2
  have hwl := ox (fl := fl) (a := a) (c := eE x.1)
  have hfl := h.nJ
  have hff := x.2.fold hN hlen hj
  refine aG (aA (bJ rfl rfl rfl (aD (aC (aG ?_)))))
  refine aj rfl (fun hc2 => ?_) (fun hc2 => ?_)
  ·
   refine aq (aC (aG (au (aG (aA ?_)))))
   refine bf rfl rfl rfl rfl rfl rfl (by omega) ?_
   refine aZ rfl rfl rfl (by exact Nat.le_of_ble_eq_true rfl) ?_
   refine cE rfl (by exact List.cons_ne_nil _ _) rfl ?_
   refine b8 rfl rfl (by decide) rfl rfl rfl rfl rfl rfl ?_
   refine aD (aC (aG ?_))
   have hwj := (nB.1 (cx (xs := bQ fl a (eE x.1)) (k := j.1) (by omega))).1
   refine aA (jF rfl ?_)
   refine bh rfl rfl (by decide) rfl rfl (by exact Nat.le_of_ble_eq_true rfl) ?_
   refine dO [1000] (Du y fl a h (nth (bQ fl a (eE x.1)) j.1) hwj.1) rfl (aL (jm (aL (af (bI rfl rfl)) (aL (af (bI rfl rfl)) (aL (af (bI rfl rfl)) (aL (af (bI rfl rfl)) (aL (af (bI rfl rfl)) (aL (g7 rfl hal (by decide) rfl) bU))))))) (aL (af (bI rfl rfl)) bU)) (by exact pq (by repeat (first | exact p9 | refine n7 (by exact dA _ _) ?_))) ?_
   refine qJ rfl (bO rfl rfl (bO rfl rfl (cJ rfl (cJ rfl (aD (aC (aG (aA (FR rfl ?_)))))))))
   refine bS rfl ?_
   refine pZ KI (k := (nth (bQ fl a (eE x.1)) j.1).fin fl) (z0 := (default : Way)) rfl rfl (by decide) rfl (sJ _) lD nL lU ?_
   refine qJ rfl (bO rfl rfl (bO rfl rfl ?_))
   refine cE rfl (by exact List.cons_ne_nil _ _) rfl ?_
   refine b8 rfl rfl (by decide) rfl rfl rfl rfl rfl rfl ?_
   refine dg rfl (aD (aC (aG (aA (gj rfl (eD rfl (gj rfl ?_)))))))
   apply aV (s := 50) rfl rfl rfl
   ·intro hg; apply aX; (refine bS rfl ?_); refine aD ?_; exact rfl
   ·exact rfl
   ·exact rfl
   apply aV (s := 50) rfl rfl rfl
   ·intro hg; apply aX; (refine bS rfl ?_); refine aD ?_; exact rfl
   ·exact rfl
   ·exact rfl
   apply aV (s := 50) rfl rfl rfl
   ·intro hg; apply aS (s := 51) rfl (by (rw [hg]; rfl)); apply aS (s := 52) rfl (by (rw [hg]; rfl)); apply aX; (refine bJ rfl rfl rfl ?_); refine aD ?_; exact rfl
   ·exact rfl
   ·exact rfl
   refine ep rfl rfl (aD (aC ?_))
   refine ct rfl (fun hc3 => ?_) (fun hc3 => ?_)
   ·
    refine aG (aA (FR rfl (bS rfl ?_)))
    refine bh rfl rfl (by decide) rfl rfl (by exact Nat.le_of_ble_eq_true rfl) ?_
    refine Ad KI (k := (nth (bQ fl a (eE x.1)) j.1).fin fl) (v := nth (bQ fl a (eE x.1)) j.1) rfl rfl (by decide) rfl (sJ _) rfl rfl lD ?_
    refine aD (aC (aA ?_))
    refine eL (rfl : _ = Ty.iX _ _ _ _) ?_
    refine bS rfl ?_
    refine bt (E := cy) (xs := [_]) rfl rfl rfl rfl rfl (by decide) (by decide) (by repeat (first | exact (aY.nil : aY _ _ [] _) | (show aY _ _ ((_, _) :: _) _; apply aY.one; (· exact (rfl : _ = Ty.int _ _)); (· exact rfl)))) (by exact rfl) rfl ?_
    refine FT rfl rfl (by decide) rfl (by show 0 < 1; decide) rfl rfl rfl rfl rfl (by decide) (by show (_ + 1) * 8 ≤ _; omega) (by show _ + 1 ≤ _; omega) ?_
    refine gG (rfl : _ = Ty.iX _ _ _ _) ?_
    refine aD (bV (aC (aA ?_)))
    refine cD rfl rfl (by omega) (by omega) ?_
    refine bS rfl (aD ?_)
    refine bk (⟨j.1 + 1, by omega⟩) ?_ (by show (bQ fl a (eE x.1)).length - (j.1 + 1) < (bQ fl a (eE x.1)).length - j.1; omega)
    (refine dG.mk' ?_ ?_ <;> (repeat' (first | exact aI | exact aJ | refine aB ?_ (Ty.aT _) | refine aB ?_ (Ty.aE _) | refine aF rfl (Cont.aE _) ?_ | refine aF rfl ?_ ?_ | refine aB ?_ ?_)))
    all_goals skip
    all_goals first | exact Ir (yV (by omega) (by rw [← new_eq]; exact hc3)).2 | exact Cont.vc (yV (by omega) (by rw [← new_eq]; exact hc3)).1
   refine aq (bV (aC (aA ?_)))
   refine cD rfl rfl (by omega) (by omega) ?_
   refine bS rfl (aD ?_)
   refine bk (⟨j.1 + 1, by omega⟩) ?_ (by show (bQ fl a (eE x.1)).length - (j.1 + 1) < (bQ fl a (eE x.1)).length - j.1; omega)
   (refine dG.mk' ?_ ?_ <;> (repeat' (first | exact aI | exact aJ | refine aB ?_ (Ty.aT _) | refine aB ?_ (Ty.aE _) | refine aF rfl (Cont.aE _) ?_ | refine aF rfl ?_ ?_ | refine aB ?_ ?_)))
   all_goals skip
   all_goals first | exact Ir (CD (by omega) (by rw [← new_eq]; exact hc3)).2 | exact Cont.vc (CD (by omega) (by rw [← new_eq]; exact hc3)).1
  refine cj (aQ (aQ (av rfl (bV ?_))))
  refine bk (⟨fA fl a s (eE x.1) (jw x.1) (bQ fl a (eE x.1)).length, (x.2.next hN hlen).1⟩) ?_ (by exact (x.2.next hN hlen).2)
  (refine dG.mk' ?_ ?_ <;> (repeat' (first | exact aI | exact aJ | refine aB ?_ (Ty.aT _) | refine aB ?_ (Ty.aE _) | refine aF rfl (Cont.aE _) ?_ | refine aF rfl ?_ ?_ | refine aB ?_ ?_)))
  all_goals skip
  all_goals first | exact Ir (congrArg (fun n => (fA fl a s (eE x.1) (jw x.1) n).queue) (show j.1 = _ by have := j.2; omega)) | exact Cont.vc (congrArg (fun n => (fA fl a s (eE x.1) (jw x.1) n).by_) (show j.1 = _ by have := j.2; omega))
 refine cj (aQ (aQ (av rfl (aC (aG ?_)))))
 refine gT (tg := 16) rfl (Cont.vc (x.2.end (by omega))) ?_
 refine aA (FR rfl (Mb rfl (aD (aC (bE ?_)))))
 refine gL [1000, 16] rfl rfl (by decide) (by repeat (first | exact fC | refine dy rfl (cA (by decide) rfl) ?_ | refine dy rfl (Hh (by decide) rfl) ?_)) ?_
 all_goals skip
 all_goals exact fS (Fq (by decide))
end Go.Proofs.YtelbollidfdcjaaGreat
namespace Go.Proofs.YtelbollidfdcjaaGreat
open Go Go.T
section
variable {fl : List cB} {a : List Int} {n : Nat} {q : List (Int × Way)}
theorem C3 {n k : Nat} (h : k ≤ n) : (List.range n).take k = List.range k := by
 rw [List.take_range, Nat.min_eq_left h]
theorem JM {j : Nat} (hj : j < n) (h : ∀ i, i < j → jW fl a q i = false) (hc : jW fl a q j = true) : (j : Int) = eS fl a n q := by
 unfold eS
 refine (gk (by rw [List.length_range]; exact hj) (fun x hx => ?_) ?_).symm
 ·rw [C3 (by omega)] at hx
  exact h x (List.mem_range.1 hx)
 rw [List.getElem_range]; exact hc
theorem Fu {j : Nat} (hj : n ≤ j) (h : ∀ i, i < j → jW fl a q i = false) : -1 = eS fl a n q := by
 unfold eS
 refine (iQ fun x hx => ?_).symm
 exact h x (by have := List.mem_range.1 hx; omega)
theorem BQ {j : Nat} (hj : j < n) : ((eT q (j : Int)).isSome && decide (nth (gM fl a n) j < 0)) = jW fl a q j := by
 unfold jW; rw [s6 hj]
theorem GR (hl : fl.length ≤ 34) (ha : ∀ i, i < fl.length → 0 ≤ nth a i ∧ nth a i ≤ 300) (c : Int) : -10200 ≤ over fl a c ∧ over fl a c ≤ 10200 := by
 have h := xW (fl := fl) (a := a) (c := c) (k := fl.length) ha
 have e : oR fl a fl.length c = over fl a c := rfl
 rw [e] at h; omega
theorem wL (m : Int) (fl : List cB) (a : List Int) : m = ej fl a m [] := rfl
theorem G1 {s t : Int} {l : List Way} (e : l = gi fl (cF fl a s) s t) : eC a l (ej fl a (min (over fl a s) (-over fl a t)) l) = jy fl a s t := by subst e; rfl
end
end Go.Proofs.YtelbollidfdcjaaGreat
namespace Go.Proofs.YtelbollidfdcjaaGreat
open Go Go.T
set_option maxHeartbeats 16000000
structure IB (y : ay) (fl : List cB) (a : List Int) : Prop where
  right : y.cU
  net : Net fl (y.cells + 1)
  bd : Bd fl
  inb : gS fl = true → xC fl a
  nJ : fl.length ≤ 34
section
variable {y : ay} {fl : List cB} {a : List Int} {n : Nat}
theorem zf (h : (!fl.all fun f => decide (f.lo ≤ f.hi)) = true) : gS fl = false := oG h
theorem nM (h : (!fl.all fun f => decide (f.lo ≤ f.hi)) = false) : gS fl = true := fT h
theorem LN (h : gS fl = false) : 0 = (bl fl n a).1 ∧ true = (bl fl n a).2.1 ∧ a = (bl fl n a).2.2 := by rw [yg h]; exact ⟨rfl, rfl, rfl⟩
theorem L3 {b : List Int} (h : gS fl = true) (hx : Hl fl n a b) (e : dY fl b n < 0) : 0 = (bl fl n a).1 ∧ false = (bl fl n a).2.1 ∧ b = (bl fl n a).2.2 := by rw [lq h, hx.done e]; exact ⟨rfl, rfl, rfl⟩
theorem Ls {b : List Int} (h : gS fl = true) (hx : Hl fl n a b) (e : ¬ dY fl b n < 0) (e2 : eS fl b n (cF fl b (dY fl b n)) < 0) : dY fl b n = (bl fl n a).1 ∧ true = (bl fl n a).2.1 ∧ b = (bl fl n a).2.2 := by rw [lq h, hx.stuck e e2]; exact ⟨rfl, rfl, rfl⟩
theorem NO (h : xC fl a) : Hl fl n a a := ⟨h, rfl⟩
theorem I9 {x z : Int} (h1 : 0 < x) (h2 : z < 0) : 0 < min x (-z) := by omega
theorem has_eq : fidx (fun v : Int => decide (v > 0)) (gM fl a n) = dY fl a n := rfl
theorem Hr (m x : Int) : fk m [x] = min m x := rfl
theorem wD {m : Int} {l : List Way} {w : Way} : fk (ej fl a m l) [w.room fl a] = ej fl a m (l ++ [w]) := (Hr _ _).trans (qY m l).symm
theorem DX {k : Int} (h : 0 ≤ k ∧ k < n) : nth (gM fl a n) k.toNat = over fl a k := by rw [s6 (by omega)]; congr 1; omega
theorem Fz {x : Int} (h : -20000 ≤ x ∧ x ≤ 20000) : IntKind.i64.wrap (0 - x) = -x := by rw [show (0 : Int) - x = -x by omega]; exact IntWalk.i64_in _ (by omega)
end
attribute [local irreducible] aK fB Way.gb Way.fin Way.room eP eC eY gM over bQ cF dY eS jW ej gi jy bl gE fk
attribute [local irreducible] ir fj nK qW jL jQ jI jN jJ q3 jR qd eI gu qj gx qy nth fV dm ak eB bodyPost Exit.then Exit.inBlock Code.wp Code.wpIn qg jT qZ q6 jM eR cm cq bodyPostM eM
set_option maxRecDepth 100000 in
theorem Gi (f : cB) : eB Tryz.prog 177 [Ty.agg (dZ.tys f)] (Ty.bool (decide (f.lo ≤ f.hi))) := by
 refine bC Tryz.func177 rfl (by decide) Tryz.ntmps177 (by exact Nat.le_of_ble_eq_true rfl) fun w0 M0 => ?_
 refine aG (aA (bR rfl (dg rfl (aD (aC (aG (aA ?_)))))))
 refine aR rfl rfl rfl rfl rfl (by decide) ?_
 refine aO rfl rfl rfl rfl ?_
 refine aR rfl rfl rfl rfl rfl (by decide) ?_
 refine aO rfl rfl rfl rfl (bJ rfl rfl rfl (dg rfl (aD (aC (bE (bz rfl rfl ?_))))))
 all_goals exact cQ rfl rfl
set_option maxRecDepth 100000 in
theorem IS (v : Int) : eB Tryz.prog 179 [Ty.int .i64 v] (Ty.bool (decide (v > 0))) := by
 refine bC Tryz.func179 rfl (by decide) Tryz.ntmps179 (by exact Nat.le_of_ble_eq_true rfl) fun w0 M0 => ?_
 refine aG (aA (dg rfl (aD (aC (aG (aA (bS rfl (bJ rfl rfl rfl (dg rfl ?_)))))))))
 refine aD (aC (bE (bz rfl rfl ?_)))
 all_goals exact cQ rfl rfl
set_option maxRecDepth 100000 in
theorem EA (y : ay) (fl : List cB) (a : List Int) (h : IB y fl a) : eR Tryz.prog 129 [1000] [(1000, Cont.vec cy 3 a)] [Ty.pp (dW y fl 1000 fl.length)] [(1000, Cont.vec cy 3 (bl fl (y.cells + 1) a).2.2)] (Ty.kH [Ty.int .i64 (bl fl (y.cells + 1) a).1, Ty.bool (bl fl (y.cells + 1) a).2.1]) := by
 refine dw Tryz.func129 rfl (by decide) Tryz.ntmps129 (by exact Nat.le_of_ble_eq_true rfl) fun w0 M0 => ?_
 have hcl := mj h.right
 have hfl := h.nJ
 have hN := h.net
 refine aG (aA (cJ rfl (dg rfl (aD (aC (aG (aG (aA (jF rfl ?_)))))))))
 refine b9 rfl ?_
 refine aR rfl rfl rfl rfl rfl (by decide) ?_
 refine aO rfl rfl rfl rfl ?_
 refine bA (BX fl (Ty.jz _ []) rfl (fun f => decide (f.lo ≤ f.hi)) rfl rfl fun f _ => dV (Gi f) rfl rfl rfl rfl rfl rfl) rfl rfl rfl rfl rfl ?_
 refine eD rfl (aD (aC ?_))
 refine ct rfl (fun hc1 => ?_) (fun hc1 => ?_)
 ·
  refine aG (aA (cJ rfl (dg rfl (aD (aC (bE (aW ?_)))))))
  refine ze [1000] rfl rfl rfl (by decide) ?_ ?_ ?_
  ·exact dy rfl (cA (by decide) (LN (zf hc1)).2.2) fC
  all_goals skip
  all_goals first | exact fS (n9 rfl rfl (congrArg (Ty.int .i64) (LN (zf hc1)).1)) | exact fS (n9 rfl rfl (congrArg Ty.bool (LN (zf hc1)).2.1))
 refine aq (aC (au ?_))
 refine cg (fun (x : {b : List Int // Hl fl (y.cells + 1) a b}) => live [(0, Ty.pp (dW y fl 1000 fl.length))] [(1000, Cont.vec cy 3 x.1)]) (fun x => Mh fl (y.cells + 1) x.1) (⟨a, NO (h.inb (nM hc1))⟩) ?_ fun x => ?_
 ·(refine dG.mk' ?_ ?_ <;> (repeat' (first | exact aI | exact aJ | refine aB ?_ (Ty.aT _) | refine aB ?_ (Ty.aE _) | refine aF rfl (Cont.aE _) ?_)))
 have hF : lH y fl x.1 := ⟨h.right, h.net, h.bd, x.2.inb, h.nJ⟩
 have hal := hF.inb.1
 have hov := GR h.nJ fun i hi => (hF.LG hi).1
 have hol : (gM fl x.1 (y.cells + 1)).length = (y.cells + 1) := xU
 refine au (aG (aA (jF rfl ?_)))
 refine bu [(1000, 1000)] [] [(1000, Cont.vec cy 3 x.1)] (Ky y fl x.1 hF) rfl rfl (aH bK (eW (aH (aH (aH (aH (aH (aH bK (eF (by exact List.mem_cons_self))) (aM rfl rfl)) (aM rfl rfl)) (aM rfl rfl)) (aM rfl rfl)) (aM rfl rfl)))) (bq (a := 1000) (b := 1000) (by exact List.mem_cons_self) rfl (cA (by exact List.mem_cons_self) rfl) pre_nil) (bG (a := 1000) (b := 1000) (by decide) rfl (cA (by decide) rfl) post_nil) (aM rfl rfl) ?_
 refine DP rfl (aD (aC (aG (aA (gw rfl ?_)))))
 refine bA (uX (gM fl x.1 (y.cells + 1)) (Ty.jz _ []) rfl (fun v => decide (v > 0)) rfl rfl fun v _ => dV (IS v) rfl rfl rfl rfl rfl rfl) rfl rfl rfl rfl rfl ?_
 refine cJ rfl (aD (aC (aG (aG ?_))))
 refine iF (s := 5) rfl (Ty.aa (has_eq (fl := fl) (a := x.1) (n := (y.cells + 1)))) ?_
 refine aA (bS rfl (bJ rfl rfl rfl (aD (aC ?_))))
 refine aj rfl (fun hc2 => ?_) (fun hc2 => ?_)
 ·
  refine aG (aA (cJ rfl (dg rfl (aD (aC (bE (aW (bL (aW ?_)))))))))
  refine bL ?_
  refine ze [1000] rfl rfl rfl (by decide) ?_ ?_ ?_
  ·exact dy rfl (cA (by decide) (L3 (nM hc1) x.2 hc2).2.2) fC
  all_goals skip
  all_goals first | exact fS (n9 rfl rfl (congrArg (Ty.int .i64) (L3 (nM hc1) x.2 hc2).1)) | exact fS (n9 rfl rfl (congrArg Ty.bool (L3 (nM hc1) x.2 hc2).2.1))
 refine aq (aC (aG ?_))
 obtain ⟨s, s1, s2, s3⟩ := wB hc2
 have hs : 0 ≤ (dY fl x.1 (y.cells + 1)) ∧ (dY fl x.1 (y.cells + 1)) < ((y.cells + 1) : Nat) := by omega
 refine aA (jF rfl (bS rfl ?_))
 refine bu (res' := Ty.mp 32) [(1000, 1000), (32, 16)] [32] [(1000, Cont.vec cy 3 x.1), (32, Cont.mp KI.enc qm (cF fl x.1 (dY fl x.1 (y.cells + 1))))] (Dr y fl x.1 hF (dY fl x.1 (y.cells + 1)) hs) rfl rfl (aH (aH bK (aM rfl rfl)) (eW (aH (aH (aH (aH (aH (aH bK (eF (by exact List.mem_cons_self))) (aM rfl rfl)) (aM rfl rfl)) (aM rfl rfl)) (aM rfl rfl)) (aM rfl rfl)))) (bq (a := 1000) (b := 1000) (by exact List.mem_cons_self) rfl (cA (by exact List.mem_cons_self) rfl) pre_nil) (bG (a := 1000) (b := 1000) (by decide) rfl (cA (by decide) rfl) (bG (a := 32) (b := 16) (by decide) rfl (Hh (by decide) rfl) post_nil)) (Fq (by decide)) ?_
 refine Mb rfl (aD (aC (aG (aA (cJ rfl (aD (aC ?_)))))))
 refine kC (J := live [(0, Ty.pp (dW y fl 1000 fl.length)), (4, Ty.sl cy (gM fl x.1 (y.cells + 1))), (5, Ty.int .i64 (dY fl x.1 (y.cells + 1))), (6, Ty.mp 32), (7, Ty.int .i64 (eS fl x.1 (y.cells + 1) (cF fl x.1 (dY fl x.1 (y.cells + 1)))))] [(1000, Cont.vec cy 3 x.1), (32, Cont.mp KI.enc qm (cF fl x.1 (dY fl x.1 (y.cells + 1))))]) ?_ ?_
 ·
  refine aG (aA (gw rfl (dP rfl rfl rfl (bS rfl (aD (aC (au ?_)))))))
  refine cg (fun (j : {j : Nat // j ≤ (y.cells + 1) ∧ ∀ i, i < j → jW fl x.1 (cF fl x.1 (dY fl x.1 (y.cells + 1))) i = false}) => live [(0, Ty.pp (dW y fl 1000 fl.length)), (4, Ty.sl cy (gM fl x.1 (y.cells + 1))), (5, Ty.int .i64 (dY fl x.1 (y.cells + 1))), (6, Ty.mp 32), (7, Ty.int .i64 (-1)), (32, Ty.sl cy (gM fl x.1 (y.cells + 1))), (33, Ty.int .i64 (gM fl x.1 (y.cells + 1)).length), (34, Ty.int .i64 (j.1 : Nat))] [(1000, Cont.vec cy 3 x.1), (32, Cont.mp KI.enc qm (cF fl x.1 (dY fl x.1 (y.cells + 1))))]) (fun j => (y.cells + 1) - j.1) (⟨0, Nat.zero_le _, fun i hi => absurd hi (Nat.not_lt_zero i)⟩) ?_ fun j => ?_
  ·(refine dG.mk' ?_ ?_ <;> (repeat' (first | exact aI | exact aJ | refine aB ?_ (Ty.aT _) | refine aB ?_ (Ty.aE _) | refine aF rfl (Cont.aE _) ?_)))
  have hj := j.2.1
  refine aG (aA (bJ rfl rfl rfl (aD (aC (aG ?_)))))
  refine aj rfl (fun hc3 => ?_) (fun hc3 => ?_)
  ·
   refine aq (aC (aG (au (aG (aA (bS rfl ?_))))))
   refine bf rfl rfl rfl rfl rfl rfl (by omega) ?_
   refine aO rfl rfl rfl rfl (cJ rfl (cJ rfl (aD (aC (aG (aA (FR rfl (bS rfl ?_))))))))
   refine pZ KI (k := ((j.1 : Nat) : Int)) (z0 := (default : Way)) rfl rfl (by decide) rfl (sJ _) lD nL lU ?_
   refine qJ rfl (bO rfl rfl (bO rfl rfl ?_))
   refine cE rfl (by exact List.cons_ne_nil _ _) rfl ?_
   refine b8 rfl rfl (by decide) rfl rfl rfl rfl rfl rfl ?_
   refine dg rfl (aD (aC (aG (aA (gj rfl (gj rfl ?_))))))
   apply aV (s := 46) rfl rfl rfl
   ·intro hg; apply aX; (refine bS rfl ?_); refine aD ?_; exact rfl
   ·exact rfl
   ·exact rfl
   apply aV (s := 46) rfl rfl rfl
   ·intro hg; apply aS (s := 47) rfl (by (rw [hg]; rfl)); apply aX; (refine bJ rfl rfl rfl ?_); refine aD ?_; exact rfl
   ·exact rfl
   ·exact rfl
   refine ep rfl rfl (aD (aC ?_))
   refine ct rfl (fun hc4 => ?_) (fun hc4 => ?_)
   ·
    refine aG (aA (bS rfl (cJ rfl (aD (aC (cj (gK rfl (aQ (aQ ?_)))))))))
    refine av rfl (ew ?_)
    (refine dG.mk' ?_ ?_ <;> (repeat' (first | exact aI | exact aJ | refine aB ?_ (Ty.aT _) | refine aB ?_ (Ty.aE _) | refine aF rfl (Cont.aE _) ?_ | refine aB ?_ ?_)))
    all_goals exact Ty.aa (JM (by omega) j.2.2 (by rw [← BQ (n := (y.cells + 1)) (by omega)]; exact hc4))
   refine aq (bV (aC (aA ?_)))
   refine cD rfl rfl (by omega) (by omega) ?_
   refine bS rfl (aD ?_)
   refine bk (⟨j.1 + 1, by omega, fun i hi => by by_cases e : i = j.1; (subst e; rw [← BQ (n := (y.cells + 1)) (by omega)]; exact hc4); exact j.2.2 i (by omega)⟩) ?_ (by show (y.cells + 1) - (j.1 + 1) < (y.cells + 1) - j.1; omega)
   (refine dG.mk' ?_ ?_ <;> (repeat' (first | exact aI | exact aJ | refine aB ?_ (Ty.aT _) | refine aB ?_ (Ty.aE _) | refine aF rfl (Cont.aE _) ?_)))
   all_goals skip
  refine cj (aQ (aQ (av rfl (ew ?_))))
  (refine dG.mk' ?_ ?_ <;> (repeat' (first | exact aI | exact aJ | refine aB ?_ (Ty.aT _) | refine aB ?_ (Ty.aE _) | refine aF rfl (Cont.aE _) ?_ | refine aB ?_ ?_)))
  all_goals exact Ty.aa (Fu (by omega) j.2.2)
 refine aG (aG (aA (bS rfl (bJ rfl rfl rfl (aD (aC ?_))))))
 refine aj rfl (fun hc5 => ?_) (fun hc5 => ?_)
 ·
  refine aG (aA (bS rfl (cJ rfl (dg rfl (aD (aC (bE (aW (bL ?_)))))))))
  refine aW (bL ?_)
  refine ze [1000] rfl rfl rfl (by decide) ?_ ?_ ?_
  ·exact dy rfl (cA (by decide) (Ls (nM hc1) x.2 hc2 hc5).2.2) fC
  all_goals skip
  all_goals first | exact fS (n9 rfl rfl (congrArg (Ty.int .i64) (Ls (nM hc1) x.2 hc2 hc5).1)) | exact fS (n9 rfl rfl (congrArg Ty.bool (Ls (nM hc1) x.2 hc2 hc5).2.1))
 refine aq (aC (aG ?_))
 obtain ⟨t, t1, t2, t3, t4⟩ := tN hc5
 have hnx := x.2.next hN hc2 hc5
 have hR := n8 (a := x.1) hN hs
 obtain ⟨dep, d0, hd⟩ := hR.arc
 have hmet : uu (cF fl x.1 (dY fl x.1 (y.cells + 1))) (dY fl x.1 (y.cells + 1)) (eS fl x.1 (y.cells + 1) (cF fl x.1 (dY fl x.1 (y.cells + 1)))) := by rw [t2]; obtain ⟨v, hv⟩ := Option.isSome_iff_exists.1 t3; exact .inr (kL hv)
 have ht : 0 ≤ (eS fl x.1 (y.cells + 1) (cF fl x.1 (dY fl x.1 (y.cells + 1)))) ∧ (eS fl x.1 (y.cells + 1) (cF fl x.1 (dY fl x.1 (y.cells + 1)))) < ((y.cells + 1) : Nat) := by omega
 have ho1 := hov (dY fl x.1 (y.cells + 1))
 have ho2 := hov (eS fl x.1 (y.cells + 1) (cF fl x.1 (dY fl x.1 (y.cells + 1))))
 have hdq : dep (eS fl x.1 (y.cells + 1) (cF fl x.1 (dY fl x.1 (y.cells + 1)))) ≤ 21 := by
  obtain ⟨v, hv⟩ := Option.isSome_iff_exists.1 t3
  have h1 := (hd _ _ hv).2.2.2.2
  have h2 := hR.nJ
  rw [t2]; omega
 refine aA (nC rfl (aD (aC (aG ?_))))
 have hoa := DX (fl := fl) (a := x.1) (n := (y.cells + 1)) hs
 have hob := DX (fl := fl) (a := x.1) (n := (y.cells + 1)) ht
 refine cZ mixed rfl (gw rfl (bS rfl ?_))
 refine lz rfl rfl rfl rfl rfl rfl (by omega) (by omega) ?_
 refine aO rfl rfl rfl rfl (gw rfl (bS rfl ?_))
 refine lz rfl rfl rfl rfl rfl rfl (by omega) (by omega) ?_
 refine aO rfl rfl rfl rfl (MD rfl ?_)
 refine bt (E := cy) (xs := [_]) rfl rfl rfl rfl rfl (by decide) (by decide) (by repeat (first | exact (aY.nil : aY _ _ [] _) | (show aY _ _ ((_, _) :: _) _; apply aY.one; (· exact (rfl : _ = Ty.int _ _)); (· exact rfl)))) (by exact rfl) rfl ?_
 refine bA (rI _ _) rfl rfl rfl rfl rfl (cJ rfl (aD ?_))
 refine ⟨by kernel_rfl, ?_⟩
 refine aC (aG (aG ?_))
 refine iF (s := 13) rfl (Ty.aa (by rw [hoa, hob, Fz (by omega), Hr] : _ = (min (over fl x.1 (dY fl x.1 (y.cells + 1))) (-over fl x.1 (eS fl x.1 (y.cells + 1) (cF fl x.1 (dY fl x.1 (y.cells + 1)))))))) ?_
 refine aA (bS rfl (cJ rfl (aD (aC (au ?_)))))
 refine cg (fun (p : {p : Int × List Way // J0 fl x.1 (cF fl x.1 (dY fl x.1 (y.cells + 1))) (dY fl x.1 (y.cells + 1)) (eS fl x.1 (y.cells + 1) (cF fl x.1 (dY fl x.1 (y.cells + 1)))) dep p}) => live [(0, Ty.pp (dW y fl 1000 fl.length)), (5, Ty.int .i64 (dY fl x.1 (y.cells + 1))), (6, Ty.mp 32), (12, Ty.row fy 199 81 p.1.2), (13, Ty.int .i64 (ej fl x.1 (min (over fl x.1 (dY fl x.1 (y.cells + 1))) (-over fl x.1 (eS fl x.1 (y.cells + 1) (cF fl x.1 (dY fl x.1 (y.cells + 1)))))) p.1.2)), (14, Ty.int .i64 p.1.1)] [(1000, Cont.vec cy 3 x.1), (32, Cont.mp KI.enc qm (cF fl x.1 (dY fl x.1 (y.cells + 1))))]) (fun p => dep p.1.1) (⟨((eS fl x.1 (y.cells + 1) (cF fl x.1 (dY fl x.1 (y.cells + 1)))), []), NN hmet⟩) ?_ fun p => ?_
 ·(refine dG.mk' ?_ ?_ <;> (repeat' (first | exact aI | exact aJ | refine aB ?_ (Ty.aT _) | refine aB ?_ (Ty.aE _) | refine aB ?_ Ty.lI | refine aF rfl (Cont.aE _) ?_ | refine aB ?_ ?_)))
  all_goals exact Ty.aa (wL _ _ _)
 have hpf := p.2.nJ
 refine aG (aG (aA (bS rfl (bS rfl (bJ rfl rfl rfl (aD (aC ?_)))))))
 refine dL rfl (fun hc6 => ?_) (fun hc6 => ?_)
 ·
  refine aq (aC (aG (au (aG ?_))))
  have hpx := p.2.next hd hc6
  have hpo := hpx.2.2
  refine aA (Jw rfl (FR rfl (bS rfl ?_)))
  refine wR KI (k := p.1.1) (z0 := (default : Way)) rfl rfl (by decide) rfl (sJ _) lD nL lU ?_
  refine bt (E := fy) (xs := [jx (cF fl x.1 (dY fl x.1 (y.cells + 1))) p.1.1]) rfl rfl rfl rfl rfl (by decide) (by decide) (by repeat (first | exact (aY.nil : aY _ _ [] _) | (show aY _ _ ((_, _) :: _) _; apply aY.agg; (· exact (rfl : _ = Ty.agg _))))) (by exact rfl) rfl ?_
  refine fZ rfl rfl (by decide) rfl rfl rfl rfl rfl rfl (by decide) (by (simp <;> omega)) (by (simp <;> omega)) ?_
  refine GV rfl (aD (aC (aG (aA (jF rfl (FR rfl (bS rfl ?_)))))))
  refine wR KI (k := p.1.1) (z0 := (default : Way)) rfl rfl (by decide) rfl (sJ _) lD nL lU ?_
  refine dO [1000] (Du y fl x.1 hF (jx (cF fl x.1 (dY fl x.1 (y.cells + 1))) p.1.1) hpo.1) rfl (aL (jm (aL (af (bI rfl rfl)) (aL (af (bI rfl rfl)) (aL (af (bI rfl rfl)) (aL (af (bI rfl rfl)) (aL (af (bI rfl rfl)) (aL (g7 rfl hal (by decide) rfl) bU))))))) (aL (af (bI rfl rfl)) bU)) (by exact pq (by repeat (first | exact p9 | refine n7 (by exact dA _ _) ?_))) ?_
  refine qJ rfl (bO rfl rfl (bO rfl rfl (cJ rfl (cJ rfl (aD (aC (aA (bS rfl (bS rfl ?_)))))))))
  refine bt (E := cy) (xs := [_]) rfl rfl rfl rfl rfl (by decide) (by decide) (by repeat (first | exact (aY.nil : aY _ _ [] _) | (show aY _ _ ((_, _) :: _) _; apply aY.one; (· exact (rfl : _ = Ty.int _ _)); (· exact rfl)))) (by exact rfl) rfl ?_
  refine bA (rI _ _) rfl rfl rfl rfl rfl (cJ rfl (aD (bV (aC (aA (jF rfl (FR rfl (bS rfl ?_))))))))
  refine wR KI (k := p.1.1) (z0 := (default : Way)) rfl rfl (by decide) rfl (sJ _) lD nL lU ?_
  refine dO [1000] (zI y fl x.1 (jx (cF fl x.1 (dY fl x.1 (y.cells + 1))) p.1.1) hpo.1) rfl (aL (jm (aL (af (bI rfl rfl)) (aL (af (bI rfl rfl)) (aL (af (bI rfl rfl)) (aL (af (bI rfl rfl)) (aL (af (bI rfl rfl)) (aL (g7 rfl hal (by decide) rfl) bU))))))) (aL (af (bI rfl rfl)) bU)) (by exact dA _ _) ?_
  refine cJ rfl (aD ?_)
  refine bk (⟨((jx (cF fl x.1 (dY fl x.1 (y.cells + 1))) p.1.1).gb fl, p.1.2 ++ [jx (cF fl x.1 (dY fl x.1 (y.cells + 1))) p.1.1]), (p.2.next hd hc6).1⟩) ?_ (by exact (p.2.next hd hc6).2.1)
  (refine dG.mk' ?_ ?_ <;> (repeat' (first | exact aI | exact aJ | refine aB ?_ (Ty.aT _) | refine aB ?_ (Ty.aE _) | refine aF rfl (Cont.aE _) ?_ | refine aB ?_ ?_)))
  all_goals skip
  all_goals exact Ty.aa wD
 refine cj (aQ (aQ (av rfl (aC ?_))))
 have hmp := pV (fl := fl) (a := x.1) (m := (min (over fl x.1 (dY fl x.1 (y.cells + 1))) (-over fl x.1 (eS fl x.1 (y.cells + 1) (cF fl x.1 (dY fl x.1 (y.cells + 1))))))) (I9 (by rw [s2]; exact s3) (by rw [t2]; exact t4)) p.1.2 p.2.inv.ways
 have hml := (rW (fl := fl) (a := x.1) (min (over fl x.1 (dY fl x.1 (y.cells + 1))) (-over fl x.1 (eS fl x.1 (y.cells + 1) (cF fl x.1 (dY fl x.1 (y.cells + 1)))))) p.1.2).1
 refine k6 (tg := 81) [(12, Ty.sl fy p.1.2)] (by decide) rfl ⟨AH rfl, trivial⟩ ?_
 refine aA (jF rfl (gw rfl (bS rfl ?_)))
 refine bu [(1000, 1000)] [] [(1000, Cont.vec cy 3 (eC x.1 p.1.2 (ej fl x.1 (min (over fl x.1 (dY fl x.1 (y.cells + 1))) (-over fl x.1 (eS fl x.1 (y.cells + 1) (cF fl x.1 (dY fl x.1 (y.cells + 1)))))) p.1.2)))] (GZ y fl x.1 hF p.1.2 (by omega) (fun w hw => (p.2.inv.ways w hw).1) (ej fl x.1 (min (over fl x.1 (dY fl x.1 (y.cells + 1))) (-over fl x.1 (eS fl x.1 (y.cells + 1) (cF fl x.1 (dY fl x.1 (y.cells + 1)))))) p.1.2) (by omega)) rfl rfl (aH (aH (aH bK (aM rfl rfl)) (aM rfl rfl)) (eW (aH (aH (aH (aH (aH (aH bK (eF (by exact List.mem_cons_self))) (aM rfl rfl)) (aM rfl rfl)) (aM rfl rfl)) (aM rfl rfl)) (aM rfl rfl)))) (bq (a := 1000) (b := 1000) (by exact List.mem_cons_self) rfl (cA (by exact List.mem_cons_self) rfl) pre_nil) (bG (a := 1000) (b := 1000) (by decide) rfl (cA (by decide) rfl) post_nil) (aM rfl rfl) ?_
 refine aD (bV ?_)
 refine bk (⟨jy fl x.1 (dY fl x.1 (y.cells + 1)) (eS fl x.1 (y.cells + 1) (cF fl x.1 (dY fl x.1 (y.cells + 1)))), hnx.1⟩) ?_ (by exact hnx.2.less)
 (refine dG.mk' ?_ ?_ <;> (repeat' (first | exact aI | exact aJ | refine aB ?_ (Ty.aT _) | refine aB ?_ (Ty.aE _) | refine aF rfl ?_ ?_)))
 all_goals skip
 all_goals exact Cont.dn (G1 (p.2.end hc6))
end Go.Proofs.YtelbollidfdcjaaGreat
namespace Go.Proofs.YtelbollidfdcjaaGreat
open Go Go.T
section
variable {fl : List cB} {a : List Int} {n : Nat} {G : Nat → Int} {x : JW}
structure q9 (fl : List cB) (a : List Int) (n : Nat) (G : Nat → Int) (x : JW) : Prop where
  inv : l8 fl a n G x
  same : mZ (mB fl a n G) x = iO fl a n G
theorem NH (hn : 0 < n) : q9 fl a n G ⟨0, 0, 0, LX n⟩ := ⟨KW hn, rfl⟩
theorem q9.r (h : q9 fl a n G x) : ¬ n ≤ x.r := by have := h.inv.r; omega
theorem q9.round (h : q9 fl a n G x) (hc : n ≤ x.c) (ha : ¬ x.st.at_ < 0) : q9 fl a n G ⟨x.r + 1, 0, 0, ⟨x.st.worth, x.st.by_, -1⟩⟩ :=
 ⟨h.inv.round hc (fun e => ha (by rw [h.inv.last e]; decide)), by rw [← g8 (uJ h.r hc ha)]; exact h.same⟩
theorem q9.stop (h : q9 fl a n G x) (hc : n ≤ x.c) (ha : x.st.at_ < 0) : cO fl a n G = [] := by
 refine tX ?_
 rw [← h.same]; exact iV (we h.r hc ha)
theorem q9.cell (h : q9 fl a n G x) (hc : ¬ n ≤ x.c) (hj : (bQ fl a x.c).length ≤ x.j) : q9 fl a n G ⟨x.r, x.c + 1, 0, x.st⟩ :=
 ⟨h.inv.cell hc hj, by rw [← g8 (wT h.r hc hj)]; exact h.same⟩
theorem q9.no (h : q9 fl a n G x) (hc : ¬ n ≤ x.c) (hj : ¬ (bQ fl a x.c).length ≤ x.j) (hg : k5 fl G x.st x.c (nth (bQ fl a x.c) x.j) = false) : q9 fl a n G ⟨x.r, x.c, x.j + 1, x.st⟩ :=
 ⟨h.inv.no hc hj hg, by rw [← g8 (Bk h.r hc hj hg)]; exact h.same⟩
theorem q9.yes (hN : Net fl n) (hG : ∀ i, -1 ≤ G i ∧ G i ≤ 1) (h : q9 fl a n G x) (hc : ¬ n ≤ x.c) (hj : ¬ (bQ fl a x.c).length ≤ x.j) (hg : k5 fl G x.st x.c (nth (bQ fl a x.c) x.j) = true) (hr : ¬ x.r + 1 = n) : q9 fl a n G ⟨x.r, x.c, x.j + 1, l7 fl G x.st x.c (nth (bQ fl a x.c) x.j)⟩ :=
 ⟨h.inv.yes hN hG hc hj hg hr, by rw [← g8 (xd h.r hc hj hg hr)]; exact h.same⟩
structure Found (fl : List cB) (a : List Int) (n : Nat) (G : Nat → Int) (st : sN) (v : Nat) : Prop where
  found : ∃ R T τ, Gh fl a n G (n - 1) st R T τ ∧ v < n ∧ R v = n
  at_ : st.at_ = v
  same : cO fl a n G = oL fl st (fP (cK fl st) n v)
  len : st.by_.length = n
theorem q9.last (hN : Net fl n) (hG : ∀ i, -1 ≤ G i ∧ G i ≤ 1) (h : q9 fl a n G x) (hc : ¬ n ≤ x.c) (hj : ¬ (bQ fl a x.c).length ≤ x.j) (hg : k5 fl G x.st x.c (nth (bQ fl a x.c) x.j) = true) (hr : x.r + 1 = n) :
    ∃ v : Nat, Found fl a n G (l7 fl G x.st x.c (nth (bQ fl a x.c) x.j)) v := by
  have h1 := h.inv.found hN hG hc hj hg hr
  have h2 : iO fl a n G = some (l7 fl G x.st x.c (nth (bQ fl a x.c) x.j)) := by
    rw [← h.same]; exact iV (wv h.r hc hj hg hr)
  cases h1 with
  | some _ R T τ v h3 hv e hR =>
    refine ⟨v, ⟨R, T, τ, h3, hv, hR⟩, e, ?_, h3.len.2⟩
    rw [tj h2, e, Int.toNat_natCast]
theorem l8.small (h : l8 fl a n G x) (hn : n ≤ 21) (hl : fl.length ≤ 34) : x.st.worth.length = n ∧ x.st.by_.length = n ∧ ∀ v, v < n → 0 ≤ nth x.st.worth v ∧ nth x.st.worth v ≤ 40000 := by
 obtain ⟨R, T, τ, h1, h2, _⟩ := h.gh
 refine ⟨h1.len.1, h1.len.2, fun v hv => ?_⟩
 have h3 := h1.le v hv
 have h4 := h.r
 have h5 := h.c
 have h6 := h.j.1
 have e1 : x.r * (n * (2 * fl.length)) ≤ 21 * (21 * 68) := Nat.mul_le_mul (by omega) (Nat.mul_le_mul hn (by omega))
 have e2 : x.c * (2 * fl.length) ≤ 21 * 68 := Nat.mul_le_mul (by omega) (by omega)
 omega
variable {st : sN} {v s p : Nat}
theorem Found.chain (hN : Net fl n) (h : Found fl a n G st v) {k : Nat} (hk : k < n) : fP (cK fl st) k v < n ∧ Open fl a (nth st.by_ (fP (cK fl st) k v)) ∧ (nth st.by_ (fP (cK fl st) k v)).gb fl = (fP (cK fl st) (k + 1) v : Nat) := by
 obtain ⟨R, T, τ, h1, h2, h3⟩ := h.found
 obtain ⟨a1, a2⟩ := zh hN h1 h2 h3 k (by omega)
 obtain ⟨b1, _⟩ := h1.way _ a1 (by omega)
 refine ⟨a1, b1, ?_⟩
 have := (hN.way b1.1).1
 show _ = ((((nth st.by_ (fP (cK fl st) k v)).gb fl).toNat : Nat) : Int)
 omega
structure KS (fl : List cB) (a : List Int) (n : Nat) (st : sN) (s p : Nat) (x : Nat × List Way) : Prop where
  at_ : x.1 < n ∧ Open fl a (nth st.by_ x.1) ∧ (nth st.by_ x.1).gb fl = (cK fl st x.1 : Nat)
  ix : ∃ i, i ≤ p ∧ x.1 = fP (cK fl st) i s ∧ x.2.length = i
  same : mZ (Ak fl st s) x = oL fl st s
theorem MC.gb {T : Nat → Nat} (hN : Net fl n) (h : MC fl a n G st T s) (t : Nat) : fP (cK fl st) t s < n ∧ Open fl a (nth st.by_ (fP (cK fl st) t s)) ∧ (nth st.by_ (fP (cK fl st) t s)).gb fl = (cK fl st (fP (cK fl st) t s) : Nat) := by
 refine ⟨h.at_ t, (h.way t).1, ?_⟩
 have := (hN.way (h.way t).1.1).1
 show _ = ((((nth st.by_ (fP (cK fl st) t s)).gb fl).toNat : Nat) : Int)
 omega
theorem Cz {x : Nat × List Way} (h : ¬ (¬ x.2 = [] ∧ x.1 = s)) : Ak fl st s x = .inl (cK fl st x.1, x.2 ++ [nth st.by_ x.1]) := if_neg h
theorem Cq {x : Nat × List Way} (h : ¬ x.2 = [] ∧ x.1 = s) : Ak fl st s x = .inr x.2 := if_pos h
theorem KS.next {T : Nat → Nat} (hN : Net fl n) (hC : MC fl a n G st T s) (hp : fP (cK fl st) p s = s) (hp1 : 1 ≤ p) {x : Nat × List Way} (h : KS fl a n st s p x) (hc : ¬ (¬ x.2 = [] ∧ x.1 = s)) :
 KS fl a n st s p (cK fl st x.1, x.2 ++ [nth st.by_ x.1]) ∧ x.2.length < p := by
 obtain ⟨i, h1, h2, h3⟩ := h.ix
 have hi : i < p := by
  by_cases e : i = p
  ·exfalso; apply hc
   subst e
   exact ⟨fun e => by rw [e] at h3; simp at h3; omega, h2.trans hp⟩
  omega
 have e : cK fl st x.1 = fP (cK fl st) (i + 1) s := by rw [h2]; rfl
 refine ⟨⟨?_, ⟨i + 1, hi, e, by rw [List.length_append, h3]; rfl⟩, ?_⟩, by omega⟩
 ·show cK fl st x.1 < n ∧ Open fl a (nth st.by_ (cK fl st x.1)) ∧ _ = ((cK fl st (cK fl st x.1) : Nat) : Int)
  rw [e]; exact hC.gb hN (i + 1)
 rw [← g8 (Cz hc)]; exact h.same
theorem KS.end {x : Nat × List Way} (h : KS fl a n st s p x) (hc : ¬ x.2 = [] ∧ x.1 = s) : x.2 = oL fl st s := by
 rw [← h.same]; exact (iV (Cq hc)).symm
theorem Found.Ni (hN : Net fl n) (h : Found fl a n G st v) : ∃ T p, MC fl a n G st T (fP (cK fl st) n v) ∧ 1 ≤ p ∧ p ≤ n ∧ fP (cK fl st) p (fP (cK fl st) n v) = fP (cK fl st) n v ∧ KS fl a n st (fP (cK fl st) n v) p (fP (cK fl st) n v, []) := by
 obtain ⟨R, T, τ, h1, h2, h3⟩ := h.found
 have hC := HR hN h1 h2 h3
 obtain ⟨p, p1, p2, p3⟩ := hC.back
 exact ⟨T, p, hC, p1, p2, p3, ⟨hC.gb hN 0, ⟨0, Nat.zero_le _, rfl, rfl⟩, rfl⟩⟩
structure LK (fl : List cB) (n : Nat) (G : Nat → Int) (a b : List Int) : Prop where
  feas : gQ fl n b
  same : mZ (stepG fl n G) b = gN fl n G a
theorem CT {b : List Int} (e : cO fl b n G = []) : stepG fl n G b = .inr b := if_pos e
theorem C4 {b : List Int} (e : ¬ cO fl b n G = []) : stepG fl n G b = .inl (eC b (cO fl b n G) (ej fl b 300 (cO fl b n G))) := if_neg e
theorem LK.done {b : List Int} (h : LK fl n G a b) (e : cO fl b n G = []) : b = gN fl n G a := by
 rw [← h.same]; exact (iV (CT e)).symm
theorem LK.next {b : List Int} (hN : Net fl n) (hn : 0 < n) (hB : Bd fl) (hG : ∀ i, -1 ≤ G i ∧ G i ≤ 1) (h : LK fl n G a b) (e : ¬ cO fl b n G = []) :
 LK fl n G a (eC b (cO fl b n G) (ej fl b 300 (cO fl b n G))) ∧ (300 * fl.length - lB fl G (eC b (cO fl b n G) (ej fl b 300 (cO fl b n G)))).toNat < (300 * fl.length - lB fl G b).toNat ∧ DI fl b n G (cO fl b n G) := by
 rcases uN (a := b) hN hn hG with ⟨e', _⟩ | hc
 ·exact absurd e' e
 have hb := tw h.feas hc
 refine ⟨⟨hb.feas, ?_⟩, ?_, hc⟩
 ·rw [← h.same]; exact (g8 (C4 e)).symm
 have h1 := hb.more
 have h2 := Dl hB hb.feas.1 hG
 omega
end
def ij (has : Nat → Bool) (x : List Int) (k : Nat) : Int := dH (fun i => if has i = true then nth x i else 0) k
theorem FX {has : Nat → Bool} {x : List Int} {k : Nat} (h : has k = true) : ij has x k + nth x k = ij has x (k + 1) := by
 show _ = ij has x k + (if _ then _ else _); rw [if_pos h]
theorem GS {has : Nat → Bool} {x : List Int} {k : Nat} (h : has k = false) : ij has x k = ij has x (k + 1) := by
 show _ = ij has x k + (if _ then _ else _); rw [if_neg (by rw [h]; decide)]; omega
theorem EU {has : Nat → Bool} {x : List Int} {k : Nat} (h : ∀ i, i < k → 0 ≤ nth x i ∧ nth x i ≤ 300) : -(300 * (k : Int)) ≤ ij has x k ∧ ij has x k ≤ 300 * k := by
 refine rB (b := 300) fun i hi => ?_
 have := h i hi
 split <;> omega
theorem H6 {has : Nat → Bool} {less : Bool} {i : Nat} (h : has i = false) : dF has less i = 0 := by unfold dF; rw [h]; cases less <;> rfl
theorem xY {has : Nat → Bool} {less : Bool} {i : Nat} (h : has i = true) : dF has less i = if less = true then -1 else 1 := by unfold dF; rw [h]; cases less <;> rfl
theorem JY {has : Nat → Bool} {less : Bool} {w : Way} (h : has w.ix = false) : 0 = fo (dF has less) w := by
 unfold fo xB; rw [H6 h]; cases w.more <;> rfl
theorem JN {has : Nat → Bool} {less : Bool} {w : Way} (h : has w.ix = true) (e : w.more ≠ less) : 1 = fo (dF has less) w := by
 unfold fo xB; rw [xY h]
 cases hm : w.more <;> cases hl : less <;> first | rfl | exact absurd (hm.trans hl.symm) e
theorem Jg {has : Nat → Bool} {less : Bool} {w : Way} (h : has w.ix = true) (e : w.more = less) : -1 = fo (dF has less) w := by
 unfold fo xB; rw [xY h, e]
 cases less <;> rfl
end Go.Proofs.YtelbollidfdcjaaGreat
namespace Go.Proofs.YtelbollidfdcjaaGreat
open Go Go.T
set_option maxHeartbeats 16000000
theorem LI : Tryz.prog.underlying 4 = some .bool := Tryz.underlying4
section
variable {fl : List cB} {a : List Int} {n : Nat} {G : Nat → Int} {st : sN} {r c j : Nat} {w : Way}
def nA (fl : List cB) (G : Nat → Int) (st : sN) (c : Nat) (w : Way) : sN := if k5 fl G st c w = true then l7 fl G st c w else st
theorem pz (h : nth st.worth c + fo G w > nth st.worth (w.fin fl).toNat) : nA fl G st c w = l7 fl G st c w := if_pos (decide_eq_true h)
theorem r5 (h : ¬ nth st.worth c + fo G w > nth st.worth (w.fin fl).toNat) : nA fl G st c w = st := if_neg (by rw [show k5 fl G st c w = false from decide_eq_false h]; decide)
theorem q9.LV (hN : Net fl n) (hG : ∀ i, -1 ≤ G i ∧ G i ≤ 1) (h : q9 fl a n G ⟨r, c, j, st⟩) (hc : c < n) (hj : j < (bQ fl a c).length) (hg : nth st.worth c + fo G (nth (bQ fl a c) j) > nth st.worth ((nth (bQ fl a c) j).fin fl).toNat) (hr : ¬ (r : Int) = n - 1) : q9 fl a n G ⟨r, c, j + 1, nA fl G st c (nth (bQ fl a c) j)⟩ := by
 rw [pz hg]; exact h.yes hN hG (Nat.not_le.2 hc) (Nat.not_le.2 hj) (decide_eq_true hg) (by show ¬ r + 1 = n; intro e; apply hr; rw [← e]; show (r : Int) = ((r + 1 : Nat) : Int) - 1; omega)
theorem q9.M8 (h : q9 fl a n G ⟨r, c, j, st⟩) (hc : c < n) (hj : j < (bQ fl a c).length) (hg : ¬ nth st.worth c + fo G (nth (bQ fl a c) j) > nth st.worth ((nth (bQ fl a c) j).fin fl).toNat) : q9 fl a n G ⟨r, c, j + 1, nA fl G st c (nth (bQ fl a c) j)⟩ := by
 rw [r5 hg]; exact h.no (Nat.not_le.2 hc) (Nat.not_le.2 hj) (decide_eq_false hg)
theorem Ms (h : nth st.worth c + fo G w > nth st.worth (w.fin fl).toNat) : st.worth.set (w.fin fl).toNat (nth st.worth c + fo G w) = (nA fl G st c w).worth := by rw [pz h]; rfl
theorem MN (h : nth st.worth c + fo G w > nth st.worth (w.fin fl).toNat) : st.by_.set (w.fin fl).toNat w = (nA fl G st c w).by_ := by rw [pz h]; rfl
theorem Ma (h : nth st.worth c + fo G w > nth st.worth (w.fin fl).toNat) : w.fin fl = (nA fl G st c w).at_ := by rw [pz h]; rfl
theorem MY (h : ¬ nth st.worth c + fo G w > nth st.worth (w.fin fl).toNat) : st.worth = (nA fl G st c w).worth := by rw [r5 h]
theorem MT (h : ¬ nth st.worth c + fo G w > nth st.worth (w.fin fl).toNat) : st.by_ = (nA fl G st c w).by_ := by rw [r5 h]
theorem Mi (h : ¬ nth st.worth c + fo G w > nth st.worth (w.fin fl).toNat) : st.at_ = (nA fl G st c w).at_ := by rw [r5 h]
theorem q9.hit (hN : Net fl n) (hG : ∀ i, -1 ≤ G i ∧ G i ≤ 1) (h : q9 fl a n G ⟨r, c, j, st⟩) (hc : c < n) (hj : j < (bQ fl a c).length) (hg : nth st.worth c + fo G (nth (bQ fl a c) j) > nth st.worth ((nth (bQ fl a c) j).fin fl).toNat) (hr : (r : Int) = n - 1) :
 ∃ (v : Nat) (s' : sN), st.worth.set ((nth (bQ fl a c) j).fin fl).toNat (nth st.worth c + fo G (nth (bQ fl a c) j)) = s'.worth ∧ st.by_.set ((nth (bQ fl a c) j).fin fl).toNat (nth (bQ fl a c) j) = s'.by_ ∧ (nth (bQ fl a c) j).fin fl = ((v : Nat) : Int) ∧ Found fl a n G s' v := by
 obtain ⟨v, hv⟩ := h.last hN hG (Nat.not_le.2 hc) (Nat.not_le.2 hj) (decide_eq_true hg) (by show r + 1 = n; have := h.inv.r; omega)
 exact ⟨v, _, rfl, rfl, hv.at_, hv⟩
theorem Kb {e : List Way} {s : Nat} (h : (decide ((e.length : Int) = 0) || !decide ((c : Int) = (s : Int))) = true) : ¬ (¬ e = [] ∧ c = s) := by
 rintro ⟨h1, h2⟩
 have h3 : (e.length : Int) ≠ 0 := fun h => h1 (List.length_eq_zero_iff.1 (by omega))
 rw [decide_eq_false h3, decide_eq_true (by omega)] at h; cases h
theorem ME {e : List Way} {s : Nat} (h : (decide ((e.length : Int) = 0) || !decide ((c : Int) = (s : Int))) = false) : ¬ e = [] ∧ c = s := by
 rw [Bool.or_eq_false_iff] at h
 refine ⟨fun e0 => ?_, ?_⟩
 ·subst e0; exact absurd h.1 (by decide)
 have := of_decide_eq_true (fT h.2 : decide ((c : Int) = (s : Int)) = true); omega
theorem MP {e : List Way} {p : Nat} (h : e.length < p) : p - (e ++ [w]).length < p - e.length := by rw [List.length_append]; show p - (e.length + 1) < _; omega
theorem Nm {s p : Nat} {x : Nat × List Way} (h : KS fl a n st s p x) (hc : ¬ x.2 = [] ∧ x.1 = s) : oL fl st s ≠ [] := by rw [← h.end hc]; exact hc.1
end
attribute [local irreducible] aK fB Way.gb Way.fin Way.room eP eC eY gM over bQ cF dY eS jW ej gi jy bl gE fk fo dF cO gN oL iO nA l7
attribute [local irreducible] ir fj nK qW jL jQ jI jN jJ q3 jR qd eI gu qj gx qy nth fV dm ak eB bodyPost Exit.then Exit.inBlock Code.wp Code.wpIn qg jT qZ q6 jM eR cm cq bodyPostM eM
set_option maxRecDepth 100000 in
theorem m9 (y : ay) (fl : List cB) (a : List Int) (h : IB y fl a) : eR Tryz.prog 119 [1000] [(1000, Cont.vec cy 3 a)] [Ty.pp (dW y fl 1000 fl.length)] [(1000, Cont.vec cy 3 (bl fl (y.cells + 1) a).2.2)] (Ty.bool (!(bl fl (y.cells + 1) a).2.1)) := by
 refine dw Tryz.func119 rfl (by decide) Tryz.ntmps119 (by exact Nat.le_of_ble_eq_true rfl) fun w0 M0 => ?_
 refine aG (aA (dg rfl (aD (aC (aG (aA (jF rfl ?_)))))))
 refine bu [(1000, 1000)] [] [(1000, Cont.vec cy 3 (bl fl (y.cells + 1) a).2.2)] (EA y fl a h) rfl rfl (aH bK (eW (aH (aH (aH (aH (aH (aH bK (eF (by exact List.mem_cons_self))) (aM rfl rfl)) (aM rfl rfl)) (aM rfl rfl)) (aM rfl rfl)) (aM rfl rfl)))) (bq (a := 1000) (b := 1000) (by exact List.mem_cons_self) rfl (cA (by exact List.mem_cons_self) rfl) pre_nil) (bG (a := 1000) (b := 1000) (by decide) rfl (cA (by decide) rfl) post_nil) (aM rfl rfl) ?_
 refine qJ rfl (bO rfl rfl (bO rfl rfl (cJ rfl (dg rfl (aD (aC (aG (aA (gj rfl ?_)))))))))
 refine eD rfl (dg rfl (aD (aC (bE ?_))))
 refine gL [1000] rfl rfl (by decide) (by repeat (first | exact fC | refine dy rfl (cA (by decide) rfl) ?_)) ?_
 all_goals exact fS (aM rfl rfl)
set_option maxRecDepth 100000 in
theorem DW (th : Ty) (h1 : th.deps = []) (h2 : th.cdeps = []) (has : Nat → Bool) (less : Bool) (w : Way) (hf : oP Tryz.prog (Ty.nd th h1 h2) [Ty.int .i64 ((w.ix : Nat) : Int)] (Ty.bool (has w.ix))) : eB Tryz.prog 202 [Ty.agg [Ty.nd th h1 h2, Ty.bool less], Ty.agg (fy.tys w)] (Ty.int .i64 (fo (dF has less) w)) := by
 refine bC Tryz.func202 rfl (by decide) Tryz.ntmps202 (by exact Nat.le_of_ble_eq_true rfl) fun w0 M0 => ?_
 refine aG (aA (bR rfl (bR rfl (cJ rfl (aD (aC (aG (aG (aA ?_)))))))))
 refine aR rfl rfl rfl rfl rfl (by decide) ?_
 refine aO rfl rfl rfl rfl ?_
 refine aR rfl rfl rfl rfl rfl (by decide) ?_
 refine aO rfl rfl rfl rfl (eX rfl hf rfl (eD rfl (aD (aC ?_))))
 refine ct rfl (fun hc1 => ?_) (fun hc1 => ?_)
 ·
  refine aG (aA (cJ rfl (aD (aC (bE (aW (bz rfl rfl ?_)))))))
  all_goals skip
  all_goals exact bH rfl rfl (congrArg (Ty.int .i64) (JY (oG hc1)))
 refine aq (aC (aG (aG (aA ?_))))
 refine aR rfl rfl rfl rfl rfl (by decide) ?_
 refine aO rfl rfl rfl rfl ?_
 refine aR rfl rfl rfl rfl rfl (by decide) ?_
 refine aO rfl rfl rfl rfl (z4 LI rfl rfl (aD (aC ?_)))
 refine dL rfl (fun hc2 => ?_) (fun hc2 => ?_)
 ·
  refine aG (aA (cJ rfl (aD (aC (bE (aW (bz rfl rfl ?_)))))))
  all_goals skip
  all_goals exact bH rfl rfl (congrArg (Ty.int .i64) (JN (fT hc1) hc2))
 refine aq (aC (aG (aA (cJ rfl (aD (aC (bE (bz rfl rfl ?_))))))))
 all_goals skip
 all_goals exact bH rfl rfl (congrArg (Ty.int .i64) (Jg (fT hc1) hc2))
set_option maxRecDepth 100000 in
theorem Hu (y : ay) (fl : List cB) (a : List Int) (h : lH y fl a) (th : Ty) (h1 : th.deps = []) (h2 : th.cdeps = []) (has : Nat → Bool) (hf : ∀ i, i < fl.length → oP Tryz.prog (Ty.nd th h1 h2) [Ty.int .i64 ((i : Nat) : Int)] (Ty.bool (has i))) (less : Bool) : eR Tryz.prog 195 [1000] [(1000, Cont.vec cy 3 a)] [Ty.pp (dW y fl 1000 fl.length), Ty.agg [Ty.nd th h1 h2, Ty.bool less]] [(1000, Cont.vec cy 3 a)] (Ty.Fa fy (cO fl a (y.cells + 1) (dF has less))) := by
 refine dw Tryz.func195 rfl (by decide) Tryz.ntmps195 (by exact Nat.le_of_ble_eq_true rfl) fun w0 M0 => ?_
 have hal := h.inb.1
 have hN := h.net
 have hfl := h.nJ
 have hcl := mj h.right
 have hG := sI (has := has) less
 refine aG (aA (bR rfl (nC rfl (aD (aC (JA (aG (aA (jF rfl ?_)))))))))
 refine dO [] (nU y h.right) rfl (aL (jU (l1 := bZ y) (l2 := [Ty.sl dZ fl, Ty.vs 1000 fl.length]) rfl rfl) bU) (by exact dA _ _) ?_
 refine cD rfl rfl (by omega) (by omega) ?_
 refine cJ rfl (aD (aC (aG (cZ mixed rfl (bS rfl ?_)))))
 refine zL (E := cy) (x0 := 0) rfl rfl rfl rfl rfl rfl rfl (by decide) rfl (by omega) (by (dsimp only; omega)) (by omega) ?_
 refine bS rfl ?_
 refine zL (E := fy) (x0 := default) rfl rfl rfl rfl rfl rfl rfl (by decide) rfl (by omega) (by (dsimp only; omega)) (by omega) ?_
 refine NK rfl (NK rfl (aD ?_))
 refine ⟨by kernel_rfl, ?_⟩
 refine aC (aG (aA (jF rfl ?_)))
 refine bu [(1000, 1000)] [] [(1000, Cont.vec cy 3 a)] (GC y fl a h) rfl rfl (aH bK (eW (aH (aH (aH (aH (aH (aH bK (eF (by exact List.mem_cons_self))) (aM rfl rfl)) (aM rfl rfl)) (aM rfl rfl)) (aM rfl rfl)) (aM rfl rfl)))) (bq (a := 1000) (b := 1000) (by exact List.mem_cons_self) rfl (cA (by exact List.mem_cons_self) rfl) pre_nil) (bG (a := 1000) (b := 1000) (by decide) rfl (cA (by decide) rfl) post_nil) (aM rfl rfl) ?_
 refine Kl rfl (aD (aC (aG (aA (cJ rfl (aD (aC (aG (Jv ?_)))))))))
 refine aC (aG (aG (aA (bS rfl (bS rfl (aD (aC (au ?_))))))))
 refine cg (fun (x : {x : Nat × sN // q9 fl a (y.cells + 1) (dF has less) ⟨x.1, 0, 0, x.2⟩ ∧ x.2.at_ = -1}) => live [(0, Ty.pp (dW y fl 1000 fl.length)), (3, Ty.pp [Ty.nd th h1 h2, Ty.bool less]), (5, Ty.int .i64 ((y.cells + 1) : Nat)), (6, Ty.vs 23 (y.cells + 1)), (7, Ty.vs 25 (y.cells + 1)), (8, Ty.pm KI.enc (Hs fy) (eP fl a fl.length)), (27, Ty.int .i64 ((y.cells + 1) : Nat)), (28, Ty.int .i64 ((x.1.1 : Nat) : Int))] [(1000, Cont.vec cy 3 a), (23, Cont.vec cy 3 x.1.2.worth), (25, Cont.vec fy 199 x.1.2.by_)]) (fun x => (y.cells + 1) - x.1.1) (⟨(0, LX (y.cells + 1)), NH (by omega), rfl⟩) ?_ fun x => ?_
 ·(refine dG.mk' ?_ ?_ <;> (repeat' (first | exact aI | exact aJ | refine aB ?_ (Ty.aT _) | refine aB ?_ (Ty.aE _) | refine aF rfl (Cont.aE _) ?_)))
 have hxr : x.1.1 < (y.cells + 1) := x.2.1.inv.r
 have hxs : x.1.2.worth.length = (y.cells + 1) ∧ x.1.2.by_.length = (y.cells + 1) := ⟨(x.2.1.inv.small (by omega) hfl).1, (x.2.1.inv.small (by omega) hfl).2.1⟩
 refine aG (aA (bJ rfl rfl rfl (aD (aC (aG ?_)))))
 refine p6 rfl (decide_eq_true (by show ((x.1.1 : Nat) : Int) < ((y.cells + 1) : Nat); have : x.1.1 < (y.cells + 1) := hxr; omega)) ?_
 refine aq (aC (aG (au (aG (aA (bS rfl (cJ rfl (aD (aC ?_)))))))))
 refine aG (aA (cJ rfl (aD (aC (aG (aG (aA (bS rfl (bS rfl ?_)))))))))
 refine aD (aC (au ?_))
 refine cg (fun (z : {z : Nat × sN // q9 fl a (y.cells + 1) (dF has less) ⟨x.1.1, z.1, 0, z.2⟩}) => live [(0, Ty.pp (dW y fl 1000 fl.length)), (3, Ty.pp [Ty.nd th h1 h2, Ty.bool less]), (5, Ty.int .i64 ((y.cells + 1) : Nat)), (6, Ty.vs 23 (y.cells + 1)), (7, Ty.vs 25 (y.cells + 1)), (8, Ty.pm KI.enc (Hs fy) (eP fl a fl.length)), (9, Ty.int .i64 z.1.2.at_), (10, Ty.int .i64 ((x.1.1 : Nat) : Int)), (27, Ty.int .i64 ((y.cells + 1) : Nat)), (28, Ty.int .i64 ((x.1.1 : Nat) : Int)), (31, Ty.int .i64 ((y.cells + 1) : Nat)), (32, Ty.int .i64 ((z.1.1 : Nat) : Int))] [(1000, Cont.vec cy 3 a), (23, Cont.vec cy 3 z.1.2.worth), (25, Cont.vec fy 199 z.1.2.by_)]) (fun z => (y.cells + 1) - z.1.1) (⟨(0, x.1.2), x.2.1⟩) ?_ fun z => ?_
 ·(refine dG.mk' ?_ ?_ <;> (repeat' (first | exact aI | exact aJ | refine aB ?_ (Ty.aT _) | refine aB ?_ (Ty.aE _) | refine aF rfl (Cont.aE _) ?_ | refine aB ?_ ?_)))
  all_goals exact Ty.aa x.2.2.symm
 have hzc : z.1.1 ≤ (y.cells + 1) := z.2.inv.c
 have hzs : z.1.2.worth.length = (y.cells + 1) ∧ z.1.2.by_.length = (y.cells + 1) := ⟨(z.2.inv.small (by omega) hfl).1, (z.2.inv.small (by omega) hfl).2.1⟩
 refine aG (aA (bJ rfl rfl rfl (aD (aC (aG ?_)))))
 refine aj rfl (fun hc2 => ?_) (fun hc2 => ?_)
 ·
  refine aq (aC (aG (au (aG (aA (bS rfl (cJ rfl (aD (aC ?_)))))))))
  refine aG (aA (K2 rfl (bS rfl ?_)))
  refine xz KI (z0 := []) rfl rfl (sJ _) ni uf BZ ?_
  refine dP (E := fy) (xs := oI (eP fl a fl.length) ((z.1.1 : Nat) : Int)) rfl rfl rfl ?_
  refine bS rfl (aD (aC ?_))
  refine iF (s := 37) rfl (show (Ty.sl fy (oI (eP fl a fl.length) ((z.1.1 : Nat) : Int))).Sub (Ty.sl fy (bQ fl a z.1.1)) from Ty.eV rN) ?_
  refine iF (s := 38) rfl (Ty.aa (congrArg (fun l : List Way => ((l.length : Nat) : Int)) (rN (c := ((z.1.1 : Nat) : Int))))) ?_
  refine au ?_
  refine cg (fun (u : {u : Nat × sN // q9 fl a (y.cells + 1) (dF has less) ⟨x.1.1, z.1.1, u.1, u.2⟩}) => live [(0, Ty.pp (dW y fl 1000 fl.length)), (3, Ty.pp [Ty.nd th h1 h2, Ty.bool less]), (5, Ty.int .i64 ((y.cells + 1) : Nat)), (6, Ty.vs 23 (y.cells + 1)), (7, Ty.vs 25 (y.cells + 1)), (8, Ty.pm KI.enc (Hs fy) (eP fl a fl.length)), (9, Ty.int .i64 u.1.2.at_), (10, Ty.int .i64 ((x.1.1 : Nat) : Int)), (11, Ty.int .i64 ((z.1.1 : Nat) : Int)), (27, Ty.int .i64 ((y.cells + 1) : Nat)), (28, Ty.int .i64 ((x.1.1 : Nat) : Int)), (31, Ty.int .i64 ((y.cells + 1) : Nat)), (32, Ty.int .i64 ((z.1.1 : Nat) : Int)), (37, Ty.sl fy (bQ fl a z.1.1)), (38, Ty.int .i64 (bQ fl a z.1.1).length), (39, Ty.int .i64 ((u.1.1 : Nat) : Int))] [(1000, Cont.vec cy 3 a), (23, Cont.vec cy 3 u.1.2.worth), (25, Cont.vec fy 199 u.1.2.by_)]) (fun u => (bQ fl a z.1.1).length - u.1.1) (⟨(0, z.1.2), z.2⟩) ?_ fun u => ?_
  ·(refine dG.mk' ?_ ?_ <;> (repeat' (first | exact aI | exact aJ | refine aB ?_ (Ty.aT _) | refine aB ?_ (Ty.aE _) | refine aF rfl (Cont.aE _) ?_)))
  have hus : u.1.2.worth.length = (y.cells + 1) ∧ u.1.2.by_.length = (y.cells + 1) ∧ ∀ v, v < (y.cells + 1) → 0 ≤ nth u.1.2.worth v ∧ nth u.1.2.worth v ≤ 40000 := u.2.inv.small (by omega) hfl
  have hwl := ox (fl := fl) (a := a) (c := ((z.1.1 : Nat) : Int))
  refine aG (aA (bJ rfl rfl rfl (aD (aC (aG ?_)))))
  refine aj rfl (fun hc3 => ?_) (fun hc3 => ?_)
  ·
   refine aq (aC (aG (au (aG ?_))))
   have hzn : z.1.1 < (y.cells + 1) := by omega
   have hun : u.1.1 < (bQ fl a z.1.1).length := by omega
   have hwo := (nB.1 (cx (xs := bQ fl a z.1.1) (k := u.1.1) hun)).1
   have hwj := hwo
   have hwf := (hN.way hwo.1).2
   have haw := Dm hG (nth (bQ fl a z.1.1) u.1.1)
   have hu1 := hus.2.2 z.1.1 hzn
   have hu2 := hus.2.2 ((nth (bQ fl a z.1.1) u.1.1).fin fl).toNat (by omega)
   refine aA ?_
   refine bf rfl rfl rfl rfl rfl rfl (by omega) ?_
   refine aZ rfl rfl rfl (by exact Nat.le_of_ble_eq_true rfl) ?_
   refine cE rfl (by exact List.cons_ne_nil _ _) rfl ?_
   refine b8 rfl rfl (by decide) rfl rfl rfl rfl rfl rfl ?_
   refine aD (aC (aG (aA (jF rfl ?_))))
   refine bh rfl rfl (by decide) rfl rfl (by exact Nat.le_of_ble_eq_true rfl) ?_
   refine dO [1000] (Du y fl a h (nth (bQ fl a z.1.1) u.1.1) hwj.1) rfl (aL (jm (aL (af (bI rfl rfl)) (aL (af (bI rfl rfl)) (aL (af (bI rfl rfl)) (aL (af (bI rfl rfl)) (aL (af (bI rfl rfl)) (aL (g7 rfl hal (by decide) rfl) bU))))))) (aL (af (bI rfl rfl)) bU)) (by exact pq (by repeat (first | exact p9 | refine n7 (by exact dA _ _) ?_))) ?_
   refine qJ rfl (bO rfl rfl (bO rfl rfl (cJ rfl (cJ rfl (aD (aC (aG (cZ mixed rfl (IY rfl ?_)))))))))
   refine bS rfl ?_
   refine eJ rfl rfl rfl rfl rfl (by omega) ?_
   refine eo rfl rfl rfl (by decide) rfl rfl (by omega) rfl ?_
   refine aZ rfl rfl rfl (by exact Nat.le_of_ble_eq_true rfl) ?_
   refine bh rfl rfl (by decide) rfl rfl (by exact Nat.le_of_ble_eq_true rfl) ?_
   refine bA (DW th h1 h2 has less (nth (bQ fl a z.1.1) u.1.1) (hf _ hwj.1)) rfl rfl rfl rfl rfl ?_
   refine cD rfl rfl (by omega) (by omega) ?_
   refine IY rfl (bS rfl ?_)
   refine gC rfl rfl rfl rfl rfl (by omega) (by omega) ?_
   refine eo rfl rfl rfl (by decide) rfl rfl (by omega) rfl ?_
   refine bJ rfl rfl rfl (aD ?_)
   refine ⟨by kernel_rfl, ?_⟩
   refine aC ?_
   refine aj rfl (fun hc4 => ?_) (fun hc4 => ?_)
   ·
    refine aG (cZ mixed rfl (IY rfl (bS rfl (IY rfl (bS rfl (IY rfl (bS rfl ?_)))))))
    refine eJ rfl rfl rfl rfl rfl (by omega) ?_
    refine eo rfl rfl rfl (by decide) rfl rfl (by omega) rfl ?_
    refine aZ rfl rfl rfl (by exact Nat.le_of_ble_eq_true rfl) ?_
    refine bh rfl rfl (by decide) rfl rfl (by exact Nat.le_of_ble_eq_true rfl) ?_
    refine bA (DW th h1 h2 has less (nth (bQ fl a z.1.1) u.1.1) (hf _ hwj.1)) rfl rfl rfl rfl rfl ?_
    refine cD rfl rfl (by omega) (by omega) ?_
    refine bh rfl rfl (by decide) rfl rfl (by exact Nat.le_of_ble_eq_true rfl) ?_
    refine bS rfl ?_
    refine gC rfl rfl rfl rfl rfl (by omega) (by omega) ?_
    refine iU rfl rfl rfl (by decide) rfl rfl (by exact (rfl : _ = Ty.int _ _)) rfl (by omega) (by decide) rfl rfl ?_
    refine gC rfl rfl rfl rfl rfl (by omega) (by omega) ?_
    refine AI (E := fy) (z := (nth (bQ fl a z.1.1) u.1.1)) ((nth (bQ fl a z.1.1) u.1.1).fin fl).toNat rfl rfl rfl (by decide) rfl rfl rfl (by omega) ?_
    refine cJ rfl (aD ?_)
    refine ⟨by kernel_rfl, ?_⟩
    refine aC (aG (aA (bS rfl (bS rfl ?_))))
    refine iC rfl rfl (by omega) (by omega) ?_
    refine bJ rfl rfl rfl (aD (aC ?_))
    refine aj rfl (fun hc5 => ?_) (fun hc5 => ?_)
    ·
     refine cj (gK rfl (aQ (aQ (gK rfl (gK rfl (aQ (aQ (gK rfl (aQ ?_)))))))))
     refine gK rfl (aQ (aQ (av rfl (aC (aG (aG ?_))))))
     obtain ⟨v, st, e1, e2, e3, hFd⟩ := u.2.hit hN hG hzn hun hc4 hc5
     obtain ⟨T, p, hC, p1, p2, p3, hX⟩ := hFd.Ni hN
     refine gT (tg := 25) rfl (Cont.dn e2) ?_
     refine iF (s := 9) rfl (Ty.aa e3) ?_
     refine aA (bS rfl (bS rfl (aD (aC (au ?_)))))
     refine cg (fun (i : {i : Nat // i ≤ (y.cells + 1)}) => live [(0, Ty.pp (dW y fl 1000 fl.length)), (5, Ty.int .i64 ((y.cells + 1) : Nat)), (7, Ty.vs 25 (y.cells + 1)), (9, Ty.int .i64 ((fP (cK fl st) i.1 v : Nat) : Int)), (87, Ty.int .i64 ((y.cells + 1) : Nat)), (88, Ty.int .i64 ((i.1 : Nat) : Int))] [(1000, Cont.vec cy 3 a), (25, Cont.vec fy 199 st.by_)]) (fun i => (y.cells + 1) - i.1) (⟨0, by omega⟩) ?_ fun i => ?_
     ·(refine dG.mk' ?_ ?_ <;> (repeat' (first | exact aI | exact aJ | refine aB ?_ (Ty.aT _) | refine aB ?_ (Ty.aE _) | refine aF rfl (Cont.aE _) ?_)))
     refine aG (aA (bJ rfl rfl rfl (aD (aC (aG ?_)))))
     refine aj rfl (fun hc6 => ?_) (fun hc6 => ?_)
     ·
      refine aq (aC (aG (au ?_)))
      have hch := hFd.chain hN (k := i.1) (by omega)
      have hbl := hFd.len
      refine aA (jF rfl (IY rfl (bS rfl ?_)))
      refine eJ rfl rfl rfl rfl rfl (by omega) ?_
      refine om (fP (cK fl st) i.1 v) rfl rfl rfl (by decide) rfl rfl rfl (by omega) ?_
      refine dO [1000] (zI y fl a (nth st.by_ (fP (cK fl st) i.1 v)) hch.2.1.1) rfl (aL (jm (aL (af (bI rfl rfl)) (aL (af (bI rfl rfl)) (aL (af (bI rfl rfl)) (aL (af (bI rfl rfl)) (aL (af (bI rfl rfl)) (aL (g7 rfl hal (by decide) rfl) bU))))))) (aL (af (bI rfl rfl)) bU)) (by exact dA _ _) ?_
      refine cJ rfl (aD (bV (aC (aA ?_))))
      refine cD rfl rfl (by omega) (by omega) ?_
      refine bS rfl (aD ?_)
      refine bk (⟨i.1 + 1, by omega⟩) ?_ (by show (y.cells + 1) - (i.1 + 1) < (y.cells + 1) - i.1; omega)
      (refine dG.mk' ?_ ?_ <;> (repeat' (first | exact aI | exact aJ | refine aB ?_ (Ty.aT _) | refine aB ?_ (Ty.aE _) | refine aF rfl (Cont.aE _) ?_ | refine aB ?_ ?_)))
      all_goals skip
      all_goals exact Ty.aa hch.2.2
     refine cj (aQ (aQ (av rfl (aC (aG ?_)))))
     have hbl := hFd.len
     have hin : i.1 = (y.cells + 1) := by have := i.2; omega
     refine iF (s := 9) rfl (Ty.aa (by rw [hin] : _ = ((fP (cK fl st) (y.cells + 1) v : Nat) : Int))) ?_
     refine aA (nC rfl (aD (aC (aG (aG (aA (bS rfl (cJ rfl (aD ?_)))))))))
     refine aC (au ?_)
     refine cg (fun (c : {c : Nat × List Way // KS fl a (y.cells + 1) st (fP (cK fl st) (y.cells + 1) v) p c}) => live [(0, Ty.pp (dW y fl 1000 fl.length)), (7, Ty.vs 25 (y.cells + 1)), (9, Ty.int .i64 ((fP (cK fl st) (y.cells + 1) v : Nat) : Int)), (16, Ty.row fy 199 118 c.1.2), (17, Ty.int .i64 ((c.1.1 : Nat) : Int))] [(1000, Cont.vec cy 3 a), (25, Cont.vec fy 199 st.by_)]) (fun c => p - c.1.2.length) (⟨(fP (cK fl st) (y.cells + 1) v, []), hX⟩) ?_ fun c => ?_
     ·(refine dG.mk' ?_ ?_ <;> (repeat' (first | exact aI | exact aJ | refine aB ?_ (Ty.aT _) | refine aB ?_ (Ty.aE _) | refine aB ?_ Ty.lI | refine aF rfl (Cont.aE _) ?_)))
      all_goals trace_state
     have hcx := c.2.at_
     have hci : c.1.2.length ≤ p := by obtain ⟨i, i1, _, i3⟩ := c.2.ix; omega
     refine aG (aG (aA (Jw rfl (m6 rfl rfl rfl (bJ rfl rfl rfl (gj rfl ?_))))))
     apply aV (s := 101) rfl rfl rfl
     ·intro hg; apply aX; (refine bS rfl ?_); refine aD ?_; exact rfl
     ·exact rfl
     ·exact rfl
     apply aV (s := 101) rfl rfl rfl
     ·intro hg; apply aX; (refine bS rfl ?_); refine aD ?_; exact rfl
     ·exact rfl
     ·exact rfl
     apply aV (s := 101) rfl rfl rfl
     ·intro hg; apply aS (s := 102) rfl (by (rw [hg]; rfl)); apply aS (s := 103) rfl (by (rw [hg]; rfl)); apply aX; (refine bJ rfl rfl rfl ?_); refine aD ?_; exact rfl
     ·exact rfl
     ·exact rfl
     refine oK rfl rfl (aD (aC ?_))
     refine ct rfl (fun hc7 => ?_) (fun hc7 => ?_)
     ·
      refine aq (aC (aG (au (aA (Jw rfl (IY rfl (bS rfl ?_)))))))
      refine eJ rfl rfl rfl rfl rfl (by omega) ?_
      refine om c.1.1 rfl rfl rfl (by decide) rfl rfl rfl (by omega) ?_
      refine bt (E := fy) (xs := [_]) rfl rfl rfl rfl rfl (by decide) (by decide) (by repeat (first | exact (aY.nil : aY _ _ [] _) | (show aY _ _ ((_, _) :: _) _; apply aY.agg; (· exact (rfl : _ = Ty.agg _))))) (by exact rfl) rfl ?_
      refine fZ rfl rfl (by decide) rfl rfl rfl rfl rfl rfl (by decide) (by (simp <;> omega)) (by (simp <;> omega)) ?_
      refine GV rfl (aD (bV (aC (aA (jF rfl (IY rfl (bS rfl ?_)))))))
      refine eJ rfl rfl rfl rfl rfl (by omega) ?_
      refine om c.1.1 rfl rfl rfl (by decide) rfl rfl rfl (by omega) ?_
      refine dO [1000] (zI y fl a (nth st.by_ c.1.1) hcx.2.1.1) rfl (aL (jm (aL (af (bI rfl rfl)) (aL (af (bI rfl rfl)) (aL (af (bI rfl rfl)) (aL (af (bI rfl rfl)) (aL (af (bI rfl rfl)) (aL (g7 rfl hal (by decide) rfl) bU))))))) (aL (af (bI rfl rfl)) bU)) (by exact dA _ _) ?_
      refine cJ rfl (aD ?_)
      refine bk (⟨(cK fl st c.1.1, c.1.2 ++ [nth st.by_ c.1.1]), (c.2.next hN hC p3 p1 (Kb hc7)).1⟩) ?_ (by exact MP (c.2.next hN hC p3 p1 (Kb hc7)).2)
      (refine dG.mk' ?_ ?_ <;> (repeat' (first | exact aI | exact aJ | refine aB ?_ (Ty.aT _) | refine aB ?_ (Ty.aE _) | refine aF rfl (Cont.aE _) ?_ | refine aB ?_ ?_)))
      all_goals skip
      all_goals exact Ty.aa hcx.2.2
     refine cj (aQ (aQ (av rfl (aC (aG (aA (Jw rfl (GV rfl (aD ?_)))))))))
     refine aC (bE (uI ?_))
     refine gL [1000] rfl rfl (by decide) (by repeat (first | exact fC | refine dy rfl (cA (by decide) rfl) ?_)) ?_
     all_goals skip
     all_goals exact Cn (by decide) rfl (by rw [hFd.same]; exact c.2.end (ME hc7)) (by rw [hFd.same]; exact Nm c.2 (ME hc7))
    refine aq (bV (aC (aA ?_)))
    refine cD rfl rfl (by omega) (by omega) ?_
    refine bS rfl (aD ?_)
    refine bk (⟨(u.1.1 + 1, nA fl (dF has less) u.1.2 z.1.1 (nth (bQ fl a z.1.1) u.1.1)), by exact u.2.LV hN hG hzn hun hc4 hc5⟩) ?_ (by show (bQ fl a z.1.1).length - (u.1.1 + 1) < (bQ fl a z.1.1).length - u.1.1; omega)
    (refine dG.mk' ?_ ?_ <;> (repeat' (first | exact aI | exact aJ | refine aB ?_ (Ty.aT _) | refine aB ?_ (Ty.aE _) | refine aF rfl (Cont.aE _) ?_ | refine aF rfl ?_ ?_ | refine aB ?_ ?_)))
    all_goals skip
    all_goals first | exact Cont.dn (Ms hc4) | exact Cont.dn (MN hc4) | exact Ty.aa (Ma hc4)
   refine aq (bV (aC (aA ?_)))
   refine cD rfl rfl (by omega) (by omega) ?_
   refine bS rfl (aD ?_)
   refine bk (⟨(u.1.1 + 1, nA fl (dF has less) u.1.2 z.1.1 (nth (bQ fl a z.1.1) u.1.1)), by exact u.2.M8 hzn hun hc4⟩) ?_ (by show (bQ fl a z.1.1).length - (u.1.1 + 1) < (bQ fl a z.1.1).length - u.1.1; omega)
   (refine dG.mk' ?_ ?_ <;> (repeat' (first | exact aI | exact aJ | refine aB ?_ (Ty.aT _) | refine aB ?_ (Ty.aE _) | refine aF rfl (Cont.aE _) ?_ | refine aF rfl ?_ ?_ | refine aB ?_ ?_)))
   all_goals skip
   all_goals first | exact Cont.dn (MY hc4) | exact Cont.dn (MT hc4) | exact Ty.aa (Mi hc4)
  refine cj (aQ (aQ (av rfl (bV (aC (aA ?_))))))
  refine cD rfl rfl (by omega) (by omega) ?_
  refine bS rfl (aD ?_)
  refine bk (⟨(z.1.1 + 1, u.1.2), u.2.cell (by show ¬ (y.cells + 1) ≤ z.1.1; omega) (by show (bQ fl a z.1.1).length ≤ u.1.1; omega)⟩) ?_ (by show (y.cells + 1) - (z.1.1 + 1) < (y.cells + 1) - z.1.1; omega)
  (refine dG.mk' ?_ ?_ <;> (repeat' (first | exact aI | exact aJ | refine aB ?_ (Ty.aT _) | refine aB ?_ (Ty.aE _) | refine aF rfl (Cont.aE _) ?_)))
  all_goals skip
 refine cj (aQ (aQ (av rfl (aC (aG (aA (bS rfl (bJ rfl rfl rfl (aD ?_)))))))))
 refine aC ?_
 refine aj rfl (fun hc8 => ?_) (fun hc8 => ?_)
 ·
  refine aG (aA (nC rfl (aD (aC (bE (bL (aW (aW (bL ?_)))))))))
  refine aW (uI ?_)
  refine gL [1000] rfl rfl (by decide) (by repeat (first | exact fC | refine dy rfl (cA (by decide) rfl) ?_)) ?_
  all_goals skip
  all_goals exact CI (z.2.stop (by show (y.cells + 1) ≤ z.1.1; omega) (by assumption))
 refine aq (bV (aC (aA ?_)))
 refine cD rfl rfl (by omega) (by omega) ?_
 refine bS rfl (aD ?_)
 refine bk (⟨(x.1.1 + 1, ⟨z.1.2.worth, z.1.2.by_, -1⟩), z.2.round (by show (y.cells + 1) ≤ z.1.1; omega) (by assumption), rfl⟩) ?_ (by show (y.cells + 1) - (x.1.1 + 1) < (y.cells + 1) - x.1.1; omega)
 (refine dG.mk' ?_ ?_ <;> (repeat' (first | exact aI | exact aJ | refine aB ?_ (Ty.aT _) | refine aB ?_ (Ty.aE _) | refine aF rfl (Cont.aE _) ?_)))
 all_goals skip
end Go.Proofs.YtelbollidfdcjaaGreat
namespace Go.Proofs.YtelbollidfdcjaaGreat
open Go Go.T
set_option maxHeartbeats 16000000
theorem KB : Tryz.prog.underlying 28 = some (.slice 3) := by kernel_rfl
theorem LP : Tryz.prog.underlying 222 = some (.slice 199) := by kernel_rfl
section
variable {y : ay} {fl : List cB} {a : List Int} {n : Nat} {has : Nat → Bool} {xs : List Int}
theorem NI {G : Nat → Int} (h : gQ fl n a) : LK fl n G a a := ⟨h, rfl⟩
theorem Hq {c : Nat → Bool} {b : Nat} (hl : a.length = (aK y c).length) (hb : b < y.bins.length) : y.kept b 0 < a.length := by rw [hl]; exact EI hb (Nat.zero_le _)
theorem JF {x : List Int} {i k : Nat} (h : i = k) : ij has x i = ij has x k := by rw [h]
theorem Is (fl : List cB) (has : Nat → Bool) (x : List Int) : ij has x fl.length = iz fl has x := rfl
theorem I4 (hN : Net fl n) (hn : 0 < n) (hB : Bd fl) (h : gQ fl n a) : (⟨iz fl has (gN fl n (dF has true) a), iz fl has (gN fl n (dF has false) (AN fl n has a))⟩ : Span) = gW fl n has := (rE hN hn hB h).2.2.eq.symm
def hO (y : ay) (a : List Int) (k : Nat) : List Int := (List.range k).map fun b => nth a (y.kept b 0)
theorem Bw (k : Nat) : hO y a k ++ [nth a (y.kept k 0)] = hO y a (k + 1) := by unfold hO; rw [List.range_succ, List.map_append]; rfl
theorem CC : hO y a 0 = [] := rfl
theorem CN (k : Nat) : (hO y a k).length = k := by unfold hO; rw [List.length_map, List.length_range]
theorem told_eq (y : ay) (a : List Int) : (⟨hO y a y.bins.length, a.drop (y.bins.length * (y.D + 1))⟩ : fH) = gD y a := rfl
theorem F8 (h : xs = []) : (Ty.fM (.slice none 0 0)).Sub (Ty.row cy 3 26 xs) := by subst h; exact Ty.lI
theorem lo_eq (fl : List cB) (n : Nat) (has : Nat → Bool) (a : List Int) : gN fl n (dF has true) a = AN fl n has a := rfl
theorem hi_eq (fl : List cB) (n : Nat) (has : Nat → Bool) (a : List Int) : gN fl n (dF has false) (AN fl n has a) = xH fl n has a := rfl
end
attribute [local irreducible] aK fB Way.gb Way.fin Way.room eP eC eY gM over bQ cF dY eS jW ej gi jy bl gE fk fo dF cO gN oL iO ij iz gW AN xH hO ay.kept
attribute [local irreducible] ir fj nK qW jL jQ jI jN jJ q3 jR qd eI gu qj gx qy nth fV dm ak eB bodyPost Exit.then Exit.inBlock Code.wp Code.wpIn qg jT qZ q6 jM eR cm cq bodyPostM eM
set_option maxRecDepth 100000 in
theorem AX (l : List Int) (h : l.length ≤ 1000) : eB Tryz.prog 172 [Ty.sl cy l] (Ty.sl cy l) := by
 refine bC Tryz.func172 rfl (by decide) Tryz.ntmps172 (by exact Nat.le_of_ble_eq_true rfl) fun w0 M0 => ?_
 refine aG (aA (nC rfl (aD (aC (aG (aG (aA (gw rfl (DM KB rfl ?_)))))))))
 refine aD (aC ?_)
 refine yQ rfl (fun hc1 => ?_) (fun hc1 => ?_)
 ·
  refine aG (aA (nC rfl (aD (aC (bE (aW (bz rfl rfl ?_)))))))
  all_goals skip
  exact gJ hc1
 refine aq (aC (aG (aA ?_)))
 refine wh (E := cy) rfl rfl rfl rfl ?_
 refine gw rfl ?_
 refine fZ rfl rfl (by decide) rfl rfl rfl rfl rfl rfl (by decide) (by (simp <;> omega)) (by (simp <;> omega)) ?_
 refine GV rfl (aD (aC (bE (bz rfl rfl ?_))))
 all_goals exact zb (by decide)
 skip
set_option maxRecDepth 100000 in
theorem GW (y : ay) (fl : List cB) (a : List Int) (h : lH y fl a) (hfe : gQ fl (y.cells + 1) a) (th : Ty) (h1 : th.deps = []) (h2 : th.cdeps = []) (has : Nat → Bool) (hf : ∀ i, i < fl.length → oP Tryz.prog (Ty.nd th h1 h2) [Ty.int .i64 ((i : Nat) : Int)] (Ty.bool (has i))) (less : Bool) : eR Tryz.prog 164 [1000] [(1000, Cont.vec cy 3 a)] [Ty.pp (dW y fl 1000 fl.length), Ty.agg [Ty.nd th h1 h2, Ty.bool less]] [(1000, Cont.vec cy 3 (gN fl (y.cells + 1) (dF has less) a))] (Ty.int .i64 (iz fl has (gN fl (y.cells + 1) (dF has less) a))) := by
 refine dw Tryz.func164 rfl (by decide) Tryz.ntmps164 (by exact Nat.le_of_ble_eq_true rfl) fun w0 M0 => ?_
 have hN := h.net
 have hfl := h.nJ
 have hcl := mj h.right
 have hG := sI (has := has) less
 have hn : 0 < (y.cells + 1) := Nat.succ_pos _
 refine aG (aA (bR rfl (cJ rfl (aD (aC (aG (au ?_)))))))
 refine cg (fun (b : {b : List Int // LK fl (y.cells + 1) (dF has less) a b}) => live [(0, Ty.pp (dW y fl 1000 fl.length)), (3, Ty.pp [Ty.nd th h1 h2, Ty.bool less])] [(1000, Cont.vec cy 3 b.1)]) (fun b => (300 * fl.length - lB fl (dF has less) b.1).toNat) (⟨a, NI hfe⟩) ?_ fun b => ?_
 ·(refine dG.mk' ?_ ?_ <;> (repeat' (first | exact aI | exact aJ | refine aB ?_ (Ty.aT _) | refine aB ?_ (Ty.aE _) | refine aF rfl (Cont.aE _) ?_)))
 have hF : lH y fl b.1 := ⟨h.right, h.net, h.bd, b.2.feas.1, h.nJ⟩
 have hal := hF.inb.1
 refine au (aG (aA (jF rfl ?_)))
 refine aZ rfl rfl rfl (by exact Nat.le_of_ble_eq_true rfl) ?_
 refine bu [(1000, 1000)] [] [(1000, Cont.vec cy 3 b.1)] (Hu y fl b.1 hF th h1 h2 has hf less) rfl rfl (aH (aH bK (aM rfl rfl)) (eW (aH (aH (aH (aH (aH (aH bK (eF (by exact List.mem_cons_self))) (aM rfl rfl)) (aM rfl rfl)) (aM rfl rfl)) (aM rfl rfl)) (aM rfl rfl)))) (bq (a := 1000) (b := 1000) (by exact List.mem_cons_self) rfl (cA (by exact List.mem_cons_self) rfl) pre_nil) (bG (a := 1000) (b := 1000) (by decide) rfl (cA (by decide) rfl) post_nil) (aM rfl rfl) ?_
 refine Ns rfl (aD (aC (aG (aG (aA (Nh rfl (Fw LP rfl (aD (aC ?_)))))))))
 refine ct rfl (fun hc1 => ?_) (fun hc1 => ?_)
 ·
  refine cj (aQ (gK rfl (aQ (av rfl (aC (aG ?_))))))
  have hb : b.1 = (gN fl (y.cells + 1) (dF has less) a) := b.2.done (List.isEmpty_iff.1 hc1)
  have hF2 : lH y fl (gN fl (y.cells + 1) (dF has less) a) := by rw [← hb]; exact hF
  have hal2 := hF2.inb.1
  refine gT (tg := 1000) rfl (Cont.dn hb) ?_
  refine aA (cJ rfl (aD (aC (aG (aG (aA (jF rfl (b9 rfl ?_))))))))
  refine aR rfl rfl rfl rfl rfl (by decide) ?_
  refine aO rfl rfl rfl rfl (ow rfl rfl rfl (bS rfl (aD (aC (au ?_)))))
  refine cg (fun (i : {i : Nat // i ≤ fl.length}) => live [(0, Ty.pp (dW y fl 1000 fl.length)), (3, Ty.pp [Ty.nd th h1 h2, Ty.bool less]), (11, Ty.int .i64 (ij has (gN fl (y.cells + 1) (dF has less) a) i.1)), (43, Ty.vs 1000 fl.length), (44, Ty.int .i64 fl.length), (45, Ty.int .i64 (i.1 : Nat))] [(1000, Cont.vec cy 3 (gN fl (y.cells + 1) (dF has less) a))]) (fun i => fl.length - i.1) (⟨0, by omega⟩) ?_ fun i => ?_
  ·(refine dG.mk' ?_ ?_ <;> (repeat' (first | exact aI | exact aJ | refine aB ?_ (Ty.aT _) | refine aB ?_ (Ty.aE _) | refine aF rfl (Cont.aE _) ?_ | refine aB ?_ ?_)))
   all_goals exact Ty.aa (by unfold ij; rfl)
  have hi := i.2
  have hup := EU (has := has) (x := (gN fl (y.cells + 1) (dF has less) a)) (k := i.1) fun q hq => (hF2.LG (by omega)).1
  refine aG (aA (bJ rfl rfl rfl (aD (aC (aG ?_)))))
  refine aj rfl (fun hc2 => ?_) (fun hc2 => ?_)
  ·
   refine aq (aC (aG (au (aG (aA (bS rfl ?_))))))
   refine eJ rfl rfl rfl rfl rfl (by omega) ?_
   refine eo rfl rfl rfl (by decide) rfl rfl (by omega) rfl ?_
   refine cJ rfl (cJ rfl (aD (aC (aG ?_))))
   have hai := (hF2.LG (show i.1 < fl.length by omega)).1
   refine aA ?_
   refine aR rfl rfl rfl rfl rfl (by decide) ?_
   refine aO rfl rfl rfl rfl (bS rfl ?_)
   refine eX rfl (hf i.1 (by omega)) rfl ?_
   refine aD (aC ?_)
   refine ct rfl (fun hc3 => ?_) (fun hc3 => ?_)
   ·
    refine aA (bS rfl (bS rfl ?_))
    refine cD rfl rfl (by omega) (by omega) ?_
    refine cJ rfl (aD (bV (aC (aA ?_))))
    refine cD rfl rfl (by omega) (by omega) ?_
    refine bS rfl (aD ?_)
    refine bk (⟨i.1 + 1, by omega⟩) ?_ (by show fl.length - (i.1 + 1) < fl.length - i.1; omega)
    (refine dG.mk' ?_ ?_ <;> (repeat' (first | exact aI | exact aJ | refine aB ?_ (Ty.aT _) | refine aB ?_ (Ty.aE _) | refine aF rfl (Cont.aE _) ?_ | refine aB ?_ ?_)))
    all_goals skip
    all_goals exact Ty.aa (FX hc3)
   refine aq (bV (aC (aA ?_)))
   refine cD rfl rfl (by omega) (by omega) ?_
   refine bS rfl (aD ?_)
   refine bk (⟨i.1 + 1, by omega⟩) ?_ (by show fl.length - (i.1 + 1) < fl.length - i.1; omega)
   (refine dG.mk' ?_ ?_ <;> (repeat' (first | exact aI | exact aJ | refine aB ?_ (Ty.aT _) | refine aB ?_ (Ty.aE _) | refine aF rfl (Cont.aE _) ?_ | refine aB ?_ ?_)))
   all_goals skip
   all_goals exact Ty.aa (GS hc3)
  refine cj (aQ (aQ (av rfl (aC (aG (aA (bS rfl (cJ rfl (aD ?_)))))))))
  refine aC (bE ?_)
  refine gL [1000] rfl rfl (by decide) (by repeat (first | exact fC | refine dy rfl (cA (by decide) rfl) ?_)) ?_
  all_goals skip
  all_goals exact fS (n9 rfl rfl (congrArg (Ty.int .i64) ((JF (by have := i.2; omega)).trans (Is fl has _))))
 refine aq (aC (aG ?_))
 refine iF (s := 5) rfl (show (Ty.Fa fy (cO fl b.1 (y.cells + 1) (dF has less))).Sub (Ty.sl fy (cO fl b.1 (y.cells + 1) (dF has less))) from Ty.K5) ?_
 have hne : ¬ (cO fl b.1 (y.cells + 1) (dF has less)) = [] := fun e => by rw [e] at hc1; cases hc1
 have hnx := b.2.next hN hn h.bd hG hne
 have hC := hnx.2.2
 have hlen := hC.nJ
 refine aA (cJ rfl (aD (aC (aG (aG (aA (gw rfl (dP rfl rfl rfl (bS rfl ?_)))))))))
 refine aD (aC (au ?_))
 refine cg (fun (j : {j : Nat // j ≤ (cO fl b.1 (y.cells + 1) (dF has less)).length}) => live [(0, Ty.pp (dW y fl 1000 fl.length)), (3, Ty.pp [Ty.nd th h1 h2, Ty.bool less]), (5, Ty.sl fy (cO fl b.1 (y.cells + 1) (dF has less))), (6, Ty.int .i64 (ej fl b.1 300 ((cO fl b.1 (y.cells + 1) (dF has less)).take j.1))), (19, Ty.sl fy (cO fl b.1 (y.cells + 1) (dF has less))), (20, Ty.int .i64 (cO fl b.1 (y.cells + 1) (dF has less)).length), (21, Ty.int .i64 (j.1 : Nat))] [(1000, Cont.vec cy 3 b.1)]) (fun j => (cO fl b.1 (y.cells + 1) (dF has less)).length - j.1) (⟨0, by omega⟩) ?_ fun j => ?_
 ·(refine dG.mk' ?_ ?_ <;> (repeat' (first | exact aI | exact aJ | refine aB ?_ (Ty.aT _) | refine aB ?_ (Ty.aE _) | refine aF rfl (Cont.aE _) ?_ | refine aB ?_ ?_)))
  all_goals exact Ty.aa (wL _ _ _)
 have hj := j.2
 refine aG (aA (bJ rfl rfl rfl (aD (aC (aG ?_)))))
 refine aj rfl (fun hc4 => ?_) (fun hc4 => ?_)
 ·
  refine aq (aC (aG (au (aG (aA ?_)))))
  refine bf rfl rfl rfl rfl rfl rfl (by omega) ?_
  refine aZ rfl rfl rfl (by exact Nat.le_of_ble_eq_true rfl) ?_
  refine cE rfl (by exact List.cons_ne_nil _ _) rfl ?_
  refine b8 rfl rfl (by decide) rfl rfl rfl rfl rfl rfl ?_
  refine aD (aC (aG ?_))
  have hwj := hC.ways _ (cx (xs := (cO fl b.1 (y.cells + 1) (dF has less))) (k := j.1) (by omega))
  refine aA (jF rfl ?_)
  refine bh rfl rfl (by decide) rfl rfl (by exact Nat.le_of_ble_eq_true rfl) ?_
  refine dO [1000] (Du y fl b.1 hF (nth (cO fl b.1 (y.cells + 1) (dF has less)) j.1) hwj.1) rfl (aL (jm (aL (af (bI rfl rfl)) (aL (af (bI rfl rfl)) (aL (af (bI rfl rfl)) (aL (af (bI rfl rfl)) (aL (af (bI rfl rfl)) (aL (g7 rfl hal (by decide) rfl) bU))))))) (aL (af (bI rfl rfl)) bU)) (by exact pq (by repeat (first | exact p9 | refine n7 (by exact dA _ _) ?_))) ?_
  refine qJ rfl (bO rfl rfl (bO rfl rfl (cJ rfl (cJ rfl (aD (aC (aA (bS rfl (bS rfl ?_)))))))))
  refine bt (E := cy) (xs := [_]) rfl rfl rfl rfl rfl (by decide) (by decide) (by repeat (first | exact (aY.nil : aY _ _ [] _) | (show aY _ _ ((_, _) :: _) _; apply aY.one; (· exact (rfl : _ = Ty.int _ _)); (· exact rfl)))) (by exact rfl) rfl ?_
  refine bA (rI _ _) rfl rfl rfl rfl rfl (cJ rfl (aD (bV (aC (aA ?_)))))
  refine cD rfl rfl (by omega) (by omega) ?_
  refine bS rfl (aD ?_)
  refine bk (⟨j.1 + 1, by omega⟩) ?_ (by show (cO fl b.1 (y.cells + 1) (dF has less)).length - (j.1 + 1) < (cO fl b.1 (y.cells + 1) (dF has less)).length - j.1; omega)
  (refine dG.mk' ?_ ?_ <;> (repeat' (first | exact aI | exact aJ | refine aB ?_ (Ty.aT _) | refine aB ?_ (Ty.aE _) | refine aF rfl (Cont.aE _) ?_ | refine aB ?_ ?_)))
  all_goals skip
  all_goals exact Ty.aa (by rw [eG (by omega)]; exact wD)
 refine cj (aQ (aQ (av rfl (aC ?_))))
 have hmp := pV (fl := fl) (a := b.1) (m := 300) (by decide) (cO fl b.1 (y.cells + 1) (dF has less)) hC.ways
 have hml := (rW (fl := fl) (a := b.1) 300 (cO fl b.1 (y.cells + 1) (dF has less))).1
 refine iF (s := 6) rfl (Ty.aa (by rw [List.take_of_length_le (by omega)] : _ = ej fl b.1 300 (cO fl b.1 (y.cells + 1) (dF has less)))) ?_
 refine aA (jF rfl (gw rfl (bS rfl ?_)))
 refine bu [(1000, 1000)] [] [(1000, Cont.vec cy 3 (eC b.1 (cO fl b.1 (y.cells + 1) (dF has less)) (ej fl b.1 300 (cO fl b.1 (y.cells + 1) (dF has less)))))] (GZ y fl b.1 hF (cO fl b.1 (y.cells + 1) (dF has less)) (by omega) (fun w hw => (hC.ways w hw).1) (ej fl b.1 300 (cO fl b.1 (y.cells + 1) (dF has less))) (by omega)) rfl rfl (aH (aH (aH bK (aM rfl rfl)) (aM rfl rfl)) (eW (aH (aH (aH (aH (aH (aH bK (eF (by exact List.mem_cons_self))) (aM rfl rfl)) (aM rfl rfl)) (aM rfl rfl)) (aM rfl rfl)) (aM rfl rfl)))) (bq (a := 1000) (b := 1000) (by exact List.mem_cons_self) rfl (cA (by exact List.mem_cons_self) rfl) pre_nil) (bG (a := 1000) (b := 1000) (by decide) rfl (cA (by decide) rfl) post_nil) (aM rfl rfl) ?_
 refine aD (bV ?_)
 refine bk (⟨eC b.1 (cO fl b.1 (y.cells + 1) (dF has less)) (ej fl b.1 300 (cO fl b.1 (y.cells + 1) (dF has less))), hnx.1⟩) ?_ (by exact hnx.2.1)
 (refine dG.mk' ?_ ?_ <;> (repeat' (first | exact aI | exact aJ | refine aB ?_ (Ty.aT _) | refine aB ?_ (Ty.aE _) | refine aF rfl (Cont.aE _) ?_)))
 all_goals skip
set_option maxRecDepth 100000 in
theorem CK (y : ay) (fl : List cB) (a : List Int) (h : lH y fl a) (hfe : gQ fl (y.cells + 1) a) (th : Ty) (h1 : th.deps = []) (h2 : th.cdeps = []) (has : Nat → Bool) (hf : ∀ i, i < fl.length → oP Tryz.prog (Ty.nd th h1 h2) [Ty.int .i64 ((i : Nat) : Int)] (Ty.bool (has i))) (ho : th.one = true) : eR Tryz.prog 87 [1000] [(1000, Cont.vec cy 3 a)] [Ty.pp (dW y fl 1000 fl.length), Ty.nd th h1 h2] [(1000, Cont.vec cy 3 (xH fl (y.cells + 1) has a))] (Ty.agg (dx.tys (gW fl (y.cells + 1) has))) := by
 refine dw Tryz.func87 rfl (by decide) Tryz.ntmps87 (by exact Nat.le_of_ble_eq_true rfl) fun w0 M0 => ?_
 have hsp := rE (has := has) h.net (Nat.succ_pos _) h.bd hfe
 have hF : lH y fl (AN fl (y.cells + 1) has a) := ⟨h.right, h.net, h.bd, hsp.1.1, h.nJ⟩
 refine aG (aA ?_)
 refine cE rfl (by exact List.cons_ne_nil _ _) rfl ?_
 refine aD (aC (aG (aA (jF rfl ?_))))
 refine eL (ty := Ty.nd th h1 h2) rfl ?_
 refine dD rfl rfl (by exact List.cons_ne_nil _ _) rfl (aY.one (ty := Ty.nd th h1 h2) rfl ho (aY.one (ty := Ty.bool true) rfl rfl aY.nil)) (by exact (rfl : _ = some [_, _])) ?_
 refine bu [(1000, 1000)] [] [(1000, Cont.vec cy 3 (AN fl (y.cells + 1) has a))] (GW y fl a h hfe th h1 h2 has hf true) rfl rfl (aH (aH bK (aM rfl rfl)) (eW (aH (aH (aH (aH (aH (aH bK (eF (by exact List.mem_cons_self))) (aM rfl rfl)) (aM rfl rfl)) (aM rfl rfl)) (aM rfl rfl)) (aM rfl rfl)))) (bq (a := 1000) (b := 1000) (by exact List.mem_cons_self) rfl (cA (by exact List.mem_cons_self) rfl) pre_nil) (bG (a := 1000) (b := 1000) (by decide) rfl (cA (by decide) (lo_eq _ _ _ _)) post_nil) (aM rfl rfl) ?_
 refine cJ rfl (aD (aC (aG (aA (bS rfl (jF rfl ?_))))))
 refine eL (ty := Ty.nd th h1 h2) rfl ?_
 refine dD rfl rfl (by exact List.cons_ne_nil _ _) rfl (aY.one (ty := Ty.nd th h1 h2) rfl ho (aY.one (ty := Ty.bool false) rfl rfl aY.nil)) (by exact (rfl : _ = some [_, _])) ?_
 refine bu [(1000, 1000)] [] [(1000, Cont.vec cy 3 (xH fl (y.cells + 1) has a))] (GW y fl (AN fl (y.cells + 1) has a) hF hsp.1 th h1 h2 has hf false) rfl rfl (aH (aH bK (aM rfl rfl)) (eW (aH (aH (aH (aH (aH (aH bK (eF (by exact List.mem_cons_self))) (aM rfl rfl)) (aM rfl rfl)) (aM rfl rfl)) (aM rfl rfl)) (aM rfl rfl)))) (bq (a := 1000) (b := 1000) (by exact List.mem_cons_self) rfl (cA (by exact List.mem_cons_self) rfl) pre_nil) (bG (a := 1000) (b := 1000) (by decide) rfl (cA (by decide) (hi_eq _ _ _ _)) post_nil) (aM rfl rfl) ?_
 refine dD rfl rfl (by exact List.cons_ne_nil _ _) rfl (by repeat (first | exact (aY.nil : aY _ _ [] _) | (show aY _ _ ((_, _) :: _) _; apply aY.one; (· exact (rfl : _ = Ty.int _ _)); (· exact rfl)))) (by exact (rfl : _ = some [_, _])) ?_
 refine b8 rfl rfl (by decide) rfl rfl rfl rfl rfl rfl ?_
 refine aD (aC (bE ?_))
 refine DR [1000] rfl rfl rfl rfl (by decide) rfl rfl rfl (by decide) (by repeat (first | exact fC | refine dy rfl (cA (by decide) rfl) ?_)) ?_
 all_goals skip
 all_goals exact fS (n9 rfl rfl (congrArg (fun s => Ty.agg (dx.tys s)) (I4 h.net (Nat.succ_pos _) h.bd hfe)))
set_option maxRecDepth 100000 in
theorem Lp (y : ay) (c : Nat → Bool) (a : List Int) (hr : y.cU) (hl : a.length = (aK y c).length) : eB Tryz.prog 120 [Ty.pp (mJ y (aK y c) a)] (qT (gD y a)) := by
 refine bC Tryz.func120 rfl (by decide) Tryz.ntmps120 (by exact Nat.le_of_ble_eq_true rfl) fun w0 M0 => ?_
 have hfl := fG (y := y) (c := c)
 have h1 := hr.bins
 have h2 := hr.days
 have h3 := D_eq hr
 have h4 := hr.moves
 have hf34 : (aK y c).length ≤ 34 := ig hr
 refine aG (aA ?_)
 refine cE rfl (by exact List.cons_ne_nil _ _) rfl ?_
 refine aD (aC (aG (aA ?_)))
 refine cE rfl (by exact List.cons_ne_nil _ _) rfl ?_
 refine aD (aC (aG (aG (aA (jF rfl (b9 rfl ?_))))))
 refine aR rfl rfl rfl rfl rfl (by decide) ?_
 refine aR rfl rfl rfl rfl rfl (by decide) ?_
 refine aO rfl rfl rfl rfl (dP rfl rfl rfl (bS rfl (aD (aC (au ?_)))))
 refine cg (fun (k : {k : Nat // k ≤ y.bins.length}) => live [(0, Ty.pp (mJ y (aK y c) a)), (2, Ty.ptr 3 0), (3, Ty.ptr 4 0), (9, Ty.sl dr y.bins), (10, Ty.int .i64 y.bins.length), (11, Ty.int .i64 (k.1 : Nat))] [(3, Cont.cells 30 [Ty.ex (.slice none 0 0), Ty.ex (.slice none 0 0)]), (4, Cont.cells 30 [Ty.row cy 3 26 (hO y a k.1), Ty.ex (.slice none 0 0)])]) (fun k => y.bins.length - k.1) (⟨0, by omega⟩) ?_ fun k => ?_
 ·(refine dG.mk' ?_ ?_ <;> (repeat' (first | exact aI | exact aJ | exact cT | refine aB ?_ (Ty.aT _) | refine aB ?_ (Ty.aE _) | refine aF rfl (Cont.aE _) ?_ | refine aF rfl (Cont.cS ?_) ?_ | refine bM ?_ (Ty.aE _) | refine bM ?_ ?_)))
  all_goals exact F8 CC
 have hk := k.2
 have hfk := CN (y := y) (a := a) k.1
 refine aG (aA (bJ rfl rfl rfl (aD (aC (aG ?_)))))
 refine aj rfl (fun hc1 => ?_) (fun hc1 => ?_)
 ·
  refine aq (aC (aG (au (aG (aA (bS rfl (cJ rfl (aD (aC ?_)))))))))
  have hkl := Hq hl (show k.1 < y.bins.length by omega)
  refine cZ mixed rfl ?_
  refine aN rfl rfl rfl rfl rfl (by decide) ?_
  refine aU rfl rfl (by decide) rfl rfl rfl ?_
  refine jF rfl (b9 rfl ?_)
  refine aR rfl rfl rfl rfl rfl (by decide) ?_
  refine aO rfl rfl rfl rfl (jF rfl (bS rfl ?_))
  refine dO [] (Ce y hr k.1 0 (by omega) (Nat.zero_le _)) rfl (aL (jU (l1 := bZ y) (l2 := [Ty.sl dZ (aK y c), Ty.sl cy a]) rfl rfl) (aL (af (bI rfl rfl)) (aL (af (bI rfl rfl)) bU))) (by exact dA _ _) ?_
  refine bf rfl rfl rfl rfl rfl rfl (by omega) ?_
  refine aO rfl rfl rfl rfl ?_
  refine bt (E := cy) (xs := [_]) rfl rfl rfl rfl rfl (by decide) (by decide) (by repeat (first | exact (aY.nil : aY _ _ [] _) | (show aY _ _ ((_, _) :: _) _; apply aY.one; (· exact (rfl : _ = Ty.int _ _)); (· exact rfl)))) (by exact rfl) rfl ?_
  refine fZ rfl rfl (by decide) rfl rfl rfl rfl rfl rfl (by decide) (by (simp <;> omega)) (by (simp <;> omega)) ?_
  refine aN rfl rfl rfl rfl rfl (by decide) ?_
  refine cw rfl rfl (by decide) rfl rfl (by exact (rfl : _ = Ty.row _ _ _ _)) rfl (by exact Nat.le_of_ble_eq_true rfl) rfl rfl (by exact rfl) ?_
  refine aD ?_
  refine ⟨by kernel_rfl, ?_⟩
  refine bV (aC (aA ?_))
  refine cD rfl rfl (by omega) (by omega) ?_
  refine bS rfl (aD ?_)
  refine bk (⟨k.1 + 1, by omega⟩) ?_ (by show y.bins.length - (k.1 + 1) < y.bins.length - k.1; omega)
  (refine dG.mk' ?_ ?_ <;> (repeat' (first | exact aI | exact aJ | exact cT | refine aB ?_ (Ty.aT _) | refine aB ?_ (Ty.aE _) | refine aF rfl (Cont.aE _) ?_ | refine aF rfl (Cont.cS ?_) ?_ | refine bM ?_ (Ty.aE _) | refine bM ?_ ?_)))
  all_goals skip
  all_goals exact Ty.eU (Bw _)
 refine cj (aQ (aQ (av rfl (aC (aG (cZ mixed rfl (jF rfl (b9 rfl ?_))))))))
 refine aR rfl rfl rfl rfl rfl (by decide) ?_
 refine aO rfl rfl rfl rfl (jF rfl (b9 rfl ?_))
 refine aR rfl rfl rfl rfl rfl (by decide) ?_
 refine aO rfl rfl rfl rfl (dP rfl rfl rfl (jF rfl (b9 rfl ?_)))
 refine aR rfl rfl rfl rfl rfl (by decide) ?_
 refine aR rfl rfl rfl rfl rfl (by decide) ?_
 refine aO rfl rfl rfl rfl (dP rfl rfl rfl ?_)
 refine iC rfl rfl (by omega) (by omega) ?_
 refine G8 (lo := y.bins.length * (y.D + 1)) rfl (by exact congrArg (Ty.int .i64) (by rw [hfl]; omega : ((aK y c).length : Int) - (y.moves.length : Int) = ((y.bins.length * (y.D + 1) : Nat) : Int))) rfl rfl rfl rfl (by rw [hl]; omega) ?_
 refine bA (AX _ (by rw [List.length_drop]; omega)) rfl rfl rfl rfl rfl ?_
 refine aN rfl rfl rfl rfl rfl (by decide) ?_
 refine cw rfl rfl (by decide) rfl rfl (by exact (rfl : _ = Ty.sl _ _)) rfl (by exact Nat.le_of_ble_eq_true rfl) rfl rfl (by exact rfl) ?_
 refine aD ?_
 refine ⟨by kernel_rfl, ?_⟩
 refine aC (aG (aA ?_))
 refine bh rfl rfl (by decide) rfl rfl (by exact Nat.le_of_ble_eq_true rfl) ?_
 refine b8 rfl rfl (by decide) rfl rfl rfl rfl rfl rfl ?_
 refine aD (aC (bE ?_))
 refine zl rfl rfl rfl rfl (by decide) rfl rfl rfl ?_
 exact vE (ts := jo (gD y a)) (jf (wI (by decide) (show hO y a k.1 = (gD y a).first by rw [show k.1 = y.bins.length by have := k.2; omega]; exact congrArg fH.first (told_eq y a))) (jf (cQ rfl rfl) rO))
end Go.Proofs.YtelbollidfdcjaaGreat
