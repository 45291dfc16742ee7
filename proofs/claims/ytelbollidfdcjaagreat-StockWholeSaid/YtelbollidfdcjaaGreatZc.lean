/- Lemmas: the program and the reference walked, plain laws. -/
import Derived.Test.YtelbollidfdcjaaGreatZb
namespace Go.Proofs.YtelbollidfdcjaaGreat
open Go Go.T
set_option maxHeartbeats 2000000
structure bB.Small (y : bB) : Prop where
  bins : y.bins.length ≤ 1000
  moves : y.moves.length ≤ 1000
  levels : y.levels.length ≤ 1000
def wk (y : bB) : Ty := Ty.L4 135 [fK y]
def D5 (y : bB) : Ty := Ty.pp [Ty.jM 142 [Ty.pp [wk y]]]
theorem EZ {y : bB} (h : lK y = false) : 1 ≤ y.days ∧ y.days ≤ 5 := by
 unfold lK at h
 simp only [Bool.or_eq_false_iff, Bool.not_eq_false', g8] at h
 exact h.1.1.1
def eI (y : bB) (k : Int) : Int := if bq y = 0 then if y.bin k = true then 0 else 1 else bq y
theorem EH {y : bB} {k : Int} (h : (decide (bq y = 0) && !y.bin k) = true) : 1 = eI y k := by
 rw [Bool.and_eq_true, decide_eq_true_eq, Bool.not_eq_true'] at h
 unfold eI; rw [if_pos h.1, if_neg (by rw [h.2]; decide)]
theorem Er {y : bB} {k : Int} (h : (decide (bq y = 0) && !y.bin k) = false) : bq y = eI y k := by
 unfold eI
 by_cases e : bq y = 0
 ·rw [decide_eq_true e, Bool.true_and, Bool.not_eq_false'] at h
  rw [if_pos e, if_pos h, e]
 rw [if_neg e]
attribute [local irreducible] iw fu nh ru jS jR jO jN jQ rZ jL rj eO gy rY g9 rX nth fT dg aq eA bodyPost Exit.then Exit.inBlock Code.wp Code.wpIn rm jU rq rW jP eT ct cx bodyPostM eU
set_option maxRecDepth 100000 in
theorem tq (n lo hi : Int) : eA Tryz.prog 111 [Ty.int .i64 n, Ty.int .i64 lo, Ty.int .i64 hi] (Ty.bool (Ac n lo hi)) := by
 refine az Tryz.func111 rfl (by decide) Tryz.ntmps111 (by exact Nat.le_of_ble_eq_true rfl) fun w0 M0 => ?_
 refine aE (aA (dZ rfl (aD (aC (aE (aA (bO rfl (bO rfl (bD rfl rfl rfl ?_)))))))))
 refine gO rfl ?_
 apply aT (s := 10) rfl rfl rfl
 ·intro hg; apply aU; (refine bO rfl ?_); refine aD ?_; exact rfl
 ·exact rfl
 ·exact rfl
 apply aT (s := 10) rfl rfl rfl
 ·intro hg; apply aU; (refine bO rfl ?_); refine aD ?_; exact rfl
 ·exact rfl
 ·exact rfl
 apply aT (s := 10) rfl rfl rfl
 ·intro hg; apply aN (s := 11) rfl (by (rw [hg]; rfl)); apply aN (s := 12) rfl (by (rw [hg]; rfl)); apply aU; (refine bD rfl rfl rfl ?_); refine aD ?_; exact rfl
 ·exact rfl
 ·exact rfl
 refine eL rfl rfl (dZ rfl (aD (aC (bC (bl rfl rfl ?_)))))
 all_goals exact cI rfl rfl
set_option maxRecDepth 100000 in
theorem C1 (y : bB) (hs : y.Small) (n : Int) : eA Tryz.prog 135 [fK y, Ty.int .i64 n] (Ty.bool (y.bin n)) := by
 refine az Tryz.func135 rfl (by decide) Tryz.ntmps135 (by exact Nat.le_of_ble_eq_true rfl) fun w0 M0 => ?_
 have hs1 := hs.bins
 refine aE (aA (bM rfl (dZ rfl (aD (aC (aE (aA (bO rfl ?_))))))))
 refine aS rfl rfl rfl rfl rfl (by decide) ?_
 refine aM rfl rfl rfl rfl (cz rfl rfl rfl ?_)
 refine fU rfl rfl (by omega) (by omega) ?_
 refine ay (tq _ _ _) rfl rfl rfl rfl rfl (dZ rfl (aD (aC (bC (bl rfl rfl ?_)))))
 all_goals exact cI rfl rfl
set_option maxRecDepth 100000 in
theorem LB (y : bB) (n : Int) : eA Tryz.prog 122 [fK y, Ty.int .i64 n] (Ty.bool (y.time n)) := by
 refine az Tryz.func122 rfl (by decide) Tryz.ntmps122 (by exact Nat.le_of_ble_eq_true rfl) fun w0 M0 => ?_
 refine aE (aA (bM rfl (dZ rfl (aD (aC (aE (aA (bO rfl ?_))))))))
 refine aS rfl rfl rfl rfl rfl (by decide) ?_
 refine aM rfl rfl rfl rfl (ay (tq _ _ _) rfl rfl rfl rfl rfl (dZ rfl (aD (aC (bC (bl rfl rfl ?_))))))
 all_goals exact cI rfl rfl
set_option maxRecDepth 100000 in
theorem r8 (s : Span) : eA Tryz.prog 145 [Ty.agg (dA.tys s)] (Ty.bool (gH s)) := by
 refine az Tryz.func145 rfl (by decide) Tryz.ntmps145 (by exact Nat.le_of_ble_eq_true rfl) fun w0 M0 => ?_
 refine aE (aA (bM rfl (dZ rfl (aD (aC (aE (aA ?_)))))))
 refine aS rfl rfl rfl rfl rfl (by decide) ?_
 refine aM rfl rfl rfl rfl (ay (tq _ _ _) rfl rfl rfl rfl rfl (gO rfl ?_))
 apply aT (s := 6) rfl rfl rfl
 ·intro hg; apply aU; (refine aS rfl rfl rfl rfl rfl (by decide) ?_); refine aD ?_; exact rfl
 ·exact rfl
 ·exact rfl
 apply aT (s := 6) rfl rfl rfl
 ·intro hg; apply aN (s := 7) rfl (by (rw [hg]; rfl)); apply aU; (refine aM rfl rfl rfl rfl ?_); refine aD ?_; exact rfl
 ·exact rfl
 ·exact rfl
 apply aT (s := 6) rfl rfl rfl
 ·intro hg; apply aN (s := 8) rfl (by (rw [hg]; rfl)); apply aU; (refine ay (tq _ _ _) rfl rfl rfl rfl rfl ?_); refine aD ?_; exact rfl
 ·exact rfl
 ·exact rfl
 refine eL rfl rfl (dZ rfl (aD (aC (bC (bl rfl rfl ?_)))))
 all_goals exact cI rfl rfl
set_option maxRecDepth 100000 in
theorem vJ (s : Span) : eA Tryz.prog 154 [Ty.agg (dA.tys s)] (Ty.bool (gr s)) := by
 refine az Tryz.func154 rfl (by decide) Tryz.ntmps154 (by exact Nat.le_of_ble_eq_true rfl) fun w0 M0 => ?_
 refine aE (aA (bM rfl (dZ rfl (aD (aC (aE (aA ?_)))))))
 refine aS rfl rfl rfl rfl rfl (by decide) ?_
 refine aM rfl rfl rfl rfl ?_
 refine aS rfl rfl rfl rfl rfl (by decide) ?_
 refine aM rfl rfl rfl rfl (bD rfl rfl rfl (dZ rfl (aD (aC (bC (bl rfl rfl ?_))))))
 all_goals exact cI rfl rfl
set_option maxRecDepth 100000 in
theorem AN (y : bB) (hs : y.Small) (n : Int) : eA Tryz.prog 142 [Ty.int .i64 n, Ty.pp [wk y]] (Ty.bool (y.fin n)) := by
 refine az Tryz.func142 rfl (by decide) Tryz.ntmps142 (by exact Nat.le_of_ble_eq_true rfl) fun w0 M0 => ?_
 refine aE (aA (dZ rfl (aD (aC (aE (aA (bO rfl (bD rfl rfl rfl (gO rfl ?_)))))))))
 apply aT (s := 6) rfl rfl rfl
 ·intro hg; apply aU; (refine aM rfl rfl rfl rfl ?_); refine aD ?_; exact rfl
 ·exact rfl
 ·exact rfl
 apply aT (s := 6) rfl rfl rfl
 ·intro hg; apply aU; (refine bO rfl ?_); refine aD ?_; exact rfl
 ·exact rfl
 ·exact rfl
 apply aT (s := 6) rfl rfl rfl
 ·intro hg; apply aN (s := 7) rfl (by (rw [hg]; rfl)); apply aN (s := 8) rfl (by (rw [hg]; rfl)); apply aU; (refine eV rfl (Di (C1 y hs n) rfl rfl rfl rfl rfl rfl) rfl ?_); refine aD ?_; exact rfl
 ·exact rfl
 ·exact rfl
 refine n4 rfl rfl (dZ rfl (aD (aC (bC (bl rfl rfl ?_)))))
 all_goals exact cI rfl rfl
set_option maxRecDepth 100000 in
theorem Gt (b : s7) : eA Tryz.prog 144 [Ty.agg (eG.tys b)] (Ty.bool (Ac b.holds 0 300 && gH b.first)) := by
 refine az Tryz.func144 rfl (by decide) Tryz.ntmps144 (by exact Nat.le_of_ble_eq_true rfl) fun w0 M0 => ?_
 refine aE (aA (bM rfl (dZ rfl (aD (aC (aE (aA ?_)))))))
 refine aS rfl rfl rfl rfl rfl (by decide) ?_
 refine aM rfl rfl rfl rfl (ay (tq _ _ _) rfl rfl rfl rfl rfl (gO rfl ?_))
 apply aT (s := 6) rfl rfl rfl
 ·intro hg; apply aU; (refine aS rfl rfl rfl rfl rfl (by decide) ?_); refine aD ?_; exact rfl
 ·exact rfl
 ·exact rfl
 apply aT (s := 6) rfl rfl rfl
 ·intro hg; apply aN (s := 7) rfl (by (rw [hg]; rfl)); apply aU; (refine aa rfl rfl rfl (by exact Nat.le_of_ble_eq_true rfl) ?_); refine aD ?_; exact rfl
 ·exact rfl
 ·exact rfl
 apply aT (s := 6) rfl rfl rfl
 ·intro hg; apply aN (s := 8) rfl (by (rw [hg]; rfl)); apply aU; (refine ay (r8 _) rfl rfl rfl rfl rfl ?_); refine aD ?_; exact rfl
 ·exact rfl
 ·exact rfl
 refine eL rfl rfl (dZ rfl (aD (aC (bC (bl rfl rfl ?_)))))
 all_goals exact cI rfl rfl
set_option maxRecDepth 100000 in
theorem GJ (m : Move) : eA Tryz.prog 147 [Ty.agg (dN.tys m)] (Ty.bool (gH m.sacks)) := by
 refine az Tryz.func147 rfl (by decide) Tryz.ntmps147 (by exact Nat.le_of_ble_eq_true rfl) fun w0 M0 => ?_
 refine aE (aA (bM rfl (dZ rfl (aD (aC (aE (aA ?_)))))))
 refine aS rfl rfl rfl rfl rfl (by decide) ?_
 refine aa rfl rfl rfl (by exact Nat.le_of_ble_eq_true rfl) ?_
 refine ay (r8 _) rfl rfl rfl rfl rfl (dZ rfl (aD (aC (bC (bl rfl rfl ?_)))))
 all_goals exact cI rfl rfl
set_option maxRecDepth 100000 in
theorem HN (l : Level) : eA Tryz.prog 149 [Ty.agg (ej.tys l)] (Ty.bool (gH l.sacks)) := by
 refine az Tryz.func149 rfl (by decide) Tryz.ntmps149 (by exact Nat.le_of_ble_eq_true rfl) fun w0 M0 => ?_
 refine aE (aA (bM rfl (dZ rfl (aD (aC (aE (aA ?_)))))))
 refine aS rfl rfl rfl rfl rfl (by decide) ?_
 refine aa rfl rfl rfl (by exact Nat.le_of_ble_eq_true rfl) ?_
 refine ay (r8 _) rfl rfl rfl rfl rfl (dZ rfl (aD (aC (bC (bl rfl rfl ?_)))))
 all_goals exact cI rfl rfl
set_option maxRecDepth 100000 in
theorem Fi (y : bB) (hs : y.Small) (hd : 1 ≤ y.days ∧ y.days ≤ 5) (m : Move) : eA Tryz.prog 150 [Ty.agg (dN.tys m), Ty.pp (bk y), D5 y] (Ty.bool ((Ac m.day 0 (y.days - 1) && y.fin m.src) && y.fin m.dst)) := by
 refine az Tryz.func150 rfl (by decide) Tryz.ntmps150 (by exact Nat.le_of_ble_eq_true rfl) fun w0 M0 => ?_
 refine aE (aA (bM rfl (dZ rfl (aD (aC (aE (aA ?_)))))))
 refine aS rfl rfl rfl rfl rfl (by decide) ?_
 refine aM rfl rfl rfl rfl ?_
 refine aS rfl rfl rfl rfl rfl (by decide) ?_
 refine aM rfl rfl rfl rfl ?_
 refine fU rfl rfl (by omega) (by omega) ?_
 refine ay (tq _ _ _) rfl rfl rfl rfl rfl (gO rfl ?_)
 apply aT (s := 11) rfl rfl rfl
 ·intro hg; apply aU; (refine aM rfl rfl rfl rfl ?_); refine aD ?_; exact rfl
 ·exact rfl
 ·exact rfl
 apply aT (s := 11) rfl rfl rfl
 ·intro hg; apply aU; (refine aS rfl rfl rfl rfl rfl (by decide) ?_); refine aD ?_; exact rfl
 ·exact rfl
 ·exact rfl
 apply aT (s := 11) rfl rfl rfl
 ·intro hg; apply aN (s := 13) rfl (by (rw [hg]; rfl)); apply aU; (refine aM rfl rfl rfl rfl ?_); refine aD ?_; exact rfl
 ·exact rfl
 ·exact rfl
 apply aT (s := 11) rfl rfl rfl
 ·intro hg; apply aN (s := 12) rfl (by (rw [hg]; rfl)); apply aN (s := 14) rfl (by (rw [hg]; rfl)); apply aU; (refine eV rfl (dO (AN y hs m.src) rfl rfl rfl rfl rfl rfl) rfl ?_); refine aD ?_; exact rfl
 ·exact rfl
 ·exact rfl
 refine eL rfl rfl (gO rfl ?_)
 apply aT (s := 17) rfl rfl rfl
 ·intro hg; apply aU; (refine aM rfl rfl rfl rfl ?_); refine aD ?_; exact rfl
 ·exact rfl
 ·exact rfl
 apply aT (s := 17) rfl rfl rfl
 ·intro hg; apply aU; (refine aS rfl rfl rfl rfl rfl (by decide) ?_); refine aD ?_; exact rfl
 ·exact rfl
 ·exact rfl
 apply aT (s := 17) rfl rfl rfl
 ·intro hg; apply aN (s := 19) rfl (by (rw [hg]; rfl)); apply aU; (refine aM rfl rfl rfl rfl ?_); refine aD ?_; exact rfl
 ·exact rfl
 ·exact rfl
 apply aT (s := 17) rfl rfl rfl
 ·intro hg; apply aN (s := 18) rfl (by (rw [hg]; rfl)); apply aN (s := 20) rfl (by (rw [hg]; rfl)); apply aU; (refine eV rfl (dO (AN y hs m.dst) rfl rfl rfl rfl rfl rfl) rfl ?_); refine aD ?_; exact rfl
 ·exact rfl
 ·exact rfl
 refine eL rfl rfl (dZ rfl (aD (aC (bC (bl rfl rfl ?_)))))
 all_goals exact cI rfl rfl
set_option maxRecDepth 100000 in
theorem Fm (y : bB) (hs : y.Small) (l : Level) : eA Tryz.prog 151 [Ty.agg (ej.tys l), Ty.pp (bk y), Ty.pp [wk y]] (Ty.bool (y.time l.day && y.bin l.bin)) := by
 refine az Tryz.func151 rfl (by decide) Tryz.ntmps151 (by exact Nat.le_of_ble_eq_true rfl) fun w0 M0 => ?_
 refine aE (aA (bM rfl (dZ rfl (aD (aC (aE (aA ?_)))))))
 refine aa rfl rfl rfl (by exact Nat.le_of_ble_eq_true rfl) ?_
 refine aS rfl rfl rfl rfl rfl (by decide) ?_
 refine aM rfl rfl rfl rfl (ay (LB y _) rfl rfl rfl rfl rfl (gO rfl ?_))
 apply aT (s := 9) rfl rfl rfl
 ·intro hg; apply aU; (refine aM rfl rfl rfl rfl ?_); refine aD ?_; exact rfl
 ·exact rfl
 ·exact rfl
 apply aT (s := 9) rfl rfl rfl
 ·intro hg; apply aU; (refine aS rfl rfl rfl rfl rfl (by decide) ?_); refine aD ?_; exact rfl
 ·exact rfl
 ·exact rfl
 apply aT (s := 9) rfl rfl rfl
 ·intro hg; apply aN (s := 11) rfl (by (rw [hg]; rfl)); apply aU; (refine aM rfl rfl rfl rfl ?_); refine aD ?_; exact rfl
 ·exact rfl
 ·exact rfl
 apply aT (s := 9) rfl rfl rfl
 ·intro hg; apply aN (s := 10) rfl (by (rw [hg]; rfl)); apply aN (s := 12) rfl (by (rw [hg]; rfl)); apply aU; (refine eV rfl (Di (C1 y hs l.bin) rfl rfl rfl rfl rfl rfl) rfl ?_); refine aD ?_; exact rfl
 ·exact rfl
 ·exact rfl
 refine eL rfl rfl (dZ rfl (aD (aC (bC (bl rfl rfl ?_)))))
 all_goals exact cI rfl rfl
set_option maxRecDepth 100000 in
theorem Ht (m : Move) : eA Tryz.prog 152 [Ty.agg (dN.tys m)] (Ty.bool (!decide (m.src = m.dst))) := by
 refine az Tryz.func152 rfl (by decide) Tryz.ntmps152 (by exact Nat.le_of_ble_eq_true rfl) fun w0 M0 => ?_
 refine aE (aA (bM rfl (dZ rfl (aD (aC (aE (aA ?_)))))))
 refine aS rfl rfl rfl rfl rfl (by decide) ?_
 refine aM rfl rfl rfl rfl ?_
 refine aS rfl rfl rfl rfl rfl (by decide) ?_
 refine aM rfl rfl rfl rfl (bD rfl rfl rfl (dZ rfl (aD (aC (bC (bl rfl rfl ?_))))))
 all_goals exact cI rfl rfl
set_option maxRecDepth 100000 in
theorem GA (b : s7) : eA Tryz.prog 153 [Ty.agg (eG.tys b)] (Ty.bool (gr b.first)) := by
 refine az Tryz.func153 rfl (by decide) Tryz.ntmps153 (by exact Nat.le_of_ble_eq_true rfl) fun w0 M0 => ?_
 refine aE (aA (bM rfl (dZ rfl (aD (aC (aE (aA ?_)))))))
 refine aS rfl rfl rfl rfl rfl (by decide) ?_
 refine aa rfl rfl rfl (by exact Nat.le_of_ble_eq_true rfl) ?_
 refine ay (vJ _) rfl rfl rfl rfl rfl (dZ rfl (aD (aC (bC (bl rfl rfl ?_)))))
 all_goals exact cI rfl rfl
set_option maxRecDepth 100000 in
theorem Gn (m : Move) : eA Tryz.prog 155 [Ty.agg (dN.tys m)] (Ty.bool (gr m.sacks)) := by
 refine az Tryz.func155 rfl (by decide) Tryz.ntmps155 (by exact Nat.le_of_ble_eq_true rfl) fun w0 M0 => ?_
 refine aE (aA (bM rfl (dZ rfl (aD (aC (aE (aA ?_)))))))
 refine aS rfl rfl rfl rfl rfl (by decide) ?_
 refine aa rfl rfl rfl (by exact Nat.le_of_ble_eq_true rfl) ?_
 refine ay (vJ _) rfl rfl rfl rfl rfl (dZ rfl (aD (aC (bC (bl rfl rfl ?_)))))
 all_goals exact cI rfl rfl
set_option maxRecDepth 100000 in
theorem EM (l : Level) : eA Tryz.prog 156 [Ty.agg (ej.tys l)] (Ty.bool (gr l.sacks)) := by
 refine az Tryz.func156 rfl (by decide) Tryz.ntmps156 (by exact Nat.le_of_ble_eq_true rfl) fun w0 M0 => ?_
 refine aE (aA (bM rfl (dZ rfl (aD (aC (aE (aA ?_)))))))
 refine aS rfl rfl rfl rfl rfl (by decide) ?_
 refine aa rfl rfl rfl (by exact Nat.le_of_ble_eq_true rfl) ?_
 refine ay (vJ _) rfl rfl rfl rfl rfl (dZ rfl (aD (aC (bC (bl rfl rfl ?_)))))
 all_goals exact cI rfl rfl
set_option maxRecDepth 100000 in
theorem kS (y : bB) (hs : y.Small) : eA Tryz.prog 70 [fK y] (Ty.int .i64 (bq y)) := by
 refine az Tryz.func70 rfl (by decide) Tryz.ntmps70 (by exact Nat.le_of_ble_eq_true rfl) fun w0 M0 => ?_
 have hs1 := hs.bins
 have hs2 := hs.moves
 have hs3 := hs.levels
 refine aE (aA (bM rfl (cF rfl (aD (aC (aE (aA ?_)))))))
 refine aa rfl rfl rfl (by exact Nat.le_of_ble_eq_true rfl) ?_
 refine Ec (l := [fK y]) rfl ?_
 refine bz rfl (by exact List.cons_ne_nil _ _) rfl ?_
 refine cZ rfl rfl (by decide) rfl rfl (by exact (rfl : _ = Ty.L4 _ _)) rfl (by exact Nat.le_of_ble_eq_true rfl) rfl rfl (by exact (rfl : _ = [_])) ?_
 refine aD (aC (aE ?_))
 refine kK (tg := 4) [(3, Ty.pp [wk y])] (by decide) rfl ⟨kL (T := 118) (tg := 4) (off := 0) (l := [wk y]) rfl rfl rfl (by decide), trivial⟩ ?_
 refine aA (dH rfl ?_)
 refine bz rfl (by exact List.cons_ne_nil _ _) rfl ?_
 refine cZ rfl rfl (by decide) rfl rfl (by exact (rfl : _ = Ty.jM _ _)) rfl (by exact Nat.le_of_ble_eq_true rfl) rfl rfl (by exact (rfl : _ = [_])) ?_
 refine aD (aC (aE (ak (aE ?_))))
 refine kK (tg := 5) [(4, D5 y)] (by decide) rfl ⟨kL (T := 118) (tg := 5) (off := 0) (l := [Ty.jM 142 [Ty.pp [wk y]]]) rfl rfl rfl (by decide), trivial⟩ ?_
 refine aA ?_
 refine aS rfl rfl rfl rfl rfl (by decide) ?_
 refine aM rfl rfl rfl rfl (ay (tq _ _ _) rfl rfl rfl rfl rfl (dn rfl (gO rfl ?_)))
 apply aT (s := 13) rfl rfl rfl
 ·intro hg; apply aU; (refine aS rfl rfl rfl rfl rfl (by decide) ?_); refine aD ?_; exact rfl
 ·exact rfl
 ·exact rfl
 apply aT (s := 13) rfl rfl rfl
 ·intro hg; apply aN (s := 14) rfl (by (rw [hg]; rfl)); apply aU; (refine aM rfl rfl rfl rfl ?_); refine aD ?_; exact rfl
 ·exact rfl
 ·exact rfl
 apply aT (s := 13) rfl rfl rfl
 ·intro hg; apply aN (s := 15) rfl (by (rw [hg]; rfl)); apply aU; (refine cz rfl rfl rfl ?_); refine aD ?_; exact rfl
 ·exact rfl
 ·exact rfl
 apply aT (s := 13) rfl rfl rfl
 ·intro hg; apply aN (s := 16) rfl (by (rw [hg]; rfl)); apply aU; (refine ay (tq _ _ _) rfl rfl rfl rfl rfl ?_); refine aD ?_; exact rfl
 ·exact rfl
 ·exact rfl
 apply aT (s := 13) rfl rfl rfl
 ·intro hg; apply aN (s := 17) rfl (by (rw [hg]; rfl)); apply aU; (refine dn rfl ?_); refine aD ?_; exact rfl
 ·exact rfl
 ·exact rfl
 refine n4 rfl rfl (gO rfl ?_)
 apply aT (s := 20) rfl rfl rfl
 ·intro hg; apply aU; (refine aS rfl rfl rfl rfl rfl (by decide) ?_); refine aD ?_; exact rfl
 ·exact rfl
 ·exact rfl
 apply aT (s := 20) rfl rfl rfl
 ·intro hg; apply aN (s := 21) rfl (by (rw [hg]; rfl)); apply aU; (refine aM rfl rfl rfl rfl ?_); refine aD ?_; exact rfl
 ·exact rfl
 ·exact rfl
 apply aT (s := 20) rfl rfl rfl
 ·intro hg; apply aN (s := 22) rfl (by (rw [hg]; rfl)); apply aU; (refine cz rfl rfl rfl ?_); refine aD ?_; exact rfl
 ·exact rfl
 ·exact rfl
 apply aT (s := 20) rfl rfl rfl
 ·intro hg; apply aN (s := 23) rfl (by (rw [hg]; rfl)); apply aU; (refine bD rfl rfl rfl ?_); refine aD ?_; exact rfl
 ·exact rfl
 ·exact rfl
 refine n4 rfl rfl (gO rfl ?_)
 apply aT (s := 26) rfl rfl rfl
 ·intro hg; apply aU; (refine aS rfl rfl rfl rfl rfl (by decide) ?_); refine aD ?_; exact rfl
 ·exact rfl
 ·exact rfl
 apply aT (s := 26) rfl rfl rfl
 ·intro hg; apply aN (s := 27) rfl (by (rw [hg]; rfl)); apply aU; (refine aM rfl rfl rfl rfl ?_); refine aD ?_; exact rfl
 ·exact rfl
 ·exact rfl
 apply aT (s := 26) rfl rfl rfl
 ·intro hg; apply aN (s := 28) rfl (by (rw [hg]; rfl)); apply aU; (refine cz rfl rfl rfl ?_); refine aD ?_; exact rfl
 ·exact rfl
 ·exact rfl
 apply aT (s := 26) rfl rfl rfl
 ·intro hg; apply aN (s := 29) rfl (by (rw [hg]; rfl)); apply aU; (refine bD rfl rfl rfl ?_); refine aD ?_; exact rfl
 ·exact rfl
 ·exact rfl
 refine n4 rfl rfl (dZ rfl (aD (aC ?_)))
 refine cW rfl (fun hc1 => ?_) (fun hc1 => ?_)
 ·
  refine aE (aA (cF rfl (aD (aC (bC (bG (aX (bl rfl rfl ?_))))))))
  all_goals skip
  exact bE rfl rfl (congrArg (Ty.int .i64) (by rw [bq, if_pos (show lK y = true from hc1)]))
 refine aE ?_
 refine eS (B := live [(1, Ty.pp (bk y)), (3, Ty.pp [wk y]), (4, D5 y)] []) ?_ ?_
 ·(refine c9.mk' ?_ ?_ <;> (repeat' (first | exact aH | exact aI | refine aB ?_ (Ty.aW _) | refine aB ?_ (Ty.aF _))))
 refine aA ?_
 refine aS rfl rfl rfl rfl rfl (by decide) ?_
 refine aM rfl rfl rfl rfl ?_
 refine ay (tK y.bins (Ty.jM _ []) rfl (fun b => Ac b.holds 0 300 && gH b.first) rfl rfl fun b _ => dO (Gt b) rfl rfl rfl rfl rfl rfl) rfl rfl rfl rfl rfl ?_
 refine dn rfl (dZ rfl (aD (aC ?_)))
 refine cW rfl (fun hc2 => ?_) (fun hc2 => ?_)
 ·
  refine aE (aA (cF rfl (aD (aC (bC (bG (aX (bl rfl rfl ?_))))))))
  all_goals skip
  exact bE rfl rfl (congrArg (Ty.int .i64) (by rw [bq, if_neg (ng (show lK y = false from hc1)), if_pos (show ld y = true from hc2)]))
 refine aE (aA ?_)
 refine aS rfl rfl rfl rfl rfl (by decide) ?_
 refine aM rfl rfl rfl rfl ?_
 refine ay (lS y.moves (Ty.jM _ []) rfl (fun m => gH m.sacks) rfl rfl fun m _ => dO (GJ m) rfl rfl rfl rfl rfl rfl) rfl rfl rfl rfl rfl ?_
 refine dn rfl (gO rfl ?_)
 apply aT (s := 42) rfl rfl rfl
 ·intro hg; apply aU; (refine aS rfl rfl rfl rfl rfl (by decide) ?_); refine aD ?_; exact rfl
 ·exact rfl
 ·exact rfl
 apply aT (s := 42) rfl rfl rfl
 ·intro hg; apply aN (s := 43) rfl (by (rw [hg]; rfl)); apply aU; (refine aM rfl rfl rfl rfl ?_); refine aD ?_; exact rfl
 ·exact rfl
 ·exact rfl
 apply aT (s := 42) rfl rfl rfl
 ·intro hg; apply aN (s := 44) rfl (by (rw [hg]; rfl)); apply aU; (refine ay (n5 y.levels (Ty.jM _ []) rfl (fun l => gH l.sacks) rfl rfl fun l _ => dO (HN l) rfl rfl rfl rfl rfl rfl) rfl rfl rfl rfl rfl ?_); refine aD ?_; exact rfl
 ·exact rfl
 ·exact rfl
 apply aT (s := 42) rfl rfl rfl
 ·intro hg; apply aN (s := 45) rfl (by (rw [hg]; rfl)); apply aU; (refine dn rfl ?_); refine aD ?_; exact rfl
 ·exact rfl
 ·exact rfl
 refine n4 rfl rfl (dZ rfl (aD (aC ?_)))
 refine cW rfl (fun hc3 => ?_) (fun hc3 => ?_)
 ·
  refine aE (aA (cF rfl (aD (aC (bC (bG (aX (bl rfl rfl ?_))))))))
  all_goals skip
  exact bE rfl rfl (congrArg (Ty.int .i64) (by rw [bq, if_neg (ng (show lK y = false from hc1)), if_neg (ng (show ld y = false from hc2)), if_pos (show jm y = true from hc3)]))
 refine aE ?_
 refine eS (B := live [(1, Ty.pp (bk y)), (3, Ty.pp [wk y]), (4, D5 y)] []) ?_ ?_
 ·(refine c9.mk' ?_ ?_ <;> (repeat' (first | exact aH | exact aI | refine aB ?_ (Ty.aW _) | refine aB ?_ (Ty.aF _))))
 have hd := EZ hc1
 refine aA ?_
 refine aS rfl rfl rfl rfl rfl (by decide) ?_
 refine aM rfl rfl rfl rfl (dH rfl ?_)
 refine ay (lS y.moves (Ty.jM _ [Ty.pp (bk y), D5 y]) rfl (fun m => (Ac m.day 0 (y.days - 1) && y.fin m.src) && y.fin m.dst) rfl rfl fun m _ => dO (Fi y hs hd m) rfl rfl rfl rfl rfl rfl) rfl rfl rfl rfl rfl ?_
 refine dn rfl (dZ rfl (aD (aC ?_)))
 refine cW rfl (fun hc4 => ?_) (fun hc4 => ?_)
 ·
  refine aE (aA (cF rfl (aD (aC (bC (bG (aX (bl rfl rfl ?_))))))))
  all_goals skip
  exact bE rfl rfl (congrArg (Ty.int .i64) (by rw [bq, if_neg (ng (show lK y = false from hc1)), if_neg (ng (show ld y = false from hc2)), if_neg (ng (show jm y = false from hc3)), if_pos (show BD y = true from hc4)]))
 refine aE (aA ?_)
 refine aS rfl rfl rfl rfl rfl (by decide) ?_
 refine aM rfl rfl rfl rfl (dH rfl ?_)
 refine ay (n5 y.levels (Ty.jM _ [Ty.pp (bk y), Ty.pp [wk y]]) rfl (fun l => y.time l.day && y.bin l.bin) rfl rfl fun l _ => dO (Fm y hs l) rfl rfl rfl rfl rfl rfl) rfl rfl rfl rfl rfl ?_
 refine dn rfl (dZ rfl (aD (aC ?_)))
 refine cW rfl (fun hc5 => ?_) (fun hc5 => ?_)
 ·
  refine aE (aA (cF rfl (aD (aC (bC (bG (aX (bl rfl rfl ?_))))))))
  all_goals skip
  exact bE rfl rfl (congrArg (Ty.int .i64) (by rw [bq, if_neg (ng (show lK y = false from hc1)), if_neg (ng (show ld y = false from hc2)), if_neg (ng (show jm y = false from hc3)), if_neg (ng (show BD y = false from hc4)), if_pos (show wG y = true from hc5)]))
 refine aE ?_
 refine eS (B := live [(1, Ty.pp (bk y)), (3, Ty.pp [wk y]), (4, D5 y)] []) ?_ ?_
 ·(refine c9.mk' ?_ ?_ <;> (repeat' (first | exact aH | exact aI | refine aB ?_ (Ty.aW _) | refine aB ?_ (Ty.aF _))))
 refine aA ?_
 refine aS rfl rfl rfl rfl rfl (by decide) ?_
 refine aM rfl rfl rfl rfl ?_
 refine ay (lS y.moves (Ty.jM _ []) rfl (fun m => !decide (m.src = m.dst)) rfl rfl fun m _ => dO (Ht m) rfl rfl rfl rfl rfl rfl) rfl rfl rfl rfl rfl ?_
 refine dn rfl (dZ rfl (aD (aC ?_)))
 refine cW rfl (fun hc6 => ?_) (fun hc6 => ?_)
 ·
  refine aE (aA (cF rfl (aD (aC (bC (bG (aX (bl rfl rfl ?_))))))))
  all_goals skip
  exact bE rfl rfl (congrArg (Ty.int .i64) (by rw [bq, if_neg (ng (show lK y = false from hc1)), if_neg (ng (show ld y = false from hc2)), if_neg (ng (show jm y = false from hc3)), if_neg (ng (show BD y = false from hc4)), if_neg (ng (show wG y = false from hc5)), if_pos (show sK y = true from hc6)]))
 refine aE (aA ?_)
 refine aS rfl rfl rfl rfl rfl (by decide) ?_
 refine aM rfl rfl rfl rfl ?_
 refine ay (tK y.bins (Ty.jM _ []) rfl (fun b => gr b.first) rfl rfl fun b _ => dO (GA b) rfl rfl rfl rfl rfl rfl) rfl rfl rfl rfl rfl ?_
 refine dn rfl (gO rfl ?_)
 apply aT (s := 70) rfl rfl rfl
 ·intro hg; apply aU; (refine aS rfl rfl rfl rfl rfl (by decide) ?_); refine aD ?_; exact rfl
 ·exact rfl
 ·exact rfl
 apply aT (s := 70) rfl rfl rfl
 ·intro hg; apply aN (s := 71) rfl (by (rw [hg]; rfl)); apply aU; (refine aM rfl rfl rfl rfl ?_); refine aD ?_; exact rfl
 ·exact rfl
 ·exact rfl
 apply aT (s := 70) rfl rfl rfl
 ·intro hg; apply aN (s := 72) rfl (by (rw [hg]; rfl)); apply aU; (refine ay (lS y.moves (Ty.jM _ []) rfl (fun m => gr m.sacks) rfl rfl fun m _ => dO (Gn m) rfl rfl rfl rfl rfl rfl) rfl rfl rfl rfl rfl ?_); refine aD ?_; exact rfl
 ·exact rfl
 ·exact rfl
 apply aT (s := 70) rfl rfl rfl
 ·intro hg; apply aN (s := 73) rfl (by (rw [hg]; rfl)); apply aU; (refine dn rfl ?_); refine aD ?_; exact rfl
 ·exact rfl
 ·exact rfl
 refine n4 rfl rfl (gO rfl ?_)
 apply aT (s := 76) rfl rfl rfl
 ·intro hg; apply aU; (refine aS rfl rfl rfl rfl rfl (by decide) ?_); refine aD ?_; exact rfl
 ·exact rfl
 ·exact rfl
 apply aT (s := 76) rfl rfl rfl
 ·intro hg; apply aN (s := 77) rfl (by (rw [hg]; rfl)); apply aU; (refine aM rfl rfl rfl rfl ?_); refine aD ?_; exact rfl
 ·exact rfl
 ·exact rfl
 apply aT (s := 76) rfl rfl rfl
 ·intro hg; apply aN (s := 78) rfl (by (rw [hg]; rfl)); apply aU; (refine ay (n5 y.levels (Ty.jM _ []) rfl (fun l => gr l.sacks) rfl rfl fun l _ => dO (EM l) rfl rfl rfl rfl rfl rfl) rfl rfl rfl rfl rfl ?_); refine aD ?_; exact rfl
 ·exact rfl
 ·exact rfl
 apply aT (s := 76) rfl rfl rfl
 ·intro hg; apply aN (s := 79) rfl (by (rw [hg]; rfl)); apply aU; (refine dn rfl ?_); refine aD ?_; exact rfl
 ·exact rfl
 ·exact rfl
 refine n4 rfl rfl (dZ rfl (aD (aC ?_)))
 refine cW rfl (fun hc7 => ?_) (fun hc7 => ?_)
 ·
  refine aE (aA (cF rfl (aD (aC (bC (bG (aX (bl rfl rfl ?_))))))))
  all_goals skip
  exact bE rfl rfl (congrArg (Ty.int .i64) (by rw [bq, if_neg (ng (show lK y = false from hc1)), if_neg (ng (show ld y = false from hc2)), if_neg (ng (show jm y = false from hc3)), if_neg (ng (show BD y = false from hc4)), if_neg (ng (show wG y = false from hc5)), if_neg (ng (show sK y = false from hc6)), if_pos (show r9 y = true from hc7)]))
 refine aj (bQ (aC (aE (aA (cF rfl (aD (aC (bC (bl rfl rfl ?_)))))))))
 all_goals skip
 exact bE rfl rfl (congrArg (Ty.int .i64) (by rw [bq, if_neg (ng (show lK y = false from hc1)), if_neg (ng (show ld y = false from hc2)), if_neg (ng (show jm y = false from hc3)), if_neg (ng (show BD y = false from hc4)), if_neg (ng (show wG y = false from hc5)), if_neg (ng (show sK y = false from hc6)), if_neg (ng (show r9 y = false from hc7))]))
set_option maxRecDepth 100000 in
theorem ya (y : bB) (hs : y.Small) (k : Int) : eA Tryz.prog 90 [fK y, Ty.int .i64 k] (Ty.int .i64 (eI y k)) := by
 refine az Tryz.func90 rfl (by decide) Tryz.ntmps90 (by exact Nat.le_of_ble_eq_true rfl) fun w0 M0 => ?_
 refine aE (aA (bM rfl (cF rfl (aD (aC (aE (aA ?_)))))))
 refine aa rfl rfl rfl (by exact Nat.le_of_ble_eq_true rfl) ?_
 refine ay (kS y hs) rfl rfl rfl rfl rfl (cF rfl (aD (aC (aE (aE (aA (bO rfl (bD rfl rfl rfl (gO rfl ?_)))))))))
 apply aT (s := 10) rfl rfl rfl
 ·intro hg; apply aU; (refine aa rfl rfl rfl (by exact Nat.le_of_ble_eq_true rfl) ?_); refine aD ?_; exact rfl
 ·exact rfl
 ·exact rfl
 apply aT (s := 10) rfl rfl rfl
 ·intro hg; apply aU; (refine bO rfl ?_); refine aD ?_; exact rfl
 ·exact rfl
 ·exact rfl
 apply aT (s := 10) rfl rfl rfl
 ·intro hg; apply aN (s := 11) rfl (by (rw [hg]; rfl)); apply aN (s := 12) rfl (by (rw [hg]; rfl)); apply aU; (refine ay (C1 y hs _) rfl rfl rfl rfl rfl ?_); refine aD ?_; exact rfl
 ·exact rfl
 ·exact rfl
 apply aT (s := 10) rfl rfl rfl
 ·intro hg; apply aN (s := 13) rfl (by (rw [hg]; rfl)); apply aU; (refine dn rfl ?_); refine aD ?_; exact rfl
 ·exact rfl
 ·exact rfl
 refine eL rfl rfl (aD (aC ?_))
 refine cW rfl (fun hc1 => ?_) (fun hc1 => ?_)
 ·
  refine aA (cF rfl (aD (aC (aE (aA (bO rfl (cF rfl (aD (aC ?_)))))))))
  refine bC (bl rfl rfl ?_)
  all_goals skip
  all_goals exact bE rfl rfl (congrArg (Ty.int .i64) (EH hc1))
 refine aj (aC (aE (aA (bO rfl (cF rfl (aD (aC (bC (bl rfl rfl ?_)))))))))
 all_goals skip
 all_goals exact bE rfl rfl (congrArg (Ty.int .i64) (Er hc1))
end Go.Proofs.YtelbollidfdcjaaGreat
namespace Go.T
open Go Go.RowKit
def rJ (A : As) (L : List Nat) (s t : Ty) : Prop := ∀ w M v, Wf w M → (∀ x ∈ A.tags, x.1 ∈ L → x.2.den w M x.1) → s.den w M v → t.den w (pM M L) v
def mo (A : As) (L : List Nat) : List Ty → List Ty → Prop
  | [], [] => True
  | s :: ss, t :: ts => rJ A L s t ∧ mo A L ss ts
  | _, _ => False
theorem bX {A : As} {L : List Nat} : mo A L [] [] := trivial
theorem aL {A : As} {L : List Nat} {s t : Ty} {ss ts : List Ty} (h : rJ A L s t) (h' : mo A L ss ts) : mo A L (s :: ss) (t :: ts) := ⟨h, h'⟩
theorem oW {A : As} {L : List Nat} {w : World} {M : bA} (wf : Wf w M) (ht : ∀ x ∈ A.tags, x.1 ∈ L → x.2.den w M x.1) : ∀ {ss ts : List Ty} {vs : List Value}, mo A L ss ts → cL w M ss vs → cL w (pM M L) ts vs
  | [], [], [], _, _ => trivial
  | _ :: _, _ :: _, _ :: _, ⟨h, h'⟩, ⟨h1, h2⟩ => ⟨h _ _ _ wf ht h1, oW wf ht h' h2⟩
theorem af {A : As} {L : List Nat} {s t : Ty} (h : Im L s t) : rJ A L s t := fun w M v wf _ hd => h w M v wf hd
theorem gk {A : As} {L : List Nat} {ss ts : List Ty} (h : mo A L ss ts) : rJ A L (Ty.agg ss) (Ty.agg ts) := fun _ _ _ wf ht ⟨cs, e, hd⟩ => ⟨cs, e, oW wf ht h hd⟩
theorem iL {A : As} {L : List Nat} {α : Type} {E : El α} {T tg n : Nat} {xs : List α} (hc : A.tag tg = some (.vec E T xs)) (hn : xs.length = n) (h1 : gA tg) (hL : L.contains tg = true) : rJ A L (.vs tg n) (.sl E xs) := fun w M v wf ht hd => by
 have hL' : tg ∈ L := by simpa using hL
 have hv : gy E T xs w M tg := ht _ (cw hc) hL'
 subst hn
 rcases hd with ⟨h0, rfl⟩ | ⟨b, cc, hb, e, hn1, hn2⟩
 ·exact ⟨none, 0, by rw [h0], by omega, by simp [maxLen], fun h => absurd h (by omega)⟩
 refine ⟨_, cc, e, hn1, hn2, fun _ => ⟨b, 0, rfl, yW hb hL', wf.lt b _ hb, fun i t hi => ?_⟩⟩
 obtain ⟨u, hu, hdu⟩ := oC wf h1 hb hv hi
 refine ⟨u, by rw [Nat.zero_add]; exact hu, t.mono (S := fun _ => True) (K := fun _ => True) (w := w) ⟨Nat.le_refl _, rfl, rfl, rfl, fun b _ hm => ⟨ig hm, rfl⟩, fun b t _ h => absurd trivial h⟩ ?_ ?_ hdu⟩
 ·intro u hu
  have : u ∈ cE (xs.flatMap E.tys) := List.mem_flatMap.2 ⟨t, List.mem_of_getElem? hi, hu⟩
  rw [E.dB] at this; cases this
 intro u hu
 have : u ∈ bh (xs.flatMap E.tys) := List.mem_flatMap.2 ⟨t, List.mem_of_getElem? hi, hu⟩
 rw [E.cv] at this; cases this
section
variable {P : Program} {fr : Fr} {ops : Array Oper} {A : As} {rest : List Oper} {K : As → List (As × Fx) → Prop} {d : Nat} {t ty' : TypeId} {p : String} {e : Array Edge} {Q : Exit → Act → World → Prop} {c : Code}
theorem dV (L : List Nat) {f : FuncId} {args : List Ty} {res : Ty} (hF : eA P f args res) {xs : List Operand} {ats : Array TypeId} {ss : List Ty} (hx : nT A fr xs = ss) (hl : mo A L ss args) (hp : res.Plain)
 (h : aq P fr ops rest (A.set d res) fun A' l => K A' ((A, { d := some d, ty := res, rs := xs.flatMap cH, rt := L }) :: l)) : aq P fr ops (⟨some d, .call ⟨.value (.func f), xs.toArray, ats⟩, t, p, e, none⟩ :: rest) A K := by
 refine ⟨{ d := some d, ty := res, rs := xs.flatMap cH, rt := L }, ⟨rfl, by simp, by simp, by simp, fun a w M wf _ hrd htg => ?_⟩, h⟩
 rw [if_pos (by simp [Region.wanted])]
 have hv : cL w M ss (xs.map a.eval) := hx ▸ gY hrd fun x hx c hc => List.mem_flatMap.2 ⟨x, hx, hc⟩
 have hc := hF.2 w _ _ (Is (L := L) wf) sM (oW wf htg hl hv)
 have hrun : (execOp a.eval ⟨some d, .call ⟨.value (.func f), xs.toArray, ats⟩, t, p, e, none⟩).run P w = .ok (.enter f (xs.map a.eval).toArray) w := by
  simp [execOp, resolve, Act.eval, Deferred.ofValue, invoke, nO hF]
 refine lY hrun ?_
 refine hc.mono fun en w' ⟨r, M', he, wf', le, hden⟩ => ?_
 obtain ⟨h1, h2, h3⟩ := CH wf le hp hden
 exact ⟨r, he, r, rfl, _, h1, h2, h3, by simp⟩
end
section
open Go.RowKit
variable {P : Program} {A : As} {fn : Func} {n : Nat} {w0 : World} {M0 : bA} {F : List Nat} {post : List (Nat × Cont)} [T : kY P]
end
section
variable {P : Program} {fr : Fr} {ops : Array Oper} {A : As} {rest : List Oper} {K : As → List (As × Fx) → Prop} {d : Nat} {t ty' : TypeId} {p : String} {e : Array Edge} [T : kY P]
def Mi (w : World) (M : bA) (J : Nat) (v : Value) : Prop := v = .slice none 0 0 ∨ ∃ g n c cur T, v = .slice (some ⟨g, 0, none⟩) n c ∧ M g = some J ∧ w.heap[g]? = some (.cells cur T (0, 0)) ∧ n ≤ cur.size
def Cont.fit (vs : List Value) : Cont :=
  { den := fun w M J => ∀ v ∈ vs, Mi w M J v
    mono := fun le _ _ hs hk h v hv => (h v hv).imp id fun ⟨g, n, c, cur, T, e, hg, hh, hn⟩ => let ⟨h1, h2⟩ := le.own g _ hg hk
      ⟨g, n, c, cur, T, e, h1, (h2 hs).trans hh, hn⟩ }
end
instance : Inhabited {v : Value // v.oneCell' = true} := ⟨⟨.bool true, rfl⟩⟩
section
variable {P : Program} {fr : Fr} {A : As} {Q : Exit → Act → World → Prop} {code : Code}
end
end Go.T
namespace Go.T
open Go Go.RowKit
def GS {α : Type} (E : El α) (T J : Nat) (xs : List α) (w : World) (M : bA) (v : Value) : Prop :=
  (xs = [] ∧ v = .slice none 0 0) ∨ ∃ g off c cur, v = .slice (some ⟨g, off, none⟩) xs.length c ∧ M g = some J ∧ w.heap[g]? = some (.cells cur T (0, 0)) ∧ xs.length ≤ c ∧ c ≤ maxLen ∧ off + c * E.size ≤ cur.size ∧ cL w M (xs.flatMap E.tys) ((cur.toList.drop off).take (xs.length * E.size))
def Ty.iA {α : Type} (E : El α) (T J : Nat) (xs : List α) : Ty :=
  ⟨GS E T J xs, [J], [J], fun le hk hs h => h.imp id fun ⟨g, off, c, cur, e, hg, hh, h1, h2, h3, h4⟩ =>
    let ⟨a, b⟩ := le.own g J hg (hk J (by simp))
    ⟨g, off, c, cur, e, a, (b (hs J (by simp))).trans hh, h1, h2, h3, b9 le (by rw [E.dB]; intro _ h; cases h) (by rw [E.cv]; intro _ h; cases h) h4⟩, true, fun _ h => by
      rcases h with ⟨_, rfl⟩ | ⟨_, _, _, _, rfl, _⟩ <;> rfl⟩
def lX (size : Nat) : Value → Option (Nat × Nat)
  | .slice (some a) n _ => some (a.block, a.off + n * size)
  | _ => none
def roomy : Value → Bool
  | .slice _ n c => Nat.blt n c
  | _ => false
section
variable {κ α : Type} [DecidableEq κ]
def GC (size : Nat) (vs : List Value) : Prop := ∀ (i j : Nat) (v u : Value) (g e e' : Nat), vs[i]? = some v → vs[j]? = some u → lX size v = some (g, e) → lX size u = some (g, e') → i = j
def Ms (enc : κ → Value) (E : El α) (T J : Nat) (q : List (κ × List α)) (w : World) (M : bA) (t : Nat) : Prop :=
  (q.map Prod.fst).Nodup ∧ ∃ b es clock, M b = some t ∧ w.heap[b]? = some (.map es clock) ∧ es.toList.map (·.key) = q.map (fun x => enc x.1) ∧ cL w M (q.map fun x => Ty.iA E T J x.2) (es.toList.map (·.val)) ∧ GC E.size (es.toList.map (·.val))
omit [DecidableEq κ] in
theorem sU {E : El α} {T J : Nat} {q : List (κ × List α)} : (∀ u ∈ cE (q.map fun x => Ty.iA E T J x.2), u = J) ∧ ∀ u ∈ bh (q.map fun x => Ty.iA E T J x.2), u = J := by
 constructor <;>
 ·intro u hu
  simp only [cE, bh, List.mem_flatMap, List.mem_map] at hu
  obtain ⟨t, ⟨x, _, rfl⟩, hu⟩ := hu
  simpa [Ty.iA] using hu
def Cont.mr (enc : κ → Value) (E : El α) (T J : Nat) (q : List (κ × List α)) : Cont :=
  { den := Ms enc E T J q, deps := [J], cdeps := [J]
    mono := fun le hk hs hst hkt ⟨hn, b, es, clock, h1, h2, h3, h4, h5⟩ => let ⟨a, c⟩ := le.own b _ h1 hkt
      ⟨hn, b, es, clock, a, (c hst).trans h2, h3, b9 le (fun u hu => by rw [sU.1 u hu]; exact hk J (by simp)) (fun u hu => by rw [sU.2 u hu]; exact hs J (by simp)) h4, h5⟩ }
omit [DecidableEq κ] in
theorem Cont.rz {enc : κ → Value} {E : El α} {T J : Nat} {q q' : List (κ × List α)} (h : q = q') : (Cont.mr enc E T J q).Sub (Cont.mr enc E T J q') := h ▸ Cont.aF _
def MZ (size t : Nat) (q : List (κ × List α)) (k : κ) (w : World) (M : bA) (v : Value) : Prop :=
  ∀ (g e0 : Nat), lX size v = some (g, e0) → ∃ (b : Nat) (es : Array MapEntry) (clock : Nat), M b = some t ∧ w.heap[b]? = some (.map es clock) ∧ ∀ (j : Nat) (u : Value) (e1 : Nat), (es.toList.map (·.val))[j]? = some u → lX size u = some (g, e1) → (q[j]?).map Prod.fst = some k ∧ (roomy v = true → e1 ≤ e0)
def Mw (E : El α) (T t J : Nat) (q : List (κ × List α)) (k : κ) (xs : List α) (w : World) (M : bA) (v : Value) : Prop := GS E T J xs w M v ∧ MZ E.size t q k w M v
def Ty.qv (E : El α) (T t J : Nat) (q : List (κ × List α)) (k : κ) (xs : List α) : Ty :=
  ⟨Mw E T t J q k xs, [t, J], [t, J], fun le hk hs ⟨h, h'⟩ => ⟨(Ty.iA E T J xs).mono le (fun u hu => hk u (by simp [Ty.iA] at hu ⊢; exact .inr hu)) (fun u hu => hs u (by simp [Ty.iA] at hu ⊢; exact .inr hu)) h, fun g e0 he =>
    let ⟨b, es, clock, h1, h2, h3⟩ := h' g e0 he
    let ⟨a, c⟩ := le.own b t h1 (hk t (by simp))
    ⟨b, es, clock, a, (c (hs t (by simp))).trans h2, h3⟩⟩, true, fun ho h => (Ty.iA E T J xs).isOne ho h.1⟩
omit [DecidableEq κ] in
theorem zx (q : List (κ × List α)) (hn : (q.map Prod.fst).Nodup) {i j : Nat} {k : κ} (hi : (q[i]?).map Prod.fst = some k) (hj : (q[j]?).map Prod.fst = some k) : i = j := by
 rw [← List.getElem?_map] at hi hj
 obtain ⟨h1, e1⟩ := List.getElem?_eq_some_iff.1 hi
 obtain ⟨h2, e2⟩ := List.getElem?_eq_some_iff.1 hj
 exact (List.getElem_inj hn).1 (e1.trans e2.symm)
theorem yu {q : List (κ × List α)} {k : κ} {i : Nat} (h : (q.map Prod.fst).findIdx? (fun x => decide (x = k)) = some i) : (q[i]?).map Prod.fst = some k := by
 obtain ⟨v, hv, _⟩ := nu q k i h
 rw [hv]; rfl
theorem Ey (q : List (κ × List α)) (k : κ) (v : List α) (hn : (q.map Prod.fst).Nodup) : ((gS q k v).map Prod.fst).Nodup := by
  cases hi : (q.map Prod.fst).findIdx? (fun x => decide (x = k)) with
  | some i =>
    obtain ⟨u, hu, _, hp⟩ := nu q k i hi
    rw [hp, List.map_set]
    have : (q.map Prod.fst).set i k = q.map Prod.fst := by
      apply List.ext_getElem?
      intro j
      rw [List.getElem?_set]
      by_cases e : i = j
      · subst e
        have hlt := (List.getElem?_eq_some_iff.1 hu).1
        rw [if_pos rfl, if_pos (by simpa using hlt), List.getElem?_map, hu]; rfl
      · rw [if_neg e]
    rw [this]; exact hn
  | none =>
    obtain ⟨_, hp⟩ := oZ q k hi
    rw [hp, List.map_append, List.nodup_append]
    refine ⟨hn, by simp, fun a ha b hb => ?_⟩
    simp only [List.map_cons, List.map_nil, List.mem_singleton] at hb
    subst hb
    intro e
    subst e
    rw [List.findIdx?_eq_none_iff] at hi
    have := hi a ha
    simp at this
end
section
variable {P : Program} {fr : Fr} {ops : Array Oper} {A : As} {rest : List Oper} {K : As → List (As × Fx) → Prop} {d : Nat} {t ty' mt kt et : TypeId} {p : String} {e : Array Edge}
variable {κ α : Type} [DecidableEq κ] {E : El α} {Tb J tg : Nat} {q : List (κ × List α)} {k : κ} {xs ys : List α}
omit [DecidableEq κ] in
theorem Js {x : Operand} {enc : κ → Value} (hx : A.op fr x = .mp tg) (hc : A.tag tg = some (.mr enc E Tb J q)) (h1 : gA tg) {a : Act} {w : World} {M : bA} {rs : List Nat} (wf : Wf w M) (hr : ∀ c ∈ cH x, c ∈ rs) (hrd : ∀ c ∈ rs, c < fr.n → (A.slots c).den w M (a.tmps.getD c undef)) (htg : ∀ y ∈ A.tags, y.1 ∈ [tg] → y.2.den w M y.1) :
 (q.map Prod.fst).Nodup ∧ ∃ b es clock, a.eval x = .map (some b) ∧ M b = some tg ∧ w.heap[b]? = some (.map es clock) ∧ es.toList.map (·.key) = q.map (fun x => enc x.1) ∧ cL w M (q.map fun x => Ty.iA E Tb J x.2) (es.toList.map (·.val)) ∧ GC E.size (es.toList.map (·.val)) := by
 have hxd := cT hr hrd
 rw [hx] at hxd
 obtain ⟨b, e1, e2⟩ := hxd
 obtain ⟨hn, b', es, clock, h2, h3⟩ := htg _ (cw hc) (by simp)
 obtain ⟨u, rfl⟩ : ∃ u, tg = u + 1 := ⟨tg - 1, by omega⟩
 have : b = b' := wf.inj b b' u (by omega) e2 h2
 subst this
 exact ⟨hn, b, es, clock, e1, e2, h3⟩
theorem BM {es : Array MapEntry} {i : Nat} {en : MapEntry} (h : es[i]? = some en) : (es.toList.map (·.val))[i]? = some en.val := by
 rw [List.getElem?_map, Array.getElem?_toList, h]; rfl
omit [DecidableEq κ] in
theorem CR (enc : κ → Value) (E : El α) (Tb J : Nat) (hm : mapOf P mt = some (kt, et)) (hp : fr.pass.contains (d + 1) = false)
 (h : aq P fr ops rest (A.after { d := some d, ty := .mp (d + 1), K := [d + 1], sets := [(d + 1, .mr enc E Tb J [])] }) fun A' l' => K A' ((A, { d := some d, ty := .mp (d + 1), K := [d + 1], sets := [(d + 1, .mr enc E Tb J [])] }) :: l')) :
 aq P fr ops (⟨some d, .makeMap mt none, t, p, e, none⟩ :: rest) A K := by
 refine ⟨_, gX rfl rfl (by simp) (by simp) (by simp at hp ⊢; exact hp) fun a w M wf _ _ => ?_, h⟩
 have hrun : (execOp a.eval ⟨some d, .makeMap mt none, t, p, e, none⟩).run P w = .ok (.value (.map (some w.heap.size))) (w.alloc (.map #[] 0)) := by
  simp [execOp, Instr.makeMap, newObj, Sem.run]
 obtain ⟨h1, h2, h3⟩ := j0 wf (.map #[] 0) (d + 1)
 refine ⟨_, _, hrun, _, h1, h2, ⟨_, rfl, h3⟩, fun x hx => ?_⟩
 rw [List.mem_singleton.1 hx]
 exact ⟨by simp, w.heap.size, #[], 0, h3, gi _ _, rfl, trivial, fun i j v u g e e' hi => by simp at hi⟩
theorem x7 {x y : Operand} {kty : Ty} (KK : wo P kt κ) (hx : A.op fr x = .mp tg) (hc : A.tag tg = some (.mr KK.enc E Tb J q)) (h1 : gA tg) (hy : A.op fr y = kty) (hk : tT kty (KK.enc k)) (hm : mapOf P mt = some (kt, et)) (hz : zeroOf P et = some (.slice none 0 0))
 (h : aq P fr ops rest (A.set d (.qv E Tb tg J q k ((eZ q k).getD []))) fun A' l' => K A' ((A, { d := some d, ty := .qv E Tb tg J q k ((eZ q k).getD []), rs := cH x ++ cH y, rt := [tg] }) :: l')) :
 aq P fr ops (⟨some d, .lookup mt x y false, t, p, e, none⟩ :: rest) A K :=
 bI (bU rfl rfl fun a w M wf hrd htg => by
  obtain ⟨hn, b, es, clock, e1, e2, h3, h4, h5, h6⟩ := Js hx hc h1 wf (fun c hc => List.mem_append_left _ hc) hrd htg
  have hyd := cT (fun c hc => List.mem_append_right (cH x) hc) hrd
  rw [hy] at hyd
  have hu := oz hm
  rcases qg KK h4 h5 k with ⟨i, v, en, hi, hg, hen, _, hd, hf⟩ | ⟨_, hg, hf⟩
  ·refine ⟨en.val, ?_, by rw [hg]; exact hd, fun g e0 he => ⟨b, es, clock, e2, h3, fun j u e1 hj hju => ?_⟩⟩
   ·simp only [execOp, e1, hk _ _ _ hyd]
    simp [Instr.lookup, underlying, hu, getObj, Sem.run, h3, KK.check, hf]
   have hij := h6 i j en.val u g e0 e1 (BM hen) hj he hju
   subst hij
   rw [BM hen] at hj
   injection hj with hj
   subst hj
   rw [he] at hju
   injection hju with hju
   injection hju with _ hju
   exact ⟨yu hi, fun _ => by omega⟩
  refine ⟨.slice none 0 0, ?_, by rw [hg]; exact .inl ⟨rfl, rfl⟩, fun g e0 he => by simp [lX] at he⟩
  simp only [execOp, e1, hk _ _ _ hyd]
  simp [Instr.lookup, underlying, hu, getObj, Sem.run, h3, KK.check, hf, vn hz]) h
theorem xK {x y z : Operand} {kty : Ty} (KK : wo P kt κ) (hx : A.op fr x = .mp tg) (hc : A.tag tg = some (.mr KK.enc E Tb J q)) (h1 : gA tg) (hy : A.op fr y = kty) (hk : tT kty (KK.enc k)) (hz : A.op fr z = .qv E Tb tg J q k xs) (hm : mapOf P mt = some (kt, et)) (hJ : Nat.beq J tg = false)
 (h : aq P fr ops rest (A.after { d := none, S := [tg], sets := [(tg, .mr KK.enc E Tb J (gS q k xs))], rs := cH x ++ (cH y ++ cH z), rt := [tg] }) fun A' l' => K A' ((A, { d := none, S := [tg], sets := [(tg, .mr KK.enc E Tb J (gS q k xs))], rs := cH x ++ (cH y ++ cH z), rt := [tg] }) :: l')) :
 aq P fr ops (⟨none, .mapUpdate mt x y z, t, p, e, none⟩ :: rest) A K := by
 have hJ' : J ≠ tg := fun h => by subst h; simp at hJ
 refine ⟨_, k8 rfl rfl rfl (by simp) (by simpa using h1.1) (by simp) fun a w M wf hrd htg => ?_, h⟩
 obtain ⟨hn, b, es, clock, e1, e2, h3, h4, h5, h6⟩ := Js hx hc h1 wf (fun c hc => List.mem_append_left _ hc) hrd htg
 have hyd := cT (fun c hc => List.mem_append_right (cH x) (List.mem_append_left (cH z) hc)) hrd
 have hzd := cT (fun c hc => List.mem_append_right (cH x) (List.mem_append_right (cH y) hc)) hrd
 rw [hy] at hyd
 rw [hz] at hzd
 obtain ⟨hrow, hown⟩ := hzd
 have hu := oz hm
 have hblt : b < w.heap.size := wf.lt b _ e2
 have own' : ∀ (g e0 : Nat), lX E.size (a.eval z) = some (g, e0) → ∀ (j : Nat) (u : Value) (e' : Nat), (es.toList.map (·.val))[j]? = some u → lX E.size u = some (g, e') → (q[j]?).map Prod.fst = some k := fun g e0 he j u e' hj hju => by
  obtain ⟨b', es', c', g1, g2, g3⟩ := hown g e0 he
  obtain ⟨u', rfl⟩ : ∃ u, tg = u + 1 := ⟨tg - 1, by omega⟩
  have : b = b' := wf.inj b b' u' (by omega) e2 g1
  subst this
  rw [h3] at g2
  injection g2 with g2
  injection g2 with g2 g4
  subst g2
  exact (g3 j u e' hj hju).1
 have fin : ∀ (es' : Array MapEntry) (clock' : Nat), es'.toList.map (·.key) = (gS q k xs).map (fun x => KK.enc x.1) → cL w M ((gS q k xs).map fun x => Ty.iA E Tb J x.2) (es'.toList.map (·.val)) → GC E.size (es'.toList.map (·.val)) →
  (Instr.mapUpdate mt (.map (some b)) (KK.enc k) (a.eval z)).run P w = .ok () { w with heap := w.heap.setIfInBounds b (.map es' clock') } →
  ∃ w', (execOp a.eval ⟨none, .mapUpdate mt x y z, t, p, e, none⟩).run P w = .ok .skip w' ∧ Fx.left { d := none, S := [tg], sets := [(tg, .mr KK.enc E Tb J (gS q k xs))], rs := cH x ++ (cH y ++ cH z), rt := [tg] } w M w' undef := by
  intro es' clock' hk' hd' hap hrun
  have hr : (execOp a.eval ⟨none, .mapUpdate mt x y z, t, p, e, none⟩).run P w = .ok .skip { w with heap := w.heap.setIfInBounds b (.map es' clock') } := by
   simp only [execOp, e1, hk _ _ _ hyd]
   simp [hrun]
  have le : Le (· ∈ [tg]) (· ∈ ([] : List Nat)) w M { w with heap := w.heap.setIfInBounds b (.map es' clock') } M := by
   refine ⟨by simp, rfl, rfl, rfl, fun b2 hlt hm2 => ⟨hm2, ?_⟩, fun b2 u hm2 _ => ⟨hm2, fun hs => ?_⟩⟩
   ·have : b ≠ b2 := fun h => by subst h; rw [e2] at hm2; cases hm2
    simp [Array.getElem?_setIfInBounds, this]
   have : b ≠ b2 := fun h => by subst h; rw [e2] at hm2; injection hm2 with hm2; exact hs (by simp [hm2])
   simp [Array.getElem?_setIfInBounds, this]
  refine ⟨_, hr, M, ⟨fun b2 u h => by simpa using wf.lt b2 u h, wf.inj⟩, le, trivial, fun x hx => ?_⟩
  rw [List.mem_singleton.1 hx]
  refine ⟨Ey q k xs hn, b, es', clock', e2, by simp [hblt], hk', ?_, hap⟩
  exact b9 le (fun _ _ => by simp) (fun u hu => by rw [sU.2 u hu]; simpa using hJ') hd'
 rcases qg KK h4 h5 k with ⟨i, v0, en, hi, hg, hen, hkey, hd, hf⟩ | ⟨hi, hg, hf⟩
 ·obtain ⟨v1, hv1, _, hput⟩ := nu q k i hi
  have hil : i < es.size := (Array.getElem?_eq_some_iff.1 hen).1
  have hes : (es.modify i fun e => { e with key := KK.enc k, val := a.eval z }).toList = es.toList.set i { en with key := KK.enc k, val := a.eval z } := by
   rw [Array.toList_modify, List.modify_eq_set, Array.getElem?_toList, hen]; rfl
  refine fin (es.modify i fun e => { e with key := KK.enc k, val := a.eval z }) clock ?_ ?_ ?_ ?_
  ·rw [hput, List.map_set, hes, List.map_set, h4]
  ·rw [hput, List.map_set, hes, List.map_set]
   exact rK h5 hrow
  ·rw [hes, List.map_set]
   intro i1 j1 v u g e' e'' hi1 hj1 hv hu
   rw [List.getElem?_set] at hi1 hj1
   by_cases c1 : i = i1 <;> by_cases c2 : i = j1
   ·omega
   ·rw [if_pos c1] at hi1; rw [if_neg c2] at hj1
    split at hi1
    ·injection hi1 with hi1
     have hi1 : a.eval z = v := hi1
     subst hi1
     have := zx q hn (own' g e' hv j1 u e'' hj1 hu) (yu hi)
     omega
    cases hi1
   ·rw [if_neg c1] at hi1; rw [if_pos c2] at hj1
    split at hj1
    ·injection hj1 with hj1
     have hj1 : a.eval z = u := hj1
     subst hj1
     have := zx q hn (own' g e'' hu i1 v e' hi1 hv) (yu hi)
     omega
    cases hj1
   rw [if_neg c1] at hi1; rw [if_neg c2] at hj1
   exact h6 i1 j1 v u g e' e'' hi1 hj1 hv hu
  simp [Instr.mapUpdate, underlying, hu, getObj, setObj, Sem.run, h3, KK.check, hf, hen, hkey, Instr.keyThatStays, KK.same]
 obtain ⟨_, hput⟩ := oZ q k hi
 have hlen : (es.toList.map (·.val)).length = q.length := by have := congrArg List.length h4; simpa using this
 have hno : ∀ j, (q[j]?).map Prod.fst ≠ some k := fun j hj => by
  rw [List.findIdx?_eq_none_iff] at hi
  rw [← List.getElem?_map] at hj
  have := hi k (List.mem_of_getElem? hj)
  simp at this
 refine fin (es.push { key := KK.enc k, val := a.eval z, born := clock }) (clock + 1) ?_ ?_ ?_ ?_
 ·rw [hput]; simp [h4]
 ·rw [hput]; simp only [Array.toList_push, List.map_append, List.map_cons, List.map_nil]
  exact eE h5 ⟨hrow, trivial⟩
 ·simp only [Array.toList_push, List.map_append, List.map_cons, List.map_nil]
  intro i1 j1 v u g e' e'' hi1 hj1 hv hu
  rw [List.getElem?_append] at hi1 hj1
  split at hi1 <;> split at hj1
  ·exact h6 i1 j1 v u g e' e'' hi1 hj1 hv hu
  ·rw [List.getElem?_singleton] at hj1
   split at hj1
   ·injection hj1 with hj1
    subst hj1
    exact absurd (own' g e'' hu i1 v e' hi1 hv) (hno i1)
   cases hj1
  ·rw [List.getElem?_singleton] at hi1
   split at hi1
   ·injection hi1 with hi1
    subst hi1
    exact absurd (own' g e' hv j1 u e'' hj1 hu) (hno j1)
   cases hi1
  rw [List.getElem?_singleton] at hi1 hj1
  split at hi1 <;> split at hj1 <;> first | omega | (exfalso; simp at hj1; done) | (exfalso; simp at hi1; done)
 simp [Instr.mapUpdate, underlying, hu, getObj, setObj, Sem.run, h3, KK.check, hf]
end
section
variable {P : Program} {fr : Fr} {ops : Array Oper} {A : As} {rest : List Oper} {K : As → List (As × Fx) → Prop} {d : Nat} {t ty' mt kt et : TypeId} {p : String} {e : Array Edge} [T : kY P]
variable {κ α : Type} [DecidableEq κ] {E : El α} {Tb J tg : Nat} {q : List (κ × List α)} {k : κ} {xs ys : List α}
theorem E3 [Inhabited α] {w : World} {M : bA} {g off i j : Nat} {cur : Array Value} {ty : Ty} (hh : w.heap[g]? = some (.cells cur Tb (0, 0))) (hd : cL w M (xs.flatMap E.tys) ((cur.toList.drop off).take (xs.length * E.size))) (hi : i < xs.length) (hl : (E.tys (nth xs i))[j]? = some ty) :
 ∃ u, w.cell? ⟨g, off + i * E.size + j, none⟩ = some u ∧ ty.den w M u := by
 obtain ⟨u, hu, hdu⟩ := dU hd _ ty (kV E xs hi j ty hl)
 rw [List.getElem?_take] at hu
 split at hu
 ·rw [List.getElem?_drop] at hu
  exact ⟨u, by rw [Nat.add_assoc]; simpa [World.cell?, hh] using hu, hdu⟩
 cases hu
end
end Go.T
namespace Go.T
open Go Go.RowKit
section
variable {P : Program} {fr : Fr} {ops : Array Oper} {A : As} {rest : List Oper} {K : As → List (As × Fx) → Prop} {d : Nat} {t ty' mt kt et : TypeId} {p : String} {e : Array Edge} [T : kY P]
variable {κ α : Type} [DecidableEq κ] {E : El α} {Tb J tg : Nat} {q : List (κ × List α)} {k : κ} {xs ys : List α}
theorem Gc (l news : List Value) (o n m e : Nat) (he : o + n ≤ e) (hl : e + news.length ≤ l.length) : (((l.take e ++ news ++ l.drop (e + news.length)).drop o).take n) = (l.drop o).take n := by
 apply List.ext_getElem?
 intro i
 rw [List.getElem?_take, List.getElem?_take]
 split
 ·rename_i hi
  rw [List.getElem?_drop, List.getElem?_drop, List.append_assoc, List.getElem?_append_left (by rw [List.length_take]; omega), List.getElem?_take, if_pos (by omega)]
 rfl
theorem BP (l news : List Value) (o n : Nat) (hl : o + n + news.length ≤ l.length) : (((l.take (o + n) ++ news ++ l.drop (o + n + news.length)).drop o).take (n + news.length)) = (l.drop o).take n ++ news := by
 have h1 : (l.take (o + n) ++ news ++ l.drop (o + n + news.length)).drop o = (l.drop o).take n ++ news ++ l.drop (o + n + news.length) := by
  rw [List.append_assoc, List.drop_append_of_le_length (by rw [List.length_take]; omega), List.drop_take, show o + n - o = n by omega, List.append_assoc]
 have h2 : ((l.drop o).take n ++ news).length = n + news.length := by rw [List.length_append, List.length_take, List.length_drop, Nat.min_eq_left (by omega)]
 rw [h1, List.take_left' h2]
omit [DecidableEq κ] in
theorem F4 {w : World} {M : bA} {vs : List Value} (hd : cL w M (q.map fun x => Ty.iA E Tb J x.2) vs) {j : Nat} {u : Value} {g e1 : Nat} (hj : vs[j]? = some u) (hu : lX E.size u = some (g, e1)) : M g = some J := by
 have hlen := cP hd
 have hlt := (List.getElem?_eq_some_iff.1 hj).1
 obtain ⟨x, hx, hdx⟩ := dU hd j (Ty.iA E Tb J (q[j]'(by simpa [hlen] using hlt)).2) (by rw [List.getElem?_map, List.getElem?_eq_getElem (by simpa [hlen] using hlt)]; rfl)
 rw [hj] at hx
 injection hx with hx
 subst hx
 rcases hdx with ⟨_, e⟩ | ⟨g', off, c, cur, e, hg, _⟩
 ·rw [e] at hu; simp [lX] at hu
 rw [e] at hu
 simp only [lX, Option.some.injEq, Prod.mk.injEq] at hu
 rw [← hu.1]; exact hg
theorem xZ {x y : Operand} {enc : κ → Value} {st el : Nat} {ti te : TI} (hx : A.op fr x = .qv E el tg J q k xs) (hy : A.op fr y = .sl E ys) (hc : A.tag tg = some (.mr enc E el J q)) (h1 : gA tg) (hJ : 4096 ≤ J) (hp : fr.pass.contains J = false) (hpos : 0 < ys.length) (hT : T.ep[st]? = some ti) (hk : ti.k = .slice el) (hE : T.ep[el]? = some te) (hs : te.size = E.size) (hz : te.zero.length = te.size) (h0 : 0 < te.size)
    (hlen : (xs.length + ys.length) * te.bytes ≤ 140737488355328) (hlen' : xs.length + ys.length ≤ 9223372036854775807)
    (h : aq P fr ops rest (A.after { d := some d, ty := .qv E el tg J q k (xs ++ ys), S := [tg, J], sets := [(tg, .mr enc E el J q)], rs := cH x ++ cH y, rt := [tg] }) fun A' l' => K A' ((A, { d := some d, ty := .qv E el tg J q k (xs ++ ys), S := [tg, J], sets := [(tg, .mr enc E el J q)], rs := cH x ++ cH y, rt := [tg] }) :: l')) :
    aq P fr ops (⟨some d, .call ⟨.builtin .append, #[x, y], #[st, st]⟩, t, p, e, none⟩ :: rest) A K := by
  refine ⟨_, gX rfl rfl (by simp) (by simp; exact ⟨h1.1, by omega⟩) (by simp) fun a w M wf hr htg => ?_, h⟩
  obtain ⟨hdx, hdy⟩ := op2 hr
  rw [hx] at hdx; rw [hy] at hdy
  obtain ⟨hrow, hown⟩ := hdx
  obtain ⟨hn, b, es, clock, hb, hhb, hkeys, hvals, hap⟩ := htg _ (cw hc) (by simp)
  have ownb : ∀ (g e0 : Nat), lX E.size (a.eval x) = some (g, e0) → ∀ (j : Nat) (u : Value) (e1 : Nat), (es.toList.map (·.val))[j]? = some u → lX E.size u = some (g, e1) → (q[j]?).map Prod.fst = some k ∧ (roomy (a.eval x) = true → e1 ≤ e0) := fun g e0 he => by
    obtain ⟨b', es', c', g1, g2, g3⟩ := hown g e0 he
    obtain ⟨u', hu'⟩ : ∃ u, tg = u + 1 := ⟨tg - 1, by omega⟩
    have : b = b' := by
      have hb' : M b = some (u' + 1) := hu' ▸ hb
      have g1' : M b' = some (u' + 1) := hu' ▸ g1
      exact wf.inj b b' u' (by omega) hb' g1'
    subst this
    rw [hhb] at g2
    injection g2 with g2
    injection g2 with g2 _
    subst g2
    exact g3
  obtain ⟨_, D, _, hD, hkd, _⟩ := dI hT
  rw [hk] at hkd
  cases D <;> simp only [TK.of, reduceCtorEq, TK.slice.injEq] at hkd
  subst hkd
  rename_i el
  obtain ⟨i, _, hi, _, _, hsz, hby, hze⟩ := dI hE
  obtain ⟨zz, hiz, hzc⟩ : ∃ z, i.zero = some z ∧ z.cells.size = i.size := by
    cases hiz : i.zero with
    | none => rw [hiz] at hze; rw [← hze] at hz; simp at hz; omega
    | some z => rw [hiz] at hze; exact ⟨z, rfl, by simp at hze; rw [hsz, ← hz, ← hze]; simp⟩
  obtain ⟨ad, c', ey, hc1, hc2, hpp⟩ := hdy
  obtain ⟨b', off', rfl, hp'⟩ := hpp hpos
  obtain ⟨news, hn1, hn2, hn3⟩ := pE hp' _ (Nat.le_refl _)
  rw [List.take_length] at hn2
  have hnl : news.length = ys.length * i.size := by rw [hn1, dJ, hsz, hs]
  have hnews : ∀ j u, news[j]? = some u → w.cell? ((⟨b', off', none⟩ : Addr).add j) = some u := fun j u hj => by rw [Addr.add_lit]; exact hn3 j u hj
  have hones := mL hn2 (mK E ys)
  have hesz : E.size = i.size := by rw [hsz, hs]
  -- behind a growth
  have grown : ∀ (olds : List Value) (cap : Nat), cL w M (xs.flatMap E.tys) olds → cap < xs.length + ys.length →
      (Builtin.append_ #[st, st] t #[a.eval x, a.eval y]).run P w = .ok (.slice (some ⟨w.heap.size, 0, none⟩) (xs.length + ys.length) (grownCap w (xs.length + ys.length) cap el)) (w.drew.alloc (.cells (olds.toArray ++ news.toArray ++ Builtin.zeroCells zz.cells (grownCap w (xs.length + ys.length) cap el - (xs.length + ys.length))) el)) →
      ∃ v w', (execOp a.eval ⟨some d, .call ⟨.builtin .append, #[x, y], #[st, st]⟩, t, p, e, none⟩).run P w = .ok (.value v) w' ∧ Fx.left { d := some d, ty := .qv E el tg J q k (xs ++ ys), S := [tg, J], sets := [(tg, .mr enc E el J q)], rs := cH x ++ cH y, rt := [tg] } w M w' v := by
    intro olds cap hdo hcap hrun
    have holen : olds.length = xs.length * i.size := by rw [cP hdo, dJ, hesz]
    have hge := grownCap_ge w (xs.length + ys.length) cap el
    have hcm : grownCap w (xs.length + ys.length) cap el ≤ maxLen := grownCap_le_maxLen w (xs.length + ys.length) cap el (by simp only [maxLen]; omega)
    have hsize : (w.drew.alloc (.cells (olds.toArray ++ news.toArray ++ Builtin.zeroCells zz.cells (grownCap w (xs.length + ys.length) cap el - (xs.length + ys.length))) el)).heap.size = w.heap.size + 1 := by simp
    have hold : ∀ b2, b2 < w.heap.size → (w.drew.alloc (.cells (olds.toArray ++ news.toArray ++ Builtin.zeroCells zz.cells (grownCap w (xs.length + ys.length) cap el - (xs.length + ys.length))) el)).heap[b2]? = w.heap[b2]? := fun b2 h => Below.heap_alloc w.drew _ b2 h
    have hnew : (w.drew.alloc (.cells (olds.toArray ++ news.toArray ++ Builtin.zeroCells zz.cells (grownCap w (xs.length + ys.length) cap el - (xs.length + ys.length))) el)).heap[w.heap.size]? = some (.cells (olds.toArray ++ news.toArray ++ Builtin.zeroCells zz.cells (grownCap w (xs.length + ys.length) cap el - (xs.length + ys.length))) el (0, 0)) := gi w.drew _
    have hos : (w.drew.alloc (.cells (olds.toArray ++ news.toArray ++ Builtin.zeroCells zz.cells (grownCap w (xs.length + ys.length) cap el - (xs.length + ys.length))) el)).os = w.os ∧ (w.drew.alloc (.cells (olds.toArray ++ news.toArray ++ Builtin.zeroCells zz.cells (grownCap w (xs.length + ys.length) cap el - (xs.length + ys.length))) el)).tape = w.tape ∧ (w.drew.alloc (.cells (olds.toArray ++ news.toArray ++ Builtin.zeroCells zz.cells (grownCap w (xs.length + ys.length) cap el - (xs.length + ys.length))) el)).output = w.output := ⟨rfl, rfl, rfl⟩
    have hcs : (olds.toArray ++ news.toArray ++ Builtin.zeroCells zz.cells (grownCap w (xs.length + ys.length) cap el - (xs.length + ys.length))).size = grownCap w (xs.length + ys.length) cap el * i.size := by
      simp only [Array.size_append, List.size_toArray, size_zeroCells, hzc, holen, hnl, ← Nat.add_mul]
      congr 1
      omega
    have htk : ((olds.toArray ++ news.toArray ++ Builtin.zeroCells zz.cells (grownCap w (xs.length + ys.length) cap el - (xs.length + ys.length))).toList.drop 0).take ((xs ++ ys).length * E.size) = olds ++ news := by
      rw [List.drop_zero]
      simp only [Array.toList_append]
      rw [List.take_left' (by rw [List.length_append, holen, hnl, List.length_append, hesz, Nat.add_mul])]
    generalize hw' : (w.drew.alloc (.cells (olds.toArray ++ news.toArray ++ Builtin.zeroCells zz.cells (grownCap w (xs.length + ys.length) cap el - (xs.length + ys.length))) el)) = w' at *
    generalize hcu : (olds.toArray ++ news.toArray ++ Builtin.zeroCells zz.cells (grownCap w (xs.length + ys.length) cap el - (xs.length + ys.length))) = cu at *
    have le : Le (· ∈ [tg, J]) (· ∈ ([] : List Nat)) w M w' (fun b2 => if b2 = w.heap.size then some J else M b2) :=
      ⟨by omega, hos.1, hos.2.1, hos.2.2, fun b2 hb2 hm => ⟨by rw [if_neg (by omega)]; exact hm, hold b2 hb2⟩, fun b2 u hm _ => by
        have := wf.lt b2 u hm
        exact ⟨by rw [if_neg (by omega)]; exact hm, fun _ => hold b2 this⟩⟩
    have le0 : Le (· ∈ ([] : List Nat)) (· ∈ ([] : List Nat)) w M w' (fun b2 => if b2 = w.heap.size then some J else M b2) :=
      ⟨by omega, hos.1, hos.2.1, hos.2.2, fun b2 hb2 hm => ⟨by rw [if_neg (by omega)]; exact hm, hold b2 hb2⟩, fun b2 u hm _ => by
        have := wf.lt b2 u hm
        exact ⟨by rw [if_neg (by omega)]; exact hm, fun _ => hold b2 this⟩⟩
    have wf' : Wf w' (fun b2 => if b2 = w.heap.size then some J else M b2) := by
      refine ⟨fun b2 u hm => ?_, fun b2 b3 u ht1 hm hm' => ?_⟩
      · split at hm
        · omega
        · have := wf.lt b2 u hm; omega
      · split at hm
        · injection hm with hm; omega
        · split at hm'
          · injection hm' with hm'; omega
          · exact wf.inj b2 b3 u ht1 hm hm'
    have hblt := wf.lt b tg hb
    refine ⟨.slice (some ⟨w.heap.size, 0, none⟩) (xs.length + ys.length) (grownCap w (xs.length + ys.length) cap el), w', by simp [execOp, resolve, invoke, builtin, hrun], _, wf', le, ⟨.inr ⟨w.heap.size, 0, grownCap w (xs.length + ys.length) cap el, cu, by rw [List.length_append], by simp, hnew, by rw [List.length_append]; exact hge, hcm, by rw [hcs, hesz]; omega, ?_⟩, fun g e0 he => ?_⟩, fun y hy => ?_⟩
    · rw [htk, List.flatMap_append]
      exact jv (b9 le0 (by rw [E.dB]; intro _ h; cases h) (by rw [E.cv]; intro _ h; cases h) hdo) (b9 le0 (by rw [E.dB]; intro _ h; cases h) (by rw [E.cv]; intro _ h; cases h) hn2)
    · simp only [lX, Option.some.injEq, Prod.mk.injEq] at he
      obtain ⟨rfl, _⟩ := he
      refine ⟨b, es, clock, (if_neg (by omega)).trans hb, (hold b hblt).trans hhb, fun j u e1 hj hju => ?_⟩
      have := wf.lt _ _ (F4 hvals hj hju)
      omega
    · rw [List.mem_singleton.1 hy]
      refine ⟨hn, b, es, clock, (if_neg (by omega)).trans hb, (hold b hblt).trans hhb, hkeys, ?_, hap⟩
      exact b9 le0 (fun _ _ h => by cases h) (fun _ _ h => by cases h) hvals
  rcases hrow with ⟨hxe, ex⟩ | ⟨g, off, cap, cur, ex, hg, hh, hxc, hcm, hfit, hdx⟩
  · have hrn := run_append_nil (P := P) w st t el i zz hD hi hiz ⟨b', off', none⟩ ys.length c' news hnl hnews hpos (by omega) (by rw [hby]; have := hlen; rw [Nat.add_mul] at this; omega)
    subst hxe
    refine grown [] 0 trivial (by simpa using hpos) ?_
    rw [ex, ey]
    simpa using hrn
  · by_cases hroom : xs.length + ys.length ≤ cap
    · -- in place
      have hm : (xs.length + ys.length) * E.size ≤ cap * E.size := Nat.mul_le_mul_right _ hroom
      rw [Nat.add_mul] at hm
      have hcf : off + xs.length * i.size + news.length ≤ cur.size := by rw [hnl, ← hesz]; omega
      have hf := run_firstCells_some (P := P) w i.size ys.length ⟨b', off', none⟩ ys.length c' news hnl hnews
      have hst := run_storeCells_at (P := P) g (off + xs.length * i.size) el news 0 cur w hh (by simpa using hcf) hones
      rw [m6 _ hh] at hst
      simp only [Nat.add_zero] at hst
      obtain ⟨h1', h2', h3'⟩ := jx (cs' := (cur.toList.take (off + xs.length * i.size) ++ news ++ cur.toList.drop (off + xs.length * i.size + news.length)).toArray) (Tb := el) wf hg _ rfl
      have hrun : (Builtin.append_ #[st, st] t #[a.eval x, a.eval y]).run P w = .ok (.slice (some ⟨g, off, none⟩) (xs.length + ys.length) cap) { w with heap := w.heap.setIfInBounds g (.cells (cur.toList.take (off + xs.length * i.size) ++ news ++ cur.toList.drop (off + xs.length * i.size + news.length)).toArray el (0, 0)) } := by
        rw [ex, ey]
        simp [Builtin.append_, run_underlying hD, sizeOf, typeInfo, hi, Builtin.lenOf, hroom, hf, Addr.add_lit, hst]
      have le : Le (· ∈ [tg, J]) (· ∈ ([] : List Nat)) w M { w with heap := w.heap.setIfInBounds g (.cells (cur.toList.take (off + xs.length * i.size) ++ news ++ cur.toList.drop (off + xs.length * i.size + news.length)).toArray el (0, 0)) } M :=
        h2'.weaken (fun u hu => by simp only [List.mem_singleton] at hu; subst hu; simp) (fun _ h => by cases h)
      have hgb : g ≠ b := fun e => by rw [e, hhb] at hh; cases hh
      have hroomy : roomy (a.eval x) = true := by rw [ex]; simp [roomy]; omega
      have hb' : ({ w with heap := w.heap.setIfInBounds g (.cells (cur.toList.take (off + xs.length * i.size) ++ news ++ cur.toList.drop (off + xs.length * i.size + news.length)).toArray el (0, 0)) } : World).heap[b]? = some (.map es clock) := by
        show (w.heap.setIfInBounds g _)[b]? = _
        rw [Array.getElem?_setIfInBounds_ne hgb]; exact hhb
      refine ⟨.slice (some ⟨g, off, none⟩) (xs.length + ys.length) cap, _, by simp [execOp, resolve, invoke, builtin, hrun], M, h1', le, ⟨.inr ⟨g, off, cap, _, by rw [List.length_append], hg, h3', by rw [List.length_append]; exact hroom, hcm, ?_, ?_⟩, fun g' e0 he => ?_⟩, fun y hy => ?_⟩
      · simp only [List.size_toArray, List.length_append, List.length_take, List.length_drop, Array.length_toList]
        omega
      · rw [List.length_append, Nat.add_mul, hesz, ← hnl, List.toList_toArray, BP _ _ _ _ (by simpa using hcf), List.flatMap_append]
        refine b9 h2' (by rw [← List.flatMap_append, E.dB]; intro _ h; cases h) (by rw [← List.flatMap_append, E.cv]; intro _ h; cases h) (jv ?_ hn2)
        rw [← hesz]; exact hdx
      · simp only [lX, Option.some.injEq, Prod.mk.injEq] at he
        obtain ⟨rfl, rfl⟩ := he
        refine ⟨b, es, clock, hb, hb', fun j u e1 hj hju => ?_⟩
        have := ownb g (off + xs.length * E.size) (by rw [ex]; rfl) j u e1 hj hju
        refine ⟨this.1, fun _ => ?_⟩
        have := this.2 hroomy
        rw [Nat.add_mul]; omega
      · rw [List.mem_singleton.1 hy]
        refine ⟨hn, b, es, clock, hb, hb', hkeys, ?_, hap⟩
        refine gz (by rw [cP hvals]) fun j ty hj => ?_
        obtain ⟨u, hu, hdu⟩ := dU hvals j ty hj
        refine ⟨u, hu, ?_⟩
        rw [List.getElem?_map] at hj
        obtain ⟨qe, _, rfl⟩ := Option.map_eq_some_iff.1 hj
        rcases hdu with h | ⟨g2, off2, c2, cur2, e2, hg2, hh2, k1, k2, k3, k4⟩
        · exact .inl h
        · by_cases hgg : g = g2
          · subst hgg
            rw [hh] at hh2
            injection hh2 with hh2
            injection hh2 with ha _
            subst ha
            have hend := (ownb g (off + xs.length * E.size) (by rw [ex]; rfl) j u _ hu (by rw [e2]; rfl)).2 hroomy
            refine .inr ⟨g, off2, c2, _, e2, hg, h3', k1, k2, ?_, ?_⟩
            · simp only [List.size_toArray, List.length_append, List.length_take, List.length_drop, Array.length_toList]
              omega
            · rw [List.toList_toArray, Gc _ _ _ _ 0 _ (by rw [← hesz]; exact hend) (by simpa using hcf)]
              exact b9 h2' (by rw [E.dB]; intro _ h; cases h) (by rw [E.cv]; intro _ h; cases h) k4
          · refine .inr ⟨g2, off2, c2, cur2, e2, hg2, ?_, k1, k2, k3, b9 h2' (by rw [E.dB]; intro _ h; cases h) (by rw [E.cv]; intro _ h; cases h) k4⟩
            show (w.heap.setIfInBounds g _)[g2]? = _
            rw [Array.getElem?_setIfInBounds_ne hgg]; exact hh2
    · have holds : ∀ j u, ((cur.toList.drop off).take (xs.length * E.size))[j]? = some u → w.cell? ((⟨g, off, none⟩ : Addr).add j) = some u := fun j u hj => by
        rw [List.getElem?_take] at hj
        split at hj
        · rw [List.getElem?_drop] at hj
          rw [Addr.add_lit]
          simpa [World.cell?, hh] using hj
        · cases hj
      have hol : ((cur.toList.drop off).take (xs.length * E.size)).length = xs.length * i.size := by rw [cP hdx, dJ, hesz]
      have hrn := run_append_grow (P := P) w st t el i zz hD hi hiz ⟨g, off, none⟩ xs.length cap _ hol holds ⟨b', off', none⟩ ys.length c' news hnl hnews (by omega) (by omega) (growslice_fits (by omega) (by rw [hby]; exact hlen))
      refine grown _ cap hdx (by omega) ?_
      rw [ex, ey]
      exact hrn
end
end Go.T
namespace Go.T
open Go Go.RowKit
end Go.T
namespace Go.T
open Go Go.RowKit Go.Lib
section
variable {P : Program} {fr : Fr} {ops : Array Oper} {A : As} {rest : List Oper} {K : As → List (As × Fx) → Prop} {d : Nat} {t ty' ty2 : TypeId} {p : String} {e : Array Edge} [T : kY P]
end
end Go.T
namespace Go.T
open Go Go.RowKit
section
variable {P : Program} {fr : Fr} {ops : Array Oper} {A : As} {rest : List Oper} {K : As → List (As × Fx) → Prop} {t mt : TypeId} {p : String} {e : Array Edge} {d : Option Nat} {x y z : Operand}
end
section
variable {P : Program} {fr : Fr} {ops : Array Oper} {A : As} {rest : List Oper} {K : As → List (As × Fx) → Prop} {d : Nat} {t mt kt et : TypeId} {p : String} {e : Array Edge}
variable {κ β : Type} [DecidableEq κ]
end
section
variable {A : As} {κ β : Type} [DecidableEq κ]
end
section
variable {P : Program} {fr : Fr} {ops : Array Oper} {A : As} {rest : List Oper} {K : As → List (As × Fx) → Prop} {t ty' : TypeId} {p : String} {e : Array Edge} [T : kY P]
end
section
variable {P : Program} {fr : Fr} {ops : Array Oper} {A : As} {rest : List Oper} {K : As → List (As × Fx) → Prop} {d : Nat} {t ty' : TypeId} {p : String} {e : Array Edge} [T : kY P]
theorem oV {α : Type} [Inhabited α] {E : El α} {xs : List α} {x : Operand} {tg off Tb : Nat} {ti : TI} (i : Nat) (hx : A.op fr x = .ptr tg off) (he : off = i * E.size) (hc : A.tag tg = some (.vec E Tb xs)) (h1 : gA tg) (hT : T.ep[ty']? = some ti) (ha : ti.k.agg = true) (hsz : ti.size = E.size) (hi : i < xs.length)
 (h : aq P fr ops rest (A.set d (.agg (E.tys (nth xs i)))) fun A' l => K A' ((A, { d := some d, ty := .agg (E.tys (nth xs i)), rs := cH x, rt := [tg] }) :: l)) : aq P fr ops (⟨some d, .load ty' x, t, p, e, none⟩ :: rest) A K :=
 bI (bU rfl rfl fun a w M wf hr ht => by
  have := cT (x := x) (fun _ h => h) hr
  rw [hx] at this
  obtain ⟨b, hb, e⟩ := this
  obtain ⟨cs, g1, g2, g3⟩ := vH (l := E.tys (nth xs i)) (b := b) (q := off) (off := 0) (n := ti.size) (m := E.tys (nth xs i)) (fun j t hj => oC wf h1 hb (rC hc w M ht) (by
   rw [he]; exact kV E xs hi j t hj)) (by rw [List.drop_zero, hsz, ← E.len (nth xs i), List.take_length]) (by rw [E.len, hsz])
  exact ⟨.agg cs.toArray, by simp only [execOp, e]; rw [Sem.run_bind, gJ (off := off) hT ha g1 (by simpa using g3)]; rfl, cs.toArray, rfl, by simpa using g2⟩) h
end
section
variable {P : Program} {A : As} {fn : Func} {n : Nat} {w0 : World} {M0 : bA} [T : kY P]
end
section
variable {P : Program} {fr : Fr} {A : As} {c : Code} {Q : Exit → Act → World → Prop}
theorem gL {tg : Nat} {C D : Cont} (hc : A.tag tg = some C) (h : C.Sub D) (h' : fT P fr c ⟨A.slots, (tg, D) :: A.tags⟩ Q) : fT P fr c A Q := fun a w ⟨M, ok, hsl, ht⟩ =>
 h' a w ⟨M, ok, hsl, fun x hx => by
  rcases List.mem_cons.1 hx with rfl | hx
  ·exact h _ _ _ (ht _ (cw hc))
  exact ht x hx⟩
end
section
variable {P : Program} {fr : Fr} {ops : Array Oper} {A : As} {rest : List Oper} {K : As → List (As × Fx) → Prop} {d : Nat} {t mt kt et : TypeId} {p : String} {e : Array Edge} {κ β : Type} [DecidableEq κ]
end
end Go.T
namespace Go.T
open Go Go.RowKit
def LS (J : World → bA → Prop) (w : World) (M : bA) : Prop :=
  ∃ Mc, Wf w Mc ∧ D7 Mc ∧ J w Mc ∧ (∀ b, M b = none → Mc b = none) ∧ ∀ b u, b < w.heap.size → M b = some u → u ≠ 7000 → Mc b = some (Zt + b)
theorem wR {J : World → bA → Prop} (hJ : Cb J) {S K : Nat → Prop} {w w' : World} {M M' : bA} (le : Le S K w M w' M') (hs : ¬ S 7000) (hk : ¬ K 7000) (h : LS J w M) : LS J w' M' := by
  obtain ⟨Mc, wf, z, hj, h1, h2⟩ := h
  have own : ∀ b, M b = some 7000 → M' b = some 7000 ∧ w'.heap[b]? = w.heap[b]? := fun b h => let ⟨a, c⟩ := le.own b _ h hk; ⟨a, c hs⟩
  have mb : ∀ b t, Mc b = some t → t < Zt → M b = some 7000 := fun b t h ht => by
    cases hm : M b with
    | none => rw [h1 b hm] at h; cases h
    | some u =>
      by_cases e : u = 7000
      · rw [e]
      · have := h2 b u (wf.lt b t h) hm e
        rw [this] at h; injection h with h; omega
  let N : bA := fun b => if b < w'.heap.size then (match M' b with | none => none | some u => if u = 7000 then (if b < w.heap.size ∧ M b = some 7000 then Mc b else some (Zt + b)) else some (Zt + b)) else none
  have hN : ∀ b, N b = if b < w'.heap.size then (match M' b with | none => none | some u => if u = 7000 then (if b < w.heap.size ∧ M b = some 7000 then Mc b else some (Zt + b)) else some (Zt + b)) else none := fun _ => rfl
  have zok : D7 N := by
    intro b u h hu
    rw [hN] at h
    split at h
    · split at h
      · cases h
      · split at h
        · split at h
          · exact z b u h hu
          · injection h with h; exact h.symm
        · injection h with h; exact h.symm
    · cases h
  have wf' : Wf w' N := by
    refine ⟨fun b t h => ?_, fun b b' t ht1 h h' => ?_⟩
    · rw [hN] at h
      split at h
      · assumption
      · cases h
    · have part : ∀ b, N b = some (t + 1) → Mc b = some (t + 1) := fun b h => by
        have hz : t + 1 < Zt := by unfold Zt; omega
        rw [hN] at h
        split at h
        · split at h
          · cases h
          · split at h
            · split at h
              · exact h
              · injection h with h; omega
            · injection h with h; omega
        · cases h
      exact wf.inj b b' t ht1 (part b h) (part b' h')
  have lez : Le (fun t => Zt ≤ t) (fun t => Zt ≤ t) w Mc w' N := by
    refine ⟨le.size, le.os, le.tape, le.out, fun b hb hm => ?_, fun b t hm ht => ?_⟩
    · have hb' : b < w'.heap.size := Nat.lt_of_lt_of_le hb le.size
      cases hmb : M b with
      | none =>
        obtain ⟨a, c⟩ := le.ni b hb hmb
        exact ⟨by rw [hN, if_pos hb', a], c⟩
      | some u =>
        by_cases e : u = 7000
        · subst e
          obtain ⟨a, c⟩ := own b hmb
          exact ⟨by rw [hN, if_pos hb', a]; show (if (7000 : Nat) = 7000 then _ else _) = _; rw [if_pos rfl, if_pos ⟨hb, hmb⟩]; exact hm, c⟩
        · rw [h2 b u hb hmb e] at hm; cases hm
    · have hlt := wf.lt b t hm
      have h0 := mb b t hm (Nat.lt_of_not_le ht)
      obtain ⟨a, c⟩ := own b h0
      refine ⟨?_, fun _ => c⟩
      rw [hN, if_pos (Nat.lt_of_lt_of_le hlt le.size), a]
      show (if (7000 : Nat) = 7000 then _ else _) = _
      rw [if_pos rfl, if_pos ⟨hlt, h0⟩]; exact hm
  refine ⟨N, wf', zok, hJ _ _ _ _ wf' lez hj, fun b h => ?_, fun b u hb h hu => ?_⟩
  · rw [hN, h]; split <;> rfl
  · rw [hN, if_pos hb, h]; show (if u = 7000 then _ else _) = _; rw [if_neg hu]
def Cont.ck {J : World → bA → Prop} (hJ : Cb J) : Cont :=
  { den := fun w M t => t = 7000 ∧ LS J w M
    mono := fun le _ _ hs hk ⟨e, h⟩ => ⟨e, wR hJ le (e ▸ hs) (e ▸ hk) h⟩ }
theorem Cont.KR {J : Nat → World → bA → Prop} (hJ : ∀ k, Cb (J k)) {a b : Nat} (e : a = b) : (Cont.ck (hJ a)).Sub (Cont.ck (hJ b)) := by subst e; exact Cont.aF _
def Mu (b1 : Bool) (J1 Jx : World → bA → Prop) (w : World) (M : bA) (v : Value) : Prop := (v = .bool b1 ∧ LS J1 w M) ∨ (v = .bool (!b1) ∧ LS Jx w M)
def Ty.yb {J1 Jx : World → bA → Prop} (b1 : Bool) (h1 : Cb J1) (hx : Cb Jx) : Ty :=
  ⟨Mu b1 J1 Jx, [7000], [7000], fun le hk hs h => h.imp (fun ⟨e, h⟩ => ⟨e, wR h1 le (hs _ (by simp)) (hk _ (by simp)) h⟩) (fun ⟨e, h⟩ => ⟨e, wR hx le (hs _ (by simp)) (hk _ (by simp)) h⟩), true, fun _ h => h.elim (fun ⟨e, _⟩ => e ▸ rfl) (fun ⟨e, _⟩ => e ▸ rfl)⟩
def AV (w : World) (M1 Mc' : bA) : bA := fun b => if b < w.heap.size then M1 b else (Mc' b).map fun _ => 7000
theorem FE {w w' : World} {M1 Mc Mc' : bA} (wf1 : Wf w M1) (wf' : Wf w' Mc') (h1 : ∀ b, M1 b = none → Mc b = none) (h2 : ∀ b u, b < w.heap.size → M1 b = some u → u ≠ 7000 → Mc b = some (Zt + b)) (le : Le (fun t => t < Zt) (fun t => t < Zt) w Mc w' Mc') :
 Wf w' (AV w M1 Mc') ∧ Le (· ∈ [7000]) (· ∈ ([] : List Nat)) w M1 w' (AV w M1 Mc') ∧ (∀ b, AV w M1 Mc' b = none → Mc' b = none) ∧ ∀ b u, b < w'.heap.size → AV w M1 Mc' b = some u → u ≠ 7000 → Mc' b = some (Zt + b) := by
 unfold AV
 refine ⟨⟨fun b u h => ?_, fun b b' u ht1 h h' => ?_⟩, ⟨le.size, le.os, le.tape, le.out, fun b hb hm => ⟨by simp [hb, hm], (le.ni b hb (h1 b hm)).2⟩, fun b u hm _ => ⟨by simp [wf1.lt b u hm, hm], fun hs => ?_⟩⟩, fun b h => ?_, fun b u _ h hu => ?_⟩
 ·split at h
  ·exact Nat.lt_of_lt_of_le ‹_› le.size
  obtain ⟨v, hv, _⟩ := Option.map_eq_some_iff.1 h
  exact wf'.lt b v hv
 ·have part : ∀ b, (if b < w.heap.size then M1 b else (Mc' b).map fun _ => 7000) = some (u + 1) → M1 b = some (u + 1) := fun b h => by
   split at h
   ·exact h
   obtain ⟨v, _, hv⟩ := Option.map_eq_some_iff.1 h
   omega
  exact wf1.inj b b' u ht1 (part b h) (part b' h')
 ·have hu : u ≠ 7000 := fun e => hs (by simp [e])
  exact (le.own b _ (h2 b u (wf1.lt b _ hm) hm hu) (by omega)).2 (by omega)
 ·split at h
  ·exact (le.ni b ‹_› (h1 b h)).1
  simpa using h
 split at h
 ·exact (le.own b _ (h2 b u ‹_› h hu) (by omega)).1
 obtain ⟨v, _, hv⟩ := Option.map_eq_some_iff.1 h
 exact absurd hv.symm hu
section
variable {P : Program} {fr : Fr} {ops : Array Oper} {A : As} {rest : List Oper} {K : As → List (As × Fx) → Prop} {d : Nat} {t ty' : TypeId} {p : String} {e : Array Edge}
theorem Ap {c l k : Nat} {encs : List (List Ty)} {J : Nat → World → bA → Prop} {Jx : World → bA → Prop} (hJ : ∀ k, Cb (J k)) (hJx : Cb Jx) (hY : LQ P l encs J Jx) {xs : List Operand} {ats : Array TypeId} {tys : List Ty}
 (hkd : fr.kd = .plain) (hc : A.op fr (.tmp c) = .ex (yv l)) (hx : nT A fr xs = tys) (hd : cE tys = []) (hdc : bh tys = []) (hk : encs[k]? = some tys) (ht : A.tag 7000 = some (.ck (hJ k)))
 (h : aq P fr ops rest (A.after { d := some d, ty := .yb true (hJ (k + 1)) hJx, S := [7000], rs := c :: xs.flatMap cH, rt := [7000] }) fun A' l' => K A' ((A, { d := some d, ty := .yb true (hJ (k + 1)) hJx, S := [7000], rs := c :: xs.flatMap cH, rt := [7000] }) :: l')) :
 aq P fr ops (⟨some d, .call ⟨.value (.tmp c), xs.toArray, ats⟩, t, p, e, none⟩ :: rest) A K := by
 refine ⟨{ d := some d, ty := .yb true (hJ (k + 1)) hJx, S := [7000], rs := c :: xs.flatMap cH, rt := [7000] }, ⟨rfl, by simp, by simp, by simp, fun a w M wf hsz hrd htg => ?_⟩, h⟩
 rw [if_pos (by simp [Region.wanted])]
 have hcv := cT (x := .tmp c) (rs := c :: xs.flatMap cH) (fun u hu => by exact (List.mem_singleton.1 hu) ▸ List.mem_cons_self) hrd
 rw [hc] at hcv
 have hcv : a.eval (.tmp c) = yv l := hcv
 obtain ⟨_, Mc, wfc, z, hj, h1, h2⟩ := htg _ (cw ht) (by simp)
 have hv : cL w Mc tys (xs.map a.eval) := g7 h1 hd hdc (hx ▸ gY (rs := c :: xs.flatMap cH) hrd fun x hx c hc => List.mem_cons_of_mem _ (List.mem_flatMap.2 ⟨x, hx, hc⟩))
 obtain ⟨fn, tmps, assign, body, hy, hR⟩ := hY k tys hk w Mc _ wfc z hj hv
 refine ⟨fun f _ => fr.kd.uY f, ?_⟩
 have hrun : (execOp a.eval ⟨some d, .call ⟨.value (.tmp c), xs.toArray, ats⟩, t, p, e, none⟩).run P w = .ok (.round l fn tmps assign body) w := by
  simp [execOp, resolve, hcv, yv, Deferred.ofValue, invoke, hy]
 rw [Oper.semAt_eq _ _ _ (by intro c h; cases h), hrun, Oper.uponIn_round]
 refine ⟨fun h => (by rw [fr.kd.vX] at h; cases h), ?_⟩
 have hfe : fr.kd.iM = Fence.wide := by rw [hkd]; rfl
 rw [hfe]
 refine RoundIn.mono hR fun en w' ⟨Mc', wf', z', le, hor⟩ => ?_
 obtain ⟨g1, g2, g3, g4⟩ := FE wf wf' h1 h2 le
 rcases hor with ⟨rfl, hj'⟩ | ⟨rfl, hj'⟩
 ·exact ⟨.bool true, rfl, _, g1, g2, .inl ⟨rfl, Mc', wf', z', hj', g3, g4⟩, by simp⟩
 exact ⟨.bool false, rfl, _, g1, g2, .inr ⟨rfl, Mc', wf', z', hj', g3, g4⟩, by simp⟩
theorem Hz {x : Operand} {J1 Jx : World → bA → Prop} {h1 : Cb J1} {hx : Cb Jx} {b1 : Bool} (hop : A.op fr x = .yb b1 h1 hx)
 (h : aq P fr ops rest (A.set d (.yb (!b1) h1 hx)) fun A' l' => K A' ((A, { d := some d, ty := .yb (!b1) h1 hx, rs := cH x }) :: l')) : aq P fr ops (⟨some d, .unOp .not ty' x, t, p, e, none⟩ :: rest) A K :=
 bI (bU rfl rfl fun a w M _ hrd _ => by
  have hdx := cT (x := x) (fun _ h => h) hrd
  rw [hop] at hdx
  rcases hdx with ⟨ex, hj⟩ | ⟨ex, hj⟩
  ·exact ⟨.bool (!b1), by simp [execOp, ex, Op.unary], .inl ⟨rfl, hj⟩⟩
  exact ⟨.bool (!!b1), by simp [execOp, ex, Op.unary], .inr ⟨rfl, hj⟩⟩) h
end
section
variable {P : Program} {fr : Fr} {A : As} {Q : Exit → Act → World → Prop} {x y : Code}
theorem DJ {c : Operand} {J1 Jx : World → bA → Prop} {h1 : Cb J1} {hx : Cb Jx} (hc : A.op fr c = .yb false h1 hx) (hth : fT P fr x ⟨A.slots, (7000, .ck hx) :: A.tags⟩ Q) (hel : fT P fr y ⟨A.slots, (7000, .ck h1) :: A.tags⟩ Q) : fT P fr (.cond c x y) A Q := fun a w ha => by
 obtain ⟨M, ok, hs, ht⟩ := ha
 have hd := cT (x := c) (rs := cH c) (fun _ h => h) (fun c _ hn => hs c hn)
 rw [hc] at hd
 rcases hd with ⟨ev, hj⟩ | ⟨ev, hj⟩
 ·exact wpIn_cond_false ev (hel a w ⟨M, ok, hs, fun x hx => by
   rcases List.mem_cons.1 hx with rfl | hx
   ·exact ⟨rfl, hj⟩
   exact ht x hx⟩)
 ·exact wpIn_cond_true ev (hth a w ⟨M, ok, hs, fun x hx => by
   rcases List.mem_cons.1 hx with rfl | hx
   ·exact ⟨rfl, hj⟩
   exact ht x hx⟩)
end
def kB (Mc : bA) (g : Option Nat) : bA := fun b => match Mc b with | none => none | some u => if u < Zt then some 7000 else if some b = g then some 1000 else some 5000
theorem AZ {Mc : bA} {g : Option Nat} {b : Nat} (h : kB Mc g b = none) : Mc b = none := by
 unfold kB at h
 split at h
 ·assumption
 split at h
 ·cases h
 split at h <;> cases h
theorem nG {Mc : bA} {g : Option Nat} {b : Nat} (h : Mc b = none) : kB Mc g b = none := by simp [kB, h]
theorem EC {w : World} {Mc : bA} {g : Option Nat} (wf : Wf w Mc) : Wf w (kB Mc g) := by
  refine ⟨fun b t h => ?_, fun b b' t ht h h' => ?_⟩
  · cases hm : Mc b with
    | none => rw [nG hm] at h; cases h
    | some u => exact wf.lt b u hm
  · have key : ∀ b, kB Mc g b = some (t + 1) → some b = g := fun b h => by
      unfold kB at h
      split at h
      · cases h
      · split at h
        · injection h with h; omega
        · split at h
          · assumption
          · injection h with h; omega
    have e1 := key b h
    have e2 := key b' h'
    rw [← e2] at e1; injection e1
theorem E1 {w : World} {Mc : bA} {g : Option Nat} {J : World → bA → Prop} (wf : Wf w Mc) (z : D7 Mc) (hj : J w Mc) : LS J w (kB Mc g) := by
 refine ⟨Mc, wf, z, hj, fun b h => AZ h, fun b u _ h hu => ?_⟩
 unfold kB at h
 split at h
 ·cases h
 rename_i v hv
 split at h
 ·injection h with h; exact absurd h.symm hu
 rw [hv]; congr 1; exact z b v hv (by omega)
section
variable {P : Program}
variable {A : As} {fn : Func} {n : Nat} {J1 Jx : World → bA → Prop}
end
end Go.T
namespace Go.T
open Go Go.RowKit
section
variable {P : Program} {fr : Fr} {ops : Array Oper} {A : As} {rest : List Oper} {K : As → List (As × Fx) → Prop} {d : Nat} {t ty' : TypeId} {p : String} {e : Array Edge} [T : kY P]
variable {α : Type} {E : El α} {Tb J : Nat} {xs ys : List α}
theorem KF {x : Operand} {ti : TI} {el : Nat} (hx : A.op fr x = .iA E Tb J xs) (hT : T.ep[ty']? = some ti) (hk : ti.k = .slice el)
 (h : aq P fr ops rest (A.set d (.int .i64 (xs.length : Nat))) fun A' l => K A' ((A, { d := some d, ty := .int .i64 (xs.length : Nat), rs := cH x }) :: l)) :
 aq P fr ops (⟨some d, .call ⟨.builtin .len, #[x], #[ty']⟩, t, p, e, none⟩ :: rest) A K :=
 bI (bU rfl rfl fun a w M _ hr _ => by
  have := cT (x := x) (fun _ h => h) hr
  rw [hx] at this
  have h1 := this
  obtain ⟨_, D, _, hD, hkd, _⟩ := dI hT
  rw [hk] at hkd
  cases D <;> simp only [TK.of, reduceCtorEq, TK.slice.injEq] at hkd
  refine ⟨.int .i64 xs.length, ?_, rfl⟩
  rcases h1 with ⟨hn, ex⟩ | ⟨g, off, c, cur, ex, _⟩
  ·simp [execOp, ex, resolve, invoke, builtin, Builtin.len_, run_underlying hD, hn, goInt]
  simp [execOp, ex, resolve, invoke, builtin, Builtin.len_, run_underlying hD, goInt]) h
theorem FH [Inhabited α] {x y : Operand} {kd : IntKind} {i : Nat} {ti te : TI} {el : Nat} (hx : A.op fr x = .iA E Tb J xs) (hy : A.op fr y = .int kd i) (hT : T.ep[ty']? = some ti) (hk : ti.k = .slice el) (hE : T.ep[el]? = some te) (hs : te.size = E.size) (hi : i < xs.length)
 (h : aq P fr ops rest (A.set d (.op J (E.tys (nth xs i)))) fun A' l' => K A' ((A, { d := some d, ty := .op J (E.tys (nth xs i)), rs := cH x ++ cH y }) :: l')) : aq P fr ops (⟨some d, .indexAddr ty' x y, t, p, e, none⟩ :: rest) A K :=
 bI (bU rfl rfl fun a w M _ hr _ => by
  obtain ⟨hdx, hdy⟩ := op2 hr
  rw [hx] at hdx; rw [hy] at hdy
  have h1 := hdx
  have ey : a.eval y = .int kd i := hdy
  rcases h1 with ⟨h0, _⟩ | ⟨g, off, c, cur, ex, hg, hh, hn, _, _, hd⟩
  ·subst h0; simp at hi
  refine ⟨_, by simp only [execOp, ex, ey, Sem.run_bind, iS hT hk hE (Int.natCast_nonneg i) (show (i : Int).toNat < xs.length from hi)]; rfl, g, off + i * te.size, by simp, hg, fun j ty hj => ?_⟩
  rw [hs]
  exact E3 hh hd hi hj) h
theorem Kh {x y : Operand} {kd : IntKind} {lo : Nat} {ti te : TI} {el : Nat} (hx : A.op fr x = .iA E Tb J xs) (hy : A.op fr y = .int kd lo) (hT : T.ep[ty']? = some ti) (hk : ti.k = .slice el) (hE : T.ep[el]? = some te) (hs : te.size = E.size) (hlo : lo ≤ xs.length) (h0 : 0 < xs.length)
 (h : aq P fr ops rest (A.set d (.iA E Tb J (xs.drop lo))) fun A' l' => K A' ((A, { d := some d, ty := .iA E Tb J (xs.drop lo), rs := cH x ++ cH y }) :: l')) : aq P fr ops (⟨some d, .slice ty' x (some y) none none, t, p, e, none⟩ :: rest) A K :=
 bI (bU rfl rfl fun a w M _ hr _ => by
  obtain ⟨hdx, hdy⟩ := op2 hr
  rw [hx] at hdx; rw [hy] at hdy
  have h1 := hdx
  have ey : a.eval y = .int kd lo := hdy
  obtain ⟨_, D, _, hD, hkd, _⟩ := dI hT
  rw [hk] at hkd
  cases D <;> simp only [TK.of, reduceCtorEq, TK.slice.injEq] at hkd
  subst hkd
  have hsz := fun w => dX (P := P) hE w
  rcases h1 with ⟨hn, _⟩ | ⟨g, off, c, cur, ex, hg, hh, hn, hc, hsz2, hd⟩
  ·subst hn; simp at h0
  have hlc : lo ≤ c := by omega
  have hrun : ∃ ad, (execOp a.eval ⟨some d, .slice ty' x (some y) none none, t, p, e, none⟩).run P w = .ok (.value (.slice (some ad) (xs.length - lo) (c - lo))) w ∧ ad = (if c = lo then (⟨g, off, none⟩ : Addr) else ⟨g, off + lo * E.size, none⟩) := by
   refine ⟨_, ?_, rfl⟩
   simp [execOp, ex, ey, Instr.sliceAt, Instr.slice, run_underlying hD, Instr.sliceBounds, Instr.sliceBound, asIntOf, hsz, hs, hn, hlo]
   by_cases hcl : c = lo
   ·simp [hcl]
   simp [hcl]; exact Addr.add_lit _ _ _
  obtain ⟨ad, hrun, had⟩ := hrun
  have hlen : (xs.drop lo).length = xs.length - lo := List.length_drop
  have key : cL w M ((xs.drop lo).flatMap E.tys) ((cur.toList.drop (off + lo * E.size)).take ((xs.drop lo).length * E.size)) := by
   have := kT (lo * E.size) hd
   rw [List.drop_take, List.drop_drop, ← Nat.sub_mul] at this
   have e1 : (xs.flatMap E.tys).drop (lo * E.size) = (xs.drop lo).flatMap E.tys := by
    have : xs.flatMap E.tys = (xs.take lo).flatMap E.tys ++ (xs.drop lo).flatMap E.tys := by rw [← List.flatMap_append, List.take_append_drop]
    rw [this, List.drop_left' (by rw [dJ, List.length_take, Nat.min_eq_left hlo])]
   rw [e1] at this
   rw [hlen]; exact this
  by_cases hcl : c = lo
  ·rw [if_pos hcl] at had
   subst had
   refine ⟨_, hrun, .inr ⟨g, off, c - lo, cur, by rw [hlen], hg, hh, by rw [hlen]; omega, by omega, ?_, ?_⟩⟩
   ·have : c - lo = 0 := by omega
    rw [this]; omega
   have h0' : xs.drop lo = [] := List.eq_nil_of_length_eq_zero (by rw [hlen]; omega)
   rw [h0']; simp [cL]
  rw [if_neg hcl] at had
  subst had
  refine ⟨_, hrun, .inr ⟨g, off + lo * E.size, c - lo, cur, by rw [hlen], hg, hh, by rw [hlen]; omega, by omega, ?_, key⟩⟩
  rw [Nat.add_assoc, ← Nat.add_mul, show lo + (c - lo) = c by omega]; exact hsz2) h
theorem EI {x y : Operand} {st el : Nat} {ti te : TI} (hx : A.op fr x = .iA E el J xs) (hy : A.op fr y = .sl E ys) (hJ : 4096 ≤ J) (hp : fr.pass.contains J = false) (hpos : 0 < ys.length) (hT : T.ep[st]? = some ti) (hk : ti.k = .slice el) (hE : T.ep[el]? = some te) (hs : te.size = E.size) (hz : te.zero.length = te.size) (h0 : 0 < te.size)
    (hlen : (xs.length + ys.length) * te.bytes ≤ 140737488355328) (hlen' : xs.length + ys.length ≤ 9223372036854775807)
    (h : aq P fr ops rest (A.after { d := some d, ty := .iA E el J (xs ++ ys), S := [J], rs := cH x ++ cH y }) fun A' l' => K A' ((A, { d := some d, ty := .iA E el J (xs ++ ys), S := [J], rs := cH x ++ cH y }) :: l')) :
    aq P fr ops (⟨some d, .call ⟨.builtin .append, #[x, y], #[st, st]⟩, t, p, e, none⟩ :: rest) A K := by
  refine ⟨_, gX rfl rfl (by simp) (by simp; omega) (by simp) fun a w M wf hr htg => ?_, h⟩
  obtain ⟨hdx, hdy⟩ := op2 hr
  rw [hx] at hdx; rw [hy] at hdy
  have hrow := hdx
  obtain ⟨_, D, _, hD, hkd, _⟩ := dI hT
  rw [hk] at hkd
  cases D <;> simp only [TK.of, reduceCtorEq, TK.slice.injEq] at hkd
  subst hkd
  rename_i el
  obtain ⟨i, _, hi, _, _, hsz, hby, hze⟩ := dI hE
  obtain ⟨zz, hiz, hzc⟩ : ∃ z, i.zero = some z ∧ z.cells.size = i.size := by
    cases hiz : i.zero with
    | none => rw [hiz] at hze; rw [← hze] at hz; simp at hz; omega
    | some z => rw [hiz] at hze; exact ⟨z, rfl, by simp at hze; rw [hsz, ← hz, ← hze]; simp⟩
  obtain ⟨ad, c', ey, hc1, hc2, hpp⟩ := hdy
  obtain ⟨b', off', rfl, hp'⟩ := hpp hpos
  obtain ⟨news, hn1, hn2, hn3⟩ := pE hp' _ (Nat.le_refl _)
  rw [List.take_length] at hn2
  have hnl : news.length = ys.length * i.size := by rw [hn1, dJ, hsz, hs]
  have hnews : ∀ j u, news[j]? = some u → w.cell? ((⟨b', off', none⟩ : Addr).add j) = some u := fun j u hj => by rw [Addr.add_lit]; exact hn3 j u hj
  have hones := mL hn2 (mK E ys)
  have hesz : E.size = i.size := by rw [hsz, hs]
  -- behind a growth
  have grown : ∀ (olds : List Value) (cap : Nat), cL w M (xs.flatMap E.tys) olds → cap < xs.length + ys.length →
      (Builtin.append_ #[st, st] t #[a.eval x, a.eval y]).run P w = .ok (.slice (some ⟨w.heap.size, 0, none⟩) (xs.length + ys.length) (grownCap w (xs.length + ys.length) cap el)) (w.drew.alloc (.cells (olds.toArray ++ news.toArray ++ Builtin.zeroCells zz.cells (grownCap w (xs.length + ys.length) cap el - (xs.length + ys.length))) el)) →
      ∃ v w', (execOp a.eval ⟨some d, .call ⟨.builtin .append, #[x, y], #[st, st]⟩, t, p, e, none⟩).run P w = .ok (.value v) w' ∧ Fx.left { d := some d, ty := .iA E el J (xs ++ ys), S := [J], rs := cH x ++ cH y } w M w' v := by
    intro olds cap hdo hcap hrun
    have holen : olds.length = xs.length * i.size := by rw [cP hdo, dJ, hesz]
    have hge := grownCap_ge w (xs.length + ys.length) cap el
    have hcm : grownCap w (xs.length + ys.length) cap el ≤ maxLen := grownCap_le_maxLen w (xs.length + ys.length) cap el (by simp only [maxLen]; omega)
    have hsize : (w.drew.alloc (.cells (olds.toArray ++ news.toArray ++ Builtin.zeroCells zz.cells (grownCap w (xs.length + ys.length) cap el - (xs.length + ys.length))) el)).heap.size = w.heap.size + 1 := by simp
    have hold : ∀ b2, b2 < w.heap.size → (w.drew.alloc (.cells (olds.toArray ++ news.toArray ++ Builtin.zeroCells zz.cells (grownCap w (xs.length + ys.length) cap el - (xs.length + ys.length))) el)).heap[b2]? = w.heap[b2]? := fun b2 h => Below.heap_alloc w.drew _ b2 h
    have hnew : (w.drew.alloc (.cells (olds.toArray ++ news.toArray ++ Builtin.zeroCells zz.cells (grownCap w (xs.length + ys.length) cap el - (xs.length + ys.length))) el)).heap[w.heap.size]? = some (.cells (olds.toArray ++ news.toArray ++ Builtin.zeroCells zz.cells (grownCap w (xs.length + ys.length) cap el - (xs.length + ys.length))) el (0, 0)) := gi w.drew _
    have hos : (w.drew.alloc (.cells (olds.toArray ++ news.toArray ++ Builtin.zeroCells zz.cells (grownCap w (xs.length + ys.length) cap el - (xs.length + ys.length))) el)).os = w.os ∧ (w.drew.alloc (.cells (olds.toArray ++ news.toArray ++ Builtin.zeroCells zz.cells (grownCap w (xs.length + ys.length) cap el - (xs.length + ys.length))) el)).tape = w.tape ∧ (w.drew.alloc (.cells (olds.toArray ++ news.toArray ++ Builtin.zeroCells zz.cells (grownCap w (xs.length + ys.length) cap el - (xs.length + ys.length))) el)).output = w.output := ⟨rfl, rfl, rfl⟩
    have hcs : (olds.toArray ++ news.toArray ++ Builtin.zeroCells zz.cells (grownCap w (xs.length + ys.length) cap el - (xs.length + ys.length))).size = grownCap w (xs.length + ys.length) cap el * i.size := by
      simp only [Array.size_append, List.size_toArray, size_zeroCells, hzc, holen, hnl, ← Nat.add_mul]
      congr 1
      omega
    have htk : ((olds.toArray ++ news.toArray ++ Builtin.zeroCells zz.cells (grownCap w (xs.length + ys.length) cap el - (xs.length + ys.length))).toList.drop 0).take ((xs ++ ys).length * E.size) = olds ++ news := by
      rw [List.drop_zero]
      simp only [Array.toList_append]
      rw [List.take_left' (by rw [List.length_append, holen, hnl, List.length_append, hesz, Nat.add_mul])]
    generalize hw' : (w.drew.alloc (.cells (olds.toArray ++ news.toArray ++ Builtin.zeroCells zz.cells (grownCap w (xs.length + ys.length) cap el - (xs.length + ys.length))) el)) = w' at *
    generalize hcu : (olds.toArray ++ news.toArray ++ Builtin.zeroCells zz.cells (grownCap w (xs.length + ys.length) cap el - (xs.length + ys.length))) = cu at *
    have le : Le (· ∈ [J]) (· ∈ ([] : List Nat)) w M w' (fun b2 => if b2 = w.heap.size then some J else M b2) :=
      ⟨by omega, hos.1, hos.2.1, hos.2.2, fun b2 hb2 hm => ⟨by rw [if_neg (by omega)]; exact hm, hold b2 hb2⟩, fun b2 u hm _ => by
        have := wf.lt b2 u hm
        exact ⟨by rw [if_neg (by omega)]; exact hm, fun _ => hold b2 this⟩⟩
    have le0 : Le (· ∈ ([] : List Nat)) (· ∈ ([] : List Nat)) w M w' (fun b2 => if b2 = w.heap.size then some J else M b2) :=
      ⟨by omega, hos.1, hos.2.1, hos.2.2, fun b2 hb2 hm => ⟨by rw [if_neg (by omega)]; exact hm, hold b2 hb2⟩, fun b2 u hm _ => by
        have := wf.lt b2 u hm
        exact ⟨by rw [if_neg (by omega)]; exact hm, fun _ => hold b2 this⟩⟩
    have wf' : Wf w' (fun b2 => if b2 = w.heap.size then some J else M b2) := by
      refine ⟨fun b2 u hm => ?_, fun b2 b3 u ht1 hm hm' => ?_⟩
      · split at hm
        · omega
        · have := wf.lt b2 u hm; omega
      · split at hm
        · injection hm with hm; omega
        · split at hm'
          · injection hm' with hm'; omega
          · exact wf.inj b2 b3 u ht1 hm hm'
    refine ⟨.slice (some ⟨w.heap.size, 0, none⟩) (xs.length + ys.length) (grownCap w (xs.length + ys.length) cap el), w', by simp [execOp, resolve, invoke, builtin, hrun], _, wf', le, .inr ⟨w.heap.size, 0, grownCap w (xs.length + ys.length) cap el, cu, by rw [List.length_append], by simp, hnew, by rw [List.length_append]; exact hge, hcm, by rw [hcs, hesz]; omega, ?_⟩, by simp⟩
    rw [htk, List.flatMap_append]
    exact jv (b9 le0 (by rw [E.dB]; intro _ h; cases h) (by rw [E.cv]; intro _ h; cases h) hdo) (b9 le0 (by rw [E.dB]; intro _ h; cases h) (by rw [E.cv]; intro _ h; cases h) hn2)
  rcases hrow with ⟨hxe, ex⟩ | ⟨g, off, cap, cur, ex, hg, hh, hxc, hcm, hfit, hdx⟩
  · have hrn := run_append_nil (P := P) w st t el i zz hD hi hiz ⟨b', off', none⟩ ys.length c' news hnl hnews hpos (by omega) (by rw [hby]; have := hlen; rw [Nat.add_mul] at this; omega)
    subst hxe
    refine grown [] 0 trivial (by simpa using hpos) ?_
    rw [ex, ey]
    simpa using hrn
  · by_cases hroom : xs.length + ys.length ≤ cap
    · -- in place
      have hm : (xs.length + ys.length) * E.size ≤ cap * E.size := Nat.mul_le_mul_right _ hroom
      rw [Nat.add_mul] at hm
      have hcf : off + xs.length * i.size + news.length ≤ cur.size := by rw [hnl, ← hesz]; omega
      have hf := run_firstCells_some (P := P) w i.size ys.length ⟨b', off', none⟩ ys.length c' news hnl hnews
      have hst := run_storeCells_at (P := P) g (off + xs.length * i.size) el news 0 cur w hh (by simpa using hcf) hones
      rw [m6 _ hh] at hst
      simp only [Nat.add_zero] at hst
      obtain ⟨h1', h2', h3'⟩ := jx (cs' := (cur.toList.take (off + xs.length * i.size) ++ news ++ cur.toList.drop (off + xs.length * i.size + news.length)).toArray) (Tb := el) wf hg _ rfl
      have hrun : (Builtin.append_ #[st, st] t #[a.eval x, a.eval y]).run P w = .ok (.slice (some ⟨g, off, none⟩) (xs.length + ys.length) cap) { w with heap := w.heap.setIfInBounds g (.cells (cur.toList.take (off + xs.length * i.size) ++ news ++ cur.toList.drop (off + xs.length * i.size + news.length)).toArray el (0, 0)) } := by
        rw [ex, ey]
        simp [Builtin.append_, run_underlying hD, sizeOf, typeInfo, hi, Builtin.lenOf, hroom, hf, Addr.add_lit, hst]
      have le : Le (· ∈ [J]) (· ∈ ([] : List Nat)) w M { w with heap := w.heap.setIfInBounds g (.cells (cur.toList.take (off + xs.length * i.size) ++ news ++ cur.toList.drop (off + xs.length * i.size + news.length)).toArray el (0, 0)) } M :=
        h2'.weaken (fun u hu => by simp only [List.mem_singleton] at hu; subst hu; simp) (fun _ h => by cases h)
      refine ⟨.slice (some ⟨g, off, none⟩) (xs.length + ys.length) cap, _, by simp [execOp, resolve, invoke, builtin, hrun], M, h1', le, .inr ⟨g, off, cap, _, by rw [List.length_append], hg, h3', by rw [List.length_append]; exact hroom, hcm, ?_, ?_⟩, by simp⟩
      · simp only [List.size_toArray, List.length_append, List.length_take, List.length_drop, Array.length_toList]
        omega
      · rw [List.length_append, Nat.add_mul, hesz, ← hnl, List.toList_toArray, BP _ _ _ _ (by simpa using hcf), List.flatMap_append]
        refine b9 h2' (by rw [← List.flatMap_append, E.dB]; intro _ h; cases h) (by rw [← List.flatMap_append, E.cv]; intro _ h; cases h) (jv ?_ hn2)
        rw [← hesz]; exact hdx
    · have holds : ∀ j u, ((cur.toList.drop off).take (xs.length * E.size))[j]? = some u → w.cell? ((⟨g, off, none⟩ : Addr).add j) = some u := fun j u hj => by
        rw [List.getElem?_take] at hj
        split at hj
        · rw [List.getElem?_drop] at hj
          rw [Addr.add_lit]
          simpa [World.cell?, hh] using hj
        · cases hj
      have hol : ((cur.toList.drop off).take (xs.length * E.size)).length = xs.length * i.size := by rw [cP hdx, dJ, hesz]
      have hrn := run_append_grow (P := P) w st t el i zz hD hi hiz ⟨g, off, none⟩ xs.length cap _ hol holds ⟨b', off', none⟩ ys.length c' news hnl hnews (by omega) (by omega) (growslice_fits (by omega) (by rw [hby]; exact hlen))
      refine grown _ cap hdx (by omega) ?_
      rw [ex, ey]
      exact hrn
end
section
variable {P : Program} {fr : Fr} {A : As} {c : Code} {Q : Exit → Act → World → Prop}
end
end Go.T
namespace Go.T
open Go Go.RowKit
section
variable {P : Program} {fr : Fr} {ops : Array Oper} {A : As} {rest : List Oper} {K : As → List (As × Fx) → Prop} {d : Nat} {t : TypeId} {p : String} {e : Array Edge}
end
end Go.T
namespace Go.T
open Go Go.RowKit
theorem Ty.sD {α : Type} {E : El α} {T tg n : Nat} {xs : List α} (hn : xs.length = n) : (Ty.row E T tg xs).Sub (Ty.vs tg n) := fun w M v ⟨cs, h1, h2, h3⟩ => by
 subst hn
 rcases h1.2 with ⟨e, h0⟩ | ⟨g, cap, cur, ex, _, hh, hn1, hcap, _, htk⟩
 ·exact .inl ⟨h0, e⟩
 exact .inr ⟨g, cap, h3 g (by rw [ex]; rfl), ex, hn1, hcap⟩
theorem Cont.eM {T : Nat} {l l' : List Ty} (h : JE l l') : (Cont.cells T l).Sub (Cont.cells T l') := fun w M v ⟨b, cs, h1, h2, h3⟩ => ⟨b, cs, h1, h2, sO h h3⟩
end Go.T
namespace Go.T
open Go Go.RowKit
end Go.T
namespace Go.T
open Go Go.RowKit
section
variable {P : Program} {fr : Fr} {A : As} {c : Code} {Q : Exit → Act → World → Prop}
theorem kU {α : Type} {E : El α} {T Tc tg c0 : Nat} {l : List Ty} {xs : List α} (i : Nat) (hc : A.tag c0 = some (.cells Tc l)) (hi : l[i]? = some (.row E T tg xs))
 (h : fT P fr c ⟨A.slots, (tg, .vec E T xs) :: A.tags⟩ Q) : fT P fr c A Q := fun a w ⟨M, ok, hsl, ht⟩ => by
 refine h a w ⟨M, ok, hsl, fun x hx => ?_⟩
 rcases List.mem_cons.1 hx with rfl | hx
 ·obtain ⟨b, cs, hb, hh, hd⟩ := ht _ (cw hc)
  obtain ⟨v, _, ⟨ds, h1, h2, h3⟩⟩ := dU hd i _ hi
  rcases h1.2 with ⟨e, h0⟩ | ⟨g, cap, cur, ex, _, hh, hn1, hcap, _, htk⟩
  ·exact .inl (List.length_eq_zero_iff.1 h0)
  have hg : M g = some tg := h3 g (by rw [ex]; rfl)
  exact .inr ⟨g, cur, hg, hh, by rw [dJ, htk]; exact h2⟩
 exact ht x hx
end
end Go.T
namespace Go.T
open Go Go.RowKit
section
variable {P : Program} {A : As} {fn : Func} {n : Nat} {w0 : World} {M0 : bA}
end
end Go.T
namespace Go.T
open Go Go.RowKit
section
variable {P : Program} {fr : Fr} {A : As} {c : Code} {Q : Exit → Act → World → Prop}
end
section
variable {P : Program} {A : As} {fn : Func} {n : Nat} {w0 : World} {M0 : bA}
end
end Go.T
namespace Go.T
open Go Go.RowKit
section
variable {P : Program} {fr : Fr} {ops : Array Oper} {A : As} {rest : List Oper} {K : As → List (As × Fx) → Prop} {d : Nat} {t : TypeId} {p : String} {e : Array Edge} {y : Operand}
theorem zO {c : Operand} {b : Bool} (hc : A.op fr c = .bool false) (hy : A.op fr y = .bool b)
 (h : aq P fr ops rest (A.set d (.bool b)) fun A' l' => K A' ((A, { d := some d, ty := .bool b, rs := cH c ++ cH y }) :: l')) : aq P fr ops (⟨some d, .pick c (.const (.bool true)) y, t, p, e, none⟩ :: rest) A K :=
 bI (bU rfl rfl fun a w M _ hrd _ => by
  obtain ⟨hdc, hdy⟩ := op2 hrd
  rw [hc] at hdc; rw [hy] at hdy
  have ec : a.eval c = .bool false := hdc
  have ey : a.eval y = .bool b := hdy
  exact ⟨.bool b, by simp only [execOp, ec, ey]; simp [asBool], rfl⟩) h
theorem JC {c : Operand} (hc : A.op fr c = .bool true)
 (h : aq P fr ops rest (A.set d (.bool true)) fun A' l' => K A' ((A, { d := some d, ty := .bool true, rs := cH c ++ cH y }) :: l')) : aq P fr ops (⟨some d, .pick c (.const (.bool true)) y, t, p, e, none⟩ :: rest) A K :=
 bI (bU rfl rfl fun a w M _ hrd _ => by
  obtain ⟨hdc, _⟩ := op2 hrd
  rw [hc] at hdc
  have ec : a.eval c = .bool true := hdc
  exact ⟨.bool true, by simp only [execOp, ec]; simp [asBool, Act.eval], rfl⟩) h
theorem yZ {op : Op} {j s : Nat} {want : Bool} (hs : oM ops j = some s) (hn : Nat.blt s fr.n = true) (hc : A.slots s = .ex undef)
 (h : aq P fr ops rest (A.set d (.ex undef)) fun A' l' => K A' ((A, { d := some d, ty := .ex undef, rs := [s] }) :: l')) : aq P fr ops (⟨some d, op, t, p, e, some (j, want)⟩ :: rest) A K := by
 refine ⟨{ d := some d, ty := .ex undef, rs := [s] }, ⟨rfl, (by simp), (by simp), (by simp), fun a w M wf hsz hrd htg => ?_⟩, h⟩
 have hv := hrd s List.mem_cons_self (by simpa using hn)
 rw [hc] at hv
 have hy := pX (ops := ops) hs (by rw [hsz]; simpa using hn) hv
 have hw : Region.wanted ⟨some d, op, t, p, e, some (j, want)⟩ (yielded ops a.tmps) = false := by
  simp only [Region.wanted, hy]
  cases want <;> simp_all
 rw [if_neg (by rw [hw]; simp)]
 exact ⟨M, wf, Le.refl _ _ _ _, rfl, by simp⟩
end
section
variable {P : Program} {fr : Fr} {A : As} {Q : Exit → Act → World → Prop} {code : Code}
end
end Go.T
namespace Go.T
open Go Go.RowKit
section
variable {P : Program} {fr : Fr} {A : As} {Q : Exit → Act → World → Prop}
end
end Go.T
namespace Go.T
open Go Go.RowKit
section
variable {P : Program} {fr : Fr} {ops : Array Oper} {A : As} {rest : List Oper} {K : As → List (As × Fx) → Prop} {d : Nat} {t ty' : TypeId} {p : String} {e : Array Edge} [T : kY P]
end
section
open Go.RowKit
variable {P : Program} {A : As} {fn : Func} {n : Nat} {w0 : World} {M0 : bA} {F : List Nat} {post : List (Nat × Cont)} [T : kY P]
end
section
variable {P : Program} {fr : Fr} {A : As}
end
end Go.T
namespace Go.T
open Go Go.RowKit
section
variable {P : Program} {fr : Fr} {A : As}
theorem K4 {R : Act → World → Prop} {tg : Nat} (l : List (Nat × Ty)) (lt : List (Nat × Cont)) (h1 : 1 ≤ tg) (hp : fr.pass.contains tg = false) (hl : zM A tg l) (hlt : IQ A tg lt) (h : dg fr ⟨(A.ni tg l).slots, lt ++ (A.ni tg l).tags⟩ R) : dg fr A R := fun a w ⟨M, ok, hsl, ht⟩ => by
  have le : Le (· ∈ ([] : List Nat)) (· ∈ [tg]) w M w (dy M tg) := iF
  refine h a w ⟨dy M tg, ⟨s6 ok.wf, Fr.iB ok.base (by intro _ h; cases h) (fun t ht => by simp only [List.mem_singleton] at ht; subst ht; exact ⟨h1, by simpa using hp⟩) le, ok.size, ok.defers.step (by intro _ h; cases h) (fun t ht => by simp only [List.mem_singleton] at ht; subst ht; exact h1) le⟩, fun i hi => ?_, fun x hx => ?_⟩
  · have base : (fM [] [tg] A.slots i).den w (dy M tg) (a.tmps.getD i undef) := by
      rcases fH [] [tg] A.slots i with ⟨e, hdj⟩ | ⟨_, e⟩
      · rw [e]; exact (A.slots i).mono le (eX hdj).1 (eX hdj).2 (hsl i hi)
      · rw [e]; trivial
    show (m5 l (fM [] [tg] A.slots) i).den _ _ _
    clear h
    induction l with
    | nil => exact base
    | cons x l ih =>
      obtain ⟨d, t⟩ := x
      unfold m5
      cases hb : Nat.beq i d with
      | false => simp only [cond_false]; exact ih hl.2
      | true =>
        have : i = d := Nat.eq_of_beq_eq_true hb
        subst this
        simp only [cond_true]
        exact hl.1 w M _ ok.wf ht (hsl i hi)
  · rcases List.mem_append.1 (show x ∈ lt ++ (A.ni tg l).tags from hx) with hx | hx
    · exact wJ ok.wf ht hlt hx
    · exact gW le hx fun y hy _ => ht y hy
end
end Go.T
namespace Go.T
open Go Go.RowKit
end Go.T
namespace Go.T
open Go Go.RowKit
def Lv (tys : List Ty) (vs : List Value) (w : World) (M : bA) (_ : Nat) : Prop := cL w M tys vs
def Cont.fact (tys : List Ty) (vs : List Value) (h1 : cE tys = []) (h2 : bh tys = []) : Cont :=
  { den := Lv tys vs, deps := [], cdeps := [], mono := fun le _ _ _ _ h => b9 le (by rw [h1]; intro _ h; cases h) (by rw [h2]; intro _ h; cases h) h }
def XB (b D Tb : Nat) (vs : List Value) (J : Nat → World → bA → Prop) : Prop :=
  ∀ k w M, Wf w M → J k w M → M b = some D ∧ ∃ cs : Array Value, w.heap[b]? = some (.cells cs Tb (0, 0)) ∧ cs.toList.take vs.length = vs
def F6 (P : Program) (f : FuncId) (b D Tb : Nat) (vs : List Value) (tys : List Ty) (args : Nat → List Ty) (encs : List (List Ty)) (resD resS : Ty) : Prop :=
  (∃ fn, P.funcs[f]? = some fn ∧ (fn.name == "runtime.NumGoroutine") = false ∧ fn.body.isNone = false) ∧
  ∀ l J Jx, (∀ k, Cb (J k)) → Cb Jx → XB b D Tb vs J → LQ P l encs J Jx → ∀ w M us, Wf w M → D7 M → cL w M (args l) us → cL w M tys vs → J 0 w M →
    Calls P f us.toArray w (cx encs.length J Jx resD resS)
section
variable {P : Program}
theorem CG {f b D Tb : Nat} {us : List Value} {tys : List Ty} {fn : Func} {c : Code} {args : Nat → List Ty} {encs : List (List Ty)} {n : Nat} (h1 : cE tys = []) (h2 : bh tys = []) (hf : P.funcs[f]? = some fn) (hb : fn.body = some c) (hn : (fn.name == "runtime.NumGoroutine") = false) (hnt : fn.ntmps = n) (hl : ∀ l, (args l).length ≤ n) (hdd : ∀ l, cE (args l) = [] ∧ bh (args l) = [])
    (h : ∀ l J Jx (hJ : ∀ k, Cb (J k)) (hJx : Cb Jx), XB b D Tb us J → LQ P l encs J Jx → ∀ w0 M0, fT P ⟨n, w0, M0, [7000, 5000], .plain⟩ c (tC (args l) [(7000, .ck (hJ 0)), (4000, Cont.fact tys us h1 h2)]) (bodyPost P fn (cx encs.length J Jx (Ty.j3 []) (Ty.j3 [])))) : F6 P f b D Tb us tys args encs (Ty.j3 []) (Ty.j3 []) := by
  refine ⟨⟨fn, hf, hn, by rw [hb]; rfl⟩, fun l J Jx hJ hJx hX hY w Mc vs wf z hd hus hj => calls_of_wp hf hb (wpIn_wide.1 (h l J Jx hJ hJx hX hY w (kB Mc none) _ _ ?_))⟩
  have hall : cL w (kB Mc none) (args l) vs := g7 (fun b hb => nG hb) (hdd l).1 (hdd l).2 hd
  have hlen := cP hall
  have hl := hl l
  refine ⟨kB Mc none, ⟨EC wf, Le.refl _ _ _ _, by simp [hnt, hlen]; omega, Defs.nil⟩, fun c hc => ?_, fun x hx => ?_⟩
  · simp only [tC]
    cases ha : (args l)[c]? with
    | none => trivial
    | some ty =>
      obtain ⟨v, hv, hdv⟩ := dU hall c ty ha
      have : (vs.toArray ++ Array.replicate (fn.ntmps - vs.toArray.size) undef).getD c undef = v := by
        have hlt : c < vs.length := (List.getElem?_eq_some_iff.1 hv).1
        rw [Array.getD_eq_getD_getElem?, Array.getElem?_append_left (by simpa using hlt)]
        simp [hv]
      rw [this]; exact hdv
  · rcases List.mem_cons.1 hx with rfl | hx
    · exact ⟨rfl, E1 wf z hj⟩
    · rw [List.mem_singleton.1 hx]
      exact g7 (fun b hb => nG hb) h1 h2 hus
theorem IG {fn : Func} {n : Nat} {A : As} {w0 : World} {M0 : bA} {J : Nat → World → bA → Prop} {Jx : World → bA → Prop} {m : Nat} {h1 : Cb (J m)} (hr : fn.results = #[]) (ht : A.tag 7000 = some (.ck h1)) : dg ⟨n, w0, M0, [7000, 5000], .plain⟩ A (bodyPost P fn (cx m J Jx (Ty.j3 []) (Ty.j3 [])) .normal) := by
 intro a w' ⟨M, ok, hsl, htg⟩
 obtain ⟨_, Mc', wf', z', hj, k1, k2⟩ := htg _ (cw ht)
 exact ⟨ok.gM (by simp), _, results_none hr _ _ _, _, Mc', rfl, wf', z', .inl ⟨⟨_, rfl, trivial⟩, hj⟩⟩
theorem HW {fn : Func} {n : Nat} {A : As} {w0 : World} {M0 : bA} {J : Nat → World → bA → Prop} {Jx : World → bA → Prop} {m k : Nat} {hJ : ∀ k, Cb (J k)} (e : k = m) (hr : fn.results = #[]) (ht : A.tag 7000 = some (.ck (hJ k))) : dg ⟨n, w0, M0, [7000, 5000], .plain⟩ A (bodyPost P fn (cx m J Jx (Ty.j3 []) (Ty.j3 [])) .normal) := by
 subst e; exact IG hr ht
theorem DR {fn : Func} {n : Nat} {A : As} {w0 : World} {M0 : bA} {J : Nat → World → bA → Prop} {Jx : World → bA → Prop} {m : Nat} {hx : Cb Jx} (hr : fn.results = #[]) (ht : A.tag 7000 = some (.ck hx)) : dg ⟨n, w0, M0, [7000, 5000], .plain⟩ A (bodyPost P fn (cx m J Jx (Ty.j3 []) (Ty.j3 [])) .ret) := by
 intro a w' ⟨M, ok, hsl, htg⟩
 obtain ⟨_, Mc', wf', z', hj, k1, k2⟩ := htg _ (cw ht)
 exact ⟨ok.gM (by simp), _, results_none hr _ _ _, _, Mc', rfl, wf', z', .inr ⟨⟨_, rfl, trivial⟩, hj⟩⟩
variable {fr : Fr} {ops : Array Oper} {A : As} {rest : List Oper} {K : As → List (As × Fx) → Prop} {d : Nat} {t ty' : TypeId} {p : String} {e : Array Edge} [T : kY P]
omit T in
theorem jz {x : Operand} {b off : Nat} (hx : A.op fr x = .ex (.pointer (some ⟨b, off, none⟩)))
 (h : aq P fr ops rest (A.set d (.ex (.pointer (some ⟨b, off, none⟩)))) fun A' l' => K A' ((A, { d := some d, ty := .ex (.pointer (some ⟨b, off, none⟩)), rs := cH x }) :: l')) : aq P fr ops (⟨some d, .nilCheck x, t, p, e, none⟩ :: rest) A K :=
 bI (bU rfl rfl fun a w M _ hrd _ => by
  have hdx := cT (x := x) (fun _ h => h) hrd
  rw [hx] at hdx
  have ex : a.eval x = .pointer (some ⟨b, off, none⟩) := hdx
  exact ⟨_, by simp [execOp, ex], rfl⟩) h
theorem iP {x : Operand} {b off f : Nat} {ti tf : TI} {fs : List (Nat × Nat)} {o ft : Nat} (hx : A.op fr x = .ex (.pointer (some ⟨b, off, none⟩))) (hT : T.ep[ty']? = some ti) (hk : ti.k = .struct fs) (hf : fs[f]? = some (o, ft)) (hF : T.ep[ft]? = some tf) (h0 : tf.size ≠ 0)
 (h : aq P fr ops rest (A.set d (.ex (.pointer (some ⟨b, off + o, none⟩)))) fun A' l' => K A' ((A, { d := some d, ty := .ex (.pointer (some ⟨b, off + o, none⟩)), rs := cH x }) :: l')) : aq P fr ops (⟨some d, .fieldAddr ty' x f, t, p, e, none⟩ :: rest) A K :=
 bI (bU rfl rfl fun a w M _ hrd _ => by
  have hdx := cT (x := x) (fun _ h => h) hrd
  rw [hx] at hdx
  have ex : a.eval x = .pointer (some ⟨b, off, none⟩) := hdx
  exact ⟨_, by simp [execOp, ex, ry hT hk hf hF h0], rfl⟩) h
def Mp {α : Type} (v : Value) (E : El α) (T tg : Nat) (xs : List α) (w : World) (M : bA) (_ : Nat) : Prop := (Ty.row E T tg xs).den w M v
def Cont.rv {α : Type} (v : Value) (E : El α) (T tg : Nat) (xs : List α) : Cont :=
  { den := Mp v E T tg xs, deps := (Ty.row E T tg xs).deps, cdeps := (Ty.row E T tg xs).cdeps, mono := fun le hk hs _ _ h => (Ty.row E T tg xs).mono le hk hs h }
theorem og {α : Type} {E : El α} {c : Nat} {y : Operand} {st el tg : Nat} {v : Value} {ti te : TI} {xs ys : List α} (hx : A.op fr (.tmp c) = .ex v) (hc : A.tag tg = some (.rv v E el tg xs)) (hy : A.op fr y = .sl E ys) (hcy : (cH y).contains c = false) (h1 : 1 ≤ tg) (hp : fr.pass.contains tg = false) (hT : T.ep[st]? = some ti) (hk : ti.k = .slice el) (hE : T.ep[el]? = some te) (hs : te.size = E.size) (hz : te.zero.length = te.size) (h0 : 0 < te.size)
 (hlen : (xs.length + ys.length) * te.bytes ≤ 140737488355328) (hlen' : xs.length + ys.length ≤ 9223372036854775807) (hyA : (A.set c (.row E el tg xs)).op fr y = A.op fr y) (hxA : (A.set c (.row E el tg xs)).op fr (.tmp c) = .row E el tg xs)
 (h : aq P fr ops rest (A.after { d := some d, ty := .row E el tg (xs ++ ys), K := [tg], rs := cH (.tmp c) ++ cH y, rt := [tg] }) fun A' l' => K A' ((A, { d := some d, ty := .row E el tg (xs ++ ys), K := [tg], rs := cH (.tmp c) ++ cH y, rt := [tg] }) :: l')) :
 aq P fr ops (⟨some d, .call ⟨.builtin .append, #[.tmp c, y], #[st, st]⟩, t, p, e, none⟩ :: rest) A K := by
 refine ⟨_, ?_, h⟩
 obtain ⟨a1, a2, a3, a4, a5⟩ := vF (P := P) (fr := fr) (ops := ops) (A := A.set c (.row E el tg xs)) (d := d) (t := t) (p := p) (e := e) (x := .tmp c) (y := y) (E := E) (xs := xs) (ys := ys) (st := st) (by rw [hxA]; exact Ty.aF _) (hyA.trans hy) h1 hp hT hk hE hs hz h0 hlen hlen'
 refine ⟨a1, a2, a3, a4, fun a w M wf hsz hr ht => a5 a w M wf hsz (fun c' hc' hn => ?_) (fun x _ hx => by cases hx)⟩
 by_cases e : c' = c
 ·subst e
  have h1 : (A.slots c').den w M (a.tmps.getD c' undef) := hr c' hc' hn
  have h2 : Mp v E el tg xs w M tg := ht _ (cw hc) (by simp)
  have h3 : A.slots c' = .ex v := by
   have h5 : (bif Nat.blt c' fr.n then A.slots c' else Ty.any) = .ex v := hx
   have h6 : Nat.blt c' fr.n = true := by rw [Nat.blt_eq]; exact hn
   rw [h6, cond_true] at h5
   exact h5
  rw [h3] at h1
  have h4 : a.tmps.getD c' undef = v := h1
  show ((A.set c' (.row E el tg xs)).slots c').den w M _
  simp only [As.set, Nat.beq_refl, cond_true]
  rw [h4]; exact h2
 show ((A.set c (.row E el tg xs)).slots c').den w M _
 have : Nat.beq c' c = false := by cases hb : Nat.beq c' c with | false => rfl | true => exact absurd (Nat.eq_of_beq_eq_true hb) e
 simp only [As.set, this, cond_false]
 exact hr c' hc' hn
theorem z9 {vs l : List Value} {i : Nat} {v : Value} (h : l.take vs.length = vs) (hv : vs[i]? = some v) : l[i]? = some v := by
 have hi : i < vs.length := (List.getElem?_eq_some_iff.1 hv).1
 rw [← h, List.getElem?_take, if_pos hi] at hv
 exact hv
theorem qR {x : Operand} {b D Tb off k : Nat} {vs : List Value} {tys : List Ty} {J : Nat → World → bA → Prop} {hJ : ∀ k, Cb (J k)} {ti : TI} {ty : Ty} {h1 : cE tys = []} {h2 : bh tys = []} (hX : XB b D Tb vs J) (hx : A.op fr x = .ex (.pointer (some ⟨b, off, none⟩))) (ht : A.tag 7000 = some (.ck (hJ k))) (htf : A.tag 4000 = some (Cont.fact tys vs h1 h2)) (hT : T.ep[ty']? = some ti) (ha : ti.k.agg = false) (hl : tys[off]? = some ty)
 (h : aq P fr ops rest (A.set d ty) fun A' l => K A' ((A, { d := some d, ty := ty, rs := cH x, rt := [7000, 4000] }) :: l)) : aq P fr ops (⟨some d, .load ty' x, t, p, e, none⟩ :: rest) A K :=
 bI (bU rfl rfl fun a w M wf hr htg => by
  have hdx := cT (x := x) (fun _ h => h) hr
  rw [hx] at hdx
  have ex : a.eval x = .pointer (some ⟨b, off, none⟩) := hdx
  obtain ⟨_, Mc, wfc, z, hj, g1, g2⟩ := htg _ (cw ht) (by simp)
  have hf : cL w M tys vs := htg _ (cw htf) (by simp)
  obtain ⟨_, cs, hh, hcs⟩ := hX k w Mc wfc hj
  obtain ⟨v, hv, hd⟩ := dU hf off ty hl
  have hv' : w.cell? ⟨b, off, none⟩ = some v := by
   have := z9 hcs hv
   simpa [World.cell?, hh] using this
  exact ⟨v, by simp [execOp, ex, kX hT ha hv'], hd⟩) h
theorem oo {b D Tb k : Nat} {vs : List Value} {tys : List Ty} {J : Nat → World → bA → Prop} {hJ : ∀ k, Cb (J k)} {h1 : cE tys = []} {h2 : bh tys = []} {L : List Nat} (hX : XB b D Tb vs J) (hD : D < 4096) (ht : A.tag 7000 = some (.ck (hJ k))) (htf : A.tag 4000 = some (Cont.fact tys vs h1 h2)) (hL0 : L.contains 7000 = true) (hL1 : L.contains 4000 = true) :
    rJ A L (.ex (.pointer (some ⟨b, 0, none⟩))) (.pp tys) := fun w M v wf htg hv => by
  have hv : v = .pointer (some ⟨b, 0, none⟩) := hv
  have hL0 : 7000 ∈ L := by simpa using hL0
  have hL1 : 4000 ∈ L := by simpa using hL1
  obtain ⟨_, Mc, wfc, z, hj, g1, g2⟩ := htg _ (cw ht) hL0
  have hf : cL w M tys vs := htg _ (cw htf) hL1
  obtain ⟨hb, cs, hh, hcs⟩ := hX k w Mc wfc hj
  have hlt : b < w.heap.size := wfc.lt b _ hb
  have hm : pM M L b = none := by
    cases hm : M b with
    | none => exact ig hm
    | some u =>
      by_cases e : u = 7000
      · subst e; exact yW hm hL0
      · have := g2 b u hlt hm e
        rw [this] at hb
        injection hb with hb
        have : Zt = 1000000 := rfl
        omega
  have hf2 : cL w (pM M L) tys vs := b9 (S := fun _ => True) (K := fun _ => True) (w' := w) ⟨Nat.le_refl _, rfl, rfl, rfl, fun b _ hm => ⟨ig hm, rfl⟩, fun b t _ h => absurd trivial h⟩ (by rw [h1]; intro _ h; cases h) (by rw [h2]; intro _ h; cases h) hf
  refine ⟨b, 0, hv, hm, hlt, fun i t hi => ?_⟩
  obtain ⟨x, hx, hdx⟩ := dU hf2 i t hi
  refine ⟨x, ?_, hdx⟩
  have := z9 hcs hx
  simpa [World.cell?, hh] using this
end
theorem uL {l : List Nat} (h : l.all (fun t => Nat.blt t 1000000) = true) : ∀ t ∈ l, t < Zt := fun t ht => by
 have := List.all_eq_true.1 h t ht
 rw [Nat.blt_eq] at this; exact this
section
variable {P : Program} {fr : Fr} {A : As} {Q : Exit → Act → World → Prop} {c : Code}
theorem pK {w : World} {M : bA} {l1 l2 : List Ty} {vs : List Value} (h : cL w M (l1 ++ l2) vs) : ∃ v1 v2, vs = v1 ++ v2 ∧ cL w M l1 v1 ∧ cL w M l2 v2 := by
  induction l1 generalizing vs with
  | nil => exact ⟨[], vs, rfl, trivial, h⟩
  | cons t l1 ih =>
    cases vs with
    | nil => cases h
    | cons v vs =>
      obtain ⟨v1, v2, e, h1, h2⟩ := ih h.2
      exact ⟨v :: v1, v2, by rw [e]; rfl, ⟨h.1, h1⟩, h2⟩
theorem Ds {w : World} {M : bA} : ∀ (vs : List Value), cL w M (vs.map Ty.ex) vs
  | [] => trivial
  | _ :: vs => ⟨rfl, Ds vs⟩
theorem qK {w : World} {M : bA} : ∀ {vs us : List Value}, cL w M (vs.map Ty.ex) us → us = vs
  | [], [], _ => rfl
  | [], _ :: _, h => by cases h
  | _ :: _, [], h => by cases h
  | v :: vs, u :: us, h => by rw [show u = v from h.1, qK h.2]
theorem Ga {D Tb : Nat} {tys r : List Ty} (h1 : cE tys = []) (h2 : bh tys = []) (hc : A.tag D = some (.cells Tb (tys ++ r))) (hD : gA D)
 (h : ∀ vs, vs.length = tys.length → fT P fr c ⟨A.slots, (D, .cells Tb (vs.map Ty.ex ++ r)) :: (4000, Cont.fact tys vs h1 h2) :: A.tags.filter fun x => !(x.1 == D)⟩ Q) : fT P fr c A Q := by
 intro a w ⟨M, ok, hsl, htg⟩
 obtain ⟨b, cs, hb, hh, hd⟩ := htg _ (cw hc)
 obtain ⟨v1, v2, e, d1, d2⟩ := pK hd
 refine h v1 (cP d1) a w ⟨M, ok, hsl, fun x hx => ?_⟩
 rcases List.mem_cons.1 hx with rfl | hx
 ·exact ⟨b, cs, hb, hh, by rw [e]; exact eE (Ds v1) d2⟩
 rcases List.mem_cons.1 hx with rfl | hx
 ·exact d1
 exact htg x (List.mem_filter.1 hx).1
theorem Aa {D Tb : Nat} {vs : List Value} {tys r : List Ty} {h1 : cE tys = []} {h2 : bh tys = []} (hc : A.tag D = some (.cells Tb (vs.map Ty.ex ++ r))) (hf : A.tag 4000 = some (Cont.fact tys vs h1 h2))
 (h : fT P fr c ⟨A.slots, (D, .cells Tb (tys ++ r)) :: A.tags.filter fun x => !(x.1 == D)⟩ Q) : fT P fr c A Q := by
 intro a w ⟨M, ok, hsl, htg⟩
 obtain ⟨b, cs, hb, hh, hd⟩ := htg _ (cw hc)
 have hfd : cL w M tys vs := htg _ (cw hf)
 refine h a w ⟨M, ok, hsl, fun x hx => ?_⟩
 rcases List.mem_cons.1 hx with rfl | hx
 ·obtain ⟨v1, v2, e, d1, d2⟩ := pK hd
  rw [qK d1] at e
  exact ⟨b, cs, hb, hh, by rw [e]; exact eE hfd d2⟩
 exact htg x (List.mem_filter.1 hx).1
theorem uT {D Tb tg : Nat} {α : Type} {E : El α} {T : Nat} {xs : List α} (l1 : List Ty) {l2 : List Ty} (hc : A.tag D = some (.cells Tb (l1 ++ Ty.row E T tg xs :: l2)))
    (h : ∀ v, fT P fr c ⟨A.slots, (D, .cells Tb (l1 ++ Ty.ex v :: l2)) :: (tg, Cont.rv v E T tg xs) :: A.tags.filter fun x => !(x.1 == D)⟩ Q) : fT P fr c A Q := by
  intro a w ⟨M, ok, hsl, htg⟩
  obtain ⟨b, cs, hb, hh, hd⟩ := htg _ (cw hc)
  obtain ⟨v1, v2, e, d1, d2⟩ := pK hd
  match v2, d2 with
  | v :: v2, d2 =>
    refine h v a w ⟨M, ok, hsl, fun x hx => ?_⟩
    rcases List.mem_cons.1 hx with rfl | hx
    · exact ⟨b, cs, hb, hh, by rw [e]; exact eE d1 ⟨rfl, d2.2⟩⟩
    · rcases List.mem_cons.1 hx with rfl | hx
      · exact d2.1
      · exact htg x (List.mem_filter.1 hx).1
theorem xY {T tg off : Nat} {l : List Ty} (hc : A.tag tg = some (.cells T l)) (hd : j7 (cE l) [tg] = true) (h1 : gA tg) : tQ A tg (.ptr tg off) (.pp (l.drop off)) := fun w M v wf ht hv =>
 kL (A := A.set 0 (.ptr tg off)) (s := 0) rfl hc hd h1 w M v wf ht hv
theorem HT {tg i : Nat} {t : Ty} : ∀ {l l' : List Ty}, xC A tg l l' → l'[i]? = some t → ∃ i', i' = i ∧ ∃ s, l[i']? = some s ∧ tQ A tg s t := by
  induction i with
  | zero =>
    intro l l' h e
    match l, l', h with
    | [], [], _ => cases e
    | s :: _, t' :: _, h => injection e with e; subst e; exact ⟨0, rfl, s, rfl, h.1⟩
  | succ i ih =>
    intro l l' h e
    match l, l', h with
    | [], [], _ => cases e
    | _ :: l, _ :: l', h =>
      obtain ⟨i', rfl, s, h1, h2⟩ := ih (l := l) (l' := l') h.2 e
      exact ⟨i' + 1, rfl, s, h1, h2⟩
theorem BH {tg : Nat} {l l' : List Ty} (h : xC A tg l l') : tQ A tg (.pp l) (.pp l') := fun w M v wf ht ⟨b, off, e, m1, m2, m3⟩ => by
 refine ⟨b, off, e, by simp [dy, m1], m2, fun i t hi => ?_⟩
 obtain ⟨_, rfl, s, h1, h2⟩ := HT h hi
 obtain ⟨x, hx, hdx⟩ := m3 _ s h1
 exact ⟨x, hx, h2 w M x wf ht hdx⟩
theorem zR {tg s : Nat} {l l' : List Ty} (hx : A.slots s = .pp l) (h : xC A tg l l') : xu A tg s (.pp l') := fun w M v wf ht hv => BH h w M v wf ht (hx ▸ hv)
theorem Au {f D Tb n sd : Nat} {tys : List Ty} {vs : List Value} {h1 : cE tys = []} {h2 : bh tys = []} {nL : List Ty} {encs : List (List Ty)} {resD resS : Ty} {s : Nat → Ty} {tg : Nat → List (Nat × Cont)} {r : Nat → List Ty}
    (hI : ∀ b, F6 P f b D Tb vs tys (fun l => Ty.ex (yv l) :: Ty.pp [Ty.ex (.pointer (some ⟨b, 0, none⟩))] :: nL) encs resD resS)
    (hD : gA D) (hsn : sd < n) (hsd : s sd = Ty.ptr D 0) (htD : ∀ k, (D, Cont.cells Tb (vs.map Ty.ex ++ r k)) ∈ tg k) (htf : (4000, Cont.fact tys vs h1 h2) ∈ tg 0) :
    ∀ (l : Nat) (J : Nat → World → bA → Prop) (Jx : World → bA → Prop) (tm : Array Value), (∀ k, Cb (J k)) → Cb Jx → LQ P l encs J Jx → (∀ k w M, J k w M → (∀ c, c < n → (s c).den w M (tm.getD c undef)) ∧ ∀ x ∈ tg k, x.2.den w M x.1) → ∀ w M us, Wf w M → D7 M → cL w M (Ty.ex (yv l) :: Ty.pp [Ty.ptr D 0] :: nL) us → J 0 w M → Calls P f us.toArray w (cx encs.length J Jx resD resS) := by
  intro l J Jx tm hJ hJx hY hS w M us wf z hd hj
  obtain ⟨u, rfl⟩ : ∃ u, D = u + 1 := ⟨D - 1, by have := hD.1; omega⟩
  have hat : ∀ k w M, Wf w M → J k w M → ∃ b, M b = some (u + 1) ∧ tm.getD sd undef = .pointer (some ⟨b, 0, none⟩) ∧ ∃ cs : Array Value, w.heap[b]? = some (.cells cs Tb (0, 0)) ∧ cs.toList.take vs.length = vs := fun k w M wf hj => by
    obtain ⟨g1, g2⟩ := hS k w M hj
    have g3 := g1 sd hsn
    rw [hsd] at g3
    obtain ⟨b, hb, e⟩ := g3
    obtain ⟨b', cs, hb', hh, hds⟩ := g2 _ (htD k)
    have := wf.inj b b' u hD.2 hb hb'
    subst this
    obtain ⟨v1, v2, e2, d1, d2⟩ := pK hds
    rw [qK d1] at e2
    exact ⟨b, hb, e, cs, hh, by rw [e2, List.take_left']; rfl⟩
  obtain ⟨b, hb, eb, _⟩ := hat 0 w M wf hj
  have hX : XB b (u + 1) Tb vs J := fun k w' M' wf' hj' => by
    obtain ⟨b', hb', eb', cs, hh, hcs⟩ := hat k w' M' wf' hj'
    rw [eb] at eb'
    injection eb' with eb'
    injection eb' with eb'
    injection eb' with eb' _ _
    subst eb'
    exact ⟨hb', cs, hh, hcs⟩
  refine (hI b).2 l J Jx hJ hJx hX hY w M us wf z ?_ ((hS 0 w M hj).2 _ htf) hj
  match us, hd with
  | u1 :: u2 :: us, ⟨d1, ⟨q, off, e, m1, m2, m3⟩, d3⟩ =>
    refine ⟨d1, ⟨q, off, e, m1, m2, fun i t hi => ?_⟩, d3⟩
    cases i with
    | succ i => cases hi
    | zero =>
      obtain ⟨x, hx, b', hb', ex⟩ := m3 0 _ rfl
      have := wf.inj b b' u hD.2 hb hb'
      subst this
      injection hi with hi
      subst hi
      exact ⟨x, hx, ex⟩
end
end Go.T
namespace Go.Proofs.YtelbollidfdcjaaGreat
open Go Go.T
set_option maxHeartbeats 4000000
section
variable {y : bB}
theorem EE (hr : y.cm) : (y.bins.length : Int) * y.days = (y.cells : Nat) := by
 rw [← D_eq hr]; unfold bB.cells; simp
theorem mU (hr : y.cm) : y.cells ≤ 20 := by
 have h1 := hr.bins; have h2 := hr.days; have h3 := D_eq hr
 have := Nat.mul_le_mul (show y.bins.length ≤ 4 by omega) (show y.D ≤ 5 by omega)
 unfold bB.cells; omega
theorem BX {s d : Int} (hs : 0 ≤ s ∧ s ≤ 4) (hd : 0 ≤ d ∧ d ≤ 6) : 0 ≤ s * d ∧ s * d ≤ 24 := by
 have : s = 0 ∨ s = 1 ∨ s = 2 ∨ s = 3 ∨ s = 4 := by omega
 rcases this with e | e | e | e | e <;> subst e <;> omega
def fX (n : Int) (l : List Int) : Int := l.foldl min n
theorem CF (n : Int) (l : List Int) : fX n (l.take 0) = n := rfl
theorem Cg {n : Int} {l : List Int} {k : Nat} (h : k < l.length) : min (fX n (l.take k)) (nth l k) = fX n (l.take (k + 1)) := by
 unfold fX; rw [dS h, List.foldl_append]; rfl
def vE (k : Nat) : List Bool := List.replicate k true ++ List.replicate (8 - k) false
def bZ : List Bool := List.replicate 8 true
theorem w6 {k : Nat} (h : k ≤ 8) : (vE k).length = 8 := by unfold vE; rw [List.length_append, List.length_replicate, List.length_replicate]; omega
theorem CU {k : Nat} (h : k < 8) : (vE k).set k true = vE (k + 1) := by
 unfold vE
 rw [List.set_append_right _ _ (by simp), List.length_replicate, Nat.sub_self, show 8 - k = (8 - (k + 1)) + 1 by omega, List.replicate_succ, List.set_cons_zero, List.replicate_succ', List.append_assoc]; rfl
theorem J9 (hr : y.cm) {s d : Int} (h : s = -1) : ((y.cells : Nat) : Int) = y.cell s d := by rw [h, qX hr]
theorem KJ {s d : Int} (h : ¬ s = -1) : s * y.days + d = y.cell s d := (if_neg h).symm
theorem GH (hr : y.cm) {b t : Nat} : (b : Int) * (y.days + 1) + t = (y.kept b t : Nat) := by
 rw [← D_eq hr]; unfold bB.kept; simp
end
attribute [local irreducible] bB.cell bB.kept bB.cells fX
attribute [local irreducible] iw fu nh ru jS jR jO jN jQ rZ jL rj eO gy rY g9 rX nth fT dg aq eA bodyPost Exit.then Exit.inBlock Code.wp Code.wpIn rm jU rq rW jP eT ct cx bodyPostM eU
set_option maxRecDepth 100000 in
theorem ql (n : Int) (l : List Int) : eA Tryz.prog 180 [Ty.int .i64 n, Ty.sl cj l] (Ty.int .i64 (fX n l)) := by
 refine az Tryz.func180 rfl (by decide) Tryz.ntmps180 (by exact Nat.le_of_ble_eq_true rfl) fun w0 M0 => ?_
 refine je (s := 1) rfl rfl jj fun hln => ?_
 refine aE (aA (cF rfl (aD (aC (aE (aE (aA (gC rfl (cz rfl rfl rfl ?_)))))))))
 refine bO rfl (aD (aC (ak ?_)))
 refine cV (fun (k : {k : Nat // k ≤ l.length}) => live [(0, Ty.int .i64 (fX n (l.take k.1))), (7, Ty.sl cj l), (8, Ty.int .i64 l.length), (9, Ty.int .i64 (k.1 : Nat))] []) (fun k => l.length - k.1) (⟨0, by omega⟩) ?_ fun k => ?_
 ·(refine c9.mk' ?_ ?_ <;> (repeat' (first | exact aH | exact aI | refine aB ?_ (Ty.aW _) | refine aB ?_ (Ty.aF _) | refine aB ?_ ?_)))
  all_goals exact Ty.ah (CF n l).symm
 refine aE (aA (bD rfl rfl rfl (aD (aC (aE ?_)))))
 refine av rfl (fun hc1 => ?_) (fun hc1 => ?_)
 ·
  refine aj (aC (aE (ak (aE (aA ?_)))))
  refine bN rfl rfl rfl rfl rfl rfl (by omega) ?_
  refine aM rfl rfl rfl rfl (cF rfl (aD (aC (aA (bO rfl (bO rfl (td rfl rfl (cF rfl (aD ?_)))))))))
  refine bQ (aC (aA ?_))
  refine bg rfl rfl (by omega) (by omega) ?_
  refine bO rfl (aD ?_)
  refine bV (⟨k.1 + 1, by omega⟩) ?_ (by show l.length - (k.1 + 1) < l.length - k.1; omega)
  (refine c9.mk' ?_ ?_ <;> (repeat' (first | exact aH | exact aI | refine aB ?_ (Ty.aW _) | refine aB ?_ (Ty.aF _) | refine aB ?_ ?_)))
  all_goals skip
  all_goals exact Ty.ah (Cg (by omega))
 refine cQ (aR (aR (au rfl (aC (aE (aA (bO rfl (cF rfl (aD ?_)))))))))
 refine aC (bC (bl rfl rfl ?_))
 all_goals skip
 all_goals exact bE rfl rfl (congrArg (Ty.int .i64) (by rw [List.take_of_length_le (by have := k.2; omega)]))
set_option maxRecDepth 100000 in
theorem qU : eA Tryz.prog 118 [] (Ty.arr iJ bZ) := by
 refine az Tryz.func118 rfl (by decide) Tryz.ntmps118 (by exact Nat.le_of_ble_eq_true rfl) fun w0 M0 => ?_
 refine aE (aA ?_)
 refine bz rfl (by exact List.cons_ne_nil _ _) rfl ?_
 refine aD (aC (aE (aA ?_)))
 refine z7 (E := iJ) (xs := List.replicate 8 false) rfl (by exact List.cons_ne_nil _ _) rfl rfl ?_
 refine aD (aC (aE (aE (aA (bO rfl (aD (aC (ak ?_))))))))
 refine cV (fun (k : {k : Nat // k ≤ 8}) => live [(0, Ty.ptr 1 0), (1, Ty.ptr 2 0), (3, Ty.int .i64 (k.1 : Nat))] [(1, Cont.cells 180 [Ty.bool false, Ty.bool false, Ty.bool false, Ty.bool false, Ty.bool false, Ty.bool false, Ty.bool false, Ty.bool false]), (2, Cont.vec iJ 180 (vE k.1))]) (fun k => 8 - k.1) (⟨0, by omega⟩) ?_ fun k => ?_
 ·(refine c9.mk' ?_ ?_ <;> (repeat' (first | exact aH | exact aI | refine aB ?_ (Ty.aW _) | refine aB ?_ (Ty.aF _) | refine aG rfl (Cont.aF _) ?_)))
 have hkl := w6 k.2
 refine aE (aA (bD rfl rfl rfl (aD (aC (aE ?_)))))
 refine av rfl (fun hc1 => ?_) (fun hc1 => ?_)
 ·
  refine aj (aC (aE (ak (aE (aA (bO rfl (cF rfl (aD (aC ?_)))))))))
  refine aA (bO rfl ?_)
  refine rE (n := 8) rfl rfl rfl rfl rfl (by omega) (by omega) ?_
  refine qi rfl rfl rfl (by decide) rfl rfl (by exact (rfl : _ = Ty.bool _)) rfl (by omega) (by decide) rfl rfl ?_
  refine aD (bQ (aC (aA ?_)))
  refine bg rfl rfl (by omega) (by omega) ?_
  refine bO rfl (aD ?_)
  refine bV (⟨k.1 + 1, by omega⟩) ?_ (by show 8 - (k.1 + 1) < 8 - k.1; omega)
  (refine c9.mk' ?_ ?_ <;> (repeat' (first | exact aH | exact aI | refine aB ?_ (Ty.aW _) | refine aB ?_ (Ty.aF _) | refine aG rfl (Cont.aF _) ?_ | refine aG rfl ?_ ?_)))
  all_goals skip
  all_goals exact Cont.dR (CU (by omega))
 refine cQ (aR (aR (au rfl (aC (aE ?_)))))
 obtain ⟨k, hk⟩ := k
 obtain rfl : k = 8 := by have h1 : ¬ (k : Int) < 8 := hc1; have h2 : k ≤ 8 := hk; omega
 have hkl := w6 hk
 refine aA ?_
 refine hO rfl rfl (by decide) rfl rfl (by rw [hkl]; rfl) (fun e => by rw [e] at hkl; cases hkl) ?_
 refine AR rfl rfl (by decide) rfl rfl (by rw [hkl]; rfl) rfl ?_
 refine aD (aC (bC ?_))
 refine Ad (show vE 8 = bZ from rfl) rfl rfl rfl rfl (by decide) rfl rfl (by rw [hkl]; rfl) (fun e => by rw [e] at hkl; cases hkl)
set_option maxRecDepth 100000 in
theorem qc (y : bB) (hr : y.cm) : eA Tryz.prog 131 [Ty.pp (bk y)] (Ty.int .i64 (y.cells : Nat)) := by
 refine az Tryz.func131 rfl (by decide) Tryz.ntmps131 (by exact Nat.le_of_ble_eq_true rfl) fun w0 M0 => ?_
 have hcm := EE hr
 have hcl := mU hr
 refine aE (aA (cF rfl (aD (aC (aE (cN mixed rfl (jK rfl (bt rfl ?_))))))))
 refine aS rfl rfl rfl rfl rfl (by decide) ?_
 refine aS rfl rfl rfl rfl rfl (by decide) ?_
 refine aM rfl rfl rfl rfl (cz rfl rfl rfl (jK rfl (bt rfl ?_)))
 refine aS rfl rfl rfl rfl rfl (by decide) ?_
 refine aS rfl rfl rfl rfl rfl (by decide) ?_
 refine aM rfl rfl rfl rfl ?_
 refine DE rfl rfl (by rw [hcm]; omega) (by rw [hcm]; omega) ?_
 refine cF rfl (aD ?_)
 refine ⟨by kernel_rfl, ?_⟩
 refine aC (bC (bl rfl rfl ?_))
 all_goals skip
 all_goals exact bE rfl rfl (congrArg (Ty.int .i64) hcm)
set_option maxRecDepth 100000 in
theorem vr (y : bB) (hr : y.cm) (s d : Int) (hs : -1 ≤ s ∧ s < y.bins.length) (hd : 0 ≤ d ∧ d ≤ y.days) : eA Tryz.prog 132 [Ty.pp (bk y), Ty.int .i64 s, Ty.int .i64 d] (Ty.int .i64 (y.cell s d)) := by
 refine az Tryz.func132 rfl (by decide) Tryz.ntmps132 (by exact Nat.le_of_ble_eq_true rfl) fun w0 M0 => ?_
 have h1 := hr.bins
 have h2 := hr.days
 refine aE (aA (cF rfl (aD (aC (aE (aE (aA (bO rfl (bD rfl rfl rfl ?_)))))))))
 refine aD (aC ?_)
 refine av rfl (fun hc1 => ?_) (fun hc1 => ?_)
 ·
  refine aE (aA (jK rfl (ay (qc y hr) rfl rfl rfl rfl rfl (cF rfl (aD (aC (bC (aX (bl rfl rfl ?_)))))))))
  all_goals skip
  all_goals exact bE rfl rfl (congrArg (Ty.int .i64) (J9 hr hc1))
 refine aj (aC (aE ?_))
 have hb := BX (s := s) (d := y.days) (by omega) (by omega)
 refine aA (bO rfl (jK rfl (bt rfl ?_)))
 refine aS rfl rfl rfl rfl rfl (by decide) ?_
 refine aS rfl rfl rfl rfl rfl (by decide) ?_
 refine aM rfl rfl rfl rfl ?_
 refine DE rfl rfl (by omega) (by omega) ?_
 refine bO rfl ?_
 refine bg rfl rfl (by omega) (by omega) ?_
 refine cF rfl (aD (aC (bC (bl rfl rfl ?_))))
 all_goals skip
 all_goals exact bE rfl rfl (congrArg (Ty.int .i64) (KJ hc1))
set_option maxRecDepth 100000 in
theorem Ca (y : bB) (hr : y.cm) (b t : Nat) (hb : b < y.bins.length) (ht : t ≤ y.D) : eA Tryz.prog 89 [Ty.pp (bk y), Ty.int .i64 (b : Nat), Ty.int .i64 (t : Nat)] (Ty.int .i64 (y.kept b t : Nat)) := by
 refine az Tryz.func89 rfl (by decide) Tryz.ntmps89 (by exact Nat.le_of_ble_eq_true rfl) fun w0 M0 => ?_
 have h1 := hr.bins
 have h2 := hr.days
 have h3 := D_eq hr
 have h4 := BX (s := (b : Nat)) (d := y.days + 1) (by omega) (by omega)
 refine aE (aA (cF rfl (aD (aC (aE (aA (bO rfl (jK rfl (bt rfl ?_)))))))))
 refine aS rfl rfl rfl rfl rfl (by decide) ?_
 refine aS rfl rfl rfl rfl rfl (by decide) ?_
 refine aM rfl rfl rfl rfl ?_
 refine bg rfl rfl (by omega) (by omega) ?_
 refine DE rfl rfl (by omega) (by omega) ?_
 refine bO rfl ?_
 refine bg rfl rfl (by omega) (by omega) ?_
 refine cF rfl (aD (aC (bC (bl rfl rfl ?_))))
 all_goals skip
 all_goals exact bE rfl rfl (congrArg (Ty.int .i64) (GH hr))
end Go.Proofs.YtelbollidfdcjaaGreat
namespace Go.Proofs.YtelbollidfdcjaaGreat
open Go Go.T
set_option maxHeartbeats 8000000
def jC (f : bw) : List Ty := [Ty.agg (dh.tys f)]
section
variable {y : bB} {c : Nat → Bool} {b t : Nat}
def Ck (y : bB) (b t : Nat) : Int := if 0 < t then y.cell b ((t : Int) - 1) else (y.cells : Nat)
def D9 (y : bB) (b t : Nat) : Int := if t < y.D then y.cell b t else (y.cells : Nat)
def uJ (s d : Int) (k : Span) : List Ty := [Ty.int .i64 s, Ty.int .i64 d, Ty.int .i64 k.lo, Ty.int .i64 k.hi]
theorem IP (h : (t : Int) > 0) : y.cell b ((t : Int) - 1) = Ck y b t := (if_pos (by omega)).symm
theorem LA (h : ¬ (t : Int) > 0) : ((y.cells : Nat) : Int) = Ck y b t := (if_neg (by omega)).symm
theorem JK (hr : y.cm) (h : (t : Int) < y.days) : y.cell b t = D9 y b t := (if_pos (by have := D_eq hr; omega)).symm
theorem Kk (hr : y.cm) (h : ¬ (t : Int) < y.days) : ((y.cells : Nat) : Int) = D9 y b t := (if_neg (by have := D_eq hr; omega)).symm
theorem G0 (h : (t : Int) > 0) : 0 = (gq y b t).lo ∧ (nth y.bins b).holds = (gq y b t).hi := by unfold gq; rw [if_pos (by omega)]; exact ⟨rfl, rfl⟩
theorem J0 (h : ¬ (t : Int) > 0) : max 0 (nth y.bins b).first.lo = (gq y b t).lo ∧ fX (nth y.bins b).holds [(nth y.bins b).first.hi] = (gq y b t).hi := by unfold gq; rw [if_neg (by omega)]; exact ⟨rfl, rfl⟩
theorem Co {s : Span} {k : Nat} (h : ((c k && decide ((nth y.levels k).bin = b)) && decide ((nth y.levels k).day = t)) = true) : max (fy y c b t s k).lo (nth y.levels k).sacks.lo = (fy y c b t s (k + 1)).lo ∧ fX (fy y c b t s k).hi [(nth y.levels k).sacks.hi] = (fy y c b t s (k + 1)).hi := by
 show _ = (if _ then _ else _ : Span).lo ∧ _ = (if _ then _ else _ : Span).hi
 rw [if_pos h]; exact ⟨rfl, rfl⟩
theorem G1 {s : Span} {k : Nat} (h : ((c k && decide ((nth y.levels k).bin = b)) && decide ((nth y.levels k).day = t)) = false) : (fy y c b t s k).lo = (fy y c b t s (k + 1)).lo ∧ (fy y c b t s k).hi = (fy y c b t s (k + 1)).hi := by
 show _ = (if _ then _ else _ : Span).lo ∧ _ = (if _ then _ else _ : Span).hi
 rw [if_neg (by rw [h]; decide)]; exact ⟨rfl, rfl⟩
theorem AY (s : Span) : s.lo = (fy y c b t s 0).lo ∧ s.hi = (fy y c b t s 0).hi := ⟨rfl, rfl⟩
theorem Ia {s : Span} {k : Nat} (hk : k ≤ y.levels.length) (h : ¬ (k : Int) < (y.levels.length : Int)) : fy y c b t s k = fy y c b t s y.levels.length := by rw [show k = y.levels.length by omega]
theorem JP (hb : b < y.bins.length) (ht : t ≤ y.D) : jC (nth (aQ y c) (b * (y.D + 1) + t)) = [Ty.agg (uJ (Ck y b t) (D9 y b t) (fy y c b t (gq y b t) y.levels.length))] := congrArg jC (iC (c := c) hb ht)
theorem Iy {i : Nat} (hi : i < y.moves.length) : jC (nth (aQ y c) (y.bins.length * (y.D + 1) + i)) = [Ty.agg [Ty.int .i64 (y.cell (nth y.moves i).src (nth y.moves i).day), Ty.int .i64 (y.cell (nth y.moves i).dst (nth y.moves i).day), Ty.int .i64 (nth y.moves i).sacks.lo, Ty.int .i64 (nth y.moves i).sacks.hi]] := congrArg jC (iD (c := c) hi)
theorem Dn (hb : b < y.bins.length) (ht : t ≤ y.D) : b * (y.D + 1) + t < (aQ y c).length := by
 rw [fC]; have h := om hb ht; unfold bB.kept at h; omega
theorem Fp {J : Nat → World → bA → Prop} (hJ : ∀ k, Cb (J k)) {m k : Nat} (e : m = k) : (Cont.ck (hJ m)).Sub (Cont.ck (hJ k)) := Cont.KR hJ e
end
attribute [local irreducible] bB.cell bB.cells fX Ck D9 gq fy aQ
attribute [local irreducible] iw fu nh ru jS jR jO jN jQ rZ jL rj eO gy rY g9 rX nth fT dg aq eA bodyPost Exit.then Exit.inBlock Code.wp Code.wpIn rm jU rq rW jP eT ct cx bodyPostM eU
set_option maxRecDepth 100000 in
theorem uQ (y : bB) (hr : y.cm) (c8 : List Bool) (hc8 : c8.length = 8) (b D : Nat) (hD : D < 4096) (vs : List Value) : F6 Tryz.prog 196 b D 185 vs (bk y) (fun l => [Ty.ex (yv l), Ty.pp [Ty.ex (.pointer (some ⟨b, 0, none⟩))], Ty.pa iJ c8 0]) ((aQ y (nth c8)).map jC) (Ty.j3 []) (Ty.j3 []) := by
 refine CG rfl rfl Tryz.func196 rfl (by decide) Tryz.ntmps196 (fun _ => by exact Nat.le_of_ble_eq_true rfl) (fun _ => ⟨rfl, rfl⟩) fun l J Jx hJ hJx hX hY w0 M0 => ?_
 have h1 := hr.bins
 have h2 := hr.days
 have h3 := D_eq hr
 have h4 := hr.moves
 have h5 := hr.levels
 refine aE (aE (aA (aM rfl rfl rfl rfl (jz rfl ?_))))
 refine iP rfl rfl rfl rfl rfl (by decide) ?_
 refine iP rfl rfl rfl rfl rfl (by decide) ?_
 refine qR hX rfl rfl rfl rfl rfl rfl (cz rfl rfl rfl (bO rfl (aD (aC (ak ?_)))))
 refine cV (fun (k : {k : Nat // k ≤ y.bins.length}) => live [(0, Ty.ex (yv l)), (1, Ty.pp [Ty.ex (.pointer (some ⟨b, 0, none⟩))]), (2, Ty.pa iJ c8 0), (16, Ty.sl eG y.bins), (17, Ty.int .i64 y.bins.length), (18, Ty.int .i64 (k.1 : Nat))] [(7000, Cont.ck (hJ (k.1 * (y.D + 1)))), (4000, Cont.fact (bk y) vs rfl rfl)]) (fun k => y.bins.length - k.1) (⟨0, by omega⟩) ?_ fun k => ?_
 ·(refine c9.mk' ?_ ?_ <;> (repeat' (first | exact aH | exact aI | refine aB ?_ (Ty.aW _) | refine aB ?_ (Ty.aF _) | refine aG rfl (Cont.aF _) ?_ | refine aG rfl ?_ ?_)))
  all_goals exact Fp hJ (Nat.zero_mul _).symm
 refine aE (aA (bD rfl rfl rfl (aD (aC (aE ?_)))))
 refine av rfl (fun hc1 => ?_) (fun hc1 => ?_)
 ·
  refine aj (aC (aE (ak (aE (aA (bO rfl ?_))))))
  refine bN rfl rfl rfl rfl rfl rfl (by omega) ?_
  refine aa rfl rfl rfl (by exact Nat.le_of_ble_eq_true rfl) ?_
  refine bz rfl (by exact List.cons_ne_nil _ _) rfl ?_
  refine cF rfl ?_
  refine bu rfl rfl (by decide) rfl rfl rfl rfl rfl rfl ?_
  refine aD (aC (aE (aA (aM rfl rfl rfl rfl (jz rfl ?_)))))
  refine iP rfl rfl rfl rfl rfl (by decide) ?_
  refine iP rfl rfl rfl rfl rfl (by decide) ?_
  refine qR hX rfl rfl rfl rfl rfl rfl ?_
  refine bg rfl rfl (by omega) (by omega) ?_
  refine bO rfl (aD (aC (ak ?_)))
  refine cV (fun (t : {t : Nat // t ≤ y.D + 1}) => live [(0, Ty.ex (yv l)), (1, Ty.pp [Ty.ex (.pointer (some ⟨b, 0, none⟩))]), (2, Ty.pa iJ c8 0), (4, Ty.int .i64 (k.1 : Nat)), (5, Ty.ptr 6 0), (16, Ty.sl eG y.bins), (17, Ty.int .i64 y.bins.length), (18, Ty.int .i64 (k.1 : Nat)), (28, Ty.int .i64 (y.days + 1)), (29, Ty.int .i64 (t.1 : Nat))] [(6, Cont.cells 39 (eG.tys (nth y.bins k.1))), (7000, Cont.ck (hJ (k.1 * (y.D + 1) + t.1))), (4000, Cont.fact (bk y) vs rfl rfl)]) (fun t => y.D + 1 - t.1) (⟨0, by omega⟩) ?_ fun t => ?_
  ·(refine c9.mk' ?_ ?_ <;> (repeat' (first | exact aH | exact aI | refine aB ?_ (Ty.aW _) | refine aB ?_ (Ty.aF _) | refine aG rfl (Cont.aF _) ?_)))
  refine aE (aA (bD rfl rfl rfl (aD (aC (aE ?_)))))
  refine av rfl (fun hc2 => ?_) (fun hc2 => ?_)
  ·
   refine aj (aC (aE (ak (aE (aA (bO rfl (cF rfl (aD (aC ?_)))))))))
   refine aE (cN mixed rfl (aM rfl rfl rfl rfl ?_))
   refine dV [7000, 4000] (qc y hr) rfl (aL (oo hX hD rfl rfl rfl rfl) bX) (by exact dG _ _) ?_
   refine aM rfl rfl rfl rfl ?_
   refine dV [7000, 4000] (qc y hr) rfl (aL (oo hX hD rfl rfl rfl rfl) bX) (by exact dG _ _) ?_
   refine aK rfl rfl rfl rfl rfl (by decide) ?_
   refine aP rfl rfl (by decide) rfl rfl rfl ?_
   refine dD rfl rfl (by exact List.cons_ne_nil _ _) rfl (by repeat (first | exact (aY.nil : aY _ _ [] _) | (show aY _ _ ((_, _) :: _) _; apply aY.one; (· exact (rfl : _ = Ty.int _ _)); (· exact rfl)))) (by exact (rfl : _ = some [_, _, _, _])) ?_
   refine bz rfl (by exact List.cons_ne_nil _ _) rfl ?_
   refine bu rfl rfl (by decide) rfl rfl rfl rfl rfl rfl ?_
   refine aD ?_
   refine ⟨by kernel_rfl, ?_⟩
   refine aC ?_
   refine j9 (J := live [(0, Ty.ex (yv l)), (1, Ty.pp [Ty.ex (.pointer (some ⟨b, 0, none⟩))]), (2, Ty.pa iJ c8 0), (4, Ty.int .i64 (k.1 : Nat)), (5, Ty.ptr 6 0), (6, Ty.int .i64 (t.1 : Nat)), (7, Ty.ptr 8 0), (16, Ty.sl eG y.bins), (17, Ty.int .i64 y.bins.length), (18, Ty.int .i64 (k.1 : Nat)), (28, Ty.int .i64 (y.days + 1)), (29, Ty.int .i64 (t.1 : Nat))] [(6, Cont.cells 39 (eG.tys (nth y.bins k.1))), (8, Cont.cells 187 [Ty.int .i64 (Ck y k.1 t.1), Ty.int .i64 (y.cells : Nat), Ty.int .i64 (gq y k.1 t.1).lo, Ty.int .i64 (gq y k.1 t.1).hi]), (7000, Cont.ck (hJ (k.1 * (y.D + 1) + t.1))), (4000, Cont.fact (bk y) vs rfl rfl)]) ?_ ?_
   ·
    refine aE (aA (bO rfl (bD rfl rfl rfl (aD (aC ?_)))))
    refine av rfl (fun hc3 => ?_) (fun hc3 => ?_)
    ·
     refine aA (aM rfl rfl rfl rfl (bO rfl (bO rfl ?_)))
     refine fU rfl rfl (by omega) (by omega) ?_
     refine dV [7000, 4000] (vr y hr (k.1 : Nat) ((t.1 : Int) - 1) (by omega) (by omega)) rfl (aL (oo hX hD rfl rfl rfl rfl) (aL (af (bF rfl rfl)) (aL (af (bF rfl rfl)) bX))) (by exact dG _ _) ?_
     refine aK rfl rfl rfl rfl rfl (by decide) ?_
     refine cZ rfl rfl (by decide) rfl rfl (by exact (rfl : _ = Ty.int _ _)) rfl (by exact Nat.le_of_ble_eq_true rfl) rfl rfl (by exact rfl) ?_
     refine aD (fJ ?_)
     (refine c9.mk' ?_ ?_ <;> (repeat' (first | exact aH | exact aI | exact c7 | refine aB ?_ (Ty.aW _) | refine aB ?_ (Ty.aF _) | refine aG rfl (Cont.aF _) ?_ | refine aG rfl (Cont.c6 ?_) ?_ | refine bS ?_ (Ty.aF _) | refine bS ?_ ?_)))
     all_goals first | exact Ty.ah (IP hc3) | exact Ty.ah (G0 hc3).1 | exact Ty.ah (G0 hc3).2
    refine cN mixed rfl ?_
    refine aK rfl rfl rfl rfl rfl (by decide) ?_
    refine aK rfl rfl rfl rfl rfl (by decide) ?_
    refine aP rfl rfl (by decide) rfl rfl rfl ?_
    refine tJ rfl rfl ?_
    refine aK rfl rfl rfl rfl rfl (by decide) ?_
    refine aP rfl rfl (by decide) rfl rfl rfl ?_
    refine aK rfl rfl rfl rfl rfl (by decide) ?_
    refine aK rfl rfl rfl rfl rfl (by decide) ?_
    refine aP rfl rfl (by decide) rfl rfl rfl ?_
    refine bp (E := cj) (xs := [_]) rfl rfl rfl rfl rfl (by decide) (by decide) (by repeat (first | exact (aY.nil : aY _ _ [] _) | (show aY _ _ ((_, _) :: _) _; apply aY.one; (· exact (rfl : _ = Ty.int _ _)); (· exact rfl)))) (by exact rfl) rfl ?_
    refine ay (ql _ _) rfl rfl rfl rfl rfl ?_
    refine aK rfl rfl rfl rfl rfl (by decide) ?_
    refine cZ rfl rfl (by decide) rfl rfl (by exact (rfl : _ = Ty.int _ _)) rfl (by exact Nat.le_of_ble_eq_true rfl) rfl rfl (by exact rfl) ?_
    refine aK rfl rfl rfl rfl rfl (by decide) ?_
    refine cZ rfl rfl (by decide) rfl rfl (by exact (rfl : _ = Ty.int _ _)) rfl (by exact Nat.le_of_ble_eq_true rfl) rfl rfl (by exact rfl) ?_
    refine aD ?_
    refine ⟨by kernel_rfl, ?_⟩
    refine fJ ?_
    (refine c9.mk' ?_ ?_ <;> (repeat' (first | exact aH | exact aI | exact c7 | refine aB ?_ (Ty.aW _) | refine aB ?_ (Ty.aF _) | refine aG rfl (Cont.aF _) ?_ | refine aG rfl (Cont.c6 ?_) ?_ | refine bS ?_ (Ty.aF _) | refine bS ?_ ?_)))
    all_goals first | exact Ty.ah (LA hc3) | exact Ty.ah (J0 hc3).1 | exact Ty.ah (J0 hc3).2
   refine j9 (J := live [(0, Ty.ex (yv l)), (1, Ty.pp [Ty.ex (.pointer (some ⟨b, 0, none⟩))]), (2, Ty.pa iJ c8 0), (4, Ty.int .i64 (k.1 : Nat)), (5, Ty.ptr 6 0), (6, Ty.int .i64 (t.1 : Nat)), (7, Ty.ptr 8 0), (16, Ty.sl eG y.bins), (17, Ty.int .i64 y.bins.length), (18, Ty.int .i64 (k.1 : Nat)), (28, Ty.int .i64 (y.days + 1)), (29, Ty.int .i64 (t.1 : Nat))] [(6, Cont.cells 39 (eG.tys (nth y.bins k.1))), (8, Cont.cells 187 (uJ (Ck y k.1 t.1) (D9 y k.1 t.1) (gq y k.1 t.1))), (7000, Cont.ck (hJ (k.1 * (y.D + 1) + t.1))), (4000, Cont.fact (bk y) vs rfl rfl)]) ?_ ?_
   ·
    refine aE (aA (bO rfl (aM rfl rfl rfl rfl (jz rfl ?_))))
    refine iP rfl rfl rfl rfl rfl (by decide) ?_
    refine iP rfl rfl rfl rfl rfl (by decide) ?_
    refine qR hX rfl rfl rfl rfl rfl rfl (bD rfl rfl rfl (aD (aC ?_)))
    refine av rfl (fun hc4 => ?_) (fun hc4 => ?_)
    ·
     refine aA (aM rfl rfl rfl rfl (bO rfl (bO rfl ?_)))
     refine dV [7000, 4000] (vr y hr (k.1 : Nat) (t.1 : Nat) (by omega) (by omega)) rfl (aL (oo hX hD rfl rfl rfl rfl) (aL (af (bF rfl rfl)) (aL (af (bF rfl rfl)) bX))) (by exact dG _ _) ?_
     refine aK rfl rfl rfl rfl rfl (by decide) ?_
     refine cZ rfl rfl (by decide) rfl rfl (by exact (rfl : _ = Ty.int _ _)) rfl (by exact Nat.le_of_ble_eq_true rfl) rfl rfl (by exact rfl) ?_
     refine aD (fJ ?_)
     (refine c9.mk' ?_ ?_ <;> (repeat' (first | exact aH | exact aI | exact c7 | refine aB ?_ (Ty.aW _) | refine aB ?_ (Ty.aF _) | refine aG rfl (Cont.aF _) ?_ | refine aG rfl (Cont.c6 ?_) ?_ | refine bS ?_ (Ty.aF _) | refine bS ?_ ?_)))
     all_goals exact Ty.ah (JK hr hc4)
    refine aj (fJ ?_)
    (refine c9.mk' ?_ ?_ <;> (repeat' (first | exact aH | exact aI | exact c7 | refine aB ?_ (Ty.aW _) | refine aB ?_ (Ty.aF _) | refine aG rfl (Cont.aF _) ?_ | refine aG rfl (Cont.c6 ?_) ?_ | refine bS ?_ (Ty.aF _) | refine bS ?_ ?_)))
    all_goals exact Ty.ah (Kk hr hc4)
   refine aE (aE (aA (aM rfl rfl rfl rfl (jz rfl ?_))))
   refine iP rfl rfl rfl rfl rfl (by decide) ?_
   refine iP rfl rfl rfl rfl rfl (by decide) ?_
   refine qR hX rfl rfl rfl rfl rfl rfl (cz rfl rfl rfl (bO rfl (aD (aC (ak ?_)))))
   refine cV (fun (i : {i : Nat // i ≤ y.levels.length}) => live [(0, Ty.ex (yv l)), (1, Ty.pp [Ty.ex (.pointer (some ⟨b, 0, none⟩))]), (2, Ty.pa iJ c8 0), (4, Ty.int .i64 (k.1 : Nat)), (5, Ty.ptr 6 0), (6, Ty.int .i64 (t.1 : Nat)), (7, Ty.ptr 8 0), (16, Ty.sl eG y.bins), (17, Ty.int .i64 y.bins.length), (18, Ty.int .i64 (k.1 : Nat)), (28, Ty.int .i64 (y.days + 1)), (29, Ty.int .i64 (t.1 : Nat)), (76, Ty.sl ej y.levels), (77, Ty.int .i64 y.levels.length), (78, Ty.int .i64 (i.1 : Nat))] [(6, Cont.cells 39 (eG.tys (nth y.bins k.1))), (8, Cont.cells 187 (uJ (Ck y k.1 t.1) (D9 y k.1 t.1) (fy y (nth c8) k.1 t.1 (gq y k.1 t.1) i.1))), (7000, Cont.ck (hJ (k.1 * (y.D + 1) + t.1))), (4000, Cont.fact (bk y) vs rfl rfl)]) (fun i => y.levels.length - i.1) (⟨0, by omega⟩) ?_ fun i => ?_
   ·(refine c9.mk' ?_ ?_ <;> (repeat' (first | exact aH | exact aI | exact c7 | refine aB ?_ (Ty.aW _) | refine aB ?_ (Ty.aF _) | refine aG rfl (Cont.aF _) ?_ | refine aG rfl (Cont.c6 ?_) ?_ | refine bS ?_ (Ty.aF _) | refine bS ?_ ?_)))
    all_goals first | exact Ty.ah (AY _).1 | exact Ty.ah (AY _).2
   have hi := i.2
   refine aE (aA (bD rfl rfl rfl (aD (aC (aE ?_)))))
   refine av rfl (fun hc5 => ?_) (fun hc5 => ?_)
   ·
    refine aj (aC (aE (ak (aE (aA (bO rfl ?_))))))
    refine bN rfl rfl rfl rfl rfl rfl (by omega) ?_
    refine aa rfl rfl rfl (by exact Nat.le_of_ble_eq_true rfl) ?_
    refine bz rfl (by exact List.cons_ne_nil _ _) rfl ?_
    refine cF rfl ?_
    refine bu rfl rfl (by decide) rfl rfl rfl rfl rfl rfl ?_
    refine aD (aC (aE (aA (bO rfl ?_))))
    refine Cf (n := 8) rfl rfl rfl rfl rfl (by omega) ?_
    refine EX rfl rfl rfl (Nat.zero_add _) (by omega) rfl ?_
    refine gO rfl ?_
    apply aT (s := 86) rfl rfl rfl
    ·intro hg; apply aU; (refine aK rfl rfl rfl rfl rfl (by decide) ?_); refine aD ?_; exact rfl
    ·exact rfl
    ·exact rfl
    apply aT (s := 86) rfl rfl rfl
    ·intro hg; apply aN (s := 87) rfl (by (rw [hg]; rfl)); apply aU; (refine aP rfl rfl (by decide) rfl rfl rfl ?_); refine aD ?_; exact rfl
    ·exact rfl
    ·exact rfl
    apply aT (s := 86) rfl rfl rfl
    ·intro hg; apply aU; (refine bO rfl ?_); refine aD ?_; exact rfl
    ·exact rfl
    ·exact rfl
    apply aT (s := 86) rfl rfl rfl
    ·intro hg; apply aN (s := 88) rfl (by (rw [hg]; rfl)); apply aN (s := 89) rfl (by (rw [hg]; rfl)); apply aU; (refine bD rfl rfl rfl ?_); refine aD ?_; exact rfl
    ·exact rfl
    ·exact rfl
    refine eL rfl rfl (gO rfl ?_)
    apply aT (s := 92) rfl rfl rfl
    ·intro hg; apply aU; (refine aK rfl rfl rfl rfl rfl (by decide) ?_); refine aD ?_; exact rfl
    ·exact rfl
    ·exact rfl
    apply aT (s := 92) rfl rfl rfl
    ·intro hg; apply aN (s := 93) rfl (by (rw [hg]; rfl)); apply aU; (refine aP rfl rfl (by decide) rfl rfl rfl ?_); refine aD ?_; exact rfl
    ·exact rfl
    ·exact rfl
    apply aT (s := 92) rfl rfl rfl
    ·intro hg; apply aU; (refine bO rfl ?_); refine aD ?_; exact rfl
    ·exact rfl
    ·exact rfl
    apply aT (s := 92) rfl rfl rfl
    ·intro hg; apply aN (s := 94) rfl (by (rw [hg]; rfl)); apply aN (s := 95) rfl (by (rw [hg]; rfl)); apply aU; (refine bD rfl rfl rfl ?_); refine aD ?_; exact rfl
    ·exact rfl
    ·exact rfl
    refine eL rfl rfl (aD (aC ?_))
    refine cW rfl (fun hc6 => ?_) (fun hc6 => ?_)
    ·
     refine cN mixed rfl ?_
     refine aK rfl rfl rfl rfl rfl (by decide) ?_
     refine aP rfl rfl (by decide) rfl rfl rfl ?_
     refine aK rfl rfl rfl rfl rfl (by decide) ?_
     refine aK rfl rfl rfl rfl rfl (by decide) ?_
     refine aP rfl rfl (by decide) rfl rfl rfl ?_
     refine tJ rfl rfl ?_
     refine aK rfl rfl rfl rfl rfl (by decide) ?_
     refine aP rfl rfl (by decide) rfl rfl rfl ?_
     refine aK rfl rfl rfl rfl rfl (by decide) ?_
     refine aK rfl rfl rfl rfl rfl (by decide) ?_
     refine aP rfl rfl (by decide) rfl rfl rfl ?_
     refine bp (E := cj) (xs := [_]) rfl rfl rfl rfl rfl (by decide) (by decide) (by repeat (first | exact (aY.nil : aY _ _ [] _) | (show aY _ _ ((_, _) :: _) _; apply aY.one; (· exact (rfl : _ = Ty.int _ _)); (· exact rfl)))) (by exact rfl) rfl ?_
     refine ay (ql _ _) rfl rfl rfl rfl rfl ?_
     refine aK rfl rfl rfl rfl rfl (by decide) ?_
     refine cZ rfl rfl (by decide) rfl rfl (by exact (rfl : _ = Ty.int _ _)) rfl (by exact Nat.le_of_ble_eq_true rfl) rfl rfl (by exact rfl) ?_
     refine aK rfl rfl rfl rfl rfl (by decide) ?_
     refine cZ rfl rfl (by decide) rfl rfl (by exact (rfl : _ = Ty.int _ _)) rfl (by exact Nat.le_of_ble_eq_true rfl) rfl rfl (by exact rfl) ?_
     refine aD ?_
     refine ⟨by kernel_rfl, ?_⟩
     refine bQ (aC (aA ?_))
     refine bg rfl rfl (by omega) (by omega) ?_
     refine bO rfl (aD ?_)
     refine bV (⟨i.1 + 1, by omega⟩) ?_ (by show y.levels.length - (i.1 + 1) < y.levels.length - i.1; omega)
     (refine c9.mk' ?_ ?_ <;> (repeat' (first | exact aH | exact aI | exact c7 | refine aB ?_ (Ty.aW _) | refine aB ?_ (Ty.aF _) | refine aG rfl (Cont.aF _) ?_ | refine aG rfl (Cont.c6 ?_) ?_ | refine bS ?_ (Ty.aF _) | refine bS ?_ ?_)))
     all_goals skip
     all_goals first | exact Ty.ah (Co hc6).1 | exact Ty.ah (Co hc6).2
    refine aj (bQ (aC (aA ?_)))
    refine bg rfl rfl (by omega) (by omega) ?_
    refine bO rfl (aD ?_)
    refine bV (⟨i.1 + 1, by omega⟩) ?_ (by show y.levels.length - (i.1 + 1) < y.levels.length - i.1; omega)
    (refine c9.mk' ?_ ?_ <;> (repeat' (first | exact aH | exact aI | exact c7 | refine aB ?_ (Ty.aW _) | refine aB ?_ (Ty.aF _) | refine aG rfl (Cont.aF _) ?_ | refine aG rfl (Cont.c6 ?_) ?_ | refine bS ?_ (Ty.aF _) | refine bS ?_ ?_)))
    all_goals skip
    all_goals first | exact Ty.ah (G1 hc6).1 | exact Ty.ah (G1 hc6).2
   refine cQ (aR (aR (au rfl (aC (aE ?_)))))
   refine gL (tg := 8) rfl (Cont.mM (congrArg (uJ _ _) (Ia i.2 hc5))) ?_
   refine aA (Ml rfl ?_)
   refine bT rfl rfl (by decide) rfl rfl (by exact Nat.le_of_ble_eq_true rfl) ?_
   refine Ap hJ hJx hY rfl rfl rfl rfl rfl (DL (Dn (by omega) (by omega)) (JP (by omega) (by omega))) rfl ?_
   refine Hz (h1 := hJ _) (hx := hJx) rfl ?_
   refine aD (aC ?_)
   refine DJ (h1 := hJ _) (hx := hJx) rfl ?_ ?_
   ·
    refine bC (bG (aX (aX (bG (bG (aX (aX (bG (aX ?_)))))))))
    exact DR rfl rfl
   refine aj (bQ (aC (aA ?_)))
   refine bg rfl rfl (by omega) (by omega) ?_
   refine bO rfl (aD ?_)
   refine bV (⟨t.1 + 1, by omega⟩) ?_ (by show y.D + 1 - (t.1 + 1) < y.D + 1 - t.1; omega)
   (refine c9.mk' ?_ ?_ <;> (repeat' (first | exact aH | exact aI | refine aB ?_ (Ty.aW _) | refine aB ?_ (Ty.aF _) | refine aG rfl (Cont.aF _) ?_)))
   all_goals skip
  refine cQ (aR (aR (au rfl (bQ (aC (aA ?_))))))
  refine bg rfl rfl (by omega) (by omega) ?_
  refine bO rfl (aD ?_)
  refine bV (⟨k.1 + 1, by omega⟩) ?_ (by show y.bins.length - (k.1 + 1) < y.bins.length - k.1; omega)
  (refine c9.mk' ?_ ?_ <;> (repeat' (first | exact aH | exact aI | refine aB ?_ (Ty.aW _) | refine aB ?_ (Ty.aF _) | refine aG rfl (Cont.aF _) ?_ | refine aG rfl ?_ ?_)))
  all_goals skip
  all_goals exact Fp hJ (show k.1 * (y.D + 1) + t.1 = (k.1 + 1) * (y.D + 1) by rw [Nat.succ_mul]; have := t.2; omega)
 refine cQ (aR (aR (au rfl (aC (aE (aA (aM rfl rfl rfl rfl (jz rfl ?_))))))))
 refine iP rfl rfl rfl rfl rfl (by decide) ?_
 refine iP rfl rfl rfl rfl rfl (by decide) ?_
 refine qR hX rfl rfl rfl rfl rfl rfl (cz rfl rfl rfl (bO rfl (aD (aC (ak ?_)))))
 refine cV (fun (i : {i : Nat // i ≤ y.moves.length}) => live [(0, Ty.ex (yv l)), (1, Ty.pp [Ty.ex (.pointer (some ⟨b, 0, none⟩))]), (124, Ty.sl dN y.moves), (125, Ty.int .i64 y.moves.length), (126, Ty.int .i64 (i.1 : Nat))] [(7000, Cont.ck (hJ (y.bins.length * (y.D + 1) + i.1))), (4000, Cont.fact (bk y) vs rfl rfl)]) (fun i => y.moves.length - i.1) (⟨0, by omega⟩) ?_ fun i => ?_
 ·(refine c9.mk' ?_ ?_ <;> (repeat' (first | exact aH | exact aI | refine aB ?_ (Ty.aW _) | refine aB ?_ (Ty.aF _) | refine aG rfl (Cont.aF _) ?_ | refine aG rfl ?_ ?_)))
  all_goals exact Fp hJ (show k.1 * (y.D + 1) = y.bins.length * (y.D + 1) + 0 by rw [show k.1 = y.bins.length by have := k.2; omega]; rfl)
 refine aE (aA (bD rfl rfl rfl (aD (aC (aE ?_)))))
 refine av rfl (fun hc8 => ?_) (fun hc8 => ?_)
 ·
  refine aj (aC (aE (ak (aE (aA ?_)))))
  refine bN rfl rfl rfl rfl rfl rfl (by omega) ?_
  refine aa rfl rfl rfl (by exact Nat.le_of_ble_eq_true rfl) ?_
  refine bz rfl (by exact List.cons_ne_nil _ _) rfl ?_
  refine bu rfl rfl (by decide) rfl rfl rfl rfl rfl rfl ?_
  refine aD (aC (aE ?_))
  have hm := hr.move _ (cM (xs := y.moves) (k := i.1) (by omega))
  refine cN mixed rfl (Ml rfl (aM rfl rfl rfl rfl ?_))
  refine aK rfl rfl rfl rfl rfl (by decide) ?_
  refine aP rfl rfl (by decide) rfl rfl rfl ?_
  refine aK rfl rfl rfl rfl rfl (by decide) ?_
  refine aP rfl rfl (by decide) rfl rfl rfl ?_
  refine dV [7000, 4000] (vr y hr (nth y.moves i.1).src (nth y.moves i.1).day hm.2.1 (by omega)) rfl (aL (oo hX hD rfl rfl rfl rfl) (aL (af (bF rfl rfl)) (aL (af (bF rfl rfl)) bX))) (by exact dG _ _) ?_
  refine aM rfl rfl rfl rfl ?_
  refine aK rfl rfl rfl rfl rfl (by decide) ?_
  refine aP rfl rfl (by decide) rfl rfl rfl ?_
  refine aK rfl rfl rfl rfl rfl (by decide) ?_
  refine aP rfl rfl (by decide) rfl rfl rfl ?_
  refine dV [7000, 4000] (vr y hr (nth y.moves i.1).dst (nth y.moves i.1).day hm.2.2.1 (by omega)) rfl (aL (oo hX hD rfl rfl rfl rfl) (aL (af (bF rfl rfl)) (aL (af (bF rfl rfl)) bX))) (by exact dG _ _) ?_
  refine aK rfl rfl rfl rfl rfl (by decide) ?_
  refine aK rfl rfl rfl rfl rfl (by decide) ?_
  refine aP rfl rfl (by decide) rfl rfl rfl ?_
  refine aK rfl rfl rfl rfl rfl (by decide) ?_
  refine aK rfl rfl rfl rfl rfl (by decide) ?_
  refine aP rfl rfl (by decide) rfl rfl rfl ?_
  refine dD rfl rfl (by exact List.cons_ne_nil _ _) rfl (by repeat (first | exact (aY.nil : aY _ _ [] _) | (show aY _ _ ((_, _) :: _) _; apply aY.one; (· exact (rfl : _ = Ty.int _ _)); (· exact rfl)))) (by exact (rfl : _ = some [_, _, _, _])) ?_
  refine Ap hJ hJx hY rfl rfl rfl rfl rfl (DL (by rw [fC]; omega) (Iy (by omega))) rfl ?_
  refine Hz (h1 := hJ _) (hx := hJx) rfl ?_
  refine aD ?_
  refine ⟨by kernel_rfl, ?_⟩
  refine aC ?_
  refine DJ (h1 := hJ _) (hx := hJx) rfl ?_ ?_
  ·
   refine bC (bG (aX (aX (bG ?_))))
   exact DR rfl rfl
  refine aj (bQ (aC (aA ?_)))
  refine bg rfl rfl (by omega) (by omega) ?_
  refine bO rfl (aD ?_)
  refine bV (⟨i.1 + 1, by omega⟩) ?_ (by show y.moves.length - (i.1 + 1) < y.moves.length - i.1; omega)
  (refine c9.mk' ?_ ?_ <;> (repeat' (first | exact aH | exact aI | refine aB ?_ (Ty.aW _) | refine aB ?_ (Ty.aF _) | refine aG rfl (Cont.aF _) ?_)))
  all_goals skip
 refine cQ (aR (aR (au rfl ?_)))
 exact HW (hJ := hJ) (by rw [List.length_map, fC, show i.1 = y.moves.length by have := i.2; omega]) rfl rfl
end Go.Proofs.YtelbollidfdcjaaGreat
namespace Go.T
open Go Go.RowKit
theorem Jm {ρ : List (Nat × Nat)} {a b : Nat} (h : (a, b) ∈ ρ) : Conv ρ (.mp a) (.mp b) := fun _ _ _ _ _ _ hre ⟨k, e, hk⟩ => ⟨k, e, hre.some _ h k hk⟩
def Gm {α : Type} (E : El α) : VT (List α) := ⟨fun xs => Ty.sl E xs, fun _ => ⟨rfl, rfl⟩⟩
section
variable {A : As}
theorem JB {α : Type} {E : El α} {T J : Nat} {xs : List α} {w : World} {M : bA} {v : Value} (wf : Wf w M) (h : GS E T J xs w M v) : nh E xs w (dy M J) v := by
 rcases h with ⟨rfl, rfl⟩ | ⟨g, off, c, cur, rfl, hg, hh, h1, h2, h3, h4⟩
 ·exact ⟨none, 0, rfl, Nat.le_refl _, by simp [maxLen], fun h => absurd h (by simp)⟩
 refine ⟨_, c, rfl, h1, h2, fun h0 => ⟨g, off, rfl, by simp [dy, hg], wf.lt g _ hg, fun i t hi => ?_⟩⟩
 obtain ⟨u, hu, hdu⟩ := dU h4 i t hi
 refine ⟨u, ?_, t.mono (iF (w := w)) ?_ (fun _ _ h => by cases h) hdu⟩
 ·have hlt : i < xs.length * E.size := by
   have := (List.getElem?_eq_some_iff.1 hu).1
   rw [List.length_take] at this; omega
  rw [List.getElem?_take, if_pos hlt, List.getElem?_drop] at hu
  simpa [World.cell?, hh] using hu
 intro u hu
 have : u ∈ cE (xs.flatMap E.tys) := List.mem_flatMap.2 ⟨t, List.mem_of_getElem? hi, hu⟩
 rw [E.dB] at this; cases this
theorem I6 {κ α : Type} [DecidableEq κ] {enc : κ → Value} {E : El α} {T J m : Nat} {q : List (κ × List α)} (hc : A.tag m = some (.mr enc E T J q)) (hne : Nat.beq m J = false) : Kg A J (m, .mp enc (Gm E) q) := fun w M wf ht => by
  obtain ⟨_, b, es, clock, h1, h2, h3, h4, _⟩ := ht _ (cw hc)
  have hmj : m ≠ J := fun h => by subst h; simp at hne
  refine ⟨b, by simp [dy, h1, hmj], es, clock, h2, h3, ?_⟩
  have key : ∀ (l : List (κ × List α)) (vs : List Value), cL w M (l.map fun x => Ty.iA E T J x.2) vs → cL w (dy M J) (l.map fun x => (Gm E).ty x.2) vs := by
    intro l
    induction l with
    | nil => intro vs h; cases vs with | nil => trivial | cons => cases h
    | cons x l ih =>
      intro vs h
      cases vs with
      | nil => cases h
      | cons v vs => exact ⟨JB wf h.1, ih vs h.2⟩
  exact key q _ h4
theorem mX {L : List Nat} {l1 l2 : List Ty} (h1 : cE l1 = []) (h2 : bh l1 = []) : rJ A L (.pp (l1 ++ l2)) (.pp l1) := fun w M v _ _ ⟨b, off, e, m1, m2, m3⟩ => by
 refine ⟨b, off, e, ig m1, m2, fun i t hi => ?_⟩
 have hl : i < l1.length := (List.getElem?_eq_some_iff.1 hi).1
 obtain ⟨x, hx, hd⟩ := m3 i t (by rw [List.getElem?_append_left hl]; exact hi)
 refine ⟨x, hx, t.mono (S := fun _ => True) (K := fun _ => True) ⟨Nat.le_refl _, rfl, rfl, rfl, fun b _ hm => ⟨ig hm, rfl⟩, fun b t _ h => absurd trivial h⟩ ?_ ?_ hd⟩
 ·intro u hu
  have : u ∈ cE l1 := List.mem_flatMap.2 ⟨t, List.mem_of_getElem? hi, hu⟩
  rw [h1] at this; cases this
 intro u hu
 have : u ∈ bh l1 := List.mem_flatMap.2 ⟨t, List.mem_of_getElem? hi, hu⟩
 rw [h2] at this; cases this
theorem EO {L : List Nat} {i : Nat} {t : Ty} : ∀ {l l' : List Ty}, mo A L l l' → l'[i]? = some t → ∃ s, l[i]? = some s ∧ rJ A L s t := by
  induction i with
  | zero =>
    intro l l' h e
    match l, l', h with
    | [], [], _ => cases e
    | s :: _, t' :: _, h => injection e with e; subst e; exact ⟨s, rfl, h.1⟩
  | succ i ih =>
    intro l l' h e
    match l, l', h with
    | [], [], _ => cases e
    | _ :: l, _ :: l', h => exact ih (l := l) (l' := l') h.2 e
theorem jt {L : List Nat} {l l' : List Ty} (h : mo A L l l') : rJ A L (.pp l) (.pp l') := fun w M v wf ht ⟨b, off, e, m1, m2, m3⟩ => by
 refine ⟨b, off, e, ig m1, m2, fun i t hi => ?_⟩
 obtain ⟨s, h1, h2⟩ := EO h hi
 obtain ⟨x, hx, hd⟩ := m3 i s h1
 exact ⟨x, hx, h2 w M x wf ht hd⟩
end
section
variable {P : Program} {fr : Fr} {A : As} {c : Code} {Q : Exit → Act → World → Prop}
theorem Ku {α : Type} {E : El α} {T J tg s : Nat} {xs : List α} (hs : Nat.blt s fr.n = true) (hc : A.slots s = .row E T tg xs) (h1 : gA tg) (hJ : 4096 ≤ J) (hp : fr.pass.contains tg = false)
    (h : fT P fr c ⟨fun i => bif Nat.beq i s then .iA E T J xs else fM [] [tg] A.slots i, l9 [] [tg] A.tags⟩ Q) : fT P fr c A Q := fun a w ⟨M, ok, hsl, ht⟩ => by
  have le : Le (· ∈ ([] : List Nat)) (· ∈ [tg]) w M w (qd M tg J) := BU
  refine h a w ⟨qd M tg J, ⟨Gl hJ ok.wf, Fr.iB ok.base (by intro _ h; cases h) (fun t ht => by simp only [List.mem_singleton] at ht; subst ht; exact ⟨h1.1, by simpa using hp⟩) le, ok.size, ok.defers.step (by intro _ h; cases h) (fun t ht => by simp only [List.mem_singleton] at ht; subst ht; exact h1.1) le⟩, fun i hi => ?_, fun x hx => ?_⟩
  · cases hb : Nat.beq i s with
    | false =>
      simp only [hb, cond_false]
      rcases fH [] [tg] A.slots i with ⟨e, hdj⟩ | ⟨_, e⟩
      · rw [e]; exact (A.slots i).mono le (eX hdj).1 (eX hdj).2 (hsl i hi)
      · rw [e]; trivial
    | true =>
      have his : i = s := Nat.eq_of_beq_eq_true hb
      subst his
      simp only [hb, cond_true]
      have hd := hsl i hi
      rw [hc] at hd
      obtain ⟨vs, hown, hcs, hM⟩ := hd
      rcases hown.2 with ⟨ez, h0⟩ | ⟨g, cap, cur, ez, _, hh, hnc, hcap, hsz, htk⟩
      · exact .inl ⟨List.length_eq_zero_iff.1 h0, ez⟩
      · have hg : M g = some tg := hM g (by rw [ez]; rfl)
        refine .inr ⟨g, 0, cap, cur, ez, by simp [qd, hg], hh, hnc, hcap, by omega, ?_⟩
        rw [List.drop_zero, htk]
        exact b9 (BU (w := w)) (by rw [E.dB]; intro _ h; cases h) (by rw [E.cv]; intro _ h; cases h) hcs
  · exact gW le hx fun y hy _ => ht y hy
end
end Go.T
namespace Go.Proofs.YtelbollidfdcjaaGreat
open Go Go.T
set_option maxHeartbeats 8000000
theorem four {vs : List Value} {n : Nat} (h : vs.length = n) (e : n = 4) : ∃ a b c d, vs = [a, b, c, d] := by
  subst e
  match vs, h with
  | [a, b, c, d], _ => exact ⟨a, b, c, d, rfl⟩
def DW (y : bB) : List Ty := [Ty.int .i64 y.days, Ty.sl eG y.bins, Ty.sl dN y.moves, Ty.sl ej y.levels, Ty.ex (.slice none 0 0), Ty.ex (.slice none 0 0)]
def MN (y : bB) (F A : Nat) (fl : List bw) (a : List Int) : List Ty := [Ty.int .i64 y.days, Ty.sl eG y.bins, Ty.sl dN y.moves, Ty.sl ej y.levels, Ty.row dh 187 F fl, Ty.row cj 3 A a]
theorem Cp {fl : List bw} {k : Nat} (h : k < fl.length) : (gU fl).take k ++ [(nth fl k).lo] = (gU fl).take (k + 1) := by
 unfold gU; rw [← List.map_take, ← List.map_take, dS h, List.map_append]; rfl
theorem zk {y : bB} {fl : List bw} {α : Type} {f : bw → α} : [Ty.int .i64 y.days, Ty.sl eG y.bins, Ty.sl dN y.moves, Ty.sl ej y.levels, Ty.row dh 187 23 (fl.take (fl.map f).length), Ty.row cj 3 31 ((gU fl).take (fl.map f).length)] = MN y 23 31 fl (gU fl) := by
 rw [List.length_map, List.take_of_length_le (Nat.le_refl _), List.take_of_length_le (by unfold gU; rw [List.length_map]; exact Nat.le_refl _)]; rfl
def rG (y : bB) (F A m n : Nat) : List Ty := [Ty.int .i64 y.days, Ty.sl eG y.bins, Ty.sl dN y.moves, Ty.sl ej y.levels, Ty.vs F m, Ty.vs A n]
def eF (y : bB) (fl : List bw) (A n : Nat) : List Ty := [Ty.int .i64 y.days, Ty.sl eG y.bins, Ty.sl dN y.moves, Ty.sl ej y.levels, Ty.sl dh fl, Ty.vs A n]
def lQ (y : bB) (fl : List bw) (a : List Int) : List Ty := [Ty.int .i64 y.days, Ty.sl eG y.bins, Ty.sl dN y.moves, Ty.sl ej y.levels, Ty.sl dh fl, Ty.sl cj a]
theorem Br (fl : List bw) : (gU fl).length = fl.length := by unfold gU; rw [List.length_map]
theorem ji {y : bB} (hr : y.cm) {c : Nat → Bool} : (aQ y c).length ≤ 34 := by
 have h1 := hr.bins; have h2 := hr.days; have h3 := D_eq hr; have h4 := hr.moves
 have := Nat.mul_le_mul (show y.bins.length ≤ 4 by omega) (show y.D + 1 ≤ 6 by omega)
 rw [fC]; omega
attribute [local irreducible] aQ gU
attribute [local irreducible] iw fu nh ru jS jR jO jN jQ rZ jL rj eO gy rY g9 rX nth fT dg aq eA bodyPost Exit.then Exit.inBlock Code.wp Code.wpIn rm jU rq rW jP eT ct cx bodyPostM eU
set_option maxRecDepth 100000 in
theorem HM (y : bB) (c8 : List Bool) (hc8 : c8.length = 8) : eT Tryz.prog 173 [1000] [(1000, Cont.cells 185 (DW y))] [Ty.ptr 1000 0, Ty.arr iJ c8] [(1000, Cont.cells 185 (DW y))] (Ty.jM 196 [Ty.pp [Ty.ptr 1000 0], Ty.pa iJ c8 0]) := by
 refine dj Tryz.func173 rfl (by decide) Tryz.ntmps173 (by exact Nat.le_of_ble_eq_true rfl) fun w0 M0 => ?_
 refine aE (aA ?_)
 refine gD (ty := Ty.ptr 1000 0) rfl rfl ?_
 refine sE rfl (mI rfl (aD (aC (aE (aA (dH rfl (Mm rfl (aD (aC ?_)))))))))
 refine bC ?_
 refine fm [1000] rfl rfl (by decide) (by repeat (first | exact fB | refine eD rfl (bH (by decide) rfl rfl rfl) ?_)) ?_
 all_goals skip
 all_goals exact fQ (sq (aJ (aJ bK (aO rfl rfl)) (ew (aJ bK (dr (by decide))))))
set_option maxRecDepth 100000 in
theorem rP (y : bB) (hr : y.cm) (c8 : List Bool) (hc8 : c8.length = 8) : eT Tryz.prog 117 [] [] [fK y, Ty.arr iJ c8] [(23, Cont.vec dh 187 (aQ y (nth c8))), (31, Cont.vec cj 3 (gU (aQ y (nth c8))))] (Ty.pp (rG y 23 31 (aQ y (nth c8)).length (aQ y (nth c8)).length)) := by
 refine p5 Tryz.func117 rfl (by decide) Tryz.ntmps117 (by exact Nat.le_of_ble_eq_true rfl) fun w0 M0 => ?_
 have hfl := ji (c := nth c8) hr
 refine aE (aA (bM rfl (sE rfl (mI rfl (aD (aC (aE (aA ?_))))))))
 refine aa rfl rfl rfl (by exact Nat.le_of_ble_eq_true rfl) ?_
 refine dD rfl rfl (by exact List.cons_ne_nil _ _) rfl (by repeat (first | exact (aY.nil : aY _ _ [] _) | (show aY _ _ ((_, _) :: _) _; apply aY.agg; (· exact (rfl : _ = Ty.agg _))))) (by exact rfl) ?_
 refine sL rfl rfl rfl ?_
 refine bz rfl (by exact List.cons_ne_nil _ _) rfl ?_
 refine cZ rfl rfl (by decide) rfl rfl (by exact (rfl : _ = Ty.ptr _ _)) rfl (by exact Nat.le_of_ble_eq_true rfl) rfl rfl (by exact (rfl : _ = [_])) ?_
 refine aD (aC (aE (aE (aA ?_))))
 refine aP rfl rfl (by decide) rfl rfl rfl ?_
 refine wE rfl rfl rfl (by rw [hc8]; rfl) ?_
 refine cD (res' := Ty.jM 196 [Ty.pp [Ty.ptr 10 0], Ty.pa iJ c8 0]) [(10, 1000)] [] [(10, Cont.cells 185 (DW y))] (HM y c8 hc8) rfl rfl (aJ (aJ bK (aO rfl rfl)) (dr (by exact List.mem_cons_self))) (cC (a := 10) (b := 1000) (by exact List.mem_cons_self) rfl (bH (by exact List.mem_cons_self) rfl rfl rfl) pre_nil) (bL (a := 10) (b := 1000) (by exact List.mem_cons_self) rfl (bH (by exact List.mem_cons_self) rfl rfl rfl) post_nil) (sq (aJ (aJ bK (aO rfl rfl)) (ew (aJ bK (dr (by exact List.mem_cons_self)))))) ?_
 refine aD (aC ?_)
 refine Ga (D := 10) (Tb := 185) (tys := bk y) (r := [Ty.ex (.slice none 0 0), Ty.ex (.slice none 0 0)]) rfl rfl rfl (by decide) fun vs hvs => ?_
 obtain ⟨v0, v1, v2, v3, rfl⟩ := four hvs rfl
 refine ak ?_
 refine rI (ps := [13]) (lk [(5, Ty.ptr 6 0), (9, Ty.ptr 10 0)]) (fun k => [(6, Cont.cells 152 [Ty.ptr 10 0]), (10, Cont.cells 185 [Ty.ex v0, Ty.ex v1, Ty.ex v2, Ty.ex v3, Ty.row dh 187 23 ((aQ y (nth c8)).take k), Ty.row cj 3 31 ((gU (aQ y (nth c8))).take k)]), (4000, Cont.fact (bk y) [v0, v1, v2, v3] rfl rfl)]) false [] [6, 10, 4000] rfl rfl ((uQ y hr c8 hc8 0 10 (by decide) [v0, v1, v2, v3]).1) (Au (D := 10) (n := 36) (sd := 9) (r := fun k => [Ty.row dh 187 23 ((aQ y (nth c8)).take k), Ty.row cj 3 31 ((gU (aQ y (nth c8))).take k)]) (fun b => uQ y hr c8 hc8 b 10 (by decide) [v0, v1, v2, v3]) (by decide) (by decide) rfl (fun k => List.mem_cons_of_mem _ List.mem_cons_self) (List.mem_cons_of_mem _ (List.mem_cons_of_mem _ List.mem_cons_self))) (uL rfl) (uL rfl) (by decide) (by intro t ht; obtain ⟨x, _, rfl⟩ := List.mem_map.1 ht; exact ⟨rfl, rfl, rfl⟩) rfl rfl (fun _ => rfl) rfl ?_ ?_ ?_ (by intro h; cases h)
 ·(refine c9.mk' ?_ ?_ <;> (repeat' (first | exact aH | exact aI | exact c7 | refine aB ?_ (Ty.aW _) | refine aB ?_ (Ty.aF _) | refine aG rfl (Cont.aF _) ?_ | refine aG rfl (Cont.c6 ?_) ?_ | refine bS ?_ (Ty.aF _) | refine bS ?_ Ty.lU)))
  all_goals trace_state
 ·intro k tys hk
  obtain ⟨hk1, rfl⟩ := DY hk
  refine ⟨live [(5, Ty.ptr 6 0), (6, Ty.ptr 7 0), (9, Ty.ptr 10 0)] [(6, Cont.cells 152 [Ty.ptr 10 0]), (7, Cont.cells 187 (dh.tys (nth (aQ y (nth c8)) k))), (10, Cont.cells 185 [Ty.ex v0, Ty.ex v1, Ty.ex v2, Ty.ex v3, Ty.row dh 187 23 ((aQ y (nth c8)).take k), Ty.row cj 3 31 ((gU (aQ y (nth c8))).take k)]), (4000, Cont.fact (bk y) [v0, v1, v2, v3] rfl rfl)], fun l w M => ?_, fun l w M => ?_⟩
  ·
   refine aA ?_
   refine bz rfl (by exact List.cons_ne_nil _ _) rfl ?_
   refine bu rfl rfl (by decide) rfl rfl rfl rfl rfl rfl ?_
   refine aD (fJ ?_)
   (refine c9.mk' ?_ ?_ <;> (repeat' (first | exact aH | exact aI | refine aB ?_ (Ty.aW _) | refine aB ?_ (Ty.aF _) | refine aG rfl (Cont.aF _) ?_)))
  refine ak ?_
  refine uT (D := 10) (Tb := 185) (tg := 23) [Ty.ex v0, Ty.ex v1, Ty.ex v2, Ty.ex v3] rfl fun v4 => ?_
  refine uT (D := 10) (Tb := 185) (tg := 31) [Ty.ex v0, Ty.ex v1, Ty.ex v2, Ty.ex v3, Ty.ex v4] rfl fun v5 => ?_
  refine cN mixed rfl ?_
  refine aP rfl rfl (by decide) rfl rfl rfl ?_
  refine aP rfl rfl (by decide) rfl rfl rfl ?_
  refine aP rfl rfl (by decide) rfl rfl rfl ?_
  refine cJ rfl ?_
  refine aK rfl rfl rfl rfl rfl (by decide) ?_
  refine aP rfl rfl (by decide) rfl rfl rfl ?_
  refine bT rfl rfl (by decide) rfl rfl (by exact Nat.le_of_ble_eq_true rfl) ?_
  refine bp (E := dh) (xs := [_]) rfl rfl rfl rfl rfl (by decide) (by decide) (by repeat (first | exact (aY.nil : aY _ _ [] _) | (show aY _ _ ((_, _) :: _) _; apply aY.agg; (· exact (rfl : _ = Ty.agg _))))) (by exact rfl) rfl ?_
  refine og (tg := 23) rfl rfl rfl rfl (by decide) rfl rfl rfl rfl rfl rfl (by decide) (by (simp <;> omega)) (by (simp <;> omega)) rfl rfl ?_
  refine aP rfl rfl (by decide) rfl rfl rfl ?_
  refine cJ rfl ?_
  refine aK rfl rfl rfl rfl rfl (by decide) ?_
  refine aP rfl rfl (by decide) rfl rfl rfl ?_
  refine aK rfl rfl rfl rfl rfl (by decide) ?_
  refine aP rfl rfl (by decide) rfl rfl rfl ?_
  refine bp (E := cj) (xs := [_]) rfl rfl rfl rfl rfl (by decide) (by decide) (by repeat (first | exact (aY.nil : aY _ _ [] _) | (show aY _ _ ((_, _) :: _) _; apply aY.one; (· exact (rfl : _ = Ty.int _ _)); (· exact rfl)))) (by exact rfl) rfl ?_
  refine og (tg := 31) rfl rfl rfl rfl (by decide) rfl rfl rfl rfl rfl rfl (by decide) (by (simp <;> omega)) (by (simp <;> omega)) rfl rfl ?_
  refine cJ rfl ?_
  refine aK rfl rfl rfl rfl rfl (by decide) ?_
  refine cZ rfl rfl (by decide) rfl rfl (by exact (rfl : _ = Ty.row _ _ _ _)) rfl (by exact Nat.le_of_ble_eq_true rfl) rfl rfl (by exact rfl) ?_
  refine cJ rfl ?_
  refine aK rfl rfl rfl rfl rfl (by decide) ?_
  refine cZ rfl rfl (by decide) rfl rfl (by exact (rfl : _ = Ty.row _ _ _ _)) rfl (by exact Nat.le_of_ble_eq_true rfl) rfl rfl (by exact rfl) ?_
  refine aD ?_
  refine ⟨by kernel_rfl, ?_⟩
  refine bQ (AJ ?_)
  (refine c9.mk' ?_ ?_ <;> (repeat' (first | exact aH | exact aI | exact c7 | refine aB ?_ (Ty.aW _) | refine aG rfl (Cont.aF _) ?_ | refine aG rfl (Cont.c6 ?_) ?_ | refine bS ?_ (Ty.aF _) | refine bS ?_ ?_)))
  all_goals first | exact Ty.fS (dS hk1).symm | exact Ty.fS (Cp hk1)
 refine bQ (aC (aE ?_))
 refine Aa (D := 10) (Tb := 185) (vs := [v0, v1, v2, v3]) (tys := bk y) (r := [Ty.row dh 187 23 ((aQ y (nth c8)).take ((aQ y (nth c8)).map jC).length), Ty.row cj 3 31 ((gU (aQ y (nth c8))).take ((aQ y (nth c8)).map jC).length)]) rfl rfl ?_
 refine gL (tg := 10) rfl (Cont.mM (T := 185) (zk (y := y) (fl := aQ y (nth c8)) (f := jC))) ?_
 refine kU (c0 := 10) (tg := 23) 4 rfl rfl ?_
 refine kU (c0 := 10) (tg := 31) 5 rfl rfl ?_
 refine gL (tg := 10) rfl (Cont.eM (l' := rG y 23 31 (aQ y (nth c8)).length (aQ y (nth c8)).length) ⟨Ty.aF _, Ty.aF _, Ty.aF _, Ty.aF _, Ty.sD rfl, Ty.sD (Br _), trivial⟩) ?_
 refine k6 (tg := 10) [] [(6, Cont.cells 152 [Ty.pp (rG y 23 31 (aQ y (nth c8)).length (aQ y (nth c8)).length)])] (by decide) rfl trivial ⟨fP rfl rfl ⟨xY rfl rfl (by decide), trivial⟩, trivial⟩ ?_
 refine aA ?_
 refine aP rfl rfl (by decide) rfl rfl rfl ?_
 refine JV rfl (aD (aC (bC (HU rfl ?_))))
 refine fm [23, 31] rfl rfl (by decide) (by repeat (first | exact fB | refine eD rfl (cB (by decide) rfl) ?_)) ?_
 all_goals skip
 all_goals exact fQ (ew (aJ (aJ (aJ (aJ (aJ (aJ bK (ef (by decide))) (ef (by decide))) (aO rfl rfl)) (aO rfl rfl)) (aO rfl rfl)) (aO rfl rfl)))
end Go.Proofs.YtelbollidfdcjaaGreat
namespace Go.Proofs.YtelbollidfdcjaaGreat
open Go Go.T
section
variable {fl : List bw} {a : List Int} {n k : Nat} {c : Int} {w : Way}
abbrev WQ : Type := List (Int × List Way)
def nY (q : WQ) (c : Int) : List Way := (eZ q c).getD []
def ET (q : WQ) (c : Int) (w : Way) : WQ := gS q c (nY q c ++ [w])
theorem BZ (q : WQ) (c c' : Int) (w : Way) : nY (ET q c w) c' = nY q c' ++ (if c = c' then [w] else []) := by
 unfold ET
 show (eZ (gS _ _ _) c').getD [] = _
 rw [w7]
 by_cases e : c = c'
 ·subst e; rw [if_pos rfl, if_pos rfl]; rfl
 rw [if_neg e, if_neg e, List.append_nil]; rfl
def mQ (fl : List bw) (a : List Int) (q : WQ) (k : Nat) : WQ := if nth a k < (nth fl k).hi then ET q (nth fl k).src ⟨k, true⟩ else q
def eP (fl : List bw) (a : List Int) : Nat → WQ
  | 0 => []
  | k + 1 => if nth a k > (nth fl k).lo then ET (mQ fl a (eP fl a k) k) (nth fl k).dst ⟨k, false⟩ else mQ fl a (eP fl a k) k
theorem Dy (fl : List bw) (a : List Int) : ([] : WQ) = eP fl a 0 := rfl
theorem GF {q : WQ} (h : ¬ nth a k < (nth fl k).hi) : q = mQ fl a q k := (if_neg h).symm
theorem FD (h : ¬ nth a k > (nth fl k).lo) : mQ fl a (eP fl a k) k = eP fl a (k + 1) := (if_neg h).symm
theorem sn {q : WQ} : nY (mQ fl a q k) c = nY q c ++ (if nth a k < (nth fl k).hi ∧ (nth fl k).src = c then [⟨k, true⟩] else []) := by
 unfold mQ
 by_cases h : nth a k < (nth fl k).hi
 ·rw [if_pos h, BZ]
  by_cases e : (nth fl k).src = c
  ·rw [if_pos e, if_pos ⟨h, e⟩]
  rw [if_neg e, if_neg fun h => e h.2]
 rw [if_neg h, if_neg fun h' => h h'.1, List.append_nil]
theorem sJ : ∀ k, nY (eP fl a k) c = (List.range k).flatMap (AW fl a c)
  | 0 => rfl
  | k + 1 => by
    rw [List.range_succ, List.flatMap_append, List.flatMap_singleton, ← sJ k]
    show nY (if _ then _ else _) c = _
    unfold AW
    by_cases h : nth a k > (nth fl k).lo
    · rw [if_pos h, BZ, sn, List.append_assoc]
      congr 2
      by_cases e : (nth fl k).dst = c
      · rw [if_pos e, if_pos ⟨h, e⟩]
      · rw [if_neg e, if_neg fun h => e h.2]
    · rw [if_neg h, sn, if_neg (c := _ ∧ (nth fl k).dst = c) (fun h' => h h'.1), List.append_nil]
theorem q8 : nY (eP fl a fl.length) c = bJ fl a c := sJ _
theorem xy (k : Nat) : (nY (eP fl a k) c).length ≤ 2 * k := by
  rw [sJ]
  have key : ∀ n, ((List.range n).flatMap (AW fl a c)).length ≤ 2 * n := by
    intro n
    induction n with
    | zero => simp
    | succ n ih => rw [List.range_succ, List.flatMap_append, List.length_append, List.flatMap_singleton]; have := Bh (fl := fl) (a := a) (c := c) n; omega
  exact key k
theorem Ej : (nY (mQ fl a (eP fl a k) k) c).length ≤ 2 * k + 1 := by
 rw [sn, List.length_append]
 have := xy (fl := fl) (a := a) (c := c) k
 split <;> simp <;> omega
def ny (fl : List bw) (a : List Int) (k : Nat) (c : Int) : Int := cg (fun i => (ind ((nth fl i).dst = c) - ind ((nth fl i).src = c)) * nth a i) k
def eo (fl : List bw) (a : List Int) (n k : Nat) : List Int := (List.range n).map fun c => ny fl a k (c : Nat)
theorem jg : (eo fl a n k).length = n := by unfold eo; rw [List.length_map, List.length_range]
theorem iU {c : Nat} (h : c < n) : nth (eo fl a n k) c = ny fl a k c := ia _ h
theorem B7 : eo fl a n fl.length = gF fl a n := rfl
theorem zl {l l' : List Int} (h : l.length = l'.length) (h' : ∀ i, i < l.length → nth l i = nth l' i) : l = l' := by
 refine List.ext_getElem h fun i h1 h2 => ?_
 have := h' i h1
 unfold nth at this
 rw [List.getD_eq_getElem?_getD, List.getD_eq_getElem?_getD, List.getElem?_eq_getElem h1, List.getElem?_eq_getElem h2] at this
 exact this
def nR (fl : List bw) (a : List Int) (l : List Int) (k : Nat) : List Int := l.set (nth fl k).src.toNat (nth l (nth fl k).src.toNat - nth a k)
theorem zn (hs : 0 ≤ (nth fl k).src ∧ (nth fl k).src < n) (hd : 0 ≤ (nth fl k).dst ∧ (nth fl k).dst < n) :
 (nR fl a (eo fl a n k) k).set (nth fl k).dst.toNat (nth (nR fl a (eo fl a n k) k) (nth fl k).dst.toNat + nth a k) = eo fl a n (k + 1) := by
 have hS : ∀ c, c < n → nth (nR fl a (eo fl a n k) k) c = ny fl a k c - ind ((nth fl k).src = (c : Int)) * nth a k := fun c hc => by
  unfold nR
  rw [iz (by rw [jg]; exact hc)]
  by_cases e : (nth fl k).src.toNat = c
  ·rw [if_pos e, e, iU hc, dx (by omega), Int.one_mul]
  rw [if_neg e, iU hc, dz (by omega), Int.zero_mul, Int.sub_zero]
 have hl : (nR fl a (eo fl a n k) k).length = n := by unfold nR; rw [List.length_set, jg]
 refine zl (by rw [List.length_set, hl, jg]) fun c hc => ?_
 rw [List.length_set, hl] at hc
 rw [iz (by rw [hl]; exact hc), iU hc]
 show _ = ny fl a k c + (ind ((nth fl k).dst = (c : Int)) - ind ((nth fl k).src = (c : Int))) * nth a k
 rw [Int.sub_mul]
 by_cases e : (nth fl k).dst.toNat = c
 ·rw [if_pos e, e, hS c hc, dx (p := (nth fl k).dst = (c : Int)) (by omega), Int.one_mul]; omega
 rw [if_neg e, hS c hc, dz (p := (nth fl k).dst = (c : Int)) (by omega), Int.zero_mul]; omega
theorem EP (fl : List bw) (a l : List Int) (k : Nat) : (nR fl a l k).length = l.length := List.length_set
theorem E4 (fl : List bw) (a : List Int) (n : Nat) : List.replicate (((n : Nat) : Int)).toNat 0 = eo fl a n 0 := by
 rw [Int.toNat_natCast]
 refine zl (by rw [List.length_replicate, jg]) fun i hi => ?_
 rw [List.length_replicate] at hi
 rw [iU hi, yx _ _ _ hi]; rfl
theorem ES {c : Nat} (h : ∀ c : Int, -(300 * (k : Int)) ≤ ny fl a k c ∧ ny fl a k c ≤ 300 * k) (ha : 0 ≤ nth a k ∧ nth a k ≤ 300) (hc : c < n) (hs : (nth fl k).src.toNat < n) : -(300 * (k : Int) + 300) ≤ nth (nR fl a (eo fl a n k) k) c ∧ nth (nR fl a (eo fl a n k) k) c ≤ 300 * k := by
 unfold nR
 rw [iz (by rw [jg]; exact hc)]
 split
 ·rw [iU hs]; have := h ((nth fl k).src.toNat : Nat); omega
 rw [iU hc]; have := h (c : Nat); omega
theorem yN (ha : ∀ i, i < k → 0 ≤ nth a i ∧ nth a i ≤ 300) : -(300 * (k : Int)) ≤ ny fl a k c ∧ ny fl a k c ≤ 300 * k := by
 refine qu (b := 300) fun i hi => ?_
 have := ha i hi
 unfold ind
 split <;> split <;> simp <;> omega
end
end Go.Proofs.YtelbollidfdcjaaGreat
namespace Go.Proofs.YtelbollidfdcjaaGreat
open Go Go.T
set_option maxHeartbeats 8000000
section
variable {fl : List bw} {a : List Int} {n : Nat} {w : Way}
theorem Iz (h : w.more = true) : (nth fl w.ix).src = w.ga fl := (if_pos h).symm
theorem KH (h : w.more = false) : (nth fl w.ix).dst = w.ga fl := (if_neg (by rw [h]; decide)).symm
theorem Cw (h : w.more = true) : (nth fl w.ix).dst = w.fin fl ∧ (nth fl w.ix).hi - nth a w.ix = w.room fl a := ⟨(if_pos h).symm, (if_pos h).symm⟩
theorem FL (h : w.more = false) : (nth fl w.ix).src = w.fin fl ∧ nth a w.ix - (nth fl w.ix).lo = w.room fl a := ⟨(if_neg (by rw [h]; decide)).symm, (if_neg (by rw [h]; decide)).symm⟩
structure kg (y : bB) (fl : List bw) (a : List Int) : Prop where
  right : y.cm
  net : Net fl (y.cells + 1)
  bd : Bd fl
  inb : wh fl a
  nk : fl.length ≤ 34
theorem kg.K6 {y : bB} (h : kg y fl a) {i : Nat} (hi : i < fl.length) : (0 ≤ nth a i ∧ nth a i ≤ 300) ∧ (0 ≤ (nth fl i).lo ∧ (nth fl i).lo ≤ 300) ∧ 0 ≤ (nth fl i).hi ∧ (nth fl i).hi ≤ 300 := by
 have h1 := h.bd i hi
 have h2 := h.inb.2 i hi
 omega
theorem MQ {l : List Way} {k : Nat} {d : Int} (hk : k < l.length) (hm : (nth l k).more = true) : (eC a (l.take k) d).set (nth l k).ix (nth (eC a (l.take k) d) (nth l k).ix + d) = eC a (l.take (k + 1)) d := by
 rw [dS hk, qM]; unfold kJ wV; rw [hm]; rfl
theorem L7 {l : List Way} {k : Nat} {d : Int} (hk : k < l.length) (hm : (nth l k).more = false) : (eC a (l.take k) d).set (nth l k).ix (nth (eC a (l.take k) d) (nth l k).ix - d) = eC a (l.take (k + 1)) d := by
 rw [dS hk, qM]; unfold kJ wV; rw [hm]; rfl
theorem xQ {l : List Way} {d : Int} (hd : 0 ≤ d ∧ d ≤ 20000) (ha : ∀ i, -300 ≤ nth a i ∧ nth a i ≤ 300) (hw : ∀ w ∈ l, w.ix < a.length) : ∀ k, k ≤ l.length → ∀ i, -(20000 * ((k : Int) + 1)) ≤ nth (eC a (l.take k) d) i ∧ nth (eC a (l.take k) d) i ≤ 20000 * ((k : Int) + 1)
  | 0, _, i => by rw [List.take_zero]; have := ha i; show _ ≤ nth a i ∧ nth a i ≤ _; omega
  | k + 1, hk, i => by
    have ih := xQ hd ha hw k (by omega) i
    rw [dS (by omega), qM, jh (by rw [tA]; exact hw _ (cM (by omega)))]
    split
    · unfold wV; split <;> omega
    · omega
theorem CM (a : List Int) (l : List Way) (d : Int) : a = eC a (l.take 0) d := rfl
theorem IB {l : List Int} {i : Nat} (h : l.length ≤ i) : nth l i = 0 := by
 unfold nth; rw [List.getD_eq_getElem?_getD, List.getElem?_eq_none h]; rfl
theorem kg.abs {y : bB} (h : kg y fl a) (i : Nat) : -300 ≤ nth a i ∧ nth a i ≤ 300 := by
 by_cases c : i < fl.length
 ·have := (h.K6 c).1; omega
 rw [IB (by rw [h.inb.1]; omega)]; omega
end
theorem mq : mapOf Tryz.prog 227 = some (3, 222) := by kernel_rfl
theorem uZ : zeroOf Tryz.prog 222 = some (.slice none 0 0) := by kernel_rfl
def KI : wo Tryz.prog 3 Int := KG Tryz.prog 3 .i64 Tryz.underlying3
theorem tw (n : Int) : tT (Ty.int .i64 n) (KI.enc n) := IS
attribute [local irreducible] aQ gU Way.ga Way.fin Way.room eP mQ ET eC eo ny
attribute [local irreducible] iw fu nh ru jS jR jO jN jQ rZ jL rj eO gy rY g9 rX nth fT dg aq eA bodyPost Exit.then Exit.inBlock Code.wp Code.wpIn rm jU rq rW jP eT ct cx bodyPostM eU
set_option maxRecDepth 100000 in
theorem zC (y : bB) (fl : List bw) (a : List Int) (w : Way) (hw : w.ix < fl.length) : eA Tryz.prog 181 [Ty.pp (lQ y fl a), Ty.agg (fY.tys w)] (Ty.int .i64 (w.ga fl)) := by
 refine az Tryz.func181 rfl (by decide) Tryz.ntmps181 (by exact Nat.le_of_ble_eq_true rfl) fun w0 M0 => ?_
 refine aE (aA (bM rfl (cF rfl (aD (aC (aE (aE (aA ?_))))))))
 refine aS rfl rfl rfl rfl rfl (by decide) ?_
 refine aM rfl rfl rfl rfl (aD (aC ?_))
 refine cW rfl (fun hc1 => ?_) (fun hc1 => ?_)
 ·
  refine aE (cN mixed rfl (jK rfl (bt rfl ?_)))
  refine aS rfl rfl rfl rfl rfl (by decide) ?_
  refine aM rfl rfl rfl rfl ?_
  refine aS rfl rfl rfl rfl rfl (by decide) ?_
  refine aM rfl rfl rfl rfl ?_
  refine bN rfl rfl rfl rfl rfl rfl (by omega) ?_
  refine aS rfl rfl rfl rfl rfl (by decide) ?_
  refine aM rfl rfl rfl rfl (cF rfl (aD ?_))
  refine ⟨by kernel_rfl, ?_⟩
  refine aC (bC (aX (bl rfl rfl ?_)))
  all_goals skip
  all_goals exact bE rfl rfl (congrArg (Ty.int .i64) (Iz hc1))
 refine aj (aC (aE (cN mixed rfl (jK rfl (bt rfl ?_)))))
 refine aS rfl rfl rfl rfl rfl (by decide) ?_
 refine aM rfl rfl rfl rfl ?_
 refine aS rfl rfl rfl rfl rfl (by decide) ?_
 refine aM rfl rfl rfl rfl ?_
 refine bN rfl rfl rfl rfl rfl rfl (by omega) ?_
 refine aS rfl rfl rfl rfl rfl (by decide) ?_
 refine aM rfl rfl rfl rfl (cF rfl (aD ?_))
 refine ⟨by kernel_rfl, ?_⟩
 refine aC (bC (bl rfl rfl ?_))
 all_goals skip
 all_goals exact bE rfl rfl (congrArg (Ty.int .i64) (KH hc1))
set_option maxRecDepth 100000 in
theorem DG (y : bB) (fl : List bw) (a : List Int) (h : kg y fl a) (w : Way) (hw : w.ix < fl.length) : eA Tryz.prog 182 [Ty.pp (lQ y fl a), Ty.agg (fY.tys w)] (Ty.j3 [Ty.int .i64 (w.fin fl), Ty.int .i64 (w.room fl a)]) := by
 refine az Tryz.func182 rfl (by decide) Tryz.ntmps182 (by exact Nat.le_of_ble_eq_true rfl) fun w0 M0 => ?_
 have hl := h.inb.1
 have hb := h.K6 hw
 refine aE (aA (bM rfl (cF rfl (cF rfl (aD (aC (aE (cN mixed rfl (jK rfl ?_)))))))))
 refine bt rfl ?_
 refine aS rfl rfl rfl rfl rfl (by decide) ?_
 refine aM rfl rfl rfl rfl ?_
 refine aS rfl rfl rfl rfl rfl (by decide) ?_
 refine aM rfl rfl rfl rfl ?_
 refine bN rfl rfl rfl rfl rfl rfl (by omega) ?_
 refine aa rfl rfl rfl (by exact Nat.le_of_ble_eq_true rfl) ?_
 refine bz rfl (by exact List.cons_ne_nil _ _) rfl ?_
 refine bu rfl rfl (by decide) rfl rfl rfl rfl rfl rfl ?_
 refine aD ?_
 refine ⟨by kernel_rfl, ?_⟩
 refine aC (aE (aE (aA ?_)))
 refine aS rfl rfl rfl rfl rfl (by decide) ?_
 refine aM rfl rfl rfl rfl (aD (aC ?_))
 refine cW rfl (fun hc1 => ?_) (fun hc1 => ?_)
 ·
  refine aE (cN mixed rfl ?_)
  refine aK rfl rfl rfl rfl rfl (by decide) ?_
  refine aP rfl rfl (by decide) rfl rfl rfl ?_
  refine aK rfl rfl rfl rfl rfl (by decide) ?_
  refine aP rfl rfl (by decide) rfl rfl rfl ?_
  refine jK rfl (bt rfl ?_)
  refine aS rfl rfl rfl rfl rfl (by decide) ?_
  refine aM rfl rfl rfl rfl ?_
  refine aS rfl rfl rfl rfl rfl (by decide) ?_
  refine aM rfl rfl rfl rfl ?_
  refine bN rfl rfl rfl rfl rfl rfl (by omega) ?_
  refine aM rfl rfl rfl rfl ?_
  refine fU rfl rfl (by omega) (by omega) ?_
  refine cF rfl (cF rfl (aD ?_))
  refine ⟨by kernel_rfl, ?_⟩
  refine aC (bC (aX ?_))
  refine fV rfl rfl rfl ?_ ?_
  all_goals skip
  all_goals first | exact bE rfl rfl (congrArg (Ty.int .i64) (Cw (a := a) hc1).1) | exact bE rfl rfl (congrArg (Ty.int .i64) (Cw (a := a) hc1).2)
 refine aj (aC (aE (cN mixed rfl ?_)))
 refine aK rfl rfl rfl rfl rfl (by decide) ?_
 refine aP rfl rfl (by decide) rfl rfl rfl ?_
 refine jK rfl (bt rfl ?_)
 refine aS rfl rfl rfl rfl rfl (by decide) ?_
 refine aM rfl rfl rfl rfl ?_
 refine aS rfl rfl rfl rfl rfl (by decide) ?_
 refine aM rfl rfl rfl rfl ?_
 refine bN rfl rfl rfl rfl rfl rfl (by omega) ?_
 refine aM rfl rfl rfl rfl ?_
 refine aK rfl rfl rfl rfl rfl (by decide) ?_
 refine aP rfl rfl (by decide) rfl rfl rfl ?_
 refine fU rfl rfl (by omega) (by omega) ?_
 refine cF rfl (cF rfl (aD ?_))
 refine ⟨by kernel_rfl, ?_⟩
 refine aC (bC ?_)
 refine fV rfl rfl rfl ?_ ?_
 all_goals skip
 all_goals first | exact bE rfl rfl (congrArg (Ty.int .i64) (FL (a := a) hc1).1) | exact bE rfl rfl (congrArg (Ty.int .i64) (FL (a := a) hc1).2)
set_option maxRecDepth 100000 in
theorem Ff (y : bB) (fl : List bw) (a : List Int) (h : kg y fl a) (l : List Way) (hl : l.length ≤ 100) (hw : ∀ w ∈ l, w.ix < fl.length) (d : Int) (hd : 0 ≤ d ∧ d ≤ 20000) : eT Tryz.prog 183 [1000] [(1000, Cont.vec cj 3 a)] [Ty.pp (eF y fl 1000 fl.length), Ty.sl fY l, Ty.int .i64 d] [(1000, Cont.vec cj 3 (eC a l d))] (Ty.j3 []) := by
 refine dj Tryz.func183 rfl (by decide) Tryz.ntmps183 (by exact Nat.le_of_ble_eq_true rfl) fun w0 M0 => ?_
 have hal := h.inb.1
 refine aE (aA (gC rfl (cz rfl rfl rfl (bO rfl (aD (aC (ak ?_)))))))
 refine cV (fun (k : {k : Nat // k ≤ l.length}) => live [(0, Ty.pp (eF y fl 1000 fl.length)), (2, Ty.int .i64 d), (8, Ty.sl fY l), (9, Ty.int .i64 l.length), (10, Ty.int .i64 (k.1 : Nat))] [(1000, Cont.vec cj 3 (eC a (l.take k.1) d))]) (fun k => l.length - k.1) (⟨0, by omega⟩) ?_ fun k => ?_
 ·(refine c9.mk' ?_ ?_ <;> (repeat' (first | exact aH | exact aI | refine aB ?_ (Ty.aW _) | refine aB ?_ (Ty.aF _) | refine aG rfl ?_ ?_)))
  all_goals exact Cont.dR (CM _ _ _)
 have hsl := tA d (l.take k.1) a
 have hk := k.2
 have hsa := xQ hd h.abs (fun w hw' => by rw [hal]; exact hw w hw') k.1 k.2
 refine aE (aA (bD rfl rfl rfl (aD (aC (aE ?_)))))
 refine av rfl (fun hc1 => ?_) (fun hc1 => ?_)
 ·
  refine aj (aC (aE (ak (aE ?_))))
  have hwk := hw _ (cM (xs := l) (k := k.1) (by omega))
  have hsk := hsa (nth l k.1).ix
  refine aA ?_
  refine bN rfl rfl rfl rfl rfl rfl (by omega) ?_
  refine aa rfl rfl rfl (by exact Nat.le_of_ble_eq_true rfl) ?_
  refine bz rfl (by exact List.cons_ne_nil _ _) rfl ?_
  refine bu rfl rfl (by decide) rfl rfl rfl rfl rfl rfl ?_
  refine aD (aC (aE (aA ?_)))
  refine aK rfl rfl rfl rfl rfl (by decide) ?_
  refine aP rfl rfl (by decide) rfl rfl rfl ?_
  refine aD (aC ?_)
  refine cW rfl (fun hc2 => ?_) (fun hc2 => ?_)
  ·
   refine cN mixed rfl (jK rfl (bt rfl ?_))
   refine aS rfl rfl rfl rfl rfl (by decide) ?_
   refine aM rfl rfl rfl rfl ?_
   refine aK rfl rfl rfl rfl rfl (by decide) ?_
   refine aP rfl rfl (by decide) rfl rfl rfl ?_
   refine dF rfl rfl rfl rfl rfl (by omega) ?_
   refine dY rfl rfl rfl (by decide) rfl rfl (by omega) rfl ?_
   refine bO rfl ?_
   refine bg rfl rfl (by omega) (by omega) ?_
   refine dF rfl rfl rfl rfl rfl (by omega) ?_
   refine gT rfl rfl rfl (by decide) rfl rfl (by exact (rfl : _ = Ty.int _ _)) rfl (by omega) (by decide) rfl rfl ?_
   refine aD ?_
   refine ⟨by kernel_rfl, ?_⟩
   refine bQ (aC (aA ?_))
   refine bg rfl rfl (by omega) (by omega) ?_
   refine bO rfl (aD ?_)
   refine bV (⟨k.1 + 1, by omega⟩) ?_ (by show l.length - (k.1 + 1) < l.length - k.1; omega)
   (refine c9.mk' ?_ ?_ <;> (repeat' (first | exact aH | exact aI | refine aB ?_ (Ty.aW _) | refine aB ?_ (Ty.aF _) | refine aG rfl ?_ ?_)))
   all_goals skip
   all_goals exact Cont.dR (MQ (by omega) hc2)
  refine cN mixed rfl (jK rfl (bt rfl ?_))
  refine aS rfl rfl rfl rfl rfl (by decide) ?_
  refine aM rfl rfl rfl rfl ?_
  refine aK rfl rfl rfl rfl rfl (by decide) ?_
  refine aP rfl rfl (by decide) rfl rfl rfl ?_
  refine dF rfl rfl rfl rfl rfl (by omega) ?_
  refine dY rfl rfl rfl (by decide) rfl rfl (by omega) rfl ?_
  refine bO rfl ?_
  refine fU rfl rfl (by omega) (by omega) ?_
  refine dF rfl rfl rfl rfl rfl (by omega) ?_
  refine gT rfl rfl rfl (by decide) rfl rfl (by exact (rfl : _ = Ty.int _ _)) rfl (by omega) (by decide) rfl rfl ?_
  refine aD ?_
  refine ⟨by kernel_rfl, ?_⟩
  refine bQ (aC (aA ?_))
  refine bg rfl rfl (by omega) (by omega) ?_
  refine bO rfl (aD ?_)
  refine bV (⟨k.1 + 1, by omega⟩) ?_ (by show l.length - (k.1 + 1) < l.length - k.1; omega)
  (refine c9.mk' ?_ ?_ <;> (repeat' (first | exact aH | exact aI | refine aB ?_ (Ty.aW _) | refine aB ?_ (Ty.aF _) | refine aG rfl ?_ ?_)))
  all_goals skip
  all_goals exact Cont.dR (L7 (by omega) hc2)
 refine cQ (aR (aR (au rfl (MG ?_))))
 refine Kx [1000] rfl (by decide) ?_
 ·exact eD rfl (cB (by decide) (by rw [List.take_of_length_le (by have := k.2; omega)])) fB
set_option maxRecDepth 100000 in
theorem Kq (y : bB) (fl : List bw) (a : List Int) (h : kg y fl a) : eT Tryz.prog 178 [1000] [(1000, Cont.vec cj 3 a)] [Ty.pp (eF y fl 1000 fl.length)] [(1000, Cont.vec cj 3 a)] (Ty.sl cj (gF fl a (y.cells + 1))) := by
 refine dj Tryz.func178 rfl (by decide) Tryz.ntmps178 (by exact Nat.le_of_ble_eq_true rfl) fun w0 M0 => ?_
 have hal := h.inb.1
 have hcl := mU h.right
 have hfl := h.nk
 refine aE (aA (mI rfl (aD (aC (aE (aA (jK rfl ?_)))))))
 refine dV [] (qc y h.right) rfl (aL (mX (l1 := bk y) (l2 := [Ty.sl dh fl, Ty.vs 1000 fl.length]) rfl rfl) bX) (by exact dG _ _) ?_
 refine bg rfl rfl (by omega) (by omega) ?_
 refine oa (E := cj) (x0 := 0) rfl rfl rfl rfl rfl rfl rfl (by decide) rfl (by omega) (by (dsimp only; omega)) (by omega) ?_
 refine Ll rfl (aD (aC (aE (aE (aA (jK rfl (bt rfl ?_)))))))
 refine aS rfl rfl rfl rfl rfl (by decide) ?_
 refine aM rfl rfl rfl rfl (cz rfl rfl rfl (bO rfl (aD (aC (ak ?_)))))
 refine cV (fun (k : {k : Nat // k ≤ fl.length}) => live [(0, Ty.pp (eF y fl 1000 fl.length)), (3, Ty.vs 10 (y.cells + 1)), (13, Ty.sl dh fl), (14, Ty.int .i64 fl.length), (15, Ty.int .i64 (k.1 : Nat))] [(1000, Cont.vec cj 3 a), (10, Cont.vec cj 3 (eo fl a (y.cells + 1) k.1))]) (fun k => fl.length - k.1) (⟨0, by omega⟩) ?_ fun k => ?_
 ·(refine c9.mk' ?_ ?_ <;> (repeat' (first | exact aH | exact aI | refine aB ?_ (Ty.aW _) | refine aB ?_ (Ty.aF _) | refine aG rfl (Cont.aF _) ?_ | refine aG rfl ?_ ?_)))
  all_goals exact Cont.dR (E4 _ _ _)
 have hk := k.2
 have hul := jg (fl := fl) (a := a) (n := y.cells + 1) (k := k.1)
 refine aE (aA (bD rfl rfl rfl (aD (aC (aE ?_)))))
 refine av rfl (fun hc1 => ?_) (fun hc1 => ?_)
 ·
  refine aj (aC (aE (ak (aE (aA (bO rfl ?_))))))
  refine bN rfl rfl rfl rfl rfl rfl (by omega) ?_
  refine aa rfl rfl rfl (by exact Nat.le_of_ble_eq_true rfl) ?_
  refine bz rfl (by exact List.cons_ne_nil _ _) rfl ?_
  refine cF rfl ?_
  refine bu rfl rfl (by decide) rfl rfl rfl rfl rfl rfl ?_
  refine aD (aC (aE ?_))
  have hs := h.net.src k.1 (by omega)
  have hd := h.net.dst k.1 (by omega)
  have hamt := (h.K6 (show k.1 < fl.length by omega)).1
  have habs := fun c => yN (fl := fl) (a := a) (c := c) (k := k.1) fun i hi => (h.K6 (show i < fl.length by omega)).1
  have hn1 := iU (fl := fl) (a := a) (n := y.cells + 1) (k := k.1) (c := (nth fl k.1).src.toNat) (by omega)
  have hb1 := habs ((nth fl k.1).src.toNat : Nat)
  refine cN mixed rfl (Bj rfl ?_)
  refine aK rfl rfl rfl rfl rfl (by decide) ?_
  refine aP rfl rfl (by decide) rfl rfl rfl ?_
  refine gP rfl rfl rfl rfl rfl hs.1 (by omega) ?_
  refine dY rfl rfl rfl (by decide) rfl rfl (by omega) rfl ?_
  refine jK rfl (bt rfl ?_)
  refine aS rfl rfl rfl rfl rfl (by decide) ?_
  refine aM rfl rfl rfl rfl (bO rfl ?_)
  refine dF rfl rfl rfl rfl rfl (by omega) ?_
  refine dY rfl rfl rfl (by decide) rfl rfl (by omega) rfl ?_
  refine fU rfl rfl (by omega) (by omega) ?_
  refine gP rfl rfl rfl rfl rfl hs.1 (by omega) ?_
  refine gT rfl rfl rfl (by decide) rfl rfl (by exact (rfl : _ = Ty.int _ _)) rfl (by omega) (by decide) rfl rfl ?_
  refine aD ?_
  refine ⟨by kernel_rfl, ?_⟩
  refine aC ?_
  have hsl : (nR fl a (eo fl a (y.cells + 1) k.1) k.1).length = y.cells + 1 := (EP _ _ _ _).trans hul
  have hb2 := ES (fl := fl) (a := a) (n := y.cells + 1) (k := k.1) (c := (nth fl k.1).dst.toNat) habs hamt (by omega) (by omega)
  unfold nR at hb2 hsl
  refine cN mixed rfl (Bj rfl ?_)
  refine aK rfl rfl rfl rfl rfl (by decide) ?_
  refine aP rfl rfl (by decide) rfl rfl rfl ?_
  refine gP rfl rfl rfl rfl rfl hd.1 (by omega) ?_
  refine dY rfl rfl rfl (by decide) rfl rfl (by omega) rfl ?_
  refine jK rfl (bt rfl ?_)
  refine aS rfl rfl rfl rfl rfl (by decide) ?_
  refine aM rfl rfl rfl rfl (bO rfl ?_)
  refine dF rfl rfl rfl rfl rfl (by omega) ?_
  refine dY rfl rfl rfl (by decide) rfl rfl (by omega) rfl ?_
  refine bg rfl rfl (by omega) (by omega) ?_
  refine gP rfl rfl rfl rfl rfl hd.1 (by omega) ?_
  refine gT rfl rfl rfl (by decide) rfl rfl (by exact (rfl : _ = Ty.int _ _)) rfl (by omega) (by decide) rfl rfl ?_
  refine aD ?_
  refine ⟨by kernel_rfl, ?_⟩
  refine bQ (aC (aA ?_))
  refine bg rfl rfl (by omega) (by omega) ?_
  refine bO rfl (aD ?_)
  refine bV (⟨k.1 + 1, by omega⟩) ?_ (by show fl.length - (k.1 + 1) < fl.length - k.1; omega)
  (refine c9.mk' ?_ ?_ <;> (repeat' (first | exact aH | exact aI | refine aB ?_ (Ty.aW _) | refine aB ?_ (Ty.aF _) | refine aG rfl (Cont.aF _) ?_ | refine aG rfl ?_ ?_)))
  all_goals skip
  all_goals exact Cont.dR (zn hs hd)
 refine cQ (aR (aR (au rfl (aC (aE ?_)))))
 refine kK (tg := 10) [(3, Ty.sl cj (eo fl a (y.cells + 1) k.1))] (by decide) rfl ⟨K3 rfl rfl hul (by decide), trivial⟩ ?_
 refine gl (s := 3) rfl (Ty.fG (show eo fl a (y.cells + 1) k.1 = gF fl a (y.cells + 1) by rw [show k.1 = fl.length by have := k.2; omega]; exact B7)) ?_
 refine aA (gC rfl (Bk rfl (aD (aC (bC ?_)))))
 refine fm [1000] rfl rfl (by decide) (by repeat (first | exact fB | refine eD rfl (cB (by decide) rfl) ?_)) ?_
 all_goals exact fQ (aO rfl rfl)
end Go.Proofs.YtelbollidfdcjaaGreat
namespace Go.Proofs.YtelbollidfdcjaaGreat
open Go Go.T
section
variable {fl : List bw} {a : List Int} {n : Nat} {s t : Int} {x : qD}
def eB (x : qD) : Int := nth x.queue 0
def jX (x : qD) : qD := ⟨x.by_, x.queue.drop 1⟩
theorem queue_eq (h : 0 < x.queue.length) : x.queue = eB x :: x.queue.drop 1 := by
  unfold eB
  cases hq : x.queue with
  | nil => rw [hq] at h; exact absurd h (by simp)
  | cons c r => rfl
structure JS (fl : List bw) (a : List Int) (n : Nat) (s : Int) (x : qD) : Prop where
  inv : lF fl a n s x none
  same : mW (uw fl a s) x = cK fl a s
  short : x.queue.length ≤ x.by_.length + 1
theorem Mb (hs : 0 ≤ s ∧ s < n) : JS fl a n s ⟨[], [s]⟩ := ⟨Jh hs, rfl, Nat.le_refl _⟩
theorem Gb (h : 0 < x.queue.length) : uw fl a s x = .inl (e9 fl a s (eB x) (jX x) (bJ fl a (eB x)).length) := by
 have e := queue_eq h
 unfold uw
 rw [e]; rfl
theorem JS.fold (hN : Net fl n) (h : JS fl a n s x) (hq : 0 < x.queue.length) {k : Nat} (hk : k ≤ (bJ fl a (eB x)).length) :
 (e9 fl a s (eB x) (jX x) k).queue.length ≤ n ∧ (e9 fl a s (eB x) (jX x) k).by_.length ≤ n ∧ (e9 fl a s (eB x) (jX x) k).queue.length ≤ (e9 fl a s (eB x) (jX x) k).by_.length := by
 have h1 := (h.inv.pop (queue_eq hq)).fold hN k hk
 have h2 := h1.nk
 have h3 := vO (fl := fl) (a := a) (s := s) (c := eB x) (x := jX x) k hk
 have h4 := h.short
 have e1 : (jX x).queue.length + 1 = x.queue.length := by show (x.queue.drop 1).length + 1 = _; rw [List.length_drop]; omega
 have e2 : (jX x).by_ = x.by_ := rfl
 rw [e2] at h3
 change (e9 fl a s (eB x) (jX x) k).by_.length ≤ n at h2
 omega
theorem JS.next (hN : Net fl n) (h : JS fl a n s x) (hq : 0 < x.queue.length) : JS fl a n s (e9 fl a s (eB x) (jX x) (bJ fl a (eB x)).length) ∧ LC n (e9 fl a s (eB x) (jX x) (bJ fl a (eB x)).length) < LC n x := by
 obtain ⟨h1, h2⟩ := vl hN h.inv (queue_eq hq)
 exact ⟨⟨h1, by rw [← gj (Gb hq)]; exact h.same, by have := (h.fold hN hq (Nat.le_refl _)).2.2; omega⟩, h2⟩
theorem JS.end (h : JS fl a n s x) (hq : ¬ 0 < x.queue.length) : x.by_ = cK fl a s := by
 rw [← h.same]
 refine (iE ?_).symm
 unfold uw
 rw [List.length_eq_zero_iff.1 (show x.queue.length = 0 by omega)]
theorem xP {c : Int} {z : qD} {k : Nat} (hk : k < (bJ fl a c).length) (h : uD fl s (e9 fl a s c z k).by_ (nth (bJ fl a c) k) = true) :
 gS (e9 fl a s c z k).by_ ((nth (bJ fl a c) k).fin fl) (nth (bJ fl a c) k) = (e9 fl a s c z (k + 1)).by_ ∧ (e9 fl a s c z k).queue ++ [(nth (bJ fl a c) k).fin fl] = (e9 fl a s c z (k + 1)).queue := by
 rw [m9 hk, sR h]; exact ⟨rfl, rfl⟩
theorem BS {c : Int} {z : qD} {k : Nat} (hk : k < (bJ fl a c).length) (h : uD fl s (e9 fl a s c z k).by_ (nth (bJ fl a c) k) = false) :
 (e9 fl a s c z k).by_ = (e9 fl a s c z (k + 1)).by_ ∧ (e9 fl a s c z k).queue = (e9 fl a s c z (k + 1)).queue := by
 rw [m9 hk, vh h]; exact ⟨rfl, rfl⟩
theorem vg {c : Int} {z : qD} : e9 fl a s c z 0 = z := rfl
structure GI (fl : List bw) (n : Nat) (a0 a : List Int) : Prop where
  inb : wh fl a
  same : mW (C3 fl n) a = gB fl n a0
theorem GI.done {a0 : List Int} (h : GI fl n a0 a) (e : dW fl a n < 0) : gB fl n a0 = (0, false, a) := by
 rw [← h.same]; exact iE (if_pos e)
theorem GI.stuck {a0 : List Int} (h : GI fl n a0 a) (e : ¬ dW fl a n < 0) (e2 : eR fl a n (cK fl a (dW fl a n)) < 0) : gB fl n a0 = (dW fl a n, true, a) := by
 rw [← h.same]; exact iE ((if_neg e).trans (if_pos e2))
theorem GI.next {a0 : List Int} (hN : Net fl n) (h : GI fl n a0 a) (e : ¬ dW fl a n < 0) (e2 : ¬ eR fl a n (cK fl a (dW fl a n)) < 0) :
 GI fl n a0 (jy fl a (dW fl a n) (eR fl a n (cK fl a (dW fl a n)))) ∧ LY fl a n (dW fl a n) (eR fl a n (cK fl a (dW fl a n))) := by
 obtain ⟨s, s1, s2, s3⟩ := vV e
 obtain ⟨t, t1, t2, t3, t4⟩ := sI e2
 rw [s2] at t2 t3 ⊢
 rw [t2]
 have hS := sent hN h.inb s1 t1 s3 t3 t4
 refine ⟨⟨hS.inb, ?_⟩, hS⟩
 rw [← h.same]
 refine (gj ?_).symm
 unfold C3
 rw [if_neg e, s2, if_neg (by rw [t2]; omega), t2]
structure IT (fl : List bw) (a : List Int) (q : List (Int × Way)) (s t : Int) (dep : Int → Nat) (x : Int × List Way) : Prop where
  inv : Gj fl a q s t dep x
  same : mW (DD fl q s) x = gb fl q s t
theorem MX {dep : Int → Nat} {q : List (Int × Way)} (ht : wX q s t) : IT fl a q s t dep (t, []) :=
 ⟨⟨rfl, (fun w h => by cases h), (fun w h => by cases h), List.nodup_nil, ht, by simp⟩, rfl⟩
theorem CA {q : List (Int × Way)} {x : Int × List Way} (hx : x.1 = s) : DD fl q s x = .inr x.2 := if_pos hx
theorem Bx {q : List (Int × Way)} {x : Int × List Way} (hx : ¬ x.1 = s) : DD fl q s x = .inl ((jW q x.1).ga fl, x.2 ++ [jW q x.1]) := if_neg hx
theorem IT.next {dep : Int → Nat} {q : List (Int × Way)} (hd : ∀ c w, eZ q c = some w → Open fl a w ∧ w.fin fl = c ∧ wX q s (w.ga fl) ∧ dep (w.ga fl) < dep c ∧ dep c ≤ q.length) {x : Int × List Way} (h : IT fl a q s t dep x) (hx : ¬ x.1 = s) :
 IT fl a q s t dep ((jW q x.1).ga fl, x.2 ++ [jW q x.1]) ∧ dep ((jW q x.1).ga fl) < dep x.1 ∧ Open fl a (jW q x.1) := by
 obtain ⟨h1, h2⟩ := h.inv.next hd hx
 refine ⟨⟨h1, ?_⟩, h2, h1.ways _ (List.mem_append.2 (.inr (List.mem_singleton.2 rfl)))⟩
 rw [← h.same]
 exact (gj (Bx hx)).symm
theorem IT.end {dep : Int → Nat} {q : List (Int × Way)} {x : Int × List Way} (h : IT fl a q s t dep x) (hx : x.1 = s) : x.2 = gb fl q s t := by
 rw [← h.same]; exact (iE (CA hx)).symm
theorem IT.nk {dep : Int → Nat} {q : List (Int × Way)} {x : Int × List Way} (h : IT fl a q s t dep x) : x.2.length ≤ dep t := by
 have := h.inv.nk; omega
end
end Go.Proofs.YtelbollidfdcjaaGreat
namespace Go.Proofs.YtelbollidfdcjaaGreat
open Go Go.T
set_option maxHeartbeats 8000000
def y4 : VT Way := ⟨fun w => Ty.agg (fY.tys w), fun _ => ⟨rfl, rfl⟩⟩
theorem mm : mapOf Tryz.prog 196 = some (3, 199) := by kernel_rfl
theorem qo : zeroOf Tryz.prog 199 = some (.agg #[.int .i64 0, .bool false]) := by kernel_rfl
theorem oR : ∀ w M, (y4.ty (default : Way)).den w M (.agg #[.int .i64 0, .bool false]) := fun _ _ => ⟨_, rfl, rfl, rfl, trivial⟩
theorem Aj : ∀ w M, ((Gm fY).ty []).den w M (.slice none 0 0) := fun w M => Ty.sv w M _ rfl
section
variable {fl : List bw} {a : List Int} {s : Int} {q : List (Int × Way)} {w : Way}
theorem EN {q : WQ} {k : Nat} (h : nth a k < (nth fl k).hi) : gS q (nth fl k).src ((eZ q (nth fl k).src).getD [] ++ [⟨k, true⟩]) = mQ fl a q k := (if_pos h).symm
theorem E6 {k : Nat} (h : nth a k > (nth fl k).lo) : gS (mQ fl a (eP fl a k) k) (nth fl k).dst ((eZ (mQ fl a (eP fl a k) k) (nth fl k).dst).getD [] ++ [⟨k, false⟩]) = eP fl a (k + 1) := (if_pos h).symm
theorem new_eq : (!(eZ q (w.fin fl)).isSome && !decide (w.fin fl = s)) = uD fl s q w := rfl
end
theorem IV {α : Type} {E : El α} {T J : Nat} {l l' : List α} (e : l = l') : (Ty.iA E T J l).Sub (Ty.iA E T J l') := Ty.sub_eq (congrArg (Ty.iA E T J) e)
attribute [local irreducible] aQ gU Way.ga Way.fin Way.room eP mQ ET eC eo ny bJ e9 cK uD eB
attribute [local irreducible] iw fu nh ru jS jR jO jN jQ rZ jL rj eO gy rY g9 rX nth fT dg aq eA bodyPost Exit.then Exit.inBlock Code.wp Code.wpIn rm jU rq rW jP eT ct cx bodyPostM eU
set_option maxRecDepth 100000 in
theorem FY (y : bB) (fl : List bw) (a : List Int) (h : kg y fl a) : eT Tryz.prog 184 [1000] [(1000, Cont.vec cj 3 a)] [Ty.pp (eF y fl 1000 fl.length)] [(1000, Cont.vec cj 3 a)] (Ty.pm KI.enc (Gm fY) (eP fl a fl.length)) := by
 refine dj Tryz.func184 rfl (by decide) Tryz.ntmps184 (by exact Nat.le_of_ble_eq_true rfl) fun w0 M0 => ?_
 have hal := h.inb.1
 have hfl := h.nk
 refine aE (aA (mI rfl (aD (aC (aE (aA (CR KI.enc fY 199 6000 mq rfl (MU rfl (aD ?_)))))))))
 refine aC (aE (aE (aA (jK rfl (bt rfl ?_)))))
 refine aS rfl rfl rfl rfl rfl (by decide) ?_
 refine aM rfl rfl rfl rfl (cz rfl rfl rfl (bO rfl (aD (aC (ak ?_)))))
 refine cV (fun (k : {k : Nat // k ≤ fl.length}) => live [(0, Ty.pp (eF y fl 1000 fl.length)), (3, Ty.mp 7), (10, Ty.sl dh fl), (11, Ty.int .i64 fl.length), (12, Ty.int .i64 (k.1 : Nat))] [(1000, Cont.vec cj 3 a), (7, Cont.mr KI.enc fY 199 6000 (eP fl a k.1))]) (fun k => fl.length - k.1) (⟨0, by omega⟩) ?_ fun k => ?_
 ·(refine c9.mk' ?_ ?_ <;> (repeat' (first | exact aH | exact aI | refine aB ?_ (Ty.aW _) | refine aB ?_ (Ty.aF _) | refine aG rfl (Cont.aF _) ?_ | refine aG rfl ?_ ?_)))
  all_goals exact Cont.rz (Dy fl a)
 have hk := k.2
 refine aE (aA (bD rfl rfl rfl (aD (aC (aE ?_)))))
 refine av rfl (fun hc1 => ?_) (fun hc1 => ?_)
 ·
  refine aj (aC (aE (ak (aE (aA (bO rfl ?_))))))
  refine bN rfl rfl rfl rfl rfl rfl (by omega) ?_
  refine aa rfl rfl rfl (by exact Nat.le_of_ble_eq_true rfl) ?_
  refine bz rfl (by exact List.cons_ne_nil _ _) rfl ?_
  refine cF rfl ?_
  refine bu rfl rfl (by decide) rfl rfl rfl rfl rfl rfl ?_
  refine aD (aC ?_)
  refine j9 (J := live [(0, Ty.pp (eF y fl 1000 fl.length)), (3, Ty.mp 7), (4, Ty.int .i64 (k.1 : Nat)), (5, Ty.ptr 6 0), (10, Ty.sl dh fl), (11, Ty.int .i64 fl.length), (12, Ty.int .i64 (k.1 : Nat))] [(1000, Cont.vec cj 3 a), (7, Cont.mr KI.enc fY 199 6000 (mQ fl a (eP fl a k.1) k.1)), (6, Cont.cells 187 (dh.tys (nth fl k.1)))]) ?_ ?_
  ·
   refine aE (cN mixed rfl (jK rfl (bt rfl ?_)))
   refine aS rfl rfl rfl rfl rfl (by decide) ?_
   refine aM rfl rfl rfl rfl (bO rfl ?_)
   refine dF rfl rfl rfl rfl rfl (by omega) ?_
   refine dY rfl rfl rfl (by decide) rfl rfl (by omega) rfl ?_
   refine aK rfl rfl rfl rfl rfl (by decide) ?_
   refine aP rfl rfl (by decide) rfl rfl rfl ?_
   refine bD rfl rfl rfl (aD ?_)
   refine ⟨by kernel_rfl, ?_⟩
   refine aC ?_
   refine av rfl (fun hc2 => ?_) (fun hc2 => ?_)
   ·
    have hq := fun c => xy (fl := fl) (a := a) (c := c) k.1
    have hq1 := hq (nth fl k.1).src
    refine cN mixed rfl (Hf rfl ?_)
    refine aK rfl rfl rfl rfl rfl (by decide) ?_
    refine aP rfl rfl (by decide) rfl rfl rfl ?_
    refine Hf rfl ?_
    refine aK rfl rfl rfl rfl rfl (by decide) ?_
    refine aP rfl rfl (by decide) rfl rfl rfl ?_
    refine x7 KI rfl rfl (by decide) rfl (tw _) mq uZ ?_
    refine bO rfl ?_
    refine dD rfl rfl (by exact List.cons_ne_nil _ _) rfl (by repeat (first | exact (aY.nil : aY _ _ [] _) | (show aY _ _ ((_, _) :: _) _; apply aY.one; (· first | exact (rfl : _ = Ty.int _ _) | exact (rfl : _ = Ty.bool _)); (· exact rfl)))) (by exact (rfl : _ = some [_, _])) ?_
    refine bp (E := fY) (xs := [⟨k.1, true⟩]) rfl rfl rfl rfl rfl (by decide) (by decide) (by repeat (first | exact (aY.nil : aY _ _ [] _) | (show aY _ _ ((_, _) :: _) _; apply aY.agg; (· exact (rfl : _ = Ty.agg _))))) (by exact rfl) rfl ?_
    refine xZ rfl rfl rfl (by decide) (by decide) rfl (by show 0 < 1; decide) rfl rfl rfl rfl rfl (by decide) (by show (((eZ _ _).getD []).length + 1) * 16 ≤ _; unfold nY at hq1; omega) (by show ((eZ _ _).getD []).length + 1 ≤ _; unfold nY at hq1; omega) ?_
    refine xK KI rfl rfl (by decide) rfl (tw _) rfl mq rfl ?_
    refine aD ?_
    refine ⟨by kernel_rfl, ?_⟩
    refine fJ ?_
    (refine c9.mk' ?_ ?_ <;> (repeat' (first | exact aH | exact aI | refine aB ?_ (Ty.aW _) | refine aB ?_ (Ty.aF _) | refine aG rfl (Cont.aF _) ?_ | refine aG rfl ?_ ?_)))
    all_goals exact Cont.rz (EN hc2)
   refine aj (fJ ?_)
   (refine c9.mk' ?_ ?_ <;> (repeat' (first | exact aH | exact aI | refine aB ?_ (Ty.aW _) | refine aB ?_ (Ty.aF _) | refine aG rfl (Cont.aF _) ?_ | refine aG rfl ?_ ?_)))
   all_goals exact Cont.rz (GF hc2)
  refine aE (cN mixed rfl (jK rfl (bt rfl ?_)))
  refine aS rfl rfl rfl rfl rfl (by decide) ?_
  refine aM rfl rfl rfl rfl (bO rfl ?_)
  refine dF rfl rfl rfl rfl rfl (by omega) ?_
  refine dY rfl rfl rfl (by decide) rfl rfl (by omega) rfl ?_
  refine aK rfl rfl rfl rfl rfl (by decide) ?_
  refine aP rfl rfl (by decide) rfl rfl rfl ?_
  refine bD rfl rfl rfl (aD ?_)
  refine ⟨by kernel_rfl, ?_⟩
  refine aC ?_
  refine av rfl (fun hc3 => ?_) (fun hc3 => ?_)
  ·
   have hq2 := Ej (fl := fl) (a := a) (c := (nth fl k.1).dst) (k := k.1)
   refine cN mixed rfl (Hf rfl ?_)
   refine aK rfl rfl rfl rfl rfl (by decide) ?_
   refine aP rfl rfl (by decide) rfl rfl rfl ?_
   refine Hf rfl ?_
   refine aK rfl rfl rfl rfl rfl (by decide) ?_
   refine aP rfl rfl (by decide) rfl rfl rfl ?_
   refine x7 KI rfl rfl (by decide) rfl (tw _) mq uZ ?_
   refine bO rfl ?_
   refine dD rfl rfl (by exact List.cons_ne_nil _ _) rfl (by repeat (first | exact (aY.nil : aY _ _ [] _) | (show aY _ _ ((_, _) :: _) _; apply aY.one; (· first | exact (rfl : _ = Ty.int _ _) | exact (rfl : _ = Ty.bool _)); (· exact rfl)))) (by exact (rfl : _ = some [_, _])) ?_
   refine bp (E := fY) (xs := [⟨k.1, false⟩]) rfl rfl rfl rfl rfl (by decide) (by decide) (by repeat (first | exact (aY.nil : aY _ _ [] _) | (show aY _ _ ((_, _) :: _) _; apply aY.agg; (· exact (rfl : _ = Ty.agg _))))) (by exact rfl) rfl ?_
   refine xZ rfl rfl rfl (by decide) (by decide) rfl (by show 0 < 1; decide) rfl rfl rfl rfl rfl (by decide) (by show (((eZ _ _).getD []).length + 1) * 16 ≤ _; unfold nY at hq2; omega) (by show ((eZ _ _).getD []).length + 1 ≤ _; unfold nY at hq2; omega) ?_
   refine xK KI rfl rfl (by decide) rfl (tw _) rfl mq rfl ?_
   refine aD ?_
   refine ⟨by kernel_rfl, ?_⟩
   refine bQ (aC (aA ?_))
   refine bg rfl rfl (by omega) (by omega) ?_
   refine bO rfl (aD ?_)
   refine bV (⟨k.1 + 1, by omega⟩) ?_ (by show fl.length - (k.1 + 1) < fl.length - k.1; omega)
   (refine c9.mk' ?_ ?_ <;> (repeat' (first | exact aH | exact aI | refine aB ?_ (Ty.aW _) | refine aB ?_ (Ty.aF _) | refine aG rfl (Cont.aF _) ?_ | refine aG rfl ?_ ?_)))
   all_goals skip
   all_goals exact Cont.rz (E6 hc3)
  refine aj (bQ (aC (aA ?_)))
  refine bg rfl rfl (by omega) (by omega) ?_
  refine bO rfl (aD ?_)
  refine bV (⟨k.1 + 1, by omega⟩) ?_ (by show fl.length - (k.1 + 1) < fl.length - k.1; omega)
  (refine c9.mk' ?_ ?_ <;> (repeat' (first | exact aH | exact aI | refine aB ?_ (Ty.aW _) | refine aB ?_ (Ty.aF _) | refine aG rfl (Cont.aF _) ?_ | refine aG rfl ?_ ?_)))
  all_goals skip
  all_goals exact Cont.rz (FD hc3)
 refine cQ (aR (aR (au rfl (aC (aE ?_)))))
 refine gL (tg := 7) rfl (Cont.rz (show eP fl a k.1 = eP fl a fl.length by rw [show k.1 = fl.length by have := k.2; omega])) ?_
 refine k6 (tg := 6000) [] [(7, Cont.mp KI.enc (Gm fY) (eP fl a fl.length))] (by decide) rfl trivial ⟨I6 rfl rfl, trivial⟩ ?_
 refine kK (tg := 7) [(3, Ty.pm KI.enc (Gm fY) (eP fl a fl.length))] (by decide) rfl ⟨KC rfl rfl (by decide), trivial⟩ ?_
 refine aA (KT rfl (KD rfl (aD (aC (bC ?_)))))
 refine fm [1000] rfl rfl (by decide) (by repeat (first | exact fB | refine eD rfl (cB (by decide) rfl) ?_)) ?_
 all_goals exact fQ (aO rfl rfl)
set_option maxRecDepth 100000 in
theorem I8 (y : bB) (fl : List bw) (a : List Int) (h : kg y fl a) (s : Int) (hs : 0 ≤ s ∧ s < (y.cells + 1 : Nat)) : eT Tryz.prog 130 [1000] [(1000, Cont.vec cj 3 a)] [Ty.pp (eF y fl 1000 fl.length), Ty.int .i64 s] [(1000, Cont.vec cj 3 a), (16, Cont.mp KI.enc y4 (cK fl a s))] (Ty.mp 16) := by
 refine dj Tryz.func130 rfl (by decide) Tryz.ntmps130 (by exact Nat.le_of_ble_eq_true rfl) fun w0 M0 => ?_
 have hal := h.inb.1
 have hN := h.net
 have hcl := mU h.right
 refine aE (aA (mI rfl (aD (aC (aE (aA (Ed KI.enc y4 mm rfl (MU rfl (aD ?_)))))))))
 refine aC (aE (aA (jK rfl ?_)))
 refine cD [(1000, 1000)] [] [(1000, Cont.vec cj 3 a)] (FY y fl a h) rfl rfl (aJ bK (ew (aJ (aJ (aJ (aJ (aJ (aJ bK (ef (by exact List.mem_cons_self))) (aO rfl rfl)) (aO rfl rfl)) (aO rfl rfl)) (aO rfl rfl)) (aO rfl rfl)))) (cC (a := 1000) (b := 1000) (by exact List.mem_cons_self) rfl (cB (by exact List.mem_cons_self) rfl) pre_nil) (bL (a := 1000) (b := 1000) (by exact List.mem_cons_self) rfl (cB (by exact List.mem_cons_self) rfl) post_nil) (aO rfl rfl) ?_
 refine KD rfl (aD (aC (aE (aA (bO rfl ?_)))))
 refine Be (E := cj) (xs := [s]) rfl rfl rfl rfl rfl (by decide) (by decide) (by repeat (first | exact (aY.nil : aY _ _ [] _) | (show aY _ _ ((_, _) :: _) _; apply aY.one; (· exact (rfl : _ = Ty.int _ _)); (· exact rfl)))) (by exact rfl) rfl rfl ?_
 refine G4 rfl (aD (aC (aE ?_)))
 refine Ku (s := 7) (J := 4100) (tg := 20) rfl rfl (by decide) (by decide) rfl ?_
 refine ak ?_
 refine cV (fun (x : {x : qD // JS fl a (y.cells + 1) s x}) => live [(0, Ty.pp (eF y fl 1000 fl.length)), (1, Ty.int .i64 s), (5, Ty.mp 16), (6, Ty.pm KI.enc (Gm fY) (eP fl a fl.length)), (7, Ty.iA cj 3 4100 x.1.queue)] [(1000, Cont.vec cj 3 a), (16, Cont.mp KI.enc y4 x.1.by_)]) (fun x => LC (y.cells + 1) x.1) (⟨⟨[], [s]⟩, Mb hs⟩) ?_ fun x => ?_
 ·(refine c9.mk' ?_ ?_ <;> (repeat' (first | exact aH | exact aI | refine aB ?_ (Ty.aW _) | refine aB ?_ (Ty.aF _) | refine aG rfl (Cont.aF _) ?_)))
 refine aE (aE (aA ?_))
 refine eJ (rfl : _ = Ty.iA _ _ _ _) ?_
 refine KF rfl rfl rfl (bD rfl rfl rfl (aD (aC ?_)))
 refine av rfl (fun hc1 => ?_) (fun hc1 => ?_)
 ·
  refine aj (aC (ak (aE ?_)))
  have hlen : 0 < x.1.queue.length := by omega
  refine aA ?_
  refine eJ (rfl : _ = Ty.iA _ _ _ _) ?_
  refine FH (i := 0) rfl rfl rfl rfl rfl rfl hlen ?_
  refine xO rfl rfl rfl rfl (cF rfl (aD (aC (aE (aA ?_)))))
  refine eJ (rfl : _ = Ty.iA _ _ _ _) ?_
  refine Kh (lo := 1) rfl rfl rfl rfl rfl rfl hlen hlen ?_
  refine fj (rfl : _ = Ty.iA _ _ _ _) ?_
  refine aD (aC (aE ?_))
  refine gl (s := 8) rfl (Ty.ah (show nth x.1.queue 0 = eB x.1 by unfold eB; rfl)) ?_
  refine aA (KT rfl (bO rfl ?_))
  refine xx KI (z0 := []) rfl rfl (tw _) mq uZ Aj ?_
  refine cz (E := fY) (xs := nY (eP fl a fl.length) (eB x.1)) rfl rfl rfl ?_
  refine bO rfl (aD (aC ?_))
  refine gl (s := 30) rfl (show (Ty.sl fY (nY (eP fl a fl.length) (eB x.1))).Sub (Ty.sl fY (bJ fl a (eB x.1))) from Ty.fG q8) ?_
  refine gl (s := 31) rfl (Ty.ah (congrArg (fun l : List Way => ((l.length : Nat) : Int)) (q8 (c := eB x.1)))) ?_
  refine ak ?_
  refine cV (fun (j : {j : Nat // j ≤ (bJ fl a (eB x.1)).length}) => live [(0, Ty.pp (eF y fl 1000 fl.length)), (1, Ty.int .i64 s), (5, Ty.mp 16), (6, Ty.pm KI.enc (Gm fY) (eP fl a fl.length)), (7, Ty.iA cj 3 4100 (e9 fl a s (eB x.1) (jX x.1) j.1).queue), (8, Ty.int .i64 (eB x.1)), (30, Ty.sl fY (bJ fl a (eB x.1))), (31, Ty.int .i64 (bJ fl a (eB x.1)).length), (32, Ty.int .i64 (j.1 : Nat))] [(1000, Cont.vec cj 3 a), (16, Cont.mp KI.enc y4 (e9 fl a s (eB x.1) (jX x.1) j.1).by_)]) (fun j => (bJ fl a (eB x.1)).length - j.1) (⟨0, by omega⟩) ?_ fun j => ?_
  ·(refine c9.mk' ?_ ?_ <;> (repeat' (first | exact aH | exact aI | refine aB ?_ (Ty.aW _) | refine aB ?_ (Ty.aF _) | refine aG rfl (Cont.aF _) ?_ | refine aG rfl ?_ ?_ | refine aB ?_ ?_)))
   all_goals first | exact IV (congrArg qD.queue (vg (fl := fl) (a := a) (s := s) (c := eB x.1) (z := jX x.1)).symm) | exact Cont.vo (show x.1.by_ = (e9 fl a s (eB x.1) (jX x.1) 0).by_ by rw [vg]; rfl)
  have hj := j.2
  have hwl := oT (fl := fl) (a := a) (c := eB x.1)
  have hfl := h.nk
  have hff := x.2.fold hN hlen hj
  refine aE (aA (bD rfl rfl rfl (aD (aC (aE ?_)))))
  refine av rfl (fun hc2 => ?_) (fun hc2 => ?_)
  ·
   refine aj (aC (aE (ak (aE (aA ?_)))))
   refine bN rfl rfl rfl rfl rfl rfl (by omega) ?_
   refine aa rfl rfl rfl (by exact Nat.le_of_ble_eq_true rfl) ?_
   refine bz rfl (by exact List.cons_ne_nil _ _) rfl ?_
   refine bu rfl rfl (by decide) rfl rfl rfl rfl rfl rfl ?_
   refine aD (aC (aE ?_))
   have hwj := (mE.1 (cM (xs := bJ fl a (eB x.1)) (k := j.1) (by omega))).1
   refine aA (jK rfl ?_)
   refine bT rfl rfl (by decide) rfl rfl (by exact Nat.le_of_ble_eq_true rfl) ?_
   refine dV [1000] (DG y fl a h (nth (bJ fl a (eB x.1)) j.1) hwj.1) rfl (aL (jt (aL (af (bF rfl rfl)) (aL (af (bF rfl rfl)) (aL (af (bF rfl rfl)) (aL (af (bF rfl rfl)) (aL (af (bF rfl rfl)) (aL (iL rfl hal (by decide) rfl) bX))))))) (aL (af (bF rfl rfl)) bX)) (by exact oc (by repeat (first | exact o9 | refine mw (by exact dG _ _) ?_))) ?_
   refine sX rfl (bR rfl rfl (bR rfl rfl (cF rfl (cF rfl (aD (aC (aE (aA (Hf rfl ?_)))))))))
   refine bO rfl ?_
   refine w8 KI (k := (nth (bJ fl a (eB x.1)) j.1).fin fl) (z0 := (default : Way)) rfl rfl (by decide) rfl (tw _) mm qo oR ?_
   refine sX rfl (bR rfl rfl (bR rfl rfl ?_))
   refine bz rfl (by exact List.cons_ne_nil _ _) rfl ?_
   refine bu rfl rfl (by decide) rfl rfl rfl rfl rfl rfl ?_
   refine dZ rfl (aD (aC (aE (aA (gO rfl (dn rfl (gO rfl ?_)))))))
   apply aT (s := 50) rfl rfl rfl
   ·intro hg; apply aU; (refine bO rfl ?_); refine aD ?_; exact rfl
   ·exact rfl
   ·exact rfl
   apply aT (s := 50) rfl rfl rfl
   ·intro hg; apply aU; (refine bO rfl ?_); refine aD ?_; exact rfl
   ·exact rfl
   ·exact rfl
   apply aT (s := 50) rfl rfl rfl
   ·intro hg; apply aN (s := 51) rfl (by (rw [hg]; rfl)); apply aN (s := 52) rfl (by (rw [hg]; rfl)); apply aU; (refine bD rfl rfl rfl ?_); refine aD ?_; exact rfl
   ·exact rfl
   ·exact rfl
   refine eL rfl rfl (aD (aC ?_))
   refine cW rfl (fun hc3 => ?_) (fun hc3 => ?_)
   ·
    refine aE (aA (Hf rfl (bO rfl ?_)))
    refine bT rfl rfl (by decide) rfl rfl (by exact Nat.le_of_ble_eq_true rfl) ?_
    refine Bi KI (k := (nth (bJ fl a (eB x.1)) j.1).fin fl) (v := nth (bJ fl a (eB x.1)) j.1) rfl rfl (by decide) rfl (tw _) rfl rfl mm ?_
    refine aD (aC (aA ?_))
    refine eJ (rfl : _ = Ty.iA _ _ _ _) ?_
    refine bO rfl ?_
    refine bp (E := cj) (xs := [_]) rfl rfl rfl rfl rfl (by decide) (by decide) (by repeat (first | exact (aY.nil : aY _ _ [] _) | (show aY _ _ ((_, _) :: _) _; apply aY.one; (· exact (rfl : _ = Ty.int _ _)); (· exact rfl)))) (by exact rfl) rfl ?_
    refine EI rfl rfl (by decide) rfl (by show 0 < 1; decide) rfl rfl rfl rfl rfl (by decide) (by show (_ + 1) * 8 ≤ _; omega) (by show _ + 1 ≤ _; omega) ?_
    refine fj (rfl : _ = Ty.iA _ _ _ _) ?_
    refine aD (bQ (aC (aA ?_)))
    refine bg rfl rfl (by omega) (by omega) ?_
    refine bO rfl (aD ?_)
    refine bV (⟨j.1 + 1, by omega⟩) ?_ (by show (bJ fl a (eB x.1)).length - (j.1 + 1) < (bJ fl a (eB x.1)).length - j.1; omega)
    (refine c9.mk' ?_ ?_ <;> (repeat' (first | exact aH | exact aI | refine aB ?_ (Ty.aW _) | refine aB ?_ (Ty.aF _) | refine aG rfl (Cont.aF _) ?_ | refine aG rfl ?_ ?_ | refine aB ?_ ?_)))
    all_goals skip
    all_goals first | exact IV (xP (by omega) (by rw [← new_eq]; exact hc3)).2 | exact Cont.vo (xP (by omega) (by rw [← new_eq]; exact hc3)).1
   refine aj (bQ (aC (aA ?_)))
   refine bg rfl rfl (by omega) (by omega) ?_
   refine bO rfl (aD ?_)
   refine bV (⟨j.1 + 1, by omega⟩) ?_ (by show (bJ fl a (eB x.1)).length - (j.1 + 1) < (bJ fl a (eB x.1)).length - j.1; omega)
   (refine c9.mk' ?_ ?_ <;> (repeat' (first | exact aH | exact aI | refine aB ?_ (Ty.aW _) | refine aB ?_ (Ty.aF _) | refine aG rfl (Cont.aF _) ?_ | refine aG rfl ?_ ?_ | refine aB ?_ ?_)))
   all_goals skip
   all_goals first | exact IV (BS (by omega) (by rw [← new_eq]; exact hc3)).2 | exact Cont.vo (BS (by omega) (by rw [← new_eq]; exact hc3)).1
  refine cQ (aR (aR (au rfl (bQ ?_))))
  refine bV (⟨e9 fl a s (eB x.1) (jX x.1) (bJ fl a (eB x.1)).length, (x.2.next hN hlen).1⟩) ?_ (by exact (x.2.next hN hlen).2)
  (refine c9.mk' ?_ ?_ <;> (repeat' (first | exact aH | exact aI | refine aB ?_ (Ty.aW _) | refine aB ?_ (Ty.aF _) | refine aG rfl (Cont.aF _) ?_ | refine aG rfl ?_ ?_ | refine aB ?_ ?_)))
  all_goals skip
  all_goals first | exact IV (congrArg (fun n => (e9 fl a s (eB x.1) (jX x.1) n).queue) (show j.1 = _ by have := j.2; omega)) | exact Cont.vo (congrArg (fun n => (e9 fl a s (eB x.1) (jX x.1) n).by_) (show j.1 = _ by have := j.2; omega))
 refine cQ (aR (aR (au rfl (aC (aE ?_)))))
 refine gL (tg := 16) rfl (Cont.vo (x.2.end (by omega))) ?_
 refine aA (Hf rfl (MU rfl (aD (aC (bC ?_)))))
 refine fm [1000, 16] rfl rfl (by decide) (by repeat (first | exact fB | refine eD rfl (cB (by decide) rfl) ?_ | refine eD rfl (Jw (by decide) rfl) ?_)) ?_
 all_goals skip
 all_goals exact fQ (Jm (by decide))
end Go.Proofs.YtelbollidfdcjaaGreat
namespace Go.Proofs.YtelbollidfdcjaaGreat
open Go Go.T
section
variable {fl : List bw} {a : List Int} {n : Nat} {q : List (Int × Way)}
theorem Ci {n k : Nat} (h : k ≤ n) : (List.range n).take k = List.range k := by
 rw [List.take_range, Nat.min_eq_left h]
theorem I1 {j : Nat} (hj : j < n) (h : ∀ i, i < j → jG fl a q i = false) (hc : jG fl a q j = true) : (j : Int) = eR fl a n q := by
 unfold eR
 refine (gZ (by rw [List.length_range]; exact hj) (fun x hx => ?_) ?_).symm
 ·rw [Ci (by omega)] at hx
  exact h x (List.mem_range.1 hx)
 rw [List.getElem_range]; exact hc
theorem Hp {j : Nat} (hj : n ≤ j) (h : ∀ i, i < j → jG fl a q i = false) : -1 = eR fl a n q := by
 unfold eR
 refine (iG fun x hx => ?_).symm
 exact h x (by have := List.mem_range.1 hx; omega)
theorem BO {j : Nat} (hj : j < n) : ((eZ q (j : Int)).isSome && decide (nth (gF fl a n) j < 0)) = jG fl a q j := by
 unfold jG; rw [r5 hj]
theorem Fz (hl : fl.length ≤ 34) (ha : ∀ i, i < fl.length → 0 ≤ nth a i ∧ nth a i ≤ 300) (c : Int) : -10200 ≤ over fl a c ∧ over fl a c ≤ 10200 := by
 have h := yN (fl := fl) (a := a) (c := c) (k := fl.length) ha
 have e : ny fl a fl.length c = over fl a c := rfl
 rw [e] at h; omega
theorem vM (m : Int) (fl : List bw) (a : List Int) : m = fA fl a m [] := rfl
theorem FP {s t : Int} {l : List Way} (e : l = gb fl (cK fl a s) s t) : eC a l (fA fl a (min (over fl a s) (-over fl a t)) l) = jy fl a s t := by subst e; rfl
end
end Go.Proofs.YtelbollidfdcjaaGreat
namespace Go.Proofs.YtelbollidfdcjaaGreat
open Go Go.T
set_option maxHeartbeats 16000000
structure Gw (y : bB) (fl : List bw) (a : List Int) : Prop where
  right : y.cm
  net : Net fl (y.cells + 1)
  bd : Bd fl
  inb : gm fl = true → wh fl a
  nk : fl.length ≤ 34
section
variable {y : bB} {fl : List bw} {a : List Int} {n : Nat}
theorem yw (h : (!fl.all fun f => decide (f.lo ≤ f.hi)) = true) : gm fl = false := pQ h
theorem nM (h : (!fl.all fun f => decide (f.lo ≤ f.hi)) = false) : gm fl = true := ff h
theorem K9 (h : gm fl = false) : 0 = (cU fl n a).1 ∧ true = (cU fl n a).2.1 ∧ a = (cU fl n a).2.2 := by rw [xD h]; exact ⟨rfl, rfl, rfl⟩
theorem KO {b : List Int} (h : gm fl = true) (hx : GI fl n a b) (e : dW fl b n < 0) : 0 = (cU fl n a).1 ∧ false = (cU fl n a).2.1 ∧ b = (cU fl n a).2.2 := by rw [nD h, hx.done e]; exact ⟨rfl, rfl, rfl⟩
theorem LJ {b : List Int} (h : gm fl = true) (hx : GI fl n a b) (e : ¬ dW fl b n < 0) (e2 : eR fl b n (cK fl b (dW fl b n)) < 0) : dW fl b n = (cU fl n a).1 ∧ true = (cU fl n a).2.1 ∧ b = (cU fl n a).2.2 := by rw [nD h, hx.stuck e e2]; exact ⟨rfl, rfl, rfl⟩
theorem Mg (h : wh fl a) : GI fl n a a := ⟨h, rfl⟩
theorem Iw {x z : Int} (h1 : 0 < x) (h2 : z < 0) : 0 < min x (-z) := by omega
theorem has_eq : fidx (fun v : Int => decide (v > 0)) (gF fl a n) = dW fl a n := rfl
theorem Fl (m x : Int) : fX m [x] = min m x := rfl
theorem vY {m : Int} {l : List Way} {w : Way} : fX (fA fl a m l) [w.room fl a] = fA fl a m (l ++ [w]) := (Fl _ _).trans (qN m l).symm
theorem DH {k : Int} (h : 0 ≤ k ∧ k < n) : nth (gF fl a n) k.toNat = over fl a k := by rw [r5 (by omega)]; congr 1; omega
theorem Ho {x : Int} (h : -20000 ≤ x ∧ x ≤ 20000) : IntKind.i64.wrap (0 - x) = -x := by rw [show (0 : Int) - x = -x by omega]; exact IntWalk.i64_in _ (by omega)
end
attribute [local irreducible] aQ gU Way.ga Way.fin Way.room eP eC eo gF over bJ cK dW eR jG fA gb jy cU gB fX
attribute [local irreducible] iw fu nh ru jS jR jO jN jQ rZ jL rj eO gy rY g9 rX nth fT dg aq eA bodyPost Exit.then Exit.inBlock Code.wp Code.wpIn rm jU rq rW jP eT ct cx bodyPostM eU
set_option maxRecDepth 100000 in
theorem Hw (f : bw) : eA Tryz.prog 177 [Ty.agg (dh.tys f)] (Ty.bool (decide (f.lo ≤ f.hi))) := by
 refine az Tryz.func177 rfl (by decide) Tryz.ntmps177 (by exact Nat.le_of_ble_eq_true rfl) fun w0 M0 => ?_
 refine aE (aA (bM rfl (dZ rfl (aD (aC (aE (aA ?_)))))))
 refine aS rfl rfl rfl rfl rfl (by decide) ?_
 refine aM rfl rfl rfl rfl ?_
 refine aS rfl rfl rfl rfl rfl (by decide) ?_
 refine aM rfl rfl rfl rfl (bD rfl rfl rfl (dZ rfl (aD (aC (bC (bl rfl rfl ?_))))))
 all_goals exact cI rfl rfl
set_option maxRecDepth 100000 in
theorem Gf (v : Int) : eA Tryz.prog 179 [Ty.int .i64 v] (Ty.bool (decide (v > 0))) := by
 refine az Tryz.func179 rfl (by decide) Tryz.ntmps179 (by exact Nat.le_of_ble_eq_true rfl) fun w0 M0 => ?_
 refine aE (aA (dZ rfl (aD (aC (aE (aA (bO rfl (bD rfl rfl rfl (dZ rfl ?_)))))))))
 refine aD (aC (bC (bl rfl rfl ?_)))
 all_goals exact cI rfl rfl
set_option maxRecDepth 100000 in
theorem Ic (y : bB) (fl : List bw) (a : List Int) (h : Gw y fl a) : eT Tryz.prog 129 [1000] [(1000, Cont.vec cj 3 a)] [Ty.pp (eF y fl 1000 fl.length)] [(1000, Cont.vec cj 3 (cU fl (y.cells + 1) a).2.2)] (Ty.j3 [Ty.int .i64 (cU fl (y.cells + 1) a).1, Ty.bool (cU fl (y.cells + 1) a).2.1]) := by
 refine dj Tryz.func129 rfl (by decide) Tryz.ntmps129 (by exact Nat.le_of_ble_eq_true rfl) fun w0 M0 => ?_
 have hcl := mU h.right
 have hfl := h.nk
 have hN := h.net
 refine aE (aA (cF rfl (dZ rfl (aD (aC (aE (aE (aA (jK rfl ?_)))))))))
 refine bt rfl ?_
 refine aS rfl rfl rfl rfl rfl (by decide) ?_
 refine aM rfl rfl rfl rfl ?_
 refine ay (A5 fl (Ty.jM _ []) rfl (fun f => decide (f.lo ≤ f.hi)) rfl rfl fun f _ => dO (Hw f) rfl rfl rfl rfl rfl rfl) rfl rfl rfl rfl rfl ?_
 refine dn rfl (aD (aC ?_))
 refine cW rfl (fun hc1 => ?_) (fun hc1 => ?_)
 ·
  refine aE (aA (cF rfl (dZ rfl (aD (aC (bC (aX ?_)))))))
  refine zL [1000] rfl rfl rfl (by decide) ?_ ?_ ?_
  ·exact eD rfl (cB (by decide) (K9 (yw hc1)).2.2) fB
  all_goals skip
  all_goals first | exact fQ (nS rfl rfl (congrArg (Ty.int .i64) (K9 (yw hc1)).1)) | exact fQ (nS rfl rfl (congrArg Ty.bool (K9 (yw hc1)).2.1))
 refine aj (aC (ak ?_))
 refine cV (fun (x : {b : List Int // GI fl (y.cells + 1) a b}) => live [(0, Ty.pp (eF y fl 1000 fl.length))] [(1000, Cont.vec cj 3 x.1)]) (fun x => MH fl (y.cells + 1) x.1) (⟨a, Mg (h.inb (nM hc1))⟩) ?_ fun x => ?_
 ·(refine c9.mk' ?_ ?_ <;> (repeat' (first | exact aH | exact aI | refine aB ?_ (Ty.aW _) | refine aB ?_ (Ty.aF _) | refine aG rfl (Cont.aF _) ?_)))
 have hF : kg y fl x.1 := ⟨h.right, h.net, h.bd, x.2.inb, h.nk⟩
 have hal := hF.inb.1
 have hov := Fz h.nk fun i hi => (hF.K6 hi).1
 have hol : (gF fl x.1 (y.cells + 1)).length = (y.cells + 1) := x6
 refine ak (aE (aA (jK rfl ?_)))
 refine cD [(1000, 1000)] [] [(1000, Cont.vec cj 3 x.1)] (Kq y fl x.1 hF) rfl rfl (aJ bK (ew (aJ (aJ (aJ (aJ (aJ (aJ bK (ef (by exact List.mem_cons_self))) (aO rfl rfl)) (aO rfl rfl)) (aO rfl rfl)) (aO rfl rfl)) (aO rfl rfl)))) (cC (a := 1000) (b := 1000) (by exact List.mem_cons_self) rfl (cB (by exact List.mem_cons_self) rfl) pre_nil) (bL (a := 1000) (b := 1000) (by decide) rfl (cB (by decide) rfl) post_nil) (aO rfl rfl) ?_
 refine Bk rfl (aD (aC (aE (aA (gC rfl ?_)))))
 refine ay (uG (gF fl x.1 (y.cells + 1)) (Ty.jM _ []) rfl (fun v => decide (v > 0)) rfl rfl fun v _ => dO (Gf v) rfl rfl rfl rfl rfl rfl) rfl rfl rfl rfl rfl ?_
 refine cF rfl (aD (aC (aE (aE ?_))))
 refine gl (s := 5) rfl (Ty.ah (has_eq (fl := fl) (a := x.1) (n := (y.cells + 1)))) ?_
 refine aA (bO rfl (bD rfl rfl rfl (aD (aC ?_))))
 refine av rfl (fun hc2 => ?_) (fun hc2 => ?_)
 ·
  refine aE (aA (cF rfl (dZ rfl (aD (aC (bC (aX (bG (aX ?_)))))))))
  refine bG ?_
  refine zL [1000] rfl rfl rfl (by decide) ?_ ?_ ?_
  ·exact eD rfl (cB (by decide) (KO (nM hc1) x.2 hc2).2.2) fB
  all_goals skip
  all_goals first | exact fQ (nS rfl rfl (congrArg (Ty.int .i64) (KO (nM hc1) x.2 hc2).1)) | exact fQ (nS rfl rfl (congrArg Ty.bool (KO (nM hc1) x.2 hc2).2.1))
 refine aj (aC (aE ?_))
 obtain ⟨s, s1, s2, s3⟩ := vV hc2
 have hs : 0 ≤ (dW fl x.1 (y.cells + 1)) ∧ (dW fl x.1 (y.cells + 1)) < ((y.cells + 1) : Nat) := by omega
 refine aA (jK rfl (bO rfl ?_))
 refine cD (res' := Ty.mp 32) [(1000, 1000), (32, 16)] [32] [(1000, Cont.vec cj 3 x.1), (32, Cont.mp KI.enc y4 (cK fl x.1 (dW fl x.1 (y.cells + 1))))] (I8 y fl x.1 hF (dW fl x.1 (y.cells + 1)) hs) rfl rfl (aJ (aJ bK (aO rfl rfl)) (ew (aJ (aJ (aJ (aJ (aJ (aJ bK (ef (by exact List.mem_cons_self))) (aO rfl rfl)) (aO rfl rfl)) (aO rfl rfl)) (aO rfl rfl)) (aO rfl rfl)))) (cC (a := 1000) (b := 1000) (by exact List.mem_cons_self) rfl (cB (by exact List.mem_cons_self) rfl) pre_nil) (bL (a := 1000) (b := 1000) (by decide) rfl (cB (by decide) rfl) (bL (a := 32) (b := 16) (by decide) rfl (Jw (by decide) rfl) post_nil)) (Jm (by decide)) ?_
 refine MU rfl (aD (aC (aE (aA (cF rfl (aD (aC ?_)))))))
 refine j9 (J := live [(0, Ty.pp (eF y fl 1000 fl.length)), (4, Ty.sl cj (gF fl x.1 (y.cells + 1))), (5, Ty.int .i64 (dW fl x.1 (y.cells + 1))), (6, Ty.mp 32), (7, Ty.int .i64 (eR fl x.1 (y.cells + 1) (cK fl x.1 (dW fl x.1 (y.cells + 1)))))] [(1000, Cont.vec cj 3 x.1), (32, Cont.mp KI.enc y4 (cK fl x.1 (dW fl x.1 (y.cells + 1))))]) ?_ ?_
 ·
  refine aE (aA (gC rfl (cz rfl rfl rfl (bO rfl (aD (aC (ak ?_)))))))
  refine cV (fun (j : {j : Nat // j ≤ (y.cells + 1) ∧ ∀ i, i < j → jG fl x.1 (cK fl x.1 (dW fl x.1 (y.cells + 1))) i = false}) => live [(0, Ty.pp (eF y fl 1000 fl.length)), (4, Ty.sl cj (gF fl x.1 (y.cells + 1))), (5, Ty.int .i64 (dW fl x.1 (y.cells + 1))), (6, Ty.mp 32), (7, Ty.int .i64 (-1)), (32, Ty.sl cj (gF fl x.1 (y.cells + 1))), (33, Ty.int .i64 (gF fl x.1 (y.cells + 1)).length), (34, Ty.int .i64 (j.1 : Nat))] [(1000, Cont.vec cj 3 x.1), (32, Cont.mp KI.enc y4 (cK fl x.1 (dW fl x.1 (y.cells + 1))))]) (fun j => (y.cells + 1) - j.1) (⟨0, Nat.zero_le _, fun i hi => absurd hi (Nat.not_lt_zero i)⟩) ?_ fun j => ?_
  ·(refine c9.mk' ?_ ?_ <;> (repeat' (first | exact aH | exact aI | refine aB ?_ (Ty.aW _) | refine aB ?_ (Ty.aF _) | refine aG rfl (Cont.aF _) ?_)))
  have hj := j.2.1
  refine aE (aA (bD rfl rfl rfl (aD (aC (aE ?_)))))
  refine av rfl (fun hc3 => ?_) (fun hc3 => ?_)
  ·
   refine aj (aC (aE (ak (aE (aA (bO rfl ?_))))))
   refine bN rfl rfl rfl rfl rfl rfl (by omega) ?_
   refine aM rfl rfl rfl rfl (cF rfl (cF rfl (aD (aC (aE (aA (Hf rfl (bO rfl ?_))))))))
   refine w8 KI (k := ((j.1 : Nat) : Int)) (z0 := (default : Way)) rfl rfl (by decide) rfl (tw _) mm qo oR ?_
   refine sX rfl (bR rfl rfl (bR rfl rfl ?_))
   refine bz rfl (by exact List.cons_ne_nil _ _) rfl ?_
   refine bu rfl rfl (by decide) rfl rfl rfl rfl rfl rfl ?_
   refine dZ rfl (aD (aC (aE (aA (gO rfl (gO rfl ?_))))))
   apply aT (s := 46) rfl rfl rfl
   ·intro hg; apply aU; (refine bO rfl ?_); refine aD ?_; exact rfl
   ·exact rfl
   ·exact rfl
   apply aT (s := 46) rfl rfl rfl
   ·intro hg; apply aN (s := 47) rfl (by (rw [hg]; rfl)); apply aU; (refine bD rfl rfl rfl ?_); refine aD ?_; exact rfl
   ·exact rfl
   ·exact rfl
   refine eL rfl rfl (aD (aC ?_))
   refine cW rfl (fun hc4 => ?_) (fun hc4 => ?_)
   ·
    refine aE (aA (bO rfl (cF rfl (aD (aC (cQ (fk rfl (aR (aR ?_)))))))))
    refine au rfl (fJ ?_)
    (refine c9.mk' ?_ ?_ <;> (repeat' (first | exact aH | exact aI | refine aB ?_ (Ty.aW _) | refine aB ?_ (Ty.aF _) | refine aG rfl (Cont.aF _) ?_ | refine aB ?_ ?_)))
    all_goals exact Ty.ah (I1 (by omega) j.2.2 (by rw [← BO (n := (y.cells + 1)) (by omega)]; exact hc4))
   refine aj (bQ (aC (aA ?_)))
   refine bg rfl rfl (by omega) (by omega) ?_
   refine bO rfl (aD ?_)
   refine bV (⟨j.1 + 1, by omega, fun i hi => by by_cases e : i = j.1; (subst e; rw [← BO (n := (y.cells + 1)) (by omega)]; exact hc4); exact j.2.2 i (by omega)⟩) ?_ (by show (y.cells + 1) - (j.1 + 1) < (y.cells + 1) - j.1; omega)
   (refine c9.mk' ?_ ?_ <;> (repeat' (first | exact aH | exact aI | refine aB ?_ (Ty.aW _) | refine aB ?_ (Ty.aF _) | refine aG rfl (Cont.aF _) ?_)))
   all_goals skip
  refine cQ (aR (aR (au rfl (fJ ?_))))
  (refine c9.mk' ?_ ?_ <;> (repeat' (first | exact aH | exact aI | refine aB ?_ (Ty.aW _) | refine aB ?_ (Ty.aF _) | refine aG rfl (Cont.aF _) ?_ | refine aB ?_ ?_)))
  all_goals exact Ty.ah (Hp (by omega) j.2.2)
 refine aE (aE (aA (bO rfl (bD rfl rfl rfl (aD (aC ?_))))))
 refine av rfl (fun hc5 => ?_) (fun hc5 => ?_)
 ·
  refine aE (aA (bO rfl (cF rfl (dZ rfl (aD (aC (bC (aX (bG ?_)))))))))
  refine aX (bG ?_)
  refine zL [1000] rfl rfl rfl (by decide) ?_ ?_ ?_
  ·exact eD rfl (cB (by decide) (LJ (nM hc1) x.2 hc2 hc5).2.2) fB
  all_goals skip
  all_goals first | exact fQ (nS rfl rfl (congrArg (Ty.int .i64) (LJ (nM hc1) x.2 hc2 hc5).1)) | exact fQ (nS rfl rfl (congrArg Ty.bool (LJ (nM hc1) x.2 hc2 hc5).2.1))
 refine aj (aC (aE ?_))
 obtain ⟨t, t1, t2, t3, t4⟩ := sI hc5
 have hnx := x.2.next hN hc2 hc5
 have hR := qG (a := x.1) hN hs
 obtain ⟨dep, d0, hd⟩ := hR.arc
 have hmet : wX (cK fl x.1 (dW fl x.1 (y.cells + 1))) (dW fl x.1 (y.cells + 1)) (eR fl x.1 (y.cells + 1) (cK fl x.1 (dW fl x.1 (y.cells + 1)))) := by rw [t2]; obtain ⟨v, hv⟩ := Option.isSome_iff_exists.1 t3; exact .inr (l6 hv)
 have ht : 0 ≤ (eR fl x.1 (y.cells + 1) (cK fl x.1 (dW fl x.1 (y.cells + 1)))) ∧ (eR fl x.1 (y.cells + 1) (cK fl x.1 (dW fl x.1 (y.cells + 1)))) < ((y.cells + 1) : Nat) := by omega
 have ho1 := hov (dW fl x.1 (y.cells + 1))
 have ho2 := hov (eR fl x.1 (y.cells + 1) (cK fl x.1 (dW fl x.1 (y.cells + 1))))
 have hdq : dep (eR fl x.1 (y.cells + 1) (cK fl x.1 (dW fl x.1 (y.cells + 1)))) ≤ 21 := by
  obtain ⟨v, hv⟩ := Option.isSome_iff_exists.1 t3
  have h1 := (hd _ _ hv).2.2.2.2
  have h2 := hR.nk
  rw [t2]; omega
 refine aA (mI rfl (aD (aC (aE ?_))))
 have hoa := DH (fl := fl) (a := x.1) (n := (y.cells + 1)) hs
 have hob := DH (fl := fl) (a := x.1) (n := (y.cells + 1)) ht
 refine cN mixed rfl (gC rfl (bO rfl ?_))
 refine iT rfl rfl rfl rfl rfl rfl (by omega) (by omega) ?_
 refine aM rfl rfl rfl rfl (gC rfl (bO rfl ?_))
 refine iT rfl rfl rfl rfl rfl rfl (by omega) (by omega) ?_
 refine aM rfl rfl rfl rfl (MA rfl ?_)
 refine bp (E := cj) (xs := [_]) rfl rfl rfl rfl rfl (by decide) (by decide) (by repeat (first | exact (aY.nil : aY _ _ [] _) | (show aY _ _ ((_, _) :: _) _; apply aY.one; (· exact (rfl : _ = Ty.int _ _)); (· exact rfl)))) (by exact rfl) rfl ?_
 refine ay (ql _ _) rfl rfl rfl rfl rfl (cF rfl (aD ?_))
 refine ⟨by kernel_rfl, ?_⟩
 refine aC (aE (aE ?_))
 refine gl (s := 13) rfl (Ty.ah (by rw [hoa, hob, Ho (by omega), Fl] : _ = (min (over fl x.1 (dW fl x.1 (y.cells + 1))) (-over fl x.1 (eR fl x.1 (y.cells + 1) (cK fl x.1 (dW fl x.1 (y.cells + 1)))))))) ?_
 refine aA (bO rfl (cF rfl (aD (aC (ak ?_)))))
 refine cV (fun (p : {p : Int × List Way // IT fl x.1 (cK fl x.1 (dW fl x.1 (y.cells + 1))) (dW fl x.1 (y.cells + 1)) (eR fl x.1 (y.cells + 1) (cK fl x.1 (dW fl x.1 (y.cells + 1)))) dep p}) => live [(0, Ty.pp (eF y fl 1000 fl.length)), (5, Ty.int .i64 (dW fl x.1 (y.cells + 1))), (6, Ty.mp 32), (12, Ty.row fY 199 81 p.1.2), (13, Ty.int .i64 (fA fl x.1 (min (over fl x.1 (dW fl x.1 (y.cells + 1))) (-over fl x.1 (eR fl x.1 (y.cells + 1) (cK fl x.1 (dW fl x.1 (y.cells + 1)))))) p.1.2)), (14, Ty.int .i64 p.1.1)] [(1000, Cont.vec cj 3 x.1), (32, Cont.mp KI.enc y4 (cK fl x.1 (dW fl x.1 (y.cells + 1))))]) (fun p => dep p.1.1) (⟨((eR fl x.1 (y.cells + 1) (cK fl x.1 (dW fl x.1 (y.cells + 1)))), []), MX hmet⟩) ?_ fun p => ?_
 ·(refine c9.mk' ?_ ?_ <;> (repeat' (first | exact aH | exact aI | refine aB ?_ (Ty.aW _) | refine aB ?_ (Ty.aF _) | refine aB ?_ Ty.lU | refine aG rfl (Cont.aF _) ?_ | refine aB ?_ ?_)))
  all_goals exact Ty.ah (vM _ _ _)
 have hpf := p.2.nk
 refine aE (aE (aA (bO rfl (bO rfl (bD rfl rfl rfl (aD (aC ?_)))))))
 refine dL rfl (fun hc6 => ?_) (fun hc6 => ?_)
 ·
  refine aj (aC (aE (ak (aE ?_))))
  have hpx := p.2.next hd hc6
  have hpo := hpx.2.2
  refine aA (J6 rfl (Hf rfl (bO rfl ?_)))
  refine wP KI (k := p.1.1) (z0 := (default : Way)) rfl rfl (by decide) rfl (tw _) mm qo oR ?_
  refine bp (E := fY) (xs := [jW (cK fl x.1 (dW fl x.1 (y.cells + 1))) p.1.1]) rfl rfl rfl rfl rfl (by decide) (by decide) (by repeat (first | exact (aY.nil : aY _ _ [] _) | (show aY _ _ ((_, _) :: _) _; apply aY.agg; (· exact (rfl : _ = Ty.agg _))))) (by exact rfl) rfl ?_
  refine fO rfl rfl (by decide) rfl rfl rfl rfl rfl rfl (by decide) (by (simp <;> omega)) (by (simp <;> omega)) ?_
  refine G4 rfl (aD (aC (aE (aA (jK rfl (Hf rfl (bO rfl ?_)))))))
  refine wP KI (k := p.1.1) (z0 := (default : Way)) rfl rfl (by decide) rfl (tw _) mm qo oR ?_
  refine dV [1000] (DG y fl x.1 hF (jW (cK fl x.1 (dW fl x.1 (y.cells + 1))) p.1.1) hpo.1) rfl (aL (jt (aL (af (bF rfl rfl)) (aL (af (bF rfl rfl)) (aL (af (bF rfl rfl)) (aL (af (bF rfl rfl)) (aL (af (bF rfl rfl)) (aL (iL rfl hal (by decide) rfl) bX))))))) (aL (af (bF rfl rfl)) bX)) (by exact oc (by repeat (first | exact o9 | refine mw (by exact dG _ _) ?_))) ?_
  refine sX rfl (bR rfl rfl (bR rfl rfl (cF rfl (cF rfl (aD (aC (aA (bO rfl (bO rfl ?_)))))))))
  refine bp (E := cj) (xs := [_]) rfl rfl rfl rfl rfl (by decide) (by decide) (by repeat (first | exact (aY.nil : aY _ _ [] _) | (show aY _ _ ((_, _) :: _) _; apply aY.one; (· exact (rfl : _ = Ty.int _ _)); (· exact rfl)))) (by exact rfl) rfl ?_
  refine ay (ql _ _) rfl rfl rfl rfl rfl (cF rfl (aD (bQ (aC (aA (jK rfl (Hf rfl (bO rfl ?_))))))))
  refine wP KI (k := p.1.1) (z0 := (default : Way)) rfl rfl (by decide) rfl (tw _) mm qo oR ?_
  refine dV [1000] (zC y fl x.1 (jW (cK fl x.1 (dW fl x.1 (y.cells + 1))) p.1.1) hpo.1) rfl (aL (jt (aL (af (bF rfl rfl)) (aL (af (bF rfl rfl)) (aL (af (bF rfl rfl)) (aL (af (bF rfl rfl)) (aL (af (bF rfl rfl)) (aL (iL rfl hal (by decide) rfl) bX))))))) (aL (af (bF rfl rfl)) bX)) (by exact dG _ _) ?_
  refine cF rfl (aD ?_)
  refine bV (⟨((jW (cK fl x.1 (dW fl x.1 (y.cells + 1))) p.1.1).ga fl, p.1.2 ++ [jW (cK fl x.1 (dW fl x.1 (y.cells + 1))) p.1.1]), (p.2.next hd hc6).1⟩) ?_ (by exact (p.2.next hd hc6).2.1)
  (refine c9.mk' ?_ ?_ <;> (repeat' (first | exact aH | exact aI | refine aB ?_ (Ty.aW _) | refine aB ?_ (Ty.aF _) | refine aG rfl (Cont.aF _) ?_ | refine aB ?_ ?_)))
  all_goals skip
  all_goals exact Ty.ah vY
 refine cQ (aR (aR (au rfl (aC ?_))))
 have hmp := pI (fl := fl) (a := x.1) (m := (min (over fl x.1 (dW fl x.1 (y.cells + 1))) (-over fl x.1 (eR fl x.1 (y.cells + 1) (cK fl x.1 (dW fl x.1 (y.cells + 1))))))) (Iw (by rw [s2]; exact s3) (by rw [t2]; exact t4)) p.1.2 p.2.inv.ways
 have hml := (qw (fl := fl) (a := x.1) (min (over fl x.1 (dW fl x.1 (y.cells + 1))) (-over fl x.1 (eR fl x.1 (y.cells + 1) (cK fl x.1 (dW fl x.1 (y.cells + 1)))))) p.1.2).1
 refine kK (tg := 81) [(12, Ty.sl fY p.1.2)] (by decide) rfl ⟨DB rfl, trivial⟩ ?_
 refine aA (jK rfl (gC rfl (bO rfl ?_)))
 refine cD [(1000, 1000)] [] [(1000, Cont.vec cj 3 (eC x.1 p.1.2 (fA fl x.1 (min (over fl x.1 (dW fl x.1 (y.cells + 1))) (-over fl x.1 (eR fl x.1 (y.cells + 1) (cK fl x.1 (dW fl x.1 (y.cells + 1)))))) p.1.2)))] (Ff y fl x.1 hF p.1.2 (by omega) (fun w hw => (p.2.inv.ways w hw).1) (fA fl x.1 (min (over fl x.1 (dW fl x.1 (y.cells + 1))) (-over fl x.1 (eR fl x.1 (y.cells + 1) (cK fl x.1 (dW fl x.1 (y.cells + 1)))))) p.1.2) (by omega)) rfl rfl (aJ (aJ (aJ bK (aO rfl rfl)) (aO rfl rfl)) (ew (aJ (aJ (aJ (aJ (aJ (aJ bK (ef (by exact List.mem_cons_self))) (aO rfl rfl)) (aO rfl rfl)) (aO rfl rfl)) (aO rfl rfl)) (aO rfl rfl)))) (cC (a := 1000) (b := 1000) (by exact List.mem_cons_self) rfl (cB (by exact List.mem_cons_self) rfl) pre_nil) (bL (a := 1000) (b := 1000) (by decide) rfl (cB (by decide) rfl) post_nil) (aO rfl rfl) ?_
 refine aD (bQ ?_)
 refine bV (⟨jy fl x.1 (dW fl x.1 (y.cells + 1)) (eR fl x.1 (y.cells + 1) (cK fl x.1 (dW fl x.1 (y.cells + 1)))), hnx.1⟩) ?_ (by exact hnx.2.less)
 (refine c9.mk' ?_ ?_ <;> (repeat' (first | exact aH | exact aI | refine aB ?_ (Ty.aW _) | refine aB ?_ (Ty.aF _) | refine aG rfl ?_ ?_)))
 all_goals skip
 all_goals exact Cont.dR (FP (p.2.end hc6))
end Go.Proofs.YtelbollidfdcjaaGreat
namespace Go.Proofs.YtelbollidfdcjaaGreat
open Go Go.T
section
variable {fl : List bw} {a : List Int} {n : Nat} {G : Nat → Int} {x : IN}
structure qO (fl : List bw) (a : List Int) (n : Nat) (G : Nat → Int) (x : IN) : Prop where
  inv : lG fl a n G x
  same : mW (lJ fl a n G) x = iH fl a n G
theorem MY (hn : 0 < n) : qO fl a n G ⟨0, 0, 0, Kc n⟩ := ⟨Jt hn, rfl⟩
theorem qO.r (h : qO fl a n G x) : ¬ n ≤ x.r := by have := h.inv.r; omega
theorem qO.round (h : qO fl a n G x) (hc : n ≤ x.c) (ha : ¬ x.st.at_ < 0) : qO fl a n G ⟨x.r + 1, 0, 0, ⟨x.st.worth, x.st.by_, -1⟩⟩ :=
 ⟨h.inv.round hc (fun e => ha (by rw [h.inv.last e]; decide)), by rw [← gj (tR h.r hc ha)]; exact h.same⟩
theorem qO.stop (h : qO fl a n G x) (hc : n ≤ x.c) (ha : x.st.at_ < 0) : cG fl a n G = [] := by
 refine tX ?_
 rw [← h.same]; exact iE (wH h.r hc ha)
theorem qO.cell (h : qO fl a n G x) (hc : ¬ n ≤ x.c) (hj : (bJ fl a x.c).length ≤ x.j) : qO fl a n G ⟨x.r, x.c + 1, 0, x.st⟩ :=
 ⟨h.inv.cell hc hj, by rw [← gj (v8 h.r hc hj)]; exact h.same⟩
theorem qO.no (h : qO fl a n G x) (hc : ¬ n ≤ x.c) (hj : ¬ (bJ fl a x.c).length ≤ x.j) (hg : kI fl G x.st x.c (nth (bJ fl a x.c) x.j) = false) : qO fl a n G ⟨x.r, x.c, x.j + 1, x.st⟩ :=
 ⟨h.inv.no hc hj hg, by rw [← gj (z8 h.r hc hj hg)]; exact h.same⟩
theorem qO.yes (hN : Net fl n) (hG : ∀ i, -1 ≤ G i ∧ G i ≤ 1) (h : qO fl a n G x) (hc : ¬ n ≤ x.c) (hj : ¬ (bJ fl a x.c).length ≤ x.j) (hg : kI fl G x.st x.c (nth (bJ fl a x.c) x.j) = true) (hr : ¬ x.r + 1 = n) : qO fl a n G ⟨x.r, x.c, x.j + 1, lH fl G x.st x.c (nth (bJ fl a x.c) x.j)⟩ :=
 ⟨h.inv.yes hN hG hc hj hg hr, by rw [← gj (xU h.r hc hj hg hr)]; exact h.same⟩
structure Found (fl : List bw) (a : List Int) (n : Nat) (G : Nat → Int) (st : qS) (v : Nat) : Prop where
  found : ∃ R T τ, Gh fl a n G (n - 1) st R T τ ∧ v < n ∧ R v = n
  at_ : st.at_ = v
  same : cG fl a n G = oJ fl st (fL (cA fl st) n v)
  len : st.by_.length = n
theorem qO.last (hN : Net fl n) (hG : ∀ i, -1 ≤ G i ∧ G i ≤ 1) (h : qO fl a n G x) (hc : ¬ n ≤ x.c) (hj : ¬ (bJ fl a x.c).length ≤ x.j) (hg : kI fl G x.st x.c (nth (bJ fl a x.c) x.j) = true) (hr : x.r + 1 = n) :
    ∃ v : Nat, Found fl a n G (lH fl G x.st x.c (nth (bJ fl a x.c) x.j)) v := by
  have h1 := h.inv.found hN hG hc hj hg hr
  have h2 : iH fl a n G = some (lH fl G x.st x.c (nth (bJ fl a x.c) x.j)) := by
    rw [← h.same]; exact iE (wC h.r hc hj hg hr)
  cases h1 with
  | some _ R T τ v h3 hv e hR =>
    refine ⟨v, ⟨R, T, τ, h3, hv, hR⟩, e, ?_, h3.len.2⟩
    rw [tW h2, e, Int.toNat_natCast]
theorem lG.small (h : lG fl a n G x) (hn : n ≤ 21) (hl : fl.length ≤ 34) : x.st.worth.length = n ∧ x.st.by_.length = n ∧ ∀ v, v < n → 0 ≤ nth x.st.worth v ∧ nth x.st.worth v ≤ 40000 := by
 obtain ⟨R, T, τ, h1, h2, _⟩ := h.gh
 refine ⟨h1.len.1, h1.len.2, fun v hv => ?_⟩
 have h3 := h1.le v hv
 have h4 := h.r
 have h5 := h.c
 have h6 := h.j.1
 have e1 : x.r * (n * (2 * fl.length)) ≤ 21 * (21 * 68) := Nat.mul_le_mul (by omega) (Nat.mul_le_mul hn (by omega))
 have e2 : x.c * (2 * fl.length) ≤ 21 * 68 := Nat.mul_le_mul (by omega) (by omega)
 omega
variable {st : qS} {v s p : Nat}
theorem Found.chain (hN : Net fl n) (h : Found fl a n G st v) {k : Nat} (hk : k < n) : fL (cA fl st) k v < n ∧ Open fl a (nth st.by_ (fL (cA fl st) k v)) ∧ (nth st.by_ (fL (cA fl st) k v)).ga fl = (fL (cA fl st) (k + 1) v : Nat) := by
 obtain ⟨R, T, τ, h1, h2, h3⟩ := h.found
 obtain ⟨a1, a2⟩ := zX hN h1 h2 h3 k (by omega)
 obtain ⟨b1, _⟩ := h1.way _ a1 (by omega)
 refine ⟨a1, b1, ?_⟩
 have := (hN.way b1.1).1
 show _ = ((((nth st.by_ (fL (cA fl st) k v)).ga fl).toNat : Nat) : Int)
 omega
structure Jd (fl : List bw) (a : List Int) (n : Nat) (st : qS) (s p : Nat) (x : Nat × List Way) : Prop where
  at_ : x.1 < n ∧ Open fl a (nth st.by_ x.1) ∧ (nth st.by_ x.1).ga fl = (cA fl st x.1 : Nat)
  ix : ∃ i, i ≤ p ∧ x.1 = fL (cA fl st) i s ∧ x.2.length = i
  same : mW (AL fl st s) x = oJ fl st s
theorem LP.ga {T : Nat → Nat} (hN : Net fl n) (h : LP fl a n G st T s) (t : Nat) : fL (cA fl st) t s < n ∧ Open fl a (nth st.by_ (fL (cA fl st) t s)) ∧ (nth st.by_ (fL (cA fl st) t s)).ga fl = (cA fl st (fL (cA fl st) t s) : Nat) := by
 refine ⟨h.at_ t, (h.way t).1, ?_⟩
 have := (hN.way (h.way t).1.1).1
 show _ = ((((nth st.by_ (fL (cA fl st) t s)).ga fl).toNat : Nat) : Int)
 omega
theorem Bo {x : Nat × List Way} (h : ¬ (¬ x.2 = [] ∧ x.1 = s)) : AL fl st s x = .inl (cA fl st x.1, x.2 ++ [nth st.by_ x.1]) := if_neg h
theorem CO {x : Nat × List Way} (h : ¬ x.2 = [] ∧ x.1 = s) : AL fl st s x = .inr x.2 := if_pos h
theorem Jd.next {T : Nat → Nat} (hN : Net fl n) (hC : LP fl a n G st T s) (hp : fL (cA fl st) p s = s) (hp1 : 1 ≤ p) {x : Nat × List Way} (h : Jd fl a n st s p x) (hc : ¬ (¬ x.2 = [] ∧ x.1 = s)) :
 Jd fl a n st s p (cA fl st x.1, x.2 ++ [nth st.by_ x.1]) ∧ x.2.length < p := by
 obtain ⟨i, h1, h2, h3⟩ := h.ix
 have hi : i < p := by
  by_cases e : i = p
  ·exfalso; apply hc
   subst e
   exact ⟨fun e => by rw [e] at h3; simp at h3; omega, h2.trans hp⟩
  omega
 have e : cA fl st x.1 = fL (cA fl st) (i + 1) s := by rw [h2]; rfl
 refine ⟨⟨?_, ⟨i + 1, hi, e, by rw [List.length_append, h3]; rfl⟩, ?_⟩, by omega⟩
 ·show cA fl st x.1 < n ∧ Open fl a (nth st.by_ (cA fl st x.1)) ∧ _ = ((cA fl st (cA fl st x.1) : Nat) : Int)
  rw [e]; exact hC.ga hN (i + 1)
 rw [← gj (Bo hc)]; exact h.same
theorem Jd.end {x : Nat × List Way} (h : Jd fl a n st s p x) (hc : ¬ x.2 = [] ∧ x.1 = s) : x.2 = oJ fl st s := by
 rw [← h.same]; exact (iE (CO hc)).symm
theorem Found.Mz (hN : Net fl n) (h : Found fl a n G st v) : ∃ T p, LP fl a n G st T (fL (cA fl st) n v) ∧ 1 ≤ p ∧ p ≤ n ∧ fL (cA fl st) p (fL (cA fl st) n v) = fL (cA fl st) n v ∧ Jd fl a n st (fL (cA fl st) n v) p (fL (cA fl st) n v, []) := by
 obtain ⟨R, T, τ, h1, h2, h3⟩ := h.found
 have hC := HF hN h1 h2 h3
 obtain ⟨p, p1, p2, p3⟩ := hC.back
 exact ⟨T, p, hC, p1, p2, p3, ⟨hC.ga hN 0, ⟨0, Nat.zero_le _, rfl, rfl⟩, rfl⟩⟩
structure Kj (fl : List bw) (n : Nat) (G : Nat → Int) (a b : List Int) : Prop where
  feas : gN fl n b
  same : mW (stepG fl n G) b = gI fl n G a
theorem Bn {b : List Int} (e : cG fl b n G = []) : stepG fl n G b = .inr b := if_pos e
theorem B8 {b : List Int} (e : ¬ cG fl b n G = []) : stepG fl n G b = .inl (eC b (cG fl b n G) (fA fl b 300 (cG fl b n G))) := if_neg e
theorem Kj.done {b : List Int} (h : Kj fl n G a b) (e : cG fl b n G = []) : b = gI fl n G a := by
 rw [← h.same]; exact (iE (Bn e)).symm
theorem Kj.next {b : List Int} (hN : Net fl n) (hn : 0 < n) (hB : Bd fl) (hG : ∀ i, -1 ≤ G i ∧ G i ≤ 1) (h : Kj fl n G a b) (e : ¬ cG fl b n G = []) :
 Kj fl n G a (eC b (cG fl b n G) (fA fl b 300 (cG fl b n G))) ∧ (300 * fl.length - kG fl G (eC b (cG fl b n G) (fA fl b 300 (cG fl b n G)))).toNat < (300 * fl.length - kG fl G b).toNat ∧ Dr fl b n G (cG fl b n G) := by
 rcases tO (a := b) hN hn hG with ⟨e', _⟩ | hc
 ·exact absurd e' e
 have hb := tV h.feas hc
 refine ⟨⟨hb.feas, ?_⟩, ?_, hc⟩
 ·rw [← h.same]; exact (gj (B8 e)).symm
 have h1 := hb.more
 have h2 := Cr hB hb.feas.1 hG
 omega
end
def iO (has : Nat → Bool) (x : List Int) (k : Nat) : Int := cg (fun i => if has i = true then nth x i else 0) k
theorem En {has : Nat → Bool} {x : List Int} {k : Nat} (h : has k = true) : iO has x k + nth x k = iO has x (k + 1) := by
 show _ = iO has x k + (if _ then _ else _); rw [if_pos h]
theorem GP {has : Nat → Bool} {x : List Int} {k : Nat} (h : has k = false) : iO has x k = iO has x (k + 1) := by
 show _ = iO has x k + (if _ then _ else _); rw [if_neg (by rw [h]; decide)]; omega
theorem Ew {has : Nat → Bool} {x : List Int} {k : Nat} (h : ∀ i, i < k → 0 ≤ nth x i ∧ nth x i ≤ 300) : -(300 * (k : Int)) ≤ iO has x k ∧ iO has x k ≤ 300 * k := by
 refine qu (b := 300) fun i hi => ?_
 have := h i hi
 split <;> omega
theorem FW {has : Nat → Bool} {less : Bool} {i : Nat} (h : has i = false) : cy has less i = 0 := by unfold cy; rw [h]; cases less <;> rfl
theorem yS {has : Nat → Bool} {less : Bool} {i : Nat} (h : has i = true) : cy has less i = if less = true then -1 else 1 := by unfold cy; rw [h]; cases less <;> rfl
theorem Ip {has : Nat → Bool} {less : Bool} {w : Way} (h : has w.ix = false) : 0 = fW (cy has less) w := by
 unfold fW wV; rw [FW h]; cases w.more <;> rfl
theorem JI {has : Nat → Bool} {less : Bool} {w : Way} (h : has w.ix = true) (e : w.more ≠ less) : 1 = fW (cy has less) w := by
 unfold fW wV; rw [yS h]
 cases hm : w.more <;> cases hl : less <;> first | rfl | exact absurd (hm.trans hl.symm) e
theorem IJ {has : Nat → Bool} {less : Bool} {w : Way} (h : has w.ix = true) (e : w.more = less) : -1 = fW (cy has less) w := by
 unfold fW wV; rw [yS h, e]
 cases less <;> rfl
end Go.Proofs.YtelbollidfdcjaaGreat
namespace Go.Proofs.YtelbollidfdcjaaGreat
open Go Go.T
set_option maxHeartbeats 16000000
theorem MK : Tryz.prog.underlying 4 = some .bool := Tryz.underlying4
section
variable {fl : List bw} {a : List Int} {n : Nat} {G : Nat → Int} {st : qS} {r c j : Nat} {w : Way}
def mZ (fl : List bw) (G : Nat → Int) (st : qS) (c : Nat) (w : Way) : qS := if kI fl G st c w = true then lH fl G st c w else st
theorem ot (h : nth st.worth c + fW G w > nth st.worth (w.fin fl).toNat) : mZ fl G st c w = lH fl G st c w := if_pos (decide_eq_true h)
theorem qz (h : ¬ nth st.worth c + fW G w > nth st.worth (w.fin fl).toNat) : mZ fl G st c w = st := if_neg (by rw [show kI fl G st c w = false from decide_eq_false h]; decide)
theorem qO.Kz (hN : Net fl n) (hG : ∀ i, -1 ≤ G i ∧ G i ≤ 1) (h : qO fl a n G ⟨r, c, j, st⟩) (hc : c < n) (hj : j < (bJ fl a c).length) (hg : nth st.worth c + fW G (nth (bJ fl a c) j) > nth st.worth ((nth (bJ fl a c) j).fin fl).toNat) (hr : ¬ (r : Int) = n - 1) : qO fl a n G ⟨r, c, j + 1, mZ fl G st c (nth (bJ fl a c) j)⟩ := by
 rw [ot hg]; exact h.yes hN hG (Nat.not_le.2 hc) (Nat.not_le.2 hj) (decide_eq_true hg) (by show ¬ r + 1 = n; intro e; apply hr; rw [← e]; show (r : Int) = ((r + 1 : Nat) : Int) - 1; omega)
theorem qO.MO (h : qO fl a n G ⟨r, c, j, st⟩) (hc : c < n) (hj : j < (bJ fl a c).length) (hg : ¬ nth st.worth c + fW G (nth (bJ fl a c) j) > nth st.worth ((nth (bJ fl a c) j).fin fl).toNat) : qO fl a n G ⟨r, c, j + 1, mZ fl G st c (nth (bJ fl a c) j)⟩ := by
 rw [qz hg]; exact h.no (Nat.not_le.2 hc) (Nat.not_le.2 hj) (decide_eq_false hg)
theorem Lz (h : nth st.worth c + fW G w > nth st.worth (w.fin fl).toNat) : st.worth.set (w.fin fl).toNat (nth st.worth c + fW G w) = (mZ fl G st c w).worth := by rw [ot h]; rfl
theorem Lo (h : nth st.worth c + fW G w > nth st.worth (w.fin fl).toNat) : st.by_.set (w.fin fl).toNat w = (mZ fl G st c w).by_ := by rw [ot h]; rfl
theorem Lq (h : nth st.worth c + fW G w > nth st.worth (w.fin fl).toNat) : w.fin fl = (mZ fl G st c w).at_ := by rw [ot h]; rfl
theorem Ld (h : ¬ nth st.worth c + fW G w > nth st.worth (w.fin fl).toNat) : st.worth = (mZ fl G st c w).worth := by rw [qz h]
theorem ME (h : ¬ nth st.worth c + fW G w > nth st.worth (w.fin fl).toNat) : st.by_ = (mZ fl G st c w).by_ := by rw [qz h]
theorem L8 (h : ¬ nth st.worth c + fW G w > nth st.worth (w.fin fl).toNat) : st.at_ = (mZ fl G st c w).at_ := by rw [qz h]
theorem qO.hit (hN : Net fl n) (hG : ∀ i, -1 ≤ G i ∧ G i ≤ 1) (h : qO fl a n G ⟨r, c, j, st⟩) (hc : c < n) (hj : j < (bJ fl a c).length) (hg : nth st.worth c + fW G (nth (bJ fl a c) j) > nth st.worth ((nth (bJ fl a c) j).fin fl).toNat) (hr : (r : Int) = n - 1) :
 ∃ (v : Nat) (s' : qS), st.worth.set ((nth (bJ fl a c) j).fin fl).toNat (nth st.worth c + fW G (nth (bJ fl a c) j)) = s'.worth ∧ st.by_.set ((nth (bJ fl a c) j).fin fl).toNat (nth (bJ fl a c) j) = s'.by_ ∧ (nth (bJ fl a c) j).fin fl = ((v : Nat) : Int) ∧ Found fl a n G s' v := by
 obtain ⟨v, hv⟩ := h.last hN hG (Nat.not_le.2 hc) (Nat.not_le.2 hj) (decide_eq_true hg) (by show r + 1 = n; have := h.inv.r; omega)
 exact ⟨v, _, rfl, rfl, hv.at_, hv⟩
theorem Jp {e : List Way} {s : Nat} (h : (decide ((e.length : Int) = 0) || !decide ((c : Int) = (s : Int))) = true) : ¬ (¬ e = [] ∧ c = s) := by
 rintro ⟨h1, h2⟩
 have h3 : (e.length : Int) ≠ 0 := fun h => h1 (List.length_eq_zero_iff.1 (by omega))
 rw [decide_eq_false h3, decide_eq_true (by omega)] at h; cases h
theorem MP {e : List Way} {s : Nat} (h : (decide ((e.length : Int) = 0) || !decide ((c : Int) = (s : Int))) = false) : ¬ e = [] ∧ c = s := by
 rw [Bool.or_eq_false_iff] at h
 refine ⟨fun e0 => ?_, ?_⟩
 ·subst e0; exact absurd h.1 (by decide)
 have := of_decide_eq_true (ff h.2 : decide ((c : Int) = (s : Int)) = true); omega
theorem Lj {e : List Way} {p : Nat} (h : e.length < p) : p - (e ++ [w]).length < p - e.length := by rw [List.length_append]; show p - (e.length + 1) < _; omega
theorem Mx {s p : Nat} {x : Nat × List Way} (h : Jd fl a n st s p x) (hc : ¬ x.2 = [] ∧ x.1 = s) : oJ fl st s ≠ [] := by rw [← h.end hc]; exact hc.1
end
attribute [local irreducible] aQ gU Way.ga Way.fin Way.room eP eC eo gF over bJ cK dW eR jG fA gb jy cU gB fX fW cy cG gI oJ iH mZ lH
attribute [local irreducible] iw fu nh ru jS jR jO jN jQ rZ jL rj eO gy rY g9 rX nth fT dg aq eA bodyPost Exit.then Exit.inBlock Code.wp Code.wpIn rm jU rq rW jP eT ct cx bodyPostM eU
set_option maxRecDepth 100000 in
theorem mR (y : bB) (fl : List bw) (a : List Int) (h : Gw y fl a) : eT Tryz.prog 119 [1000] [(1000, Cont.vec cj 3 a)] [Ty.pp (eF y fl 1000 fl.length)] [(1000, Cont.vec cj 3 (cU fl (y.cells + 1) a).2.2)] (Ty.bool (!(cU fl (y.cells + 1) a).2.1)) := by
 refine dj Tryz.func119 rfl (by decide) Tryz.ntmps119 (by exact Nat.le_of_ble_eq_true rfl) fun w0 M0 => ?_
 refine aE (aA (dZ rfl (aD (aC (aE (aA (jK rfl ?_)))))))
 refine cD [(1000, 1000)] [] [(1000, Cont.vec cj 3 (cU fl (y.cells + 1) a).2.2)] (Ic y fl a h) rfl rfl (aJ bK (ew (aJ (aJ (aJ (aJ (aJ (aJ bK (ef (by exact List.mem_cons_self))) (aO rfl rfl)) (aO rfl rfl)) (aO rfl rfl)) (aO rfl rfl)) (aO rfl rfl)))) (cC (a := 1000) (b := 1000) (by exact List.mem_cons_self) rfl (cB (by exact List.mem_cons_self) rfl) pre_nil) (bL (a := 1000) (b := 1000) (by decide) rfl (cB (by decide) rfl) post_nil) (aO rfl rfl) ?_
 refine sX rfl (bR rfl rfl (bR rfl rfl (cF rfl (dZ rfl (aD (aC (aE (aA (gO rfl ?_)))))))))
 refine dn rfl (dZ rfl (aD (aC (bC ?_))))
 refine fm [1000] rfl rfl (by decide) (by repeat (first | exact fB | refine eD rfl (cB (by decide) rfl) ?_)) ?_
 all_goals exact fQ (aO rfl rfl)
set_option maxRecDepth 100000 in
theorem DC (th : Ty) (h1 : th.deps = []) (h2 : th.cdeps = []) (has : Nat → Bool) (less : Bool) (w : Way) (hf : nj Tryz.prog (Ty.nd th h1 h2) [Ty.int .i64 ((w.ix : Nat) : Int)] (Ty.bool (has w.ix))) : eA Tryz.prog 202 [Ty.agg [Ty.nd th h1 h2, Ty.bool less], Ty.agg (fY.tys w)] (Ty.int .i64 (fW (cy has less) w)) := by
 refine az Tryz.func202 rfl (by decide) Tryz.ntmps202 (by exact Nat.le_of_ble_eq_true rfl) fun w0 M0 => ?_
 refine aE (aA (bM rfl (bM rfl (cF rfl (aD (aC (aE (aE (aA ?_)))))))))
 refine aS rfl rfl rfl rfl rfl (by decide) ?_
 refine aM rfl rfl rfl rfl ?_
 refine aS rfl rfl rfl rfl rfl (by decide) ?_
 refine aM rfl rfl rfl rfl (eV rfl hf rfl (dn rfl (aD (aC ?_))))
 refine cW rfl (fun hc1 => ?_) (fun hc1 => ?_)
 ·
  refine aE (aA (cF rfl (aD (aC (bC (aX (bl rfl rfl ?_)))))))
  all_goals skip
  all_goals exact bE rfl rfl (congrArg (Ty.int .i64) (Ip (pQ hc1)))
 refine aj (aC (aE (aE (aA ?_))))
 refine aS rfl rfl rfl rfl rfl (by decide) ?_
 refine aM rfl rfl rfl rfl ?_
 refine aS rfl rfl rfl rfl rfl (by decide) ?_
 refine aM rfl rfl rfl rfl (DI MK rfl rfl (aD (aC ?_)))
 refine dL rfl (fun hc2 => ?_) (fun hc2 => ?_)
 ·
  refine aE (aA (cF rfl (aD (aC (bC (aX (bl rfl rfl ?_)))))))
  all_goals skip
  all_goals exact bE rfl rfl (congrArg (Ty.int .i64) (JI (ff hc1) hc2))
 refine aj (aC (aE (aA (cF rfl (aD (aC (bC (bl rfl rfl ?_))))))))
 all_goals skip
 all_goals exact bE rfl rfl (congrArg (Ty.int .i64) (IJ (ff hc1) hc2))
set_option maxRecDepth 100000 in
theorem Hr (y : bB) (fl : List bw) (a : List Int) (h : kg y fl a) (th : Ty) (h1 : th.deps = []) (h2 : th.cdeps = []) (has : Nat → Bool) (hf : ∀ i, i < fl.length → nj Tryz.prog (Ty.nd th h1 h2) [Ty.int .i64 ((i : Nat) : Int)] (Ty.bool (has i))) (less : Bool) : eT Tryz.prog 195 [1000] [(1000, Cont.vec cj 3 a)] [Ty.pp (eF y fl 1000 fl.length), Ty.agg [Ty.nd th h1 h2, Ty.bool less]] [(1000, Cont.vec cj 3 a)] (Ty.FB fY (cG fl a (y.cells + 1) (cy has less))) := by
 refine dj Tryz.func195 rfl (by decide) Tryz.ntmps195 (by exact Nat.le_of_ble_eq_true rfl) fun w0 M0 => ?_
 have hal := h.inb.1
 have hN := h.net
 have hfl := h.nk
 have hcl := mU h.right
 have hG := rM (has := has) less
 refine aE (aA (bM rfl (mI rfl (aD (aC (JO (aE (aA (jK rfl ?_)))))))))
 refine dV [] (qc y h.right) rfl (aL (mX (l1 := bk y) (l2 := [Ty.sl dh fl, Ty.vs 1000 fl.length]) rfl rfl) bX) (by exact dG _ _) ?_
 refine bg rfl rfl (by omega) (by omega) ?_
 refine cF rfl (aD (aC (aE (cN mixed rfl (bO rfl ?_)))))
 refine oa (E := cj) (x0 := 0) rfl rfl rfl rfl rfl rfl rfl (by decide) rfl (by omega) (by (dsimp only; omega)) (by omega) ?_
 refine bO rfl ?_
 refine oa (E := fY) (x0 := default) rfl rfl rfl rfl rfl rfl rfl (by decide) rfl (by omega) (by (dsimp only; omega)) (by omega) ?_
 refine Ll rfl (Ll rfl (aD ?_))
 refine ⟨by kernel_rfl, ?_⟩
 refine aC (aE (aA (jK rfl ?_)))
 refine cD [(1000, 1000)] [] [(1000, Cont.vec cj 3 a)] (FY y fl a h) rfl rfl (aJ bK (ew (aJ (aJ (aJ (aJ (aJ (aJ bK (ef (by exact List.mem_cons_self))) (aO rfl rfl)) (aO rfl rfl)) (aO rfl rfl)) (aO rfl rfl)) (aO rfl rfl)))) (cC (a := 1000) (b := 1000) (by exact List.mem_cons_self) rfl (cB (by exact List.mem_cons_self) rfl) pre_nil) (bL (a := 1000) (b := 1000) (by decide) rfl (cB (by decide) rfl) post_nil) (aO rfl rfl) ?_
 refine KD rfl (aD (aC (aE (aA (cF rfl (aD (aC (aE (JA ?_)))))))))
 refine aC (aE (aE (aA (bO rfl (bO rfl (aD (aC (ak ?_))))))))
 refine cV (fun (x : {x : Nat × qS // qO fl a (y.cells + 1) (cy has less) ⟨x.1, 0, 0, x.2⟩ ∧ x.2.at_ = -1}) => live [(0, Ty.pp (eF y fl 1000 fl.length)), (3, Ty.pp [Ty.nd th h1 h2, Ty.bool less]), (5, Ty.int .i64 ((y.cells + 1) : Nat)), (6, Ty.vs 23 (y.cells + 1)), (7, Ty.vs 25 (y.cells + 1)), (8, Ty.pm KI.enc (Gm fY) (eP fl a fl.length)), (27, Ty.int .i64 ((y.cells + 1) : Nat)), (28, Ty.int .i64 ((x.1.1 : Nat) : Int))] [(1000, Cont.vec cj 3 a), (23, Cont.vec cj 3 x.1.2.worth), (25, Cont.vec fY 199 x.1.2.by_)]) (fun x => (y.cells + 1) - x.1.1) (⟨(0, Kc (y.cells + 1)), MY (by omega), rfl⟩) ?_ fun x => ?_
 ·(refine c9.mk' ?_ ?_ <;> (repeat' (first | exact aH | exact aI | refine aB ?_ (Ty.aW _) | refine aB ?_ (Ty.aF _) | refine aG rfl (Cont.aF _) ?_)))
 have hxr : x.1.1 < (y.cells + 1) := x.2.1.inv.r
 have hxs : x.1.2.worth.length = (y.cells + 1) ∧ x.1.2.by_.length = (y.cells + 1) := ⟨(x.2.1.inv.small (by omega) hfl).1, (x.2.1.inv.small (by omega) hfl).2.1⟩
 refine aE (aA (bD rfl rfl rfl (aD (aC (aE ?_)))))
 refine oy rfl (decide_eq_true (by show ((x.1.1 : Nat) : Int) < ((y.cells + 1) : Nat); have : x.1.1 < (y.cells + 1) := hxr; omega)) ?_
 refine aj (aC (aE (ak (aE (aA (bO rfl (cF rfl (aD (aC ?_)))))))))
 refine aE (aA (cF rfl (aD (aC (aE (aE (aA (bO rfl (bO rfl ?_)))))))))
 refine aD (aC (ak ?_))
 refine cV (fun (z : {z : Nat × qS // qO fl a (y.cells + 1) (cy has less) ⟨x.1.1, z.1, 0, z.2⟩}) => live [(0, Ty.pp (eF y fl 1000 fl.length)), (3, Ty.pp [Ty.nd th h1 h2, Ty.bool less]), (5, Ty.int .i64 ((y.cells + 1) : Nat)), (6, Ty.vs 23 (y.cells + 1)), (7, Ty.vs 25 (y.cells + 1)), (8, Ty.pm KI.enc (Gm fY) (eP fl a fl.length)), (9, Ty.int .i64 z.1.2.at_), (10, Ty.int .i64 ((x.1.1 : Nat) : Int)), (27, Ty.int .i64 ((y.cells + 1) : Nat)), (28, Ty.int .i64 ((x.1.1 : Nat) : Int)), (31, Ty.int .i64 ((y.cells + 1) : Nat)), (32, Ty.int .i64 ((z.1.1 : Nat) : Int))] [(1000, Cont.vec cj 3 a), (23, Cont.vec cj 3 z.1.2.worth), (25, Cont.vec fY 199 z.1.2.by_)]) (fun z => (y.cells + 1) - z.1.1) (⟨(0, x.1.2), x.2.1⟩) ?_ fun z => ?_
 ·(refine c9.mk' ?_ ?_ <;> (repeat' (first | exact aH | exact aI | refine aB ?_ (Ty.aW _) | refine aB ?_ (Ty.aF _) | refine aG rfl (Cont.aF _) ?_ | refine aB ?_ ?_)))
  all_goals exact Ty.ah x.2.2.symm
 have hzc : z.1.1 ≤ (y.cells + 1) := z.2.inv.c
 have hzs : z.1.2.worth.length = (y.cells + 1) ∧ z.1.2.by_.length = (y.cells + 1) := ⟨(z.2.inv.small (by omega) hfl).1, (z.2.inv.small (by omega) hfl).2.1⟩
 refine aE (aA (bD rfl rfl rfl (aD (aC (aE ?_)))))
 refine av rfl (fun hc2 => ?_) (fun hc2 => ?_)
 ·
  refine aj (aC (aE (ak (aE (aA (bO rfl (cF rfl (aD (aC ?_)))))))))
  refine aE (aA (KT rfl (bO rfl ?_)))
  refine xx KI (z0 := []) rfl rfl (tw _) mq uZ Aj ?_
  refine cz (E := fY) (xs := nY (eP fl a fl.length) ((z.1.1 : Nat) : Int)) rfl rfl rfl ?_
  refine bO rfl (aD (aC ?_))
  refine gl (s := 37) rfl (show (Ty.sl fY (nY (eP fl a fl.length) ((z.1.1 : Nat) : Int))).Sub (Ty.sl fY (bJ fl a z.1.1)) from Ty.fG q8) ?_
  refine gl (s := 38) rfl (Ty.ah (congrArg (fun l : List Way => ((l.length : Nat) : Int)) (q8 (c := ((z.1.1 : Nat) : Int))))) ?_
  refine ak ?_
  refine cV (fun (u : {u : Nat × qS // qO fl a (y.cells + 1) (cy has less) ⟨x.1.1, z.1.1, u.1, u.2⟩}) => live [(0, Ty.pp (eF y fl 1000 fl.length)), (3, Ty.pp [Ty.nd th h1 h2, Ty.bool less]), (5, Ty.int .i64 ((y.cells + 1) : Nat)), (6, Ty.vs 23 (y.cells + 1)), (7, Ty.vs 25 (y.cells + 1)), (8, Ty.pm KI.enc (Gm fY) (eP fl a fl.length)), (9, Ty.int .i64 u.1.2.at_), (10, Ty.int .i64 ((x.1.1 : Nat) : Int)), (11, Ty.int .i64 ((z.1.1 : Nat) : Int)), (27, Ty.int .i64 ((y.cells + 1) : Nat)), (28, Ty.int .i64 ((x.1.1 : Nat) : Int)), (31, Ty.int .i64 ((y.cells + 1) : Nat)), (32, Ty.int .i64 ((z.1.1 : Nat) : Int)), (37, Ty.sl fY (bJ fl a z.1.1)), (38, Ty.int .i64 (bJ fl a z.1.1).length), (39, Ty.int .i64 ((u.1.1 : Nat) : Int))] [(1000, Cont.vec cj 3 a), (23, Cont.vec cj 3 u.1.2.worth), (25, Cont.vec fY 199 u.1.2.by_)]) (fun u => (bJ fl a z.1.1).length - u.1.1) (⟨(0, z.1.2), z.2⟩) ?_ fun u => ?_
  ·(refine c9.mk' ?_ ?_ <;> (repeat' (first | exact aH | exact aI | refine aB ?_ (Ty.aW _) | refine aB ?_ (Ty.aF _) | refine aG rfl (Cont.aF _) ?_)))
  have hus : u.1.2.worth.length = (y.cells + 1) ∧ u.1.2.by_.length = (y.cells + 1) ∧ ∀ v, v < (y.cells + 1) → 0 ≤ nth u.1.2.worth v ∧ nth u.1.2.worth v ≤ 40000 := u.2.inv.small (by omega) hfl
  have hwl := oT (fl := fl) (a := a) (c := ((z.1.1 : Nat) : Int))
  refine aE (aA (bD rfl rfl rfl (aD (aC (aE ?_)))))
  refine av rfl (fun hc3 => ?_) (fun hc3 => ?_)
  ·
   refine aj (aC (aE (ak (aE ?_))))
   have hzn : z.1.1 < (y.cells + 1) := by omega
   have hun : u.1.1 < (bJ fl a z.1.1).length := by omega
   have hwo := (mE.1 (cM (xs := bJ fl a z.1.1) (k := u.1.1) hun)).1
   have hwj := hwo
   have hwf := (hN.way hwo.1).2
   have haw := Df hG (nth (bJ fl a z.1.1) u.1.1)
   have hu1 := hus.2.2 z.1.1 hzn
   have hu2 := hus.2.2 ((nth (bJ fl a z.1.1) u.1.1).fin fl).toNat (by omega)
   refine aA ?_
   refine bN rfl rfl rfl rfl rfl rfl (by omega) ?_
   refine aa rfl rfl rfl (by exact Nat.le_of_ble_eq_true rfl) ?_
   refine bz rfl (by exact List.cons_ne_nil _ _) rfl ?_
   refine bu rfl rfl (by decide) rfl rfl rfl rfl rfl rfl ?_
   refine aD (aC (aE (aA (jK rfl ?_))))
   refine bT rfl rfl (by decide) rfl rfl (by exact Nat.le_of_ble_eq_true rfl) ?_
   refine dV [1000] (DG y fl a h (nth (bJ fl a z.1.1) u.1.1) hwj.1) rfl (aL (jt (aL (af (bF rfl rfl)) (aL (af (bF rfl rfl)) (aL (af (bF rfl rfl)) (aL (af (bF rfl rfl)) (aL (af (bF rfl rfl)) (aL (iL rfl hal (by decide) rfl) bX))))))) (aL (af (bF rfl rfl)) bX)) (by exact oc (by repeat (first | exact o9 | refine mw (by exact dG _ _) ?_))) ?_
   refine sX rfl (bR rfl rfl (bR rfl rfl (cF rfl (cF rfl (aD (aC (aE (cN mixed rfl (Bj rfl ?_)))))))))
   refine bO rfl ?_
   refine dF rfl rfl rfl rfl rfl (by omega) ?_
   refine dY rfl rfl rfl (by decide) rfl rfl (by omega) rfl ?_
   refine aa rfl rfl rfl (by exact Nat.le_of_ble_eq_true rfl) ?_
   refine bT rfl rfl (by decide) rfl rfl (by exact Nat.le_of_ble_eq_true rfl) ?_
   refine ay (DC th h1 h2 has less (nth (bJ fl a z.1.1) u.1.1) (hf _ hwj.1)) rfl rfl rfl rfl rfl ?_
   refine bg rfl rfl (by omega) (by omega) ?_
   refine Bj rfl (bO rfl ?_)
   refine gP rfl rfl rfl rfl rfl (by omega) (by omega) ?_
   refine dY rfl rfl rfl (by decide) rfl rfl (by omega) rfl ?_
   refine bD rfl rfl rfl (aD ?_)
   refine ⟨by kernel_rfl, ?_⟩
   refine aC ?_
   refine av rfl (fun hc4 => ?_) (fun hc4 => ?_)
   ·
    refine aE (cN mixed rfl (Bj rfl (bO rfl (Bj rfl (bO rfl (Bj rfl (bO rfl ?_)))))))
    refine dF rfl rfl rfl rfl rfl (by omega) ?_
    refine dY rfl rfl rfl (by decide) rfl rfl (by omega) rfl ?_
    refine aa rfl rfl rfl (by exact Nat.le_of_ble_eq_true rfl) ?_
    refine bT rfl rfl (by decide) rfl rfl (by exact Nat.le_of_ble_eq_true rfl) ?_
    refine ay (DC th h1 h2 has less (nth (bJ fl a z.1.1) u.1.1) (hf _ hwj.1)) rfl rfl rfl rfl rfl ?_
    refine bg rfl rfl (by omega) (by omega) ?_
    refine bT rfl rfl (by decide) rfl rfl (by exact Nat.le_of_ble_eq_true rfl) ?_
    refine bO rfl ?_
    refine gP rfl rfl rfl rfl rfl (by omega) (by omega) ?_
    refine gT rfl rfl rfl (by decide) rfl rfl (by exact (rfl : _ = Ty.int _ _)) rfl (by omega) (by decide) rfl rfl ?_
    refine gP rfl rfl rfl rfl rfl (by omega) (by omega) ?_
    refine zY (E := fY) (z := (nth (bJ fl a z.1.1) u.1.1)) ((nth (bJ fl a z.1.1) u.1.1).fin fl).toNat rfl rfl rfl (by decide) rfl rfl rfl (by omega) ?_
    refine cF rfl (aD ?_)
    refine ⟨by kernel_rfl, ?_⟩
    refine aC (aE (aA (bO rfl (bO rfl ?_))))
    refine fU rfl rfl (by omega) (by omega) ?_
    refine bD rfl rfl rfl (aD (aC ?_))
    refine av rfl (fun hc5 => ?_) (fun hc5 => ?_)
    ·
     refine cQ (fk rfl (aR (aR (fk rfl (fk rfl (aR (aR (fk rfl (aR ?_)))))))))
     refine fk rfl (aR (aR (au rfl (aC (aE (aE ?_))))))
     obtain ⟨v, st, e1, e2, e3, hFd⟩ := u.2.hit hN hG hzn hun hc4 hc5
     obtain ⟨T, p, hC, p1, p2, p3, hX⟩ := hFd.Mz hN
     refine gL (tg := 25) rfl (Cont.dR e2) ?_
     refine gl (s := 9) rfl (Ty.ah e3) ?_
     refine aA (bO rfl (bO rfl (aD (aC (ak ?_)))))
     refine cV (fun (i : {i : Nat // i ≤ (y.cells + 1)}) => live [(0, Ty.pp (eF y fl 1000 fl.length)), (5, Ty.int .i64 ((y.cells + 1) : Nat)), (7, Ty.vs 25 (y.cells + 1)), (9, Ty.int .i64 ((fL (cA fl st) i.1 v : Nat) : Int)), (87, Ty.int .i64 ((y.cells + 1) : Nat)), (88, Ty.int .i64 ((i.1 : Nat) : Int))] [(1000, Cont.vec cj 3 a), (25, Cont.vec fY 199 st.by_)]) (fun i => (y.cells + 1) - i.1) (⟨0, by omega⟩) ?_ fun i => ?_
     ·(refine c9.mk' ?_ ?_ <;> (repeat' (first | exact aH | exact aI | refine aB ?_ (Ty.aW _) | refine aB ?_ (Ty.aF _) | refine aG rfl (Cont.aF _) ?_)))
     refine aE (aA (bD rfl rfl rfl (aD (aC (aE ?_)))))
     refine av rfl (fun hc6 => ?_) (fun hc6 => ?_)
     ·
      refine aj (aC (aE (ak ?_)))
      have hch := hFd.chain hN (k := i.1) (by omega)
      have hbl := hFd.len
      refine aA (jK rfl (Bj rfl (bO rfl ?_)))
      refine dF rfl rfl rfl rfl rfl (by omega) ?_
      refine oV (fL (cA fl st) i.1 v) rfl rfl rfl (by decide) rfl rfl rfl (by omega) ?_
      refine dV [1000] (zC y fl a (nth st.by_ (fL (cA fl st) i.1 v)) hch.2.1.1) rfl (aL (jt (aL (af (bF rfl rfl)) (aL (af (bF rfl rfl)) (aL (af (bF rfl rfl)) (aL (af (bF rfl rfl)) (aL (af (bF rfl rfl)) (aL (iL rfl hal (by decide) rfl) bX))))))) (aL (af (bF rfl rfl)) bX)) (by exact dG _ _) ?_
      refine cF rfl (aD (bQ (aC (aA ?_))))
      refine bg rfl rfl (by omega) (by omega) ?_
      refine bO rfl (aD ?_)
      refine bV (⟨i.1 + 1, by omega⟩) ?_ (by show (y.cells + 1) - (i.1 + 1) < (y.cells + 1) - i.1; omega)
      (refine c9.mk' ?_ ?_ <;> (repeat' (first | exact aH | exact aI | refine aB ?_ (Ty.aW _) | refine aB ?_ (Ty.aF _) | refine aG rfl (Cont.aF _) ?_ | refine aB ?_ ?_)))
      all_goals skip
      all_goals exact Ty.ah hch.2.2
     refine cQ (aR (aR (au rfl (aC (aE ?_)))))
     have hbl := hFd.len
     have hin : i.1 = (y.cells + 1) := by have := i.2; omega
     refine gl (s := 9) rfl (Ty.ah (by rw [hin] : _ = ((fL (cA fl st) (y.cells + 1) v : Nat) : Int))) ?_
     refine aA (mI rfl (aD (aC (aE (aE (aA (bO rfl (cF rfl (aD ?_)))))))))
     refine aC (ak ?_)
     refine cV (fun (c : {c : Nat × List Way // Jd fl a (y.cells + 1) st (fL (cA fl st) (y.cells + 1) v) p c}) => live [(0, Ty.pp (eF y fl 1000 fl.length)), (7, Ty.vs 25 (y.cells + 1)), (9, Ty.int .i64 ((fL (cA fl st) (y.cells + 1) v : Nat) : Int)), (16, Ty.row fY 199 118 c.1.2), (17, Ty.int .i64 ((c.1.1 : Nat) : Int))] [(1000, Cont.vec cj 3 a), (25, Cont.vec fY 199 st.by_)]) (fun c => p - c.1.2.length) (⟨(fL (cA fl st) (y.cells + 1) v, []), hX⟩) ?_ fun c => ?_
     ·(refine c9.mk' ?_ ?_ <;> (repeat' (first | exact aH | exact aI | refine aB ?_ (Ty.aW _) | refine aB ?_ (Ty.aF _) | refine aB ?_ Ty.lU | refine aG rfl (Cont.aF _) ?_)))
      all_goals trace_state
     have hcx := c.2.at_
     have hci : c.1.2.length ≤ p := by obtain ⟨i, i1, _, i3⟩ := c.2.ix; omega
     refine aE (aE (aA (J6 rfl (mJ rfl rfl rfl (bD rfl rfl rfl (gO rfl ?_))))))
     apply aT (s := 101) rfl rfl rfl
     ·intro hg; apply aU; (refine bO rfl ?_); refine aD ?_; exact rfl
     ·exact rfl
     ·exact rfl
     apply aT (s := 101) rfl rfl rfl
     ·intro hg; apply aU; (refine bO rfl ?_); refine aD ?_; exact rfl
     ·exact rfl
     ·exact rfl
     apply aT (s := 101) rfl rfl rfl
     ·intro hg; apply aN (s := 102) rfl (by (rw [hg]; rfl)); apply aN (s := 103) rfl (by (rw [hg]; rfl)); apply aU; (refine bD rfl rfl rfl ?_); refine aD ?_; exact rfl
     ·exact rfl
     ·exact rfl
     refine n4 rfl rfl (aD (aC ?_))
     refine cW rfl (fun hc7 => ?_) (fun hc7 => ?_)
     ·
      refine aj (aC (aE (ak (aA (J6 rfl (Bj rfl (bO rfl ?_)))))))
      refine dF rfl rfl rfl rfl rfl (by omega) ?_
      refine oV c.1.1 rfl rfl rfl (by decide) rfl rfl rfl (by omega) ?_
      refine bp (E := fY) (xs := [_]) rfl rfl rfl rfl rfl (by decide) (by decide) (by repeat (first | exact (aY.nil : aY _ _ [] _) | (show aY _ _ ((_, _) :: _) _; apply aY.agg; (· exact (rfl : _ = Ty.agg _))))) (by exact rfl) rfl ?_
      refine fO rfl rfl (by decide) rfl rfl rfl rfl rfl rfl (by decide) (by (simp <;> omega)) (by (simp <;> omega)) ?_
      refine G4 rfl (aD (bQ (aC (aA (jK rfl (Bj rfl (bO rfl ?_)))))))
      refine dF rfl rfl rfl rfl rfl (by omega) ?_
      refine oV c.1.1 rfl rfl rfl (by decide) rfl rfl rfl (by omega) ?_
      refine dV [1000] (zC y fl a (nth st.by_ c.1.1) hcx.2.1.1) rfl (aL (jt (aL (af (bF rfl rfl)) (aL (af (bF rfl rfl)) (aL (af (bF rfl rfl)) (aL (af (bF rfl rfl)) (aL (af (bF rfl rfl)) (aL (iL rfl hal (by decide) rfl) bX))))))) (aL (af (bF rfl rfl)) bX)) (by exact dG _ _) ?_
      refine cF rfl (aD ?_)
      refine bV (⟨(cA fl st c.1.1, c.1.2 ++ [nth st.by_ c.1.1]), (c.2.next hN hC p3 p1 (Jp hc7)).1⟩) ?_ (by exact Lj (c.2.next hN hC p3 p1 (Jp hc7)).2)
      (refine c9.mk' ?_ ?_ <;> (repeat' (first | exact aH | exact aI | refine aB ?_ (Ty.aW _) | refine aB ?_ (Ty.aF _) | refine aG rfl (Cont.aF _) ?_ | refine aB ?_ ?_)))
      all_goals skip
      all_goals exact Ty.ah hcx.2.2
     refine cQ (aR (aR (au rfl (aC (aE (aA (J6 rfl (G4 rfl (aD ?_)))))))))
     refine aC (bC (tE ?_))
     refine fm [1000] rfl rfl (by decide) (by repeat (first | exact fB | refine eD rfl (cB (by decide) rfl) ?_)) ?_
     all_goals skip
     all_goals exact Bl (by decide) rfl (by rw [hFd.same]; exact c.2.end (MP hc7)) (by rw [hFd.same]; exact Mx c.2 (MP hc7))
    refine aj (bQ (aC (aA ?_)))
    refine bg rfl rfl (by omega) (by omega) ?_
    refine bO rfl (aD ?_)
    refine bV (⟨(u.1.1 + 1, mZ fl (cy has less) u.1.2 z.1.1 (nth (bJ fl a z.1.1) u.1.1)), by exact u.2.Kz hN hG hzn hun hc4 hc5⟩) ?_ (by show (bJ fl a z.1.1).length - (u.1.1 + 1) < (bJ fl a z.1.1).length - u.1.1; omega)
    (refine c9.mk' ?_ ?_ <;> (repeat' (first | exact aH | exact aI | refine aB ?_ (Ty.aW _) | refine aB ?_ (Ty.aF _) | refine aG rfl (Cont.aF _) ?_ | refine aG rfl ?_ ?_ | refine aB ?_ ?_)))
    all_goals skip
    all_goals first | exact Cont.dR (Lz hc4) | exact Cont.dR (Lo hc4) | exact Ty.ah (Lq hc4)
   refine aj (bQ (aC (aA ?_)))
   refine bg rfl rfl (by omega) (by omega) ?_
   refine bO rfl (aD ?_)
   refine bV (⟨(u.1.1 + 1, mZ fl (cy has less) u.1.2 z.1.1 (nth (bJ fl a z.1.1) u.1.1)), by exact u.2.MO hzn hun hc4⟩) ?_ (by show (bJ fl a z.1.1).length - (u.1.1 + 1) < (bJ fl a z.1.1).length - u.1.1; omega)
   (refine c9.mk' ?_ ?_ <;> (repeat' (first | exact aH | exact aI | refine aB ?_ (Ty.aW _) | refine aB ?_ (Ty.aF _) | refine aG rfl (Cont.aF _) ?_ | refine aG rfl ?_ ?_ | refine aB ?_ ?_)))
   all_goals skip
   all_goals first | exact Cont.dR (Ld hc4) | exact Cont.dR (ME hc4) | exact Ty.ah (L8 hc4)
  refine cQ (aR (aR (au rfl (bQ (aC (aA ?_))))))
  refine bg rfl rfl (by omega) (by omega) ?_
  refine bO rfl (aD ?_)
  refine bV (⟨(z.1.1 + 1, u.1.2), u.2.cell (by show ¬ (y.cells + 1) ≤ z.1.1; omega) (by show (bJ fl a z.1.1).length ≤ u.1.1; omega)⟩) ?_ (by show (y.cells + 1) - (z.1.1 + 1) < (y.cells + 1) - z.1.1; omega)
  (refine c9.mk' ?_ ?_ <;> (repeat' (first | exact aH | exact aI | refine aB ?_ (Ty.aW _) | refine aB ?_ (Ty.aF _) | refine aG rfl (Cont.aF _) ?_)))
  all_goals skip
 refine cQ (aR (aR (au rfl (aC (aE (aA (bO rfl (bD rfl rfl rfl (aD ?_)))))))))
 refine aC ?_
 refine av rfl (fun hc8 => ?_) (fun hc8 => ?_)
 ·
  refine aE (aA (mI rfl (aD (aC (bC (bG (aX (aX (bG ?_)))))))))
  refine aX (tE ?_)
  refine fm [1000] rfl rfl (by decide) (by repeat (first | exact fB | refine eD rfl (cB (by decide) rfl) ?_)) ?_
  all_goals skip
  all_goals exact Cc (z.2.stop (by show (y.cells + 1) ≤ z.1.1; omega) (by assumption))
 refine aj (bQ (aC (aA ?_)))
 refine bg rfl rfl (by omega) (by omega) ?_
 refine bO rfl (aD ?_)
 refine bV (⟨(x.1.1 + 1, ⟨z.1.2.worth, z.1.2.by_, -1⟩), z.2.round (by show (y.cells + 1) ≤ z.1.1; omega) (by assumption), rfl⟩) ?_ (by show (y.cells + 1) - (x.1.1 + 1) < (y.cells + 1) - x.1.1; omega)
 (refine c9.mk' ?_ ?_ <;> (repeat' (first | exact aH | exact aI | refine aB ?_ (Ty.aW _) | refine aB ?_ (Ty.aF _) | refine aG rfl (Cont.aF _) ?_)))
 all_goals skip
end Go.Proofs.YtelbollidfdcjaaGreat
