/- Lemmas: the program and the reference walked, plain laws. -/
import Derived.Test.YtelbollidfdcjaaGreatXb
namespace Go.Proofs.YtelbollidfdcjaaGreat
open Go Go.T
set_option maxHeartbeats 2000000
structure aq.Small (y : aq) : Prop where
  bins : y.bins.length ≤ 1000
  moves : y.moves.length ≤ 1000
  levels : y.levels.length ≤ 1000
def wk (y : aq) : Ty := Ty.Lj 135 [fE y]
def Eo (y : aq) : Ty := Ty.pp [Ty.jf 142 [Ty.pp [wk y]]]
theorem Dn {y : aq} (h : ld y = false) : 1 ≤ y.days ∧ y.days ≤ 5 := by
 unfold ld at h
 simp only [Bool.or_eq_false_iff, Bool.not_eq_false', iD] at h
 exact h.1.1.1
def eI (y : aq) (k : Int) : Int := if bU y = 0 then if y.bin k = true then 0 else 1 else bU y
theorem Ec {y : aq} {k : Int} (h : (decide (bU y = 0) && !y.bin k) = true) : 1 = eI y k := by
 rw [Bool.and_eq_true, decide_eq_true_eq, Bool.not_eq_true'] at h
 unfold eI; rw [if_pos h.1, if_neg (by rw [h.2]; decide)]
theorem EV {y : aq} {k : Int} (h : (decide (bU y = 0) && !y.bin k) = false) : bU y = eI y k := by
 unfold eI
 by_cases e : bU y = 0
 ·rw [decide_eq_true e, Bool.true_and, Bool.not_eq_false'] at h
  rw [if_pos e, if_pos h, e]
 rw [if_neg e]
attribute [local irreducible] iP fT nJ qo jJ jK jE jM jG qi jI qn eG gx qg gm qj nth fM dm aj dz bodyPost Exit.then Exit.inBlock Code.wp Code.wpIn qm jL ql qd jH eJ cV cm bodyPostM eN
set_option maxRecDepth 100000 in
theorem uA (n lo hi : Int) : dz Tryz.prog 111 [Ty.int .i64 n, Ty.int .i64 lo, Ty.int .i64 hi] (Ty.bool (BF n lo hi)) := by
 refine bB Tryz.func111 rfl (by decide) Tryz.ntmps111 (by exact Nat.le_of_ble_eq_true rfl) fun w0 M0 => ?_
 refine aE (aA (dr rfl (aD (aC (aE (aA (bR rfl (bR rfl (bC rfl rfl rfl ?_)))))))))
 refine fu rfl ?_
 apply aL (s := 10) rfl rfl rfl
 ·intro hg; apply aP; (refine bR rfl ?_); refine aD ?_; exact rfl
 ·exact rfl
 ·exact rfl
 apply aL (s := 10) rfl rfl rfl
 ·intro hg; apply aP; (refine bR rfl ?_); refine aD ?_; exact rfl
 ·exact rfl
 ·exact rfl
 apply aL (s := 10) rfl rfl rfl
 ·intro hg; apply aK (s := 11) rfl (by (rw [hg]; rfl)); apply aK (s := 12) rfl (by (rw [hg]; rfl)); apply aP; (refine bC rfl rfl rfl ?_); refine aD ?_; exact rfl
 ·exact rfl
 ·exact rfl
 refine fD rfl rfl (dr rfl (aD (aC (az (bq rfl rfl ?_)))))
 all_goals exact cP rfl rfl
set_option maxRecDepth 100000 in
theorem De (y : aq) (hs : y.Small) (n : Int) : dz Tryz.prog 135 [fE y, Ty.int .i64 n] (Ty.bool (y.bin n)) := by
 refine bB Tryz.func135 rfl (by decide) Tryz.ntmps135 (by exact Nat.le_of_ble_eq_true rfl) fun w0 M0 => ?_
 have hs1 := hs.bins
 refine aE (aA (bN rfl (dr rfl (aD (aC (aE (aA (bR rfl ?_))))))))
 refine aQ rfl rfl rfl rfl rfl (by decide) ?_
 refine aN rfl rfl rfl rfl (ct rfl rfl rfl ?_)
 refine gz rfl rfl (by omega) (by omega) ?_
 refine ah (uA _ _ _) rfl rfl rfl rfl rfl (dr rfl (aD (aC (az (bq rfl rfl ?_)))))
 all_goals exact cP rfl rfl
set_option maxRecDepth 100000 in
theorem K1 (y : aq) (n : Int) : dz Tryz.prog 122 [fE y, Ty.int .i64 n] (Ty.bool (y.time n)) := by
 refine bB Tryz.func122 rfl (by decide) Tryz.ntmps122 (by exact Nat.le_of_ble_eq_true rfl) fun w0 M0 => ?_
 refine aE (aA (bN rfl (dr rfl (aD (aC (aE (aA (bR rfl ?_))))))))
 refine aQ rfl rfl rfl rfl rfl (by decide) ?_
 refine aN rfl rfl rfl rfl (ah (uA _ _ _) rfl rfl rfl rfl rfl (dr rfl (aD (aC (az (bq rfl rfl ?_))))))
 all_goals exact cP rfl rfl
set_option maxRecDepth 100000 in
theorem sw (s : Span) : dz Tryz.prog 145 [Ty.agg (dL.tys s)] (Ty.bool (gP s)) := by
 refine bB Tryz.func145 rfl (by decide) Tryz.ntmps145 (by exact Nat.le_of_ble_eq_true rfl) fun w0 M0 => ?_
 refine aE (aA (bN rfl (dr rfl (aD (aC (aE (aA ?_)))))))
 refine aQ rfl rfl rfl rfl rfl (by decide) ?_
 refine aN rfl rfl rfl rfl (ah (uA _ _ _) rfl rfl rfl rfl rfl (fu rfl ?_))
 apply aL (s := 6) rfl rfl rfl
 ·intro hg; apply aP; (refine aQ rfl rfl rfl rfl rfl (by decide) ?_); refine aD ?_; exact rfl
 ·exact rfl
 ·exact rfl
 apply aL (s := 6) rfl rfl rfl
 ·intro hg; apply aK (s := 7) rfl (by (rw [hg]; rfl)); apply aP; (refine aN rfl rfl rfl rfl ?_); refine aD ?_; exact rfl
 ·exact rfl
 ·exact rfl
 apply aL (s := 6) rfl rfl rfl
 ·intro hg; apply aK (s := 8) rfl (by (rw [hg]; rfl)); apply aP; (refine ah (uA _ _ _) rfl rfl rfl rfl rfl ?_); refine aD ?_; exact rfl
 ·exact rfl
 ·exact rfl
 refine fD rfl rfl (dr rfl (aD (aC (az (bq rfl rfl ?_)))))
 all_goals exact cP rfl rfl
set_option maxRecDepth 100000 in
theorem wT (s : Span) : dz Tryz.prog 154 [Ty.agg (dL.tys s)] (Ty.bool (gy s)) := by
 refine bB Tryz.func154 rfl (by decide) Tryz.ntmps154 (by exact Nat.le_of_ble_eq_true rfl) fun w0 M0 => ?_
 refine aE (aA (bN rfl (dr rfl (aD (aC (aE (aA ?_)))))))
 refine aQ rfl rfl rfl rfl rfl (by decide) ?_
 refine aN rfl rfl rfl rfl ?_
 refine aQ rfl rfl rfl rfl rfl (by decide) ?_
 refine aN rfl rfl rfl rfl (bC rfl rfl rfl (dr rfl (aD (aC (az (bq rfl rfl ?_))))))
 all_goals exact cP rfl rfl
set_option maxRecDepth 100000 in
theorem Aa (y : aq) (hs : y.Small) (n : Int) : dz Tryz.prog 142 [Ty.int .i64 n, Ty.pp [wk y]] (Ty.bool (y.fin n)) := by
 refine bB Tryz.func142 rfl (by decide) Tryz.ntmps142 (by exact Nat.le_of_ble_eq_true rfl) fun w0 M0 => ?_
 refine aE (aA (dr rfl (aD (aC (aE (aA (bR rfl (bC rfl rfl rfl (fu rfl ?_)))))))))
 apply aL (s := 6) rfl rfl rfl
 ·intro hg; apply aP; (refine aN rfl rfl rfl rfl ?_); refine aD ?_; exact rfl
 ·exact rfl
 ·exact rfl
 apply aL (s := 6) rfl rfl rfl
 ·intro hg; apply aP; (refine bR rfl ?_); refine aD ?_; exact rfl
 ·exact rfl
 ·exact rfl
 apply aL (s := 6) rfl rfl rfl
 ·intro hg; apply aK (s := 7) rfl (by (rw [hg]; rfl)); apply aK (s := 8) rfl (by (rw [hg]; rfl)); apply aP; (refine eX rfl (Dj (De y hs n) rfl rfl rfl rfl rfl rfl) rfl ?_); refine aD ?_; exact rfl
 ·exact rfl
 ·exact rfl
 refine iQ rfl rfl (dr rfl (aD (aC (az (bq rfl rfl ?_)))))
 all_goals exact cP rfl rfl
set_option maxRecDepth 100000 in
theorem Gp (b : wD) : dz Tryz.prog 144 [Ty.agg (dY.tys b)] (Ty.bool (BF b.holds 0 300 && gP b.first)) := by
 refine bB Tryz.func144 rfl (by decide) Tryz.ntmps144 (by exact Nat.le_of_ble_eq_true rfl) fun w0 M0 => ?_
 refine aE (aA (bN rfl (dr rfl (aD (aC (aE (aA ?_)))))))
 refine aQ rfl rfl rfl rfl rfl (by decide) ?_
 refine aN rfl rfl rfl rfl (ah (uA _ _ _) rfl rfl rfl rfl rfl (fu rfl ?_))
 apply aL (s := 6) rfl rfl rfl
 ·intro hg; apply aP; (refine aQ rfl rfl rfl rfl rfl (by decide) ?_); refine aD ?_; exact rfl
 ·exact rfl
 ·exact rfl
 apply aL (s := 6) rfl rfl rfl
 ·intro hg; apply aK (s := 7) rfl (by (rw [hg]; rfl)); apply aP; (refine aZ rfl rfl rfl (by exact Nat.le_of_ble_eq_true rfl) ?_); refine aD ?_; exact rfl
 ·exact rfl
 ·exact rfl
 apply aL (s := 6) rfl rfl rfl
 ·intro hg; apply aK (s := 8) rfl (by (rw [hg]; rfl)); apply aP; (refine ah (sw _) rfl rfl rfl rfl rfl ?_); refine aD ?_; exact rfl
 ·exact rfl
 ·exact rfl
 refine fD rfl rfl (dr rfl (aD (aC (az (bq rfl rfl ?_)))))
 all_goals exact cP rfl rfl
set_option maxRecDepth 100000 in
theorem GD (m : Move) : dz Tryz.prog 147 [Ty.agg (cy.tys m)] (Ty.bool (gP m.sacks)) := by
 refine bB Tryz.func147 rfl (by decide) Tryz.ntmps147 (by exact Nat.le_of_ble_eq_true rfl) fun w0 M0 => ?_
 refine aE (aA (bN rfl (dr rfl (aD (aC (aE (aA ?_)))))))
 refine aQ rfl rfl rfl rfl rfl (by decide) ?_
 refine aZ rfl rfl rfl (by exact Nat.le_of_ble_eq_true rfl) ?_
 refine ah (sw _) rfl rfl rfl rfl rfl (dr rfl (aD (aC (az (bq rfl rfl ?_)))))
 all_goals exact cP rfl rfl
set_option maxRecDepth 100000 in
theorem G1 (l : Level) : dz Tryz.prog 149 [Ty.agg (dF.tys l)] (Ty.bool (gP l.sacks)) := by
 refine bB Tryz.func149 rfl (by decide) Tryz.ntmps149 (by exact Nat.le_of_ble_eq_true rfl) fun w0 M0 => ?_
 refine aE (aA (bN rfl (dr rfl (aD (aC (aE (aA ?_)))))))
 refine aQ rfl rfl rfl rfl rfl (by decide) ?_
 refine aZ rfl rfl rfl (by exact Nat.le_of_ble_eq_true rfl) ?_
 refine ah (sw _) rfl rfl rfl rfl rfl (dr rfl (aD (aC (az (bq rfl rfl ?_)))))
 all_goals exact cP rfl rfl
set_option maxRecDepth 100000 in
theorem GU (y : aq) (hs : y.Small) (hd : 1 ≤ y.days ∧ y.days ≤ 5) (m : Move) : dz Tryz.prog 150 [Ty.agg (cy.tys m), Ty.pp (bO y), Eo y] (Ty.bool ((BF m.day 0 (y.days - 1) && y.fin m.src) && y.fin m.dst)) := by
 refine bB Tryz.func150 rfl (by decide) Tryz.ntmps150 (by exact Nat.le_of_ble_eq_true rfl) fun w0 M0 => ?_
 refine aE (aA (bN rfl (dr rfl (aD (aC (aE (aA ?_)))))))
 refine aQ rfl rfl rfl rfl rfl (by decide) ?_
 refine aN rfl rfl rfl rfl ?_
 refine aQ rfl rfl rfl rfl rfl (by decide) ?_
 refine aN rfl rfl rfl rfl ?_
 refine gz rfl rfl (by omega) (by omega) ?_
 refine ah (uA _ _ _) rfl rfl rfl rfl rfl (fu rfl ?_)
 apply aL (s := 11) rfl rfl rfl
 ·intro hg; apply aP; (refine aN rfl rfl rfl rfl ?_); refine aD ?_; exact rfl
 ·exact rfl
 ·exact rfl
 apply aL (s := 11) rfl rfl rfl
 ·intro hg; apply aP; (refine aQ rfl rfl rfl rfl rfl (by decide) ?_); refine aD ?_; exact rfl
 ·exact rfl
 ·exact rfl
 apply aL (s := 11) rfl rfl rfl
 ·intro hg; apply aK (s := 13) rfl (by (rw [hg]; rfl)); apply aP; (refine aN rfl rfl rfl rfl ?_); refine aD ?_; exact rfl
 ·exact rfl
 ·exact rfl
 apply aL (s := 11) rfl rfl rfl
 ·intro hg; apply aK (s := 12) rfl (by (rw [hg]; rfl)); apply aK (s := 14) rfl (by (rw [hg]; rfl)); apply aP; (refine eX rfl (dX (Aa y hs m.src) rfl rfl rfl rfl rfl rfl) rfl ?_); refine aD ?_; exact rfl
 ·exact rfl
 ·exact rfl
 refine fD rfl rfl (fu rfl ?_)
 apply aL (s := 17) rfl rfl rfl
 ·intro hg; apply aP; (refine aN rfl rfl rfl rfl ?_); refine aD ?_; exact rfl
 ·exact rfl
 ·exact rfl
 apply aL (s := 17) rfl rfl rfl
 ·intro hg; apply aP; (refine aQ rfl rfl rfl rfl rfl (by decide) ?_); refine aD ?_; exact rfl
 ·exact rfl
 ·exact rfl
 apply aL (s := 17) rfl rfl rfl
 ·intro hg; apply aK (s := 19) rfl (by (rw [hg]; rfl)); apply aP; (refine aN rfl rfl rfl rfl ?_); refine aD ?_; exact rfl
 ·exact rfl
 ·exact rfl
 apply aL (s := 17) rfl rfl rfl
 ·intro hg; apply aK (s := 18) rfl (by (rw [hg]; rfl)); apply aK (s := 20) rfl (by (rw [hg]; rfl)); apply aP; (refine eX rfl (dX (Aa y hs m.dst) rfl rfl rfl rfl rfl rfl) rfl ?_); refine aD ?_; exact rfl
 ·exact rfl
 ·exact rfl
 refine fD rfl rfl (dr rfl (aD (aC (az (bq rfl rfl ?_)))))
 all_goals exact cP rfl rfl
set_option maxRecDepth 100000 in
theorem GQ (y : aq) (hs : y.Small) (l : Level) : dz Tryz.prog 151 [Ty.agg (dF.tys l), Ty.pp (bO y), Ty.pp [wk y]] (Ty.bool (y.time l.day && y.bin l.bin)) := by
 refine bB Tryz.func151 rfl (by decide) Tryz.ntmps151 (by exact Nat.le_of_ble_eq_true rfl) fun w0 M0 => ?_
 refine aE (aA (bN rfl (dr rfl (aD (aC (aE (aA ?_)))))))
 refine aZ rfl rfl rfl (by exact Nat.le_of_ble_eq_true rfl) ?_
 refine aQ rfl rfl rfl rfl rfl (by decide) ?_
 refine aN rfl rfl rfl rfl (ah (K1 y _) rfl rfl rfl rfl rfl (fu rfl ?_))
 apply aL (s := 9) rfl rfl rfl
 ·intro hg; apply aP; (refine aN rfl rfl rfl rfl ?_); refine aD ?_; exact rfl
 ·exact rfl
 ·exact rfl
 apply aL (s := 9) rfl rfl rfl
 ·intro hg; apply aP; (refine aQ rfl rfl rfl rfl rfl (by decide) ?_); refine aD ?_; exact rfl
 ·exact rfl
 ·exact rfl
 apply aL (s := 9) rfl rfl rfl
 ·intro hg; apply aK (s := 11) rfl (by (rw [hg]; rfl)); apply aP; (refine aN rfl rfl rfl rfl ?_); refine aD ?_; exact rfl
 ·exact rfl
 ·exact rfl
 apply aL (s := 9) rfl rfl rfl
 ·intro hg; apply aK (s := 10) rfl (by (rw [hg]; rfl)); apply aK (s := 12) rfl (by (rw [hg]; rfl)); apply aP; (refine eX rfl (Dj (De y hs l.bin) rfl rfl rfl rfl rfl rfl) rfl ?_); refine aD ?_; exact rfl
 ·exact rfl
 ·exact rfl
 refine fD rfl rfl (dr rfl (aD (aC (az (bq rfl rfl ?_)))))
 all_goals exact cP rfl rfl
set_option maxRecDepth 100000 in
theorem Gk (m : Move) : dz Tryz.prog 152 [Ty.agg (cy.tys m)] (Ty.bool (!decide (m.src = m.dst))) := by
 refine bB Tryz.func152 rfl (by decide) Tryz.ntmps152 (by exact Nat.le_of_ble_eq_true rfl) fun w0 M0 => ?_
 refine aE (aA (bN rfl (dr rfl (aD (aC (aE (aA ?_)))))))
 refine aQ rfl rfl rfl rfl rfl (by decide) ?_
 refine aN rfl rfl rfl rfl ?_
 refine aQ rfl rfl rfl rfl rfl (by decide) ?_
 refine aN rfl rfl rfl rfl (bC rfl rfl rfl (dr rfl (aD (aC (az (bq rfl rfl ?_))))))
 all_goals exact cP rfl rfl
set_option maxRecDepth 100000 in
theorem G2 (b : wD) : dz Tryz.prog 153 [Ty.agg (dY.tys b)] (Ty.bool (gy b.first)) := by
 refine bB Tryz.func153 rfl (by decide) Tryz.ntmps153 (by exact Nat.le_of_ble_eq_true rfl) fun w0 M0 => ?_
 refine aE (aA (bN rfl (dr rfl (aD (aC (aE (aA ?_)))))))
 refine aQ rfl rfl rfl rfl rfl (by decide) ?_
 refine aZ rfl rfl rfl (by exact Nat.le_of_ble_eq_true rfl) ?_
 refine ah (wT _) rfl rfl rfl rfl rfl (dr rfl (aD (aC (az (bq rfl rfl ?_)))))
 all_goals exact cP rfl rfl
set_option maxRecDepth 100000 in
theorem HZ (m : Move) : dz Tryz.prog 155 [Ty.agg (cy.tys m)] (Ty.bool (gy m.sacks)) := by
 refine bB Tryz.func155 rfl (by decide) Tryz.ntmps155 (by exact Nat.le_of_ble_eq_true rfl) fun w0 M0 => ?_
 refine aE (aA (bN rfl (dr rfl (aD (aC (aE (aA ?_)))))))
 refine aQ rfl rfl rfl rfl rfl (by decide) ?_
 refine aZ rfl rfl rfl (by exact Nat.le_of_ble_eq_true rfl) ?_
 refine ah (wT _) rfl rfl rfl rfl rfl (dr rfl (aD (aC (az (bq rfl rfl ?_)))))
 all_goals exact cP rfl rfl
set_option maxRecDepth 100000 in
theorem EI (l : Level) : dz Tryz.prog 156 [Ty.agg (dF.tys l)] (Ty.bool (gy l.sacks)) := by
 refine bB Tryz.func156 rfl (by decide) Tryz.ntmps156 (by exact Nat.le_of_ble_eq_true rfl) fun w0 M0 => ?_
 refine aE (aA (bN rfl (dr rfl (aD (aC (aE (aA ?_)))))))
 refine aQ rfl rfl rfl rfl rfl (by decide) ?_
 refine aZ rfl rfl rfl (by exact Nat.le_of_ble_eq_true rfl) ?_
 refine ah (wT _) rfl rfl rfl rfl rfl (dr rfl (aD (aC (az (bq rfl rfl ?_)))))
 all_goals exact cP rfl rfl
set_option maxRecDepth 100000 in
theorem jV (y : aq) (hs : y.Small) : dz Tryz.prog 70 [fE y] (Ty.int .i64 (bU y)) := by
 refine bB Tryz.func70 rfl (by decide) Tryz.ntmps70 (by exact Nat.le_of_ble_eq_true rfl) fun w0 M0 => ?_
 have hs1 := hs.bins
 have hs2 := hs.moves
 have hs3 := hs.levels
 refine aE (aA (bN rfl (cE rfl (aD (aC (aE (aA ?_)))))))
 refine aZ rfl rfl rfl (by exact Nat.le_of_ble_eq_true rfl) ?_
 refine EE (l := [fE y]) rfl ?_
 refine bw rfl (by exact List.cons_ne_nil _ _) rfl ?_
 refine cq rfl rfl (by decide) rfl rfl (by exact (rfl : _ = Ty.Lj _ _)) rfl (by exact Nat.le_of_ble_eq_true rfl) rfl rfl (by exact (rfl : _ = [_])) ?_
 refine aD (aC (aE ?_))
 refine lR (tg := 4) [(3, Ty.pp [wk y])] (by decide) rfl ⟨l6 (T := 118) (tg := 4) (off := 0) (l := [wk y]) rfl rfl rfl (by decide), trivial⟩ ?_
 refine aA (dR rfl ?_)
 refine bw rfl (by exact List.cons_ne_nil _ _) rfl ?_
 refine cq rfl rfl (by decide) rfl rfl (by exact (rfl : _ = Ty.jf _ _)) rfl (by exact Nat.le_of_ble_eq_true rfl) rfl rfl (by exact (rfl : _ = [_])) ?_
 refine aD (aC (aE (au (aE ?_))))
 refine lR (tg := 5) [(4, Eo y)] (by decide) rfl ⟨l6 (T := 118) (tg := 5) (off := 0) (l := [Ty.jf 142 [Ty.pp [wk y]]]) rfl rfl rfl (by decide), trivial⟩ ?_
 refine aA ?_
 refine aQ rfl rfl rfl rfl rfl (by decide) ?_
 refine aN rfl rfl rfl rfl (ah (uA _ _ _) rfl rfl rfl rfl rfl (dh rfl (fu rfl ?_)))
 apply aL (s := 13) rfl rfl rfl
 ·intro hg; apply aP; (refine aQ rfl rfl rfl rfl rfl (by decide) ?_); refine aD ?_; exact rfl
 ·exact rfl
 ·exact rfl
 apply aL (s := 13) rfl rfl rfl
 ·intro hg; apply aK (s := 14) rfl (by (rw [hg]; rfl)); apply aP; (refine aN rfl rfl rfl rfl ?_); refine aD ?_; exact rfl
 ·exact rfl
 ·exact rfl
 apply aL (s := 13) rfl rfl rfl
 ·intro hg; apply aK (s := 15) rfl (by (rw [hg]; rfl)); apply aP; (refine ct rfl rfl rfl ?_); refine aD ?_; exact rfl
 ·exact rfl
 ·exact rfl
 apply aL (s := 13) rfl rfl rfl
 ·intro hg; apply aK (s := 16) rfl (by (rw [hg]; rfl)); apply aP; (refine ah (uA _ _ _) rfl rfl rfl rfl rfl ?_); refine aD ?_; exact rfl
 ·exact rfl
 ·exact rfl
 apply aL (s := 13) rfl rfl rfl
 ·intro hg; apply aK (s := 17) rfl (by (rw [hg]; rfl)); apply aP; (refine dh rfl ?_); refine aD ?_; exact rfl
 ·exact rfl
 ·exact rfl
 refine iQ rfl rfl (fu rfl ?_)
 apply aL (s := 20) rfl rfl rfl
 ·intro hg; apply aP; (refine aQ rfl rfl rfl rfl rfl (by decide) ?_); refine aD ?_; exact rfl
 ·exact rfl
 ·exact rfl
 apply aL (s := 20) rfl rfl rfl
 ·intro hg; apply aK (s := 21) rfl (by (rw [hg]; rfl)); apply aP; (refine aN rfl rfl rfl rfl ?_); refine aD ?_; exact rfl
 ·exact rfl
 ·exact rfl
 apply aL (s := 20) rfl rfl rfl
 ·intro hg; apply aK (s := 22) rfl (by (rw [hg]; rfl)); apply aP; (refine ct rfl rfl rfl ?_); refine aD ?_; exact rfl
 ·exact rfl
 ·exact rfl
 apply aL (s := 20) rfl rfl rfl
 ·intro hg; apply aK (s := 23) rfl (by (rw [hg]; rfl)); apply aP; (refine bC rfl rfl rfl ?_); refine aD ?_; exact rfl
 ·exact rfl
 ·exact rfl
 refine iQ rfl rfl (fu rfl ?_)
 apply aL (s := 26) rfl rfl rfl
 ·intro hg; apply aP; (refine aQ rfl rfl rfl rfl rfl (by decide) ?_); refine aD ?_; exact rfl
 ·exact rfl
 ·exact rfl
 apply aL (s := 26) rfl rfl rfl
 ·intro hg; apply aK (s := 27) rfl (by (rw [hg]; rfl)); apply aP; (refine aN rfl rfl rfl rfl ?_); refine aD ?_; exact rfl
 ·exact rfl
 ·exact rfl
 apply aL (s := 26) rfl rfl rfl
 ·intro hg; apply aK (s := 28) rfl (by (rw [hg]; rfl)); apply aP; (refine ct rfl rfl rfl ?_); refine aD ?_; exact rfl
 ·exact rfl
 ·exact rfl
 apply aL (s := 26) rfl rfl rfl
 ·intro hg; apply aK (s := 29) rfl (by (rw [hg]; rfl)); apply aP; (refine bC rfl rfl rfl ?_); refine aD ?_; exact rfl
 ·exact rfl
 ·exact rfl
 refine iQ rfl rfl (dr rfl (aD (aC ?_)))
 refine cr rfl (fun hc1 => ?_) (fun hc1 => ?_)
 ·
  refine aE (aA (cE rfl (aD (aC (az (bJ (aV (bq rfl rfl ?_))))))))
  all_goals skip
  exact bE rfl rfl (congrArg (Ty.int .i64) (by rw [bU, if_pos (show ld y = true from hc1)]))
 refine aE ?_
 refine dO (B := live [(1, Ty.pp (bO y)), (3, Ty.pp [wk y]), (4, Eo y)] []) ?_ ?_
 ·(refine dG.mk' ?_ ?_ <;> (repeat' (first | exact aJ | exact aI | refine aB ?_ (Ty.aX _) | refine aB ?_ (Ty.aF _))))
 refine aA ?_
 refine aQ rfl rfl rfl rfl rfl (by decide) ?_
 refine aN rfl rfl rfl rfl ?_
 refine ah (tw y.bins (Ty.jf _ []) rfl (fun b => BF b.holds 0 300 && gP b.first) rfl rfl fun b _ => dX (Gp b) rfl rfl rfl rfl rfl rfl) rfl rfl rfl rfl rfl ?_
 refine dh rfl (dr rfl (aD (aC ?_)))
 refine cr rfl (fun hc2 => ?_) (fun hc2 => ?_)
 ·
  refine aE (aA (cE rfl (aD (aC (az (bJ (aV (bq rfl rfl ?_))))))))
  all_goals skip
  exact bE rfl rfl (congrArg (Ty.int .i64) (by rw [bU, if_neg (ng (show ld y = false from hc1)), if_pos (show mJ y = true from hc2)]))
 refine aE (aA ?_)
 refine aQ rfl rfl rfl rfl rfl (by decide) ?_
 refine aN rfl rfl rfl rfl ?_
 refine ah (lX y.moves (Ty.jf _ []) rfl (fun m => gP m.sacks) rfl rfl fun m _ => dX (GD m) rfl rfl rfl rfl rfl rfl) rfl rfl rfl rfl rfl ?_
 refine dh rfl (fu rfl ?_)
 apply aL (s := 42) rfl rfl rfl
 ·intro hg; apply aP; (refine aQ rfl rfl rfl rfl rfl (by decide) ?_); refine aD ?_; exact rfl
 ·exact rfl
 ·exact rfl
 apply aL (s := 42) rfl rfl rfl
 ·intro hg; apply aK (s := 43) rfl (by (rw [hg]; rfl)); apply aP; (refine aN rfl rfl rfl rfl ?_); refine aD ?_; exact rfl
 ·exact rfl
 ·exact rfl
 apply aL (s := 42) rfl rfl rfl
 ·intro hg; apply aK (s := 44) rfl (by (rw [hg]; rfl)); apply aP; (refine ah (oA y.levels (Ty.jf _ []) rfl (fun l => gP l.sacks) rfl rfl fun l _ => dX (G1 l) rfl rfl rfl rfl rfl rfl) rfl rfl rfl rfl rfl ?_); refine aD ?_; exact rfl
 ·exact rfl
 ·exact rfl
 apply aL (s := 42) rfl rfl rfl
 ·intro hg; apply aK (s := 45) rfl (by (rw [hg]; rfl)); apply aP; (refine dh rfl ?_); refine aD ?_; exact rfl
 ·exact rfl
 ·exact rfl
 refine iQ rfl rfl (dr rfl (aD (aC ?_)))
 refine cr rfl (fun hc3 => ?_) (fun hc3 => ?_)
 ·
  refine aE (aA (cE rfl (aD (aC (az (bJ (aV (bq rfl rfl ?_))))))))
  all_goals skip
  exact bE rfl rfl (congrArg (Ty.int .i64) (by rw [bU, if_neg (ng (show ld y = false from hc1)), if_neg (ng (show mJ y = false from hc2)), if_pos (show jz y = true from hc3)]))
 refine aE ?_
 refine dO (B := live [(1, Ty.pp (bO y)), (3, Ty.pp [wk y]), (4, Eo y)] []) ?_ ?_
 ·(refine dG.mk' ?_ ?_ <;> (repeat' (first | exact aJ | exact aI | refine aB ?_ (Ty.aX _) | refine aB ?_ (Ty.aF _))))
 have hd := Dn hc1
 refine aA ?_
 refine aQ rfl rfl rfl rfl rfl (by decide) ?_
 refine aN rfl rfl rfl rfl (dR rfl ?_)
 refine ah (lX y.moves (Ty.jf _ [Ty.pp (bO y), Eo y]) rfl (fun m => (BF m.day 0 (y.days - 1) && y.fin m.src) && y.fin m.dst) rfl rfl fun m _ => dX (GU y hs hd m) rfl rfl rfl rfl rfl rfl) rfl rfl rfl rfl rfl ?_
 refine dh rfl (dr rfl (aD (aC ?_)))
 refine cr rfl (fun hc4 => ?_) (fun hc4 => ?_)
 ·
  refine aE (aA (cE rfl (aD (aC (az (bJ (aV (bq rfl rfl ?_))))))))
  all_goals skip
  exact bE rfl rfl (congrArg (Ty.int .i64) (by rw [bU, if_neg (ng (show ld y = false from hc1)), if_neg (ng (show mJ y = false from hc2)), if_neg (ng (show jz y = false from hc3)), if_pos (show BG y = true from hc4)]))
 refine aE (aA ?_)
 refine aQ rfl rfl rfl rfl rfl (by decide) ?_
 refine aN rfl rfl rfl rfl (dR rfl ?_)
 refine ah (oA y.levels (Ty.jf _ [Ty.pp (bO y), Ty.pp [wk y]]) rfl (fun l => y.time l.day && y.bin l.bin) rfl rfl fun l _ => dX (GQ y hs l) rfl rfl rfl rfl rfl rfl) rfl rfl rfl rfl rfl ?_
 refine dh rfl (dr rfl (aD (aC ?_)))
 refine cr rfl (fun hc5 => ?_) (fun hc5 => ?_)
 ·
  refine aE (aA (cE rfl (aD (aC (az (bJ (aV (bq rfl rfl ?_))))))))
  all_goals skip
  exact bE rfl rfl (congrArg (Ty.int .i64) (by rw [bU, if_neg (ng (show ld y = false from hc1)), if_neg (ng (show mJ y = false from hc2)), if_neg (ng (show jz y = false from hc3)), if_neg (ng (show BG y = false from hc4)), if_pos (show vU y = true from hc5)]))
 refine aE ?_
 refine dO (B := live [(1, Ty.pp (bO y)), (3, Ty.pp [wk y]), (4, Eo y)] []) ?_ ?_
 ·(refine dG.mk' ?_ ?_ <;> (repeat' (first | exact aJ | exact aI | refine aB ?_ (Ty.aX _) | refine aB ?_ (Ty.aF _))))
 refine aA ?_
 refine aQ rfl rfl rfl rfl rfl (by decide) ?_
 refine aN rfl rfl rfl rfl ?_
 refine ah (lX y.moves (Ty.jf _ []) rfl (fun m => !decide (m.src = m.dst)) rfl rfl fun m _ => dX (Gk m) rfl rfl rfl rfl rfl rfl) rfl rfl rfl rfl rfl ?_
 refine dh rfl (dr rfl (aD (aC ?_)))
 refine cr rfl (fun hc6 => ?_) (fun hc6 => ?_)
 ·
  refine aE (aA (cE rfl (aD (aC (az (bJ (aV (bq rfl rfl ?_))))))))
  all_goals skip
  exact bE rfl rfl (congrArg (Ty.int .i64) (by rw [bU, if_neg (ng (show ld y = false from hc1)), if_neg (ng (show mJ y = false from hc2)), if_neg (ng (show jz y = false from hc3)), if_neg (ng (show BG y = false from hc4)), if_neg (ng (show vU y = false from hc5)), if_pos (show sJ y = true from hc6)]))
 refine aE (aA ?_)
 refine aQ rfl rfl rfl rfl rfl (by decide) ?_
 refine aN rfl rfl rfl rfl ?_
 refine ah (tw y.bins (Ty.jf _ []) rfl (fun b => gy b.first) rfl rfl fun b _ => dX (G2 b) rfl rfl rfl rfl rfl rfl) rfl rfl rfl rfl rfl ?_
 refine dh rfl (fu rfl ?_)
 apply aL (s := 70) rfl rfl rfl
 ·intro hg; apply aP; (refine aQ rfl rfl rfl rfl rfl (by decide) ?_); refine aD ?_; exact rfl
 ·exact rfl
 ·exact rfl
 apply aL (s := 70) rfl rfl rfl
 ·intro hg; apply aK (s := 71) rfl (by (rw [hg]; rfl)); apply aP; (refine aN rfl rfl rfl rfl ?_); refine aD ?_; exact rfl
 ·exact rfl
 ·exact rfl
 apply aL (s := 70) rfl rfl rfl
 ·intro hg; apply aK (s := 72) rfl (by (rw [hg]; rfl)); apply aP; (refine ah (lX y.moves (Ty.jf _ []) rfl (fun m => gy m.sacks) rfl rfl fun m _ => dX (HZ m) rfl rfl rfl rfl rfl rfl) rfl rfl rfl rfl rfl ?_); refine aD ?_; exact rfl
 ·exact rfl
 ·exact rfl
 apply aL (s := 70) rfl rfl rfl
 ·intro hg; apply aK (s := 73) rfl (by (rw [hg]; rfl)); apply aP; (refine dh rfl ?_); refine aD ?_; exact rfl
 ·exact rfl
 ·exact rfl
 refine iQ rfl rfl (fu rfl ?_)
 apply aL (s := 76) rfl rfl rfl
 ·intro hg; apply aP; (refine aQ rfl rfl rfl rfl rfl (by decide) ?_); refine aD ?_; exact rfl
 ·exact rfl
 ·exact rfl
 apply aL (s := 76) rfl rfl rfl
 ·intro hg; apply aK (s := 77) rfl (by (rw [hg]; rfl)); apply aP; (refine aN rfl rfl rfl rfl ?_); refine aD ?_; exact rfl
 ·exact rfl
 ·exact rfl
 apply aL (s := 76) rfl rfl rfl
 ·intro hg; apply aK (s := 78) rfl (by (rw [hg]; rfl)); apply aP; (refine ah (oA y.levels (Ty.jf _ []) rfl (fun l => gy l.sacks) rfl rfl fun l _ => dX (EI l) rfl rfl rfl rfl rfl rfl) rfl rfl rfl rfl rfl ?_); refine aD ?_; exact rfl
 ·exact rfl
 ·exact rfl
 apply aL (s := 76) rfl rfl rfl
 ·intro hg; apply aK (s := 79) rfl (by (rw [hg]; rfl)); apply aP; (refine dh rfl ?_); refine aD ?_; exact rfl
 ·exact rfl
 ·exact rfl
 refine iQ rfl rfl (dr rfl (aD (aC ?_)))
 refine cr rfl (fun hc7 => ?_) (fun hc7 => ?_)
 ·
  refine aE (aA (cE rfl (aD (aC (az (bJ (aV (bq rfl rfl ?_))))))))
  all_goals skip
  exact bE rfl rfl (congrArg (Ty.int .i64) (by rw [bU, if_neg (ng (show ld y = false from hc1)), if_neg (ng (show mJ y = false from hc2)), if_neg (ng (show jz y = false from hc3)), if_neg (ng (show BG y = false from hc4)), if_neg (ng (show vU y = false from hc5)), if_neg (ng (show sJ y = false from hc6)), if_pos (show tB y = true from hc7)]))
 refine ak (bf (aC (aE (aA (cE rfl (aD (aC (az (bq rfl rfl ?_)))))))))
 all_goals skip
 exact bE rfl rfl (congrArg (Ty.int .i64) (by rw [bU, if_neg (ng (show ld y = false from hc1)), if_neg (ng (show mJ y = false from hc2)), if_neg (ng (show jz y = false from hc3)), if_neg (ng (show BG y = false from hc4)), if_neg (ng (show vU y = false from hc5)), if_neg (ng (show sJ y = false from hc6)), if_neg (ng (show tB y = false from hc7))]))
set_option maxRecDepth 100000 in
theorem yx (y : aq) (hs : y.Small) (k : Int) : dz Tryz.prog 90 [fE y, Ty.int .i64 k] (Ty.int .i64 (eI y k)) := by
 refine bB Tryz.func90 rfl (by decide) Tryz.ntmps90 (by exact Nat.le_of_ble_eq_true rfl) fun w0 M0 => ?_
 refine aE (aA (bN rfl (cE rfl (aD (aC (aE (aA ?_)))))))
 refine aZ rfl rfl rfl (by exact Nat.le_of_ble_eq_true rfl) ?_
 refine ah (jV y hs) rfl rfl rfl rfl rfl (cE rfl (aD (aC (aE (aE (aA (bR rfl (bC rfl rfl rfl (fu rfl ?_)))))))))
 apply aL (s := 10) rfl rfl rfl
 ·intro hg; apply aP; (refine aZ rfl rfl rfl (by exact Nat.le_of_ble_eq_true rfl) ?_); refine aD ?_; exact rfl
 ·exact rfl
 ·exact rfl
 apply aL (s := 10) rfl rfl rfl
 ·intro hg; apply aP; (refine bR rfl ?_); refine aD ?_; exact rfl
 ·exact rfl
 ·exact rfl
 apply aL (s := 10) rfl rfl rfl
 ·intro hg; apply aK (s := 11) rfl (by (rw [hg]; rfl)); apply aK (s := 12) rfl (by (rw [hg]; rfl)); apply aP; (refine ah (De y hs _) rfl rfl rfl rfl rfl ?_); refine aD ?_; exact rfl
 ·exact rfl
 ·exact rfl
 apply aL (s := 10) rfl rfl rfl
 ·intro hg; apply aK (s := 13) rfl (by (rw [hg]; rfl)); apply aP; (refine dh rfl ?_); refine aD ?_; exact rfl
 ·exact rfl
 ·exact rfl
 refine fD rfl rfl (aD (aC ?_))
 refine cr rfl (fun hc1 => ?_) (fun hc1 => ?_)
 ·
  refine aA (cE rfl (aD (aC (aE (aA (bR rfl (cE rfl (aD (aC ?_)))))))))
  refine az (bq rfl rfl ?_)
  all_goals skip
  all_goals exact bE rfl rfl (congrArg (Ty.int .i64) (Ec hc1))
 refine ak (aC (aE (aA (bR rfl (cE rfl (aD (aC (az (bq rfl rfl ?_)))))))))
 all_goals skip
 all_goals exact bE rfl rfl (congrArg (Ty.int .i64) (EV hc1))
end Go.Proofs.YtelbollidfdcjaaGreat
namespace Go.T
open Go Go.RowKit
def rG (A : As) (L : List Nat) (s t : Ty) : Prop := ∀ w M v, Wf w M → (∀ x ∈ A.tags, x.1 ∈ L → x.2.den w M x.1) → s.den w M v → t.den w (pg M L) v
def nU (A : As) (L : List Nat) : List Ty → List Ty → Prop
  | [], [] => True
  | s :: ss, t :: ts => rG A L s t ∧ nU A L ss ts
  | _, _ => False
theorem bY {A : As} {L : List Nat} : nU A L [] [] := trivial
theorem aM {A : As} {L : List Nat} {s t : Ty} {ss ts : List Ty} (h : rG A L s t) (h' : nU A L ss ts) : nU A L (s :: ss) (t :: ts) := ⟨h, h'⟩
theorem n5 {A : As} {L : List Nat} {w : World} {M : ay} (wf : Wf w M) (ht : ∀ x ∈ A.tags, x.1 ∈ L → x.2.den w M x.1) : ∀ {ss ts : List Ty} {vs : List Value}, nU A L ss ts → cM w M ss vs → cM w (pg M L) ts vs
  | [], [], [], _, _ => trivial
  | _ :: _, _ :: _, _ :: _, ⟨h, h'⟩, ⟨h1, h2⟩ => ⟨h _ _ _ wf ht h1, n5 wf ht h' h2⟩
theorem aa {A : As} {L : List Nat} {s t : Ty} (h : Hs L s t) : rG A L s t := fun w M v wf _ hd => h w M v wf hd
theorem gQ {A : As} {L : List Nat} {ss ts : List Ty} (h : nU A L ss ts) : rG A L (Ty.agg ss) (Ty.agg ts) := fun _ _ _ wf ht ⟨cs, e, hd⟩ => ⟨cs, e, n5 wf ht h hd⟩
theorem gO {A : As} {L : List Nat} {α : Type} {E : El α} {T tg n : Nat} {xs : List α} (hc : A.tag tg = some (.vec E T xs)) (hn : xs.length = n) (h1 : fV tg) (hL : L.contains tg = true) : rG A L (.vs tg n) (.sl E xs) := fun w M v wf ht hd => by
 have hL' : tg ∈ L := by simpa using hL
 have hv : gx E T xs w M tg := ht _ (cj hc) hL'
 subst hn
 rcases hd with ⟨h0, rfl⟩ | ⟨b, cc, hb, e, hn1, hn2⟩
 ·exact ⟨none, 0, by rw [h0], by omega, by simp [maxLen], fun h => absurd h (by omega)⟩
 refine ⟨_, cc, e, hn1, hn2, fun _ => ⟨b, 0, rfl, ya hb hL', wf.lt b _ hb, fun i t hi => ?_⟩⟩
 obtain ⟨u, hu, hdu⟩ := n4 wf h1 hb hv hi
 refine ⟨u, by rw [Nat.zero_add]; exact hu, t.mono (S := fun _ => True) (K := fun _ => True) (w := w) ⟨Nat.le_refl _, rfl, rfl, rfl, fun b _ hm => ⟨jC hm, rfl⟩, fun b t _ h => absurd trivial h⟩ ?_ ?_ hdu⟩
 ·intro u hu
  have : u ∈ cG (xs.flatMap E.tys) := List.mem_flatMap.2 ⟨t, List.mem_of_getElem? hi, hu⟩
  rw [E.dB] at this; cases this
 intro u hu
 have : u ∈ bl (xs.flatMap E.tys) := List.mem_flatMap.2 ⟨t, List.mem_of_getElem? hi, hu⟩
 rw [E.cW] at this; cases this
theorem vC {ρ : List (Nat × Nat)} {b : Nat} : Conv ρ (.ex (.slice none 0 0)) (.vs b 0) := fun _ _ _ _ _ _ _ h => .inl ⟨rfl, h⟩
section
variable {P : Program} {fr : Fr} {ops : Array Oper} {A : As} {rest : List Oper} {K : As → List (As × Fx) → Prop} {d : Nat} {t ty' : TypeId} {p : String} {e : Array Edge} {Q : Exit → Act → World → Prop} {c : Code}
theorem dU (L : List Nat) {f : FuncId} {args : List Ty} {res : Ty} (hF : dz P f args res) {xs : List Operand} {ats : Array TypeId} {ss : List Ty} (hx : nh A fr xs = ss) (hl : nU A L ss args) (hp : res.Plain)
 (h : aj P fr ops rest (A.set d res) fun A' l => K A' ((A, { d := some d, ty := res, rs := xs.flatMap cI, rt := L }) :: l)) : aj P fr ops (⟨some d, .call ⟨.value (.func f), xs.toArray, ats⟩, t, p, e, none⟩ :: rest) A K := by
 refine ⟨{ d := some d, ty := res, rs := xs.flatMap cI, rt := L }, ⟨rfl, by simp, by simp, by simp, fun a w M wf _ hrd htg => ?_⟩, h⟩
 rw [if_pos (by simp [Region.wanted])]
 have hv : cM w M ss (xs.map a.eval) := hx ▸ gZ hrd fun x hx c hc => List.mem_flatMap.2 ⟨x, hx, hc⟩
 have hc := hF.2 w _ _ (IP (L := L) wf) sQ (n5 wf htg hl hv)
 have hrun : (execOp a.eval ⟨some d, .call ⟨.value (.func f), xs.toArray, ats⟩, t, p, e, none⟩).run P w = .ok (.enter f (xs.map a.eval).toArray) w := by
  simp [execOp, resolve, Act.eval, Deferred.ofValue, invoke, nT hF]
 refine l7 hrun ?_
 refine hc.mono fun en w' ⟨r, M', he, wf', le, hden⟩ => ?_
 obtain ⟨h1, h2, h3⟩ := CS wf le hp hden
 exact ⟨r, he, r, rfl, _, h1, h2, h3, by simp⟩
theorem m5 {α : Type} {E : El α} (T tg : Nat) (h : fM P fr c ⟨A.slots, (tg, .vec E T []) :: A.tags⟩ Q) : fM P fr c A Q := fun a w ⟨M, ok, hsl, ht⟩ =>
 h a w ⟨M, ok, hsl, fun x hx => by
  rcases List.mem_cons.1 hx with rfl | hx
  ·exact .inl rfl
  exact ht x hx⟩
end
section
open Go.RowKit
variable {P : Program} {A : As} {fn : Func} {n : Nat} {w0 : World} {M0 : ay} {F : List Nat} {post : List (Nat × Cont)} [T : k5 P]
theorem oS (L : List Nat) {tm ty tg Tb t2 : Nat} {l : List Ty} {ti : TI} {r1 r2 : Ty} (hr : fn.results = #[.cell tm ty, .tmp t2]) (ht : Nat.blt tm n = true) (ht2 : Nat.blt t2 n = true) (hx : A.slots tm = .ptr tg 0) (hc : A.tag tg = some (.cells Tb l)) (h1 : fV tg) (hT : T.ef[ty]? = some ti) (ha : ti.k.agg = true) (hl : l.length = ti.size)
 (hL : ∀ t ∈ F, t ∈ L) (hp : nk A L post) (hs : rZ L (.agg l) r1) (hs2 : rZ L (A.slots t2) r2) :
 dm ⟨n, w0, M0, F, .plain⟩ A (bodyPost P fn (cV F post w0 M0 (Ty.jR [r1, r2])) .ret) := by
 intro a w ⟨M, ok, hsl, htg⟩
 have hd := hsl tm (by simpa using ht)
 rw [hx] at hd
 obtain ⟨b, hb, e⟩ := hd
 obtain ⟨b', cs, hb', hh, hds⟩ := htg _ (cj hc)
 obtain ⟨u, rfl⟩ : ∃ u, tg = u + 1 := ⟨tg - 1, by omega⟩
 have := ok.wf.inj b b' u (by omega) hb hb'
 subst this
 have hlen := cO hds
 have hload := fj (P := P) hT ha (w := w) (b := b) (off := 0) (cs := cs.toList) (by rw [hlen, hl]) (fun j v hj => by simpa [World.cell?, hh] using hj)
 have hload' : (loadVar ty ⟨b, 0, none⟩).run P w = .ok (.agg cs) w := by simpa [Instr.loadAt, Instr.sureAddr] using hload
 refine ⟨ok.fm (by simp), .tuple #[.agg cs, a.tmps.getD t2 undef], ?_, _, nE L M, rfl, lZ ok.wf, k7 hL ok.base, ⟨_, rfl, hs _ _ _ ok.wf ⟨cs, rfl, hds⟩, hs2 _ _ _ ok.wf (hsl t2 (by simpa using ht2)), trivial⟩, qN ok.wf htg hp⟩
 have e' : a.tmps.getD tm undef = .pointer (some ⟨b, 0, none⟩) := e
 have e'' : a.tmps[tm]?.getD undef = .pointer (some ⟨b, 0, none⟩) := by rw [← Array.getD_eq_getD_getElem?]; exact e'
 simp [results, hr, e'', asAddr, hload']
end
section
variable {P : Program} {fr : Fr} {ops : Array Oper} {A : As} {rest : List Oper} {K : As → List (As × Fx) → Prop} {d : Nat} {t ty' : TypeId} {p : String} {e : Array Edge} [T : k5 P]
def MW (w : World) (M : ay) (J : Nat) (v : Value) : Prop := v = .slice none 0 0 ∨ ∃ g n c cur T, v = .slice (some ⟨g, 0, none⟩) n c ∧ M g = some J ∧ w.heap[g]? = some (.cells cur T (0, 0)) ∧ n ≤ cur.size
def Cont.fit (vs : List Value) : Cont :=
  { den := fun w M J => ∀ v ∈ vs, MW w M J v
    mono := fun le _ _ hs hk h v hv => (h v hv).imp id fun ⟨g, n, c, cur, T, e, hg, hh, hn⟩ => let ⟨h1, h2⟩ := le.own g _ hg hk
      ⟨g, n, c, cur, T, e, h1, (h2 hs).trans hh, hn⟩ }
end
instance : Inhabited {v : Value // v.oneCell' = true} := ⟨⟨.bool true, rfl⟩⟩
section
variable {P : Program} {fr : Fr} {A : As} {Q : Exit → Act → World → Prop} {code : Code}
end
end Go.T
namespace Go.T
open Go Go.RowKit
def Ft {α : Type} (E : El α) (T J : Nat) (xs : List α) (w : World) (M : ay) (v : Value) : Prop :=
  (xs = [] ∧ v = .slice none 0 0) ∨ ∃ g off c cur, v = .slice (some ⟨g, off, none⟩) xs.length c ∧ M g = some J ∧ w.heap[g]? = some (.cells cur T (0, 0)) ∧ xs.length ≤ c ∧ c ≤ maxLen ∧ off + c * E.size ≤ cur.size ∧ cM w M (xs.flatMap E.tys) ((cur.toList.drop off).take (xs.length * E.size))
def Ty.iK {α : Type} (E : El α) (T J : Nat) (xs : List α) : Ty :=
  ⟨Ft E T J xs, [J], [J], fun le hk hs h => h.imp id fun ⟨g, off, c, cur, e, hg, hh, h1, h2, h3, h4⟩ =>
    let ⟨a, b⟩ := le.own g J hg (hk J (by simp))
    ⟨g, off, c, cur, e, a, (b (hs J (by simp))).trans hh, h1, h2, h3, b8 le (by rw [E.dB]; intro _ h; cases h) (by rw [E.cW]; intro _ h; cases h) h4⟩, true, fun _ h => by
      rcases h with ⟨_, rfl⟩ | ⟨_, _, _, _, rfl, _⟩ <;> rfl⟩
def lp (size : Nat) : Value → Option (Nat × Nat)
  | .slice (some a) n _ => some (a.block, a.off + n * size)
  | _ => none
def roomy : Value → Bool
  | .slice _ n c => Nat.blt n c
  | _ => false
section
variable {κ α : Type} [DecidableEq κ]
def Fi (size : Nat) (vs : List Value) : Prop := ∀ (i j : Nat) (v u : Value) (g e e' : Nat), vs[i]? = some v → vs[j]? = some u → lp size v = some (g, e) → lp size u = some (g, e') → i = j
def Mj (enc : κ → Value) (E : El α) (T J : Nat) (q : List (κ × List α)) (w : World) (M : ay) (t : Nat) : Prop :=
  (q.map Prod.fst).Nodup ∧ ∃ b es clock, M b = some t ∧ w.heap[b]? = some (.map es clock) ∧ es.toList.map (·.key) = q.map (fun x => enc x.1) ∧ cM w M (q.map fun x => Ty.iK E T J x.2) (es.toList.map (·.val)) ∧ Fi E.size (es.toList.map (·.val))
omit [DecidableEq κ] in
theorem tI {E : El α} {T J : Nat} {q : List (κ × List α)} : (∀ u ∈ cG (q.map fun x => Ty.iK E T J x.2), u = J) ∧ ∀ u ∈ bl (q.map fun x => Ty.iK E T J x.2), u = J := by
 constructor <;>
 ·intro u hu
  simp only [cG, bl, List.mem_flatMap, List.mem_map] at hu
  obtain ⟨t, ⟨x, _, rfl⟩, hu⟩ := hu
  simpa [Ty.iK] using hu
def Cont.mr (enc : κ → Value) (E : El α) (T J : Nat) (q : List (κ × List α)) : Cont :=
  { den := Mj enc E T J q, deps := [J], cdeps := [J]
    mono := fun le hk hs hst hkt ⟨hn, b, es, clock, h1, h2, h3, h4, h5⟩ => let ⟨a, c⟩ := le.own b _ h1 hkt
      ⟨hn, b, es, clock, a, (c hst).trans h2, h3, b8 le (fun u hu => by rw [tI.1 u hu]; exact hk J (by simp)) (fun u hu => by rw [tI.2 u hu]; exact hs J (by simp)) h4, h5⟩ }
omit [DecidableEq κ] in
theorem Cont.s6 {enc : κ → Value} {E : El α} {T J : Nat} {q q' : List (κ × List α)} (h : q = q') : (Cont.mr enc E T J q).Sub (Cont.mr enc E T J q') := h ▸ Cont.aF _
def MT (size t : Nat) (q : List (κ × List α)) (k : κ) (w : World) (M : ay) (v : Value) : Prop :=
  ∀ (g e0 : Nat), lp size v = some (g, e0) → ∃ (b : Nat) (es : Array MapEntry) (clock : Nat), M b = some t ∧ w.heap[b]? = some (.map es clock) ∧ ∀ (j : Nat) (u : Value) (e1 : Nat), (es.toList.map (·.val))[j]? = some u → lp size u = some (g, e1) → (q[j]?).map Prod.fst = some k ∧ (roomy v = true → e1 ≤ e0)
def Mv (E : El α) (T t J : Nat) (q : List (κ × List α)) (k : κ) (xs : List α) (w : World) (M : ay) (v : Value) : Prop := Ft E T J xs w M v ∧ MT E.size t q k w M v
def Ty.qv (E : El α) (T t J : Nat) (q : List (κ × List α)) (k : κ) (xs : List α) : Ty :=
  ⟨Mv E T t J q k xs, [t, J], [t, J], fun le hk hs ⟨h, h'⟩ => ⟨(Ty.iK E T J xs).mono le (fun u hu => hk u (by simp [Ty.iK] at hu ⊢; exact .inr hu)) (fun u hu => hs u (by simp [Ty.iK] at hu ⊢; exact .inr hu)) h, fun g e0 he =>
    let ⟨b, es, clock, h1, h2, h3⟩ := h' g e0 he
    let ⟨a, c⟩ := le.own b t h1 (hk t (by simp))
    ⟨b, es, clock, a, (c (hs t (by simp))).trans h2, h3⟩⟩, true, fun ho h => (Ty.iK E T J xs).isOne ho h.1⟩
omit [DecidableEq κ] in
theorem AT (q : List (κ × List α)) (hn : (q.map Prod.fst).Nodup) {i j : Nat} {k : κ} (hi : (q[i]?).map Prod.fst = some k) (hj : (q[j]?).map Prod.fst = some k) : i = j := by
 rw [← List.getElem?_map] at hi hj
 obtain ⟨h1, e1⟩ := List.getElem?_eq_some_iff.1 hi
 obtain ⟨h2, e2⟩ := List.getElem?_eq_some_iff.1 hj
 exact (List.getElem_inj hn).1 (e1.trans e2.symm)
theorem yw {q : List (κ × List α)} {k : κ} {i : Nat} (h : (q.map Prod.fst).findIdx? (fun x => decide (x = k)) = some i) : (q[i]?).map Prod.fst = some k := by
 obtain ⟨v, hv, _⟩ := og q k i h
 rw [hv]; rfl
theorem Ei (q : List (κ × List α)) (k : κ) (v : List α) (hn : (q.map Prod.fst).Nodup) : ((gX q k v).map Prod.fst).Nodup := by
  cases hi : (q.map Prod.fst).findIdx? (fun x => decide (x = k)) with
  | some i =>
    obtain ⟨u, hu, _, hp⟩ := og q k i hi
    rw [hp, List.map_set]
    have : (q.map Prod.fst).set i k = q.map Prod.fst := by
      apply List.ext_getElem?
      intro j
      rw [List.getElem?_set]
      by_cases e : i = j
      · subst e
        have hlt := (List.getElem?_eq_some_iff.1 hu).1
        rw [if_pos rfl, if_pos (by simpa using hlt), List.getElem?_map, hu]; rfl
      · rw [if_neg e]
    rw [this]; exact hn
  | none =>
    obtain ⟨_, hp⟩ := pR q k hi
    rw [hp, List.map_append, List.nodup_append]
    refine ⟨hn, by simp, fun a ha b hb => ?_⟩
    simp only [List.map_cons, List.map_nil, List.mem_singleton] at hb
    subst hb
    intro e
    subst e
    rw [List.findIdx?_eq_none_iff] at hi
    have := hi a ha
    simp at this
end
section
variable {P : Program} {fr : Fr} {ops : Array Oper} {A : As} {rest : List Oper} {K : As → List (As × Fx) → Prop} {d : Nat} {t ty' mt kt et : TypeId} {p : String} {e : Array Edge}
variable {κ α : Type} [DecidableEq κ] {E : El α} {Tb J tg : Nat} {q : List (κ × List α)} {k : κ} {xs ys : List α}
omit [DecidableEq κ] in
theorem JZ {x : Operand} {enc : κ → Value} (hx : A.op fr x = .mp tg) (hc : A.tag tg = some (.mr enc E Tb J q)) (h1 : fV tg) {a : Act} {w : World} {M : ay} {rs : List Nat} (wf : Wf w M) (hr : ∀ c ∈ cI x, c ∈ rs) (hrd : ∀ c ∈ rs, c < fr.n → (A.slots c).den w M (a.tmps.getD c undef)) (htg : ∀ y ∈ A.tags, y.1 ∈ [tg] → y.2.den w M y.1) :
 (q.map Prod.fst).Nodup ∧ ∃ b es clock, a.eval x = .map (some b) ∧ M b = some tg ∧ w.heap[b]? = some (.map es clock) ∧ es.toList.map (·.key) = q.map (fun x => enc x.1) ∧ cM w M (q.map fun x => Ty.iK E Tb J x.2) (es.toList.map (·.val)) ∧ Fi E.size (es.toList.map (·.val)) := by
 have hxd := cU hr hrd
 rw [hx] at hxd
 obtain ⟨b, e1, e2⟩ := hxd
 obtain ⟨hn, b', es, clock, h2, h3⟩ := htg _ (cj hc) (by simp)
 obtain ⟨u, rfl⟩ : ∃ u, tg = u + 1 := ⟨tg - 1, by omega⟩
 have : b = b' := wf.inj b b' u (by omega) e2 h2
 subst this
 exact ⟨hn, b, es, clock, e1, e2, h3⟩
theorem AO {es : Array MapEntry} {i : Nat} {en : MapEntry} (h : es[i]? = some en) : (es.toList.map (·.val))[i]? = some en.val := by
 rw [List.getElem?_map, Array.getElem?_toList, h]; rfl
omit [DecidableEq κ] in
theorem Bp (enc : κ → Value) (E : El α) (Tb J : Nat) (hm : mapOf P mt = some (kt, et)) (hp : fr.pass.contains (d + 1) = false)
 (h : aj P fr ops rest (A.after { d := some d, ty := .mp (d + 1), K := [d + 1], sets := [(d + 1, .mr enc E Tb J [])] }) fun A' l' => K A' ((A, { d := some d, ty := .mp (d + 1), K := [d + 1], sets := [(d + 1, .mr enc E Tb J [])] }) :: l')) :
 aj P fr ops (⟨some d, .makeMap mt none, t, p, e, none⟩ :: rest) A K := by
 refine ⟨_, gG rfl rfl (by simp) (by simp) (by simp at hp ⊢; exact hp) fun a w M wf _ _ => ?_, h⟩
 have hrun : (execOp a.eval ⟨some d, .makeMap mt none, t, p, e, none⟩).run P w = .ok (.value (.map (some w.heap.size))) (w.alloc (.map #[] 0)) := by
  simp [execOp, Instr.makeMap, newObj, Sem.run]
 obtain ⟨h1, h2, h3⟩ := j5 wf (.map #[] 0) (d + 1)
 refine ⟨_, _, hrun, _, h1, h2, ⟨_, rfl, h3⟩, fun x hx => ?_⟩
 rw [List.mem_singleton.1 hx]
 exact ⟨by simp, w.heap.size, #[], 0, h3, gq _ _, rfl, trivial, fun i j v u g e e' hi => by simp at hi⟩
theorem yM {x y : Operand} {kty : Ty} (KK : wv P kt κ) (hx : A.op fr x = .mp tg) (hc : A.tag tg = some (.mr KK.enc E Tb J q)) (h1 : fV tg) (hy : A.op fr y = kty) (hk : tV kty (KK.enc k)) (hm : mapOf P mt = some (kt, et)) (hz : zeroOf P et = some (.slice none 0 0))
 (h : aj P fr ops rest (A.set d (.qv E Tb tg J q k ((ej q k).getD []))) fun A' l' => K A' ((A, { d := some d, ty := .qv E Tb tg J q k ((ej q k).getD []), rs := cI x ++ cI y, rt := [tg] }) :: l')) :
 aj P fr ops (⟨some d, .lookup mt x y false, t, p, e, none⟩ :: rest) A K :=
 bP (bW rfl rfl fun a w M wf hrd htg => by
  obtain ⟨hn, b, es, clock, e1, e2, h3, h4, h5, h6⟩ := JZ hx hc h1 wf (fun c hc => List.mem_append_left _ hc) hrd htg
  have hyd := cU (fun c hc => List.mem_append_right (cI x) hc) hrd
  rw [hy] at hyd
  have hu := pE hm
  rcases rm KK h4 h5 k with ⟨i, v, en, hi, hg, hen, _, hd, hf⟩ | ⟨_, hg, hf⟩
  ·refine ⟨en.val, ?_, by rw [hg]; exact hd, fun g e0 he => ⟨b, es, clock, e2, h3, fun j u e1 hj hju => ?_⟩⟩
   ·simp only [execOp, e1, hk _ _ _ hyd]
    simp [Instr.lookup, underlying, hu, getObj, Sem.run, h3, KK.check, hf]
   have hij := h6 i j en.val u g e0 e1 (AO hen) hj he hju
   subst hij
   rw [AO hen] at hj
   injection hj with hj
   subst hj
   rw [he] at hju
   injection hju with hju
   injection hju with _ hju
   exact ⟨yw hi, fun _ => by omega⟩
  refine ⟨.slice none 0 0, ?_, by rw [hg]; exact .inl ⟨rfl, rfl⟩, fun g e0 he => by simp [lp] at he⟩
  simp only [execOp, e1, hk _ _ _ hyd]
  simp [Instr.lookup, underlying, hu, getObj, Sem.run, h3, KK.check, hf, vF hz]) h
theorem w9 {x y z : Operand} {kty : Ty} (KK : wv P kt κ) (hx : A.op fr x = .mp tg) (hc : A.tag tg = some (.mr KK.enc E Tb J q)) (h1 : fV tg) (hy : A.op fr y = kty) (hk : tV kty (KK.enc k)) (hz : A.op fr z = .qv E Tb tg J q k xs) (hm : mapOf P mt = some (kt, et)) (hJ : Nat.beq J tg = false)
 (h : aj P fr ops rest (A.after { d := none, S := [tg], sets := [(tg, .mr KK.enc E Tb J (gX q k xs))], rs := cI x ++ (cI y ++ cI z), rt := [tg] }) fun A' l' => K A' ((A, { d := none, S := [tg], sets := [(tg, .mr KK.enc E Tb J (gX q k xs))], rs := cI x ++ (cI y ++ cI z), rt := [tg] }) :: l')) :
 aj P fr ops (⟨none, .mapUpdate mt x y z, t, p, e, none⟩ :: rest) A K := by
 have hJ' : J ≠ tg := fun h => by subst h; simp at hJ
 refine ⟨_, lA rfl rfl rfl (by simp) (by simpa using h1.1) (by simp) fun a w M wf hrd htg => ?_, h⟩
 obtain ⟨hn, b, es, clock, e1, e2, h3, h4, h5, h6⟩ := JZ hx hc h1 wf (fun c hc => List.mem_append_left _ hc) hrd htg
 have hyd := cU (fun c hc => List.mem_append_right (cI x) (List.mem_append_left (cI z) hc)) hrd
 have hzd := cU (fun c hc => List.mem_append_right (cI x) (List.mem_append_right (cI y) hc)) hrd
 rw [hy] at hyd
 rw [hz] at hzd
 obtain ⟨hrow, hown⟩ := hzd
 have hu := pE hm
 have hblt : b < w.heap.size := wf.lt b _ e2
 have own' : ∀ (g e0 : Nat), lp E.size (a.eval z) = some (g, e0) → ∀ (j : Nat) (u : Value) (e' : Nat), (es.toList.map (·.val))[j]? = some u → lp E.size u = some (g, e') → (q[j]?).map Prod.fst = some k := fun g e0 he j u e' hj hju => by
  obtain ⟨b', es', c', g1, g2, g3⟩ := hown g e0 he
  obtain ⟨u', rfl⟩ : ∃ u, tg = u + 1 := ⟨tg - 1, by omega⟩
  have : b = b' := wf.inj b b' u' (by omega) e2 g1
  subst this
  rw [h3] at g2
  injection g2 with g2
  injection g2 with g2 g4
  subst g2
  exact (g3 j u e' hj hju).1
 have fin : ∀ (es' : Array MapEntry) (clock' : Nat), es'.toList.map (·.key) = (gX q k xs).map (fun x => KK.enc x.1) → cM w M ((gX q k xs).map fun x => Ty.iK E Tb J x.2) (es'.toList.map (·.val)) → Fi E.size (es'.toList.map (·.val)) →
  (Instr.mapUpdate mt (.map (some b)) (KK.enc k) (a.eval z)).run P w = .ok () { w with heap := w.heap.setIfInBounds b (.map es' clock') } →
  ∃ w', (execOp a.eval ⟨none, .mapUpdate mt x y z, t, p, e, none⟩).run P w = .ok .skip w' ∧ Fx.left { d := none, S := [tg], sets := [(tg, .mr KK.enc E Tb J (gX q k xs))], rs := cI x ++ (cI y ++ cI z), rt := [tg] } w M w' undef := by
  intro es' clock' hk' hd' hap hrun
  have hr : (execOp a.eval ⟨none, .mapUpdate mt x y z, t, p, e, none⟩).run P w = .ok .skip { w with heap := w.heap.setIfInBounds b (.map es' clock') } := by
   simp only [execOp, e1, hk _ _ _ hyd]
   simp [hrun]
  have le : Le (· ∈ [tg]) (· ∈ ([] : List Nat)) w M { w with heap := w.heap.setIfInBounds b (.map es' clock') } M := by
   refine ⟨by simp, rfl, rfl, rfl, fun b2 hlt hm2 => ⟨hm2, ?_⟩, fun b2 u hm2 _ => ⟨hm2, fun hs => ?_⟩⟩
   ·have : b ≠ b2 := fun h => by subst h; rw [e2] at hm2; cases hm2
    simp [Array.getElem?_setIfInBounds, this]
   have : b ≠ b2 := fun h => by subst h; rw [e2] at hm2; injection hm2 with hm2; exact hs (by simp [hm2])
   simp [Array.getElem?_setIfInBounds, this]
  refine ⟨_, hr, M, ⟨fun b2 u h => by simpa using wf.lt b2 u h, wf.inj⟩, le, trivial, fun x hx => ?_⟩
  rw [List.mem_singleton.1 hx]
  refine ⟨Ei q k xs hn, b, es', clock', e2, by simp [hblt], hk', ?_, hap⟩
  exact b8 le (fun _ _ => by simp) (fun u hu => by rw [tI.2 u hu]; simpa using hJ') hd'
 rcases rm KK h4 h5 k with ⟨i, v0, en, hi, hg, hen, hkey, hd, hf⟩ | ⟨hi, hg, hf⟩
 ·obtain ⟨v1, hv1, _, hput⟩ := og q k i hi
  have hil : i < es.size := (Array.getElem?_eq_some_iff.1 hen).1
  have hes : (es.modify i fun e => { e with key := KK.enc k, val := a.eval z }).toList = es.toList.set i { en with key := KK.enc k, val := a.eval z } := by
   rw [Array.toList_modify, List.modify_eq_set, Array.getElem?_toList, hen]; rfl
  refine fin (es.modify i fun e => { e with key := KK.enc k, val := a.eval z }) clock ?_ ?_ ?_ ?_
  ·rw [hput, List.map_set, hes, List.map_set, h4]
  ·rw [hput, List.map_set, hes, List.map_set]
   exact sA h5 hrow
  ·rw [hes, List.map_set]
   intro i1 j1 v u g e' e'' hi1 hj1 hv hu
   rw [List.getElem?_set] at hi1 hj1
   by_cases c1 : i = i1 <;> by_cases c2 : i = j1
   ·omega
   ·rw [if_pos c1] at hi1; rw [if_neg c2] at hj1
    split at hi1
    ·injection hi1 with hi1
     have hi1 : a.eval z = v := hi1
     subst hi1
     have := AT q hn (own' g e' hv j1 u e'' hj1 hu) (yw hi)
     omega
    cases hi1
   ·rw [if_neg c1] at hi1; rw [if_pos c2] at hj1
    split at hj1
    ·injection hj1 with hj1
     have hj1 : a.eval z = u := hj1
     subst hj1
     have := AT q hn (own' g e'' hu i1 v e' hi1 hv) (yw hi)
     omega
    cases hj1
   rw [if_neg c1] at hi1; rw [if_neg c2] at hj1
   exact h6 i1 j1 v u g e' e'' hi1 hj1 hv hu
  simp [Instr.mapUpdate, underlying, hu, getObj, setObj, Sem.run, h3, KK.check, hf, hen, hkey, Instr.keyThatStays, KK.same]
 obtain ⟨_, hput⟩ := pR q k hi
 have hlen : (es.toList.map (·.val)).length = q.length := by have := congrArg List.length h4; simpa using this
 have hno : ∀ j, (q[j]?).map Prod.fst ≠ some k := fun j hj => by
  rw [List.findIdx?_eq_none_iff] at hi
  rw [← List.getElem?_map] at hj
  have := hi k (List.mem_of_getElem? hj)
  simp at this
 refine fin (es.push { key := KK.enc k, val := a.eval z, born := clock }) (clock + 1) ?_ ?_ ?_ ?_
 ·rw [hput]; simp [h4]
 ·rw [hput]; simp only [Array.toList_push, List.map_append, List.map_cons, List.map_nil]
  exact eF h5 ⟨hrow, trivial⟩
 ·simp only [Array.toList_push, List.map_append, List.map_cons, List.map_nil]
  intro i1 j1 v u g e' e'' hi1 hj1 hv hu
  rw [List.getElem?_append] at hi1 hj1
  split at hi1 <;> split at hj1
  ·exact h6 i1 j1 v u g e' e'' hi1 hj1 hv hu
  ·rw [List.getElem?_singleton] at hj1
   split at hj1
   ·injection hj1 with hj1
    subst hj1
    exact absurd (own' g e'' hu i1 v e' hi1 hv) (hno i1)
   cases hj1
  ·rw [List.getElem?_singleton] at hi1
   split at hi1
   ·injection hi1 with hi1
    subst hi1
    exact absurd (own' g e' hv j1 u e'' hj1 hu) (hno j1)
   cases hi1
  rw [List.getElem?_singleton] at hi1 hj1
  split at hi1 <;> split at hj1 <;> first | omega | (exfalso; simp at hj1; done) | (exfalso; simp at hi1; done)
 simp [Instr.mapUpdate, underlying, hu, getObj, setObj, Sem.run, h3, KK.check, hf]
end
section
variable {P : Program} {fr : Fr} {ops : Array Oper} {A : As} {rest : List Oper} {K : As → List (As × Fx) → Prop} {d : Nat} {t ty' mt kt et : TypeId} {p : String} {e : Array Edge} [T : k5 P]
variable {κ α : Type} [DecidableEq κ] {E : El α} {Tb J tg : Nat} {q : List (κ × List α)} {k : κ} {xs ys : List α}
theorem Dy [Inhabited α] {w : World} {M : ay} {g off i j : Nat} {cur : Array Value} {ty : Ty} (hh : w.heap[g]? = some (.cells cur Tb (0, 0))) (hd : cM w M (xs.flatMap E.tys) ((cur.toList.drop off).take (xs.length * E.size))) (hi : i < xs.length) (hl : (E.tys (nth xs i))[j]? = some ty) :
 ∃ u, w.cell? ⟨g, off + i * E.size + j, none⟩ = some u ∧ ty.den w M u := by
 obtain ⟨u, hu, hdu⟩ := dg hd _ ty (kr E xs hi j ty hl)
 rw [List.getElem?_take] at hu
 split at hu
 ·rw [List.getElem?_drop] at hu
  exact ⟨u, by rw [Nat.add_assoc]; simpa [World.cell?, hh] using hu, hdu⟩
 cases hu
end
end Go.T
namespace Go.T
open Go Go.RowKit
section
variable {P : Program} {fr : Fr} {ops : Array Oper} {A : As} {rest : List Oper} {K : As → List (As × Fx) → Prop} {d : Nat} {t ty' mt kt et : TypeId} {p : String} {e : Array Edge} [T : k5 P]
variable {κ α : Type} [DecidableEq κ] {E : El α} {Tb J tg : Nat} {q : List (κ × List α)} {k : κ} {xs ys : List α}
theorem Fz (l news : List Value) (o n m e : Nat) (he : o + n ≤ e) (hl : e + news.length ≤ l.length) : (((l.take e ++ news ++ l.drop (e + news.length)).drop o).take n) = (l.drop o).take n := by
 apply List.ext_getElem?
 intro i
 rw [List.getElem?_take, List.getElem?_take]
 split
 ·rename_i hi
  rw [List.getElem?_drop, List.getElem?_drop, List.append_assoc, List.getElem?_append_left (by rw [List.length_take]; omega), List.getElem?_take, if_pos (by omega)]
 rfl
theorem AW (l news : List Value) (o n : Nat) (hl : o + n + news.length ≤ l.length) : (((l.take (o + n) ++ news ++ l.drop (o + n + news.length)).drop o).take (n + news.length)) = (l.drop o).take n ++ news := by
 have h1 : (l.take (o + n) ++ news ++ l.drop (o + n + news.length)).drop o = (l.drop o).take n ++ news ++ l.drop (o + n + news.length) := by
  rw [List.append_assoc, List.drop_append_of_le_length (by rw [List.length_take]; omega), List.drop_take, show o + n - o = n by omega, List.append_assoc]
 have h2 : ((l.drop o).take n ++ news).length = n + news.length := by rw [List.length_append, List.length_take, List.length_drop, Nat.min_eq_left (by omega)]
 rw [h1, List.take_left' h2]
omit [DecidableEq κ] in
theorem FC {w : World} {M : ay} {vs : List Value} (hd : cM w M (q.map fun x => Ty.iK E Tb J x.2) vs) {j : Nat} {u : Value} {g e1 : Nat} (hj : vs[j]? = some u) (hu : lp E.size u = some (g, e1)) : M g = some J := by
 have hlen := cO hd
 have hlt := (List.getElem?_eq_some_iff.1 hj).1
 obtain ⟨x, hx, hdx⟩ := dg hd j (Ty.iK E Tb J (q[j]'(by simpa [hlen] using hlt)).2) (by rw [List.getElem?_map, List.getElem?_eq_getElem (by simpa [hlen] using hlt)]; rfl)
 rw [hj] at hx
 injection hx with hx
 subst hx
 rcases hdx with ⟨_, e⟩ | ⟨g', off, c, cur, e, hg, _⟩
 ·rw [e] at hu; simp [lp] at hu
 rw [e] at hu
 simp only [lp, Option.some.injEq, Prod.mk.injEq] at hu
 rw [← hu.1]; exact hg
theorem yJ {x y : Operand} {enc : κ → Value} {st el : Nat} {ti te : TI} (hx : A.op fr x = .qv E el tg J q k xs) (hy : A.op fr y = .sl E ys) (hc : A.tag tg = some (.mr enc E el J q)) (h1 : fV tg) (hJ : 4096 ≤ J) (hp : fr.pass.contains J = false) (hpos : 0 < ys.length) (hT : T.ef[st]? = some ti) (hk : ti.k = .slice el) (hE : T.ef[el]? = some te) (hs : te.size = E.size) (hz : te.zero.length = te.size) (h0 : 0 < te.size)
    (hlen : (xs.length + ys.length) * te.bytes ≤ 140737488355328) (hlen' : xs.length + ys.length ≤ 9223372036854775807)
    (h : aj P fr ops rest (A.after { d := some d, ty := .qv E el tg J q k (xs ++ ys), S := [tg, J], sets := [(tg, .mr enc E el J q)], rs := cI x ++ cI y, rt := [tg] }) fun A' l' => K A' ((A, { d := some d, ty := .qv E el tg J q k (xs ++ ys), S := [tg, J], sets := [(tg, .mr enc E el J q)], rs := cI x ++ cI y, rt := [tg] }) :: l')) :
    aj P fr ops (⟨some d, .call ⟨.builtin .append, #[x, y], #[st, st]⟩, t, p, e, none⟩ :: rest) A K := by
  refine ⟨_, gG rfl rfl (by simp) (by simp; exact ⟨h1.1, by omega⟩) (by simp) fun a w M wf hr htg => ?_, h⟩
  obtain ⟨hdx, hdy⟩ := op2 hr
  rw [hx] at hdx; rw [hy] at hdy
  obtain ⟨hrow, hown⟩ := hdx
  obtain ⟨hn, b, es, clock, hb, hhb, hkeys, hvals, hap⟩ := htg _ (cj hc) (by simp)
  have ownb : ∀ (g e0 : Nat), lp E.size (a.eval x) = some (g, e0) → ∀ (j : Nat) (u : Value) (e1 : Nat), (es.toList.map (·.val))[j]? = some u → lp E.size u = some (g, e1) → (q[j]?).map Prod.fst = some k ∧ (roomy (a.eval x) = true → e1 ≤ e0) := fun g e0 he => by
    obtain ⟨b', es', c', g1, g2, g3⟩ := hown g e0 he
    obtain ⟨u', hu'⟩ : ∃ u, tg = u + 1 := ⟨tg - 1, by omega⟩
    have : b = b' := by
      have hb' : M b = some (u' + 1) := hu' ▸ hb
      have g1' : M b' = some (u' + 1) := hu' ▸ g1
      exact wf.inj b b' u' (by omega) hb' g1'
    subst this
    rw [hhb] at g2
    injection g2 with g2
    injection g2 with g2 _
    subst g2
    exact g3
  obtain ⟨_, D, _, hD, hkd, _⟩ := dJ hT
  rw [hk] at hkd
  cases D <;> simp only [TK.of, reduceCtorEq, TK.slice.injEq] at hkd
  subst hkd
  rename_i el
  obtain ⟨i, _, hi, _, _, hsz, hby, hze⟩ := dJ hE
  obtain ⟨zz, hiz, hzc⟩ : ∃ z, i.zero = some z ∧ z.cells.size = i.size := by
    cases hiz : i.zero with
    | none => rw [hiz] at hze; rw [← hze] at hz; simp at hz; omega
    | some z => rw [hiz] at hze; exact ⟨z, rfl, by simp at hze; rw [hsz, ← hz, ← hze]; simp⟩
  obtain ⟨ad, c', ey, hc1, hc2, hpp⟩ := hdy
  obtain ⟨b', off', rfl, hp'⟩ := hpp hpos
  obtain ⟨news, hn1, hn2, hn3⟩ := mm hp' _ (Nat.le_refl _)
  rw [List.take_length] at hn2
  have hnl : news.length = ys.length * i.size := by rw [hn1, cv, hsz, hs]
  have hnews : ∀ j u, news[j]? = some u → w.cell? ((⟨b', off', none⟩ : Addr).add j) = some u := fun j u hj => by rw [Addr.add_lit]; exact hn3 j u hj
  have hones := k6 hn2 (kf E ys)
  have hesz : E.size = i.size := by rw [hsz, hs]
  -- behind a growth
  have grown : ∀ (olds : List Value) (cap : Nat), cM w M (xs.flatMap E.tys) olds → cap < xs.length + ys.length →
      (Builtin.append_ #[st, st] t #[a.eval x, a.eval y]).run P w = .ok (.slice (some ⟨w.heap.size, 0, none⟩) (xs.length + ys.length) (grownCap w (xs.length + ys.length) cap el)) (w.drew.alloc (.cells (olds.toArray ++ news.toArray ++ Builtin.zeroCells zz.cells (grownCap w (xs.length + ys.length) cap el - (xs.length + ys.length))) el)) →
      ∃ v w', (execOp a.eval ⟨some d, .call ⟨.builtin .append, #[x, y], #[st, st]⟩, t, p, e, none⟩).run P w = .ok (.value v) w' ∧ Fx.left { d := some d, ty := .qv E el tg J q k (xs ++ ys), S := [tg, J], sets := [(tg, .mr enc E el J q)], rs := cI x ++ cI y, rt := [tg] } w M w' v := by
    intro olds cap hdo hcap hrun
    have holen : olds.length = xs.length * i.size := by rw [cO hdo, cv, hesz]
    have hge := grownCap_ge w (xs.length + ys.length) cap el
    have hcm : grownCap w (xs.length + ys.length) cap el ≤ maxLen := grownCap_le_maxLen w (xs.length + ys.length) cap el (by simp only [maxLen]; omega)
    have hsize : (w.drew.alloc (.cells (olds.toArray ++ news.toArray ++ Builtin.zeroCells zz.cells (grownCap w (xs.length + ys.length) cap el - (xs.length + ys.length))) el)).heap.size = w.heap.size + 1 := by simp
    have hold : ∀ b2, b2 < w.heap.size → (w.drew.alloc (.cells (olds.toArray ++ news.toArray ++ Builtin.zeroCells zz.cells (grownCap w (xs.length + ys.length) cap el - (xs.length + ys.length))) el)).heap[b2]? = w.heap[b2]? := fun b2 h => Below.heap_alloc w.drew _ b2 h
    have hnew : (w.drew.alloc (.cells (olds.toArray ++ news.toArray ++ Builtin.zeroCells zz.cells (grownCap w (xs.length + ys.length) cap el - (xs.length + ys.length))) el)).heap[w.heap.size]? = some (.cells (olds.toArray ++ news.toArray ++ Builtin.zeroCells zz.cells (grownCap w (xs.length + ys.length) cap el - (xs.length + ys.length))) el (0, 0)) := gq w.drew _
    have hos : (w.drew.alloc (.cells (olds.toArray ++ news.toArray ++ Builtin.zeroCells zz.cells (grownCap w (xs.length + ys.length) cap el - (xs.length + ys.length))) el)).os = w.os ∧ (w.drew.alloc (.cells (olds.toArray ++ news.toArray ++ Builtin.zeroCells zz.cells (grownCap w (xs.length + ys.length) cap el - (xs.length + ys.length))) el)).tape = w.tape ∧ (w.drew.alloc (.cells (olds.toArray ++ news.toArray ++ Builtin.zeroCells zz.cells (grownCap w (xs.length + ys.length) cap el - (xs.length + ys.length))) el)).output = w.output := ⟨rfl, rfl, rfl⟩
    have hcs : (olds.toArray ++ news.toArray ++ Builtin.zeroCells zz.cells (grownCap w (xs.length + ys.length) cap el - (xs.length + ys.length))).size = grownCap w (xs.length + ys.length) cap el * i.size := by
      simp only [Array.size_append, List.size_toArray, size_zeroCells, hzc, holen, hnl, ← Nat.add_mul]
      congr 1
      omega
    have htk : ((olds.toArray ++ news.toArray ++ Builtin.zeroCells zz.cells (grownCap w (xs.length + ys.length) cap el - (xs.length + ys.length))).toList.drop 0).take ((xs ++ ys).length * E.size) = olds ++ news := by
      rw [List.drop_zero]
      simp only [Array.toList_append]
      rw [List.take_left' (by rw [List.length_append, holen, hnl, List.length_append, hesz, Nat.add_mul])]
    generalize hw' : (w.drew.alloc (.cells (olds.toArray ++ news.toArray ++ Builtin.zeroCells zz.cells (grownCap w (xs.length + ys.length) cap el - (xs.length + ys.length))) el)) = w' at *
    generalize hcu : (olds.toArray ++ news.toArray ++ Builtin.zeroCells zz.cells (grownCap w (xs.length + ys.length) cap el - (xs.length + ys.length))) = cu at *
    have le : Le (· ∈ [tg, J]) (· ∈ ([] : List Nat)) w M w' (fun b2 => if b2 = w.heap.size then some J else M b2) :=
      ⟨by omega, hos.1, hos.2.1, hos.2.2, fun b2 hb2 hm => ⟨by rw [if_neg (by omega)]; exact hm, hold b2 hb2⟩, fun b2 u hm _ => by
        have := wf.lt b2 u hm
        exact ⟨by rw [if_neg (by omega)]; exact hm, fun _ => hold b2 this⟩⟩
    have le0 : Le (· ∈ ([] : List Nat)) (· ∈ ([] : List Nat)) w M w' (fun b2 => if b2 = w.heap.size then some J else M b2) :=
      ⟨by omega, hos.1, hos.2.1, hos.2.2, fun b2 hb2 hm => ⟨by rw [if_neg (by omega)]; exact hm, hold b2 hb2⟩, fun b2 u hm _ => by
        have := wf.lt b2 u hm
        exact ⟨by rw [if_neg (by omega)]; exact hm, fun _ => hold b2 this⟩⟩
    have wf' : Wf w' (fun b2 => if b2 = w.heap.size then some J else M b2) := by
      refine ⟨fun b2 u hm => ?_, fun b2 b3 u ht1 hm hm' => ?_⟩
      · split at hm
        · omega
        · have := wf.lt b2 u hm; omega
      · split at hm
        · injection hm with hm; omega
        · split at hm'
          · injection hm' with hm'; omega
          · exact wf.inj b2 b3 u ht1 hm hm'
    have hblt := wf.lt b tg hb
    refine ⟨.slice (some ⟨w.heap.size, 0, none⟩) (xs.length + ys.length) (grownCap w (xs.length + ys.length) cap el), w', by simp [execOp, resolve, invoke, builtin, hrun], _, wf', le, ⟨.inr ⟨w.heap.size, 0, grownCap w (xs.length + ys.length) cap el, cu, by rw [List.length_append], by simp, hnew, by rw [List.length_append]; exact hge, hcm, by rw [hcs, hesz]; omega, ?_⟩, fun g e0 he => ?_⟩, fun y hy => ?_⟩
    · rw [htk, List.flatMap_append]
      exact kA (b8 le0 (by rw [E.dB]; intro _ h; cases h) (by rw [E.cW]; intro _ h; cases h) hdo) (b8 le0 (by rw [E.dB]; intro _ h; cases h) (by rw [E.cW]; intro _ h; cases h) hn2)
    · simp only [lp, Option.some.injEq, Prod.mk.injEq] at he
      obtain ⟨rfl, _⟩ := he
      refine ⟨b, es, clock, (if_neg (by omega)).trans hb, (hold b hblt).trans hhb, fun j u e1 hj hju => ?_⟩
      have := wf.lt _ _ (FC hvals hj hju)
      omega
    · rw [List.mem_singleton.1 hy]
      refine ⟨hn, b, es, clock, (if_neg (by omega)).trans hb, (hold b hblt).trans hhb, hkeys, ?_, hap⟩
      exact b8 le0 (fun _ _ h => by cases h) (fun _ _ h => by cases h) hvals
  rcases hrow with ⟨hxe, ex⟩ | ⟨g, off, cap, cur, ex, hg, hh, hxc, hcm, hfit, hdx⟩
  · have hrn := run_append_nil (P := P) w st t el i zz hD hi hiz ⟨b', off', none⟩ ys.length c' news hnl hnews hpos (by omega) (by rw [hby]; have := hlen; rw [Nat.add_mul] at this; omega)
    subst hxe
    refine grown [] 0 trivial (by simpa using hpos) ?_
    rw [ex, ey]
    simpa using hrn
  · by_cases hroom : xs.length + ys.length ≤ cap
    · -- in place
      have hm : (xs.length + ys.length) * E.size ≤ cap * E.size := Nat.mul_le_mul_right _ hroom
      rw [Nat.add_mul] at hm
      have hcf : off + xs.length * i.size + news.length ≤ cur.size := by rw [hnl, ← hesz]; omega
      have hf := run_firstCells_some (P := P) w i.size ys.length ⟨b', off', none⟩ ys.length c' news hnl hnews
      have hst := run_storeCells_at (P := P) g (off + xs.length * i.size) el news 0 cur w hh (by simpa using hcf) hones
      rw [lJ _ hh] at hst
      simp only [Nat.add_zero] at hst
      obtain ⟨h1', h2', h3'⟩ := jY (cs' := (cur.toList.take (off + xs.length * i.size) ++ news ++ cur.toList.drop (off + xs.length * i.size + news.length)).toArray) (Tb := el) wf hg _ rfl
      have hrun : (Builtin.append_ #[st, st] t #[a.eval x, a.eval y]).run P w = .ok (.slice (some ⟨g, off, none⟩) (xs.length + ys.length) cap) { w with heap := w.heap.setIfInBounds g (.cells (cur.toList.take (off + xs.length * i.size) ++ news ++ cur.toList.drop (off + xs.length * i.size + news.length)).toArray el (0, 0)) } := by
        rw [ex, ey]
        simp [Builtin.append_, run_underlying hD, sizeOf, typeInfo, hi, Builtin.lenOf, hroom, hf, Addr.add_lit, hst]
      have le : Le (· ∈ [tg, J]) (· ∈ ([] : List Nat)) w M { w with heap := w.heap.setIfInBounds g (.cells (cur.toList.take (off + xs.length * i.size) ++ news ++ cur.toList.drop (off + xs.length * i.size + news.length)).toArray el (0, 0)) } M :=
        h2'.weaken (fun u hu => by simp only [List.mem_singleton] at hu; subst hu; simp) (fun _ h => by cases h)
      have hgb : g ≠ b := fun e => by rw [e, hhb] at hh; cases hh
      have hroomy : roomy (a.eval x) = true := by rw [ex]; simp [roomy]; omega
      have hb' : ({ w with heap := w.heap.setIfInBounds g (.cells (cur.toList.take (off + xs.length * i.size) ++ news ++ cur.toList.drop (off + xs.length * i.size + news.length)).toArray el (0, 0)) } : World).heap[b]? = some (.map es clock) := by
        show (w.heap.setIfInBounds g _)[b]? = _
        rw [Array.getElem?_setIfInBounds_ne hgb]; exact hhb
      refine ⟨.slice (some ⟨g, off, none⟩) (xs.length + ys.length) cap, _, by simp [execOp, resolve, invoke, builtin, hrun], M, h1', le, ⟨.inr ⟨g, off, cap, _, by rw [List.length_append], hg, h3', by rw [List.length_append]; exact hroom, hcm, ?_, ?_⟩, fun g' e0 he => ?_⟩, fun y hy => ?_⟩
      · simp only [List.size_toArray, List.length_append, List.length_take, List.length_drop, Array.length_toList]
        omega
      · rw [List.length_append, Nat.add_mul, hesz, ← hnl, List.toList_toArray, AW _ _ _ _ (by simpa using hcf), List.flatMap_append]
        refine b8 h2' (by rw [← List.flatMap_append, E.dB]; intro _ h; cases h) (by rw [← List.flatMap_append, E.cW]; intro _ h; cases h) (kA ?_ hn2)
        rw [← hesz]; exact hdx
      · simp only [lp, Option.some.injEq, Prod.mk.injEq] at he
        obtain ⟨rfl, rfl⟩ := he
        refine ⟨b, es, clock, hb, hb', fun j u e1 hj hju => ?_⟩
        have := ownb g (off + xs.length * E.size) (by rw [ex]; rfl) j u e1 hj hju
        refine ⟨this.1, fun _ => ?_⟩
        have := this.2 hroomy
        rw [Nat.add_mul]; omega
      · rw [List.mem_singleton.1 hy]
        refine ⟨hn, b, es, clock, hb, hb', hkeys, ?_, hap⟩
        refine gW (by rw [cO hvals]) fun j ty hj => ?_
        obtain ⟨u, hu, hdu⟩ := dg hvals j ty hj
        refine ⟨u, hu, ?_⟩
        rw [List.getElem?_map] at hj
        obtain ⟨qe, _, rfl⟩ := Option.map_eq_some_iff.1 hj
        rcases hdu with h | ⟨g2, off2, c2, cur2, e2, hg2, hh2, k1, k2, k3, k4⟩
        · exact .inl h
        · by_cases hgg : g = g2
          · subst hgg
            rw [hh] at hh2
            injection hh2 with hh2
            injection hh2 with ha _
            subst ha
            have hend := (ownb g (off + xs.length * E.size) (by rw [ex]; rfl) j u _ hu (by rw [e2]; rfl)).2 hroomy
            refine .inr ⟨g, off2, c2, _, e2, hg, h3', k1, k2, ?_, ?_⟩
            · simp only [List.size_toArray, List.length_append, List.length_take, List.length_drop, Array.length_toList]
              omega
            · rw [List.toList_toArray, Fz _ _ _ _ 0 _ (by rw [← hesz]; exact hend) (by simpa using hcf)]
              exact b8 h2' (by rw [E.dB]; intro _ h; cases h) (by rw [E.cW]; intro _ h; cases h) k4
          · refine .inr ⟨g2, off2, c2, cur2, e2, hg2, ?_, k1, k2, k3, b8 h2' (by rw [E.dB]; intro _ h; cases h) (by rw [E.cW]; intro _ h; cases h) k4⟩
            show (w.heap.setIfInBounds g _)[g2]? = _
            rw [Array.getElem?_setIfInBounds_ne hgg]; exact hh2
    · have holds : ∀ j u, ((cur.toList.drop off).take (xs.length * E.size))[j]? = some u → w.cell? ((⟨g, off, none⟩ : Addr).add j) = some u := fun j u hj => by
        rw [List.getElem?_take] at hj
        split at hj
        · rw [List.getElem?_drop] at hj
          rw [Addr.add_lit]
          simpa [World.cell?, hh] using hj
        · cases hj
      have hol : ((cur.toList.drop off).take (xs.length * E.size)).length = xs.length * i.size := by rw [cO hdx, cv, hesz]
      have hrn := run_append_grow (P := P) w st t el i zz hD hi hiz ⟨g, off, none⟩ xs.length cap _ hol holds ⟨b', off', none⟩ ys.length c' news hnl hnews (by omega) (by omega) (growslice_fits (by omega) (by rw [hby]; exact hlen))
      refine grown _ cap hdx (by omega) ?_
      rw [ex, ey]
      exact hrn
end
end Go.T
namespace Go.T
open Go Go.RowKit
end Go.T
namespace Go.T
open Go Go.RowKit Go.Lib
section
variable {P : Program} {fr : Fr} {ops : Array Oper} {A : As} {rest : List Oper} {K : As → List (As × Fx) → Prop} {d : Nat} {t ty' ty2 : TypeId} {p : String} {e : Array Edge} [T : k5 P]
end
end Go.T
namespace Go.T
open Go Go.RowKit
section
variable {P : Program} {fr : Fr} {ops : Array Oper} {A : As} {rest : List Oper} {K : As → List (As × Fx) → Prop} {t mt : TypeId} {p : String} {e : Array Edge} {d : Option Nat} {x y z : Operand}
end
section
variable {P : Program} {fr : Fr} {ops : Array Oper} {A : As} {rest : List Oper} {K : As → List (As × Fx) → Prop} {d : Nat} {t mt kt et : TypeId} {p : String} {e : Array Edge}
variable {κ β : Type} [DecidableEq κ]
end
section
variable {A : As} {κ β : Type} [DecidableEq κ]
end
section
variable {P : Program} {fr : Fr} {ops : Array Oper} {A : As} {rest : List Oper} {K : As → List (As × Fx) → Prop} {t ty' : TypeId} {p : String} {e : Array Edge} [T : k5 P]
end
section
variable {P : Program} {fr : Fr} {ops : Array Oper} {A : As} {rest : List Oper} {K : As → List (As × Fx) → Prop} {d : Nat} {t ty' : TypeId} {p : String} {e : Array Edge} [T : k5 P]
theorem oM {α : Type} [Inhabited α] {E : El α} {xs : List α} {x : Operand} {tg off Tb : Nat} {ti : TI} (i : Nat) (hx : A.op fr x = .ptr tg off) (he : off = i * E.size) (hc : A.tag tg = some (.vec E Tb xs)) (h1 : fV tg) (hT : T.ef[ty']? = some ti) (ha : ti.k.agg = true) (hsz : ti.size = E.size) (hi : i < xs.length)
 (h : aj P fr ops rest (A.set d (.agg (E.tys (nth xs i)))) fun A' l => K A' ((A, { d := some d, ty := .agg (E.tys (nth xs i)), rs := cI x, rt := [tg] }) :: l)) : aj P fr ops (⟨some d, .load ty' x, t, p, e, none⟩ :: rest) A K :=
 bP (bW rfl rfl fun a w M wf hr ht => by
  have := cU (x := x) (fun _ h => h) hr
  rw [hx] at this
  obtain ⟨b, hb, e⟩ := this
  obtain ⟨cs, g1, g2, g3⟩ := vi (l := E.tys (nth xs i)) (b := b) (q := off) (off := 0) (n := ti.size) (m := E.tys (nth xs i)) (fun j t hj => n4 wf h1 hb (rL hc w M ht) (by
   rw [he]; exact kr E xs hi j t hj)) (by rw [List.drop_zero, hsz, ← E.len (nth xs i), List.take_length]) (by rw [E.len, hsz])
  exact ⟨.agg cs.toArray, by simp only [execOp, e]; rw [Sem.run_bind, fj (off := off) hT ha g1 (by simpa using g3)]; rfl, cs.toArray, rfl, by simpa using g2⟩) h
end
section
variable {P : Program} {A : As} {fn : Func} {n : Nat} {w0 : World} {M0 : ay} [T : k5 P]
end
section
variable {P : Program} {fr : Fr} {A : As} {c : Code} {Q : Exit → Act → World → Prop}
theorem gI {tg : Nat} {C D : Cont} (hc : A.tag tg = some C) (h : C.Sub D) (h' : fM P fr c ⟨A.slots, (tg, D) :: A.tags⟩ Q) : fM P fr c A Q := fun a w ⟨M, ok, hsl, ht⟩ =>
 h' a w ⟨M, ok, hsl, fun x hx => by
  rcases List.mem_cons.1 hx with rfl | hx
  ·exact h _ _ _ (ht _ (cj hc))
  exact ht x hx⟩
end
section
variable {P : Program} {fr : Fr} {ops : Array Oper} {A : As} {rest : List Oper} {K : As → List (As × Fx) → Prop} {d : Nat} {t mt kt et : TypeId} {p : String} {e : Array Edge} {κ β : Type} [DecidableEq κ]
end
end Go.T
namespace Go.T
open Go Go.RowKit
def LB (J : World → ay → Prop) (w : World) (M : ay) : Prop :=
  ∃ Mc, Wf w Mc ∧ CG Mc ∧ J w Mc ∧ (∀ b, M b = none → Mc b = none) ∧ ∀ b u, b < w.heap.size → M b = some u → u ≠ 7000 → Mc b = some (Zt + b)
theorem wB {J : World → ay → Prop} (hJ : Cb J) {S K : Nat → Prop} {w w' : World} {M M' : ay} (le : Le S K w M w' M') (hs : ¬ S 7000) (hk : ¬ K 7000) (h : LB J w M) : LB J w' M' := by
  obtain ⟨Mc, wf, z, hj, h1, h2⟩ := h
  have own : ∀ b, M b = some 7000 → M' b = some 7000 ∧ w'.heap[b]? = w.heap[b]? := fun b h => let ⟨a, c⟩ := le.own b _ h hk; ⟨a, c hs⟩
  have mb : ∀ b t, Mc b = some t → t < Zt → M b = some 7000 := fun b t h ht => by
    cases hm : M b with
    | none => rw [h1 b hm] at h; cases h
    | some u =>
      by_cases e : u = 7000
      · rw [e]
      · have := h2 b u (wf.lt b t h) hm e
        rw [this] at h; injection h with h; omega
  let N : ay := fun b => if b < w'.heap.size then (match M' b with | none => none | some u => if u = 7000 then (if b < w.heap.size ∧ M b = some 7000 then Mc b else some (Zt + b)) else some (Zt + b)) else none
  have hN : ∀ b, N b = if b < w'.heap.size then (match M' b with | none => none | some u => if u = 7000 then (if b < w.heap.size ∧ M b = some 7000 then Mc b else some (Zt + b)) else some (Zt + b)) else none := fun _ => rfl
  have zok : CG N := by
    intro b u h hu
    rw [hN] at h
    split at h
    · split at h
      · cases h
      · split at h
        · split at h
          · exact z b u h hu
          · injection h with h; exact h.symm
        · injection h with h; exact h.symm
    · cases h
  have wf' : Wf w' N := by
    refine ⟨fun b t h => ?_, fun b b' t ht1 h h' => ?_⟩
    · rw [hN] at h
      split at h
      · assumption
      · cases h
    · have part : ∀ b, N b = some (t + 1) → Mc b = some (t + 1) := fun b h => by
        have hz : t + 1 < Zt := by unfold Zt; omega
        rw [hN] at h
        split at h
        · split at h
          · cases h
          · split at h
            · split at h
              · exact h
              · injection h with h; omega
            · injection h with h; omega
        · cases h
      exact wf.inj b b' t ht1 (part b h) (part b' h')
  have lez : Le (fun t => Zt ≤ t) (fun t => Zt ≤ t) w Mc w' N := by
    refine ⟨le.size, le.os, le.tape, le.out, fun b hb hm => ?_, fun b t hm ht => ?_⟩
    · have hb' : b < w'.heap.size := Nat.lt_of_lt_of_le hb le.size
      cases hmb : M b with
      | none =>
        obtain ⟨a, c⟩ := le.pZ b hb hmb
        exact ⟨by rw [hN, if_pos hb', a], c⟩
      | some u =>
        by_cases e : u = 7000
        · subst e
          obtain ⟨a, c⟩ := own b hmb
          exact ⟨by rw [hN, if_pos hb', a]; show (if (7000 : Nat) = 7000 then _ else _) = _; rw [if_pos rfl, if_pos ⟨hb, hmb⟩]; exact hm, c⟩
        · rw [h2 b u hb hmb e] at hm; cases hm
    · have hlt := wf.lt b t hm
      have h0 := mb b t hm (Nat.lt_of_not_le ht)
      obtain ⟨a, c⟩ := own b h0
      refine ⟨?_, fun _ => c⟩
      rw [hN, if_pos (Nat.lt_of_lt_of_le hlt le.size), a]
      show (if (7000 : Nat) = 7000 then _ else _) = _
      rw [if_pos rfl, if_pos ⟨hlt, h0⟩]; exact hm
  refine ⟨N, wf', zok, hJ _ _ _ _ wf' lez hj, fun b h => ?_, fun b u hb h hu => ?_⟩
  · rw [hN, h]; split <;> rfl
  · rw [hN, if_pos hb, h]; show (if u = 7000 then _ else _) = _; rw [if_neg hu]
def Cont.ck {J : World → ay → Prop} (hJ : Cb J) : Cont :=
  { den := fun w M t => t = 7000 ∧ LB J w M
    mono := fun le _ _ hs hk ⟨e, h⟩ => ⟨e, wB hJ le (e ▸ hs) (e ▸ hk) h⟩ }
theorem Cont.Ku {J : Nat → World → ay → Prop} (hJ : ∀ k, Cb (J k)) {a b : Nat} (e : a = b) : (Cont.ck (hJ a)).Sub (Cont.ck (hJ b)) := by subst e; exact Cont.aF _
def Mk (b1 : Bool) (J1 Jx : World → ay → Prop) (w : World) (M : ay) (v : Value) : Prop := (v = .bool b1 ∧ LB J1 w M) ∨ (v = .bool (!b1) ∧ LB Jx w M)
def Ty.yb {J1 Jx : World → ay → Prop} (b1 : Bool) (h1 : Cb J1) (hx : Cb Jx) : Ty :=
  ⟨Mk b1 J1 Jx, [7000], [7000], fun le hk hs h => h.imp (fun ⟨e, h⟩ => ⟨e, wB h1 le (hs _ (by simp)) (hk _ (by simp)) h⟩) (fun ⟨e, h⟩ => ⟨e, wB hx le (hs _ (by simp)) (hk _ (by simp)) h⟩), true, fun _ h => h.elim (fun ⟨e, _⟩ => e ▸ rfl) (fun ⟨e, _⟩ => e ▸ rfl)⟩
def A8 (w : World) (M1 Mc' : ay) : ay := fun b => if b < w.heap.size then M1 b else (Mc' b).map fun _ => 7000
theorem HV {w w' : World} {M1 Mc Mc' : ay} (wf1 : Wf w M1) (wf' : Wf w' Mc') (h1 : ∀ b, M1 b = none → Mc b = none) (h2 : ∀ b u, b < w.heap.size → M1 b = some u → u ≠ 7000 → Mc b = some (Zt + b)) (le : Le (fun t => t < Zt) (fun t => t < Zt) w Mc w' Mc') :
 Wf w' (A8 w M1 Mc') ∧ Le (· ∈ [7000]) (· ∈ ([] : List Nat)) w M1 w' (A8 w M1 Mc') ∧ (∀ b, A8 w M1 Mc' b = none → Mc' b = none) ∧ ∀ b u, b < w'.heap.size → A8 w M1 Mc' b = some u → u ≠ 7000 → Mc' b = some (Zt + b) := by
 unfold A8
 refine ⟨⟨fun b u h => ?_, fun b b' u ht1 h h' => ?_⟩, ⟨le.size, le.os, le.tape, le.out, fun b hb hm => ⟨by simp [hb, hm], (le.pZ b hb (h1 b hm)).2⟩, fun b u hm _ => ⟨by simp [wf1.lt b u hm, hm], fun hs => ?_⟩⟩, fun b h => ?_, fun b u _ h hu => ?_⟩
 ·split at h
  ·exact Nat.lt_of_lt_of_le ‹_› le.size
  obtain ⟨v, hv, _⟩ := Option.map_eq_some_iff.1 h
  exact wf'.lt b v hv
 ·have part : ∀ b, (if b < w.heap.size then M1 b else (Mc' b).map fun _ => 7000) = some (u + 1) → M1 b = some (u + 1) := fun b h => by
   split at h
   ·exact h
   obtain ⟨v, _, hv⟩ := Option.map_eq_some_iff.1 h
   omega
  exact wf1.inj b b' u ht1 (part b h) (part b' h')
 ·have hu : u ≠ 7000 := fun e => hs (by simp [e])
  exact (le.own b _ (h2 b u (wf1.lt b _ hm) hm hu) (by omega)).2 (by omega)
 ·split at h
  ·exact (le.pZ b ‹_› (h1 b h)).1
  simpa using h
 split at h
 ·exact (le.own b _ (h2 b u ‹_› h hu) (by omega)).1
 obtain ⟨v, _, hv⟩ := Option.map_eq_some_iff.1 h
 exact absurd hv.symm hu
def LM (w : World) (Mc : ay) (J1 Jx : World → ay → Prop) (e : Ending) (w' : World) : Prop :=
  ∃ M', Wf w' M' ∧ CG M' ∧ Le (fun t => t < Zt) (fun t => t < Zt) w Mc w' M' ∧ ((e = .returned (.bool true) ∧ J1 w' M') ∨ (e = .returned (.bool false) ∧ Jx w' M'))
abbrev gp (g : Nat) : Value := .pointer (some ⟨g, 0, none⟩)
def vE (P : Program) (f : FuncId) (T : Nat) (capTys args : List Ty) (J0 J1 Jx : World → ay → Prop) : Prop :=
  (∃ fn, P.funcs[f]? = some fn ∧ (fn.name == "runtime.NumGoroutine") = false ∧ fn.body.isNone = false) ∧
  ∀ (w : World) (Mc : ay) (g : Nat) (vs cs cs' : List Value), Wf w Mc → CG Mc → cM w Mc args vs → cM w Mc capTys cs → cM w Mc capTys cs' → Mc g = some (Zt + g) →
    w.heap[g]? = some (.cells #[.func (.func f) #[] (cs' ++ [gp g]).toArray] T (0, 0)) → J0 w Mc →
    Calls P f (vs ++ (cs ++ [gp g])).toArray w (LM w Mc J1 Jx)
section
variable {P : Program} {fr : Fr} {ops : Array Oper} {A : As} {rest : List Oper} {K : As → List (As × Fx) → Prop} {d : Nat} {t ty' : TypeId} {p : String} {e : Array Edge}
theorem BZ {c l k : Nat} {encs : List (List Ty)} {J : Nat → World → ay → Prop} {Jx : World → ay → Prop} (hJ : ∀ k, Cb (J k)) (hJx : Cb Jx) (hY : LC P l encs J Jx) {xs : List Operand} {ats : Array TypeId} {tys : List Ty}
 (hkd : fr.kd = .plain) (hc : A.op fr (.tmp c) = .ex (yv l)) (hx : nh A fr xs = tys) (hd : cG tys = []) (hdc : bl tys = []) (hk : encs[k]? = some tys) (ht : A.tag 7000 = some (.ck (hJ k)))
 (h : aj P fr ops rest (A.after { d := some d, ty := .yb true (hJ (k + 1)) hJx, S := [7000], rs := c :: xs.flatMap cI, rt := [7000] }) fun A' l' => K A' ((A, { d := some d, ty := .yb true (hJ (k + 1)) hJx, S := [7000], rs := c :: xs.flatMap cI, rt := [7000] }) :: l')) :
 aj P fr ops (⟨some d, .call ⟨.value (.tmp c), xs.toArray, ats⟩, t, p, e, none⟩ :: rest) A K := by
 refine ⟨{ d := some d, ty := .yb true (hJ (k + 1)) hJx, S := [7000], rs := c :: xs.flatMap cI, rt := [7000] }, ⟨rfl, by simp, by simp, by simp, fun a w M wf hsz hrd htg => ?_⟩, h⟩
 rw [if_pos (by simp [Region.wanted])]
 have hcv := cU (x := .tmp c) (rs := c :: xs.flatMap cI) (fun u hu => by exact (List.mem_singleton.1 hu) ▸ List.mem_cons_self) hrd
 rw [hc] at hcv
 have hcv : a.eval (.tmp c) = yv l := hcv
 obtain ⟨_, Mc, wfc, z, hj, h1, h2⟩ := htg _ (cj ht) (by simp)
 have hv : cM w Mc tys (xs.map a.eval) := iB h1 hd hdc (hx ▸ gZ (rs := c :: xs.flatMap cI) hrd fun x hx c hc => List.mem_cons_of_mem _ (List.mem_flatMap.2 ⟨x, hx, hc⟩))
 obtain ⟨fn, tmps, assign, body, hy, hR⟩ := hY k tys hk w Mc _ wfc z hj hv
 refine ⟨fun f _ => fr.kd.uS f, ?_⟩
 have hrun : (execOp a.eval ⟨some d, .call ⟨.value (.tmp c), xs.toArray, ats⟩, t, p, e, none⟩).run P w = .ok (.round l fn tmps assign body) w := by
  simp [execOp, resolve, hcv, yv, Deferred.ofValue, invoke, hy]
 rw [Oper.semAt_eq _ _ _ (by intro c h; cases h), hrun, Oper.uponIn_round]
 refine ⟨fun h => (by rw [fr.kd.vG] at h; cases h), ?_⟩
 have hfe : fr.kd.iU = Fence.wide := by rw [hkd]; rfl
 rw [hfe]
 refine RoundIn.mono hR fun en w' ⟨Mc', wf', z', le, hor⟩ => ?_
 obtain ⟨g1, g2, g3, g4⟩ := HV wf wf' h1 h2 le
 rcases hor with ⟨rfl, hj'⟩ | ⟨rfl, hj'⟩
 ·exact ⟨.bool true, rfl, _, g1, g2, .inl ⟨rfl, Mc', wf', z', hj', g3, g4⟩, by simp⟩
 exact ⟨.bool false, rfl, _, g1, g2, .inr ⟨rfl, Mc', wf', z', hj', g3, g4⟩, by simp⟩
theorem F0 {x : Operand} {J1 Jx : World → ay → Prop} {h1 : Cb J1} {hx : Cb Jx} {b1 : Bool} (hop : A.op fr x = .yb b1 h1 hx)
 (h : aj P fr ops rest (A.set d (.yb (!b1) h1 hx)) fun A' l' => K A' ((A, { d := some d, ty := .yb (!b1) h1 hx, rs := cI x }) :: l')) : aj P fr ops (⟨some d, .unOp .not ty' x, t, p, e, none⟩ :: rest) A K :=
 bP (bW rfl rfl fun a w M _ hrd _ => by
  have hdx := cU (x := x) (fun _ h => h) hrd
  rw [hop] at hdx
  rcases hdx with ⟨ex, hj⟩ | ⟨ex, hj⟩
  ·exact ⟨.bool (!b1), by simp [execOp, ex, Op.unary], .inl ⟨rfl, hj⟩⟩
  exact ⟨.bool (!!b1), by simp [execOp, ex, Op.unary], .inr ⟨rfl, hj⟩⟩) h
end
section
variable {P : Program} {fr : Fr} {A : As} {Q : Exit → Act → World → Prop} {x y : Code}
theorem DE {c : Operand} {J1 Jx : World → ay → Prop} {h1 : Cb J1} {hx : Cb Jx} (hc : A.op fr c = .yb false h1 hx) (hth : fM P fr x ⟨A.slots, (7000, .ck hx) :: A.tags⟩ Q) (hel : fM P fr y ⟨A.slots, (7000, .ck h1) :: A.tags⟩ Q) : fM P fr (.cond c x y) A Q := fun a w ha => by
 obtain ⟨M, ok, hs, ht⟩ := ha
 have hd := cU (x := c) (rs := cI c) (fun _ h => h) (fun c _ hn => hs c hn)
 rw [hc] at hd
 rcases hd with ⟨ev, hj⟩ | ⟨ev, hj⟩
 ·exact wpIn_cond_false ev (hel a w ⟨M, ok, hs, fun x hx => by
   rcases List.mem_cons.1 hx with rfl | hx
   ·exact ⟨rfl, hj⟩
   exact ht x hx⟩)
 ·exact wpIn_cond_true ev (hth a w ⟨M, ok, hs, fun x hx => by
   rcases List.mem_cons.1 hx with rfl | hx
   ·exact ⟨rfl, hj⟩
   exact ht x hx⟩)
end
def kL (Mc : ay) (g : Option Nat) : ay := fun b => match Mc b with | none => none | some u => if u < Zt then some 7000 else if some b = g then some 1000 else some 5000
theorem Ad {Mc : ay} {g : Option Nat} {b : Nat} (h : kL Mc g b = none) : Mc b = none := by
 unfold kL at h
 split at h
 ·assumption
 split at h
 ·cases h
 split at h <;> cases h
theorem nR {Mc : ay} {g : Option Nat} {b : Nat} (h : Mc b = none) : kL Mc g b = none := by simp [kL, h]
theorem EW {w : World} {Mc : ay} {g : Option Nat} (wf : Wf w Mc) : Wf w (kL Mc g) := by
  refine ⟨fun b t h => ?_, fun b b' t ht h h' => ?_⟩
  · cases hm : Mc b with
    | none => rw [nR hm] at h; cases h
    | some u => exact wf.lt b u hm
  · have key : ∀ b, kL Mc g b = some (t + 1) → some b = g := fun b h => by
      unfold kL at h
      split at h
      · cases h
      · split at h
        · injection h with h; omega
        · split at h
          · assumption
          · injection h with h; omega
    have e1 := key b h
    have e2 := key b' h'
    rw [← e2] at e1; injection e1
theorem Ds {w : World} {Mc : ay} {g : Option Nat} {J : World → ay → Prop} (wf : Wf w Mc) (z : CG Mc) (hj : J w Mc) : LB J w (kL Mc g) := by
 refine ⟨Mc, wf, z, hj, fun b h => Ad h, fun b u _ h hu => ?_⟩
 unfold kL at h
 split at h
 ·cases h
 rename_i v hv
 split at h
 ·injection h with h; exact absurd h.symm hu
 rw [hv]; congr 1; exact z b v hv (by omega)
section
variable {P : Program}
variable {A : As} {fn : Func} {n : Nat} {J1 Jx : World → ay → Prop}
end
end Go.T
namespace Go.T
open Go Go.RowKit
section
variable {P : Program} {fr : Fr} {ops : Array Oper} {A : As} {rest : List Oper} {K : As → List (As × Fx) → Prop} {d : Nat} {t ty' : TypeId} {p : String} {e : Array Edge} [T : k5 P]
variable {α : Type} {E : El α} {Tb J : Nat} {xs ys : List α}
theorem KD {x : Operand} {ti : TI} {el : Nat} (hx : A.op fr x = .iK E Tb J xs) (hT : T.ef[ty']? = some ti) (hk : ti.k = .slice el)
 (h : aj P fr ops rest (A.set d (.int .i64 (xs.length : Nat))) fun A' l => K A' ((A, { d := some d, ty := .int .i64 (xs.length : Nat), rs := cI x }) :: l)) :
 aj P fr ops (⟨some d, .call ⟨.builtin .len, #[x], #[ty']⟩, t, p, e, none⟩ :: rest) A K :=
 bP (bW rfl rfl fun a w M _ hr _ => by
  have := cU (x := x) (fun _ h => h) hr
  rw [hx] at this
  have h1 := this
  obtain ⟨_, D, _, hD, hkd, _⟩ := dJ hT
  rw [hk] at hkd
  cases D <;> simp only [TK.of, reduceCtorEq, TK.slice.injEq] at hkd
  refine ⟨.int .i64 xs.length, ?_, rfl⟩
  rcases h1 with ⟨hn, ex⟩ | ⟨g, off, c, cur, ex, _⟩
  ·simp [execOp, ex, resolve, invoke, builtin, Builtin.len_, run_underlying hD, hn, goInt]
  simp [execOp, ex, resolve, invoke, builtin, Builtin.len_, run_underlying hD, goInt]) h
theorem F6 [Inhabited α] {x y : Operand} {kd : IntKind} {i : Nat} {ti te : TI} {el : Nat} (hx : A.op fr x = .iK E Tb J xs) (hy : A.op fr y = .int kd i) (hT : T.ef[ty']? = some ti) (hk : ti.k = .slice el) (hE : T.ef[el]? = some te) (hs : te.size = E.size) (hi : i < xs.length)
 (h : aj P fr ops rest (A.set d (.op J (E.tys (nth xs i)))) fun A' l' => K A' ((A, { d := some d, ty := .op J (E.tys (nth xs i)), rs := cI x ++ cI y }) :: l')) : aj P fr ops (⟨some d, .indexAddr ty' x y, t, p, e, none⟩ :: rest) A K :=
 bP (bW rfl rfl fun a w M _ hr _ => by
  obtain ⟨hdx, hdy⟩ := op2 hr
  rw [hx] at hdx; rw [hy] at hdy
  have h1 := hdx
  have ey : a.eval y = .int kd i := hdy
  rcases h1 with ⟨h0, _⟩ | ⟨g, off, c, cur, ex, hg, hh, hn, _, _, hd⟩
  ·subst h0; simp at hi
  refine ⟨_, by simp only [execOp, ex, ey, Sem.run_bind, iY hT hk hE (Int.natCast_nonneg i) (show (i : Int).toNat < xs.length from hi)]; rfl, g, off + i * te.size, by simp, hg, fun j ty hj => ?_⟩
  rw [hs]
  exact Dy hh hd hi hj) h
theorem Jz {x y : Operand} {kd : IntKind} {lo : Nat} {ti te : TI} {el : Nat} (hx : A.op fr x = .iK E Tb J xs) (hy : A.op fr y = .int kd lo) (hT : T.ef[ty']? = some ti) (hk : ti.k = .slice el) (hE : T.ef[el]? = some te) (hs : te.size = E.size) (hlo : lo ≤ xs.length) (h0 : 0 < xs.length)
 (h : aj P fr ops rest (A.set d (.iK E Tb J (xs.drop lo))) fun A' l' => K A' ((A, { d := some d, ty := .iK E Tb J (xs.drop lo), rs := cI x ++ cI y }) :: l')) : aj P fr ops (⟨some d, .slice ty' x (some y) none none, t, p, e, none⟩ :: rest) A K :=
 bP (bW rfl rfl fun a w M _ hr _ => by
  obtain ⟨hdx, hdy⟩ := op2 hr
  rw [hx] at hdx; rw [hy] at hdy
  have h1 := hdx
  have ey : a.eval y = .int kd lo := hdy
  obtain ⟨_, D, _, hD, hkd, _⟩ := dJ hT
  rw [hk] at hkd
  cases D <;> simp only [TK.of, reduceCtorEq, TK.slice.injEq] at hkd
  subst hkd
  have hsz := fun w => dW (P := P) hE w
  rcases h1 with ⟨hn, _⟩ | ⟨g, off, c, cur, ex, hg, hh, hn, hc, hsz2, hd⟩
  ·subst hn; simp at h0
  have hlc : lo ≤ c := by omega
  have hrun : ∃ ad, (execOp a.eval ⟨some d, .slice ty' x (some y) none none, t, p, e, none⟩).run P w = .ok (.value (.slice (some ad) (xs.length - lo) (c - lo))) w ∧ ad = (if c = lo then (⟨g, off, none⟩ : Addr) else ⟨g, off + lo * E.size, none⟩) := by
   refine ⟨_, ?_, rfl⟩
   simp [execOp, ex, ey, Instr.sliceAt, Instr.slice, run_underlying hD, Instr.sliceBounds, Instr.sliceBound, asIntOf, hsz, hs, hn, hlo]
   by_cases hcl : c = lo
   ·simp [hcl]
   simp [hcl]; exact Addr.add_lit _ _ _
  obtain ⟨ad, hrun, had⟩ := hrun
  have hlen : (xs.drop lo).length = xs.length - lo := List.length_drop
  have key : cM w M ((xs.drop lo).flatMap E.tys) ((cur.toList.drop (off + lo * E.size)).take ((xs.drop lo).length * E.size)) := by
   have := ko (lo * E.size) hd
   rw [List.drop_take, List.drop_drop, ← Nat.sub_mul] at this
   have e1 : (xs.flatMap E.tys).drop (lo * E.size) = (xs.drop lo).flatMap E.tys := by
    have : xs.flatMap E.tys = (xs.take lo).flatMap E.tys ++ (xs.drop lo).flatMap E.tys := by rw [← List.flatMap_append, List.take_append_drop]
    rw [this, List.drop_left' (by rw [cv, List.length_take, Nat.min_eq_left hlo])]
   rw [e1] at this
   rw [hlen]; exact this
  by_cases hcl : c = lo
  ·rw [if_pos hcl] at had
   subst had
   refine ⟨_, hrun, .inr ⟨g, off, c - lo, cur, by rw [hlen], hg, hh, by rw [hlen]; omega, by omega, ?_, ?_⟩⟩
   ·have : c - lo = 0 := by omega
    rw [this]; omega
   have h0' : xs.drop lo = [] := List.eq_nil_of_length_eq_zero (by rw [hlen]; omega)
   rw [h0']; simp [cM]
  rw [if_neg hcl] at had
  subst had
  refine ⟨_, hrun, .inr ⟨g, off + lo * E.size, c - lo, cur, by rw [hlen], hg, hh, by rw [hlen]; omega, by omega, ?_, key⟩⟩
  rw [Nat.add_assoc, ← Nat.add_mul, show lo + (c - lo) = c by omega]; exact hsz2) h
theorem EH {x y : Operand} {st el : Nat} {ti te : TI} (hx : A.op fr x = .iK E el J xs) (hy : A.op fr y = .sl E ys) (hJ : 4096 ≤ J) (hp : fr.pass.contains J = false) (hpos : 0 < ys.length) (hT : T.ef[st]? = some ti) (hk : ti.k = .slice el) (hE : T.ef[el]? = some te) (hs : te.size = E.size) (hz : te.zero.length = te.size) (h0 : 0 < te.size)
    (hlen : (xs.length + ys.length) * te.bytes ≤ 140737488355328) (hlen' : xs.length + ys.length ≤ 9223372036854775807)
    (h : aj P fr ops rest (A.after { d := some d, ty := .iK E el J (xs ++ ys), S := [J], rs := cI x ++ cI y }) fun A' l' => K A' ((A, { d := some d, ty := .iK E el J (xs ++ ys), S := [J], rs := cI x ++ cI y }) :: l')) :
    aj P fr ops (⟨some d, .call ⟨.builtin .append, #[x, y], #[st, st]⟩, t, p, e, none⟩ :: rest) A K := by
  refine ⟨_, gG rfl rfl (by simp) (by simp; omega) (by simp) fun a w M wf hr htg => ?_, h⟩
  obtain ⟨hdx, hdy⟩ := op2 hr
  rw [hx] at hdx; rw [hy] at hdy
  have hrow := hdx
  obtain ⟨_, D, _, hD, hkd, _⟩ := dJ hT
  rw [hk] at hkd
  cases D <;> simp only [TK.of, reduceCtorEq, TK.slice.injEq] at hkd
  subst hkd
  rename_i el
  obtain ⟨i, _, hi, _, _, hsz, hby, hze⟩ := dJ hE
  obtain ⟨zz, hiz, hzc⟩ : ∃ z, i.zero = some z ∧ z.cells.size = i.size := by
    cases hiz : i.zero with
    | none => rw [hiz] at hze; rw [← hze] at hz; simp at hz; omega
    | some z => rw [hiz] at hze; exact ⟨z, rfl, by simp at hze; rw [hsz, ← hz, ← hze]; simp⟩
  obtain ⟨ad, c', ey, hc1, hc2, hpp⟩ := hdy
  obtain ⟨b', off', rfl, hp'⟩ := hpp hpos
  obtain ⟨news, hn1, hn2, hn3⟩ := mm hp' _ (Nat.le_refl _)
  rw [List.take_length] at hn2
  have hnl : news.length = ys.length * i.size := by rw [hn1, cv, hsz, hs]
  have hnews : ∀ j u, news[j]? = some u → w.cell? ((⟨b', off', none⟩ : Addr).add j) = some u := fun j u hj => by rw [Addr.add_lit]; exact hn3 j u hj
  have hones := k6 hn2 (kf E ys)
  have hesz : E.size = i.size := by rw [hsz, hs]
  -- behind a growth
  have grown : ∀ (olds : List Value) (cap : Nat), cM w M (xs.flatMap E.tys) olds → cap < xs.length + ys.length →
      (Builtin.append_ #[st, st] t #[a.eval x, a.eval y]).run P w = .ok (.slice (some ⟨w.heap.size, 0, none⟩) (xs.length + ys.length) (grownCap w (xs.length + ys.length) cap el)) (w.drew.alloc (.cells (olds.toArray ++ news.toArray ++ Builtin.zeroCells zz.cells (grownCap w (xs.length + ys.length) cap el - (xs.length + ys.length))) el)) →
      ∃ v w', (execOp a.eval ⟨some d, .call ⟨.builtin .append, #[x, y], #[st, st]⟩, t, p, e, none⟩).run P w = .ok (.value v) w' ∧ Fx.left { d := some d, ty := .iK E el J (xs ++ ys), S := [J], rs := cI x ++ cI y } w M w' v := by
    intro olds cap hdo hcap hrun
    have holen : olds.length = xs.length * i.size := by rw [cO hdo, cv, hesz]
    have hge := grownCap_ge w (xs.length + ys.length) cap el
    have hcm : grownCap w (xs.length + ys.length) cap el ≤ maxLen := grownCap_le_maxLen w (xs.length + ys.length) cap el (by simp only [maxLen]; omega)
    have hsize : (w.drew.alloc (.cells (olds.toArray ++ news.toArray ++ Builtin.zeroCells zz.cells (grownCap w (xs.length + ys.length) cap el - (xs.length + ys.length))) el)).heap.size = w.heap.size + 1 := by simp
    have hold : ∀ b2, b2 < w.heap.size → (w.drew.alloc (.cells (olds.toArray ++ news.toArray ++ Builtin.zeroCells zz.cells (grownCap w (xs.length + ys.length) cap el - (xs.length + ys.length))) el)).heap[b2]? = w.heap[b2]? := fun b2 h => Below.heap_alloc w.drew _ b2 h
    have hnew : (w.drew.alloc (.cells (olds.toArray ++ news.toArray ++ Builtin.zeroCells zz.cells (grownCap w (xs.length + ys.length) cap el - (xs.length + ys.length))) el)).heap[w.heap.size]? = some (.cells (olds.toArray ++ news.toArray ++ Builtin.zeroCells zz.cells (grownCap w (xs.length + ys.length) cap el - (xs.length + ys.length))) el (0, 0)) := gq w.drew _
    have hos : (w.drew.alloc (.cells (olds.toArray ++ news.toArray ++ Builtin.zeroCells zz.cells (grownCap w (xs.length + ys.length) cap el - (xs.length + ys.length))) el)).os = w.os ∧ (w.drew.alloc (.cells (olds.toArray ++ news.toArray ++ Builtin.zeroCells zz.cells (grownCap w (xs.length + ys.length) cap el - (xs.length + ys.length))) el)).tape = w.tape ∧ (w.drew.alloc (.cells (olds.toArray ++ news.toArray ++ Builtin.zeroCells zz.cells (grownCap w (xs.length + ys.length) cap el - (xs.length + ys.length))) el)).output = w.output := ⟨rfl, rfl, rfl⟩
    have hcs : (olds.toArray ++ news.toArray ++ Builtin.zeroCells zz.cells (grownCap w (xs.length + ys.length) cap el - (xs.length + ys.length))).size = grownCap w (xs.length + ys.length) cap el * i.size := by
      simp only [Array.size_append, List.size_toArray, size_zeroCells, hzc, holen, hnl, ← Nat.add_mul]
      congr 1
      omega
    have htk : ((olds.toArray ++ news.toArray ++ Builtin.zeroCells zz.cells (grownCap w (xs.length + ys.length) cap el - (xs.length + ys.length))).toList.drop 0).take ((xs ++ ys).length * E.size) = olds ++ news := by
      rw [List.drop_zero]
      simp only [Array.toList_append]
      rw [List.take_left' (by rw [List.length_append, holen, hnl, List.length_append, hesz, Nat.add_mul])]
    generalize hw' : (w.drew.alloc (.cells (olds.toArray ++ news.toArray ++ Builtin.zeroCells zz.cells (grownCap w (xs.length + ys.length) cap el - (xs.length + ys.length))) el)) = w' at *
    generalize hcu : (olds.toArray ++ news.toArray ++ Builtin.zeroCells zz.cells (grownCap w (xs.length + ys.length) cap el - (xs.length + ys.length))) = cu at *
    have le : Le (· ∈ [J]) (· ∈ ([] : List Nat)) w M w' (fun b2 => if b2 = w.heap.size then some J else M b2) :=
      ⟨by omega, hos.1, hos.2.1, hos.2.2, fun b2 hb2 hm => ⟨by rw [if_neg (by omega)]; exact hm, hold b2 hb2⟩, fun b2 u hm _ => by
        have := wf.lt b2 u hm
        exact ⟨by rw [if_neg (by omega)]; exact hm, fun _ => hold b2 this⟩⟩
    have le0 : Le (· ∈ ([] : List Nat)) (· ∈ ([] : List Nat)) w M w' (fun b2 => if b2 = w.heap.size then some J else M b2) :=
      ⟨by omega, hos.1, hos.2.1, hos.2.2, fun b2 hb2 hm => ⟨by rw [if_neg (by omega)]; exact hm, hold b2 hb2⟩, fun b2 u hm _ => by
        have := wf.lt b2 u hm
        exact ⟨by rw [if_neg (by omega)]; exact hm, fun _ => hold b2 this⟩⟩
    have wf' : Wf w' (fun b2 => if b2 = w.heap.size then some J else M b2) := by
      refine ⟨fun b2 u hm => ?_, fun b2 b3 u ht1 hm hm' => ?_⟩
      · split at hm
        · omega
        · have := wf.lt b2 u hm; omega
      · split at hm
        · injection hm with hm; omega
        · split at hm'
          · injection hm' with hm'; omega
          · exact wf.inj b2 b3 u ht1 hm hm'
    refine ⟨.slice (some ⟨w.heap.size, 0, none⟩) (xs.length + ys.length) (grownCap w (xs.length + ys.length) cap el), w', by simp [execOp, resolve, invoke, builtin, hrun], _, wf', le, .inr ⟨w.heap.size, 0, grownCap w (xs.length + ys.length) cap el, cu, by rw [List.length_append], by simp, hnew, by rw [List.length_append]; exact hge, hcm, by rw [hcs, hesz]; omega, ?_⟩, by simp⟩
    rw [htk, List.flatMap_append]
    exact kA (b8 le0 (by rw [E.dB]; intro _ h; cases h) (by rw [E.cW]; intro _ h; cases h) hdo) (b8 le0 (by rw [E.dB]; intro _ h; cases h) (by rw [E.cW]; intro _ h; cases h) hn2)
  rcases hrow with ⟨hxe, ex⟩ | ⟨g, off, cap, cur, ex, hg, hh, hxc, hcm, hfit, hdx⟩
  · have hrn := run_append_nil (P := P) w st t el i zz hD hi hiz ⟨b', off', none⟩ ys.length c' news hnl hnews hpos (by omega) (by rw [hby]; have := hlen; rw [Nat.add_mul] at this; omega)
    subst hxe
    refine grown [] 0 trivial (by simpa using hpos) ?_
    rw [ex, ey]
    simpa using hrn
  · by_cases hroom : xs.length + ys.length ≤ cap
    · -- in place
      have hm : (xs.length + ys.length) * E.size ≤ cap * E.size := Nat.mul_le_mul_right _ hroom
      rw [Nat.add_mul] at hm
      have hcf : off + xs.length * i.size + news.length ≤ cur.size := by rw [hnl, ← hesz]; omega
      have hf := run_firstCells_some (P := P) w i.size ys.length ⟨b', off', none⟩ ys.length c' news hnl hnews
      have hst := run_storeCells_at (P := P) g (off + xs.length * i.size) el news 0 cur w hh (by simpa using hcf) hones
      rw [lJ _ hh] at hst
      simp only [Nat.add_zero] at hst
      obtain ⟨h1', h2', h3'⟩ := jY (cs' := (cur.toList.take (off + xs.length * i.size) ++ news ++ cur.toList.drop (off + xs.length * i.size + news.length)).toArray) (Tb := el) wf hg _ rfl
      have hrun : (Builtin.append_ #[st, st] t #[a.eval x, a.eval y]).run P w = .ok (.slice (some ⟨g, off, none⟩) (xs.length + ys.length) cap) { w with heap := w.heap.setIfInBounds g (.cells (cur.toList.take (off + xs.length * i.size) ++ news ++ cur.toList.drop (off + xs.length * i.size + news.length)).toArray el (0, 0)) } := by
        rw [ex, ey]
        simp [Builtin.append_, run_underlying hD, sizeOf, typeInfo, hi, Builtin.lenOf, hroom, hf, Addr.add_lit, hst]
      have le : Le (· ∈ [J]) (· ∈ ([] : List Nat)) w M { w with heap := w.heap.setIfInBounds g (.cells (cur.toList.take (off + xs.length * i.size) ++ news ++ cur.toList.drop (off + xs.length * i.size + news.length)).toArray el (0, 0)) } M :=
        h2'.weaken (fun u hu => by simp only [List.mem_singleton] at hu; subst hu; simp) (fun _ h => by cases h)
      refine ⟨.slice (some ⟨g, off, none⟩) (xs.length + ys.length) cap, _, by simp [execOp, resolve, invoke, builtin, hrun], M, h1', le, .inr ⟨g, off, cap, _, by rw [List.length_append], hg, h3', by rw [List.length_append]; exact hroom, hcm, ?_, ?_⟩, by simp⟩
      · simp only [List.size_toArray, List.length_append, List.length_take, List.length_drop, Array.length_toList]
        omega
      · rw [List.length_append, Nat.add_mul, hesz, ← hnl, List.toList_toArray, AW _ _ _ _ (by simpa using hcf), List.flatMap_append]
        refine b8 h2' (by rw [← List.flatMap_append, E.dB]; intro _ h; cases h) (by rw [← List.flatMap_append, E.cW]; intro _ h; cases h) (kA ?_ hn2)
        rw [← hesz]; exact hdx
    · have holds : ∀ j u, ((cur.toList.drop off).take (xs.length * E.size))[j]? = some u → w.cell? ((⟨g, off, none⟩ : Addr).add j) = some u := fun j u hj => by
        rw [List.getElem?_take] at hj
        split at hj
        · rw [List.getElem?_drop] at hj
          rw [Addr.add_lit]
          simpa [World.cell?, hh] using hj
        · cases hj
      have hol : ((cur.toList.drop off).take (xs.length * E.size)).length = xs.length * i.size := by rw [cO hdx, cv, hesz]
      have hrn := run_append_grow (P := P) w st t el i zz hD hi hiz ⟨g, off, none⟩ xs.length cap _ hol holds ⟨b', off', none⟩ ys.length c' news hnl hnews (by omega) (by omega) (growslice_fits (by omega) (by rw [hby]; exact hlen))
      refine grown _ cap hdx (by omega) ?_
      rw [ex, ey]
      exact hrn
end
section
variable {P : Program} {fr : Fr} {A : As} {c : Code} {Q : Exit → Act → World → Prop}
end
end Go.T
namespace Go.T
open Go Go.RowKit
section
variable {P : Program} {fr : Fr} {ops : Array Oper} {A : As} {rest : List Oper} {K : As → List (As × Fx) → Prop} {d : Nat} {t : TypeId} {p : String} {e : Array Edge}
end
end Go.T
namespace Go.T
open Go Go.RowKit
theorem Ty.oX {α : Type} {E : El α} {T tg n : Nat} {xs : List α} (hn : xs.length = n) : (Ty.row E T tg xs).Sub (Ty.vs tg n) := fun w M v ⟨cs, h1, h2, h3⟩ => by
 subst hn
 rcases h1.2 with ⟨e, h0⟩ | ⟨g, cap, cur, ex, _, hh, hn1, hcap, _, htk⟩
 ·exact .inl ⟨h0, e⟩
 exact .inr ⟨g, cap, h3 g (by rw [ex]; rfl), ex, hn1, hcap⟩
theorem Cont.dM {T : Nat} {l l' : List Ty} (h : H7 l l') : (Cont.cells T l).Sub (Cont.cells T l') := fun w M v ⟨b, cs, h1, h2, h3⟩ => ⟨b, cs, h1, h2, sK h h3⟩
end Go.T
namespace Go.T
open Go Go.RowKit
end Go.T
namespace Go.T
open Go Go.RowKit
section
variable {P : Program} {fr : Fr} {A : As} {c : Code} {Q : Exit → Act → World → Prop}
theorem jB {α : Type} {E : El α} {T Tc tg c0 : Nat} {l : List Ty} {xs : List α} (i : Nat) (hc : A.tag c0 = some (.cells Tc l)) (hi : l[i]? = some (.row E T tg xs))
 (h : fM P fr c ⟨A.slots, (tg, .vec E T xs) :: A.tags⟩ Q) : fM P fr c A Q := fun a w ⟨M, ok, hsl, ht⟩ => by
 refine h a w ⟨M, ok, hsl, fun x hx => ?_⟩
 rcases List.mem_cons.1 hx with rfl | hx
 ·obtain ⟨b, cs, hb, hh, hd⟩ := ht _ (cj hc)
  obtain ⟨v, _, ⟨ds, h1, h2, h3⟩⟩ := dg hd i _ hi
  rcases h1.2 with ⟨e, h0⟩ | ⟨g, cap, cur, ex, _, hh, hn1, hcap, _, htk⟩
  ·exact .inl (List.length_eq_zero_iff.1 h0)
  have hg : M g = some tg := h3 g (by rw [ex]; rfl)
  exact .inr ⟨g, cur, hg, hh, by rw [cv, htk]; exact h2⟩
 exact ht x hx
end
end Go.T
namespace Go.T
open Go Go.RowKit
section
variable {P : Program} {A : As} {fn : Func} {n : Nat} {w0 : World} {M0 : ay}
end
end Go.T
namespace Go.T
open Go Go.RowKit
section
variable {P : Program} {fr : Fr} {A : As} {c : Code} {Q : Exit → Act → World → Prop}
end
section
variable {P : Program} {A : As} {fn : Func} {n : Nat} {w0 : World} {M0 : ay}
end
end Go.T
namespace Go.T
open Go Go.RowKit
section
variable {P : Program} {fr : Fr} {ops : Array Oper} {A : As} {rest : List Oper} {K : As → List (As × Fx) → Prop} {d : Nat} {t : TypeId} {p : String} {e : Array Edge} {y : Operand}
theorem yp {c : Operand} {b : Bool} (hc : A.op fr c = .bool false) (hy : A.op fr y = .bool b)
 (h : aj P fr ops rest (A.set d (.bool b)) fun A' l' => K A' ((A, { d := some d, ty := .bool b, rs := cI c ++ cI y }) :: l')) : aj P fr ops (⟨some d, .pick c (.const (.bool true)) y, t, p, e, none⟩ :: rest) A K :=
 bP (bW rfl rfl fun a w M _ hrd _ => by
  obtain ⟨hdc, hdy⟩ := op2 hrd
  rw [hc] at hdc; rw [hy] at hdy
  have ec : a.eval c = .bool false := hdc
  have ey : a.eval y = .bool b := hdy
  exact ⟨.bool b, by simp only [execOp, ec, ey]; simp [asBool], rfl⟩) h
theorem Iu {c : Operand} (hc : A.op fr c = .bool true)
 (h : aj P fr ops rest (A.set d (.bool true)) fun A' l' => K A' ((A, { d := some d, ty := .bool true, rs := cI c ++ cI y }) :: l')) : aj P fr ops (⟨some d, .pick c (.const (.bool true)) y, t, p, e, none⟩ :: rest) A K :=
 bP (bW rfl rfl fun a w M _ hrd _ => by
  obtain ⟨hdc, _⟩ := op2 hrd
  rw [hc] at hdc
  have ec : a.eval c = .bool true := hdc
  exact ⟨.bool true, by simp only [execOp, ec]; simp [asBool, Act.eval], rfl⟩) h
theorem zZ {op : Op} {j s : Nat} {want : Bool} (hs : oW ops j = some s) (hn : Nat.blt s fr.n = true) (hc : A.slots s = .ex undef)
 (h : aj P fr ops rest (A.set d (.ex undef)) fun A' l' => K A' ((A, { d := some d, ty := .ex undef, rs := [s] }) :: l')) : aj P fr ops (⟨some d, op, t, p, e, some (j, want)⟩ :: rest) A K := by
 refine ⟨{ d := some d, ty := .ex undef, rs := [s] }, ⟨rfl, (by simp), (by simp), (by simp), fun a w M wf hsz hrd htg => ?_⟩, h⟩
 have hv := hrd s List.mem_cons_self (by simpa using hn)
 rw [hc] at hv
 have hy := qB (ops := ops) hs (by rw [hsz]; simpa using hn) hv
 have hw : Region.wanted ⟨some d, op, t, p, e, some (j, want)⟩ (yielded ops a.tmps) = false := by
  simp only [Region.wanted, hy]
  cases want <;> simp_all
 rw [if_neg (by rw [hw]; simp)]
 exact ⟨M, wf, Le.refl _ _ _ _, rfl, by simp⟩
end
section
variable {P : Program} {fr : Fr} {A : As} {Q : Exit → Act → World → Prop} {code : Code}
end
end Go.T
namespace Go.T
open Go Go.RowKit
section
variable {P : Program} {fr : Fr} {A : As} {Q : Exit → Act → World → Prop}
end
end Go.T
namespace Go.T
open Go Go.RowKit
section
variable {P : Program} {fr : Fr} {ops : Array Oper} {A : As} {rest : List Oper} {K : As → List (As × Fx) → Prop} {d : Nat} {t ty' : TypeId} {p : String} {e : Array Edge} [T : k5 P]
end
section
open Go.RowKit
variable {P : Program} {A : As} {fn : Func} {n : Nat} {w0 : World} {M0 : ay} {F : List Nat} {post : List (Nat × Cont)} [T : k5 P]
end
section
variable {P : Program} {fr : Fr} {A : As}
end
end Go.T
namespace Go.T
open Go Go.RowKit
section
variable {P : Program} {fr : Fr} {A : As}
end
end Go.T
namespace Go.T
open Go Go.RowKit
end Go.T
namespace Go.T
open Go Go.RowKit
def Lg (tys : List Ty) (vs : List Value) (w : World) (M : ay) (_ : Nat) : Prop := cM w M tys vs
def Cont.fact (tys : List Ty) (vs : List Value) (h1 : cG tys = []) (h2 : bl tys = []) : Cont :=
  { den := Lg tys vs, deps := [], cdeps := [], mono := fun le _ _ _ _ h => b8 le (by rw [h1]; intro _ h; cases h) (by rw [h2]; intro _ h; cases h) h }
def XB (b D Tb : Nat) (vs : List Value) (J : Nat → World → ay → Prop) : Prop :=
  ∀ k w M, Wf w M → J k w M → M b = some D ∧ ∃ cs : Array Value, w.heap[b]? = some (.cells cs Tb (0, 0)) ∧ cs.toList.take vs.length = vs
def HO (P : Program) (f : FuncId) (b D Tb : Nat) (vs : List Value) (tys : List Ty) (args : Nat → List Ty) (encs : List (List Ty)) (resD resS : Ty) : Prop :=
  (∃ fn, P.funcs[f]? = some fn ∧ (fn.name == "runtime.NumGoroutine") = false ∧ fn.body.isNone = false) ∧
  ∀ l J Jx, (∀ k, Cb (J k)) → Cb Jx → XB b D Tb vs J → LC P l encs J Jx → ∀ w M us, Wf w M → CG M → cM w M (args l) us → cM w M tys vs → J 0 w M →
    Calls P f us.toArray w (cm encs.length J Jx resD resS)
section
variable {P : Program}
theorem Cc {f b D Tb : Nat} {us : List Value} {tys : List Ty} {fn : Func} {c : Code} {args : Nat → List Ty} {encs : List (List Ty)} {n : Nat} (h1 : cG tys = []) (h2 : bl tys = []) (hf : P.funcs[f]? = some fn) (hb : fn.body = some c) (hn : (fn.name == "runtime.NumGoroutine") = false) (hnt : fn.ntmps = n) (hl : ∀ l, (args l).length ≤ n) (hdd : ∀ l, cG (args l) = [] ∧ bl (args l) = [])
    (h : ∀ l J Jx (hJ : ∀ k, Cb (J k)) (hJx : Cb Jx), XB b D Tb us J → LC P l encs J Jx → ∀ w0 M0, fM P ⟨n, w0, M0, [7000, 5000], .plain⟩ c (sS (args l) [(7000, .ck (hJ 0)), (4000, Cont.fact tys us h1 h2)]) (bodyPost P fn (cm encs.length J Jx (Ty.jR []) (Ty.jR [])))) : HO P f b D Tb us tys args encs (Ty.jR []) (Ty.jR []) := by
  refine ⟨⟨fn, hf, hn, by rw [hb]; rfl⟩, fun l J Jx hJ hJx hX hY w Mc vs wf z hd hus hj => calls_of_wp hf hb (wpIn_wide.1 (h l J Jx hJ hJx hX hY w (kL Mc none) _ _ ?_))⟩
  have hall : cM w (kL Mc none) (args l) vs := iB (fun b hb => nR hb) (hdd l).1 (hdd l).2 hd
  have hlen := cO hall
  have hl := hl l
  refine ⟨kL Mc none, ⟨EW wf, Le.refl _ _ _ _, by simp [hnt, hlen]; omega, Defs.nil⟩, fun c hc => ?_, fun x hx => ?_⟩
  · simp only [sS]
    cases ha : (args l)[c]? with
    | none => trivial
    | some ty =>
      obtain ⟨v, hv, hdv⟩ := dg hall c ty ha
      have : (vs.toArray ++ Array.replicate (fn.ntmps - vs.toArray.size) undef).getD c undef = v := by
        have hlt : c < vs.length := (List.getElem?_eq_some_iff.1 hv).1
        rw [Array.getD_eq_getD_getElem?, Array.getElem?_append_left (by simpa using hlt)]
        simp [hv]
      rw [this]; exact hdv
  · rcases List.mem_cons.1 hx with rfl | hx
    · exact ⟨rfl, Ds wf z hj⟩
    · rw [List.mem_singleton.1 hx]
      exact iB (fun b hb => nR hb) h1 h2 hus
theorem JF {fn : Func} {n : Nat} {A : As} {w0 : World} {M0 : ay} {J : Nat → World → ay → Prop} {Jx : World → ay → Prop} {m : Nat} {h1 : Cb (J m)} (hr : fn.results = #[]) (ht : A.tag 7000 = some (.ck h1)) : dm ⟨n, w0, M0, [7000, 5000], .plain⟩ A (bodyPost P fn (cm m J Jx (Ty.jR []) (Ty.jR [])) .normal) := by
 intro a w' ⟨M, ok, hsl, htg⟩
 obtain ⟨_, Mc', wf', z', hj, k1, k2⟩ := htg _ (cj ht)
 exact ⟨ok.fm (by simp), _, results_none hr _ _ _, _, Mc', rfl, wf', z', .inl ⟨⟨_, rfl, trivial⟩, hj⟩⟩
theorem HX {fn : Func} {n : Nat} {A : As} {w0 : World} {M0 : ay} {J : Nat → World → ay → Prop} {Jx : World → ay → Prop} {m k : Nat} {hJ : ∀ k, Cb (J k)} (e : k = m) (hr : fn.results = #[]) (ht : A.tag 7000 = some (.ck (hJ k))) : dm ⟨n, w0, M0, [7000, 5000], .plain⟩ A (bodyPost P fn (cm m J Jx (Ty.jR []) (Ty.jR [])) .normal) := by
 subst e; exact JF hr ht
theorem Dg {fn : Func} {n : Nat} {A : As} {w0 : World} {M0 : ay} {J : Nat → World → ay → Prop} {Jx : World → ay → Prop} {m : Nat} {hx : Cb Jx} (hr : fn.results = #[]) (ht : A.tag 7000 = some (.ck hx)) : dm ⟨n, w0, M0, [7000, 5000], .plain⟩ A (bodyPost P fn (cm m J Jx (Ty.jR []) (Ty.jR [])) .ret) := by
 intro a w' ⟨M, ok, hsl, htg⟩
 obtain ⟨_, Mc', wf', z', hj, k1, k2⟩ := htg _ (cj ht)
 exact ⟨ok.fm (by simp), _, results_none hr _ _ _, _, Mc', rfl, wf', z', .inr ⟨⟨_, rfl, trivial⟩, hj⟩⟩
variable {fr : Fr} {ops : Array Oper} {A : As} {rest : List Oper} {K : As → List (As × Fx) → Prop} {d : Nat} {t ty' : TypeId} {p : String} {e : Array Edge} [T : k5 P]
omit T in
theorem kI {x : Operand} {b off : Nat} (hx : A.op fr x = .ex (.pointer (some ⟨b, off, none⟩)))
 (h : aj P fr ops rest (A.set d (.ex (.pointer (some ⟨b, off, none⟩)))) fun A' l' => K A' ((A, { d := some d, ty := .ex (.pointer (some ⟨b, off, none⟩)), rs := cI x }) :: l')) : aj P fr ops (⟨some d, .nilCheck x, t, p, e, none⟩ :: rest) A K :=
 bP (bW rfl rfl fun a w M _ hrd _ => by
  have hdx := cU (x := x) (fun _ h => h) hrd
  rw [hx] at hdx
  have ex : a.eval x = .pointer (some ⟨b, off, none⟩) := hdx
  exact ⟨_, by simp [execOp, ex], rfl⟩) h
theorem iT {x : Operand} {b off f : Nat} {ti tf : TI} {fs : List (Nat × Nat)} {o ft : Nat} (hx : A.op fr x = .ex (.pointer (some ⟨b, off, none⟩))) (hT : T.ef[ty']? = some ti) (hk : ti.k = .struct fs) (hf : fs[f]? = some (o, ft)) (hF : T.ef[ft]? = some tf) (h0 : tf.size ≠ 0)
 (h : aj P fr ops rest (A.set d (.ex (.pointer (some ⟨b, off + o, none⟩)))) fun A' l' => K A' ((A, { d := some d, ty := .ex (.pointer (some ⟨b, off + o, none⟩)), rs := cI x }) :: l')) : aj P fr ops (⟨some d, .fieldAddr ty' x f, t, p, e, none⟩ :: rest) A K :=
 bP (bW rfl rfl fun a w M _ hrd _ => by
  have hdx := cU (x := x) (fun _ h => h) hrd
  rw [hx] at hdx
  have ex : a.eval x = .pointer (some ⟨b, off, none⟩) := hdx
  exact ⟨_, by simp [execOp, ex, sP hT hk hf hF h0], rfl⟩) h
def MZ {α : Type} (v : Value) (E : El α) (T tg : Nat) (xs : List α) (w : World) (M : ay) (_ : Nat) : Prop := (Ty.row E T tg xs).den w M v
def Cont.rv {α : Type} (v : Value) (E : El α) (T tg : Nat) (xs : List α) : Cont :=
  { den := MZ v E T tg xs, deps := (Ty.row E T tg xs).deps, cdeps := (Ty.row E T tg xs).cdeps, mono := fun le hk hs _ _ h => (Ty.row E T tg xs).mono le hk hs h }
theorem pT {α : Type} {E : El α} {c : Nat} {y : Operand} {st el tg : Nat} {v : Value} {ti te : TI} {xs ys : List α} (hx : A.op fr (.tmp c) = .ex v) (hc : A.tag tg = some (.rv v E el tg xs)) (hy : A.op fr y = .sl E ys) (hcy : (cI y).contains c = false) (h1 : 1 ≤ tg) (hp : fr.pass.contains tg = false) (hT : T.ef[st]? = some ti) (hk : ti.k = .slice el) (hE : T.ef[el]? = some te) (hs : te.size = E.size) (hz : te.zero.length = te.size) (h0 : 0 < te.size)
 (hlen : (xs.length + ys.length) * te.bytes ≤ 140737488355328) (hlen' : xs.length + ys.length ≤ 9223372036854775807) (hyA : (A.set c (.row E el tg xs)).op fr y = A.op fr y) (hxA : (A.set c (.row E el tg xs)).op fr (.tmp c) = .row E el tg xs)
 (h : aj P fr ops rest (A.after { d := some d, ty := .row E el tg (xs ++ ys), K := [tg], rs := cI (.tmp c) ++ cI y, rt := [tg] }) fun A' l' => K A' ((A, { d := some d, ty := .row E el tg (xs ++ ys), K := [tg], rs := cI (.tmp c) ++ cI y, rt := [tg] }) :: l')) :
 aj P fr ops (⟨some d, .call ⟨.builtin .append, #[.tmp c, y], #[st, st]⟩, t, p, e, none⟩ :: rest) A K := by
 refine ⟨_, ?_, h⟩
 obtain ⟨a1, a2, a3, a4, a5⟩ := wV (P := P) (fr := fr) (ops := ops) (A := A.set c (.row E el tg xs)) (d := d) (t := t) (p := p) (e := e) (x := .tmp c) (y := y) (E := E) (xs := xs) (ys := ys) (st := st) (by rw [hxA]; exact Ty.aF _) (hyA.trans hy) h1 hp hT hk hE hs hz h0 hlen hlen'
 refine ⟨a1, a2, a3, a4, fun a w M wf hsz hr ht => a5 a w M wf hsz (fun c' hc' hn => ?_) (fun x _ hx => by cases hx)⟩
 by_cases e : c' = c
 ·subst e
  have h1 : (A.slots c').den w M (a.tmps.getD c' undef) := hr c' hc' hn
  have h2 : MZ v E el tg xs w M tg := ht _ (cj hc) (by simp)
  have h3 : A.slots c' = .ex v := by
   have h5 : (bif Nat.blt c' fr.n then A.slots c' else Ty.any) = .ex v := hx
   have h6 : Nat.blt c' fr.n = true := by rw [Nat.blt_eq]; exact hn
   rw [h6, cond_true] at h5
   exact h5
  rw [h3] at h1
  have h4 : a.tmps.getD c' undef = v := h1
  show ((A.set c' (.row E el tg xs)).slots c').den w M _
  simp only [As.set, Nat.beq_refl, cond_true]
  rw [h4]; exact h2
 show ((A.set c (.row E el tg xs)).slots c').den w M _
 have : Nat.beq c' c = false := by cases hb : Nat.beq c' c with | false => rfl | true => exact absurd (Nat.eq_of_beq_eq_true hb) e
 simp only [As.set, this, cond_false]
 exact hr c' hc' hn
theorem BC {vs l : List Value} {i : Nat} {v : Value} (h : l.take vs.length = vs) (hv : vs[i]? = some v) : l[i]? = some v := by
 have hi : i < vs.length := (List.getElem?_eq_some_iff.1 hv).1
 rw [← h, List.getElem?_take, if_pos hi] at hv
 exact hv
theorem rK {x : Operand} {b D Tb off k : Nat} {vs : List Value} {tys : List Ty} {J : Nat → World → ay → Prop} {hJ : ∀ k, Cb (J k)} {ti : TI} {ty : Ty} {h1 : cG tys = []} {h2 : bl tys = []} (hX : XB b D Tb vs J) (hx : A.op fr x = .ex (.pointer (some ⟨b, off, none⟩))) (ht : A.tag 7000 = some (.ck (hJ k))) (htf : A.tag 4000 = some (Cont.fact tys vs h1 h2)) (hT : T.ef[ty']? = some ti) (ha : ti.k.agg = false) (hl : tys[off]? = some ty)
 (h : aj P fr ops rest (A.set d ty) fun A' l => K A' ((A, { d := some d, ty := ty, rs := cI x, rt := [7000, 4000] }) :: l)) : aj P fr ops (⟨some d, .load ty' x, t, p, e, none⟩ :: rest) A K :=
 bP (bW rfl rfl fun a w M wf hr htg => by
  have hdx := cU (x := x) (fun _ h => h) hr
  rw [hx] at hdx
  have ex : a.eval x = .pointer (some ⟨b, off, none⟩) := hdx
  obtain ⟨_, Mc, wfc, z, hj, g1, g2⟩ := htg _ (cj ht) (by simp)
  have hf : cM w M tys vs := htg _ (cj htf) (by simp)
  obtain ⟨_, cs, hh, hcs⟩ := hX k w Mc wfc hj
  obtain ⟨v, hv, hd⟩ := dg hf off ty hl
  have hv' : w.cell? ⟨b, off, none⟩ = some v := by
   have := BC hcs hv
   simpa [World.cell?, hh] using this
  exact ⟨v, by simp [execOp, ex, ku hT ha hv'], hd⟩) h
theorem o9 {b D Tb k : Nat} {vs : List Value} {tys : List Ty} {J : Nat → World → ay → Prop} {hJ : ∀ k, Cb (J k)} {h1 : cG tys = []} {h2 : bl tys = []} {L : List Nat} (hX : XB b D Tb vs J) (hD : D < 4096) (ht : A.tag 7000 = some (.ck (hJ k))) (htf : A.tag 4000 = some (Cont.fact tys vs h1 h2)) (hL0 : L.contains 7000 = true) (hL1 : L.contains 4000 = true) :
    rG A L (.ex (.pointer (some ⟨b, 0, none⟩))) (.pp tys) := fun w M v wf htg hv => by
  have hv : v = .pointer (some ⟨b, 0, none⟩) := hv
  have hL0 : 7000 ∈ L := by simpa using hL0
  have hL1 : 4000 ∈ L := by simpa using hL1
  obtain ⟨_, Mc, wfc, z, hj, g1, g2⟩ := htg _ (cj ht) hL0
  have hf : cM w M tys vs := htg _ (cj htf) hL1
  obtain ⟨hb, cs, hh, hcs⟩ := hX k w Mc wfc hj
  have hlt : b < w.heap.size := wfc.lt b _ hb
  have hm : pg M L b = none := by
    cases hm : M b with
    | none => exact jC hm
    | some u =>
      by_cases e : u = 7000
      · subst e; exact ya hm hL0
      · have := g2 b u hlt hm e
        rw [this] at hb
        injection hb with hb
        have : Zt = 1000000 := rfl
        omega
  have hf2 : cM w (pg M L) tys vs := b8 (S := fun _ => True) (K := fun _ => True) (w' := w) ⟨Nat.le_refl _, rfl, rfl, rfl, fun b _ hm => ⟨jC hm, rfl⟩, fun b t _ h => absurd trivial h⟩ (by rw [h1]; intro _ h; cases h) (by rw [h2]; intro _ h; cases h) hf
  refine ⟨b, 0, hv, hm, hlt, fun i t hi => ?_⟩
  obtain ⟨x, hx, hdx⟩ := dg hf2 i t hi
  refine ⟨x, ?_, hdx⟩
  have := BC hcs hx
  simpa [World.cell?, hh] using this
end
theorem uN {l : List Nat} (h : l.all (fun t => Nat.blt t 1000000) = true) : ∀ t ∈ l, t < Zt := fun t ht => by
 have := List.all_eq_true.1 h t ht
 rw [Nat.blt_eq] at this; exact this
section
variable {P : Program} {fr : Fr} {A : As} {Q : Exit → Act → World → Prop} {c : Code}
theorem pM {w : World} {M : ay} {l1 l2 : List Ty} {vs : List Value} (h : cM w M (l1 ++ l2) vs) : ∃ v1 v2, vs = v1 ++ v2 ∧ cM w M l1 v1 ∧ cM w M l2 v2 := by
  induction l1 generalizing vs with
  | nil => exact ⟨[], vs, rfl, trivial, h⟩
  | cons t l1 ih =>
    cases vs with
    | nil => cases h
    | cons v vs =>
      obtain ⟨v1, v2, e, h1, h2⟩ := ih h.2
      exact ⟨v :: v1, v2, by rw [e]; rfl, ⟨h.1, h1⟩, h2⟩
theorem Ch {w : World} {M : ay} : ∀ (vs : List Value), cM w M (vs.map Ty.ex) vs
  | [] => trivial
  | _ :: vs => ⟨rfl, Ch vs⟩
theorem qb {w : World} {M : ay} : ∀ {vs us : List Value}, cM w M (vs.map Ty.ex) us → us = vs
  | [], [], _ => rfl
  | [], _ :: _, h => by cases h
  | _ :: _, [], h => by cases h
  | v :: vs, u :: us, h => by rw [show u = v from h.1, qb h.2]
theorem F1 {D Tb : Nat} {tys r : List Ty} (h1 : cG tys = []) (h2 : bl tys = []) (hc : A.tag D = some (.cells Tb (tys ++ r))) (hD : fV D)
 (h : ∀ vs, vs.length = tys.length → fM P fr c ⟨A.slots, (D, .cells Tb (vs.map Ty.ex ++ r)) :: (4000, Cont.fact tys vs h1 h2) :: A.tags.filter fun x => !(x.1 == D)⟩ Q) : fM P fr c A Q := by
 intro a w ⟨M, ok, hsl, htg⟩
 obtain ⟨b, cs, hb, hh, hd⟩ := htg _ (cj hc)
 obtain ⟨v1, v2, e, d1, d2⟩ := pM hd
 refine h v1 (cO d1) a w ⟨M, ok, hsl, fun x hx => ?_⟩
 rcases List.mem_cons.1 hx with rfl | hx
 ·exact ⟨b, cs, hb, hh, by rw [e]; exact eF (Ch v1) d2⟩
 rcases List.mem_cons.1 hx with rfl | hx
 ·exact d1
 exact htg x (List.mem_filter.1 hx).1
theorem Ai {D Tb : Nat} {vs : List Value} {tys r : List Ty} {h1 : cG tys = []} {h2 : bl tys = []} (hc : A.tag D = some (.cells Tb (vs.map Ty.ex ++ r))) (hf : A.tag 4000 = some (Cont.fact tys vs h1 h2))
 (h : fM P fr c ⟨A.slots, (D, .cells Tb (tys ++ r)) :: A.tags.filter fun x => !(x.1 == D)⟩ Q) : fM P fr c A Q := by
 intro a w ⟨M, ok, hsl, htg⟩
 obtain ⟨b, cs, hb, hh, hd⟩ := htg _ (cj hc)
 have hfd : cM w M tys vs := htg _ (cj hf)
 refine h a w ⟨M, ok, hsl, fun x hx => ?_⟩
 rcases List.mem_cons.1 hx with rfl | hx
 ·obtain ⟨v1, v2, e, d1, d2⟩ := pM hd
  rw [qb d1] at e
  exact ⟨b, cs, hb, hh, by rw [e]; exact eF hfd d2⟩
 exact htg x (List.mem_filter.1 hx).1
theorem uj {D Tb tg : Nat} {α : Type} {E : El α} {T : Nat} {xs : List α} (l1 : List Ty) {l2 : List Ty} (hc : A.tag D = some (.cells Tb (l1 ++ Ty.row E T tg xs :: l2)))
    (h : ∀ v, fM P fr c ⟨A.slots, (D, .cells Tb (l1 ++ Ty.ex v :: l2)) :: (tg, Cont.rv v E T tg xs) :: A.tags.filter fun x => !(x.1 == D)⟩ Q) : fM P fr c A Q := by
  intro a w ⟨M, ok, hsl, htg⟩
  obtain ⟨b, cs, hb, hh, hd⟩ := htg _ (cj hc)
  obtain ⟨v1, v2, e, d1, d2⟩ := pM hd
  match v2, d2 with
  | v :: v2, d2 =>
    refine h v a w ⟨M, ok, hsl, fun x hx => ?_⟩
    rcases List.mem_cons.1 hx with rfl | hx
    · exact ⟨b, cs, hb, hh, by rw [e]; exact eF d1 ⟨rfl, d2.2⟩⟩
    · rcases List.mem_cons.1 hx with rfl | hx
      · exact d2.1
      · exact htg x (List.mem_filter.1 hx).1
theorem xI {T tg off : Nat} {l : List Ty} (hc : A.tag tg = some (.cells T l)) (hd : kN (cG l) [tg] = true) (h1 : fV tg) : tj A tg (.ptr tg off) (.pp (l.drop off)) := fun w M v wf ht hv =>
 l6 (A := A.set 0 (.ptr tg off)) (s := 0) rfl hc hd h1 w M v wf ht hv
theorem HJ {tg i : Nat} {t : Ty} : ∀ {l l' : List Ty}, xQ A tg l l' → l'[i]? = some t → ∃ i', i' = i ∧ ∃ s, l[i']? = some s ∧ tj A tg s t := by
  induction i with
  | zero =>
    intro l l' h e
    match l, l', h with
    | [], [], _ => cases e
    | s :: _, t' :: _, h => injection e with e; subst e; exact ⟨0, rfl, s, rfl, h.1⟩
  | succ i ih =>
    intro l l' h e
    match l, l', h with
    | [], [], _ => cases e
    | _ :: l, _ :: l', h =>
      obtain ⟨i', rfl, s, h1, h2⟩ := ih (l := l) (l' := l') h.2 e
      exact ⟨i' + 1, rfl, s, h1, h2⟩
theorem BO {tg : Nat} {l l' : List Ty} (h : xQ A tg l l') : tj A tg (.pp l) (.pp l') := fun w M v wf ht ⟨b, off, e, m1, m2, m3⟩ => by
 refine ⟨b, off, e, by simp [eO, m1], m2, fun i t hi => ?_⟩
 obtain ⟨_, rfl, s, h1, h2⟩ := HJ h hi
 obtain ⟨x, hx, hdx⟩ := m3 _ s h1
 exact ⟨x, hx, h2 w M x wf ht hdx⟩
theorem zk {tg s : Nat} {l l' : List Ty} (hx : A.slots s = .pp l) (h : xQ A tg l l') : xF A tg s (.pp l') := fun w M v wf ht hv => BO h w M v wf ht (hx ▸ hv)
theorem BM {f D Tb n sd : Nat} {tys : List Ty} {vs : List Value} {h1 : cG tys = []} {h2 : bl tys = []} {nW : List Ty} {encs : List (List Ty)} {resD resS : Ty} {s : Nat → Ty} {tg : Nat → List (Nat × Cont)} {r : Nat → List Ty}
    (hI : ∀ b, HO P f b D Tb vs tys (fun l => Ty.ex (yv l) :: Ty.pp [Ty.ex (.pointer (some ⟨b, 0, none⟩))] :: nW) encs resD resS)
    (hD : fV D) (hsn : sd < n) (hsd : s sd = Ty.ptr D 0) (htD : ∀ k, (D, Cont.cells Tb (vs.map Ty.ex ++ r k)) ∈ tg k) (htf : (4000, Cont.fact tys vs h1 h2) ∈ tg 0) :
    ∀ (l : Nat) (J : Nat → World → ay → Prop) (Jx : World → ay → Prop) (tm : Array Value), (∀ k, Cb (J k)) → Cb Jx → LC P l encs J Jx → (∀ k w M, J k w M → (∀ c, c < n → (s c).den w M (tm.getD c undef)) ∧ ∀ x ∈ tg k, x.2.den w M x.1) → ∀ w M us, Wf w M → CG M → cM w M (Ty.ex (yv l) :: Ty.pp [Ty.ptr D 0] :: nW) us → J 0 w M → Calls P f us.toArray w (cm encs.length J Jx resD resS) := by
  intro l J Jx tm hJ hJx hY hS w M us wf z hd hj
  obtain ⟨u, rfl⟩ : ∃ u, D = u + 1 := ⟨D - 1, by have := hD.1; omega⟩
  have hat : ∀ k w M, Wf w M → J k w M → ∃ b, M b = some (u + 1) ∧ tm.getD sd undef = .pointer (some ⟨b, 0, none⟩) ∧ ∃ cs : Array Value, w.heap[b]? = some (.cells cs Tb (0, 0)) ∧ cs.toList.take vs.length = vs := fun k w M wf hj => by
    obtain ⟨g1, g2⟩ := hS k w M hj
    have g3 := g1 sd hsn
    rw [hsd] at g3
    obtain ⟨b, hb, e⟩ := g3
    obtain ⟨b', cs, hb', hh, hds⟩ := g2 _ (htD k)
    have := wf.inj b b' u hD.2 hb hb'
    subst this
    obtain ⟨v1, v2, e2, d1, d2⟩ := pM hds
    rw [qb d1] at e2
    exact ⟨b, hb, e, cs, hh, by rw [e2, List.take_left']; rfl⟩
  obtain ⟨b, hb, eb, _⟩ := hat 0 w M wf hj
  have hX : XB b (u + 1) Tb vs J := fun k w' M' wf' hj' => by
    obtain ⟨b', hb', eb', cs, hh, hcs⟩ := hat k w' M' wf' hj'
    rw [eb] at eb'
    injection eb' with eb'
    injection eb' with eb'
    injection eb' with eb' _ _
    subst eb'
    exact ⟨hb', cs, hh, hcs⟩
  refine (hI b).2 l J Jx hJ hJx hX hY w M us wf z ?_ ((hS 0 w M hj).2 _ htf) hj
  match us, hd with
  | u1 :: u2 :: us, ⟨d1, ⟨q, off, e, m1, m2, m3⟩, d3⟩ =>
    refine ⟨d1, ⟨q, off, e, m1, m2, fun i t hi => ?_⟩, d3⟩
    cases i with
    | succ i => cases hi
    | zero =>
      obtain ⟨x, hx, b', hb', ex⟩ := m3 0 _ rfl
      have := wf.inj b b' u hD.2 hb hb'
      subst this
      injection hi with hi
      subst hi
      exact ⟨x, hx, ex⟩
end
end Go.T
namespace Go.Proofs.YtelbollidfdcjaaGreat
open Go Go.T
set_option maxHeartbeats 4000000
section
variable {y : aq}
theorem Ek (hr : y.cx) : (y.bins.length : Int) * y.days = (y.cells : Nat) := by
 rw [← D_eq hr]; unfold aq.cells; simp
theorem mS (hr : y.cx) : y.cells ≤ 20 := by
 have h1 := hr.bins; have h2 := hr.days; have h3 := D_eq hr
 have := Nat.mul_le_mul (show y.bins.length ≤ 4 by omega) (show y.D ≤ 5 by omega)
 unfold aq.cells; omega
theorem Bb {s d : Int} (hs : 0 ≤ s ∧ s ≤ 4) (hd : 0 ≤ d ∧ d ≤ 6) : 0 ≤ s * d ∧ s * d ≤ 24 := by
 have : s = 0 ∨ s = 1 ∨ s = 2 ∨ s = 3 ∨ s = 4 := by omega
 rcases this with e | e | e | e | e <;> subst e <;> omega
def fX (n : Int) (l : List Int) : Int := l.foldl min n
theorem Bx (n : Int) (l : List Int) : fX n (l.take 0) = n := rfl
theorem Cf {n : Int} {l : List Int} {k : Nat} (h : k < l.length) : min (fX n (l.take k)) (nth l k) = fX n (l.take (k + 1)) := by
 unfold fX; rw [eB h, List.foldl_append]; rfl
def wX (k : Nat) : List Bool := List.replicate k true ++ List.replicate (8 - k) false
def bZ : List Bool := List.replicate 8 true
theorem yO {k : Nat} (h : k ≤ 8) : (wX k).length = 8 := by unfold wX; rw [List.length_append, List.length_replicate, List.length_replicate]; omega
theorem Cd {k : Nat} (h : k < 8) : (wX k).set k true = wX (k + 1) := by
 unfold wX
 rw [List.set_append_right _ _ (by simp), List.length_replicate, Nat.sub_self, show 8 - k = (8 - (k + 1)) + 1 by omega, List.replicate_succ, List.set_cons_zero, List.replicate_succ', List.append_assoc]; rfl
theorem K6 (hr : y.cx) {s d : Int} (h : s = -1) : ((y.cells : Nat) : Int) = y.cell s d := by rw [h, rB hr]
theorem KY {s d : Int} (h : ¬ s = -1) : s * y.days + d = y.cell s d := (if_neg h).symm
theorem Gc (hr : y.cx) {b t : Nat} : (b : Int) * (y.days + 1) + t = (y.kept b t : Nat) := by
 rw [← D_eq hr]; unfold aq.kept; simp
end
attribute [local irreducible] aq.cell aq.kept aq.cells fX
attribute [local irreducible] iP fT nJ qo jJ jK jE jM jG qi jI qn eG gx qg gm qj nth fM dm aj dz bodyPost Exit.then Exit.inBlock Code.wp Code.wpIn qm jL ql qd jH eJ cV cm bodyPostM eN
set_option maxRecDepth 100000 in
theorem rU (n : Int) (l : List Int) : dz Tryz.prog 180 [Ty.int .i64 n, Ty.sl c7 l] (Ty.int .i64 (fX n l)) := by
 refine bB Tryz.func180 rfl (by decide) Tryz.ntmps180 (by exact Nat.le_of_ble_eq_true rfl) fun w0 M0 => ?_
 refine ji (s := 1) rfl rfl jm fun hln => ?_
 refine aE (aA (cE rfl (aD (aC (aE (aE (aA (fK rfl (ct rfl rfl rfl ?_)))))))))
 refine bR rfl (aD (aC (au ?_)))
 refine cZ (fun (k : {k : Nat // k ≤ l.length}) => live [(0, Ty.int .i64 (fX n (l.take k.1))), (7, Ty.sl c7 l), (8, Ty.int .i64 l.length), (9, Ty.int .i64 (k.1 : Nat))] []) (fun k => l.length - k.1) (⟨0, by omega⟩) ?_ fun k => ?_
 ·(refine dG.mk' ?_ ?_ <;> (repeat' (first | exact aJ | exact aI | refine aB ?_ (Ty.aX _) | refine aB ?_ (Ty.aF _) | refine aB ?_ ?_)))
  all_goals exact Ty.af (Bx n l).symm
 refine aE (aA (bC rfl rfl rfl (aD (aC (aE ?_)))))
 refine av rfl (fun hc1 => ?_) (fun hc1 => ?_)
 ·
  refine ak (aC (aE (au (aE (aA ?_)))))
  refine bK rfl rfl rfl rfl rfl rfl (by omega) ?_
  refine aN rfl rfl rfl rfl (cE rfl (aD (aC (aA (bR rfl (bR rfl (rR rfl rfl (cE rfl (aD ?_)))))))))
  refine bf (aC (aA ?_))
  refine cD rfl rfl (by omega) (by omega) ?_
  refine bR rfl (aD ?_)
  refine bp (⟨k.1 + 1, by omega⟩) ?_ (by show l.length - (k.1 + 1) < l.length - k.1; omega)
  (refine dG.mk' ?_ ?_ <;> (repeat' (first | exact aJ | exact aI | refine aB ?_ (Ty.aX _) | refine aB ?_ (Ty.aF _) | refine aB ?_ ?_)))
  all_goals skip
  all_goals exact Ty.af (Cf (by omega))
 refine cg (aT (aT (bA rfl (aC (aE (aA (bR rfl (cE rfl (aD ?_)))))))))
 refine aC (az (bq rfl rfl ?_))
 all_goals skip
 all_goals exact bE rfl rfl (congrArg (Ty.int .i64) (by rw [List.take_of_length_le (by have := k.2; omega)]))
set_option maxRecDepth 100000 in
theorem rV : dz Tryz.prog 118 [] (Ty.arr iV bZ) := by
 refine bB Tryz.func118 rfl (by decide) Tryz.ntmps118 (by exact Nat.le_of_ble_eq_true rfl) fun w0 M0 => ?_
 refine aE (aA ?_)
 refine bw rfl (by exact List.cons_ne_nil _ _) rfl ?_
 refine aD (aC (aE (aA ?_)))
 refine Ap (E := iV) (xs := List.replicate 8 false) rfl (by exact List.cons_ne_nil _ _) rfl rfl ?_
 refine aD (aC (aE (aE (aA (bR rfl (aD (aC (au ?_))))))))
 refine cZ (fun (k : {k : Nat // k ≤ 8}) => live [(0, Ty.ptr 1 0), (1, Ty.ptr 2 0), (3, Ty.int .i64 (k.1 : Nat))] [(1, Cont.cells 180 [Ty.bool false, Ty.bool false, Ty.bool false, Ty.bool false, Ty.bool false, Ty.bool false, Ty.bool false, Ty.bool false]), (2, Cont.vec iV 180 (wX k.1))]) (fun k => 8 - k.1) (⟨0, by omega⟩) ?_ fun k => ?_
 ·(refine dG.mk' ?_ ?_ <;> (repeat' (first | exact aJ | exact aI | refine aB ?_ (Ty.aX _) | refine aB ?_ (Ty.aF _) | refine aG rfl (Cont.aF _) ?_)))
 have hkl := yO k.2
 refine aE (aA (bC rfl rfl rfl (aD (aC (aE ?_)))))
 refine av rfl (fun hc1 => ?_) (fun hc1 => ?_)
 ·
  refine ak (aC (aE (au (aE (aA (bR rfl (cE rfl (aD (aC ?_)))))))))
  refine aA (bR rfl ?_)
  refine rF (n := 8) rfl rfl rfl rfl rfl (by omega) (by omega) ?_
  refine rS rfl rfl rfl (by decide) rfl rfl (by exact (rfl : _ = Ty.bool _)) rfl (by omega) (by decide) rfl rfl ?_
  refine aD (bf (aC (aA ?_)))
  refine cD rfl rfl (by omega) (by omega) ?_
  refine bR rfl (aD ?_)
  refine bp (⟨k.1 + 1, by omega⟩) ?_ (by show 8 - (k.1 + 1) < 8 - k.1; omega)
  (refine dG.mk' ?_ ?_ <;> (repeat' (first | exact aJ | exact aI | refine aB ?_ (Ty.aX _) | refine aB ?_ (Ty.aF _) | refine aG rfl (Cont.aF _) ?_ | refine aG rfl ?_ ?_)))
  all_goals skip
  all_goals exact Cont.eY (Cd (by omega))
 refine cg (aT (aT (bA rfl (aC (aE ?_)))))
 obtain ⟨k, hk⟩ := k
 obtain rfl : k = 8 := by have h1 : ¬ (k : Int) < 8 := hc1; have h2 : k ≤ 8 := hk; omega
 have hkl := yO hk
 refine aA ?_
 refine iC rfl rfl (by decide) rfl rfl (by rw [hkl]; rfl) (fun e => by rw [e] at hkl; cases hkl) ?_
 refine Bg rfl rfl (by decide) rfl rfl (by rw [hkl]; rfl) rfl ?_
 refine aD (aC (az ?_))
 refine BE (show wX 8 = bZ from rfl) rfl rfl rfl rfl (by decide) rfl rfl (by rw [hkl]; rfl) (fun e => by rw [e] at hkl; cases hkl)
set_option maxRecDepth 100000 in
theorem rY (y : aq) (hr : y.cx) : dz Tryz.prog 131 [Ty.pp (bO y)] (Ty.int .i64 (y.cells : Nat)) := by
 refine bB Tryz.func131 rfl (by decide) Tryz.ntmps131 (by exact Nat.le_of_ble_eq_true rfl) fun w0 M0 => ?_
 have hcm := Ek hr
 have hcl := mS hr
 refine aE (aA (cE rfl (aD (aC (aE (cQ mixed rfl (jZ rfl (bu rfl ?_))))))))
 refine aQ rfl rfl rfl rfl rfl (by decide) ?_
 refine aQ rfl rfl rfl rfl rfl (by decide) ?_
 refine aN rfl rfl rfl rfl (ct rfl rfl rfl (jZ rfl (bu rfl ?_)))
 refine aQ rfl rfl rfl rfl rfl (by decide) ?_
 refine aQ rfl rfl rfl rfl rfl (by decide) ?_
 refine aN rfl rfl rfl rfl ?_
 refine Cr rfl rfl (by rw [hcm]; omega) (by rw [hcm]; omega) ?_
 refine cE rfl (aD ?_)
 refine ⟨by kernel_rfl, ?_⟩
 refine aC (az (bq rfl rfl ?_))
 all_goals skip
 all_goals exact bE rfl rfl (congrArg (Ty.int .i64) hcm)
set_option maxRecDepth 100000 in
theorem vq (y : aq) (hr : y.cx) (s d : Int) (hs : -1 ≤ s ∧ s < y.bins.length) (hd : 0 ≤ d ∧ d ≤ y.days) : dz Tryz.prog 132 [Ty.pp (bO y), Ty.int .i64 s, Ty.int .i64 d] (Ty.int .i64 (y.cell s d)) := by
 refine bB Tryz.func132 rfl (by decide) Tryz.ntmps132 (by exact Nat.le_of_ble_eq_true rfl) fun w0 M0 => ?_
 have h1 := hr.bins
 have h2 := hr.days
 refine aE (aA (cE rfl (aD (aC (aE (aE (aA (bR rfl (bC rfl rfl rfl ?_)))))))))
 refine aD (aC ?_)
 refine av rfl (fun hc1 => ?_) (fun hc1 => ?_)
 ·
  refine aE (aA (jZ rfl (ah (rY y hr) rfl rfl rfl rfl rfl (cE rfl (aD (aC (az (aV (bq rfl rfl ?_)))))))))
  all_goals skip
  all_goals exact bE rfl rfl (congrArg (Ty.int .i64) (K6 hr hc1))
 refine ak (aC (aE ?_))
 have hb := Bb (s := s) (d := y.days) (by omega) (by omega)
 refine aA (bR rfl (jZ rfl (bu rfl ?_)))
 refine aQ rfl rfl rfl rfl rfl (by decide) ?_
 refine aQ rfl rfl rfl rfl rfl (by decide) ?_
 refine aN rfl rfl rfl rfl ?_
 refine Cr rfl rfl (by omega) (by omega) ?_
 refine bR rfl ?_
 refine cD rfl rfl (by omega) (by omega) ?_
 refine cE rfl (aD (aC (az (bq rfl rfl ?_))))
 all_goals skip
 all_goals exact bE rfl rfl (congrArg (Ty.int .i64) (KY hc1))
set_option maxRecDepth 100000 in
theorem Br (y : aq) (hr : y.cx) (b t : Nat) (hb : b < y.bins.length) (ht : t ≤ y.D) : dz Tryz.prog 89 [Ty.pp (bO y), Ty.int .i64 (b : Nat), Ty.int .i64 (t : Nat)] (Ty.int .i64 (y.kept b t : Nat)) := by
 refine bB Tryz.func89 rfl (by decide) Tryz.ntmps89 (by exact Nat.le_of_ble_eq_true rfl) fun w0 M0 => ?_
 have h1 := hr.bins
 have h2 := hr.days
 have h3 := D_eq hr
 have h4 := Bb (s := (b : Nat)) (d := y.days + 1) (by omega) (by omega)
 refine aE (aA (cE rfl (aD (aC (aE (aA (bR rfl (jZ rfl (bu rfl ?_)))))))))
 refine aQ rfl rfl rfl rfl rfl (by decide) ?_
 refine aQ rfl rfl rfl rfl rfl (by decide) ?_
 refine aN rfl rfl rfl rfl ?_
 refine cD rfl rfl (by omega) (by omega) ?_
 refine Cr rfl rfl (by omega) (by omega) ?_
 refine bR rfl ?_
 refine cD rfl rfl (by omega) (by omega) ?_
 refine cE rfl (aD (aC (az (bq rfl rfl ?_))))
 all_goals skip
 all_goals exact bE rfl rfl (congrArg (Ty.int .i64) (Gc hr))
end Go.Proofs.YtelbollidfdcjaaGreat
namespace Go.Proofs.YtelbollidfdcjaaGreat
open Go Go.T
set_option maxHeartbeats 8000000
def jX (f : bz) : List Ty := [Ty.agg (dw.tys f)]
section
variable {y : aq} {c : Nat → Bool} {b t : Nat}
def CR (y : aq) (b t : Nat) : Int := if 0 < t then y.cell b ((t : Int) - 1) else (y.cells : Nat)
def Dq (y : aq) (b t : Nat) : Int := if t < y.D then y.cell b t else (y.cells : Nat)
def uV (s d : Int) (k : Span) : List Ty := [Ty.int .i64 s, Ty.int .i64 d, Ty.int .i64 k.lo, Ty.int .i64 k.hi]
theorem Hv (h : (t : Int) > 0) : y.cell b ((t : Int) - 1) = CR y b t := (if_pos (by omega)).symm
theorem J9 (h : ¬ (t : Int) > 0) : ((y.cells : Nat) : Int) = CR y b t := (if_neg (by omega)).symm
theorem Iy (hr : y.cx) (h : (t : Int) < y.days) : y.cell b t = Dq y b t := (if_pos (by have := D_eq hr; omega)).symm
theorem KM (hr : y.cx) (h : ¬ (t : Int) < y.days) : ((y.cells : Nat) : Int) = Dq y b t := (if_neg (by have := D_eq hr; omega)).symm
theorem HD (h : (t : Int) > 0) : 0 = (g7 y b t).lo ∧ (nth y.bins b).holds = (g7 y b t).hi := by unfold g7; rw [if_pos (by omega)]; exact ⟨rfl, rfl⟩
theorem Jl (h : ¬ (t : Int) > 0) : max 0 (nth y.bins b).first.lo = (g7 y b t).lo ∧ fX (nth y.bins b).holds [(nth y.bins b).first.hi] = (g7 y b t).hi := by unfold g7; rw [if_neg (by omega)]; exact ⟨rfl, rfl⟩
theorem DC {s : Span} {k : Nat} (h : ((c k && decide ((nth y.levels k).bin = b)) && decide ((nth y.levels k).day = t)) = true) : max (gE y c b t s k).lo (nth y.levels k).sacks.lo = (gE y c b t s (k + 1)).lo ∧ fX (gE y c b t s k).hi [(nth y.levels k).sacks.hi] = (gE y c b t s (k + 1)).hi := by
 show _ = (if _ then _ else _ : Span).lo ∧ _ = (if _ then _ else _ : Span).hi
 rw [if_pos h]; exact ⟨rfl, rfl⟩
theorem E7 {s : Span} {k : Nat} (h : ((c k && decide ((nth y.levels k).bin = b)) && decide ((nth y.levels k).day = t)) = false) : (gE y c b t s k).lo = (gE y c b t s (k + 1)).lo ∧ (gE y c b t s k).hi = (gE y c b t s (k + 1)).hi := by
 show _ = (if _ then _ else _ : Span).lo ∧ _ = (if _ then _ else _ : Span).hi
 rw [if_neg (by rw [h]; decide)]; exact ⟨rfl, rfl⟩
theorem AX (s : Span) : s.lo = (gE y c b t s 0).lo ∧ s.hi = (gE y c b t s 0).hi := ⟨rfl, rfl⟩
theorem IK {s : Span} {k : Nat} (hk : k ≤ y.levels.length) (h : ¬ (k : Int) < (y.levels.length : Int)) : gE y c b t s k = gE y c b t s y.levels.length := by rw [show k = y.levels.length by omega]
theorem I0 (hb : b < y.bins.length) (ht : t ≤ y.D) : jX (nth (aS y c) (b * (y.D + 1) + t)) = [Ty.agg (uV (CR y b t) (Dq y b t) (gE y c b t (g7 y b t) y.levels.length))] := congrArg jX (iI (c := c) hb ht)
theorem IM {i : Nat} (hi : i < y.moves.length) : jX (nth (aS y c) (y.bins.length * (y.D + 1) + i)) = [Ty.agg [Ty.int .i64 (y.cell (nth y.moves i).src (nth y.moves i).day), Ty.int .i64 (y.cell (nth y.moves i).dst (nth y.moves i).day), Ty.int .i64 (nth y.moves i).sacks.lo, Ty.int .i64 (nth y.moves i).sacks.hi]] := congrArg jX (iL (c := c) hi)
theorem C2 (hb : b < y.bins.length) (ht : t ≤ y.D) : b * (y.D + 1) + t < (aS y c).length := by
 rw [fC]; have h := pQ hb ht; unfold aq.kept at h; omega
theorem HR {J : Nat → World → ay → Prop} (hJ : ∀ k, Cb (J k)) {m k : Nat} (e : m = k) : (Cont.ck (hJ m)).Sub (Cont.ck (hJ k)) := Cont.Ku hJ e
end
attribute [local irreducible] aq.cell aq.cells fX CR Dq g7 gE aS
attribute [local irreducible] iP fT nJ qo jJ jK jE jM jG qi jI qn eG gx qg gm qj nth fM dm aj dz bodyPost Exit.then Exit.inBlock Code.wp Code.wpIn qm jL ql qd jH eJ cV cm bodyPostM eN
set_option maxRecDepth 100000 in
theorem ud (y : aq) (hr : y.cx) (c8 : List Bool) (hc8 : c8.length = 8) (b D : Nat) (hD : D < 4096) (vs : List Value) : HO Tryz.prog 196 b D 185 vs (bO y) (fun l => [Ty.ex (yv l), Ty.pp [Ty.ex (.pointer (some ⟨b, 0, none⟩))], Ty.pa iV c8 0]) ((aS y (nth c8)).map jX) (Ty.jR []) (Ty.jR []) := by
 refine Cc rfl rfl Tryz.func196 rfl (by decide) Tryz.ntmps196 (fun _ => by exact Nat.le_of_ble_eq_true rfl) (fun _ => ⟨rfl, rfl⟩) fun l J Jx hJ hJx hX hY w0 M0 => ?_
 have h1 := hr.bins
 have h2 := hr.days
 have h3 := D_eq hr
 have h4 := hr.moves
 have h5 := hr.levels
 refine aE (aE (aA (aN rfl rfl rfl rfl (kI rfl ?_))))
 refine iT rfl rfl rfl rfl rfl (by decide) ?_
 refine iT rfl rfl rfl rfl rfl (by decide) ?_
 refine rK hX rfl rfl rfl rfl rfl rfl (ct rfl rfl rfl (bR rfl (aD (aC (au ?_)))))
 refine cZ (fun (k : {k : Nat // k ≤ y.bins.length}) => live [(0, Ty.ex (yv l)), (1, Ty.pp [Ty.ex (.pointer (some ⟨b, 0, none⟩))]), (2, Ty.pa iV c8 0), (16, Ty.sl dY y.bins), (17, Ty.int .i64 y.bins.length), (18, Ty.int .i64 (k.1 : Nat))] [(7000, Cont.ck (hJ (k.1 * (y.D + 1)))), (4000, Cont.fact (bO y) vs rfl rfl)]) (fun k => y.bins.length - k.1) (⟨0, by omega⟩) ?_ fun k => ?_
 ·(refine dG.mk' ?_ ?_ <;> (repeat' (first | exact aJ | exact aI | refine aB ?_ (Ty.aX _) | refine aB ?_ (Ty.aF _) | refine aG rfl (Cont.aF _) ?_ | refine aG rfl ?_ ?_)))
  all_goals exact HR hJ (Nat.zero_mul _).symm
 refine aE (aA (bC rfl rfl rfl (aD (aC (aE ?_)))))
 refine av rfl (fun hc1 => ?_) (fun hc1 => ?_)
 ·
  refine ak (aC (aE (au (aE (aA (bR rfl ?_))))))
  refine bK rfl rfl rfl rfl rfl rfl (by omega) ?_
  refine aZ rfl rfl rfl (by exact Nat.le_of_ble_eq_true rfl) ?_
  refine bw rfl (by exact List.cons_ne_nil _ _) rfl ?_
  refine cE rfl ?_
  refine bk rfl rfl (by decide) rfl rfl rfl rfl rfl rfl ?_
  refine aD (aC (aE (aA (aN rfl rfl rfl rfl (kI rfl ?_)))))
  refine iT rfl rfl rfl rfl rfl (by decide) ?_
  refine iT rfl rfl rfl rfl rfl (by decide) ?_
  refine rK hX rfl rfl rfl rfl rfl rfl ?_
  refine cD rfl rfl (by omega) (by omega) ?_
  refine bR rfl (aD (aC (au ?_)))
  refine cZ (fun (t : {t : Nat // t ≤ y.D + 1}) => live [(0, Ty.ex (yv l)), (1, Ty.pp [Ty.ex (.pointer (some ⟨b, 0, none⟩))]), (2, Ty.pa iV c8 0), (4, Ty.int .i64 (k.1 : Nat)), (5, Ty.ptr 6 0), (16, Ty.sl dY y.bins), (17, Ty.int .i64 y.bins.length), (18, Ty.int .i64 (k.1 : Nat)), (28, Ty.int .i64 (y.days + 1)), (29, Ty.int .i64 (t.1 : Nat))] [(6, Cont.cells 39 (dY.tys (nth y.bins k.1))), (7000, Cont.ck (hJ (k.1 * (y.D + 1) + t.1))), (4000, Cont.fact (bO y) vs rfl rfl)]) (fun t => y.D + 1 - t.1) (⟨0, by omega⟩) ?_ fun t => ?_
  ·(refine dG.mk' ?_ ?_ <;> (repeat' (first | exact aJ | exact aI | refine aB ?_ (Ty.aX _) | refine aB ?_ (Ty.aF _) | refine aG rfl (Cont.aF _) ?_)))
  refine aE (aA (bC rfl rfl rfl (aD (aC (aE ?_)))))
  refine av rfl (fun hc2 => ?_) (fun hc2 => ?_)
  ·
   refine ak (aC (aE (au (aE (aA (bR rfl (cE rfl (aD (aC ?_)))))))))
   refine aE (cQ mixed rfl (aN rfl rfl rfl rfl ?_))
   refine dU [7000, 4000] (rY y hr) rfl (aM (o9 hX hD rfl rfl rfl rfl) bY) (by exact dH _ _) ?_
   refine aN rfl rfl rfl rfl ?_
   refine dU [7000, 4000] (rY y hr) rfl (aM (o9 hX hD rfl rfl rfl rfl) bY) (by exact dH _ _) ?_
   refine aO rfl rfl rfl rfl rfl (by decide) ?_
   refine aU rfl rfl (by decide) rfl rfl rfl ?_
   refine c6 rfl rfl (by exact List.cons_ne_nil _ _) rfl (by repeat (first | exact (aW.nil : aW _ _ [] _) | (show aW _ _ ((_, _) :: _) _; apply aW.one; (· exact (rfl : _ = Ty.int _ _)); (· exact rfl)))) (by exact (rfl : _ = some [_, _, _, _])) ?_
   refine bw rfl (by exact List.cons_ne_nil _ _) rfl ?_
   refine bk rfl rfl (by decide) rfl rfl rfl rfl rfl rfl ?_
   refine aD ?_
   refine ⟨by kernel_rfl, ?_⟩
   refine aC ?_
   refine lD (J := live [(0, Ty.ex (yv l)), (1, Ty.pp [Ty.ex (.pointer (some ⟨b, 0, none⟩))]), (2, Ty.pa iV c8 0), (4, Ty.int .i64 (k.1 : Nat)), (5, Ty.ptr 6 0), (6, Ty.int .i64 (t.1 : Nat)), (7, Ty.ptr 8 0), (16, Ty.sl dY y.bins), (17, Ty.int .i64 y.bins.length), (18, Ty.int .i64 (k.1 : Nat)), (28, Ty.int .i64 (y.days + 1)), (29, Ty.int .i64 (t.1 : Nat))] [(6, Cont.cells 39 (dY.tys (nth y.bins k.1))), (8, Cont.cells 187 [Ty.int .i64 (CR y k.1 t.1), Ty.int .i64 (y.cells : Nat), Ty.int .i64 (g7 y k.1 t.1).lo, Ty.int .i64 (g7 y k.1 t.1).hi]), (7000, Cont.ck (hJ (k.1 * (y.D + 1) + t.1))), (4000, Cont.fact (bO y) vs rfl rfl)]) ?_ ?_
   ·
    refine aE (aA (bR rfl (bC rfl rfl rfl (aD (aC ?_)))))
    refine av rfl (fun hc3 => ?_) (fun hc3 => ?_)
    ·
     refine aA (aN rfl rfl rfl rfl (bR rfl (bR rfl ?_)))
     refine gz rfl rfl (by omega) (by omega) ?_
     refine dU [7000, 4000] (vq y hr (k.1 : Nat) ((t.1 : Int) - 1) (by omega) (by omega)) rfl (aM (o9 hX hD rfl rfl rfl rfl) (aM (aa (bG rfl rfl)) (aM (aa (bG rfl rfl)) bY))) (by exact dH _ _) ?_
     refine aO rfl rfl rfl rfl rfl (by decide) ?_
     refine cq rfl rfl (by decide) rfl rfl (by exact (rfl : _ = Ty.int _ _)) rfl (by exact Nat.le_of_ble_eq_true rfl) rfl rfl (by exact rfl) ?_
     refine aD (fO ?_)
     (refine dG.mk' ?_ ?_ <;> (repeat' (first | exact aJ | exact aI | exact dQ | refine aB ?_ (Ty.aX _) | refine aB ?_ (Ty.aF _) | refine aG rfl (Cont.aF _) ?_ | refine aG rfl (Cont.dS ?_) ?_ | refine bh ?_ (Ty.aF _) | refine bh ?_ ?_)))
     all_goals first | exact Ty.af (Hv hc3) | exact Ty.af (HD hc3).1 | exact Ty.af (HD hc3).2
    refine cQ mixed rfl ?_
    refine aO rfl rfl rfl rfl rfl (by decide) ?_
    refine aO rfl rfl rfl rfl rfl (by decide) ?_
    refine aU rfl rfl (by decide) rfl rfl rfl ?_
    refine rj rfl rfl ?_
    refine aO rfl rfl rfl rfl rfl (by decide) ?_
    refine aU rfl rfl (by decide) rfl rfl rfl ?_
    refine aO rfl rfl rfl rfl rfl (by decide) ?_
    refine aO rfl rfl rfl rfl rfl (by decide) ?_
    refine aU rfl rfl (by decide) rfl rfl rfl ?_
    refine bt (E := c7) (xs := [_]) rfl rfl rfl rfl rfl (by decide) (by decide) (by repeat (first | exact (aW.nil : aW _ _ [] _) | (show aW _ _ ((_, _) :: _) _; apply aW.one; (· exact (rfl : _ = Ty.int _ _)); (· exact rfl)))) (by exact rfl) rfl ?_
    refine ah (rU _ _) rfl rfl rfl rfl rfl ?_
    refine aO rfl rfl rfl rfl rfl (by decide) ?_
    refine cq rfl rfl (by decide) rfl rfl (by exact (rfl : _ = Ty.int _ _)) rfl (by exact Nat.le_of_ble_eq_true rfl) rfl rfl (by exact rfl) ?_
    refine aO rfl rfl rfl rfl rfl (by decide) ?_
    refine cq rfl rfl (by decide) rfl rfl (by exact (rfl : _ = Ty.int _ _)) rfl (by exact Nat.le_of_ble_eq_true rfl) rfl rfl (by exact rfl) ?_
    refine aD ?_
    refine ⟨by kernel_rfl, ?_⟩
    refine fO ?_
    (refine dG.mk' ?_ ?_ <;> (repeat' (first | exact aJ | exact aI | exact dQ | refine aB ?_ (Ty.aX _) | refine aB ?_ (Ty.aF _) | refine aG rfl (Cont.aF _) ?_ | refine aG rfl (Cont.dS ?_) ?_ | refine bh ?_ (Ty.aF _) | refine bh ?_ ?_)))
    all_goals first | exact Ty.af (J9 hc3) | exact Ty.af (Jl hc3).1 | exact Ty.af (Jl hc3).2
   refine lD (J := live [(0, Ty.ex (yv l)), (1, Ty.pp [Ty.ex (.pointer (some ⟨b, 0, none⟩))]), (2, Ty.pa iV c8 0), (4, Ty.int .i64 (k.1 : Nat)), (5, Ty.ptr 6 0), (6, Ty.int .i64 (t.1 : Nat)), (7, Ty.ptr 8 0), (16, Ty.sl dY y.bins), (17, Ty.int .i64 y.bins.length), (18, Ty.int .i64 (k.1 : Nat)), (28, Ty.int .i64 (y.days + 1)), (29, Ty.int .i64 (t.1 : Nat))] [(6, Cont.cells 39 (dY.tys (nth y.bins k.1))), (8, Cont.cells 187 (uV (CR y k.1 t.1) (Dq y k.1 t.1) (g7 y k.1 t.1))), (7000, Cont.ck (hJ (k.1 * (y.D + 1) + t.1))), (4000, Cont.fact (bO y) vs rfl rfl)]) ?_ ?_
   ·
    refine aE (aA (bR rfl (aN rfl rfl rfl rfl (kI rfl ?_))))
    refine iT rfl rfl rfl rfl rfl (by decide) ?_
    refine iT rfl rfl rfl rfl rfl (by decide) ?_
    refine rK hX rfl rfl rfl rfl rfl rfl (bC rfl rfl rfl (aD (aC ?_)))
    refine av rfl (fun hc4 => ?_) (fun hc4 => ?_)
    ·
     refine aA (aN rfl rfl rfl rfl (bR rfl (bR rfl ?_)))
     refine dU [7000, 4000] (vq y hr (k.1 : Nat) (t.1 : Nat) (by omega) (by omega)) rfl (aM (o9 hX hD rfl rfl rfl rfl) (aM (aa (bG rfl rfl)) (aM (aa (bG rfl rfl)) bY))) (by exact dH _ _) ?_
     refine aO rfl rfl rfl rfl rfl (by decide) ?_
     refine cq rfl rfl (by decide) rfl rfl (by exact (rfl : _ = Ty.int _ _)) rfl (by exact Nat.le_of_ble_eq_true rfl) rfl rfl (by exact rfl) ?_
     refine aD (fO ?_)
     (refine dG.mk' ?_ ?_ <;> (repeat' (first | exact aJ | exact aI | exact dQ | refine aB ?_ (Ty.aX _) | refine aB ?_ (Ty.aF _) | refine aG rfl (Cont.aF _) ?_ | refine aG rfl (Cont.dS ?_) ?_ | refine bh ?_ (Ty.aF _) | refine bh ?_ ?_)))
     all_goals exact Ty.af (Iy hr hc4)
    refine ak (fO ?_)
    (refine dG.mk' ?_ ?_ <;> (repeat' (first | exact aJ | exact aI | exact dQ | refine aB ?_ (Ty.aX _) | refine aB ?_ (Ty.aF _) | refine aG rfl (Cont.aF _) ?_ | refine aG rfl (Cont.dS ?_) ?_ | refine bh ?_ (Ty.aF _) | refine bh ?_ ?_)))
    all_goals exact Ty.af (KM hr hc4)
   refine aE (aE (aA (aN rfl rfl rfl rfl (kI rfl ?_))))
   refine iT rfl rfl rfl rfl rfl (by decide) ?_
   refine iT rfl rfl rfl rfl rfl (by decide) ?_
   refine rK hX rfl rfl rfl rfl rfl rfl (ct rfl rfl rfl (bR rfl (aD (aC (au ?_)))))
   refine cZ (fun (i : {i : Nat // i ≤ y.levels.length}) => live [(0, Ty.ex (yv l)), (1, Ty.pp [Ty.ex (.pointer (some ⟨b, 0, none⟩))]), (2, Ty.pa iV c8 0), (4, Ty.int .i64 (k.1 : Nat)), (5, Ty.ptr 6 0), (6, Ty.int .i64 (t.1 : Nat)), (7, Ty.ptr 8 0), (16, Ty.sl dY y.bins), (17, Ty.int .i64 y.bins.length), (18, Ty.int .i64 (k.1 : Nat)), (28, Ty.int .i64 (y.days + 1)), (29, Ty.int .i64 (t.1 : Nat)), (76, Ty.sl dF y.levels), (77, Ty.int .i64 y.levels.length), (78, Ty.int .i64 (i.1 : Nat))] [(6, Cont.cells 39 (dY.tys (nth y.bins k.1))), (8, Cont.cells 187 (uV (CR y k.1 t.1) (Dq y k.1 t.1) (gE y (nth c8) k.1 t.1 (g7 y k.1 t.1) i.1))), (7000, Cont.ck (hJ (k.1 * (y.D + 1) + t.1))), (4000, Cont.fact (bO y) vs rfl rfl)]) (fun i => y.levels.length - i.1) (⟨0, by omega⟩) ?_ fun i => ?_
   ·(refine dG.mk' ?_ ?_ <;> (repeat' (first | exact aJ | exact aI | exact dQ | refine aB ?_ (Ty.aX _) | refine aB ?_ (Ty.aF _) | refine aG rfl (Cont.aF _) ?_ | refine aG rfl (Cont.dS ?_) ?_ | refine bh ?_ (Ty.aF _) | refine bh ?_ ?_)))
    all_goals first | exact Ty.af (AX _).1 | exact Ty.af (AX _).2
   have hi := i.2
   refine aE (aA (bC rfl rfl rfl (aD (aC (aE ?_)))))
   refine av rfl (fun hc5 => ?_) (fun hc5 => ?_)
   ·
    refine ak (aC (aE (au (aE (aA (bR rfl ?_))))))
    refine bK rfl rfl rfl rfl rfl rfl (by omega) ?_
    refine aZ rfl rfl rfl (by exact Nat.le_of_ble_eq_true rfl) ?_
    refine bw rfl (by exact List.cons_ne_nil _ _) rfl ?_
    refine cE rfl ?_
    refine bk rfl rfl (by decide) rfl rfl rfl rfl rfl rfl ?_
    refine aD (aC (aE (aA (bR rfl ?_))))
    refine CH (n := 8) rfl rfl rfl rfl rfl (by omega) ?_
    refine Em rfl rfl rfl (Nat.zero_add _) (by omega) rfl ?_
    refine fu rfl ?_
    apply aL (s := 86) rfl rfl rfl
    ·intro hg; apply aP; (refine aO rfl rfl rfl rfl rfl (by decide) ?_); refine aD ?_; exact rfl
    ·exact rfl
    ·exact rfl
    apply aL (s := 86) rfl rfl rfl
    ·intro hg; apply aK (s := 87) rfl (by (rw [hg]; rfl)); apply aP; (refine aU rfl rfl (by decide) rfl rfl rfl ?_); refine aD ?_; exact rfl
    ·exact rfl
    ·exact rfl
    apply aL (s := 86) rfl rfl rfl
    ·intro hg; apply aP; (refine bR rfl ?_); refine aD ?_; exact rfl
    ·exact rfl
    ·exact rfl
    apply aL (s := 86) rfl rfl rfl
    ·intro hg; apply aK (s := 88) rfl (by (rw [hg]; rfl)); apply aK (s := 89) rfl (by (rw [hg]; rfl)); apply aP; (refine bC rfl rfl rfl ?_); refine aD ?_; exact rfl
    ·exact rfl
    ·exact rfl
    refine fD rfl rfl (fu rfl ?_)
    apply aL (s := 92) rfl rfl rfl
    ·intro hg; apply aP; (refine aO rfl rfl rfl rfl rfl (by decide) ?_); refine aD ?_; exact rfl
    ·exact rfl
    ·exact rfl
    apply aL (s := 92) rfl rfl rfl
    ·intro hg; apply aK (s := 93) rfl (by (rw [hg]; rfl)); apply aP; (refine aU rfl rfl (by decide) rfl rfl rfl ?_); refine aD ?_; exact rfl
    ·exact rfl
    ·exact rfl
    apply aL (s := 92) rfl rfl rfl
    ·intro hg; apply aP; (refine bR rfl ?_); refine aD ?_; exact rfl
    ·exact rfl
    ·exact rfl
    apply aL (s := 92) rfl rfl rfl
    ·intro hg; apply aK (s := 94) rfl (by (rw [hg]; rfl)); apply aK (s := 95) rfl (by (rw [hg]; rfl)); apply aP; (refine bC rfl rfl rfl ?_); refine aD ?_; exact rfl
    ·exact rfl
    ·exact rfl
    refine fD rfl rfl (aD (aC ?_))
    refine cr rfl (fun hc6 => ?_) (fun hc6 => ?_)
    ·
     refine cQ mixed rfl ?_
     refine aO rfl rfl rfl rfl rfl (by decide) ?_
     refine aU rfl rfl (by decide) rfl rfl rfl ?_
     refine aO rfl rfl rfl rfl rfl (by decide) ?_
     refine aO rfl rfl rfl rfl rfl (by decide) ?_
     refine aU rfl rfl (by decide) rfl rfl rfl ?_
     refine rj rfl rfl ?_
     refine aO rfl rfl rfl rfl rfl (by decide) ?_
     refine aU rfl rfl (by decide) rfl rfl rfl ?_
     refine aO rfl rfl rfl rfl rfl (by decide) ?_
     refine aO rfl rfl rfl rfl rfl (by decide) ?_
     refine aU rfl rfl (by decide) rfl rfl rfl ?_
     refine bt (E := c7) (xs := [_]) rfl rfl rfl rfl rfl (by decide) (by decide) (by repeat (first | exact (aW.nil : aW _ _ [] _) | (show aW _ _ ((_, _) :: _) _; apply aW.one; (· exact (rfl : _ = Ty.int _ _)); (· exact rfl)))) (by exact rfl) rfl ?_
     refine ah (rU _ _) rfl rfl rfl rfl rfl ?_
     refine aO rfl rfl rfl rfl rfl (by decide) ?_
     refine cq rfl rfl (by decide) rfl rfl (by exact (rfl : _ = Ty.int _ _)) rfl (by exact Nat.le_of_ble_eq_true rfl) rfl rfl (by exact rfl) ?_
     refine aO rfl rfl rfl rfl rfl (by decide) ?_
     refine cq rfl rfl (by decide) rfl rfl (by exact (rfl : _ = Ty.int _ _)) rfl (by exact Nat.le_of_ble_eq_true rfl) rfl rfl (by exact rfl) ?_
     refine aD ?_
     refine ⟨by kernel_rfl, ?_⟩
     refine bf (aC (aA ?_))
     refine cD rfl rfl (by omega) (by omega) ?_
     refine bR rfl (aD ?_)
     refine bp (⟨i.1 + 1, by omega⟩) ?_ (by show y.levels.length - (i.1 + 1) < y.levels.length - i.1; omega)
     (refine dG.mk' ?_ ?_ <;> (repeat' (first | exact aJ | exact aI | exact dQ | refine aB ?_ (Ty.aX _) | refine aB ?_ (Ty.aF _) | refine aG rfl (Cont.aF _) ?_ | refine aG rfl (Cont.dS ?_) ?_ | refine bh ?_ (Ty.aF _) | refine bh ?_ ?_)))
     all_goals skip
     all_goals first | exact Ty.af (DC hc6).1 | exact Ty.af (DC hc6).2
    refine ak (bf (aC (aA ?_)))
    refine cD rfl rfl (by omega) (by omega) ?_
    refine bR rfl (aD ?_)
    refine bp (⟨i.1 + 1, by omega⟩) ?_ (by show y.levels.length - (i.1 + 1) < y.levels.length - i.1; omega)
    (refine dG.mk' ?_ ?_ <;> (repeat' (first | exact aJ | exact aI | exact dQ | refine aB ?_ (Ty.aX _) | refine aB ?_ (Ty.aF _) | refine aG rfl (Cont.aF _) ?_ | refine aG rfl (Cont.dS ?_) ?_ | refine bh ?_ (Ty.aF _) | refine bh ?_ ?_)))
    all_goals skip
    all_goals first | exact Ty.af (E7 hc6).1 | exact Ty.af (E7 hc6).2
   refine cg (aT (aT (bA rfl (aC (aE ?_)))))
   refine gI (tg := 8) rfl (Cont.mQ (congrArg (uV _ _) (IK i.2 hc5))) ?_
   refine aA (Ma rfl ?_)
   refine bL rfl rfl (by decide) rfl rfl (by exact Nat.le_of_ble_eq_true rfl) ?_
   refine BZ hJ hJx hY rfl rfl rfl rfl rfl (C7 (C2 (by omega) (by omega)) (I0 (by omega) (by omega))) rfl ?_
   refine F0 (h1 := hJ _) (hx := hJx) rfl ?_
   refine aD (aC ?_)
   refine DE (h1 := hJ _) (hx := hJx) rfl ?_ ?_
   ·
    refine az (bJ (aV (aV (bJ (bJ (aV (aV (bJ (aV ?_)))))))))
    exact Dg rfl rfl
   refine ak (bf (aC (aA ?_)))
   refine cD rfl rfl (by omega) (by omega) ?_
   refine bR rfl (aD ?_)
   refine bp (⟨t.1 + 1, by omega⟩) ?_ (by show y.D + 1 - (t.1 + 1) < y.D + 1 - t.1; omega)
   (refine dG.mk' ?_ ?_ <;> (repeat' (first | exact aJ | exact aI | refine aB ?_ (Ty.aX _) | refine aB ?_ (Ty.aF _) | refine aG rfl (Cont.aF _) ?_)))
   all_goals skip
  refine cg (aT (aT (bA rfl (bf (aC (aA ?_))))))
  refine cD rfl rfl (by omega) (by omega) ?_
  refine bR rfl (aD ?_)
  refine bp (⟨k.1 + 1, by omega⟩) ?_ (by show y.bins.length - (k.1 + 1) < y.bins.length - k.1; omega)
  (refine dG.mk' ?_ ?_ <;> (repeat' (first | exact aJ | exact aI | refine aB ?_ (Ty.aX _) | refine aB ?_ (Ty.aF _) | refine aG rfl (Cont.aF _) ?_ | refine aG rfl ?_ ?_)))
  all_goals skip
  all_goals exact HR hJ (show k.1 * (y.D + 1) + t.1 = (k.1 + 1) * (y.D + 1) by rw [Nat.succ_mul]; have := t.2; omega)
 refine cg (aT (aT (bA rfl (aC (aE (aA (aN rfl rfl rfl rfl (kI rfl ?_))))))))
 refine iT rfl rfl rfl rfl rfl (by decide) ?_
 refine iT rfl rfl rfl rfl rfl (by decide) ?_
 refine rK hX rfl rfl rfl rfl rfl rfl (ct rfl rfl rfl (bR rfl (aD (aC (au ?_)))))
 refine cZ (fun (i : {i : Nat // i ≤ y.moves.length}) => live [(0, Ty.ex (yv l)), (1, Ty.pp [Ty.ex (.pointer (some ⟨b, 0, none⟩))]), (124, Ty.sl cy y.moves), (125, Ty.int .i64 y.moves.length), (126, Ty.int .i64 (i.1 : Nat))] [(7000, Cont.ck (hJ (y.bins.length * (y.D + 1) + i.1))), (4000, Cont.fact (bO y) vs rfl rfl)]) (fun i => y.moves.length - i.1) (⟨0, by omega⟩) ?_ fun i => ?_
 ·(refine dG.mk' ?_ ?_ <;> (repeat' (first | exact aJ | exact aI | refine aB ?_ (Ty.aX _) | refine aB ?_ (Ty.aF _) | refine aG rfl (Cont.aF _) ?_ | refine aG rfl ?_ ?_)))
  all_goals exact HR hJ (show k.1 * (y.D + 1) = y.bins.length * (y.D + 1) + 0 by rw [show k.1 = y.bins.length by have := k.2; omega]; rfl)
 refine aE (aA (bC rfl rfl rfl (aD (aC (aE ?_)))))
 refine av rfl (fun hc8 => ?_) (fun hc8 => ?_)
 ·
  refine ak (aC (aE (au (aE (aA ?_)))))
  refine bK rfl rfl rfl rfl rfl rfl (by omega) ?_
  refine aZ rfl rfl rfl (by exact Nat.le_of_ble_eq_true rfl) ?_
  refine bw rfl (by exact List.cons_ne_nil _ _) rfl ?_
  refine bk rfl rfl (by decide) rfl rfl rfl rfl rfl rfl ?_
  refine aD (aC (aE ?_))
  have hm := hr.move _ (dA (xs := y.moves) (k := i.1) (by omega))
  refine cQ mixed rfl (Ma rfl (aN rfl rfl rfl rfl ?_))
  refine aO rfl rfl rfl rfl rfl (by decide) ?_
  refine aU rfl rfl (by decide) rfl rfl rfl ?_
  refine aO rfl rfl rfl rfl rfl (by decide) ?_
  refine aU rfl rfl (by decide) rfl rfl rfl ?_
  refine dU [7000, 4000] (vq y hr (nth y.moves i.1).src (nth y.moves i.1).day hm.2.1 (by omega)) rfl (aM (o9 hX hD rfl rfl rfl rfl) (aM (aa (bG rfl rfl)) (aM (aa (bG rfl rfl)) bY))) (by exact dH _ _) ?_
  refine aN rfl rfl rfl rfl ?_
  refine aO rfl rfl rfl rfl rfl (by decide) ?_
  refine aU rfl rfl (by decide) rfl rfl rfl ?_
  refine aO rfl rfl rfl rfl rfl (by decide) ?_
  refine aU rfl rfl (by decide) rfl rfl rfl ?_
  refine dU [7000, 4000] (vq y hr (nth y.moves i.1).dst (nth y.moves i.1).day hm.2.2.1 (by omega)) rfl (aM (o9 hX hD rfl rfl rfl rfl) (aM (aa (bG rfl rfl)) (aM (aa (bG rfl rfl)) bY))) (by exact dH _ _) ?_
  refine aO rfl rfl rfl rfl rfl (by decide) ?_
  refine aO rfl rfl rfl rfl rfl (by decide) ?_
  refine aU rfl rfl (by decide) rfl rfl rfl ?_
  refine aO rfl rfl rfl rfl rfl (by decide) ?_
  refine aO rfl rfl rfl rfl rfl (by decide) ?_
  refine aU rfl rfl (by decide) rfl rfl rfl ?_
  refine c6 rfl rfl (by exact List.cons_ne_nil _ _) rfl (by repeat (first | exact (aW.nil : aW _ _ [] _) | (show aW _ _ ((_, _) :: _) _; apply aW.one; (· exact (rfl : _ = Ty.int _ _)); (· exact rfl)))) (by exact (rfl : _ = some [_, _, _, _])) ?_
  refine BZ hJ hJx hY rfl rfl rfl rfl rfl (C7 (by rw [fC]; omega) (IM (by omega))) rfl ?_
  refine F0 (h1 := hJ _) (hx := hJx) rfl ?_
  refine aD ?_
  refine ⟨by kernel_rfl, ?_⟩
  refine aC ?_
  refine DE (h1 := hJ _) (hx := hJx) rfl ?_ ?_
  ·
   refine az (bJ (aV (aV (bJ ?_))))
   exact Dg rfl rfl
  refine ak (bf (aC (aA ?_)))
  refine cD rfl rfl (by omega) (by omega) ?_
  refine bR rfl (aD ?_)
  refine bp (⟨i.1 + 1, by omega⟩) ?_ (by show y.moves.length - (i.1 + 1) < y.moves.length - i.1; omega)
  (refine dG.mk' ?_ ?_ <;> (repeat' (first | exact aJ | exact aI | refine aB ?_ (Ty.aX _) | refine aB ?_ (Ty.aF _) | refine aG rfl (Cont.aF _) ?_)))
  all_goals skip
 refine cg (aT (aT (bA rfl ?_)))
 exact HX (hJ := hJ) (by rw [List.length_map, fC, show i.1 = y.moves.length by have := i.2; omega]) rfl rfl
end Go.Proofs.YtelbollidfdcjaaGreat
namespace Go.T
open Go Go.RowKit
theorem Jm {ρ : List (Nat × Nat)} {a b : Nat} (h : (a, b) ∈ ρ) : Conv ρ (.mp a) (.mp b) := fun _ _ _ _ _ _ hre ⟨k, e, hk⟩ => ⟨k, e, hre.some _ h k hk⟩
def Fm {α : Type} (E : El α) : VT (List α) := ⟨fun xs => Ty.sl E xs, fun _ => ⟨rfl, rfl⟩⟩
section
variable {A : As}
theorem IB {α : Type} {E : El α} {T J : Nat} {xs : List α} {w : World} {M : ay} {v : Value} (wf : Wf w M) (h : Ft E T J xs w M v) : nJ E xs w (eO M J) v := by
 rcases h with ⟨rfl, rfl⟩ | ⟨g, off, c, cur, rfl, hg, hh, h1, h2, h3, h4⟩
 ·exact ⟨none, 0, rfl, Nat.le_refl _, by simp [maxLen], fun h => absurd h (by simp)⟩
 refine ⟨_, c, rfl, h1, h2, fun h0 => ⟨g, off, rfl, by simp [eO, hg], wf.lt g _ hg, fun i t hi => ?_⟩⟩
 obtain ⟨u, hu, hdu⟩ := dg h4 i t hi
 refine ⟨u, ?_, t.mono (iz (w := w)) ?_ (fun _ _ h => by cases h) hdu⟩
 ·have hlt : i < xs.length * E.size := by
   have := (List.getElem?_eq_some_iff.1 hu).1
   rw [List.length_take] at this; omega
  rw [List.getElem?_take, if_pos hlt, List.getElem?_drop] at hu
  simpa [World.cell?, hh] using hu
 intro u hu
 have : u ∈ cG (xs.flatMap E.tys) := List.mem_flatMap.2 ⟨t, List.mem_of_getElem? hi, hu⟩
 rw [E.dB] at this; cases this
theorem It {κ α : Type} [DecidableEq κ] {enc : κ → Value} {E : El α} {T J m : Nat} {q : List (κ × List α)} (hc : A.tag m = some (.mr enc E T J q)) (hne : Nat.beq m J = false) : Jw A J (m, .mp enc (Fm E) q) := fun w M wf ht => by
  obtain ⟨_, b, es, clock, h1, h2, h3, h4, _⟩ := ht _ (cj hc)
  have hmj : m ≠ J := fun h => by subst h; simp at hne
  refine ⟨b, by simp [eO, h1, hmj], es, clock, h2, h3, ?_⟩
  have key : ∀ (l : List (κ × List α)) (vs : List Value), cM w M (l.map fun x => Ty.iK E T J x.2) vs → cM w (eO M J) (l.map fun x => (Fm E).ty x.2) vs := by
    intro l
    induction l with
    | nil => intro vs h; cases vs with | nil => trivial | cons => cases h
    | cons x l ih =>
      intro vs h
      cases vs with
      | nil => cases h
      | cons v vs => exact ⟨IB wf h.1, ih vs h.2⟩
  exact key q _ h4
theorem mq {L : List Nat} {l1 l2 : List Ty} (h1 : cG l1 = []) (h2 : bl l1 = []) : rG A L (.pp (l1 ++ l2)) (.pp l1) := fun w M v _ _ ⟨b, off, e, m1, m2, m3⟩ => by
 refine ⟨b, off, e, jC m1, m2, fun i t hi => ?_⟩
 have hl : i < l1.length := (List.getElem?_eq_some_iff.1 hi).1
 obtain ⟨x, hx, hd⟩ := m3 i t (by rw [List.getElem?_append_left hl]; exact hi)
 refine ⟨x, hx, t.mono (S := fun _ => True) (K := fun _ => True) ⟨Nat.le_refl _, rfl, rfl, rfl, fun b _ hm => ⟨jC hm, rfl⟩, fun b t _ h => absurd trivial h⟩ ?_ ?_ hd⟩
 ·intro u hu
  have : u ∈ cG l1 := List.mem_flatMap.2 ⟨t, List.mem_of_getElem? hi, hu⟩
  rw [h1] at this; cases this
 intro u hu
 have : u ∈ bl l1 := List.mem_flatMap.2 ⟨t, List.mem_of_getElem? hi, hu⟩
 rw [h2] at this; cases this
theorem Ed {L : List Nat} {i : Nat} {t : Ty} : ∀ {l l' : List Ty}, nU A L l l' → l'[i]? = some t → ∃ s, l[i]? = some s ∧ rG A L s t := by
  induction i with
  | zero =>
    intro l l' h e
    match l, l', h with
    | [], [], _ => cases e
    | s :: _, t' :: _, h => injection e with e; subst e; exact ⟨s, rfl, h.1⟩
  | succ i ih =>
    intro l l' h e
    match l, l', h with
    | [], [], _ => cases e
    | _ :: l, _ :: l', h => exact ih (l := l) (l' := l') h.2 e
theorem j6 {L : List Nat} {l l' : List Ty} (h : nU A L l l') : rG A L (.pp l) (.pp l') := fun w M v wf ht ⟨b, off, e, m1, m2, m3⟩ => by
 refine ⟨b, off, e, jC m1, m2, fun i t hi => ?_⟩
 obtain ⟨s, h1, h2⟩ := Ed h hi
 obtain ⟨x, hx, hd⟩ := m3 i s h1
 exact ⟨x, hx, h2 w M x wf ht hd⟩
end
section
variable {P : Program} {fr : Fr} {A : As} {c : Code} {Q : Exit → Act → World → Prop}
theorem Km {α : Type} {E : El α} {T J tg s : Nat} {xs : List α} (hs : Nat.blt s fr.n = true) (hc : A.slots s = .row E T tg xs) (h1 : fV tg) (hJ : 4096 ≤ J) (hp : fr.pass.contains tg = false)
    (h : fM P fr c ⟨fun i => bif Nat.beq i s then .iK E T J xs else gJ [] [tg] A.slots i, mY [] [tg] A.tags⟩ Q) : fM P fr c A Q := fun a w ⟨M, ok, hsl, ht⟩ => by
  have le : Le (· ∈ ([] : List Nat)) (· ∈ [tg]) w M w (rz M tg J) := A9
  refine h a w ⟨rz M tg J, ⟨GO hJ ok.wf, Fr.iw ok.base (by intro _ h; cases h) (fun t ht => by simp only [List.mem_singleton] at ht; subst ht; exact ⟨h1.1, by simpa using hp⟩) le, ok.size, ok.defers.step (by intro _ h; cases h) (fun t ht => by simp only [List.mem_singleton] at ht; subst ht; exact h1.1) le⟩, fun i hi => ?_, fun x hx => ?_⟩
  · cases hb : Nat.beq i s with
    | false =>
      simp only [hb, cond_false]
      rcases fP [] [tg] A.slots i with ⟨e, hdj⟩ | ⟨_, e⟩
      · rw [e]; exact (A.slots i).mono le (fH hdj).1 (fH hdj).2 (hsl i hi)
      · rw [e]; trivial
    | true =>
      have his : i = s := Nat.eq_of_beq_eq_true hb
      subst his
      simp only [hb, cond_true]
      have hd := hsl i hi
      rw [hc] at hd
      obtain ⟨vs, hown, hcs, hM⟩ := hd
      rcases hown.2 with ⟨ez, h0⟩ | ⟨g, cap, cur, ez, _, hh, hnc, hcap, hsz, htk⟩
      · exact .inl ⟨List.length_eq_zero_iff.1 h0, ez⟩
      · have hg : M g = some tg := hM g (by rw [ez]; rfl)
        refine .inr ⟨g, 0, cap, cur, ez, by simp [rz, hg], hh, hnc, hcap, by omega, ?_⟩
        rw [List.drop_zero, htk]
        exact b8 (A9 (w := w)) (by rw [E.dB]; intro _ h; cases h) (by rw [E.cW]; intro _ h; cases h) hcs
  · exact iG le hx fun y hy _ => ht y hy
end
end Go.T
namespace Go.Proofs.YtelbollidfdcjaaGreat
open Go Go.T
set_option maxHeartbeats 8000000
theorem four {vs : List Value} {n : Nat} (h : vs.length = n) (e : n = 4) : ∃ a b c d, vs = [a, b, c, d] := by
  subst e
  match vs, h with
  | [a, b, c, d], _ => exact ⟨a, b, c, d, rfl⟩
def DD (y : aq) : List Ty := [Ty.int .i64 y.days, Ty.sl dY y.bins, Ty.sl cy y.moves, Ty.sl dF y.levels, Ty.ex (.slice none 0 0), Ty.ex (.slice none 0 0)]
def L3 (y : aq) (F A : Nat) (fl : List bz) (a : List Int) : List Ty := [Ty.int .i64 y.days, Ty.sl dY y.bins, Ty.sl cy y.moves, Ty.sl dF y.levels, Ty.row dw 187 F fl, Ty.row c7 3 A a]
theorem DJ {fl : List bz} {k : Nat} (h : k < fl.length) : (gY fl).take k ++ [(nth fl k).lo] = (gY fl).take (k + 1) := by
 unfold gY; rw [← List.map_take, ← List.map_take, eB h, List.map_append]; rfl
theorem BI {y : aq} {fl : List bz} {α : Type} {f : bz → α} : [Ty.int .i64 y.days, Ty.sl dY y.bins, Ty.sl cy y.moves, Ty.sl dF y.levels, Ty.row dw 187 23 (fl.take (fl.map f).length), Ty.row c7 3 31 ((gY fl).take (fl.map f).length)] = L3 y 23 31 fl (gY fl) := by
 rw [List.length_map, List.take_of_length_le (Nat.le_refl _), List.take_of_length_le (by unfold gY; rw [List.length_map]; exact Nat.le_refl _)]; rfl
def sD (y : aq) (F A m n : Nat) : List Ty := [Ty.int .i64 y.days, Ty.sl dY y.bins, Ty.sl cy y.moves, Ty.sl dF y.levels, Ty.vs F m, Ty.vs A n]
def eE (y : aq) (fl : List bz) (A n : Nat) : List Ty := [Ty.int .i64 y.days, Ty.sl dY y.bins, Ty.sl cy y.moves, Ty.sl dF y.levels, Ty.sl dw fl, Ty.vs A n]
def lV (y : aq) (fl : List bz) (a : List Int) : List Ty := [Ty.int .i64 y.days, Ty.sl dY y.bins, Ty.sl cy y.moves, Ty.sl dF y.levels, Ty.sl dw fl, Ty.sl c7 a]
theorem B5 (fl : List bz) : (gY fl).length = fl.length := by unfold gY; rw [List.length_map]
theorem jo {y : aq} (hr : y.cx) {c : Nat → Bool} : (aS y c).length ≤ 34 := by
 have h1 := hr.bins; have h2 := hr.days; have h3 := D_eq hr; have h4 := hr.moves
 have := Nat.mul_le_mul (show y.bins.length ≤ 4 by omega) (show y.D + 1 ≤ 6 by omega)
 rw [fC]; omega
attribute [local irreducible] aS gY
attribute [local irreducible] iP fT nJ qo jJ jK jE jM jG qi jI qn eG gx qg gm qj nth fM dm aj dz bodyPost Exit.then Exit.inBlock Code.wp Code.wpIn qm jL ql qd jH eJ cV cm bodyPostM eN
set_option maxRecDepth 100000 in
theorem FW (y : aq) (c8 : List Bool) (hc8 : c8.length = 8) : eJ Tryz.prog 173 [1000] [(1000, Cont.cells 185 (DD y))] [Ty.ptr 1000 0, Ty.arr iV c8] [(1000, Cont.cells 185 (DD y))] (Ty.jf 196 [Ty.pp [Ty.ptr 1000 0], Ty.pa iV c8 0]) := by
 refine dN Tryz.func173 rfl (by decide) Tryz.ntmps173 (by exact Nat.le_of_ble_eq_true rfl) fun w0 M0 => ?_
 refine aE (aA ?_)
 refine gL (ty := Ty.ptr 1000 0) rfl rfl ?_
 refine tC rfl (l9 rfl (aD (aC (aE (aA (dR rfl (MX rfl (aD (aC ?_)))))))))
 refine az ?_
 refine fN [1000] rfl rfl (by decide) (by repeat (first | exact dn | refine cw rfl (bM (by decide) rfl rfl rfl) ?_)) ?_
 all_goals skip
 all_goals exact eM (tE (aH (aH bH (aR rfl rfl)) (fA (aH bH (dx (by decide))))))
set_option maxRecDepth 100000 in
theorem r8 (y : aq) (hr : y.cx) (c8 : List Bool) (hc8 : c8.length = 8) : eJ Tryz.prog 117 [] [] [fE y, Ty.arr iV c8] [(23, Cont.vec dw 187 (aS y (nth c8))), (31, Cont.vec c7 3 (gY (aS y (nth c8))))] (Ty.pp (sD y 23 31 (aS y (nth c8)).length (aS y (nth c8)).length)) := by
 refine qQ Tryz.func117 rfl (by decide) Tryz.ntmps117 (by exact Nat.le_of_ble_eq_true rfl) fun w0 M0 => ?_
 have hfl := jo (c := nth c8) hr
 refine aE (aA (bN rfl (tC rfl (l9 rfl (aD (aC (aE (aA ?_))))))))
 refine aZ rfl rfl rfl (by exact Nat.le_of_ble_eq_true rfl) ?_
 refine c6 rfl rfl (by exact List.cons_ne_nil _ _) rfl (by repeat (first | exact (aW.nil : aW _ _ [] _) | (show aW _ _ ((_, _) :: _) _; apply aW.agg; (· exact (rfl : _ = Ty.agg _))))) (by exact rfl) ?_
 refine sV rfl rfl rfl ?_
 refine bw rfl (by exact List.cons_ne_nil _ _) rfl ?_
 refine cq rfl rfl (by decide) rfl rfl (by exact (rfl : _ = Ty.ptr _ _)) rfl (by exact Nat.le_of_ble_eq_true rfl) rfl rfl (by exact (rfl : _ = [_])) ?_
 refine aD (aC (aE (aE (aA ?_))))
 refine aU rfl rfl (by decide) rfl rfl rfl ?_
 refine vA rfl rfl rfl (by rw [hc8]; rfl) ?_
 refine b9 (res' := Ty.jf 196 [Ty.pp [Ty.ptr 10 0], Ty.pa iV c8 0]) [(10, 1000)] [] [(10, Cont.cells 185 (DD y))] (FW y c8 hc8) rfl rfl (aH (aH bH (aR rfl rfl)) (dx (by exact List.mem_cons_self))) (cC (a := 10) (b := 1000) (by exact List.mem_cons_self) rfl (bM (by exact List.mem_cons_self) rfl rfl rfl) pre_nil) (bI (a := 10) (b := 1000) (by exact List.mem_cons_self) rfl (bM (by exact List.mem_cons_self) rfl rfl rfl) post_nil) (tE (aH (aH bH (aR rfl rfl)) (fA (aH bH (dx (by exact List.mem_cons_self)))))) ?_
 refine aD (aC ?_)
 refine F1 (D := 10) (Tb := 185) (tys := bO y) (r := [Ty.ex (.slice none 0 0), Ty.ex (.slice none 0 0)]) rfl rfl rfl (by decide) fun vs hvs => ?_
 obtain ⟨v0, v1, v2, v3, rfl⟩ := four hvs rfl
 refine au ?_
 refine rJ (ps := [13]) (lk [(5, Ty.ptr 6 0), (9, Ty.ptr 10 0)]) (fun k => [(6, Cont.cells 152 [Ty.ptr 10 0]), (10, Cont.cells 185 [Ty.ex v0, Ty.ex v1, Ty.ex v2, Ty.ex v3, Ty.row dw 187 23 ((aS y (nth c8)).take k), Ty.row c7 3 31 ((gY (aS y (nth c8))).take k)]), (4000, Cont.fact (bO y) [v0, v1, v2, v3] rfl rfl)]) false [] [6, 10, 4000] rfl rfl ((ud y hr c8 hc8 0 10 (by decide) [v0, v1, v2, v3]).1) (BM (D := 10) (n := 36) (sd := 9) (r := fun k => [Ty.row dw 187 23 ((aS y (nth c8)).take k), Ty.row c7 3 31 ((gY (aS y (nth c8))).take k)]) (fun b => ud y hr c8 hc8 b 10 (by decide) [v0, v1, v2, v3]) (by decide) (by decide) rfl (fun k => List.mem_cons_of_mem _ List.mem_cons_self) (List.mem_cons_of_mem _ (List.mem_cons_of_mem _ List.mem_cons_self))) (uN rfl) (uN rfl) (by decide) (by intro t ht; obtain ⟨x, _, rfl⟩ := List.mem_map.1 ht; exact ⟨rfl, rfl, rfl⟩) rfl rfl (fun _ => rfl) rfl ?_ ?_ ?_ (by intro h; cases h)
 ·(refine dG.mk' ?_ ?_ <;> (repeat' (first | exact aJ | exact aI | exact dQ | refine aB ?_ (Ty.aX _) | refine aB ?_ (Ty.aF _) | refine aG rfl (Cont.aF _) ?_ | refine aG rfl (Cont.dS ?_) ?_ | refine bh ?_ (Ty.aF _) | refine bh ?_ Ty.kX)))
  all_goals trace_state
 ·intro k tys hk
  obtain ⟨hk1, rfl⟩ := Dk hk
  refine ⟨live [(5, Ty.ptr 6 0), (6, Ty.ptr 7 0), (9, Ty.ptr 10 0)] [(6, Cont.cells 152 [Ty.ptr 10 0]), (7, Cont.cells 187 (dw.tys (nth (aS y (nth c8)) k))), (10, Cont.cells 185 [Ty.ex v0, Ty.ex v1, Ty.ex v2, Ty.ex v3, Ty.row dw 187 23 ((aS y (nth c8)).take k), Ty.row c7 3 31 ((gY (aS y (nth c8))).take k)]), (4000, Cont.fact (bO y) [v0, v1, v2, v3] rfl rfl)], fun l w M => ?_, fun l w M => ?_⟩
  ·
   refine aA ?_
   refine bw rfl (by exact List.cons_ne_nil _ _) rfl ?_
   refine bk rfl rfl (by decide) rfl rfl rfl rfl rfl rfl ?_
   refine aD (fO ?_)
   (refine dG.mk' ?_ ?_ <;> (repeat' (first | exact aJ | exact aI | refine aB ?_ (Ty.aX _) | refine aB ?_ (Ty.aF _) | refine aG rfl (Cont.aF _) ?_)))
  refine au ?_
  refine uj (D := 10) (Tb := 185) (tg := 23) [Ty.ex v0, Ty.ex v1, Ty.ex v2, Ty.ex v3] rfl fun v4 => ?_
  refine uj (D := 10) (Tb := 185) (tg := 31) [Ty.ex v0, Ty.ex v1, Ty.ex v2, Ty.ex v3, Ty.ex v4] rfl fun v5 => ?_
  refine cQ mixed rfl ?_
  refine aU rfl rfl (by decide) rfl rfl rfl ?_
  refine aU rfl rfl (by decide) rfl rfl rfl ?_
  refine aU rfl rfl (by decide) rfl rfl rfl ?_
  refine cL rfl ?_
  refine aO rfl rfl rfl rfl rfl (by decide) ?_
  refine aU rfl rfl (by decide) rfl rfl rfl ?_
  refine bL rfl rfl (by decide) rfl rfl (by exact Nat.le_of_ble_eq_true rfl) ?_
  refine bt (E := dw) (xs := [_]) rfl rfl rfl rfl rfl (by decide) (by decide) (by repeat (first | exact (aW.nil : aW _ _ [] _) | (show aW _ _ ((_, _) :: _) _; apply aW.agg; (· exact (rfl : _ = Ty.agg _))))) (by exact rfl) rfl ?_
  refine pT (tg := 23) rfl rfl rfl rfl (by decide) rfl rfl rfl rfl rfl rfl (by decide) (by (simp <;> omega)) (by (simp <;> omega)) rfl rfl ?_
  refine aU rfl rfl (by decide) rfl rfl rfl ?_
  refine cL rfl ?_
  refine aO rfl rfl rfl rfl rfl (by decide) ?_
  refine aU rfl rfl (by decide) rfl rfl rfl ?_
  refine aO rfl rfl rfl rfl rfl (by decide) ?_
  refine aU rfl rfl (by decide) rfl rfl rfl ?_
  refine bt (E := c7) (xs := [_]) rfl rfl rfl rfl rfl (by decide) (by decide) (by repeat (first | exact (aW.nil : aW _ _ [] _) | (show aW _ _ ((_, _) :: _) _; apply aW.one; (· exact (rfl : _ = Ty.int _ _)); (· exact rfl)))) (by exact rfl) rfl ?_
  refine pT (tg := 31) rfl rfl rfl rfl (by decide) rfl rfl rfl rfl rfl rfl (by decide) (by (simp <;> omega)) (by (simp <;> omega)) rfl rfl ?_
  refine cL rfl ?_
  refine aO rfl rfl rfl rfl rfl (by decide) ?_
  refine cq rfl rfl (by decide) rfl rfl (by exact (rfl : _ = Ty.row _ _ _ _)) rfl (by exact Nat.le_of_ble_eq_true rfl) rfl rfl (by exact rfl) ?_
  refine cL rfl ?_
  refine aO rfl rfl rfl rfl rfl (by decide) ?_
  refine cq rfl rfl (by decide) rfl rfl (by exact (rfl : _ = Ty.row _ _ _ _)) rfl (by exact Nat.le_of_ble_eq_true rfl) rfl rfl (by exact rfl) ?_
  refine aD ?_
  refine ⟨by kernel_rfl, ?_⟩
  refine bf (zw ?_)
  (refine dG.mk' ?_ ?_ <;> (repeat' (first | exact aJ | exact aI | exact dQ | refine aB ?_ (Ty.aX _) | refine aG rfl (Cont.aF _) ?_ | refine aG rfl (Cont.dS ?_) ?_ | refine bh ?_ (Ty.aF _) | refine bh ?_ ?_)))
  all_goals first | exact Ty.gF (eB hk1).symm | exact Ty.gF (DJ hk1)
 refine bf (aC (aE ?_))
 refine Ai (D := 10) (Tb := 185) (vs := [v0, v1, v2, v3]) (tys := bO y) (r := [Ty.row dw 187 23 ((aS y (nth c8)).take ((aS y (nth c8)).map jX).length), Ty.row c7 3 31 ((gY (aS y (nth c8))).take ((aS y (nth c8)).map jX).length)]) rfl rfl ?_
 refine gI (tg := 10) rfl (Cont.mQ (T := 185) (BI (y := y) (fl := aS y (nth c8)) (f := jX))) ?_
 refine jB (c0 := 10) (tg := 23) 4 rfl rfl ?_
 refine jB (c0 := 10) (tg := 31) 5 rfl rfl ?_
 refine gI (tg := 10) rfl (Cont.dM (l' := sD y 23 31 (aS y (nth c8)).length (aS y (nth c8)).length) ⟨Ty.aF _, Ty.aF _, Ty.aF _, Ty.aF _, Ty.oX rfl, Ty.oX (B5 _), trivial⟩) ?_
 refine ig (tg := 10) [] [(6, Cont.cells 152 [Ty.pp (sD y 23 31 (aS y (nth c8)).length (aS y (nth c8)).length)])] (by decide) rfl trivial ⟨eW rfl rfl ⟨xI rfl rfl (by decide), trivial⟩, trivial⟩ ?_
 refine aA ?_
 refine aU rfl rfl (by decide) rfl rfl rfl ?_
 refine Iv rfl (aD (aC (az (Gr rfl ?_))))
 refine fN [23, 31] rfl rfl (by decide) (by repeat (first | exact dn | refine cw rfl (bV (by decide) rfl) ?_)) ?_
 all_goals skip
 all_goals exact eM (fA (aH (aH (aH (aH (aH (aH bH (dV (by decide))) (dV (by decide))) (aR rfl rfl)) (aR rfl rfl)) (aR rfl rfl)) (aR rfl rfl)))
end Go.Proofs.YtelbollidfdcjaaGreat
namespace Go.Proofs.YtelbollidfdcjaaGreat
open Go Go.T
section
variable {fl : List bz} {a : List Int} {n k : Nat} {c : Int} {w : Way}
abbrev WQ : Type := List (Int × List Way)
def nu (q : WQ) (c : Int) : List Way := (ej q c).getD []
def EK (q : WQ) (c : Int) (w : Way) : WQ := gX q c (nu q c ++ [w])
theorem Ac (q : WQ) (c c' : Int) (w : Way) : nu (EK q c w) c' = nu q c' ++ (if c = c' then [w] else []) := by
 unfold EK
 show (ej (gX _ _ _) c').getD [] = _
 rw [xw]
 by_cases e : c = c'
 ·subst e; rw [if_pos rfl, if_pos rfl]; rfl
 rw [if_neg e, if_neg e, List.append_nil]; rfl
def mO (fl : List bz) (a : List Int) (q : WQ) (k : Nat) : WQ := if nth a k < (nth fl k).hi then EK q (nth fl k).src ⟨k, true⟩ else q
def eS (fl : List bz) (a : List Int) : Nat → WQ
  | 0 => []
  | k + 1 => if nth a k > (nth fl k).lo then EK (mO fl a (eS fl a k) k) (nth fl k).dst ⟨k, false⟩ else mO fl a (eS fl a k) k
theorem D2 (fl : List bz) (a : List Int) : ([] : WQ) = eS fl a 0 := rfl
theorem Hj {q : WQ} (h : ¬ nth a k < (nth fl k).hi) : q = mO fl a q k := (if_neg h).symm
theorem FT (h : ¬ nth a k > (nth fl k).lo) : mO fl a (eS fl a k) k = eS fl a (k + 1) := (if_neg h).symm
theorem sj {q : WQ} : nu (mO fl a q k) c = nu q c ++ (if nth a k < (nth fl k).hi ∧ (nth fl k).src = c then [⟨k, true⟩] else []) := by
 unfold mO
 by_cases h : nth a k < (nth fl k).hi
 ·rw [if_pos h, Ac]
  by_cases e : (nth fl k).src = c
  ·rw [if_pos e, if_pos ⟨h, e⟩]
  rw [if_neg e, if_neg fun h => e h.2]
 rw [if_neg h, if_neg fun h' => h h'.1, List.append_nil]
theorem sn : ∀ k, nu (eS fl a k) c = (List.range k).flatMap (zu fl a c)
  | 0 => rfl
  | k + 1 => by
    rw [List.range_succ, List.flatMap_append, List.flatMap_singleton, ← sn k]
    show nu (if _ then _ else _) c = _
    unfold zu
    by_cases h : nth a k > (nth fl k).lo
    · rw [if_pos h, Ac, sj, List.append_assoc]
      congr 2
      by_cases e : (nth fl k).dst = c
      · rw [if_pos e, if_pos ⟨h, e⟩]
      · rw [if_neg e, if_neg fun h => e h.2]
    · rw [if_neg h, sj, if_neg (c := _ ∧ (nth fl k).dst = c) (fun h' => h h'.1), List.append_nil]
theorem rX : nu (eS fl a fl.length) c = bQ fl a c := sn _
theorem xL (k : Nat) : (nu (eS fl a k) c).length ≤ 2 * k := by
  rw [sn]
  have key : ∀ n, ((List.range n).flatMap (zu fl a c)).length ≤ 2 * n := by
    intro n
    induction n with
    | zero => simp
    | succ n ih => rw [List.range_succ, List.flatMap_append, List.length_append, List.flatMap_singleton]; have := AJ (fl := fl) (a := a) (c := c) n; omega
  exact key k
theorem Eu : (nu (mO fl a (eS fl a k) k) c).length ≤ 2 * k + 1 := by
 rw [sj, List.length_append]
 have := xL (fl := fl) (a := a) (c := c) k
 split <;> simp <;> omega
def oK (fl : List bz) (a : List Int) (k : Nat) (c : Int) : Int := c9 (fun i => (ind ((nth fl i).dst = c) - ind ((nth fl i).src = c)) * nth a i) k
def ep (fl : List bz) (a : List Int) (n k : Nat) : List Int := (List.range n).map fun c => oK fl a k (c : Nat)
theorem jv : (ep fl a n k).length = n := by unfold ep; rw [List.length_map, List.length_range]
theorem ij {c : Nat} (h : c < n) : nth (ep fl a n k) c = oK fl a k c := jq _ h
theorem B0 : ep fl a n fl.length = gR fl a n := rfl
theorem BX {l l' : List Int} (h : l.length = l'.length) (h' : ∀ i, i < l.length → nth l i = nth l' i) : l = l' := by
 refine List.ext_getElem h fun i h1 h2 => ?_
 have := h' i h1
 unfold nth at this
 rw [List.getD_eq_getElem?_getD, List.getD_eq_getElem?_getD, List.getElem?_eq_getElem h1, List.getElem?_eq_getElem h2] at this
 exact this
def ni (fl : List bz) (a : List Int) (l : List Int) (k : Nat) : List Int := l.set (nth fl k).src.toNat (nth l (nth fl k).src.toNat - nth a k)
theorem Aw (hs : 0 ≤ (nth fl k).src ∧ (nth fl k).src < n) (hd : 0 ≤ (nth fl k).dst ∧ (nth fl k).dst < n) :
 (ni fl a (ep fl a n k) k).set (nth fl k).dst.toNat (nth (ni fl a (ep fl a n k) k) (nth fl k).dst.toNat + nth a k) = ep fl a n (k + 1) := by
 have hS : ∀ c, c < n → nth (ni fl a (ep fl a n k) k) c = oK fl a k c - ind ((nth fl k).src = (c : Int)) * nth a k := fun c hc => by
  unfold ni
  rw [j3 (by rw [jv]; exact hc)]
  by_cases e : (nth fl k).src.toNat = c
  ·rw [if_pos e, e, ij hc, fo (by omega), Int.one_mul]
  rw [if_neg e, ij hc, fI (by omega), Int.zero_mul, Int.sub_zero]
 have hl : (ni fl a (ep fl a n k) k).length = n := by unfold ni; rw [List.length_set, jv]
 refine BX (by rw [List.length_set, hl, jv]) fun c hc => ?_
 rw [List.length_set, hl] at hc
 rw [j3 (by rw [hl]; exact hc), ij hc]
 show _ = oK fl a k c + (ind ((nth fl k).dst = (c : Int)) - ind ((nth fl k).src = (c : Int))) * nth a k
 rw [Int.sub_mul]
 by_cases e : (nth fl k).dst.toNat = c
 ·rw [if_pos e, e, hS c hc, fo (p := (nth fl k).dst = (c : Int)) (by omega), Int.one_mul]; omega
 rw [if_neg e, hS c hc, fI (p := (nth fl k).dst = (c : Int)) (by omega), Int.zero_mul]; omega
theorem D8 (fl : List bz) (a l : List Int) (k : Nat) : (ni fl a l k).length = l.length := List.length_set
theorem EG (fl : List bz) (a : List Int) (n : Nat) : List.replicate (((n : Nat) : Int)).toNat 0 = ep fl a n 0 := by
 rw [Int.toNat_natCast]
 refine BX (by rw [List.length_replicate, jv]) fun i hi => ?_
 rw [List.length_replicate] at hi
 rw [ij hi, zE _ _ _ hi]; rfl
theorem D7 {c : Nat} (h : ∀ c : Int, -(300 * (k : Int)) ≤ oK fl a k c ∧ oK fl a k c ≤ 300 * k) (ha : 0 ≤ nth a k ∧ nth a k ≤ 300) (hc : c < n) (hs : (nth fl k).src.toNat < n) : -(300 * (k : Int) + 300) ≤ nth (ni fl a (ep fl a n k) k) c ∧ nth (ni fl a (ep fl a n k) k) c ≤ 300 * k := by
 unfold ni
 rw [j3 (by rw [jv]; exact hc)]
 split
 ·rw [ij hs]; have := h ((nth fl k).src.toNat : Nat); omega
 rw [ij hc]; have := h (c : Nat); omega
theorem yA (ha : ∀ i, i < k → 0 ≤ nth a i ∧ nth a i ≤ 300) : -(300 * (k : Int)) ≤ oK fl a k c ∧ oK fl a k c ≤ 300 * k := by
 refine q4 (b := 300) fun i hi => ?_
 have := ha i hi
 unfold ind
 split <;> split <;> simp <;> omega
end
end Go.Proofs.YtelbollidfdcjaaGreat
namespace Go.Proofs.YtelbollidfdcjaaGreat
open Go Go.T
set_option maxHeartbeats 8000000
section
variable {fl : List bz} {a : List Int} {n : Nat} {w : Way}
theorem I2 (h : w.more = true) : (nth fl w.ix).src = w.gi fl := (if_pos h).symm
theorem Kk (h : w.more = false) : (nth fl w.ix).dst = w.gi fl := (if_neg (by rw [h]; decide)).symm
theorem Dd (h : w.more = true) : (nth fl w.ix).dst = w.fin fl ∧ (nth fl w.ix).hi - nth a w.ix = w.room fl a := ⟨(if_pos h).symm, (if_pos h).symm⟩
theorem GP (h : w.more = false) : (nth fl w.ix).src = w.fin fl ∧ nth a w.ix - (nth fl w.ix).lo = w.room fl a := ⟨(if_neg (by rw [h]; decide)).symm, (if_neg (by rw [h]; decide)).symm⟩
structure lO (y : aq) (fl : List bz) (a : List Int) : Prop where
  right : y.cx
  net : Net fl (y.cells + 1)
  bd : Bd fl
  inb : w7 fl a
  nx : fl.length ≤ 34
theorem lO.KP {y : aq} (h : lO y fl a) {i : Nat} (hi : i < fl.length) : (0 ≤ nth a i ∧ nth a i ≤ 300) ∧ (0 ≤ (nth fl i).lo ∧ (nth fl i).lo ≤ 300) ∧ 0 ≤ (nth fl i).hi ∧ (nth fl i).hi ≤ 300 := by
 have h1 := h.bd i hi
 have h2 := h.inb.2 i hi
 omega
theorem Lh {l : List Way} {k : Nat} {d : Int} (hk : k < l.length) (hm : (nth l k).more = true) : (eA a (l.take k) d).set (nth l k).ix (nth (eA a (l.take k) d) (nth l k).ix + d) = eA a (l.take (k + 1)) d := by
 rw [eB hk, qI]; unfold kU wZ; rw [hm]; rfl
theorem Ld {l : List Way} {k : Nat} {d : Int} (hk : k < l.length) (hm : (nth l k).more = false) : (eA a (l.take k) d).set (nth l k).ix (nth (eA a (l.take k) d) (nth l k).ix - d) = eA a (l.take (k + 1)) d := by
 rw [eB hk, qI]; unfold kU wZ; rw [hm]; rfl
theorem yQ {l : List Way} {d : Int} (hd : 0 ≤ d ∧ d ≤ 20000) (ha : ∀ i, -300 ≤ nth a i ∧ nth a i ≤ 300) (hw : ∀ w ∈ l, w.ix < a.length) : ∀ k, k ≤ l.length → ∀ i, -(20000 * ((k : Int) + 1)) ≤ nth (eA a (l.take k) d) i ∧ nth (eA a (l.take k) d) i ≤ 20000 * ((k : Int) + 1)
  | 0, _, i => by rw [List.take_zero]; have := ha i; show _ ≤ nth a i ∧ nth a i ≤ _; omega
  | k + 1, hk, i => by
    have ih := yQ hd ha hw k (by omega) i
    rw [eB (by omega), qI, ju (by rw [sU]; exact hw _ (dA (by omega)))]
    split
    · unfold wZ; split <;> omega
    · omega
theorem CV (a : List Int) (l : List Way) (d : Int) : a = eA a (l.take 0) d := rfl
theorem Io {l : List Int} {i : Nat} (h : l.length ≤ i) : nth l i = 0 := by
 unfold nth; rw [List.getD_eq_getElem?_getD, List.getElem?_eq_none h]; rfl
theorem lO.abs {y : aq} (h : lO y fl a) (i : Nat) : -300 ≤ nth a i ∧ nth a i ≤ 300 := by
 by_cases c : i < fl.length
 ·have := (h.KP c).1; omega
 rw [Io (by rw [h.inb.1]; omega)]; omega
end
theorem nC : mapOf Tryz.prog 227 = some (3, 222) := by kernel_rfl
theorem uQ : zeroOf Tryz.prog 222 = some (.slice none 0 0) := by kernel_rfl
def KI : wv Tryz.prog 3 Int := KF Tryz.prog 3 .i64 Tryz.underlying3
theorem uH (n : Int) : tV (Ty.int .i64 n) (KI.enc n) := Hr
attribute [local irreducible] aS gY Way.gi Way.fin Way.room eS mO EK eA ep oK
attribute [local irreducible] iP fT nJ qo jJ jK jE jM jG qi jI qn eG gx qg gm qj nth fM dm aj dz bodyPost Exit.then Exit.inBlock Code.wp Code.wpIn qm jL ql qd jH eJ cV cm bodyPostM eN
set_option maxRecDepth 100000 in
theorem zR (y : aq) (fl : List bz) (a : List Int) (w : Way) (hw : w.ix < fl.length) : dz Tryz.prog 181 [Ty.pp (lV y fl a), Ty.agg (fY.tys w)] (Ty.int .i64 (w.gi fl)) := by
 refine bB Tryz.func181 rfl (by decide) Tryz.ntmps181 (by exact Nat.le_of_ble_eq_true rfl) fun w0 M0 => ?_
 refine aE (aA (bN rfl (cE rfl (aD (aC (aE (aE (aA ?_))))))))
 refine aQ rfl rfl rfl rfl rfl (by decide) ?_
 refine aN rfl rfl rfl rfl (aD (aC ?_))
 refine cr rfl (fun hc1 => ?_) (fun hc1 => ?_)
 ·
  refine aE (cQ mixed rfl (jZ rfl (bu rfl ?_)))
  refine aQ rfl rfl rfl rfl rfl (by decide) ?_
  refine aN rfl rfl rfl rfl ?_
  refine aQ rfl rfl rfl rfl rfl (by decide) ?_
  refine aN rfl rfl rfl rfl ?_
  refine bK rfl rfl rfl rfl rfl rfl (by omega) ?_
  refine aQ rfl rfl rfl rfl rfl (by decide) ?_
  refine aN rfl rfl rfl rfl (cE rfl (aD ?_))
  refine ⟨by kernel_rfl, ?_⟩
  refine aC (az (aV (bq rfl rfl ?_)))
  all_goals skip
  all_goals exact bE rfl rfl (congrArg (Ty.int .i64) (I2 hc1))
 refine ak (aC (aE (cQ mixed rfl (jZ rfl (bu rfl ?_)))))
 refine aQ rfl rfl rfl rfl rfl (by decide) ?_
 refine aN rfl rfl rfl rfl ?_
 refine aQ rfl rfl rfl rfl rfl (by decide) ?_
 refine aN rfl rfl rfl rfl ?_
 refine bK rfl rfl rfl rfl rfl rfl (by omega) ?_
 refine aQ rfl rfl rfl rfl rfl (by decide) ?_
 refine aN rfl rfl rfl rfl (cE rfl (aD ?_))
 refine ⟨by kernel_rfl, ?_⟩
 refine aC (az (bq rfl rfl ?_))
 all_goals skip
 all_goals exact bE rfl rfl (congrArg (Ty.int .i64) (Kk hc1))
set_option maxRecDepth 100000 in
theorem Cx (y : aq) (fl : List bz) (a : List Int) (h : lO y fl a) (w : Way) (hw : w.ix < fl.length) : dz Tryz.prog 182 [Ty.pp (lV y fl a), Ty.agg (fY.tys w)] (Ty.jR [Ty.int .i64 (w.fin fl), Ty.int .i64 (w.room fl a)]) := by
 refine bB Tryz.func182 rfl (by decide) Tryz.ntmps182 (by exact Nat.le_of_ble_eq_true rfl) fun w0 M0 => ?_
 have hl := h.inb.1
 have hb := h.KP hw
 refine aE (aA (bN rfl (cE rfl (cE rfl (aD (aC (aE (cQ mixed rfl (jZ rfl ?_)))))))))
 refine bu rfl ?_
 refine aQ rfl rfl rfl rfl rfl (by decide) ?_
 refine aN rfl rfl rfl rfl ?_
 refine aQ rfl rfl rfl rfl rfl (by decide) ?_
 refine aN rfl rfl rfl rfl ?_
 refine bK rfl rfl rfl rfl rfl rfl (by omega) ?_
 refine aZ rfl rfl rfl (by exact Nat.le_of_ble_eq_true rfl) ?_
 refine bw rfl (by exact List.cons_ne_nil _ _) rfl ?_
 refine bk rfl rfl (by decide) rfl rfl rfl rfl rfl rfl ?_
 refine aD ?_
 refine ⟨by kernel_rfl, ?_⟩
 refine aC (aE (aE (aA ?_)))
 refine aQ rfl rfl rfl rfl rfl (by decide) ?_
 refine aN rfl rfl rfl rfl (aD (aC ?_))
 refine cr rfl (fun hc1 => ?_) (fun hc1 => ?_)
 ·
  refine aE (cQ mixed rfl ?_)
  refine aO rfl rfl rfl rfl rfl (by decide) ?_
  refine aU rfl rfl (by decide) rfl rfl rfl ?_
  refine aO rfl rfl rfl rfl rfl (by decide) ?_
  refine aU rfl rfl (by decide) rfl rfl rfl ?_
  refine jZ rfl (bu rfl ?_)
  refine aQ rfl rfl rfl rfl rfl (by decide) ?_
  refine aN rfl rfl rfl rfl ?_
  refine aQ rfl rfl rfl rfl rfl (by decide) ?_
  refine aN rfl rfl rfl rfl ?_
  refine bK rfl rfl rfl rfl rfl rfl (by omega) ?_
  refine aN rfl rfl rfl rfl ?_
  refine gz rfl rfl (by omega) (by omega) ?_
  refine cE rfl (cE rfl (aD ?_))
  refine ⟨by kernel_rfl, ?_⟩
  refine aC (az (aV ?_))
  refine fU rfl rfl rfl ?_ ?_
  all_goals skip
  all_goals first | exact bE rfl rfl (congrArg (Ty.int .i64) (Dd (a := a) hc1).1) | exact bE rfl rfl (congrArg (Ty.int .i64) (Dd (a := a) hc1).2)
 refine ak (aC (aE (cQ mixed rfl ?_)))
 refine aO rfl rfl rfl rfl rfl (by decide) ?_
 refine aU rfl rfl (by decide) rfl rfl rfl ?_
 refine jZ rfl (bu rfl ?_)
 refine aQ rfl rfl rfl rfl rfl (by decide) ?_
 refine aN rfl rfl rfl rfl ?_
 refine aQ rfl rfl rfl rfl rfl (by decide) ?_
 refine aN rfl rfl rfl rfl ?_
 refine bK rfl rfl rfl rfl rfl rfl (by omega) ?_
 refine aN rfl rfl rfl rfl ?_
 refine aO rfl rfl rfl rfl rfl (by decide) ?_
 refine aU rfl rfl (by decide) rfl rfl rfl ?_
 refine gz rfl rfl (by omega) (by omega) ?_
 refine cE rfl (cE rfl (aD ?_))
 refine ⟨by kernel_rfl, ?_⟩
 refine aC (az ?_)
 refine fU rfl rfl rfl ?_ ?_
 all_goals skip
 all_goals first | exact bE rfl rfl (congrArg (Ty.int .i64) (GP (a := a) hc1).1) | exact bE rfl rfl (congrArg (Ty.int .i64) (GP (a := a) hc1).2)
set_option maxRecDepth 100000 in
theorem FG (y : aq) (fl : List bz) (a : List Int) (h : lO y fl a) (l : List Way) (hl : l.length ≤ 100) (hw : ∀ w ∈ l, w.ix < fl.length) (d : Int) (hd : 0 ≤ d ∧ d ≤ 20000) : eJ Tryz.prog 183 [1000] [(1000, Cont.vec c7 3 a)] [Ty.pp (eE y fl 1000 fl.length), Ty.sl fY l, Ty.int .i64 d] [(1000, Cont.vec c7 3 (eA a l d))] (Ty.jR []) := by
 refine dN Tryz.func183 rfl (by decide) Tryz.ntmps183 (by exact Nat.le_of_ble_eq_true rfl) fun w0 M0 => ?_
 have hal := h.inb.1
 refine aE (aA (fK rfl (ct rfl rfl rfl (bR rfl (aD (aC (au ?_)))))))
 refine cZ (fun (k : {k : Nat // k ≤ l.length}) => live [(0, Ty.pp (eE y fl 1000 fl.length)), (2, Ty.int .i64 d), (8, Ty.sl fY l), (9, Ty.int .i64 l.length), (10, Ty.int .i64 (k.1 : Nat))] [(1000, Cont.vec c7 3 (eA a (l.take k.1) d))]) (fun k => l.length - k.1) (⟨0, by omega⟩) ?_ fun k => ?_
 ·(refine dG.mk' ?_ ?_ <;> (repeat' (first | exact aJ | exact aI | refine aB ?_ (Ty.aX _) | refine aB ?_ (Ty.aF _) | refine aG rfl ?_ ?_)))
  all_goals exact Cont.eY (CV _ _ _)
 have hsl := sU d (l.take k.1) a
 have hk := k.2
 have hsa := yQ hd h.abs (fun w hw' => by rw [hal]; exact hw w hw') k.1 k.2
 refine aE (aA (bC rfl rfl rfl (aD (aC (aE ?_)))))
 refine av rfl (fun hc1 => ?_) (fun hc1 => ?_)
 ·
  refine ak (aC (aE (au (aE ?_))))
  have hwk := hw _ (dA (xs := l) (k := k.1) (by omega))
  have hsk := hsa (nth l k.1).ix
  refine aA ?_
  refine bK rfl rfl rfl rfl rfl rfl (by omega) ?_
  refine aZ rfl rfl rfl (by exact Nat.le_of_ble_eq_true rfl) ?_
  refine bw rfl (by exact List.cons_ne_nil _ _) rfl ?_
  refine bk rfl rfl (by decide) rfl rfl rfl rfl rfl rfl ?_
  refine aD (aC (aE (aA ?_)))
  refine aO rfl rfl rfl rfl rfl (by decide) ?_
  refine aU rfl rfl (by decide) rfl rfl rfl ?_
  refine aD (aC ?_)
  refine cr rfl (fun hc2 => ?_) (fun hc2 => ?_)
  ·
   refine cQ mixed rfl (jZ rfl (bu rfl ?_))
   refine aQ rfl rfl rfl rfl rfl (by decide) ?_
   refine aN rfl rfl rfl rfl ?_
   refine aO rfl rfl rfl rfl rfl (by decide) ?_
   refine aU rfl rfl (by decide) rfl rfl rfl ?_
   refine eP rfl rfl rfl rfl rfl (by omega) ?_
   refine eo rfl rfl rfl (by decide) rfl rfl (by omega) rfl ?_
   refine bR rfl ?_
   refine cD rfl rfl (by omega) (by omega) ?_
   refine eP rfl rfl rfl rfl rfl (by omega) ?_
   refine jW rfl rfl rfl (by decide) rfl rfl (by exact (rfl : _ = Ty.int _ _)) rfl (by omega) (by decide) rfl rfl ?_
   refine aD ?_
   refine ⟨by kernel_rfl, ?_⟩
   refine bf (aC (aA ?_))
   refine cD rfl rfl (by omega) (by omega) ?_
   refine bR rfl (aD ?_)
   refine bp (⟨k.1 + 1, by omega⟩) ?_ (by show l.length - (k.1 + 1) < l.length - k.1; omega)
   (refine dG.mk' ?_ ?_ <;> (repeat' (first | exact aJ | exact aI | refine aB ?_ (Ty.aX _) | refine aB ?_ (Ty.aF _) | refine aG rfl ?_ ?_)))
   all_goals skip
   all_goals exact Cont.eY (Lh (by omega) hc2)
  refine cQ mixed rfl (jZ rfl (bu rfl ?_))
  refine aQ rfl rfl rfl rfl rfl (by decide) ?_
  refine aN rfl rfl rfl rfl ?_
  refine aO rfl rfl rfl rfl rfl (by decide) ?_
  refine aU rfl rfl (by decide) rfl rfl rfl ?_
  refine eP rfl rfl rfl rfl rfl (by omega) ?_
  refine eo rfl rfl rfl (by decide) rfl rfl (by omega) rfl ?_
  refine bR rfl ?_
  refine gz rfl rfl (by omega) (by omega) ?_
  refine eP rfl rfl rfl rfl rfl (by omega) ?_
  refine jW rfl rfl rfl (by decide) rfl rfl (by exact (rfl : _ = Ty.int _ _)) rfl (by omega) (by decide) rfl rfl ?_
  refine aD ?_
  refine ⟨by kernel_rfl, ?_⟩
  refine bf (aC (aA ?_))
  refine cD rfl rfl (by omega) (by omega) ?_
  refine bR rfl (aD ?_)
  refine bp (⟨k.1 + 1, by omega⟩) ?_ (by show l.length - (k.1 + 1) < l.length - k.1; omega)
  (refine dG.mk' ?_ ?_ <;> (repeat' (first | exact aJ | exact aI | refine aB ?_ (Ty.aX _) | refine aB ?_ (Ty.aF _) | refine aG rfl ?_ ?_)))
  all_goals skip
  all_goals exact Cont.eY (Ld (by omega) hc2)
 refine cg (aT (aT (bA rfl (Li ?_))))
 refine Ks [1000] rfl (by decide) ?_
 ·exact cw rfl (bV (by decide) (by rw [List.take_of_length_le (by have := k.2; omega)])) dn
set_option maxRecDepth 100000 in
theorem Kr (y : aq) (fl : List bz) (a : List Int) (h : lO y fl a) : eJ Tryz.prog 178 [1000] [(1000, Cont.vec c7 3 a)] [Ty.pp (eE y fl 1000 fl.length)] [(1000, Cont.vec c7 3 a)] (Ty.sl c7 (gR fl a (y.cells + 1))) := by
 refine dN Tryz.func178 rfl (by decide) Tryz.ntmps178 (by exact Nat.le_of_ble_eq_true rfl) fun w0 M0 => ?_
 have hal := h.inb.1
 have hcl := mS h.right
 have hfl := h.nx
 refine aE (aA (l9 rfl (aD (aC (aE (aA (jZ rfl ?_)))))))
 refine dU [] (rY y h.right) rfl (aM (mq (l1 := bO y) (l2 := [Ty.sl dw fl, Ty.vs 1000 fl.length]) rfl rfl) bY) (by exact dH _ _) ?_
 refine cD rfl rfl (by omega) (by omega) ?_
 refine yt (E := c7) (x0 := 0) rfl rfl rfl rfl rfl rfl rfl (by decide) rfl (by omega) (by (dsimp only; omega)) (by omega) ?_
 refine MR rfl (aD (aC (aE (aE (aA (jZ rfl (bu rfl ?_)))))))
 refine aQ rfl rfl rfl rfl rfl (by decide) ?_
 refine aN rfl rfl rfl rfl (ct rfl rfl rfl (bR rfl (aD (aC (au ?_)))))
 refine cZ (fun (k : {k : Nat // k ≤ fl.length}) => live [(0, Ty.pp (eE y fl 1000 fl.length)), (3, Ty.vs 10 (y.cells + 1)), (13, Ty.sl dw fl), (14, Ty.int .i64 fl.length), (15, Ty.int .i64 (k.1 : Nat))] [(1000, Cont.vec c7 3 a), (10, Cont.vec c7 3 (ep fl a (y.cells + 1) k.1))]) (fun k => fl.length - k.1) (⟨0, by omega⟩) ?_ fun k => ?_
 ·(refine dG.mk' ?_ ?_ <;> (repeat' (first | exact aJ | exact aI | refine aB ?_ (Ty.aX _) | refine aB ?_ (Ty.aF _) | refine aG rfl (Cont.aF _) ?_ | refine aG rfl ?_ ?_)))
  all_goals exact Cont.eY (EG _ _ _)
 have hk := k.2
 have hul := jv (fl := fl) (a := a) (n := y.cells + 1) (k := k.1)
 refine aE (aA (bC rfl rfl rfl (aD (aC (aE ?_)))))
 refine av rfl (fun hc1 => ?_) (fun hc1 => ?_)
 ·
  refine ak (aC (aE (au (aE (aA (bR rfl ?_))))))
  refine bK rfl rfl rfl rfl rfl rfl (by omega) ?_
  refine aZ rfl rfl rfl (by exact Nat.le_of_ble_eq_true rfl) ?_
  refine bw rfl (by exact List.cons_ne_nil _ _) rfl ?_
  refine cE rfl ?_
  refine bk rfl rfl (by decide) rfl rfl rfl rfl rfl rfl ?_
  refine aD (aC (aE ?_))
  have hs := h.net.src k.1 (by omega)
  have hd := h.net.dst k.1 (by omega)
  have hamt := (h.KP (show k.1 < fl.length by omega)).1
  have habs := fun c => yA (fl := fl) (a := a) (c := c) (k := k.1) fun i hi => (h.KP (show i < fl.length by omega)).1
  have hn1 := ij (fl := fl) (a := a) (n := y.cells + 1) (k := k.1) (c := (nth fl k.1).src.toNat) (by omega)
  have hb1 := habs ((nth fl k.1).src.toNat : Nat)
  refine cQ mixed rfl (Hq rfl ?_)
  refine aO rfl rfl rfl rfl rfl (by decide) ?_
  refine aU rfl rfl (by decide) rfl rfl rfl ?_
  refine gV rfl rfl rfl rfl rfl hs.1 (by omega) ?_
  refine eo rfl rfl rfl (by decide) rfl rfl (by omega) rfl ?_
  refine jZ rfl (bu rfl ?_)
  refine aQ rfl rfl rfl rfl rfl (by decide) ?_
  refine aN rfl rfl rfl rfl (bR rfl ?_)
  refine eP rfl rfl rfl rfl rfl (by omega) ?_
  refine eo rfl rfl rfl (by decide) rfl rfl (by omega) rfl ?_
  refine gz rfl rfl (by omega) (by omega) ?_
  refine gV rfl rfl rfl rfl rfl hs.1 (by omega) ?_
  refine jW rfl rfl rfl (by decide) rfl rfl (by exact (rfl : _ = Ty.int _ _)) rfl (by omega) (by decide) rfl rfl ?_
  refine aD ?_
  refine ⟨by kernel_rfl, ?_⟩
  refine aC ?_
  have hsl : (ni fl a (ep fl a (y.cells + 1) k.1) k.1).length = y.cells + 1 := (D8 _ _ _ _).trans hul
  have hb2 := D7 (fl := fl) (a := a) (n := y.cells + 1) (k := k.1) (c := (nth fl k.1).dst.toNat) habs hamt (by omega) (by omega)
  unfold ni at hb2 hsl
  refine cQ mixed rfl (Hq rfl ?_)
  refine aO rfl rfl rfl rfl rfl (by decide) ?_
  refine aU rfl rfl (by decide) rfl rfl rfl ?_
  refine gV rfl rfl rfl rfl rfl hd.1 (by omega) ?_
  refine eo rfl rfl rfl (by decide) rfl rfl (by omega) rfl ?_
  refine jZ rfl (bu rfl ?_)
  refine aQ rfl rfl rfl rfl rfl (by decide) ?_
  refine aN rfl rfl rfl rfl (bR rfl ?_)
  refine eP rfl rfl rfl rfl rfl (by omega) ?_
  refine eo rfl rfl rfl (by decide) rfl rfl (by omega) rfl ?_
  refine cD rfl rfl (by omega) (by omega) ?_
  refine gV rfl rfl rfl rfl rfl hd.1 (by omega) ?_
  refine jW rfl rfl rfl (by decide) rfl rfl (by exact (rfl : _ = Ty.int _ _)) rfl (by omega) (by decide) rfl rfl ?_
  refine aD ?_
  refine ⟨by kernel_rfl, ?_⟩
  refine bf (aC (aA ?_))
  refine cD rfl rfl (by omega) (by omega) ?_
  refine bR rfl (aD ?_)
  refine bp (⟨k.1 + 1, by omega⟩) ?_ (by show fl.length - (k.1 + 1) < fl.length - k.1; omega)
  (refine dG.mk' ?_ ?_ <;> (repeat' (first | exact aJ | exact aI | refine aB ?_ (Ty.aX _) | refine aB ?_ (Ty.aF _) | refine aG rfl (Cont.aF _) ?_ | refine aG rfl ?_ ?_)))
  all_goals skip
  all_goals exact Cont.eY (Aw hs hd)
 refine cg (aT (aT (bA rfl (aC (aE ?_)))))
 refine lR (tg := 10) [(3, Ty.sl c7 (ep fl a (y.cells + 1) k.1))] (by decide) rfl ⟨KJ rfl rfl hul (by decide), trivial⟩ ?_
 refine fq (s := 3) rfl (Ty.iE (show ep fl a (y.cells + 1) k.1 = gR fl a (y.cells + 1) by rw [show k.1 = fl.length by have := k.2; omega]; exact B0)) ?_
 refine aA (fK rfl (wq rfl (aD (aC (az ?_)))))
 refine fN [1000] rfl rfl (by decide) (by repeat (first | exact dn | refine cw rfl (bV (by decide) rfl) ?_)) ?_
 all_goals exact eM (aR rfl rfl)
end Go.Proofs.YtelbollidfdcjaaGreat
namespace Go.Proofs.YtelbollidfdcjaaGreat
open Go Go.T
section
variable {fl : List bz} {a : List Int} {n : Nat} {s t : Int} {x : qF}
def eC (x : qF) : Int := nth x.queue 0
def jg (x : qF) : qF := ⟨x.by_, x.queue.drop 1⟩
theorem queue_eq (h : 0 < x.queue.length) : x.queue = eC x :: x.queue.drop 1 := by
  unfold eC
  cases hq : x.queue with
  | nil => rw [hq] at h; exact absurd h (by simp)
  | cons c r => rfl
structure Ii (fl : List bz) (a : List Int) (n : Nat) (s : Int) (x : qF) : Prop where
  inv : lM fl a n s x none
  same : mw (vH fl a s) x = cN fl a s
  short : x.queue.length ≤ x.by_.length + 1
theorem MQ (hs : 0 ≤ s ∧ s < n) : Ii fl a n s ⟨[], [s]⟩ := ⟨Jn hs, rfl, Nat.le_refl _⟩
theorem Ez (h : 0 < x.queue.length) : vH fl a s x = .inl (fB fl a s (eC x) (jg x) (bQ fl a (eC x)).length) := by
 have e := queue_eq h
 unfold vH
 rw [e]; rfl
theorem Ii.fold (hN : Net fl n) (h : Ii fl a n s x) (hq : 0 < x.queue.length) {k : Nat} (hk : k ≤ (bQ fl a (eC x)).length) :
 (fB fl a s (eC x) (jg x) k).queue.length ≤ n ∧ (fB fl a s (eC x) (jg x) k).by_.length ≤ n ∧ (fB fl a s (eC x) (jg x) k).queue.length ≤ (fB fl a s (eC x) (jg x) k).by_.length := by
 have h1 := (h.inv.pop (queue_eq hq)).fold hN k hk
 have h2 := h1.nx
 have h3 := vN (fl := fl) (a := a) (s := s) (c := eC x) (x := jg x) k hk
 have h4 := h.short
 have e1 : (jg x).queue.length + 1 = x.queue.length := by show (x.queue.drop 1).length + 1 = _; rw [List.length_drop]; omega
 have e2 : (jg x).by_ = x.by_ := rfl
 rw [e2] at h3
 change (fB fl a s (eC x) (jg x) k).by_.length ≤ n at h2
 omega
theorem Ii.next (hN : Net fl n) (h : Ii fl a n s x) (hq : 0 < x.queue.length) : Ii fl a n s (fB fl a s (eC x) (jg x) (bQ fl a (eC x)).length) ∧ KL n (fB fl a s (eC x) (jg x) (bQ fl a (eC x)).length) < KL n x := by
 obtain ⟨h1, h2⟩ := vO hN h.inv (queue_eq hq)
 exact ⟨⟨h1, by rw [← gr (Ez hq)]; exact h.same, by have := (h.fold hN hq (Nat.le_refl _)).2.2; omega⟩, h2⟩
theorem Ii.end (h : Ii fl a n s x) (hq : ¬ 0 < x.queue.length) : x.by_ = cN fl a s := by
 rw [← h.same]
 refine (iH ?_).symm
 unfold vH
 rw [List.length_eq_zero_iff.1 (show x.queue.length = 0 by omega)]
theorem x6 {c : Int} {z : qF} {k : Nat} (hk : k < (bQ fl a c).length) (h : uG fl s (fB fl a s c z k).by_ (nth (bQ fl a c) k) = true) :
 gX (fB fl a s c z k).by_ ((nth (bQ fl a c) k).fin fl) (nth (bQ fl a c) k) = (fB fl a s c z (k + 1)).by_ ∧ (fB fl a s c z k).queue ++ [(nth (bQ fl a c) k).fin fl] = (fB fl a s c z (k + 1)).queue := by
 rw [nI hk, tF h]; exact ⟨rfl, rfl⟩
theorem Ba {c : Int} {z : qF} {k : Nat} (hk : k < (bQ fl a c).length) (h : uG fl s (fB fl a s c z k).by_ (nth (bQ fl a c) k) = false) :
 (fB fl a s c z k).by_ = (fB fl a s c z (k + 1)).by_ ∧ (fB fl a s c z k).queue = (fB fl a s c z (k + 1)).queue := by
 rw [nI hk, ux h]; exact ⟨rfl, rfl⟩
theorem va {c : Int} {z : qF} : fB fl a s c z 0 = z := rfl
structure FD (fl : List bz) (n : Nat) (a0 a : List Int) : Prop where
  inb : w7 fl a
  same : mw (DU fl n) a = gH fl n a0
theorem FD.done {a0 : List Int} (h : FD fl n a0 a) (e : dc fl a n < 0) : gH fl n a0 = (0, false, a) := by
 rw [← h.same]; exact iH (if_pos e)
theorem FD.stuck {a0 : List Int} (h : FD fl n a0 a) (e : ¬ dc fl a n < 0) (e2 : eT fl a n (cN fl a (dc fl a n)) < 0) : gH fl n a0 = (dc fl a n, true, a) := by
 rw [← h.same]; exact iH ((if_neg e).trans (if_pos e2))
theorem FD.next {a0 : List Int} (hN : Net fl n) (h : FD fl n a0 a) (e : ¬ dc fl a n < 0) (e2 : ¬ eT fl a n (cN fl a (dc fl a n)) < 0) :
 FD fl n a0 (j4 fl a (dc fl a n) (eT fl a n (cN fl a (dc fl a n)))) ∧ LK fl a n (dc fl a n) (eT fl a n (cN fl a (dc fl a n))) := by
 obtain ⟨s, s1, s2, s3⟩ := vK e
 obtain ⟨t, t1, t2, t3, t4⟩ := s8 e2
 rw [s2] at t2 t3 ⊢
 rw [t2]
 have hS := sent hN h.inb s1 t1 s3 t3 t4
 refine ⟨⟨hS.inb, ?_⟩, hS⟩
 rw [← h.same]
 refine (gr ?_).symm
 unfold DU
 rw [if_neg e, s2, if_neg (by rw [t2]; omega), t2]
structure Ig (fl : List bz) (a : List Int) (q : List (Int × Way)) (s t : Int) (dep : Int → Nat) (x : Int × List Way) : Prop where
  inv : Gf fl a q s t dep x
  same : mw (Ci fl q s) x = gj fl q s t
theorem MV {dep : Int → Nat} {q : List (Int × Way)} (ht : wg q s t) : Ig fl a q s t dep (t, []) :=
 ⟨⟨rfl, (fun w h => by cases h), (fun w h => by cases h), List.nodup_nil, ht, by simp⟩, rfl⟩
theorem CQ {q : List (Int × Way)} {x : Int × List Way} (hx : x.1 = s) : Ci fl q s x = .inr x.2 := if_pos hx
theorem CY {q : List (Int × Way)} {x : Int × List Way} (hx : ¬ x.1 = s) : Ci fl q s x = .inl ((jd q x.1).gi fl, x.2 ++ [jd q x.1]) := if_neg hx
theorem Ig.next {dep : Int → Nat} {q : List (Int × Way)} (hd : ∀ c w, ej q c = some w → Open fl a w ∧ w.fin fl = c ∧ wg q s (w.gi fl) ∧ dep (w.gi fl) < dep c ∧ dep c ≤ q.length) {x : Int × List Way} (h : Ig fl a q s t dep x) (hx : ¬ x.1 = s) :
 Ig fl a q s t dep ((jd q x.1).gi fl, x.2 ++ [jd q x.1]) ∧ dep ((jd q x.1).gi fl) < dep x.1 ∧ Open fl a (jd q x.1) := by
 obtain ⟨h1, h2⟩ := h.inv.next hd hx
 refine ⟨⟨h1, ?_⟩, h2, h1.ways _ (List.mem_append.2 (.inr (List.mem_singleton.2 rfl)))⟩
 rw [← h.same]
 exact (gr (CY hx)).symm
theorem Ig.end {dep : Int → Nat} {q : List (Int × Way)} {x : Int × List Way} (h : Ig fl a q s t dep x) (hx : x.1 = s) : x.2 = gj fl q s t := by
 rw [← h.same]; exact (iH (CQ hx)).symm
theorem Ig.nx {dep : Int → Nat} {q : List (Int × Way)} {x : Int × List Way} (h : Ig fl a q s t dep x) : x.2.length ≤ dep t := by
 have := h.inv.nx; omega
end
end Go.Proofs.YtelbollidfdcjaaGreat
namespace Go.Proofs.YtelbollidfdcjaaGreat
open Go Go.T
set_option maxHeartbeats 8000000
def zl : VT Way := ⟨fun w => Ty.agg (fY.tys w), fun _ => ⟨rfl, rfl⟩⟩
theorem m9 : mapOf Tryz.prog 196 = some (3, 199) := by kernel_rfl
theorem rW : zeroOf Tryz.prog 199 = some (.agg #[.int .i64 0, .bool false]) := by kernel_rfl
theorem oH : ∀ w M, (zl.ty (default : Way)).den w M (.agg #[.int .i64 0, .bool false]) := fun _ _ => ⟨_, rfl, rfl, rfl, trivial⟩
theorem AI : ∀ w M, ((Fm fY).ty []).den w M (.slice none 0 0) := fun w M => Ty.vh w M _ rfl
section
variable {fl : List bz} {a : List Int} {s : Int} {q : List (Int × Way)} {w : Way}
theorem EO {q : WQ} {k : Nat} (h : nth a k < (nth fl k).hi) : gX q (nth fl k).src ((ej q (nth fl k).src).getD [] ++ [⟨k, true⟩]) = mO fl a q k := (if_pos h).symm
theorem EZ {k : Nat} (h : nth a k > (nth fl k).lo) : gX (mO fl a (eS fl a k) k) (nth fl k).dst ((ej (mO fl a (eS fl a k) k) (nth fl k).dst).getD [] ++ [⟨k, false⟩]) = eS fl a (k + 1) := (if_pos h).symm
theorem new_eq : (!(ej q (w.fin fl)).isSome && !decide (w.fin fl = s)) = uG fl s q w := rfl
end
theorem ID {α : Type} {E : El α} {T J : Nat} {l l' : List α} (e : l = l') : (Ty.iK E T J l).Sub (Ty.iK E T J l') := Ty.sub_eq (congrArg (Ty.iK E T J) e)
attribute [local irreducible] aS gY Way.gi Way.fin Way.room eS mO EK eA ep oK bQ fB cN uG eC
attribute [local irreducible] iP fT nJ qo jJ jK jE jM jG qi jI qn eG gx qg gm qj nth fM dm aj dz bodyPost Exit.then Exit.inBlock Code.wp Code.wpIn qm jL ql qd jH eJ cV cm bodyPostM eN
set_option maxRecDepth 100000 in
theorem HH (y : aq) (fl : List bz) (a : List Int) (h : lO y fl a) : eJ Tryz.prog 184 [1000] [(1000, Cont.vec c7 3 a)] [Ty.pp (eE y fl 1000 fl.length)] [(1000, Cont.vec c7 3 a)] (Ty.pm KI.enc (Fm fY) (eS fl a fl.length)) := by
 refine dN Tryz.func184 rfl (by decide) Tryz.ntmps184 (by exact Nat.le_of_ble_eq_true rfl) fun w0 M0 => ?_
 have hal := h.inb.1
 have hfl := h.nx
 refine aE (aA (l9 rfl (aD (aC (aE (aA (Bp KI.enc fY 199 6000 nC rfl (MB rfl (aD ?_)))))))))
 refine aC (aE (aE (aA (jZ rfl (bu rfl ?_)))))
 refine aQ rfl rfl rfl rfl rfl (by decide) ?_
 refine aN rfl rfl rfl rfl (ct rfl rfl rfl (bR rfl (aD (aC (au ?_)))))
 refine cZ (fun (k : {k : Nat // k ≤ fl.length}) => live [(0, Ty.pp (eE y fl 1000 fl.length)), (3, Ty.mp 7), (10, Ty.sl dw fl), (11, Ty.int .i64 fl.length), (12, Ty.int .i64 (k.1 : Nat))] [(1000, Cont.vec c7 3 a), (7, Cont.mr KI.enc fY 199 6000 (eS fl a k.1))]) (fun k => fl.length - k.1) (⟨0, by omega⟩) ?_ fun k => ?_
 ·(refine dG.mk' ?_ ?_ <;> (repeat' (first | exact aJ | exact aI | refine aB ?_ (Ty.aX _) | refine aB ?_ (Ty.aF _) | refine aG rfl (Cont.aF _) ?_ | refine aG rfl ?_ ?_)))
  all_goals exact Cont.s6 (D2 fl a)
 have hk := k.2
 refine aE (aA (bC rfl rfl rfl (aD (aC (aE ?_)))))
 refine av rfl (fun hc1 => ?_) (fun hc1 => ?_)
 ·
  refine ak (aC (aE (au (aE (aA (bR rfl ?_))))))
  refine bK rfl rfl rfl rfl rfl rfl (by omega) ?_
  refine aZ rfl rfl rfl (by exact Nat.le_of_ble_eq_true rfl) ?_
  refine bw rfl (by exact List.cons_ne_nil _ _) rfl ?_
  refine cE rfl ?_
  refine bk rfl rfl (by decide) rfl rfl rfl rfl rfl rfl ?_
  refine aD (aC ?_)
  refine lD (J := live [(0, Ty.pp (eE y fl 1000 fl.length)), (3, Ty.mp 7), (4, Ty.int .i64 (k.1 : Nat)), (5, Ty.ptr 6 0), (10, Ty.sl dw fl), (11, Ty.int .i64 fl.length), (12, Ty.int .i64 (k.1 : Nat))] [(1000, Cont.vec c7 3 a), (7, Cont.mr KI.enc fY 199 6000 (mO fl a (eS fl a k.1) k.1)), (6, Cont.cells 187 (dw.tys (nth fl k.1)))]) ?_ ?_
  ·
   refine aE (cQ mixed rfl (jZ rfl (bu rfl ?_)))
   refine aQ rfl rfl rfl rfl rfl (by decide) ?_
   refine aN rfl rfl rfl rfl (bR rfl ?_)
   refine eP rfl rfl rfl rfl rfl (by omega) ?_
   refine eo rfl rfl rfl (by decide) rfl rfl (by omega) rfl ?_
   refine aO rfl rfl rfl rfl rfl (by decide) ?_
   refine aU rfl rfl (by decide) rfl rfl rfl ?_
   refine bC rfl rfl rfl (aD ?_)
   refine ⟨by kernel_rfl, ?_⟩
   refine aC ?_
   refine av rfl (fun hc2 => ?_) (fun hc2 => ?_)
   ·
    have hq := fun c => xL (fl := fl) (a := a) (c := c) k.1
    have hq1 := hq (nth fl k.1).src
    refine cQ mixed rfl (Fj rfl ?_)
    refine aO rfl rfl rfl rfl rfl (by decide) ?_
    refine aU rfl rfl (by decide) rfl rfl rfl ?_
    refine Fj rfl ?_
    refine aO rfl rfl rfl rfl rfl (by decide) ?_
    refine aU rfl rfl (by decide) rfl rfl rfl ?_
    refine yM KI rfl rfl (by decide) rfl (uH _) nC uQ ?_
    refine bR rfl ?_
    refine c6 rfl rfl (by exact List.cons_ne_nil _ _) rfl (by repeat (first | exact (aW.nil : aW _ _ [] _) | (show aW _ _ ((_, _) :: _) _; apply aW.one; (· first | exact (rfl : _ = Ty.int _ _) | exact (rfl : _ = Ty.bool _)); (· exact rfl)))) (by exact (rfl : _ = some [_, _])) ?_
    refine bt (E := fY) (xs := [⟨k.1, true⟩]) rfl rfl rfl rfl rfl (by decide) (by decide) (by repeat (first | exact (aW.nil : aW _ _ [] _) | (show aW _ _ ((_, _) :: _) _; apply aW.agg; (· exact (rfl : _ = Ty.agg _))))) (by exact rfl) rfl ?_
    refine yJ rfl rfl rfl (by decide) (by decide) rfl (by show 0 < 1; decide) rfl rfl rfl rfl rfl (by decide) (by show (((ej _ _).getD []).length + 1) * 16 ≤ _; unfold nu at hq1; omega) (by show ((ej _ _).getD []).length + 1 ≤ _; unfold nu at hq1; omega) ?_
    refine w9 KI rfl rfl (by decide) rfl (uH _) rfl nC rfl ?_
    refine aD ?_
    refine ⟨by kernel_rfl, ?_⟩
    refine fO ?_
    (refine dG.mk' ?_ ?_ <;> (repeat' (first | exact aJ | exact aI | refine aB ?_ (Ty.aX _) | refine aB ?_ (Ty.aF _) | refine aG rfl (Cont.aF _) ?_ | refine aG rfl ?_ ?_)))
    all_goals exact Cont.s6 (EO hc2)
   refine ak (fO ?_)
   (refine dG.mk' ?_ ?_ <;> (repeat' (first | exact aJ | exact aI | refine aB ?_ (Ty.aX _) | refine aB ?_ (Ty.aF _) | refine aG rfl (Cont.aF _) ?_ | refine aG rfl ?_ ?_)))
   all_goals exact Cont.s6 (Hj hc2)
  refine aE (cQ mixed rfl (jZ rfl (bu rfl ?_)))
  refine aQ rfl rfl rfl rfl rfl (by decide) ?_
  refine aN rfl rfl rfl rfl (bR rfl ?_)
  refine eP rfl rfl rfl rfl rfl (by omega) ?_
  refine eo rfl rfl rfl (by decide) rfl rfl (by omega) rfl ?_
  refine aO rfl rfl rfl rfl rfl (by decide) ?_
  refine aU rfl rfl (by decide) rfl rfl rfl ?_
  refine bC rfl rfl rfl (aD ?_)
  refine ⟨by kernel_rfl, ?_⟩
  refine aC ?_
  refine av rfl (fun hc3 => ?_) (fun hc3 => ?_)
  ·
   have hq2 := Eu (fl := fl) (a := a) (c := (nth fl k.1).dst) (k := k.1)
   refine cQ mixed rfl (Fj rfl ?_)
   refine aO rfl rfl rfl rfl rfl (by decide) ?_
   refine aU rfl rfl (by decide) rfl rfl rfl ?_
   refine Fj rfl ?_
   refine aO rfl rfl rfl rfl rfl (by decide) ?_
   refine aU rfl rfl (by decide) rfl rfl rfl ?_
   refine yM KI rfl rfl (by decide) rfl (uH _) nC uQ ?_
   refine bR rfl ?_
   refine c6 rfl rfl (by exact List.cons_ne_nil _ _) rfl (by repeat (first | exact (aW.nil : aW _ _ [] _) | (show aW _ _ ((_, _) :: _) _; apply aW.one; (· first | exact (rfl : _ = Ty.int _ _) | exact (rfl : _ = Ty.bool _)); (· exact rfl)))) (by exact (rfl : _ = some [_, _])) ?_
   refine bt (E := fY) (xs := [⟨k.1, false⟩]) rfl rfl rfl rfl rfl (by decide) (by decide) (by repeat (first | exact (aW.nil : aW _ _ [] _) | (show aW _ _ ((_, _) :: _) _; apply aW.agg; (· exact (rfl : _ = Ty.agg _))))) (by exact rfl) rfl ?_
   refine yJ rfl rfl rfl (by decide) (by decide) rfl (by show 0 < 1; decide) rfl rfl rfl rfl rfl (by decide) (by show (((ej _ _).getD []).length + 1) * 16 ≤ _; unfold nu at hq2; omega) (by show ((ej _ _).getD []).length + 1 ≤ _; unfold nu at hq2; omega) ?_
   refine w9 KI rfl rfl (by decide) rfl (uH _) rfl nC rfl ?_
   refine aD ?_
   refine ⟨by kernel_rfl, ?_⟩
   refine bf (aC (aA ?_))
   refine cD rfl rfl (by omega) (by omega) ?_
   refine bR rfl (aD ?_)
   refine bp (⟨k.1 + 1, by omega⟩) ?_ (by show fl.length - (k.1 + 1) < fl.length - k.1; omega)
   (refine dG.mk' ?_ ?_ <;> (repeat' (first | exact aJ | exact aI | refine aB ?_ (Ty.aX _) | refine aB ?_ (Ty.aF _) | refine aG rfl (Cont.aF _) ?_ | refine aG rfl ?_ ?_)))
   all_goals skip
   all_goals exact Cont.s6 (EZ hc3)
  refine ak (bf (aC (aA ?_)))
  refine cD rfl rfl (by omega) (by omega) ?_
  refine bR rfl (aD ?_)
  refine bp (⟨k.1 + 1, by omega⟩) ?_ (by show fl.length - (k.1 + 1) < fl.length - k.1; omega)
  (refine dG.mk' ?_ ?_ <;> (repeat' (first | exact aJ | exact aI | refine aB ?_ (Ty.aX _) | refine aB ?_ (Ty.aF _) | refine aG rfl (Cont.aF _) ?_ | refine aG rfl ?_ ?_)))
  all_goals skip
  all_goals exact Cont.s6 (FT hc3)
 refine cg (aT (aT (bA rfl (aC (aE ?_)))))
 refine gI (tg := 7) rfl (Cont.s6 (show eS fl a k.1 = eS fl a fl.length by rw [show k.1 = fl.length by have := k.2; omega])) ?_
 refine ig (tg := 6000) [] [(7, Cont.mp KI.enc (Fm fY) (eS fl a fl.length))] (by decide) rfl trivial ⟨It rfl rfl, trivial⟩ ?_
 refine lR (tg := 7) [(3, Ty.pm KI.enc (Fm fY) (eS fl a fl.length))] (by decide) rfl ⟨Jt rfl rfl (by decide), trivial⟩ ?_
 refine aA (Jv rfl (Jq rfl (aD (aC (az ?_)))))
 refine fN [1000] rfl rfl (by decide) (by repeat (first | exact dn | refine cw rfl (bV (by decide) rfl) ?_)) ?_
 all_goals exact eM (aR rfl rfl)
set_option maxRecDepth 100000 in
theorem IW (y : aq) (fl : List bz) (a : List Int) (h : lO y fl a) (s : Int) (hs : 0 ≤ s ∧ s < (y.cells + 1 : Nat)) : eJ Tryz.prog 130 [1000] [(1000, Cont.vec c7 3 a)] [Ty.pp (eE y fl 1000 fl.length), Ty.int .i64 s] [(1000, Cont.vec c7 3 a), (16, Cont.mp KI.enc zl (cN fl a s))] (Ty.mp 16) := by
 refine dN Tryz.func130 rfl (by decide) Tryz.ntmps130 (by exact Nat.le_of_ble_eq_true rfl) fun w0 M0 => ?_
 have hal := h.inb.1
 have hN := h.net
 have hcl := mS h.right
 refine aE (aA (l9 rfl (aD (aC (aE (aA (EL KI.enc zl m9 rfl (MB rfl (aD ?_)))))))))
 refine aC (aE (aA (jZ rfl ?_)))
 refine b9 [(1000, 1000)] [] [(1000, Cont.vec c7 3 a)] (HH y fl a h) rfl rfl (aH bH (fA (aH (aH (aH (aH (aH (aH bH (dV (by exact List.mem_cons_self))) (aR rfl rfl)) (aR rfl rfl)) (aR rfl rfl)) (aR rfl rfl)) (aR rfl rfl)))) (cC (a := 1000) (b := 1000) (by exact List.mem_cons_self) rfl (bV (by exact List.mem_cons_self) rfl) pre_nil) (bI (a := 1000) (b := 1000) (by exact List.mem_cons_self) rfl (bV (by exact List.mem_cons_self) rfl) post_nil) (aR rfl rfl) ?_
 refine Jq rfl (aD (aC (aE (aA (bR rfl ?_)))))
 refine zq (E := c7) (xs := [s]) rfl rfl rfl rfl rfl (by decide) (by decide) (by repeat (first | exact (aW.nil : aW _ _ [] _) | (show aW _ _ ((_, _) :: _) _; apply aW.one; (· exact (rfl : _ = Ty.int _ _)); (· exact rfl)))) (by exact rfl) rfl rfl ?_
 refine Ew rfl (aD (aC (aE ?_)))
 refine Km (s := 7) (J := 4100) (tg := 20) rfl rfl (by decide) (by decide) rfl ?_
 refine au ?_
 refine cZ (fun (x : {x : qF // Ii fl a (y.cells + 1) s x}) => live [(0, Ty.pp (eE y fl 1000 fl.length)), (1, Ty.int .i64 s), (5, Ty.mp 16), (6, Ty.pm KI.enc (Fm fY) (eS fl a fl.length)), (7, Ty.iK c7 3 4100 x.1.queue)] [(1000, Cont.vec c7 3 a), (16, Cont.mp KI.enc zl x.1.by_)]) (fun x => KL (y.cells + 1) x.1) (⟨⟨[], [s]⟩, MQ hs⟩) ?_ fun x => ?_
 ·(refine dG.mk' ?_ ?_ <;> (repeat' (first | exact aJ | exact aI | refine aB ?_ (Ty.aX _) | refine aB ?_ (Ty.aF _) | refine aG rfl (Cont.aF _) ?_)))
 refine aE (aE (aA ?_))
 refine eD (rfl : _ = Ty.iK _ _ _ _) ?_
 refine KD rfl rfl rfl (bC rfl rfl rfl (aD (aC ?_)))
 refine av rfl (fun hc1 => ?_) (fun hc1 => ?_)
 ·
  refine ak (aC (au (aE ?_)))
  have hlen : 0 < x.1.queue.length := by omega
  refine aA ?_
  refine eD (rfl : _ = Ty.iK _ _ _ _) ?_
  refine F6 (i := 0) rfl rfl rfl rfl rfl rfl hlen ?_
  refine yT rfl rfl rfl rfl (cE rfl (aD (aC (aE (aA ?_)))))
  refine eD (rfl : _ = Ty.iK _ _ _ _) ?_
  refine Jz (lo := 1) rfl rfl rfl rfl rfl rfl hlen hlen ?_
  refine fQ (rfl : _ = Ty.iK _ _ _ _) ?_
  refine aD (aC (aE ?_))
  refine fq (s := 8) rfl (Ty.af (show nth x.1.queue 0 = eC x.1 by unfold eC; rfl)) ?_
  refine aA (Jv rfl (bR rfl ?_))
  refine xT KI (z0 := []) rfl rfl (uH _) nC uQ AI ?_
  refine ct (E := fY) (xs := nu (eS fl a fl.length) (eC x.1)) rfl rfl rfl ?_
  refine bR rfl (aD (aC ?_))
  refine fq (s := 30) rfl (show (Ty.sl fY (nu (eS fl a fl.length) (eC x.1))).Sub (Ty.sl fY (bQ fl a (eC x.1))) from Ty.iE rX) ?_
  refine fq (s := 31) rfl (Ty.af (congrArg (fun l : List Way => ((l.length : Nat) : Int)) (rX (c := eC x.1)))) ?_
  refine au ?_
  refine cZ (fun (j : {j : Nat // j ≤ (bQ fl a (eC x.1)).length}) => live [(0, Ty.pp (eE y fl 1000 fl.length)), (1, Ty.int .i64 s), (5, Ty.mp 16), (6, Ty.pm KI.enc (Fm fY) (eS fl a fl.length)), (7, Ty.iK c7 3 4100 (fB fl a s (eC x.1) (jg x.1) j.1).queue), (8, Ty.int .i64 (eC x.1)), (30, Ty.sl fY (bQ fl a (eC x.1))), (31, Ty.int .i64 (bQ fl a (eC x.1)).length), (32, Ty.int .i64 (j.1 : Nat))] [(1000, Cont.vec c7 3 a), (16, Cont.mp KI.enc zl (fB fl a s (eC x.1) (jg x.1) j.1).by_)]) (fun j => (bQ fl a (eC x.1)).length - j.1) (⟨0, by omega⟩) ?_ fun j => ?_
  ·(refine dG.mk' ?_ ?_ <;> (repeat' (first | exact aJ | exact aI | refine aB ?_ (Ty.aX _) | refine aB ?_ (Ty.aF _) | refine aG rfl (Cont.aF _) ?_ | refine aG rfl ?_ ?_ | refine aB ?_ ?_)))
   all_goals first | exact ID (congrArg qF.queue (va (fl := fl) (a := a) (s := s) (c := eC x.1) (z := jg x.1)).symm) | exact Cont.vS (show x.1.by_ = (fB fl a s (eC x.1) (jg x.1) 0).by_ by rw [va]; rfl)
  have hj := j.2
  have hwl := oL (fl := fl) (a := a) (c := eC x.1)
  have hfl := h.nx
  have hff := x.2.fold hN hlen hj
  refine aE (aA (bC rfl rfl rfl (aD (aC (aE ?_)))))
  refine av rfl (fun hc2 => ?_) (fun hc2 => ?_)
  ·
   refine ak (aC (aE (au (aE (aA ?_)))))
   refine bK rfl rfl rfl rfl rfl rfl (by omega) ?_
   refine aZ rfl rfl rfl (by exact Nat.le_of_ble_eq_true rfl) ?_
   refine bw rfl (by exact List.cons_ne_nil _ _) rfl ?_
   refine bk rfl rfl (by decide) rfl rfl rfl rfl rfl rfl ?_
   refine aD (aC (aE ?_))
   have hwj := (mT.1 (dA (xs := bQ fl a (eC x.1)) (k := j.1) (by omega))).1
   refine aA (jZ rfl ?_)
   refine bL rfl rfl (by decide) rfl rfl (by exact Nat.le_of_ble_eq_true rfl) ?_
   refine dU [1000] (Cx y fl a h (nth (bQ fl a (eC x.1)) j.1) hwj.1) rfl (aM (j6 (aM (aa (bG rfl rfl)) (aM (aa (bG rfl rfl)) (aM (aa (bG rfl rfl)) (aM (aa (bG rfl rfl)) (aM (aa (bG rfl rfl)) (aM (gO rfl hal (by decide) rfl) bY))))))) (aM (aa (bG rfl rfl)) bY)) (by exact pV (by repeat (first | exact pU | refine nF (by exact dH _ _) ?_))) ?_
   refine ny rfl (bD rfl rfl (bD rfl rfl (cE rfl (cE rfl (aD (aC (aE (aA (Fj rfl ?_)))))))))
   refine bR rfl ?_
   refine xD KI (k := (nth (bQ fl a (eC x.1)) j.1).fin fl) (z0 := (default : Way)) rfl rfl (by decide) rfl (uH _) m9 rW oH ?_
   refine ny rfl (bD rfl rfl (bD rfl rfl ?_))
   refine bw rfl (by exact List.cons_ne_nil _ _) rfl ?_
   refine bk rfl rfl (by decide) rfl rfl rfl rfl rfl rfl ?_
   refine dr rfl (aD (aC (aE (aA (fu rfl (dh rfl (fu rfl ?_)))))))
   apply aL (s := 50) rfl rfl rfl
   ·intro hg; apply aP; (refine bR rfl ?_); refine aD ?_; exact rfl
   ·exact rfl
   ·exact rfl
   apply aL (s := 50) rfl rfl rfl
   ·intro hg; apply aP; (refine bR rfl ?_); refine aD ?_; exact rfl
   ·exact rfl
   ·exact rfl
   apply aL (s := 50) rfl rfl rfl
   ·intro hg; apply aK (s := 51) rfl (by (rw [hg]; rfl)); apply aK (s := 52) rfl (by (rw [hg]; rfl)); apply aP; (refine bC rfl rfl rfl ?_); refine aD ?_; exact rfl
   ·exact rfl
   ·exact rfl
   refine fD rfl rfl (aD (aC ?_))
   refine cr rfl (fun hc3 => ?_) (fun hc3 => ?_)
   ·
    refine aE (aA (Fj rfl (bR rfl ?_)))
    refine bL rfl rfl (by decide) rfl rfl (by exact Nat.le_of_ble_eq_true rfl) ?_
    refine Am KI (k := (nth (bQ fl a (eC x.1)) j.1).fin fl) (v := nth (bQ fl a (eC x.1)) j.1) rfl rfl (by decide) rfl (uH _) rfl rfl m9 ?_
    refine aD (aC (aA ?_))
    refine eD (rfl : _ = Ty.iK _ _ _ _) ?_
    refine bR rfl ?_
    refine bt (E := c7) (xs := [_]) rfl rfl rfl rfl rfl (by decide) (by decide) (by repeat (first | exact (aW.nil : aW _ _ [] _) | (show aW _ _ ((_, _) :: _) _; apply aW.one; (· exact (rfl : _ = Ty.int _ _)); (· exact rfl)))) (by exact rfl) rfl ?_
    refine EH rfl rfl (by decide) rfl (by show 0 < 1; decide) rfl rfl rfl rfl rfl (by decide) (by show (_ + 1) * 8 ≤ _; omega) (by show _ + 1 ≤ _; omega) ?_
    refine fQ (rfl : _ = Ty.iK _ _ _ _) ?_
    refine aD (bf (aC (aA ?_)))
    refine cD rfl rfl (by omega) (by omega) ?_
    refine bR rfl (aD ?_)
    refine bp (⟨j.1 + 1, by omega⟩) ?_ (by show (bQ fl a (eC x.1)).length - (j.1 + 1) < (bQ fl a (eC x.1)).length - j.1; omega)
    (refine dG.mk' ?_ ?_ <;> (repeat' (first | exact aJ | exact aI | refine aB ?_ (Ty.aX _) | refine aB ?_ (Ty.aF _) | refine aG rfl (Cont.aF _) ?_ | refine aG rfl ?_ ?_ | refine aB ?_ ?_)))
    all_goals skip
    all_goals first | exact ID (x6 (by omega) (by rw [← new_eq]; exact hc3)).2 | exact Cont.vS (x6 (by omega) (by rw [← new_eq]; exact hc3)).1
   refine ak (bf (aC (aA ?_)))
   refine cD rfl rfl (by omega) (by omega) ?_
   refine bR rfl (aD ?_)
   refine bp (⟨j.1 + 1, by omega⟩) ?_ (by show (bQ fl a (eC x.1)).length - (j.1 + 1) < (bQ fl a (eC x.1)).length - j.1; omega)
   (refine dG.mk' ?_ ?_ <;> (repeat' (first | exact aJ | exact aI | refine aB ?_ (Ty.aX _) | refine aB ?_ (Ty.aF _) | refine aG rfl (Cont.aF _) ?_ | refine aG rfl ?_ ?_ | refine aB ?_ ?_)))
   all_goals skip
   all_goals first | exact ID (Ba (by omega) (by rw [← new_eq]; exact hc3)).2 | exact Cont.vS (Ba (by omega) (by rw [← new_eq]; exact hc3)).1
  refine cg (aT (aT (bA rfl (bf ?_))))
  refine bp (⟨fB fl a s (eC x.1) (jg x.1) (bQ fl a (eC x.1)).length, (x.2.next hN hlen).1⟩) ?_ (by exact (x.2.next hN hlen).2)
  (refine dG.mk' ?_ ?_ <;> (repeat' (first | exact aJ | exact aI | refine aB ?_ (Ty.aX _) | refine aB ?_ (Ty.aF _) | refine aG rfl (Cont.aF _) ?_ | refine aG rfl ?_ ?_ | refine aB ?_ ?_)))
  all_goals skip
  all_goals first | exact ID (congrArg (fun n => (fB fl a s (eC x.1) (jg x.1) n).queue) (show j.1 = _ by have := j.2; omega)) | exact Cont.vS (congrArg (fun n => (fB fl a s (eC x.1) (jg x.1) n).by_) (show j.1 = _ by have := j.2; omega))
 refine cg (aT (aT (bA rfl (aC (aE ?_)))))
 refine gI (tg := 16) rfl (Cont.vS (x.2.end (by omega))) ?_
 refine aA (Fj rfl (MB rfl (aD (aC (az ?_)))))
 refine fN [1000, 16] rfl rfl (by decide) (by repeat (first | exact dn | refine cw rfl (bV (by decide) rfl) ?_ | refine cw rfl (Jc (by decide) rfl) ?_)) ?_
 all_goals skip
 all_goals exact eM (Jm (by decide))
end Go.Proofs.YtelbollidfdcjaaGreat
namespace Go.Proofs.YtelbollidfdcjaaGreat
open Go Go.T
section
variable {fl : List bz} {a : List Int} {n : Nat} {q : List (Int × Way)}
theorem B1 {n k : Nat} (h : k ≤ n) : (List.range n).take k = List.range k := by
 rw [List.take_range, Nat.min_eq_left h]
theorem Hx {j : Nat} (hj : j < n) (h : ∀ i, i < j → jP fl a q i = false) (hc : jP fl a q j = true) : (j : Int) = eT fl a n q := by
 unfold eT
 refine (ga (by rw [List.length_range]; exact hj) (fun x hx => ?_) ?_).symm
 ·rw [B1 (by omega)] at hx
  exact h x (List.mem_range.1 hx)
 rw [List.getElem_range]; exact hc
theorem Gj {j : Nat} (hj : n ≤ j) (h : ∀ i, i < j → jP fl a q i = false) : -1 = eT fl a n q := by
 unfold eT
 refine (iJ fun x hx => ?_).symm
 exact h x (by have := List.mem_range.1 hx; omega)
theorem z5 {j : Nat} (hj : j < n) : ((ej q (j : Int)).isSome && decide (nth (gR fl a n) j < 0)) = jP fl a q j := by
 unfold jP; rw [s7 hj]
theorem GY (hl : fl.length ≤ 34) (ha : ∀ i, i < fl.length → 0 ≤ nth a i ∧ nth a i ≤ 300) (c : Int) : -10200 ≤ over fl a c ∧ over fl a c ≤ 10200 := by
 have h := yA (fl := fl) (a := a) (c := c) (k := fl.length) ha
 have e : oK fl a fl.length c = over fl a c := rfl
 rw [e] at h; omega
theorem wW (m : Int) (fl : List bz) (a : List Int) : m = e9 fl a m [] := rfl
theorem GS {s t : Int} {l : List Way} (e : l = gj fl (cN fl a s) s t) : eA a l (e9 fl a (min (over fl a s) (-over fl a t)) l) = j4 fl a s t := by subst e; rfl
end
end Go.Proofs.YtelbollidfdcjaaGreat
namespace Go.Proofs.YtelbollidfdcjaaGreat
open Go Go.T
set_option maxHeartbeats 16000000
structure GK (y : aq) (fl : List bz) (a : List Int) : Prop where
  right : y.cx
  net : Net fl (y.cells + 1)
  bd : Bd fl
  inb : gu fl = true → w7 fl a
  nx : fl.length ≤ 34
section
variable {y : aq} {fl : List bz} {a : List Int} {n : Nat}
theorem y6 (h : (!fl.all fun f => decide (f.lo ≤ f.hi)) = true) : gu fl = false := qE h
theorem nA (h : (!fl.all fun f => decide (f.lo ≤ f.hi)) = false) : gu fl = true := ff h
theorem J8 (h : gu fl = false) : 0 = (cS fl n a).1 ∧ true = (cS fl n a).2.1 ∧ a = (cS fl n a).2.2 := by rw [w8 h]; exact ⟨rfl, rfl, rfl⟩
theorem K2 {b : List Int} (h : gu fl = true) (hx : FD fl n a b) (e : dc fl b n < 0) : 0 = (cS fl n a).1 ∧ false = (cS fl n a).2.1 ∧ b = (cS fl n a).2.2 := by rw [nB h, hx.done e]; exact ⟨rfl, rfl, rfl⟩
theorem Kz {b : List Int} (h : gu fl = true) (hx : FD fl n a b) (e : ¬ dc fl b n < 0) (e2 : eT fl b n (cN fl b (dc fl b n)) < 0) : dc fl b n = (cS fl n a).1 ∧ true = (cS fl n a).2.1 ∧ b = (cS fl n a).2.2 := by rw [nB h, hx.stuck e e2]; exact ⟨rfl, rfl, rfl⟩
theorem MF (h : w7 fl a) : FD fl n a a := ⟨h, rfl⟩
theorem IG {x z : Int} (h1 : 0 < x) (h2 : z < 0) : 0 < min x (-z) := by omega
theorem has_eq : fidx (fun v : Int => decide (v > 0)) (gR fl a n) = dc fl a n := rfl
theorem HB (m x : Int) : fX m [x] = min m x := rfl
theorem vQ {m : Int} {l : List Way} {w : Way} : fX (e9 fl a m l) [w.room fl a] = e9 fl a m (l ++ [w]) := (HB _ _).trans (qT m l).symm
theorem DR {k : Int} (h : 0 ≤ k ∧ k < n) : nth (gR fl a n) k.toNat = over fl a k := by rw [s7 (by omega)]; congr 1; omega
theorem HE {x : Int} (h : -20000 ≤ x ∧ x ≤ 20000) : IntKind.i64.wrap (0 - x) = -x := by rw [show (0 : Int) - x = -x by omega]; exact IntWalk.i64_in _ (by omega)
end
attribute [local irreducible] aS gY Way.gi Way.fin Way.room eS eA ep gR over bQ cN dc eT jP e9 gj j4 cS gH fX
attribute [local irreducible] iP fT nJ qo jJ jK jE jM jG qi jI qn eG gx qg gm qj nth fM dm aj dz bodyPost Exit.then Exit.inBlock Code.wp Code.wpIn qm jL ql qd jH eJ cV cm bodyPostM eN
set_option maxRecDepth 100000 in
theorem HI (f : bz) : dz Tryz.prog 177 [Ty.agg (dw.tys f)] (Ty.bool (decide (f.lo ≤ f.hi))) := by
 refine bB Tryz.func177 rfl (by decide) Tryz.ntmps177 (by exact Nat.le_of_ble_eq_true rfl) fun w0 M0 => ?_
 refine aE (aA (bN rfl (dr rfl (aD (aC (aE (aA ?_)))))))
 refine aQ rfl rfl rfl rfl rfl (by decide) ?_
 refine aN rfl rfl rfl rfl ?_
 refine aQ rfl rfl rfl rfl rfl (by decide) ?_
 refine aN rfl rfl rfl rfl (bC rfl rfl rfl (dr rfl (aD (aC (az (bq rfl rfl ?_))))))
 all_goals exact cP rfl rfl
set_option maxRecDepth 100000 in
theorem Ge (v : Int) : dz Tryz.prog 179 [Ty.int .i64 v] (Ty.bool (decide (v > 0))) := by
 refine bB Tryz.func179 rfl (by decide) Tryz.ntmps179 (by exact Nat.le_of_ble_eq_true rfl) fun w0 M0 => ?_
 refine aE (aA (dr rfl (aD (aC (aE (aA (bR rfl (bC rfl rfl rfl (dr rfl ?_)))))))))
 refine aD (aC (az (bq rfl rfl ?_)))
 all_goals exact cP rfl rfl
set_option maxRecDepth 100000 in
theorem I8 (y : aq) (fl : List bz) (a : List Int) (h : GK y fl a) : eJ Tryz.prog 129 [1000] [(1000, Cont.vec c7 3 a)] [Ty.pp (eE y fl 1000 fl.length)] [(1000, Cont.vec c7 3 (cS fl (y.cells + 1) a).2.2)] (Ty.jR [Ty.int .i64 (cS fl (y.cells + 1) a).1, Ty.bool (cS fl (y.cells + 1) a).2.1]) := by
 refine dN Tryz.func129 rfl (by decide) Tryz.ntmps129 (by exact Nat.le_of_ble_eq_true rfl) fun w0 M0 => ?_
 have hcl := mS h.right
 have hfl := h.nx
 have hN := h.net
 refine aE (aA (cE rfl (dr rfl (aD (aC (aE (aE (aA (jZ rfl ?_)))))))))
 refine bu rfl ?_
 refine aQ rfl rfl rfl rfl rfl (by decide) ?_
 refine aN rfl rfl rfl rfl ?_
 refine ah (BV fl (Ty.jf _ []) rfl (fun f => decide (f.lo ≤ f.hi)) rfl rfl fun f _ => dX (HI f) rfl rfl rfl rfl rfl rfl) rfl rfl rfl rfl rfl ?_
 refine dh rfl (aD (aC ?_))
 refine cr rfl (fun hc1 => ?_) (fun hc1 => ?_)
 ·
  refine aE (aA (cE rfl (dr rfl (aD (aC (az (aV ?_)))))))
  refine zP [1000] rfl rfl rfl (by decide) ?_ ?_ ?_
  ·exact cw rfl (bV (by decide) (J8 (y6 hc1)).2.2) dn
  all_goals skip
  all_goals first | exact eM (kR rfl rfl (congrArg (Ty.int .i64) (J8 (y6 hc1)).1)) | exact eM (kR rfl rfl (congrArg Ty.bool (J8 (y6 hc1)).2.1))
 refine ak (aC (au ?_))
 refine cZ (fun (x : {b : List Int // FD fl (y.cells + 1) a b}) => live [(0, Ty.pp (eE y fl 1000 fl.length))] [(1000, Cont.vec c7 3 x.1)]) (fun x => Lq fl (y.cells + 1) x.1) (⟨a, MF (h.inb (nA hc1))⟩) ?_ fun x => ?_
 ·(refine dG.mk' ?_ ?_ <;> (repeat' (first | exact aJ | exact aI | refine aB ?_ (Ty.aX _) | refine aB ?_ (Ty.aF _) | refine aG rfl (Cont.aF _) ?_)))
 have hF : lO y fl x.1 := ⟨h.right, h.net, h.bd, x.2.inb, h.nx⟩
 have hal := hF.inb.1
 have hov := GY h.nx fun i hi => (hF.KP hi).1
 have hol : (gR fl x.1 (y.cells + 1)).length = (y.cells + 1) := yN
 refine au (aE (aA (jZ rfl ?_)))
 refine b9 [(1000, 1000)] [] [(1000, Cont.vec c7 3 x.1)] (Kr y fl x.1 hF) rfl rfl (aH bH (fA (aH (aH (aH (aH (aH (aH bH (dV (by exact List.mem_cons_self))) (aR rfl rfl)) (aR rfl rfl)) (aR rfl rfl)) (aR rfl rfl)) (aR rfl rfl)))) (cC (a := 1000) (b := 1000) (by exact List.mem_cons_self) rfl (bV (by exact List.mem_cons_self) rfl) pre_nil) (bI (a := 1000) (b := 1000) (by decide) rfl (bV (by decide) rfl) post_nil) (aR rfl rfl) ?_
 refine wq rfl (aD (aC (aE (aA (fK rfl ?_)))))
 refine ah (uD (gR fl x.1 (y.cells + 1)) (Ty.jf _ []) rfl (fun v => decide (v > 0)) rfl rfl fun v _ => dX (Ge v) rfl rfl rfl rfl rfl rfl) rfl rfl rfl rfl rfl ?_
 refine cE rfl (aD (aC (aE (aE ?_))))
 refine fq (s := 5) rfl (Ty.af (has_eq (fl := fl) (a := x.1) (n := (y.cells + 1)))) ?_
 refine aA (bR rfl (bC rfl rfl rfl (aD (aC ?_))))
 refine av rfl (fun hc2 => ?_) (fun hc2 => ?_)
 ·
  refine aE (aA (cE rfl (dr rfl (aD (aC (az (aV (bJ (aV ?_)))))))))
  refine bJ ?_
  refine zP [1000] rfl rfl rfl (by decide) ?_ ?_ ?_
  ·exact cw rfl (bV (by decide) (K2 (nA hc1) x.2 hc2).2.2) dn
  all_goals skip
  all_goals first | exact eM (kR rfl rfl (congrArg (Ty.int .i64) (K2 (nA hc1) x.2 hc2).1)) | exact eM (kR rfl rfl (congrArg Ty.bool (K2 (nA hc1) x.2 hc2).2.1))
 refine ak (aC (aE ?_))
 obtain ⟨s, s1, s2, s3⟩ := vK hc2
 have hs : 0 ≤ (dc fl x.1 (y.cells + 1)) ∧ (dc fl x.1 (y.cells + 1)) < ((y.cells + 1) : Nat) := by omega
 refine aA (jZ rfl (bR rfl ?_))
 refine b9 (res' := Ty.mp 32) [(1000, 1000), (32, 16)] [32] [(1000, Cont.vec c7 3 x.1), (32, Cont.mp KI.enc zl (cN fl x.1 (dc fl x.1 (y.cells + 1))))] (IW y fl x.1 hF (dc fl x.1 (y.cells + 1)) hs) rfl rfl (aH (aH bH (aR rfl rfl)) (fA (aH (aH (aH (aH (aH (aH bH (dV (by exact List.mem_cons_self))) (aR rfl rfl)) (aR rfl rfl)) (aR rfl rfl)) (aR rfl rfl)) (aR rfl rfl)))) (cC (a := 1000) (b := 1000) (by exact List.mem_cons_self) rfl (bV (by exact List.mem_cons_self) rfl) pre_nil) (bI (a := 1000) (b := 1000) (by decide) rfl (bV (by decide) rfl) (bI (a := 32) (b := 16) (by decide) rfl (Jc (by decide) rfl) post_nil)) (Jm (by decide)) ?_
 refine MB rfl (aD (aC (aE (aA (cE rfl (aD (aC ?_)))))))
 refine lD (J := live [(0, Ty.pp (eE y fl 1000 fl.length)), (4, Ty.sl c7 (gR fl x.1 (y.cells + 1))), (5, Ty.int .i64 (dc fl x.1 (y.cells + 1))), (6, Ty.mp 32), (7, Ty.int .i64 (eT fl x.1 (y.cells + 1) (cN fl x.1 (dc fl x.1 (y.cells + 1)))))] [(1000, Cont.vec c7 3 x.1), (32, Cont.mp KI.enc zl (cN fl x.1 (dc fl x.1 (y.cells + 1))))]) ?_ ?_
 ·
  refine aE (aA (fK rfl (ct rfl rfl rfl (bR rfl (aD (aC (au ?_)))))))
  refine cZ (fun (j : {j : Nat // j ≤ (y.cells + 1) ∧ ∀ i, i < j → jP fl x.1 (cN fl x.1 (dc fl x.1 (y.cells + 1))) i = false}) => live [(0, Ty.pp (eE y fl 1000 fl.length)), (4, Ty.sl c7 (gR fl x.1 (y.cells + 1))), (5, Ty.int .i64 (dc fl x.1 (y.cells + 1))), (6, Ty.mp 32), (7, Ty.int .i64 (-1)), (32, Ty.sl c7 (gR fl x.1 (y.cells + 1))), (33, Ty.int .i64 (gR fl x.1 (y.cells + 1)).length), (34, Ty.int .i64 (j.1 : Nat))] [(1000, Cont.vec c7 3 x.1), (32, Cont.mp KI.enc zl (cN fl x.1 (dc fl x.1 (y.cells + 1))))]) (fun j => (y.cells + 1) - j.1) (⟨0, Nat.zero_le _, fun i hi => absurd hi (Nat.not_lt_zero i)⟩) ?_ fun j => ?_
  ·(refine dG.mk' ?_ ?_ <;> (repeat' (first | exact aJ | exact aI | refine aB ?_ (Ty.aX _) | refine aB ?_ (Ty.aF _) | refine aG rfl (Cont.aF _) ?_)))
  have hj := j.2.1
  refine aE (aA (bC rfl rfl rfl (aD (aC (aE ?_)))))
  refine av rfl (fun hc3 => ?_) (fun hc3 => ?_)
  ·
   refine ak (aC (aE (au (aE (aA (bR rfl ?_))))))
   refine bK rfl rfl rfl rfl rfl rfl (by omega) ?_
   refine aN rfl rfl rfl rfl (cE rfl (cE rfl (aD (aC (aE (aA (Fj rfl (bR rfl ?_))))))))
   refine xD KI (k := ((j.1 : Nat) : Int)) (z0 := (default : Way)) rfl rfl (by decide) rfl (uH _) m9 rW oH ?_
   refine ny rfl (bD rfl rfl (bD rfl rfl ?_))
   refine bw rfl (by exact List.cons_ne_nil _ _) rfl ?_
   refine bk rfl rfl (by decide) rfl rfl rfl rfl rfl rfl ?_
   refine dr rfl (aD (aC (aE (aA (fu rfl (fu rfl ?_))))))
   apply aL (s := 46) rfl rfl rfl
   ·intro hg; apply aP; (refine bR rfl ?_); refine aD ?_; exact rfl
   ·exact rfl
   ·exact rfl
   apply aL (s := 46) rfl rfl rfl
   ·intro hg; apply aK (s := 47) rfl (by (rw [hg]; rfl)); apply aP; (refine bC rfl rfl rfl ?_); refine aD ?_; exact rfl
   ·exact rfl
   ·exact rfl
   refine fD rfl rfl (aD (aC ?_))
   refine cr rfl (fun hc4 => ?_) (fun hc4 => ?_)
   ·
    refine aE (aA (bR rfl (cE rfl (aD (aC (cg (fy rfl (aT (aT ?_)))))))))
    refine bA rfl (fO ?_)
    (refine dG.mk' ?_ ?_ <;> (repeat' (first | exact aJ | exact aI | refine aB ?_ (Ty.aX _) | refine aB ?_ (Ty.aF _) | refine aG rfl (Cont.aF _) ?_ | refine aB ?_ ?_)))
    all_goals exact Ty.af (Hx (by omega) j.2.2 (by rw [← z5 (n := (y.cells + 1)) (by omega)]; exact hc4))
   refine ak (bf (aC (aA ?_)))
   refine cD rfl rfl (by omega) (by omega) ?_
   refine bR rfl (aD ?_)
   refine bp (⟨j.1 + 1, by omega, fun i hi => by by_cases e : i = j.1; (subst e; rw [← z5 (n := (y.cells + 1)) (by omega)]; exact hc4); exact j.2.2 i (by omega)⟩) ?_ (by show (y.cells + 1) - (j.1 + 1) < (y.cells + 1) - j.1; omega)
   (refine dG.mk' ?_ ?_ <;> (repeat' (first | exact aJ | exact aI | refine aB ?_ (Ty.aX _) | refine aB ?_ (Ty.aF _) | refine aG rfl (Cont.aF _) ?_)))
   all_goals skip
  refine cg (aT (aT (bA rfl (fO ?_))))
  (refine dG.mk' ?_ ?_ <;> (repeat' (first | exact aJ | exact aI | refine aB ?_ (Ty.aX _) | refine aB ?_ (Ty.aF _) | refine aG rfl (Cont.aF _) ?_ | refine aB ?_ ?_)))
  all_goals exact Ty.af (Gj (by omega) j.2.2)
 refine aE (aE (aA (bR rfl (bC rfl rfl rfl (aD (aC ?_))))))
 refine av rfl (fun hc5 => ?_) (fun hc5 => ?_)
 ·
  refine aE (aA (bR rfl (cE rfl (dr rfl (aD (aC (az (aV (bJ ?_)))))))))
  refine aV (bJ ?_)
  refine zP [1000] rfl rfl rfl (by decide) ?_ ?_ ?_
  ·exact cw rfl (bV (by decide) (Kz (nA hc1) x.2 hc2 hc5).2.2) dn
  all_goals skip
  all_goals first | exact eM (kR rfl rfl (congrArg (Ty.int .i64) (Kz (nA hc1) x.2 hc2 hc5).1)) | exact eM (kR rfl rfl (congrArg Ty.bool (Kz (nA hc1) x.2 hc2 hc5).2.1))
 refine ak (aC (aE ?_))
 obtain ⟨t, t1, t2, t3, t4⟩ := s8 hc5
 have hnx := x.2.next hN hc2 hc5
 have hR := qK (a := x.1) hN hs
 obtain ⟨dep, d0, hd⟩ := hR.arc
 have hmet : wg (cN fl x.1 (dc fl x.1 (y.cells + 1))) (dc fl x.1 (y.cells + 1)) (eT fl x.1 (y.cells + 1) (cN fl x.1 (dc fl x.1 (y.cells + 1)))) := by rw [t2]; obtain ⟨v, hv⟩ := Option.isSome_iff_exists.1 t3; exact .inr (mB hv)
 have ht : 0 ≤ (eT fl x.1 (y.cells + 1) (cN fl x.1 (dc fl x.1 (y.cells + 1)))) ∧ (eT fl x.1 (y.cells + 1) (cN fl x.1 (dc fl x.1 (y.cells + 1)))) < ((y.cells + 1) : Nat) := by omega
 have ho1 := hov (dc fl x.1 (y.cells + 1))
 have ho2 := hov (eT fl x.1 (y.cells + 1) (cN fl x.1 (dc fl x.1 (y.cells + 1))))
 have hdq : dep (eT fl x.1 (y.cells + 1) (cN fl x.1 (dc fl x.1 (y.cells + 1)))) ≤ 21 := by
  obtain ⟨v, hv⟩ := Option.isSome_iff_exists.1 t3
  have h1 := (hd _ _ hv).2.2.2.2
  have h2 := hR.nx
  rw [t2]; omega
 refine aA (l9 rfl (aD (aC (aE ?_))))
 have hoa := DR (fl := fl) (a := x.1) (n := (y.cells + 1)) hs
 have hob := DR (fl := fl) (a := x.1) (n := (y.cells + 1)) ht
 refine cQ mixed rfl (fK rfl (bR rfl ?_))
 refine lF rfl rfl rfl rfl rfl rfl (by omega) (by omega) ?_
 refine aN rfl rfl rfl rfl (fK rfl (bR rfl ?_))
 refine lF rfl rfl rfl rfl rfl rfl (by omega) (by omega) ?_
 refine aN rfl rfl rfl rfl (L0 rfl ?_)
 refine bt (E := c7) (xs := [_]) rfl rfl rfl rfl rfl (by decide) (by decide) (by repeat (first | exact (aW.nil : aW _ _ [] _) | (show aW _ _ ((_, _) :: _) _; apply aW.one; (· exact (rfl : _ = Ty.int _ _)); (· exact rfl)))) (by exact rfl) rfl ?_
 refine ah (rU _ _) rfl rfl rfl rfl rfl (cE rfl (aD ?_))
 refine ⟨by kernel_rfl, ?_⟩
 refine aC (aE (aE ?_))
 refine fq (s := 13) rfl (Ty.af (by rw [hoa, hob, HE (by omega), HB] : _ = (min (over fl x.1 (dc fl x.1 (y.cells + 1))) (-over fl x.1 (eT fl x.1 (y.cells + 1) (cN fl x.1 (dc fl x.1 (y.cells + 1)))))))) ?_
 refine aA (bR rfl (cE rfl (aD (aC (au ?_)))))
 refine cZ (fun (p : {p : Int × List Way // Ig fl x.1 (cN fl x.1 (dc fl x.1 (y.cells + 1))) (dc fl x.1 (y.cells + 1)) (eT fl x.1 (y.cells + 1) (cN fl x.1 (dc fl x.1 (y.cells + 1)))) dep p}) => live [(0, Ty.pp (eE y fl 1000 fl.length)), (5, Ty.int .i64 (dc fl x.1 (y.cells + 1))), (6, Ty.mp 32), (12, Ty.row fY 199 81 p.1.2), (13, Ty.int .i64 (e9 fl x.1 (min (over fl x.1 (dc fl x.1 (y.cells + 1))) (-over fl x.1 (eT fl x.1 (y.cells + 1) (cN fl x.1 (dc fl x.1 (y.cells + 1)))))) p.1.2)), (14, Ty.int .i64 p.1.1)] [(1000, Cont.vec c7 3 x.1), (32, Cont.mp KI.enc zl (cN fl x.1 (dc fl x.1 (y.cells + 1))))]) (fun p => dep p.1.1) (⟨((eT fl x.1 (y.cells + 1) (cN fl x.1 (dc fl x.1 (y.cells + 1)))), []), MV hmet⟩) ?_ fun p => ?_
 ·(refine dG.mk' ?_ ?_ <;> (repeat' (first | exact aJ | exact aI | refine aB ?_ (Ty.aX _) | refine aB ?_ (Ty.aF _) | refine aB ?_ Ty.kX | refine aG rfl (Cont.aF _) ?_ | refine aB ?_ ?_)))
  all_goals exact Ty.af (wW _ _ _)
 have hpf := p.2.nx
 refine aE (aE (aA (bR rfl (bR rfl (bC rfl rfl rfl (aD (aC ?_)))))))
 refine dI rfl (fun hc6 => ?_) (fun hc6 => ?_)
 ·
  refine ak (aC (aE (au (aE ?_))))
  have hpx := p.2.next hd hc6
  have hpo := hpx.2.2
  refine aA (IN rfl (Fj rfl (bR rfl ?_)))
  refine vT KI (k := p.1.1) (z0 := (default : Way)) rfl rfl (by decide) rfl (uH _) m9 rW oH ?_
  refine bt (E := fY) (xs := [jd (cN fl x.1 (dc fl x.1 (y.cells + 1))) p.1.1]) rfl rfl rfl rfl rfl (by decide) (by decide) (by repeat (first | exact (aW.nil : aW _ _ [] _) | (show aW _ _ ((_, _) :: _) _; apply aW.agg; (· exact (rfl : _ = Ty.agg _))))) (by exact rfl) rfl ?_
  refine fJ rfl rfl (by decide) rfl rfl rfl rfl rfl rfl (by decide) (by (simp <;> omega)) (by (simp <;> omega)) ?_
  refine Ew rfl (aD (aC (aE (aA (jZ rfl (Fj rfl (bR rfl ?_)))))))
  refine vT KI (k := p.1.1) (z0 := (default : Way)) rfl rfl (by decide) rfl (uH _) m9 rW oH ?_
  refine dU [1000] (Cx y fl x.1 hF (jd (cN fl x.1 (dc fl x.1 (y.cells + 1))) p.1.1) hpo.1) rfl (aM (j6 (aM (aa (bG rfl rfl)) (aM (aa (bG rfl rfl)) (aM (aa (bG rfl rfl)) (aM (aa (bG rfl rfl)) (aM (aa (bG rfl rfl)) (aM (gO rfl hal (by decide) rfl) bY))))))) (aM (aa (bG rfl rfl)) bY)) (by exact pV (by repeat (first | exact pU | refine nF (by exact dH _ _) ?_))) ?_
  refine ny rfl (bD rfl rfl (bD rfl rfl (cE rfl (cE rfl (aD (aC (aA (bR rfl (bR rfl ?_)))))))))
  refine bt (E := c7) (xs := [_]) rfl rfl rfl rfl rfl (by decide) (by decide) (by repeat (first | exact (aW.nil : aW _ _ [] _) | (show aW _ _ ((_, _) :: _) _; apply aW.one; (· exact (rfl : _ = Ty.int _ _)); (· exact rfl)))) (by exact rfl) rfl ?_
  refine ah (rU _ _) rfl rfl rfl rfl rfl (cE rfl (aD (bf (aC (aA (jZ rfl (Fj rfl (bR rfl ?_))))))))
  refine vT KI (k := p.1.1) (z0 := (default : Way)) rfl rfl (by decide) rfl (uH _) m9 rW oH ?_
  refine dU [1000] (zR y fl x.1 (jd (cN fl x.1 (dc fl x.1 (y.cells + 1))) p.1.1) hpo.1) rfl (aM (j6 (aM (aa (bG rfl rfl)) (aM (aa (bG rfl rfl)) (aM (aa (bG rfl rfl)) (aM (aa (bG rfl rfl)) (aM (aa (bG rfl rfl)) (aM (gO rfl hal (by decide) rfl) bY))))))) (aM (aa (bG rfl rfl)) bY)) (by exact dH _ _) ?_
  refine cE rfl (aD ?_)
  refine bp (⟨((jd (cN fl x.1 (dc fl x.1 (y.cells + 1))) p.1.1).gi fl, p.1.2 ++ [jd (cN fl x.1 (dc fl x.1 (y.cells + 1))) p.1.1]), (p.2.next hd hc6).1⟩) ?_ (by exact (p.2.next hd hc6).2.1)
  (refine dG.mk' ?_ ?_ <;> (repeat' (first | exact aJ | exact aI | refine aB ?_ (Ty.aX _) | refine aB ?_ (Ty.aF _) | refine aG rfl (Cont.aF _) ?_ | refine aB ?_ ?_)))
  all_goals skip
  all_goals exact Ty.af vQ
 refine cg (aT (aT (bA rfl (aC ?_))))
 have hmp := pJ (fl := fl) (a := x.1) (m := (min (over fl x.1 (dc fl x.1 (y.cells + 1))) (-over fl x.1 (eT fl x.1 (y.cells + 1) (cN fl x.1 (dc fl x.1 (y.cells + 1))))))) (IG (by rw [s2]; exact s3) (by rw [t2]; exact t4)) p.1.2 p.2.inv.ways
 have hml := (rq (fl := fl) (a := x.1) (min (over fl x.1 (dc fl x.1 (y.cells + 1))) (-over fl x.1 (eT fl x.1 (y.cells + 1) (cN fl x.1 (dc fl x.1 (y.cells + 1)))))) p.1.2).1
 refine lR (tg := 81) [(12, Ty.sl fY p.1.2)] (by decide) rfl ⟨Db rfl, trivial⟩ ?_
 refine aA (jZ rfl (fK rfl (bR rfl ?_)))
 refine b9 [(1000, 1000)] [] [(1000, Cont.vec c7 3 (eA x.1 p.1.2 (e9 fl x.1 (min (over fl x.1 (dc fl x.1 (y.cells + 1))) (-over fl x.1 (eT fl x.1 (y.cells + 1) (cN fl x.1 (dc fl x.1 (y.cells + 1)))))) p.1.2)))] (FG y fl x.1 hF p.1.2 (by omega) (fun w hw => (p.2.inv.ways w hw).1) (e9 fl x.1 (min (over fl x.1 (dc fl x.1 (y.cells + 1))) (-over fl x.1 (eT fl x.1 (y.cells + 1) (cN fl x.1 (dc fl x.1 (y.cells + 1)))))) p.1.2) (by omega)) rfl rfl (aH (aH (aH bH (aR rfl rfl)) (aR rfl rfl)) (fA (aH (aH (aH (aH (aH (aH bH (dV (by exact List.mem_cons_self))) (aR rfl rfl)) (aR rfl rfl)) (aR rfl rfl)) (aR rfl rfl)) (aR rfl rfl)))) (cC (a := 1000) (b := 1000) (by exact List.mem_cons_self) rfl (bV (by exact List.mem_cons_self) rfl) pre_nil) (bI (a := 1000) (b := 1000) (by decide) rfl (bV (by decide) rfl) post_nil) (aR rfl rfl) ?_
 refine aD (bf ?_)
 refine bp (⟨j4 fl x.1 (dc fl x.1 (y.cells + 1)) (eT fl x.1 (y.cells + 1) (cN fl x.1 (dc fl x.1 (y.cells + 1)))), hnx.1⟩) ?_ (by exact hnx.2.less)
 (refine dG.mk' ?_ ?_ <;> (repeat' (first | exact aJ | exact aI | refine aB ?_ (Ty.aX _) | refine aB ?_ (Ty.aF _) | refine aG rfl ?_ ?_)))
 all_goals skip
 all_goals exact Cont.eY (GS (p.2.end hc6))
end Go.Proofs.YtelbollidfdcjaaGreat
namespace Go.Proofs.YtelbollidfdcjaaGreat
open Go Go.T
section
variable {fl : List bz} {a : List Int} {n : Nat} {G : Nat → Int} {x : IV}
structure qh (fl : List bz) (a : List Int) (n : Nat) (G : Nat → Int) (x : IV) : Prop where
  inv : lT fl a n G x
  same : mw (lu fl a n G) x = iO fl a n G
theorem ML (hn : 0 < n) : qh fl a n G ⟨0, 0, 0, KQ n⟩ := ⟨Jd hn, rfl⟩
theorem qh.r (h : qh fl a n G x) : ¬ n ≤ x.r := by have := h.inv.r; omega
theorem qh.round (h : qh fl a n G x) (hc : n ≤ x.c) (ha : ¬ x.st.at_ < 0) : qh fl a n G ⟨x.r + 1, 0, 0, ⟨x.st.worth, x.st.by_, -1⟩⟩ :=
 ⟨h.inv.round hc (fun e => ha (by rw [h.inv.last e]; decide)), by rw [← gr (tu h.r hc ha)]; exact h.same⟩
theorem qh.stop (h : qh fl a n G x) (hc : n ≤ x.c) (ha : x.st.at_ < 0) : cK fl a n G = [] := by
 refine tQ ?_
 rw [← h.same]; exact iH (wK h.r hc ha)
theorem qh.cell (h : qh fl a n G x) (hc : ¬ n ≤ x.c) (hj : (bQ fl a x.c).length ≤ x.j) : qh fl a n G ⟨x.r, x.c + 1, 0, x.st⟩ :=
 ⟨h.inv.cell hc hj, by rw [← gr (vu h.r hc hj)]; exact h.same⟩
theorem qh.no (h : qh fl a n G x) (hc : ¬ n ≤ x.c) (hj : ¬ (bQ fl a x.c).length ≤ x.j) (hg : kQ fl G x.st x.c (nth (bQ fl a x.c) x.j) = false) : qh fl a n G ⟨x.r, x.c, x.j + 1, x.st⟩ :=
 ⟨h.inv.no hc hj hg, by rw [← gr (AF h.r hc hj hg)]; exact h.same⟩
theorem qh.yes (hN : Net fl n) (hG : ∀ i, -1 ≤ G i ∧ G i ≤ 1) (h : qh fl a n G x) (hc : ¬ n ≤ x.c) (hj : ¬ (bQ fl a x.c).length ≤ x.j) (hg : kQ fl G x.st x.c (nth (bQ fl a x.c) x.j) = true) (hr : ¬ x.r + 1 = n) : qh fl a n G ⟨x.r, x.c, x.j + 1, lS fl G x.st x.c (nth (bQ fl a x.c) x.j)⟩ :=
 ⟨h.inv.yes hN hG hc hj hg hr, by rw [← gr (xp h.r hc hj hg hr)]; exact h.same⟩
structure Found (fl : List bz) (a : List Int) (n : Nat) (G : Nat → Int) (st : qq) (v : Nat) : Prop where
  found : ∃ R T τ, Gh fl a n G (n - 1) st R T τ ∧ v < n ∧ R v = n
  at_ : st.at_ = v
  same : cK fl a n G = om fl st (fL (cF fl st) n v)
  len : st.by_.length = n
theorem qh.last (hN : Net fl n) (hG : ∀ i, -1 ≤ G i ∧ G i ≤ 1) (h : qh fl a n G x) (hc : ¬ n ≤ x.c) (hj : ¬ (bQ fl a x.c).length ≤ x.j) (hg : kQ fl G x.st x.c (nth (bQ fl a x.c) x.j) = true) (hr : x.r + 1 = n) :
    ∃ v : Nat, Found fl a n G (lS fl G x.st x.c (nth (bQ fl a x.c) x.j)) v := by
  have h1 := h.inv.found hN hG hc hj hg hr
  have h2 : iO fl a n G = some (lS fl G x.st x.c (nth (bQ fl a x.c) x.j)) := by
    rw [← h.same]; exact iH (uw h.r hc hj hg hr)
  cases h1 with
  | some _ R T τ v h3 hv e hR =>
    refine ⟨v, ⟨R, T, τ, h3, hv, hR⟩, e, ?_, h3.len.2⟩
    rw [tX h2, e, Int.toNat_natCast]
theorem lT.small (h : lT fl a n G x) (hn : n ≤ 21) (hl : fl.length ≤ 34) : x.st.worth.length = n ∧ x.st.by_.length = n ∧ ∀ v, v < n → 0 ≤ nth x.st.worth v ∧ nth x.st.worth v ≤ 40000 := by
 obtain ⟨R, T, τ, h1, h2, _⟩ := h.gh
 refine ⟨h1.len.1, h1.len.2, fun v hv => ?_⟩
 have h3 := h1.le v hv
 have h4 := h.r
 have h5 := h.c
 have h6 := h.j.1
 have e1 : x.r * (n * (2 * fl.length)) ≤ 21 * (21 * 68) := Nat.mul_le_mul (by omega) (Nat.mul_le_mul hn (by omega))
 have e2 : x.c * (2 * fl.length) ≤ 21 * 68 := Nat.mul_le_mul (by omega) (by omega)
 omega
variable {st : qq} {v s p : Nat}
theorem Found.chain (hN : Net fl n) (h : Found fl a n G st v) {k : Nat} (hk : k < n) : fL (cF fl st) k v < n ∧ Open fl a (nth st.by_ (fL (cF fl st) k v)) ∧ (nth st.by_ (fL (cF fl st) k v)).gi fl = (fL (cF fl st) (k + 1) v : Nat) := by
 obtain ⟨R, T, τ, h1, h2, h3⟩ := h.found
 obtain ⟨a1, a2⟩ := y9 hN h1 h2 h3 k (by omega)
 obtain ⟨b1, _⟩ := h1.way _ a1 (by omega)
 refine ⟨a1, b1, ?_⟩
 have := (hN.way b1.1).1
 show _ = ((((nth st.by_ (fL (cF fl st) k v)).gi fl).toNat : Nat) : Int)
 omega
structure Jb (fl : List bz) (a : List Int) (n : Nat) (st : qq) (s p : Nat) (x : Nat × List Way) : Prop where
  at_ : x.1 < n ∧ Open fl a (nth st.by_ x.1) ∧ (nth st.by_ x.1).gi fl = (cF fl st x.1 : Nat)
  ix : ∃ i, i ≤ p ∧ x.1 = fL (cF fl st) i s ∧ x.2.length = i
  same : mw (AB fl st s) x = om fl st s
theorem K9.gi {T : Nat → Nat} (hN : Net fl n) (h : K9 fl a n G st T s) (t : Nat) : fL (cF fl st) t s < n ∧ Open fl a (nth st.by_ (fL (cF fl st) t s)) ∧ (nth st.by_ (fL (cF fl st) t s)).gi fl = (cF fl st (fL (cF fl st) t s) : Nat) := by
 refine ⟨h.at_ t, (h.way t).1, ?_⟩
 have := (hN.way (h.way t).1.1).1
 show _ = ((((nth st.by_ (fL (cF fl st) t s)).gi fl).toNat : Nat) : Int)
 omega
theorem Bu {x : Nat × List Way} (h : ¬ (¬ x.2 = [] ∧ x.1 = s)) : AB fl st s x = .inl (cF fl st x.1, x.2 ++ [nth st.by_ x.1]) := if_neg h
theorem B7 {x : Nat × List Way} (h : ¬ x.2 = [] ∧ x.1 = s) : AB fl st s x = .inr x.2 := if_pos h
theorem Jb.next {T : Nat → Nat} (hN : Net fl n) (hC : K9 fl a n G st T s) (hp : fL (cF fl st) p s = s) (hp1 : 1 ≤ p) {x : Nat × List Way} (h : Jb fl a n st s p x) (hc : ¬ (¬ x.2 = [] ∧ x.1 = s)) :
 Jb fl a n st s p (cF fl st x.1, x.2 ++ [nth st.by_ x.1]) ∧ x.2.length < p := by
 obtain ⟨i, h1, h2, h3⟩ := h.ix
 have hi : i < p := by
  by_cases e : i = p
  ·exfalso; apply hc
   subst e
   exact ⟨fun e => by rw [e] at h3; simp at h3; omega, h2.trans hp⟩
  omega
 have e : cF fl st x.1 = fL (cF fl st) (i + 1) s := by rw [h2]; rfl
 refine ⟨⟨?_, ⟨i + 1, hi, e, by rw [List.length_append, h3]; rfl⟩, ?_⟩, by omega⟩
 ·show cF fl st x.1 < n ∧ Open fl a (nth st.by_ (cF fl st x.1)) ∧ _ = ((cF fl st (cF fl st x.1) : Nat) : Int)
  rw [e]; exact hC.gi hN (i + 1)
 rw [← gr (Bu hc)]; exact h.same
theorem Jb.end {x : Nat × List Way} (h : Jb fl a n st s p x) (hc : ¬ x.2 = [] ∧ x.1 = s) : x.2 = om fl st s := by
 rw [← h.same]; exact (iH (B7 hc)).symm
theorem Found.Mu (hN : Net fl n) (h : Found fl a n G st v) : ∃ T p, K9 fl a n G st T (fL (cF fl st) n v) ∧ 1 ≤ p ∧ p ≤ n ∧ fL (cF fl st) p (fL (cF fl st) n v) = fL (cF fl st) n v ∧ Jb fl a n st (fL (cF fl st) n v) p (fL (cF fl st) n v, []) := by
 obtain ⟨R, T, τ, h1, h2, h3⟩ := h.found
 have hC := F7 hN h1 h2 h3
 obtain ⟨p, p1, p2, p3⟩ := hC.back
 exact ⟨T, p, hC, p1, p2, p3, ⟨hC.gi hN 0, ⟨0, Nat.zero_le _, rfl, rfl⟩, rfl⟩⟩
structure K5 (fl : List bz) (n : Nat) (G : Nat → Int) (a b : List Int) : Prop where
  feas : gT fl n b
  same : mw (stepG fl n G) b = gS fl n G a
theorem B8 {b : List Int} (e : cK fl b n G = []) : stepG fl n G b = .inr b := if_pos e
theorem CZ {b : List Int} (e : ¬ cK fl b n G = []) : stepG fl n G b = .inl (eA b (cK fl b n G) (e9 fl b 300 (cK fl b n G))) := if_neg e
theorem K5.done {b : List Int} (h : K5 fl n G a b) (e : cK fl b n G = []) : b = gS fl n G a := by
 rw [← h.same]; exact (iH (B8 e)).symm
theorem K5.next {b : List Int} (hN : Net fl n) (hn : 0 < n) (hB : Bd fl) (hG : ∀ i, -1 ≤ G i ∧ G i ≤ 1) (h : K5 fl n G a b) (e : ¬ cK fl b n G = []) :
 K5 fl n G a (eA b (cK fl b n G) (e9 fl b 300 (cK fl b n G))) ∧ (300 * fl.length - kT fl G (eA b (cK fl b n G) (e9 fl b 300 (cK fl b n G)))).toNat < (300 * fl.length - kT fl G b).toNat ∧ C5 fl b n G (cK fl b n G) := by
 rcases tL (a := b) hN hn hG with ⟨e', _⟩ | hc
 ·exact absurd e' e
 have hb := tq h.feas hc
 refine ⟨⟨hb.feas, ?_⟩, ?_, hc⟩
 ·rw [← h.same]; exact (gr (CZ e)).symm
 have h1 := hb.more
 have h2 := Cw hB hb.feas.1 hG
 omega
end
def iW (has : Nat → Bool) (x : List Int) (k : Nat) : Int := c9 (fun i => if has i = true then nth x i else 0) k
theorem Ee {has : Nat → Bool} {x : List Int} {k : Nat} (h : has k = true) : iW has x k + nth x k = iW has x (k + 1) := by
 show _ = iW has x k + (if _ then _ else _); rw [if_pos h]
theorem HQ {has : Nat → Bool} {x : List Int} {k : Nat} (h : has k = false) : iW has x k = iW has x (k + 1) := by
 show _ = iW has x k + (if _ then _ else _); rw [if_neg (by rw [h]; decide)]; omega
theorem EB {has : Nat → Bool} {x : List Int} {k : Nat} (h : ∀ i, i < k → 0 ≤ nth x i ∧ nth x i ≤ 300) : -(300 * (k : Int)) ≤ iW has x k ∧ iW has x k ≤ 300 * k := by
 refine q4 (b := 300) fun i hi => ?_
 have := h i hi
 split <;> omega
theorem Fe {has : Nat → Bool} {less : Bool} {i : Nat} (h : has i = false) : cz has less i = 0 := by unfold cz; rw [h]; cases less <;> rfl
theorem yS {has : Nat → Bool} {less : Bool} {i : Nat} (h : has i = true) : cz has less i = if less = true then -1 else 1 := by unfold cz; rw [h]; cases less <;> rfl
theorem I5 {has : Nat → Bool} {less : Bool} {w : Way} (h : has w.ix = false) : 0 = fW (cz has less) w := by
 unfold fW wZ; rw [Fe h]; cases w.more <;> rfl
theorem H9 {has : Nat → Bool} {less : Bool} {w : Way} (h : has w.ix = true) (e : w.more ≠ less) : 1 = fW (cz has less) w := by
 unfold fW wZ; rw [yS h]
 cases hm : w.more <;> cases hl : less <;> first | rfl | exact absurd (hm.trans hl.symm) e
theorem I7 {has : Nat → Bool} {less : Bool} {w : Way} (h : has w.ix = true) (e : w.more = less) : -1 = fW (cz has less) w := by
 unfold fW wZ; rw [yS h, e]
 cases less <;> rfl
end Go.Proofs.YtelbollidfdcjaaGreat
namespace Go.Proofs.YtelbollidfdcjaaGreat
open Go Go.T
set_option maxHeartbeats 16000000
theorem Ls : Tryz.prog.underlying 4 = some .bool := Tryz.underlying4
section
variable {fl : List bz} {a : List Int} {n : Nat} {G : Nat → Int} {st : qq} {r c j : Nat} {w : Way}
def mU (fl : List bz) (G : Nat → Int) (st : qq) (c : Nat) (w : Way) : qq := if kQ fl G st c w = true then lS fl G st c w else st
theorem pH (h : nth st.worth c + fW G w > nth st.worth (w.fin fl).toNat) : mU fl G st c w = lS fl G st c w := if_pos (decide_eq_true h)
theorem qp (h : ¬ nth st.worth c + fW G w > nth st.worth (w.fin fl).toNat) : mU fl G st c w = st := if_neg (by rw [show kQ fl G st c w = false from decide_eq_false h]; decide)
theorem qh.K4 (hN : Net fl n) (hG : ∀ i, -1 ≤ G i ∧ G i ≤ 1) (h : qh fl a n G ⟨r, c, j, st⟩) (hc : c < n) (hj : j < (bQ fl a c).length) (hg : nth st.worth c + fW G (nth (bQ fl a c) j) > nth st.worth ((nth (bQ fl a c) j).fin fl).toNat) (hr : ¬ (r : Int) = n - 1) : qh fl a n G ⟨r, c, j + 1, mU fl G st c (nth (bQ fl a c) j)⟩ := by
 rw [pH hg]; exact h.yes hN hG (Nat.not_le.2 hc) (Nat.not_le.2 hj) (decide_eq_true hg) (by show ¬ r + 1 = n; intro e; apply hr; rw [← e]; show (r : Int) = ((r + 1 : Nat) : Int) - 1; omega)
theorem qh.Lb (h : qh fl a n G ⟨r, c, j, st⟩) (hc : c < n) (hj : j < (bQ fl a c).length) (hg : ¬ nth st.worth c + fW G (nth (bQ fl a c) j) > nth st.worth ((nth (bQ fl a c) j).fin fl).toNat) : qh fl a n G ⟨r, c, j + 1, mU fl G st c (nth (bQ fl a c) j)⟩ := by
 rw [qp hg]; exact h.no (Nat.not_le.2 hc) (Nat.not_le.2 hj) (decide_eq_false hg)
theorem LZ (h : nth st.worth c + fW G w > nth st.worth (w.fin fl).toNat) : st.worth.set (w.fin fl).toNat (nth st.worth c + fW G w) = (mU fl G st c w).worth := by rw [pH h]; rfl
theorem Lt (h : nth st.worth c + fW G w > nth st.worth (w.fin fl).toNat) : st.by_.set (w.fin fl).toNat w = (mU fl G st c w).by_ := by rw [pH h]; rfl
theorem LL (h : nth st.worth c + fW G w > nth st.worth (w.fin fl).toNat) : w.fin fl = (mU fl G st c w).at_ := by rw [pH h]; rfl
theorem L8 (h : ¬ nth st.worth c + fW G w > nth st.worth (w.fin fl).toNat) : st.worth = (mU fl G st c w).worth := by rw [qp h]
theorem LP (h : ¬ nth st.worth c + fW G w > nth st.worth (w.fin fl).toNat) : st.by_ = (mU fl G st c w).by_ := by rw [qp h]
theorem Ly (h : ¬ nth st.worth c + fW G w > nth st.worth (w.fin fl).toNat) : st.at_ = (mU fl G st c w).at_ := by rw [qp h]
theorem qh.hit (hN : Net fl n) (hG : ∀ i, -1 ≤ G i ∧ G i ≤ 1) (h : qh fl a n G ⟨r, c, j, st⟩) (hc : c < n) (hj : j < (bQ fl a c).length) (hg : nth st.worth c + fW G (nth (bQ fl a c) j) > nth st.worth ((nth (bQ fl a c) j).fin fl).toNat) (hr : (r : Int) = n - 1) :
 ∃ (v : Nat) (s' : qq), st.worth.set ((nth (bQ fl a c) j).fin fl).toNat (nth st.worth c + fW G (nth (bQ fl a c) j)) = s'.worth ∧ st.by_.set ((nth (bQ fl a c) j).fin fl).toNat (nth (bQ fl a c) j) = s'.by_ ∧ (nth (bQ fl a c) j).fin fl = ((v : Nat) : Int) ∧ Found fl a n G s' v := by
 obtain ⟨v, hv⟩ := h.last hN hG (Nat.not_le.2 hc) (Nat.not_le.2 hj) (decide_eq_true hg) (by show r + 1 = n; have := h.inv.r; omega)
 exact ⟨v, _, rfl, rfl, hv.at_, hv⟩
theorem JW {e : List Way} {s : Nat} (h : (decide ((e.length : Int) = 0) || !decide ((c : Int) = (s : Int))) = true) : ¬ (¬ e = [] ∧ c = s) := by
 rintro ⟨h1, h2⟩
 have h3 : (e.length : Int) ≠ 0 := fun h => h1 (List.length_eq_zero_iff.1 (by omega))
 rw [decide_eq_false h3, decide_eq_true (by omega)] at h; cases h
theorem Lr {e : List Way} {s : Nat} (h : (decide ((e.length : Int) = 0) || !decide ((c : Int) = (s : Int))) = false) : ¬ e = [] ∧ c = s := by
 rw [Bool.or_eq_false_iff] at h
 refine ⟨fun e0 => ?_, ?_⟩
 ·subst e0; exact absurd h.1 (by decide)
 have := of_decide_eq_true (ff h.2 : decide ((c : Int) = (s : Int)) = true); omega
theorem LF {e : List Way} {p : Nat} (h : e.length < p) : p - (e ++ [w]).length < p - e.length := by rw [List.length_append]; show p - (e.length + 1) < _; omega
theorem Mm {s p : Nat} {x : Nat × List Way} (h : Jb fl a n st s p x) (hc : ¬ x.2 = [] ∧ x.1 = s) : om fl st s ≠ [] := by rw [← h.end hc]; exact hc.1
end
attribute [local irreducible] aS gY Way.gi Way.fin Way.room eS eA ep gR over bQ cN dc eT jP e9 gj j4 cS gH fX fW cz cK gS om iO mU lS
attribute [local irreducible] iP fT nJ qo jJ jK jE jM jG qi jI qn eG gx qg gm qj nth fM dm aj dz bodyPost Exit.then Exit.inBlock Code.wp Code.wpIn qm jL ql qd jH eJ cV cm bodyPostM eN
set_option maxRecDepth 100000 in
theorem mP (y : aq) (fl : List bz) (a : List Int) (h : GK y fl a) : eJ Tryz.prog 119 [1000] [(1000, Cont.vec c7 3 a)] [Ty.pp (eE y fl 1000 fl.length)] [(1000, Cont.vec c7 3 (cS fl (y.cells + 1) a).2.2)] (Ty.bool (!(cS fl (y.cells + 1) a).2.1)) := by
 refine dN Tryz.func119 rfl (by decide) Tryz.ntmps119 (by exact Nat.le_of_ble_eq_true rfl) fun w0 M0 => ?_
 refine aE (aA (dr rfl (aD (aC (aE (aA (jZ rfl ?_)))))))
 refine b9 [(1000, 1000)] [] [(1000, Cont.vec c7 3 (cS fl (y.cells + 1) a).2.2)] (I8 y fl a h) rfl rfl (aH bH (fA (aH (aH (aH (aH (aH (aH bH (dV (by exact List.mem_cons_self))) (aR rfl rfl)) (aR rfl rfl)) (aR rfl rfl)) (aR rfl rfl)) (aR rfl rfl)))) (cC (a := 1000) (b := 1000) (by exact List.mem_cons_self) rfl (bV (by exact List.mem_cons_self) rfl) pre_nil) (bI (a := 1000) (b := 1000) (by decide) rfl (bV (by decide) rfl) post_nil) (aR rfl rfl) ?_
 refine ny rfl (bD rfl rfl (bD rfl rfl (cE rfl (dr rfl (aD (aC (aE (aA (fu rfl ?_)))))))))
 refine dh rfl (dr rfl (aD (aC (az ?_))))
 refine fN [1000] rfl rfl (by decide) (by repeat (first | exact dn | refine cw rfl (bV (by decide) rfl) ?_)) ?_
 all_goals exact eM (aR rfl rfl)
set_option maxRecDepth 100000 in
theorem Di (th : Ty) (h1 : th.deps = []) (h2 : th.cdeps = []) (has : Nat → Bool) (less : Bool) (w : Way) (hf : nv Tryz.prog (Ty.nd th h1 h2) [Ty.int .i64 ((w.ix : Nat) : Int)] (Ty.bool (has w.ix))) : dz Tryz.prog 202 [Ty.agg [Ty.nd th h1 h2, Ty.bool less], Ty.agg (fY.tys w)] (Ty.int .i64 (fW (cz has less) w)) := by
 refine bB Tryz.func202 rfl (by decide) Tryz.ntmps202 (by exact Nat.le_of_ble_eq_true rfl) fun w0 M0 => ?_
 refine aE (aA (bN rfl (bN rfl (cE rfl (aD (aC (aE (aE (aA ?_)))))))))
 refine aQ rfl rfl rfl rfl rfl (by decide) ?_
 refine aN rfl rfl rfl rfl ?_
 refine aQ rfl rfl rfl rfl rfl (by decide) ?_
 refine aN rfl rfl rfl rfl (eX rfl hf rfl (dh rfl (aD (aC ?_))))
 refine cr rfl (fun hc1 => ?_) (fun hc1 => ?_)
 ·
  refine aE (aA (cE rfl (aD (aC (az (aV (bq rfl rfl ?_)))))))
  all_goals skip
  all_goals exact bE rfl rfl (congrArg (Ty.int .i64) (I5 (qE hc1)))
 refine ak (aC (aE (aE (aA ?_))))
 refine aQ rfl rfl rfl rfl rfl (by decide) ?_
 refine aN rfl rfl rfl rfl ?_
 refine aQ rfl rfl rfl rfl rfl (by decide) ?_
 refine aN rfl rfl rfl rfl (DI Ls rfl rfl (aD (aC ?_)))
 refine dI rfl (fun hc2 => ?_) (fun hc2 => ?_)
 ·
  refine aE (aA (cE rfl (aD (aC (az (aV (bq rfl rfl ?_)))))))
  all_goals skip
  all_goals exact bE rfl rfl (congrArg (Ty.int .i64) (H9 (ff hc1) hc2))
 refine ak (aC (aE (aA (cE rfl (aD (aC (az (bq rfl rfl ?_))))))))
 all_goals skip
 all_goals exact bE rfl rfl (congrArg (Ty.int .i64) (I7 (ff hc1) hc2))
set_option maxRecDepth 100000 in
theorem FL (y : aq) (fl : List bz) (a : List Int) (h : lO y fl a) (th : Ty) (h1 : th.deps = []) (h2 : th.cdeps = []) (has : Nat → Bool) (hf : ∀ i, i < fl.length → nv Tryz.prog (Ty.nd th h1 h2) [Ty.int .i64 ((i : Nat) : Int)] (Ty.bool (has i))) (less : Bool) : eJ Tryz.prog 195 [1000] [(1000, Cont.vec c7 3 a)] [Ty.pp (eE y fl 1000 fl.length), Ty.agg [Ty.nd th h1 h2, Ty.bool less]] [(1000, Cont.vec c7 3 a)] (Ty.Ev fY (cK fl a (y.cells + 1) (cz has less))) := by
 refine dN Tryz.func195 rfl (by decide) Tryz.ntmps195 (by exact Nat.le_of_ble_eq_true rfl) fun w0 M0 => ?_
 have hal := h.inb.1
 have hN := h.net
 have hfl := h.nx
 have hcl := mS h.right
 have hG := q8 (has := has) less
 refine aE (aA (bN rfl (l9 rfl (aD (aC (Iw (aE (aA (jZ rfl ?_)))))))))
 refine dU [] (rY y h.right) rfl (aM (mq (l1 := bO y) (l2 := [Ty.sl dw fl, Ty.vs 1000 fl.length]) rfl rfl) bY) (by exact dH _ _) ?_
 refine cD rfl rfl (by omega) (by omega) ?_
 refine cE rfl (aD (aC (aE (cQ mixed rfl (bR rfl ?_)))))
 refine yt (E := c7) (x0 := 0) rfl rfl rfl rfl rfl rfl rfl (by decide) rfl (by omega) (by (dsimp only; omega)) (by omega) ?_
 refine bR rfl ?_
 refine yt (E := fY) (x0 := default) rfl rfl rfl rfl rfl rfl rfl (by decide) rfl (by omega) (by (dsimp only; omega)) (by omega) ?_
 refine MR rfl (MR rfl (aD ?_))
 refine ⟨by kernel_rfl, ?_⟩
 refine aC (aE (aA (jZ rfl ?_)))
 refine b9 [(1000, 1000)] [] [(1000, Cont.vec c7 3 a)] (HH y fl a h) rfl rfl (aH bH (fA (aH (aH (aH (aH (aH (aH bH (dV (by exact List.mem_cons_self))) (aR rfl rfl)) (aR rfl rfl)) (aR rfl rfl)) (aR rfl rfl)) (aR rfl rfl)))) (cC (a := 1000) (b := 1000) (by exact List.mem_cons_self) rfl (bV (by exact List.mem_cons_self) rfl) pre_nil) (bI (a := 1000) (b := 1000) (by decide) rfl (bV (by decide) rfl) post_nil) (aR rfl rfl) ?_
 refine Jq rfl (aD (aC (aE (aA (cE rfl (aD (aC (aE (Ir ?_)))))))))
 refine aC (aE (aE (aA (bR rfl (bR rfl (aD (aC (au ?_))))))))
 refine cZ (fun (x : {x : Nat × qq // qh fl a (y.cells + 1) (cz has less) ⟨x.1, 0, 0, x.2⟩ ∧ x.2.at_ = -1}) => live [(0, Ty.pp (eE y fl 1000 fl.length)), (3, Ty.pp [Ty.nd th h1 h2, Ty.bool less]), (5, Ty.int .i64 ((y.cells + 1) : Nat)), (6, Ty.vs 23 (y.cells + 1)), (7, Ty.vs 25 (y.cells + 1)), (8, Ty.pm KI.enc (Fm fY) (eS fl a fl.length)), (27, Ty.int .i64 ((y.cells + 1) : Nat)), (28, Ty.int .i64 ((x.1.1 : Nat) : Int))] [(1000, Cont.vec c7 3 a), (23, Cont.vec c7 3 x.1.2.worth), (25, Cont.vec fY 199 x.1.2.by_)]) (fun x => (y.cells + 1) - x.1.1) (⟨(0, KQ (y.cells + 1)), ML (by omega), rfl⟩) ?_ fun x => ?_
 ·(refine dG.mk' ?_ ?_ <;> (repeat' (first | exact aJ | exact aI | refine aB ?_ (Ty.aX _) | refine aB ?_ (Ty.aF _) | refine aG rfl (Cont.aF _) ?_)))
 have hxr : x.1.1 < (y.cells + 1) := x.2.1.inv.r
 have hxs : x.1.2.worth.length = (y.cells + 1) ∧ x.1.2.by_.length = (y.cells + 1) := ⟨(x.2.1.inv.small (by omega) hfl).1, (x.2.1.inv.small (by omega) hfl).2.1⟩
 refine aE (aA (bC rfl rfl rfl (aD (aC (aE ?_)))))
 refine pP rfl (decide_eq_true (by show ((x.1.1 : Nat) : Int) < ((y.cells + 1) : Nat); have : x.1.1 < (y.cells + 1) := hxr; omega)) ?_
 refine ak (aC (aE (au (aE (aA (bR rfl (cE rfl (aD (aC ?_)))))))))
 refine aE (aA (cE rfl (aD (aC (aE (aE (aA (bR rfl (bR rfl ?_)))))))))
 refine aD (aC (au ?_))
 refine cZ (fun (z : {z : Nat × qq // qh fl a (y.cells + 1) (cz has less) ⟨x.1.1, z.1, 0, z.2⟩}) => live [(0, Ty.pp (eE y fl 1000 fl.length)), (3, Ty.pp [Ty.nd th h1 h2, Ty.bool less]), (5, Ty.int .i64 ((y.cells + 1) : Nat)), (6, Ty.vs 23 (y.cells + 1)), (7, Ty.vs 25 (y.cells + 1)), (8, Ty.pm KI.enc (Fm fY) (eS fl a fl.length)), (9, Ty.int .i64 z.1.2.at_), (10, Ty.int .i64 ((x.1.1 : Nat) : Int)), (27, Ty.int .i64 ((y.cells + 1) : Nat)), (28, Ty.int .i64 ((x.1.1 : Nat) : Int)), (31, Ty.int .i64 ((y.cells + 1) : Nat)), (32, Ty.int .i64 ((z.1.1 : Nat) : Int))] [(1000, Cont.vec c7 3 a), (23, Cont.vec c7 3 z.1.2.worth), (25, Cont.vec fY 199 z.1.2.by_)]) (fun z => (y.cells + 1) - z.1.1) (⟨(0, x.1.2), x.2.1⟩) ?_ fun z => ?_
 ·(refine dG.mk' ?_ ?_ <;> (repeat' (first | exact aJ | exact aI | refine aB ?_ (Ty.aX _) | refine aB ?_ (Ty.aF _) | refine aG rfl (Cont.aF _) ?_ | refine aB ?_ ?_)))
  all_goals exact Ty.af x.2.2.symm
 have hzc : z.1.1 ≤ (y.cells + 1) := z.2.inv.c
 have hzs : z.1.2.worth.length = (y.cells + 1) ∧ z.1.2.by_.length = (y.cells + 1) := ⟨(z.2.inv.small (by omega) hfl).1, (z.2.inv.small (by omega) hfl).2.1⟩
 refine aE (aA (bC rfl rfl rfl (aD (aC (aE ?_)))))
 refine av rfl (fun hc2 => ?_) (fun hc2 => ?_)
 ·
  refine ak (aC (aE (au (aE (aA (bR rfl (cE rfl (aD (aC ?_)))))))))
  refine aE (aA (Jv rfl (bR rfl ?_)))
  refine xT KI (z0 := []) rfl rfl (uH _) nC uQ AI ?_
  refine ct (E := fY) (xs := nu (eS fl a fl.length) ((z.1.1 : Nat) : Int)) rfl rfl rfl ?_
  refine bR rfl (aD (aC ?_))
  refine fq (s := 37) rfl (show (Ty.sl fY (nu (eS fl a fl.length) ((z.1.1 : Nat) : Int))).Sub (Ty.sl fY (bQ fl a z.1.1)) from Ty.iE rX) ?_
  refine fq (s := 38) rfl (Ty.af (congrArg (fun l : List Way => ((l.length : Nat) : Int)) (rX (c := ((z.1.1 : Nat) : Int))))) ?_
  refine au ?_
  refine cZ (fun (u : {u : Nat × qq // qh fl a (y.cells + 1) (cz has less) ⟨x.1.1, z.1.1, u.1, u.2⟩}) => live [(0, Ty.pp (eE y fl 1000 fl.length)), (3, Ty.pp [Ty.nd th h1 h2, Ty.bool less]), (5, Ty.int .i64 ((y.cells + 1) : Nat)), (6, Ty.vs 23 (y.cells + 1)), (7, Ty.vs 25 (y.cells + 1)), (8, Ty.pm KI.enc (Fm fY) (eS fl a fl.length)), (9, Ty.int .i64 u.1.2.at_), (10, Ty.int .i64 ((x.1.1 : Nat) : Int)), (11, Ty.int .i64 ((z.1.1 : Nat) : Int)), (27, Ty.int .i64 ((y.cells + 1) : Nat)), (28, Ty.int .i64 ((x.1.1 : Nat) : Int)), (31, Ty.int .i64 ((y.cells + 1) : Nat)), (32, Ty.int .i64 ((z.1.1 : Nat) : Int)), (37, Ty.sl fY (bQ fl a z.1.1)), (38, Ty.int .i64 (bQ fl a z.1.1).length), (39, Ty.int .i64 ((u.1.1 : Nat) : Int))] [(1000, Cont.vec c7 3 a), (23, Cont.vec c7 3 u.1.2.worth), (25, Cont.vec fY 199 u.1.2.by_)]) (fun u => (bQ fl a z.1.1).length - u.1.1) (⟨(0, z.1.2), z.2⟩) ?_ fun u => ?_
  ·(refine dG.mk' ?_ ?_ <;> (repeat' (first | exact aJ | exact aI | refine aB ?_ (Ty.aX _) | refine aB ?_ (Ty.aF _) | refine aG rfl (Cont.aF _) ?_)))
  have hus : u.1.2.worth.length = (y.cells + 1) ∧ u.1.2.by_.length = (y.cells + 1) ∧ ∀ v, v < (y.cells + 1) → 0 ≤ nth u.1.2.worth v ∧ nth u.1.2.worth v ≤ 40000 := u.2.inv.small (by omega) hfl
  have hwl := oL (fl := fl) (a := a) (c := ((z.1.1 : Nat) : Int))
  refine aE (aA (bC rfl rfl rfl (aD (aC (aE ?_)))))
  refine av rfl (fun hc3 => ?_) (fun hc3 => ?_)
  ·
   refine ak (aC (aE (au (aE ?_))))
   have hzn : z.1.1 < (y.cells + 1) := by omega
   have hun : u.1.1 < (bQ fl a z.1.1).length := by omega
   have hwo := (mT.1 (dA (xs := bQ fl a z.1.1) (k := u.1.1) hun)).1
   have hwj := hwo
   have hwf := (hN.way hwo.1).2
   have haw := DQ hG (nth (bQ fl a z.1.1) u.1.1)
   have hu1 := hus.2.2 z.1.1 hzn
   have hu2 := hus.2.2 ((nth (bQ fl a z.1.1) u.1.1).fin fl).toNat (by omega)
   refine aA ?_
   refine bK rfl rfl rfl rfl rfl rfl (by omega) ?_
   refine aZ rfl rfl rfl (by exact Nat.le_of_ble_eq_true rfl) ?_
   refine bw rfl (by exact List.cons_ne_nil _ _) rfl ?_
   refine bk rfl rfl (by decide) rfl rfl rfl rfl rfl rfl ?_
   refine aD (aC (aE (aA (jZ rfl ?_))))
   refine bL rfl rfl (by decide) rfl rfl (by exact Nat.le_of_ble_eq_true rfl) ?_
   refine dU [1000] (Cx y fl a h (nth (bQ fl a z.1.1) u.1.1) hwj.1) rfl (aM (j6 (aM (aa (bG rfl rfl)) (aM (aa (bG rfl rfl)) (aM (aa (bG rfl rfl)) (aM (aa (bG rfl rfl)) (aM (aa (bG rfl rfl)) (aM (gO rfl hal (by decide) rfl) bY))))))) (aM (aa (bG rfl rfl)) bY)) (by exact pV (by repeat (first | exact pU | refine nF (by exact dH _ _) ?_))) ?_
   refine ny rfl (bD rfl rfl (bD rfl rfl (cE rfl (cE rfl (aD (aC (aE (cQ mixed rfl (Hq rfl ?_)))))))))
   refine bR rfl ?_
   refine eP rfl rfl rfl rfl rfl (by omega) ?_
   refine eo rfl rfl rfl (by decide) rfl rfl (by omega) rfl ?_
   refine aZ rfl rfl rfl (by exact Nat.le_of_ble_eq_true rfl) ?_
   refine bL rfl rfl (by decide) rfl rfl (by exact Nat.le_of_ble_eq_true rfl) ?_
   refine ah (Di th h1 h2 has less (nth (bQ fl a z.1.1) u.1.1) (hf _ hwj.1)) rfl rfl rfl rfl rfl ?_
   refine cD rfl rfl (by omega) (by omega) ?_
   refine Hq rfl (bR rfl ?_)
   refine gV rfl rfl rfl rfl rfl (by omega) (by omega) ?_
   refine eo rfl rfl rfl (by decide) rfl rfl (by omega) rfl ?_
   refine bC rfl rfl rfl (aD ?_)
   refine ⟨by kernel_rfl, ?_⟩
   refine aC ?_
   refine av rfl (fun hc4 => ?_) (fun hc4 => ?_)
   ·
    refine aE (cQ mixed rfl (Hq rfl (bR rfl (Hq rfl (bR rfl (Hq rfl (bR rfl ?_)))))))
    refine eP rfl rfl rfl rfl rfl (by omega) ?_
    refine eo rfl rfl rfl (by decide) rfl rfl (by omega) rfl ?_
    refine aZ rfl rfl rfl (by exact Nat.le_of_ble_eq_true rfl) ?_
    refine bL rfl rfl (by decide) rfl rfl (by exact Nat.le_of_ble_eq_true rfl) ?_
    refine ah (Di th h1 h2 has less (nth (bQ fl a z.1.1) u.1.1) (hf _ hwj.1)) rfl rfl rfl rfl rfl ?_
    refine cD rfl rfl (by omega) (by omega) ?_
    refine bL rfl rfl (by decide) rfl rfl (by exact Nat.le_of_ble_eq_true rfl) ?_
    refine bR rfl ?_
    refine gV rfl rfl rfl rfl rfl (by omega) (by omega) ?_
    refine jW rfl rfl rfl (by decide) rfl rfl (by exact (rfl : _ = Ty.int _ _)) rfl (by omega) (by decide) rfl rfl ?_
    refine gV rfl rfl rfl rfl rfl (by omega) (by omega) ?_
    refine y5 (E := fY) (z := (nth (bQ fl a z.1.1) u.1.1)) ((nth (bQ fl a z.1.1) u.1.1).fin fl).toNat rfl rfl rfl (by decide) rfl rfl rfl (by omega) ?_
    refine cE rfl (aD ?_)
    refine ⟨by kernel_rfl, ?_⟩
    refine aC (aE (aA (bR rfl (bR rfl ?_))))
    refine gz rfl rfl (by omega) (by omega) ?_
    refine bC rfl rfl rfl (aD (aC ?_))
    refine av rfl (fun hc5 => ?_) (fun hc5 => ?_)
    ·
     refine cg (fy rfl (aT (aT (fy rfl (fy rfl (aT (aT (fy rfl (aT ?_)))))))))
     refine fy rfl (aT (aT (bA rfl (aC (aE (aE ?_))))))
     obtain ⟨v, st, e1, e2, e3, hFd⟩ := u.2.hit hN hG hzn hun hc4 hc5
     obtain ⟨T, p, hC, p1, p2, p3, hX⟩ := hFd.Mu hN
     refine gI (tg := 25) rfl (Cont.eY e2) ?_
     refine fq (s := 9) rfl (Ty.af e3) ?_
     refine aA (bR rfl (bR rfl (aD (aC (au ?_)))))
     refine cZ (fun (i : {i : Nat // i ≤ (y.cells + 1)}) => live [(0, Ty.pp (eE y fl 1000 fl.length)), (5, Ty.int .i64 ((y.cells + 1) : Nat)), (7, Ty.vs 25 (y.cells + 1)), (9, Ty.int .i64 ((fL (cF fl st) i.1 v : Nat) : Int)), (87, Ty.int .i64 ((y.cells + 1) : Nat)), (88, Ty.int .i64 ((i.1 : Nat) : Int))] [(1000, Cont.vec c7 3 a), (25, Cont.vec fY 199 st.by_)]) (fun i => (y.cells + 1) - i.1) (⟨0, by omega⟩) ?_ fun i => ?_
     ·(refine dG.mk' ?_ ?_ <;> (repeat' (first | exact aJ | exact aI | refine aB ?_ (Ty.aX _) | refine aB ?_ (Ty.aF _) | refine aG rfl (Cont.aF _) ?_)))
     refine aE (aA (bC rfl rfl rfl (aD (aC (aE ?_)))))
     refine av rfl (fun hc6 => ?_) (fun hc6 => ?_)
     ·
      refine ak (aC (aE (au ?_)))
      have hch := hFd.chain hN (k := i.1) (by omega)
      have hbl := hFd.len
      refine aA (jZ rfl (Hq rfl (bR rfl ?_)))
      refine eP rfl rfl rfl rfl rfl (by omega) ?_
      refine oM (fL (cF fl st) i.1 v) rfl rfl rfl (by decide) rfl rfl rfl (by omega) ?_
      refine dU [1000] (zR y fl a (nth st.by_ (fL (cF fl st) i.1 v)) hch.2.1.1) rfl (aM (j6 (aM (aa (bG rfl rfl)) (aM (aa (bG rfl rfl)) (aM (aa (bG rfl rfl)) (aM (aa (bG rfl rfl)) (aM (aa (bG rfl rfl)) (aM (gO rfl hal (by decide) rfl) bY))))))) (aM (aa (bG rfl rfl)) bY)) (by exact dH _ _) ?_
      refine cE rfl (aD (bf (aC (aA ?_))))
      refine cD rfl rfl (by omega) (by omega) ?_
      refine bR rfl (aD ?_)
      refine bp (⟨i.1 + 1, by omega⟩) ?_ (by show (y.cells + 1) - (i.1 + 1) < (y.cells + 1) - i.1; omega)
      (refine dG.mk' ?_ ?_ <;> (repeat' (first | exact aJ | exact aI | refine aB ?_ (Ty.aX _) | refine aB ?_ (Ty.aF _) | refine aG rfl (Cont.aF _) ?_ | refine aB ?_ ?_)))
      all_goals skip
      all_goals exact Ty.af hch.2.2
     refine cg (aT (aT (bA rfl (aC (aE ?_)))))
     have hbl := hFd.len
     have hin : i.1 = (y.cells + 1) := by have := i.2; omega
     refine fq (s := 9) rfl (Ty.af (by rw [hin] : _ = ((fL (cF fl st) (y.cells + 1) v : Nat) : Int))) ?_
     refine aA (l9 rfl (aD (aC (aE (aE (aA (bR rfl (cE rfl (aD ?_)))))))))
     refine aC (au ?_)
     refine cZ (fun (c : {c : Nat × List Way // Jb fl a (y.cells + 1) st (fL (cF fl st) (y.cells + 1) v) p c}) => live [(0, Ty.pp (eE y fl 1000 fl.length)), (7, Ty.vs 25 (y.cells + 1)), (9, Ty.int .i64 ((fL (cF fl st) (y.cells + 1) v : Nat) : Int)), (16, Ty.row fY 199 118 c.1.2), (17, Ty.int .i64 ((c.1.1 : Nat) : Int))] [(1000, Cont.vec c7 3 a), (25, Cont.vec fY 199 st.by_)]) (fun c => p - c.1.2.length) (⟨(fL (cF fl st) (y.cells + 1) v, []), hX⟩) ?_ fun c => ?_
     ·(refine dG.mk' ?_ ?_ <;> (repeat' (first | exact aJ | exact aI | refine aB ?_ (Ty.aX _) | refine aB ?_ (Ty.aF _) | refine aB ?_ Ty.kX | refine aG rfl (Cont.aF _) ?_)))
      all_goals trace_state
     have hcx := c.2.at_
     have hci : c.1.2.length ≤ p := by obtain ⟨i, i1, _, i3⟩ := c.2.ix; omega
     refine aE (aE (aA (IN rfl (mW rfl rfl rfl (bC rfl rfl rfl (fu rfl ?_))))))
     apply aL (s := 101) rfl rfl rfl
     ·intro hg; apply aP; (refine bR rfl ?_); refine aD ?_; exact rfl
     ·exact rfl
     ·exact rfl
     apply aL (s := 101) rfl rfl rfl
     ·intro hg; apply aP; (refine bR rfl ?_); refine aD ?_; exact rfl
     ·exact rfl
     ·exact rfl
     apply aL (s := 101) rfl rfl rfl
     ·intro hg; apply aK (s := 102) rfl (by (rw [hg]; rfl)); apply aK (s := 103) rfl (by (rw [hg]; rfl)); apply aP; (refine bC rfl rfl rfl ?_); refine aD ?_; exact rfl
     ·exact rfl
     ·exact rfl
     refine iQ rfl rfl (aD (aC ?_))
     refine cr rfl (fun hc7 => ?_) (fun hc7 => ?_)
     ·
      refine ak (aC (aE (au (aA (IN rfl (Hq rfl (bR rfl ?_)))))))
      refine eP rfl rfl rfl rfl rfl (by omega) ?_
      refine oM c.1.1 rfl rfl rfl (by decide) rfl rfl rfl (by omega) ?_
      refine bt (E := fY) (xs := [_]) rfl rfl rfl rfl rfl (by decide) (by decide) (by repeat (first | exact (aW.nil : aW _ _ [] _) | (show aW _ _ ((_, _) :: _) _; apply aW.agg; (· exact (rfl : _ = Ty.agg _))))) (by exact rfl) rfl ?_
      refine fJ rfl rfl (by decide) rfl rfl rfl rfl rfl rfl (by decide) (by (simp <;> omega)) (by (simp <;> omega)) ?_
      refine Ew rfl (aD (bf (aC (aA (jZ rfl (Hq rfl (bR rfl ?_)))))))
      refine eP rfl rfl rfl rfl rfl (by omega) ?_
      refine oM c.1.1 rfl rfl rfl (by decide) rfl rfl rfl (by omega) ?_
      refine dU [1000] (zR y fl a (nth st.by_ c.1.1) hcx.2.1.1) rfl (aM (j6 (aM (aa (bG rfl rfl)) (aM (aa (bG rfl rfl)) (aM (aa (bG rfl rfl)) (aM (aa (bG rfl rfl)) (aM (aa (bG rfl rfl)) (aM (gO rfl hal (by decide) rfl) bY))))))) (aM (aa (bG rfl rfl)) bY)) (by exact dH _ _) ?_
      refine cE rfl (aD ?_)
      refine bp (⟨(cF fl st c.1.1, c.1.2 ++ [nth st.by_ c.1.1]), (c.2.next hN hC p3 p1 (JW hc7)).1⟩) ?_ (by exact LF (c.2.next hN hC p3 p1 (JW hc7)).2)
      (refine dG.mk' ?_ ?_ <;> (repeat' (first | exact aJ | exact aI | refine aB ?_ (Ty.aX _) | refine aB ?_ (Ty.aF _) | refine aG rfl (Cont.aF _) ?_ | refine aB ?_ ?_)))
      all_goals skip
      all_goals exact Ty.af hcx.2.2
     refine cg (aT (aT (bA rfl (aC (aE (aA (IN rfl (Ew rfl (aD ?_)))))))))
     refine aC (az (tY ?_))
     refine fN [1000] rfl rfl (by decide) (by repeat (first | exact dn | refine cw rfl (bV (by decide) rfl) ?_)) ?_
     all_goals skip
     all_goals exact Ce (by decide) rfl (by rw [hFd.same]; exact c.2.end (Lr hc7)) (by rw [hFd.same]; exact Mm c.2 (Lr hc7))
    refine ak (bf (aC (aA ?_)))
    refine cD rfl rfl (by omega) (by omega) ?_
    refine bR rfl (aD ?_)
    refine bp (⟨(u.1.1 + 1, mU fl (cz has less) u.1.2 z.1.1 (nth (bQ fl a z.1.1) u.1.1)), by exact u.2.K4 hN hG hzn hun hc4 hc5⟩) ?_ (by show (bQ fl a z.1.1).length - (u.1.1 + 1) < (bQ fl a z.1.1).length - u.1.1; omega)
    (refine dG.mk' ?_ ?_ <;> (repeat' (first | exact aJ | exact aI | refine aB ?_ (Ty.aX _) | refine aB ?_ (Ty.aF _) | refine aG rfl (Cont.aF _) ?_ | refine aG rfl ?_ ?_ | refine aB ?_ ?_)))
    all_goals skip
    all_goals first | exact Cont.eY (LZ hc4) | exact Cont.eY (Lt hc4) | exact Ty.af (LL hc4)
   refine ak (bf (aC (aA ?_)))
   refine cD rfl rfl (by omega) (by omega) ?_
   refine bR rfl (aD ?_)
   refine bp (⟨(u.1.1 + 1, mU fl (cz has less) u.1.2 z.1.1 (nth (bQ fl a z.1.1) u.1.1)), by exact u.2.Lb hzn hun hc4⟩) ?_ (by show (bQ fl a z.1.1).length - (u.1.1 + 1) < (bQ fl a z.1.1).length - u.1.1; omega)
   (refine dG.mk' ?_ ?_ <;> (repeat' (first | exact aJ | exact aI | refine aB ?_ (Ty.aX _) | refine aB ?_ (Ty.aF _) | refine aG rfl (Cont.aF _) ?_ | refine aG rfl ?_ ?_ | refine aB ?_ ?_)))
   all_goals skip
   all_goals first | exact Cont.eY (L8 hc4) | exact Cont.eY (LP hc4) | exact Ty.af (Ly hc4)
  refine cg (aT (aT (bA rfl (bf (aC (aA ?_))))))
  refine cD rfl rfl (by omega) (by omega) ?_
  refine bR rfl (aD ?_)
  refine bp (⟨(z.1.1 + 1, u.1.2), u.2.cell (by show ¬ (y.cells + 1) ≤ z.1.1; omega) (by show (bQ fl a z.1.1).length ≤ u.1.1; omega)⟩) ?_ (by show (y.cells + 1) - (z.1.1 + 1) < (y.cells + 1) - z.1.1; omega)
  (refine dG.mk' ?_ ?_ <;> (repeat' (first | exact aJ | exact aI | refine aB ?_ (Ty.aX _) | refine aB ?_ (Ty.aF _) | refine aG rfl (Cont.aF _) ?_)))
  all_goals skip
 refine cg (aT (aT (bA rfl (aC (aE (aA (bR rfl (bC rfl rfl rfl (aD ?_)))))))))
 refine aC ?_
 refine av rfl (fun hc8 => ?_) (fun hc8 => ?_)
 ·
  refine aE (aA (l9 rfl (aD (aC (az (bJ (aV (aV (bJ ?_)))))))))
  refine aV (tY ?_)
  refine fN [1000] rfl rfl (by decide) (by repeat (first | exact dn | refine cw rfl (bV (by decide) rfl) ?_)) ?_
  all_goals skip
  all_goals exact Cg (z.2.stop (by show (y.cells + 1) ≤ z.1.1; omega) (by assumption))
 refine ak (bf (aC (aA ?_)))
 refine cD rfl rfl (by omega) (by omega) ?_
 refine bR rfl (aD ?_)
 refine bp (⟨(x.1.1 + 1, ⟨z.1.2.worth, z.1.2.by_, -1⟩), z.2.round (by show (y.cells + 1) ≤ z.1.1; omega) (by assumption), rfl⟩) ?_ (by show (y.cells + 1) - (x.1.1 + 1) < (y.cells + 1) - x.1.1; omega)
 (refine dG.mk' ?_ ?_ <;> (repeat' (first | exact aJ | exact aI | refine aB ?_ (Ty.aX _) | refine aB ?_ (Ty.aF _) | refine aG rfl (Cont.aF _) ?_)))
 all_goals skip
end Go.Proofs.YtelbollidfdcjaaGreat
