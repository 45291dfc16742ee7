/- Lemmas: the program and the reference walked, plain laws. -/
import Derived.Test.YtelbollidfdcjaaGreatFb
namespace Go.Proofs.YtelbollidfdcjaaGreat
open Go Go.T
set_option maxHeartbeats 2000000
structure bD.Small (y : bD) : Prop where
  bins : y.bins.length ≤ 1000
  moves : y.moves.length ≤ 1000
  levels : y.levels.length ≤ 1000
def xG (y : bD) : Ty := Ty.L8 135 [ff y]
def E4 (y : bD) : Ty := Ty.pp [Ty.jX 142 [Ty.pp [xG y]]]
theorem E9 {y : bD} (h : mB y = false) : 1 ≤ y.days ∧ y.days ≤ 5 := by
 unfold mB at h
 simp only [Bool.or_eq_false_iff, Bool.not_eq_false', iL] at h
 exact h.1.1.1
def eP (y : bD) (k : Int) : Int := if bX y = 0 then if y.bin k = true then 0 else 1 else bX y
theorem Eu {y : bD} {k : Int} (h : (decide (bX y = 0) && !y.bin k) = true) : 1 = eP y k := by
 rw [Bool.and_eq_true, decide_eq_true_eq, Bool.not_eq_true'] at h
 unfold eP; rw [if_pos h.1, if_neg (by rw [h.2]; decide)]
theorem FP {y : bD} {k : Int} (h : (decide (bX y = 0) && !y.bin k) = false) : bX y = eP y k := by
 unfold eP
 by_cases e : bX y = 0
 ·rw [decide_eq_true e, Bool.true_and, Bool.not_eq_false'] at h
  rw [if_pos e, if_pos h, e]
 rw [if_neg e]
attribute [local irreducible] iY fX nD qR jG jJ jI jK jF qu jD qw eJ gm qF gx ql nth fU dn af dy bodyPost Exit.then Exit.inBlock Code.wp Code.wpIn qh jH qi qX jC eT cZ cq bodyPostM eR
set_option maxRecDepth 100000 in
theorem tR (n lo hi : Int) : dy Tryz.prog 111 [Ty.int .i64 n, Ty.int .i64 lo, Ty.int .i64 hi] (Ty.bool (Bo n lo hi)) := by
 refine av Tryz.func111 rfl (by decide) Tryz.ntmps111 (by exact Nat.le_of_ble_eq_true rfl) fun w0 M0 => ?_
 refine aE (aA (dX rfl (aD (aC (aE (aA (bQ rfl (bQ rfl (bE rfl rfl rfl ?_)))))))))
 refine gR rfl ?_
 apply aS (s := 10) rfl rfl rfl
 ·intro hg; apply aU; (refine bQ rfl ?_); refine aD ?_; exact rfl
 ·exact rfl
 ·exact rfl
 apply aS (s := 10) rfl rfl rfl
 ·intro hg; apply aU; (refine bQ rfl ?_); refine aD ?_; exact rfl
 ·exact rfl
 ·exact rfl
 apply aS (s := 10) rfl rfl rfl
 ·intro hg; apply aP (s := 11) rfl (by (rw [hg]; rfl)); apply aP (s := 12) rfl (by (rw [hg]; rfl)); apply aU; (refine bE rfl rfl rfl ?_); refine aD ?_; exact rfl
 ·exact rfl
 ·exact rfl
 refine eo rfl rfl (dX rfl (aD (aC (ay (bh rfl rfl ?_)))))
 all_goals exact cM rfl rfl
set_option maxRecDepth 100000 in
theorem DL (y : bD) (hs : y.Small) (n : Int) : dy Tryz.prog 135 [ff y, Ty.int .i64 n] (Ty.bool (y.bin n)) := by
 refine av Tryz.func135 rfl (by decide) Tryz.ntmps135 (by exact Nat.le_of_ble_eq_true rfl) fun w0 M0 => ?_
 have hs1 := hs.bins
 refine aE (aA (bR rfl (dX rfl (aD (aC (aE (aA (bQ rfl ?_))))))))
 refine aQ rfl rfl rfl rfl rfl (by decide) ?_
 refine aL rfl rfl rfl rfl (c9 rfl rfl rfl ?_)
 refine gw rfl rfl (by omega) (by omega) ?_
 refine aj (tR _ _ _) rfl rfl rfl rfl rfl (dX rfl (aD (aC (ay (bh rfl rfl ?_)))))
 all_goals exact cM rfl rfl
set_option maxRecDepth 100000 in
theorem Lv (y : bD) (n : Int) : dy Tryz.prog 122 [ff y, Ty.int .i64 n] (Ty.bool (y.time n)) := by
 refine av Tryz.func122 rfl (by decide) Tryz.ntmps122 (by exact Nat.le_of_ble_eq_true rfl) fun w0 M0 => ?_
 refine aE (aA (bR rfl (dX rfl (aD (aC (aE (aA (bQ rfl ?_))))))))
 refine aQ rfl rfl rfl rfl rfl (by decide) ?_
 refine aL rfl rfl rfl rfl (aj (tR _ _ _) rfl rfl rfl rfl rfl (dX rfl (aD (aC (ay (bh rfl rfl ?_))))))
 all_goals exact cM rfl rfl
set_option maxRecDepth 100000 in
theorem sV (s : Span) : dy Tryz.prog 145 [Ty.agg (dz.tys s)] (Ty.bool (gS s)) := by
 refine av Tryz.func145 rfl (by decide) Tryz.ntmps145 (by exact Nat.le_of_ble_eq_true rfl) fun w0 M0 => ?_
 refine aE (aA (bR rfl (dX rfl (aD (aC (aE (aA ?_)))))))
 refine aQ rfl rfl rfl rfl rfl (by decide) ?_
 refine aL rfl rfl rfl rfl (aj (tR _ _ _) rfl rfl rfl rfl rfl (gR rfl ?_))
 apply aS (s := 6) rfl rfl rfl
 ·intro hg; apply aU; (refine aQ rfl rfl rfl rfl rfl (by decide) ?_); refine aD ?_; exact rfl
 ·exact rfl
 ·exact rfl
 apply aS (s := 6) rfl rfl rfl
 ·intro hg; apply aP (s := 7) rfl (by (rw [hg]; rfl)); apply aU; (refine aL rfl rfl rfl rfl ?_); refine aD ?_; exact rfl
 ·exact rfl
 ·exact rfl
 apply aS (s := 6) rfl rfl rfl
 ·intro hg; apply aP (s := 8) rfl (by (rw [hg]; rfl)); apply aU; (refine aj (tR _ _ _) rfl rfl rfl rfl rfl ?_); refine aD ?_; exact rfl
 ·exact rfl
 ·exact rfl
 refine eo rfl rfl (dX rfl (aD (aC (ay (bh rfl rfl ?_)))))
 all_goals exact cM rfl rfl
set_option maxRecDepth 100000 in
theorem vJ (s : Span) : dy Tryz.prog 154 [Ty.agg (dz.tys s)] (Ty.bool (hO s)) := by
 refine av Tryz.func154 rfl (by decide) Tryz.ntmps154 (by exact Nat.le_of_ble_eq_true rfl) fun w0 M0 => ?_
 refine aE (aA (bR rfl (dX rfl (aD (aC (aE (aA ?_)))))))
 refine aQ rfl rfl rfl rfl rfl (by decide) ?_
 refine aL rfl rfl rfl rfl ?_
 refine aQ rfl rfl rfl rfl rfl (by decide) ?_
 refine aL rfl rfl rfl rfl (bE rfl rfl rfl (dX rfl (aD (aC (ay (bh rfl rfl ?_))))))
 all_goals exact cM rfl rfl
set_option maxRecDepth 100000 in
theorem Br (y : bD) (hs : y.Small) (n : Int) : dy Tryz.prog 142 [Ty.int .i64 n, Ty.pp [xG y]] (Ty.bool (y.fin n)) := by
 refine av Tryz.func142 rfl (by decide) Tryz.ntmps142 (by exact Nat.le_of_ble_eq_true rfl) fun w0 M0 => ?_
 refine aE (aA (dX rfl (aD (aC (aE (aA (bQ rfl (bE rfl rfl rfl (gR rfl ?_)))))))))
 apply aS (s := 6) rfl rfl rfl
 ·intro hg; apply aU; (refine aL rfl rfl rfl rfl ?_); refine aD ?_; exact rfl
 ·exact rfl
 ·exact rfl
 apply aS (s := 6) rfl rfl rfl
 ·intro hg; apply aU; (refine bQ rfl ?_); refine aD ?_; exact rfl
 ·exact rfl
 ·exact rfl
 apply aS (s := 6) rfl rfl rfl
 ·intro hg; apply aP (s := 7) rfl (by (rw [hg]; rfl)); apply aP (s := 8) rfl (by (rw [hg]; rfl)); apply aU; (refine eX rfl (D0 (DL y hs n) rfl rfl rfl rfl rfl rfl) rfl ?_); refine aD ?_; exact rfl
 ·exact rfl
 ·exact rfl
 refine mQ rfl rfl (dX rfl (aD (aC (ay (bh rfl rfl ?_)))))
 all_goals exact cM rfl rfl
set_option maxRecDepth 100000 in
theorem Gm (b : w5) : dy Tryz.prog 144 [Ty.agg (eH.tys b)] (Ty.bool (Bo b.holds 0 300 && gS b.first)) := by
 refine av Tryz.func144 rfl (by decide) Tryz.ntmps144 (by exact Nat.le_of_ble_eq_true rfl) fun w0 M0 => ?_
 refine aE (aA (bR rfl (dX rfl (aD (aC (aE (aA ?_)))))))
 refine aQ rfl rfl rfl rfl rfl (by decide) ?_
 refine aL rfl rfl rfl rfl (aj (tR _ _ _) rfl rfl rfl rfl rfl (gR rfl ?_))
 apply aS (s := 6) rfl rfl rfl
 ·intro hg; apply aU; (refine aQ rfl rfl rfl rfl rfl (by decide) ?_); refine aD ?_; exact rfl
 ·exact rfl
 ·exact rfl
 apply aS (s := 6) rfl rfl rfl
 ·intro hg; apply aP (s := 7) rfl (by (rw [hg]; rfl)); apply aU; (refine aZ rfl rfl rfl (by exact Nat.le_of_ble_eq_true rfl) ?_); refine aD ?_; exact rfl
 ·exact rfl
 ·exact rfl
 apply aS (s := 6) rfl rfl rfl
 ·intro hg; apply aP (s := 8) rfl (by (rw [hg]; rfl)); apply aU; (refine aj (sV _) rfl rfl rfl rfl rfl ?_); refine aD ?_; exact rfl
 ·exact rfl
 ·exact rfl
 refine eo rfl rfl (dX rfl (aD (aC (ay (bh rfl rfl ?_)))))
 all_goals exact cM rfl rfl
set_option maxRecDepth 100000 in
theorem GU (m : Move) : dy Tryz.prog 147 [Ty.agg (dQ.tys m)] (Ty.bool (gS m.sacks)) := by
 refine av Tryz.func147 rfl (by decide) Tryz.ntmps147 (by exact Nat.le_of_ble_eq_true rfl) fun w0 M0 => ?_
 refine aE (aA (bR rfl (dX rfl (aD (aC (aE (aA ?_)))))))
 refine aQ rfl rfl rfl rfl rfl (by decide) ?_
 refine aZ rfl rfl rfl (by exact Nat.le_of_ble_eq_true rfl) ?_
 refine aj (sV _) rfl rfl rfl rfl rfl (dX rfl (aD (aC (ay (bh rfl rfl ?_)))))
 all_goals exact cM rfl rfl
set_option maxRecDepth 100000 in
theorem IE (l : Level) : dy Tryz.prog 149 [Ty.agg (dY.tys l)] (Ty.bool (gS l.sacks)) := by
 refine av Tryz.func149 rfl (by decide) Tryz.ntmps149 (by exact Nat.le_of_ble_eq_true rfl) fun w0 M0 => ?_
 refine aE (aA (bR rfl (dX rfl (aD (aC (aE (aA ?_)))))))
 refine aQ rfl rfl rfl rfl rfl (by decide) ?_
 refine aZ rfl rfl rfl (by exact Nat.le_of_ble_eq_true rfl) ?_
 refine aj (sV _) rfl rfl rfl rfl rfl (dX rfl (aD (aC (ay (bh rfl rfl ?_)))))
 all_goals exact cM rfl rfl
set_option maxRecDepth 100000 in
theorem Gg (y : bD) (hs : y.Small) (hd : 1 ≤ y.days ∧ y.days ≤ 5) (m : Move) : dy Tryz.prog 150 [Ty.agg (dQ.tys m), Ty.pp (bl y), E4 y] (Ty.bool ((Bo m.day 0 (y.days - 1) && y.fin m.src) && y.fin m.dst)) := by
 refine av Tryz.func150 rfl (by decide) Tryz.ntmps150 (by exact Nat.le_of_ble_eq_true rfl) fun w0 M0 => ?_
 refine aE (aA (bR rfl (dX rfl (aD (aC (aE (aA ?_)))))))
 refine aQ rfl rfl rfl rfl rfl (by decide) ?_
 refine aL rfl rfl rfl rfl ?_
 refine aQ rfl rfl rfl rfl rfl (by decide) ?_
 refine aL rfl rfl rfl rfl ?_
 refine gw rfl rfl (by omega) (by omega) ?_
 refine aj (tR _ _ _) rfl rfl rfl rfl rfl (gR rfl ?_)
 apply aS (s := 11) rfl rfl rfl
 ·intro hg; apply aU; (refine aL rfl rfl rfl rfl ?_); refine aD ?_; exact rfl
 ·exact rfl
 ·exact rfl
 apply aS (s := 11) rfl rfl rfl
 ·intro hg; apply aU; (refine aQ rfl rfl rfl rfl rfl (by decide) ?_); refine aD ?_; exact rfl
 ·exact rfl
 ·exact rfl
 apply aS (s := 11) rfl rfl rfl
 ·intro hg; apply aP (s := 13) rfl (by (rw [hg]; rfl)); apply aU; (refine aL rfl rfl rfl rfl ?_); refine aD ?_; exact rfl
 ·exact rfl
 ·exact rfl
 apply aS (s := 11) rfl rfl rfl
 ·intro hg; apply aP (s := 12) rfl (by (rw [hg]; rfl)); apply aP (s := 14) rfl (by (rw [hg]; rfl)); apply aU; (refine eX rfl (dU (Br y hs m.src) rfl rfl rfl rfl rfl rfl) rfl ?_); refine aD ?_; exact rfl
 ·exact rfl
 ·exact rfl
 refine eo rfl rfl (gR rfl ?_)
 apply aS (s := 17) rfl rfl rfl
 ·intro hg; apply aU; (refine aL rfl rfl rfl rfl ?_); refine aD ?_; exact rfl
 ·exact rfl
 ·exact rfl
 apply aS (s := 17) rfl rfl rfl
 ·intro hg; apply aU; (refine aQ rfl rfl rfl rfl rfl (by decide) ?_); refine aD ?_; exact rfl
 ·exact rfl
 ·exact rfl
 apply aS (s := 17) rfl rfl rfl
 ·intro hg; apply aP (s := 19) rfl (by (rw [hg]; rfl)); apply aU; (refine aL rfl rfl rfl rfl ?_); refine aD ?_; exact rfl
 ·exact rfl
 ·exact rfl
 apply aS (s := 17) rfl rfl rfl
 ·intro hg; apply aP (s := 18) rfl (by (rw [hg]; rfl)); apply aP (s := 20) rfl (by (rw [hg]; rfl)); apply aU; (refine eX rfl (dU (Br y hs m.dst) rfl rfl rfl rfl rfl rfl) rfl ?_); refine aD ?_; exact rfl
 ·exact rfl
 ·exact rfl
 refine eo rfl rfl (dX rfl (aD (aC (ay (bh rfl rfl ?_)))))
 all_goals exact cM rfl rfl
set_option maxRecDepth 100000 in
theorem GB (y : bD) (hs : y.Small) (l : Level) : dy Tryz.prog 151 [Ty.agg (dY.tys l), Ty.pp (bl y), Ty.pp [xG y]] (Ty.bool (y.time l.day && y.bin l.bin)) := by
 refine av Tryz.func151 rfl (by decide) Tryz.ntmps151 (by exact Nat.le_of_ble_eq_true rfl) fun w0 M0 => ?_
 refine aE (aA (bR rfl (dX rfl (aD (aC (aE (aA ?_)))))))
 refine aZ rfl rfl rfl (by exact Nat.le_of_ble_eq_true rfl) ?_
 refine aQ rfl rfl rfl rfl rfl (by decide) ?_
 refine aL rfl rfl rfl rfl (aj (Lv y _) rfl rfl rfl rfl rfl (gR rfl ?_))
 apply aS (s := 9) rfl rfl rfl
 ·intro hg; apply aU; (refine aL rfl rfl rfl rfl ?_); refine aD ?_; exact rfl
 ·exact rfl
 ·exact rfl
 apply aS (s := 9) rfl rfl rfl
 ·intro hg; apply aU; (refine aQ rfl rfl rfl rfl rfl (by decide) ?_); refine aD ?_; exact rfl
 ·exact rfl
 ·exact rfl
 apply aS (s := 9) rfl rfl rfl
 ·intro hg; apply aP (s := 11) rfl (by (rw [hg]; rfl)); apply aU; (refine aL rfl rfl rfl rfl ?_); refine aD ?_; exact rfl
 ·exact rfl
 ·exact rfl
 apply aS (s := 9) rfl rfl rfl
 ·intro hg; apply aP (s := 10) rfl (by (rw [hg]; rfl)); apply aP (s := 12) rfl (by (rw [hg]; rfl)); apply aU; (refine eX rfl (D0 (DL y hs l.bin) rfl rfl rfl rfl rfl rfl) rfl ?_); refine aD ?_; exact rfl
 ·exact rfl
 ·exact rfl
 refine eo rfl rfl (dX rfl (aD (aC (ay (bh rfl rfl ?_)))))
 all_goals exact cM rfl rfl
set_option maxRecDepth 100000 in
theorem Hs (m : Move) : dy Tryz.prog 152 [Ty.agg (dQ.tys m)] (Ty.bool (!decide (m.src = m.dst))) := by
 refine av Tryz.func152 rfl (by decide) Tryz.ntmps152 (by exact Nat.le_of_ble_eq_true rfl) fun w0 M0 => ?_
 refine aE (aA (bR rfl (dX rfl (aD (aC (aE (aA ?_)))))))
 refine aQ rfl rfl rfl rfl rfl (by decide) ?_
 refine aL rfl rfl rfl rfl ?_
 refine aQ rfl rfl rfl rfl rfl (by decide) ?_
 refine aL rfl rfl rfl rfl (bE rfl rfl rfl (dX rfl (aD (aC (ay (bh rfl rfl ?_))))))
 all_goals exact cM rfl rfl
set_option maxRecDepth 100000 in
theorem GA (b : w5) : dy Tryz.prog 153 [Ty.agg (eH.tys b)] (Ty.bool (hO b.first)) := by
 refine av Tryz.func153 rfl (by decide) Tryz.ntmps153 (by exact Nat.le_of_ble_eq_true rfl) fun w0 M0 => ?_
 refine aE (aA (bR rfl (dX rfl (aD (aC (aE (aA ?_)))))))
 refine aQ rfl rfl rfl rfl rfl (by decide) ?_
 refine aZ rfl rfl rfl (by exact Nat.le_of_ble_eq_true rfl) ?_
 refine aj (vJ _) rfl rfl rfl rfl rfl (dX rfl (aD (aC (ay (bh rfl rfl ?_)))))
 all_goals exact cM rfl rfl
set_option maxRecDepth 100000 in
theorem G4 (m : Move) : dy Tryz.prog 155 [Ty.agg (dQ.tys m)] (Ty.bool (hO m.sacks)) := by
 refine av Tryz.func155 rfl (by decide) Tryz.ntmps155 (by exact Nat.le_of_ble_eq_true rfl) fun w0 M0 => ?_
 refine aE (aA (bR rfl (dX rfl (aD (aC (aE (aA ?_)))))))
 refine aQ rfl rfl rfl rfl rfl (by decide) ?_
 refine aZ rfl rfl rfl (by exact Nat.le_of_ble_eq_true rfl) ?_
 refine aj (vJ _) rfl rfl rfl rfl rfl (dX rfl (aD (aC (ay (bh rfl rfl ?_)))))
 all_goals exact cM rfl rfl
set_option maxRecDepth 100000 in
theorem EU (l : Level) : dy Tryz.prog 156 [Ty.agg (dY.tys l)] (Ty.bool (hO l.sacks)) := by
 refine av Tryz.func156 rfl (by decide) Tryz.ntmps156 (by exact Nat.le_of_ble_eq_true rfl) fun w0 M0 => ?_
 refine aE (aA (bR rfl (dX rfl (aD (aC (aE (aA ?_)))))))
 refine aQ rfl rfl rfl rfl rfl (by decide) ?_
 refine aZ rfl rfl rfl (by exact Nat.le_of_ble_eq_true rfl) ?_
 refine aj (vJ _) rfl rfl rfl rfl rfl (dX rfl (aD (aC (ay (bh rfl rfl ?_)))))
 all_goals exact cM rfl rfl
set_option maxRecDepth 100000 in
theorem kB (y : bD) (hs : y.Small) : dy Tryz.prog 70 [ff y] (Ty.int .i64 (bX y)) := by
 refine av Tryz.func70 rfl (by decide) Tryz.ntmps70 (by exact Nat.le_of_ble_eq_true rfl) fun w0 M0 => ?_
 have hs1 := hs.bins
 have hs2 := hs.moves
 have hs3 := hs.levels
 refine aE (aA (bR rfl (cF rfl (aD (aC (aE (aA ?_)))))))
 refine aZ rfl rfl rfl (by exact Nat.le_of_ble_eq_true rfl) ?_
 refine EM (l := [ff y]) rfl ?_
 refine cH rfl (by exact List.cons_ne_nil _ _) rfl ?_
 refine cx rfl rfl (by decide) rfl rfl (by exact (rfl : _ = Ty.L8 _ _)) rfl (by exact Nat.le_of_ble_eq_true rfl) rfl rfl (by exact (rfl : _ = [_])) ?_
 refine aD (aC (aE ?_))
 refine kF (tg := 4) [(3, Ty.pp [xG y])] (by decide) rfl ⟨k6 (T := 118) (tg := 4) (off := 0) (l := [xG y]) rfl rfl rfl (by decide), trivial⟩ ?_
 refine aA (dL rfl ?_)
 refine cH rfl (by exact List.cons_ne_nil _ _) rfl ?_
 refine cx rfl rfl (by decide) rfl rfl (by exact (rfl : _ = Ty.jX _ _)) rfl (by exact Nat.le_of_ble_eq_true rfl) rfl rfl (by exact (rfl : _ = [_])) ?_
 refine aD (aC (aE (aq (aE ?_))))
 refine kF (tg := 5) [(4, E4 y)] (by decide) rfl ⟨k6 (T := 118) (tg := 5) (off := 0) (l := [Ty.jX 142 [Ty.pp [xG y]]]) rfl rfl rfl (by decide), trivial⟩ ?_
 refine aA ?_
 refine aQ rfl rfl rfl rfl rfl (by decide) ?_
 refine aL rfl rfl rfl rfl (aj (tR _ _ _) rfl rfl rfl rfl rfl (dm rfl (gR rfl ?_)))
 apply aS (s := 13) rfl rfl rfl
 ·intro hg; apply aU; (refine aQ rfl rfl rfl rfl rfl (by decide) ?_); refine aD ?_; exact rfl
 ·exact rfl
 ·exact rfl
 apply aS (s := 13) rfl rfl rfl
 ·intro hg; apply aP (s := 14) rfl (by (rw [hg]; rfl)); apply aU; (refine aL rfl rfl rfl rfl ?_); refine aD ?_; exact rfl
 ·exact rfl
 ·exact rfl
 apply aS (s := 13) rfl rfl rfl
 ·intro hg; apply aP (s := 15) rfl (by (rw [hg]; rfl)); apply aU; (refine c9 rfl rfl rfl ?_); refine aD ?_; exact rfl
 ·exact rfl
 ·exact rfl
 apply aS (s := 13) rfl rfl rfl
 ·intro hg; apply aP (s := 16) rfl (by (rw [hg]; rfl)); apply aU; (refine aj (tR _ _ _) rfl rfl rfl rfl rfl ?_); refine aD ?_; exact rfl
 ·exact rfl
 ·exact rfl
 apply aS (s := 13) rfl rfl rfl
 ·intro hg; apply aP (s := 17) rfl (by (rw [hg]; rfl)); apply aU; (refine dm rfl ?_); refine aD ?_; exact rfl
 ·exact rfl
 ·exact rfl
 refine mQ rfl rfl (gR rfl ?_)
 apply aS (s := 20) rfl rfl rfl
 ·intro hg; apply aU; (refine aQ rfl rfl rfl rfl rfl (by decide) ?_); refine aD ?_; exact rfl
 ·exact rfl
 ·exact rfl
 apply aS (s := 20) rfl rfl rfl
 ·intro hg; apply aP (s := 21) rfl (by (rw [hg]; rfl)); apply aU; (refine aL rfl rfl rfl rfl ?_); refine aD ?_; exact rfl
 ·exact rfl
 ·exact rfl
 apply aS (s := 20) rfl rfl rfl
 ·intro hg; apply aP (s := 22) rfl (by (rw [hg]; rfl)); apply aU; (refine c9 rfl rfl rfl ?_); refine aD ?_; exact rfl
 ·exact rfl
 ·exact rfl
 apply aS (s := 20) rfl rfl rfl
 ·intro hg; apply aP (s := 23) rfl (by (rw [hg]; rfl)); apply aU; (refine bE rfl rfl rfl ?_); refine aD ?_; exact rfl
 ·exact rfl
 ·exact rfl
 refine mQ rfl rfl (gR rfl ?_)
 apply aS (s := 26) rfl rfl rfl
 ·intro hg; apply aU; (refine aQ rfl rfl rfl rfl rfl (by decide) ?_); refine aD ?_; exact rfl
 ·exact rfl
 ·exact rfl
 apply aS (s := 26) rfl rfl rfl
 ·intro hg; apply aP (s := 27) rfl (by (rw [hg]; rfl)); apply aU; (refine aL rfl rfl rfl rfl ?_); refine aD ?_; exact rfl
 ·exact rfl
 ·exact rfl
 apply aS (s := 26) rfl rfl rfl
 ·intro hg; apply aP (s := 28) rfl (by (rw [hg]; rfl)); apply aU; (refine c9 rfl rfl rfl ?_); refine aD ?_; exact rfl
 ·exact rfl
 ·exact rfl
 apply aS (s := 26) rfl rfl rfl
 ·intro hg; apply aP (s := 29) rfl (by (rw [hg]; rfl)); apply aU; (refine bE rfl rfl rfl ?_); refine aD ?_; exact rfl
 ·exact rfl
 ·exact rfl
 refine mQ rfl rfl (dX rfl (aD (aC ?_)))
 refine cv rfl (fun hc1 => ?_) (fun hc1 => ?_)
 ·
  refine aE (aA (cF rfl (aD (aC (ay (bG (aV (bh rfl rfl ?_))))))))
  all_goals skip
  exact az rfl rfl (congrArg (Ty.int .i64) (by rw [bX, if_pos (show mB y = true from hc1)]))
 refine aE ?_
 refine dN (B := live [(1, Ty.pp (bl y)), (3, Ty.pp [xG y]), (4, E4 y)] []) ?_ ?_
 ·(refine dK.mk' ?_ ?_ <;> (repeat' (first | exact aJ | exact aI | refine aB ?_ (Ty.aW _) | refine aB ?_ (Ty.aF _))))
 refine aA ?_
 refine aQ rfl rfl rfl rfl rfl (by decide) ?_
 refine aL rfl rfl rfl rfl ?_
 refine aj (tU y.bins (Ty.jX _ []) rfl (fun b => Bo b.holds 0 300 && gS b.first) rfl rfl fun b _ => dU (Gm b) rfl rfl rfl rfl rfl rfl) rfl rfl rfl rfl rfl ?_
 refine dm rfl (dX rfl (aD (aC ?_)))
 refine cv rfl (fun hc2 => ?_) (fun hc2 => ?_)
 ·
  refine aE (aA (cF rfl (aD (aC (ay (bG (aV (bh rfl rfl ?_))))))))
  all_goals skip
  exact az rfl rfl (congrArg (Ty.int .i64) (by rw [bX, if_neg (ng (show mB y = false from hc1)), if_pos (show mO y = true from hc2)]))
 refine aE (aA ?_)
 refine aQ rfl rfl rfl rfl rfl (by decide) ?_
 refine aL rfl rfl rfl rfl ?_
 refine aj (mD y.moves (Ty.jX _ []) rfl (fun m => gS m.sacks) rfl rfl fun m _ => dU (GU m) rfl rfl rfl rfl rfl rfl) rfl rfl rfl rfl rfl ?_
 refine dm rfl (gR rfl ?_)
 apply aS (s := 42) rfl rfl rfl
 ·intro hg; apply aU; (refine aQ rfl rfl rfl rfl rfl (by decide) ?_); refine aD ?_; exact rfl
 ·exact rfl
 ·exact rfl
 apply aS (s := 42) rfl rfl rfl
 ·intro hg; apply aP (s := 43) rfl (by (rw [hg]; rfl)); apply aU; (refine aL rfl rfl rfl rfl ?_); refine aD ?_; exact rfl
 ·exact rfl
 ·exact rfl
 apply aS (s := 42) rfl rfl rfl
 ·intro hg; apply aP (s := 44) rfl (by (rw [hg]; rfl)); apply aU; (refine aj (oI y.levels (Ty.jX _ []) rfl (fun l => gS l.sacks) rfl rfl fun l _ => dU (IE l) rfl rfl rfl rfl rfl rfl) rfl rfl rfl rfl rfl ?_); refine aD ?_; exact rfl
 ·exact rfl
 ·exact rfl
 apply aS (s := 42) rfl rfl rfl
 ·intro hg; apply aP (s := 45) rfl (by (rw [hg]; rfl)); apply aU; (refine dm rfl ?_); refine aD ?_; exact rfl
 ·exact rfl
 ·exact rfl
 refine mQ rfl rfl (dX rfl (aD (aC ?_)))
 refine cv rfl (fun hc3 => ?_) (fun hc3 => ?_)
 ·
  refine aE (aA (cF rfl (aD (aC (ay (bG (aV (bh rfl rfl ?_))))))))
  all_goals skip
  exact az rfl rfl (congrArg (Ty.int .i64) (by rw [bX, if_neg (ng (show mB y = false from hc1)), if_neg (ng (show mO y = false from hc2)), if_pos (show kA y = true from hc3)]))
 refine aE ?_
 refine dN (B := live [(1, Ty.pp (bl y)), (3, Ty.pp [xG y]), (4, E4 y)] []) ?_ ?_
 ·(refine dK.mk' ?_ ?_ <;> (repeat' (first | exact aJ | exact aI | refine aB ?_ (Ty.aW _) | refine aB ?_ (Ty.aF _))))
 have hd := E9 hc1
 refine aA ?_
 refine aQ rfl rfl rfl rfl rfl (by decide) ?_
 refine aL rfl rfl rfl rfl (dL rfl ?_)
 refine aj (mD y.moves (Ty.jX _ [Ty.pp (bl y), E4 y]) rfl (fun m => (Bo m.day 0 (y.days - 1) && y.fin m.src) && y.fin m.dst) rfl rfl fun m _ => dU (Gg y hs hd m) rfl rfl rfl rfl rfl rfl) rfl rfl rfl rfl rfl ?_
 refine dm rfl (dX rfl (aD (aC ?_)))
 refine cv rfl (fun hc4 => ?_) (fun hc4 => ?_)
 ·
  refine aE (aA (cF rfl (aD (aC (ay (bG (aV (bh rfl rfl ?_))))))))
  all_goals skip
  exact az rfl rfl (congrArg (Ty.int .i64) (by rw [bX, if_neg (ng (show mB y = false from hc1)), if_neg (ng (show mO y = false from hc2)), if_neg (ng (show kA y = false from hc3)), if_pos (show BM y = true from hc4)]))
 refine aE (aA ?_)
 refine aQ rfl rfl rfl rfl rfl (by decide) ?_
 refine aL rfl rfl rfl rfl (dL rfl ?_)
 refine aj (oI y.levels (Ty.jX _ [Ty.pp (bl y), Ty.pp [xG y]]) rfl (fun l => y.time l.day && y.bin l.bin) rfl rfl fun l _ => dU (GB y hs l) rfl rfl rfl rfl rfl rfl) rfl rfl rfl rfl rfl ?_
 refine dm rfl (dX rfl (aD (aC ?_)))
 refine cv rfl (fun hc5 => ?_) (fun hc5 => ?_)
 ·
  refine aE (aA (cF rfl (aD (aC (ay (bG (aV (bh rfl rfl ?_))))))))
  all_goals skip
  exact az rfl rfl (congrArg (Ty.int .i64) (by rw [bX, if_neg (ng (show mB y = false from hc1)), if_neg (ng (show mO y = false from hc2)), if_neg (ng (show kA y = false from hc3)), if_neg (ng (show BM y = false from hc4)), if_pos (show vR y = true from hc5)]))
 refine aE ?_
 refine dN (B := live [(1, Ty.pp (bl y)), (3, Ty.pp [xG y]), (4, E4 y)] []) ?_ ?_
 ·(refine dK.mk' ?_ ?_ <;> (repeat' (first | exact aJ | exact aI | refine aB ?_ (Ty.aW _) | refine aB ?_ (Ty.aF _))))
 refine aA ?_
 refine aQ rfl rfl rfl rfl rfl (by decide) ?_
 refine aL rfl rfl rfl rfl ?_
 refine aj (mD y.moves (Ty.jX _ []) rfl (fun m => !decide (m.src = m.dst)) rfl rfl fun m _ => dU (Hs m) rfl rfl rfl rfl rfl rfl) rfl rfl rfl rfl rfl ?_
 refine dm rfl (dX rfl (aD (aC ?_)))
 refine cv rfl (fun hc6 => ?_) (fun hc6 => ?_)
 ·
  refine aE (aA (cF rfl (aD (aC (ay (bG (aV (bh rfl rfl ?_))))))))
  all_goals skip
  exact az rfl rfl (congrArg (Ty.int .i64) (by rw [bX, if_neg (ng (show mB y = false from hc1)), if_neg (ng (show mO y = false from hc2)), if_neg (ng (show kA y = false from hc3)), if_neg (ng (show BM y = false from hc4)), if_neg (ng (show vR y = false from hc5)), if_pos (show tN y = true from hc6)]))
 refine aE (aA ?_)
 refine aQ rfl rfl rfl rfl rfl (by decide) ?_
 refine aL rfl rfl rfl rfl ?_
 refine aj (tU y.bins (Ty.jX _ []) rfl (fun b => hO b.first) rfl rfl fun b _ => dU (GA b) rfl rfl rfl rfl rfl rfl) rfl rfl rfl rfl rfl ?_
 refine dm rfl (gR rfl ?_)
 apply aS (s := 70) rfl rfl rfl
 ·intro hg; apply aU; (refine aQ rfl rfl rfl rfl rfl (by decide) ?_); refine aD ?_; exact rfl
 ·exact rfl
 ·exact rfl
 apply aS (s := 70) rfl rfl rfl
 ·intro hg; apply aP (s := 71) rfl (by (rw [hg]; rfl)); apply aU; (refine aL rfl rfl rfl rfl ?_); refine aD ?_; exact rfl
 ·exact rfl
 ·exact rfl
 apply aS (s := 70) rfl rfl rfl
 ·intro hg; apply aP (s := 72) rfl (by (rw [hg]; rfl)); apply aU; (refine aj (mD y.moves (Ty.jX _ []) rfl (fun m => hO m.sacks) rfl rfl fun m _ => dU (G4 m) rfl rfl rfl rfl rfl rfl) rfl rfl rfl rfl rfl ?_); refine aD ?_; exact rfl
 ·exact rfl
 ·exact rfl
 apply aS (s := 70) rfl rfl rfl
 ·intro hg; apply aP (s := 73) rfl (by (rw [hg]; rfl)); apply aU; (refine dm rfl ?_); refine aD ?_; exact rfl
 ·exact rfl
 ·exact rfl
 refine mQ rfl rfl (gR rfl ?_)
 apply aS (s := 76) rfl rfl rfl
 ·intro hg; apply aU; (refine aQ rfl rfl rfl rfl rfl (by decide) ?_); refine aD ?_; exact rfl
 ·exact rfl
 ·exact rfl
 apply aS (s := 76) rfl rfl rfl
 ·intro hg; apply aP (s := 77) rfl (by (rw [hg]; rfl)); apply aU; (refine aL rfl rfl rfl rfl ?_); refine aD ?_; exact rfl
 ·exact rfl
 ·exact rfl
 apply aS (s := 76) rfl rfl rfl
 ·intro hg; apply aP (s := 78) rfl (by (rw [hg]; rfl)); apply aU; (refine aj (oI y.levels (Ty.jX _ []) rfl (fun l => hO l.sacks) rfl rfl fun l _ => dU (EU l) rfl rfl rfl rfl rfl rfl) rfl rfl rfl rfl rfl ?_); refine aD ?_; exact rfl
 ·exact rfl
 ·exact rfl
 apply aS (s := 76) rfl rfl rfl
 ·intro hg; apply aP (s := 79) rfl (by (rw [hg]; rfl)); apply aU; (refine dm rfl ?_); refine aD ?_; exact rfl
 ·exact rfl
 ·exact rfl
 refine mQ rfl rfl (dX rfl (aD (aC ?_)))
 refine cv rfl (fun hc7 => ?_) (fun hc7 => ?_)
 ·
  refine aE (aA (cF rfl (aD (aC (ay (bG (aV (bh rfl rfl ?_))))))))
  all_goals skip
  exact az rfl rfl (congrArg (Ty.int .i64) (by rw [bX, if_neg (ng (show mB y = false from hc1)), if_neg (ng (show mO y = false from hc2)), if_neg (ng (show kA y = false from hc3)), if_neg (ng (show BM y = false from hc4)), if_neg (ng (show vR y = false from hc5)), if_neg (ng (show tN y = false from hc6)), if_pos (show sx y = true from hc7)]))
 refine ak (bV (aC (aE (aA (cF rfl (aD (aC (ay (bh rfl rfl ?_)))))))))
 all_goals skip
 exact az rfl rfl (congrArg (Ty.int .i64) (by rw [bX, if_neg (ng (show mB y = false from hc1)), if_neg (ng (show mO y = false from hc2)), if_neg (ng (show kA y = false from hc3)), if_neg (ng (show BM y = false from hc4)), if_neg (ng (show vR y = false from hc5)), if_neg (ng (show tN y = false from hc6)), if_neg (ng (show sx y = false from hc7))]))
set_option maxRecDepth 100000 in
theorem zn (y : bD) (hs : y.Small) (k : Int) : dy Tryz.prog 90 [ff y, Ty.int .i64 k] (Ty.int .i64 (eP y k)) := by
 refine av Tryz.func90 rfl (by decide) Tryz.ntmps90 (by exact Nat.le_of_ble_eq_true rfl) fun w0 M0 => ?_
 refine aE (aA (bR rfl (cF rfl (aD (aC (aE (aA ?_)))))))
 refine aZ rfl rfl rfl (by exact Nat.le_of_ble_eq_true rfl) ?_
 refine aj (kB y hs) rfl rfl rfl rfl rfl (cF rfl (aD (aC (aE (aE (aA (bQ rfl (bE rfl rfl rfl (gR rfl ?_)))))))))
 apply aS (s := 10) rfl rfl rfl
 ·intro hg; apply aU; (refine aZ rfl rfl rfl (by exact Nat.le_of_ble_eq_true rfl) ?_); refine aD ?_; exact rfl
 ·exact rfl
 ·exact rfl
 apply aS (s := 10) rfl rfl rfl
 ·intro hg; apply aU; (refine bQ rfl ?_); refine aD ?_; exact rfl
 ·exact rfl
 ·exact rfl
 apply aS (s := 10) rfl rfl rfl
 ·intro hg; apply aP (s := 11) rfl (by (rw [hg]; rfl)); apply aP (s := 12) rfl (by (rw [hg]; rfl)); apply aU; (refine aj (DL y hs _) rfl rfl rfl rfl rfl ?_); refine aD ?_; exact rfl
 ·exact rfl
 ·exact rfl
 apply aS (s := 10) rfl rfl rfl
 ·intro hg; apply aP (s := 13) rfl (by (rw [hg]; rfl)); apply aU; (refine dm rfl ?_); refine aD ?_; exact rfl
 ·exact rfl
 ·exact rfl
 refine eo rfl rfl (aD (aC ?_))
 refine cv rfl (fun hc1 => ?_) (fun hc1 => ?_)
 ·
  refine aA (cF rfl (aD (aC (aE (aA (bQ rfl (cF rfl (aD (aC ?_)))))))))
  refine ay (bh rfl rfl ?_)
  all_goals skip
  all_goals exact az rfl rfl (congrArg (Ty.int .i64) (Eu hc1))
 refine ak (aC (aE (aA (bQ rfl (cF rfl (aD (aC (ay (bh rfl rfl ?_)))))))))
 all_goals skip
 all_goals exact az rfl rfl (congrArg (Ty.int .i64) (FP hc1))
end Go.Proofs.YtelbollidfdcjaaGreat
namespace Go.T
open Go Go.RowKit
def rB (A : As) (L : List Nat) (s t : Ty) : Prop := ∀ w M v, Wf w M → (∀ x ∈ A.tags, x.1 ∈ L → x.2.den w M x.1) → s.den w M v → t.den w (p9 M L) v
def nQ (A : As) (L : List Nat) : List Ty → List Ty → Prop
  | [], [] => True
  | s :: ss, t :: ts => rB A L s t ∧ nQ A L ss ts
  | _, _ => False
theorem bW {A : As} {L : List Nat} : nQ A L [] [] := trivial
theorem aK {A : As} {L : List Nat} {s t : Ty} {ss ts : List Ty} (h : rB A L s t) (h' : nQ A L ss ts) : nQ A L (s :: ss) (t :: ts) := ⟨h, h'⟩
theorem oa {A : As} {L : List Nat} {w : World} {M : bB} (wf : Wf w M) (ht : ∀ x ∈ A.tags, x.1 ∈ L → x.2.den w M x.1) : ∀ {ss ts : List Ty} {vs : List Value}, nQ A L ss ts → cN w M ss vs → cN w (p9 M L) ts vs
  | [], [], [], _, _ => trivial
  | _ :: _, _ :: _, _ :: _, ⟨h, h'⟩, ⟨h1, h2⟩ => ⟨h _ _ _ wf ht h1, oa wf ht h' h2⟩
theorem aa {A : As} {L : List Nat} {s t : Ty} (h : Ij L s t) : rB A L s t := fun w M v wf _ hd => h w M v wf hd
theorem gV {A : As} {L : List Nat} {ss ts : List Ty} (h : nQ A L ss ts) : rB A L (Ty.agg ss) (Ty.agg ts) := fun _ _ _ wf ht ⟨cs, e, hd⟩ => ⟨cs, e, oa wf ht h hd⟩
theorem gY {A : As} {L : List Nat} {α : Type} {E : El α} {T tg n : Nat} {xs : List α} (hc : A.tag tg = some (.vec E T xs)) (hn : xs.length = n) (h1 : fu tg) (hL : L.contains tg = true) : rB A L (.vs tg n) (.sl E xs) := fun w M v wf ht hd => by
 have hL' : tg ∈ L := by simpa using hL
 have hv : gm E T xs w M tg := ht _ (cy hc) hL'
 subst hn
 rcases hd with ⟨h0, rfl⟩ | ⟨b, cc, hb, e, hn1, hn2⟩
 ·exact ⟨none, 0, by rw [h0], by omega, by simp [maxLen], fun h => absurd h (by omega)⟩
 refine ⟨_, cc, e, hn1, hn2, fun _ => ⟨b, 0, rfl, zV hb hL', wf.lt b _ hb, fun i t hi => ?_⟩⟩
 obtain ⟨u, hu, hdu⟩ := oo wf h1 hb hv hi
 refine ⟨u, by rw [Nat.zero_add]; exact hu, t.mono (S := fun _ => True) (K := fun _ => True) (w := w) ⟨Nat.le_refl _, rfl, rfl, rfl, fun b _ hm => ⟨jL hm, rfl⟩, fun b t _ h => absurd trivial h⟩ ?_ ?_ hdu⟩
 ·intro u hu
  have : u ∈ cI (xs.flatMap E.tys) := List.mem_flatMap.2 ⟨t, List.mem_of_getElem? hi, hu⟩
  rw [E.dG] at this; cases this
 intro u hu
 have : u ∈ bk (xs.flatMap E.tys) := List.mem_flatMap.2 ⟨t, List.mem_of_getElem? hi, hu⟩
 rw [E.cX] at this; cases this
section
variable {P : Program} {fr : Fr} {ops : Array Oper} {A : As} {rest : List Oper} {K : As → List (As × Fx) → Prop} {d : Nat} {t ty' : TypeId} {p : String} {e : Array Edge} {Q : Exit → Act → World → Prop} {c : Code}
theorem dW (L : List Nat) {f : FuncId} {args : List Ty} {res : Ty} (hF : dy P f args res) {xs : List Operand} {ats : Array TypeId} {ss : List Ty} (hx : nu A fr xs = ss) (hl : nQ A L ss args) (hp : res.Plain)
 (h : af P fr ops rest (A.set d res) fun A' l => K A' ((A, { d := some d, ty := res, rs := xs.flatMap cC, rt := L }) :: l)) : af P fr ops (⟨some d, .call ⟨.value (.func f), xs.toArray, ats⟩, t, p, e, none⟩ :: rest) A K := by
 refine ⟨{ d := some d, ty := res, rs := xs.flatMap cC, rt := L }, ⟨rfl, by simp, by simp, by simp, fun a w M wf _ hrd htg => ?_⟩, h⟩
 rw [if_pos (by simp [Region.wanted])]
 have hv : cN w M ss (xs.map a.eval) := hx ▸ gl hrd fun x hx c hc => List.mem_flatMap.2 ⟨x, hx, hc⟩
 have hc := hF.2 w _ _ (Ic (L := L) wf) tC (oa wf htg hl hv)
 have hrun : (execOp a.eval ⟨some d, .call ⟨.value (.func f), xs.toArray, ats⟩, t, p, e, none⟩).run P w = .ok (.enter f (xs.map a.eval).toArray) w := by
  simp [execOp, resolve, Act.eval, Deferred.ofValue, invoke, nU hF]
 refine lz hrun ?_
 refine hc.mono fun en w' ⟨r, M', he, wf', le, hden⟩ => ?_
 obtain ⟨h1, h2, h3⟩ := CO wf le hp hden
 exact ⟨r, he, r, rfl, _, h1, h2, h3, by simp⟩
end
section
open Go.RowKit
variable {P : Program} {A : As} {fn : Func} {n : Nat} {w0 : World} {M0 : bB} {F : List Nat} {post : List (Nat × Cont)} [T : kr P]
end
section
variable {P : Program} {fr : Fr} {ops : Array Oper} {A : As} {rest : List Oper} {K : As → List (As × Fx) → Prop} {d : Nat} {t ty' : TypeId} {p : String} {e : Array Edge} [T : kr P]
def NF (w : World) (M : bB) (J : Nat) (v : Value) : Prop := v = .slice none 0 0 ∨ ∃ g n c cur T, v = .slice (some ⟨g, 0, none⟩) n c ∧ M g = some J ∧ w.heap[g]? = some (.cells cur T (0, 0)) ∧ n ≤ cur.size
def Cont.fit (vs : List Value) : Cont :=
  { den := fun w M J => ∀ v ∈ vs, NF w M J v
    mono := fun le _ _ hs hk h v hv => (h v hv).imp id fun ⟨g, n, c, cur, T, e, hg, hh, hn⟩ => let ⟨h1, h2⟩ := le.own g _ hg hk
      ⟨g, n, c, cur, T, e, h1, (h2 hs).trans hh, hn⟩ }
end
instance : Inhabited {v : Value // v.oneCell' = true} := ⟨⟨.bool true, rfl⟩⟩
section
variable {P : Program} {fr : Fr} {A : As} {Q : Exit → Act → World → Prop} {code : Code}
end
end Go.T
namespace Go.T
open Go Go.RowKit
def Hx {α : Type} (E : El α) (T J : Nat) (xs : List α) (w : World) (M : bB) (v : Value) : Prop :=
  (xs = [] ∧ v = .slice none 0 0) ∨ ∃ g off c cur, v = .slice (some ⟨g, off, none⟩) xs.length c ∧ M g = some J ∧ w.heap[g]? = some (.cells cur T (0, 0)) ∧ xs.length ≤ c ∧ c ≤ maxLen ∧ off + c * E.size ≤ cur.size ∧ cN w M (xs.flatMap E.tys) ((cur.toList.drop off).take (xs.length * E.size))
def Ty.iU {α : Type} (E : El α) (T J : Nat) (xs : List α) : Ty :=
  ⟨Hx E T J xs, [J], [J], fun le hk hs h => h.imp id fun ⟨g, off, c, cur, e, hg, hh, h1, h2, h3, h4⟩ =>
    let ⟨a, b⟩ := le.own g J hg (hk J (by simp))
    ⟨g, off, c, cur, e, a, (b (hs J (by simp))).trans hh, h1, h2, h3, bu le (by rw [E.dG]; intro _ h; cases h) (by rw [E.cX]; intro _ h; cases h) h4⟩, true, fun _ h => by
      rcases h with ⟨_, rfl⟩ | ⟨_, _, _, _, rfl, _⟩ <;> rfl⟩
def mH (size : Nat) : Value → Option (Nat × Nat)
  | .slice (some a) n _ => some (a.block, a.off + n * size)
  | _ => none
def roomy : Value → Bool
  | .slice _ n c => Nat.blt n c
  | _ => false
section
variable {κ α : Type} [DecidableEq κ]
def Gf (size : Nat) (vs : List Value) : Prop := ∀ (i j : Nat) (v u : Value) (g e e' : Nat), vs[i]? = some v → vs[j]? = some u → mH size v = some (g, e) → mH size u = some (g, e') → i = j
def Nh (enc : κ → Value) (E : El α) (T J : Nat) (q : List (κ × List α)) (w : World) (M : bB) (t : Nat) : Prop :=
  (q.map Prod.fst).Nodup ∧ ∃ b es clock, M b = some t ∧ w.heap[b]? = some (.map es clock) ∧ es.toList.map (·.key) = q.map (fun x => enc x.1) ∧ cN w M (q.map fun x => Ty.iU E T J x.2) (es.toList.map (·.val)) ∧ Gf E.size (es.toList.map (·.val))
omit [DecidableEq κ] in
theorem sw {E : El α} {T J : Nat} {q : List (κ × List α)} : (∀ u ∈ cI (q.map fun x => Ty.iU E T J x.2), u = J) ∧ ∀ u ∈ bk (q.map fun x => Ty.iU E T J x.2), u = J := by
 constructor <;>
 ·intro u hu
  simp only [cI, bk, List.mem_flatMap, List.mem_map] at hu
  obtain ⟨t, ⟨x, _, rfl⟩, hu⟩ := hu
  simpa [Ty.iU] using hu
def Cont.mr (enc : κ → Value) (E : El α) (T J : Nat) (q : List (κ × List α)) : Cont :=
  { den := Nh enc E T J q, deps := [J], cdeps := [J]
    mono := fun le hk hs hst hkt ⟨hn, b, es, clock, h1, h2, h3, h4, h5⟩ => let ⟨a, c⟩ := le.own b _ h1 hkt
      ⟨hn, b, es, clock, a, (c hst).trans h2, h3, bu le (fun u hu => by rw [sw.1 u hu]; exact hk J (by simp)) (fun u hu => by rw [sw.2 u hu]; exact hs J (by simp)) h4, h5⟩ }
omit [DecidableEq κ] in
theorem Cont.tQ {enc : κ → Value} {E : El α} {T J : Nat} {q q' : List (κ × List α)} (h : q = q') : (Cont.mr enc E T J q).Sub (Cont.mr enc E T J q') := h ▸ Cont.aF _
def NJ (size t : Nat) (q : List (κ × List α)) (k : κ) (w : World) (M : bB) (v : Value) : Prop :=
  ∀ (g e0 : Nat), mH size v = some (g, e0) → ∃ (b : Nat) (es : Array MapEntry) (clock : Nat), M b = some t ∧ w.heap[b]? = some (.map es clock) ∧ ∀ (j : Nat) (u : Value) (e1 : Nat), (es.toList.map (·.val))[j]? = some u → mH size u = some (g, e1) → (q[j]?).map Prod.fst = some k ∧ (roomy v = true → e1 ≤ e0)
def No (E : El α) (T t J : Nat) (q : List (κ × List α)) (k : κ) (xs : List α) (w : World) (M : bB) (v : Value) : Prop := Hx E T J xs w M v ∧ NJ E.size t q k w M v
def Ty.qv (E : El α) (T t J : Nat) (q : List (κ × List α)) (k : κ) (xs : List α) : Ty :=
  ⟨No E T t J q k xs, [t, J], [t, J], fun le hk hs ⟨h, h'⟩ => ⟨(Ty.iU E T J xs).mono le (fun u hu => hk u (by simp [Ty.iU] at hu ⊢; exact .inr hu)) (fun u hu => hs u (by simp [Ty.iU] at hu ⊢; exact .inr hu)) h, fun g e0 he =>
    let ⟨b, es, clock, h1, h2, h3⟩ := h' g e0 he
    let ⟨a, c⟩ := le.own b t h1 (hk t (by simp))
    ⟨b, es, clock, a, (c (hs t (by simp))).trans h2, h3⟩⟩, true, fun ho h => (Ty.iU E T J xs).isOne ho h.1⟩
omit [DecidableEq κ] in
theorem AJ (q : List (κ × List α)) (hn : (q.map Prod.fst).Nodup) {i j : Nat} {k : κ} (hi : (q[i]?).map Prod.fst = some k) (hj : (q[j]?).map Prod.fst = some k) : i = j := by
 rw [← List.getElem?_map] at hi hj
 obtain ⟨h1, e1⟩ := List.getElem?_eq_some_iff.1 hi
 obtain ⟨h2, e2⟩ := List.getElem?_eq_some_iff.1 hj
 exact (List.getElem_inj hn).1 (e1.trans e2.symm)
theorem zT {q : List (κ × List α)} {k : κ} {i : Nat} (h : (q.map Prod.fst).findIdx? (fun x => decide (x = k)) = some i) : (q[i]?).map Prod.fst = some k := by
 obtain ⟨v, hv, _⟩ := oN q k i h
 rw [hv]; rfl
theorem Eh (q : List (κ × List α)) (k : κ) (v : List α) (hn : (q.map Prod.fst).Nodup) : ((gp q k v).map Prod.fst).Nodup := by
  cases hi : (q.map Prod.fst).findIdx? (fun x => decide (x = k)) with
  | some i =>
    obtain ⟨u, hu, _, hp⟩ := oN q k i hi
    rw [hp, List.map_set]
    have : (q.map Prod.fst).set i k = q.map Prod.fst := by
      apply List.ext_getElem?
      intro j
      rw [List.getElem?_set]
      by_cases e : i = j
      · subst e
        have hlt := (List.getElem?_eq_some_iff.1 hu).1
        rw [if_pos rfl, if_pos (by simpa using hlt), List.getElem?_map, hu]; rfl
      · rw [if_neg e]
    rw [this]; exact hn
  | none =>
    obtain ⟨_, hp⟩ := pU q k hi
    rw [hp, List.map_append, List.nodup_append]
    refine ⟨hn, by simp, fun a ha b hb => ?_⟩
    simp only [List.map_cons, List.map_nil, List.mem_singleton] at hb
    subst hb
    intro e
    subst e
    rw [List.findIdx?_eq_none_iff] at hi
    have := hi a ha
    simp at this
end
section
variable {P : Program} {fr : Fr} {ops : Array Oper} {A : As} {rest : List Oper} {K : As → List (As × Fx) → Prop} {d : Nat} {t ty' mt kt et : TypeId} {p : String} {e : Array Edge}
variable {κ α : Type} [DecidableEq κ] {E : El α} {Tb J tg : Nat} {q : List (κ × List α)} {k : κ} {xs ys : List α}
omit [DecidableEq κ] in
theorem J3 {x : Operand} {enc : κ → Value} (hx : A.op fr x = .mp tg) (hc : A.tag tg = some (.mr enc E Tb J q)) (h1 : fu tg) {a : Act} {w : World} {M : bB} {rs : List Nat} (wf : Wf w M) (hr : ∀ c ∈ cC x, c ∈ rs) (hrd : ∀ c ∈ rs, c < fr.n → (A.slots c).den w M (a.tmps.getD c undef)) (htg : ∀ y ∈ A.tags, y.1 ∈ [tg] → y.2.den w M y.1) :
 (q.map Prod.fst).Nodup ∧ ∃ b es clock, a.eval x = .map (some b) ∧ M b = some tg ∧ w.heap[b]? = some (.map es clock) ∧ es.toList.map (·.key) = q.map (fun x => enc x.1) ∧ cN w M (q.map fun x => Ty.iU E Tb J x.2) (es.toList.map (·.val)) ∧ Gf E.size (es.toList.map (·.val)) := by
 have hxd := cK hr hrd
 rw [hx] at hxd
 obtain ⟨b, e1, e2⟩ := hxd
 obtain ⟨hn, b', es, clock, h2, h3⟩ := htg _ (cy hc) (by simp)
 obtain ⟨u, rfl⟩ : ∃ u, tg = u + 1 := ⟨tg - 1, by omega⟩
 have : b = b' := wf.inj b b' u (by omega) e2 h2
 subst this
 exact ⟨hn, b, es, clock, e1, e2, h3⟩
theorem AY {es : Array MapEntry} {i : Nat} {en : MapEntry} (h : es[i]? = some en) : (es.toList.map (·.val))[i]? = some en.val := by
 rw [List.getElem?_map, Array.getElem?_toList, h]; rfl
omit [DecidableEq κ] in
theorem Cx (enc : κ → Value) (E : El α) (Tb J : Nat) (hm : mapOf P mt = some (kt, et)) (hp : fr.pass.contains (d + 1) = false)
 (h : af P fr ops rest (A.after { d := some d, ty := .mp (d + 1), K := [d + 1], sets := [(d + 1, .mr enc E Tb J [])] }) fun A' l' => K A' ((A, { d := some d, ty := .mp (d + 1), K := [d + 1], sets := [(d + 1, .mr enc E Tb J [])] }) :: l')) :
 af P fr ops (⟨some d, .makeMap mt none, t, p, e, none⟩ :: rest) A K := by
 refine ⟨_, gH rfl rfl (by simp) (by simp) (by simp at hp ⊢; exact hp) fun a w M wf _ _ => ?_, h⟩
 have hrun : (execOp a.eval ⟨some d, .makeMap mt none, t, p, e, none⟩).run P w = .ok (.value (.map (some w.heap.size))) (w.alloc (.map #[] 0)) := by
  simp [execOp, Instr.makeMap, newObj, Sem.run]
 obtain ⟨h1, h2, h3⟩ := kR wf (.map #[] 0) (d + 1)
 refine ⟨_, _, hrun, _, h1, h2, ⟨_, rfl, h3⟩, fun x hx => ?_⟩
 rw [List.mem_singleton.1 hx]
 exact ⟨by simp, w.heap.size, #[], 0, h3, gz _ _, rfl, trivial, fun i j v u g e e' hi => by simp at hi⟩
theorem yt {x y : Operand} {kty : Ty} (KK : xA P kt κ) (hx : A.op fr x = .mp tg) (hc : A.tag tg = some (.mr KK.enc E Tb J q)) (h1 : fu tg) (hy : A.op fr y = kty) (hk : tw kty (KK.enc k)) (hm : mapOf P mt = some (kt, et)) (hz : zeroOf P et = some (.slice none 0 0))
 (h : af P fr ops rest (A.set d (.qv E Tb tg J q k ((ew q k).getD []))) fun A' l' => K A' ((A, { d := some d, ty := .qv E Tb tg J q k ((ew q k).getD []), rs := cC x ++ cC y, rt := [tg] }) :: l')) :
 af P fr ops (⟨some d, .lookup mt x y false, t, p, e, none⟩ :: rest) A K :=
 bK (bS rfl rfl fun a w M wf hrd htg => by
  obtain ⟨hn, b, es, clock, e1, e2, h3, h4, h5, h6⟩ := J3 hx hc h1 wf (fun c hc => List.mem_append_left _ hc) hrd htg
  have hyd := cK (fun c hc => List.mem_append_right (cC x) hc) hrd
  rw [hy] at hyd
  have hu := pK hm
  rcases rY KK h4 h5 k with ⟨i, v, en, hi, hg, hen, _, hd, hf⟩ | ⟨_, hg, hf⟩
  ·refine ⟨en.val, ?_, by rw [hg]; exact hd, fun g e0 he => ⟨b, es, clock, e2, h3, fun j u e1 hj hju => ?_⟩⟩
   ·simp only [execOp, e1, hk _ _ _ hyd]
    simp [Instr.lookup, underlying, hu, getObj, Sem.run, h3, KK.check, hf]
   have hij := h6 i j en.val u g e0 e1 (AY hen) hj he hju
   subst hij
   rw [AY hen] at hj
   injection hj with hj
   subst hj
   rw [he] at hju
   injection hju with hju
   injection hju with _ hju
   exact ⟨zT hi, fun _ => by omega⟩
  refine ⟨.slice none 0 0, ?_, by rw [hg]; exact .inl ⟨rfl, rfl⟩, fun g e0 he => by simp [mH] at he⟩
  simp only [execOp, e1, hk _ _ _ hyd]
  simp [Instr.lookup, underlying, hu, getObj, Sem.run, h3, KK.check, hf, vp hz]) h
theorem yp {x y z : Operand} {kty : Ty} (KK : xA P kt κ) (hx : A.op fr x = .mp tg) (hc : A.tag tg = some (.mr KK.enc E Tb J q)) (h1 : fu tg) (hy : A.op fr y = kty) (hk : tw kty (KK.enc k)) (hz : A.op fr z = .qv E Tb tg J q k xs) (hm : mapOf P mt = some (kt, et)) (hJ : Nat.beq J tg = false)
 (h : af P fr ops rest (A.after { d := none, S := [tg], sets := [(tg, .mr KK.enc E Tb J (gp q k xs))], rs := cC x ++ (cC y ++ cC z), rt := [tg] }) fun A' l' => K A' ((A, { d := none, S := [tg], sets := [(tg, .mr KK.enc E Tb J (gp q k xs))], rs := cC x ++ (cC y ++ cC z), rt := [tg] }) :: l')) :
 af P fr ops (⟨none, .mapUpdate mt x y z, t, p, e, none⟩ :: rest) A K := by
 have hJ' : J ≠ tg := fun h => by subst h; simp at hJ
 refine ⟨_, kM rfl rfl rfl (by simp) (by simpa using h1.1) (by simp) fun a w M wf hrd htg => ?_, h⟩
 obtain ⟨hn, b, es, clock, e1, e2, h3, h4, h5, h6⟩ := J3 hx hc h1 wf (fun c hc => List.mem_append_left _ hc) hrd htg
 have hyd := cK (fun c hc => List.mem_append_right (cC x) (List.mem_append_left (cC z) hc)) hrd
 have hzd := cK (fun c hc => List.mem_append_right (cC x) (List.mem_append_right (cC y) hc)) hrd
 rw [hy] at hyd
 rw [hz] at hzd
 obtain ⟨hrow, hown⟩ := hzd
 have hu := pK hm
 have hblt : b < w.heap.size := wf.lt b _ e2
 have own' : ∀ (g e0 : Nat), mH E.size (a.eval z) = some (g, e0) → ∀ (j : Nat) (u : Value) (e' : Nat), (es.toList.map (·.val))[j]? = some u → mH E.size u = some (g, e') → (q[j]?).map Prod.fst = some k := fun g e0 he j u e' hj hju => by
  obtain ⟨b', es', c', g1, g2, g3⟩ := hown g e0 he
  obtain ⟨u', rfl⟩ : ∃ u, tg = u + 1 := ⟨tg - 1, by omega⟩
  have : b = b' := wf.inj b b' u' (by omega) e2 g1
  subst this
  rw [h3] at g2
  injection g2 with g2
  injection g2 with g2 g4
  subst g2
  exact (g3 j u e' hj hju).1
 have fin : ∀ (es' : Array MapEntry) (clock' : Nat), es'.toList.map (·.key) = (gp q k xs).map (fun x => KK.enc x.1) → cN w M ((gp q k xs).map fun x => Ty.iU E Tb J x.2) (es'.toList.map (·.val)) → Gf E.size (es'.toList.map (·.val)) →
  (Instr.mapUpdate mt (.map (some b)) (KK.enc k) (a.eval z)).run P w = .ok () { w with heap := w.heap.setIfInBounds b (.map es' clock') } →
  ∃ w', (execOp a.eval ⟨none, .mapUpdate mt x y z, t, p, e, none⟩).run P w = .ok .skip w' ∧ Fx.left { d := none, S := [tg], sets := [(tg, .mr KK.enc E Tb J (gp q k xs))], rs := cC x ++ (cC y ++ cC z), rt := [tg] } w M w' undef := by
  intro es' clock' hk' hd' hap hrun
  have hr : (execOp a.eval ⟨none, .mapUpdate mt x y z, t, p, e, none⟩).run P w = .ok .skip { w with heap := w.heap.setIfInBounds b (.map es' clock') } := by
   simp only [execOp, e1, hk _ _ _ hyd]
   simp [hrun]
  have le : Le (· ∈ [tg]) (· ∈ ([] : List Nat)) w M { w with heap := w.heap.setIfInBounds b (.map es' clock') } M := by
   refine ⟨by simp, rfl, rfl, rfl, fun b2 hlt hm2 => ⟨hm2, ?_⟩, fun b2 u hm2 _ => ⟨hm2, fun hs => ?_⟩⟩
   ·have : b ≠ b2 := fun h => by subst h; rw [e2] at hm2; cases hm2
    simp [Array.getElem?_setIfInBounds, this]
   have : b ≠ b2 := fun h => by subst h; rw [e2] at hm2; injection hm2 with hm2; exact hs (by simp [hm2])
   simp [Array.getElem?_setIfInBounds, this]
  refine ⟨_, hr, M, ⟨fun b2 u h => by simpa using wf.lt b2 u h, wf.inj⟩, le, trivial, fun x hx => ?_⟩
  rw [List.mem_singleton.1 hx]
  refine ⟨Eh q k xs hn, b, es', clock', e2, by simp [hblt], hk', ?_, hap⟩
  exact bu le (fun _ _ => by simp) (fun u hu => by rw [sw.2 u hu]; simpa using hJ') hd'
 rcases rY KK h4 h5 k with ⟨i, v0, en, hi, hg, hen, hkey, hd, hf⟩ | ⟨hi, hg, hf⟩
 ·obtain ⟨v1, hv1, _, hput⟩ := oN q k i hi
  have hil : i < es.size := (Array.getElem?_eq_some_iff.1 hen).1
  have hes : (es.modify i fun e => { e with key := KK.enc k, val := a.eval z }).toList = es.toList.set i { en with key := KK.enc k, val := a.eval z } := by
   rw [Array.toList_modify, List.modify_eq_set, Array.getElem?_toList, hen]; rfl
  refine fin (es.modify i fun e => { e with key := KK.enc k, val := a.eval z }) clock ?_ ?_ ?_ ?_
  ·rw [hput, List.map_set, hes, List.map_set, h4]
  ·rw [hput, List.map_set, hes, List.map_set]
   exact rz h5 hrow
  ·rw [hes, List.map_set]
   intro i1 j1 v u g e' e'' hi1 hj1 hv hu
   rw [List.getElem?_set] at hi1 hj1
   by_cases c1 : i = i1 <;> by_cases c2 : i = j1
   ·omega
   ·rw [if_pos c1] at hi1; rw [if_neg c2] at hj1
    split at hi1
    ·injection hi1 with hi1
     have hi1 : a.eval z = v := hi1
     subst hi1
     have := AJ q hn (own' g e' hv j1 u e'' hj1 hu) (zT hi)
     omega
    cases hi1
   ·rw [if_neg c1] at hi1; rw [if_pos c2] at hj1
    split at hj1
    ·injection hj1 with hj1
     have hj1 : a.eval z = u := hj1
     subst hj1
     have := AJ q hn (own' g e'' hu i1 v e' hi1 hv) (zT hi)
     omega
    cases hj1
   rw [if_neg c1] at hi1; rw [if_neg c2] at hj1
   exact h6 i1 j1 v u g e' e'' hi1 hj1 hv hu
  simp [Instr.mapUpdate, underlying, hu, getObj, setObj, Sem.run, h3, KK.check, hf, hen, hkey, Instr.keyThatStays, KK.same]
 obtain ⟨_, hput⟩ := pU q k hi
 have hlen : (es.toList.map (·.val)).length = q.length := by have := congrArg List.length h4; simpa using this
 have hno : ∀ j, (q[j]?).map Prod.fst ≠ some k := fun j hj => by
  rw [List.findIdx?_eq_none_iff] at hi
  rw [← List.getElem?_map] at hj
  have := hi k (List.mem_of_getElem? hj)
  simp at this
 refine fin (es.push { key := KK.enc k, val := a.eval z, born := clock }) (clock + 1) ?_ ?_ ?_ ?_
 ·rw [hput]; simp [h4]
 ·rw [hput]; simp only [Array.toList_push, List.map_append, List.map_cons, List.map_nil]
  exact eN h5 ⟨hrow, trivial⟩
 ·simp only [Array.toList_push, List.map_append, List.map_cons, List.map_nil]
  intro i1 j1 v u g e' e'' hi1 hj1 hv hu
  rw [List.getElem?_append] at hi1 hj1
  split at hi1 <;> split at hj1
  ·exact h6 i1 j1 v u g e' e'' hi1 hj1 hv hu
  ·rw [List.getElem?_singleton] at hj1
   split at hj1
   ·injection hj1 with hj1
    subst hj1
    exact absurd (own' g e'' hu i1 v e' hi1 hv) (hno i1)
   cases hj1
  ·rw [List.getElem?_singleton] at hi1
   split at hi1
   ·injection hi1 with hi1
    subst hi1
    exact absurd (own' g e' hv j1 u e'' hj1 hu) (hno j1)
   cases hi1
  rw [List.getElem?_singleton] at hi1 hj1
  split at hi1 <;> split at hj1 <;> first | omega | (exfalso; simp at hj1; done) | (exfalso; simp at hi1; done)
 simp [Instr.mapUpdate, underlying, hu, getObj, setObj, Sem.run, h3, KK.check, hf]
end
section
variable {P : Program} {fr : Fr} {ops : Array Oper} {A : As} {rest : List Oper} {K : As → List (As × Fx) → Prop} {d : Nat} {t ty' mt kt et : TypeId} {p : String} {e : Array Edge} [T : kr P]
variable {κ α : Type} [DecidableEq κ] {E : El α} {Tb J tg : Nat} {q : List (κ × List α)} {k : κ} {xs ys : List α}
theorem ES [Inhabited α] {w : World} {M : bB} {g off i j : Nat} {cur : Array Value} {ty : Ty} (hh : w.heap[g]? = some (.cells cur Tb (0, 0))) (hd : cN w M (xs.flatMap E.tys) ((cur.toList.drop off).take (xs.length * E.size))) (hi : i < xs.length) (hl : (E.tys (nth xs i))[j]? = some ty) :
 ∃ u, w.cell? ⟨g, off + i * E.size + j, none⟩ = some u ∧ ty.den w M u := by
 obtain ⟨u, hu, hdu⟩ := dj hd _ ty (lB E xs hi j ty hl)
 rw [List.getElem?_take] at hu
 split at hu
 ·rw [List.getElem?_drop] at hu
  exact ⟨u, by rw [Nat.add_assoc]; simpa [World.cell?, hh] using hu, hdu⟩
 cases hu
end
end Go.T
namespace Go.T
open Go Go.RowKit
section
variable {P : Program} {fr : Fr} {ops : Array Oper} {A : As} {rest : List Oper} {K : As → List (As × Fx) → Prop} {d : Nat} {t ty' mt kt et : TypeId} {p : String} {e : Array Edge} [T : kr P]
variable {κ α : Type} [DecidableEq κ] {E : El α} {Tb J tg : Nat} {q : List (κ × List α)} {k : κ} {xs ys : List α}
theorem Hr (l news : List Value) (o n m e : Nat) (he : o + n ≤ e) (hl : e + news.length ≤ l.length) : (((l.take e ++ news ++ l.drop (e + news.length)).drop o).take n) = (l.drop o).take n := by
 apply List.ext_getElem?
 intro i
 rw [List.getElem?_take, List.getElem?_take]
 split
 ·rename_i hi
  rw [List.getElem?_drop, List.getElem?_drop, List.append_assoc, List.getElem?_append_left (by rw [List.length_take]; omega), List.getElem?_take, if_pos (by omega)]
 rfl
theorem B9 (l news : List Value) (o n : Nat) (hl : o + n + news.length ≤ l.length) : (((l.take (o + n) ++ news ++ l.drop (o + n + news.length)).drop o).take (n + news.length)) = (l.drop o).take n ++ news := by
 have h1 : (l.take (o + n) ++ news ++ l.drop (o + n + news.length)).drop o = (l.drop o).take n ++ news ++ l.drop (o + n + news.length) := by
  rw [List.append_assoc, List.drop_append_of_le_length (by rw [List.length_take]; omega), List.drop_take, show o + n - o = n by omega, List.append_assoc]
 have h2 : ((l.drop o).take n ++ news).length = n + news.length := by rw [List.length_append, List.length_take, List.length_drop, Nat.min_eq_left (by omega)]
 rw [h1, List.take_left' h2]
omit [DecidableEq κ] in
theorem F6 {w : World} {M : bB} {vs : List Value} (hd : cN w M (q.map fun x => Ty.iU E Tb J x.2) vs) {j : Nat} {u : Value} {g e1 : Nat} (hj : vs[j]? = some u) (hu : mH E.size u = some (g, e1)) : M g = some J := by
 have hlen := cO hd
 have hlt := (List.getElem?_eq_some_iff.1 hj).1
 obtain ⟨x, hx, hdx⟩ := dj hd j (Ty.iU E Tb J (q[j]'(by simpa [hlen] using hlt)).2) (by rw [List.getElem?_map, List.getElem?_eq_getElem (by simpa [hlen] using hlt)]; rfl)
 rw [hj] at hx
 injection hx with hx
 subst hx
 rcases hdx with ⟨_, e⟩ | ⟨g', off, c, cur, e, hg, _⟩
 ·rw [e] at hu; simp [mH] at hu
 rw [e] at hu
 simp only [mH, Option.some.injEq, Prod.mk.injEq] at hu
 rw [← hu.1]; exact hg
theorem yf {x y : Operand} {enc : κ → Value} {st el : Nat} {ti te : TI} (hx : A.op fr x = .qv E el tg J q k xs) (hy : A.op fr y = .sl E ys) (hc : A.tag tg = some (.mr enc E el J q)) (h1 : fu tg) (hJ : 4096 ≤ J) (hp : fr.pass.contains J = false) (hpos : 0 < ys.length) (hT : T.eS[st]? = some ti) (hk : ti.k = .slice el) (hE : T.eS[el]? = some te) (hs : te.size = E.size) (hz : te.zero.length = te.size) (h0 : 0 < te.size)
    (hlen : (xs.length + ys.length) * te.bytes ≤ 140737488355328) (hlen' : xs.length + ys.length ≤ 9223372036854775807)
    (h : af P fr ops rest (A.after { d := some d, ty := .qv E el tg J q k (xs ++ ys), S := [tg, J], sets := [(tg, .mr enc E el J q)], rs := cC x ++ cC y, rt := [tg] }) fun A' l' => K A' ((A, { d := some d, ty := .qv E el tg J q k (xs ++ ys), S := [tg, J], sets := [(tg, .mr enc E el J q)], rs := cC x ++ cC y, rt := [tg] }) :: l')) :
    af P fr ops (⟨some d, .call ⟨.builtin .append, #[x, y], #[st, st]⟩, t, p, e, none⟩ :: rest) A K := by
  refine ⟨_, gH rfl rfl (by simp) (by simp; exact ⟨h1.1, by omega⟩) (by simp) fun a w M wf hr htg => ?_, h⟩
  obtain ⟨hdx, hdy⟩ := op2 hr
  rw [hx] at hdx; rw [hy] at hdy
  obtain ⟨hrow, hown⟩ := hdx
  obtain ⟨hn, b, es, clock, hb, hhb, hkeys, hvals, hap⟩ := htg _ (cy hc) (by simp)
  have ownb : ∀ (g e0 : Nat), mH E.size (a.eval x) = some (g, e0) → ∀ (j : Nat) (u : Value) (e1 : Nat), (es.toList.map (·.val))[j]? = some u → mH E.size u = some (g, e1) → (q[j]?).map Prod.fst = some k ∧ (roomy (a.eval x) = true → e1 ≤ e0) := fun g e0 he => by
    obtain ⟨b', es', c', g1, g2, g3⟩ := hown g e0 he
    obtain ⟨u', hu'⟩ : ∃ u, tg = u + 1 := ⟨tg - 1, by omega⟩
    have : b = b' := by
      have hb' : M b = some (u' + 1) := hu' ▸ hb
      have g1' : M b' = some (u' + 1) := hu' ▸ g1
      exact wf.inj b b' u' (by omega) hb' g1'
    subst this
    rw [hhb] at g2
    injection g2 with g2
    injection g2 with g2 _
    subst g2
    exact g3
  obtain ⟨_, D, _, hD, hkd, _⟩ := cz hT
  rw [hk] at hkd
  cases D <;> simp only [TK.of, reduceCtorEq, TK.slice.injEq] at hkd
  subst hkd
  rename_i el
  obtain ⟨i, _, hi, _, _, hsz, hby, hze⟩ := cz hE
  obtain ⟨zz, hiz, hzc⟩ : ∃ z, i.zero = some z ∧ z.cells.size = i.size := by
    cases hiz : i.zero with
    | none => rw [hiz] at hze; rw [← hze] at hz; simp at hz; omega
    | some z => rw [hiz] at hze; exact ⟨z, rfl, by simp at hze; rw [hsz, ← hz, ← hze]; simp⟩
  obtain ⟨ad, c', ey, hc1, hc2, hpp⟩ := hdy
  obtain ⟨b', off', rfl, hp'⟩ := hpp hpos
  obtain ⟨news, hn1, hn2, hn3⟩ := pQ hp' _ (Nat.le_refl _)
  rw [List.take_length] at hn2
  have hnl : news.length = ys.length * i.size := by rw [hn1, ct, hsz, hs]
  have hnews : ∀ j u, news[j]? = some u → w.cell? ((⟨b', off', none⟩ : Addr).add j) = some u := fun j u hj => by rw [Addr.add_lit]; exact hn3 j u hj
  have hones := ju hn2 (lF E ys)
  have hesz : E.size = i.size := by rw [hsz, hs]
  -- behind a growth
  have grown : ∀ (olds : List Value) (cap : Nat), cN w M (xs.flatMap E.tys) olds → cap < xs.length + ys.length →
      (Builtin.append_ #[st, st] t #[a.eval x, a.eval y]).run P w = .ok (.slice (some ⟨w.heap.size, 0, none⟩) (xs.length + ys.length) (grownCap w (xs.length + ys.length) cap el)) (w.drew.alloc (.cells (olds.toArray ++ news.toArray ++ Builtin.zeroCells zz.cells (grownCap w (xs.length + ys.length) cap el - (xs.length + ys.length))) el)) →
      ∃ v w', (execOp a.eval ⟨some d, .call ⟨.builtin .append, #[x, y], #[st, st]⟩, t, p, e, none⟩).run P w = .ok (.value v) w' ∧ Fx.left { d := some d, ty := .qv E el tg J q k (xs ++ ys), S := [tg, J], sets := [(tg, .mr enc E el J q)], rs := cC x ++ cC y, rt := [tg] } w M w' v := by
    intro olds cap hdo hcap hrun
    have holen : olds.length = xs.length * i.size := by rw [cO hdo, ct, hesz]
    have hge := grownCap_ge w (xs.length + ys.length) cap el
    have hcm : grownCap w (xs.length + ys.length) cap el ≤ maxLen := grownCap_le_maxLen w (xs.length + ys.length) cap el (by simp only [maxLen]; omega)
    have hsize : (w.drew.alloc (.cells (olds.toArray ++ news.toArray ++ Builtin.zeroCells zz.cells (grownCap w (xs.length + ys.length) cap el - (xs.length + ys.length))) el)).heap.size = w.heap.size + 1 := by simp
    have hold : ∀ b2, b2 < w.heap.size → (w.drew.alloc (.cells (olds.toArray ++ news.toArray ++ Builtin.zeroCells zz.cells (grownCap w (xs.length + ys.length) cap el - (xs.length + ys.length))) el)).heap[b2]? = w.heap[b2]? := fun b2 h => Below.heap_alloc w.drew _ b2 h
    have hnew : (w.drew.alloc (.cells (olds.toArray ++ news.toArray ++ Builtin.zeroCells zz.cells (grownCap w (xs.length + ys.length) cap el - (xs.length + ys.length))) el)).heap[w.heap.size]? = some (.cells (olds.toArray ++ news.toArray ++ Builtin.zeroCells zz.cells (grownCap w (xs.length + ys.length) cap el - (xs.length + ys.length))) el (0, 0)) := gz w.drew _
    have hos : (w.drew.alloc (.cells (olds.toArray ++ news.toArray ++ Builtin.zeroCells zz.cells (grownCap w (xs.length + ys.length) cap el - (xs.length + ys.length))) el)).os = w.os ∧ (w.drew.alloc (.cells (olds.toArray ++ news.toArray ++ Builtin.zeroCells zz.cells (grownCap w (xs.length + ys.length) cap el - (xs.length + ys.length))) el)).tape = w.tape ∧ (w.drew.alloc (.cells (olds.toArray ++ news.toArray ++ Builtin.zeroCells zz.cells (grownCap w (xs.length + ys.length) cap el - (xs.length + ys.length))) el)).output = w.output := ⟨rfl, rfl, rfl⟩
    have hcs : (olds.toArray ++ news.toArray ++ Builtin.zeroCells zz.cells (grownCap w (xs.length + ys.length) cap el - (xs.length + ys.length))).size = grownCap w (xs.length + ys.length) cap el * i.size := by
      simp only [Array.size_append, List.size_toArray, size_zeroCells, hzc, holen, hnl, ← Nat.add_mul]
      congr 1
      omega
    have htk : ((olds.toArray ++ news.toArray ++ Builtin.zeroCells zz.cells (grownCap w (xs.length + ys.length) cap el - (xs.length + ys.length))).toList.drop 0).take ((xs ++ ys).length * E.size) = olds ++ news := by
      rw [List.drop_zero]
      simp only [Array.toList_append]
      rw [List.take_left' (by rw [List.length_append, holen, hnl, List.length_append, hesz, Nat.add_mul])]
    generalize hw' : (w.drew.alloc (.cells (olds.toArray ++ news.toArray ++ Builtin.zeroCells zz.cells (grownCap w (xs.length + ys.length) cap el - (xs.length + ys.length))) el)) = w' at *
    generalize hcu : (olds.toArray ++ news.toArray ++ Builtin.zeroCells zz.cells (grownCap w (xs.length + ys.length) cap el - (xs.length + ys.length))) = cu at *
    have le : Le (· ∈ [tg, J]) (· ∈ ([] : List Nat)) w M w' (fun b2 => if b2 = w.heap.size then some J else M b2) :=
      ⟨by omega, hos.1, hos.2.1, hos.2.2, fun b2 hb2 hm => ⟨by rw [if_neg (by omega)]; exact hm, hold b2 hb2⟩, fun b2 u hm _ => by
        have := wf.lt b2 u hm
        exact ⟨by rw [if_neg (by omega)]; exact hm, fun _ => hold b2 this⟩⟩
    have le0 : Le (· ∈ ([] : List Nat)) (· ∈ ([] : List Nat)) w M w' (fun b2 => if b2 = w.heap.size then some J else M b2) :=
      ⟨by omega, hos.1, hos.2.1, hos.2.2, fun b2 hb2 hm => ⟨by rw [if_neg (by omega)]; exact hm, hold b2 hb2⟩, fun b2 u hm _ => by
        have := wf.lt b2 u hm
        exact ⟨by rw [if_neg (by omega)]; exact hm, fun _ => hold b2 this⟩⟩
    have wf' : Wf w' (fun b2 => if b2 = w.heap.size then some J else M b2) := by
      refine ⟨fun b2 u hm => ?_, fun b2 b3 u ht1 hm hm' => ?_⟩
      · split at hm
        · omega
        · have := wf.lt b2 u hm; omega
      · split at hm
        · injection hm with hm; omega
        · split at hm'
          · injection hm' with hm'; omega
          · exact wf.inj b2 b3 u ht1 hm hm'
    have hblt := wf.lt b tg hb
    refine ⟨.slice (some ⟨w.heap.size, 0, none⟩) (xs.length + ys.length) (grownCap w (xs.length + ys.length) cap el), w', by simp [execOp, resolve, invoke, builtin, hrun], _, wf', le, ⟨.inr ⟨w.heap.size, 0, grownCap w (xs.length + ys.length) cap el, cu, by rw [List.length_append], by simp, hnew, by rw [List.length_append]; exact hge, hcm, by rw [hcs, hesz]; omega, ?_⟩, fun g e0 he => ?_⟩, fun y hy => ?_⟩
    · rw [htk, List.flatMap_append]
      exact gG (bu le0 (by rw [E.dG]; intro _ h; cases h) (by rw [E.cX]; intro _ h; cases h) hdo) (bu le0 (by rw [E.dG]; intro _ h; cases h) (by rw [E.cX]; intro _ h; cases h) hn2)
    · simp only [mH, Option.some.injEq, Prod.mk.injEq] at he
      obtain ⟨rfl, _⟩ := he
      refine ⟨b, es, clock, (if_neg (by omega)).trans hb, (hold b hblt).trans hhb, fun j u e1 hj hju => ?_⟩
      have := wf.lt _ _ (F6 hvals hj hju)
      omega
    · rw [List.mem_singleton.1 hy]
      refine ⟨hn, b, es, clock, (if_neg (by omega)).trans hb, (hold b hblt).trans hhb, hkeys, ?_, hap⟩
      exact bu le0 (fun _ _ h => by cases h) (fun _ _ h => by cases h) hvals
  rcases hrow with ⟨hxe, ex⟩ | ⟨g, off, cap, cur, ex, hg, hh, hxc, hcm, hfit, hdx⟩
  · have hrn := run_append_nil (P := P) w st t el i zz hD hi hiz ⟨b', off', none⟩ ys.length c' news hnl hnews hpos (by omega) (by rw [hby]; have := hlen; rw [Nat.add_mul] at this; omega)
    subst hxe
    refine grown [] 0 trivial (by simpa using hpos) ?_
    rw [ex, ey]
    simpa using hrn
  · by_cases hroom : xs.length + ys.length ≤ cap
    · -- in place
      have hm : (xs.length + ys.length) * E.size ≤ cap * E.size := Nat.mul_le_mul_right _ hroom
      rw [Nat.add_mul] at hm
      have hcf : off + xs.length * i.size + news.length ≤ cur.size := by rw [hnl, ← hesz]; omega
      have hf := run_firstCells_some (P := P) w i.size ys.length ⟨b', off', none⟩ ys.length c' news hnl hnews
      have hst := run_storeCells_at (P := P) g (off + xs.length * i.size) el news 0 cur w hh (by simpa using hcf) hones
      rw [jE _ hh] at hst
      simp only [Nat.add_zero] at hst
      obtain ⟨h1', h2', h3'⟩ := iD (cs' := (cur.toList.take (off + xs.length * i.size) ++ news ++ cur.toList.drop (off + xs.length * i.size + news.length)).toArray) (Tb := el) wf hg _ rfl
      have hrun : (Builtin.append_ #[st, st] t #[a.eval x, a.eval y]).run P w = .ok (.slice (some ⟨g, off, none⟩) (xs.length + ys.length) cap) { w with heap := w.heap.setIfInBounds g (.cells (cur.toList.take (off + xs.length * i.size) ++ news ++ cur.toList.drop (off + xs.length * i.size + news.length)).toArray el (0, 0)) } := by
        rw [ex, ey]
        simp [Builtin.append_, run_underlying hD, sizeOf, typeInfo, hi, Builtin.lenOf, hroom, hf, Addr.add_lit, hst]
      have le : Le (· ∈ [tg, J]) (· ∈ ([] : List Nat)) w M { w with heap := w.heap.setIfInBounds g (.cells (cur.toList.take (off + xs.length * i.size) ++ news ++ cur.toList.drop (off + xs.length * i.size + news.length)).toArray el (0, 0)) } M :=
        h2'.weaken (fun u hu => by simp only [List.mem_singleton] at hu; subst hu; simp) (fun _ h => by cases h)
      have hgb : g ≠ b := fun e => by rw [e, hhb] at hh; cases hh
      have hroomy : roomy (a.eval x) = true := by rw [ex]; simp [roomy]; omega
      have hb' : ({ w with heap := w.heap.setIfInBounds g (.cells (cur.toList.take (off + xs.length * i.size) ++ news ++ cur.toList.drop (off + xs.length * i.size + news.length)).toArray el (0, 0)) } : World).heap[b]? = some (.map es clock) := by
        show (w.heap.setIfInBounds g _)[b]? = _
        rw [Array.getElem?_setIfInBounds_ne hgb]; exact hhb
      refine ⟨.slice (some ⟨g, off, none⟩) (xs.length + ys.length) cap, _, by simp [execOp, resolve, invoke, builtin, hrun], M, h1', le, ⟨.inr ⟨g, off, cap, _, by rw [List.length_append], hg, h3', by rw [List.length_append]; exact hroom, hcm, ?_, ?_⟩, fun g' e0 he => ?_⟩, fun y hy => ?_⟩
      · simp only [List.size_toArray, List.length_append, List.length_take, List.length_drop, Array.length_toList]
        omega
      · rw [List.length_append, Nat.add_mul, hesz, ← hnl, List.toList_toArray, B9 _ _ _ _ (by simpa using hcf), List.flatMap_append]
        refine bu h2' (by rw [← List.flatMap_append, E.dG]; intro _ h; cases h) (by rw [← List.flatMap_append, E.cX]; intro _ h; cases h) (gG ?_ hn2)
        rw [← hesz]; exact hdx
      · simp only [mH, Option.some.injEq, Prod.mk.injEq] at he
        obtain ⟨rfl, rfl⟩ := he
        refine ⟨b, es, clock, hb, hb', fun j u e1 hj hju => ?_⟩
        have := ownb g (off + xs.length * E.size) (by rw [ex]; rfl) j u e1 hj hju
        refine ⟨this.1, fun _ => ?_⟩
        have := this.2 hroomy
        rw [Nat.add_mul]; omega
      · rw [List.mem_singleton.1 hy]
        refine ⟨hn, b, es, clock, hb, hb', hkeys, ?_, hap⟩
        refine iJ (by rw [cO hvals]) fun j ty hj => ?_
        obtain ⟨u, hu, hdu⟩ := dj hvals j ty hj
        refine ⟨u, hu, ?_⟩
        rw [List.getElem?_map] at hj
        obtain ⟨qe, _, rfl⟩ := Option.map_eq_some_iff.1 hj
        rcases hdu with h | ⟨g2, off2, c2, cur2, e2, hg2, hh2, k1, k2, k3, k4⟩
        · exact .inl h
        · by_cases hgg : g = g2
          · subst hgg
            rw [hh] at hh2
            injection hh2 with hh2
            injection hh2 with ha _
            subst ha
            have hend := (ownb g (off + xs.length * E.size) (by rw [ex]; rfl) j u _ hu (by rw [e2]; rfl)).2 hroomy
            refine .inr ⟨g, off2, c2, _, e2, hg, h3', k1, k2, ?_, ?_⟩
            · simp only [List.size_toArray, List.length_append, List.length_take, List.length_drop, Array.length_toList]
              omega
            · rw [List.toList_toArray, Hr _ _ _ _ 0 _ (by rw [← hesz]; exact hend) (by simpa using hcf)]
              exact bu h2' (by rw [E.dG]; intro _ h; cases h) (by rw [E.cX]; intro _ h; cases h) k4
          · refine .inr ⟨g2, off2, c2, cur2, e2, hg2, ?_, k1, k2, k3, bu h2' (by rw [E.dG]; intro _ h; cases h) (by rw [E.cX]; intro _ h; cases h) k4⟩
            show (w.heap.setIfInBounds g _)[g2]? = _
            rw [Array.getElem?_setIfInBounds_ne hgg]; exact hh2
    · have holds : ∀ j u, ((cur.toList.drop off).take (xs.length * E.size))[j]? = some u → w.cell? ((⟨g, off, none⟩ : Addr).add j) = some u := fun j u hj => by
        rw [List.getElem?_take] at hj
        split at hj
        · rw [List.getElem?_drop] at hj
          rw [Addr.add_lit]
          simpa [World.cell?, hh] using hj
        · cases hj
      have hol : ((cur.toList.drop off).take (xs.length * E.size)).length = xs.length * i.size := by rw [cO hdx, ct, hesz]
      have hrn := run_append_grow (P := P) w st t el i zz hD hi hiz ⟨g, off, none⟩ xs.length cap _ hol holds ⟨b', off', none⟩ ys.length c' news hnl hnews (by omega) (by omega) (growslice_fits (by omega) (by rw [hby]; exact hlen))
      refine grown _ cap hdx (by omega) ?_
      rw [ex, ey]
      exact hrn
end
end Go.T
namespace Go.T
open Go Go.RowKit
end Go.T
namespace Go.T
open Go Go.RowKit Go.Lib
section
variable {P : Program} {fr : Fr} {ops : Array Oper} {A : As} {rest : List Oper} {K : As → List (As × Fx) → Prop} {d : Nat} {t ty' ty2 : TypeId} {p : String} {e : Array Edge} [T : kr P]
end
end Go.T
namespace Go.T
open Go Go.RowKit
section
variable {P : Program} {fr : Fr} {ops : Array Oper} {A : As} {rest : List Oper} {K : As → List (As × Fx) → Prop} {t mt : TypeId} {p : String} {e : Array Edge} {d : Option Nat} {x y z : Operand}
end
section
variable {P : Program} {fr : Fr} {ops : Array Oper} {A : As} {rest : List Oper} {K : As → List (As × Fx) → Prop} {d : Nat} {t mt kt et : TypeId} {p : String} {e : Array Edge}
variable {κ β : Type} [DecidableEq κ]
end
section
variable {A : As} {κ β : Type} [DecidableEq κ]
end
section
variable {P : Program} {fr : Fr} {ops : Array Oper} {A : As} {rest : List Oper} {K : As → List (As × Fx) → Prop} {t ty' : TypeId} {p : String} {e : Array Edge} [T : kr P]
end
section
variable {P : Program} {fr : Fr} {ops : Array Oper} {A : As} {rest : List Oper} {K : As → List (As × Fx) → Prop} {d : Nat} {t ty' : TypeId} {p : String} {e : Array Edge} [T : kr P]
theorem o7 {α : Type} [Inhabited α] {E : El α} {xs : List α} {x : Operand} {tg off Tb : Nat} {ti : TI} (i : Nat) (hx : A.op fr x = .ptr tg off) (he : off = i * E.size) (hc : A.tag tg = some (.vec E Tb xs)) (h1 : fu tg) (hT : T.eS[ty']? = some ti) (ha : ti.k.agg = true) (hsz : ti.size = E.size) (hi : i < xs.length)
 (h : af P fr ops rest (A.set d (.agg (E.tys (nth xs i)))) fun A' l => K A' ((A, { d := some d, ty := .agg (E.tys (nth xs i)), rs := cC x, rt := [tg] }) :: l)) : af P fr ops (⟨some d, .load ty' x, t, p, e, none⟩ :: rest) A K :=
 bK (bS rfl rfl fun a w M wf hr ht => by
  have := cK (x := x) (fun _ h => h) hr
  rw [hx] at this
  obtain ⟨b, hb, e⟩ := this
  obtain ⟨cs, g1, g2, g3⟩ := vB (l := E.tys (nth xs i)) (b := b) (q := off) (off := 0) (n := ti.size) (m := E.tys (nth xs i)) (fun j t hj => oo wf h1 hb (mA hc w M ht) (by
   rw [he]; exact lB E xs hi j t hj)) (by rw [List.drop_zero, hsz, ← E.len (nth xs i), List.take_length]) (by rw [E.len, hsz])
  exact ⟨.agg cs.toArray, by simp only [execOp, e]; rw [Sem.run_bind, gT (off := off) hT ha g1 (by simpa using g3)]; rfl, cs.toArray, rfl, by simpa using g2⟩) h
end
section
variable {P : Program} {A : As} {fn : Func} {n : Nat} {w0 : World} {M0 : bB} [T : kr P]
end
section
variable {P : Program} {fr : Fr} {A : As} {c : Code} {Q : Exit → Act → World → Prop}
theorem gM {tg : Nat} {C D : Cont} (hc : A.tag tg = some C) (h : C.Sub D) (h' : fU P fr c ⟨A.slots, (tg, D) :: A.tags⟩ Q) : fU P fr c A Q := fun a w ⟨M, ok, hsl, ht⟩ =>
 h' a w ⟨M, ok, hsl, fun x hx => by
  rcases List.mem_cons.1 hx with rfl | hx
  ·exact h _ _ _ (ht _ (cy hc))
  exact ht x hx⟩
end
section
variable {P : Program} {fr : Fr} {ops : Array Oper} {A : As} {rest : List Oper} {K : As → List (As × Fx) → Prop} {d : Nat} {t mt kt et : TypeId} {p : String} {e : Array Edge} {κ β : Type} [DecidableEq κ]
end
end Go.T
namespace Go.T
open Go Go.RowKit
def L4 (J : World → bB → Prop) (w : World) (M : bB) : Prop :=
  ∃ Mc, Wf w Mc ∧ EP Mc ∧ J w Mc ∧ (∀ b, M b = none → Mc b = none) ∧ ∀ b u, b < w.heap.size → M b = some u → u ≠ 7000 → Mc b = some (Zt + b)
theorem vZ {J : World → bB → Prop} (hJ : Cb J) {S K : Nat → Prop} {w w' : World} {M M' : bB} (le : Le S K w M w' M') (hs : ¬ S 7000) (hk : ¬ K 7000) (h : L4 J w M) : L4 J w' M' := by
  obtain ⟨Mc, wf, z, hj, h1, h2⟩ := h
  have own : ∀ b, M b = some 7000 → M' b = some 7000 ∧ w'.heap[b]? = w.heap[b]? := fun b h => let ⟨a, c⟩ := le.own b _ h hk; ⟨a, c hs⟩
  have mb : ∀ b t, Mc b = some t → t < Zt → M b = some 7000 := fun b t h ht => by
    cases hm : M b with
    | none => rw [h1 b hm] at h; cases h
    | some u =>
      by_cases e : u = 7000
      · rw [e]
      · have := h2 b u (wf.lt b t h) hm e
        rw [this] at h; injection h with h; omega
  let N : bB := fun b => if b < w'.heap.size then (match M' b with | none => none | some u => if u = 7000 then (if b < w.heap.size ∧ M b = some 7000 then Mc b else some (Zt + b)) else some (Zt + b)) else none
  have hN : ∀ b, N b = if b < w'.heap.size then (match M' b with | none => none | some u => if u = 7000 then (if b < w.heap.size ∧ M b = some 7000 then Mc b else some (Zt + b)) else some (Zt + b)) else none := fun _ => rfl
  have zok : EP N := by
    intro b u h hu
    rw [hN] at h
    split at h
    · split at h
      · cases h
      · split at h
        · split at h
          · exact z b u h hu
          · injection h with h; exact h.symm
        · injection h with h; exact h.symm
    · cases h
  have wf' : Wf w' N := by
    refine ⟨fun b t h => ?_, fun b b' t ht1 h h' => ?_⟩
    · rw [hN] at h
      split at h
      · assumption
      · cases h
    · have part : ∀ b, N b = some (t + 1) → Mc b = some (t + 1) := fun b h => by
        have hz : t + 1 < Zt := by unfold Zt; omega
        rw [hN] at h
        split at h
        · split at h
          · cases h
          · split at h
            · split at h
              · exact h
              · injection h with h; omega
            · injection h with h; omega
        · cases h
      exact wf.inj b b' t ht1 (part b h) (part b' h')
  have lez : Le (fun t => Zt ≤ t) (fun t => Zt ≤ t) w Mc w' N := by
    refine ⟨le.size, le.os, le.tape, le.out, fun b hb hm => ?_, fun b t hm ht => ?_⟩
    · have hb' : b < w'.heap.size := Nat.lt_of_lt_of_le hb le.size
      cases hmb : M b with
      | none =>
        obtain ⟨a, c⟩ := le.p7 b hb hmb
        exact ⟨by rw [hN, if_pos hb', a], c⟩
      | some u =>
        by_cases e : u = 7000
        · subst e
          obtain ⟨a, c⟩ := own b hmb
          exact ⟨by rw [hN, if_pos hb', a]; show (if (7000 : Nat) = 7000 then _ else _) = _; rw [if_pos rfl, if_pos ⟨hb, hmb⟩]; exact hm, c⟩
        · rw [h2 b u hb hmb e] at hm; cases hm
    · have hlt := wf.lt b t hm
      have h0 := mb b t hm (Nat.lt_of_not_le ht)
      obtain ⟨a, c⟩ := own b h0
      refine ⟨?_, fun _ => c⟩
      rw [hN, if_pos (Nat.lt_of_lt_of_le hlt le.size), a]
      show (if (7000 : Nat) = 7000 then _ else _) = _
      rw [if_pos rfl, if_pos ⟨hlt, h0⟩]; exact hm
  refine ⟨N, wf', zok, hJ _ _ _ _ wf' lez hj, fun b h => ?_, fun b u hb h hu => ?_⟩
  · rw [hN, h]; split <;> rfl
  · rw [hN, if_pos hb, h]; show (if u = 7000 then _ else _) = _; rw [if_neg hu]
def Cont.ck {J : World → bB → Prop} (hJ : Cb J) : Cont :=
  { den := fun w M t => t = 7000 ∧ L4 J w M
    mono := fun le _ _ hs hk ⟨e, h⟩ => ⟨e, vZ hJ le (e ▸ hs) (e ▸ hk) h⟩ }
theorem Cont.Ke {J : Nat → World → bB → Prop} (hJ : ∀ k, Cb (J k)) {a b : Nat} (e : a = b) : (Cont.ck (hJ a)).Sub (Cont.ck (hJ b)) := by subst e; exact Cont.aF _
def Nj (b1 : Bool) (J1 Jx : World → bB → Prop) (w : World) (M : bB) (v : Value) : Prop := (v = .bool b1 ∧ L4 J1 w M) ∨ (v = .bool (!b1) ∧ L4 Jx w M)
def Ty.yb {J1 Jx : World → bB → Prop} (b1 : Bool) (h1 : Cb J1) (hx : Cb Jx) : Ty :=
  ⟨Nj b1 J1 Jx, [7000], [7000], fun le hk hs h => h.imp (fun ⟨e, h⟩ => ⟨e, vZ h1 le (hs _ (by simp)) (hk _ (by simp)) h⟩) (fun ⟨e, h⟩ => ⟨e, vZ hx le (hs _ (by simp)) (hk _ (by simp)) h⟩), true, fun _ h => h.elim (fun ⟨e, _⟩ => e ▸ rfl) (fun ⟨e, _⟩ => e ▸ rfl)⟩
def Aq (w : World) (M1 Mc' : bB) : bB := fun b => if b < w.heap.size then M1 b else (Mc' b).map fun _ => 7000
theorem Fv {w w' : World} {M1 Mc Mc' : bB} (wf1 : Wf w M1) (wf' : Wf w' Mc') (h1 : ∀ b, M1 b = none → Mc b = none) (h2 : ∀ b u, b < w.heap.size → M1 b = some u → u ≠ 7000 → Mc b = some (Zt + b)) (le : Le (fun t => t < Zt) (fun t => t < Zt) w Mc w' Mc') :
 Wf w' (Aq w M1 Mc') ∧ Le (· ∈ [7000]) (· ∈ ([] : List Nat)) w M1 w' (Aq w M1 Mc') ∧ (∀ b, Aq w M1 Mc' b = none → Mc' b = none) ∧ ∀ b u, b < w'.heap.size → Aq w M1 Mc' b = some u → u ≠ 7000 → Mc' b = some (Zt + b) := by
 unfold Aq
 refine ⟨⟨fun b u h => ?_, fun b b' u ht1 h h' => ?_⟩, ⟨le.size, le.os, le.tape, le.out, fun b hb hm => ⟨by simp [hb, hm], (le.p7 b hb (h1 b hm)).2⟩, fun b u hm _ => ⟨by simp [wf1.lt b u hm, hm], fun hs => ?_⟩⟩, fun b h => ?_, fun b u _ h hu => ?_⟩
 ·split at h
  ·exact Nat.lt_of_lt_of_le ‹_› le.size
  obtain ⟨v, hv, _⟩ := Option.map_eq_some_iff.1 h
  exact wf'.lt b v hv
 ·have part : ∀ b, (if b < w.heap.size then M1 b else (Mc' b).map fun _ => 7000) = some (u + 1) → M1 b = some (u + 1) := fun b h => by
   split at h
   ·exact h
   obtain ⟨v, _, hv⟩ := Option.map_eq_some_iff.1 h
   omega
  exact wf1.inj b b' u ht1 (part b h) (part b' h')
 ·have hu : u ≠ 7000 := fun e => hs (by simp [e])
  exact (le.own b _ (h2 b u (wf1.lt b _ hm) hm hu) (by omega)).2 (by omega)
 ·split at h
  ·exact (le.p7 b ‹_› (h1 b h)).1
  simpa using h
 split at h
 ·exact (le.own b _ (h2 b u ‹_› h hu) (by omega)).1
 obtain ⟨v, _, hv⟩ := Option.map_eq_some_iff.1 h
 exact absurd hv.symm hu
section
variable {P : Program} {fr : Fr} {ops : Array Oper} {A : As} {rest : List Oper} {K : As → List (As × Fx) → Prop} {d : Nat} {t ty' : TypeId} {p : String} {e : Array Edge}
theorem Ae {c l k : Nat} {encs : List (List Ty)} {J : Nat → World → bB → Prop} {Jx : World → bB → Prop} (hJ : ∀ k, Cb (J k)) (hJx : Cb Jx) (hY : L0 P l encs J Jx) {xs : List Operand} {ats : Array TypeId} {tys : List Ty}
 (hkd : fr.kd = .plain) (hc : A.op fr (.tmp c) = .ex (yv l)) (hx : nu A fr xs = tys) (hd : cI tys = []) (hdc : bk tys = []) (hk : encs[k]? = some tys) (ht : A.tag 7000 = some (.ck (hJ k)))
 (h : af P fr ops rest (A.after { d := some d, ty := .yb true (hJ (k + 1)) hJx, S := [7000], rs := c :: xs.flatMap cC, rt := [7000] }) fun A' l' => K A' ((A, { d := some d, ty := .yb true (hJ (k + 1)) hJx, S := [7000], rs := c :: xs.flatMap cC, rt := [7000] }) :: l')) :
 af P fr ops (⟨some d, .call ⟨.value (.tmp c), xs.toArray, ats⟩, t, p, e, none⟩ :: rest) A K := by
 refine ⟨{ d := some d, ty := .yb true (hJ (k + 1)) hJx, S := [7000], rs := c :: xs.flatMap cC, rt := [7000] }, ⟨rfl, by simp, by simp, by simp, fun a w M wf hsz hrd htg => ?_⟩, h⟩
 rw [if_pos (by simp [Region.wanted])]
 have hcv := cK (x := .tmp c) (rs := c :: xs.flatMap cC) (fun u hu => by exact (List.mem_singleton.1 hu) ▸ List.mem_cons_self) hrd
 rw [hc] at hcv
 have hcv : a.eval (.tmp c) = yv l := hcv
 obtain ⟨_, Mc, wfc, z, hj, h1, h2⟩ := htg _ (cy ht) (by simp)
 have hv : cN w Mc tys (xs.map a.eval) := iI h1 hd hdc (hx ▸ gl (rs := c :: xs.flatMap cC) hrd fun x hx c hc => List.mem_cons_of_mem _ (List.mem_flatMap.2 ⟨x, hx, hc⟩))
 obtain ⟨fn, tmps, assign, body, hy, hR⟩ := hY k tys hk w Mc _ wfc z hj hv
 refine ⟨fun f _ => fr.kd.uq f, ?_⟩
 have hrun : (execOp a.eval ⟨some d, .call ⟨.value (.tmp c), xs.toArray, ats⟩, t, p, e, none⟩).run P w = .ok (.round l fn tmps assign body) w := by
  simp [execOp, resolve, hcv, yv, Deferred.ofValue, invoke, hy]
 rw [Oper.semAt_eq _ _ _ (by intro c h; cases h), hrun, Oper.uponIn_round]
 refine ⟨fun h => (by rw [fr.kd.wV] at h; cases h), ?_⟩
 have hfe : fr.kd.ia = Fence.wide := by rw [hkd]; rfl
 rw [hfe]
 refine RoundIn.mono hR fun en w' ⟨Mc', wf', z', le, hor⟩ => ?_
 obtain ⟨g1, g2, g3, g4⟩ := Fv wf wf' h1 h2 le
 rcases hor with ⟨rfl, hj'⟩ | ⟨rfl, hj'⟩
 ·exact ⟨.bool true, rfl, _, g1, g2, .inl ⟨rfl, Mc', wf', z', hj', g3, g4⟩, by simp⟩
 exact ⟨.bool false, rfl, _, g1, g2, .inr ⟨rfl, Mc', wf', z', hj', g3, g4⟩, by simp⟩
theorem GZ {x : Operand} {J1 Jx : World → bB → Prop} {h1 : Cb J1} {hx : Cb Jx} {b1 : Bool} (hop : A.op fr x = .yb b1 h1 hx)
 (h : af P fr ops rest (A.set d (.yb (!b1) h1 hx)) fun A' l' => K A' ((A, { d := some d, ty := .yb (!b1) h1 hx, rs := cC x }) :: l')) : af P fr ops (⟨some d, .unOp .not ty' x, t, p, e, none⟩ :: rest) A K :=
 bK (bS rfl rfl fun a w M _ hrd _ => by
  have hdx := cK (x := x) (fun _ h => h) hrd
  rw [hop] at hdx
  rcases hdx with ⟨ex, hj⟩ | ⟨ex, hj⟩
  ·exact ⟨.bool (!b1), by simp [execOp, ex, Op.unary], .inl ⟨rfl, hj⟩⟩
  exact ⟨.bool (!!b1), by simp [execOp, ex, Op.unary], .inr ⟨rfl, hj⟩⟩) h
end
section
variable {P : Program} {fr : Fr} {A : As} {Q : Exit → Act → World → Prop} {x y : Code}
theorem Dk {c : Operand} {J1 Jx : World → bB → Prop} {h1 : Cb J1} {hx : Cb Jx} (hc : A.op fr c = .yb false h1 hx) (hth : fU P fr x ⟨A.slots, (7000, .ck hx) :: A.tags⟩ Q) (hel : fU P fr y ⟨A.slots, (7000, .ck h1) :: A.tags⟩ Q) : fU P fr (.cond c x y) A Q := fun a w ha => by
 obtain ⟨M, ok, hs, ht⟩ := ha
 have hd := cK (x := c) (rs := cC c) (fun _ h => h) (fun c _ hn => hs c hn)
 rw [hc] at hd
 rcases hd with ⟨ev, hj⟩ | ⟨ev, hj⟩
 ·exact wpIn_cond_false ev (hel a w ⟨M, ok, hs, fun x hx => by
   rcases List.mem_cons.1 hx with rfl | hx
   ·exact ⟨rfl, hj⟩
   exact ht x hx⟩)
 ·exact wpIn_cond_true ev (hth a w ⟨M, ok, hs, fun x hx => by
   rcases List.mem_cons.1 hx with rfl | hx
   ·exact ⟨rfl, hj⟩
   exact ht x hx⟩)
end
def kT (Mc : bB) (g : Option Nat) : bB := fun b => match Mc b with | none => none | some u => if u < Zt then some 7000 else if some b = g then some 1000 else some 5000
theorem Bp {Mc : bB} {g : Option Nat} {b : Nat} (h : kT Mc g b = none) : Mc b = none := by
 unfold kT at h
 split at h
 ·assumption
 split at h
 ·cases h
 split at h <;> cases h
theorem nK {Mc : bB} {g : Option Nat} {b : Nat} (h : Mc b = none) : kT Mc g b = none := by simp [kT, h]
theorem Em {w : World} {Mc : bB} {g : Option Nat} (wf : Wf w Mc) : Wf w (kT Mc g) := by
  refine ⟨fun b t h => ?_, fun b b' t ht h h' => ?_⟩
  · cases hm : Mc b with
    | none => rw [nK hm] at h; cases h
    | some u => exact wf.lt b u hm
  · have key : ∀ b, kT Mc g b = some (t + 1) → some b = g := fun b h => by
      unfold kT at h
      split at h
      · cases h
      · split at h
        · injection h with h; omega
        · split at h
          · assumption
          · injection h with h; omega
    have e1 := key b h
    have e2 := key b' h'
    rw [← e2] at e1; injection e1
theorem FJ {w : World} {Mc : bB} {g : Option Nat} {J : World → bB → Prop} (wf : Wf w Mc) (z : EP Mc) (hj : J w Mc) : L4 J w (kT Mc g) := by
 refine ⟨Mc, wf, z, hj, fun b h => Bp h, fun b u _ h hu => ?_⟩
 unfold kT at h
 split at h
 ·cases h
 rename_i v hv
 split at h
 ·injection h with h; exact absurd h.symm hu
 rw [hv]; congr 1; exact z b v hv (by omega)
section
variable {P : Program}
variable {A : As} {fn : Func} {n : Nat} {J1 Jx : World → bB → Prop}
end
end Go.T
namespace Go.T
open Go Go.RowKit
section
variable {P : Program} {fr : Fr} {ops : Array Oper} {A : As} {rest : List Oper} {K : As → List (As × Fx) → Prop} {d : Nat} {t ty' : TypeId} {p : String} {e : Array Edge} [T : kr P]
variable {α : Type} {E : El α} {Tb J : Nat} {xs ys : List α}
theorem Lc {x : Operand} {ti : TI} {el : Nat} (hx : A.op fr x = .iU E Tb J xs) (hT : T.eS[ty']? = some ti) (hk : ti.k = .slice el)
 (h : af P fr ops rest (A.set d (.int .i64 (xs.length : Nat))) fun A' l => K A' ((A, { d := some d, ty := .int .i64 (xs.length : Nat), rs := cC x }) :: l)) :
 af P fr ops (⟨some d, .call ⟨.builtin .len, #[x], #[ty']⟩, t, p, e, none⟩ :: rest) A K :=
 bK (bS rfl rfl fun a w M _ hr _ => by
  have := cK (x := x) (fun _ h => h) hr
  rw [hx] at this
  have h1 := this
  obtain ⟨_, D, _, hD, hkd, _⟩ := cz hT
  rw [hk] at hkd
  cases D <;> simp only [TK.of, reduceCtorEq, TK.slice.injEq] at hkd
  refine ⟨.int .i64 xs.length, ?_, rfl⟩
  rcases h1 with ⟨hn, ex⟩ | ⟨g, off, c, cur, ex, _⟩
  ·simp [execOp, ex, resolve, invoke, builtin, Builtin.len_, run_underlying hD, hn, goInt]
  simp [execOp, ex, resolve, invoke, builtin, Builtin.len_, run_underlying hD, goInt]) h
theorem G6 [Inhabited α] {x y : Operand} {kd : IntKind} {i : Nat} {ti te : TI} {el : Nat} (hx : A.op fr x = .iU E Tb J xs) (hy : A.op fr y = .int kd i) (hT : T.eS[ty']? = some ti) (hk : ti.k = .slice el) (hE : T.eS[el]? = some te) (hs : te.size = E.size) (hi : i < xs.length)
 (h : af P fr ops rest (A.set d (.op J (E.tys (nth xs i)))) fun A' l' => K A' ((A, { d := some d, ty := .op J (E.tys (nth xs i)), rs := cC x ++ cC y }) :: l')) : af P fr ops (⟨some d, .indexAddr ty' x y, t, p, e, none⟩ :: rest) A K :=
 bK (bS rfl rfl fun a w M _ hr _ => by
  obtain ⟨hdx, hdy⟩ := op2 hr
  rw [hx] at hdx; rw [hy] at hdy
  have h1 := hdx
  have ey : a.eval y = .int kd i := hdy
  rcases h1 with ⟨h0, _⟩ | ⟨g, off, c, cur, ex, hg, hh, hn, _, _, hd⟩
  ·subst h0; simp at hi
  refine ⟨_, by simp only [execOp, ex, ey, Sem.run_bind, iw hT hk hE (Int.natCast_nonneg i) (show (i : Int).toNat < xs.length from hi)]; rfl, g, off + i * te.size, by simp, hg, fun j ty hj => ?_⟩
  rw [hs]
  exact ES hh hd hi hj) h
theorem Lr {x y : Operand} {kd : IntKind} {lo : Nat} {ti te : TI} {el : Nat} (hx : A.op fr x = .iU E Tb J xs) (hy : A.op fr y = .int kd lo) (hT : T.eS[ty']? = some ti) (hk : ti.k = .slice el) (hE : T.eS[el]? = some te) (hs : te.size = E.size) (hlo : lo ≤ xs.length) (h0 : 0 < xs.length)
 (h : af P fr ops rest (A.set d (.iU E Tb J (xs.drop lo))) fun A' l' => K A' ((A, { d := some d, ty := .iU E Tb J (xs.drop lo), rs := cC x ++ cC y }) :: l')) : af P fr ops (⟨some d, .slice ty' x (some y) none none, t, p, e, none⟩ :: rest) A K :=
 bK (bS rfl rfl fun a w M _ hr _ => by
  obtain ⟨hdx, hdy⟩ := op2 hr
  rw [hx] at hdx; rw [hy] at hdy
  have h1 := hdx
  have ey : a.eval y = .int kd lo := hdy
  obtain ⟨_, D, _, hD, hkd, _⟩ := cz hT
  rw [hk] at hkd
  cases D <;> simp only [TK.of, reduceCtorEq, TK.slice.injEq] at hkd
  subst hkd
  have hsz := fun w => dR (P := P) hE w
  rcases h1 with ⟨hn, _⟩ | ⟨g, off, c, cur, ex, hg, hh, hn, hc, hsz2, hd⟩
  ·subst hn; simp at h0
  have hlc : lo ≤ c := by omega
  have hrun : ∃ ad, (execOp a.eval ⟨some d, .slice ty' x (some y) none none, t, p, e, none⟩).run P w = .ok (.value (.slice (some ad) (xs.length - lo) (c - lo))) w ∧ ad = (if c = lo then (⟨g, off, none⟩ : Addr) else ⟨g, off + lo * E.size, none⟩) := by
   refine ⟨_, ?_, rfl⟩
   simp [execOp, ex, ey, Instr.sliceAt, Instr.slice, run_underlying hD, Instr.sliceBounds, Instr.sliceBound, asIntOf, hsz, hs, hn, hlo]
   by_cases hcl : c = lo
   ·simp [hcl]
   simp [hcl]; exact Addr.add_lit _ _ _
  obtain ⟨ad, hrun, had⟩ := hrun
  have hlen : (xs.drop lo).length = xs.length - lo := List.length_drop
  have key : cN w M ((xs.drop lo).flatMap E.tys) ((cur.toList.drop (off + lo * E.size)).take ((xs.drop lo).length * E.size)) := by
   have := lE (lo * E.size) hd
   rw [List.drop_take, List.drop_drop, ← Nat.sub_mul] at this
   have e1 : (xs.flatMap E.tys).drop (lo * E.size) = (xs.drop lo).flatMap E.tys := by
    have : xs.flatMap E.tys = (xs.take lo).flatMap E.tys ++ (xs.drop lo).flatMap E.tys := by rw [← List.flatMap_append, List.take_append_drop]
    rw [this, List.drop_left' (by rw [ct, List.length_take, Nat.min_eq_left hlo])]
   rw [e1] at this
   rw [hlen]; exact this
  by_cases hcl : c = lo
  ·rw [if_pos hcl] at had
   subst had
   refine ⟨_, hrun, .inr ⟨g, off, c - lo, cur, by rw [hlen], hg, hh, by rw [hlen]; omega, by omega, ?_, ?_⟩⟩
   ·have : c - lo = 0 := by omega
    rw [this]; omega
   have h0' : xs.drop lo = [] := List.eq_nil_of_length_eq_zero (by rw [hlen]; omega)
   rw [h0']; simp [cN]
  rw [if_neg hcl] at had
  subst had
  refine ⟨_, hrun, .inr ⟨g, off + lo * E.size, c - lo, cur, by rw [hlen], hg, hh, by rw [hlen]; omega, by omega, ?_, key⟩⟩
  rw [Nat.add_assoc, ← Nat.add_mul, show lo + (c - lo) = c by omega]; exact hsz2) h
theorem Ec {x y : Operand} {st el : Nat} {ti te : TI} (hx : A.op fr x = .iU E el J xs) (hy : A.op fr y = .sl E ys) (hJ : 4096 ≤ J) (hp : fr.pass.contains J = false) (hpos : 0 < ys.length) (hT : T.eS[st]? = some ti) (hk : ti.k = .slice el) (hE : T.eS[el]? = some te) (hs : te.size = E.size) (hz : te.zero.length = te.size) (h0 : 0 < te.size)
    (hlen : (xs.length + ys.length) * te.bytes ≤ 140737488355328) (hlen' : xs.length + ys.length ≤ 9223372036854775807)
    (h : af P fr ops rest (A.after { d := some d, ty := .iU E el J (xs ++ ys), S := [J], rs := cC x ++ cC y }) fun A' l' => K A' ((A, { d := some d, ty := .iU E el J (xs ++ ys), S := [J], rs := cC x ++ cC y }) :: l')) :
    af P fr ops (⟨some d, .call ⟨.builtin .append, #[x, y], #[st, st]⟩, t, p, e, none⟩ :: rest) A K := by
  refine ⟨_, gH rfl rfl (by simp) (by simp; omega) (by simp) fun a w M wf hr htg => ?_, h⟩
  obtain ⟨hdx, hdy⟩ := op2 hr
  rw [hx] at hdx; rw [hy] at hdy
  have hrow := hdx
  obtain ⟨_, D, _, hD, hkd, _⟩ := cz hT
  rw [hk] at hkd
  cases D <;> simp only [TK.of, reduceCtorEq, TK.slice.injEq] at hkd
  subst hkd
  rename_i el
  obtain ⟨i, _, hi, _, _, hsz, hby, hze⟩ := cz hE
  obtain ⟨zz, hiz, hzc⟩ : ∃ z, i.zero = some z ∧ z.cells.size = i.size := by
    cases hiz : i.zero with
    | none => rw [hiz] at hze; rw [← hze] at hz; simp at hz; omega
    | some z => rw [hiz] at hze; exact ⟨z, rfl, by simp at hze; rw [hsz, ← hz, ← hze]; simp⟩
  obtain ⟨ad, c', ey, hc1, hc2, hpp⟩ := hdy
  obtain ⟨b', off', rfl, hp'⟩ := hpp hpos
  obtain ⟨news, hn1, hn2, hn3⟩ := pQ hp' _ (Nat.le_refl _)
  rw [List.take_length] at hn2
  have hnl : news.length = ys.length * i.size := by rw [hn1, ct, hsz, hs]
  have hnews : ∀ j u, news[j]? = some u → w.cell? ((⟨b', off', none⟩ : Addr).add j) = some u := fun j u hj => by rw [Addr.add_lit]; exact hn3 j u hj
  have hones := ju hn2 (lF E ys)
  have hesz : E.size = i.size := by rw [hsz, hs]
  -- behind a growth
  have grown : ∀ (olds : List Value) (cap : Nat), cN w M (xs.flatMap E.tys) olds → cap < xs.length + ys.length →
      (Builtin.append_ #[st, st] t #[a.eval x, a.eval y]).run P w = .ok (.slice (some ⟨w.heap.size, 0, none⟩) (xs.length + ys.length) (grownCap w (xs.length + ys.length) cap el)) (w.drew.alloc (.cells (olds.toArray ++ news.toArray ++ Builtin.zeroCells zz.cells (grownCap w (xs.length + ys.length) cap el - (xs.length + ys.length))) el)) →
      ∃ v w', (execOp a.eval ⟨some d, .call ⟨.builtin .append, #[x, y], #[st, st]⟩, t, p, e, none⟩).run P w = .ok (.value v) w' ∧ Fx.left { d := some d, ty := .iU E el J (xs ++ ys), S := [J], rs := cC x ++ cC y } w M w' v := by
    intro olds cap hdo hcap hrun
    have holen : olds.length = xs.length * i.size := by rw [cO hdo, ct, hesz]
    have hge := grownCap_ge w (xs.length + ys.length) cap el
    have hcm : grownCap w (xs.length + ys.length) cap el ≤ maxLen := grownCap_le_maxLen w (xs.length + ys.length) cap el (by simp only [maxLen]; omega)
    have hsize : (w.drew.alloc (.cells (olds.toArray ++ news.toArray ++ Builtin.zeroCells zz.cells (grownCap w (xs.length + ys.length) cap el - (xs.length + ys.length))) el)).heap.size = w.heap.size + 1 := by simp
    have hold : ∀ b2, b2 < w.heap.size → (w.drew.alloc (.cells (olds.toArray ++ news.toArray ++ Builtin.zeroCells zz.cells (grownCap w (xs.length + ys.length) cap el - (xs.length + ys.length))) el)).heap[b2]? = w.heap[b2]? := fun b2 h => Below.heap_alloc w.drew _ b2 h
    have hnew : (w.drew.alloc (.cells (olds.toArray ++ news.toArray ++ Builtin.zeroCells zz.cells (grownCap w (xs.length + ys.length) cap el - (xs.length + ys.length))) el)).heap[w.heap.size]? = some (.cells (olds.toArray ++ news.toArray ++ Builtin.zeroCells zz.cells (grownCap w (xs.length + ys.length) cap el - (xs.length + ys.length))) el (0, 0)) := gz w.drew _
    have hos : (w.drew.alloc (.cells (olds.toArray ++ news.toArray ++ Builtin.zeroCells zz.cells (grownCap w (xs.length + ys.length) cap el - (xs.length + ys.length))) el)).os = w.os ∧ (w.drew.alloc (.cells (olds.toArray ++ news.toArray ++ Builtin.zeroCells zz.cells (grownCap w (xs.length + ys.length) cap el - (xs.length + ys.length))) el)).tape = w.tape ∧ (w.drew.alloc (.cells (olds.toArray ++ news.toArray ++ Builtin.zeroCells zz.cells (grownCap w (xs.length + ys.length) cap el - (xs.length + ys.length))) el)).output = w.output := ⟨rfl, rfl, rfl⟩
    have hcs : (olds.toArray ++ news.toArray ++ Builtin.zeroCells zz.cells (grownCap w (xs.length + ys.length) cap el - (xs.length + ys.length))).size = grownCap w (xs.length + ys.length) cap el * i.size := by
      simp only [Array.size_append, List.size_toArray, size_zeroCells, hzc, holen, hnl, ← Nat.add_mul]
      congr 1
      omega
    have htk : ((olds.toArray ++ news.toArray ++ Builtin.zeroCells zz.cells (grownCap w (xs.length + ys.length) cap el - (xs.length + ys.length))).toList.drop 0).take ((xs ++ ys).length * E.size) = olds ++ news := by
      rw [List.drop_zero]
      simp only [Array.toList_append]
      rw [List.take_left' (by rw [List.length_append, holen, hnl, List.length_append, hesz, Nat.add_mul])]
    generalize hw' : (w.drew.alloc (.cells (olds.toArray ++ news.toArray ++ Builtin.zeroCells zz.cells (grownCap w (xs.length + ys.length) cap el - (xs.length + ys.length))) el)) = w' at *
    generalize hcu : (olds.toArray ++ news.toArray ++ Builtin.zeroCells zz.cells (grownCap w (xs.length + ys.length) cap el - (xs.length + ys.length))) = cu at *
    have le : Le (· ∈ [J]) (· ∈ ([] : List Nat)) w M w' (fun b2 => if b2 = w.heap.size then some J else M b2) :=
      ⟨by omega, hos.1, hos.2.1, hos.2.2, fun b2 hb2 hm => ⟨by rw [if_neg (by omega)]; exact hm, hold b2 hb2⟩, fun b2 u hm _ => by
        have := wf.lt b2 u hm
        exact ⟨by rw [if_neg (by omega)]; exact hm, fun _ => hold b2 this⟩⟩
    have le0 : Le (· ∈ ([] : List Nat)) (· ∈ ([] : List Nat)) w M w' (fun b2 => if b2 = w.heap.size then some J else M b2) :=
      ⟨by omega, hos.1, hos.2.1, hos.2.2, fun b2 hb2 hm => ⟨by rw [if_neg (by omega)]; exact hm, hold b2 hb2⟩, fun b2 u hm _ => by
        have := wf.lt b2 u hm
        exact ⟨by rw [if_neg (by omega)]; exact hm, fun _ => hold b2 this⟩⟩
    have wf' : Wf w' (fun b2 => if b2 = w.heap.size then some J else M b2) := by
      refine ⟨fun b2 u hm => ?_, fun b2 b3 u ht1 hm hm' => ?_⟩
      · split at hm
        · omega
        · have := wf.lt b2 u hm; omega
      · split at hm
        · injection hm with hm; omega
        · split at hm'
          · injection hm' with hm'; omega
          · exact wf.inj b2 b3 u ht1 hm hm'
    refine ⟨.slice (some ⟨w.heap.size, 0, none⟩) (xs.length + ys.length) (grownCap w (xs.length + ys.length) cap el), w', by simp [execOp, resolve, invoke, builtin, hrun], _, wf', le, .inr ⟨w.heap.size, 0, grownCap w (xs.length + ys.length) cap el, cu, by rw [List.length_append], by simp, hnew, by rw [List.length_append]; exact hge, hcm, by rw [hcs, hesz]; omega, ?_⟩, by simp⟩
    rw [htk, List.flatMap_append]
    exact gG (bu le0 (by rw [E.dG]; intro _ h; cases h) (by rw [E.cX]; intro _ h; cases h) hdo) (bu le0 (by rw [E.dG]; intro _ h; cases h) (by rw [E.cX]; intro _ h; cases h) hn2)
  rcases hrow with ⟨hxe, ex⟩ | ⟨g, off, cap, cur, ex, hg, hh, hxc, hcm, hfit, hdx⟩
  · have hrn := run_append_nil (P := P) w st t el i zz hD hi hiz ⟨b', off', none⟩ ys.length c' news hnl hnews hpos (by omega) (by rw [hby]; have := hlen; rw [Nat.add_mul] at this; omega)
    subst hxe
    refine grown [] 0 trivial (by simpa using hpos) ?_
    rw [ex, ey]
    simpa using hrn
  · by_cases hroom : xs.length + ys.length ≤ cap
    · -- in place
      have hm : (xs.length + ys.length) * E.size ≤ cap * E.size := Nat.mul_le_mul_right _ hroom
      rw [Nat.add_mul] at hm
      have hcf : off + xs.length * i.size + news.length ≤ cur.size := by rw [hnl, ← hesz]; omega
      have hf := run_firstCells_some (P := P) w i.size ys.length ⟨b', off', none⟩ ys.length c' news hnl hnews
      have hst := run_storeCells_at (P := P) g (off + xs.length * i.size) el news 0 cur w hh (by simpa using hcf) hones
      rw [jE _ hh] at hst
      simp only [Nat.add_zero] at hst
      obtain ⟨h1', h2', h3'⟩ := iD (cs' := (cur.toList.take (off + xs.length * i.size) ++ news ++ cur.toList.drop (off + xs.length * i.size + news.length)).toArray) (Tb := el) wf hg _ rfl
      have hrun : (Builtin.append_ #[st, st] t #[a.eval x, a.eval y]).run P w = .ok (.slice (some ⟨g, off, none⟩) (xs.length + ys.length) cap) { w with heap := w.heap.setIfInBounds g (.cells (cur.toList.take (off + xs.length * i.size) ++ news ++ cur.toList.drop (off + xs.length * i.size + news.length)).toArray el (0, 0)) } := by
        rw [ex, ey]
        simp [Builtin.append_, run_underlying hD, sizeOf, typeInfo, hi, Builtin.lenOf, hroom, hf, Addr.add_lit, hst]
      have le : Le (· ∈ [J]) (· ∈ ([] : List Nat)) w M { w with heap := w.heap.setIfInBounds g (.cells (cur.toList.take (off + xs.length * i.size) ++ news ++ cur.toList.drop (off + xs.length * i.size + news.length)).toArray el (0, 0)) } M :=
        h2'.weaken (fun u hu => by simp only [List.mem_singleton] at hu; subst hu; simp) (fun _ h => by cases h)
      refine ⟨.slice (some ⟨g, off, none⟩) (xs.length + ys.length) cap, _, by simp [execOp, resolve, invoke, builtin, hrun], M, h1', le, .inr ⟨g, off, cap, _, by rw [List.length_append], hg, h3', by rw [List.length_append]; exact hroom, hcm, ?_, ?_⟩, by simp⟩
      · simp only [List.size_toArray, List.length_append, List.length_take, List.length_drop, Array.length_toList]
        omega
      · rw [List.length_append, Nat.add_mul, hesz, ← hnl, List.toList_toArray, B9 _ _ _ _ (by simpa using hcf), List.flatMap_append]
        refine bu h2' (by rw [← List.flatMap_append, E.dG]; intro _ h; cases h) (by rw [← List.flatMap_append, E.cX]; intro _ h; cases h) (gG ?_ hn2)
        rw [← hesz]; exact hdx
    · have holds : ∀ j u, ((cur.toList.drop off).take (xs.length * E.size))[j]? = some u → w.cell? ((⟨g, off, none⟩ : Addr).add j) = some u := fun j u hj => by
        rw [List.getElem?_take] at hj
        split at hj
        · rw [List.getElem?_drop] at hj
          rw [Addr.add_lit]
          simpa [World.cell?, hh] using hj
        · cases hj
      have hol : ((cur.toList.drop off).take (xs.length * E.size)).length = xs.length * i.size := by rw [cO hdx, ct, hesz]
      have hrn := run_append_grow (P := P) w st t el i zz hD hi hiz ⟨g, off, none⟩ xs.length cap _ hol holds ⟨b', off', none⟩ ys.length c' news hnl hnews (by omega) (by omega) (growslice_fits (by omega) (by rw [hby]; exact hlen))
      refine grown _ cap hdx (by omega) ?_
      rw [ex, ey]
      exact hrn
end
section
variable {P : Program} {fr : Fr} {A : As} {c : Code} {Q : Exit → Act → World → Prop}
end
end Go.T
namespace Go.T
open Go Go.RowKit
theorem Ty.AP {s t : Ty} : (Ty.jq [s, t]).Sub (Ty.jq [Ty.any, t]) := fun w M v ⟨cs, e, h⟩ => ⟨cs, e, by
  obtain ⟨cs⟩ := cs
  match cs, h with
  | [_, _], ⟨_, h2, _⟩ => exact ⟨trivial, h2, trivial⟩⟩
theorem FG : Ty.any.Plain := fun _ _ _ _ _ _ => trivial
section
variable {P : Program} {fr : Fr} {ops : Array Oper} {A : As} {rest : List Oper} {K : As → List (As × Fx) → Prop} {d : Nat} {t : TypeId} {p : String} {e : Array Edge}
end
end Go.T
namespace Go.T
open Go Go.RowKit
theorem Ty.vL {α : Type} {E : El α} {T tg n : Nat} {xs : List α} (hn : xs.length = n) : (Ty.row E T tg xs).Sub (Ty.vs tg n) := fun w M v ⟨cs, h1, h2, h3⟩ => by
 subst hn
 rcases h1.2 with ⟨e, h0⟩ | ⟨g, cap, cur, ex, _, hh, hn1, hcap, _, htk⟩
 ·exact .inl ⟨h0, e⟩
 exact .inr ⟨g, cap, h3 g (by rw [ex]; rfl), ex, hn1, hcap⟩
theorem Cont.eC {T : Nat} {l l' : List Ty} (h : JW l l') : (Cont.cells T l).Sub (Cont.cells T l') := fun w M v ⟨b, cs, h1, h2, h3⟩ => ⟨b, cs, h1, h2, sj h h3⟩
end Go.T
namespace Go.T
open Go Go.RowKit
end Go.T
namespace Go.T
open Go Go.RowKit
section
variable {P : Program} {fr : Fr} {A : As} {c : Code} {Q : Exit → Act → World → Prop}
theorem lH {α : Type} {E : El α} {T Tc tg c0 : Nat} {l : List Ty} {xs : List α} (i : Nat) (hc : A.tag c0 = some (.cells Tc l)) (hi : l[i]? = some (.row E T tg xs))
 (h : fU P fr c ⟨A.slots, (tg, .vec E T xs) :: A.tags⟩ Q) : fU P fr c A Q := fun a w ⟨M, ok, hsl, ht⟩ => by
 refine h a w ⟨M, ok, hsl, fun x hx => ?_⟩
 rcases List.mem_cons.1 hx with rfl | hx
 ·obtain ⟨b, cs, hb, hh, hd⟩ := ht _ (cy hc)
  obtain ⟨v, _, ⟨ds, h1, h2, h3⟩⟩ := dj hd i _ hi
  rcases h1.2 with ⟨e, h0⟩ | ⟨g, cap, cur, ex, _, hh, hn1, hcap, _, htk⟩
  ·exact .inl (List.length_eq_zero_iff.1 h0)
  have hg : M g = some tg := h3 g (by rw [ex]; rfl)
  exact .inr ⟨g, cur, hg, hh, by rw [ct, htk]; exact h2⟩
 exact ht x hx
end
end Go.T
namespace Go.T
open Go Go.RowKit
section
variable {P : Program} {A : As} {fn : Func} {n : Nat} {w0 : World} {M0 : bB}
end
end Go.T
namespace Go.T
open Go Go.RowKit
section
variable {P : Program} {fr : Fr} {A : As} {c : Code} {Q : Exit → Act → World → Prop}
end
section
variable {P : Program} {A : As} {fn : Func} {n : Nat} {w0 : World} {M0 : bB}
end
end Go.T
namespace Go.T
open Go Go.RowKit
section
variable {P : Program} {fr : Fr} {ops : Array Oper} {A : As} {rest : List Oper} {K : As → List (As × Fx) → Prop} {d : Nat} {t : TypeId} {p : String} {e : Array Edge} {y : Operand}
theorem zD {c : Operand} {b : Bool} (hc : A.op fr c = .bool false) (hy : A.op fr y = .bool b)
 (h : af P fr ops rest (A.set d (.bool b)) fun A' l' => K A' ((A, { d := some d, ty := .bool b, rs := cC c ++ cC y }) :: l')) : af P fr ops (⟨some d, .pick c (.const (.bool true)) y, t, p, e, none⟩ :: rest) A K :=
 bK (bS rfl rfl fun a w M _ hrd _ => by
  obtain ⟨hdc, hdy⟩ := op2 hrd
  rw [hc] at hdc; rw [hy] at hdy
  have ec : a.eval c = .bool false := hdc
  have ey : a.eval y = .bool b := hdy
  exact ⟨.bool b, by simp only [execOp, ec, ey]; simp [asBool], rfl⟩) h
theorem Jr {c : Operand} (hc : A.op fr c = .bool true)
 (h : af P fr ops rest (A.set d (.bool true)) fun A' l' => K A' ((A, { d := some d, ty := .bool true, rs := cC c ++ cC y }) :: l')) : af P fr ops (⟨some d, .pick c (.const (.bool true)) y, t, p, e, none⟩ :: rest) A K :=
 bK (bS rfl rfl fun a w M _ hrd _ => by
  obtain ⟨hdc, _⟩ := op2 hrd
  rw [hc] at hdc
  have ec : a.eval c = .bool true := hdc
  exact ⟨.bool true, by simp only [execOp, ec]; simp [asBool, Act.eval], rfl⟩) h
theorem ze {op : Op} {j s : Nat} {want : Bool} (hs : oR ops j = some s) (hn : Nat.blt s fr.n = true) (hc : A.slots s = .ex undef)
 (h : af P fr ops rest (A.set d (.ex undef)) fun A' l' => K A' ((A, { d := some d, ty := .ex undef, rs := [s] }) :: l')) : af P fr ops (⟨some d, op, t, p, e, some (j, want)⟩ :: rest) A K := by
 refine ⟨{ d := some d, ty := .ex undef, rs := [s] }, ⟨rfl, (by simp), (by simp), (by simp), fun a w M wf hsz hrd htg => ?_⟩, h⟩
 have hv := hrd s List.mem_cons_self (by simpa using hn)
 rw [hc] at hv
 have hy := qC (ops := ops) hs (by rw [hsz]; simpa using hn) hv
 have hw : Region.wanted ⟨some d, op, t, p, e, some (j, want)⟩ (yielded ops a.tmps) = false := by
  simp only [Region.wanted, hy]
  cases want <;> simp_all
 rw [if_neg (by rw [hw]; simp)]
 exact ⟨M, wf, Le.refl _ _ _ _, rfl, by simp⟩
end
section
variable {P : Program} {fr : Fr} {A : As} {Q : Exit → Act → World → Prop} {code : Code}
end
end Go.T
namespace Go.T
open Go Go.RowKit
section
variable {P : Program} {fr : Fr} {A : As} {Q : Exit → Act → World → Prop}
end
end Go.T
namespace Go.T
open Go Go.RowKit
section
variable {P : Program} {fr : Fr} {ops : Array Oper} {A : As} {rest : List Oper} {K : As → List (As × Fx) → Prop} {d : Nat} {t ty' : TypeId} {p : String} {e : Array Edge} [T : kr P]
end
section
open Go.RowKit
variable {P : Program} {A : As} {fn : Func} {n : Nat} {w0 : World} {M0 : bB} {F : List Nat} {post : List (Nat × Cont)} [T : kr P]
end
section
variable {P : Program} {fr : Fr} {A : As}
end
end Go.T
namespace Go.T
open Go Go.RowKit
section
variable {P : Program} {fr : Fr} {A : As}
end
end Go.T
namespace Go.T
open Go Go.RowKit
end Go.T
namespace Go.T
open Go Go.RowKit
def Mp (tys : List Ty) (vs : List Value) (w : World) (M : bB) (_ : Nat) : Prop := cN w M tys vs
def Cont.fact (tys : List Ty) (vs : List Value) (h1 : cI tys = []) (h2 : bk tys = []) : Cont :=
  { den := Mp tys vs, deps := [], cdeps := [], mono := fun le _ _ _ _ h => bu le (by rw [h1]; intro _ h; cases h) (by rw [h2]; intro _ h; cases h) h }
def XB (b D Tb : Nat) (vs : List Value) (J : Nat → World → bB → Prop) : Prop :=
  ∀ k w M, Wf w M → J k w M → M b = some D ∧ ∃ cs : Array Value, w.heap[b]? = some (.cells cs Tb (0, 0)) ∧ cs.toList.take vs.length = vs
def Gc (P : Program) (f : FuncId) (b D Tb : Nat) (vs : List Value) (tys : List Ty) (args : Nat → List Ty) (encs : List (List Ty)) (resD resS : Ty) : Prop :=
  (∃ fn, P.funcs[f]? = some fn ∧ (fn.name == "runtime.NumGoroutine") = false ∧ fn.body.isNone = false) ∧
  ∀ l J Jx, (∀ k, Cb (J k)) → Cb Jx → XB b D Tb vs J → L0 P l encs J Jx → ∀ w M us, Wf w M → EP M → cN w M (args l) us → cN w M tys vs → J 0 w M →
    Calls P f us.toArray w (cq encs.length J Jx resD resS)
section
variable {P : Program}
theorem Ci {f b D Tb : Nat} {us : List Value} {tys : List Ty} {fn : Func} {c : Code} {args : Nat → List Ty} {encs : List (List Ty)} {n : Nat} (h1 : cI tys = []) (h2 : bk tys = []) (hf : P.funcs[f]? = some fn) (hb : fn.body = some c) (hn : (fn.name == "runtime.NumGoroutine") = false) (hnt : fn.ntmps = n) (hl : ∀ l, (args l).length ≤ n) (hdd : ∀ l, cI (args l) = [] ∧ bk (args l) = [])
    (h : ∀ l J Jx (hJ : ∀ k, Cb (J k)) (hJx : Cb Jx), XB b D Tb us J → L0 P l encs J Jx → ∀ w0 M0, fU P ⟨n, w0, M0, [7000, 5000], .plain⟩ c (sn (args l) [(7000, .ck (hJ 0)), (4000, Cont.fact tys us h1 h2)]) (bodyPost P fn (cq encs.length J Jx (Ty.jq []) (Ty.jq [])))) : Gc P f b D Tb us tys args encs (Ty.jq []) (Ty.jq []) := by
  refine ⟨⟨fn, hf, hn, by rw [hb]; rfl⟩, fun l J Jx hJ hJx hX hY w Mc vs wf z hd hus hj => calls_of_wp hf hb (wpIn_wide.1 (h l J Jx hJ hJx hX hY w (kT Mc none) _ _ ?_))⟩
  have hall : cN w (kT Mc none) (args l) vs := iI (fun b hb => nK hb) (hdd l).1 (hdd l).2 hd
  have hlen := cO hall
  have hl := hl l
  refine ⟨kT Mc none, ⟨Em wf, Le.refl _ _ _ _, by simp [hnt, hlen]; omega, Defs.nil⟩, fun c hc => ?_, fun x hx => ?_⟩
  · simp only [sn]
    cases ha : (args l)[c]? with
    | none => trivial
    | some ty =>
      obtain ⟨v, hv, hdv⟩ := dj hall c ty ha
      have : (vs.toArray ++ Array.replicate (fn.ntmps - vs.toArray.size) undef).getD c undef = v := by
        have hlt : c < vs.length := (List.getElem?_eq_some_iff.1 hv).1
        rw [Array.getD_eq_getD_getElem?, Array.getElem?_append_left (by simpa using hlt)]
        simp [hv]
      rw [this]; exact hdv
  · rcases List.mem_cons.1 hx with rfl | hx
    · exact ⟨rfl, FJ wf z hj⟩
    · rw [List.mem_singleton.1 hx]
      exact iI (fun b hb => nK hb) h1 h2 hus
theorem I6 {fn : Func} {n : Nat} {A : As} {w0 : World} {M0 : bB} {J : Nat → World → bB → Prop} {Jx : World → bB → Prop} {m : Nat} {h1 : Cb (J m)} (hr : fn.results = #[]) (ht : A.tag 7000 = some (.ck h1)) : dn ⟨n, w0, M0, [7000, 5000], .plain⟩ A (bodyPost P fn (cq m J Jx (Ty.jq []) (Ty.jq [])) .normal) := by
 intro a w' ⟨M, ok, hsl, htg⟩
 obtain ⟨_, Mc', wf', z', hj, k1, k2⟩ := htg _ (cy ht)
 exact ⟨ok.gW (by simp), _, results_none hr _ _ _, _, Mc', rfl, wf', z', .inl ⟨⟨_, rfl, trivial⟩, hj⟩⟩
theorem Hg {fn : Func} {n : Nat} {A : As} {w0 : World} {M0 : bB} {J : Nat → World → bB → Prop} {Jx : World → bB → Prop} {m k : Nat} {hJ : ∀ k, Cb (J k)} (e : k = m) (hr : fn.results = #[]) (ht : A.tag 7000 = some (.ck (hJ k))) : dn ⟨n, w0, M0, [7000, 5000], .plain⟩ A (bodyPost P fn (cq m J Jx (Ty.jq []) (Ty.jq [])) .normal) := by
 subst e; exact I6 hr ht
theorem DT {fn : Func} {n : Nat} {A : As} {w0 : World} {M0 : bB} {J : Nat → World → bB → Prop} {Jx : World → bB → Prop} {m : Nat} {hx : Cb Jx} (hr : fn.results = #[]) (ht : A.tag 7000 = some (.ck hx)) : dn ⟨n, w0, M0, [7000, 5000], .plain⟩ A (bodyPost P fn (cq m J Jx (Ty.jq []) (Ty.jq [])) .ret) := by
 intro a w' ⟨M, ok, hsl, htg⟩
 obtain ⟨_, Mc', wf', z', hj, k1, k2⟩ := htg _ (cy ht)
 exact ⟨ok.gW (by simp), _, results_none hr _ _ _, _, Mc', rfl, wf', z', .inr ⟨⟨_, rfl, trivial⟩, hj⟩⟩
variable {fr : Fr} {ops : Array Oper} {A : As} {rest : List Oper} {K : As → List (As × Fx) → Prop} {d : Nat} {t ty' : TypeId} {p : String} {e : Array Edge} [T : kr P]
omit T in
theorem kE {x : Operand} {b off : Nat} (hx : A.op fr x = .ex (.pointer (some ⟨b, off, none⟩)))
 (h : af P fr ops rest (A.set d (.ex (.pointer (some ⟨b, off, none⟩)))) fun A' l' => K A' ((A, { d := some d, ty := .ex (.pointer (some ⟨b, off, none⟩)), rs := cC x }) :: l')) : af P fr ops (⟨some d, .nilCheck x, t, p, e, none⟩ :: rest) A K :=
 bK (bS rfl rfl fun a w M _ hrd _ => by
  have hdx := cK (x := x) (fun _ h => h) hrd
  rw [hx] at hdx
  have ex : a.eval x = .pointer (some ⟨b, off, none⟩) := hdx
  exact ⟨_, by simp [execOp, ex], rfl⟩) h
theorem ig {x : Operand} {b off f : Nat} {ti tf : TI} {fs : List (Nat × Nat)} {o ft : Nat} (hx : A.op fr x = .ex (.pointer (some ⟨b, off, none⟩))) (hT : T.eS[ty']? = some ti) (hk : ti.k = .struct fs) (hf : fs[f]? = some (o, ft)) (hF : T.eS[ft]? = some tf) (h0 : tf.size ≠ 0)
 (h : af P fr ops rest (A.set d (.ex (.pointer (some ⟨b, off + o, none⟩)))) fun A' l' => K A' ((A, { d := some d, ty := .ex (.pointer (some ⟨b, off + o, none⟩)), rs := cC x }) :: l')) : af P fr ops (⟨some d, .fieldAddr ty' x f, t, p, e, none⟩ :: rest) A K :=
 bK (bS rfl rfl fun a w M _ hrd _ => by
  have hdx := cK (x := x) (fun _ h => h) hrd
  rw [hx] at hdx
  have ex : a.eval x = .pointer (some ⟨b, off, none⟩) := hdx
  exact ⟨_, by simp [execOp, ex, tM hT hk hf hF h0], rfl⟩) h
def Nb {α : Type} (v : Value) (E : El α) (T tg : Nat) (xs : List α) (w : World) (M : bB) (_ : Nat) : Prop := (Ty.row E T tg xs).den w M v
def Cont.rv {α : Type} (v : Value) (E : El α) (T tg : Nat) (xs : List α) : Cont :=
  { den := Nb v E T tg xs, deps := (Ty.row E T tg xs).deps, cdeps := (Ty.row E T tg xs).cdeps, mono := fun le hk hs _ _ h => (Ty.row E T tg xs).mono le hk hs h }
theorem pN {α : Type} {E : El α} {c : Nat} {y : Operand} {st el tg : Nat} {v : Value} {ti te : TI} {xs ys : List α} (hx : A.op fr (.tmp c) = .ex v) (hc : A.tag tg = some (.rv v E el tg xs)) (hy : A.op fr y = .sl E ys) (hcy : (cC y).contains c = false) (h1 : 1 ≤ tg) (hp : fr.pass.contains tg = false) (hT : T.eS[st]? = some ti) (hk : ti.k = .slice el) (hE : T.eS[el]? = some te) (hs : te.size = E.size) (hz : te.zero.length = te.size) (h0 : 0 < te.size)
 (hlen : (xs.length + ys.length) * te.bytes ≤ 140737488355328) (hlen' : xs.length + ys.length ≤ 9223372036854775807) (hyA : (A.set c (.row E el tg xs)).op fr y = A.op fr y) (hxA : (A.set c (.row E el tg xs)).op fr (.tmp c) = .row E el tg xs)
 (h : af P fr ops rest (A.after { d := some d, ty := .row E el tg (xs ++ ys), K := [tg], rs := cC (.tmp c) ++ cC y, rt := [tg] }) fun A' l' => K A' ((A, { d := some d, ty := .row E el tg (xs ++ ys), K := [tg], rs := cC (.tmp c) ++ cC y, rt := [tg] }) :: l')) :
 af P fr ops (⟨some d, .call ⟨.builtin .append, #[.tmp c, y], #[st, st]⟩, t, p, e, none⟩ :: rest) A K := by
 refine ⟨_, ?_, h⟩
 obtain ⟨a1, a2, a3, a4, a5⟩ := wJ (P := P) (fr := fr) (ops := ops) (A := A.set c (.row E el tg xs)) (d := d) (t := t) (p := p) (e := e) (x := .tmp c) (y := y) (E := E) (xs := xs) (ys := ys) (st := st) (by rw [hxA]; exact Ty.aF _) (hyA.trans hy) h1 hp hT hk hE hs hz h0 hlen hlen'
 refine ⟨a1, a2, a3, a4, fun a w M wf hsz hr ht => a5 a w M wf hsz (fun c' hc' hn => ?_) (fun x _ hx => by cases hx)⟩
 by_cases e : c' = c
 ·subst e
  have h1 : (A.slots c').den w M (a.tmps.getD c' undef) := hr c' hc' hn
  have h2 : Nb v E el tg xs w M tg := ht _ (cy hc) (by simp)
  have h3 : A.slots c' = .ex v := by
   have h5 : (bif Nat.blt c' fr.n then A.slots c' else Ty.any) = .ex v := hx
   have h6 : Nat.blt c' fr.n = true := by rw [Nat.blt_eq]; exact hn
   rw [h6, cond_true] at h5
   exact h5
  rw [h3] at h1
  have h4 : a.tmps.getD c' undef = v := h1
  show ((A.set c' (.row E el tg xs)).slots c').den w M _
  simp only [As.set, Nat.beq_refl, cond_true]
  rw [h4]; exact h2
 show ((A.set c (.row E el tg xs)).slots c').den w M _
 have : Nat.beq c' c = false := by cases hb : Nat.beq c' c with | false => rfl | true => exact absurd (Nat.eq_of_beq_eq_true hb) e
 simp only [As.set, this, cond_false]
 exact hr c' hc' hn
theorem Ar {vs l : List Value} {i : Nat} {v : Value} (h : l.take vs.length = vs) (hv : vs[i]? = some v) : l[i]? = some v := by
 have hi : i < vs.length := (List.getElem?_eq_some_iff.1 hv).1
 rw [← h, List.getElem?_take, if_pos hi] at hv
 exact hv
theorem q4 {x : Operand} {b D Tb off k : Nat} {vs : List Value} {tys : List Ty} {J : Nat → World → bB → Prop} {hJ : ∀ k, Cb (J k)} {ti : TI} {ty : Ty} {h1 : cI tys = []} {h2 : bk tys = []} (hX : XB b D Tb vs J) (hx : A.op fr x = .ex (.pointer (some ⟨b, off, none⟩))) (ht : A.tag 7000 = some (.ck (hJ k))) (htf : A.tag 4000 = some (Cont.fact tys vs h1 h2)) (hT : T.eS[ty']? = some ti) (ha : ti.k.agg = false) (hl : tys[off]? = some ty)
 (h : af P fr ops rest (A.set d ty) fun A' l => K A' ((A, { d := some d, ty := ty, rs := cC x, rt := [7000, 4000] }) :: l)) : af P fr ops (⟨some d, .load ty' x, t, p, e, none⟩ :: rest) A K :=
 bK (bS rfl rfl fun a w M wf hr htg => by
  have hdx := cK (x := x) (fun _ h => h) hr
  rw [hx] at hdx
  have ex : a.eval x = .pointer (some ⟨b, off, none⟩) := hdx
  obtain ⟨_, Mc, wfc, z, hj, g1, g2⟩ := htg _ (cy ht) (by simp)
  have hf : cN w M tys vs := htg _ (cy htf) (by simp)
  obtain ⟨_, cs, hh, hcs⟩ := hX k w Mc wfc hj
  obtain ⟨v, hv, hd⟩ := dj hf off ty hl
  have hv' : w.cell? ⟨b, off, none⟩ = some v := by
   have := Ar hcs hv
   simpa [World.cell?, hh] using this
  exact ⟨v, by simp [execOp, ex, lI hT ha hv'], hd⟩) h
theorem pq {b D Tb k : Nat} {vs : List Value} {tys : List Ty} {J : Nat → World → bB → Prop} {hJ : ∀ k, Cb (J k)} {h1 : cI tys = []} {h2 : bk tys = []} {L : List Nat} (hX : XB b D Tb vs J) (hD : D < 4096) (ht : A.tag 7000 = some (.ck (hJ k))) (htf : A.tag 4000 = some (Cont.fact tys vs h1 h2)) (hL0 : L.contains 7000 = true) (hL1 : L.contains 4000 = true) :
    rB A L (.ex (.pointer (some ⟨b, 0, none⟩))) (.pp tys) := fun w M v wf htg hv => by
  have hv : v = .pointer (some ⟨b, 0, none⟩) := hv
  have hL0 : 7000 ∈ L := by simpa using hL0
  have hL1 : 4000 ∈ L := by simpa using hL1
  obtain ⟨_, Mc, wfc, z, hj, g1, g2⟩ := htg _ (cy ht) hL0
  have hf : cN w M tys vs := htg _ (cy htf) hL1
  obtain ⟨hb, cs, hh, hcs⟩ := hX k w Mc wfc hj
  have hlt : b < w.heap.size := wfc.lt b _ hb
  have hm : p9 M L b = none := by
    cases hm : M b with
    | none => exact jL hm
    | some u =>
      by_cases e : u = 7000
      · subst e; exact zV hm hL0
      · have := g2 b u hlt hm e
        rw [this] at hb
        injection hb with hb
        have : Zt = 1000000 := rfl
        omega
  have hf2 : cN w (p9 M L) tys vs := bu (S := fun _ => True) (K := fun _ => True) (w' := w) ⟨Nat.le_refl _, rfl, rfl, rfl, fun b _ hm => ⟨jL hm, rfl⟩, fun b t _ h => absurd trivial h⟩ (by rw [h1]; intro _ h; cases h) (by rw [h2]; intro _ h; cases h) hf
  refine ⟨b, 0, hv, hm, hlt, fun i t hi => ?_⟩
  obtain ⟨x, hx, hdx⟩ := dj hf2 i t hi
  refine ⟨x, ?_, hdx⟩
  have := Ar hcs hx
  simpa [World.cell?, hh] using this
end
theorem uf {l : List Nat} (h : l.all (fun t => Nat.blt t 1000000) = true) : ∀ t ∈ l, t < Zt := fun t ht => by
 have := List.all_eq_true.1 h t ht
 rw [Nat.blt_eq] at this; exact this
section
variable {P : Program} {fr : Fr} {A : As} {Q : Exit → Act → World → Prop} {c : Code}
theorem pJ {w : World} {M : bB} {l1 l2 : List Ty} {vs : List Value} (h : cN w M (l1 ++ l2) vs) : ∃ v1 v2, vs = v1 ++ v2 ∧ cN w M l1 v1 ∧ cN w M l2 v2 := by
  induction l1 generalizing vs with
  | nil => exact ⟨[], vs, rfl, trivial, h⟩
  | cons t l1 ih =>
    cases vs with
    | nil => cases h
    | cons v vs =>
      obtain ⟨v1, v2, e, h1, h2⟩ := ih h.2
      exact ⟨v :: v1, v2, by rw [e]; rfl, ⟨h.1, h1⟩, h2⟩
theorem Dg {w : World} {M : bB} : ∀ (vs : List Value), cN w M (vs.map Ty.ex) vs
  | [] => trivial
  | _ :: vs => ⟨rfl, Dg vs⟩
theorem qb {w : World} {M : bB} : ∀ {vs us : List Value}, cN w M (vs.map Ty.ex) us → us = vs
  | [], [], _ => rfl
  | [], _ :: _, h => by cases h
  | _ :: _, [], h => by cases h
  | v :: vs, u :: us, h => by rw [show u = v from h.1, qb h.2]
theorem IT {D Tb : Nat} {tys r : List Ty} (h1 : cI tys = []) (h2 : bk tys = []) (hc : A.tag D = some (.cells Tb (tys ++ r))) (hD : fu D)
 (h : ∀ vs, vs.length = tys.length → fU P fr c ⟨A.slots, (D, .cells Tb (vs.map Ty.ex ++ r)) :: (4000, Cont.fact tys vs h1 h2) :: A.tags.filter fun x => !(x.1 == D)⟩ Q) : fU P fr c A Q := by
 intro a w ⟨M, ok, hsl, htg⟩
 obtain ⟨b, cs, hb, hh, hd⟩ := htg _ (cy hc)
 obtain ⟨v1, v2, e, d1, d2⟩ := pJ hd
 refine h v1 (cO d1) a w ⟨M, ok, hsl, fun x hx => ?_⟩
 rcases List.mem_cons.1 hx with rfl | hx
 ·exact ⟨b, cs, hb, hh, by rw [e]; exact eN (Dg v1) d2⟩
 rcases List.mem_cons.1 hx with rfl | hx
 ·exact d1
 exact htg x (List.mem_filter.1 hx).1
theorem AR {D Tb : Nat} {vs : List Value} {tys r : List Ty} {h1 : cI tys = []} {h2 : bk tys = []} (hc : A.tag D = some (.cells Tb (vs.map Ty.ex ++ r))) (hf : A.tag 4000 = some (Cont.fact tys vs h1 h2))
 (h : fU P fr c ⟨A.slots, (D, .cells Tb (tys ++ r)) :: A.tags.filter fun x => !(x.1 == D)⟩ Q) : fU P fr c A Q := by
 intro a w ⟨M, ok, hsl, htg⟩
 obtain ⟨b, cs, hb, hh, hd⟩ := htg _ (cy hc)
 have hfd : cN w M tys vs := htg _ (cy hf)
 refine h a w ⟨M, ok, hsl, fun x hx => ?_⟩
 rcases List.mem_cons.1 hx with rfl | hx
 ·obtain ⟨v1, v2, e, d1, d2⟩ := pJ hd
  rw [qb d1] at e
  exact ⟨b, cs, hb, hh, by rw [e]; exact eN hfd d2⟩
 exact htg x (List.mem_filter.1 hx).1
theorem um {D Tb tg : Nat} {α : Type} {E : El α} {T : Nat} {xs : List α} (l1 : List Ty) {l2 : List Ty} (hc : A.tag D = some (.cells Tb (l1 ++ Ty.row E T tg xs :: l2)))
    (h : ∀ v, fU P fr c ⟨A.slots, (D, .cells Tb (l1 ++ Ty.ex v :: l2)) :: (tg, Cont.rv v E T tg xs) :: A.tags.filter fun x => !(x.1 == D)⟩ Q) : fU P fr c A Q := by
  intro a w ⟨M, ok, hsl, htg⟩
  obtain ⟨b, cs, hb, hh, hd⟩ := htg _ (cy hc)
  obtain ⟨v1, v2, e, d1, d2⟩ := pJ hd
  match v2, d2 with
  | v :: v2, d2 =>
    refine h v a w ⟨M, ok, hsl, fun x hx => ?_⟩
    rcases List.mem_cons.1 hx with rfl | hx
    · exact ⟨b, cs, hb, hh, by rw [e]; exact eN d1 ⟨rfl, d2.2⟩⟩
    · rcases List.mem_cons.1 hx with rfl | hx
      · exact d2.1
      · exact htg x (List.mem_filter.1 hx).1
theorem yP {T tg off : Nat} {l : List Ty} (hc : A.tag tg = some (.cells T l)) (hd : kX (cI l) [tg] = true) (h1 : fu tg) : wT A tg (.ptr tg off) (.pp (l.drop off)) := fun w M v wf ht hv =>
 k6 (A := A.set 0 (.ptr tg off)) (s := 0) rfl hc hd h1 w M v wf ht hv
theorem HC {tg i : Nat} {t : Ty} : ∀ {l l' : List Ty}, xZ A tg l l' → l'[i]? = some t → ∃ i', i' = i ∧ ∃ s, l[i']? = some s ∧ wT A tg s t := by
  induction i with
  | zero =>
    intro l l' h e
    match l, l', h with
    | [], [], _ => cases e
    | s :: _, t' :: _, h => injection e with e; subst e; exact ⟨0, rfl, s, rfl, h.1⟩
  | succ i ih =>
    intro l l' h e
    match l, l', h with
    | [], [], _ => cases e
    | _ :: l, _ :: l', h =>
      obtain ⟨i', rfl, s, h1, h2⟩ := ih (l := l) (l' := l') h.2 e
      exact ⟨i' + 1, rfl, s, h1, h2⟩
theorem Bq {tg : Nat} {l l' : List Ty} (h : xZ A tg l l') : wT A tg (.pp l) (.pp l') := fun w M v wf ht ⟨b, off, e, m1, m2, m3⟩ => by
 refine ⟨b, off, e, by simp [eV, m1], m2, fun i t hi => ?_⟩
 obtain ⟨_, rfl, s, h1, h2⟩ := HC h hi
 obtain ⟨x, hx, hdx⟩ := m3 _ s h1
 exact ⟨x, hx, h2 w M x wf ht hdx⟩
theorem zl {tg s : Nat} {l l' : List Ty} (hx : A.slots s = .pp l) (h : xZ A tg l l') : xW A tg s (.pp l') := fun w M v wf ht hv => Bq h w M v wf ht (hx ▸ hv)
theorem AL {f D Tb n sd : Nat} {tys : List Ty} {vs : List Value} {h1 : cI tys = []} {h2 : bk tys = []} {n9 : List Ty} {encs : List (List Ty)} {resD resS : Ty} {s : Nat → Ty} {tg : Nat → List (Nat × Cont)} {r : Nat → List Ty}
    (hI : ∀ b, Gc P f b D Tb vs tys (fun l => Ty.ex (yv l) :: Ty.pp [Ty.ex (.pointer (some ⟨b, 0, none⟩))] :: n9) encs resD resS)
    (hD : fu D) (hsn : sd < n) (hsd : s sd = Ty.ptr D 0) (htD : ∀ k, (D, Cont.cells Tb (vs.map Ty.ex ++ r k)) ∈ tg k) (htf : (4000, Cont.fact tys vs h1 h2) ∈ tg 0) :
    ∀ (l : Nat) (J : Nat → World → bB → Prop) (Jx : World → bB → Prop) (tm : Array Value), (∀ k, Cb (J k)) → Cb Jx → L0 P l encs J Jx → (∀ k w M, J k w M → (∀ c, c < n → (s c).den w M (tm.getD c undef)) ∧ ∀ x ∈ tg k, x.2.den w M x.1) → ∀ w M us, Wf w M → EP M → cN w M (Ty.ex (yv l) :: Ty.pp [Ty.ptr D 0] :: n9) us → J 0 w M → Calls P f us.toArray w (cq encs.length J Jx resD resS) := by
  intro l J Jx tm hJ hJx hY hS w M us wf z hd hj
  obtain ⟨u, rfl⟩ : ∃ u, D = u + 1 := ⟨D - 1, by have := hD.1; omega⟩
  have hat : ∀ k w M, Wf w M → J k w M → ∃ b, M b = some (u + 1) ∧ tm.getD sd undef = .pointer (some ⟨b, 0, none⟩) ∧ ∃ cs : Array Value, w.heap[b]? = some (.cells cs Tb (0, 0)) ∧ cs.toList.take vs.length = vs := fun k w M wf hj => by
    obtain ⟨g1, g2⟩ := hS k w M hj
    have g3 := g1 sd hsn
    rw [hsd] at g3
    obtain ⟨b, hb, e⟩ := g3
    obtain ⟨b', cs, hb', hh, hds⟩ := g2 _ (htD k)
    have := wf.inj b b' u hD.2 hb hb'
    subst this
    obtain ⟨v1, v2, e2, d1, d2⟩ := pJ hds
    rw [qb d1] at e2
    exact ⟨b, hb, e, cs, hh, by rw [e2, List.take_left']; rfl⟩
  obtain ⟨b, hb, eb, _⟩ := hat 0 w M wf hj
  have hX : XB b (u + 1) Tb vs J := fun k w' M' wf' hj' => by
    obtain ⟨b', hb', eb', cs, hh, hcs⟩ := hat k w' M' wf' hj'
    rw [eb] at eb'
    injection eb' with eb'
    injection eb' with eb'
    injection eb' with eb' _ _
    subst eb'
    exact ⟨hb', cs, hh, hcs⟩
  refine (hI b).2 l J Jx hJ hJx hX hY w M us wf z ?_ ((hS 0 w M hj).2 _ htf) hj
  match us, hd with
  | u1 :: u2 :: us, ⟨d1, ⟨q, off, e, m1, m2, m3⟩, d3⟩ =>
    refine ⟨d1, ⟨q, off, e, m1, m2, fun i t hi => ?_⟩, d3⟩
    cases i with
    | succ i => cases hi
    | zero =>
      obtain ⟨x, hx, b', hb', ex⟩ := m3 0 _ rfl
      have := wf.inj b b' u hD.2 hb hb'
      subst this
      injection hi with hi
      subst hi
      exact ⟨x, hx, ex⟩
end
end Go.T
namespace Go.Proofs.YtelbollidfdcjaaGreat
open Go Go.T
set_option maxHeartbeats 4000000
section
variable {y : bD}
theorem Eg (hr : y.cm) : (y.bins.length : Int) * y.days = (y.cells : Nat) := by
 rw [← D_eq hr]; unfold bD.cells; simp
theorem mz (hr : y.cm) : y.cells ≤ 20 := by
 have h1 := hr.bins; have h2 := hr.days; have h3 := D_eq hr
 have := Nat.mul_le_mul (show y.bins.length ≤ 4 by omega) (show y.D ≤ 5 by omega)
 unfold bD.cells; omega
theorem Af {s d : Int} (hs : 0 ≤ s ∧ s ≤ 4) (hd : 0 ≤ d ∧ d ≤ 6) : 0 ≤ s * d ∧ s * d ≤ 24 := by
 have : s = 0 ∨ s = 1 ∨ s = 2 ∨ s = 3 ∨ s = 4 := by omega
 rcases this with e | e | e | e | e <;> subst e <;> omega
def gA (n : Int) (l : List Int) : Int := l.foldl min n
theorem CG (n : Int) (l : List Int) : gA n (l.take 0) = n := rfl
theorem CE {n : Int} {l : List Int} {k : Nat} (h : k < l.length) : min (gA n (l.take k)) (nth l k) = gA n (l.take (k + 1)) := by
 unfold gA; rw [dw h, List.foldl_append]; rfl
def wX (k : Nat) : List Bool := List.replicate k true ++ List.replicate (8 - k) false
def bg : List Bool := List.replicate 8 true
theorem yN {k : Nat} (h : k ≤ 8) : (wX k).length = 8 := by unfold wX; rw [List.length_append, List.length_replicate, List.length_replicate]; omega
theorem C8 {k : Nat} (h : k < 8) : (wX k).set k true = wX (k + 1) := by
 unfold wX
 rw [List.set_append_right _ _ (by simp), List.length_replicate, Nat.sub_self, show 8 - k = (8 - (k + 1)) + 1 by omega, List.replicate_succ, List.set_cons_zero, List.replicate_succ', List.append_assoc]; rfl
theorem Kk (hr : y.cm) {s d : Int} (h : s = -1) : ((y.cells : Nat) : Int) = y.cell s d := by rw [h, rM hr]
theorem LI {s d : Int} (h : ¬ s = -1) : s * y.days + d = y.cell s d := (if_neg h).symm
theorem F4 (hr : y.cm) {b t : Nat} : (b : Int) * (y.days + 1) + t = (y.kept b t : Nat) := by
 rw [← D_eq hr]; unfold bD.kept; simp
end
attribute [local irreducible] bD.cell bD.kept bD.cells gA
attribute [local irreducible] iY fX nD qR jG jJ jI jK jF qu jD qw eJ gm qF gx ql nth fU dn af dy bodyPost Exit.then Exit.inBlock Code.wp Code.wpIn qh jH qi qX jC eT cZ cq bodyPostM eR
set_option maxRecDepth 100000 in
theorem rU (n : Int) (l : List Int) : dy Tryz.prog 180 [Ty.int .i64 n, Ty.sl cT l] (Ty.int .i64 (gA n l)) := by
 refine av Tryz.func180 rfl (by decide) Tryz.ntmps180 (by exact Nat.le_of_ble_eq_true rfl) fun w0 M0 => ?_
 refine jc (s := 1) rfl rfl jd fun hln => ?_
 refine aE (aA (cF rfl (aD (aC (aE (aE (aA (gB rfl (c9 rfl rfl rfl ?_)))))))))
 refine bQ rfl (aD (aC (aq ?_)))
 refine cj (fun (k : {k : Nat // k ≤ l.length}) => live [(0, Ty.int .i64 (gA n (l.take k.1))), (7, Ty.sl cT l), (8, Ty.int .i64 l.length), (9, Ty.int .i64 (k.1 : Nat))] []) (fun k => l.length - k.1) (⟨0, by omega⟩) ?_ fun k => ?_
 ·(refine dK.mk' ?_ ?_ <;> (repeat' (first | exact aJ | exact aI | refine aB ?_ (Ty.aW _) | refine aB ?_ (Ty.aF _) | refine aB ?_ ?_)))
  all_goals exact Ty.ah (CG n l).symm
 refine aE (aA (bE rfl rfl rfl (aD (aC (aE ?_)))))
 refine au rfl (fun hc1 => ?_) (fun hc1 => ?_)
 ·
  refine ak (aC (aE (aq (aE (aA ?_)))))
  refine bT rfl rfl rfl rfl rfl rfl (by omega) ?_
  refine aL rfl rfl rfl rfl (cF rfl (aD (aC (aA (bQ rfl (bQ rfl (uH rfl rfl (cF rfl (aD ?_)))))))))
  refine bV (aC (aA ?_))
  refine b9 rfl rfl (by omega) (by omega) ?_
  refine bQ rfl (aD ?_)
  refine bZ (⟨k.1 + 1, by omega⟩) ?_ (by show l.length - (k.1 + 1) < l.length - k.1; omega)
  (refine dK.mk' ?_ ?_ <;> (repeat' (first | exact aJ | exact aI | refine aB ?_ (Ty.aW _) | refine aB ?_ (Ty.aF _) | refine aB ?_ ?_)))
  all_goals skip
  all_goals exact Ty.ah (CE (by omega))
 refine cg (aR (aR (bA rfl (aC (aE (aA (bQ rfl (cF rfl (aD ?_)))))))))
 refine aC (ay (bh rfl rfl ?_))
 all_goals skip
 all_goals exact az rfl rfl (congrArg (Ty.int .i64) (by rw [List.take_of_length_le (by have := k.2; omega)]))
set_option maxRecDepth 100000 in
theorem q5 : dy Tryz.prog 118 [] (Ty.arr iZ bg) := by
 refine av Tryz.func118 rfl (by decide) Tryz.ntmps118 (by exact Nat.le_of_ble_eq_true rfl) fun w0 M0 => ?_
 refine aE (aA ?_)
 refine cH rfl (by exact List.cons_ne_nil _ _) rfl ?_
 refine aD (aC (aE (aA ?_)))
 refine Ao (E := iZ) (xs := List.replicate 8 false) rfl (by exact List.cons_ne_nil _ _) rfl rfl ?_
 refine aD (aC (aE (aE (aA (bQ rfl (aD (aC (aq ?_))))))))
 refine cj (fun (k : {k : Nat // k ≤ 8}) => live [(0, Ty.ptr 1 0), (1, Ty.ptr 2 0), (3, Ty.int .i64 (k.1 : Nat))] [(1, Cont.cells 180 [Ty.bool false, Ty.bool false, Ty.bool false, Ty.bool false, Ty.bool false, Ty.bool false, Ty.bool false, Ty.bool false]), (2, Cont.vec iZ 180 (wX k.1))]) (fun k => 8 - k.1) (⟨0, by omega⟩) ?_ fun k => ?_
 ·(refine dK.mk' ?_ ?_ <;> (repeat' (first | exact aJ | exact aI | refine aB ?_ (Ty.aW _) | refine aB ?_ (Ty.aF _) | refine aG rfl (Cont.aF _) ?_)))
 have hkl := yN k.2
 refine aE (aA (bE rfl rfl rfl (aD (aC (aE ?_)))))
 refine au rfl (fun hc1 => ?_) (fun hc1 => ?_)
 ·
  refine ak (aC (aE (aq (aE (aA (bQ rfl (cF rfl (aD (aC ?_)))))))))
  refine aA (bQ rfl ?_)
  refine rC (n := 8) rfl rfl rfl rfl rfl (by omega) (by omega) ?_
  refine r9 rfl rfl rfl (by decide) rfl rfl (by exact (rfl : _ = Ty.bool _)) rfl (by omega) (by decide) rfl rfl ?_
  refine aD (bV (aC (aA ?_)))
  refine b9 rfl rfl (by omega) (by omega) ?_
  refine bQ rfl (aD ?_)
  refine bZ (⟨k.1 + 1, by omega⟩) ?_ (by show 8 - (k.1 + 1) < 8 - k.1; omega)
  (refine dK.mk' ?_ ?_ <;> (repeat' (first | exact aJ | exact aI | refine aB ?_ (Ty.aW _) | refine aB ?_ (Ty.aF _) | refine aG rfl (Cont.aF _) ?_ | refine aG rfl ?_ ?_)))
  all_goals skip
  all_goals exact Cont.eF (C8 (by omega))
 refine cg (aR (aR (bA rfl (aC (aE ?_)))))
 obtain ⟨k, hk⟩ := k
 obtain rfl : k = 8 := by have h1 : ¬ (k : Int) < 8 := hc1; have h2 : k ≤ 8 := hk; omega
 have hkl := yN hk
 refine aA ?_
 refine iK rfl rfl (by decide) rfl rfl (by rw [hkl]; rfl) (fun e => by rw [e] at hkl; cases hkl) ?_
 refine Bj rfl rfl (by decide) rfl rfl (by rw [hkl]; rfl) rfl ?_
 refine aD (aC (ay ?_))
 refine AX (show wX 8 = bg from rfl) rfl rfl rfl rfl (by decide) rfl rfl (by rw [hkl]; rfl) (fun e => by rw [e] at hkl; cases hkl)
set_option maxRecDepth 100000 in
theorem sE (y : bD) (hr : y.cm) : dy Tryz.prog 131 [Ty.pp (bl y)] (Ty.int .i64 (y.cells : Nat)) := by
 refine av Tryz.func131 rfl (by decide) Tryz.ntmps131 (by exact Nat.le_of_ble_eq_true rfl) fun w0 M0 => ?_
 have hcm := Eg hr
 have hcl := mz hr
 refine aE (aA (cF rfl (aD (aC (aE (cW mixed rfl (jo rfl (bq rfl ?_))))))))
 refine aQ rfl rfl rfl rfl rfl (by decide) ?_
 refine aQ rfl rfl rfl rfl rfl (by decide) ?_
 refine aL rfl rfl rfl rfl (c9 rfl rfl rfl (jo rfl (bq rfl ?_)))
 refine aQ rfl rfl rfl rfl rfl (by decide) ?_
 refine aQ rfl rfl rfl rfl rfl (by decide) ?_
 refine aL rfl rfl rfl rfl ?_
 refine D4 rfl rfl (by rw [hcm]; omega) (by rw [hcm]; omega) ?_
 refine cF rfl (aD ?_)
 refine ⟨by kernel_rfl, ?_⟩
 refine aC (ay (bh rfl rfl ?_))
 all_goals skip
 all_goals exact az rfl rfl (congrArg (Ty.int .i64) hcm)
set_option maxRecDepth 100000 in
theorem we (y : bD) (hr : y.cm) (s d : Int) (hs : -1 ≤ s ∧ s < y.bins.length) (hd : 0 ≤ d ∧ d ≤ y.days) : dy Tryz.prog 132 [Ty.pp (bl y), Ty.int .i64 s, Ty.int .i64 d] (Ty.int .i64 (y.cell s d)) := by
 refine av Tryz.func132 rfl (by decide) Tryz.ntmps132 (by exact Nat.le_of_ble_eq_true rfl) fun w0 M0 => ?_
 have h1 := hr.bins
 have h2 := hr.days
 refine aE (aA (cF rfl (aD (aC (aE (aE (aA (bQ rfl (bE rfl rfl rfl ?_)))))))))
 refine aD (aC ?_)
 refine au rfl (fun hc1 => ?_) (fun hc1 => ?_)
 ·
  refine aE (aA (jo rfl (aj (sE y hr) rfl rfl rfl rfl rfl (cF rfl (aD (aC (ay (aV (bh rfl rfl ?_)))))))))
  all_goals skip
  all_goals exact az rfl rfl (congrArg (Ty.int .i64) (Kk hr hc1))
 refine ak (aC (aE ?_))
 have hb := Af (s := s) (d := y.days) (by omega) (by omega)
 refine aA (bQ rfl (jo rfl (bq rfl ?_)))
 refine aQ rfl rfl rfl rfl rfl (by decide) ?_
 refine aQ rfl rfl rfl rfl rfl (by decide) ?_
 refine aL rfl rfl rfl rfl ?_
 refine D4 rfl rfl (by omega) (by omega) ?_
 refine bQ rfl ?_
 refine b9 rfl rfl (by omega) (by omega) ?_
 refine cF rfl (aD (aC (ay (bh rfl rfl ?_))))
 all_goals skip
 all_goals exact az rfl rfl (congrArg (Ty.int .i64) (LI hc1))
set_option maxRecDepth 100000 in
theorem DC (y : bD) (hr : y.cm) (b t : Nat) (hb : b < y.bins.length) (ht : t ≤ y.D) : dy Tryz.prog 89 [Ty.pp (bl y), Ty.int .i64 (b : Nat), Ty.int .i64 (t : Nat)] (Ty.int .i64 (y.kept b t : Nat)) := by
 refine av Tryz.func89 rfl (by decide) Tryz.ntmps89 (by exact Nat.le_of_ble_eq_true rfl) fun w0 M0 => ?_
 have h1 := hr.bins
 have h2 := hr.days
 have h3 := D_eq hr
 have h4 := Af (s := (b : Nat)) (d := y.days + 1) (by omega) (by omega)
 refine aE (aA (cF rfl (aD (aC (aE (aA (bQ rfl (jo rfl (bq rfl ?_)))))))))
 refine aQ rfl rfl rfl rfl rfl (by decide) ?_
 refine aQ rfl rfl rfl rfl rfl (by decide) ?_
 refine aL rfl rfl rfl rfl ?_
 refine b9 rfl rfl (by omega) (by omega) ?_
 refine D4 rfl rfl (by omega) (by omega) ?_
 refine bQ rfl ?_
 refine b9 rfl rfl (by omega) (by omega) ?_
 refine cF rfl (aD (aC (ay (bh rfl rfl ?_))))
 all_goals skip
 all_goals exact az rfl rfl (congrArg (Ty.int .i64) (F4 hr))
end Go.Proofs.YtelbollidfdcjaaGreat
namespace Go.Proofs.YtelbollidfdcjaaGreat
open Go Go.T
set_option maxHeartbeats 8000000
def jV (f : bz) : List Ty := [Ty.agg (eA.tys f)]
section
variable {y : bD} {c : Nat → Bool} {b t : Nat}
def CZ (y : bD) (b t : Nat) : Int := if 0 < t then y.cell b ((t : Int) - 1) else (y.cells : Nat)
def FU (y : bD) (b t : Nat) : Int := if t < y.D then y.cell b t else (y.cells : Nat)
def uu (s d : Int) (k : Span) : List Ty := [Ty.int .i64 s, Ty.int .i64 d, Ty.int .i64 k.lo, Ty.int .i64 k.hi]
theorem JH (h : (t : Int) > 0) : y.cell b ((t : Int) - 1) = CZ y b t := (if_pos (by omega)).symm
theorem Ln (h : ¬ (t : Int) > 0) : ((y.cells : Nat) : Int) = CZ y b t := (if_neg (by omega)).symm
theorem JB (hr : y.cm) (h : (t : Int) < y.days) : y.cell b t = FU y b t := (if_pos (by have := D_eq hr; omega)).symm
theorem KY (hr : y.cm) (h : ¬ (t : Int) < y.days) : ((y.cells : Nat) : Int) = FU y b t := (if_neg (by have := D_eq hr; omega)).symm
theorem Gz (h : (t : Int) > 0) : 0 = (hH y b t).lo ∧ (nth y.bins b).holds = (hH y b t).hi := by unfold hH; rw [if_pos (by omega)]; exact ⟨rfl, rfl⟩
theorem KQ (h : ¬ (t : Int) > 0) : max 0 (nth y.bins b).first.lo = (hH y b t).lo ∧ gA (nth y.bins b).holds [(nth y.bins b).first.hi] = (hH y b t).hi := by unfold hH; rw [if_neg (by omega)]; exact ⟨rfl, rfl⟩
theorem EK {s : Span} {k : Nat} (h : ((c k && decide ((nth y.levels k).bin = b)) && decide ((nth y.levels k).day = t)) = true) : max (gO y c b t s k).lo (nth y.levels k).sacks.lo = (gO y c b t s (k + 1)).lo ∧ gA (gO y c b t s k).hi [(nth y.levels k).sacks.hi] = (gO y c b t s (k + 1)).hi := by
 show _ = (if _ then _ else _ : Span).lo ∧ _ = (if _ then _ else _ : Span).hi
 rw [if_pos h]; exact ⟨rfl, rfl⟩
theorem Gw {s : Span} {k : Nat} (h : ((c k && decide ((nth y.levels k).bin = b)) && decide ((nth y.levels k).day = t)) = false) : (gO y c b t s k).lo = (gO y c b t s (k + 1)).lo ∧ (gO y c b t s k).hi = (gO y c b t s (k + 1)).hi := by
 show _ = (if _ then _ else _ : Span).lo ∧ _ = (if _ then _ else _ : Span).hi
 rw [if_neg (by rw [h]; decide)]; exact ⟨rfl, rfl⟩
theorem Bv (s : Span) : s.lo = (gO y c b t s 0).lo ∧ s.hi = (gO y c b t s 0).hi := ⟨rfl, rfl⟩
theorem Iw {s : Span} {k : Nat} (hk : k ≤ y.levels.length) (h : ¬ (k : Int) < (y.levels.length : Int)) : gO y c b t s k = gO y c b t s y.levels.length := by rw [show k = y.levels.length by omega]
theorem JF (hb : b < y.bins.length) (ht : t ≤ y.D) : jV (nth (aO y c) (b * (y.D + 1) + t)) = [Ty.agg (uu (CZ y b t) (FU y b t) (gO y c b t (hH y b t) y.levels.length))] := congrArg jV (iQ (c := c) hb ht)
theorem I8 {i : Nat} (hi : i < y.moves.length) : jV (nth (aO y c) (y.bins.length * (y.D + 1) + i)) = [Ty.agg [Ty.int .i64 (y.cell (nth y.moves i).src (nth y.moves i).day), Ty.int .i64 (y.cell (nth y.moves i).dst (nth y.moves i).day), Ty.int .i64 (nth y.moves i).sacks.lo, Ty.int .i64 (nth y.moves i).sacks.hi]] := congrArg jV (iV (c := c) hi)
theorem Ds (hb : b < y.bins.length) (ht : t ≤ y.D) : b * (y.D + 1) + t < (aO y c).length := by
 rw [fH]; have h := pE hb ht; unfold bD.kept at h; omega
theorem F2 {J : Nat → World → bB → Prop} (hJ : ∀ k, Cb (J k)) {m k : Nat} (e : m = k) : (Cont.ck (hJ m)).Sub (Cont.ck (hJ k)) := Cont.Ke hJ e
end
attribute [local irreducible] bD.cell bD.cells gA CZ FU hH gO aO
attribute [local irreducible] iY fX nD qR jG jJ jI jK jF qu jD qw eJ gm qF gx ql nth fU dn af dy bodyPost Exit.then Exit.inBlock Code.wp Code.wpIn qh jH qi qX jC eT cZ cq bodyPostM eR
set_option maxRecDepth 100000 in
theorem uy (y : bD) (hr : y.cm) (c8 : List Bool) (hc8 : c8.length = 8) (b D : Nat) (hD : D < 4096) (vs : List Value) : Gc Tryz.prog 196 b D 185 vs (bl y) (fun l => [Ty.ex (yv l), Ty.pp [Ty.ex (.pointer (some ⟨b, 0, none⟩))], Ty.pa iZ c8 0]) ((aO y (nth c8)).map jV) (Ty.jq []) (Ty.jq []) := by
 refine Ci rfl rfl Tryz.func196 rfl (by decide) Tryz.ntmps196 (fun _ => by exact Nat.le_of_ble_eq_true rfl) (fun _ => ⟨rfl, rfl⟩) fun l J Jx hJ hJx hX hY w0 M0 => ?_
 have h1 := hr.bins
 have h2 := hr.days
 have h3 := D_eq hr
 have h4 := hr.moves
 have h5 := hr.levels
 refine aE (aE (aA (aL rfl rfl rfl rfl (kE rfl ?_))))
 refine ig rfl rfl rfl rfl rfl (by decide) ?_
 refine ig rfl rfl rfl rfl rfl (by decide) ?_
 refine q4 hX rfl rfl rfl rfl rfl rfl (c9 rfl rfl rfl (bQ rfl (aD (aC (aq ?_)))))
 refine cj (fun (k : {k : Nat // k ≤ y.bins.length}) => live [(0, Ty.ex (yv l)), (1, Ty.pp [Ty.ex (.pointer (some ⟨b, 0, none⟩))]), (2, Ty.pa iZ c8 0), (16, Ty.sl eH y.bins), (17, Ty.int .i64 y.bins.length), (18, Ty.int .i64 (k.1 : Nat))] [(7000, Cont.ck (hJ (k.1 * (y.D + 1)))), (4000, Cont.fact (bl y) vs rfl rfl)]) (fun k => y.bins.length - k.1) (⟨0, by omega⟩) ?_ fun k => ?_
 ·(refine dK.mk' ?_ ?_ <;> (repeat' (first | exact aJ | exact aI | refine aB ?_ (Ty.aW _) | refine aB ?_ (Ty.aF _) | refine aG rfl (Cont.aF _) ?_ | refine aG rfl ?_ ?_)))
  all_goals exact F2 hJ (Nat.zero_mul _).symm
 refine aE (aA (bE rfl rfl rfl (aD (aC (aE ?_)))))
 refine au rfl (fun hc1 => ?_) (fun hc1 => ?_)
 ·
  refine ak (aC (aE (aq (aE (aA (bQ rfl ?_))))))
  refine bT rfl rfl rfl rfl rfl rfl (by omega) ?_
  refine aZ rfl rfl rfl (by exact Nat.le_of_ble_eq_true rfl) ?_
  refine cH rfl (by exact List.cons_ne_nil _ _) rfl ?_
  refine cF rfl ?_
  refine cJ rfl rfl (by decide) rfl rfl rfl rfl rfl rfl ?_
  refine aD (aC (aE (aA (aL rfl rfl rfl rfl (kE rfl ?_)))))
  refine ig rfl rfl rfl rfl rfl (by decide) ?_
  refine ig rfl rfl rfl rfl rfl (by decide) ?_
  refine q4 hX rfl rfl rfl rfl rfl rfl ?_
  refine b9 rfl rfl (by omega) (by omega) ?_
  refine bQ rfl (aD (aC (aq ?_)))
  refine cj (fun (t : {t : Nat // t ≤ y.D + 1}) => live [(0, Ty.ex (yv l)), (1, Ty.pp [Ty.ex (.pointer (some ⟨b, 0, none⟩))]), (2, Ty.pa iZ c8 0), (4, Ty.int .i64 (k.1 : Nat)), (5, Ty.ptr 6 0), (16, Ty.sl eH y.bins), (17, Ty.int .i64 y.bins.length), (18, Ty.int .i64 (k.1 : Nat)), (28, Ty.int .i64 (y.days + 1)), (29, Ty.int .i64 (t.1 : Nat))] [(6, Cont.cells 39 (eH.tys (nth y.bins k.1))), (7000, Cont.ck (hJ (k.1 * (y.D + 1) + t.1))), (4000, Cont.fact (bl y) vs rfl rfl)]) (fun t => y.D + 1 - t.1) (⟨0, by omega⟩) ?_ fun t => ?_
  ·(refine dK.mk' ?_ ?_ <;> (repeat' (first | exact aJ | exact aI | refine aB ?_ (Ty.aW _) | refine aB ?_ (Ty.aF _) | refine aG rfl (Cont.aF _) ?_)))
  refine aE (aA (bE rfl rfl rfl (aD (aC (aE ?_)))))
  refine au rfl (fun hc2 => ?_) (fun hc2 => ?_)
  ·
   refine ak (aC (aE (aq (aE (aA (bQ rfl (cF rfl (aD (aC ?_)))))))))
   refine aE (cW mixed rfl (aL rfl rfl rfl rfl ?_))
   refine dW [7000, 4000] (sE y hr) rfl (aK (pq hX hD rfl rfl rfl rfl) bW) (by exact dF _ _) ?_
   refine aL rfl rfl rfl rfl ?_
   refine dW [7000, 4000] (sE y hr) rfl (aK (pq hX hD rfl rfl rfl rfl) bW) (by exact dF _ _) ?_
   refine aN rfl rfl rfl rfl rfl (by decide) ?_
   refine aX rfl rfl (by decide) rfl rfl rfl ?_
   refine dS rfl rfl (by exact List.cons_ne_nil _ _) rfl (by repeat (first | exact (aY.nil : aY _ _ [] _) | (show aY _ _ ((_, _) :: _) _; apply aY.one; (· exact (rfl : _ = Ty.int _ _)); (· exact rfl)))) (by exact (rfl : _ = some [_, _, _, _])) ?_
   refine cH rfl (by exact List.cons_ne_nil _ _) rfl ?_
   refine cJ rfl rfl (by decide) rfl rfl rfl rfl rfl rfl ?_
   refine aD ?_
   refine ⟨by kernel_rfl, ?_⟩
   refine aC ?_
   refine lN (J := live [(0, Ty.ex (yv l)), (1, Ty.pp [Ty.ex (.pointer (some ⟨b, 0, none⟩))]), (2, Ty.pa iZ c8 0), (4, Ty.int .i64 (k.1 : Nat)), (5, Ty.ptr 6 0), (6, Ty.int .i64 (t.1 : Nat)), (7, Ty.ptr 8 0), (16, Ty.sl eH y.bins), (17, Ty.int .i64 y.bins.length), (18, Ty.int .i64 (k.1 : Nat)), (28, Ty.int .i64 (y.days + 1)), (29, Ty.int .i64 (t.1 : Nat))] [(6, Cont.cells 39 (eH.tys (nth y.bins k.1))), (8, Cont.cells 187 [Ty.int .i64 (CZ y k.1 t.1), Ty.int .i64 (y.cells : Nat), Ty.int .i64 (hH y k.1 t.1).lo, Ty.int .i64 (hH y k.1 t.1).hi]), (7000, Cont.ck (hJ (k.1 * (y.D + 1) + t.1))), (4000, Cont.fact (bl y) vs rfl rfl)]) ?_ ?_
   ·
    refine aE (aA (bQ rfl (bE rfl rfl rfl (aD (aC ?_)))))
    refine au rfl (fun hc3 => ?_) (fun hc3 => ?_)
    ·
     refine aA (aL rfl rfl rfl rfl (bQ rfl (bQ rfl ?_)))
     refine gw rfl rfl (by omega) (by omega) ?_
     refine dW [7000, 4000] (we y hr (k.1 : Nat) ((t.1 : Int) - 1) (by omega) (by omega)) rfl (aK (pq hX hD rfl rfl rfl rfl) (aK (aa (bH rfl rfl)) (aK (aa (bH rfl rfl)) bW))) (by exact dF _ _) ?_
     refine aN rfl rfl rfl rfl rfl (by decide) ?_
     refine cx rfl rfl (by decide) rfl rfl (by exact (rfl : _ = Ty.int _ _)) rfl (by exact Nat.le_of_ble_eq_true rfl) rfl rfl (by exact rfl) ?_
     refine aD (fT ?_)
     (refine dK.mk' ?_ ?_ <;> (repeat' (first | exact aJ | exact aI | exact dO | refine aB ?_ (Ty.aW _) | refine aB ?_ (Ty.aF _) | refine aG rfl (Cont.aF _) ?_ | refine aG rfl (Cont.dM ?_) ?_ | refine bY ?_ (Ty.aF _) | refine bY ?_ ?_)))
     all_goals first | exact Ty.ah (JH hc3) | exact Ty.ah (Gz hc3).1 | exact Ty.ah (Gz hc3).2
    refine cW mixed rfl ?_
    refine aN rfl rfl rfl rfl rfl (by decide) ?_
    refine aN rfl rfl rfl rfl rfl (by decide) ?_
    refine aX rfl rfl (by decide) rfl rfl rfl ?_
    refine td rfl rfl ?_
    refine aN rfl rfl rfl rfl rfl (by decide) ?_
    refine aX rfl rfl (by decide) rfl rfl rfl ?_
    refine aN rfl rfl rfl rfl rfl (by decide) ?_
    refine aN rfl rfl rfl rfl rfl (by decide) ?_
    refine aX rfl rfl (by decide) rfl rfl rfl ?_
    refine bp (E := cT) (xs := [_]) rfl rfl rfl rfl rfl (by decide) (by decide) (by repeat (first | exact (aY.nil : aY _ _ [] _) | (show aY _ _ ((_, _) :: _) _; apply aY.one; (· exact (rfl : _ = Ty.int _ _)); (· exact rfl)))) (by exact rfl) rfl ?_
    refine aj (rU _ _) rfl rfl rfl rfl rfl ?_
    refine aN rfl rfl rfl rfl rfl (by decide) ?_
    refine cx rfl rfl (by decide) rfl rfl (by exact (rfl : _ = Ty.int _ _)) rfl (by exact Nat.le_of_ble_eq_true rfl) rfl rfl (by exact rfl) ?_
    refine aN rfl rfl rfl rfl rfl (by decide) ?_
    refine cx rfl rfl (by decide) rfl rfl (by exact (rfl : _ = Ty.int _ _)) rfl (by exact Nat.le_of_ble_eq_true rfl) rfl rfl (by exact rfl) ?_
    refine aD ?_
    refine ⟨by kernel_rfl, ?_⟩
    refine fT ?_
    (refine dK.mk' ?_ ?_ <;> (repeat' (first | exact aJ | exact aI | exact dO | refine aB ?_ (Ty.aW _) | refine aB ?_ (Ty.aF _) | refine aG rfl (Cont.aF _) ?_ | refine aG rfl (Cont.dM ?_) ?_ | refine bY ?_ (Ty.aF _) | refine bY ?_ ?_)))
    all_goals first | exact Ty.ah (Ln hc3) | exact Ty.ah (KQ hc3).1 | exact Ty.ah (KQ hc3).2
   refine lN (J := live [(0, Ty.ex (yv l)), (1, Ty.pp [Ty.ex (.pointer (some ⟨b, 0, none⟩))]), (2, Ty.pa iZ c8 0), (4, Ty.int .i64 (k.1 : Nat)), (5, Ty.ptr 6 0), (6, Ty.int .i64 (t.1 : Nat)), (7, Ty.ptr 8 0), (16, Ty.sl eH y.bins), (17, Ty.int .i64 y.bins.length), (18, Ty.int .i64 (k.1 : Nat)), (28, Ty.int .i64 (y.days + 1)), (29, Ty.int .i64 (t.1 : Nat))] [(6, Cont.cells 39 (eH.tys (nth y.bins k.1))), (8, Cont.cells 187 (uu (CZ y k.1 t.1) (FU y k.1 t.1) (hH y k.1 t.1))), (7000, Cont.ck (hJ (k.1 * (y.D + 1) + t.1))), (4000, Cont.fact (bl y) vs rfl rfl)]) ?_ ?_
   ·
    refine aE (aA (bQ rfl (aL rfl rfl rfl rfl (kE rfl ?_))))
    refine ig rfl rfl rfl rfl rfl (by decide) ?_
    refine ig rfl rfl rfl rfl rfl (by decide) ?_
    refine q4 hX rfl rfl rfl rfl rfl rfl (bE rfl rfl rfl (aD (aC ?_)))
    refine au rfl (fun hc4 => ?_) (fun hc4 => ?_)
    ·
     refine aA (aL rfl rfl rfl rfl (bQ rfl (bQ rfl ?_)))
     refine dW [7000, 4000] (we y hr (k.1 : Nat) (t.1 : Nat) (by omega) (by omega)) rfl (aK (pq hX hD rfl rfl rfl rfl) (aK (aa (bH rfl rfl)) (aK (aa (bH rfl rfl)) bW))) (by exact dF _ _) ?_
     refine aN rfl rfl rfl rfl rfl (by decide) ?_
     refine cx rfl rfl (by decide) rfl rfl (by exact (rfl : _ = Ty.int _ _)) rfl (by exact Nat.le_of_ble_eq_true rfl) rfl rfl (by exact rfl) ?_
     refine aD (fT ?_)
     (refine dK.mk' ?_ ?_ <;> (repeat' (first | exact aJ | exact aI | exact dO | refine aB ?_ (Ty.aW _) | refine aB ?_ (Ty.aF _) | refine aG rfl (Cont.aF _) ?_ | refine aG rfl (Cont.dM ?_) ?_ | refine bY ?_ (Ty.aF _) | refine bY ?_ ?_)))
     all_goals exact Ty.ah (JB hr hc4)
    refine ak (fT ?_)
    (refine dK.mk' ?_ ?_ <;> (repeat' (first | exact aJ | exact aI | exact dO | refine aB ?_ (Ty.aW _) | refine aB ?_ (Ty.aF _) | refine aG rfl (Cont.aF _) ?_ | refine aG rfl (Cont.dM ?_) ?_ | refine bY ?_ (Ty.aF _) | refine bY ?_ ?_)))
    all_goals exact Ty.ah (KY hr hc4)
   refine aE (aE (aA (aL rfl rfl rfl rfl (kE rfl ?_))))
   refine ig rfl rfl rfl rfl rfl (by decide) ?_
   refine ig rfl rfl rfl rfl rfl (by decide) ?_
   refine q4 hX rfl rfl rfl rfl rfl rfl (c9 rfl rfl rfl (bQ rfl (aD (aC (aq ?_)))))
   refine cj (fun (i : {i : Nat // i ≤ y.levels.length}) => live [(0, Ty.ex (yv l)), (1, Ty.pp [Ty.ex (.pointer (some ⟨b, 0, none⟩))]), (2, Ty.pa iZ c8 0), (4, Ty.int .i64 (k.1 : Nat)), (5, Ty.ptr 6 0), (6, Ty.int .i64 (t.1 : Nat)), (7, Ty.ptr 8 0), (16, Ty.sl eH y.bins), (17, Ty.int .i64 y.bins.length), (18, Ty.int .i64 (k.1 : Nat)), (28, Ty.int .i64 (y.days + 1)), (29, Ty.int .i64 (t.1 : Nat)), (76, Ty.sl dY y.levels), (77, Ty.int .i64 y.levels.length), (78, Ty.int .i64 (i.1 : Nat))] [(6, Cont.cells 39 (eH.tys (nth y.bins k.1))), (8, Cont.cells 187 (uu (CZ y k.1 t.1) (FU y k.1 t.1) (gO y (nth c8) k.1 t.1 (hH y k.1 t.1) i.1))), (7000, Cont.ck (hJ (k.1 * (y.D + 1) + t.1))), (4000, Cont.fact (bl y) vs rfl rfl)]) (fun i => y.levels.length - i.1) (⟨0, by omega⟩) ?_ fun i => ?_
   ·(refine dK.mk' ?_ ?_ <;> (repeat' (first | exact aJ | exact aI | exact dO | refine aB ?_ (Ty.aW _) | refine aB ?_ (Ty.aF _) | refine aG rfl (Cont.aF _) ?_ | refine aG rfl (Cont.dM ?_) ?_ | refine bY ?_ (Ty.aF _) | refine bY ?_ ?_)))
    all_goals first | exact Ty.ah (Bv _).1 | exact Ty.ah (Bv _).2
   have hi := i.2
   refine aE (aA (bE rfl rfl rfl (aD (aC (aE ?_)))))
   refine au rfl (fun hc5 => ?_) (fun hc5 => ?_)
   ·
    refine ak (aC (aE (aq (aE (aA (bQ rfl ?_))))))
    refine bT rfl rfl rfl rfl rfl rfl (by omega) ?_
    refine aZ rfl rfl rfl (by exact Nat.le_of_ble_eq_true rfl) ?_
    refine cH rfl (by exact List.cons_ne_nil _ _) rfl ?_
    refine cF rfl ?_
    refine cJ rfl rfl (by decide) rfl rfl rfl rfl rfl rfl ?_
    refine aD (aC (aE (aA (bQ rfl ?_))))
    refine CT (n := 8) rfl rfl rfl rfl rfl (by omega) ?_
    refine Fa rfl rfl rfl (Nat.zero_add _) (by omega) rfl ?_
    refine gR rfl ?_
    apply aS (s := 86) rfl rfl rfl
    ·intro hg; apply aU; (refine aN rfl rfl rfl rfl rfl (by decide) ?_); refine aD ?_; exact rfl
    ·exact rfl
    ·exact rfl
    apply aS (s := 86) rfl rfl rfl
    ·intro hg; apply aP (s := 87) rfl (by (rw [hg]; rfl)); apply aU; (refine aX rfl rfl (by decide) rfl rfl rfl ?_); refine aD ?_; exact rfl
    ·exact rfl
    ·exact rfl
    apply aS (s := 86) rfl rfl rfl
    ·intro hg; apply aU; (refine bQ rfl ?_); refine aD ?_; exact rfl
    ·exact rfl
    ·exact rfl
    apply aS (s := 86) rfl rfl rfl
    ·intro hg; apply aP (s := 88) rfl (by (rw [hg]; rfl)); apply aP (s := 89) rfl (by (rw [hg]; rfl)); apply aU; (refine bE rfl rfl rfl ?_); refine aD ?_; exact rfl
    ·exact rfl
    ·exact rfl
    refine eo rfl rfl (gR rfl ?_)
    apply aS (s := 92) rfl rfl rfl
    ·intro hg; apply aU; (refine aN rfl rfl rfl rfl rfl (by decide) ?_); refine aD ?_; exact rfl
    ·exact rfl
    ·exact rfl
    apply aS (s := 92) rfl rfl rfl
    ·intro hg; apply aP (s := 93) rfl (by (rw [hg]; rfl)); apply aU; (refine aX rfl rfl (by decide) rfl rfl rfl ?_); refine aD ?_; exact rfl
    ·exact rfl
    ·exact rfl
    apply aS (s := 92) rfl rfl rfl
    ·intro hg; apply aU; (refine bQ rfl ?_); refine aD ?_; exact rfl
    ·exact rfl
    ·exact rfl
    apply aS (s := 92) rfl rfl rfl
    ·intro hg; apply aP (s := 94) rfl (by (rw [hg]; rfl)); apply aP (s := 95) rfl (by (rw [hg]; rfl)); apply aU; (refine bE rfl rfl rfl ?_); refine aD ?_; exact rfl
    ·exact rfl
    ·exact rfl
    refine eo rfl rfl (aD (aC ?_))
    refine cv rfl (fun hc6 => ?_) (fun hc6 => ?_)
    ·
     refine cW mixed rfl ?_
     refine aN rfl rfl rfl rfl rfl (by decide) ?_
     refine aX rfl rfl (by decide) rfl rfl rfl ?_
     refine aN rfl rfl rfl rfl rfl (by decide) ?_
     refine aN rfl rfl rfl rfl rfl (by decide) ?_
     refine aX rfl rfl (by decide) rfl rfl rfl ?_
     refine td rfl rfl ?_
     refine aN rfl rfl rfl rfl rfl (by decide) ?_
     refine aX rfl rfl (by decide) rfl rfl rfl ?_
     refine aN rfl rfl rfl rfl rfl (by decide) ?_
     refine aN rfl rfl rfl rfl rfl (by decide) ?_
     refine aX rfl rfl (by decide) rfl rfl rfl ?_
     refine bp (E := cT) (xs := [_]) rfl rfl rfl rfl rfl (by decide) (by decide) (by repeat (first | exact (aY.nil : aY _ _ [] _) | (show aY _ _ ((_, _) :: _) _; apply aY.one; (· exact (rfl : _ = Ty.int _ _)); (· exact rfl)))) (by exact rfl) rfl ?_
     refine aj (rU _ _) rfl rfl rfl rfl rfl ?_
     refine aN rfl rfl rfl rfl rfl (by decide) ?_
     refine cx rfl rfl (by decide) rfl rfl (by exact (rfl : _ = Ty.int _ _)) rfl (by exact Nat.le_of_ble_eq_true rfl) rfl rfl (by exact rfl) ?_
     refine aN rfl rfl rfl rfl rfl (by decide) ?_
     refine cx rfl rfl (by decide) rfl rfl (by exact (rfl : _ = Ty.int _ _)) rfl (by exact Nat.le_of_ble_eq_true rfl) rfl rfl (by exact rfl) ?_
     refine aD ?_
     refine ⟨by kernel_rfl, ?_⟩
     refine bV (aC (aA ?_))
     refine b9 rfl rfl (by omega) (by omega) ?_
     refine bQ rfl (aD ?_)
     refine bZ (⟨i.1 + 1, by omega⟩) ?_ (by show y.levels.length - (i.1 + 1) < y.levels.length - i.1; omega)
     (refine dK.mk' ?_ ?_ <;> (repeat' (first | exact aJ | exact aI | exact dO | refine aB ?_ (Ty.aW _) | refine aB ?_ (Ty.aF _) | refine aG rfl (Cont.aF _) ?_ | refine aG rfl (Cont.dM ?_) ?_ | refine bY ?_ (Ty.aF _) | refine bY ?_ ?_)))
     all_goals skip
     all_goals first | exact Ty.ah (EK hc6).1 | exact Ty.ah (EK hc6).2
    refine ak (bV (aC (aA ?_)))
    refine b9 rfl rfl (by omega) (by omega) ?_
    refine bQ rfl (aD ?_)
    refine bZ (⟨i.1 + 1, by omega⟩) ?_ (by show y.levels.length - (i.1 + 1) < y.levels.length - i.1; omega)
    (refine dK.mk' ?_ ?_ <;> (repeat' (first | exact aJ | exact aI | exact dO | refine aB ?_ (Ty.aW _) | refine aB ?_ (Ty.aF _) | refine aG rfl (Cont.aF _) ?_ | refine aG rfl (Cont.dM ?_) ?_ | refine bY ?_ (Ty.aF _) | refine bY ?_ ?_)))
    all_goals skip
    all_goals first | exact Ty.ah (Gw hc6).1 | exact Ty.ah (Gw hc6).2
   refine cg (aR (aR (bA rfl (aC (aE ?_)))))
   refine gM (tg := 8) rfl (Cont.m8 (congrArg (uu _ _) (Iw i.2 hc5))) ?_
   refine aA (Nd rfl ?_)
   refine bU rfl rfl (by decide) rfl rfl (by exact Nat.le_of_ble_eq_true rfl) ?_
   refine Ae hJ hJx hY rfl rfl rfl rfl rfl (Dl (Ds (by omega) (by omega)) (JF (by omega) (by omega))) rfl ?_
   refine GZ (h1 := hJ _) (hx := hJx) rfl ?_
   refine aD (aC ?_)
   refine Dk (h1 := hJ _) (hx := hJx) rfl ?_ ?_
   ·
    refine ay (bG (aV (aV (bG (bG (aV (aV (bG (aV ?_)))))))))
    exact DT rfl rfl
   refine ak (bV (aC (aA ?_)))
   refine b9 rfl rfl (by omega) (by omega) ?_
   refine bQ rfl (aD ?_)
   refine bZ (⟨t.1 + 1, by omega⟩) ?_ (by show y.D + 1 - (t.1 + 1) < y.D + 1 - t.1; omega)
   (refine dK.mk' ?_ ?_ <;> (repeat' (first | exact aJ | exact aI | refine aB ?_ (Ty.aW _) | refine aB ?_ (Ty.aF _) | refine aG rfl (Cont.aF _) ?_)))
   all_goals skip
  refine cg (aR (aR (bA rfl (bV (aC (aA ?_))))))
  refine b9 rfl rfl (by omega) (by omega) ?_
  refine bQ rfl (aD ?_)
  refine bZ (⟨k.1 + 1, by omega⟩) ?_ (by show y.bins.length - (k.1 + 1) < y.bins.length - k.1; omega)
  (refine dK.mk' ?_ ?_ <;> (repeat' (first | exact aJ | exact aI | refine aB ?_ (Ty.aW _) | refine aB ?_ (Ty.aF _) | refine aG rfl (Cont.aF _) ?_ | refine aG rfl ?_ ?_)))
  all_goals skip
  all_goals exact F2 hJ (show k.1 * (y.D + 1) + t.1 = (k.1 + 1) * (y.D + 1) by rw [Nat.succ_mul]; have := t.2; omega)
 refine cg (aR (aR (bA rfl (aC (aE (aA (aL rfl rfl rfl rfl (kE rfl ?_))))))))
 refine ig rfl rfl rfl rfl rfl (by decide) ?_
 refine ig rfl rfl rfl rfl rfl (by decide) ?_
 refine q4 hX rfl rfl rfl rfl rfl rfl (c9 rfl rfl rfl (bQ rfl (aD (aC (aq ?_)))))
 refine cj (fun (i : {i : Nat // i ≤ y.moves.length}) => live [(0, Ty.ex (yv l)), (1, Ty.pp [Ty.ex (.pointer (some ⟨b, 0, none⟩))]), (124, Ty.sl dQ y.moves), (125, Ty.int .i64 y.moves.length), (126, Ty.int .i64 (i.1 : Nat))] [(7000, Cont.ck (hJ (y.bins.length * (y.D + 1) + i.1))), (4000, Cont.fact (bl y) vs rfl rfl)]) (fun i => y.moves.length - i.1) (⟨0, by omega⟩) ?_ fun i => ?_
 ·(refine dK.mk' ?_ ?_ <;> (repeat' (first | exact aJ | exact aI | refine aB ?_ (Ty.aW _) | refine aB ?_ (Ty.aF _) | refine aG rfl (Cont.aF _) ?_ | refine aG rfl ?_ ?_)))
  all_goals exact F2 hJ (show k.1 * (y.D + 1) = y.bins.length * (y.D + 1) + 0 by rw [show k.1 = y.bins.length by have := k.2; omega]; rfl)
 refine aE (aA (bE rfl rfl rfl (aD (aC (aE ?_)))))
 refine au rfl (fun hc8 => ?_) (fun hc8 => ?_)
 ·
  refine ak (aC (aE (aq (aE (aA ?_)))))
  refine bT rfl rfl rfl rfl rfl rfl (by omega) ?_
  refine aZ rfl rfl rfl (by exact Nat.le_of_ble_eq_true rfl) ?_
  refine cH rfl (by exact List.cons_ne_nil _ _) rfl ?_
  refine cJ rfl rfl (by decide) rfl rfl rfl rfl rfl rfl ?_
  refine aD (aC (aE ?_))
  have hm := hr.move _ (dD (xs := y.moves) (k := i.1) (by omega))
  refine cW mixed rfl (Nd rfl (aL rfl rfl rfl rfl ?_))
  refine aN rfl rfl rfl rfl rfl (by decide) ?_
  refine aX rfl rfl (by decide) rfl rfl rfl ?_
  refine aN rfl rfl rfl rfl rfl (by decide) ?_
  refine aX rfl rfl (by decide) rfl rfl rfl ?_
  refine dW [7000, 4000] (we y hr (nth y.moves i.1).src (nth y.moves i.1).day hm.2.1 (by omega)) rfl (aK (pq hX hD rfl rfl rfl rfl) (aK (aa (bH rfl rfl)) (aK (aa (bH rfl rfl)) bW))) (by exact dF _ _) ?_
  refine aL rfl rfl rfl rfl ?_
  refine aN rfl rfl rfl rfl rfl (by decide) ?_
  refine aX rfl rfl (by decide) rfl rfl rfl ?_
  refine aN rfl rfl rfl rfl rfl (by decide) ?_
  refine aX rfl rfl (by decide) rfl rfl rfl ?_
  refine dW [7000, 4000] (we y hr (nth y.moves i.1).dst (nth y.moves i.1).day hm.2.2.1 (by omega)) rfl (aK (pq hX hD rfl rfl rfl rfl) (aK (aa (bH rfl rfl)) (aK (aa (bH rfl rfl)) bW))) (by exact dF _ _) ?_
  refine aN rfl rfl rfl rfl rfl (by decide) ?_
  refine aN rfl rfl rfl rfl rfl (by decide) ?_
  refine aX rfl rfl (by decide) rfl rfl rfl ?_
  refine aN rfl rfl rfl rfl rfl (by decide) ?_
  refine aN rfl rfl rfl rfl rfl (by decide) ?_
  refine aX rfl rfl (by decide) rfl rfl rfl ?_
  refine dS rfl rfl (by exact List.cons_ne_nil _ _) rfl (by repeat (first | exact (aY.nil : aY _ _ [] _) | (show aY _ _ ((_, _) :: _) _; apply aY.one; (· exact (rfl : _ = Ty.int _ _)); (· exact rfl)))) (by exact (rfl : _ = some [_, _, _, _])) ?_
  refine Ae hJ hJx hY rfl rfl rfl rfl rfl (Dl (by rw [fH]; omega) (I8 (by omega))) rfl ?_
  refine GZ (h1 := hJ _) (hx := hJx) rfl ?_
  refine aD ?_
  refine ⟨by kernel_rfl, ?_⟩
  refine aC ?_
  refine Dk (h1 := hJ _) (hx := hJx) rfl ?_ ?_
  ·
   refine ay (bG (aV (aV (bG ?_))))
   exact DT rfl rfl
  refine ak (bV (aC (aA ?_)))
  refine b9 rfl rfl (by omega) (by omega) ?_
  refine bQ rfl (aD ?_)
  refine bZ (⟨i.1 + 1, by omega⟩) ?_ (by show y.moves.length - (i.1 + 1) < y.moves.length - i.1; omega)
  (refine dK.mk' ?_ ?_ <;> (repeat' (first | exact aJ | exact aI | refine aB ?_ (Ty.aW _) | refine aB ?_ (Ty.aF _) | refine aG rfl (Cont.aF _) ?_)))
  all_goals skip
 refine cg (aR (aR (bA rfl ?_)))
 exact Hg (hJ := hJ) (by rw [List.length_map, fH, show i.1 = y.moves.length by have := i.2; omega]) rfl rfl
end Go.Proofs.YtelbollidfdcjaaGreat
namespace Go.T
open Go Go.RowKit
theorem KL {ρ : List (Nat × Nat)} {a b : Nat} (h : (a, b) ∈ ρ) : Conv ρ (.mp a) (.mp b) := fun _ _ _ _ _ _ hre ⟨k, e, hk⟩ => ⟨k, e, hre.some _ h k hk⟩
def Fi {α : Type} (E : El α) : VT (List α) := ⟨fun xs => Ty.sl E xs, fun _ => ⟨rfl, rfl⟩⟩
section
variable {A : As}
theorem Ia {α : Type} {E : El α} {T J : Nat} {xs : List α} {w : World} {M : bB} {v : Value} (wf : Wf w M) (h : Hx E T J xs w M v) : nD E xs w (eV M J) v := by
 rcases h with ⟨rfl, rfl⟩ | ⟨g, off, c, cur, rfl, hg, hh, h1, h2, h3, h4⟩
 ·exact ⟨none, 0, rfl, Nat.le_refl _, by simp [maxLen], fun h => absurd h (by simp)⟩
 refine ⟨_, c, rfl, h1, h2, fun h0 => ⟨g, off, rfl, by simp [eV, hg], wf.lt g _ hg, fun i t hi => ?_⟩⟩
 obtain ⟨u, hu, hdu⟩ := dj h4 i t hi
 refine ⟨u, ?_, t.mono (jO (w := w)) ?_ (fun _ _ h => by cases h) hdu⟩
 ·have hlt : i < xs.length * E.size := by
   have := (List.getElem?_eq_some_iff.1 hu).1
   rw [List.length_take] at this; omega
  rw [List.getElem?_take, if_pos hlt, List.getElem?_drop] at hu
  simpa [World.cell?, hh] using hu
 intro u hu
 have : u ∈ cI (xs.flatMap E.tys) := List.mem_flatMap.2 ⟨t, List.mem_of_getElem? hi, hu⟩
 rw [E.dG] at this; cases this
theorem JZ {κ α : Type} [DecidableEq κ] {enc : κ → Value} {E : El α} {T J m : Nat} {q : List (κ × List α)} (hc : A.tag m = some (.mr enc E T J q)) (hne : Nat.beq m J = false) : KZ A J (m, .mp enc (Fi E) q) := fun w M wf ht => by
  obtain ⟨_, b, es, clock, h1, h2, h3, h4, _⟩ := ht _ (cy hc)
  have hmj : m ≠ J := fun h => by subst h; simp at hne
  refine ⟨b, by simp [eV, h1, hmj], es, clock, h2, h3, ?_⟩
  have key : ∀ (l : List (κ × List α)) (vs : List Value), cN w M (l.map fun x => Ty.iU E T J x.2) vs → cN w (eV M J) (l.map fun x => (Fi E).ty x.2) vs := by
    intro l
    induction l with
    | nil => intro vs h; cases vs with | nil => trivial | cons => cases h
    | cons x l ih =>
      intro vs h
      cases vs with
      | nil => cases h
      | cons v vs => exact ⟨Ia wf h.1, ih vs h.2⟩
  exact key q _ h4
theorem mg {L : List Nat} {l1 l2 : List Ty} (h1 : cI l1 = []) (h2 : bk l1 = []) : rB A L (.pp (l1 ++ l2)) (.pp l1) := fun w M v _ _ ⟨b, off, e, m1, m2, m3⟩ => by
 refine ⟨b, off, e, jL m1, m2, fun i t hi => ?_⟩
 have hl : i < l1.length := (List.getElem?_eq_some_iff.1 hi).1
 obtain ⟨x, hx, hd⟩ := m3 i t (by rw [List.getElem?_append_left hl]; exact hi)
 refine ⟨x, hx, t.mono (S := fun _ => True) (K := fun _ => True) ⟨Nat.le_refl _, rfl, rfl, rfl, fun b _ hm => ⟨jL hm, rfl⟩, fun b t _ h => absurd trivial h⟩ ?_ ?_ hd⟩
 ·intro u hu
  have : u ∈ cI l1 := List.mem_flatMap.2 ⟨t, List.mem_of_getElem? hi, hu⟩
  rw [h1] at this; cases this
 intro u hu
 have : u ∈ bk l1 := List.mem_flatMap.2 ⟨t, List.mem_of_getElem? hi, hu⟩
 rw [h2] at this; cases this
theorem FH {L : List Nat} {i : Nat} {t : Ty} : ∀ {l l' : List Ty}, nQ A L l l' → l'[i]? = some t → ∃ s, l[i]? = some s ∧ rB A L s t := by
  induction i with
  | zero =>
    intro l l' h e
    match l, l', h with
    | [], [], _ => cases e
    | s :: _, t' :: _, h => injection e with e; subst e; exact ⟨s, rfl, h.1⟩
  | succ i ih =>
    intro l l' h e
    match l, l', h with
    | [], [], _ => cases e
    | _ :: l, _ :: l', h => exact ih (l := l) (l' := l') h.2 e
theorem kQ {L : List Nat} {l l' : List Ty} (h : nQ A L l l') : rB A L (.pp l) (.pp l') := fun w M v wf ht ⟨b, off, e, m1, m2, m3⟩ => by
 refine ⟨b, off, e, jL m1, m2, fun i t hi => ?_⟩
 obtain ⟨s, h1, h2⟩ := FH h hi
 obtain ⟨x, hx, hd⟩ := m3 i s h1
 exact ⟨x, hx, h2 w M x wf ht hd⟩
end
section
variable {P : Program} {fr : Fr} {A : As} {c : Code} {Q : Exit → Act → World → Prop}
theorem Kg {α : Type} {E : El α} {T J tg s : Nat} {xs : List α} (hs : Nat.blt s fr.n = true) (hc : A.slots s = .row E T tg xs) (h1 : fu tg) (hJ : 4096 ≤ J) (hp : fr.pass.contains tg = false)
    (h : fU P fr c ⟨fun i => bif Nat.beq i s then .iU E T J xs else gX [] [tg] A.slots i, nB [] [tg] A.tags⟩ Q) : fU P fr c A Q := fun a w ⟨M, ok, hsl, ht⟩ => by
  have le : Le (· ∈ ([] : List Nat)) (· ∈ [tg]) w M w (rV M tg J) := Bk
  refine h a w ⟨rV M tg J, ⟨Gs hJ ok.wf, Fr.jS ok.base (by intro _ h; cases h) (fun t ht => by simp only [List.mem_singleton] at ht; subst ht; exact ⟨h1.1, by simpa using hp⟩) le, ok.size, ok.defers.step (by intro _ h; cases h) (fun t ht => by simp only [List.mem_singleton] at ht; subst ht; exact h1.1) le⟩, fun i hi => ?_, fun x hx => ?_⟩
  · cases hb : Nat.beq i s with
    | false =>
      simp only [hb, cond_false]
      rcases fm [] [tg] A.slots i with ⟨e, hdj⟩ | ⟨_, e⟩
      · rw [e]; exact (A.slots i).mono le (fJ hdj).1 (fJ hdj).2 (hsl i hi)
      · rw [e]; trivial
    | true =>
      have his : i = s := Nat.eq_of_beq_eq_true hb
      subst his
      simp only [hb, cond_true]
      have hd := hsl i hi
      rw [hc] at hd
      obtain ⟨vs, hown, hcs, hM⟩ := hd
      rcases hown.2 with ⟨ez, h0⟩ | ⟨g, cap, cur, ez, _, hh, hnc, hcap, hsz, htk⟩
      · exact .inl ⟨List.length_eq_zero_iff.1 h0, ez⟩
      · have hg : M g = some tg := hM g (by rw [ez]; rfl)
        refine .inr ⟨g, 0, cap, cur, ez, by simp [rV, hg], hh, hnc, hcap, by omega, ?_⟩
        rw [List.drop_zero, htk]
        exact bu (Bk (w := w)) (by rw [E.dG]; intro _ h; cases h) (by rw [E.cX]; intro _ h; cases h) hcs
  · exact iR le hx fun y hy _ => ht y hy
end
end Go.T
namespace Go.Proofs.YtelbollidfdcjaaGreat
open Go Go.T
set_option maxHeartbeats 8000000
theorem four {vs : List Value} {n : Nat} (h : vs.length = n) (e : n = 4) : ∃ a b c d, vs = [a, b, c, d] := by
  subst e
  match vs, h with
  | [a, b, c, d], _ => exact ⟨a, b, c, d, rfl⟩
def EC (y : bD) : List Ty := [Ty.int .i64 y.days, Ty.sl eH y.bins, Ty.sl dQ y.moves, Ty.sl dY y.levels, Ty.ex (.slice none 0 0), Ty.ex (.slice none 0 0)]
def MM (y : bD) (F A : Nat) (fl : List bz) (a : List Int) : List Ty := [Ty.int .i64 y.days, Ty.sl eH y.bins, Ty.sl dQ y.moves, Ty.sl dY y.levels, Ty.row eA 187 F fl, Ty.row cT 3 A a]
theorem DM {fl : List bz} {k : Nat} (h : k < fl.length) : (gk fl).take k ++ [(nth fl k).lo] = (gk fl).take (k + 1) := by
 unfold gk; rw [← List.map_take, ← List.map_take, dw h, List.map_append]; rfl
theorem B4 {y : bD} {fl : List bz} {α : Type} {f : bz → α} : [Ty.int .i64 y.days, Ty.sl eH y.bins, Ty.sl dQ y.moves, Ty.sl dY y.levels, Ty.row eA 187 23 (fl.take (fl.map f).length), Ty.row cT 3 31 ((gk fl).take (fl.map f).length)] = MM y 23 31 fl (gk fl) := by
 rw [List.length_map, List.take_of_length_le (Nat.le_refl _), List.take_of_length_le (by unfold gk; rw [List.length_map]; exact Nat.le_refl _)]; rfl
def rK (y : bD) (F A m n : Nat) : List Ty := [Ty.int .i64 y.days, Ty.sl eH y.bins, Ty.sl dQ y.moves, Ty.sl dY y.levels, Ty.vs F m, Ty.vs A n]
def eO (y : bD) (fl : List bz) (A n : Nat) : List Ty := [Ty.int .i64 y.days, Ty.sl eH y.bins, Ty.sl dQ y.moves, Ty.sl dY y.levels, Ty.sl eA fl, Ty.vs A n]
def l9 (y : bD) (fl : List bz) (a : List Int) : List Ty := [Ty.int .i64 y.days, Ty.sl eH y.bins, Ty.sl dQ y.moves, Ty.sl dY y.levels, Ty.sl eA fl, Ty.sl cT a]
theorem CU (fl : List bz) : (gk fl).length = fl.length := by unfold gk; rw [List.length_map]
theorem j7 {y : bD} (hr : y.cm) {c : Nat → Bool} : (aO y c).length ≤ 34 := by
 have h1 := hr.bins; have h2 := hr.days; have h3 := D_eq hr; have h4 := hr.moves
 have := Nat.mul_le_mul (show y.bins.length ≤ 4 by omega) (show y.D + 1 ≤ 6 by omega)
 rw [fH]; omega
attribute [local irreducible] aO gk
attribute [local irreducible] iY fX nD qR jG jJ jI jK jF qu jD qw eJ gm qF gx ql nth fU dn af dy bodyPost Exit.then Exit.inBlock Code.wp Code.wpIn qh jH qi qX jC eT cZ cq bodyPostM eR
set_option maxRecDepth 100000 in
theorem Gv (y : bD) (c8 : List Bool) (hc8 : c8.length = 8) : eT Tryz.prog 173 [1000] [(1000, Cont.cells 185 (EC y))] [Ty.ptr 1000 0, Ty.arr iZ c8] [(1000, Cont.cells 185 (EC y))] (Ty.jX 196 [Ty.pp [Ty.ptr 1000 0], Ty.pa iZ c8 0]) := by
 refine dc Tryz.func173 rfl (by decide) Tryz.ntmps173 (by exact Nat.le_of_ble_eq_true rfl) fun w0 M0 => ?_
 refine aE (aA ?_)
 refine gF (ty := Ty.ptr 1000 0) rfl rfl ?_
 refine sP rfl (mP rfl (aD (aC (aE (aA (dL rfl (Na rfl (aD (aC ?_)))))))))
 refine ay ?_
 refine fZ [1000] rfl rfl (by decide) (by repeat (first | exact ej | refine dx rfl (bC (by decide) rfl rfl rfl) ?_)) ?_
 all_goals skip
 all_goals exact fK (s9 (aH (aH bL (aM rfl rfl)) (fD (aH bL (dZ (by decide))))))
set_option maxRecDepth 100000 in
theorem r6 (y : bD) (hr : y.cm) (c8 : List Bool) (hc8 : c8.length = 8) : eT Tryz.prog 117 [] [] [ff y, Ty.arr iZ c8] [(23, Cont.vec eA 187 (aO y (nth c8))), (31, Cont.vec cT 3 (gk (aO y (nth c8))))] (Ty.pp (rK y 23 31 (aO y (nth c8)).length (aO y (nth c8)).length)) := by
 refine qS Tryz.func117 rfl (by decide) Tryz.ntmps117 (by exact Nat.le_of_ble_eq_true rfl) fun w0 M0 => ?_
 have hfl := j7 (c := nth c8) hr
 refine aE (aA (bR rfl (sP rfl (mP rfl (aD (aC (aE (aA ?_))))))))
 refine aZ rfl rfl rfl (by exact Nat.le_of_ble_eq_true rfl) ?_
 refine dS rfl rfl (by exact List.cons_ne_nil _ _) rfl (by repeat (first | exact (aY.nil : aY _ _ [] _) | (show aY _ _ ((_, _) :: _) _; apply aY.agg; (· exact (rfl : _ = Ty.agg _))))) (by exact rfl) ?_
 refine tS rfl rfl rfl ?_
 refine cH rfl (by exact List.cons_ne_nil _ _) rfl ?_
 refine cx rfl rfl (by decide) rfl rfl (by exact (rfl : _ = Ty.ptr _ _)) rfl (by exact Nat.le_of_ble_eq_true rfl) rfl rfl (by exact (rfl : _ = [_])) ?_
 refine aD (aC (aE (aE (aA ?_))))
 refine aX rfl rfl (by decide) rfl rfl rfl ?_
 refine vM rfl rfl rfl (by rw [hc8]; rfl) ?_
 refine bt (res' := Ty.jX 196 [Ty.pp [Ty.ptr 10 0], Ty.pa iZ c8 0]) [(10, 1000)] [] [(10, Cont.cells 185 (EC y))] (Gv y c8 hc8) rfl rfl (aH (aH bL (aM rfl rfl)) (dZ (by exact List.mem_cons_self))) (b8 (a := 10) (b := 1000) (by exact List.mem_cons_self) rfl (bC (by exact List.mem_cons_self) rfl rfl rfl) pre_nil) (bJ (a := 10) (b := 1000) (by exact List.mem_cons_self) rfl (bC (by exact List.mem_cons_self) rfl rfl rfl) post_nil) (s9 (aH (aH bL (aM rfl rfl)) (fD (aH bL (dZ (by exact List.mem_cons_self)))))) ?_
 refine aD (aC ?_)
 refine IT (D := 10) (Tb := 185) (tys := bl y) (r := [Ty.ex (.slice none 0 0), Ty.ex (.slice none 0 0)]) rfl rfl rfl (by decide) fun vs hvs => ?_
 obtain ⟨v0, v1, v2, v3, rfl⟩ := four hvs rfl
 refine aq ?_
 refine rL (ps := [13]) (lk [(5, Ty.ptr 6 0), (9, Ty.ptr 10 0)]) (fun k => [(6, Cont.cells 152 [Ty.ptr 10 0]), (10, Cont.cells 185 [Ty.ex v0, Ty.ex v1, Ty.ex v2, Ty.ex v3, Ty.row eA 187 23 ((aO y (nth c8)).take k), Ty.row cT 3 31 ((gk (aO y (nth c8))).take k)]), (4000, Cont.fact (bl y) [v0, v1, v2, v3] rfl rfl)]) false [] [6, 10, 4000] rfl rfl ((uy y hr c8 hc8 0 10 (by decide) [v0, v1, v2, v3]).1) (AL (D := 10) (n := 36) (sd := 9) (r := fun k => [Ty.row eA 187 23 ((aO y (nth c8)).take k), Ty.row cT 3 31 ((gk (aO y (nth c8))).take k)]) (fun b => uy y hr c8 hc8 b 10 (by decide) [v0, v1, v2, v3]) (by decide) (by decide) rfl (fun k => List.mem_cons_of_mem _ List.mem_cons_self) (List.mem_cons_of_mem _ (List.mem_cons_of_mem _ List.mem_cons_self))) (uf rfl) (uf rfl) (by decide) (by intro t ht; obtain ⟨x, _, rfl⟩ := List.mem_map.1 ht; exact ⟨rfl, rfl, rfl⟩) rfl rfl (fun _ => rfl) rfl ?_ ?_ ?_ (by intro h; cases h)
 ·(refine dK.mk' ?_ ?_ <;> (repeat' (first | exact aJ | exact aI | exact dO | refine aB ?_ (Ty.aW _) | refine aB ?_ (Ty.aF _) | refine aG rfl (Cont.aF _) ?_ | refine aG rfl (Cont.dM ?_) ?_ | refine bY ?_ (Ty.aF _) | refine bY ?_ Ty.l8)))
  all_goals trace_state
 ·intro k tys hk
  obtain ⟨hk1, rfl⟩ := Dq hk
  refine ⟨live [(5, Ty.ptr 6 0), (6, Ty.ptr 7 0), (9, Ty.ptr 10 0)] [(6, Cont.cells 152 [Ty.ptr 10 0]), (7, Cont.cells 187 (eA.tys (nth (aO y (nth c8)) k))), (10, Cont.cells 185 [Ty.ex v0, Ty.ex v1, Ty.ex v2, Ty.ex v3, Ty.row eA 187 23 ((aO y (nth c8)).take k), Ty.row cT 3 31 ((gk (aO y (nth c8))).take k)]), (4000, Cont.fact (bl y) [v0, v1, v2, v3] rfl rfl)], fun l w M => ?_, fun l w M => ?_⟩
  ·
   refine aA ?_
   refine cH rfl (by exact List.cons_ne_nil _ _) rfl ?_
   refine cJ rfl rfl (by decide) rfl rfl rfl rfl rfl rfl ?_
   refine aD (fT ?_)
   (refine dK.mk' ?_ ?_ <;> (repeat' (first | exact aJ | exact aI | refine aB ?_ (Ty.aW _) | refine aB ?_ (Ty.aF _) | refine aG rfl (Cont.aF _) ?_)))
  refine aq ?_
  refine um (D := 10) (Tb := 185) (tg := 23) [Ty.ex v0, Ty.ex v1, Ty.ex v2, Ty.ex v3] rfl fun v4 => ?_
  refine um (D := 10) (Tb := 185) (tg := 31) [Ty.ex v0, Ty.ex v1, Ty.ex v2, Ty.ex v3, Ty.ex v4] rfl fun v5 => ?_
  refine cW mixed rfl ?_
  refine aX rfl rfl (by decide) rfl rfl rfl ?_
  refine aX rfl rfl (by decide) rfl rfl rfl ?_
  refine aX rfl rfl (by decide) rfl rfl rfl ?_
  refine cP rfl ?_
  refine aN rfl rfl rfl rfl rfl (by decide) ?_
  refine aX rfl rfl (by decide) rfl rfl rfl ?_
  refine bU rfl rfl (by decide) rfl rfl (by exact Nat.le_of_ble_eq_true rfl) ?_
  refine bp (E := eA) (xs := [_]) rfl rfl rfl rfl rfl (by decide) (by decide) (by repeat (first | exact (aY.nil : aY _ _ [] _) | (show aY _ _ ((_, _) :: _) _; apply aY.agg; (· exact (rfl : _ = Ty.agg _))))) (by exact rfl) rfl ?_
  refine pN (tg := 23) rfl rfl rfl rfl (by decide) rfl rfl rfl rfl rfl rfl (by decide) (by (simp <;> omega)) (by (simp <;> omega)) rfl rfl ?_
  refine aX rfl rfl (by decide) rfl rfl rfl ?_
  refine cP rfl ?_
  refine aN rfl rfl rfl rfl rfl (by decide) ?_
  refine aX rfl rfl (by decide) rfl rfl rfl ?_
  refine aN rfl rfl rfl rfl rfl (by decide) ?_
  refine aX rfl rfl (by decide) rfl rfl rfl ?_
  refine bp (E := cT) (xs := [_]) rfl rfl rfl rfl rfl (by decide) (by decide) (by repeat (first | exact (aY.nil : aY _ _ [] _) | (show aY _ _ ((_, _) :: _) _; apply aY.one; (· exact (rfl : _ = Ty.int _ _)); (· exact rfl)))) (by exact rfl) rfl ?_
  refine pN (tg := 31) rfl rfl rfl rfl (by decide) rfl rfl rfl rfl rfl rfl (by decide) (by (simp <;> omega)) (by (simp <;> omega)) rfl rfl ?_
  refine cP rfl ?_
  refine aN rfl rfl rfl rfl rfl (by decide) ?_
  refine cx rfl rfl (by decide) rfl rfl (by exact (rfl : _ = Ty.row _ _ _ _)) rfl (by exact Nat.le_of_ble_eq_true rfl) rfl rfl (by exact rfl) ?_
  refine cP rfl ?_
  refine aN rfl rfl rfl rfl rfl (by decide) ?_
  refine cx rfl rfl (by decide) rfl rfl (by exact (rfl : _ = Ty.row _ _ _ _)) rfl (by exact Nat.le_of_ble_eq_true rfl) rfl rfl (by exact rfl) ?_
  refine aD ?_
  refine ⟨by kernel_rfl, ?_⟩
  refine bV (Bg ?_)
  (refine dK.mk' ?_ ?_ <;> (repeat' (first | exact aJ | exact aI | exact dO | refine aB ?_ (Ty.aW _) | refine aG rfl (Cont.aF _) ?_ | refine aG rfl (Cont.dM ?_) ?_ | refine bY ?_ (Ty.aF _) | refine bY ?_ ?_)))
  all_goals first | exact Ty.fo (dw hk1).symm | exact Ty.fo (DM hk1)
 refine bV (aC (aE ?_))
 refine AR (D := 10) (Tb := 185) (vs := [v0, v1, v2, v3]) (tys := bl y) (r := [Ty.row eA 187 23 ((aO y (nth c8)).take ((aO y (nth c8)).map jV).length), Ty.row cT 3 31 ((gk (aO y (nth c8))).take ((aO y (nth c8)).map jV).length)]) rfl rfl ?_
 refine gM (tg := 10) rfl (Cont.m8 (T := 185) (B4 (y := y) (fl := aO y (nth c8)) (f := jV))) ?_
 refine lH (c0 := 10) (tg := 23) 4 rfl rfl ?_
 refine lH (c0 := 10) (tg := 31) 5 rfl rfl ?_
 refine gM (tg := 10) rfl (Cont.eC (l' := rK y 23 31 (aO y (nth c8)).length (aO y (nth c8)).length) ⟨Ty.aF _, Ty.aF _, Ty.aF _, Ty.aF _, Ty.vL rfl, Ty.vL (CU _), trivial⟩) ?_
 refine ni (tg := 10) [] [(6, Cont.cells 152 [Ty.pp (rK y 23 31 (aO y (nth c8)).length (aO y (nth c8)).length)])] (by decide) rfl trivial ⟨iN rfl rfl ⟨yP rfl rfl (by decide), trivial⟩, trivial⟩ ?_
 refine aA ?_
 refine aX rfl rfl (by decide) rfl rfl rfl ?_
 refine Ii rfl (aD (aC (ay (IA rfl ?_))))
 refine fZ [23, 31] rfl rfl (by decide) (by repeat (first | exact ej | refine dx rfl (cA (by decide) rfl) ?_)) ?_
 all_goals skip
 all_goals exact fK (fD (aH (aH (aH (aH (aH (aH bL (eM (by decide))) (eM (by decide))) (aM rfl rfl)) (aM rfl rfl)) (aM rfl rfl)) (aM rfl rfl)))
end Go.Proofs.YtelbollidfdcjaaGreat
namespace Go.Proofs.YtelbollidfdcjaaGreat
open Go Go.T
section
variable {fl : List bz} {a : List Int} {n k : Nat} {c : Int} {w : Way}
abbrev WQ : Type := List (Int × List Way)
def oA (q : WQ) (c : Int) : List Way := (ew q c).getD []
def ER (q : WQ) (c : Int) (w : Way) : WQ := gp q c (oA q c ++ [w])
theorem AH (q : WQ) (c c' : Int) (w : Way) : oA (ER q c w) c' = oA q c' ++ (if c = c' then [w] else []) := by
 unfold ER
 show (ew (gp _ _ _) c').getD [] = _
 rw [xz]
 by_cases e : c = c'
 ·subst e; rw [if_pos rfl, if_pos rfl]; rfl
 rw [if_neg e, if_neg e, List.append_nil]; rfl
def mm (fl : List bz) (a : List Int) (q : WQ) (k : Nat) : WQ := if nth a k < (nth fl k).hi then ER q (nth fl k).src ⟨k, true⟩ else q
def ef (fl : List bz) (a : List Int) : Nat → WQ
  | 0 => []
  | k + 1 => if nth a k > (nth fl k).lo then ER (mm fl a (ef fl a k) k) (nth fl k).dst ⟨k, false⟩ else mm fl a (ef fl a k) k
theorem E8 (fl : List bz) (a : List Int) : ([] : WQ) = ef fl a 0 := rfl
theorem HG {q : WQ} (h : ¬ nth a k < (nth fl k).hi) : q = mm fl a q k := (if_neg h).symm
theorem F8 (h : ¬ nth a k > (nth fl k).lo) : mm fl a (ef fl a k) k = ef fl a (k + 1) := (if_neg h).symm
theorem sU {q : WQ} : oA (mm fl a q k) c = oA q c ++ (if nth a k < (nth fl k).hi ∧ (nth fl k).src = c then [⟨k, true⟩] else []) := by
 unfold mm
 by_cases h : nth a k < (nth fl k).hi
 ·rw [if_pos h, AH]
  by_cases e : (nth fl k).src = c
  ·rw [if_pos e, if_pos ⟨h, e⟩]
  rw [if_neg e, if_neg fun h => e h.2]
 rw [if_neg h, if_neg fun h' => h h'.1, List.append_nil]
theorem tI : ∀ k, oA (ef fl a k) c = (List.range k).flatMap (BY fl a c)
  | 0 => rfl
  | k + 1 => by
    rw [List.range_succ, List.flatMap_append, List.flatMap_singleton, ← tI k]
    show oA (if _ then _ else _) c = _
    unfold BY
    by_cases h : nth a k > (nth fl k).lo
    · rw [if_pos h, AH, sU, List.append_assoc]
      congr 2
      by_cases e : (nth fl k).dst = c
      · rw [if_pos e, if_pos ⟨h, e⟩]
      · rw [if_neg e, if_neg fun h => e h.2]
    · rw [if_neg h, sU, if_neg (c := _ ∧ (nth fl k).dst = c) (fun h' => h h'.1), List.append_nil]
theorem rX : oA (ef fl a fl.length) c = bO fl a c := tI _
theorem yg (k : Nat) : (oA (ef fl a k) c).length ≤ 2 * k := by
  rw [tI]
  have key : ∀ n, ((List.range n).flatMap (BY fl a c)).length ≤ 2 * n := by
    intro n
    induction n with
    | zero => simp
    | succ n ih => rw [List.range_succ, List.flatMap_append, List.length_append, List.flatMap_singleton]; have := AN (fl := fl) (a := a) (c := c) n; omega
  exact key k
theorem FY : (oA (mm fl a (ef fl a k) k) c).length ≤ 2 * k + 1 := by
 rw [sU, List.length_append]
 have := yg (fl := fl) (a := a) (c := c) k
 split <;> simp <;> omega
def oK (fl : List bz) (a : List Int) (k : Nat) (c : Int) : Int := dH (fun i => (ind ((nth fl i).dst = c) - ind ((nth fl i).src = c)) * nth a i) k
def fA (fl : List bz) (a : List Int) (n k : Nat) : List Int := (List.range n).map fun c => oK fl a k (c : Nat)
theorem jx : (fA fl a n k).length = n := by unfold fA; rw [List.length_map, List.length_range]
theorem jA {c : Nat} (h : c < n) : nth (fA fl a n k) c = oK fl a k c := lG _ h
theorem Cw : fA fl a n fl.length = gU fl a n := rfl
theorem BG {l l' : List Int} (h : l.length = l'.length) (h' : ∀ i, i < l.length → nth l i = nth l' i) : l = l' := by
 refine List.ext_getElem h fun i h1 h2 => ?_
 have := h' i h1
 unfold nth at this
 rw [List.getD_eq_getElem?_getD, List.getD_eq_getElem?_getD, List.getElem?_eq_getElem h1, List.getElem?_eq_getElem h2] at this
 exact this
def n6 (fl : List bz) (a : List Int) (l : List Int) (k : Nat) : List Int := l.set (nth fl k).src.toNat (nth l (nth fl k).src.toNat - nth a k)
theorem Bf (hs : 0 ≤ (nth fl k).src ∧ (nth fl k).src < n) (hd : 0 ≤ (nth fl k).dst ∧ (nth fl k).dst < n) :
 (n6 fl a (fA fl a n k) k).set (nth fl k).dst.toNat (nth (n6 fl a (fA fl a n k) k) (nth fl k).dst.toNat + nth a k) = fA fl a n (k + 1) := by
 have hS : ∀ c, c < n → nth (n6 fl a (fA fl a n k) k) c = oK fl a k c - ind ((nth fl k).src = (c : Int)) * nth a k := fun c hc => by
  unfold n6
  rw [ij (by rw [jx]; exact hc)]
  by_cases e : (nth fl k).src.toNat = c
  ·rw [if_pos e, e, jA hc, gI (by omega), Int.one_mul]
  rw [if_neg e, jA hc, fO (by omega), Int.zero_mul, Int.sub_zero]
 have hl : (n6 fl a (fA fl a n k) k).length = n := by unfold n6; rw [List.length_set, jx]
 refine BG (by rw [List.length_set, hl, jx]) fun c hc => ?_
 rw [List.length_set, hl] at hc
 rw [ij (by rw [hl]; exact hc), jA hc]
 show _ = oK fl a k c + (ind ((nth fl k).dst = (c : Int)) - ind ((nth fl k).src = (c : Int))) * nth a k
 rw [Int.sub_mul]
 by_cases e : (nth fl k).dst.toNat = c
 ·rw [if_pos e, e, hS c hc, gI (p := (nth fl k).dst = (c : Int)) (by omega), Int.one_mul]; omega
 rw [if_neg e, hS c hc, fO (p := (nth fl k).dst = (c : Int)) (by omega), Int.zero_mul]; omega
theorem FO (fl : List bz) (a l : List Int) (k : Nat) : (n6 fl a l k).length = l.length := List.length_set
theorem EW (fl : List bz) (a : List Int) (n : Nat) : List.replicate (((n : Nat) : Int)).toNat 0 = fA fl a n 0 := by
 rw [Int.toNat_natCast]
 refine BG (by rw [List.length_replicate, jx]) fun i hi => ?_
 rw [List.length_replicate] at hi
 rw [jA hi, y9 _ _ _ hi]; rfl
theorem FD {c : Nat} (h : ∀ c : Int, -(300 * (k : Int)) ≤ oK fl a k c ∧ oK fl a k c ≤ 300 * k) (ha : 0 ≤ nth a k ∧ nth a k ≤ 300) (hc : c < n) (hs : (nth fl k).src.toNat < n) : -(300 * (k : Int) + 300) ≤ nth (n6 fl a (fA fl a n k) k) c ∧ nth (n6 fl a (fA fl a n k) k) c ≤ 300 * k := by
 unfold n6
 rw [ij (by rw [jx]; exact hc)]
 split
 ·rw [jA hs]; have := h ((nth fl k).src.toNat : Nat); omega
 rw [jA hc]; have := h (c : Nat); omega
theorem ym (ha : ∀ i, i < k → 0 ≤ nth a i ∧ nth a i ≤ 300) : -(300 * (k : Int)) ≤ oK fl a k c ∧ oK fl a k c ≤ 300 * k := by
 refine sG (b := 300) fun i hi => ?_
 have := ha i hi
 unfold ind
 split <;> split <;> simp <;> omega
end
end Go.Proofs.YtelbollidfdcjaaGreat
namespace Go.Proofs.YtelbollidfdcjaaGreat
open Go Go.T
set_option maxHeartbeats 8000000
section
variable {fl : List bz} {a : List Int} {n : Nat} {w : Way}
theorem JQ (h : w.more = true) : (nth fl w.ix).src = w.gu fl := (if_pos h).symm
theorem Kp (h : w.more = false) : (nth fl w.ix).dst = w.gu fl := (if_neg (by rw [h]; decide)).symm
theorem DO (h : w.more = true) : (nth fl w.ix).dst = w.fin fl ∧ (nth fl w.ix).hi - nth a w.ix = w.room fl a := ⟨(if_pos h).symm, (if_pos h).symm⟩
theorem F1 (h : w.more = false) : (nth fl w.ix).src = w.fin fl ∧ nth a w.ix - (nth fl w.ix).lo = w.room fl a := ⟨(if_neg (by rw [h]; decide)).symm, (if_neg (by rw [h]; decide)).symm⟩
structure lK (y : bD) (fl : List bz) (a : List Int) : Prop where
  right : y.cm
  net : Net fl (y.cells + 1)
  bd : Bd fl
  inb : xD fl a
  ou : fl.length ≤ 34
theorem lK.LG {y : bD} (h : lK y fl a) {i : Nat} (hi : i < fl.length) : (0 ≤ nth a i ∧ nth a i ≤ 300) ∧ (0 ≤ (nth fl i).lo ∧ (nth fl i).lo ≤ 300) ∧ 0 ≤ (nth fl i).hi ∧ (nth fl i).hi ≤ 300 := by
 have h1 := h.bd i hi
 have h2 := h.inb.2 i hi
 omega
theorem MG {l : List Way} {k : Nat} {d : Int} (hk : k < l.length) (hm : (nth l k).more = true) : (eI a (l.take k) d).set (nth l k).ix (nth (eI a (l.take k) d) (nth l k).ix + d) = eI a (l.take (k + 1)) d := by
 rw [dw hk, qx]; unfold kg wu; rw [hm]; rfl
theorem MV {l : List Way} {k : Nat} {d : Int} (hk : k < l.length) (hm : (nth l k).more = false) : (eI a (l.take k) d).set (nth l k).ix (nth (eI a (l.take k) d) (nth l k).ix - d) = eI a (l.take (k + 1)) d := by
 rw [dw hk, qx]; unfold kg wu; rw [hm]; rfl
theorem xU {l : List Way} {d : Int} (hd : 0 ≤ d ∧ d ≤ 20000) (ha : ∀ i, -300 ≤ nth a i ∧ nth a i ≤ 300) (hw : ∀ w ∈ l, w.ix < a.length) : ∀ k, k ≤ l.length → ∀ i, -(20000 * ((k : Int) + 1)) ≤ nth (eI a (l.take k) d) i ∧ nth (eI a (l.take k) d) i ≤ 20000 * ((k : Int) + 1)
  | 0, _, i => by rw [List.take_zero]; have := ha i; show _ ≤ nth a i ∧ nth a i ≤ _; omega
  | k + 1, hk, i => by
    have ih := xU hd ha hw k (by omega) i
    rw [dw (by omega), qx, j6 (by rw [sI]; exact hw _ (dD (by omega)))]
    split
    · unfold wu; split <;> omega
    · omega
theorem DB (a : List Int) (l : List Way) (d : Int) : a = eI a (l.take 0) d := rfl
theorem I3 {l : List Int} {i : Nat} (h : l.length ≤ i) : nth l i = 0 := by
 unfold nth; rw [List.getD_eq_getElem?_getD, List.getElem?_eq_none h]; rfl
theorem lK.abs {y : bD} (h : lK y fl a) (i : Nat) : -300 ≤ nth a i ∧ nth a i ≤ 300 := by
 by_cases c : i < fl.length
 ·have := (h.LG c).1; omega
 rw [I3 (by rw [h.inb.1]; omega)]; omega
end
theorem nH : mapOf Tryz.prog 227 = some (3, 222) := by kernel_rfl
theorem uY : zeroOf Tryz.prog 222 = some (.slice none 0 0) := by kernel_rfl
def KI : xA Tryz.prog 3 Int := Kr Tryz.prog 3 .i64 Tryz.underlying3
theorem uM (n : Int) : tw (Ty.int .i64 n) (KI.enc n) := JT
attribute [local irreducible] aO gk Way.gu Way.fin Way.room ef mm ER eI fA oK
attribute [local irreducible] iY fX nD qR jG jJ jI jK jF qu jD qw eJ gm qF gx ql nth fU dn af dy bodyPost Exit.then Exit.inBlock Code.wp Code.wpIn qh jH qi qX jC eT cZ cq bodyPostM eR
set_option maxRecDepth 100000 in
theorem zH (y : bD) (fl : List bz) (a : List Int) (w : Way) (hw : w.ix < fl.length) : dy Tryz.prog 181 [Ty.pp (l9 y fl a), Ty.agg (fy.tys w)] (Ty.int .i64 (w.gu fl)) := by
 refine av Tryz.func181 rfl (by decide) Tryz.ntmps181 (by exact Nat.le_of_ble_eq_true rfl) fun w0 M0 => ?_
 refine aE (aA (bR rfl (cF rfl (aD (aC (aE (aE (aA ?_))))))))
 refine aQ rfl rfl rfl rfl rfl (by decide) ?_
 refine aL rfl rfl rfl rfl (aD (aC ?_))
 refine cv rfl (fun hc1 => ?_) (fun hc1 => ?_)
 ·
  refine aE (cW mixed rfl (jo rfl (bq rfl ?_)))
  refine aQ rfl rfl rfl rfl rfl (by decide) ?_
  refine aL rfl rfl rfl rfl ?_
  refine aQ rfl rfl rfl rfl rfl (by decide) ?_
  refine aL rfl rfl rfl rfl ?_
  refine bT rfl rfl rfl rfl rfl rfl (by omega) ?_
  refine aQ rfl rfl rfl rfl rfl (by decide) ?_
  refine aL rfl rfl rfl rfl (cF rfl (aD ?_))
  refine ⟨by kernel_rfl, ?_⟩
  refine aC (ay (aV (bh rfl rfl ?_)))
  all_goals skip
  all_goals exact az rfl rfl (congrArg (Ty.int .i64) (JQ hc1))
 refine ak (aC (aE (cW mixed rfl (jo rfl (bq rfl ?_)))))
 refine aQ rfl rfl rfl rfl rfl (by decide) ?_
 refine aL rfl rfl rfl rfl ?_
 refine aQ rfl rfl rfl rfl rfl (by decide) ?_
 refine aL rfl rfl rfl rfl ?_
 refine bT rfl rfl rfl rfl rfl rfl (by omega) ?_
 refine aQ rfl rfl rfl rfl rfl (by decide) ?_
 refine aL rfl rfl rfl rfl (cF rfl (aD ?_))
 refine ⟨by kernel_rfl, ?_⟩
 refine aC (ay (bh rfl rfl ?_))
 all_goals skip
 all_goals exact az rfl rfl (congrArg (Ty.int .i64) (Kp hc1))
set_option maxRecDepth 100000 in
theorem Dr (y : bD) (fl : List bz) (a : List Int) (h : lK y fl a) (w : Way) (hw : w.ix < fl.length) : dy Tryz.prog 182 [Ty.pp (l9 y fl a), Ty.agg (fy.tys w)] (Ty.jq [Ty.int .i64 (w.fin fl), Ty.int .i64 (w.room fl a)]) := by
 refine av Tryz.func182 rfl (by decide) Tryz.ntmps182 (by exact Nat.le_of_ble_eq_true rfl) fun w0 M0 => ?_
 have hl := h.inb.1
 have hb := h.LG hw
 refine aE (aA (bR rfl (cF rfl (cF rfl (aD (aC (aE (cW mixed rfl (jo rfl ?_)))))))))
 refine bq rfl ?_
 refine aQ rfl rfl rfl rfl rfl (by decide) ?_
 refine aL rfl rfl rfl rfl ?_
 refine aQ rfl rfl rfl rfl rfl (by decide) ?_
 refine aL rfl rfl rfl rfl ?_
 refine bT rfl rfl rfl rfl rfl rfl (by omega) ?_
 refine aZ rfl rfl rfl (by exact Nat.le_of_ble_eq_true rfl) ?_
 refine cH rfl (by exact List.cons_ne_nil _ _) rfl ?_
 refine cJ rfl rfl (by decide) rfl rfl rfl rfl rfl rfl ?_
 refine aD ?_
 refine ⟨by kernel_rfl, ?_⟩
 refine aC (aE (aE (aA ?_)))
 refine aQ rfl rfl rfl rfl rfl (by decide) ?_
 refine aL rfl rfl rfl rfl (aD (aC ?_))
 refine cv rfl (fun hc1 => ?_) (fun hc1 => ?_)
 ·
  refine aE (cW mixed rfl ?_)
  refine aN rfl rfl rfl rfl rfl (by decide) ?_
  refine aX rfl rfl (by decide) rfl rfl rfl ?_
  refine aN rfl rfl rfl rfl rfl (by decide) ?_
  refine aX rfl rfl (by decide) rfl rfl rfl ?_
  refine jo rfl (bq rfl ?_)
  refine aQ rfl rfl rfl rfl rfl (by decide) ?_
  refine aL rfl rfl rfl rfl ?_
  refine aQ rfl rfl rfl rfl rfl (by decide) ?_
  refine aL rfl rfl rfl rfl ?_
  refine bT rfl rfl rfl rfl rfl rfl (by omega) ?_
  refine aL rfl rfl rfl rfl ?_
  refine gw rfl rfl (by omega) (by omega) ?_
  refine cF rfl (cF rfl (aD ?_))
  refine ⟨by kernel_rfl, ?_⟩
  refine aC (ay (aV ?_))
  refine fM rfl rfl rfl ?_ ?_
  all_goals skip
  all_goals first | exact az rfl rfl (congrArg (Ty.int .i64) (DO (a := a) hc1).1) | exact az rfl rfl (congrArg (Ty.int .i64) (DO (a := a) hc1).2)
 refine ak (aC (aE (cW mixed rfl ?_)))
 refine aN rfl rfl rfl rfl rfl (by decide) ?_
 refine aX rfl rfl (by decide) rfl rfl rfl ?_
 refine jo rfl (bq rfl ?_)
 refine aQ rfl rfl rfl rfl rfl (by decide) ?_
 refine aL rfl rfl rfl rfl ?_
 refine aQ rfl rfl rfl rfl rfl (by decide) ?_
 refine aL rfl rfl rfl rfl ?_
 refine bT rfl rfl rfl rfl rfl rfl (by omega) ?_
 refine aL rfl rfl rfl rfl ?_
 refine aN rfl rfl rfl rfl rfl (by decide) ?_
 refine aX rfl rfl (by decide) rfl rfl rfl ?_
 refine gw rfl rfl (by omega) (by omega) ?_
 refine cF rfl (cF rfl (aD ?_))
 refine ⟨by kernel_rfl, ?_⟩
 refine aC (ay ?_)
 refine fM rfl rfl rfl ?_ ?_
 all_goals skip
 all_goals first | exact az rfl rfl (congrArg (Ty.int .i64) (F1 (a := a) hc1).1) | exact az rfl rfl (congrArg (Ty.int .i64) (F1 (a := a) hc1).2)
set_option maxRecDepth 100000 in
theorem H7 (y : bD) (fl : List bz) (a : List Int) (h : lK y fl a) (l : List Way) (hl : l.length ≤ 100) (hw : ∀ w ∈ l, w.ix < fl.length) (d : Int) (hd : 0 ≤ d ∧ d ≤ 20000) : eT Tryz.prog 183 [1000] [(1000, Cont.vec cT 3 a)] [Ty.pp (eO y fl 1000 fl.length), Ty.sl fy l, Ty.int .i64 d] [(1000, Cont.vec cT 3 (eI a l d))] (Ty.jq []) := by
 refine dc Tryz.func183 rfl (by decide) Tryz.ntmps183 (by exact Nat.le_of_ble_eq_true rfl) fun w0 M0 => ?_
 have hal := h.inb.1
 refine aE (aA (gB rfl (c9 rfl rfl rfl (bQ rfl (aD (aC (aq ?_)))))))
 refine cj (fun (k : {k : Nat // k ≤ l.length}) => live [(0, Ty.pp (eO y fl 1000 fl.length)), (2, Ty.int .i64 d), (8, Ty.sl fy l), (9, Ty.int .i64 l.length), (10, Ty.int .i64 (k.1 : Nat))] [(1000, Cont.vec cT 3 (eI a (l.take k.1) d))]) (fun k => l.length - k.1) (⟨0, by omega⟩) ?_ fun k => ?_
 ·(refine dK.mk' ?_ ?_ <;> (repeat' (first | exact aJ | exact aI | refine aB ?_ (Ty.aW _) | refine aB ?_ (Ty.aF _) | refine aG rfl ?_ ?_)))
  all_goals exact Cont.eF (DB _ _ _)
 have hsl := sI d (l.take k.1) a
 have hk := k.2
 have hsa := xU hd h.abs (fun w hw' => by rw [hal]; exact hw w hw') k.1 k.2
 refine aE (aA (bE rfl rfl rfl (aD (aC (aE ?_)))))
 refine au rfl (fun hc1 => ?_) (fun hc1 => ?_)
 ·
  refine ak (aC (aE (aq (aE ?_))))
  have hwk := hw _ (dD (xs := l) (k := k.1) (by omega))
  have hsk := hsa (nth l k.1).ix
  refine aA ?_
  refine bT rfl rfl rfl rfl rfl rfl (by omega) ?_
  refine aZ rfl rfl rfl (by exact Nat.le_of_ble_eq_true rfl) ?_
  refine cH rfl (by exact List.cons_ne_nil _ _) rfl ?_
  refine cJ rfl rfl (by decide) rfl rfl rfl rfl rfl rfl ?_
  refine aD (aC (aE (aA ?_)))
  refine aN rfl rfl rfl rfl rfl (by decide) ?_
  refine aX rfl rfl (by decide) rfl rfl rfl ?_
  refine aD (aC ?_)
  refine cv rfl (fun hc2 => ?_) (fun hc2 => ?_)
  ·
   refine cW mixed rfl (jo rfl (bq rfl ?_))
   refine aQ rfl rfl rfl rfl rfl (by decide) ?_
   refine aL rfl rfl rfl rfl ?_
   refine aN rfl rfl rfl rfl rfl (by decide) ?_
   refine aX rfl rfl (by decide) rfl rfl rfl ?_
   refine eK rfl rfl rfl rfl rfl (by omega) ?_
   refine e9 rfl rfl rfl (by decide) rfl rfl (by omega) rfl ?_
   refine bQ rfl ?_
   refine b9 rfl rfl (by omega) (by omega) ?_
   refine eK rfl rfl rfl rfl rfl (by omega) ?_
   refine jY rfl rfl rfl (by decide) rfl rfl (by exact (rfl : _ = Ty.int _ _)) rfl (by omega) (by decide) rfl rfl ?_
   refine aD ?_
   refine ⟨by kernel_rfl, ?_⟩
   refine bV (aC (aA ?_))
   refine b9 rfl rfl (by omega) (by omega) ?_
   refine bQ rfl (aD ?_)
   refine bZ (⟨k.1 + 1, by omega⟩) ?_ (by show l.length - (k.1 + 1) < l.length - k.1; omega)
   (refine dK.mk' ?_ ?_ <;> (repeat' (first | exact aJ | exact aI | refine aB ?_ (Ty.aW _) | refine aB ?_ (Ty.aF _) | refine aG rfl ?_ ?_)))
   all_goals skip
   all_goals exact Cont.eF (MG (by omega) hc2)
  refine cW mixed rfl (jo rfl (bq rfl ?_))
  refine aQ rfl rfl rfl rfl rfl (by decide) ?_
  refine aL rfl rfl rfl rfl ?_
  refine aN rfl rfl rfl rfl rfl (by decide) ?_
  refine aX rfl rfl (by decide) rfl rfl rfl ?_
  refine eK rfl rfl rfl rfl rfl (by omega) ?_
  refine e9 rfl rfl rfl (by decide) rfl rfl (by omega) rfl ?_
  refine bQ rfl ?_
  refine gw rfl rfl (by omega) (by omega) ?_
  refine eK rfl rfl rfl rfl rfl (by omega) ?_
  refine jY rfl rfl rfl (by decide) rfl rfl (by exact (rfl : _ = Ty.int _ _)) rfl (by omega) (by decide) rfl rfl ?_
  refine aD ?_
  refine ⟨by kernel_rfl, ?_⟩
  refine bV (aC (aA ?_))
  refine b9 rfl rfl (by omega) (by omega) ?_
  refine bQ rfl (aD ?_)
  refine bZ (⟨k.1 + 1, by omega⟩) ?_ (by show l.length - (k.1 + 1) < l.length - k.1; omega)
  (refine dK.mk' ?_ ?_ <;> (repeat' (first | exact aJ | exact aI | refine aB ?_ (Ty.aW _) | refine aB ?_ (Ty.aF _) | refine aG rfl ?_ ?_)))
  all_goals skip
  all_goals exact Cont.eF (MV (by omega) hc2)
 refine cg (aR (aR (bA rfl (MW ?_))))
 refine Kz [1000] rfl (by decide) ?_
 ·exact dx rfl (cA (by decide) (by rw [List.take_of_length_le (by have := k.2; omega)])) ej
set_option maxRecDepth 100000 in
theorem K3 (y : bD) (fl : List bz) (a : List Int) (h : lK y fl a) : eT Tryz.prog 178 [1000] [(1000, Cont.vec cT 3 a)] [Ty.pp (eO y fl 1000 fl.length)] [(1000, Cont.vec cT 3 a)] (Ty.sl cT (gU fl a (y.cells + 1))) := by
 refine dc Tryz.func178 rfl (by decide) Tryz.ntmps178 (by exact Nat.le_of_ble_eq_true rfl) fun w0 M0 => ?_
 have hal := h.inb.1
 have hcl := mz h.right
 have hfl := h.ou
 refine aE (aA (mP rfl (aD (aC (aE (aA (jo rfl ?_)))))))
 refine dW [] (sE y h.right) rfl (aK (mg (l1 := bl y) (l2 := [Ty.sl eA fl, Ty.vs 1000 fl.length]) rfl rfl) bW) (by exact dF _ _) ?_
 refine b9 rfl rfl (by omega) (by omega) ?_
 refine y7 (E := cT) (x0 := 0) rfl rfl rfl rfl rfl rfl rfl (by decide) rfl (by omega) (by (dsimp only; omega)) (by omega) ?_
 refine NB rfl (aD (aC (aE (aE (aA (jo rfl (bq rfl ?_)))))))
 refine aQ rfl rfl rfl rfl rfl (by decide) ?_
 refine aL rfl rfl rfl rfl (c9 rfl rfl rfl (bQ rfl (aD (aC (aq ?_)))))
 refine cj (fun (k : {k : Nat // k ≤ fl.length}) => live [(0, Ty.pp (eO y fl 1000 fl.length)), (3, Ty.vs 10 (y.cells + 1)), (13, Ty.sl eA fl), (14, Ty.int .i64 fl.length), (15, Ty.int .i64 (k.1 : Nat))] [(1000, Cont.vec cT 3 a), (10, Cont.vec cT 3 (fA fl a (y.cells + 1) k.1))]) (fun k => fl.length - k.1) (⟨0, by omega⟩) ?_ fun k => ?_
 ·(refine dK.mk' ?_ ?_ <;> (repeat' (first | exact aJ | exact aI | refine aB ?_ (Ty.aW _) | refine aB ?_ (Ty.aF _) | refine aG rfl (Cont.aF _) ?_ | refine aG rfl ?_ ?_)))
  all_goals exact Cont.eF (EW _ _ _)
 have hk := k.2
 have hul := jx (fl := fl) (a := a) (n := y.cells + 1) (k := k.1)
 refine aE (aA (bE rfl rfl rfl (aD (aC (aE ?_)))))
 refine au rfl (fun hc1 => ?_) (fun hc1 => ?_)
 ·
  refine ak (aC (aE (aq (aE (aA (bQ rfl ?_))))))
  refine bT rfl rfl rfl rfl rfl rfl (by omega) ?_
  refine aZ rfl rfl rfl (by exact Nat.le_of_ble_eq_true rfl) ?_
  refine cH rfl (by exact List.cons_ne_nil _ _) rfl ?_
  refine cF rfl ?_
  refine cJ rfl rfl (by decide) rfl rfl rfl rfl rfl rfl ?_
  refine aD (aC (aE ?_))
  have hs := h.net.src k.1 (by omega)
  have hd := h.net.dst k.1 (by omega)
  have hamt := (h.LG (show k.1 < fl.length by omega)).1
  have habs := fun c => ym (fl := fl) (a := a) (c := c) (k := k.1) fun i hi => (h.LG (show i < fl.length by omega)).1
  have hn1 := jA (fl := fl) (a := a) (n := y.cells + 1) (k := k.1) (c := (nth fl k.1).src.toNat) (by omega)
  have hb1 := habs ((nth fl k.1).src.toNat : Nat)
  refine cW mixed rfl (HS rfl ?_)
  refine aN rfl rfl rfl rfl rfl (by decide) ?_
  refine aX rfl rfl (by decide) rfl rfl rfl ?_
  refine gi rfl rfl rfl rfl rfl hs.1 (by omega) ?_
  refine e9 rfl rfl rfl (by decide) rfl rfl (by omega) rfl ?_
  refine jo rfl (bq rfl ?_)
  refine aQ rfl rfl rfl rfl rfl (by decide) ?_
  refine aL rfl rfl rfl rfl (bQ rfl ?_)
  refine eK rfl rfl rfl rfl rfl (by omega) ?_
  refine e9 rfl rfl rfl (by decide) rfl rfl (by omega) rfl ?_
  refine gw rfl rfl (by omega) (by omega) ?_
  refine gi rfl rfl rfl rfl rfl hs.1 (by omega) ?_
  refine jY rfl rfl rfl (by decide) rfl rfl (by exact (rfl : _ = Ty.int _ _)) rfl (by omega) (by decide) rfl rfl ?_
  refine aD ?_
  refine ⟨by kernel_rfl, ?_⟩
  refine aC ?_
  have hsl : (n6 fl a (fA fl a (y.cells + 1) k.1) k.1).length = y.cells + 1 := (FO _ _ _ _).trans hul
  have hb2 := FD (fl := fl) (a := a) (n := y.cells + 1) (k := k.1) (c := (nth fl k.1).dst.toNat) habs hamt (by omega) (by omega)
  unfold n6 at hb2 hsl
  refine cW mixed rfl (HS rfl ?_)
  refine aN rfl rfl rfl rfl rfl (by decide) ?_
  refine aX rfl rfl (by decide) rfl rfl rfl ?_
  refine gi rfl rfl rfl rfl rfl hd.1 (by omega) ?_
  refine e9 rfl rfl rfl (by decide) rfl rfl (by omega) rfl ?_
  refine jo rfl (bq rfl ?_)
  refine aQ rfl rfl rfl rfl rfl (by decide) ?_
  refine aL rfl rfl rfl rfl (bQ rfl ?_)
  refine eK rfl rfl rfl rfl rfl (by omega) ?_
  refine e9 rfl rfl rfl (by decide) rfl rfl (by omega) rfl ?_
  refine b9 rfl rfl (by omega) (by omega) ?_
  refine gi rfl rfl rfl rfl rfl hd.1 (by omega) ?_
  refine jY rfl rfl rfl (by decide) rfl rfl (by exact (rfl : _ = Ty.int _ _)) rfl (by omega) (by decide) rfl rfl ?_
  refine aD ?_
  refine ⟨by kernel_rfl, ?_⟩
  refine bV (aC (aA ?_))
  refine b9 rfl rfl (by omega) (by omega) ?_
  refine bQ rfl (aD ?_)
  refine bZ (⟨k.1 + 1, by omega⟩) ?_ (by show fl.length - (k.1 + 1) < fl.length - k.1; omega)
  (refine dK.mk' ?_ ?_ <;> (repeat' (first | exact aJ | exact aI | refine aB ?_ (Ty.aW _) | refine aB ?_ (Ty.aF _) | refine aG rfl (Cont.aF _) ?_ | refine aG rfl ?_ ?_)))
  all_goals skip
  all_goals exact Cont.eF (Bf hs hd)
 refine cg (aR (aR (bA rfl (aC (aE ?_)))))
 refine kF (tg := 10) [(3, Ty.sl cT (fA fl a (y.cells + 1) k.1))] (by decide) rfl ⟨LY rfl rfl hul (by decide), trivial⟩ ?_
 refine fW (s := 3) rfl (Ty.fY (show fA fl a (y.cells + 1) k.1 = gU fl a (y.cells + 1) by rw [show k.1 = fl.length by have := k.2; omega]; exact Cw)) ?_
 refine aA (gB rfl (DE rfl (aD (aC (ay ?_)))))
 refine fZ [1000] rfl rfl (by decide) (by repeat (first | exact ej | refine dx rfl (cA (by decide) rfl) ?_)) ?_
 all_goals exact fK (aM rfl rfl)
end Go.Proofs.YtelbollidfdcjaaGreat
namespace Go.Proofs.YtelbollidfdcjaaGreat
open Go Go.T
section
variable {fl : List bz} {a : List Int} {n : Nat} {s t : Int} {x : qQ}
def eG (x : qQ) : Int := nth x.queue 0
def jt (x : qQ) : qQ := ⟨x.by_, x.queue.drop 1⟩
theorem queue_eq (h : 0 < x.queue.length) : x.queue = eG x :: x.queue.drop 1 := by
  unfold eG
  cases hq : x.queue with
  | nil => rw [hq] at h; exact absurd h (by simp)
  | cons c r => rfl
structure Ir (fl : List bz) (a : List Int) (n : Nat) (s : Int) (x : qQ) : Prop where
  inv : lV fl a n s x none
  same : mW (wI fl a s) x = cR fl a s
  short : x.queue.length ≤ x.by_.length + 1
theorem NK (hs : 0 ≤ s ∧ s < n) : Ir fl a n s ⟨[], [s]⟩ := ⟨J7 hs, rfl, Nat.le_refl _⟩
theorem GF (h : 0 < x.queue.length) : wI fl a s x = .inl (fB fl a s (eG x) (jt x) (bO fl a (eG x)).length) := by
 have e := queue_eq h
 unfold wI
 rw [e]; rfl
theorem Ir.fold (hN : Net fl n) (h : Ir fl a n s x) (hq : 0 < x.queue.length) {k : Nat} (hk : k ≤ (bO fl a (eG x)).length) :
 (fB fl a s (eG x) (jt x) k).queue.length ≤ n ∧ (fB fl a s (eG x) (jt x) k).by_.length ≤ n ∧ (fB fl a s (eG x) (jt x) k).queue.length ≤ (fB fl a s (eG x) (jt x) k).by_.length := by
 have h1 := (h.inv.pop (queue_eq hq)).fold hN k hk
 have h2 := h1.ou
 have h3 := wZ (fl := fl) (a := a) (s := s) (c := eG x) (x := jt x) k hk
 have h4 := h.short
 have e1 : (jt x).queue.length + 1 = x.queue.length := by show (x.queue.drop 1).length + 1 = _; rw [List.length_drop]; omega
 have e2 : (jt x).by_ = x.by_ := rfl
 rw [e2] at h3
 change (fB fl a s (eG x) (jt x) k).by_.length ≤ n at h2
 omega
theorem Ir.next (hN : Net fl n) (h : Ir fl a n s x) (hq : 0 < x.queue.length) : Ir fl a n s (fB fl a s (eG x) (jt x) (bO fl a (eG x)).length) ∧ Kh n (fB fl a s (eG x) (jt x) (bO fl a (eG x)).length) < Kh n x := by
 obtain ⟨h1, h2⟩ := vE hN h.inv (queue_eq hq)
 exact ⟨⟨h1, by rw [← g7 (GF hq)]; exact h.same, by have := (h.fold hN hq (Nat.le_refl _)).2.2; omega⟩, h2⟩
theorem Ir.end (h : Ir fl a n s x) (hq : ¬ 0 < x.queue.length) : x.by_ = cR fl a s := by
 rw [← h.same]
 refine (iT ?_).symm
 unfold wI
 rw [List.length_eq_zero_iff.1 (show x.queue.length = 0 by omega)]
theorem yC {c : Int} {z : qQ} {k : Nat} (hk : k < (bO fl a c).length) (h : uN fl s (fB fl a s c z k).by_ (nth (bO fl a c) k) = true) :
 gp (fB fl a s c z k).by_ ((nth (bO fl a c) k).fin fl) (nth (bO fl a c) k) = (fB fl a s c z (k + 1)).by_ ∧ (fB fl a s c z k).queue ++ [(nth (bO fl a c) k).fin fl] = (fB fl a s c z (k + 1)).queue := by
 rw [nT hk, sq h]; exact ⟨rfl, rfl⟩
theorem Bx {c : Int} {z : qQ} {k : Nat} (hk : k < (bO fl a c).length) (h : uN fl s (fB fl a s c z k).by_ (nth (bO fl a c) k) = false) :
 (fB fl a s c z k).by_ = (fB fl a s c z (k + 1)).by_ ∧ (fB fl a s c z k).queue = (fB fl a s c z (k + 1)).queue := by
 rw [nT hk, wB h]; exact ⟨rfl, rfl⟩
theorem wG {c : Int} {z : qQ} : fB fl a s c z 0 = z := rfl
structure GR (fl : List bz) (n : Nat) (a0 a : List Int) : Prop where
  inb : xD fl a
  same : mW (Db fl n) a = gP fl n a0
theorem GR.done {a0 : List Int} (h : GR fl n a0 a) (e : dh fl a n < 0) : gP fl n a0 = (0, false, a) := by
 rw [← h.same]; exact iT (if_pos e)
theorem GR.stuck {a0 : List Int} (h : GR fl n a0 a) (e : ¬ dh fl a n < 0) (e2 : eY fl a n (cR fl a (dh fl a n)) < 0) : gP fl n a0 = (dh fl a n, true, a) := by
 rw [← h.same]; exact iT ((if_neg e).trans (if_pos e2))
theorem GR.next {a0 : List Int} (hN : Net fl n) (h : GR fl n a0 a) (e : ¬ dh fl a n < 0) (e2 : ¬ eY fl a n (cR fl a (dh fl a n)) < 0) :
 GR fl n a0 (kO fl a (dh fl a n) (eY fl a n (cR fl a (dh fl a n)))) ∧ ME fl a n (dh fl a n) (eY fl a n (cR fl a (dh fl a n))) := by
 obtain ⟨s, s1, s2, s3⟩ := ve e
 obtain ⟨t, t1, t2, t3, t4⟩ := sy e2
 rw [s2] at t2 t3 ⊢
 rw [t2]
 have hS := sent hN h.inb s1 t1 s3 t3 t4
 refine ⟨⟨hS.inb, ?_⟩, hS⟩
 rw [← h.same]
 refine (g7 ?_).symm
 unfold Db
 rw [if_neg e, s2, if_neg (by rw [t2]; omega), t2]
structure Jj (fl : List bz) (a : List Int) (q : List (Int × Way)) (s t : Int) (dep : Int → Nat) (x : Int × List Way) : Prop where
  inv : Hq fl a q s t dep x
  same : mW (D8 fl q s) x = gy fl q s t
theorem NY {dep : Int → Nat} {q : List (Int × Way)} (ht : w6 q s t) : Jj fl a q s t dep (t, []) :=
 ⟨⟨rfl, (fun w h => by cases h), (fun w h => by cases h), List.nodup_nil, ht, by simp⟩, rfl⟩
theorem CN {q : List (Int × Way)} {x : Int × List Way} (hx : x.1 = s) : D8 fl q s x = .inr x.2 := if_pos hx
theorem CH {q : List (Int × Way)} {x : Int × List Way} (hx : ¬ x.1 = s) : D8 fl q s x = .inl ((jr q x.1).gu fl, x.2 ++ [jr q x.1]) := if_neg hx
theorem Jj.next {dep : Int → Nat} {q : List (Int × Way)} (hd : ∀ c w, ew q c = some w → Open fl a w ∧ w.fin fl = c ∧ w6 q s (w.gu fl) ∧ dep (w.gu fl) < dep c ∧ dep c ≤ q.length) {x : Int × List Way} (h : Jj fl a q s t dep x) (hx : ¬ x.1 = s) :
 Jj fl a q s t dep ((jr q x.1).gu fl, x.2 ++ [jr q x.1]) ∧ dep ((jr q x.1).gu fl) < dep x.1 ∧ Open fl a (jr q x.1) := by
 obtain ⟨h1, h2⟩ := h.inv.next hd hx
 refine ⟨⟨h1, ?_⟩, h2, h1.ways _ (List.mem_append.2 (.inr (List.mem_singleton.2 rfl)))⟩
 rw [← h.same]
 exact (g7 (CH hx)).symm
theorem Jj.end {dep : Int → Nat} {q : List (Int × Way)} {x : Int × List Way} (h : Jj fl a q s t dep x) (hx : x.1 = s) : x.2 = gy fl q s t := by
 rw [← h.same]; exact (iT (CN hx)).symm
theorem Jj.ou {dep : Int → Nat} {q : List (Int × Way)} {x : Int × List Way} (h : Jj fl a q s t dep x) : x.2.length ≤ dep t := by
 have := h.inv.ou; omega
end
end Go.Proofs.YtelbollidfdcjaaGreat
namespace Go.Proofs.YtelbollidfdcjaaGreat
open Go Go.T
set_option maxHeartbeats 8000000
def zM : VT Way := ⟨fun w => Ty.agg (fy.tys w), fun _ => ⟨rfl, rfl⟩⟩
theorem nS : mapOf Tryz.prog 196 = some (3, 199) := by kernel_rfl
theorem rG : zeroOf Tryz.prog 199 = some (.agg #[.int .i64 0, .bool false]) := by kernel_rfl
theorem oy : ∀ w M, (zM.ty (default : Way)).den w M (.agg #[.int .i64 0, .bool false]) := fun _ _ => ⟨_, rfl, rfl, rfl, trivial⟩
theorem BW : ∀ w M, ((Fi fy).ty []).den w M (.slice none 0 0) := fun w M => Ty.u9 w M _ rfl
section
variable {fl : List bz} {a : List Int} {s : Int} {q : List (Int × Way)} {w : Way}
theorem EV {q : WQ} {k : Nat} (h : nth a k < (nth fl k).hi) : gp q (nth fl k).src ((ew q (nth fl k).src).getD [] ++ [⟨k, true⟩]) = mm fl a q k := (if_pos h).symm
theorem EZ {k : Nat} (h : nth a k > (nth fl k).lo) : gp (mm fl a (ef fl a k) k) (nth fl k).dst ((ew (mm fl a (ef fl a k) k) (nth fl k).dst).getD [] ++ [⟨k, false⟩]) = ef fl a (k + 1) := (if_pos h).symm
theorem new_eq : (!(ew q (w.fin fl)).isSome && !decide (w.fin fl = s)) = uN fl s q w := rfl
end
theorem JV {α : Type} {E : El α} {T J : Nat} {l l' : List α} (e : l = l') : (Ty.iU E T J l).Sub (Ty.iU E T J l') := Ty.sub_eq (congrArg (Ty.iU E T J) e)
attribute [local irreducible] aO gk Way.gu Way.fin Way.room ef mm ER eI fA oK bO fB cR uN eG
attribute [local irreducible] iY fX nD qR jG jJ jI jK jF qu jD qw eJ gm qF gx ql nth fU dn af dy bodyPost Exit.then Exit.inBlock Code.wp Code.wpIn qh jH qi qX jC eT cZ cq bodyPostM eR
set_option maxRecDepth 100000 in
theorem Fq (y : bD) (fl : List bz) (a : List Int) (h : lK y fl a) : eT Tryz.prog 184 [1000] [(1000, Cont.vec cT 3 a)] [Ty.pp (eO y fl 1000 fl.length)] [(1000, Cont.vec cT 3 a)] (Ty.pm KI.enc (Fi fy) (ef fl a fl.length)) := by
 refine dc Tryz.func184 rfl (by decide) Tryz.ntmps184 (by exact Nat.le_of_ble_eq_true rfl) fun w0 M0 => ?_
 have hal := h.inb.1
 have hfl := h.ou
 refine aE (aA (mP rfl (aD (aC (aE (aA (Cx KI.enc fy 199 6000 nH rfl (M9 rfl (aD ?_)))))))))
 refine aC (aE (aE (aA (jo rfl (bq rfl ?_)))))
 refine aQ rfl rfl rfl rfl rfl (by decide) ?_
 refine aL rfl rfl rfl rfl (c9 rfl rfl rfl (bQ rfl (aD (aC (aq ?_)))))
 refine cj (fun (k : {k : Nat // k ≤ fl.length}) => live [(0, Ty.pp (eO y fl 1000 fl.length)), (3, Ty.mp 7), (10, Ty.sl eA fl), (11, Ty.int .i64 fl.length), (12, Ty.int .i64 (k.1 : Nat))] [(1000, Cont.vec cT 3 a), (7, Cont.mr KI.enc fy 199 6000 (ef fl a k.1))]) (fun k => fl.length - k.1) (⟨0, by omega⟩) ?_ fun k => ?_
 ·(refine dK.mk' ?_ ?_ <;> (repeat' (first | exact aJ | exact aI | refine aB ?_ (Ty.aW _) | refine aB ?_ (Ty.aF _) | refine aG rfl (Cont.aF _) ?_ | refine aG rfl ?_ ?_)))
  all_goals exact Cont.tQ (E8 fl a)
 have hk := k.2
 refine aE (aA (bE rfl rfl rfl (aD (aC (aE ?_)))))
 refine au rfl (fun hc1 => ?_) (fun hc1 => ?_)
 ·
  refine ak (aC (aE (aq (aE (aA (bQ rfl ?_))))))
  refine bT rfl rfl rfl rfl rfl rfl (by omega) ?_
  refine aZ rfl rfl rfl (by exact Nat.le_of_ble_eq_true rfl) ?_
  refine cH rfl (by exact List.cons_ne_nil _ _) rfl ?_
  refine cF rfl ?_
  refine cJ rfl rfl (by decide) rfl rfl rfl rfl rfl rfl ?_
  refine aD (aC ?_)
  refine lN (J := live [(0, Ty.pp (eO y fl 1000 fl.length)), (3, Ty.mp 7), (4, Ty.int .i64 (k.1 : Nat)), (5, Ty.ptr 6 0), (10, Ty.sl eA fl), (11, Ty.int .i64 fl.length), (12, Ty.int .i64 (k.1 : Nat))] [(1000, Cont.vec cT 3 a), (7, Cont.mr KI.enc fy 199 6000 (mm fl a (ef fl a k.1) k.1)), (6, Cont.cells 187 (eA.tys (nth fl k.1)))]) ?_ ?_
  ·
   refine aE (cW mixed rfl (jo rfl (bq rfl ?_)))
   refine aQ rfl rfl rfl rfl rfl (by decide) ?_
   refine aL rfl rfl rfl rfl (bQ rfl ?_)
   refine eK rfl rfl rfl rfl rfl (by omega) ?_
   refine e9 rfl rfl rfl (by decide) rfl rfl (by omega) rfl ?_
   refine aN rfl rfl rfl rfl rfl (by decide) ?_
   refine aX rfl rfl (by decide) rfl rfl rfl ?_
   refine bE rfl rfl rfl (aD ?_)
   refine ⟨by kernel_rfl, ?_⟩
   refine aC ?_
   refine au rfl (fun hc2 => ?_) (fun hc2 => ?_)
   ·
    have hq := fun c => yg (fl := fl) (a := a) (c := c) k.1
    have hq1 := hq (nth fl k.1).src
    refine cW mixed rfl (G0 rfl ?_)
    refine aN rfl rfl rfl rfl rfl (by decide) ?_
    refine aX rfl rfl (by decide) rfl rfl rfl ?_
    refine G0 rfl ?_
    refine aN rfl rfl rfl rfl rfl (by decide) ?_
    refine aX rfl rfl (by decide) rfl rfl rfl ?_
    refine yt KI rfl rfl (by decide) rfl (uM _) nH uY ?_
    refine bQ rfl ?_
    refine dS rfl rfl (by exact List.cons_ne_nil _ _) rfl (by repeat (first | exact (aY.nil : aY _ _ [] _) | (show aY _ _ ((_, _) :: _) _; apply aY.one; (· first | exact (rfl : _ = Ty.int _ _) | exact (rfl : _ = Ty.bool _)); (· exact rfl)))) (by exact (rfl : _ = some [_, _])) ?_
    refine bp (E := fy) (xs := [⟨k.1, true⟩]) rfl rfl rfl rfl rfl (by decide) (by decide) (by repeat (first | exact (aY.nil : aY _ _ [] _) | (show aY _ _ ((_, _) :: _) _; apply aY.agg; (· exact (rfl : _ = Ty.agg _))))) (by exact rfl) rfl ?_
    refine yf rfl rfl rfl (by decide) (by decide) rfl (by show 0 < 1; decide) rfl rfl rfl rfl rfl (by decide) (by show (((ew _ _).getD []).length + 1) * 16 ≤ _; unfold oA at hq1; omega) (by show ((ew _ _).getD []).length + 1 ≤ _; unfold oA at hq1; omega) ?_
    refine yp KI rfl rfl (by decide) rfl (uM _) rfl nH rfl ?_
    refine aD ?_
    refine ⟨by kernel_rfl, ?_⟩
    refine fT ?_
    (refine dK.mk' ?_ ?_ <;> (repeat' (first | exact aJ | exact aI | refine aB ?_ (Ty.aW _) | refine aB ?_ (Ty.aF _) | refine aG rfl (Cont.aF _) ?_ | refine aG rfl ?_ ?_)))
    all_goals exact Cont.tQ (EV hc2)
   refine ak (fT ?_)
   (refine dK.mk' ?_ ?_ <;> (repeat' (first | exact aJ | exact aI | refine aB ?_ (Ty.aW _) | refine aB ?_ (Ty.aF _) | refine aG rfl (Cont.aF _) ?_ | refine aG rfl ?_ ?_)))
   all_goals exact Cont.tQ (HG hc2)
  refine aE (cW mixed rfl (jo rfl (bq rfl ?_)))
  refine aQ rfl rfl rfl rfl rfl (by decide) ?_
  refine aL rfl rfl rfl rfl (bQ rfl ?_)
  refine eK rfl rfl rfl rfl rfl (by omega) ?_
  refine e9 rfl rfl rfl (by decide) rfl rfl (by omega) rfl ?_
  refine aN rfl rfl rfl rfl rfl (by decide) ?_
  refine aX rfl rfl (by decide) rfl rfl rfl ?_
  refine bE rfl rfl rfl (aD ?_)
  refine ⟨by kernel_rfl, ?_⟩
  refine aC ?_
  refine au rfl (fun hc3 => ?_) (fun hc3 => ?_)
  ·
   have hq2 := FY (fl := fl) (a := a) (c := (nth fl k.1).dst) (k := k.1)
   refine cW mixed rfl (G0 rfl ?_)
   refine aN rfl rfl rfl rfl rfl (by decide) ?_
   refine aX rfl rfl (by decide) rfl rfl rfl ?_
   refine G0 rfl ?_
   refine aN rfl rfl rfl rfl rfl (by decide) ?_
   refine aX rfl rfl (by decide) rfl rfl rfl ?_
   refine yt KI rfl rfl (by decide) rfl (uM _) nH uY ?_
   refine bQ rfl ?_
   refine dS rfl rfl (by exact List.cons_ne_nil _ _) rfl (by repeat (first | exact (aY.nil : aY _ _ [] _) | (show aY _ _ ((_, _) :: _) _; apply aY.one; (· first | exact (rfl : _ = Ty.int _ _) | exact (rfl : _ = Ty.bool _)); (· exact rfl)))) (by exact (rfl : _ = some [_, _])) ?_
   refine bp (E := fy) (xs := [⟨k.1, false⟩]) rfl rfl rfl rfl rfl (by decide) (by decide) (by repeat (first | exact (aY.nil : aY _ _ [] _) | (show aY _ _ ((_, _) :: _) _; apply aY.agg; (· exact (rfl : _ = Ty.agg _))))) (by exact rfl) rfl ?_
   refine yf rfl rfl rfl (by decide) (by decide) rfl (by show 0 < 1; decide) rfl rfl rfl rfl rfl (by decide) (by show (((ew _ _).getD []).length + 1) * 16 ≤ _; unfold oA at hq2; omega) (by show ((ew _ _).getD []).length + 1 ≤ _; unfold oA at hq2; omega) ?_
   refine yp KI rfl rfl (by decide) rfl (uM _) rfl nH rfl ?_
   refine aD ?_
   refine ⟨by kernel_rfl, ?_⟩
   refine bV (aC (aA ?_))
   refine b9 rfl rfl (by omega) (by omega) ?_
   refine bQ rfl (aD ?_)
   refine bZ (⟨k.1 + 1, by omega⟩) ?_ (by show fl.length - (k.1 + 1) < fl.length - k.1; omega)
   (refine dK.mk' ?_ ?_ <;> (repeat' (first | exact aJ | exact aI | refine aB ?_ (Ty.aW _) | refine aB ?_ (Ty.aF _) | refine aG rfl (Cont.aF _) ?_ | refine aG rfl ?_ ?_)))
   all_goals skip
   all_goals exact Cont.tQ (EZ hc3)
  refine ak (bV (aC (aA ?_)))
  refine b9 rfl rfl (by omega) (by omega) ?_
  refine bQ rfl (aD ?_)
  refine bZ (⟨k.1 + 1, by omega⟩) ?_ (by show fl.length - (k.1 + 1) < fl.length - k.1; omega)
  (refine dK.mk' ?_ ?_ <;> (repeat' (first | exact aJ | exact aI | refine aB ?_ (Ty.aW _) | refine aB ?_ (Ty.aF _) | refine aG rfl (Cont.aF _) ?_ | refine aG rfl ?_ ?_)))
  all_goals skip
  all_goals exact Cont.tQ (F8 hc3)
 refine cg (aR (aR (bA rfl (aC (aE ?_)))))
 refine gM (tg := 7) rfl (Cont.tQ (show ef fl a k.1 = ef fl a fl.length by rw [show k.1 = fl.length by have := k.2; omega])) ?_
 refine ni (tg := 6000) [] [(7, Cont.mp KI.enc (Fi fy) (ef fl a fl.length))] (by decide) rfl trivial ⟨JZ rfl rfl, trivial⟩ ?_
 refine kF (tg := 7) [(3, Ty.pm KI.enc (Fi fy) (ef fl a fl.length))] (by decide) rfl ⟨Lu rfl rfl (by decide), trivial⟩ ?_
 refine aA (KV rfl (Kl rfl (aD (aC (ay ?_)))))
 refine fZ [1000] rfl rfl (by decide) (by repeat (first | exact ej | refine dx rfl (cA (by decide) rfl) ?_)) ?_
 all_goals exact fK (aM rfl rfl)
set_option maxRecDepth 100000 in
theorem Ie (y : bD) (fl : List bz) (a : List Int) (h : lK y fl a) (s : Int) (hs : 0 ≤ s ∧ s < (y.cells + 1 : Nat)) : eT Tryz.prog 130 [1000] [(1000, Cont.vec cT 3 a)] [Ty.pp (eO y fl 1000 fl.length), Ty.int .i64 s] [(1000, Cont.vec cT 3 a), (16, Cont.mp KI.enc zM (cR fl a s))] (Ty.mp 16) := by
 refine dc Tryz.func130 rfl (by decide) Tryz.ntmps130 (by exact Nat.le_of_ble_eq_true rfl) fun w0 M0 => ?_
 have hal := h.inb.1
 have hN := h.net
 have hcl := mz h.right
 refine aE (aA (mP rfl (aD (aC (aE (aA (FR KI.enc zM nS rfl (M9 rfl (aD ?_)))))))))
 refine aC (aE (aA (jo rfl ?_)))
 refine bt [(1000, 1000)] [] [(1000, Cont.vec cT 3 a)] (Fq y fl a h) rfl rfl (aH bL (fD (aH (aH (aH (aH (aH (aH bL (eM (by exact List.mem_cons_self))) (aM rfl rfl)) (aM rfl rfl)) (aM rfl rfl)) (aM rfl rfl)) (aM rfl rfl)))) (b8 (a := 1000) (b := 1000) (by exact List.mem_cons_self) rfl (cA (by exact List.mem_cons_self) rfl) pre_nil) (bJ (a := 1000) (b := 1000) (by exact List.mem_cons_self) rfl (cA (by exact List.mem_cons_self) rfl) post_nil) (aM rfl rfl) ?_
 refine Kl rfl (aD (aC (aE (aA (bQ rfl ?_)))))
 refine Ba (E := cT) (xs := [s]) rfl rfl rfl rfl rfl (by decide) (by decide) (by repeat (first | exact (aY.nil : aY _ _ [] _) | (show aY _ _ ((_, _) :: _) _; apply aY.one; (· exact (rfl : _ = Ty.int _ _)); (· exact rfl)))) (by exact rfl) rfl rfl ?_
 refine Fb rfl (aD (aC (aE ?_)))
 refine Kg (s := 7) (J := 4100) (tg := 20) rfl rfl (by decide) (by decide) rfl ?_
 refine aq ?_
 refine cj (fun (x : {x : qQ // Ir fl a (y.cells + 1) s x}) => live [(0, Ty.pp (eO y fl 1000 fl.length)), (1, Ty.int .i64 s), (5, Ty.mp 16), (6, Ty.pm KI.enc (Fi fy) (ef fl a fl.length)), (7, Ty.iU cT 3 4100 x.1.queue)] [(1000, Cont.vec cT 3 a), (16, Cont.mp KI.enc zM x.1.by_)]) (fun x => Kh (y.cells + 1) x.1) (⟨⟨[], [s]⟩, NK hs⟩) ?_ fun x => ?_
 ·(refine dK.mk' ?_ ?_ <;> (repeat' (first | exact aJ | exact aI | refine aB ?_ (Ty.aW _) | refine aB ?_ (Ty.aF _) | refine aG rfl (Cont.aF _) ?_)))
 refine aE (aE (aA ?_))
 refine eE (rfl : _ = Ty.iU _ _ _ _) ?_
 refine Lc rfl rfl rfl (bE rfl rfl rfl (aD (aC ?_)))
 refine au rfl (fun hc1 => ?_) (fun hc1 => ?_)
 ·
  refine ak (aC (aq (aE ?_)))
  have hlen : 0 < x.1.queue.length := by omega
  refine aA ?_
  refine eE (rfl : _ = Ty.iU _ _ _ _) ?_
  refine G6 (i := 0) rfl rfl rfl rfl rfl rfl hlen ?_
  refine yM rfl rfl rfl rfl (cF rfl (aD (aC (aE (aA ?_)))))
  refine eE (rfl : _ = Ty.iU _ _ _ _) ?_
  refine Lr (lo := 1) rfl rfl rfl rfl rfl rfl hlen hlen ?_
  refine fQ (rfl : _ = Ty.iU _ _ _ _) ?_
  refine aD (aC (aE ?_))
  refine fW (s := 8) rfl (Ty.ah (show nth x.1.queue 0 = eG x.1 by unfold eG; rfl)) ?_
  refine aA (KV rfl (bQ rfl ?_))
  refine xg KI (z0 := []) rfl rfl (uM _) nH uY BW ?_
  refine c9 (E := fy) (xs := oA (ef fl a fl.length) (eG x.1)) rfl rfl rfl ?_
  refine bQ rfl (aD (aC ?_))
  refine fW (s := 30) rfl (show (Ty.sl fy (oA (ef fl a fl.length) (eG x.1))).Sub (Ty.sl fy (bO fl a (eG x.1))) from Ty.fY rX) ?_
  refine fW (s := 31) rfl (Ty.ah (congrArg (fun l : List Way => ((l.length : Nat) : Int)) (rX (c := eG x.1)))) ?_
  refine aq ?_
  refine cj (fun (j : {j : Nat // j ≤ (bO fl a (eG x.1)).length}) => live [(0, Ty.pp (eO y fl 1000 fl.length)), (1, Ty.int .i64 s), (5, Ty.mp 16), (6, Ty.pm KI.enc (Fi fy) (ef fl a fl.length)), (7, Ty.iU cT 3 4100 (fB fl a s (eG x.1) (jt x.1) j.1).queue), (8, Ty.int .i64 (eG x.1)), (30, Ty.sl fy (bO fl a (eG x.1))), (31, Ty.int .i64 (bO fl a (eG x.1)).length), (32, Ty.int .i64 (j.1 : Nat))] [(1000, Cont.vec cT 3 a), (16, Cont.mp KI.enc zM (fB fl a s (eG x.1) (jt x.1) j.1).by_)]) (fun j => (bO fl a (eG x.1)).length - j.1) (⟨0, by omega⟩) ?_ fun j => ?_
  ·(refine dK.mk' ?_ ?_ <;> (repeat' (first | exact aJ | exact aI | refine aB ?_ (Ty.aW _) | refine aB ?_ (Ty.aF _) | refine aG rfl (Cont.aF _) ?_ | refine aG rfl ?_ ?_ | refine aB ?_ ?_)))
   all_goals first | exact JV (congrArg qQ.queue (wG (fl := fl) (a := a) (s := s) (c := eG x.1) (z := jt x.1)).symm) | exact Cont.vN (show x.1.by_ = (fB fl a s (eG x.1) (jt x.1) 0).by_ by rw [wG]; rfl)
  have hj := j.2
  have hwl := oP (fl := fl) (a := a) (c := eG x.1)
  have hfl := h.ou
  have hff := x.2.fold hN hlen hj
  refine aE (aA (bE rfl rfl rfl (aD (aC (aE ?_)))))
  refine au rfl (fun hc2 => ?_) (fun hc2 => ?_)
  ·
   refine ak (aC (aE (aq (aE (aA ?_)))))
   refine bT rfl rfl rfl rfl rfl rfl (by omega) ?_
   refine aZ rfl rfl rfl (by exact Nat.le_of_ble_eq_true rfl) ?_
   refine cH rfl (by exact List.cons_ne_nil _ _) rfl ?_
   refine cJ rfl rfl (by decide) rfl rfl rfl rfl rfl rfl ?_
   refine aD (aC (aE ?_))
   have hwj := (nA.1 (dD (xs := bO fl a (eG x.1)) (k := j.1) (by omega))).1
   refine aA (jo rfl ?_)
   refine bU rfl rfl (by decide) rfl rfl (by exact Nat.le_of_ble_eq_true rfl) ?_
   refine dW [1000] (Dr y fl a h (nth (bO fl a (eG x.1)) j.1) hwj.1) rfl (aK (kQ (aK (aa (bH rfl rfl)) (aK (aa (bH rfl rfl)) (aK (aa (bH rfl rfl)) (aK (aa (bH rfl rfl)) (aK (aa (bH rfl rfl)) (aK (gY rfl hal (by decide) rfl) bW))))))) (aK (aa (bH rfl rfl)) bW)) (by exact j4 (by repeat (first | exact j3 | refine iB (by exact dF _ _) ?_))) ?_
   refine p8 rfl (bM rfl rfl (bM rfl rfl (cF rfl (cF rfl (aD (aC (aE (aA (G0 rfl ?_)))))))))
   refine bQ rfl ?_
   refine yE KI (k := (nth (bO fl a (eG x.1)) j.1).fin fl) (z0 := (default : Way)) rfl rfl (by decide) rfl (uM _) nS rG oy ?_
   refine p8 rfl (bM rfl rfl (bM rfl rfl ?_))
   refine cH rfl (by exact List.cons_ne_nil _ _) rfl ?_
   refine cJ rfl rfl (by decide) rfl rfl rfl rfl rfl rfl ?_
   refine dX rfl (aD (aC (aE (aA (gR rfl (dm rfl (gR rfl ?_)))))))
   apply aS (s := 50) rfl rfl rfl
   ·intro hg; apply aU; (refine bQ rfl ?_); refine aD ?_; exact rfl
   ·exact rfl
   ·exact rfl
   apply aS (s := 50) rfl rfl rfl
   ·intro hg; apply aU; (refine bQ rfl ?_); refine aD ?_; exact rfl
   ·exact rfl
   ·exact rfl
   apply aS (s := 50) rfl rfl rfl
   ·intro hg; apply aP (s := 51) rfl (by (rw [hg]; rfl)); apply aP (s := 52) rfl (by (rw [hg]; rfl)); apply aU; (refine bE rfl rfl rfl ?_); refine aD ?_; exact rfl
   ·exact rfl
   ·exact rfl
   refine eo rfl rfl (aD (aC ?_))
   refine cv rfl (fun hc3 => ?_) (fun hc3 => ?_)
   ·
    refine aE (aA (G0 rfl (bQ rfl ?_)))
    refine bU rfl rfl (by decide) rfl rfl (by exact Nat.le_of_ble_eq_true rfl) ?_
    refine Au KI (k := (nth (bO fl a (eG x.1)) j.1).fin fl) (v := nth (bO fl a (eG x.1)) j.1) rfl rfl (by decide) rfl (uM _) rfl rfl nS ?_
    refine aD (aC (aA ?_))
    refine eE (rfl : _ = Ty.iU _ _ _ _) ?_
    refine bQ rfl ?_
    refine bp (E := cT) (xs := [_]) rfl rfl rfl rfl rfl (by decide) (by decide) (by repeat (first | exact (aY.nil : aY _ _ [] _) | (show aY _ _ ((_, _) :: _) _; apply aY.one; (· exact (rfl : _ = Ty.int _ _)); (· exact rfl)))) (by exact rfl) rfl ?_
    refine Ec rfl rfl (by decide) rfl (by show 0 < 1; decide) rfl rfl rfl rfl rfl (by decide) (by show (_ + 1) * 8 ≤ _; omega) (by show _ + 1 ≤ _; omega) ?_
    refine fQ (rfl : _ = Ty.iU _ _ _ _) ?_
    refine aD (bV (aC (aA ?_)))
    refine b9 rfl rfl (by omega) (by omega) ?_
    refine bQ rfl (aD ?_)
    refine bZ (⟨j.1 + 1, by omega⟩) ?_ (by show (bO fl a (eG x.1)).length - (j.1 + 1) < (bO fl a (eG x.1)).length - j.1; omega)
    (refine dK.mk' ?_ ?_ <;> (repeat' (first | exact aJ | exact aI | refine aB ?_ (Ty.aW _) | refine aB ?_ (Ty.aF _) | refine aG rfl (Cont.aF _) ?_ | refine aG rfl ?_ ?_ | refine aB ?_ ?_)))
    all_goals skip
    all_goals first | exact JV (yC (by omega) (by rw [← new_eq]; exact hc3)).2 | exact Cont.vN (yC (by omega) (by rw [← new_eq]; exact hc3)).1
   refine ak (bV (aC (aA ?_)))
   refine b9 rfl rfl (by omega) (by omega) ?_
   refine bQ rfl (aD ?_)
   refine bZ (⟨j.1 + 1, by omega⟩) ?_ (by show (bO fl a (eG x.1)).length - (j.1 + 1) < (bO fl a (eG x.1)).length - j.1; omega)
   (refine dK.mk' ?_ ?_ <;> (repeat' (first | exact aJ | exact aI | refine aB ?_ (Ty.aW _) | refine aB ?_ (Ty.aF _) | refine aG rfl (Cont.aF _) ?_ | refine aG rfl ?_ ?_ | refine aB ?_ ?_)))
   all_goals skip
   all_goals first | exact JV (Bx (by omega) (by rw [← new_eq]; exact hc3)).2 | exact Cont.vN (Bx (by omega) (by rw [← new_eq]; exact hc3)).1
  refine cg (aR (aR (bA rfl (bV ?_))))
  refine bZ (⟨fB fl a s (eG x.1) (jt x.1) (bO fl a (eG x.1)).length, (x.2.next hN hlen).1⟩) ?_ (by exact (x.2.next hN hlen).2)
  (refine dK.mk' ?_ ?_ <;> (repeat' (first | exact aJ | exact aI | refine aB ?_ (Ty.aW _) | refine aB ?_ (Ty.aF _) | refine aG rfl (Cont.aF _) ?_ | refine aG rfl ?_ ?_ | refine aB ?_ ?_)))
  all_goals skip
  all_goals first | exact JV (congrArg (fun n => (fB fl a s (eG x.1) (jt x.1) n).queue) (show j.1 = _ by have := j.2; omega)) | exact Cont.vN (congrArg (fun n => (fB fl a s (eG x.1) (jt x.1) n).by_) (show j.1 = _ by have := j.2; omega))
 refine cg (aR (aR (bA rfl (aC (aE ?_)))))
 refine gM (tg := 16) rfl (Cont.vN (x.2.end (by omega))) ?_
 refine aA (G0 rfl (M9 rfl (aD (aC (ay ?_)))))
 refine fZ [1000, 16] rfl rfl (by decide) (by repeat (first | exact ej | refine dx rfl (cA (by decide) rfl) ?_ | refine dx rfl (KG (by decide) rfl) ?_)) ?_
 all_goals skip
 all_goals exact fK (KL (by decide))
end Go.Proofs.YtelbollidfdcjaaGreat
namespace Go.Proofs.YtelbollidfdcjaaGreat
open Go Go.T
section
variable {fl : List bz} {a : List Int} {n : Nat} {q : List (Int × Way)}
theorem Cc {n k : Nat} (h : k ≤ n) : (List.range n).take k = List.range k := by
 rw [List.take_range, Nat.min_eq_left h]
theorem Is {j : Nat} (hj : j < n) (h : ∀ i, i < j → jW fl a q i = false) (hc : jW fl a q j = true) : (j : Int) = eY fl a n q := by
 unfold eY
 refine (gr (by rw [List.length_range]; exact hj) (fun x hx => ?_) ?_).symm
 ·rw [Cc (by omega)] at hx
  exact h x (List.mem_range.1 hx)
 rw [List.getElem_range]; exact hc
theorem Gq {j : Nat} (hj : n ≤ j) (h : ∀ i, i < j → jW fl a q i = false) : -1 = eY fl a n q := by
 unfold eY
 refine (iP fun x hx => ?_).symm
 exact h x (by have := List.mem_range.1 hx; omega)
theorem B1 {j : Nat} (hj : j < n) : ((ew q (j : Int)).isSome && decide (nth (gU fl a n) j < 0)) = jW fl a q j := by
 unfold jW; rw [tG hj]
theorem GV (hl : fl.length ≤ 34) (ha : ∀ i, i < fl.length → 0 ≤ nth a i ∧ nth a i ≤ 300) (c : Int) : -10200 ≤ over fl a c ∧ over fl a c ≤ 10200 := by
 have h := ym (fl := fl) (a := a) (c := c) (k := fl.length) ha
 have e : oK fl a fl.length c = over fl a c := rfl
 rw [e] at h; omega
theorem vU (m : Int) (fl : List bz) (a : List Int) : m = fE fl a m [] := rfl
theorem Ho {s t : Int} {l : List Way} (e : l = gy fl (cR fl a s) s t) : eI a l (fE fl a (min (over fl a s) (-over fl a t)) l) = kO fl a s t := by subst e; rfl
end
end Go.Proofs.YtelbollidfdcjaaGreat
namespace Go.Proofs.YtelbollidfdcjaaGreat
open Go Go.T
set_option maxHeartbeats 16000000
structure Hz (y : bD) (fl : List bz) (a : List Int) : Prop where
  right : y.cm
  net : Net fl (y.cells + 1)
  bd : Bd fl
  inb : g8 fl = true → xD fl a
  ou : fl.length ≤ 34
section
variable {y : bD} {fl : List bz} {a : List Int} {n : Nat}
theorem zZ (h : (!fl.all fun f => decide (f.lo ≤ f.hi)) = true) : g8 fl = false := n5 h
theorem nk (h : (!fl.all fun f => decide (f.lo ≤ f.hi)) = false) : g8 fl = true := fV h
theorem Lq (h : g8 fl = false) : 0 = (cY fl n a).1 ∧ true = (cY fl n a).2.1 ∧ a = (cY fl n a).2.2 := by rw [yH h]; exact ⟨rfl, rfl, rfl⟩
theorem Ld {b : List Int} (h : g8 fl = true) (hx : GR fl n a b) (e : dh fl b n < 0) : 0 = (cY fl n a).1 ∧ false = (cY fl n a).2.1 ∧ b = (cY fl n a).2.2 := by rw [nh h, hx.done e]; exact ⟨rfl, rfl, rfl⟩
theorem LA {b : List Int} (h : g8 fl = true) (hx : GR fl n a b) (e : ¬ dh fl b n < 0) (e2 : eY fl b n (cR fl b (dh fl b n)) < 0) : dh fl b n = (cY fl n a).1 ∧ true = (cY fl n a).2.1 ∧ b = (cY fl n a).2.2 := by rw [nh h, hx.stuck e e2]; exact ⟨rfl, rfl, rfl⟩
theorem NQ (h : xD fl a) : GR fl n a a := ⟨h, rfl⟩
theorem Jm {x z : Int} (h1 : 0 < x) (h2 : z < 0) : 0 < min x (-z) := by omega
theorem has_eq : fidx (fun v : Int => decide (v > 0)) (gU fl a n) = dh fl a n := rfl
theorem IJ (m x : Int) : gA m [x] = min m x := rfl
theorem wU {m : Int} {l : List Way} {w : Way} : gA (fE fl a m l) [w.room fl a] = fE fl a m (l ++ [w]) := (IJ _ _).trans (qt m l).symm
theorem EF {k : Int} (h : 0 ≤ k ∧ k < n) : nth (gU fl a n) k.toNat = over fl a k := by rw [tG (by omega)]; congr 1; omega
theorem IB {x : Int} (h : -20000 ≤ x ∧ x ≤ 20000) : IntKind.i64.wrap (0 - x) = -x := by rw [show (0 : Int) - x = -x by omega]; exact IntWalk.i64_in _ (by omega)
end
attribute [local irreducible] aO gk Way.gu Way.fin Way.room ef eI fA gU over bO cR dh eY jW fE gy kO cY gP gA
attribute [local irreducible] iY fX nD qR jG jJ jI jK jF qu jD qw eJ gm qF gx ql nth fU dn af dy bodyPost Exit.then Exit.inBlock Code.wp Code.wpIn qh jH qi qX jC eT cZ cq bodyPostM eR
set_option maxRecDepth 100000 in
theorem IL (f : bz) : dy Tryz.prog 177 [Ty.agg (eA.tys f)] (Ty.bool (decide (f.lo ≤ f.hi))) := by
 refine av Tryz.func177 rfl (by decide) Tryz.ntmps177 (by exact Nat.le_of_ble_eq_true rfl) fun w0 M0 => ?_
 refine aE (aA (bR rfl (dX rfl (aD (aC (aE (aA ?_)))))))
 refine aQ rfl rfl rfl rfl rfl (by decide) ?_
 refine aL rfl rfl rfl rfl ?_
 refine aQ rfl rfl rfl rfl rfl (by decide) ?_
 refine aL rfl rfl rfl rfl (bE rfl rfl rfl (dX rfl (aD (aC (ay (bh rfl rfl ?_))))))
 all_goals exact cM rfl rfl
set_option maxRecDepth 100000 in
theorem HF (v : Int) : dy Tryz.prog 179 [Ty.int .i64 v] (Ty.bool (decide (v > 0))) := by
 refine av Tryz.func179 rfl (by decide) Tryz.ntmps179 (by exact Nat.le_of_ble_eq_true rfl) fun w0 M0 => ?_
 refine aE (aA (dX rfl (aD (aC (aE (aA (bQ rfl (bE rfl rfl rfl (dX rfl ?_)))))))))
 refine aD (aC (ay (bh rfl rfl ?_)))
 all_goals exact cM rfl rfl
set_option maxRecDepth 100000 in
theorem Im (y : bD) (fl : List bz) (a : List Int) (h : Hz y fl a) : eT Tryz.prog 129 [1000] [(1000, Cont.vec cT 3 a)] [Ty.pp (eO y fl 1000 fl.length)] [(1000, Cont.vec cT 3 (cY fl (y.cells + 1) a).2.2)] (Ty.jq [Ty.int .i64 (cY fl (y.cells + 1) a).1, Ty.bool (cY fl (y.cells + 1) a).2.1]) := by
 refine dc Tryz.func129 rfl (by decide) Tryz.ntmps129 (by exact Nat.le_of_ble_eq_true rfl) fun w0 M0 => ?_
 have hcl := mz h.right
 have hfl := h.ou
 have hN := h.net
 refine aE (aA (cF rfl (dX rfl (aD (aC (aE (aE (aA (jo rfl ?_)))))))))
 refine bq rfl ?_
 refine aQ rfl rfl rfl rfl rfl (by decide) ?_
 refine aL rfl rfl rfl rfl ?_
 refine aj (BR fl (Ty.jX _ []) rfl (fun f => decide (f.lo ≤ f.hi)) rfl rfl fun f _ => dU (IL f) rfl rfl rfl rfl rfl rfl) rfl rfl rfl rfl rfl ?_
 refine dm rfl (aD (aC ?_))
 refine cv rfl (fun hc1 => ?_) (fun hc1 => ?_)
 ·
  refine aE (aA (cF rfl (dX rfl (aD (aC (ay (aV ?_)))))))
  refine zC [1000] rfl rfl rfl (by decide) ?_ ?_ ?_
  ·exact dx rfl (cA (by decide) (Lq (zZ hc1)).2.2) ej
  all_goals skip
  all_goals first | exact fK (n4 rfl rfl (congrArg (Ty.int .i64) (Lq (zZ hc1)).1)) | exact fK (n4 rfl rfl (congrArg Ty.bool (Lq (zZ hc1)).2.1))
 refine ak (aC (aq ?_))
 refine cj (fun (x : {b : List Int // GR fl (y.cells + 1) a b}) => live [(0, Ty.pp (eO y fl 1000 fl.length))] [(1000, Cont.vec cT 3 x.1)]) (fun x => MX fl (y.cells + 1) x.1) (⟨a, NQ (h.inb (nk hc1))⟩) ?_ fun x => ?_
 ·(refine dK.mk' ?_ ?_ <;> (repeat' (first | exact aJ | exact aI | refine aB ?_ (Ty.aW _) | refine aB ?_ (Ty.aF _) | refine aG rfl (Cont.aF _) ?_)))
 have hF : lK y fl x.1 := ⟨h.right, h.net, h.bd, x.2.inb, h.ou⟩
 have hal := hF.inb.1
 have hov := GV h.ou fun i hi => (hF.LG hi).1
 have hol : (gU fl x.1 (y.cells + 1)).length = (y.cells + 1) := xO
 refine aq (aE (aA (jo rfl ?_)))
 refine bt [(1000, 1000)] [] [(1000, Cont.vec cT 3 x.1)] (K3 y fl x.1 hF) rfl rfl (aH bL (fD (aH (aH (aH (aH (aH (aH bL (eM (by exact List.mem_cons_self))) (aM rfl rfl)) (aM rfl rfl)) (aM rfl rfl)) (aM rfl rfl)) (aM rfl rfl)))) (b8 (a := 1000) (b := 1000) (by exact List.mem_cons_self) rfl (cA (by exact List.mem_cons_self) rfl) pre_nil) (bJ (a := 1000) (b := 1000) (by decide) rfl (cA (by decide) rfl) post_nil) (aM rfl rfl) ?_
 refine DE rfl (aD (aC (aE (aA (gB rfl ?_)))))
 refine aj (nx (gU fl x.1 (y.cells + 1)) (Ty.jX _ []) rfl (fun v => decide (v > 0)) rfl rfl fun v _ => dU (HF v) rfl rfl rfl rfl rfl rfl) rfl rfl rfl rfl rfl ?_
 refine cF rfl (aD (aC (aE (aE ?_))))
 refine fW (s := 5) rfl (Ty.ah (has_eq (fl := fl) (a := x.1) (n := (y.cells + 1)))) ?_
 refine aA (bQ rfl (bE rfl rfl rfl (aD (aC ?_))))
 refine au rfl (fun hc2 => ?_) (fun hc2 => ?_)
 ·
  refine aE (aA (cF rfl (dX rfl (aD (aC (ay (aV (bG (aV ?_)))))))))
  refine bG ?_
  refine zC [1000] rfl rfl rfl (by decide) ?_ ?_ ?_
  ·exact dx rfl (cA (by decide) (Ld (nk hc1) x.2 hc2).2.2) ej
  all_goals skip
  all_goals first | exact fK (n4 rfl rfl (congrArg (Ty.int .i64) (Ld (nk hc1) x.2 hc2).1)) | exact fK (n4 rfl rfl (congrArg Ty.bool (Ld (nk hc1) x.2 hc2).2.1))
 refine ak (aC (aE ?_))
 obtain ⟨s, s1, s2, s3⟩ := ve hc2
 have hs : 0 ≤ (dh fl x.1 (y.cells + 1)) ∧ (dh fl x.1 (y.cells + 1)) < ((y.cells + 1) : Nat) := by omega
 refine aA (jo rfl (bQ rfl ?_))
 refine bt (res' := Ty.mp 32) [(1000, 1000), (32, 16)] [32] [(1000, Cont.vec cT 3 x.1), (32, Cont.mp KI.enc zM (cR fl x.1 (dh fl x.1 (y.cells + 1))))] (Ie y fl x.1 hF (dh fl x.1 (y.cells + 1)) hs) rfl rfl (aH (aH bL (aM rfl rfl)) (fD (aH (aH (aH (aH (aH (aH bL (eM (by exact List.mem_cons_self))) (aM rfl rfl)) (aM rfl rfl)) (aM rfl rfl)) (aM rfl rfl)) (aM rfl rfl)))) (b8 (a := 1000) (b := 1000) (by exact List.mem_cons_self) rfl (cA (by exact List.mem_cons_self) rfl) pre_nil) (bJ (a := 1000) (b := 1000) (by decide) rfl (cA (by decide) rfl) (bJ (a := 32) (b := 16) (by decide) rfl (KG (by decide) rfl) post_nil)) (KL (by decide)) ?_
 refine M9 rfl (aD (aC (aE (aA (cF rfl (aD (aC ?_)))))))
 refine lN (J := live [(0, Ty.pp (eO y fl 1000 fl.length)), (4, Ty.sl cT (gU fl x.1 (y.cells + 1))), (5, Ty.int .i64 (dh fl x.1 (y.cells + 1))), (6, Ty.mp 32), (7, Ty.int .i64 (eY fl x.1 (y.cells + 1) (cR fl x.1 (dh fl x.1 (y.cells + 1)))))] [(1000, Cont.vec cT 3 x.1), (32, Cont.mp KI.enc zM (cR fl x.1 (dh fl x.1 (y.cells + 1))))]) ?_ ?_
 ·
  refine aE (aA (gB rfl (c9 rfl rfl rfl (bQ rfl (aD (aC (aq ?_)))))))
  refine cj (fun (j : {j : Nat // j ≤ (y.cells + 1) ∧ ∀ i, i < j → jW fl x.1 (cR fl x.1 (dh fl x.1 (y.cells + 1))) i = false}) => live [(0, Ty.pp (eO y fl 1000 fl.length)), (4, Ty.sl cT (gU fl x.1 (y.cells + 1))), (5, Ty.int .i64 (dh fl x.1 (y.cells + 1))), (6, Ty.mp 32), (7, Ty.int .i64 (-1)), (32, Ty.sl cT (gU fl x.1 (y.cells + 1))), (33, Ty.int .i64 (gU fl x.1 (y.cells + 1)).length), (34, Ty.int .i64 (j.1 : Nat))] [(1000, Cont.vec cT 3 x.1), (32, Cont.mp KI.enc zM (cR fl x.1 (dh fl x.1 (y.cells + 1))))]) (fun j => (y.cells + 1) - j.1) (⟨0, Nat.zero_le _, fun i hi => absurd hi (Nat.not_lt_zero i)⟩) ?_ fun j => ?_
  ·(refine dK.mk' ?_ ?_ <;> (repeat' (first | exact aJ | exact aI | refine aB ?_ (Ty.aW _) | refine aB ?_ (Ty.aF _) | refine aG rfl (Cont.aF _) ?_)))
  have hj := j.2.1
  refine aE (aA (bE rfl rfl rfl (aD (aC (aE ?_)))))
  refine au rfl (fun hc3 => ?_) (fun hc3 => ?_)
  ·
   refine ak (aC (aE (aq (aE (aA (bQ rfl ?_))))))
   refine bT rfl rfl rfl rfl rfl rfl (by omega) ?_
   refine aL rfl rfl rfl rfl (cF rfl (cF rfl (aD (aC (aE (aA (G0 rfl (bQ rfl ?_))))))))
   refine yE KI (k := ((j.1 : Nat) : Int)) (z0 := (default : Way)) rfl rfl (by decide) rfl (uM _) nS rG oy ?_
   refine p8 rfl (bM rfl rfl (bM rfl rfl ?_))
   refine cH rfl (by exact List.cons_ne_nil _ _) rfl ?_
   refine cJ rfl rfl (by decide) rfl rfl rfl rfl rfl rfl ?_
   refine dX rfl (aD (aC (aE (aA (gR rfl (gR rfl ?_))))))
   apply aS (s := 46) rfl rfl rfl
   ·intro hg; apply aU; (refine bQ rfl ?_); refine aD ?_; exact rfl
   ·exact rfl
   ·exact rfl
   apply aS (s := 46) rfl rfl rfl
   ·intro hg; apply aP (s := 47) rfl (by (rw [hg]; rfl)); apply aU; (refine bE rfl rfl rfl ?_); refine aD ?_; exact rfl
   ·exact rfl
   ·exact rfl
   refine eo rfl rfl (aD (aC ?_))
   refine cv rfl (fun hc4 => ?_) (fun hc4 => ?_)
   ·
    refine aE (aA (bQ rfl (cF rfl (aD (aC (cg (gJ rfl (aR (aR ?_)))))))))
    refine bA rfl (fT ?_)
    (refine dK.mk' ?_ ?_ <;> (repeat' (first | exact aJ | exact aI | refine aB ?_ (Ty.aW _) | refine aB ?_ (Ty.aF _) | refine aG rfl (Cont.aF _) ?_ | refine aB ?_ ?_)))
    all_goals exact Ty.ah (Is (by omega) j.2.2 (by rw [← B1 (n := (y.cells + 1)) (by omega)]; exact hc4))
   refine ak (bV (aC (aA ?_)))
   refine b9 rfl rfl (by omega) (by omega) ?_
   refine bQ rfl (aD ?_)
   refine bZ (⟨j.1 + 1, by omega, fun i hi => by by_cases e : i = j.1; (subst e; rw [← B1 (n := (y.cells + 1)) (by omega)]; exact hc4); exact j.2.2 i (by omega)⟩) ?_ (by show (y.cells + 1) - (j.1 + 1) < (y.cells + 1) - j.1; omega)
   (refine dK.mk' ?_ ?_ <;> (repeat' (first | exact aJ | exact aI | refine aB ?_ (Ty.aW _) | refine aB ?_ (Ty.aF _) | refine aG rfl (Cont.aF _) ?_)))
   all_goals skip
  refine cg (aR (aR (bA rfl (fT ?_))))
  (refine dK.mk' ?_ ?_ <;> (repeat' (first | exact aJ | exact aI | refine aB ?_ (Ty.aW _) | refine aB ?_ (Ty.aF _) | refine aG rfl (Cont.aF _) ?_ | refine aB ?_ ?_)))
  all_goals exact Ty.ah (Gq (by omega) j.2.2)
 refine aE (aE (aA (bQ rfl (bE rfl rfl rfl (aD (aC ?_))))))
 refine au rfl (fun hc5 => ?_) (fun hc5 => ?_)
 ·
  refine aE (aA (bQ rfl (cF rfl (dX rfl (aD (aC (ay (aV (bG ?_)))))))))
  refine aV (bG ?_)
  refine zC [1000] rfl rfl rfl (by decide) ?_ ?_ ?_
  ·exact dx rfl (cA (by decide) (LA (nk hc1) x.2 hc2 hc5).2.2) ej
  all_goals skip
  all_goals first | exact fK (n4 rfl rfl (congrArg (Ty.int .i64) (LA (nk hc1) x.2 hc2 hc5).1)) | exact fK (n4 rfl rfl (congrArg Ty.bool (LA (nk hc1) x.2 hc2 hc5).2.1))
 refine ak (aC (aE ?_))
 obtain ⟨t, t1, t2, t3, t4⟩ := sy hc5
 have hnx := x.2.next hN hc2 hc5
 have hR := qq (a := x.1) hN hs
 obtain ⟨dep, d0, hd⟩ := hR.arc
 have hmet : w6 (cR fl x.1 (dh fl x.1 (y.cells + 1))) (dh fl x.1 (y.cells + 1)) (eY fl x.1 (y.cells + 1) (cR fl x.1 (dh fl x.1 (y.cells + 1)))) := by rw [t2]; obtain ⟨v, hv⟩ := Option.isSome_iff_exists.1 t3; exact .inr (mL hv)
 have ht : 0 ≤ (eY fl x.1 (y.cells + 1) (cR fl x.1 (dh fl x.1 (y.cells + 1)))) ∧ (eY fl x.1 (y.cells + 1) (cR fl x.1 (dh fl x.1 (y.cells + 1)))) < ((y.cells + 1) : Nat) := by omega
 have ho1 := hov (dh fl x.1 (y.cells + 1))
 have ho2 := hov (eY fl x.1 (y.cells + 1) (cR fl x.1 (dh fl x.1 (y.cells + 1))))
 have hdq : dep (eY fl x.1 (y.cells + 1) (cR fl x.1 (dh fl x.1 (y.cells + 1)))) ≤ 21 := by
  obtain ⟨v, hv⟩ := Option.isSome_iff_exists.1 t3
  have h1 := (hd _ _ hv).2.2.2.2
  have h2 := hR.ou
  rw [t2]; omega
 refine aA (mP rfl (aD (aC (aE ?_))))
 have hoa := EF (fl := fl) (a := x.1) (n := (y.cells + 1)) hs
 have hob := EF (fl := fl) (a := x.1) (n := (y.cells + 1)) ht
 refine cW mixed rfl (gB rfl (bQ rfl ?_))
 refine lS rfl rfl rfl rfl rfl rfl (by omega) (by omega) ?_
 refine aL rfl rfl rfl rfl (gB rfl (bQ rfl ?_))
 refine lS rfl rfl rfl rfl rfl rfl (by omega) (by omega) ?_
 refine aL rfl rfl rfl rfl (Ml rfl ?_)
 refine bp (E := cT) (xs := [_]) rfl rfl rfl rfl rfl (by decide) (by decide) (by repeat (first | exact (aY.nil : aY _ _ [] _) | (show aY _ _ ((_, _) :: _) _; apply aY.one; (· exact (rfl : _ = Ty.int _ _)); (· exact rfl)))) (by exact rfl) rfl ?_
 refine aj (rU _ _) rfl rfl rfl rfl rfl (cF rfl (aD ?_))
 refine ⟨by kernel_rfl, ?_⟩
 refine aC (aE (aE ?_))
 refine fW (s := 13) rfl (Ty.ah (by rw [hoa, hob, IB (by omega), IJ] : _ = (min (over fl x.1 (dh fl x.1 (y.cells + 1))) (-over fl x.1 (eY fl x.1 (y.cells + 1) (cR fl x.1 (dh fl x.1 (y.cells + 1)))))))) ?_
 refine aA (bQ rfl (cF rfl (aD (aC (aq ?_)))))
 refine cj (fun (p : {p : Int × List Way // Jj fl x.1 (cR fl x.1 (dh fl x.1 (y.cells + 1))) (dh fl x.1 (y.cells + 1)) (eY fl x.1 (y.cells + 1) (cR fl x.1 (dh fl x.1 (y.cells + 1)))) dep p}) => live [(0, Ty.pp (eO y fl 1000 fl.length)), (5, Ty.int .i64 (dh fl x.1 (y.cells + 1))), (6, Ty.mp 32), (12, Ty.row fy 199 81 p.1.2), (13, Ty.int .i64 (fE fl x.1 (min (over fl x.1 (dh fl x.1 (y.cells + 1))) (-over fl x.1 (eY fl x.1 (y.cells + 1) (cR fl x.1 (dh fl x.1 (y.cells + 1)))))) p.1.2)), (14, Ty.int .i64 p.1.1)] [(1000, Cont.vec cT 3 x.1), (32, Cont.mp KI.enc zM (cR fl x.1 (dh fl x.1 (y.cells + 1))))]) (fun p => dep p.1.1) (⟨((eY fl x.1 (y.cells + 1) (cR fl x.1 (dh fl x.1 (y.cells + 1)))), []), NY hmet⟩) ?_ fun p => ?_
 ·(refine dK.mk' ?_ ?_ <;> (repeat' (first | exact aJ | exact aI | refine aB ?_ (Ty.aW _) | refine aB ?_ (Ty.aF _) | refine aB ?_ Ty.l8 | refine aG rfl (Cont.aF _) ?_ | refine aB ?_ ?_)))
  all_goals exact Ty.ah (vU _ _ _)
 have hpf := p.2.ou
 refine aE (aE (aA (bQ rfl (bQ rfl (bE rfl rfl rfl (aD (aC ?_)))))))
 refine dJ rfl (fun hc6 => ?_) (fun hc6 => ?_)
 ·
  refine ak (aC (aE (aq (aE ?_))))
  have hpx := p.2.next hd hc6
  have hpo := hpx.2.2
  refine aA (Jo rfl (G0 rfl (bQ rfl ?_)))
  refine wN KI (k := p.1.1) (z0 := (default : Way)) rfl rfl (by decide) rfl (uM _) nS rG oy ?_
  refine bp (E := fy) (xs := [jr (cR fl x.1 (dh fl x.1 (y.cells + 1))) p.1.1]) rfl rfl rfl rfl rfl (by decide) (by decide) (by repeat (first | exact (aY.nil : aY _ _ [] _) | (show aY _ _ ((_, _) :: _) _; apply aY.agg; (· exact (rfl : _ = Ty.agg _))))) (by exact rfl) rfl ?_
  refine fP rfl rfl (by decide) rfl rfl rfl rfl rfl rfl (by decide) (by (simp <;> omega)) (by (simp <;> omega)) ?_
  refine Fb rfl (aD (aC (aE (aA (jo rfl (G0 rfl (bQ rfl ?_)))))))
  refine wN KI (k := p.1.1) (z0 := (default : Way)) rfl rfl (by decide) rfl (uM _) nS rG oy ?_
  refine dW [1000] (Dr y fl x.1 hF (jr (cR fl x.1 (dh fl x.1 (y.cells + 1))) p.1.1) hpo.1) rfl (aK (kQ (aK (aa (bH rfl rfl)) (aK (aa (bH rfl rfl)) (aK (aa (bH rfl rfl)) (aK (aa (bH rfl rfl)) (aK (aa (bH rfl rfl)) (aK (gY rfl hal (by decide) rfl) bW))))))) (aK (aa (bH rfl rfl)) bW)) (by exact j4 (by repeat (first | exact j3 | refine iB (by exact dF _ _) ?_))) ?_
  refine p8 rfl (bM rfl rfl (bM rfl rfl (cF rfl (cF rfl (aD (aC (aA (bQ rfl (bQ rfl ?_)))))))))
  refine bp (E := cT) (xs := [_]) rfl rfl rfl rfl rfl (by decide) (by decide) (by repeat (first | exact (aY.nil : aY _ _ [] _) | (show aY _ _ ((_, _) :: _) _; apply aY.one; (· exact (rfl : _ = Ty.int _ _)); (· exact rfl)))) (by exact rfl) rfl ?_
  refine aj (rU _ _) rfl rfl rfl rfl rfl (cF rfl (aD (bV (aC (aA (jo rfl (G0 rfl (bQ rfl ?_))))))))
  refine wN KI (k := p.1.1) (z0 := (default : Way)) rfl rfl (by decide) rfl (uM _) nS rG oy ?_
  refine dW [1000] (zH y fl x.1 (jr (cR fl x.1 (dh fl x.1 (y.cells + 1))) p.1.1) hpo.1) rfl (aK (kQ (aK (aa (bH rfl rfl)) (aK (aa (bH rfl rfl)) (aK (aa (bH rfl rfl)) (aK (aa (bH rfl rfl)) (aK (aa (bH rfl rfl)) (aK (gY rfl hal (by decide) rfl) bW))))))) (aK (aa (bH rfl rfl)) bW)) (by exact dF _ _) ?_
  refine cF rfl (aD ?_)
  refine bZ (⟨((jr (cR fl x.1 (dh fl x.1 (y.cells + 1))) p.1.1).gu fl, p.1.2 ++ [jr (cR fl x.1 (dh fl x.1 (y.cells + 1))) p.1.1]), (p.2.next hd hc6).1⟩) ?_ (by exact (p.2.next hd hc6).2.1)
  (refine dK.mk' ?_ ?_ <;> (repeat' (first | exact aJ | exact aI | refine aB ?_ (Ty.aW _) | refine aB ?_ (Ty.aF _) | refine aG rfl (Cont.aF _) ?_ | refine aB ?_ ?_)))
  all_goals skip
  all_goals exact Ty.ah wU
 refine cg (aR (aR (bA rfl (aC ?_))))
 have hmp := p4 (fl := fl) (a := x.1) (m := (min (over fl x.1 (dh fl x.1 (y.cells + 1))) (-over fl x.1 (eY fl x.1 (y.cells + 1) (cR fl x.1 (dh fl x.1 (y.cells + 1))))))) (Jm (by rw [s2]; exact s3) (by rw [t2]; exact t4)) p.1.2 p.2.inv.ways
 have hml := (rS (fl := fl) (a := x.1) (min (over fl x.1 (dh fl x.1 (y.cells + 1))) (-over fl x.1 (eY fl x.1 (y.cells + 1) (cR fl x.1 (dh fl x.1 (y.cells + 1)))))) p.1.2).1
 refine kF (tg := 81) [(12, Ty.sl fy p.1.2)] (by decide) rfl ⟨zb rfl, trivial⟩ ?_
 refine aA (jo rfl (gB rfl (bQ rfl ?_)))
 refine bt [(1000, 1000)] [] [(1000, Cont.vec cT 3 (eI x.1 p.1.2 (fE fl x.1 (min (over fl x.1 (dh fl x.1 (y.cells + 1))) (-over fl x.1 (eY fl x.1 (y.cells + 1) (cR fl x.1 (dh fl x.1 (y.cells + 1)))))) p.1.2)))] (H7 y fl x.1 hF p.1.2 (by omega) (fun w hw => (p.2.inv.ways w hw).1) (fE fl x.1 (min (over fl x.1 (dh fl x.1 (y.cells + 1))) (-over fl x.1 (eY fl x.1 (y.cells + 1) (cR fl x.1 (dh fl x.1 (y.cells + 1)))))) p.1.2) (by omega)) rfl rfl (aH (aH (aH bL (aM rfl rfl)) (aM rfl rfl)) (fD (aH (aH (aH (aH (aH (aH bL (eM (by exact List.mem_cons_self))) (aM rfl rfl)) (aM rfl rfl)) (aM rfl rfl)) (aM rfl rfl)) (aM rfl rfl)))) (b8 (a := 1000) (b := 1000) (by exact List.mem_cons_self) rfl (cA (by exact List.mem_cons_self) rfl) pre_nil) (bJ (a := 1000) (b := 1000) (by decide) rfl (cA (by decide) rfl) post_nil) (aM rfl rfl) ?_
 refine aD (bV ?_)
 refine bZ (⟨kO fl x.1 (dh fl x.1 (y.cells + 1)) (eY fl x.1 (y.cells + 1) (cR fl x.1 (dh fl x.1 (y.cells + 1)))), hnx.1⟩) ?_ (by exact hnx.2.less)
 (refine dK.mk' ?_ ?_ <;> (repeat' (first | exact aJ | exact aI | refine aB ?_ (Ty.aW _) | refine aB ?_ (Ty.aF _) | refine aG rfl ?_ ?_)))
 all_goals skip
 all_goals exact Cont.eF (Ho (p.2.end hc6))
end Go.Proofs.YtelbollidfdcjaaGreat
namespace Go.Proofs.YtelbollidfdcjaaGreat
open Go Go.T
section
variable {fl : List bz} {a : List Int} {n : Nat} {G : Nat → Int} {x : Ip}
structure qz (fl : List bz) (a : List Int) (n : Nat) (G : Nat → Int) (x : Ip) : Prop where
  inv : lu fl a n G x
  same : mW (mK fl a n G) x = iX fl a n G
theorem NZ (hn : 0 < n) : qz fl a n G ⟨0, 0, 0, Kn n⟩ := ⟨Jw hn, rfl⟩
theorem qz.r (h : qz fl a n G x) : ¬ n ≤ x.r := by have := h.inv.r; omega
theorem qz.round (h : qz fl a n G x) (hc : n ≤ x.c) (ha : ¬ x.st.at_ < 0) : qz fl a n G ⟨x.r + 1, 0, 0, ⟨x.st.worth, x.st.by_, -1⟩⟩ :=
 ⟨h.inv.round hc (fun e => ha (by rw [h.inv.last e]; decide)), by rw [← g7 (uJ h.r hc ha)]; exact h.same⟩
theorem qz.stop (h : qz fl a n G x) (hc : n ≤ x.c) (ha : x.st.at_ < 0) : cL fl a n G = [] := by
 refine uC ?_
 rw [← h.same]; exact iT (wK h.r hc ha)
theorem qz.cell (h : qz fl a n G x) (hc : ¬ n ≤ x.c) (hj : (bO fl a x.c).length ≤ x.j) : qz fl a n G ⟨x.r, x.c + 1, 0, x.st⟩ :=
 ⟨h.inv.cell hc hj, by rw [← g7 (vV h.r hc hj)]; exact h.same⟩
theorem qz.no (h : qz fl a n G x) (hc : ¬ n ≤ x.c) (hj : ¬ (bO fl a x.c).length ≤ x.j) (hg : ke fl G x.st x.c (nth (bO fl a x.c) x.j) = false) : qz fl a n G ⟨x.r, x.c, x.j + 1, x.st⟩ :=
 ⟨h.inv.no hc hj hg, by rw [← g7 (AZ h.r hc hj hg)]; exact h.same⟩
theorem qz.yes (hN : Net fl n) (hG : ∀ i, -1 ≤ G i ∧ G i ≤ 1) (h : qz fl a n G x) (hc : ¬ n ≤ x.c) (hj : ¬ (bO fl a x.c).length ≤ x.j) (hg : ke fl G x.st x.c (nth (bO fl a x.c) x.j) = true) (hr : ¬ x.r + 1 = n) : qz fl a n G ⟨x.r, x.c, x.j + 1, lq fl G x.st x.c (nth (bO fl a x.c) x.j)⟩ :=
 ⟨h.inv.yes hN hG hc hj hg hr, by rw [← g7 (yq h.r hc hj hg hr)]; exact h.same⟩
structure Found (fl : List bz) (a : List Int) (n : Nat) (G : Nat → Int) (st : ry) (v : Nat) : Prop where
  found : ∃ R T τ, Gh fl a n G (n - 1) st R T τ ∧ v < n ∧ R v = n
  at_ : st.at_ = v
  same : cL fl a n G = oZ fl st (fS (cG fl st) n v)
  len : st.by_.length = n
theorem qz.last (hN : Net fl n) (hG : ∀ i, -1 ≤ G i ∧ G i ≤ 1) (h : qz fl a n G x) (hc : ¬ n ≤ x.c) (hj : ¬ (bO fl a x.c).length ≤ x.j) (hg : ke fl G x.st x.c (nth (bO fl a x.c) x.j) = true) (hr : x.r + 1 = n) :
    ∃ v : Nat, Found fl a n G (lq fl G x.st x.c (nth (bO fl a x.c) x.j)) v := by
  have h1 := h.inv.found hN hG hc hj hg hr
  have h2 : iX fl a n G = some (lq fl G x.st x.c (nth (bO fl a x.c) x.j)) := by
    rw [← h.same]; exact iT (vC h.r hc hj hg hr)
  cases h1 with
  | some _ R T τ v h3 hv e hR =>
    refine ⟨v, ⟨R, T, τ, h3, hv, hR⟩, e, ?_, h3.len.2⟩
    rw [tq h2, e, Int.toNat_natCast]
theorem lu.small (h : lu fl a n G x) (hn : n ≤ 21) (hl : fl.length ≤ 34) : x.st.worth.length = n ∧ x.st.by_.length = n ∧ ∀ v, v < n → 0 ≤ nth x.st.worth v ∧ nth x.st.worth v ≤ 40000 := by
 obtain ⟨R, T, τ, h1, h2, _⟩ := h.gh
 refine ⟨h1.len.1, h1.len.2, fun v hv => ?_⟩
 have h3 := h1.le v hv
 have h4 := h.r
 have h5 := h.c
 have h6 := h.j.1
 have e1 : x.r * (n * (2 * fl.length)) ≤ 21 * (21 * 68) := Nat.mul_le_mul (by omega) (Nat.mul_le_mul hn (by omega))
 have e2 : x.c * (2 * fl.length) ≤ 21 * 68 := Nat.mul_le_mul (by omega) (by omega)
 omega
variable {st : ry} {v s p : Nat}
theorem Found.chain (hN : Net fl n) (h : Found fl a n G st v) {k : Nat} (hk : k < n) : fS (cG fl st) k v < n ∧ Open fl a (nth st.by_ (fS (cG fl st) k v)) ∧ (nth st.by_ (fS (cG fl st) k v)).gu fl = (fS (cG fl st) (k + 1) v : Nat) := by
 obtain ⟨R, T, τ, h1, h2, h3⟩ := h.found
 obtain ⟨a1, a2⟩ := z9 hN h1 h2 h3 k (by omega)
 obtain ⟨b1, _⟩ := h1.way _ a1 (by omega)
 refine ⟨a1, b1, ?_⟩
 have := (hN.way b1.1).1
 show _ = ((((nth st.by_ (fS (cG fl st) k v)).gu fl).toNat : Nat) : Int)
 omega
structure KU (fl : List bz) (a : List Int) (n : Nat) (st : ry) (s p : Nat) (x : Nat × List Way) : Prop where
  at_ : x.1 < n ∧ Open fl a (nth st.by_ x.1) ∧ (nth st.by_ x.1).gu fl = (cG fl st x.1 : Nat)
  ix : ∃ i, i ≤ p ∧ x.1 = fS (cG fl st) i s ∧ x.2.length = i
  same : mW (Bu fl st s) x = oZ fl st s
theorem L3.gu {T : Nat → Nat} (hN : Net fl n) (h : L3 fl a n G st T s) (t : Nat) : fS (cG fl st) t s < n ∧ Open fl a (nth st.by_ (fS (cG fl st) t s)) ∧ (nth st.by_ (fS (cG fl st) t s)).gu fl = (cG fl st (fS (cG fl st) t s) : Nat) := by
 refine ⟨h.at_ t, (h.way t).1, ?_⟩
 have := (hN.way (h.way t).1.1).1
 show _ = ((((nth st.by_ (fS (cG fl st) t s)).gu fl).toNat : Nat) : Int)
 omega
theorem Cq {x : Nat × List Way} (h : ¬ (¬ x.2 = [] ∧ x.1 = s)) : Bu fl st s x = .inl (cG fl st x.1, x.2 ++ [nth st.by_ x.1]) := if_neg h
theorem C4 {x : Nat × List Way} (h : ¬ x.2 = [] ∧ x.1 = s) : Bu fl st s x = .inr x.2 := if_pos h
theorem KU.next {T : Nat → Nat} (hN : Net fl n) (hC : L3 fl a n G st T s) (hp : fS (cG fl st) p s = s) (hp1 : 1 ≤ p) {x : Nat × List Way} (h : KU fl a n st s p x) (hc : ¬ (¬ x.2 = [] ∧ x.1 = s)) :
 KU fl a n st s p (cG fl st x.1, x.2 ++ [nth st.by_ x.1]) ∧ x.2.length < p := by
 obtain ⟨i, h1, h2, h3⟩ := h.ix
 have hi : i < p := by
  by_cases e : i = p
  ·exfalso; apply hc
   subst e
   exact ⟨fun e => by rw [e] at h3; simp at h3; omega, h2.trans hp⟩
  omega
 have e : cG fl st x.1 = fS (cG fl st) (i + 1) s := by rw [h2]; rfl
 refine ⟨⟨?_, ⟨i + 1, hi, e, by rw [List.length_append, h3]; rfl⟩, ?_⟩, by omega⟩
 ·show cG fl st x.1 < n ∧ Open fl a (nth st.by_ (cG fl st x.1)) ∧ _ = ((cG fl st (cG fl st x.1) : Nat) : Int)
  rw [e]; exact hC.gu hN (i + 1)
 rw [← g7 (Cq hc)]; exact h.same
theorem KU.end {x : Nat × List Way} (h : KU fl a n st s p x) (hc : ¬ x.2 = [] ∧ x.1 = s) : x.2 = oZ fl st s := by
 rw [← h.same]; exact (iT (C4 hc)).symm
theorem Found.Nr (hN : Net fl n) (h : Found fl a n G st v) : ∃ T p, L3 fl a n G st T (fS (cG fl st) n v) ∧ 1 ≤ p ∧ p ≤ n ∧ fS (cG fl st) p (fS (cG fl st) n v) = fS (cG fl st) n v ∧ KU fl a n st (fS (cG fl st) n v) p (fS (cG fl st) n v, []) := by
 obtain ⟨R, T, τ, h1, h2, h3⟩ := h.found
 have hC := Fl hN h1 h2 h3
 obtain ⟨p, p1, p2, p3⟩ := hC.back
 exact ⟨T, p, hC, p1, p2, p3, ⟨hC.gu hN 0, ⟨0, Nat.zero_le _, rfl, rfl⟩, rfl⟩⟩
structure Ls (fl : List bz) (n : Nat) (G : Nat → Int) (a b : List Int) : Prop where
  feas : gb fl n b
  same : mW (stepG fl n G) b = gQ fl n G a
theorem DG {b : List Int} (e : cL fl b n G = []) : stepG fl n G b = .inr b := if_pos e
theorem Ce {b : List Int} (e : ¬ cL fl b n G = []) : stepG fl n G b = .inl (eI b (cL fl b n G) (fE fl b 300 (cL fl b n G))) := if_neg e
theorem Ls.done {b : List Int} (h : Ls fl n G a b) (e : cL fl b n G = []) : b = gQ fl n G a := by
 rw [← h.same]; exact (iT (DG e)).symm
theorem Ls.next {b : List Int} (hN : Net fl n) (hn : 0 < n) (hB : Bd fl) (hG : ∀ i, -1 ≤ G i ∧ G i ≤ 1) (h : Ls fl n G a b) (e : ¬ cL fl b n G = []) :
 Ls fl n G a (eI b (cL fl b n G) (fE fl b 300 (cL fl b n G))) ∧ (300 * fl.length - kf fl G (eI b (cL fl b n G) (fE fl b 300 (cL fl b n G)))).toNat < (300 * fl.length - kf fl G b).toNat ∧ Dy fl b n G (cL fl b n G) := by
 rcases uF (a := b) hN hn hG with ⟨e', _⟩ | hc
 ·exact absurd e' e
 have hb := tW h.feas hc
 refine ⟨⟨hb.feas, ?_⟩, ?_, hc⟩
 ·rw [← h.same]; exact (g7 (Ce e)).symm
 have h1 := hb.more
 have h2 := DJ hB hb.feas.1 hG
 omega
end
def iq (has : Nat → Bool) (x : List Int) (k : Nat) : Int := dH (fun i => if has i = true then nth x i else 0) k
theorem Ee {has : Nat → Bool} {x : List Int} {k : Nat} (h : has k = true) : iq has x k + nth x k = iq has x (k + 1) := by
 show _ = iq has x k + (if _ then _ else _); rw [if_pos h]
theorem Gt {has : Nat → Bool} {x : List Int} {k : Nat} (h : has k = false) : iq has x k = iq has x (k + 1) := by
 show _ = iq has x k + (if _ then _ else _); rw [if_neg (by rw [h]; decide)]; omega
theorem FM {has : Nat → Bool} {x : List Int} {k : Nat} (h : ∀ i, i < k → 0 ≤ nth x i ∧ nth x i ≤ 300) : -(300 * (k : Int)) ≤ iq has x k ∧ iq has x k ≤ 300 * k := by
 refine sG (b := 300) fun i hi => ?_
 have := h i hi
 split <;> omega
theorem IF {has : Nat → Bool} {less : Bool} {i : Nat} (h : has i = false) : dB has less i = 0 := by unfold dB; rw [h]; cases less <;> rfl
theorem yF {has : Nat → Bool} {less : Bool} {i : Nat} (h : has i = true) : dB has less i = if less = true then -1 else 1 := by unfold dB; rw [h]; cases less <;> rfl
theorem Je {has : Nat → Bool} {less : Bool} {w : Way} (h : has w.ix = false) : 0 = gC (dB has less) w := by
 unfold gC wu; rw [IF h]; cases w.more <;> rfl
theorem JY {has : Nat → Bool} {less : Bool} {w : Way} (h : has w.ix = true) (e : w.more ≠ less) : 1 = gC (dB has less) w := by
 unfold gC wu; rw [yF h]
 cases hm : w.more <;> cases hl : less <;> first | rfl | exact absurd (hm.trans hl.symm) e
theorem I1 {has : Nat → Bool} {less : Bool} {w : Way} (h : has w.ix = true) (e : w.more = less) : -1 = gC (dB has less) w := by
 unfold gC wu; rw [yF h, e]
 cases less <;> rfl
end Go.Proofs.YtelbollidfdcjaaGreat
namespace Go.Proofs.YtelbollidfdcjaaGreat
open Go Go.T
set_option maxHeartbeats 16000000
theorem I0 : Tryz.prog.underlying 4 = some .bool := Tryz.underlying4
section
variable {fl : List bz} {a : List Int} {n : Nat} {G : Nat → Int} {st : ry} {r c j : Nat} {w : Way}
def nC (fl : List bz) (G : Nat → Int) (st : ry) (c : Nat) (w : Way) : ry := if ke fl G st c w = true then lq fl G st c w else st
theorem pg (h : nth st.worth c + gC G w > nth st.worth (w.fin fl).toNat) : nC fl G st c w = lq fl G st c w := if_pos (decide_eq_true h)
theorem r7 (h : ¬ nth st.worth c + gC G w > nth st.worth (w.fin fl).toNat) : nC fl G st c w = st := if_neg (by rw [show ke fl G st c w = false from decide_eq_false h]; decide)
theorem qz.LM (hN : Net fl n) (hG : ∀ i, -1 ≤ G i ∧ G i ≤ 1) (h : qz fl a n G ⟨r, c, j, st⟩) (hc : c < n) (hj : j < (bO fl a c).length) (hg : nth st.worth c + gC G (nth (bO fl a c) j) > nth st.worth ((nth (bO fl a c) j).fin fl).toNat) (hr : ¬ (r : Int) = n - 1) : qz fl a n G ⟨r, c, j + 1, nC fl G st c (nth (bO fl a c) j)⟩ := by
 rw [pg hg]; exact h.yes hN hG (Nat.not_le.2 hc) (Nat.not_le.2 hj) (decide_eq_true hg) (by show ¬ r + 1 = n; intro e; apply hr; rw [← e]; show (r : Int) = ((r + 1 : Nat) : Int) - 1; omega)
theorem qz.Mh (h : qz fl a n G ⟨r, c, j, st⟩) (hc : c < n) (hj : j < (bO fl a c).length) (hg : ¬ nth st.worth c + gC G (nth (bO fl a c) j) > nth st.worth ((nth (bO fl a c) j).fin fl).toNat) : qz fl a n G ⟨r, c, j + 1, nC fl G st c (nth (bO fl a c) j)⟩ := by
 rw [r7 hg]; exact h.no (Nat.not_le.2 hc) (Nat.not_le.2 hj) (decide_eq_false hg)
theorem Mz (h : nth st.worth c + gC G w > nth st.worth (w.fin fl).toNat) : st.worth.set (w.fin fl).toNat (nth st.worth c + gC G w) = (nC fl G st c w).worth := by rw [pg h]; rfl
theorem MH (h : nth st.worth c + gC G w > nth st.worth (w.fin fl).toNat) : st.by_.set (w.fin fl).toNat w = (nC fl G st c w).by_ := by rw [pg h]; rfl
theorem Mo (h : nth st.worth c + gC G w > nth st.worth (w.fin fl).toNat) : w.fin fl = (nC fl G st c w).at_ := by rw [pg h]; rfl
theorem M7 (h : ¬ nth st.worth c + gC G w > nth st.worth (w.fin fl).toNat) : st.worth = (nC fl G st c w).worth := by rw [r7 h]
theorem MA (h : ¬ nth st.worth c + gC G w > nth st.worth (w.fin fl).toNat) : st.by_ = (nC fl G st c w).by_ := by rw [r7 h]
theorem MC (h : ¬ nth st.worth c + gC G w > nth st.worth (w.fin fl).toNat) : st.at_ = (nC fl G st c w).at_ := by rw [r7 h]
theorem qz.hit (hN : Net fl n) (hG : ∀ i, -1 ≤ G i ∧ G i ≤ 1) (h : qz fl a n G ⟨r, c, j, st⟩) (hc : c < n) (hj : j < (bO fl a c).length) (hg : nth st.worth c + gC G (nth (bO fl a c) j) > nth st.worth ((nth (bO fl a c) j).fin fl).toNat) (hr : (r : Int) = n - 1) :
 ∃ (v : Nat) (s' : ry), st.worth.set ((nth (bO fl a c) j).fin fl).toNat (nth st.worth c + gC G (nth (bO fl a c) j)) = s'.worth ∧ st.by_.set ((nth (bO fl a c) j).fin fl).toNat (nth (bO fl a c) j) = s'.by_ ∧ (nth (bO fl a c) j).fin fl = ((v : Nat) : Int) ∧ Found fl a n G s' v := by
 obtain ⟨v, hv⟩ := h.last hN hG (Nat.not_le.2 hc) (Nat.not_le.2 hj) (decide_eq_true hg) (by show r + 1 = n; have := h.inv.r; omega)
 exact ⟨v, _, rfl, rfl, hv.at_, hv⟩
theorem J0 {e : List Way} {s : Nat} (h : (decide ((e.length : Int) = 0) || !decide ((c : Int) = (s : Int))) = true) : ¬ (¬ e = [] ∧ c = s) := by
 rintro ⟨h1, h2⟩
 have h3 : (e.length : Int) ≠ 0 := fun h => h1 (List.length_eq_zero_iff.1 (by omega))
 rw [decide_eq_false h3, decide_eq_true (by omega)] at h; cases h
theorem Mu {e : List Way} {s : Nat} (h : (decide ((e.length : Int) = 0) || !decide ((c : Int) = (s : Int))) = false) : ¬ e = [] ∧ c = s := by
 rw [Bool.or_eq_false_iff] at h
 refine ⟨fun e0 => ?_, ?_⟩
 ·subst e0; exact absurd h.1 (by decide)
 have := of_decide_eq_true (fV h.2 : decide ((c : Int) = (s : Int)) = true); omega
theorem MR {e : List Way} {p : Nat} (h : e.length < p) : p - (e ++ [w]).length < p - e.length := by rw [List.length_append]; show p - (e.length + 1) < _; omega
theorem Nm {s p : Nat} {x : Nat × List Way} (h : KU fl a n st s p x) (hc : ¬ x.2 = [] ∧ x.1 = s) : oZ fl st s ≠ [] := by rw [← h.end hc]; exact hc.1
end
attribute [local irreducible] aO gk Way.gu Way.fin Way.room ef eI fA gU over bO cR dh eY jW fE gy kO cY gP gA gC dB cL gQ oZ iX nC lq
attribute [local irreducible] iY fX nD qR jG jJ jI jK jF qu jD qw eJ gm qF gx ql nth fU dn af dy bodyPost Exit.then Exit.inBlock Code.wp Code.wpIn qh jH qi qX jC eT cZ cq bodyPostM eR
set_option maxRecDepth 100000 in
theorem mj (y : bD) (fl : List bz) (a : List Int) (h : Hz y fl a) : eT Tryz.prog 119 [1000] [(1000, Cont.vec cT 3 a)] [Ty.pp (eO y fl 1000 fl.length)] [(1000, Cont.vec cT 3 (cY fl (y.cells + 1) a).2.2)] (Ty.bool (!(cY fl (y.cells + 1) a).2.1)) := by
 refine dc Tryz.func119 rfl (by decide) Tryz.ntmps119 (by exact Nat.le_of_ble_eq_true rfl) fun w0 M0 => ?_
 refine aE (aA (dX rfl (aD (aC (aE (aA (jo rfl ?_)))))))
 refine bt [(1000, 1000)] [] [(1000, Cont.vec cT 3 (cY fl (y.cells + 1) a).2.2)] (Im y fl a h) rfl rfl (aH bL (fD (aH (aH (aH (aH (aH (aH bL (eM (by exact List.mem_cons_self))) (aM rfl rfl)) (aM rfl rfl)) (aM rfl rfl)) (aM rfl rfl)) (aM rfl rfl)))) (b8 (a := 1000) (b := 1000) (by exact List.mem_cons_self) rfl (cA (by exact List.mem_cons_self) rfl) pre_nil) (bJ (a := 1000) (b := 1000) (by decide) rfl (cA (by decide) rfl) post_nil) (aM rfl rfl) ?_
 refine p8 rfl (bM rfl rfl (bM rfl rfl (cF rfl (dX rfl (aD (aC (aE (aA (gR rfl ?_)))))))))
 refine dm rfl (dX rfl (aD (aC (ay ?_))))
 refine fZ [1000] rfl rfl (by decide) (by repeat (first | exact ej | refine dx rfl (cA (by decide) rfl) ?_)) ?_
 all_goals exact fK (aM rfl rfl)
set_option maxRecDepth 100000 in
theorem Da (th : Ty) (h1 : th.deps = []) (h2 : th.cdeps = []) (has : Nat → Bool) (less : Bool) (w : Way) (hf : nW Tryz.prog (Ty.nd th h1 h2) [Ty.int .i64 ((w.ix : Nat) : Int)] (Ty.bool (has w.ix))) : dy Tryz.prog 202 [Ty.agg [Ty.nd th h1 h2, Ty.bool less], Ty.agg (fy.tys w)] (Ty.int .i64 (gC (dB has less) w)) := by
 refine av Tryz.func202 rfl (by decide) Tryz.ntmps202 (by exact Nat.le_of_ble_eq_true rfl) fun w0 M0 => ?_
 refine aE (aA (bR rfl (bR rfl (cF rfl (aD (aC (aE (aE (aA ?_)))))))))
 refine aQ rfl rfl rfl rfl rfl (by decide) ?_
 refine aL rfl rfl rfl rfl ?_
 refine aQ rfl rfl rfl rfl rfl (by decide) ?_
 refine aL rfl rfl rfl rfl (eX rfl hf rfl (dm rfl (aD (aC ?_))))
 refine cv rfl (fun hc1 => ?_) (fun hc1 => ?_)
 ·
  refine aE (aA (cF rfl (aD (aC (ay (aV (bh rfl rfl ?_)))))))
  all_goals skip
  all_goals exact az rfl rfl (congrArg (Ty.int .i64) (Je (n5 hc1)))
 refine ak (aC (aE (aE (aA ?_))))
 refine aQ rfl rfl rfl rfl rfl (by decide) ?_
 refine aL rfl rfl rfl rfl ?_
 refine aQ rfl rfl rfl rfl rfl (by decide) ?_
 refine aL rfl rfl rfl rfl (uc I0 rfl rfl (aD (aC ?_)))
 refine dJ rfl (fun hc2 => ?_) (fun hc2 => ?_)
 ·
  refine aE (aA (cF rfl (aD (aC (ay (aV (bh rfl rfl ?_)))))))
  all_goals skip
  all_goals exact az rfl rfl (congrArg (Ty.int .i64) (JY (fV hc1) hc2))
 refine ak (aC (aE (aA (cF rfl (aD (aC (ay (bh rfl rfl ?_))))))))
 all_goals skip
 all_goals exact az rfl rfl (congrArg (Ty.int .i64) (I1 (fV hc1) hc2))
set_option maxRecDepth 100000 in
theorem Hh (y : bD) (fl : List bz) (a : List Int) (h : lK y fl a) (th : Ty) (h1 : th.deps = []) (h2 : th.cdeps = []) (has : Nat → Bool) (hf : ∀ i, i < fl.length → nW Tryz.prog (Ty.nd th h1 h2) [Ty.int .i64 ((i : Nat) : Int)] (Ty.bool (has i))) (less : Bool) : eT Tryz.prog 195 [1000] [(1000, Cont.vec cT 3 a)] [Ty.pp (eO y fl 1000 fl.length), Ty.agg [Ty.nd th h1 h2, Ty.bool less]] [(1000, Cont.vec cT 3 a)] (Ty.Fc fy (cL fl a (y.cells + 1) (dB has less))) := by
 refine dc Tryz.func195 rfl (by decide) Tryz.ntmps195 (by exact Nat.le_of_ble_eq_true rfl) fun w0 M0 => ?_
 have hal := h.inb.1
 have hN := h.net
 have hfl := h.ou
 have hcl := mz h.right
 have hG := sB (has := has) less
 refine aE (aA (bR rfl (mP rfl (aD (aC (I4 (aE (aA (jo rfl ?_)))))))))
 refine dW [] (sE y h.right) rfl (aK (mg (l1 := bl y) (l2 := [Ty.sl eA fl, Ty.vs 1000 fl.length]) rfl rfl) bW) (by exact dF _ _) ?_
 refine b9 rfl rfl (by omega) (by omega) ?_
 refine cF rfl (aD (aC (aE (cW mixed rfl (bQ rfl ?_)))))
 refine y7 (E := cT) (x0 := 0) rfl rfl rfl rfl rfl rfl rfl (by decide) rfl (by omega) (by (dsimp only; omega)) (by omega) ?_
 refine bQ rfl ?_
 refine y7 (E := fy) (x0 := default) rfl rfl rfl rfl rfl rfl rfl (by decide) rfl (by omega) (by (dsimp only; omega)) (by omega) ?_
 refine NB rfl (NB rfl (aD ?_))
 refine ⟨by kernel_rfl, ?_⟩
 refine aC (aE (aA (jo rfl ?_)))
 refine bt [(1000, 1000)] [] [(1000, Cont.vec cT 3 a)] (Fq y fl a h) rfl rfl (aH bL (fD (aH (aH (aH (aH (aH (aH bL (eM (by exact List.mem_cons_self))) (aM rfl rfl)) (aM rfl rfl)) (aM rfl rfl)) (aM rfl rfl)) (aM rfl rfl)))) (b8 (a := 1000) (b := 1000) (by exact List.mem_cons_self) rfl (cA (by exact List.mem_cons_self) rfl) pre_nil) (bJ (a := 1000) (b := 1000) (by decide) rfl (cA (by decide) rfl) post_nil) (aM rfl rfl) ?_
 refine Kl rfl (aD (aC (aE (aA (cF rfl (aD (aC (aE (Ja ?_)))))))))
 refine aC (aE (aE (aA (bQ rfl (bQ rfl (aD (aC (aq ?_))))))))
 refine cj (fun (x : {x : Nat × ry // qz fl a (y.cells + 1) (dB has less) ⟨x.1, 0, 0, x.2⟩ ∧ x.2.at_ = -1}) => live [(0, Ty.pp (eO y fl 1000 fl.length)), (3, Ty.pp [Ty.nd th h1 h2, Ty.bool less]), (5, Ty.int .i64 ((y.cells + 1) : Nat)), (6, Ty.vs 23 (y.cells + 1)), (7, Ty.vs 25 (y.cells + 1)), (8, Ty.pm KI.enc (Fi fy) (ef fl a fl.length)), (27, Ty.int .i64 ((y.cells + 1) : Nat)), (28, Ty.int .i64 ((x.1.1 : Nat) : Int))] [(1000, Cont.vec cT 3 a), (23, Cont.vec cT 3 x.1.2.worth), (25, Cont.vec fy 199 x.1.2.by_)]) (fun x => (y.cells + 1) - x.1.1) (⟨(0, Kn (y.cells + 1)), NZ (by omega), rfl⟩) ?_ fun x => ?_
 ·(refine dK.mk' ?_ ?_ <;> (repeat' (first | exact aJ | exact aI | refine aB ?_ (Ty.aW _) | refine aB ?_ (Ty.aF _) | refine aG rfl (Cont.aF _) ?_)))
 have hxr : x.1.1 < (y.cells + 1) := x.2.1.inv.r
 have hxs : x.1.2.worth.length = (y.cells + 1) ∧ x.1.2.by_.length = (y.cells + 1) := ⟨(x.2.1.inv.small (by omega) hfl).1, (x.2.1.inv.small (by omega) hfl).2.1⟩
 refine aE (aA (bE rfl rfl rfl (aD (aC (aE ?_)))))
 refine pF rfl (decide_eq_true (by show ((x.1.1 : Nat) : Int) < ((y.cells + 1) : Nat); have : x.1.1 < (y.cells + 1) := hxr; omega)) ?_
 refine ak (aC (aE (aq (aE (aA (bQ rfl (cF rfl (aD (aC ?_)))))))))
 refine aE (aA (cF rfl (aD (aC (aE (aE (aA (bQ rfl (bQ rfl ?_)))))))))
 refine aD (aC (aq ?_))
 refine cj (fun (z : {z : Nat × ry // qz fl a (y.cells + 1) (dB has less) ⟨x.1.1, z.1, 0, z.2⟩}) => live [(0, Ty.pp (eO y fl 1000 fl.length)), (3, Ty.pp [Ty.nd th h1 h2, Ty.bool less]), (5, Ty.int .i64 ((y.cells + 1) : Nat)), (6, Ty.vs 23 (y.cells + 1)), (7, Ty.vs 25 (y.cells + 1)), (8, Ty.pm KI.enc (Fi fy) (ef fl a fl.length)), (9, Ty.int .i64 z.1.2.at_), (10, Ty.int .i64 ((x.1.1 : Nat) : Int)), (27, Ty.int .i64 ((y.cells + 1) : Nat)), (28, Ty.int .i64 ((x.1.1 : Nat) : Int)), (31, Ty.int .i64 ((y.cells + 1) : Nat)), (32, Ty.int .i64 ((z.1.1 : Nat) : Int))] [(1000, Cont.vec cT 3 a), (23, Cont.vec cT 3 z.1.2.worth), (25, Cont.vec fy 199 z.1.2.by_)]) (fun z => (y.cells + 1) - z.1.1) (⟨(0, x.1.2), x.2.1⟩) ?_ fun z => ?_
 ·(refine dK.mk' ?_ ?_ <;> (repeat' (first | exact aJ | exact aI | refine aB ?_ (Ty.aW _) | refine aB ?_ (Ty.aF _) | refine aG rfl (Cont.aF _) ?_ | refine aB ?_ ?_)))
  all_goals exact Ty.ah x.2.2.symm
 have hzc : z.1.1 ≤ (y.cells + 1) := z.2.inv.c
 have hzs : z.1.2.worth.length = (y.cells + 1) ∧ z.1.2.by_.length = (y.cells + 1) := ⟨(z.2.inv.small (by omega) hfl).1, (z.2.inv.small (by omega) hfl).2.1⟩
 refine aE (aA (bE rfl rfl rfl (aD (aC (aE ?_)))))
 refine au rfl (fun hc2 => ?_) (fun hc2 => ?_)
 ·
  refine ak (aC (aE (aq (aE (aA (bQ rfl (cF rfl (aD (aC ?_)))))))))
  refine aE (aA (KV rfl (bQ rfl ?_)))
  refine xg KI (z0 := []) rfl rfl (uM _) nH uY BW ?_
  refine c9 (E := fy) (xs := oA (ef fl a fl.length) ((z.1.1 : Nat) : Int)) rfl rfl rfl ?_
  refine bQ rfl (aD (aC ?_))
  refine fW (s := 37) rfl (show (Ty.sl fy (oA (ef fl a fl.length) ((z.1.1 : Nat) : Int))).Sub (Ty.sl fy (bO fl a z.1.1)) from Ty.fY rX) ?_
  refine fW (s := 38) rfl (Ty.ah (congrArg (fun l : List Way => ((l.length : Nat) : Int)) (rX (c := ((z.1.1 : Nat) : Int))))) ?_
  refine aq ?_
  refine cj (fun (u : {u : Nat × ry // qz fl a (y.cells + 1) (dB has less) ⟨x.1.1, z.1.1, u.1, u.2⟩}) => live [(0, Ty.pp (eO y fl 1000 fl.length)), (3, Ty.pp [Ty.nd th h1 h2, Ty.bool less]), (5, Ty.int .i64 ((y.cells + 1) : Nat)), (6, Ty.vs 23 (y.cells + 1)), (7, Ty.vs 25 (y.cells + 1)), (8, Ty.pm KI.enc (Fi fy) (ef fl a fl.length)), (9, Ty.int .i64 u.1.2.at_), (10, Ty.int .i64 ((x.1.1 : Nat) : Int)), (11, Ty.int .i64 ((z.1.1 : Nat) : Int)), (27, Ty.int .i64 ((y.cells + 1) : Nat)), (28, Ty.int .i64 ((x.1.1 : Nat) : Int)), (31, Ty.int .i64 ((y.cells + 1) : Nat)), (32, Ty.int .i64 ((z.1.1 : Nat) : Int)), (37, Ty.sl fy (bO fl a z.1.1)), (38, Ty.int .i64 (bO fl a z.1.1).length), (39, Ty.int .i64 ((u.1.1 : Nat) : Int))] [(1000, Cont.vec cT 3 a), (23, Cont.vec cT 3 u.1.2.worth), (25, Cont.vec fy 199 u.1.2.by_)]) (fun u => (bO fl a z.1.1).length - u.1.1) (⟨(0, z.1.2), z.2⟩) ?_ fun u => ?_
  ·(refine dK.mk' ?_ ?_ <;> (repeat' (first | exact aJ | exact aI | refine aB ?_ (Ty.aW _) | refine aB ?_ (Ty.aF _) | refine aG rfl (Cont.aF _) ?_)))
  have hus : u.1.2.worth.length = (y.cells + 1) ∧ u.1.2.by_.length = (y.cells + 1) ∧ ∀ v, v < (y.cells + 1) → 0 ≤ nth u.1.2.worth v ∧ nth u.1.2.worth v ≤ 40000 := u.2.inv.small (by omega) hfl
  have hwl := oP (fl := fl) (a := a) (c := ((z.1.1 : Nat) : Int))
  refine aE (aA (bE rfl rfl rfl (aD (aC (aE ?_)))))
  refine au rfl (fun hc3 => ?_) (fun hc3 => ?_)
  ·
   refine ak (aC (aE (aq (aE ?_))))
   have hzn : z.1.1 < (y.cells + 1) := by omega
   have hun : u.1.1 < (bO fl a z.1.1).length := by omega
   have hwo := (nA.1 (dD (xs := bO fl a z.1.1) (k := u.1.1) hun)).1
   have hwj := hwo
   have hwf := (hN.way hwo.1).2
   have haw := EL hG (nth (bO fl a z.1.1) u.1.1)
   have hu1 := hus.2.2 z.1.1 hzn
   have hu2 := hus.2.2 ((nth (bO fl a z.1.1) u.1.1).fin fl).toNat (by omega)
   refine aA ?_
   refine bT rfl rfl rfl rfl rfl rfl (by omega) ?_
   refine aZ rfl rfl rfl (by exact Nat.le_of_ble_eq_true rfl) ?_
   refine cH rfl (by exact List.cons_ne_nil _ _) rfl ?_
   refine cJ rfl rfl (by decide) rfl rfl rfl rfl rfl rfl ?_
   refine aD (aC (aE (aA (jo rfl ?_))))
   refine bU rfl rfl (by decide) rfl rfl (by exact Nat.le_of_ble_eq_true rfl) ?_
   refine dW [1000] (Dr y fl a h (nth (bO fl a z.1.1) u.1.1) hwj.1) rfl (aK (kQ (aK (aa (bH rfl rfl)) (aK (aa (bH rfl rfl)) (aK (aa (bH rfl rfl)) (aK (aa (bH rfl rfl)) (aK (aa (bH rfl rfl)) (aK (gY rfl hal (by decide) rfl) bW))))))) (aK (aa (bH rfl rfl)) bW)) (by exact j4 (by repeat (first | exact j3 | refine iB (by exact dF _ _) ?_))) ?_
   refine p8 rfl (bM rfl rfl (bM rfl rfl (cF rfl (cF rfl (aD (aC (aE (cW mixed rfl (HS rfl ?_)))))))))
   refine bQ rfl ?_
   refine eK rfl rfl rfl rfl rfl (by omega) ?_
   refine e9 rfl rfl rfl (by decide) rfl rfl (by omega) rfl ?_
   refine aZ rfl rfl rfl (by exact Nat.le_of_ble_eq_true rfl) ?_
   refine bU rfl rfl (by decide) rfl rfl (by exact Nat.le_of_ble_eq_true rfl) ?_
   refine aj (Da th h1 h2 has less (nth (bO fl a z.1.1) u.1.1) (hf _ hwj.1)) rfl rfl rfl rfl rfl ?_
   refine b9 rfl rfl (by omega) (by omega) ?_
   refine HS rfl (bQ rfl ?_)
   refine gi rfl rfl rfl rfl rfl (by omega) (by omega) ?_
   refine e9 rfl rfl rfl (by decide) rfl rfl (by omega) rfl ?_
   refine bE rfl rfl rfl (aD ?_)
   refine ⟨by kernel_rfl, ?_⟩
   refine aC ?_
   refine au rfl (fun hc4 => ?_) (fun hc4 => ?_)
   ·
    refine aE (cW mixed rfl (HS rfl (bQ rfl (HS rfl (bQ rfl (HS rfl (bQ rfl ?_)))))))
    refine eK rfl rfl rfl rfl rfl (by omega) ?_
    refine e9 rfl rfl rfl (by decide) rfl rfl (by omega) rfl ?_
    refine aZ rfl rfl rfl (by exact Nat.le_of_ble_eq_true rfl) ?_
    refine bU rfl rfl (by decide) rfl rfl (by exact Nat.le_of_ble_eq_true rfl) ?_
    refine aj (Da th h1 h2 has less (nth (bO fl a z.1.1) u.1.1) (hf _ hwj.1)) rfl rfl rfl rfl rfl ?_
    refine b9 rfl rfl (by omega) (by omega) ?_
    refine bU rfl rfl (by decide) rfl rfl (by exact Nat.le_of_ble_eq_true rfl) ?_
    refine bQ rfl ?_
    refine gi rfl rfl rfl rfl rfl (by omega) (by omega) ?_
    refine jY rfl rfl rfl (by decide) rfl rfl (by exact (rfl : _ = Ty.int _ _)) rfl (by omega) (by decide) rfl rfl ?_
    refine gi rfl rfl rfl rfl rfl (by omega) (by omega) ?_
    refine zA (E := fy) (z := (nth (bO fl a z.1.1) u.1.1)) ((nth (bO fl a z.1.1) u.1.1).fin fl).toNat rfl rfl rfl (by decide) rfl rfl rfl (by omega) ?_
    refine cF rfl (aD ?_)
    refine ⟨by kernel_rfl, ?_⟩
    refine aC (aE (aA (bQ rfl (bQ rfl ?_))))
    refine gw rfl rfl (by omega) (by omega) ?_
    refine bE rfl rfl rfl (aD (aC ?_))
    refine au rfl (fun hc5 => ?_) (fun hc5 => ?_)
    ·
     refine cg (gJ rfl (aR (aR (gJ rfl (gJ rfl (aR (aR (gJ rfl (aR ?_)))))))))
     refine gJ rfl (aR (aR (bA rfl (aC (aE (aE ?_))))))
     obtain ⟨v, st, e1, e2, e3, hFd⟩ := u.2.hit hN hG hzn hun hc4 hc5
     obtain ⟨T, p, hC, p1, p2, p3, hX⟩ := hFd.Nr hN
     refine gM (tg := 25) rfl (Cont.eF e2) ?_
     refine fW (s := 9) rfl (Ty.ah e3) ?_
     refine aA (bQ rfl (bQ rfl (aD (aC (aq ?_)))))
     refine cj (fun (i : {i : Nat // i ≤ (y.cells + 1)}) => live [(0, Ty.pp (eO y fl 1000 fl.length)), (5, Ty.int .i64 ((y.cells + 1) : Nat)), (7, Ty.vs 25 (y.cells + 1)), (9, Ty.int .i64 ((fS (cG fl st) i.1 v : Nat) : Int)), (87, Ty.int .i64 ((y.cells + 1) : Nat)), (88, Ty.int .i64 ((i.1 : Nat) : Int))] [(1000, Cont.vec cT 3 a), (25, Cont.vec fy 199 st.by_)]) (fun i => (y.cells + 1) - i.1) (⟨0, by omega⟩) ?_ fun i => ?_
     ·(refine dK.mk' ?_ ?_ <;> (repeat' (first | exact aJ | exact aI | refine aB ?_ (Ty.aW _) | refine aB ?_ (Ty.aF _) | refine aG rfl (Cont.aF _) ?_)))
     refine aE (aA (bE rfl rfl rfl (aD (aC (aE ?_)))))
     refine au rfl (fun hc6 => ?_) (fun hc6 => ?_)
     ·
      refine ak (aC (aE (aq ?_)))
      have hch := hFd.chain hN (k := i.1) (by omega)
      have hbl := hFd.len
      refine aA (jo rfl (HS rfl (bQ rfl ?_)))
      refine eK rfl rfl rfl rfl rfl (by omega) ?_
      refine o7 (fS (cG fl st) i.1 v) rfl rfl rfl (by decide) rfl rfl rfl (by omega) ?_
      refine dW [1000] (zH y fl a (nth st.by_ (fS (cG fl st) i.1 v)) hch.2.1.1) rfl (aK (kQ (aK (aa (bH rfl rfl)) (aK (aa (bH rfl rfl)) (aK (aa (bH rfl rfl)) (aK (aa (bH rfl rfl)) (aK (aa (bH rfl rfl)) (aK (gY rfl hal (by decide) rfl) bW))))))) (aK (aa (bH rfl rfl)) bW)) (by exact dF _ _) ?_
      refine cF rfl (aD (bV (aC (aA ?_))))
      refine b9 rfl rfl (by omega) (by omega) ?_
      refine bQ rfl (aD ?_)
      refine bZ (⟨i.1 + 1, by omega⟩) ?_ (by show (y.cells + 1) - (i.1 + 1) < (y.cells + 1) - i.1; omega)
      (refine dK.mk' ?_ ?_ <;> (repeat' (first | exact aJ | exact aI | refine aB ?_ (Ty.aW _) | refine aB ?_ (Ty.aF _) | refine aG rfl (Cont.aF _) ?_ | refine aB ?_ ?_)))
      all_goals skip
      all_goals exact Ty.ah hch.2.2
     refine cg (aR (aR (bA rfl (aC (aE ?_)))))
     have hbl := hFd.len
     have hin : i.1 = (y.cells + 1) := by have := i.2; omega
     refine fW (s := 9) rfl (Ty.ah (by rw [hin] : _ = ((fS (cG fl st) (y.cells + 1) v : Nat) : Int))) ?_
     refine aA (mP rfl (aD (aC (aE (aE (aA (bQ rfl (cF rfl (aD ?_)))))))))
     refine aC (aq ?_)
     refine cj (fun (c : {c : Nat × List Way // KU fl a (y.cells + 1) st (fS (cG fl st) (y.cells + 1) v) p c}) => live [(0, Ty.pp (eO y fl 1000 fl.length)), (7, Ty.vs 25 (y.cells + 1)), (9, Ty.int .i64 ((fS (cG fl st) (y.cells + 1) v : Nat) : Int)), (16, Ty.row fy 199 118 c.1.2), (17, Ty.int .i64 ((c.1.1 : Nat) : Int))] [(1000, Cont.vec cT 3 a), (25, Cont.vec fy 199 st.by_)]) (fun c => p - c.1.2.length) (⟨(fS (cG fl st) (y.cells + 1) v, []), hX⟩) ?_ fun c => ?_
     ·(refine dK.mk' ?_ ?_ <;> (repeat' (first | exact aJ | exact aI | refine aB ?_ (Ty.aW _) | refine aB ?_ (Ty.aF _) | refine aB ?_ Ty.l8 | refine aG rfl (Cont.aF _) ?_)))
      all_goals trace_state
     have hcx := c.2.at_
     have hci : c.1.2.length ≤ p := by obtain ⟨i, i1, _, i3⟩ := c.2.ix; omega
     refine aE (aE (aA (Jo rfl (mZ rfl rfl rfl (bE rfl rfl rfl (gR rfl ?_))))))
     apply aS (s := 101) rfl rfl rfl
     ·intro hg; apply aU; (refine bQ rfl ?_); refine aD ?_; exact rfl
     ·exact rfl
     ·exact rfl
     apply aS (s := 101) rfl rfl rfl
     ·intro hg; apply aU; (refine bQ rfl ?_); refine aD ?_; exact rfl
     ·exact rfl
     ·exact rfl
     apply aS (s := 101) rfl rfl rfl
     ·intro hg; apply aP (s := 102) rfl (by (rw [hg]; rfl)); apply aP (s := 103) rfl (by (rw [hg]; rfl)); apply aU; (refine bE rfl rfl rfl ?_); refine aD ?_; exact rfl
     ·exact rfl
     ·exact rfl
     refine mQ rfl rfl (aD (aC ?_))
     refine cv rfl (fun hc7 => ?_) (fun hc7 => ?_)
     ·
      refine ak (aC (aE (aq (aA (Jo rfl (HS rfl (bQ rfl ?_)))))))
      refine eK rfl rfl rfl rfl rfl (by omega) ?_
      refine o7 c.1.1 rfl rfl rfl (by decide) rfl rfl rfl (by omega) ?_
      refine bp (E := fy) (xs := [_]) rfl rfl rfl rfl rfl (by decide) (by decide) (by repeat (first | exact (aY.nil : aY _ _ [] _) | (show aY _ _ ((_, _) :: _) _; apply aY.agg; (· exact (rfl : _ = Ty.agg _))))) (by exact rfl) rfl ?_
      refine fP rfl rfl (by decide) rfl rfl rfl rfl rfl rfl (by decide) (by (simp <;> omega)) (by (simp <;> omega)) ?_
      refine Fb rfl (aD (bV (aC (aA (jo rfl (HS rfl (bQ rfl ?_)))))))
      refine eK rfl rfl rfl rfl rfl (by omega) ?_
      refine o7 c.1.1 rfl rfl rfl (by decide) rfl rfl rfl (by omega) ?_
      refine dW [1000] (zH y fl a (nth st.by_ c.1.1) hcx.2.1.1) rfl (aK (kQ (aK (aa (bH rfl rfl)) (aK (aa (bH rfl rfl)) (aK (aa (bH rfl rfl)) (aK (aa (bH rfl rfl)) (aK (aa (bH rfl rfl)) (aK (gY rfl hal (by decide) rfl) bW))))))) (aK (aa (bH rfl rfl)) bW)) (by exact dF _ _) ?_
      refine cF rfl (aD ?_)
      refine bZ (⟨(cG fl st c.1.1, c.1.2 ++ [nth st.by_ c.1.1]), (c.2.next hN hC p3 p1 (J0 hc7)).1⟩) ?_ (by exact MR (c.2.next hN hC p3 p1 (J0 hc7)).2)
      (refine dK.mk' ?_ ?_ <;> (repeat' (first | exact aJ | exact aI | refine aB ?_ (Ty.aW _) | refine aB ?_ (Ty.aF _) | refine aG rfl (Cont.aF _) ?_ | refine aB ?_ ?_)))
      all_goals skip
      all_goals exact Ty.ah hcx.2.2
     refine cg (aR (aR (bA rfl (aC (aE (aA (Jo rfl (Fb rfl (aD ?_)))))))))
     refine aC (ay (uB ?_))
     refine fZ [1000] rfl rfl (by decide) (by repeat (first | exact ej | refine dx rfl (cA (by decide) rfl) ?_)) ?_
     all_goals skip
     all_goals exact Cg (by decide) rfl (by rw [hFd.same]; exact c.2.end (Mu hc7)) (by rw [hFd.same]; exact Nm c.2 (Mu hc7))
    refine ak (bV (aC (aA ?_)))
    refine b9 rfl rfl (by omega) (by omega) ?_
    refine bQ rfl (aD ?_)
    refine bZ (⟨(u.1.1 + 1, nC fl (dB has less) u.1.2 z.1.1 (nth (bO fl a z.1.1) u.1.1)), by exact u.2.LM hN hG hzn hun hc4 hc5⟩) ?_ (by show (bO fl a z.1.1).length - (u.1.1 + 1) < (bO fl a z.1.1).length - u.1.1; omega)
    (refine dK.mk' ?_ ?_ <;> (repeat' (first | exact aJ | exact aI | refine aB ?_ (Ty.aW _) | refine aB ?_ (Ty.aF _) | refine aG rfl (Cont.aF _) ?_ | refine aG rfl ?_ ?_ | refine aB ?_ ?_)))
    all_goals skip
    all_goals first | exact Cont.eF (Mz hc4) | exact Cont.eF (MH hc4) | exact Ty.ah (Mo hc4)
   refine ak (bV (aC (aA ?_)))
   refine b9 rfl rfl (by omega) (by omega) ?_
   refine bQ rfl (aD ?_)
   refine bZ (⟨(u.1.1 + 1, nC fl (dB has less) u.1.2 z.1.1 (nth (bO fl a z.1.1) u.1.1)), by exact u.2.Mh hzn hun hc4⟩) ?_ (by show (bO fl a z.1.1).length - (u.1.1 + 1) < (bO fl a z.1.1).length - u.1.1; omega)
   (refine dK.mk' ?_ ?_ <;> (repeat' (first | exact aJ | exact aI | refine aB ?_ (Ty.aW _) | refine aB ?_ (Ty.aF _) | refine aG rfl (Cont.aF _) ?_ | refine aG rfl ?_ ?_ | refine aB ?_ ?_)))
   all_goals skip
   all_goals first | exact Cont.eF (M7 hc4) | exact Cont.eF (MA hc4) | exact Ty.ah (MC hc4)
  refine cg (aR (aR (bA rfl (bV (aC (aA ?_))))))
  refine b9 rfl rfl (by omega) (by omega) ?_
  refine bQ rfl (aD ?_)
  refine bZ (⟨(z.1.1 + 1, u.1.2), u.2.cell (by show ¬ (y.cells + 1) ≤ z.1.1; omega) (by show (bO fl a z.1.1).length ≤ u.1.1; omega)⟩) ?_ (by show (y.cells + 1) - (z.1.1 + 1) < (y.cells + 1) - z.1.1; omega)
  (refine dK.mk' ?_ ?_ <;> (repeat' (first | exact aJ | exact aI | refine aB ?_ (Ty.aW _) | refine aB ?_ (Ty.aF _) | refine aG rfl (Cont.aF _) ?_)))
  all_goals skip
 refine cg (aR (aR (bA rfl (aC (aE (aA (bQ rfl (bE rfl rfl rfl (aD ?_)))))))))
 refine aC ?_
 refine au rfl (fun hc8 => ?_) (fun hc8 => ?_)
 ·
  refine aE (aA (mP rfl (aD (aC (ay (bG (aV (aV (bG ?_)))))))))
  refine aV (uB ?_)
  refine fZ [1000] rfl rfl (by decide) (by repeat (first | exact ej | refine dx rfl (cA (by decide) rfl) ?_)) ?_
  all_goals skip
  all_goals exact Ca (z.2.stop (by show (y.cells + 1) ≤ z.1.1; omega) (by assumption))
 refine ak (bV (aC (aA ?_)))
 refine b9 rfl rfl (by omega) (by omega) ?_
 refine bQ rfl (aD ?_)
 refine bZ (⟨(x.1.1 + 1, ⟨z.1.2.worth, z.1.2.by_, -1⟩), z.2.round (by show (y.cells + 1) ≤ z.1.1; omega) (by assumption), rfl⟩) ?_ (by show (y.cells + 1) - (x.1.1 + 1) < (y.cells + 1) - x.1.1; omega)
 (refine dK.mk' ?_ ?_ <;> (repeat' (first | exact aJ | exact aI | refine aB ?_ (Ty.aW _) | refine aB ?_ (Ty.aF _) | refine aG rfl (Cont.aF _) ?_)))
 all_goals skip
end Go.Proofs.YtelbollidfdcjaaGreat
namespace Go.Proofs.YtelbollidfdcjaaGreat
open Go Go.T
set_option maxHeartbeats 16000000
theorem J5 : Tryz.prog.underlying 28 = some (.slice 3) := by kernel_rfl
theorem KW : Tryz.prog.underlying 222 = some (.slice 199) := by kernel_rfl
section
variable {y : bD} {fl : List bz} {a : List Int} {n : Nat} {has : Nat → Bool} {xs : List Int}
theorem NX {G : Nat → Int} (h : gb fl n a) : Ls fl n G a a := ⟨h, rfl⟩
theorem HV {c : Nat → Bool} {b : Nat} (hl : a.length = (aO y c).length) (hb : b < y.bins.length) : y.kept b 0 < a.length := by rw [hl]; exact Ds hb (Nat.zero_le _)
theorem Jk {x : List Int} {i k : Nat} (h : i = k) : iq has x i = iq has x k := by rw [h]
theorem I7 (fl : List bz) (has : Nat → Bool) (x : List Int) : iq has x fl.length = jB fl has x := rfl
theorem JN (hN : Net fl n) (hn : 0 < n) (hB : Bd fl) (h : gb fl n a) : (⟨jB fl has (gQ fl n (dB has true) a), jB fl has (gQ fl n (dB has false) (BO fl n has a))⟩ : Span) = gj fl n has := (rW hN hn hB h).2.2.eq.symm
def iH (y : bD) (a : List Int) (k : Nat) : List Int := (List.range k).map fun b => nth a (y.kept b 0)
theorem Bt (k : Nat) : iH y a k ++ [nth a (y.kept k 0)] = iH y a (k + 1) := by unfold iH; rw [List.range_succ, List.map_append]; rfl
theorem B6 : iH y a 0 = [] := rfl
theorem CW (k : Nat) : (iH y a k).length = k := by unfold iH; rw [List.length_map, List.length_range]
theorem told_eq (y : bD) (a : List Int) : (⟨iH y a y.bins.length, a.drop (y.bins.length * (y.D + 1))⟩ : ep) = gL y a := rfl
theorem Hf (h : xs = []) : (Ty.kK (.slice none 0 0)).Sub (Ty.row cT 3 26 xs) := by subst h; exact Ty.l8
theorem lo_eq (fl : List bz) (n : Nat) (has : Nat → Bool) (a : List Int) : gQ fl n (dB has true) a = BO fl n has a := rfl
theorem hi_eq (fl : List bz) (n : Nat) (has : Nat → Bool) (a : List Int) : gQ fl n (dB has false) (BO fl n has a) = yZ fl n has a := rfl
end
attribute [local irreducible] aO gk Way.gu Way.fin Way.room ef eI fA gU over bO cR dh eY jW fE gy kO cY gP gA gC dB cL gQ oZ iX iq jB gj BO yZ iH bD.kept
attribute [local irreducible] iY fX nD qR jG jJ jI jK jF qu jD qw eJ gm qF gx ql nth fU dn af dy bodyPost Exit.then Exit.inBlock Code.wp Code.wpIn qh jH qi qX jC eT cZ cq bodyPostM eR
set_option maxRecDepth 100000 in
theorem Ag (l : List Int) (h : l.length ≤ 1000) : dy Tryz.prog 172 [Ty.sl cT l] (Ty.sl cT l) := by
 refine av Tryz.func172 rfl (by decide) Tryz.ntmps172 (by exact Nat.le_of_ble_eq_true rfl) fun w0 M0 => ?_
 refine aE (aA (mP rfl (aD (aC (aE (aE (aA (gB rfl (DV J5 rfl ?_)))))))))
 refine aD (aC ?_)
 refine yO rfl (fun hc1 => ?_) (fun hc1 => ?_)
 ·
  refine aE (aA (mP rfl (aD (aC (ay (aV (bh rfl rfl ?_)))))))
  all_goals skip
  exact gK hc1
 refine ak (aC (aE (aA ?_)))
 refine vc (E := cT) rfl rfl rfl rfl ?_
 refine gB rfl ?_
 refine fP rfl rfl (by decide) rfl rfl rfl rfl rfl rfl (by decide) (by (simp <;> omega)) (by (simp <;> omega)) ?_
 refine Fb rfl (aD (aC (ay (bh rfl rfl ?_))))
 all_goals exact Dv (by decide)
 skip
set_option maxRecDepth 100000 in
theorem Ga (y : bD) (fl : List bz) (a : List Int) (h : lK y fl a) (hfe : gb fl (y.cells + 1) a) (th : Ty) (h1 : th.deps = []) (h2 : th.cdeps = []) (has : Nat → Bool) (hf : ∀ i, i < fl.length → nW Tryz.prog (Ty.nd th h1 h2) [Ty.int .i64 ((i : Nat) : Int)] (Ty.bool (has i))) (less : Bool) : eT Tryz.prog 164 [1000] [(1000, Cont.vec cT 3 a)] [Ty.pp (eO y fl 1000 fl.length), Ty.agg [Ty.nd th h1 h2, Ty.bool less]] [(1000, Cont.vec cT 3 (gQ fl (y.cells + 1) (dB has less) a))] (Ty.int .i64 (jB fl has (gQ fl (y.cells + 1) (dB has less) a))) := by
 refine dc Tryz.func164 rfl (by decide) Tryz.ntmps164 (by exact Nat.le_of_ble_eq_true rfl) fun w0 M0 => ?_
 have hN := h.net
 have hfl := h.ou
 have hcl := mz h.right
 have hG := sB (has := has) less
 have hn : 0 < (y.cells + 1) := Nat.succ_pos _
 refine aE (aA (bR rfl (cF rfl (aD (aC (aE (aq ?_)))))))
 refine cj (fun (b : {b : List Int // Ls fl (y.cells + 1) (dB has less) a b}) => live [(0, Ty.pp (eO y fl 1000 fl.length)), (3, Ty.pp [Ty.nd th h1 h2, Ty.bool less])] [(1000, Cont.vec cT 3 b.1)]) (fun b => (300 * fl.length - kf fl (dB has less) b.1).toNat) (⟨a, NX hfe⟩) ?_ fun b => ?_
 ·(refine dK.mk' ?_ ?_ <;> (repeat' (first | exact aJ | exact aI | refine aB ?_ (Ty.aW _) | refine aB ?_ (Ty.aF _) | refine aG rfl (Cont.aF _) ?_)))
 have hF : lK y fl b.1 := ⟨h.right, h.net, h.bd, b.2.feas.1, h.ou⟩
 have hal := hF.inb.1
 refine aq (aE (aA (jo rfl ?_)))
 refine aZ rfl rfl rfl (by exact Nat.le_of_ble_eq_true rfl) ?_
 refine bt [(1000, 1000)] [] [(1000, Cont.vec cT 3 b.1)] (Hh y fl b.1 hF th h1 h2 has hf less) rfl rfl (aH (aH bL (aM rfl rfl)) (fD (aH (aH (aH (aH (aH (aH bL (eM (by exact List.mem_cons_self))) (aM rfl rfl)) (aM rfl rfl)) (aM rfl rfl)) (aM rfl rfl)) (aM rfl rfl)))) (b8 (a := 1000) (b := 1000) (by exact List.mem_cons_self) rfl (cA (by exact List.mem_cons_self) rfl) pre_nil) (bJ (a := 1000) (b := 1000) (by decide) rfl (cA (by decide) rfl) post_nil) (aM rfl rfl) ?_
 refine Nq rfl (aD (aC (aE (aE (aA (Nn rfl (G8 KW rfl (aD (aC ?_)))))))))
 refine cv rfl (fun hc1 => ?_) (fun hc1 => ?_)
 ·
  refine cg (aR (gJ rfl (aR (bA rfl (aC (aE ?_))))))
  have hb : b.1 = (gQ fl (y.cells + 1) (dB has less) a) := b.2.done (List.isEmpty_iff.1 hc1)
  have hF2 : lK y fl (gQ fl (y.cells + 1) (dB has less) a) := by rw [← hb]; exact hF
  have hal2 := hF2.inb.1
  refine gM (tg := 1000) rfl (Cont.eF hb) ?_
  refine aA (cF rfl (aD (aC (aE (aE (aA (jo rfl (bq rfl ?_))))))))
  refine aQ rfl rfl rfl rfl rfl (by decide) ?_
  refine aL rfl rfl rfl rfl (rP rfl rfl rfl (bQ rfl (aD (aC (aq ?_)))))
  refine cj (fun (i : {i : Nat // i ≤ fl.length}) => live [(0, Ty.pp (eO y fl 1000 fl.length)), (3, Ty.pp [Ty.nd th h1 h2, Ty.bool less]), (11, Ty.int .i64 (iq has (gQ fl (y.cells + 1) (dB has less) a) i.1)), (43, Ty.vs 1000 fl.length), (44, Ty.int .i64 fl.length), (45, Ty.int .i64 (i.1 : Nat))] [(1000, Cont.vec cT 3 (gQ fl (y.cells + 1) (dB has less) a))]) (fun i => fl.length - i.1) (⟨0, by omega⟩) ?_ fun i => ?_
  ·(refine dK.mk' ?_ ?_ <;> (repeat' (first | exact aJ | exact aI | refine aB ?_ (Ty.aW _) | refine aB ?_ (Ty.aF _) | refine aG rfl (Cont.aF _) ?_ | refine aB ?_ ?_)))
   all_goals exact Ty.ah (by unfold iq; rfl)
  have hi := i.2
  have hup := FM (has := has) (x := (gQ fl (y.cells + 1) (dB has less) a)) (k := i.1) fun q hq => (hF2.LG (by omega)).1
  refine aE (aA (bE rfl rfl rfl (aD (aC (aE ?_)))))
  refine au rfl (fun hc2 => ?_) (fun hc2 => ?_)
  ·
   refine ak (aC (aE (aq (aE (aA (bQ rfl ?_))))))
   refine eK rfl rfl rfl rfl rfl (by omega) ?_
   refine e9 rfl rfl rfl (by decide) rfl rfl (by omega) rfl ?_
   refine cF rfl (cF rfl (aD (aC (aE ?_))))
   have hai := (hF2.LG (show i.1 < fl.length by omega)).1
   refine aA ?_
   refine aQ rfl rfl rfl rfl rfl (by decide) ?_
   refine aL rfl rfl rfl rfl (bQ rfl ?_)
   refine eX rfl (hf i.1 (by omega)) rfl ?_
   refine aD (aC ?_)
   refine cv rfl (fun hc3 => ?_) (fun hc3 => ?_)
   ·
    refine aA (bQ rfl (bQ rfl ?_))
    refine b9 rfl rfl (by omega) (by omega) ?_
    refine cF rfl (aD (bV (aC (aA ?_))))
    refine b9 rfl rfl (by omega) (by omega) ?_
    refine bQ rfl (aD ?_)
    refine bZ (⟨i.1 + 1, by omega⟩) ?_ (by show fl.length - (i.1 + 1) < fl.length - i.1; omega)
    (refine dK.mk' ?_ ?_ <;> (repeat' (first | exact aJ | exact aI | refine aB ?_ (Ty.aW _) | refine aB ?_ (Ty.aF _) | refine aG rfl (Cont.aF _) ?_ | refine aB ?_ ?_)))
    all_goals skip
    all_goals exact Ty.ah (Ee hc3)
   refine ak (bV (aC (aA ?_)))
   refine b9 rfl rfl (by omega) (by omega) ?_
   refine bQ rfl (aD ?_)
   refine bZ (⟨i.1 + 1, by omega⟩) ?_ (by show fl.length - (i.1 + 1) < fl.length - i.1; omega)
   (refine dK.mk' ?_ ?_ <;> (repeat' (first | exact aJ | exact aI | refine aB ?_ (Ty.aW _) | refine aB ?_ (Ty.aF _) | refine aG rfl (Cont.aF _) ?_ | refine aB ?_ ?_)))
   all_goals skip
   all_goals exact Ty.ah (Gt hc3)
  refine cg (aR (aR (bA rfl (aC (aE (aA (bQ rfl (cF rfl (aD ?_)))))))))
  refine aC (ay ?_)
  refine fZ [1000] rfl rfl (by decide) (by repeat (first | exact ej | refine dx rfl (cA (by decide) rfl) ?_)) ?_
  all_goals skip
  all_goals exact fK (n4 rfl rfl (congrArg (Ty.int .i64) ((Jk (by have := i.2; omega)).trans (I7 fl has _))))
 refine ak (aC (aE ?_))
 refine fW (s := 5) rfl (show (Ty.Fc fy (cL fl b.1 (y.cells + 1) (dB has less))).Sub (Ty.sl fy (cL fl b.1 (y.cells + 1) (dB has less))) from Ty.LK) ?_
 have hne : ¬ (cL fl b.1 (y.cells + 1) (dB has less)) = [] := fun e => by rw [e] at hc1; cases hc1
 have hnx := b.2.next hN hn h.bd hG hne
 have hC := hnx.2.2
 have hlen := hC.ou
 refine aA (cF rfl (aD (aC (aE (aE (aA (gB rfl (c9 rfl rfl rfl (bQ rfl ?_)))))))))
 refine aD (aC (aq ?_))
 refine cj (fun (j : {j : Nat // j ≤ (cL fl b.1 (y.cells + 1) (dB has less)).length}) => live [(0, Ty.pp (eO y fl 1000 fl.length)), (3, Ty.pp [Ty.nd th h1 h2, Ty.bool less]), (5, Ty.sl fy (cL fl b.1 (y.cells + 1) (dB has less))), (6, Ty.int .i64 (fE fl b.1 300 ((cL fl b.1 (y.cells + 1) (dB has less)).take j.1))), (19, Ty.sl fy (cL fl b.1 (y.cells + 1) (dB has less))), (20, Ty.int .i64 (cL fl b.1 (y.cells + 1) (dB has less)).length), (21, Ty.int .i64 (j.1 : Nat))] [(1000, Cont.vec cT 3 b.1)]) (fun j => (cL fl b.1 (y.cells + 1) (dB has less)).length - j.1) (⟨0, by omega⟩) ?_ fun j => ?_
 ·(refine dK.mk' ?_ ?_ <;> (repeat' (first | exact aJ | exact aI | refine aB ?_ (Ty.aW _) | refine aB ?_ (Ty.aF _) | refine aG rfl (Cont.aF _) ?_ | refine aB ?_ ?_)))
  all_goals exact Ty.ah (vU _ _ _)
 have hj := j.2
 refine aE (aA (bE rfl rfl rfl (aD (aC (aE ?_)))))
 refine au rfl (fun hc4 => ?_) (fun hc4 => ?_)
 ·
  refine ak (aC (aE (aq (aE (aA ?_)))))
  refine bT rfl rfl rfl rfl rfl rfl (by omega) ?_
  refine aZ rfl rfl rfl (by exact Nat.le_of_ble_eq_true rfl) ?_
  refine cH rfl (by exact List.cons_ne_nil _ _) rfl ?_
  refine cJ rfl rfl (by decide) rfl rfl rfl rfl rfl rfl ?_
  refine aD (aC (aE ?_))
  have hwj := hC.ways _ (dD (xs := (cL fl b.1 (y.cells + 1) (dB has less))) (k := j.1) (by omega))
  refine aA (jo rfl ?_)
  refine bU rfl rfl (by decide) rfl rfl (by exact Nat.le_of_ble_eq_true rfl) ?_
  refine dW [1000] (Dr y fl b.1 hF (nth (cL fl b.1 (y.cells + 1) (dB has less)) j.1) hwj.1) rfl (aK (kQ (aK (aa (bH rfl rfl)) (aK (aa (bH rfl rfl)) (aK (aa (bH rfl rfl)) (aK (aa (bH rfl rfl)) (aK (aa (bH rfl rfl)) (aK (gY rfl hal (by decide) rfl) bW))))))) (aK (aa (bH rfl rfl)) bW)) (by exact j4 (by repeat (first | exact j3 | refine iB (by exact dF _ _) ?_))) ?_
  refine p8 rfl (bM rfl rfl (bM rfl rfl (cF rfl (cF rfl (aD (aC (aA (bQ rfl (bQ rfl ?_)))))))))
  refine bp (E := cT) (xs := [_]) rfl rfl rfl rfl rfl (by decide) (by decide) (by repeat (first | exact (aY.nil : aY _ _ [] _) | (show aY _ _ ((_, _) :: _) _; apply aY.one; (· exact (rfl : _ = Ty.int _ _)); (· exact rfl)))) (by exact rfl) rfl ?_
  refine aj (rU _ _) rfl rfl rfl rfl rfl (cF rfl (aD (bV (aC (aA ?_)))))
  refine b9 rfl rfl (by omega) (by omega) ?_
  refine bQ rfl (aD ?_)
  refine bZ (⟨j.1 + 1, by omega⟩) ?_ (by show (cL fl b.1 (y.cells + 1) (dB has less)).length - (j.1 + 1) < (cL fl b.1 (y.cells + 1) (dB has less)).length - j.1; omega)
  (refine dK.mk' ?_ ?_ <;> (repeat' (first | exact aJ | exact aI | refine aB ?_ (Ty.aW _) | refine aB ?_ (Ty.aF _) | refine aG rfl (Cont.aF _) ?_ | refine aB ?_ ?_)))
  all_goals skip
  all_goals exact Ty.ah (by rw [dw (by omega)]; exact wU)
 refine cg (aR (aR (bA rfl (aC ?_))))
 have hmp := p4 (fl := fl) (a := b.1) (m := 300) (by decide) (cL fl b.1 (y.cells + 1) (dB has less)) hC.ways
 have hml := (rS (fl := fl) (a := b.1) 300 (cL fl b.1 (y.cells + 1) (dB has less))).1
 refine fW (s := 6) rfl (Ty.ah (by rw [List.take_of_length_le (by omega)] : _ = fE fl b.1 300 (cL fl b.1 (y.cells + 1) (dB has less)))) ?_
 refine aA (jo rfl (gB rfl (bQ rfl ?_)))
 refine bt [(1000, 1000)] [] [(1000, Cont.vec cT 3 (eI b.1 (cL fl b.1 (y.cells + 1) (dB has less)) (fE fl b.1 300 (cL fl b.1 (y.cells + 1) (dB has less)))))] (H7 y fl b.1 hF (cL fl b.1 (y.cells + 1) (dB has less)) (by omega) (fun w hw => (hC.ways w hw).1) (fE fl b.1 300 (cL fl b.1 (y.cells + 1) (dB has less))) (by omega)) rfl rfl (aH (aH (aH bL (aM rfl rfl)) (aM rfl rfl)) (fD (aH (aH (aH (aH (aH (aH bL (eM (by exact List.mem_cons_self))) (aM rfl rfl)) (aM rfl rfl)) (aM rfl rfl)) (aM rfl rfl)) (aM rfl rfl)))) (b8 (a := 1000) (b := 1000) (by exact List.mem_cons_self) rfl (cA (by exact List.mem_cons_self) rfl) pre_nil) (bJ (a := 1000) (b := 1000) (by decide) rfl (cA (by decide) rfl) post_nil) (aM rfl rfl) ?_
 refine aD (bV ?_)
 refine bZ (⟨eI b.1 (cL fl b.1 (y.cells + 1) (dB has less)) (fE fl b.1 300 (cL fl b.1 (y.cells + 1) (dB has less))), hnx.1⟩) ?_ (by exact hnx.2.1)
 (refine dK.mk' ?_ ?_ <;> (repeat' (first | exact aJ | exact aI | refine aB ?_ (Ty.aW _) | refine aB ?_ (Ty.aF _) | refine aG rfl (Cont.aF _) ?_)))
 all_goals skip
set_option maxRecDepth 100000 in
theorem Ch (y : bD) (fl : List bz) (a : List Int) (h : lK y fl a) (hfe : gb fl (y.cells + 1) a) (th : Ty) (h1 : th.deps = []) (h2 : th.cdeps = []) (has : Nat → Bool) (hf : ∀ i, i < fl.length → nW Tryz.prog (Ty.nd th h1 h2) [Ty.int .i64 ((i : Nat) : Int)] (Ty.bool (has i))) (ho : th.one = true) : eT Tryz.prog 87 [1000] [(1000, Cont.vec cT 3 a)] [Ty.pp (eO y fl 1000 fl.length), Ty.nd th h1 h2] [(1000, Cont.vec cT 3 (yZ fl (y.cells + 1) has a))] (Ty.agg (dz.tys (gj fl (y.cells + 1) has))) := by
 refine dc Tryz.func87 rfl (by decide) Tryz.ntmps87 (by exact Nat.le_of_ble_eq_true rfl) fun w0 M0 => ?_
 have hsp := rW (has := has) h.net (Nat.succ_pos _) h.bd hfe
 have hF : lK y fl (BO fl (y.cells + 1) has a) := ⟨h.right, h.net, h.bd, hsp.1.1, h.ou⟩
 refine aE (aA ?_)
 refine cH rfl (by exact List.cons_ne_nil _ _) rfl ?_
 refine aD (aC (aE (aA (jo rfl ?_))))
 refine eE (ty := Ty.nd th h1 h2) rfl ?_
 refine dS rfl rfl (by exact List.cons_ne_nil _ _) rfl (aY.one (ty := Ty.nd th h1 h2) rfl ho (aY.one (ty := Ty.bool true) rfl rfl aY.nil)) (by exact (rfl : _ = some [_, _])) ?_
 refine bt [(1000, 1000)] [] [(1000, Cont.vec cT 3 (BO fl (y.cells + 1) has a))] (Ga y fl a h hfe th h1 h2 has hf true) rfl rfl (aH (aH bL (aM rfl rfl)) (fD (aH (aH (aH (aH (aH (aH bL (eM (by exact List.mem_cons_self))) (aM rfl rfl)) (aM rfl rfl)) (aM rfl rfl)) (aM rfl rfl)) (aM rfl rfl)))) (b8 (a := 1000) (b := 1000) (by exact List.mem_cons_self) rfl (cA (by exact List.mem_cons_self) rfl) pre_nil) (bJ (a := 1000) (b := 1000) (by decide) rfl (cA (by decide) (lo_eq _ _ _ _)) post_nil) (aM rfl rfl) ?_
 refine cF rfl (aD (aC (aE (aA (bQ rfl (jo rfl ?_))))))
 refine eE (ty := Ty.nd th h1 h2) rfl ?_
 refine dS rfl rfl (by exact List.cons_ne_nil _ _) rfl (aY.one (ty := Ty.nd th h1 h2) rfl ho (aY.one (ty := Ty.bool false) rfl rfl aY.nil)) (by exact (rfl : _ = some [_, _])) ?_
 refine bt [(1000, 1000)] [] [(1000, Cont.vec cT 3 (yZ fl (y.cells + 1) has a))] (Ga y fl (BO fl (y.cells + 1) has a) hF hsp.1 th h1 h2 has hf false) rfl rfl (aH (aH bL (aM rfl rfl)) (fD (aH (aH (aH (aH (aH (aH bL (eM (by exact List.mem_cons_self))) (aM rfl rfl)) (aM rfl rfl)) (aM rfl rfl)) (aM rfl rfl)) (aM rfl rfl)))) (b8 (a := 1000) (b := 1000) (by exact List.mem_cons_self) rfl (cA (by exact List.mem_cons_self) rfl) pre_nil) (bJ (a := 1000) (b := 1000) (by decide) rfl (cA (by decide) (hi_eq _ _ _ _)) post_nil) (aM rfl rfl) ?_
 refine dS rfl rfl (by exact List.cons_ne_nil _ _) rfl (by repeat (first | exact (aY.nil : aY _ _ [] _) | (show aY _ _ ((_, _) :: _) _; apply aY.one; (· exact (rfl : _ = Ty.int _ _)); (· exact rfl)))) (by exact (rfl : _ = some [_, _])) ?_
 refine cJ rfl rfl (by decide) rfl rfl rfl rfl rfl rfl ?_
 refine aD (aC (ay ?_))
 refine DK [1000] rfl rfl rfl rfl (by decide) rfl rfl rfl (by decide) (by repeat (first | exact ej | refine dx rfl (cA (by decide) rfl) ?_)) ?_
 all_goals skip
 all_goals exact fK (n4 rfl rfl (congrArg (fun s => Ty.agg (dz.tys s)) (JN h.net (Nat.succ_pos _) h.bd hfe)))
set_option maxRecDepth 100000 in
theorem K9 (y : bD) (c : Nat → Bool) (a : List Int) (hr : y.cm) (hl : a.length = (aO y c).length) : dy Tryz.prog 120 [Ty.pp (l9 y (aO y c) a)] (qM (gL y a)) := by
 refine av Tryz.func120 rfl (by decide) Tryz.ntmps120 (by exact Nat.le_of_ble_eq_true rfl) fun w0 M0 => ?_
 have hfl := fH (y := y) (c := c)
 have h1 := hr.bins
 have h2 := hr.days
 have h3 := D_eq hr
 have h4 := hr.moves
 have hf34 : (aO y c).length ≤ 34 := j7 hr
 refine aE (aA ?_)
 refine cH rfl (by exact List.cons_ne_nil _ _) rfl ?_
 refine aD (aC (aE (aA ?_)))
 refine cH rfl (by exact List.cons_ne_nil _ _) rfl ?_
 refine aD (aC (aE (aE (aA (jo rfl (bq rfl ?_))))))
 refine aQ rfl rfl rfl rfl rfl (by decide) ?_
 refine aQ rfl rfl rfl rfl rfl (by decide) ?_
 refine aL rfl rfl rfl rfl (c9 rfl rfl rfl (bQ rfl (aD (aC (aq ?_)))))
 refine cj (fun (k : {k : Nat // k ≤ y.bins.length}) => live [(0, Ty.pp (l9 y (aO y c) a)), (2, Ty.ptr 3 0), (3, Ty.ptr 4 0), (9, Ty.sl eH y.bins), (10, Ty.int .i64 y.bins.length), (11, Ty.int .i64 (k.1 : Nat))] [(3, Cont.cells 30 [Ty.ex (.slice none 0 0), Ty.ex (.slice none 0 0)]), (4, Cont.cells 30 [Ty.row cT 3 26 (iH y a k.1), Ty.ex (.slice none 0 0)])]) (fun k => y.bins.length - k.1) (⟨0, by omega⟩) ?_ fun k => ?_
 ·(refine dK.mk' ?_ ?_ <;> (repeat' (first | exact aJ | exact aI | exact dO | refine aB ?_ (Ty.aW _) | refine aB ?_ (Ty.aF _) | refine aG rfl (Cont.aF _) ?_ | refine aG rfl (Cont.dM ?_) ?_ | refine bY ?_ (Ty.aF _) | refine bY ?_ ?_)))
  all_goals exact Hf B6
 have hk := k.2
 have hfk := CW (y := y) (a := a) k.1
 refine aE (aA (bE rfl rfl rfl (aD (aC (aE ?_)))))
 refine au rfl (fun hc1 => ?_) (fun hc1 => ?_)
 ·
  refine ak (aC (aE (aq (aE (aA (bQ rfl (cF rfl (aD (aC ?_)))))))))
  have hkl := HV hl (show k.1 < y.bins.length by omega)
  refine cW mixed rfl ?_
  refine aN rfl rfl rfl rfl rfl (by decide) ?_
  refine aX rfl rfl (by decide) rfl rfl rfl ?_
  refine jo rfl (bq rfl ?_)
  refine aQ rfl rfl rfl rfl rfl (by decide) ?_
  refine aL rfl rfl rfl rfl (jo rfl (bQ rfl ?_))
  refine dW [] (DC y hr k.1 0 (by omega) (Nat.zero_le _)) rfl (aK (mg (l1 := bl y) (l2 := [Ty.sl eA (aO y c), Ty.sl cT a]) rfl rfl) (aK (aa (bH rfl rfl)) (aK (aa (bH rfl rfl)) bW))) (by exact dF _ _) ?_
  refine bT rfl rfl rfl rfl rfl rfl (by omega) ?_
  refine aL rfl rfl rfl rfl ?_
  refine bp (E := cT) (xs := [_]) rfl rfl rfl rfl rfl (by decide) (by decide) (by repeat (first | exact (aY.nil : aY _ _ [] _) | (show aY _ _ ((_, _) :: _) _; apply aY.one; (· exact (rfl : _ = Ty.int _ _)); (· exact rfl)))) (by exact rfl) rfl ?_
  refine fP rfl rfl (by decide) rfl rfl rfl rfl rfl rfl (by decide) (by (simp <;> omega)) (by (simp <;> omega)) ?_
  refine aN rfl rfl rfl rfl rfl (by decide) ?_
  refine cx rfl rfl (by decide) rfl rfl (by exact (rfl : _ = Ty.row _ _ _ _)) rfl (by exact Nat.le_of_ble_eq_true rfl) rfl rfl (by exact rfl) ?_
  refine aD ?_
  refine ⟨by kernel_rfl, ?_⟩
  refine bV (aC (aA ?_))
  refine b9 rfl rfl (by omega) (by omega) ?_
  refine bQ rfl (aD ?_)
  refine bZ (⟨k.1 + 1, by omega⟩) ?_ (by show y.bins.length - (k.1 + 1) < y.bins.length - k.1; omega)
  (refine dK.mk' ?_ ?_ <;> (repeat' (first | exact aJ | exact aI | exact dO | refine aB ?_ (Ty.aW _) | refine aB ?_ (Ty.aF _) | refine aG rfl (Cont.aF _) ?_ | refine aG rfl (Cont.dM ?_) ?_ | refine bY ?_ (Ty.aF _) | refine bY ?_ ?_)))
  all_goals skip
  all_goals exact Ty.fo (Bt _)
 refine cg (aR (aR (bA rfl (aC (aE (cW mixed rfl (jo rfl (bq rfl ?_))))))))
 refine aQ rfl rfl rfl rfl rfl (by decide) ?_
 refine aL rfl rfl rfl rfl (jo rfl (bq rfl ?_))
 refine aQ rfl rfl rfl rfl rfl (by decide) ?_
 refine aL rfl rfl rfl rfl (c9 rfl rfl rfl (jo rfl (bq rfl ?_)))
 refine aQ rfl rfl rfl rfl rfl (by decide) ?_
 refine aQ rfl rfl rfl rfl rfl (by decide) ?_
 refine aL rfl rfl rfl rfl (c9 rfl rfl rfl ?_)
 refine gw rfl rfl (by omega) (by omega) ?_
 refine HX (lo := y.bins.length * (y.D + 1)) rfl (by exact congrArg (Ty.int .i64) (by rw [hfl]; omega : ((aO y c).length : Int) - (y.moves.length : Int) = ((y.bins.length * (y.D + 1) : Nat) : Int))) rfl rfl rfl rfl (by rw [hl]; omega) ?_
 refine aj (Ag _ (by rw [List.length_drop]; omega)) rfl rfl rfl rfl rfl ?_
 refine aN rfl rfl rfl rfl rfl (by decide) ?_
 refine cx rfl rfl (by decide) rfl rfl (by exact (rfl : _ = Ty.sl _ _)) rfl (by exact Nat.le_of_ble_eq_true rfl) rfl rfl (by exact rfl) ?_
 refine aD ?_
 refine ⟨by kernel_rfl, ?_⟩
 refine aC (aE (aA ?_))
 refine bU rfl rfl (by decide) rfl rfl (by exact Nat.le_of_ble_eq_true rfl) ?_
 refine cJ rfl rfl (by decide) rfl rfl rfl rfl rfl rfl ?_
 refine aD (aC (ay ?_))
 refine zg rfl rfl rfl rfl (by decide) rfl rfl rfl ?_
 exact DX (ts := eB (gL y a)) (pS (vD (by decide) (show iH y a k.1 = (gL y a).first by rw [show k.1 = y.bins.length by have := k.2; omega]; exact congrArg ep.first (told_eq y a))) (pS (cM rfl rfl) Ap))
end Go.Proofs.YtelbollidfdcjaaGreat
