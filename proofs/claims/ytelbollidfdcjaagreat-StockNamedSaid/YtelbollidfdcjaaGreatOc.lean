/- Lemmas: the program and the reference walked, plain laws. -/
import Derived.Test.YtelbollidfdcjaaGreatOb
namespace Go.Proofs.YtelbollidfdcjaaGreat
open Go Go.T
set_option maxHeartbeats 2000000
structure ah.Small (y : ah) : Prop where
  bins : y.bins.length ≤ 1000
  moves : y.moves.length ≤ 1000
  levels : y.levels.length ≤ 1000
def yC (y : ah) : Ty := Ty.OE 135 [fI y]
def Ge (y : ah) : Ty := Ty.pp [Ty.jC 142 [Ty.pp [yC y]]]
theorem GX {y : ah} (h : mW y = false) : 1 ≤ y.days ∧ y.days ≤ 5 := by
 unfold mW at h
 simp only [Bool.or_eq_false_iff, Bool.not_eq_false', iL] at h
 exact h.1.1.1
def eO (y : ah) (k : Int) : Int := if bT y = 0 then if y.bin k = true then 0 else 1 else bT y
theorem GF {y : ah} {k : Int} (h : (decide (bT y = 0) && !y.bin k) = true) : 1 = eO y k := by
 rw [Bool.and_eq_true, decide_eq_true_eq, Bool.not_eq_true'] at h
 unfold eO; rw [if_pos h.1, if_neg (by rw [h.2]; decide)]
theorem GJ {y : ah} {k : Int} (h : (decide (bT y = 0) && !y.bin k) = false) : bT y = eO y k := by
 unfold eO
 by_cases e : bT y = 0
 ·rw [decide_eq_true e, Bool.true_and, Bool.not_eq_false'] at h
  rw [if_pos e, if_pos h, e]
 rw [if_neg e]
attribute [local irreducible] iN fQ m5 qc ir iW ij iy iw qY iZ qW dz ga qV gG qd nth fP dh aa dy bodyPost Exit.then Exit.inBlock Code.wp Code.wpIn qh iq qb qU ia dn cU cj bodyPostM eF
set_option maxRecDepth 100000 in
theorem vA (n lo hi : Int) : dy Tryz.prog 111 [Ty.int .i64 n, Ty.int .i64 lo, Ty.int .i64 hi] (Ty.bool (BN n lo hi)) := by
 refine bC Tryz.func111 rfl (by decide) Tryz.ntmps111 (by exact Nat.le_of_ble_eq_true rfl) fun w0 M0 => ?_
 refine aG (aA (dw rfl (aD (aC (aG (aA (bQ rfl (bQ rfl (bF rfl rfl rfl ?_)))))))))
 refine g8 rfl ?_
 apply aT (s := 10) rfl rfl rfl
 ·intro hg; apply aV; (refine bQ rfl ?_); refine aD ?_; exact rfl
 ·exact rfl
 ·exact rfl
 apply aT (s := 10) rfl rfl rfl
 ·intro hg; apply aV; (refine bQ rfl ?_); refine aD ?_; exact rfl
 ·exact rfl
 ·exact rfl
 apply aT (s := 10) rfl rfl rfl
 ·intro hg; apply aR (s := 11) rfl (by (rw [hg]; rfl)); apply aR (s := 12) rfl (by (rw [hg]; rfl)); apply aV; (refine bF rfl rfl rfl ?_); refine aD ?_; exact rfl
 ·exact rfl
 ·exact rfl
 refine eX rfl rfl (dw rfl (aD (aC (av (bz rfl rfl ?_)))))
 all_goals exact cV rfl rfl
set_option maxRecDepth 100000 in
theorem EJ (y : ah) (hs : y.Small) (n : Int) : dy Tryz.prog 135 [fI y, Ty.int .i64 n] (Ty.bool (y.bin n)) := by
 refine bC Tryz.func135 rfl (by decide) Tryz.ntmps135 (by exact Nat.le_of_ble_eq_true rfl) fun w0 M0 => ?_
 have hs1 := hs.bins
 refine aG (aA (bM rfl (dw rfl (aD (aC (aG (aA (bQ rfl ?_))))))))
 refine aO rfl rfl rfl rfl rfl (by decide) ?_
 refine aL rfl rfl rfl rfl (cY rfl rfl rfl ?_)
 refine iB rfl rfl (by omega) (by omega) ?_
 refine az (vA _ _ _) rfl rfl rfl rfl rfl (dw rfl (aD (aC (av (bz rfl rfl ?_)))))
 all_goals exact cV rfl rfl
set_option maxRecDepth 100000 in
theorem Me (y : ah) (n : Int) : dy Tryz.prog 122 [fI y, Ty.int .i64 n] (Ty.bool (y.time n)) := by
 refine bC Tryz.func122 rfl (by decide) Tryz.ntmps122 (by exact Nat.le_of_ble_eq_true rfl) fun w0 M0 => ?_
 refine aG (aA (bM rfl (dw rfl (aD (aC (aG (aA (bQ rfl ?_))))))))
 refine aO rfl rfl rfl rfl rfl (by decide) ?_
 refine aL rfl rfl rfl rfl (az (vA _ _ _) rfl rfl rfl rfl rfl (dw rfl (aD (aC (av (bz rfl rfl ?_))))))
 all_goals exact cV rfl rfl
set_option maxRecDepth 100000 in
theorem uK (s : Span) : dy Tryz.prog 145 [Ty.agg (dm.tys s)] (Ty.bool (gS s)) := by
 refine bC Tryz.func145 rfl (by decide) Tryz.ntmps145 (by exact Nat.le_of_ble_eq_true rfl) fun w0 M0 => ?_
 refine aG (aA (bM rfl (dw rfl (aD (aC (aG (aA ?_)))))))
 refine aO rfl rfl rfl rfl rfl (by decide) ?_
 refine aL rfl rfl rfl rfl (az (vA _ _ _) rfl rfl rfl rfl rfl (g8 rfl ?_))
 apply aT (s := 6) rfl rfl rfl
 ·intro hg; apply aV; (refine aO rfl rfl rfl rfl rfl (by decide) ?_); refine aD ?_; exact rfl
 ·exact rfl
 ·exact rfl
 apply aT (s := 6) rfl rfl rfl
 ·intro hg; apply aR (s := 7) rfl (by (rw [hg]; rfl)); apply aV; (refine aL rfl rfl rfl rfl ?_); refine aD ?_; exact rfl
 ·exact rfl
 ·exact rfl
 apply aT (s := 6) rfl rfl rfl
 ·intro hg; apply aR (s := 8) rfl (by (rw [hg]; rfl)); apply aV; (refine az (vA _ _ _) rfl rfl rfl rfl rfl ?_); refine aD ?_; exact rfl
 ·exact rfl
 ·exact rfl
 refine eX rfl rfl (dw rfl (aD (aC (av (bz rfl rfl ?_)))))
 all_goals exact cV rfl rfl
set_option maxRecDepth 100000 in
theorem wq (s : Span) : dy Tryz.prog 154 [Ty.agg (dm.tys s)] (Ty.bool (iC s)) := by
 refine bC Tryz.func154 rfl (by decide) Tryz.ntmps154 (by exact Nat.le_of_ble_eq_true rfl) fun w0 M0 => ?_
 refine aG (aA (bM rfl (dw rfl (aD (aC (aG (aA ?_)))))))
 refine aO rfl rfl rfl rfl rfl (by decide) ?_
 refine aL rfl rfl rfl rfl ?_
 refine aO rfl rfl rfl rfl rfl (by decide) ?_
 refine aL rfl rfl rfl rfl (bF rfl rfl rfl (dw rfl (aD (aC (av (bz rfl rfl ?_))))))
 all_goals exact cV rfl rfl
set_option maxRecDepth 100000 in
theorem CW (y : ah) (hs : y.Small) (n : Int) : dy Tryz.prog 142 [Ty.int .i64 n, Ty.pp [yC y]] (Ty.bool (y.fin n)) := by
 refine bC Tryz.func142 rfl (by decide) Tryz.ntmps142 (by exact Nat.le_of_ble_eq_true rfl) fun w0 M0 => ?_
 refine aG (aA (dw rfl (aD (aC (aG (aA (bQ rfl (bF rfl rfl rfl (g8 rfl ?_)))))))))
 apply aT (s := 6) rfl rfl rfl
 ·intro hg; apply aV; (refine aL rfl rfl rfl rfl ?_); refine aD ?_; exact rfl
 ·exact rfl
 ·exact rfl
 apply aT (s := 6) rfl rfl rfl
 ·intro hg; apply aV; (refine bQ rfl ?_); refine aD ?_; exact rfl
 ·exact rfl
 ·exact rfl
 apply aT (s := 6) rfl rfl rfl
 ·intro hg; apply aR (s := 7) rfl (by (rw [hg]; rfl)); apply aR (s := 8) rfl (by (rw [hg]; rfl)); apply aV; (refine ep rfl (EU (EJ y hs n) rfl rfl rfl rfl rfl rfl) rfl ?_); refine aD ?_; exact rfl
 ·exact rfl
 ·exact rfl
 refine qi rfl rfl (dw rfl (aD (aC (av (bz rfl rfl ?_)))))
 all_goals exact cV rfl rfl
set_option maxRecDepth 100000 in
theorem Hi (b : vE) : dy Tryz.prog 144 [Ty.agg (dO.tys b)] (Ty.bool (BN b.holds 0 300 && gS b.first)) := by
 refine bC Tryz.func144 rfl (by decide) Tryz.ntmps144 (by exact Nat.le_of_ble_eq_true rfl) fun w0 M0 => ?_
 refine aG (aA (bM rfl (dw rfl (aD (aC (aG (aA ?_)))))))
 refine aO rfl rfl rfl rfl rfl (by decide) ?_
 refine aL rfl rfl rfl rfl (az (vA _ _ _) rfl rfl rfl rfl rfl (g8 rfl ?_))
 apply aT (s := 6) rfl rfl rfl
 ·intro hg; apply aV; (refine aO rfl rfl rfl rfl rfl (by decide) ?_); refine aD ?_; exact rfl
 ·exact rfl
 ·exact rfl
 apply aT (s := 6) rfl rfl rfl
 ·intro hg; apply aR (s := 7) rfl (by (rw [hg]; rfl)); apply aV; (refine aZ rfl rfl rfl (by exact Nat.le_of_ble_eq_true rfl) ?_); refine aD ?_; exact rfl
 ·exact rfl
 ·exact rfl
 apply aT (s := 6) rfl rfl rfl
 ·intro hg; apply aR (s := 8) rfl (by (rw [hg]; rfl)); apply aV; (refine az (uK _) rfl rfl rfl rfl rfl ?_); refine aD ?_; exact rfl
 ·exact rfl
 ·exact rfl
 refine eX rfl rfl (dw rfl (aD (aC (av (bz rfl rfl ?_)))))
 all_goals exact cV rfl rfl
set_option maxRecDepth 100000 in
theorem IN (m : Move) : dy Tryz.prog 147 [Ty.agg (cR.tys m)] (Ty.bool (gS m.sacks)) := by
 refine bC Tryz.func147 rfl (by decide) Tryz.ntmps147 (by exact Nat.le_of_ble_eq_true rfl) fun w0 M0 => ?_
 refine aG (aA (bM rfl (dw rfl (aD (aC (aG (aA ?_)))))))
 refine aO rfl rfl rfl rfl rfl (by decide) ?_
 refine aZ rfl rfl rfl (by exact Nat.le_of_ble_eq_true rfl) ?_
 refine az (uK _) rfl rfl rfl rfl rfl (dw rfl (aD (aC (av (bz rfl rfl ?_)))))
 all_goals exact cV rfl rfl
set_option maxRecDepth 100000 in
theorem Gr (l : Level) : dy Tryz.prog 149 [Ty.agg (ct.tys l)] (Ty.bool (gS l.sacks)) := by
 refine bC Tryz.func149 rfl (by decide) Tryz.ntmps149 (by exact Nat.le_of_ble_eq_true rfl) fun w0 M0 => ?_
 refine aG (aA (bM rfl (dw rfl (aD (aC (aG (aA ?_)))))))
 refine aO rfl rfl rfl rfl rfl (by decide) ?_
 refine aZ rfl rfl rfl (by exact Nat.le_of_ble_eq_true rfl) ?_
 refine az (uK _) rfl rfl rfl rfl rfl (dw rfl (aD (aC (av (bz rfl rfl ?_)))))
 all_goals exact cV rfl rfl
set_option maxRecDepth 100000 in
theorem HX (y : ah) (hs : y.Small) (hd : 1 ≤ y.days ∧ y.days ≤ 5) (m : Move) : dy Tryz.prog 150 [Ty.agg (cR.tys m), Ty.pp (bK y), Ge y] (Ty.bool ((BN m.day 0 (y.days - 1) && y.fin m.src) && y.fin m.dst)) := by
 refine bC Tryz.func150 rfl (by decide) Tryz.ntmps150 (by exact Nat.le_of_ble_eq_true rfl) fun w0 M0 => ?_
 refine aG (aA (bM rfl (dw rfl (aD (aC (aG (aA ?_)))))))
 refine aO rfl rfl rfl rfl rfl (by decide) ?_
 refine aL rfl rfl rfl rfl ?_
 refine aO rfl rfl rfl rfl rfl (by decide) ?_
 refine aL rfl rfl rfl rfl ?_
 refine iB rfl rfl (by omega) (by omega) ?_
 refine az (vA _ _ _) rfl rfl rfl rfl rfl (g8 rfl ?_)
 apply aT (s := 11) rfl rfl rfl
 ·intro hg; apply aV; (refine aL rfl rfl rfl rfl ?_); refine aD ?_; exact rfl
 ·exact rfl
 ·exact rfl
 apply aT (s := 11) rfl rfl rfl
 ·intro hg; apply aV; (refine aO rfl rfl rfl rfl rfl (by decide) ?_); refine aD ?_; exact rfl
 ·exact rfl
 ·exact rfl
 apply aT (s := 11) rfl rfl rfl
 ·intro hg; apply aR (s := 13) rfl (by (rw [hg]; rfl)); apply aV; (refine aL rfl rfl rfl rfl ?_); refine aD ?_; exact rfl
 ·exact rfl
 ·exact rfl
 apply aT (s := 11) rfl rfl rfl
 ·intro hg; apply aR (s := 12) rfl (by (rw [hg]; rfl)); apply aR (s := 14) rfl (by (rw [hg]; rfl)); apply aV; (refine ep rfl (dZ (CW y hs m.src) rfl rfl rfl rfl rfl rfl) rfl ?_); refine aD ?_; exact rfl
 ·exact rfl
 ·exact rfl
 refine eX rfl rfl (g8 rfl ?_)
 apply aT (s := 17) rfl rfl rfl
 ·intro hg; apply aV; (refine aL rfl rfl rfl rfl ?_); refine aD ?_; exact rfl
 ·exact rfl
 ·exact rfl
 apply aT (s := 17) rfl rfl rfl
 ·intro hg; apply aV; (refine aO rfl rfl rfl rfl rfl (by decide) ?_); refine aD ?_; exact rfl
 ·exact rfl
 ·exact rfl
 apply aT (s := 17) rfl rfl rfl
 ·intro hg; apply aR (s := 19) rfl (by (rw [hg]; rfl)); apply aV; (refine aL rfl rfl rfl rfl ?_); refine aD ?_; exact rfl
 ·exact rfl
 ·exact rfl
 apply aT (s := 17) rfl rfl rfl
 ·intro hg; apply aR (s := 18) rfl (by (rw [hg]; rfl)); apply aR (s := 20) rfl (by (rw [hg]; rfl)); apply aV; (refine ep rfl (dZ (CW y hs m.dst) rfl rfl rfl rfl rfl rfl) rfl ?_); refine aD ?_; exact rfl
 ·exact rfl
 ·exact rfl
 refine eX rfl rfl (dw rfl (aD (aC (av (bz rfl rfl ?_)))))
 all_goals exact cV rfl rfl
set_option maxRecDepth 100000 in
theorem IS (y : ah) (hs : y.Small) (l : Level) : dy Tryz.prog 151 [Ty.agg (ct.tys l), Ty.pp (bK y), Ty.pp [yC y]] (Ty.bool (y.time l.day && y.bin l.bin)) := by
 refine bC Tryz.func151 rfl (by decide) Tryz.ntmps151 (by exact Nat.le_of_ble_eq_true rfl) fun w0 M0 => ?_
 refine aG (aA (bM rfl (dw rfl (aD (aC (aG (aA ?_)))))))
 refine aZ rfl rfl rfl (by exact Nat.le_of_ble_eq_true rfl) ?_
 refine aO rfl rfl rfl rfl rfl (by decide) ?_
 refine aL rfl rfl rfl rfl (az (Me y _) rfl rfl rfl rfl rfl (g8 rfl ?_))
 apply aT (s := 9) rfl rfl rfl
 ·intro hg; apply aV; (refine aL rfl rfl rfl rfl ?_); refine aD ?_; exact rfl
 ·exact rfl
 ·exact rfl
 apply aT (s := 9) rfl rfl rfl
 ·intro hg; apply aV; (refine aO rfl rfl rfl rfl rfl (by decide) ?_); refine aD ?_; exact rfl
 ·exact rfl
 ·exact rfl
 apply aT (s := 9) rfl rfl rfl
 ·intro hg; apply aR (s := 11) rfl (by (rw [hg]; rfl)); apply aV; (refine aL rfl rfl rfl rfl ?_); refine aD ?_; exact rfl
 ·exact rfl
 ·exact rfl
 apply aT (s := 9) rfl rfl rfl
 ·intro hg; apply aR (s := 10) rfl (by (rw [hg]; rfl)); apply aR (s := 12) rfl (by (rw [hg]; rfl)); apply aV; (refine ep rfl (EU (EJ y hs l.bin) rfl rfl rfl rfl rfl rfl) rfl ?_); refine aD ?_; exact rfl
 ·exact rfl
 ·exact rfl
 refine eX rfl rfl (dw rfl (aD (aC (av (bz rfl rfl ?_)))))
 all_goals exact cV rfl rfl
set_option maxRecDepth 100000 in
theorem HY (m : Move) : dy Tryz.prog 152 [Ty.agg (cR.tys m)] (Ty.bool (!decide (m.src = m.dst))) := by
 refine bC Tryz.func152 rfl (by decide) Tryz.ntmps152 (by exact Nat.le_of_ble_eq_true rfl) fun w0 M0 => ?_
 refine aG (aA (bM rfl (dw rfl (aD (aC (aG (aA ?_)))))))
 refine aO rfl rfl rfl rfl rfl (by decide) ?_
 refine aL rfl rfl rfl rfl ?_
 refine aO rfl rfl rfl rfl rfl (by decide) ?_
 refine aL rfl rfl rfl rfl (bF rfl rfl rfl (dw rfl (aD (aC (av (bz rfl rfl ?_))))))
 all_goals exact cV rfl rfl
set_option maxRecDepth 100000 in
theorem Hf (b : vE) : dy Tryz.prog 153 [Ty.agg (dO.tys b)] (Ty.bool (iC b.first)) := by
 refine bC Tryz.func153 rfl (by decide) Tryz.ntmps153 (by exact Nat.le_of_ble_eq_true rfl) fun w0 M0 => ?_
 refine aG (aA (bM rfl (dw rfl (aD (aC (aG (aA ?_)))))))
 refine aO rfl rfl rfl rfl rfl (by decide) ?_
 refine aZ rfl rfl rfl (by exact Nat.le_of_ble_eq_true rfl) ?_
 refine az (wq _) rfl rfl rfl rfl rfl (dw rfl (aD (aC (av (bz rfl rfl ?_)))))
 all_goals exact cV rfl rfl
set_option maxRecDepth 100000 in
theorem Hz (m : Move) : dy Tryz.prog 155 [Ty.agg (cR.tys m)] (Ty.bool (iC m.sacks)) := by
 refine bC Tryz.func155 rfl (by decide) Tryz.ntmps155 (by exact Nat.le_of_ble_eq_true rfl) fun w0 M0 => ?_
 refine aG (aA (bM rfl (dw rfl (aD (aC (aG (aA ?_)))))))
 refine aO rfl rfl rfl rfl rfl (by decide) ?_
 refine aZ rfl rfl rfl (by exact Nat.le_of_ble_eq_true rfl) ?_
 refine az (wq _) rfl rfl rfl rfl rfl (dw rfl (aD (aC (av (bz rfl rfl ?_)))))
 all_goals exact cV rfl rfl
set_option maxRecDepth 100000 in
theorem Gg (l : Level) : dy Tryz.prog 156 [Ty.agg (ct.tys l)] (Ty.bool (iC l.sacks)) := by
 refine bC Tryz.func156 rfl (by decide) Tryz.ntmps156 (by exact Nat.le_of_ble_eq_true rfl) fun w0 M0 => ?_
 refine aG (aA (bM rfl (dw rfl (aD (aC (aG (aA ?_)))))))
 refine aO rfl rfl rfl rfl rfl (by decide) ?_
 refine aZ rfl rfl rfl (by exact Nat.le_of_ble_eq_true rfl) ?_
 refine az (wq _) rfl rfl rfl rfl rfl (dw rfl (aD (aC (av (bz rfl rfl ?_)))))
 all_goals exact cV rfl rfl
set_option maxRecDepth 100000 in
theorem jo (y : ah) (hs : y.Small) : dy Tryz.prog 70 [fI y] (Ty.int .i64 (bT y)) := by
 refine bC Tryz.func70 rfl (by decide) Tryz.ntmps70 (by exact Nat.le_of_ble_eq_true rfl) fun w0 M0 => ?_
 have hs1 := hs.bins
 have hs2 := hs.moves
 have hs3 := hs.levels
 refine aG (aA (bM rfl (cE rfl (aD (aC (aG (aA ?_)))))))
 refine aZ rfl rfl rfl (by exact Nat.le_of_ble_eq_true rfl) ?_
 refine GK (l := [fI y]) rfl ?_
 refine b9 rfl (by exact List.cons_ne_nil _ _) rfl ?_
 refine cq rfl rfl (by decide) rfl rfl (by exact (rfl : _ = Ty.OE _ _)) rfl (by exact Nat.le_of_ble_eq_true rfl) rfl rfl (by exact (rfl : _ = [_])) ?_
 refine aD (aC (aG ?_))
 refine lF (tg := 4) [(3, Ty.pp [yC y])] (by decide) rfl ⟨lK (T := 118) (tg := 4) (off := 0) (l := [yC y]) rfl rfl rfl (by decide), trivial⟩ ?_
 refine aA (dP rfl ?_)
 refine b9 rfl (by exact List.cons_ne_nil _ _) rfl ?_
 refine cq rfl rfl (by decide) rfl rfl (by exact (rfl : _ = Ty.jC _ _)) rfl (by exact Nat.le_of_ble_eq_true rfl) rfl rfl (by exact (rfl : _ = [_])) ?_
 refine aD (aC (aG (ak (aG ?_))))
 refine lF (tg := 5) [(4, Ge y)] (by decide) rfl ⟨lK (T := 118) (tg := 5) (off := 0) (l := [Ty.jC 142 [Ty.pp [yC y]]]) rfl rfl rfl (by decide), trivial⟩ ?_
 refine aA ?_
 refine aO rfl rfl rfl rfl rfl (by decide) ?_
 refine aL rfl rfl rfl rfl (az (vA _ _ _) rfl rfl rfl rfl rfl (eE rfl (g8 rfl ?_)))
 apply aT (s := 13) rfl rfl rfl
 ·intro hg; apply aV; (refine aO rfl rfl rfl rfl rfl (by decide) ?_); refine aD ?_; exact rfl
 ·exact rfl
 ·exact rfl
 apply aT (s := 13) rfl rfl rfl
 ·intro hg; apply aR (s := 14) rfl (by (rw [hg]; rfl)); apply aV; (refine aL rfl rfl rfl rfl ?_); refine aD ?_; exact rfl
 ·exact rfl
 ·exact rfl
 apply aT (s := 13) rfl rfl rfl
 ·intro hg; apply aR (s := 15) rfl (by (rw [hg]; rfl)); apply aV; (refine cY rfl rfl rfl ?_); refine aD ?_; exact rfl
 ·exact rfl
 ·exact rfl
 apply aT (s := 13) rfl rfl rfl
 ·intro hg; apply aR (s := 16) rfl (by (rw [hg]; rfl)); apply aV; (refine az (vA _ _ _) rfl rfl rfl rfl rfl ?_); refine aD ?_; exact rfl
 ·exact rfl
 ·exact rfl
 apply aT (s := 13) rfl rfl rfl
 ·intro hg; apply aR (s := 17) rfl (by (rw [hg]; rfl)); apply aV; (refine eE rfl ?_); refine aD ?_; exact rfl
 ·exact rfl
 ·exact rfl
 refine qi rfl rfl (g8 rfl ?_)
 apply aT (s := 20) rfl rfl rfl
 ·intro hg; apply aV; (refine aO rfl rfl rfl rfl rfl (by decide) ?_); refine aD ?_; exact rfl
 ·exact rfl
 ·exact rfl
 apply aT (s := 20) rfl rfl rfl
 ·intro hg; apply aR (s := 21) rfl (by (rw [hg]; rfl)); apply aV; (refine aL rfl rfl rfl rfl ?_); refine aD ?_; exact rfl
 ·exact rfl
 ·exact rfl
 apply aT (s := 20) rfl rfl rfl
 ·intro hg; apply aR (s := 22) rfl (by (rw [hg]; rfl)); apply aV; (refine cY rfl rfl rfl ?_); refine aD ?_; exact rfl
 ·exact rfl
 ·exact rfl
 apply aT (s := 20) rfl rfl rfl
 ·intro hg; apply aR (s := 23) rfl (by (rw [hg]; rfl)); apply aV; (refine bF rfl rfl rfl ?_); refine aD ?_; exact rfl
 ·exact rfl
 ·exact rfl
 refine qi rfl rfl (g8 rfl ?_)
 apply aT (s := 26) rfl rfl rfl
 ·intro hg; apply aV; (refine aO rfl rfl rfl rfl rfl (by decide) ?_); refine aD ?_; exact rfl
 ·exact rfl
 ·exact rfl
 apply aT (s := 26) rfl rfl rfl
 ·intro hg; apply aR (s := 27) rfl (by (rw [hg]; rfl)); apply aV; (refine aL rfl rfl rfl rfl ?_); refine aD ?_; exact rfl
 ·exact rfl
 ·exact rfl
 apply aT (s := 26) rfl rfl rfl
 ·intro hg; apply aR (s := 28) rfl (by (rw [hg]; rfl)); apply aV; (refine cY rfl rfl rfl ?_); refine aD ?_; exact rfl
 ·exact rfl
 ·exact rfl
 apply aT (s := 26) rfl rfl rfl
 ·intro hg; apply aR (s := 29) rfl (by (rw [hg]; rfl)); apply aV; (refine bF rfl rfl rfl ?_); refine aD ?_; exact rfl
 ·exact rfl
 ·exact rfl
 refine qi rfl rfl (dw rfl (aD (aC ?_)))
 refine cx rfl (fun hc1 => ?_) (fun hc1 => ?_)
 ·
  refine aG (aA (cE rfl (aD (aC (av (bJ (aW (bz rfl rfl ?_))))))))
  all_goals skip
  exact bE rfl rfl (congrArg (Ty.int .i64) (by rw [bT, if_pos (show mW y = true from hc1)]))
 refine aG ?_
 refine c9 (B := live [(1, Ty.pp (bK y)), (3, Ty.pp [yC y]), (4, Ge y)] []) ?_ ?_
 ·(refine dG.mk' ?_ ?_ <;> (repeat' (first | exact aI | exact aJ | refine aB ?_ (Ty.aU _) | refine aB ?_ (Ty.aE _))))
 refine aA ?_
 refine aO rfl rfl rfl rfl rfl (by decide) ?_
 refine aL rfl rfl rfl rfl ?_
 refine az (ur y.bins (Ty.jC _ []) rfl (fun b => BN b.holds 0 300 && gS b.first) rfl rfl fun b _ => dZ (Hi b) rfl rfl rfl rfl rfl rfl) rfl rfl rfl rfl rfl ?_
 refine eE rfl (dw rfl (aD (aC ?_)))
 refine cx rfl (fun hc2 => ?_) (fun hc2 => ?_)
 ·
  refine aG (aA (cE rfl (aD (aC (av (bJ (aW (bz rfl rfl ?_))))))))
  all_goals skip
  exact bE rfl rfl (congrArg (Ty.int .i64) (by rw [bT, if_neg (ng (show mW y = false from hc1)), if_pos (show mw y = true from hc2)]))
 refine aG (aA ?_)
 refine aO rfl rfl rfl rfl rfl (by decide) ?_
 refine aL rfl rfl rfl rfl ?_
 refine az (mL y.moves (Ty.jC _ []) rfl (fun m => gS m.sacks) rfl rfl fun m _ => dZ (IN m) rfl rfl rfl rfl rfl rfl) rfl rfl rfl rfl rfl ?_
 refine eE rfl (g8 rfl ?_)
 apply aT (s := 42) rfl rfl rfl
 ·intro hg; apply aV; (refine aO rfl rfl rfl rfl rfl (by decide) ?_); refine aD ?_; exact rfl
 ·exact rfl
 ·exact rfl
 apply aT (s := 42) rfl rfl rfl
 ·intro hg; apply aR (s := 43) rfl (by (rw [hg]; rfl)); apply aV; (refine aL rfl rfl rfl rfl ?_); refine aD ?_; exact rfl
 ·exact rfl
 ·exact rfl
 apply aT (s := 42) rfl rfl rfl
 ·intro hg; apply aR (s := 44) rfl (by (rw [hg]; rfl)); apply aV; (refine az (oZ y.levels (Ty.jC _ []) rfl (fun l => gS l.sacks) rfl rfl fun l _ => dZ (Gr l) rfl rfl rfl rfl rfl rfl) rfl rfl rfl rfl rfl ?_); refine aD ?_; exact rfl
 ·exact rfl
 ·exact rfl
 apply aT (s := 42) rfl rfl rfl
 ·intro hg; apply aR (s := 45) rfl (by (rw [hg]; rfl)); apply aV; (refine eE rfl ?_); refine aD ?_; exact rfl
 ·exact rfl
 ·exact rfl
 refine qi rfl rfl (dw rfl (aD (aC ?_)))
 refine cx rfl (fun hc3 => ?_) (fun hc3 => ?_)
 ·
  refine aG (aA (cE rfl (aD (aC (av (bJ (aW (bz rfl rfl ?_))))))))
  all_goals skip
  exact bE rfl rfl (congrArg (Ty.int .i64) (by rw [bT, if_neg (ng (show mW y = false from hc1)), if_neg (ng (show mw y = false from hc2)), if_pos (show kL y = true from hc3)]))
 refine aG ?_
 refine c9 (B := live [(1, Ty.pp (bK y)), (3, Ty.pp [yC y]), (4, Ge y)] []) ?_ ?_
 ·(refine dG.mk' ?_ ?_ <;> (repeat' (first | exact aI | exact aJ | refine aB ?_ (Ty.aU _) | refine aB ?_ (Ty.aE _))))
 have hd := GX hc1
 refine aA ?_
 refine aO rfl rfl rfl rfl rfl (by decide) ?_
 refine aL rfl rfl rfl rfl (dP rfl ?_)
 refine az (mL y.moves (Ty.jC _ [Ty.pp (bK y), Ge y]) rfl (fun m => (BN m.day 0 (y.days - 1) && y.fin m.src) && y.fin m.dst) rfl rfl fun m _ => dZ (HX y hs hd m) rfl rfl rfl rfl rfl rfl) rfl rfl rfl rfl rfl ?_
 refine eE rfl (dw rfl (aD (aC ?_)))
 refine cx rfl (fun hc4 => ?_) (fun hc4 => ?_)
 ·
  refine aG (aA (cE rfl (aD (aC (av (bJ (aW (bz rfl rfl ?_))))))))
  all_goals skip
  exact bE rfl rfl (congrArg (Ty.int .i64) (by rw [bT, if_neg (ng (show mW y = false from hc1)), if_neg (ng (show mw y = false from hc2)), if_neg (ng (show kL y = false from hc3)), if_pos (show Bs y = true from hc4)]))
 refine aG (aA ?_)
 refine aO rfl rfl rfl rfl rfl (by decide) ?_
 refine aL rfl rfl rfl rfl (dP rfl ?_)
 refine az (oZ y.levels (Ty.jC _ [Ty.pp (bK y), Ty.pp [yC y]]) rfl (fun l => y.time l.day && y.bin l.bin) rfl rfl fun l _ => dZ (IS y hs l) rfl rfl rfl rfl rfl rfl) rfl rfl rfl rfl rfl ?_
 refine eE rfl (dw rfl (aD (aC ?_)))
 refine cx rfl (fun hc5 => ?_) (fun hc5 => ?_)
 ·
  refine aG (aA (cE rfl (aD (aC (av (bJ (aW (bz rfl rfl ?_))))))))
  all_goals skip
  exact bE rfl rfl (congrArg (Ty.int .i64) (by rw [bT, if_neg (ng (show mW y = false from hc1)), if_neg (ng (show mw y = false from hc2)), if_neg (ng (show kL y = false from hc3)), if_neg (ng (show Bs y = false from hc4)), if_pos (show wF y = true from hc5)]))
 refine aG ?_
 refine c9 (B := live [(1, Ty.pp (bK y)), (3, Ty.pp [yC y]), (4, Ge y)] []) ?_ ?_
 ·(refine dG.mk' ?_ ?_ <;> (repeat' (first | exact aI | exact aJ | refine aB ?_ (Ty.aU _) | refine aB ?_ (Ty.aE _))))
 refine aA ?_
 refine aO rfl rfl rfl rfl rfl (by decide) ?_
 refine aL rfl rfl rfl rfl ?_
 refine az (mL y.moves (Ty.jC _ []) rfl (fun m => !decide (m.src = m.dst)) rfl rfl fun m _ => dZ (HY m) rfl rfl rfl rfl rfl rfl) rfl rfl rfl rfl rfl ?_
 refine eE rfl (dw rfl (aD (aC ?_)))
 refine cx rfl (fun hc6 => ?_) (fun hc6 => ?_)
 ·
  refine aG (aA (cE rfl (aD (aC (av (bJ (aW (bz rfl rfl ?_))))))))
  all_goals skip
  exact bE rfl rfl (congrArg (Ty.int .i64) (by rw [bT, if_neg (ng (show mW y = false from hc1)), if_neg (ng (show mw y = false from hc2)), if_neg (ng (show kL y = false from hc3)), if_neg (ng (show Bs y = false from hc4)), if_neg (ng (show wF y = false from hc5)), if_pos (show tK y = true from hc6)]))
 refine aG (aA ?_)
 refine aO rfl rfl rfl rfl rfl (by decide) ?_
 refine aL rfl rfl rfl rfl ?_
 refine az (ur y.bins (Ty.jC _ []) rfl (fun b => iC b.first) rfl rfl fun b _ => dZ (Hf b) rfl rfl rfl rfl rfl rfl) rfl rfl rfl rfl rfl ?_
 refine eE rfl (g8 rfl ?_)
 apply aT (s := 70) rfl rfl rfl
 ·intro hg; apply aV; (refine aO rfl rfl rfl rfl rfl (by decide) ?_); refine aD ?_; exact rfl
 ·exact rfl
 ·exact rfl
 apply aT (s := 70) rfl rfl rfl
 ·intro hg; apply aR (s := 71) rfl (by (rw [hg]; rfl)); apply aV; (refine aL rfl rfl rfl rfl ?_); refine aD ?_; exact rfl
 ·exact rfl
 ·exact rfl
 apply aT (s := 70) rfl rfl rfl
 ·intro hg; apply aR (s := 72) rfl (by (rw [hg]; rfl)); apply aV; (refine az (mL y.moves (Ty.jC _ []) rfl (fun m => iC m.sacks) rfl rfl fun m _ => dZ (Hz m) rfl rfl rfl rfl rfl rfl) rfl rfl rfl rfl rfl ?_); refine aD ?_; exact rfl
 ·exact rfl
 ·exact rfl
 apply aT (s := 70) rfl rfl rfl
 ·intro hg; apply aR (s := 73) rfl (by (rw [hg]; rfl)); apply aV; (refine eE rfl ?_); refine aD ?_; exact rfl
 ·exact rfl
 ·exact rfl
 refine qi rfl rfl (g8 rfl ?_)
 apply aT (s := 76) rfl rfl rfl
 ·intro hg; apply aV; (refine aO rfl rfl rfl rfl rfl (by decide) ?_); refine aD ?_; exact rfl
 ·exact rfl
 ·exact rfl
 apply aT (s := 76) rfl rfl rfl
 ·intro hg; apply aR (s := 77) rfl (by (rw [hg]; rfl)); apply aV; (refine aL rfl rfl rfl rfl ?_); refine aD ?_; exact rfl
 ·exact rfl
 ·exact rfl
 apply aT (s := 76) rfl rfl rfl
 ·intro hg; apply aR (s := 78) rfl (by (rw [hg]; rfl)); apply aV; (refine az (oZ y.levels (Ty.jC _ []) rfl (fun l => iC l.sacks) rfl rfl fun l _ => dZ (Gg l) rfl rfl rfl rfl rfl rfl) rfl rfl rfl rfl rfl ?_); refine aD ?_; exact rfl
 ·exact rfl
 ·exact rfl
 apply aT (s := 76) rfl rfl rfl
 ·intro hg; apply aR (s := 79) rfl (by (rw [hg]; rfl)); apply aV; (refine eE rfl ?_); refine aD ?_; exact rfl
 ·exact rfl
 ·exact rfl
 refine qi rfl rfl (dw rfl (aD (aC ?_)))
 refine cx rfl (fun hc7 => ?_) (fun hc7 => ?_)
 ·
  refine aG (aA (cE rfl (aD (aC (av (bJ (aW (bz rfl rfl ?_))))))))
  all_goals skip
  exact bE rfl rfl (congrArg (Ty.int .i64) (by rw [bT, if_neg (ng (show mW y = false from hc1)), if_neg (ng (show mw y = false from hc2)), if_neg (ng (show kL y = false from hc3)), if_neg (ng (show Bs y = false from hc4)), if_neg (ng (show wF y = false from hc5)), if_neg (ng (show tK y = false from hc6)), if_pos (show uB y = true from hc7)]))
 refine aj (bX (aC (aG (aA (cE rfl (aD (aC (av (bz rfl rfl ?_)))))))))
 all_goals skip
 exact bE rfl rfl (congrArg (Ty.int .i64) (by rw [bT, if_neg (ng (show mW y = false from hc1)), if_neg (ng (show mw y = false from hc2)), if_neg (ng (show kL y = false from hc3)), if_neg (ng (show Bs y = false from hc4)), if_neg (ng (show wF y = false from hc5)), if_neg (ng (show tK y = false from hc6)), if_neg (ng (show uB y = false from hc7))]))
set_option maxRecDepth 100000 in
theorem AK (y : ah) (hs : y.Small) (k : Int) : dy Tryz.prog 90 [fI y, Ty.int .i64 k] (Ty.int .i64 (eO y k)) := by
 refine bC Tryz.func90 rfl (by decide) Tryz.ntmps90 (by exact Nat.le_of_ble_eq_true rfl) fun w0 M0 => ?_
 refine aG (aA (bM rfl (cE rfl (aD (aC (aG (aA ?_)))))))
 refine aZ rfl rfl rfl (by exact Nat.le_of_ble_eq_true rfl) ?_
 refine az (jo y hs) rfl rfl rfl rfl rfl (cE rfl (aD (aC (aG (aG (aA (bQ rfl (bF rfl rfl rfl (g8 rfl ?_)))))))))
 apply aT (s := 10) rfl rfl rfl
 ·intro hg; apply aV; (refine aZ rfl rfl rfl (by exact Nat.le_of_ble_eq_true rfl) ?_); refine aD ?_; exact rfl
 ·exact rfl
 ·exact rfl
 apply aT (s := 10) rfl rfl rfl
 ·intro hg; apply aV; (refine bQ rfl ?_); refine aD ?_; exact rfl
 ·exact rfl
 ·exact rfl
 apply aT (s := 10) rfl rfl rfl
 ·intro hg; apply aR (s := 11) rfl (by (rw [hg]; rfl)); apply aR (s := 12) rfl (by (rw [hg]; rfl)); apply aV; (refine az (EJ y hs _) rfl rfl rfl rfl rfl ?_); refine aD ?_; exact rfl
 ·exact rfl
 ·exact rfl
 apply aT (s := 10) rfl rfl rfl
 ·intro hg; apply aR (s := 13) rfl (by (rw [hg]; rfl)); apply aV; (refine eE rfl ?_); refine aD ?_; exact rfl
 ·exact rfl
 ·exact rfl
 refine eX rfl rfl (aD (aC ?_))
 refine cx rfl (fun hc1 => ?_) (fun hc1 => ?_)
 ·
  refine aA (cE rfl (aD (aC (aG (aA (bQ rfl (cE rfl (aD (aC ?_)))))))))
  refine av (bz rfl rfl ?_)
  all_goals skip
  all_goals exact bE rfl rfl (congrArg (Ty.int .i64) (GF hc1))
 refine aj (aC (aG (aA (bQ rfl (cE rfl (aD (aC (av (bz rfl rfl ?_)))))))))
 all_goals skip
 all_goals exact bE rfl rfl (congrArg (Ty.int .i64) (GJ hc1))
end Go.Proofs.YtelbollidfdcjaaGreat
namespace Go.T
open Go Go.RowKit
def sL (A : As) (L : List Nat) (s t : Ty) : Prop := ∀ w M v, Wf w M → (∀ x ∈ A.tags, x.1 ∈ L → x.2.den w M x.1) → s.den w M v → t.den w (qZ M L) v
def n7 (A : As) (L : List Nat) : List Ty → List Ty → Prop
  | [], [] => True
  | s :: ss, t :: ts => sL A L s t ∧ n7 A L ss ts
  | _, _ => False
theorem bf {A : As} {L : List Nat} : n7 A L [] [] := trivial
theorem aM {A : As} {L : List Nat} {s t : Ty} {ss ts : List Ty} (h : sL A L s t) (h' : n7 A L ss ts) : n7 A L (s :: ss) (t :: ts) := ⟨h, h'⟩
theorem pQ {A : As} {L : List Nat} {w : World} {M : bB} (wf : Wf w M) (ht : ∀ x ∈ A.tags, x.1 ∈ L → x.2.den w M x.1) : ∀ {ss ts : List Ty} {vs : List Value}, n7 A L ss ts → cK w M ss vs → cK w (qZ M L) ts vs
  | [], [], [], _, _ => trivial
  | _ :: _, _ :: _, _ :: _, ⟨h, h'⟩, ⟨h1, h2⟩ => ⟨h _ _ _ wf ht h1, pQ wf ht h' h2⟩
theorem af {A : As} {L : List Nat} {s t : Ty} (h : Kv L s t) : sL A L s t := fun w M v wf _ hd => h w M v wf hd
theorem gQ {A : As} {L : List Nat} {ss ts : List Ty} (h : n7 A L ss ts) : sL A L (Ty.agg ss) (Ty.agg ts) := fun _ _ _ wf ht ⟨cs, e, hd⟩ => ⟨cs, e, pQ wf ht h hd⟩
theorem gY {A : As} {L : List Nat} {α : Type} {E : El α} {T tg n : Nat} {xs : List α} (hc : A.tag tg = some (.vec E T xs)) (hn : xs.length = n) (h1 : fm tg) (hL : L.contains tg = true) : sL A L (.vs tg n) (.sl E xs) := fun w M v wf ht hd => by
 have hL' : tg ∈ L := by simpa using hL
 have hv : ga E T xs w M tg := ht _ (cw hc) hL'
 subst hn
 rcases hd with ⟨h0, rfl⟩ | ⟨b, cc, hb, e, hn1, hn2⟩
 ·exact ⟨none, 0, by rw [h0], by omega, by simp [maxLen], fun h => absurd h (by omega)⟩
 refine ⟨_, cc, e, hn1, hn2, fun _ => ⟨b, 0, rfl, z7 hb hL', wf.lt b _ hb, fun i t hi => ?_⟩⟩
 obtain ⟨u, hu, hdu⟩ := pN wf h1 hb hv hi
 refine ⟨u, by rw [Nat.zero_add]; exact hu, t.mono (S := fun _ => True) (K := fun _ => True) (w := w) ⟨Nat.le_refl _, rfl, rfl, rfl, fun b _ hm => ⟨jT hm, rfl⟩, fun b t _ h => absurd trivial h⟩ ?_ ?_ hdu⟩
 ·intro u hu
  have : u ∈ cG (xs.flatMap E.tys) := List.mem_flatMap.2 ⟨t, List.mem_of_getElem? hi, hu⟩
  rw [E.dI] at this; cases this
 intro u hu
 have : u ∈ bt (xs.flatMap E.tys) := List.mem_flatMap.2 ⟨t, List.mem_of_getElem? hi, hu⟩
 rw [E.cv] at this; cases this
theorem vu {ρ : List (Nat × Nat)} {b : Nat} : Conv ρ (.ex (.slice none 0 0)) (.vs b 0) := fun _ _ _ _ _ _ _ h => .inl ⟨rfl, h⟩
section
variable {P : Program} {fr : Fr} {ops : Array Oper} {A : As} {rest : List Oper} {K : As → List (As × Fx) → Prop} {d : Nat} {t ty' : TypeId} {p : String} {e : Array Edge} {Q : Exit → Act → World → Prop} {c : Code}
theorem dX (L : List Nat) {f : FuncId} {args : List Ty} {res : Ty} (hF : dy P f args res) {xs : List Operand} {ats : Array TypeId} {ss : List Ty} (hx : mR A fr xs = ss) (hl : n7 A L ss args) (hp : res.Plain)
 (h : aa P fr ops rest (A.set d res) fun A' l => K A' ((A, { d := some d, ty := res, rs := xs.flatMap cF, rt := L }) :: l)) : aa P fr ops (⟨some d, .call ⟨.value (.func f), xs.toArray, ats⟩, t, p, e, none⟩ :: rest) A K := by
 refine ⟨{ d := some d, ty := res, rs := xs.flatMap cF, rt := L }, ⟨rfl, by simp, by simp, by simp, fun a w M wf _ hrd htg => ?_⟩, h⟩
 rw [if_pos (by simp [Region.wanted])]
 have hv : cK w M ss (xs.map a.eval) := hx ▸ gE hrd fun x hx c hc => List.mem_flatMap.2 ⟨x, hx, hc⟩
 have hc := hF.2 w _ _ (Kj (L := L) wf) tP (pQ wf htg hl hv)
 have hrun : (execOp a.eval ⟨some d, .call ⟨.value (.func f), xs.toArray, ats⟩, t, p, e, none⟩).run P w = .ok (.enter f (xs.map a.eval).toArray) w := by
  simp [execOp, resolve, Act.eval, Deferred.ofValue, invoke, lG hF]
 refine jO hrun ?_
 refine hc.mono fun en w' ⟨r, M', he, wf', le, hden⟩ => ?_
 obtain ⟨h1, h2, h3⟩ := DS wf le hp hden
 exact ⟨r, he, r, rfl, _, h1, h2, h3, by simp⟩
theorem oI {α : Type} {E : El α} (T tg : Nat) (h : fP P fr c ⟨A.slots, (tg, .vec E T []) :: A.tags⟩ Q) : fP P fr c A Q := fun a w ⟨M, ok, hsl, ht⟩ =>
 h a w ⟨M, ok, hsl, fun x hx => by
  rcases List.mem_cons.1 hx with rfl | hx
  ·exact .inl rfl
  exact ht x hx⟩
end
section
open Go.RowKit
variable {P : Program} {A : As} {fn : Func} {n : Nat} {w0 : World} {M0 : bB} {F : List Nat} {post : List (Nat × Cont)} [T : lC P]
theorem oq (L : List Nat) {tm ty tg Tb t2 : Nat} {l : List Ty} {ti : TI} {r1 r2 : Ty} (hr : fn.results = #[.cell tm ty, .tmp t2]) (ht : Nat.blt tm n = true) (ht2 : Nat.blt t2 n = true) (hx : A.slots tm = .ptr tg 0) (hc : A.tag tg = some (.cells Tb l)) (h1 : fm tg) (hT : T.tab[ty]? = some ti) (ha : ti.k.agg = true) (hl : l.length = ti.size)
 (hL : ∀ t ∈ F, t ∈ L) (hp : oQ A L post) (hs : sJ L (.agg l) r1) (hs2 : sJ L (A.slots t2) r2) :
 dh ⟨n, w0, M0, F, .plain⟩ A (bodyPost P fn (cU F post w0 M0 (Ty.ju [r1, r2])) .ret) := by
 intro a w ⟨M, ok, hsl, htg⟩
 have hd := hsl tm (by simpa using ht)
 rw [hx] at hd
 obtain ⟨b, hb, e⟩ := hd
 obtain ⟨b', cs, hb', hh, hds⟩ := htg _ (cw hc)
 obtain ⟨u, rfl⟩ : ∃ u, tg = u + 1 := ⟨tg - 1, by omega⟩
 have := ok.wf.inj b b' u (by omega) hb hb'
 subst this
 have hlen := cQ hds
 have hload := fy (P := P) hT ha (w := w) (b := b) (off := 0) (cs := cs.toList) (by rw [hlen, hl]) (fun j v hj => by simpa [World.cell?, hh] using hj)
 have hload' : (loadVar ty ⟨b, 0, none⟩).run P w = .ok (.agg cs) w := by simpa [Instr.loadAt, Instr.sureAddr] using hload
 refine ⟨ok.gC (by simp), .tuple #[.agg cs, a.tmps.getD t2 undef], ?_, _, oL L M, rfl, mY ok.wf, lQ hL ok.base, ⟨_, rfl, hs _ _ _ ok.wf ⟨cs, rfl, hds⟩, hs2 _ _ _ ok.wf (hsl t2 (by simpa using ht2)), trivial⟩, q5 ok.wf htg hp⟩
 have e' : a.tmps.getD tm undef = .pointer (some ⟨b, 0, none⟩) := e
 have e'' : a.tmps[tm]?.getD undef = .pointer (some ⟨b, 0, none⟩) := by rw [← Array.getD_eq_getD_getElem?]; exact e'
 simp [results, hr, e'', asAddr, hload']
end
section
variable {P : Program} {fr : Fr} {ops : Array Oper} {A : As} {rest : List Oper} {K : As → List (As × Fx) → Prop} {d : Nat} {t ty' : TypeId} {p : String} {e : Array Edge} [T : lC P]
def MR (w : World) (M : bB) (J : Nat) (v : Value) : Prop := v = .slice none 0 0 ∨ ∃ g n c cur T, v = .slice (some ⟨g, 0, none⟩) n c ∧ M g = some J ∧ w.heap[g]? = some (.cells cur T (0, 0)) ∧ n ≤ cur.size
def Cont.fit (vs : List Value) : Cont :=
  { den := fun w M J => ∀ v ∈ vs, MR w M J v
    mono := fun le _ _ hs hk h v hv => (h v hv).imp id fun ⟨g, n, c, cur, T, e, hg, hh, hn⟩ => let ⟨h1, h2⟩ := le.own g _ hg hk
      ⟨g, n, c, cur, T, e, h1, (h2 hs).trans hh, hn⟩ }
end
instance : Inhabited {v : Value // v.oneCell' = true} := ⟨⟨.bool true, rfl⟩⟩
section
variable {P : Program} {fr : Fr} {A : As} {Q : Exit → Act → World → Prop} {code : Code}
end
end Go.T
namespace Go.T
open Go Go.RowKit
def HO {α : Type} (E : El α) (T J : Nat) (xs : List α) (w : World) (M : bB) (v : Value) : Prop :=
  (xs = [] ∧ v = .slice none 0 0) ∨ ∃ g off c cur, v = .slice (some ⟨g, off, none⟩) xs.length c ∧ M g = some J ∧ w.heap[g]? = some (.cells cur T (0, 0)) ∧ xs.length ≤ c ∧ c ≤ maxLen ∧ off + c * E.size ≤ cur.size ∧ cK w M (xs.flatMap E.tys) ((cur.toList.drop off).take (xs.length * E.size))
def Ty.iU {α : Type} (E : El α) (T J : Nat) (xs : List α) : Ty :=
  ⟨HO E T J xs, [J], [J], fun le hk hs h => h.imp id fun ⟨g, off, c, cur, e, hg, hh, h1, h2, h3, h4⟩ =>
    let ⟨a, b⟩ := le.own g J hg (hk J (by simp))
    ⟨g, off, c, cur, e, a, (b (hs J (by simp))).trans hh, h1, h2, h3, cB le (by rw [E.dI]; intro _ h; cases h) (by rw [E.cv]; intro _ h; cases h) h4⟩, true, fun _ h => by
      rcases h with ⟨_, rfl⟩ | ⟨_, _, _, _, rfl, _⟩ <;> rfl⟩
def mP (size : Nat) : Value → Option (Nat × Nat)
  | .slice (some a) n _ => some (a.block, a.off + n * size)
  | _ => none
def roomy : Value → Bool
  | .slice _ n c => Nat.blt n c
  | _ => false
section
variable {κ α : Type} [DecidableEq κ]
def Gq (size : Nat) (vs : List Value) : Prop := ∀ (i j : Nat) (v u : Value) (g e e' : Nat), vs[i]? = some v → vs[j]? = some u → mP size v = some (g, e) → mP size u = some (g, e') → i = j
def O5 (enc : κ → Value) (E : El α) (T J : Nat) (q : List (κ × List α)) (w : World) (M : bB) (t : Nat) : Prop :=
  (q.map Prod.fst).Nodup ∧ ∃ b es clock, M b = some t ∧ w.heap[b]? = some (.map es clock) ∧ es.toList.map (·.key) = q.map (fun x => enc x.1) ∧ cK w M (q.map fun x => Ty.iU E T J x.2) (es.toList.map (·.val)) ∧ Gq E.size (es.toList.map (·.val))
omit [DecidableEq κ] in
theorem tY {E : El α} {T J : Nat} {q : List (κ × List α)} : (∀ u ∈ cG (q.map fun x => Ty.iU E T J x.2), u = J) ∧ ∀ u ∈ bt (q.map fun x => Ty.iU E T J x.2), u = J := by
 constructor <;>
 ·intro u hu
  simp only [cG, bt, List.mem_flatMap, List.mem_map] at hu
  obtain ⟨t, ⟨x, _, rfl⟩, hu⟩ := hu
  simpa [Ty.iU] using hu
def Cont.mr (enc : κ → Value) (E : El α) (T J : Nat) (q : List (κ × List α)) : Cont :=
  { den := O5 enc E T J q, deps := [J], cdeps := [J]
    mono := fun le hk hs hst hkt ⟨hn, b, es, clock, h1, h2, h3, h4, h5⟩ => let ⟨a, c⟩ := le.own b _ h1 hkt
      ⟨hn, b, es, clock, a, (c hst).trans h2, h3, cB le (fun u hu => by rw [tY.1 u hu]; exact hk J (by simp)) (fun u hu => by rw [tY.2 u hu]; exact hs J (by simp)) h4, h5⟩ }
omit [DecidableEq κ] in
theorem Cont.uN {enc : κ → Value} {E : El α} {T J : Nat} {q q' : List (κ × List α)} (h : q = q') : (Cont.mr enc E T J q).Sub (Cont.mr enc E T J q') := h ▸ Cont.aE _
def Ob (size t : Nat) (q : List (κ × List α)) (k : κ) (w : World) (M : bB) (v : Value) : Prop :=
  ∀ (g e0 : Nat), mP size v = some (g, e0) → ∃ (b : Nat) (es : Array MapEntry) (clock : Nat), M b = some t ∧ w.heap[b]? = some (.map es clock) ∧ ∀ (j : Nat) (u : Value) (e1 : Nat), (es.toList.map (·.val))[j]? = some u → mP size u = some (g, e1) → (q[j]?).map Prod.fst = some k ∧ (roomy v = true → e1 ≤ e0)
def O2 (E : El α) (T t J : Nat) (q : List (κ × List α)) (k : κ) (xs : List α) (w : World) (M : bB) (v : Value) : Prop := HO E T J xs w M v ∧ Ob E.size t q k w M v
def Ty.qv (E : El α) (T t J : Nat) (q : List (κ × List α)) (k : κ) (xs : List α) : Ty :=
  ⟨O2 E T t J q k xs, [t, J], [t, J], fun le hk hs ⟨h, h'⟩ => ⟨(Ty.iU E T J xs).mono le (fun u hu => hk u (by simp [Ty.iU] at hu ⊢; exact .inr hu)) (fun u hu => hs u (by simp [Ty.iU] at hu ⊢; exact .inr hu)) h, fun g e0 he =>
    let ⟨b, es, clock, h1, h2, h3⟩ := h' g e0 he
    let ⟨a, c⟩ := le.own b t h1 (hk t (by simp))
    ⟨b, es, clock, a, (c (hs t (by simp))).trans h2, h3⟩⟩, true, fun ho h => (Ty.iU E T J xs).isOne ho h.1⟩
omit [DecidableEq κ] in
theorem CM (q : List (κ × List α)) (hn : (q.map Prod.fst).Nodup) {i j : Nat} {k : κ} (hi : (q[i]?).map Prod.fst = some k) (hj : (q[j]?).map Prod.fst = some k) : i = j := by
 rw [← List.getElem?_map] at hi hj
 obtain ⟨h1, e1⟩ := List.getElem?_eq_some_iff.1 hi
 obtain ⟨h2, e2⟩ := List.getElem?_eq_some_iff.1 hj
 exact (List.getElem_inj hn).1 (e1.trans e2.symm)
theorem zy {q : List (κ × List α)} {k : κ} {i : Nat} (h : (q.map Prod.fst).findIdx? (fun x => decide (x = k)) = some i) : (q[i]?).map Prod.fst = some k := by
 obtain ⟨v, hv, _⟩ := pI q k i h
 rw [hv]; rfl
theorem Gf (q : List (κ × List α)) (k : κ) (v : List α) (hn : (q.map Prod.fst).Nodup) : ((gk q k v).map Prod.fst).Nodup := by
  cases hi : (q.map Prod.fst).findIdx? (fun x => decide (x = k)) with
  | some i =>
    obtain ⟨u, hu, _, hp⟩ := pI q k i hi
    rw [hp, List.map_set]
    have : (q.map Prod.fst).set i k = q.map Prod.fst := by
      apply List.ext_getElem?
      intro j
      rw [List.getElem?_set]
      by_cases e : i = j
      · subst e
        have hlt := (List.getElem?_eq_some_iff.1 hu).1
        rw [if_pos rfl, if_pos (by simpa using hlt), List.getElem?_map, hu]; rfl
      · rw [if_neg e]
    rw [this]; exact hn
  | none =>
    obtain ⟨_, hp⟩ := qF q k hi
    rw [hp, List.map_append, List.nodup_append]
    refine ⟨hn, by simp, fun a ha b hb => ?_⟩
    simp only [List.map_cons, List.map_nil, List.mem_singleton] at hb
    subst hb
    intro e
    subst e
    rw [List.findIdx?_eq_none_iff] at hi
    have := hi a ha
    simp at this
end
section
variable {P : Program} {fr : Fr} {ops : Array Oper} {A : As} {rest : List Oper} {K : As → List (As × Fx) → Prop} {d : Nat} {t ty' mt kt et : TypeId} {p : String} {e : Array Edge}
variable {κ α : Type} [DecidableEq κ] {E : El α} {Tb J tg : Nat} {q : List (κ × List α)} {k : κ} {xs ys : List α}
omit [DecidableEq κ] in
theorem LZ {x : Operand} {enc : κ → Value} (hx : A.op fr x = .mp tg) (hc : A.tag tg = some (.mr enc E Tb J q)) (h1 : fm tg) {a : Act} {w : World} {M : bB} {rs : List Nat} (wf : Wf w M) (hr : ∀ c ∈ cF x, c ∈ rs) (hrd : ∀ c ∈ rs, c < fr.n → (A.slots c).den w M (a.tmps.getD c undef)) (htg : ∀ y ∈ A.tags, y.1 ∈ [tg] → y.2.den w M y.1) :
 (q.map Prod.fst).Nodup ∧ ∃ b es clock, a.eval x = .map (some b) ∧ M b = some tg ∧ w.heap[b]? = some (.map es clock) ∧ es.toList.map (·.key) = q.map (fun x => enc x.1) ∧ cK w M (q.map fun x => Ty.iU E Tb J x.2) (es.toList.map (·.val)) ∧ Gq E.size (es.toList.map (·.val)) := by
 have hxd := cP hr hrd
 rw [hx] at hxd
 obtain ⟨b, e1, e2⟩ := hxd
 obtain ⟨hn, b', es, clock, h2, h3⟩ := htg _ (cw hc) (by simp)
 obtain ⟨u, rfl⟩ : ∃ u, tg = u + 1 := ⟨tg - 1, by omega⟩
 have : b = b' := wf.inj b b' u (by omega) e2 h2
 subst this
 exact ⟨hn, b, es, clock, e1, e2, h3⟩
theorem C0 {es : Array MapEntry} {i : Nat} {en : MapEntry} (h : es[i]? = some en) : (es.toList.map (·.val))[i]? = some en.val := by
 rw [List.getElem?_map, Array.getElem?_toList, h]; rfl
omit [DecidableEq κ] in
theorem D7 (enc : κ → Value) (E : El α) (Tb J : Nat) (hm : mapOf P mt = some (kt, et)) (hp : fr.pass.contains (d + 1) = false)
 (h : aa P fr ops rest (A.after { d := some d, ty := .mp (d + 1), K := [d + 1], sets := [(d + 1, .mr enc E Tb J [])] }) fun A' l' => K A' ((A, { d := some d, ty := .mp (d + 1), K := [d + 1], sets := [(d + 1, .mr enc E Tb J [])] }) :: l')) :
 aa P fr ops (⟨some d, .makeMap mt none, t, p, e, none⟩ :: rest) A K := by
 refine ⟨_, ff rfl rfl (by simp) (by simp) (by simp at hp ⊢; exact hp) fun a w M wf _ _ => ?_, h⟩
 have hrun : (execOp a.eval ⟨some d, .makeMap mt none, t, p, e, none⟩).run P w = .ok (.value (.map (some w.heap.size))) (w.alloc (.map #[] 0)) := by
  simp [execOp, Instr.makeMap, newObj, Sem.run]
 obtain ⟨h1, h2, h3⟩ := jj wf (.map #[] 0) (d + 1)
 refine ⟨_, _, hrun, _, h1, h2, ⟨_, rfl, h3⟩, fun x hx => ?_⟩
 rw [List.mem_singleton.1 hx]
 exact ⟨by simp, w.heap.size, #[], 0, h3, fO _ _, rfl, trivial, fun i j v u g e e' hi => by simp at hi⟩
theorem zV {x y : Operand} {kty : Ty} (KK : yB P kt κ) (hx : A.op fr x = .mp tg) (hc : A.tag tg = some (.mr KK.enc E Tb J q)) (h1 : fm tg) (hy : A.op fr y = kty) (hk : uf kty (KK.enc k)) (hm : mapOf P mt = some (kt, et)) (hz : zeroOf P et = some (.slice none 0 0))
 (h : aa P fr ops rest (A.set d (.qv E Tb tg J q k ((e9 q k).getD []))) fun A' l' => K A' ((A, { d := some d, ty := .qv E Tb tg J q k ((e9 q k).getD []), rs := cF x ++ cF y, rt := [tg] }) :: l')) :
 aa P fr ops (⟨some d, .lookup mt x y false, t, p, e, none⟩ :: rest) A K :=
 bN (bV rfl rfl fun a w M wf hrd htg => by
  obtain ⟨hn, b, es, clock, e1, e2, h3, h4, h5, h6⟩ := LZ hx hc h1 wf (fun c hc => List.mem_append_left _ hc) hrd htg
  have hyd := cP (fun c hc => List.mem_append_right (cF x) hc) hrd
  rw [hy] at hyd
  have hu := qR hm
  rcases so KK h4 h5 k with ⟨i, v, en, hi, hg, hen, _, hd, hf⟩ | ⟨_, hg, hf⟩
  ·refine ⟨en.val, ?_, by rw [hg]; exact hd, fun g e0 he => ⟨b, es, clock, e2, h3, fun j u e1 hj hju => ?_⟩⟩
   ·simp only [execOp, e1, hk _ _ _ hyd]
    simp [Instr.lookup, underlying, hu, getObj, Sem.run, h3, KK.check, hf]
   have hij := h6 i j en.val u g e0 e1 (C0 hen) hj he hju
   subst hij
   rw [C0 hen] at hj
   injection hj with hj
   subst hj
   rw [he] at hju
   injection hju with hju
   injection hju with _ hju
   exact ⟨zy hi, fun _ => by omega⟩
  refine ⟨.slice none 0 0, ?_, by rw [hg]; exact .inl ⟨rfl, rfl⟩, fun g e0 he => by simp [mP] at he⟩
  simp only [execOp, e1, hk _ _ _ hyd]
  simp [Instr.lookup, underlying, hu, getObj, Sem.run, h3, KK.check, hf, jL hz]) h
theorem yy {x y z : Operand} {kty : Ty} (KK : yB P kt κ) (hx : A.op fr x = .mp tg) (hc : A.tag tg = some (.mr KK.enc E Tb J q)) (h1 : fm tg) (hy : A.op fr y = kty) (hk : uf kty (KK.enc k)) (hz : A.op fr z = .qv E Tb tg J q k xs) (hm : mapOf P mt = some (kt, et)) (hJ : Nat.beq J tg = false)
 (h : aa P fr ops rest (A.after { d := none, S := [tg], sets := [(tg, .mr KK.enc E Tb J (gk q k xs))], rs := cF x ++ (cF y ++ cF z), rt := [tg] }) fun A' l' => K A' ((A, { d := none, S := [tg], sets := [(tg, .mr KK.enc E Tb J (gk q k xs))], rs := cF x ++ (cF y ++ cF z), rt := [tg] }) :: l')) :
 aa P fr ops (⟨none, .mapUpdate mt x y z, t, p, e, none⟩ :: rest) A K := by
 have hJ' : J ≠ tg := fun h => by subst h; simp at hJ
 refine ⟨_, mA rfl rfl rfl (by simp) (by simpa using h1.1) (by simp) fun a w M wf hrd htg => ?_, h⟩
 obtain ⟨hn, b, es, clock, e1, e2, h3, h4, h5, h6⟩ := LZ hx hc h1 wf (fun c hc => List.mem_append_left _ hc) hrd htg
 have hyd := cP (fun c hc => List.mem_append_right (cF x) (List.mem_append_left (cF z) hc)) hrd
 have hzd := cP (fun c hc => List.mem_append_right (cF x) (List.mem_append_right (cF y) hc)) hrd
 rw [hy] at hyd
 rw [hz] at hzd
 obtain ⟨hrow, hown⟩ := hzd
 have hu := qR hm
 have hblt : b < w.heap.size := wf.lt b _ e2
 have own' : ∀ (g e0 : Nat), mP E.size (a.eval z) = some (g, e0) → ∀ (j : Nat) (u : Value) (e' : Nat), (es.toList.map (·.val))[j]? = some u → mP E.size u = some (g, e') → (q[j]?).map Prod.fst = some k := fun g e0 he j u e' hj hju => by
  obtain ⟨b', es', c', g1, g2, g3⟩ := hown g e0 he
  obtain ⟨u', rfl⟩ : ∃ u, tg = u + 1 := ⟨tg - 1, by omega⟩
  have : b = b' := wf.inj b b' u' (by omega) e2 g1
  subst this
  rw [h3] at g2
  injection g2 with g2
  injection g2 with g2 g4
  subst g2
  exact (g3 j u e' hj hju).1
 have fin : ∀ (es' : Array MapEntry) (clock' : Nat), es'.toList.map (·.key) = (gk q k xs).map (fun x => KK.enc x.1) → cK w M ((gk q k xs).map fun x => Ty.iU E Tb J x.2) (es'.toList.map (·.val)) → Gq E.size (es'.toList.map (·.val)) →
  (Instr.mapUpdate mt (.map (some b)) (KK.enc k) (a.eval z)).run P w = .ok () { w with heap := w.heap.setIfInBounds b (.map es' clock') } →
  ∃ w', (execOp a.eval ⟨none, .mapUpdate mt x y z, t, p, e, none⟩).run P w = .ok .skip w' ∧ Fx.left { d := none, S := [tg], sets := [(tg, .mr KK.enc E Tb J (gk q k xs))], rs := cF x ++ (cF y ++ cF z), rt := [tg] } w M w' undef := by
  intro es' clock' hk' hd' hap hrun
  have hr : (execOp a.eval ⟨none, .mapUpdate mt x y z, t, p, e, none⟩).run P w = .ok .skip { w with heap := w.heap.setIfInBounds b (.map es' clock') } := by
   simp only [execOp, e1, hk _ _ _ hyd]
   simp [hrun]
  have le : Le (· ∈ [tg]) (· ∈ ([] : List Nat)) w M { w with heap := w.heap.setIfInBounds b (.map es' clock') } M := by
   refine ⟨by simp, rfl, rfl, rfl, fun b2 hlt hm2 => ⟨hm2, ?_⟩, fun b2 u hm2 _ => ⟨hm2, fun hs => ?_⟩⟩
   ·have : b ≠ b2 := fun h => by subst h; rw [e2] at hm2; cases hm2
    simp [Array.getElem?_setIfInBounds, this]
   have : b ≠ b2 := fun h => by subst h; rw [e2] at hm2; injection hm2 with hm2; exact hs (by simp [hm2])
   simp [Array.getElem?_setIfInBounds, this]
  refine ⟨_, hr, M, ⟨fun b2 u h => by simpa using wf.lt b2 u h, wf.inj⟩, le, trivial, fun x hx => ?_⟩
  rw [List.mem_singleton.1 hx]
  refine ⟨Gf q k xs hn, b, es', clock', e2, by simp [hblt], hk', ?_, hap⟩
  exact cB le (fun _ _ => by simp) (fun u hu => by rw [tY.2 u hu]; simpa using hJ') hd'
 rcases so KK h4 h5 k with ⟨i, v0, en, hi, hg, hen, hkey, hd, hf⟩ | ⟨hi, hg, hf⟩
 ·obtain ⟨v1, hv1, _, hput⟩ := pI q k i hi
  have hil : i < es.size := (Array.getElem?_eq_some_iff.1 hen).1
  have hes : (es.modify i fun e => { e with key := KK.enc k, val := a.eval z }).toList = es.toList.set i { en with key := KK.enc k, val := a.eval z } := by
   rw [Array.toList_modify, List.modify_eq_set, Array.getElem?_toList, hen]; rfl
  refine fin (es.modify i fun e => { e with key := KK.enc k, val := a.eval z }) clock ?_ ?_ ?_ ?_
  ·rw [hput, List.map_set, hes, List.map_set, h4]
  ·rw [hput, List.map_set, hes, List.map_set]
   exact rq h5 hrow
  ·rw [hes, List.map_set]
   intro i1 j1 v u g e' e'' hi1 hj1 hv hu
   rw [List.getElem?_set] at hi1 hj1
   by_cases c1 : i = i1 <;> by_cases c2 : i = j1
   ·omega
   ·rw [if_pos c1] at hi1; rw [if_neg c2] at hj1
    split at hi1
    ·injection hi1 with hi1
     have hi1 : a.eval z = v := hi1
     subst hi1
     have := CM q hn (own' g e' hv j1 u e'' hj1 hu) (zy hi)
     omega
    cases hi1
   ·rw [if_neg c1] at hi1; rw [if_pos c2] at hj1
    split at hj1
    ·injection hj1 with hj1
     have hj1 : a.eval z = u := hj1
     subst hj1
     have := CM q hn (own' g e'' hu i1 v e' hi1 hv) (zy hi)
     omega
    cases hj1
   rw [if_neg c1] at hi1; rw [if_neg c2] at hj1
   exact h6 i1 j1 v u g e' e'' hi1 hj1 hv hu
  simp [Instr.mapUpdate, underlying, hu, getObj, setObj, Sem.run, h3, KK.check, hf, hen, hkey, Instr.keyThatStays, KK.same]
 obtain ⟨_, hput⟩ := qF q k hi
 have hlen : (es.toList.map (·.val)).length = q.length := by have := congrArg List.length h4; simpa using this
 have hno : ∀ j, (q[j]?).map Prod.fst ≠ some k := fun j hj => by
  rw [List.findIdx?_eq_none_iff] at hi
  rw [← List.getElem?_map] at hj
  have := hi k (List.mem_of_getElem? hj)
  simp at this
 refine fin (es.push { key := KK.enc k, val := a.eval z, born := clock }) (clock + 1) ?_ ?_ ?_ ?_
 ·rw [hput]; simp [h4]
 ·rw [hput]; simp only [Array.toList_push, List.map_append, List.map_cons, List.map_nil]
  exact eB h5 ⟨hrow, trivial⟩
 ·simp only [Array.toList_push, List.map_append, List.map_cons, List.map_nil]
  intro i1 j1 v u g e' e'' hi1 hj1 hv hu
  rw [List.getElem?_append] at hi1 hj1
  split at hi1 <;> split at hj1
  ·exact h6 i1 j1 v u g e' e'' hi1 hj1 hv hu
  ·rw [List.getElem?_singleton] at hj1
   split at hj1
   ·injection hj1 with hj1
    subst hj1
    exact absurd (own' g e'' hu i1 v e' hi1 hv) (hno i1)
   cases hj1
  ·rw [List.getElem?_singleton] at hi1
   split at hi1
   ·injection hi1 with hi1
    subst hi1
    exact absurd (own' g e' hv j1 u e'' hj1 hu) (hno j1)
   cases hi1
  rw [List.getElem?_singleton] at hi1 hj1
  split at hi1 <;> split at hj1 <;> first | omega | (exfalso; simp at hj1; done) | (exfalso; simp at hi1; done)
 simp [Instr.mapUpdate, underlying, hu, getObj, setObj, Sem.run, h3, KK.check, hf]
end
section
variable {P : Program} {fr : Fr} {ops : Array Oper} {A : As} {rest : List Oper} {K : As → List (As × Fx) → Prop} {d : Nat} {t ty' mt kt et : TypeId} {p : String} {e : Array Edge} [T : lC P]
variable {κ α : Type} [DecidableEq κ] {E : El α} {Tb J tg : Nat} {q : List (κ × List α)} {k : κ} {xs ys : List α}
theorem Ga [Inhabited α] {w : World} {M : bB} {g off i j : Nat} {cur : Array Value} {ty : Ty} (hh : w.heap[g]? = some (.cells cur Tb (0, 0))) (hd : cK w M (xs.flatMap E.tys) ((cur.toList.drop off).take (xs.length * E.size))) (hi : i < xs.length) (hl : (E.tys (nth xs i))[j]? = some ty) :
 ∃ u, w.cell? ⟨g, off + i * E.size + j, none⟩ = some u ∧ ty.den w M u := by
 obtain ⟨u, hu, hdu⟩ := dg hd _ ty (lT E xs hi j ty hl)
 rw [List.getElem?_take] at hu
 split at hu
 ·rw [List.getElem?_drop] at hu
  exact ⟨u, by rw [Nat.add_assoc]; simpa [World.cell?, hh] using hu, hdu⟩
 cases hu
end
end Go.T
namespace Go.T
open Go Go.RowKit
section
variable {P : Program} {fr : Fr} {ops : Array Oper} {A : As} {rest : List Oper} {K : As → List (As × Fx) → Prop} {d : Nat} {t ty' mt kt et : TypeId} {p : String} {e : Array Edge} [T : lC P]
variable {κ α : Type} [DecidableEq κ] {E : El α} {Tb J tg : Nat} {q : List (κ × List α)} {k : κ} {xs ys : List α}
theorem HB (l news : List Value) (o n m e : Nat) (he : o + n ≤ e) (hl : e + news.length ≤ l.length) : (((l.take e ++ news ++ l.drop (e + news.length)).drop o).take n) = (l.drop o).take n := by
 apply List.ext_getElem?
 intro i
 rw [List.getElem?_take, List.getElem?_take]
 split
 ·rename_i hi
  rw [List.getElem?_drop, List.getElem?_drop, List.append_assoc, List.getElem?_append_left (by rw [List.length_take]; omega), List.getElem?_take, if_pos (by omega)]
 rfl
theorem Bi (l news : List Value) (o n : Nat) (hl : o + n + news.length ≤ l.length) : (((l.take (o + n) ++ news ++ l.drop (o + n + news.length)).drop o).take (n + news.length)) = (l.drop o).take n ++ news := by
 have h1 : (l.take (o + n) ++ news ++ l.drop (o + n + news.length)).drop o = (l.drop o).take n ++ news ++ l.drop (o + n + news.length) := by
  rw [List.append_assoc, List.drop_append_of_le_length (by rw [List.length_take]; omega), List.drop_take, show o + n - o = n by omega, List.append_assoc]
 have h2 : ((l.drop o).take n ++ news).length = n + news.length := by rw [List.length_append, List.length_take, List.length_drop, Nat.min_eq_left (by omega)]
 rw [h1, List.take_left' h2]
omit [DecidableEq κ] in
theorem It {w : World} {M : bB} {vs : List Value} (hd : cK w M (q.map fun x => Ty.iU E Tb J x.2) vs) {j : Nat} {u : Value} {g e1 : Nat} (hj : vs[j]? = some u) (hu : mP E.size u = some (g, e1)) : M g = some J := by
 have hlen := cQ hd
 have hlt := (List.getElem?_eq_some_iff.1 hj).1
 obtain ⟨x, hx, hdx⟩ := dg hd j (Ty.iU E Tb J (q[j]'(by simpa [hlen] using hlt)).2) (by rw [List.getElem?_map, List.getElem?_eq_getElem (by simpa [hlen] using hlt)]; rfl)
 rw [hj] at hx
 injection hx with hx
 subst hx
 rcases hdx with ⟨_, e⟩ | ⟨g', off, c, cur, e, hg, _⟩
 ·rw [e] at hu; simp [mP] at hu
 rw [e] at hu
 simp only [mP, Option.some.injEq, Prod.mk.injEq] at hu
 rw [← hu.1]; exact hg
theorem yw {x y : Operand} {enc : κ → Value} {st el : Nat} {ti te : TI} (hx : A.op fr x = .qv E el tg J q k xs) (hy : A.op fr y = .sl E ys) (hc : A.tag tg = some (.mr enc E el J q)) (h1 : fm tg) (hJ : 4096 ≤ J) (hp : fr.pass.contains J = false) (hpos : 0 < ys.length) (hT : T.tab[st]? = some ti) (hk : ti.k = .slice el) (hE : T.tab[el]? = some te) (hs : te.size = E.size) (hz : te.zero.length = te.size) (h0 : 0 < te.size)
    (hlen : (xs.length + ys.length) * te.bytes ≤ 140737488355328) (hlen' : xs.length + ys.length ≤ 9223372036854775807)
    (h : aa P fr ops rest (A.after { d := some d, ty := .qv E el tg J q k (xs ++ ys), S := [tg, J], sets := [(tg, .mr enc E el J q)], rs := cF x ++ cF y, rt := [tg] }) fun A' l' => K A' ((A, { d := some d, ty := .qv E el tg J q k (xs ++ ys), S := [tg, J], sets := [(tg, .mr enc E el J q)], rs := cF x ++ cF y, rt := [tg] }) :: l')) :
    aa P fr ops (⟨some d, .call ⟨.builtin .append, #[x, y], #[st, st]⟩, t, p, e, none⟩ :: rest) A K := by
  refine ⟨_, ff rfl rfl (by simp) (by simp; exact ⟨h1.1, by omega⟩) (by simp) fun a w M wf hr htg => ?_, h⟩
  obtain ⟨hdx, hdy⟩ := op2 hr
  rw [hx] at hdx; rw [hy] at hdy
  obtain ⟨hrow, hown⟩ := hdx
  obtain ⟨hn, b, es, clock, hb, hhb, hkeys, hvals, hap⟩ := htg _ (cw hc) (by simp)
  have ownb : ∀ (g e0 : Nat), mP E.size (a.eval x) = some (g, e0) → ∀ (j : Nat) (u : Value) (e1 : Nat), (es.toList.map (·.val))[j]? = some u → mP E.size u = some (g, e1) → (q[j]?).map Prod.fst = some k ∧ (roomy (a.eval x) = true → e1 ≤ e0) := fun g e0 he => by
    obtain ⟨b', es', c', g1, g2, g3⟩ := hown g e0 he
    obtain ⟨u', hu'⟩ : ∃ u, tg = u + 1 := ⟨tg - 1, by omega⟩
    have : b = b' := by
      have hb' : M b = some (u' + 1) := hu' ▸ hb
      have g1' : M b' = some (u' + 1) := hu' ▸ g1
      exact wf.inj b b' u' (by omega) hb' g1'
    subst this
    rw [hhb] at g2
    injection g2 with g2
    injection g2 with g2 _
    subst g2
    exact g3
  obtain ⟨_, D, _, hD, hkd, _⟩ := dK hT
  rw [hk] at hkd
  cases D <;> simp only [TK.of, reduceCtorEq, TK.slice.injEq] at hkd
  subst hkd
  rename_i el
  obtain ⟨i, _, hi, _, _, hsz, hby, hze⟩ := dK hE
  obtain ⟨zz, hiz, hzc⟩ : ∃ z, i.zero = some z ∧ z.cells.size = i.size := by
    cases hiz : i.zero with
    | none => rw [hiz] at hze; rw [← hze] at hz; simp at hz; omega
    | some z => rw [hiz] at hze; exact ⟨z, rfl, by simp at hze; rw [hsz, ← hz, ← hze]; simp⟩
  obtain ⟨ad, c', ey, hc1, hc2, hpp⟩ := hdy
  obtain ⟨b', off', rfl, hp'⟩ := hpp hpos
  obtain ⟨news, hn1, hn2, hn3⟩ := nK hp' _ (Nat.le_refl _)
  rw [List.take_length] at hn2
  have hnl : news.length = ys.length * i.size := by rw [hn1, dA, hsz, hs]
  have hnews : ∀ j u, news[j]? = some u → w.cell? ((⟨b', off', none⟩ : Addr).add j) = some u := fun j u hj => by rw [Addr.add_lit]; exact hn3 j u hj
  have hones := lX hn2 (lR E ys)
  have hesz : E.size = i.size := by rw [hsz, hs]
  -- behind a growth
  have grown : ∀ (olds : List Value) (cap : Nat), cK w M (xs.flatMap E.tys) olds → cap < xs.length + ys.length →
      (Builtin.append_ #[st, st] t #[a.eval x, a.eval y]).run P w = .ok (.slice (some ⟨w.heap.size, 0, none⟩) (xs.length + ys.length) (grownCap w (xs.length + ys.length) cap el)) (w.drew.alloc (.cells (olds.toArray ++ news.toArray ++ Builtin.zeroCells zz.cells (grownCap w (xs.length + ys.length) cap el - (xs.length + ys.length))) el)) →
      ∃ v w', (execOp a.eval ⟨some d, .call ⟨.builtin .append, #[x, y], #[st, st]⟩, t, p, e, none⟩).run P w = .ok (.value v) w' ∧ Fx.left { d := some d, ty := .qv E el tg J q k (xs ++ ys), S := [tg, J], sets := [(tg, .mr enc E el J q)], rs := cF x ++ cF y, rt := [tg] } w M w' v := by
    intro olds cap hdo hcap hrun
    have holen : olds.length = xs.length * i.size := by rw [cQ hdo, dA, hesz]
    have hge := grownCap_ge w (xs.length + ys.length) cap el
    have hcm : grownCap w (xs.length + ys.length) cap el ≤ maxLen := grownCap_le_maxLen w (xs.length + ys.length) cap el (by simp only [maxLen]; omega)
    have hsize : (w.drew.alloc (.cells (olds.toArray ++ news.toArray ++ Builtin.zeroCells zz.cells (grownCap w (xs.length + ys.length) cap el - (xs.length + ys.length))) el)).heap.size = w.heap.size + 1 := by simp
    have hold : ∀ b2, b2 < w.heap.size → (w.drew.alloc (.cells (olds.toArray ++ news.toArray ++ Builtin.zeroCells zz.cells (grownCap w (xs.length + ys.length) cap el - (xs.length + ys.length))) el)).heap[b2]? = w.heap[b2]? := fun b2 h => Below.heap_alloc w.drew _ b2 h
    have hnew : (w.drew.alloc (.cells (olds.toArray ++ news.toArray ++ Builtin.zeroCells zz.cells (grownCap w (xs.length + ys.length) cap el - (xs.length + ys.length))) el)).heap[w.heap.size]? = some (.cells (olds.toArray ++ news.toArray ++ Builtin.zeroCells zz.cells (grownCap w (xs.length + ys.length) cap el - (xs.length + ys.length))) el (0, 0)) := fO w.drew _
    have hos : (w.drew.alloc (.cells (olds.toArray ++ news.toArray ++ Builtin.zeroCells zz.cells (grownCap w (xs.length + ys.length) cap el - (xs.length + ys.length))) el)).os = w.os ∧ (w.drew.alloc (.cells (olds.toArray ++ news.toArray ++ Builtin.zeroCells zz.cells (grownCap w (xs.length + ys.length) cap el - (xs.length + ys.length))) el)).tape = w.tape ∧ (w.drew.alloc (.cells (olds.toArray ++ news.toArray ++ Builtin.zeroCells zz.cells (grownCap w (xs.length + ys.length) cap el - (xs.length + ys.length))) el)).output = w.output := ⟨rfl, rfl, rfl⟩
    have hcs : (olds.toArray ++ news.toArray ++ Builtin.zeroCells zz.cells (grownCap w (xs.length + ys.length) cap el - (xs.length + ys.length))).size = grownCap w (xs.length + ys.length) cap el * i.size := by
      simp only [Array.size_append, List.size_toArray, size_zeroCells, hzc, holen, hnl, ← Nat.add_mul]
      congr 1
      omega
    have htk : ((olds.toArray ++ news.toArray ++ Builtin.zeroCells zz.cells (grownCap w (xs.length + ys.length) cap el - (xs.length + ys.length))).toList.drop 0).take ((xs ++ ys).length * E.size) = olds ++ news := by
      rw [List.drop_zero]
      simp only [Array.toList_append]
      rw [List.take_left' (by rw [List.length_append, holen, hnl, List.length_append, hesz, Nat.add_mul])]
    generalize hw' : (w.drew.alloc (.cells (olds.toArray ++ news.toArray ++ Builtin.zeroCells zz.cells (grownCap w (xs.length + ys.length) cap el - (xs.length + ys.length))) el)) = w' at *
    generalize hcu : (olds.toArray ++ news.toArray ++ Builtin.zeroCells zz.cells (grownCap w (xs.length + ys.length) cap el - (xs.length + ys.length))) = cu at *
    have le : Le (· ∈ [tg, J]) (· ∈ ([] : List Nat)) w M w' (fun b2 => if b2 = w.heap.size then some J else M b2) :=
      ⟨by omega, hos.1, hos.2.1, hos.2.2, fun b2 hb2 hm => ⟨by rw [if_neg (by omega)]; exact hm, hold b2 hb2⟩, fun b2 u hm _ => by
        have := wf.lt b2 u hm
        exact ⟨by rw [if_neg (by omega)]; exact hm, fun _ => hold b2 this⟩⟩
    have le0 : Le (· ∈ ([] : List Nat)) (· ∈ ([] : List Nat)) w M w' (fun b2 => if b2 = w.heap.size then some J else M b2) :=
      ⟨by omega, hos.1, hos.2.1, hos.2.2, fun b2 hb2 hm => ⟨by rw [if_neg (by omega)]; exact hm, hold b2 hb2⟩, fun b2 u hm _ => by
        have := wf.lt b2 u hm
        exact ⟨by rw [if_neg (by omega)]; exact hm, fun _ => hold b2 this⟩⟩
    have wf' : Wf w' (fun b2 => if b2 = w.heap.size then some J else M b2) := by
      refine ⟨fun b2 u hm => ?_, fun b2 b3 u ht1 hm hm' => ?_⟩
      · split at hm
        · omega
        · have := wf.lt b2 u hm; omega
      · split at hm
        · injection hm with hm; omega
        · split at hm'
          · injection hm' with hm'; omega
          · exact wf.inj b2 b3 u ht1 hm hm'
    have hblt := wf.lt b tg hb
    refine ⟨.slice (some ⟨w.heap.size, 0, none⟩) (xs.length + ys.length) (grownCap w (xs.length + ys.length) cap el), w', by simp [execOp, resolve, invoke, builtin, hrun], _, wf', le, ⟨.inr ⟨w.heap.size, 0, grownCap w (xs.length + ys.length) cap el, cu, by rw [List.length_append], by simp, hnew, by rw [List.length_append]; exact hge, hcm, by rw [hcs, hesz]; omega, ?_⟩, fun g e0 he => ?_⟩, fun y hy => ?_⟩
    · rw [htk, List.flatMap_append]
      exact ke (cB le0 (by rw [E.dI]; intro _ h; cases h) (by rw [E.cv]; intro _ h; cases h) hdo) (cB le0 (by rw [E.dI]; intro _ h; cases h) (by rw [E.cv]; intro _ h; cases h) hn2)
    · simp only [mP, Option.some.injEq, Prod.mk.injEq] at he
      obtain ⟨rfl, _⟩ := he
      refine ⟨b, es, clock, (if_neg (by omega)).trans hb, (hold b hblt).trans hhb, fun j u e1 hj hju => ?_⟩
      have := wf.lt _ _ (It hvals hj hju)
      omega
    · rw [List.mem_singleton.1 hy]
      refine ⟨hn, b, es, clock, (if_neg (by omega)).trans hb, (hold b hblt).trans hhb, hkeys, ?_, hap⟩
      exact cB le0 (fun _ _ h => by cases h) (fun _ _ h => by cases h) hvals
  rcases hrow with ⟨hxe, ex⟩ | ⟨g, off, cap, cur, ex, hg, hh, hxc, hcm, hfit, hdx⟩
  · have hrn := run_append_nil (P := P) w st t el i zz hD hi hiz ⟨b', off', none⟩ ys.length c' news hnl hnews hpos (by omega) (by rw [hby]; have := hlen; rw [Nat.add_mul] at this; omega)
    subst hxe
    refine grown [] 0 trivial (by simpa using hpos) ?_
    rw [ex, ey]
    simpa using hrn
  · by_cases hroom : xs.length + ys.length ≤ cap
    · -- in place
      have hm : (xs.length + ys.length) * E.size ≤ cap * E.size := Nat.mul_le_mul_right _ hroom
      rw [Nat.add_mul] at hm
      have hcf : off + xs.length * i.size + news.length ≤ cur.size := by rw [hnl, ← hesz]; omega
      have hf := run_firstCells_some (P := P) w i.size ys.length ⟨b', off', none⟩ ys.length c' news hnl hnews
      have hst := run_storeCells_at (P := P) g (off + xs.length * i.size) el news 0 cur w hh (by simpa using hcf) hones
      rw [lq _ hh] at hst
      simp only [Nat.add_zero] at hst
      obtain ⟨h1', h2', h3'⟩ := jm (cs' := (cur.toList.take (off + xs.length * i.size) ++ news ++ cur.toList.drop (off + xs.length * i.size + news.length)).toArray) (Tb := el) wf hg _ rfl
      have hrun : (Builtin.append_ #[st, st] t #[a.eval x, a.eval y]).run P w = .ok (.slice (some ⟨g, off, none⟩) (xs.length + ys.length) cap) { w with heap := w.heap.setIfInBounds g (.cells (cur.toList.take (off + xs.length * i.size) ++ news ++ cur.toList.drop (off + xs.length * i.size + news.length)).toArray el (0, 0)) } := by
        rw [ex, ey]
        simp [Builtin.append_, run_underlying hD, sizeOf, typeInfo, hi, Builtin.lenOf, hroom, hf, Addr.add_lit, hst]
      have le : Le (· ∈ [tg, J]) (· ∈ ([] : List Nat)) w M { w with heap := w.heap.setIfInBounds g (.cells (cur.toList.take (off + xs.length * i.size) ++ news ++ cur.toList.drop (off + xs.length * i.size + news.length)).toArray el (0, 0)) } M :=
        h2'.weaken (fun u hu => by simp only [List.mem_singleton] at hu; subst hu; simp) (fun _ h => by cases h)
      have hgb : g ≠ b := fun e => by rw [e, hhb] at hh; cases hh
      have hroomy : roomy (a.eval x) = true := by rw [ex]; simp [roomy]; omega
      have hb' : ({ w with heap := w.heap.setIfInBounds g (.cells (cur.toList.take (off + xs.length * i.size) ++ news ++ cur.toList.drop (off + xs.length * i.size + news.length)).toArray el (0, 0)) } : World).heap[b]? = some (.map es clock) := by
        show (w.heap.setIfInBounds g _)[b]? = _
        rw [Array.getElem?_setIfInBounds_ne hgb]; exact hhb
      refine ⟨.slice (some ⟨g, off, none⟩) (xs.length + ys.length) cap, _, by simp [execOp, resolve, invoke, builtin, hrun], M, h1', le, ⟨.inr ⟨g, off, cap, _, by rw [List.length_append], hg, h3', by rw [List.length_append]; exact hroom, hcm, ?_, ?_⟩, fun g' e0 he => ?_⟩, fun y hy => ?_⟩
      · simp only [List.size_toArray, List.length_append, List.length_take, List.length_drop, Array.length_toList]
        omega
      · rw [List.length_append, Nat.add_mul, hesz, ← hnl, List.toList_toArray, Bi _ _ _ _ (by simpa using hcf), List.flatMap_append]
        refine cB h2' (by rw [← List.flatMap_append, E.dI]; intro _ h; cases h) (by rw [← List.flatMap_append, E.cv]; intro _ h; cases h) (ke ?_ hn2)
        rw [← hesz]; exact hdx
      · simp only [mP, Option.some.injEq, Prod.mk.injEq] at he
        obtain ⟨rfl, rfl⟩ := he
        refine ⟨b, es, clock, hb, hb', fun j u e1 hj hju => ?_⟩
        have := ownb g (off + xs.length * E.size) (by rw [ex]; rfl) j u e1 hj hju
        refine ⟨this.1, fun _ => ?_⟩
        have := this.2 hroomy
        rw [Nat.add_mul]; omega
      · rw [List.mem_singleton.1 hy]
        refine ⟨hn, b, es, clock, hb, hb', hkeys, ?_, hap⟩
        refine gi (by rw [cQ hvals]) fun j ty hj => ?_
        obtain ⟨u, hu, hdu⟩ := dg hvals j ty hj
        refine ⟨u, hu, ?_⟩
        rw [List.getElem?_map] at hj
        obtain ⟨qe, _, rfl⟩ := Option.map_eq_some_iff.1 hj
        rcases hdu with h | ⟨g2, off2, c2, cur2, e2, hg2, hh2, k1, k2, k3, k4⟩
        · exact .inl h
        · by_cases hgg : g = g2
          · subst hgg
            rw [hh] at hh2
            injection hh2 with hh2
            injection hh2 with ha _
            subst ha
            have hend := (ownb g (off + xs.length * E.size) (by rw [ex]; rfl) j u _ hu (by rw [e2]; rfl)).2 hroomy
            refine .inr ⟨g, off2, c2, _, e2, hg, h3', k1, k2, ?_, ?_⟩
            · simp only [List.size_toArray, List.length_append, List.length_take, List.length_drop, Array.length_toList]
              omega
            · rw [List.toList_toArray, HB _ _ _ _ 0 _ (by rw [← hesz]; exact hend) (by simpa using hcf)]
              exact cB h2' (by rw [E.dI]; intro _ h; cases h) (by rw [E.cv]; intro _ h; cases h) k4
          · refine .inr ⟨g2, off2, c2, cur2, e2, hg2, ?_, k1, k2, k3, cB h2' (by rw [E.dI]; intro _ h; cases h) (by rw [E.cv]; intro _ h; cases h) k4⟩
            show (w.heap.setIfInBounds g _)[g2]? = _
            rw [Array.getElem?_setIfInBounds_ne hgg]; exact hh2
    · have holds : ∀ j u, ((cur.toList.drop off).take (xs.length * E.size))[j]? = some u → w.cell? ((⟨g, off, none⟩ : Addr).add j) = some u := fun j u hj => by
        rw [List.getElem?_take] at hj
        split at hj
        · rw [List.getElem?_drop] at hj
          rw [Addr.add_lit]
          simpa [World.cell?, hh] using hj
        · cases hj
      have hol : ((cur.toList.drop off).take (xs.length * E.size)).length = xs.length * i.size := by rw [cQ hdx, dA, hesz]
      have hrn := run_append_grow (P := P) w st t el i zz hD hi hiz ⟨g, off, none⟩ xs.length cap _ hol holds ⟨b', off', none⟩ ys.length c' news hnl hnews (by omega) (by omega) (growslice_fits (by omega) (by rw [hby]; exact hlen))
      refine grown _ cap hdx (by omega) ?_
      rw [ex, ey]
      exact hrn
end
end Go.T
namespace Go.T
open Go Go.RowKit
theorem p8 {w : World} {M : bB} : ∀ (l : List Int) (vs : List Value), cK w M (l.flatMap cS.tys) vs → vs = l.map (Value.int .i64)
  | [], [], _ => rfl
  | a :: l, v :: vs, ⟨h, h'⟩ => by
    have e : v = .int .i64 a := h
    rw [e, List.map_cons, p8 l vs h']
end Go.T
namespace Go.T
open Go Go.RowKit Go.Lib
section
variable {P : Program} {fr : Fr} {ops : Array Oper} {A : As} {rest : List Oper} {K : As → List (As × Fx) → Prop} {d : Nat} {t ty' ty2 : TypeId} {p : String} {e : Array Edge} [T : lC P]
end
end Go.T
namespace Go.T
open Go Go.RowKit
section
variable {P : Program} {fr : Fr} {ops : Array Oper} {A : As} {rest : List Oper} {K : As → List (As × Fx) → Prop} {t mt : TypeId} {p : String} {e : Array Edge} {d : Option Nat} {x y z : Operand}
theorem Bf (h : aa P fr ops (⟨d, .mapUpdate mt x y z, t, p, e, none⟩ :: rest) A K) : aa P fr ops (⟨d, .insert mt x y z, t, p, e, none⟩ :: rest) A K := by
  obtain ⟨f, ⟨h1, h2, h3, h4, h5⟩, hr⟩ := h
  refine ⟨f, ⟨h1, h2, h3, h4, fun a w M wf hs hrd htg => ?_⟩, hr⟩
  have := h5 a w M wf hs hrd htg
  rw [if_pos (by simp [Region.wanted])] at this ⊢
  obtain ⟨_, g2⟩ := this
  refine ⟨fun f _ => fr.kd.sq f, ?_⟩
  rw [Oper.semAt_eq _ _ _ (by simp)] at g2 ⊢
  have e1 : execOp a.eval ⟨d, .insert mt x y z, t, p, e, none⟩ = execOp a.eval ⟨d, .mapUpdate mt x y z, t, p, e, none⟩ := rfl
  rw [e1]
  generalize (execOp a.eval ⟨d, .mapUpdate mt x y z, t, p, e, none⟩).run P w = r at *
  cases r with
  | ok n w' => cases n <;> exact g2
  | halt x w' => cases x <;> exact g2
end
section
variable {P : Program} {fr : Fr} {ops : Array Oper} {A : As} {rest : List Oper} {K : As → List (As × Fx) → Prop} {d : Nat} {t mt kt et : TypeId} {p : String} {e : Array Edge}
variable {κ β : Type} [DecidableEq κ]
end
section
variable {A : As} {κ β : Type} [DecidableEq κ]
end
section
variable {P : Program} {fr : Fr} {ops : Array Oper} {A : As} {rest : List Oper} {K : As → List (As × Fx) → Prop} {t ty' : TypeId} {p : String} {e : Array Edge} [T : lC P]
end
section
variable {P : Program} {fr : Fr} {ops : Array Oper} {A : As} {rest : List Oper} {K : As → List (As × Fx) → Prop} {d : Nat} {t ty' : TypeId} {p : String} {e : Array Edge} [T : lC P]
theorem pF {α : Type} [Inhabited α] {E : El α} {xs : List α} {x : Operand} {tg off Tb : Nat} {ti : TI} (i : Nat) (hx : A.op fr x = .ptr tg off) (he : off = i * E.size) (hc : A.tag tg = some (.vec E Tb xs)) (h1 : fm tg) (hT : T.tab[ty']? = some ti) (ha : ti.k.agg = true) (hsz : ti.size = E.size) (hi : i < xs.length)
 (h : aa P fr ops rest (A.set d (.agg (E.tys (nth xs i)))) fun A' l => K A' ((A, { d := some d, ty := .agg (E.tys (nth xs i)), rs := cF x, rt := [tg] }) :: l)) : aa P fr ops (⟨some d, .load ty' x, t, p, e, none⟩ :: rest) A K :=
 bN (bV rfl rfl fun a w M wf hr ht => by
  have := cP (x := x) (fun _ h => h) hr
  rw [hx] at this
  obtain ⟨b, hb, e⟩ := this
  obtain ⟨cs, g1, g2, g3⟩ := xq (l := E.tys (nth xs i)) (b := b) (q := off) (off := 0) (n := ti.size) (m := E.tys (nth xs i)) (fun j t hj => pN wf h1 hb (sn hc w M ht) (by
   rw [he]; exact lT E xs hi j t hj)) (by rw [List.drop_zero, hsz, ← E.len (nth xs i), List.take_length]) (by rw [E.len, hsz])
  exact ⟨.agg cs.toArray, by simp only [execOp, e]; rw [Sem.run_bind, fy (off := off) hT ha g1 (by simpa using g3)]; rfl, cs.toArray, rfl, by simpa using g2⟩) h
end
section
variable {P : Program} {A : As} {fn : Func} {n : Nat} {w0 : World} {M0 : bB} [T : lC P]
end
section
variable {P : Program} {fr : Fr} {A : As} {c : Code} {Q : Exit → Act → World → Prop}
theorem fV {tg : Nat} {C D : Cont} (hc : A.tag tg = some C) (h : C.Sub D) (h' : fP P fr c ⟨A.slots, (tg, D) :: A.tags⟩ Q) : fP P fr c A Q := fun a w ⟨M, ok, hsl, ht⟩ =>
 h' a w ⟨M, ok, hsl, fun x hx => by
  rcases List.mem_cons.1 hx with rfl | hx
  ·exact h _ _ _ (ht _ (cw hc))
  exact ht x hx⟩
end
section
variable {P : Program} {fr : Fr} {ops : Array Oper} {A : As} {rest : List Oper} {K : As → List (As × Fx) → Prop} {d : Nat} {t mt kt et : TypeId} {p : String} {e : Array Edge} {κ β : Type} [DecidableEq κ]
end
end Go.T
namespace Go.T
open Go Go.RowKit
def NT (J : World → bB → Prop) (w : World) (M : bB) : Prop :=
  ∃ Mc, Wf w Mc ∧ Fe Mc ∧ J w Mc ∧ (∀ b, M b = none → Mc b = none) ∧ ∀ b u, b < w.heap.size → M b = some u → u ≠ 7000 → Mc b = some (Zt + b)
theorem vr {J : World → bB → Prop} (hJ : Cb J) {S K : Nat → Prop} {w w' : World} {M M' : bB} (le : Le S K w M w' M') (hs : ¬ S 7000) (hk : ¬ K 7000) (h : NT J w M) : NT J w' M' := by
  obtain ⟨Mc, wf, z, hj, h1, h2⟩ := h
  have own : ∀ b, M b = some 7000 → M' b = some 7000 ∧ w'.heap[b]? = w.heap[b]? := fun b h => let ⟨a, c⟩ := le.own b _ h hk; ⟨a, c hs⟩
  have mb : ∀ b t, Mc b = some t → t < Zt → M b = some 7000 := fun b t h ht => by
    cases hm : M b with
    | none => rw [h1 b hm] at h; cases h
    | some u =>
      by_cases e : u = 7000
      · rw [e]
      · have := h2 b u (wf.lt b t h) hm e
        rw [this] at h; injection h with h; omega
  let N : bB := fun b => if b < w'.heap.size then (match M' b with | none => none | some u => if u = 7000 then (if b < w.heap.size ∧ M b = some 7000 then Mc b else some (Zt + b)) else some (Zt + b)) else none
  have hN : ∀ b, N b = if b < w'.heap.size then (match M' b with | none => none | some u => if u = 7000 then (if b < w.heap.size ∧ M b = some 7000 then Mc b else some (Zt + b)) else some (Zt + b)) else none := fun _ => rfl
  have zok : Fe N := by
    intro b u h hu
    rw [hN] at h
    split at h
    · split at h
      · cases h
      · split at h
        · split at h
          · exact z b u h hu
          · injection h with h; exact h.symm
        · injection h with h; exact h.symm
    · cases h
  have wf' : Wf w' N := by
    refine ⟨fun b t h => ?_, fun b b' t ht1 h h' => ?_⟩
    · rw [hN] at h
      split at h
      · assumption
      · cases h
    · have part : ∀ b, N b = some (t + 1) → Mc b = some (t + 1) := fun b h => by
        have hz : t + 1 < Zt := by unfold Zt; omega
        rw [hN] at h
        split at h
        · split at h
          · cases h
          · split at h
            · split at h
              · exact h
              · injection h with h; omega
            · injection h with h; omega
        · cases h
      exact wf.inj b b' t ht1 (part b h) (part b' h')
  have lez : Le (fun t => Zt ≤ t) (fun t => Zt ≤ t) w Mc w' N := by
    refine ⟨le.size, le.os, le.tape, le.out, fun b hb hm => ?_, fun b t hm ht => ?_⟩
    · have hb' : b < w'.heap.size := Nat.lt_of_lt_of_le hb le.size
      cases hmb : M b with
      | none =>
        obtain ⟨a, c⟩ := le.qB b hb hmb
        exact ⟨by rw [hN, if_pos hb', a], c⟩
      | some u =>
        by_cases e : u = 7000
        · subst e
          obtain ⟨a, c⟩ := own b hmb
          exact ⟨by rw [hN, if_pos hb', a]; show (if (7000 : Nat) = 7000 then _ else _) = _; rw [if_pos rfl, if_pos ⟨hb, hmb⟩]; exact hm, c⟩
        · rw [h2 b u hb hmb e] at hm; cases hm
    · have hlt := wf.lt b t hm
      have h0 := mb b t hm (Nat.lt_of_not_le ht)
      obtain ⟨a, c⟩ := own b h0
      refine ⟨?_, fun _ => c⟩
      rw [hN, if_pos (Nat.lt_of_lt_of_le hlt le.size), a]
      show (if (7000 : Nat) = 7000 then _ else _) = _
      rw [if_pos rfl, if_pos ⟨hlt, h0⟩]; exact hm
  refine ⟨N, wf', zok, hJ _ _ _ _ wf' lez hj, fun b h => ?_, fun b u hb h hu => ?_⟩
  · rw [hN, h]; split <;> rfl
  · rw [hN, if_pos hb, h]; show (if u = 7000 then _ else _) = _; rw [if_neg hu]
def Cont.ck {J : World → bB → Prop} (hJ : Cb J) : Cont :=
  { den := fun w M t => t = 7000 ∧ NT J w M
    mono := fun le _ _ hs hk ⟨e, h⟩ => ⟨e, vr hJ le (e ▸ hs) (e ▸ hk) h⟩ }
theorem Cont.MF {J : Nat → World → bB → Prop} (hJ : ∀ k, Cb (J k)) {a b : Nat} (e : a = b) : (Cont.ck (hJ a)).Sub (Cont.ck (hJ b)) := by subst e; exact Cont.aE _
def Ow (b1 : Bool) (J1 Jx : World → bB → Prop) (w : World) (M : bB) (v : Value) : Prop := (v = .bool b1 ∧ NT J1 w M) ∨ (v = .bool (!b1) ∧ NT Jx w M)
def Ty.yb {J1 Jx : World → bB → Prop} (b1 : Bool) (h1 : Cb J1) (hx : Cb Jx) : Ty :=
  ⟨Ow b1 J1 Jx, [7000], [7000], fun le hk hs h => h.imp (fun ⟨e, h⟩ => ⟨e, vr h1 le (hs _ (by simp)) (hk _ (by simp)) h⟩) (fun ⟨e, h⟩ => ⟨e, vr hx le (hs _ (by simp)) (hk _ (by simp)) h⟩), true, fun _ h => h.elim (fun ⟨e, _⟩ => e ▸ rfl) (fun ⟨e, _⟩ => e ▸ rfl)⟩
def CH (w : World) (M1 Mc' : bB) : bB := fun b => if b < w.heap.size then M1 b else (Mc' b).map fun _ => 7000
theorem H7 {w w' : World} {M1 Mc Mc' : bB} (wf1 : Wf w M1) (wf' : Wf w' Mc') (h1 : ∀ b, M1 b = none → Mc b = none) (h2 : ∀ b u, b < w.heap.size → M1 b = some u → u ≠ 7000 → Mc b = some (Zt + b)) (le : Le (fun t => t < Zt) (fun t => t < Zt) w Mc w' Mc') :
 Wf w' (CH w M1 Mc') ∧ Le (· ∈ [7000]) (· ∈ ([] : List Nat)) w M1 w' (CH w M1 Mc') ∧ (∀ b, CH w M1 Mc' b = none → Mc' b = none) ∧ ∀ b u, b < w'.heap.size → CH w M1 Mc' b = some u → u ≠ 7000 → Mc' b = some (Zt + b) := by
 unfold CH
 refine ⟨⟨fun b u h => ?_, fun b b' u ht1 h h' => ?_⟩, ⟨le.size, le.os, le.tape, le.out, fun b hb hm => ⟨by simp [hb, hm], (le.qB b hb (h1 b hm)).2⟩, fun b u hm _ => ⟨by simp [wf1.lt b u hm, hm], fun hs => ?_⟩⟩, fun b h => ?_, fun b u _ h hu => ?_⟩
 ·split at h
  ·exact Nat.lt_of_lt_of_le ‹_› le.size
  obtain ⟨v, hv, _⟩ := Option.map_eq_some_iff.1 h
  exact wf'.lt b v hv
 ·have part : ∀ b, (if b < w.heap.size then M1 b else (Mc' b).map fun _ => 7000) = some (u + 1) → M1 b = some (u + 1) := fun b h => by
   split at h
   ·exact h
   obtain ⟨v, _, hv⟩ := Option.map_eq_some_iff.1 h
   omega
  exact wf1.inj b b' u ht1 (part b h) (part b' h')
 ·have hu : u ≠ 7000 := fun e => hs (by simp [e])
  exact (le.own b _ (h2 b u (wf1.lt b _ hm) hm hu) (by omega)).2 (by omega)
 ·split at h
  ·exact (le.qB b ‹_› (h1 b h)).1
  simpa using h
 split at h
 ·exact (le.own b _ (h2 b u ‹_› h hu) (by omega)).1
 obtain ⟨v, _, hv⟩ := Option.map_eq_some_iff.1 h
 exact absurd hv.symm hu
section
variable {P : Program} {fr : Fr} {ops : Array Oper} {A : As} {rest : List Oper} {K : As → List (As × Fx) → Prop} {d : Nat} {t ty' : TypeId} {p : String} {e : Array Edge}
theorem A9 {c l k : Nat} {encs : List (List Ty)} {J : Nat → World → bB → Prop} {Jx : World → bB → Prop} (hJ : ∀ k, Cb (J k)) (hJx : Cb Jx) (hY : NS P l encs J Jx) {xs : List Operand} {ats : Array TypeId} {tys : List Ty}
 (hkd : fr.kd = .plain) (hc : A.op fr (.tmp c) = .ex (yv l)) (hx : mR A fr xs = tys) (hd : cG tys = []) (hdc : bt tys = []) (hk : encs[k]? = some tys) (ht : A.tag 7000 = some (.ck (hJ k)))
 (h : aa P fr ops rest (A.after { d := some d, ty := .yb true (hJ (k + 1)) hJx, S := [7000], rs := c :: xs.flatMap cF, rt := [7000] }) fun A' l' => K A' ((A, { d := some d, ty := .yb true (hJ (k + 1)) hJx, S := [7000], rs := c :: xs.flatMap cF, rt := [7000] }) :: l')) :
 aa P fr ops (⟨some d, .call ⟨.value (.tmp c), xs.toArray, ats⟩, t, p, e, none⟩ :: rest) A K := by
 refine ⟨{ d := some d, ty := .yb true (hJ (k + 1)) hJx, S := [7000], rs := c :: xs.flatMap cF, rt := [7000] }, ⟨rfl, by simp, by simp, by simp, fun a w M wf hsz hrd htg => ?_⟩, h⟩
 rw [if_pos (by simp [Region.wanted])]
 have hcv := cP (x := .tmp c) (rs := c :: xs.flatMap cF) (fun u hu => by exact (List.mem_singleton.1 hu) ▸ List.mem_cons_self) hrd
 rw [hc] at hcv
 have hcv : a.eval (.tmp c) = yv l := hcv
 obtain ⟨_, Mc, wfc, z, hj, h1, h2⟩ := htg _ (cw ht) (by simp)
 have hv : cK w Mc tys (xs.map a.eval) := iF h1 hd hdc (hx ▸ gE (rs := c :: xs.flatMap cF) hrd fun x hx c hc => List.mem_cons_of_mem _ (List.mem_flatMap.2 ⟨x, hx, hc⟩))
 obtain ⟨fn, tmps, assign, body, hy, hR⟩ := hY k tys hk w Mc _ wfc z hj hv
 refine ⟨fun f _ => fr.kd.sq f, ?_⟩
 have hrun : (execOp a.eval ⟨some d, .call ⟨.value (.tmp c), xs.toArray, ats⟩, t, p, e, none⟩).run P w = .ok (.round l fn tmps assign body) w := by
  simp [execOp, resolve, hcv, yv, Deferred.ofValue, invoke, hy]
 rw [Oper.semAt_eq _ _ _ (by intro c h; cases h), hrun, Oper.uponIn_round]
 refine ⟨fun h => (by rw [fr.kd.vq] at h; cases h), ?_⟩
 have hfe : fr.kd.jB = Fence.wide := by rw [hkd]; rfl
 rw [hfe]
 refine RoundIn.mono hR fun en w' ⟨Mc', wf', z', le, hor⟩ => ?_
 obtain ⟨g1, g2, g3, g4⟩ := H7 wf wf' h1 h2 le
 rcases hor with ⟨rfl, hj'⟩ | ⟨rfl, hj'⟩
 ·exact ⟨.bool true, rfl, _, g1, g2, .inl ⟨rfl, Mc', wf', z', hj', g3, g4⟩, by simp⟩
 exact ⟨.bool false, rfl, _, g1, g2, .inr ⟨rfl, Mc', wf', z', hj', g3, g4⟩, by simp⟩
theorem JN {x : Operand} {J1 Jx : World → bB → Prop} {h1 : Cb J1} {hx : Cb Jx} {b1 : Bool} (hop : A.op fr x = .yb b1 h1 hx)
 (h : aa P fr ops rest (A.set d (.yb (!b1) h1 hx)) fun A' l' => K A' ((A, { d := some d, ty := .yb (!b1) h1 hx, rs := cF x }) :: l')) : aa P fr ops (⟨some d, .unOp .not ty' x, t, p, e, none⟩ :: rest) A K :=
 bN (bV rfl rfl fun a w M _ hrd _ => by
  have hdx := cP (x := x) (fun _ h => h) hrd
  rw [hop] at hdx
  rcases hdx with ⟨ex, hj⟩ | ⟨ex, hj⟩
  ·exact ⟨.bool (!b1), by simp [execOp, ex, Op.unary], .inl ⟨rfl, hj⟩⟩
  exact ⟨.bool (!!b1), by simp [execOp, ex, Op.unary], .inr ⟨rfl, hj⟩⟩) h
end
section
variable {P : Program} {fr : Fr} {A : As} {Q : Exit → Act → World → Prop} {x y : Code}
theorem FB {c : Operand} {J1 Jx : World → bB → Prop} {h1 : Cb J1} {hx : Cb Jx} (hc : A.op fr c = .yb false h1 hx) (hth : fP P fr x ⟨A.slots, (7000, .ck hx) :: A.tags⟩ Q) (hel : fP P fr y ⟨A.slots, (7000, .ck h1) :: A.tags⟩ Q) : fP P fr (.cond c x y) A Q := fun a w ha => by
 obtain ⟨M, ok, hs, ht⟩ := ha
 have hd := cP (x := c) (rs := cF c) (fun _ h => h) (fun c _ hn => hs c hn)
 rw [hc] at hd
 rcases hd with ⟨ev, hj⟩ | ⟨ev, hj⟩
 ·exact wpIn_cond_false ev (hel a w ⟨M, ok, hs, fun x hx => by
   rcases List.mem_cons.1 hx with rfl | hx
   ·exact ⟨rfl, hj⟩
   exact ht x hx⟩)
 ·exact wpIn_cond_true ev (hth a w ⟨M, ok, hs, fun x hx => by
   rcases List.mem_cons.1 hx with rfl | hx
   ·exact ⟨rfl, hj⟩
   exact ht x hx⟩)
end
def ko (Mc : bB) (g : Option Nat) : bB := fun b => match Mc b with | none => none | some u => if u < Zt then some 7000 else if some b = g then some 1000 else some 5000
theorem BP {Mc : bB} {g : Option Nat} {b : Nat} (h : ko Mc g b = none) : Mc b = none := by
 unfold ko at h
 split at h
 ·assumption
 split at h
 ·cases h
 split at h <;> cases h
theorem nu {Mc : bB} {g : Option Nat} {b : Nat} (h : Mc b = none) : ko Mc g b = none := by simp [ko, h]
theorem FU {w : World} {Mc : bB} {g : Option Nat} (wf : Wf w Mc) : Wf w (ko Mc g) := by
  refine ⟨fun b t h => ?_, fun b b' t ht h h' => ?_⟩
  · cases hm : Mc b with
    | none => rw [nu hm] at h; cases h
    | some u => exact wf.lt b u hm
  · have key : ∀ b, ko Mc g b = some (t + 1) → some b = g := fun b h => by
      unfold ko at h
      split at h
      · cases h
      · split at h
        · injection h with h; omega
        · split at h
          · assumption
          · injection h with h; omega
    have e1 := key b h
    have e2 := key b' h'
    rw [← e2] at e1; injection e1
theorem F3 {w : World} {Mc : bB} {g : Option Nat} {J : World → bB → Prop} (wf : Wf w Mc) (z : Fe Mc) (hj : J w Mc) : NT J w (ko Mc g) := by
 refine ⟨Mc, wf, z, hj, fun b h => BP h, fun b u _ h hu => ?_⟩
 unfold ko at h
 split at h
 ·cases h
 rename_i v hv
 split at h
 ·injection h with h; exact absurd h.symm hu
 rw [hv]; congr 1; exact z b v hv (by omega)
section
variable {P : Program}
variable {A : As} {fn : Func} {n : Nat} {J1 Jx : World → bB → Prop}
end
end Go.T
namespace Go.T
open Go Go.RowKit
section
variable {P : Program} {fr : Fr} {ops : Array Oper} {A : As} {rest : List Oper} {K : As → List (As × Fx) → Prop} {d : Nat} {t ty' : TypeId} {p : String} {e : Array Edge} [T : lC P]
variable {α : Type} {E : El α} {Tb J : Nat} {xs ys : List α}
theorem M7 {x : Operand} {ti : TI} {el : Nat} (hx : A.op fr x = .iU E Tb J xs) (hT : T.tab[ty']? = some ti) (hk : ti.k = .slice el)
 (h : aa P fr ops rest (A.set d (.int .i64 (xs.length : Nat))) fun A' l => K A' ((A, { d := some d, ty := .int .i64 (xs.length : Nat), rs := cF x }) :: l)) :
 aa P fr ops (⟨some d, .call ⟨.builtin .len, #[x], #[ty']⟩, t, p, e, none⟩ :: rest) A K :=
 bN (bV rfl rfl fun a w M _ hr _ => by
  have := cP (x := x) (fun _ h => h) hr
  rw [hx] at this
  have h1 := this
  obtain ⟨_, D, _, hD, hkd, _⟩ := dK hT
  rw [hk] at hkd
  cases D <;> simp only [TK.of, reduceCtorEq, TK.slice.injEq] at hkd
  refine ⟨.int .i64 xs.length, ?_, rfl⟩
  rcases h1 with ⟨hn, ex⟩ | ⟨g, off, c, cur, ex, _⟩
  ·simp [execOp, ex, resolve, invoke, builtin, Builtin.len_, run_underlying hD, hn, goInt]
  simp [execOp, ex, resolve, invoke, builtin, Builtin.len_, run_underlying hD, goInt]) h
theorem ID [Inhabited α] {x y : Operand} {kd : IntKind} {i : Nat} {ti te : TI} {el : Nat} (hx : A.op fr x = .iU E Tb J xs) (hy : A.op fr y = .int kd i) (hT : T.tab[ty']? = some ti) (hk : ti.k = .slice el) (hE : T.tab[el]? = some te) (hs : te.size = E.size) (hi : i < xs.length)
 (h : aa P fr ops rest (A.set d (.op J (E.tys (nth xs i)))) fun A' l' => K A' ((A, { d := some d, ty := .op J (E.tys (nth xs i)), rs := cF x ++ cF y }) :: l')) : aa P fr ops (⟨some d, .indexAddr ty' x y, t, p, e, none⟩ :: rest) A K :=
 bN (bV rfl rfl fun a w M _ hr _ => by
  obtain ⟨hdx, hdy⟩ := op2 hr
  rw [hx] at hdx; rw [hy] at hdy
  have h1 := hdx
  have ey : a.eval y = .int kd i := hdy
  rcases h1 with ⟨h0, _⟩ | ⟨g, off, c, cur, ex, hg, hh, hn, _, _, hd⟩
  ·subst h0; simp at hi
  refine ⟨_, by simp only [execOp, ex, ey, Sem.run_bind, jG hT hk hE (Int.natCast_nonneg i) (show (i : Int).toNat < xs.length from hi)]; rfl, g, off + i * te.size, by simp, hg, fun j ty hj => ?_⟩
  rw [hs]
  exact Ga hh hd hi hj) h
theorem Mw {x y : Operand} {kd : IntKind} {lo : Nat} {ti te : TI} {el : Nat} (hx : A.op fr x = .iU E Tb J xs) (hy : A.op fr y = .int kd lo) (hT : T.tab[ty']? = some ti) (hk : ti.k = .slice el) (hE : T.tab[el]? = some te) (hs : te.size = E.size) (hlo : lo ≤ xs.length) (h0 : 0 < xs.length)
 (h : aa P fr ops rest (A.set d (.iU E Tb J (xs.drop lo))) fun A' l' => K A' ((A, { d := some d, ty := .iU E Tb J (xs.drop lo), rs := cF x ++ cF y }) :: l')) : aa P fr ops (⟨some d, .slice ty' x (some y) none none, t, p, e, none⟩ :: rest) A K :=
 bN (bV rfl rfl fun a w M _ hr _ => by
  obtain ⟨hdx, hdy⟩ := op2 hr
  rw [hx] at hdx; rw [hy] at hdy
  have h1 := hdx
  have ey : a.eval y = .int kd lo := hdy
  obtain ⟨_, D, _, hD, hkd, _⟩ := dK hT
  rw [hk] at hkd
  cases D <;> simp only [TK.of, reduceCtorEq, TK.slice.injEq] at hkd
  subst hkd
  have hsz := fun w => dD (P := P) hE w
  rcases h1 with ⟨hn, _⟩ | ⟨g, off, c, cur, ex, hg, hh, hn, hc, hsz2, hd⟩
  ·subst hn; simp at h0
  have hlc : lo ≤ c := by omega
  have hrun : ∃ ad, (execOp a.eval ⟨some d, .slice ty' x (some y) none none, t, p, e, none⟩).run P w = .ok (.value (.slice (some ad) (xs.length - lo) (c - lo))) w ∧ ad = (if c = lo then (⟨g, off, none⟩ : Addr) else ⟨g, off + lo * E.size, none⟩) := by
   refine ⟨_, ?_, rfl⟩
   simp [execOp, ex, ey, Instr.sliceAt, Instr.slice, run_underlying hD, Instr.sliceBounds, Instr.sliceBound, asIntOf, hsz, hs, hn, hlo]
   by_cases hcl : c = lo
   ·simp [hcl]
   simp [hcl]; exact Addr.add_lit _ _ _
  obtain ⟨ad, hrun, had⟩ := hrun
  have hlen : (xs.drop lo).length = xs.length - lo := List.length_drop
  have key : cK w M ((xs.drop lo).flatMap E.tys) ((cur.toList.drop (off + lo * E.size)).take ((xs.drop lo).length * E.size)) := by
   have := lZ (lo * E.size) hd
   rw [List.drop_take, List.drop_drop, ← Nat.sub_mul] at this
   have e1 : (xs.flatMap E.tys).drop (lo * E.size) = (xs.drop lo).flatMap E.tys := by
    have : xs.flatMap E.tys = (xs.take lo).flatMap E.tys ++ (xs.drop lo).flatMap E.tys := by rw [← List.flatMap_append, List.take_append_drop]
    rw [this, List.drop_left' (by rw [dA, List.length_take, Nat.min_eq_left hlo])]
   rw [e1] at this
   rw [hlen]; exact this
  by_cases hcl : c = lo
  ·rw [if_pos hcl] at had
   subst had
   refine ⟨_, hrun, .inr ⟨g, off, c - lo, cur, by rw [hlen], hg, hh, by rw [hlen]; omega, by omega, ?_, ?_⟩⟩
   ·have : c - lo = 0 := by omega
    rw [this]; omega
   have h0' : xs.drop lo = [] := List.eq_nil_of_length_eq_zero (by rw [hlen]; omega)
   rw [h0']; simp [cK]
  rw [if_neg hcl] at had
  subst had
  refine ⟨_, hrun, .inr ⟨g, off + lo * E.size, c - lo, cur, by rw [hlen], hg, hh, by rw [hlen]; omega, by omega, ?_, key⟩⟩
  rw [Nat.add_assoc, ← Nat.add_mul, show lo + (c - lo) = c by omega]; exact hsz2) h
theorem Fa {x y : Operand} {st el : Nat} {ti te : TI} (hx : A.op fr x = .iU E el J xs) (hy : A.op fr y = .sl E ys) (hJ : 4096 ≤ J) (hp : fr.pass.contains J = false) (hpos : 0 < ys.length) (hT : T.tab[st]? = some ti) (hk : ti.k = .slice el) (hE : T.tab[el]? = some te) (hs : te.size = E.size) (hz : te.zero.length = te.size) (h0 : 0 < te.size)
    (hlen : (xs.length + ys.length) * te.bytes ≤ 140737488355328) (hlen' : xs.length + ys.length ≤ 9223372036854775807)
    (h : aa P fr ops rest (A.after { d := some d, ty := .iU E el J (xs ++ ys), S := [J], rs := cF x ++ cF y }) fun A' l' => K A' ((A, { d := some d, ty := .iU E el J (xs ++ ys), S := [J], rs := cF x ++ cF y }) :: l')) :
    aa P fr ops (⟨some d, .call ⟨.builtin .append, #[x, y], #[st, st]⟩, t, p, e, none⟩ :: rest) A K := by
  refine ⟨_, ff rfl rfl (by simp) (by simp; omega) (by simp) fun a w M wf hr htg => ?_, h⟩
  obtain ⟨hdx, hdy⟩ := op2 hr
  rw [hx] at hdx; rw [hy] at hdy
  have hrow := hdx
  obtain ⟨_, D, _, hD, hkd, _⟩ := dK hT
  rw [hk] at hkd
  cases D <;> simp only [TK.of, reduceCtorEq, TK.slice.injEq] at hkd
  subst hkd
  rename_i el
  obtain ⟨i, _, hi, _, _, hsz, hby, hze⟩ := dK hE
  obtain ⟨zz, hiz, hzc⟩ : ∃ z, i.zero = some z ∧ z.cells.size = i.size := by
    cases hiz : i.zero with
    | none => rw [hiz] at hze; rw [← hze] at hz; simp at hz; omega
    | some z => rw [hiz] at hze; exact ⟨z, rfl, by simp at hze; rw [hsz, ← hz, ← hze]; simp⟩
  obtain ⟨ad, c', ey, hc1, hc2, hpp⟩ := hdy
  obtain ⟨b', off', rfl, hp'⟩ := hpp hpos
  obtain ⟨news, hn1, hn2, hn3⟩ := nK hp' _ (Nat.le_refl _)
  rw [List.take_length] at hn2
  have hnl : news.length = ys.length * i.size := by rw [hn1, dA, hsz, hs]
  have hnews : ∀ j u, news[j]? = some u → w.cell? ((⟨b', off', none⟩ : Addr).add j) = some u := fun j u hj => by rw [Addr.add_lit]; exact hn3 j u hj
  have hones := lX hn2 (lR E ys)
  have hesz : E.size = i.size := by rw [hsz, hs]
  -- behind a growth
  have grown : ∀ (olds : List Value) (cap : Nat), cK w M (xs.flatMap E.tys) olds → cap < xs.length + ys.length →
      (Builtin.append_ #[st, st] t #[a.eval x, a.eval y]).run P w = .ok (.slice (some ⟨w.heap.size, 0, none⟩) (xs.length + ys.length) (grownCap w (xs.length + ys.length) cap el)) (w.drew.alloc (.cells (olds.toArray ++ news.toArray ++ Builtin.zeroCells zz.cells (grownCap w (xs.length + ys.length) cap el - (xs.length + ys.length))) el)) →
      ∃ v w', (execOp a.eval ⟨some d, .call ⟨.builtin .append, #[x, y], #[st, st]⟩, t, p, e, none⟩).run P w = .ok (.value v) w' ∧ Fx.left { d := some d, ty := .iU E el J (xs ++ ys), S := [J], rs := cF x ++ cF y } w M w' v := by
    intro olds cap hdo hcap hrun
    have holen : olds.length = xs.length * i.size := by rw [cQ hdo, dA, hesz]
    have hge := grownCap_ge w (xs.length + ys.length) cap el
    have hcm : grownCap w (xs.length + ys.length) cap el ≤ maxLen := grownCap_le_maxLen w (xs.length + ys.length) cap el (by simp only [maxLen]; omega)
    have hsize : (w.drew.alloc (.cells (olds.toArray ++ news.toArray ++ Builtin.zeroCells zz.cells (grownCap w (xs.length + ys.length) cap el - (xs.length + ys.length))) el)).heap.size = w.heap.size + 1 := by simp
    have hold : ∀ b2, b2 < w.heap.size → (w.drew.alloc (.cells (olds.toArray ++ news.toArray ++ Builtin.zeroCells zz.cells (grownCap w (xs.length + ys.length) cap el - (xs.length + ys.length))) el)).heap[b2]? = w.heap[b2]? := fun b2 h => Below.heap_alloc w.drew _ b2 h
    have hnew : (w.drew.alloc (.cells (olds.toArray ++ news.toArray ++ Builtin.zeroCells zz.cells (grownCap w (xs.length + ys.length) cap el - (xs.length + ys.length))) el)).heap[w.heap.size]? = some (.cells (olds.toArray ++ news.toArray ++ Builtin.zeroCells zz.cells (grownCap w (xs.length + ys.length) cap el - (xs.length + ys.length))) el (0, 0)) := fO w.drew _
    have hos : (w.drew.alloc (.cells (olds.toArray ++ news.toArray ++ Builtin.zeroCells zz.cells (grownCap w (xs.length + ys.length) cap el - (xs.length + ys.length))) el)).os = w.os ∧ (w.drew.alloc (.cells (olds.toArray ++ news.toArray ++ Builtin.zeroCells zz.cells (grownCap w (xs.length + ys.length) cap el - (xs.length + ys.length))) el)).tape = w.tape ∧ (w.drew.alloc (.cells (olds.toArray ++ news.toArray ++ Builtin.zeroCells zz.cells (grownCap w (xs.length + ys.length) cap el - (xs.length + ys.length))) el)).output = w.output := ⟨rfl, rfl, rfl⟩
    have hcs : (olds.toArray ++ news.toArray ++ Builtin.zeroCells zz.cells (grownCap w (xs.length + ys.length) cap el - (xs.length + ys.length))).size = grownCap w (xs.length + ys.length) cap el * i.size := by
      simp only [Array.size_append, List.size_toArray, size_zeroCells, hzc, holen, hnl, ← Nat.add_mul]
      congr 1
      omega
    have htk : ((olds.toArray ++ news.toArray ++ Builtin.zeroCells zz.cells (grownCap w (xs.length + ys.length) cap el - (xs.length + ys.length))).toList.drop 0).take ((xs ++ ys).length * E.size) = olds ++ news := by
      rw [List.drop_zero]
      simp only [Array.toList_append]
      rw [List.take_left' (by rw [List.length_append, holen, hnl, List.length_append, hesz, Nat.add_mul])]
    generalize hw' : (w.drew.alloc (.cells (olds.toArray ++ news.toArray ++ Builtin.zeroCells zz.cells (grownCap w (xs.length + ys.length) cap el - (xs.length + ys.length))) el)) = w' at *
    generalize hcu : (olds.toArray ++ news.toArray ++ Builtin.zeroCells zz.cells (grownCap w (xs.length + ys.length) cap el - (xs.length + ys.length))) = cu at *
    have le : Le (· ∈ [J]) (· ∈ ([] : List Nat)) w M w' (fun b2 => if b2 = w.heap.size then some J else M b2) :=
      ⟨by omega, hos.1, hos.2.1, hos.2.2, fun b2 hb2 hm => ⟨by rw [if_neg (by omega)]; exact hm, hold b2 hb2⟩, fun b2 u hm _ => by
        have := wf.lt b2 u hm
        exact ⟨by rw [if_neg (by omega)]; exact hm, fun _ => hold b2 this⟩⟩
    have le0 : Le (· ∈ ([] : List Nat)) (· ∈ ([] : List Nat)) w M w' (fun b2 => if b2 = w.heap.size then some J else M b2) :=
      ⟨by omega, hos.1, hos.2.1, hos.2.2, fun b2 hb2 hm => ⟨by rw [if_neg (by omega)]; exact hm, hold b2 hb2⟩, fun b2 u hm _ => by
        have := wf.lt b2 u hm
        exact ⟨by rw [if_neg (by omega)]; exact hm, fun _ => hold b2 this⟩⟩
    have wf' : Wf w' (fun b2 => if b2 = w.heap.size then some J else M b2) := by
      refine ⟨fun b2 u hm => ?_, fun b2 b3 u ht1 hm hm' => ?_⟩
      · split at hm
        · omega
        · have := wf.lt b2 u hm; omega
      · split at hm
        · injection hm with hm; omega
        · split at hm'
          · injection hm' with hm'; omega
          · exact wf.inj b2 b3 u ht1 hm hm'
    refine ⟨.slice (some ⟨w.heap.size, 0, none⟩) (xs.length + ys.length) (grownCap w (xs.length + ys.length) cap el), w', by simp [execOp, resolve, invoke, builtin, hrun], _, wf', le, .inr ⟨w.heap.size, 0, grownCap w (xs.length + ys.length) cap el, cu, by rw [List.length_append], by simp, hnew, by rw [List.length_append]; exact hge, hcm, by rw [hcs, hesz]; omega, ?_⟩, by simp⟩
    rw [htk, List.flatMap_append]
    exact ke (cB le0 (by rw [E.dI]; intro _ h; cases h) (by rw [E.cv]; intro _ h; cases h) hdo) (cB le0 (by rw [E.dI]; intro _ h; cases h) (by rw [E.cv]; intro _ h; cases h) hn2)
  rcases hrow with ⟨hxe, ex⟩ | ⟨g, off, cap, cur, ex, hg, hh, hxc, hcm, hfit, hdx⟩
  · have hrn := run_append_nil (P := P) w st t el i zz hD hi hiz ⟨b', off', none⟩ ys.length c' news hnl hnews hpos (by omega) (by rw [hby]; have := hlen; rw [Nat.add_mul] at this; omega)
    subst hxe
    refine grown [] 0 trivial (by simpa using hpos) ?_
    rw [ex, ey]
    simpa using hrn
  · by_cases hroom : xs.length + ys.length ≤ cap
    · -- in place
      have hm : (xs.length + ys.length) * E.size ≤ cap * E.size := Nat.mul_le_mul_right _ hroom
      rw [Nat.add_mul] at hm
      have hcf : off + xs.length * i.size + news.length ≤ cur.size := by rw [hnl, ← hesz]; omega
      have hf := run_firstCells_some (P := P) w i.size ys.length ⟨b', off', none⟩ ys.length c' news hnl hnews
      have hst := run_storeCells_at (P := P) g (off + xs.length * i.size) el news 0 cur w hh (by simpa using hcf) hones
      rw [lq _ hh] at hst
      simp only [Nat.add_zero] at hst
      obtain ⟨h1', h2', h3'⟩ := jm (cs' := (cur.toList.take (off + xs.length * i.size) ++ news ++ cur.toList.drop (off + xs.length * i.size + news.length)).toArray) (Tb := el) wf hg _ rfl
      have hrun : (Builtin.append_ #[st, st] t #[a.eval x, a.eval y]).run P w = .ok (.slice (some ⟨g, off, none⟩) (xs.length + ys.length) cap) { w with heap := w.heap.setIfInBounds g (.cells (cur.toList.take (off + xs.length * i.size) ++ news ++ cur.toList.drop (off + xs.length * i.size + news.length)).toArray el (0, 0)) } := by
        rw [ex, ey]
        simp [Builtin.append_, run_underlying hD, sizeOf, typeInfo, hi, Builtin.lenOf, hroom, hf, Addr.add_lit, hst]
      have le : Le (· ∈ [J]) (· ∈ ([] : List Nat)) w M { w with heap := w.heap.setIfInBounds g (.cells (cur.toList.take (off + xs.length * i.size) ++ news ++ cur.toList.drop (off + xs.length * i.size + news.length)).toArray el (0, 0)) } M :=
        h2'.weaken (fun u hu => by simp only [List.mem_singleton] at hu; subst hu; simp) (fun _ h => by cases h)
      refine ⟨.slice (some ⟨g, off, none⟩) (xs.length + ys.length) cap, _, by simp [execOp, resolve, invoke, builtin, hrun], M, h1', le, .inr ⟨g, off, cap, _, by rw [List.length_append], hg, h3', by rw [List.length_append]; exact hroom, hcm, ?_, ?_⟩, by simp⟩
      · simp only [List.size_toArray, List.length_append, List.length_take, List.length_drop, Array.length_toList]
        omega
      · rw [List.length_append, Nat.add_mul, hesz, ← hnl, List.toList_toArray, Bi _ _ _ _ (by simpa using hcf), List.flatMap_append]
        refine cB h2' (by rw [← List.flatMap_append, E.dI]; intro _ h; cases h) (by rw [← List.flatMap_append, E.cv]; intro _ h; cases h) (ke ?_ hn2)
        rw [← hesz]; exact hdx
    · have holds : ∀ j u, ((cur.toList.drop off).take (xs.length * E.size))[j]? = some u → w.cell? ((⟨g, off, none⟩ : Addr).add j) = some u := fun j u hj => by
        rw [List.getElem?_take] at hj
        split at hj
        · rw [List.getElem?_drop] at hj
          rw [Addr.add_lit]
          simpa [World.cell?, hh] using hj
        · cases hj
      have hol : ((cur.toList.drop off).take (xs.length * E.size)).length = xs.length * i.size := by rw [cQ hdx, dA, hesz]
      have hrn := run_append_grow (P := P) w st t el i zz hD hi hiz ⟨g, off, none⟩ xs.length cap _ hol holds ⟨b', off', none⟩ ys.length c' news hnl hnews (by omega) (by omega) (growslice_fits (by omega) (by rw [hby]; exact hlen))
      refine grown _ cap hdx (by omega) ?_
      rw [ex, ey]
      exact hrn
end
section
variable {P : Program} {fr : Fr} {A : As} {c : Code} {Q : Exit → Act → World → Prop}
end
end Go.T
namespace Go.T
open Go Go.RowKit
section
variable {P : Program} {fr : Fr} {ops : Array Oper} {A : As} {rest : List Oper} {K : As → List (As × Fx) → Prop} {d : Nat} {t : TypeId} {p : String} {e : Array Edge}
end
end Go.T
namespace Go.T
open Go Go.RowKit
theorem Ty.mF {α : Type} {E : El α} {T tg n : Nat} {xs : List α} (hn : xs.length = n) : (Ty.row E T tg xs).Sub (Ty.vs tg n) := fun w M v ⟨cs, h1, h2, h3⟩ => by
 subst hn
 rcases h1.2 with ⟨e, h0⟩ | ⟨g, cap, cur, ex, _, hh, hn1, hcap, _, htk⟩
 ·exact .inl ⟨h0, e⟩
 exact .inr ⟨g, cap, h3 g (by rw [ex]; rfl), ex, hn1, hcap⟩
theorem Cont.dY {T : Nat} {l l' : List Ty} (h : Kl l l') : (Cont.cells T l).Sub (Cont.cells T l') := fun w M v ⟨b, cs, h1, h2, h3⟩ => ⟨b, cs, h1, h2, uD h h3⟩
end Go.T
namespace Go.T
open Go Go.RowKit
end Go.T
namespace Go.T
open Go Go.RowKit
section
variable {P : Program} {fr : Fr} {A : As} {c : Code} {Q : Exit → Act → World → Prop}
theorem gW {α : Type} {E : El α} {T Tc tg c0 : Nat} {l : List Ty} {xs : List α} (i : Nat) (hc : A.tag c0 = some (.cells Tc l)) (hi : l[i]? = some (.row E T tg xs))
 (h : fP P fr c ⟨A.slots, (tg, .vec E T xs) :: A.tags⟩ Q) : fP P fr c A Q := fun a w ⟨M, ok, hsl, ht⟩ => by
 refine h a w ⟨M, ok, hsl, fun x hx => ?_⟩
 rcases List.mem_cons.1 hx with rfl | hx
 ·obtain ⟨b, cs, hb, hh, hd⟩ := ht _ (cw hc)
  obtain ⟨v, _, ⟨ds, h1, h2, h3⟩⟩ := dg hd i _ hi
  rcases h1.2 with ⟨e, h0⟩ | ⟨g, cap, cur, ex, _, hh, hn1, hcap, _, htk⟩
  ·exact .inl (List.length_eq_zero_iff.1 h0)
  have hg : M g = some tg := h3 g (by rw [ex]; rfl)
  exact .inr ⟨g, cur, hg, hh, by rw [dA, htk]; exact h2⟩
 exact ht x hx
end
end Go.T
namespace Go.T
open Go Go.RowKit
section
variable {P : Program} {A : As} {fn : Func} {n : Nat} {w0 : World} {M0 : bB}
end
end Go.T
namespace Go.T
open Go Go.RowKit
section
variable {P : Program} {fr : Fr} {A : As} {c : Code} {Q : Exit → Act → World → Prop}
end
section
variable {P : Program} {A : As} {fn : Func} {n : Nat} {w0 : World} {M0 : bB}
end
end Go.T
namespace Go.T
open Go Go.RowKit
section
variable {P : Program} {fr : Fr} {ops : Array Oper} {A : As} {rest : List Oper} {K : As → List (As × Fx) → Prop} {d : Nat} {t : TypeId} {p : String} {e : Array Edge} {y : Operand}
theorem zn {c : Operand} {b : Bool} (hc : A.op fr c = .bool false) (hy : A.op fr y = .bool b)
 (h : aa P fr ops rest (A.set d (.bool b)) fun A' l' => K A' ((A, { d := some d, ty := .bool b, rs := cF c ++ cF y }) :: l')) : aa P fr ops (⟨some d, .pick c (.const (.bool true)) y, t, p, e, none⟩ :: rest) A K :=
 bN (bV rfl rfl fun a w M _ hrd _ => by
  obtain ⟨hdc, hdy⟩ := op2 hrd
  rw [hc] at hdc; rw [hy] at hdy
  have ec : a.eval c = .bool false := hdc
  have ey : a.eval y = .bool b := hdy
  exact ⟨.bool b, by simp only [execOp, ec, ey]; simp [asBool], rfl⟩) h
theorem LC {c : Operand} (hc : A.op fr c = .bool true)
 (h : aa P fr ops rest (A.set d (.bool true)) fun A' l' => K A' ((A, { d := some d, ty := .bool true, rs := cF c ++ cF y }) :: l')) : aa P fr ops (⟨some d, .pick c (.const (.bool true)) y, t, p, e, none⟩ :: rest) A K :=
 bN (bV rfl rfl fun a w M _ hrd _ => by
  obtain ⟨hdc, _⟩ := op2 hrd
  rw [hc] at hdc
  have ec : a.eval c = .bool true := hdc
  exact ⟨.bool true, by simp only [execOp, ec]; simp [asBool, Act.eval], rfl⟩) h
theorem Ai {op : Op} {j s : Nat} {want : Bool} (hs : o8 ops j = some s) (hn : Nat.blt s fr.n = true) (hc : A.slots s = .ex undef)
 (h : aa P fr ops rest (A.set d (.ex undef)) fun A' l' => K A' ((A, { d := some d, ty := .ex undef, rs := [s] }) :: l')) : aa P fr ops (⟨some d, op, t, p, e, some (j, want)⟩ :: rest) A K := by
 refine ⟨{ d := some d, ty := .ex undef, rs := [s] }, ⟨rfl, (by simp), (by simp), (by simp), fun a w M wf hsz hrd htg => ?_⟩, h⟩
 have hv := hrd s List.mem_cons_self (by simpa using hn)
 rw [hc] at hv
 have hy := qj (ops := ops) hs (by rw [hsz]; simpa using hn) hv
 have hw : Region.wanted ⟨some d, op, t, p, e, some (j, want)⟩ (yielded ops a.tmps) = false := by
  simp only [Region.wanted, hy]
  cases want <;> simp_all
 rw [if_neg (by rw [hw]; simp)]
 exact ⟨M, wf, Le.refl _ _ _ _, rfl, by simp⟩
end
section
variable {P : Program} {fr : Fr} {A : As} {Q : Exit → Act → World → Prop} {code : Code}
end
end Go.T
namespace Go.T
open Go Go.RowKit
section
variable {P : Program} {fr : Fr} {A : As} {Q : Exit → Act → World → Prop}
end
end Go.T
namespace Go.T
open Go Go.RowKit
section
variable {P : Program} {fr : Fr} {ops : Array Oper} {A : As} {rest : List Oper} {K : As → List (As × Fx) → Prop} {d : Nat} {t ty' : TypeId} {p : String} {e : Array Edge} [T : lC P]
end
section
open Go.RowKit
variable {P : Program} {A : As} {fn : Func} {n : Nat} {w0 : World} {M0 : bB} {F : List Nat} {post : List (Nat × Cont)} [T : lC P]
end
section
variable {P : Program} {fr : Fr} {A : As}
end
end Go.T
namespace Go.T
open Go Go.RowKit
section
variable {P : Program} {fr : Fr} {A : As}
end
end Go.T
namespace Go.T
open Go Go.RowKit
end Go.T
namespace Go.T
open Go Go.RowKit
def OD (tys : List Ty) (vs : List Value) (w : World) (M : bB) (_ : Nat) : Prop := cK w M tys vs
def Cont.fact (tys : List Ty) (vs : List Value) (h1 : cG tys = []) (h2 : bt tys = []) : Cont :=
  { den := OD tys vs, deps := [], cdeps := [], mono := fun le _ _ _ _ h => cB le (by rw [h1]; intro _ h; cases h) (by rw [h2]; intro _ h; cases h) h }
def XB (b D Tb : Nat) (vs : List Value) (J : Nat → World → bB → Prop) : Prop :=
  ∀ k w M, Wf w M → J k w M → M b = some D ∧ ∃ cs : Array Value, w.heap[b]? = some (.cells cs Tb (0, 0)) ∧ cs.toList.take vs.length = vs
def IU (P : Program) (f : FuncId) (b D Tb : Nat) (vs : List Value) (tys : List Ty) (args : Nat → List Ty) (encs : List (List Ty)) (resD resS : Ty) : Prop :=
  (∃ fn, P.funcs[f]? = some fn ∧ (fn.name == "runtime.NumGoroutine") = false ∧ fn.body.isNone = false) ∧
  ∀ l J Jx, (∀ k, Cb (J k)) → Cb Jx → XB b D Tb vs J → NS P l encs J Jx → ∀ w M us, Wf w M → Fe M → cK w M (args l) us → cK w M tys vs → J 0 w M →
    Calls P f us.toArray w (cj encs.length J Jx resD resS)
section
variable {P : Program}
theorem DG {f b D Tb : Nat} {us : List Value} {tys : List Ty} {fn : Func} {c : Code} {args : Nat → List Ty} {encs : List (List Ty)} {n : Nat} (h1 : cG tys = []) (h2 : bt tys = []) (hf : P.funcs[f]? = some fn) (hb : fn.body = some c) (hn : (fn.name == "runtime.NumGoroutine") = false) (hnt : fn.ntmps = n) (hl : ∀ l, (args l).length ≤ n) (hdd : ∀ l, cG (args l) = [] ∧ bt (args l) = [])
    (h : ∀ l J Jx (hJ : ∀ k, Cb (J k)) (hJx : Cb Jx), XB b D Tb us J → NS P l encs J Jx → ∀ w0 M0, fP P ⟨n, w0, M0, [7000, 5000], .plain⟩ c (tQ (args l) [(7000, .ck (hJ 0)), (4000, Cont.fact tys us h1 h2)]) (bodyPost P fn (cj encs.length J Jx (Ty.ju []) (Ty.ju [])))) : IU P f b D Tb us tys args encs (Ty.ju []) (Ty.ju []) := by
  refine ⟨⟨fn, hf, hn, by rw [hb]; rfl⟩, fun l J Jx hJ hJx hX hY w Mc vs wf z hd hus hj => calls_of_wp hf hb (wpIn_wide.1 (h l J Jx hJ hJx hX hY w (ko Mc none) _ _ ?_))⟩
  have hall : cK w (ko Mc none) (args l) vs := iF (fun b hb => nu hb) (hdd l).1 (hdd l).2 hd
  have hlen := cQ hall
  have hl := hl l
  refine ⟨ko Mc none, ⟨FU wf, Le.refl _ _ _ _, by simp [hnt, hlen]; omega, Defs.nil⟩, fun c hc => ?_, fun x hx => ?_⟩
  · simp only [tQ]
    cases ha : (args l)[c]? with
    | none => trivial
    | some ty =>
      obtain ⟨v, hv, hdv⟩ := dg hall c ty ha
      have : (vs.toArray ++ Array.replicate (fn.ntmps - vs.toArray.size) undef).getD c undef = v := by
        have hlt : c < vs.length := (List.getElem?_eq_some_iff.1 hv).1
        rw [Array.getD_eq_getD_getElem?, Array.getElem?_append_left (by simpa using hlt)]
        simp [hv]
      rw [this]; exact hdv
  · rcases List.mem_cons.1 hx with rfl | hx
    · exact ⟨rfl, F3 wf z hj⟩
    · rw [List.mem_singleton.1 hx]
      exact iF (fun b hb => nu hb) h1 h2 hus
theorem LJ {fn : Func} {n : Nat} {A : As} {w0 : World} {M0 : bB} {J : Nat → World → bB → Prop} {Jx : World → bB → Prop} {m : Nat} {h1 : Cb (J m)} (hr : fn.results = #[]) (ht : A.tag 7000 = some (.ck h1)) : dh ⟨n, w0, M0, [7000, 5000], .plain⟩ A (bodyPost P fn (cj m J Jx (Ty.ju []) (Ty.ju [])) .normal) := by
 intro a w' ⟨M, ok, hsl, htg⟩
 obtain ⟨_, Mc', wf', z', hj, k1, k2⟩ := htg _ (cw ht)
 exact ⟨ok.gC (by simp), _, results_none hr _ _ _, _, Mc', rfl, wf', z', .inl ⟨⟨_, rfl, trivial⟩, hj⟩⟩
theorem HQ {fn : Func} {n : Nat} {A : As} {w0 : World} {M0 : bB} {J : Nat → World → bB → Prop} {Jx : World → bB → Prop} {m k : Nat} {hJ : ∀ k, Cb (J k)} (e : k = m) (hr : fn.results = #[]) (ht : A.tag 7000 = some (.ck (hJ k))) : dh ⟨n, w0, M0, [7000, 5000], .plain⟩ A (bodyPost P fn (cj m J Jx (Ty.ju []) (Ty.ju [])) .normal) := by
 subst e; exact LJ hr ht
theorem Ey {fn : Func} {n : Nat} {A : As} {w0 : World} {M0 : bB} {J : Nat → World → bB → Prop} {Jx : World → bB → Prop} {m : Nat} {hx : Cb Jx} (hr : fn.results = #[]) (ht : A.tag 7000 = some (.ck hx)) : dh ⟨n, w0, M0, [7000, 5000], .plain⟩ A (bodyPost P fn (cj m J Jx (Ty.ju []) (Ty.ju [])) .ret) := by
 intro a w' ⟨M, ok, hsl, htg⟩
 obtain ⟨_, Mc', wf', z', hj, k1, k2⟩ := htg _ (cw ht)
 exact ⟨ok.gC (by simp), _, results_none hr _ _ _, _, Mc', rfl, wf', z', .inr ⟨⟨_, rfl, trivial⟩, hj⟩⟩
variable {fr : Fr} {ops : Array Oper} {A : As} {rest : List Oper} {K : As → List (As × Fx) → Prop} {d : Nat} {t ty' : TypeId} {p : String} {e : Array Edge} [T : lC P]
omit T in
theorem kf {x : Operand} {b off : Nat} (hx : A.op fr x = .ex (.pointer (some ⟨b, off, none⟩)))
 (h : aa P fr ops rest (A.set d (.ex (.pointer (some ⟨b, off, none⟩)))) fun A' l' => K A' ((A, { d := some d, ty := .ex (.pointer (some ⟨b, off, none⟩)), rs := cF x }) :: l')) : aa P fr ops (⟨some d, .nilCheck x, t, p, e, none⟩ :: rest) A K :=
 bN (bV rfl rfl fun a w M _ hrd _ => by
  have hdx := cP (x := x) (fun _ h => h) hrd
  rw [hx] at hdx
  have ex : a.eval x = .pointer (some ⟨b, off, none⟩) := hdx
  exact ⟨_, by simp [execOp, ex], rfl⟩) h
theorem jD {x : Operand} {b off f : Nat} {ti tf : TI} {fs : List (Nat × Nat)} {o ft : Nat} (hx : A.op fr x = .ex (.pointer (some ⟨b, off, none⟩))) (hT : T.tab[ty']? = some ti) (hk : ti.k = .struct fs) (hf : fs[f]? = some (o, ft)) (hF : T.tab[ft]? = some tf) (h0 : tf.size ≠ 0)
 (h : aa P fr ops rest (A.set d (.ex (.pointer (some ⟨b, off + o, none⟩)))) fun A' l' => K A' ((A, { d := some d, ty := .ex (.pointer (some ⟨b, off + o, none⟩)), rs := cF x }) :: l')) : aa P fr ops (⟨some d, .fieldAddr ty' x f, t, p, e, none⟩ :: rest) A K :=
 bN (bV rfl rfl fun a w M _ hrd _ => by
  have hdx := cP (x := x) (fun _ h => h) hrd
  rw [hx] at hdx
  have ex : a.eval x = .pointer (some ⟨b, off, none⟩) := hdx
  exact ⟨_, by simp [execOp, ex, uL hT hk hf hF h0], rfl⟩) h
def Oo {α : Type} (v : Value) (E : El α) (T tg : Nat) (xs : List α) (w : World) (M : bB) (_ : Nat) : Prop := (Ty.row E T tg xs).den w M v
def Cont.rv {α : Type} (v : Value) (E : El α) (T tg : Nat) (xs : List α) : Cont :=
  { den := Oo v E T tg xs, deps := (Ty.row E T tg xs).deps, cdeps := (Ty.row E T tg xs).cdeps, mono := fun le hk hs _ _ h => (Ty.row E T tg xs).mono le hk hs h }
theorem qP {α : Type} {E : El α} {c : Nat} {y : Operand} {st el tg : Nat} {v : Value} {ti te : TI} {xs ys : List α} (hx : A.op fr (.tmp c) = .ex v) (hc : A.tag tg = some (.rv v E el tg xs)) (hy : A.op fr y = .sl E ys) (hcy : (cF y).contains c = false) (h1 : 1 ≤ tg) (hp : fr.pass.contains tg = false) (hT : T.tab[st]? = some ti) (hk : ti.k = .slice el) (hE : T.tab[el]? = some te) (hs : te.size = E.size) (hz : te.zero.length = te.size) (h0 : 0 < te.size)
 (hlen : (xs.length + ys.length) * te.bytes ≤ 140737488355328) (hlen' : xs.length + ys.length ≤ 9223372036854775807) (hyA : (A.set c (.row E el tg xs)).op fr y = A.op fr y) (hxA : (A.set c (.row E el tg xs)).op fr (.tmp c) = .row E el tg xs)
 (h : aa P fr ops rest (A.after { d := some d, ty := .row E el tg (xs ++ ys), K := [tg], rs := cF (.tmp c) ++ cF y, rt := [tg] }) fun A' l' => K A' ((A, { d := some d, ty := .row E el tg (xs ++ ys), K := [tg], rs := cF (.tmp c) ++ cF y, rt := [tg] }) :: l')) :
 aa P fr ops (⟨some d, .call ⟨.builtin .append, #[.tmp c, y], #[st, st]⟩, t, p, e, none⟩ :: rest) A K := by
 refine ⟨_, ?_, h⟩
 obtain ⟨a1, a2, a3, a4, a5⟩ := wo (P := P) (fr := fr) (ops := ops) (A := A.set c (.row E el tg xs)) (d := d) (t := t) (p := p) (e := e) (x := .tmp c) (y := y) (E := E) (xs := xs) (ys := ys) (st := st) (by rw [hxA]; exact Ty.aE _) (hyA.trans hy) h1 hp hT hk hE hs hz h0 hlen hlen'
 refine ⟨a1, a2, a3, a4, fun a w M wf hsz hr ht => a5 a w M wf hsz (fun c' hc' hn => ?_) (fun x _ hx => by cases hx)⟩
 by_cases e : c' = c
 ·subst e
  have h1 : (A.slots c').den w M (a.tmps.getD c' undef) := hr c' hc' hn
  have h2 : Oo v E el tg xs w M tg := ht _ (cw hc) (by simp)
  have h3 : A.slots c' = .ex v := by
   have h5 : (bif Nat.blt c' fr.n then A.slots c' else Ty.any) = .ex v := hx
   have h6 : Nat.blt c' fr.n = true := by rw [Nat.blt_eq]; exact hn
   rw [h6, cond_true] at h5
   exact h5
  rw [h3] at h1
  have h4 : a.tmps.getD c' undef = v := h1
  show ((A.set c' (.row E el tg xs)).slots c').den w M _
  simp only [As.set, Nat.beq_refl, cond_true]
  rw [h4]; exact h2
 show ((A.set c (.row E el tg xs)).slots c').den w M _
 have : Nat.beq c' c = false := by cases hb : Nat.beq c' c with | false => rfl | true => exact absurd (Nat.eq_of_beq_eq_true hb) e
 simp only [As.set, this, cond_false]
 exact hr c' hc' hn
theorem CJ {vs l : List Value} {i : Nat} {v : Value} (h : l.take vs.length = vs) (hv : vs[i]? = some v) : l[i]? = some v := by
 have hi : i < vs.length := (List.getElem?_eq_some_iff.1 hv).1
 rw [← h, List.getElem?_take, if_pos hi] at hv
 exact hv
theorem sx {x : Operand} {b D Tb off k : Nat} {vs : List Value} {tys : List Ty} {J : Nat → World → bB → Prop} {hJ : ∀ k, Cb (J k)} {ti : TI} {ty : Ty} {h1 : cG tys = []} {h2 : bt tys = []} (hX : XB b D Tb vs J) (hx : A.op fr x = .ex (.pointer (some ⟨b, off, none⟩))) (ht : A.tag 7000 = some (.ck (hJ k))) (htf : A.tag 4000 = some (Cont.fact tys vs h1 h2)) (hT : T.tab[ty']? = some ti) (ha : ti.k.agg = false) (hl : tys[off]? = some ty)
 (h : aa P fr ops rest (A.set d ty) fun A' l => K A' ((A, { d := some d, ty := ty, rs := cF x, rt := [7000, 4000] }) :: l)) : aa P fr ops (⟨some d, .load ty' x, t, p, e, none⟩ :: rest) A K :=
 bN (bV rfl rfl fun a w M wf hr htg => by
  have hdx := cP (x := x) (fun _ h => h) hr
  rw [hx] at hdx
  have ex : a.eval x = .pointer (some ⟨b, off, none⟩) := hdx
  obtain ⟨_, Mc, wfc, z, hj, g1, g2⟩ := htg _ (cw ht) (by simp)
  have hf : cK w M tys vs := htg _ (cw htf) (by simp)
  obtain ⟨_, cs, hh, hcs⟩ := hX k w Mc wfc hj
  obtain ⟨v, hv, hd⟩ := dg hf off ty hl
  have hv' : w.cell? ⟨b, off, none⟩ = some v := by
   have := CJ hcs hv
   simpa [World.cell?, hh] using this
  exact ⟨v, by simp [execOp, ex, lV hT ha hv'], hd⟩) h
theorem qS {b D Tb k : Nat} {vs : List Value} {tys : List Ty} {J : Nat → World → bB → Prop} {hJ : ∀ k, Cb (J k)} {h1 : cG tys = []} {h2 : bt tys = []} {L : List Nat} (hX : XB b D Tb vs J) (hD : D < 4096) (ht : A.tag 7000 = some (.ck (hJ k))) (htf : A.tag 4000 = some (Cont.fact tys vs h1 h2)) (hL0 : L.contains 7000 = true) (hL1 : L.contains 4000 = true) :
    sL A L (.ex (.pointer (some ⟨b, 0, none⟩))) (.pp tys) := fun w M v wf htg hv => by
  have hv : v = .pointer (some ⟨b, 0, none⟩) := hv
  have hL0 : 7000 ∈ L := by simpa using hL0
  have hL1 : 4000 ∈ L := by simpa using hL1
  obtain ⟨_, Mc, wfc, z, hj, g1, g2⟩ := htg _ (cw ht) hL0
  have hf : cK w M tys vs := htg _ (cw htf) hL1
  obtain ⟨hb, cs, hh, hcs⟩ := hX k w Mc wfc hj
  have hlt : b < w.heap.size := wfc.lt b _ hb
  have hm : qZ M L b = none := by
    cases hm : M b with
    | none => exact jT hm
    | some u =>
      by_cases e : u = 7000
      · subst e; exact z7 hm hL0
      · have := g2 b u hlt hm e
        rw [this] at hb
        injection hb with hb
        have : Zt = 1000000 := rfl
        omega
  have hf2 : cK w (qZ M L) tys vs := cB (S := fun _ => True) (K := fun _ => True) (w' := w) ⟨Nat.le_refl _, rfl, rfl, rfl, fun b _ hm => ⟨jT hm, rfl⟩, fun b t _ h => absurd trivial h⟩ (by rw [h1]; intro _ h; cases h) (by rw [h2]; intro _ h; cases h) hf
  refine ⟨b, 0, hv, hm, hlt, fun i t hi => ?_⟩
  obtain ⟨x, hx, hdx⟩ := dg hf2 i t hi
  refine ⟨x, ?_, hdx⟩
  have := CJ hcs hx
  simpa [World.cell?, hh] using this
end
theorem vM {l : List Nat} (h : l.all (fun t => Nat.blt t 1000000) = true) : ∀ t ∈ l, t < Zt := fun t ht => by
 have := List.all_eq_true.1 h t ht
 rw [Nat.blt_eq] at this; exact this
section
variable {P : Program} {fr : Fr} {A : As} {Q : Exit → Act → World → Prop} {c : Code}
theorem qG {w : World} {M : bB} {l1 l2 : List Ty} {vs : List Value} (h : cK w M (l1 ++ l2) vs) : ∃ v1 v2, vs = v1 ++ v2 ∧ cK w M l1 v1 ∧ cK w M l2 v2 := by
  induction l1 generalizing vs with
  | nil => exact ⟨[], vs, rfl, trivial, h⟩
  | cons t l1 ih =>
    cases vs with
    | nil => cases h
    | cons v vs =>
      obtain ⟨v1, v2, e, h1, h2⟩ := ih h.2
      exact ⟨v :: v1, v2, by rw [e]; rfl, ⟨h.1, h1⟩, h2⟩
theorem Ec {w : World} {M : bB} : ∀ (vs : List Value), cK w M (vs.map Ty.ex) vs
  | [] => trivial
  | _ :: vs => ⟨rfl, Ec vs⟩
theorem rM {w : World} {M : bB} : ∀ {vs us : List Value}, cK w M (vs.map Ty.ex) us → us = vs
  | [], [], _ => rfl
  | [], _ :: _, h => by cases h
  | _ :: _, [], h => by cases h
  | v :: vs, u :: us, h => by rw [show u = v from h.1, rM h.2]
theorem Im {D Tb : Nat} {tys r : List Ty} (h1 : cG tys = []) (h2 : bt tys = []) (hc : A.tag D = some (.cells Tb (tys ++ r))) (hD : fm D)
 (h : ∀ vs, vs.length = tys.length → fP P fr c ⟨A.slots, (D, .cells Tb (vs.map Ty.ex ++ r)) :: (4000, Cont.fact tys vs h1 h2) :: A.tags.filter fun x => !(x.1 == D)⟩ Q) : fP P fr c A Q := by
 intro a w ⟨M, ok, hsl, htg⟩
 obtain ⟨b, cs, hb, hh, hd⟩ := htg _ (cw hc)
 obtain ⟨v1, v2, e, d1, d2⟩ := qG hd
 refine h v1 (cQ d1) a w ⟨M, ok, hsl, fun x hx => ?_⟩
 rcases List.mem_cons.1 hx with rfl | hx
 ·exact ⟨b, cs, hb, hh, by rw [e]; exact eB (Ec v1) d2⟩
 rcases List.mem_cons.1 hx with rfl | hx
 ·exact d1
 exact htg x (List.mem_filter.1 hx).1
theorem CI {D Tb : Nat} {vs : List Value} {tys r : List Ty} {h1 : cG tys = []} {h2 : bt tys = []} (hc : A.tag D = some (.cells Tb (vs.map Ty.ex ++ r))) (hf : A.tag 4000 = some (Cont.fact tys vs h1 h2))
 (h : fP P fr c ⟨A.slots, (D, .cells Tb (tys ++ r)) :: A.tags.filter fun x => !(x.1 == D)⟩ Q) : fP P fr c A Q := by
 intro a w ⟨M, ok, hsl, htg⟩
 obtain ⟨b, cs, hb, hh, hd⟩ := htg _ (cw hc)
 have hfd : cK w M tys vs := htg _ (cw hf)
 refine h a w ⟨M, ok, hsl, fun x hx => ?_⟩
 rcases List.mem_cons.1 hx with rfl | hx
 ·obtain ⟨v1, v2, e, d1, d2⟩ := qG hd
  rw [rM d1] at e
  exact ⟨b, cs, hb, hh, by rw [e]; exact eB hfd d2⟩
 exact htg x (List.mem_filter.1 hx).1
theorem vU {D Tb tg : Nat} {α : Type} {E : El α} {T : Nat} {xs : List α} (l1 : List Ty) {l2 : List Ty} (hc : A.tag D = some (.cells Tb (l1 ++ Ty.row E T tg xs :: l2)))
    (h : ∀ v, fP P fr c ⟨A.slots, (D, .cells Tb (l1 ++ Ty.ex v :: l2)) :: (tg, Cont.rv v E T tg xs) :: A.tags.filter fun x => !(x.1 == D)⟩ Q) : fP P fr c A Q := by
  intro a w ⟨M, ok, hsl, htg⟩
  obtain ⟨b, cs, hb, hh, hd⟩ := htg _ (cw hc)
  obtain ⟨v1, v2, e, d1, d2⟩ := qG hd
  match v2, d2 with
  | v :: v2, d2 =>
    refine h v a w ⟨M, ok, hsl, fun x hx => ?_⟩
    rcases List.mem_cons.1 hx with rfl | hx
    · exact ⟨b, cs, hb, hh, by rw [e]; exact eB d1 ⟨rfl, d2.2⟩⟩
    · rcases List.mem_cons.1 hx with rfl | hx
      · exact d2.1
      · exact htg x (List.mem_filter.1 hx).1
theorem yl {T tg off : Nat} {l : List Ty} (hc : A.tag tg = some (.cells T l)) (hd : kr (cG l) [tg] = true) (h1 : fm tg) : uc A tg (.ptr tg off) (.pp (l.drop off)) := fun w M v wf ht hv =>
 lK (A := A.set 0 (.ptr tg off)) (s := 0) rfl hc hd h1 w M v wf ht hv
theorem G8 {tg i : Nat} {t : Ty} : ∀ {l l' : List Ty}, yZ A tg l l' → l'[i]? = some t → ∃ i', i' = i ∧ ∃ s, l[i']? = some s ∧ uc A tg s t := by
  induction i with
  | zero =>
    intro l l' h e
    match l, l', h with
    | [], [], _ => cases e
    | s :: _, t' :: _, h => injection e with e; subst e; exact ⟨0, rfl, s, rfl, h.1⟩
  | succ i ih =>
    intro l l' h e
    match l, l', h with
    | [], [], _ => cases e
    | _ :: l, _ :: l', h =>
      obtain ⟨i', rfl, s, h1, h2⟩ := ih (l := l) (l' := l') h.2 e
      exact ⟨i' + 1, rfl, s, h1, h2⟩
theorem Bw {tg : Nat} {l l' : List Ty} (h : yZ A tg l l') : uc A tg (.pp l) (.pp l') := fun w M v wf ht ⟨b, off, e, m1, m2, m3⟩ => by
 refine ⟨b, off, e, by simp [eS, m1], m2, fun i t hi => ?_⟩
 obtain ⟨_, rfl, s, h1, h2⟩ := G8 h hi
 obtain ⟨x, hx, hdx⟩ := m3 _ s h1
 exact ⟨x, hx, h2 w M x wf ht hdx⟩
theorem AB {tg s : Nat} {l l' : List Ty} (hx : A.slots s = .pp l) (h : yZ A tg l l') : zA A tg s (.pp l') := fun w M v wf ht hv => Bw h w M v wf ht (hx ▸ hv)
theorem Bq {f D Tb n sd : Nat} {tys : List Ty} {vs : List Value} {h1 : cG tys = []} {h2 : bt tys = []} {oT : List Ty} {encs : List (List Ty)} {resD resS : Ty} {s : Nat → Ty} {tg : Nat → List (Nat × Cont)} {r : Nat → List Ty}
    (hI : ∀ b, IU P f b D Tb vs tys (fun l => Ty.ex (yv l) :: Ty.pp [Ty.ex (.pointer (some ⟨b, 0, none⟩))] :: oT) encs resD resS)
    (hD : fm D) (hsn : sd < n) (hsd : s sd = Ty.ptr D 0) (htD : ∀ k, (D, Cont.cells Tb (vs.map Ty.ex ++ r k)) ∈ tg k) (htf : (4000, Cont.fact tys vs h1 h2) ∈ tg 0) :
    ∀ (l : Nat) (J : Nat → World → bB → Prop) (Jx : World → bB → Prop) (tm : Array Value), (∀ k, Cb (J k)) → Cb Jx → NS P l encs J Jx → (∀ k w M, J k w M → (∀ c, c < n → (s c).den w M (tm.getD c undef)) ∧ ∀ x ∈ tg k, x.2.den w M x.1) → ∀ w M us, Wf w M → Fe M → cK w M (Ty.ex (yv l) :: Ty.pp [Ty.ptr D 0] :: oT) us → J 0 w M → Calls P f us.toArray w (cj encs.length J Jx resD resS) := by
  intro l J Jx tm hJ hJx hY hS w M us wf z hd hj
  obtain ⟨u, rfl⟩ : ∃ u, D = u + 1 := ⟨D - 1, by have := hD.1; omega⟩
  have hat : ∀ k w M, Wf w M → J k w M → ∃ b, M b = some (u + 1) ∧ tm.getD sd undef = .pointer (some ⟨b, 0, none⟩) ∧ ∃ cs : Array Value, w.heap[b]? = some (.cells cs Tb (0, 0)) ∧ cs.toList.take vs.length = vs := fun k w M wf hj => by
    obtain ⟨g1, g2⟩ := hS k w M hj
    have g3 := g1 sd hsn
    rw [hsd] at g3
    obtain ⟨b, hb, e⟩ := g3
    obtain ⟨b', cs, hb', hh, hds⟩ := g2 _ (htD k)
    have := wf.inj b b' u hD.2 hb hb'
    subst this
    obtain ⟨v1, v2, e2, d1, d2⟩ := qG hds
    rw [rM d1] at e2
    exact ⟨b, hb, e, cs, hh, by rw [e2, List.take_left']; rfl⟩
  obtain ⟨b, hb, eb, _⟩ := hat 0 w M wf hj
  have hX : XB b (u + 1) Tb vs J := fun k w' M' wf' hj' => by
    obtain ⟨b', hb', eb', cs, hh, hcs⟩ := hat k w' M' wf' hj'
    rw [eb] at eb'
    injection eb' with eb'
    injection eb' with eb'
    injection eb' with eb' _ _
    subst eb'
    exact ⟨hb', cs, hh, hcs⟩
  refine (hI b).2 l J Jx hJ hJx hX hY w M us wf z ?_ ((hS 0 w M hj).2 _ htf) hj
  match us, hd with
  | u1 :: u2 :: us, ⟨d1, ⟨q, off, e, m1, m2, m3⟩, d3⟩ =>
    refine ⟨d1, ⟨q, off, e, m1, m2, fun i t hi => ?_⟩, d3⟩
    cases i with
    | succ i => cases hi
    | zero =>
      obtain ⟨x, hx, b', hb', ex⟩ := m3 0 _ rfl
      have := wf.inj b b' u hD.2 hb hb'
      subst this
      injection hi with hi
      subst hi
      exact ⟨x, hx, ex⟩
end
end Go.T
namespace Go.Proofs.YtelbollidfdcjaaGreat
open Go Go.T
set_option maxHeartbeats 4000000
section
variable {y : ah}
theorem GO (hr : y.cI) : (y.bins.length : Int) * y.days = (y.cells : Nat) := by
 rw [← D_eq hr]; unfold ah.cells; simp
theorem nR (hr : y.cI) : y.cells ≤ 20 := by
 have h1 := hr.bins; have h2 := hr.days; have h3 := D_eq hr
 have := Nat.mul_le_mul (show y.bins.length ≤ 4 by omega) (show y.D ≤ 5 by omega)
 unfold ah.cells; omega
theorem CL {s d : Int} (hs : 0 ≤ s ∧ s ≤ 4) (hd : 0 ≤ d ∧ d ≤ 6) : 0 ≤ s * d ∧ s * d ≤ 24 := by
 have : s = 0 ∨ s = 1 ∨ s = 2 ∨ s = 3 ∨ s = 4 := by omega
 rcases this with e | e | e | e | e <;> subst e <;> omega
def fk (n : Int) (l : List Int) : Int := l.foldl min n
theorem Dk (n : Int) (l : List Int) : fk n (l.take 0) = n := rfl
theorem Dy {n : Int} {l : List Int} {k : Nat} (h : k < l.length) : min (fk n (l.take k)) (nth l k) = fk n (l.take (k + 1)) := by
 unfold fk; rw [eG h, List.foldl_append]; rfl
def wh (k : Nat) : List Bool := List.replicate k true ++ List.replicate (8 - k) false
def bh : List Bool := List.replicate 8 true
theorem zf {k : Nat} (h : k ≤ 8) : (wh k).length = 8 := by unfold wh; rw [List.length_append, List.length_replicate, List.length_replicate]; omega
theorem DD {k : Nat} (h : k < 8) : (wh k).set k true = wh (k + 1) := by
 unfold wh
 rw [List.set_append_right _ _ (by simp), List.length_replicate, Nat.sub_self, show 8 - k = (8 - (k + 1)) + 1 by omega, List.replicate_succ, List.set_cons_zero, List.replicate_succ', List.append_assoc]; rfl
theorem NH (hr : y.cI) {s d : Int} (h : s = -1) : ((y.cells : Nat) : Int) = y.cell s d := by rw [h, rz hr]
theorem MS {s d : Int} (h : ¬ s = -1) : s * y.days + d = y.cell s d := (if_neg h).symm
theorem Is (hr : y.cI) {b t : Nat} : (b : Int) * (y.days + 1) + t = (y.kept b t : Nat) := by
 rw [← D_eq hr]; unfold ah.kept; simp
end
attribute [local irreducible] ah.cell ah.kept ah.cells fk
attribute [local irreducible] iN fQ m5 qc ir iW ij iy iw qY iZ qW dz ga qV gG qd nth fP dh aa dy bodyPost Exit.then Exit.inBlock Code.wp Code.wpIn qh iq qb qU ia dn cU cj bodyPostM eF
set_option maxRecDepth 100000 in
theorem sK (n : Int) (l : List Int) : dy Tryz.prog 180 [Ty.int .i64 n, Ty.sl cS l] (Ty.int .i64 (fk n l)) := by
 refine bC Tryz.func180 rfl (by decide) Tryz.ntmps180 (by exact Nat.le_of_ble_eq_true rfl) fun w0 M0 => ?_
 refine j6 (s := 1) rfl rfl kI fun hln => ?_
 refine aG (aA (cE rfl (aD (aC (aG (aG (aA (fU rfl (cY rfl rfl rfl ?_)))))))))
 refine bQ rfl (aD (aC (ak ?_)))
 refine cg (fun (k : {k : Nat // k ≤ l.length}) => live [(0, Ty.int .i64 (fk n (l.take k.1))), (7, Ty.sl cS l), (8, Ty.int .i64 l.length), (9, Ty.int .i64 (k.1 : Nat))] []) (fun k => l.length - k.1) (⟨0, by omega⟩) ?_ fun k => ?_
 ·(refine dG.mk' ?_ ?_ <;> (repeat' (first | exact aI | exact aJ | refine aB ?_ (Ty.aU _) | refine aB ?_ (Ty.aE _) | refine aB ?_ ?_)))
  all_goals exact Ty.au (Dk n l).symm
 refine aG (aA (bF rfl rfl rfl (aD (aC (aG ?_)))))
 refine aq rfl (fun hc1 => ?_) (fun hc1 => ?_)
 ·
  refine aj (aC (aG (ak (aG (aA ?_)))))
  refine bH rfl rfl rfl rfl rfl rfl (by omega) ?_
  refine aL rfl rfl rfl rfl (cE rfl (aD (aC (aA (bQ rfl (bQ rfl (uV rfl rfl (cE rfl (aD ?_)))))))))
  refine bX (aC (aA ?_))
  refine cD rfl rfl (by omega) (by omega) ?_
  refine bQ rfl (aD ?_)
  refine bl (⟨k.1 + 1, by omega⟩) ?_ (by show l.length - (k.1 + 1) < l.length - k.1; omega)
  (refine dG.mk' ?_ ?_ <;> (repeat' (first | exact aI | exact aJ | refine aB ?_ (Ty.aU _) | refine aB ?_ (Ty.aE _) | refine aB ?_ ?_)))
  all_goals skip
  all_goals exact Ty.au (Dy (by omega))
 refine cZ (aQ (aQ (ay rfl (aC (aG (aA (bQ rfl (cE rfl (aD ?_)))))))))
 refine aC (av (bz rfl rfl ?_))
 all_goals skip
 all_goals exact bE rfl rfl (congrArg (Ty.int .i64) (by rw [List.take_of_length_le (by have := k.2; omega)]))
set_option maxRecDepth 100000 in
theorem s9 : dy Tryz.prog 118 [] (Ty.arr jA bh) := by
 refine bC Tryz.func118 rfl (by decide) Tryz.ntmps118 (by exact Nat.le_of_ble_eq_true rfl) fun w0 M0 => ?_
 refine aG (aA ?_)
 refine b9 rfl (by exact List.cons_ne_nil _ _) rfl ?_
 refine aD (aC (aG (aA ?_)))
 refine Ce (E := jA) (xs := List.replicate 8 false) rfl (by exact List.cons_ne_nil _ _) rfl rfl ?_
 refine aD (aC (aG (aG (aA (bQ rfl (aD (aC (ak ?_))))))))
 refine cg (fun (k : {k : Nat // k ≤ 8}) => live [(0, Ty.ptr 1 0), (1, Ty.ptr 2 0), (3, Ty.int .i64 (k.1 : Nat))] [(1, Cont.cells 180 [Ty.bool false, Ty.bool false, Ty.bool false, Ty.bool false, Ty.bool false, Ty.bool false, Ty.bool false, Ty.bool false]), (2, Cont.vec jA 180 (wh k.1))]) (fun k => 8 - k.1) (⟨0, by omega⟩) ?_ fun k => ?_
 ·(refine dG.mk' ?_ ?_ <;> (repeat' (first | exact aI | exact aJ | refine aB ?_ (Ty.aU _) | refine aB ?_ (Ty.aE _) | refine aF rfl (Cont.aE _) ?_)))
 have hkl := zf k.2
 refine aG (aA (bF rfl rfl rfl (aD (aC (aG ?_)))))
 refine aq rfl (fun hc1 => ?_) (fun hc1 => ?_)
 ·
  refine aj (aC (aG (ak (aG (aA (bQ rfl (cE rfl (aD (aC ?_)))))))))
  refine aA (bQ rfl ?_)
  refine sw (n := 8) rfl rfl rfl rfl rfl (by omega) (by omega) ?_
  refine sC rfl rfl rfl (by decide) rfl rfl (by exact (rfl : _ = Ty.bool _)) rfl (by omega) (by decide) rfl rfl ?_
  refine aD (bX (aC (aA ?_)))
  refine cD rfl rfl (by omega) (by omega) ?_
  refine bQ rfl (aD ?_)
  refine bl (⟨k.1 + 1, by omega⟩) ?_ (by show 8 - (k.1 + 1) < 8 - k.1; omega)
  (refine dG.mk' ?_ ?_ <;> (repeat' (first | exact aI | exact aJ | refine aB ?_ (Ty.aU _) | refine aB ?_ (Ty.aE _) | refine aF rfl (Cont.aE _) ?_ | refine aF rfl ?_ ?_)))
  all_goals skip
  all_goals exact Cont.dW (DD (by omega))
 refine cZ (aQ (aQ (ay rfl (aC (aG ?_)))))
 obtain ⟨k, hk⟩ := k
 obtain rfl : k = 8 := by have h1 : ¬ (k : Int) < 8 := hc1; have h2 : k ≤ 8 := hk; omega
 have hkl := zf hk
 refine aA ?_
 refine iI rfl rfl (by decide) rfl rfl (by rw [hkl]; rfl) (fun e => by rw [e] at hkl; cases hkl) ?_
 refine C2 rfl rfl (by decide) rfl rfl (by rw [hkl]; rfl) rfl ?_
 refine aD (aC (av ?_))
 refine Ck (show wh 8 = bh from rfl) rfl rfl rfl rfl (by decide) rfl rfl (by rw [hkl]; rfl) (fun e => by rw [e] at hkl; cases hkl)
set_option maxRecDepth 100000 in
theorem sG (y : ah) (hr : y.cI) : dy Tryz.prog 131 [Ty.pp (bK y)] (Ty.int .i64 (y.cells : Nat)) := by
 refine bC Tryz.func131 rfl (by decide) Tryz.ntmps131 (by exact Nat.le_of_ble_eq_true rfl) fun w0 M0 => ?_
 have hcm := GO hr
 have hcl := nR hr
 refine aG (aA (cE rfl (aD (aC (aG (cW mixed rfl (jt rfl (cA rfl ?_))))))))
 refine aO rfl rfl rfl rfl rfl (by decide) ?_
 refine aO rfl rfl rfl rfl rfl (by decide) ?_
 refine aL rfl rfl rfl rfl (cY rfl rfl rfl (jt rfl (cA rfl ?_)))
 refine aO rfl rfl rfl rfl rfl (by decide) ?_
 refine aO rfl rfl rfl rfl rfl (by decide) ?_
 refine aL rfl rfl rfl rfl ?_
 refine E6 rfl rfl (by rw [hcm]; omega) (by rw [hcm]; omega) ?_
 refine cE rfl (aD ?_)
 refine ⟨by kernel_rfl, ?_⟩
 refine aC (av (bz rfl rfl ?_))
 all_goals skip
 all_goals exact bE rfl rfl (congrArg (Ty.int .i64) hcm)
set_option maxRecDepth 100000 in
theorem xH (y : ah) (hr : y.cI) (s d : Int) (hs : -1 ≤ s ∧ s < y.bins.length) (hd : 0 ≤ d ∧ d ≤ y.days) : dy Tryz.prog 132 [Ty.pp (bK y), Ty.int .i64 s, Ty.int .i64 d] (Ty.int .i64 (y.cell s d)) := by
 refine bC Tryz.func132 rfl (by decide) Tryz.ntmps132 (by exact Nat.le_of_ble_eq_true rfl) fun w0 M0 => ?_
 have h1 := hr.bins
 have h2 := hr.days
 refine aG (aA (cE rfl (aD (aC (aG (aG (aA (bQ rfl (bF rfl rfl rfl ?_)))))))))
 refine aD (aC ?_)
 refine aq rfl (fun hc1 => ?_) (fun hc1 => ?_)
 ·
  refine aG (aA (jt rfl (az (sG y hr) rfl rfl rfl rfl rfl (cE rfl (aD (aC (av (aW (bz rfl rfl ?_)))))))))
  all_goals skip
  all_goals exact bE rfl rfl (congrArg (Ty.int .i64) (NH hr hc1))
 refine aj (aC (aG ?_))
 have hb := CL (s := s) (d := y.days) (by omega) (by omega)
 refine aA (bQ rfl (jt rfl (cA rfl ?_)))
 refine aO rfl rfl rfl rfl rfl (by decide) ?_
 refine aO rfl rfl rfl rfl rfl (by decide) ?_
 refine aL rfl rfl rfl rfl ?_
 refine E6 rfl rfl (by omega) (by omega) ?_
 refine bQ rfl ?_
 refine cD rfl rfl (by omega) (by omega) ?_
 refine cE rfl (aD (aC (av (bz rfl rfl ?_))))
 all_goals skip
 all_goals exact bE rfl rfl (congrArg (Ty.int .i64) (MS hc1))
set_option maxRecDepth 100000 in
theorem DU (y : ah) (hr : y.cI) (b t : Nat) (hb : b < y.bins.length) (ht : t ≤ y.D) : dy Tryz.prog 89 [Ty.pp (bK y), Ty.int .i64 (b : Nat), Ty.int .i64 (t : Nat)] (Ty.int .i64 (y.kept b t : Nat)) := by
 refine bC Tryz.func89 rfl (by decide) Tryz.ntmps89 (by exact Nat.le_of_ble_eq_true rfl) fun w0 M0 => ?_
 have h1 := hr.bins
 have h2 := hr.days
 have h3 := D_eq hr
 have h4 := CL (s := (b : Nat)) (d := y.days + 1) (by omega) (by omega)
 refine aG (aA (cE rfl (aD (aC (aG (aA (bQ rfl (jt rfl (cA rfl ?_)))))))))
 refine aO rfl rfl rfl rfl rfl (by decide) ?_
 refine aO rfl rfl rfl rfl rfl (by decide) ?_
 refine aL rfl rfl rfl rfl ?_
 refine cD rfl rfl (by omega) (by omega) ?_
 refine E6 rfl rfl (by omega) (by omega) ?_
 refine bQ rfl ?_
 refine cD rfl rfl (by omega) (by omega) ?_
 refine cE rfl (aD (aC (av (bz rfl rfl ?_))))
 all_goals skip
 all_goals exact bE rfl rfl (congrArg (Ty.int .i64) (Is hr))
end Go.Proofs.YtelbollidfdcjaaGreat
namespace Go.Proofs.YtelbollidfdcjaaGreat
open Go Go.T
set_option maxHeartbeats 8000000
def jq (f : cC) : List Ty := [Ty.agg (dx.tys f)]
section
variable {y : ah} {c : Nat → Bool} {b t : Nat}
def Dl (y : ah) (b t : Nat) : Int := if 0 < t then y.cell b ((t : Int) - 1) else (y.cells : Nat)
def GN (y : ah) (b t : Nat) : Int := if t < y.D then y.cell b t else (y.cells : Nat)
def vN (s d : Int) (k : Span) : List Ty := [Ty.int .i64 s, Ty.int .i64 d, Ty.int .i64 k.lo, Ty.int .i64 k.hi]
theorem KX (h : (t : Int) > 0) : y.cell b ((t : Int) - 1) = Dl y b t := (if_pos (by omega)).symm
theorem M6 (h : ¬ (t : Int) > 0) : ((y.cells : Nat) : Int) = Dl y b t := (if_neg (by omega)).symm
theorem Kw (hr : y.cI) (h : (t : Int) < y.days) : y.cell b t = GN y b t := (if_pos (by have := D_eq hr; omega)).symm
theorem Mi (hr : y.cI) (h : ¬ (t : Int) < y.days) : ((y.cells : Nat) : Int) = GN y b t := (if_neg (by have := D_eq hr; omega)).symm
theorem IV (h : (t : Int) > 0) : 0 = (iA y b t).lo ∧ (nth y.bins b).holds = (iA y b t).hi := by unfold iA; rw [if_pos (by omega)]; exact ⟨rfl, rfl⟩
theorem Lv (h : ¬ (t : Int) > 0) : max 0 (nth y.bins b).first.lo = (iA y b t).lo ∧ fk (nth y.bins b).holds [(nth y.bins b).first.hi] = (iA y b t).hi := by unfold iA; rw [if_neg (by omega)]; exact ⟨rfl, rfl⟩
theorem E5 {s : Span} {k : Nat} (h : ((c k && decide ((nth y.levels k).bin = b)) && decide ((nth y.levels k).day = t)) = true) : max (gI y c b t s k).lo (nth y.levels k).sacks.lo = (gI y c b t s (k + 1)).lo ∧ fk (gI y c b t s k).hi [(nth y.levels k).sacks.hi] = (gI y c b t s (k + 1)).hi := by
 show _ = (if _ then _ else _ : Span).lo ∧ _ = (if _ then _ else _ : Span).hi
 rw [if_pos h]; exact ⟨rfl, rfl⟩
theorem IB {s : Span} {k : Nat} (h : ((c k && decide ((nth y.levels k).bin = b)) && decide ((nth y.levels k).day = t)) = false) : (gI y c b t s k).lo = (gI y c b t s (k + 1)).lo ∧ (gI y c b t s k).hi = (gI y c b t s (k + 1)).hi := by
 show _ = (if _ then _ else _ : Span).lo ∧ _ = (if _ then _ else _ : Span).hi
 rw [if_neg (by rw [h]; decide)]; exact ⟨rfl, rfl⟩
theorem Bx (s : Span) : s.lo = (gI y c b t s 0).lo ∧ s.hi = (gI y c b t s 0).hi := ⟨rfl, rfl⟩
theorem KB {s : Span} {k : Nat} (hk : k ≤ y.levels.length) (h : ¬ (k : Int) < (y.levels.length : Int)) : gI y c b t s k = gI y c b t s y.levels.length := by rw [show k = y.levels.length by omega]
theorem KV (hb : b < y.bins.length) (ht : t ≤ y.D) : jq (nth (aP y c) (b * (y.D + 1) + t)) = [Ty.agg (vN (Dl y b t) (GN y b t) (gI y c b t (iA y b t) y.levels.length))] := congrArg jq (iS (c := c) hb ht)
theorem K7 {i : Nat} (hi : i < y.moves.length) : jq (nth (aP y c) (y.bins.length * (y.D + 1) + i)) = [Ty.agg [Ty.int .i64 (y.cell (nth y.moves i).src (nth y.moves i).day), Ty.int .i64 (y.cell (nth y.moves i).dst (nth y.moves i).day), Ty.int .i64 (nth y.moves i).sacks.lo, Ty.int .i64 (nth y.moves i).sacks.hi]] := congrArg jq (iQ (c := c) hi)
theorem FC (hb : b < y.bins.length) (ht : t ≤ y.D) : b * (y.D + 1) + t < (aP y c).length := by
 rw [fG]; have h := qI hb ht; unfold ah.kept at h; omega
theorem H6 {J : Nat → World → bB → Prop} (hJ : ∀ k, Cb (J k)) {m k : Nat} (e : m = k) : (Cont.ck (hJ m)).Sub (Cont.ck (hJ k)) := Cont.MF hJ e
end
attribute [local irreducible] ah.cell ah.cells fk Dl GN iA gI aP
attribute [local irreducible] iN fQ m5 qc ir iW ij iy iw qY iZ qW dz ga qV gG qd nth fP dh aa dy bodyPost Exit.then Exit.inBlock Code.wp Code.wpIn qh iq qb qU ia dn cU cj bodyPostM eF
set_option maxRecDepth 100000 in
theorem va (y : ah) (hr : y.cI) (c8 : List Bool) (hc8 : c8.length = 8) (b D : Nat) (hD : D < 4096) (vs : List Value) : IU Tryz.prog 196 b D 185 vs (bK y) (fun l => [Ty.ex (yv l), Ty.pp [Ty.ex (.pointer (some ⟨b, 0, none⟩))], Ty.pa jA c8 0]) ((aP y (nth c8)).map jq) (Ty.ju []) (Ty.ju []) := by
 refine DG rfl rfl Tryz.func196 rfl (by decide) Tryz.ntmps196 (fun _ => by exact Nat.le_of_ble_eq_true rfl) (fun _ => ⟨rfl, rfl⟩) fun l J Jx hJ hJx hX hY w0 M0 => ?_
 have h1 := hr.bins
 have h2 := hr.days
 have h3 := D_eq hr
 have h4 := hr.moves
 have h5 := hr.levels
 refine aG (aG (aA (aL rfl rfl rfl rfl (kf rfl ?_))))
 refine jD rfl rfl rfl rfl rfl (by decide) ?_
 refine jD rfl rfl rfl rfl rfl (by decide) ?_
 refine sx hX rfl rfl rfl rfl rfl rfl (cY rfl rfl rfl (bQ rfl (aD (aC (ak ?_)))))
 refine cg (fun (k : {k : Nat // k ≤ y.bins.length}) => live [(0, Ty.ex (yv l)), (1, Ty.pp [Ty.ex (.pointer (some ⟨b, 0, none⟩))]), (2, Ty.pa jA c8 0), (16, Ty.sl dO y.bins), (17, Ty.int .i64 y.bins.length), (18, Ty.int .i64 (k.1 : Nat))] [(7000, Cont.ck (hJ (k.1 * (y.D + 1)))), (4000, Cont.fact (bK y) vs rfl rfl)]) (fun k => y.bins.length - k.1) (⟨0, by omega⟩) ?_ fun k => ?_
 ·(refine dG.mk' ?_ ?_ <;> (repeat' (first | exact aI | exact aJ | refine aB ?_ (Ty.aU _) | refine aB ?_ (Ty.aE _) | refine aF rfl (Cont.aE _) ?_ | refine aF rfl ?_ ?_)))
  all_goals exact H6 hJ (Nat.zero_mul _).symm
 refine aG (aA (bF rfl rfl rfl (aD (aC (aG ?_)))))
 refine aq rfl (fun hc1 => ?_) (fun hc1 => ?_)
 ·
  refine aj (aC (aG (ak (aG (aA (bQ rfl ?_))))))
  refine bH rfl rfl rfl rfl rfl rfl (by omega) ?_
  refine aZ rfl rfl rfl (by exact Nat.le_of_ble_eq_true rfl) ?_
  refine b9 rfl (by exact List.cons_ne_nil _ _) rfl ?_
  refine cE rfl ?_
  refine bp rfl rfl (by decide) rfl rfl rfl rfl rfl rfl ?_
  refine aD (aC (aG (aA (aL rfl rfl rfl rfl (kf rfl ?_)))))
  refine jD rfl rfl rfl rfl rfl (by decide) ?_
  refine jD rfl rfl rfl rfl rfl (by decide) ?_
  refine sx hX rfl rfl rfl rfl rfl rfl ?_
  refine cD rfl rfl (by omega) (by omega) ?_
  refine bQ rfl (aD (aC (ak ?_)))
  refine cg (fun (t : {t : Nat // t ≤ y.D + 1}) => live [(0, Ty.ex (yv l)), (1, Ty.pp [Ty.ex (.pointer (some ⟨b, 0, none⟩))]), (2, Ty.pa jA c8 0), (4, Ty.int .i64 (k.1 : Nat)), (5, Ty.ptr 6 0), (16, Ty.sl dO y.bins), (17, Ty.int .i64 y.bins.length), (18, Ty.int .i64 (k.1 : Nat)), (28, Ty.int .i64 (y.days + 1)), (29, Ty.int .i64 (t.1 : Nat))] [(6, Cont.cells 39 (dO.tys (nth y.bins k.1))), (7000, Cont.ck (hJ (k.1 * (y.D + 1) + t.1))), (4000, Cont.fact (bK y) vs rfl rfl)]) (fun t => y.D + 1 - t.1) (⟨0, by omega⟩) ?_ fun t => ?_
  ·(refine dG.mk' ?_ ?_ <;> (repeat' (first | exact aI | exact aJ | refine aB ?_ (Ty.aU _) | refine aB ?_ (Ty.aE _) | refine aF rfl (Cont.aE _) ?_)))
  refine aG (aA (bF rfl rfl rfl (aD (aC (aG ?_)))))
  refine aq rfl (fun hc2 => ?_) (fun hc2 => ?_)
  ·
   refine aj (aC (aG (ak (aG (aA (bQ rfl (cE rfl (aD (aC ?_)))))))))
   refine aG (cW mixed rfl (aL rfl rfl rfl rfl ?_))
   refine dX [7000, 4000] (sG y hr) rfl (aM (qS hX hD rfl rfl rfl rfl) bf) (by exact dL _ _) ?_
   refine aL rfl rfl rfl rfl ?_
   refine dX [7000, 4000] (sG y hr) rfl (aM (qS hX hD rfl rfl rfl rfl) bf) (by exact dL _ _) ?_
   refine aK rfl rfl rfl rfl rfl (by decide) ?_
   refine aS rfl rfl (by decide) rfl rfl rfl ?_
   refine dB rfl rfl (by exact List.cons_ne_nil _ _) rfl (by repeat (first | exact (aX.nil : aX _ _ [] _) | (show aX _ _ ((_, _) :: _) _; apply aX.one; (· exact (rfl : _ = Ty.int _ _)); (· exact rfl)))) (by exact (rfl : _ = some [_, _, _, _])) ?_
   refine b9 rfl (by exact List.cons_ne_nil _ _) rfl ?_
   refine bp rfl rfl (by decide) rfl rfl rfl rfl rfl rfl ?_
   refine aD ?_
   refine ⟨by kernel_rfl, ?_⟩
   refine aC ?_
   refine k7 (J := live [(0, Ty.ex (yv l)), (1, Ty.pp [Ty.ex (.pointer (some ⟨b, 0, none⟩))]), (2, Ty.pa jA c8 0), (4, Ty.int .i64 (k.1 : Nat)), (5, Ty.ptr 6 0), (6, Ty.int .i64 (t.1 : Nat)), (7, Ty.ptr 8 0), (16, Ty.sl dO y.bins), (17, Ty.int .i64 y.bins.length), (18, Ty.int .i64 (k.1 : Nat)), (28, Ty.int .i64 (y.days + 1)), (29, Ty.int .i64 (t.1 : Nat))] [(6, Cont.cells 39 (dO.tys (nth y.bins k.1))), (8, Cont.cells 187 [Ty.int .i64 (Dl y k.1 t.1), Ty.int .i64 (y.cells : Nat), Ty.int .i64 (iA y k.1 t.1).lo, Ty.int .i64 (iA y k.1 t.1).hi]), (7000, Cont.ck (hJ (k.1 * (y.D + 1) + t.1))), (4000, Cont.fact (bK y) vs rfl rfl)]) ?_ ?_
   ·
    refine aG (aA (bQ rfl (bF rfl rfl rfl (aD (aC ?_)))))
    refine aq rfl (fun hc3 => ?_) (fun hc3 => ?_)
    ·
     refine aA (aL rfl rfl rfl rfl (bQ rfl (bQ rfl ?_)))
     refine iB rfl rfl (by omega) (by omega) ?_
     refine dX [7000, 4000] (xH y hr (k.1 : Nat) ((t.1 : Int) - 1) (by omega) (by omega)) rfl (aM (qS hX hD rfl rfl rfl rfl) (aM (af (bI rfl rfl)) (aM (af (bI rfl rfl)) bf))) (by exact dL _ _) ?_
     refine aK rfl rfl rfl rfl rfl (by decide) ?_
     refine cq rfl rfl (by decide) rfl rfl (by exact (rfl : _ = Ty.int _ _)) rfl (by exact Nat.le_of_ble_eq_true rfl) rfl rfl (by exact rfl) ?_
     refine aD (fJ ?_)
     (refine dG.mk' ?_ ?_ <;> (repeat' (first | exact aI | exact aJ | exact dS | refine aB ?_ (Ty.aU _) | refine aB ?_ (Ty.aE _) | refine aF rfl (Cont.aE _) ?_ | refine aF rfl (Cont.dV ?_) ?_ | refine bu ?_ (Ty.aE _) | refine bu ?_ ?_)))
     all_goals first | exact Ty.au (KX hc3) | exact Ty.au (IV hc3).1 | exact Ty.au (IV hc3).2
    refine cW mixed rfl ?_
    refine aK rfl rfl rfl rfl rfl (by decide) ?_
    refine aK rfl rfl rfl rfl rfl (by decide) ?_
    refine aS rfl rfl (by decide) rfl rfl rfl ?_
    refine ue rfl rfl ?_
    refine aK rfl rfl rfl rfl rfl (by decide) ?_
    refine aS rfl rfl (by decide) rfl rfl rfl ?_
    refine aK rfl rfl rfl rfl rfl (by decide) ?_
    refine aK rfl rfl rfl rfl rfl (by decide) ?_
    refine aS rfl rfl (by decide) rfl rfl rfl ?_
    refine bw (E := cS) (xs := [_]) rfl rfl rfl rfl rfl (by decide) (by decide) (by repeat (first | exact (aX.nil : aX _ _ [] _) | (show aX _ _ ((_, _) :: _) _; apply aX.one; (· exact (rfl : _ = Ty.int _ _)); (· exact rfl)))) (by exact rfl) rfl ?_
    refine az (sK _ _) rfl rfl rfl rfl rfl ?_
    refine aK rfl rfl rfl rfl rfl (by decide) ?_
    refine cq rfl rfl (by decide) rfl rfl (by exact (rfl : _ = Ty.int _ _)) rfl (by exact Nat.le_of_ble_eq_true rfl) rfl rfl (by exact rfl) ?_
    refine aK rfl rfl rfl rfl rfl (by decide) ?_
    refine cq rfl rfl (by decide) rfl rfl (by exact (rfl : _ = Ty.int _ _)) rfl (by exact Nat.le_of_ble_eq_true rfl) rfl rfl (by exact rfl) ?_
    refine aD ?_
    refine ⟨by kernel_rfl, ?_⟩
    refine fJ ?_
    (refine dG.mk' ?_ ?_ <;> (repeat' (first | exact aI | exact aJ | exact dS | refine aB ?_ (Ty.aU _) | refine aB ?_ (Ty.aE _) | refine aF rfl (Cont.aE _) ?_ | refine aF rfl (Cont.dV ?_) ?_ | refine bu ?_ (Ty.aE _) | refine bu ?_ ?_)))
    all_goals first | exact Ty.au (M6 hc3) | exact Ty.au (Lv hc3).1 | exact Ty.au (Lv hc3).2
   refine k7 (J := live [(0, Ty.ex (yv l)), (1, Ty.pp [Ty.ex (.pointer (some ⟨b, 0, none⟩))]), (2, Ty.pa jA c8 0), (4, Ty.int .i64 (k.1 : Nat)), (5, Ty.ptr 6 0), (6, Ty.int .i64 (t.1 : Nat)), (7, Ty.ptr 8 0), (16, Ty.sl dO y.bins), (17, Ty.int .i64 y.bins.length), (18, Ty.int .i64 (k.1 : Nat)), (28, Ty.int .i64 (y.days + 1)), (29, Ty.int .i64 (t.1 : Nat))] [(6, Cont.cells 39 (dO.tys (nth y.bins k.1))), (8, Cont.cells 187 (vN (Dl y k.1 t.1) (GN y k.1 t.1) (iA y k.1 t.1))), (7000, Cont.ck (hJ (k.1 * (y.D + 1) + t.1))), (4000, Cont.fact (bK y) vs rfl rfl)]) ?_ ?_
   ·
    refine aG (aA (bQ rfl (aL rfl rfl rfl rfl (kf rfl ?_))))
    refine jD rfl rfl rfl rfl rfl (by decide) ?_
    refine jD rfl rfl rfl rfl rfl (by decide) ?_
    refine sx hX rfl rfl rfl rfl rfl rfl (bF rfl rfl rfl (aD (aC ?_)))
    refine aq rfl (fun hc4 => ?_) (fun hc4 => ?_)
    ·
     refine aA (aL rfl rfl rfl rfl (bQ rfl (bQ rfl ?_)))
     refine dX [7000, 4000] (xH y hr (k.1 : Nat) (t.1 : Nat) (by omega) (by omega)) rfl (aM (qS hX hD rfl rfl rfl rfl) (aM (af (bI rfl rfl)) (aM (af (bI rfl rfl)) bf))) (by exact dL _ _) ?_
     refine aK rfl rfl rfl rfl rfl (by decide) ?_
     refine cq rfl rfl (by decide) rfl rfl (by exact (rfl : _ = Ty.int _ _)) rfl (by exact Nat.le_of_ble_eq_true rfl) rfl rfl (by exact rfl) ?_
     refine aD (fJ ?_)
     (refine dG.mk' ?_ ?_ <;> (repeat' (first | exact aI | exact aJ | exact dS | refine aB ?_ (Ty.aU _) | refine aB ?_ (Ty.aE _) | refine aF rfl (Cont.aE _) ?_ | refine aF rfl (Cont.dV ?_) ?_ | refine bu ?_ (Ty.aE _) | refine bu ?_ ?_)))
     all_goals exact Ty.au (Kw hr hc4)
    refine aj (fJ ?_)
    (refine dG.mk' ?_ ?_ <;> (repeat' (first | exact aI | exact aJ | exact dS | refine aB ?_ (Ty.aU _) | refine aB ?_ (Ty.aE _) | refine aF rfl (Cont.aE _) ?_ | refine aF rfl (Cont.dV ?_) ?_ | refine bu ?_ (Ty.aE _) | refine bu ?_ ?_)))
    all_goals exact Ty.au (Mi hr hc4)
   refine aG (aG (aA (aL rfl rfl rfl rfl (kf rfl ?_))))
   refine jD rfl rfl rfl rfl rfl (by decide) ?_
   refine jD rfl rfl rfl rfl rfl (by decide) ?_
   refine sx hX rfl rfl rfl rfl rfl rfl (cY rfl rfl rfl (bQ rfl (aD (aC (ak ?_)))))
   refine cg (fun (i : {i : Nat // i ≤ y.levels.length}) => live [(0, Ty.ex (yv l)), (1, Ty.pp [Ty.ex (.pointer (some ⟨b, 0, none⟩))]), (2, Ty.pa jA c8 0), (4, Ty.int .i64 (k.1 : Nat)), (5, Ty.ptr 6 0), (6, Ty.int .i64 (t.1 : Nat)), (7, Ty.ptr 8 0), (16, Ty.sl dO y.bins), (17, Ty.int .i64 y.bins.length), (18, Ty.int .i64 (k.1 : Nat)), (28, Ty.int .i64 (y.days + 1)), (29, Ty.int .i64 (t.1 : Nat)), (76, Ty.sl ct y.levels), (77, Ty.int .i64 y.levels.length), (78, Ty.int .i64 (i.1 : Nat))] [(6, Cont.cells 39 (dO.tys (nth y.bins k.1))), (8, Cont.cells 187 (vN (Dl y k.1 t.1) (GN y k.1 t.1) (gI y (nth c8) k.1 t.1 (iA y k.1 t.1) i.1))), (7000, Cont.ck (hJ (k.1 * (y.D + 1) + t.1))), (4000, Cont.fact (bK y) vs rfl rfl)]) (fun i => y.levels.length - i.1) (⟨0, by omega⟩) ?_ fun i => ?_
   ·(refine dG.mk' ?_ ?_ <;> (repeat' (first | exact aI | exact aJ | exact dS | refine aB ?_ (Ty.aU _) | refine aB ?_ (Ty.aE _) | refine aF rfl (Cont.aE _) ?_ | refine aF rfl (Cont.dV ?_) ?_ | refine bu ?_ (Ty.aE _) | refine bu ?_ ?_)))
    all_goals first | exact Ty.au (Bx _).1 | exact Ty.au (Bx _).2
   have hi := i.2
   refine aG (aA (bF rfl rfl rfl (aD (aC (aG ?_)))))
   refine aq rfl (fun hc5 => ?_) (fun hc5 => ?_)
   ·
    refine aj (aC (aG (ak (aG (aA (bQ rfl ?_))))))
    refine bH rfl rfl rfl rfl rfl rfl (by omega) ?_
    refine aZ rfl rfl rfl (by exact Nat.le_of_ble_eq_true rfl) ?_
    refine b9 rfl (by exact List.cons_ne_nil _ _) rfl ?_
    refine cE rfl ?_
    refine bp rfl rfl (by decide) rfl rfl rfl rfl rfl rfl ?_
    refine aD (aC (aG (aA (bQ rfl ?_))))
    refine EC (n := 8) rfl rfl rfl rfl rfl (by omega) ?_
    refine Gd rfl rfl rfl (Nat.zero_add _) (by omega) rfl ?_
    refine g8 rfl ?_
    apply aT (s := 86) rfl rfl rfl
    ·intro hg; apply aV; (refine aK rfl rfl rfl rfl rfl (by decide) ?_); refine aD ?_; exact rfl
    ·exact rfl
    ·exact rfl
    apply aT (s := 86) rfl rfl rfl
    ·intro hg; apply aR (s := 87) rfl (by (rw [hg]; rfl)); apply aV; (refine aS rfl rfl (by decide) rfl rfl rfl ?_); refine aD ?_; exact rfl
    ·exact rfl
    ·exact rfl
    apply aT (s := 86) rfl rfl rfl
    ·intro hg; apply aV; (refine bQ rfl ?_); refine aD ?_; exact rfl
    ·exact rfl
    ·exact rfl
    apply aT (s := 86) rfl rfl rfl
    ·intro hg; apply aR (s := 88) rfl (by (rw [hg]; rfl)); apply aR (s := 89) rfl (by (rw [hg]; rfl)); apply aV; (refine bF rfl rfl rfl ?_); refine aD ?_; exact rfl
    ·exact rfl
    ·exact rfl
    refine eX rfl rfl (g8 rfl ?_)
    apply aT (s := 92) rfl rfl rfl
    ·intro hg; apply aV; (refine aK rfl rfl rfl rfl rfl (by decide) ?_); refine aD ?_; exact rfl
    ·exact rfl
    ·exact rfl
    apply aT (s := 92) rfl rfl rfl
    ·intro hg; apply aR (s := 93) rfl (by (rw [hg]; rfl)); apply aV; (refine aS rfl rfl (by decide) rfl rfl rfl ?_); refine aD ?_; exact rfl
    ·exact rfl
    ·exact rfl
    apply aT (s := 92) rfl rfl rfl
    ·intro hg; apply aV; (refine bQ rfl ?_); refine aD ?_; exact rfl
    ·exact rfl
    ·exact rfl
    apply aT (s := 92) rfl rfl rfl
    ·intro hg; apply aR (s := 94) rfl (by (rw [hg]; rfl)); apply aR (s := 95) rfl (by (rw [hg]; rfl)); apply aV; (refine bF rfl rfl rfl ?_); refine aD ?_; exact rfl
    ·exact rfl
    ·exact rfl
    refine eX rfl rfl (aD (aC ?_))
    refine cx rfl (fun hc6 => ?_) (fun hc6 => ?_)
    ·
     refine cW mixed rfl ?_
     refine aK rfl rfl rfl rfl rfl (by decide) ?_
     refine aS rfl rfl (by decide) rfl rfl rfl ?_
     refine aK rfl rfl rfl rfl rfl (by decide) ?_
     refine aK rfl rfl rfl rfl rfl (by decide) ?_
     refine aS rfl rfl (by decide) rfl rfl rfl ?_
     refine ue rfl rfl ?_
     refine aK rfl rfl rfl rfl rfl (by decide) ?_
     refine aS rfl rfl (by decide) rfl rfl rfl ?_
     refine aK rfl rfl rfl rfl rfl (by decide) ?_
     refine aK rfl rfl rfl rfl rfl (by decide) ?_
     refine aS rfl rfl (by decide) rfl rfl rfl ?_
     refine bw (E := cS) (xs := [_]) rfl rfl rfl rfl rfl (by decide) (by decide) (by repeat (first | exact (aX.nil : aX _ _ [] _) | (show aX _ _ ((_, _) :: _) _; apply aX.one; (· exact (rfl : _ = Ty.int _ _)); (· exact rfl)))) (by exact rfl) rfl ?_
     refine az (sK _ _) rfl rfl rfl rfl rfl ?_
     refine aK rfl rfl rfl rfl rfl (by decide) ?_
     refine cq rfl rfl (by decide) rfl rfl (by exact (rfl : _ = Ty.int _ _)) rfl (by exact Nat.le_of_ble_eq_true rfl) rfl rfl (by exact rfl) ?_
     refine aK rfl rfl rfl rfl rfl (by decide) ?_
     refine cq rfl rfl (by decide) rfl rfl (by exact (rfl : _ = Ty.int _ _)) rfl (by exact Nat.le_of_ble_eq_true rfl) rfl rfl (by exact rfl) ?_
     refine aD ?_
     refine ⟨by kernel_rfl, ?_⟩
     refine bX (aC (aA ?_))
     refine cD rfl rfl (by omega) (by omega) ?_
     refine bQ rfl (aD ?_)
     refine bl (⟨i.1 + 1, by omega⟩) ?_ (by show y.levels.length - (i.1 + 1) < y.levels.length - i.1; omega)
     (refine dG.mk' ?_ ?_ <;> (repeat' (first | exact aI | exact aJ | exact dS | refine aB ?_ (Ty.aU _) | refine aB ?_ (Ty.aE _) | refine aF rfl (Cont.aE _) ?_ | refine aF rfl (Cont.dV ?_) ?_ | refine bu ?_ (Ty.aE _) | refine bu ?_ ?_)))
     all_goals skip
     all_goals first | exact Ty.au (E5 hc6).1 | exact Ty.au (E5 hc6).2
    refine aj (bX (aC (aA ?_)))
    refine cD rfl rfl (by omega) (by omega) ?_
    refine bQ rfl (aD ?_)
    refine bl (⟨i.1 + 1, by omega⟩) ?_ (by show y.levels.length - (i.1 + 1) < y.levels.length - i.1; omega)
    (refine dG.mk' ?_ ?_ <;> (repeat' (first | exact aI | exact aJ | exact dS | refine aB ?_ (Ty.aU _) | refine aB ?_ (Ty.aE _) | refine aF rfl (Cont.aE _) ?_ | refine aF rfl (Cont.dV ?_) ?_ | refine bu ?_ (Ty.aE _) | refine bu ?_ ?_)))
    all_goals skip
    all_goals first | exact Ty.au (IB hc6).1 | exact Ty.au (IB hc6).2
   refine cZ (aQ (aQ (ay rfl (aC (aG ?_)))))
   refine fV (tg := 8) rfl (Cont.jz (congrArg (vN _ _) (KB i.2 hc5))) ?_
   refine aA (Ov rfl ?_)
   refine bS rfl rfl (by decide) rfl rfl (by exact Nat.le_of_ble_eq_true rfl) ?_
   refine A9 hJ hJx hY rfl rfl rfl rfl rfl (FF (FC (by omega) (by omega)) (KV (by omega) (by omega))) rfl ?_
   refine JN (h1 := hJ _) (hx := hJx) rfl ?_
   refine aD (aC ?_)
   refine FB (h1 := hJ _) (hx := hJx) rfl ?_ ?_
   ·
    refine av (bJ (aW (aW (bJ (bJ (aW (aW (bJ (aW ?_)))))))))
    exact Ey rfl rfl
   refine aj (bX (aC (aA ?_)))
   refine cD rfl rfl (by omega) (by omega) ?_
   refine bQ rfl (aD ?_)
   refine bl (⟨t.1 + 1, by omega⟩) ?_ (by show y.D + 1 - (t.1 + 1) < y.D + 1 - t.1; omega)
   (refine dG.mk' ?_ ?_ <;> (repeat' (first | exact aI | exact aJ | refine aB ?_ (Ty.aU _) | refine aB ?_ (Ty.aE _) | refine aF rfl (Cont.aE _) ?_)))
   all_goals skip
  refine cZ (aQ (aQ (ay rfl (bX (aC (aA ?_))))))
  refine cD rfl rfl (by omega) (by omega) ?_
  refine bQ rfl (aD ?_)
  refine bl (⟨k.1 + 1, by omega⟩) ?_ (by show y.bins.length - (k.1 + 1) < y.bins.length - k.1; omega)
  (refine dG.mk' ?_ ?_ <;> (repeat' (first | exact aI | exact aJ | refine aB ?_ (Ty.aU _) | refine aB ?_ (Ty.aE _) | refine aF rfl (Cont.aE _) ?_ | refine aF rfl ?_ ?_)))
  all_goals skip
  all_goals exact H6 hJ (show k.1 * (y.D + 1) + t.1 = (k.1 + 1) * (y.D + 1) by rw [Nat.succ_mul]; have := t.2; omega)
 refine cZ (aQ (aQ (ay rfl (aC (aG (aA (aL rfl rfl rfl rfl (kf rfl ?_))))))))
 refine jD rfl rfl rfl rfl rfl (by decide) ?_
 refine jD rfl rfl rfl rfl rfl (by decide) ?_
 refine sx hX rfl rfl rfl rfl rfl rfl (cY rfl rfl rfl (bQ rfl (aD (aC (ak ?_)))))
 refine cg (fun (i : {i : Nat // i ≤ y.moves.length}) => live [(0, Ty.ex (yv l)), (1, Ty.pp [Ty.ex (.pointer (some ⟨b, 0, none⟩))]), (124, Ty.sl cR y.moves), (125, Ty.int .i64 y.moves.length), (126, Ty.int .i64 (i.1 : Nat))] [(7000, Cont.ck (hJ (y.bins.length * (y.D + 1) + i.1))), (4000, Cont.fact (bK y) vs rfl rfl)]) (fun i => y.moves.length - i.1) (⟨0, by omega⟩) ?_ fun i => ?_
 ·(refine dG.mk' ?_ ?_ <;> (repeat' (first | exact aI | exact aJ | refine aB ?_ (Ty.aU _) | refine aB ?_ (Ty.aE _) | refine aF rfl (Cont.aE _) ?_ | refine aF rfl ?_ ?_)))
  all_goals exact H6 hJ (show k.1 * (y.D + 1) = y.bins.length * (y.D + 1) + 0 by rw [show k.1 = y.bins.length by have := k.2; omega]; rfl)
 refine aG (aA (bF rfl rfl rfl (aD (aC (aG ?_)))))
 refine aq rfl (fun hc8 => ?_) (fun hc8 => ?_)
 ·
  refine aj (aC (aG (ak (aG (aA ?_)))))
  refine bH rfl rfl rfl rfl rfl rfl (by omega) ?_
  refine aZ rfl rfl rfl (by exact Nat.le_of_ble_eq_true rfl) ?_
  refine b9 rfl (by exact List.cons_ne_nil _ _) rfl ?_
  refine bp rfl rfl (by decide) rfl rfl rfl rfl rfl rfl ?_
  refine aD (aC (aG ?_))
  have hm := hr.move _ (cL (xs := y.moves) (k := i.1) (by omega))
  refine cW mixed rfl (Ov rfl (aL rfl rfl rfl rfl ?_))
  refine aK rfl rfl rfl rfl rfl (by decide) ?_
  refine aS rfl rfl (by decide) rfl rfl rfl ?_
  refine aK rfl rfl rfl rfl rfl (by decide) ?_
  refine aS rfl rfl (by decide) rfl rfl rfl ?_
  refine dX [7000, 4000] (xH y hr (nth y.moves i.1).src (nth y.moves i.1).day hm.2.1 (by omega)) rfl (aM (qS hX hD rfl rfl rfl rfl) (aM (af (bI rfl rfl)) (aM (af (bI rfl rfl)) bf))) (by exact dL _ _) ?_
  refine aL rfl rfl rfl rfl ?_
  refine aK rfl rfl rfl rfl rfl (by decide) ?_
  refine aS rfl rfl (by decide) rfl rfl rfl ?_
  refine aK rfl rfl rfl rfl rfl (by decide) ?_
  refine aS rfl rfl (by decide) rfl rfl rfl ?_
  refine dX [7000, 4000] (xH y hr (nth y.moves i.1).dst (nth y.moves i.1).day hm.2.2.1 (by omega)) rfl (aM (qS hX hD rfl rfl rfl rfl) (aM (af (bI rfl rfl)) (aM (af (bI rfl rfl)) bf))) (by exact dL _ _) ?_
  refine aK rfl rfl rfl rfl rfl (by decide) ?_
  refine aK rfl rfl rfl rfl rfl (by decide) ?_
  refine aS rfl rfl (by decide) rfl rfl rfl ?_
  refine aK rfl rfl rfl rfl rfl (by decide) ?_
  refine aK rfl rfl rfl rfl rfl (by decide) ?_
  refine aS rfl rfl (by decide) rfl rfl rfl ?_
  refine dB rfl rfl (by exact List.cons_ne_nil _ _) rfl (by repeat (first | exact (aX.nil : aX _ _ [] _) | (show aX _ _ ((_, _) :: _) _; apply aX.one; (· exact (rfl : _ = Ty.int _ _)); (· exact rfl)))) (by exact (rfl : _ = some [_, _, _, _])) ?_
  refine A9 hJ hJx hY rfl rfl rfl rfl rfl (FF (by rw [fG]; omega) (K7 (by omega))) rfl ?_
  refine JN (h1 := hJ _) (hx := hJx) rfl ?_
  refine aD ?_
  refine ⟨by kernel_rfl, ?_⟩
  refine aC ?_
  refine FB (h1 := hJ _) (hx := hJx) rfl ?_ ?_
  ·
   refine av (bJ (aW (aW (bJ ?_))))
   exact Ey rfl rfl
  refine aj (bX (aC (aA ?_)))
  refine cD rfl rfl (by omega) (by omega) ?_
  refine bQ rfl (aD ?_)
  refine bl (⟨i.1 + 1, by omega⟩) ?_ (by show y.moves.length - (i.1 + 1) < y.moves.length - i.1; omega)
  (refine dG.mk' ?_ ?_ <;> (repeat' (first | exact aI | exact aJ | refine aB ?_ (Ty.aU _) | refine aB ?_ (Ty.aE _) | refine aF rfl (Cont.aE _) ?_)))
  all_goals skip
 refine cZ (aQ (aQ (ay rfl ?_)))
 exact HQ (hJ := hJ) (by rw [List.length_map, fG, show i.1 = y.moves.length by have := i.2; omega]) rfl rfl
end Go.Proofs.YtelbollidfdcjaaGreat
namespace Go.T
open Go Go.RowKit
theorem Lm {ρ : List (Nat × Nat)} {a b : Nat} (h : (a, b) ∈ ρ) : Conv ρ (.mp a) (.mp b) := fun _ _ _ _ _ _ hre ⟨k, e, hk⟩ => ⟨k, e, hre.some _ h k hk⟩
def JX {α : Type} (E : El α) : VT (List α) := ⟨fun xs => Ty.sl E xs, fun _ => ⟨rfl, rfl⟩⟩
section
variable {A : As}
theorem Jp {α : Type} {E : El α} {T J : Nat} {xs : List α} {w : World} {M : bB} {v : Value} (wf : Wf w M) (h : HO E T J xs w M v) : m5 E xs w (eS M J) v := by
 rcases h with ⟨rfl, rfl⟩ | ⟨g, off, c, cur, rfl, hg, hh, h1, h2, h3, h4⟩
 ·exact ⟨none, 0, rfl, Nat.le_refl _, by simp [maxLen], fun h => absurd h (by simp)⟩
 refine ⟨_, c, rfl, h1, h2, fun h0 => ⟨g, off, rfl, by simp [eS, hg], wf.lt g _ hg, fun i t hi => ?_⟩⟩
 obtain ⟨u, hu, hdu⟩ := dg h4 i t hi
 refine ⟨u, ?_, t.mono (jS (w := w)) ?_ (fun _ _ h => by cases h) hdu⟩
 ·have hlt : i < xs.length * E.size := by
   have := (List.getElem?_eq_some_iff.1 hu).1
   rw [List.length_take] at this; omega
  rw [List.getElem?_take, if_pos hlt, List.getElem?_drop] at hu
  simpa [World.cell?, hh] using hu
 intro u hu
 have : u ∈ cG (xs.flatMap E.tys) := List.mem_flatMap.2 ⟨t, List.mem_of_getElem? hi, hu⟩
 rw [E.dI] at this; cases this
theorem LG {κ α : Type} [DecidableEq κ] {enc : κ → Value} {E : El α} {T J m : Nat} {q : List (κ × List α)} (hc : A.tag m = some (.mr enc E T J q)) (hne : Nat.beq m J = false) : Ma A J (m, .mp enc (JX E) q) := fun w M wf ht => by
  obtain ⟨_, b, es, clock, h1, h2, h3, h4, _⟩ := ht _ (cw hc)
  have hmj : m ≠ J := fun h => by subst h; simp at hne
  refine ⟨b, by simp [eS, h1, hmj], es, clock, h2, h3, ?_⟩
  have key : ∀ (l : List (κ × List α)) (vs : List Value), cK w M (l.map fun x => Ty.iU E T J x.2) vs → cK w (eS M J) (l.map fun x => (JX E).ty x.2) vs := by
    intro l
    induction l with
    | nil => intro vs h; cases vs with | nil => trivial | cons => cases h
    | cons x l ih =>
      intro vs h
      cases vs with
      | nil => cases h
      | cons v vs => exact ⟨Jp wf h.1, ih vs h.2⟩
  exact key q _ h4
theorem nH {L : List Nat} {l1 l2 : List Ty} (h1 : cG l1 = []) (h2 : bt l1 = []) : sL A L (.pp (l1 ++ l2)) (.pp l1) := fun w M v _ _ ⟨b, off, e, m1, m2, m3⟩ => by
 refine ⟨b, off, e, jT m1, m2, fun i t hi => ?_⟩
 have hl : i < l1.length := (List.getElem?_eq_some_iff.1 hi).1
 obtain ⟨x, hx, hd⟩ := m3 i t (by rw [List.getElem?_append_left hl]; exact hi)
 refine ⟨x, hx, t.mono (S := fun _ => True) (K := fun _ => True) ⟨Nat.le_refl _, rfl, rfl, rfl, fun b _ hm => ⟨jT hm, rfl⟩, fun b t _ h => absurd trivial h⟩ ?_ ?_ hd⟩
 ·intro u hu
  have : u ∈ cG l1 := List.mem_flatMap.2 ⟨t, List.mem_of_getElem? hi, hu⟩
  rw [h1] at this; cases this
 intro u hu
 have : u ∈ bt l1 := List.mem_flatMap.2 ⟨t, List.mem_of_getElem? hi, hu⟩
 rw [h2] at this; cases this
theorem Fu {L : List Nat} {i : Nat} {t : Ty} : ∀ {l l' : List Ty}, n7 A L l l' → l'[i]? = some t → ∃ s, l[i]? = some s ∧ sL A L s t := by
  induction i with
  | zero =>
    intro l l' h e
    match l, l', h with
    | [], [], _ => cases e
    | s :: _, t' :: _, h => injection e with e; subst e; exact ⟨s, rfl, h.1⟩
  | succ i ih =>
    intro l l' h e
    match l, l', h with
    | [], [], _ => cases e
    | _ :: l, _ :: l', h => exact ih (l := l) (l' := l') h.2 e
theorem kZ {L : List Nat} {l l' : List Ty} (h : n7 A L l l') : sL A L (.pp l) (.pp l') := fun w M v wf ht ⟨b, off, e, m1, m2, m3⟩ => by
 refine ⟨b, off, e, jT m1, m2, fun i t hi => ?_⟩
 obtain ⟨s, h1, h2⟩ := Fu h hi
 obtain ⟨x, hx, hd⟩ := m3 i s h1
 exact ⟨x, hx, h2 w M x wf ht hd⟩
end
section
variable {P : Program} {fr : Fr} {A : As} {c : Code} {Q : Exit → Act → World → Prop}
theorem Mt {α : Type} {E : El α} {T J tg s : Nat} {xs : List α} (hs : Nat.blt s fr.n = true) (hc : A.slots s = .row E T tg xs) (h1 : fm tg) (hJ : 4096 ≤ J) (hp : fr.pass.contains tg = false)
    (h : fP P fr c ⟨fun i => bif Nat.beq i s then .iU E T J xs else gN [] [tg] A.slots i, nC [] [tg] A.tags⟩ Q) : fP P fr c A Q := fun a w ⟨M, ok, hsl, ht⟩ => by
  have le : Le (· ∈ ([] : List Nat)) (· ∈ [tg]) w M w (rm M tg J) := CP
  refine h a w ⟨rm M tg J, ⟨IF hJ ok.wf, Fr.jP ok.base (by intro _ h; cases h) (fun t ht => by simp only [List.mem_singleton] at ht; subst ht; exact ⟨h1.1, by simpa using hp⟩) le, ok.size, ok.defers.step (by intro _ h; cases h) (fun t ht => by simp only [List.mem_singleton] at ht; subst ht; exact h1.1) le⟩, fun i hi => ?_, fun x hx => ?_⟩
  · cases hb : Nat.beq i s with
    | false =>
      simp only [hb, cond_false]
      rcases fZ [] [tg] A.slots i with ⟨e, hdj⟩ | ⟨_, e⟩
      · rw [e]; exact (A.slots i).mono le (fN hdj).1 (fN hdj).2 (hsl i hi)
      · rw [e]; trivial
    | true =>
      have his : i = s := Nat.eq_of_beq_eq_true hb
      subst his
      simp only [hb, cond_true]
      have hd := hsl i hi
      rw [hc] at hd
      obtain ⟨vs, hown, hcs, hM⟩ := hd
      rcases hown.2 with ⟨ez, h0⟩ | ⟨g, cap, cur, ez, _, hh, hnc, hcap, hsz, htk⟩
      · exact .inl ⟨List.length_eq_zero_iff.1 h0, ez⟩
      · have hg : M g = some tg := hM g (by rw [ez]; rfl)
        refine .inr ⟨g, 0, cap, cur, ez, by simp [rm, hg], hh, hnc, hcap, by omega, ?_⟩
        rw [List.drop_zero, htk]
        exact cB (CP (w := w)) (by rw [E.dI]; intro _ h; cases h) (by rw [E.cv]; intro _ h; cases h) hcs
  · exact iR le hx fun y hy _ => ht y hy
end
end Go.T
namespace Go.Proofs.YtelbollidfdcjaaGreat
open Go Go.T
set_option maxHeartbeats 8000000
theorem four {vs : List Value} {n : Nat} (h : vs.length = n) (e : n = 4) : ∃ a b c d, vs = [a, b, c, d] := by
  subst e
  match vs, h with
  | [a, b, c, d], _ => exact ⟨a, b, c, d, rfl⟩
def ES (y : ah) : List Ty := [Ty.int .i64 y.days, Ty.sl dO y.bins, Ty.sl cR y.moves, Ty.sl ct y.levels, Ty.ex (.slice none 0 0), Ty.ex (.slice none 0 0)]
def NW (y : ah) (F A : Nat) (fl : List cC) (a : List Int) : List Ty := [Ty.int .i64 y.days, Ty.sl dO y.bins, Ty.sl cR y.moves, Ty.sl ct y.levels, Ty.row dx 187 F fl, Ty.row cS 3 A a]
theorem E4 {fl : List cC} {k : Nat} (h : k < fl.length) : (gl fl).take k ++ [(nth fl k).lo] = (gl fl).take (k + 1) := by
 unfold gl; rw [← List.map_take, ← List.map_take, eG h, List.map_append]; rfl
theorem B4 {y : ah} {fl : List cC} {α : Type} {f : cC → α} : [Ty.int .i64 y.days, Ty.sl dO y.bins, Ty.sl cR y.moves, Ty.sl ct y.levels, Ty.row dx 187 23 (fl.take (fl.map f).length), Ty.row cS 3 31 ((gl fl).take (fl.map f).length)] = NW y 23 31 fl (gl fl) := by
 rw [List.length_map, List.take_of_length_le (Nat.le_refl _), List.take_of_length_le (by unfold gl; rw [List.length_map]; exact Nat.le_refl _)]; rfl
def sR (y : ah) (F A m n : Nat) : List Ty := [Ty.int .i64 y.days, Ty.sl dO y.bins, Ty.sl cR y.moves, Ty.sl ct y.levels, Ty.vs F m, Ty.vs A n]
def eL (y : ah) (fl : List cC) (A n : Nat) : List Ty := [Ty.int .i64 y.days, Ty.sl dO y.bins, Ty.sl cR y.moves, Ty.sl ct y.levels, Ty.sl dx fl, Ty.vs A n]
def mN (y : ah) (fl : List cC) (a : List Int) : List Ty := [Ty.int .i64 y.days, Ty.sl dO y.bins, Ty.sl cR y.moves, Ty.sl ct y.levels, Ty.sl dx fl, Ty.sl cS a]
theorem DE (fl : List cC) : (gl fl).length = fl.length := by unfold gl; rw [List.length_map]
theorem j4 {y : ah} (hr : y.cI) {c : Nat → Bool} : (aP y c).length ≤ 34 := by
 have h1 := hr.bins; have h2 := hr.days; have h3 := D_eq hr; have h4 := hr.moves
 have := Nat.mul_le_mul (show y.bins.length ≤ 4 by omega) (show y.D + 1 ≤ 6 by omega)
 rw [fG]; omega
attribute [local irreducible] aP gl
attribute [local irreducible] iN fQ m5 qc ir iW ij iy iw qY iZ qW dz ga qV gG qd nth fP dh aa dy bodyPost Exit.then Exit.inBlock Code.wp Code.wpIn qh iq qb qU ia dn cU cj bodyPostM eF
set_option maxRecDepth 100000 in
theorem Ic (y : ah) (c8 : List Bool) (hc8 : c8.length = 8) : dn Tryz.prog 173 [1000] [(1000, Cont.cells 185 (ES y))] [Ty.ptr 1000 0, Ty.arr jA c8] [(1000, Cont.cells 185 (ES y))] (Ty.jC 196 [Ty.pp [Ty.ptr 1000 0], Ty.pa jA c8 0]) := by
 refine c6 Tryz.func173 rfl (by decide) Tryz.ntmps173 (by exact Nat.le_of_ble_eq_true rfl) fun w0 M0 => ?_
 refine aG (aA ?_)
 refine gO (ty := Ty.ptr 1000 0) rfl rfl ?_
 refine uM rfl (lB rfl (aD (aC (aG (aA (dP rfl (Oj rfl (aD (aC ?_)))))))))
 refine av ?_
 refine ew [1000] rfl rfl (by decide) (by repeat (first | exact dR | refine c7 rfl (bA (by decide) rfl rfl rfl) ?_)) ?_
 all_goals skip
 all_goals exact eA (tJ (aH (aH bD (aN rfl rfl)) (fE (aH bD (dU (by decide))))))
set_option maxRecDepth 100000 in
theorem rW (y : ah) (hr : y.cI) (c8 : List Bool) (hc8 : c8.length = 8) : dn Tryz.prog 117 [] [] [fI y, Ty.arr jA c8] [(23, Cont.vec dx 187 (aP y (nth c8))), (31, Cont.vec cS 3 (gl (aP y (nth c8))))] (Ty.pp (sR y 23 31 (aP y (nth c8)).length (aP y (nth c8)).length)) := by
 refine rD Tryz.func117 rfl (by decide) Tryz.ntmps117 (by exact Nat.le_of_ble_eq_true rfl) fun w0 M0 => ?_
 have hfl := j4 (c := nth c8) hr
 refine aG (aA (bM rfl (uM rfl (lB rfl (aD (aC (aG (aA ?_))))))))
 refine aZ rfl rfl rfl (by exact Nat.le_of_ble_eq_true rfl) ?_
 refine dB rfl rfl (by exact List.cons_ne_nil _ _) rfl (by repeat (first | exact (aX.nil : aX _ _ [] _) | (show aX _ _ ((_, _) :: _) _; apply aX.agg; (· exact (rfl : _ = Ty.agg _))))) (by exact rfl) ?_
 refine tZ rfl rfl rfl ?_
 refine b9 rfl (by exact List.cons_ne_nil _ _) rfl ?_
 refine cq rfl rfl (by decide) rfl rfl (by exact (rfl : _ = Ty.ptr _ _)) rfl (by exact Nat.le_of_ble_eq_true rfl) rfl rfl (by exact (rfl : _ = [_])) ?_
 refine aD (aC (aG (aG (aA ?_))))
 refine aS rfl rfl (by decide) rfl rfl rfl ?_
 refine vw rfl rfl rfl (by rw [hc8]; rfl) ?_
 refine bk (res' := Ty.jC 196 [Ty.pp [Ty.ptr 10 0], Ty.pa jA c8 0]) [(10, 1000)] [] [(10, Cont.cells 185 (ES y))] (Ic y c8 hc8) rfl rfl (aH (aH bD (aN rfl rfl)) (dU (by exact List.mem_cons_self))) (b8 (a := 10) (b := 1000) (by exact List.mem_cons_self) rfl (bA (by exact List.mem_cons_self) rfl rfl rfl) pre_nil) (bG (a := 10) (b := 1000) (by exact List.mem_cons_self) rfl (bA (by exact List.mem_cons_self) rfl rfl rfl) post_nil) (tJ (aH (aH bD (aN rfl rfl)) (fE (aH bD (dU (by exact List.mem_cons_self)))))) ?_
 refine aD (aC ?_)
 refine Im (D := 10) (Tb := 185) (tys := bK y) (r := [Ty.ex (.slice none 0 0), Ty.ex (.slice none 0 0)]) rfl rfl rfl (by decide) fun vs hvs => ?_
 obtain ⟨v0, v1, v2, v3, rfl⟩ := four hvs rfl
 refine ak ?_
 refine rR (ps := [13]) (lk [(5, Ty.ptr 6 0), (9, Ty.ptr 10 0)]) (fun k => [(6, Cont.cells 152 [Ty.ptr 10 0]), (10, Cont.cells 185 [Ty.ex v0, Ty.ex v1, Ty.ex v2, Ty.ex v3, Ty.row dx 187 23 ((aP y (nth c8)).take k), Ty.row cS 3 31 ((gl (aP y (nth c8))).take k)]), (4000, Cont.fact (bK y) [v0, v1, v2, v3] rfl rfl)]) false [] [6, 10, 4000] rfl rfl ((va y hr c8 hc8 0 10 (by decide) [v0, v1, v2, v3]).1) (Bq (D := 10) (n := 36) (sd := 9) (r := fun k => [Ty.row dx 187 23 ((aP y (nth c8)).take k), Ty.row cS 3 31 ((gl (aP y (nth c8))).take k)]) (fun b => va y hr c8 hc8 b 10 (by decide) [v0, v1, v2, v3]) (by decide) (by decide) rfl (fun k => List.mem_cons_of_mem _ List.mem_cons_self) (List.mem_cons_of_mem _ (List.mem_cons_of_mem _ List.mem_cons_self))) (vM rfl) (vM rfl) (by decide) (by intro t ht; obtain ⟨x, _, rfl⟩ := List.mem_map.1 ht; exact ⟨rfl, rfl, rfl⟩) rfl rfl (fun _ => rfl) rfl ?_ ?_ ?_ (by intro h; cases h)
 ·(refine dG.mk' ?_ ?_ <;> (repeat' (first | exact aI | exact aJ | exact dS | refine aB ?_ (Ty.aU _) | refine aB ?_ (Ty.aE _) | refine aF rfl (Cont.aE _) ?_ | refine aF rfl (Cont.dV ?_) ?_ | refine bu ?_ (Ty.aE _) | refine bu ?_ Ty.kN)))
  all_goals trace_state
 ·intro k tys hk
  obtain ⟨hk1, rfl⟩ := FH hk
  refine ⟨live [(5, Ty.ptr 6 0), (6, Ty.ptr 7 0), (9, Ty.ptr 10 0)] [(6, Cont.cells 152 [Ty.ptr 10 0]), (7, Cont.cells 187 (dx.tys (nth (aP y (nth c8)) k))), (10, Cont.cells 185 [Ty.ex v0, Ty.ex v1, Ty.ex v2, Ty.ex v3, Ty.row dx 187 23 ((aP y (nth c8)).take k), Ty.row cS 3 31 ((gl (aP y (nth c8))).take k)]), (4000, Cont.fact (bK y) [v0, v1, v2, v3] rfl rfl)], fun l w M => ?_, fun l w M => ?_⟩
  ·
   refine aA ?_
   refine b9 rfl (by exact List.cons_ne_nil _ _) rfl ?_
   refine bp rfl rfl (by decide) rfl rfl rfl rfl rfl rfl ?_
   refine aD (fJ ?_)
   (refine dG.mk' ?_ ?_ <;> (repeat' (first | exact aI | exact aJ | refine aB ?_ (Ty.aU _) | refine aB ?_ (Ty.aE _) | refine aF rfl (Cont.aE _) ?_)))
  refine ak ?_
  refine vU (D := 10) (Tb := 185) (tg := 23) [Ty.ex v0, Ty.ex v1, Ty.ex v2, Ty.ex v3] rfl fun v4 => ?_
  refine vU (D := 10) (Tb := 185) (tg := 31) [Ty.ex v0, Ty.ex v1, Ty.ex v2, Ty.ex v3, Ty.ex v4] rfl fun v5 => ?_
  refine cW mixed rfl ?_
  refine aS rfl rfl (by decide) rfl rfl rfl ?_
  refine aS rfl rfl (by decide) rfl rfl rfl ?_
  refine aS rfl rfl (by decide) rfl rfl rfl ?_
  refine cM rfl ?_
  refine aK rfl rfl rfl rfl rfl (by decide) ?_
  refine aS rfl rfl (by decide) rfl rfl rfl ?_
  refine bS rfl rfl (by decide) rfl rfl (by exact Nat.le_of_ble_eq_true rfl) ?_
  refine bw (E := dx) (xs := [_]) rfl rfl rfl rfl rfl (by decide) (by decide) (by repeat (first | exact (aX.nil : aX _ _ [] _) | (show aX _ _ ((_, _) :: _) _; apply aX.agg; (· exact (rfl : _ = Ty.agg _))))) (by exact rfl) rfl ?_
  refine qP (tg := 23) rfl rfl rfl rfl (by decide) rfl rfl rfl rfl rfl rfl (by decide) (by (simp <;> omega)) (by (simp <;> omega)) rfl rfl ?_
  refine aS rfl rfl (by decide) rfl rfl rfl ?_
  refine cM rfl ?_
  refine aK rfl rfl rfl rfl rfl (by decide) ?_
  refine aS rfl rfl (by decide) rfl rfl rfl ?_
  refine aK rfl rfl rfl rfl rfl (by decide) ?_
  refine aS rfl rfl (by decide) rfl rfl rfl ?_
  refine bw (E := cS) (xs := [_]) rfl rfl rfl rfl rfl (by decide) (by decide) (by repeat (first | exact (aX.nil : aX _ _ [] _) | (show aX _ _ ((_, _) :: _) _; apply aX.one; (· exact (rfl : _ = Ty.int _ _)); (· exact rfl)))) (by exact rfl) rfl ?_
  refine qP (tg := 31) rfl rfl rfl rfl (by decide) rfl rfl rfl rfl rfl rfl (by decide) (by (simp <;> omega)) (by (simp <;> omega)) rfl rfl ?_
  refine cM rfl ?_
  refine aK rfl rfl rfl rfl rfl (by decide) ?_
  refine cq rfl rfl (by decide) rfl rfl (by exact (rfl : _ = Ty.row _ _ _ _)) rfl (by exact Nat.le_of_ble_eq_true rfl) rfl rfl (by exact rfl) ?_
  refine cM rfl ?_
  refine aK rfl rfl rfl rfl rfl (by decide) ?_
  refine cq rfl rfl (by decide) rfl rfl (by exact (rfl : _ = Ty.row _ _ _ _)) rfl (by exact Nat.le_of_ble_eq_true rfl) rfl rfl (by exact rfl) ?_
  refine aD ?_
  refine ⟨by kernel_rfl, ?_⟩
  refine bX (B1 ?_)
  (refine dG.mk' ?_ ?_ <;> (repeat' (first | exact aI | exact aJ | exact dS | refine aB ?_ (Ty.aU _) | refine aF rfl (Cont.aE _) ?_ | refine aF rfl (Cont.dV ?_) ?_ | refine bu ?_ (Ty.aE _) | refine bu ?_ ?_)))
  all_goals first | exact Ty.gL (eG hk1).symm | exact Ty.gL (E4 hk1)
 refine bX (aC (aG ?_))
 refine CI (D := 10) (Tb := 185) (vs := [v0, v1, v2, v3]) (tys := bK y) (r := [Ty.row dx 187 23 ((aP y (nth c8)).take ((aP y (nth c8)).map jq).length), Ty.row cS 3 31 ((gl (aP y (nth c8))).take ((aP y (nth c8)).map jq).length)]) rfl rfl ?_
 refine fV (tg := 10) rfl (Cont.jz (T := 185) (B4 (y := y) (fl := aP y (nth c8)) (f := jq))) ?_
 refine gW (c0 := 10) (tg := 23) 4 rfl rfl ?_
 refine gW (c0 := 10) (tg := 31) 5 rfl rfl ?_
 refine fV (tg := 10) rfl (Cont.dY (l' := sR y 23 31 (aP y (nth c8)).length (aP y (nth c8)).length) ⟨Ty.aE _, Ty.aE _, Ty.aE _, Ty.aE _, Ty.mF rfl, Ty.mF (DE _), trivial⟩) ?_
 refine iX (tg := 10) [] [(6, Cont.cells 152 [Ty.pp (sR y 23 31 (aP y (nth c8)).length (aP y (nth c8)).length)])] (by decide) rfl trivial ⟨eP rfl rfl ⟨yl rfl rfl (by decide), trivial⟩, trivial⟩ ?_
 refine aA ?_
 refine aS rfl rfl (by decide) rfl rfl rfl ?_
 refine Kq rfl (aD (aC (av (Hl rfl ?_))))
 refine ew [23, 31] rfl rfl (by decide) (by repeat (first | exact dR | refine c7 rfl (bW (by decide) rfl) ?_)) ?_
 all_goals skip
 all_goals exact eA (fE (aH (aH (aH (aH (aH (aH bD (dj (by decide))) (dj (by decide))) (aN rfl rfl)) (aN rfl rfl)) (aN rfl rfl)) (aN rfl rfl)))
end Go.Proofs.YtelbollidfdcjaaGreat
namespace Go.Proofs.YtelbollidfdcjaaGreat
open Go Go.T
section
variable {fl : List cC} {a : List Int} {n k : Nat} {c : Int} {w : Way}
abbrev WQ : Type := List (Int × List Way)
def oS (q : WQ) (c : Int) : List Way := (e9 q c).getD []
def Fh (q : WQ) (c : Int) (w : Way) : WQ := gk q c (oS q c ++ [w])
theorem Bm (q : WQ) (c c' : Int) (w : Way) : oS (Fh q c w) c' = oS q c' ++ (if c = c' then [w] else []) := by
 unfold Fh
 show (e9 (gk _ _ _) c').getD [] = _
 rw [yf]
 by_cases e : c = c'
 ·subst e; rw [if_pos rfl, if_pos rfl]; rfl
 rw [if_neg e, if_neg e, List.append_nil]; rfl
def nA (fl : List cC) (a : List Int) (q : WQ) (k : Nat) : WQ := if nth a k < (nth fl k).hi then Fh q (nth fl k).src ⟨k, true⟩ else q
def eW (fl : List cC) (a : List Int) : Nat → WQ
  | 0 => []
  | k + 1 => if nth a k > (nth fl k).lo then Fh (nA fl a (eW fl a k) k) (nth fl k).dst ⟨k, false⟩ else nA fl a (eW fl a k) k
theorem GW (fl : List cC) (a : List Int) : ([] : WQ) = eW fl a 0 := rfl
theorem IJ {q : WQ} (h : ¬ nth a k < (nth fl k).hi) : q = nA fl a q k := (if_neg h).symm
theorem Iz (h : ¬ nth a k > (nth fl k).lo) : nA fl a (eW fl a k) k = eW fl a (k + 1) := (if_neg h).symm
theorem uA {q : WQ} : oS (nA fl a q k) c = oS q c ++ (if nth a k < (nth fl k).hi ∧ (nth fl k).src = c then [⟨k, true⟩] else []) := by
 unfold nA
 by_cases h : nth a k < (nth fl k).hi
 ·rw [if_pos h, Bm]
  by_cases e : (nth fl k).src = c
  ·rw [if_pos e, if_pos ⟨h, e⟩]
  rw [if_neg e, if_neg fun h => e h.2]
 rw [if_neg h, if_neg fun h' => h h'.1, List.append_nil]
theorem tU : ∀ k, oS (eW fl a k) c = (List.range k).flatMap (Ca fl a c)
  | 0 => rfl
  | k + 1 => by
    rw [List.range_succ, List.flatMap_append, List.flatMap_singleton, ← tU k]
    show oS (if _ then _ else _) c = _
    unfold Ca
    by_cases h : nth a k > (nth fl k).lo
    · rw [if_pos h, Bm, uA, List.append_assoc]
      congr 2
      by_cases e : (nth fl k).dst = c
      · rw [if_pos e, if_pos ⟨h, e⟩]
      · rw [if_neg e, if_neg fun h => e h.2]
    · rw [if_neg h, uA, if_neg (c := _ ∧ (nth fl k).dst = c) (fun h' => h h'.1), List.append_nil]
theorem rX : oS (eW fl a fl.length) c = bO fl a c := tU _
theorem yq (k : Nat) : (oS (eW fl a k) c).length ≤ 2 * k := by
  rw [tU]
  have key : ∀ n, ((List.range n).flatMap (Ca fl a c)).length ≤ 2 * n := by
    intro n
    induction n with
    | zero => simp
    | succ n ih => rw [List.range_succ, List.flatMap_append, List.length_append, List.flatMap_singleton]; have := B3 (fl := fl) (a := a) (c := c) n; omega
  exact key k
theorem FV : (oS (nA fl a (eW fl a k) k) c).length ≤ 2 * k + 1 := by
 rw [uA, List.length_append]
 have := yq (fl := fl) (a := a) (c := c) k
 split <;> simp <;> omega
def pE (fl : List cC) (a : List Int) (k : Nat) (c : Int) : Int := cy (fun i => (ind ((nth fl i).dst = c) - ind ((nth fl i).src = c)) * nth a i) k
def fB (fl : List cC) (a : List Int) (n k : Nat) : List Int := (List.range n).map fun c => pE fl a k (c : Nat)
theorem j9 : (fB fl a n k).length = n := by unfold fB; rw [List.length_map, List.length_range]
theorem jN {c : Nat} (h : c < n) : nth (fB fl a n k) c = pE fl a k c := gM _ h
theorem Dm : fB fl a n fl.length = gR fl a n := rfl
theorem Cc {l l' : List Int} (h : l.length = l'.length) (h' : ∀ i, i < l.length → nth l i = nth l' i) : l = l' := by
 refine List.ext_getElem h fun i h1 h2 => ?_
 have := h' i h1
 unfold nth at this
 rw [List.getD_eq_getElem?_getD, List.getD_eq_getElem?_getD, List.getElem?_eq_getElem h1, List.getElem?_eq_getElem h2] at this
 exact this
def oP (fl : List cC) (a : List Int) (l : List Int) (k : Nat) : List Int := l.set (nth fl k).src.toNat (nth l (nth fl k).src.toNat - nth a k)
theorem CV (hs : 0 ≤ (nth fl k).src ∧ (nth fl k).src < n) (hd : 0 ≤ (nth fl k).dst ∧ (nth fl k).dst < n) :
 (oP fl a (fB fl a n k) k).set (nth fl k).dst.toNat (nth (oP fl a (fB fl a n k) k) (nth fl k).dst.toNat + nth a k) = fB fl a n (k + 1) := by
 have hS : ∀ c, c < n → nth (oP fl a (fB fl a n k) k) c = pE fl a k c - ind ((nth fl k).src = (c : Int)) * nth a k := fun c hc => by
  unfold oP
  rw [jf (by rw [j9]; exact hc)]
  by_cases e : (nth fl k).src.toNat = c
  ·rw [if_pos e, e, jN hc, fR (by omega), Int.one_mul]
  rw [if_neg e, jN hc, fH (by omega), Int.zero_mul, Int.sub_zero]
 have hl : (oP fl a (fB fl a n k) k).length = n := by unfold oP; rw [List.length_set, j9]
 refine Cc (by rw [List.length_set, hl, j9]) fun c hc => ?_
 rw [List.length_set, hl] at hc
 rw [jf (by rw [hl]; exact hc), jN hc]
 show _ = pE fl a k c + (ind ((nth fl k).dst = (c : Int)) - ind ((nth fl k).src = (c : Int))) * nth a k
 rw [Int.sub_mul]
 by_cases e : (nth fl k).dst.toNat = c
 ·rw [if_pos e, e, hS c hc, fR (p := (nth fl k).dst = (c : Int)) (by omega), Int.one_mul]; omega
 rw [if_neg e, hS c hc, fH (p := (nth fl k).dst = (c : Int)) (by omega), Int.zero_mul]; omega
theorem FW (fl : List cC) (a l : List Int) (k : Nat) : (oP fl a l k).length = l.length := List.length_set
theorem FN (fl : List cC) (a : List Int) (n : Nat) : List.replicate (((n : Nat) : Int)).toNat 0 = fB fl a n 0 := by
 rw [Int.toNat_natCast]
 refine Cc (by rw [List.length_replicate, j9]) fun i hi => ?_
 rw [List.length_replicate] at hi
 rw [jN hi, AV _ _ _ hi]; rfl
theorem GH {c : Nat} (h : ∀ c : Int, -(300 * (k : Int)) ≤ pE fl a k c ∧ pE fl a k c ≤ 300 * k) (ha : 0 ≤ nth a k ∧ nth a k ≤ 300) (hc : c < n) (hs : (nth fl k).src.toNat < n) : -(300 * (k : Int) + 300) ≤ nth (oP fl a (fB fl a n k) k) c ∧ nth (oP fl a (fB fl a n k) k) c ≤ 300 * k := by
 unfold oP
 rw [jf (by rw [j9]; exact hc)]
 split
 ·rw [jN hs]; have := h ((nth fl k).src.toNat : Nat); omega
 rw [jN hc]; have := h (c : Nat); omega
theorem y8 (ha : ∀ i, i < k → 0 ≤ nth a i ∧ nth a i ≤ 300) : -(300 * (k : Int)) ≤ pE fl a k c ∧ pE fl a k c ≤ 300 * k := by
 refine rY (b := 300) fun i hi => ?_
 have := ha i hi
 unfold ind
 split <;> split <;> simp <;> omega
end
end Go.Proofs.YtelbollidfdcjaaGreat
namespace Go.Proofs.YtelbollidfdcjaaGreat
open Go Go.T
set_option maxHeartbeats 8000000
section
variable {fl : List cC} {a : List Int} {n : Nat} {w : Way}
theorem LB (h : w.more = true) : (nth fl w.ix).src = w.gq fl := (if_pos h).symm
theorem NR (h : w.more = false) : (nth fl w.ix).dst = w.gq fl := (if_neg (by rw [h]; decide)).symm
theorem Ei (h : w.more = true) : (nth fl w.ix).dst = w.fin fl ∧ (nth fl w.ix).hi - nth a w.ix = w.room fl a := ⟨(if_pos h).symm, (if_pos h).symm⟩
theorem Jd (h : w.more = false) : (nth fl w.ix).src = w.fin fl ∧ nth a w.ix - (nth fl w.ix).lo = w.room fl a := ⟨(if_neg (by rw [h]; decide)).symm, (if_neg (by rw [h]; decide)).symm⟩
structure mC (y : ah) (fl : List cC) (a : List Int) : Prop where
  right : y.cI
  net : Net fl (y.cells + 1)
  bd : Bd fl
  inb : yE fl a
  pT : fl.length ≤ 34
theorem mC.Mm {y : ah} (h : mC y fl a) {i : Nat} (hi : i < fl.length) : (0 ≤ nth a i ∧ nth a i ≤ 300) ∧ (0 ≤ (nth fl i).lo ∧ (nth fl i).lo ≤ 300) ∧ 0 ≤ (nth fl i).hi ∧ (nth fl i).hi ≤ 300 := by
 have h1 := h.bd i hi
 have h2 := h.inb.2 i hi
 omega
theorem Nq {l : List Way} {k : Nat} {d : Int} (hk : k < l.length) (hm : (nth l k).more = true) : (eH a (l.take k) d).set (nth l k).ix (nth (eH a (l.take k) d) (nth l k).ix + d) = eH a (l.take (k + 1)) d := by
 rw [eG hk, rC]; unfold k8 xy; rw [hm]; rfl
theorem OK {l : List Way} {k : Nat} {d : Int} (hk : k < l.length) (hm : (nth l k).more = false) : (eH a (l.take k) d).set (nth l k).ix (nth (eH a (l.take k) d) (nth l k).ix - d) = eH a (l.take (k + 1)) d := by
 rw [eG hk, rC]; unfold k8 xy; rw [hm]; rfl
theorem zK {l : List Way} {d : Int} (hd : 0 ≤ d ∧ d ≤ 20000) (ha : ∀ i, -300 ≤ nth a i ∧ nth a i ≤ 300) (hw : ∀ w ∈ l, w.ix < a.length) : ∀ k, k ≤ l.length → ∀ i, -(20000 * ((k : Int) + 1)) ≤ nth (eH a (l.take k) d) i ∧ nth (eH a (l.take k) d) i ≤ 20000 * ((k : Int) + 1)
  | 0, _, i => by rw [List.take_zero]; have := ha i; show _ ≤ nth a i ∧ nth a i ≤ _; omega
  | k + 1, hk, i => by
    have ih := zK hd ha hw k (by omega) i
    rw [eG (by omega), rC, kG (by rw [uJ]; exact hw _ (cL (by omega)))]
    split
    · unfold xy; split <;> omega
    · omega
theorem C5 (a : List Int) (l : List Way) (d : Int) : a = eH a (l.take 0) d := rfl
theorem Ke {l : List Int} {i : Nat} (h : l.length ≤ i) : nth l i = 0 := by
 unfold nth; rw [List.getD_eq_getElem?_getD, List.getElem?_eq_none h]; rfl
theorem mC.abs {y : ah} (h : mC y fl a) (i : Nat) : -300 ≤ nth a i ∧ nth a i ≤ 300 := by
 by_cases c : i < fl.length
 ·have := (h.Mm c).1; omega
 rw [Ke (by rw [h.inb.1]; omega)]; omega
end
theorem oG : mapOf Tryz.prog 227 = some (3, 222) := by kernel_rfl
theorem vo : zeroOf Tryz.prog 222 = some (.slice none 0 0) := by kernel_rfl
def KI : yB Tryz.prog 3 Int := NK Tryz.prog 3 .i64 Tryz.underlying3
theorem vJ (n : Int) : uf (Ty.int .i64 n) (KI.enc n) := LD
attribute [local irreducible] aP gl Way.gq Way.fin Way.room eW nA Fh eH fB pE
attribute [local irreducible] iN fQ m5 qc ir iW ij iy iw qY iZ qW dz ga qV gG qd nth fP dh aa dy bodyPost Exit.then Exit.inBlock Code.wp Code.wpIn qh iq qb qU ia dn cU cj bodyPostM eF
set_option maxRecDepth 100000 in
theorem Az (y : ah) (fl : List cC) (a : List Int) (w : Way) (hw : w.ix < fl.length) : dy Tryz.prog 181 [Ty.pp (mN y fl a), Ty.agg (fq.tys w)] (Ty.int .i64 (w.gq fl)) := by
 refine bC Tryz.func181 rfl (by decide) Tryz.ntmps181 (by exact Nat.le_of_ble_eq_true rfl) fun w0 M0 => ?_
 refine aG (aA (bM rfl (cE rfl (aD (aC (aG (aG (aA ?_))))))))
 refine aO rfl rfl rfl rfl rfl (by decide) ?_
 refine aL rfl rfl rfl rfl (aD (aC ?_))
 refine cx rfl (fun hc1 => ?_) (fun hc1 => ?_)
 ·
  refine aG (cW mixed rfl (jt rfl (cA rfl ?_)))
  refine aO rfl rfl rfl rfl rfl (by decide) ?_
  refine aL rfl rfl rfl rfl ?_
  refine aO rfl rfl rfl rfl rfl (by decide) ?_
  refine aL rfl rfl rfl rfl ?_
  refine bH rfl rfl rfl rfl rfl rfl (by omega) ?_
  refine aO rfl rfl rfl rfl rfl (by decide) ?_
  refine aL rfl rfl rfl rfl (cE rfl (aD ?_))
  refine ⟨by kernel_rfl, ?_⟩
  refine aC (av (aW (bz rfl rfl ?_)))
  all_goals skip
  all_goals exact bE rfl rfl (congrArg (Ty.int .i64) (LB hc1))
 refine aj (aC (aG (cW mixed rfl (jt rfl (cA rfl ?_)))))
 refine aO rfl rfl rfl rfl rfl (by decide) ?_
 refine aL rfl rfl rfl rfl ?_
 refine aO rfl rfl rfl rfl rfl (by decide) ?_
 refine aL rfl rfl rfl rfl ?_
 refine bH rfl rfl rfl rfl rfl rfl (by omega) ?_
 refine aO rfl rfl rfl rfl rfl (by decide) ?_
 refine aL rfl rfl rfl rfl (cE rfl (aD ?_))
 refine ⟨by kernel_rfl, ?_⟩
 refine aC (av (bz rfl rfl ?_))
 all_goals skip
 all_goals exact bE rfl rfl (congrArg (Ty.int .i64) (NR hc1))
set_option maxRecDepth 100000 in
theorem EH (y : ah) (fl : List cC) (a : List Int) (h : mC y fl a) (w : Way) (hw : w.ix < fl.length) : dy Tryz.prog 182 [Ty.pp (mN y fl a), Ty.agg (fq.tys w)] (Ty.ju [Ty.int .i64 (w.fin fl), Ty.int .i64 (w.room fl a)]) := by
 refine bC Tryz.func182 rfl (by decide) Tryz.ntmps182 (by exact Nat.le_of_ble_eq_true rfl) fun w0 M0 => ?_
 have hl := h.inb.1
 have hb := h.Mm hw
 refine aG (aA (bM rfl (cE rfl (cE rfl (aD (aC (aG (cW mixed rfl (jt rfl ?_)))))))))
 refine cA rfl ?_
 refine aO rfl rfl rfl rfl rfl (by decide) ?_
 refine aL rfl rfl rfl rfl ?_
 refine aO rfl rfl rfl rfl rfl (by decide) ?_
 refine aL rfl rfl rfl rfl ?_
 refine bH rfl rfl rfl rfl rfl rfl (by omega) ?_
 refine aZ rfl rfl rfl (by exact Nat.le_of_ble_eq_true rfl) ?_
 refine b9 rfl (by exact List.cons_ne_nil _ _) rfl ?_
 refine bp rfl rfl (by decide) rfl rfl rfl rfl rfl rfl ?_
 refine aD ?_
 refine ⟨by kernel_rfl, ?_⟩
 refine aC (aG (aG (aA ?_)))
 refine aO rfl rfl rfl rfl rfl (by decide) ?_
 refine aL rfl rfl rfl rfl (aD (aC ?_))
 refine cx rfl (fun hc1 => ?_) (fun hc1 => ?_)
 ·
  refine aG (cW mixed rfl ?_)
  refine aK rfl rfl rfl rfl rfl (by decide) ?_
  refine aS rfl rfl (by decide) rfl rfl rfl ?_
  refine aK rfl rfl rfl rfl rfl (by decide) ?_
  refine aS rfl rfl (by decide) rfl rfl rfl ?_
  refine jt rfl (cA rfl ?_)
  refine aO rfl rfl rfl rfl rfl (by decide) ?_
  refine aL rfl rfl rfl rfl ?_
  refine aO rfl rfl rfl rfl rfl (by decide) ?_
  refine aL rfl rfl rfl rfl ?_
  refine bH rfl rfl rfl rfl rfl rfl (by omega) ?_
  refine aL rfl rfl rfl rfl ?_
  refine iB rfl rfl (by omega) (by omega) ?_
  refine cE rfl (cE rfl (aD ?_))
  refine ⟨by kernel_rfl, ?_⟩
  refine aC (av (aW ?_))
  refine fj rfl rfl rfl ?_ ?_
  all_goals skip
  all_goals first | exact bE rfl rfl (congrArg (Ty.int .i64) (Ei (a := a) hc1).1) | exact bE rfl rfl (congrArg (Ty.int .i64) (Ei (a := a) hc1).2)
 refine aj (aC (aG (cW mixed rfl ?_)))
 refine aK rfl rfl rfl rfl rfl (by decide) ?_
 refine aS rfl rfl (by decide) rfl rfl rfl ?_
 refine jt rfl (cA rfl ?_)
 refine aO rfl rfl rfl rfl rfl (by decide) ?_
 refine aL rfl rfl rfl rfl ?_
 refine aO rfl rfl rfl rfl rfl (by decide) ?_
 refine aL rfl rfl rfl rfl ?_
 refine bH rfl rfl rfl rfl rfl rfl (by omega) ?_
 refine aL rfl rfl rfl rfl ?_
 refine aK rfl rfl rfl rfl rfl (by decide) ?_
 refine aS rfl rfl (by decide) rfl rfl rfl ?_
 refine iB rfl rfl (by omega) (by omega) ?_
 refine cE rfl (cE rfl (aD ?_))
 refine ⟨by kernel_rfl, ?_⟩
 refine aC (av ?_)
 refine fj rfl rfl rfl ?_ ?_
 all_goals skip
 all_goals first | exact bE rfl rfl (congrArg (Ty.int .i64) (Jd (a := a) hc1).1) | exact bE rfl rfl (congrArg (Ty.int .i64) (Jd (a := a) hc1).2)
set_option maxRecDepth 100000 in
theorem HL (y : ah) (fl : List cC) (a : List Int) (h : mC y fl a) (l : List Way) (hl : l.length ≤ 100) (hw : ∀ w ∈ l, w.ix < fl.length) (d : Int) (hd : 0 ≤ d ∧ d ≤ 20000) : dn Tryz.prog 183 [1000] [(1000, Cont.vec cS 3 a)] [Ty.pp (eL y fl 1000 fl.length), Ty.sl fq l, Ty.int .i64 d] [(1000, Cont.vec cS 3 (eH a l d))] (Ty.ju []) := by
 refine c6 Tryz.func183 rfl (by decide) Tryz.ntmps183 (by exact Nat.le_of_ble_eq_true rfl) fun w0 M0 => ?_
 have hal := h.inb.1
 refine aG (aA (fU rfl (cY rfl rfl rfl (bQ rfl (aD (aC (ak ?_)))))))
 refine cg (fun (k : {k : Nat // k ≤ l.length}) => live [(0, Ty.pp (eL y fl 1000 fl.length)), (2, Ty.int .i64 d), (8, Ty.sl fq l), (9, Ty.int .i64 l.length), (10, Ty.int .i64 (k.1 : Nat))] [(1000, Cont.vec cS 3 (eH a (l.take k.1) d))]) (fun k => l.length - k.1) (⟨0, by omega⟩) ?_ fun k => ?_
 ·(refine dG.mk' ?_ ?_ <;> (repeat' (first | exact aI | exact aJ | refine aB ?_ (Ty.aU _) | refine aB ?_ (Ty.aE _) | refine aF rfl ?_ ?_)))
  all_goals exact Cont.dW (C5 _ _ _)
 have hsl := uJ d (l.take k.1) a
 have hk := k.2
 have hsa := zK hd h.abs (fun w hw' => by rw [hal]; exact hw w hw') k.1 k.2
 refine aG (aA (bF rfl rfl rfl (aD (aC (aG ?_)))))
 refine aq rfl (fun hc1 => ?_) (fun hc1 => ?_)
 ·
  refine aj (aC (aG (ak (aG ?_))))
  have hwk := hw _ (cL (xs := l) (k := k.1) (by omega))
  have hsk := hsa (nth l k.1).ix
  refine aA ?_
  refine bH rfl rfl rfl rfl rfl rfl (by omega) ?_
  refine aZ rfl rfl rfl (by exact Nat.le_of_ble_eq_true rfl) ?_
  refine b9 rfl (by exact List.cons_ne_nil _ _) rfl ?_
  refine bp rfl rfl (by decide) rfl rfl rfl rfl rfl rfl ?_
  refine aD (aC (aG (aA ?_)))
  refine aK rfl rfl rfl rfl rfl (by decide) ?_
  refine aS rfl rfl (by decide) rfl rfl rfl ?_
  refine aD (aC ?_)
  refine cx rfl (fun hc2 => ?_) (fun hc2 => ?_)
  ·
   refine cW mixed rfl (jt rfl (cA rfl ?_))
   refine aO rfl rfl rfl rfl rfl (by decide) ?_
   refine aL rfl rfl rfl rfl ?_
   refine aK rfl rfl rfl rfl rfl (by decide) ?_
   refine aS rfl rfl (by decide) rfl rfl rfl ?_
   refine eR rfl rfl rfl rfl rfl (by omega) ?_
   refine fA rfl rfl rfl (by decide) rfl rfl (by omega) rfl ?_
   refine bQ rfl ?_
   refine cD rfl rfl (by omega) (by omega) ?_
   refine eR rfl rfl rfl rfl rfl (by omega) ?_
   refine je rfl rfl rfl (by decide) rfl rfl (by exact (rfl : _ = Ty.int _ _)) rfl (by omega) (by decide) rfl rfl ?_
   refine aD ?_
   refine ⟨by kernel_rfl, ?_⟩
   refine bX (aC (aA ?_))
   refine cD rfl rfl (by omega) (by omega) ?_
   refine bQ rfl (aD ?_)
   refine bl (⟨k.1 + 1, by omega⟩) ?_ (by show l.length - (k.1 + 1) < l.length - k.1; omega)
   (refine dG.mk' ?_ ?_ <;> (repeat' (first | exact aI | exact aJ | refine aB ?_ (Ty.aU _) | refine aB ?_ (Ty.aE _) | refine aF rfl ?_ ?_)))
   all_goals skip
   all_goals exact Cont.dW (Nq (by omega) hc2)
  refine cW mixed rfl (jt rfl (cA rfl ?_))
  refine aO rfl rfl rfl rfl rfl (by decide) ?_
  refine aL rfl rfl rfl rfl ?_
  refine aK rfl rfl rfl rfl rfl (by decide) ?_
  refine aS rfl rfl (by decide) rfl rfl rfl ?_
  refine eR rfl rfl rfl rfl rfl (by omega) ?_
  refine fA rfl rfl rfl (by decide) rfl rfl (by omega) rfl ?_
  refine bQ rfl ?_
  refine iB rfl rfl (by omega) (by omega) ?_
  refine eR rfl rfl rfl rfl rfl (by omega) ?_
  refine je rfl rfl rfl (by decide) rfl rfl (by exact (rfl : _ = Ty.int _ _)) rfl (by omega) (by decide) rfl rfl ?_
  refine aD ?_
  refine ⟨by kernel_rfl, ?_⟩
  refine bX (aC (aA ?_))
  refine cD rfl rfl (by omega) (by omega) ?_
  refine bQ rfl (aD ?_)
  refine bl (⟨k.1 + 1, by omega⟩) ?_ (by show l.length - (k.1 + 1) < l.length - k.1; omega)
  (refine dG.mk' ?_ ?_ <;> (repeat' (first | exact aI | exact aJ | refine aB ?_ (Ty.aU _) | refine aB ?_ (Ty.aE _) | refine aF rfl ?_ ?_)))
  all_goals skip
  all_goals exact Cont.dW (OK (by omega) hc2)
 refine cZ (aQ (aQ (ay rfl (OB ?_))))
 refine NF [1000] rfl (by decide) ?_
 ·exact c7 rfl (bW (by decide) (by rw [List.take_of_length_le (by have := k.2; omega)])) dR
set_option maxRecDepth 100000 in
theorem L9 (y : ah) (fl : List cC) (a : List Int) (h : mC y fl a) : dn Tryz.prog 178 [1000] [(1000, Cont.vec cS 3 a)] [Ty.pp (eL y fl 1000 fl.length)] [(1000, Cont.vec cS 3 a)] (Ty.sl cS (gR fl a (y.cells + 1))) := by
 refine c6 Tryz.func178 rfl (by decide) Tryz.ntmps178 (by exact Nat.le_of_ble_eq_true rfl) fun w0 M0 => ?_
 have hal := h.inb.1
 have hcl := nR h.right
 have hfl := h.pT
 refine aG (aA (lB rfl (aD (aC (aG (aA (jt rfl ?_)))))))
 refine dX [] (sG y h.right) rfl (aM (nH (l1 := bK y) (l2 := [Ty.sl dx fl, Ty.vs 1000 fl.length]) rfl rfl) bf) (by exact dL _ _) ?_
 refine cD rfl rfl (by omega) (by omega) ?_
 refine An (E := cS) (x0 := 0) rfl rfl rfl rfl rfl rfl rfl (by decide) rfl (by omega) (by (dsimp only; omega)) (by omega) ?_
 refine Od rfl (aD (aC (aG (aG (aA (jt rfl (cA rfl ?_)))))))
 refine aO rfl rfl rfl rfl rfl (by decide) ?_
 refine aL rfl rfl rfl rfl (cY rfl rfl rfl (bQ rfl (aD (aC (ak ?_)))))
 refine cg (fun (k : {k : Nat // k ≤ fl.length}) => live [(0, Ty.pp (eL y fl 1000 fl.length)), (3, Ty.vs 10 (y.cells + 1)), (13, Ty.sl dx fl), (14, Ty.int .i64 fl.length), (15, Ty.int .i64 (k.1 : Nat))] [(1000, Cont.vec cS 3 a), (10, Cont.vec cS 3 (fB fl a (y.cells + 1) k.1))]) (fun k => fl.length - k.1) (⟨0, by omega⟩) ?_ fun k => ?_
 ·(refine dG.mk' ?_ ?_ <;> (repeat' (first | exact aI | exact aJ | refine aB ?_ (Ty.aU _) | refine aB ?_ (Ty.aE _) | refine aF rfl (Cont.aE _) ?_ | refine aF rfl ?_ ?_)))
  all_goals exact Cont.dW (FN _ _ _)
 have hk := k.2
 have hul := j9 (fl := fl) (a := a) (n := y.cells + 1) (k := k.1)
 refine aG (aA (bF rfl rfl rfl (aD (aC (aG ?_)))))
 refine aq rfl (fun hc1 => ?_) (fun hc1 => ?_)
 ·
  refine aj (aC (aG (ak (aG (aA (bQ rfl ?_))))))
  refine bH rfl rfl rfl rfl rfl rfl (by omega) ?_
  refine aZ rfl rfl rfl (by exact Nat.le_of_ble_eq_true rfl) ?_
  refine b9 rfl (by exact List.cons_ne_nil _ _) rfl ?_
  refine cE rfl ?_
  refine bp rfl rfl (by decide) rfl rfl rfl rfl rfl rfl ?_
  refine aD (aC (aG ?_))
  have hs := h.net.src k.1 (by omega)
  have hd := h.net.dst k.1 (by omega)
  have hamt := (h.Mm (show k.1 < fl.length by omega)).1
  have habs := fun c => y8 (fl := fl) (a := a) (c := c) (k := k.1) fun i hi => (h.Mm (show i < fl.length by omega)).1
  have hn1 := jN (fl := fl) (a := a) (n := y.cells + 1) (k := k.1) (c := (nth fl k.1).src.toNat) (by omega)
  have hb1 := habs ((nth fl k.1).src.toNat : Nat)
  refine cW mixed rfl (Jf rfl ?_)
  refine aK rfl rfl rfl rfl rfl (by decide) ?_
  refine aS rfl rfl (by decide) rfl rfl rfl ?_
  refine fK rfl rfl rfl rfl rfl hs.1 (by omega) ?_
  refine fA rfl rfl rfl (by decide) rfl rfl (by omega) rfl ?_
  refine jt rfl (cA rfl ?_)
  refine aO rfl rfl rfl rfl rfl (by decide) ?_
  refine aL rfl rfl rfl rfl (bQ rfl ?_)
  refine eR rfl rfl rfl rfl rfl (by omega) ?_
  refine fA rfl rfl rfl (by decide) rfl rfl (by omega) rfl ?_
  refine iB rfl rfl (by omega) (by omega) ?_
  refine fK rfl rfl rfl rfl rfl hs.1 (by omega) ?_
  refine je rfl rfl rfl (by decide) rfl rfl (by exact (rfl : _ = Ty.int _ _)) rfl (by omega) (by decide) rfl rfl ?_
  refine aD ?_
  refine ⟨by kernel_rfl, ?_⟩
  refine aC ?_
  have hsl : (oP fl a (fB fl a (y.cells + 1) k.1) k.1).length = y.cells + 1 := (FW _ _ _ _).trans hul
  have hb2 := GH (fl := fl) (a := a) (n := y.cells + 1) (k := k.1) (c := (nth fl k.1).dst.toNat) habs hamt (by omega) (by omega)
  unfold oP at hb2 hsl
  refine cW mixed rfl (Jf rfl ?_)
  refine aK rfl rfl rfl rfl rfl (by decide) ?_
  refine aS rfl rfl (by decide) rfl rfl rfl ?_
  refine fK rfl rfl rfl rfl rfl hd.1 (by omega) ?_
  refine fA rfl rfl rfl (by decide) rfl rfl (by omega) rfl ?_
  refine jt rfl (cA rfl ?_)
  refine aO rfl rfl rfl rfl rfl (by decide) ?_
  refine aL rfl rfl rfl rfl (bQ rfl ?_)
  refine eR rfl rfl rfl rfl rfl (by omega) ?_
  refine fA rfl rfl rfl (by decide) rfl rfl (by omega) rfl ?_
  refine cD rfl rfl (by omega) (by omega) ?_
  refine fK rfl rfl rfl rfl rfl hd.1 (by omega) ?_
  refine je rfl rfl rfl (by decide) rfl rfl (by exact (rfl : _ = Ty.int _ _)) rfl (by omega) (by decide) rfl rfl ?_
  refine aD ?_
  refine ⟨by kernel_rfl, ?_⟩
  refine bX (aC (aA ?_))
  refine cD rfl rfl (by omega) (by omega) ?_
  refine bQ rfl (aD ?_)
  refine bl (⟨k.1 + 1, by omega⟩) ?_ (by show fl.length - (k.1 + 1) < fl.length - k.1; omega)
  (refine dG.mk' ?_ ?_ <;> (repeat' (first | exact aI | exact aJ | refine aB ?_ (Ty.aU _) | refine aB ?_ (Ty.aE _) | refine aF rfl (Cont.aE _) ?_ | refine aF rfl ?_ ?_)))
  all_goals skip
  all_goals exact Cont.dW (CV hs hd)
 refine cZ (aQ (aQ (ay rfl (aC (aG ?_)))))
 refine lF (tg := 10) [(3, Ty.sl cS (fB fl a (y.cells + 1) k.1))] (by decide) rfl ⟨MQ rfl rfl hul (by decide), trivial⟩ ?_
 refine gT (s := 3) rfl (Ty.hH (show fB fl a (y.cells + 1) k.1 = gR fl a (y.cells + 1) by rw [show k.1 = fl.length by have := k.2; omega]; exact Dm)) ?_
 refine aA (fU rfl (zE rfl (aD (aC (av ?_)))))
 refine ew [1000] rfl rfl (by decide) (by repeat (first | exact dR | refine c7 rfl (bW (by decide) rfl) ?_)) ?_
 all_goals exact eA (aN rfl rfl)
end Go.Proofs.YtelbollidfdcjaaGreat
namespace Go.Proofs.YtelbollidfdcjaaGreat
open Go Go.T
section
variable {fl : List cC} {a : List Int} {n : Nat} {s t : Int} {x : rE}
def eI (x : rE) : Int := nth x.queue 0
def jy (x : rE) : rE := ⟨x.by_, x.queue.drop 1⟩
theorem queue_eq (h : 0 < x.queue.length) : x.queue = eI x :: x.queue.drop 1 := by
  unfold eI
  cases hq : x.queue with
  | nil => rw [hq] at h; exact absurd h (by simp)
  | cons c r => rfl
structure KA (fl : List cC) (a : List Int) (n : Nat) (s : Int) (x : rE) : Prop where
  inv : l7 fl a n s x none
  same : nB (wT fl a s) x = cO fl a s
  short : x.queue.length ≤ x.by_.length + 1
theorem Oc (hs : 0 ≤ s ∧ s < n) : KA fl a n s ⟨[], [s]⟩ := ⟨La hs, rfl, Nat.le_refl _⟩
theorem IZ (h : 0 < x.queue.length) : wT fl a s x = .inl (fD fl a s (eI x) (jy x) (bO fl a (eI x)).length) := by
 have e := queue_eq h
 unfold wT
 rw [e]; rfl
theorem KA.fold (hN : Net fl n) (h : KA fl a n s x) (hq : 0 < x.queue.length) {k : Nat} (hk : k ≤ (bO fl a (eI x)).length) :
 (fD fl a s (eI x) (jy x) k).queue.length ≤ n ∧ (fD fl a s (eI x) (jy x) k).by_.length ≤ n ∧ (fD fl a s (eI x) (jy x) k).queue.length ≤ (fD fl a s (eI x) (jy x) k).by_.length := by
 have h1 := (h.inv.pop (queue_eq hq)).fold hN k hk
 have h2 := h1.pT
 have h3 := xe (fl := fl) (a := a) (s := s) (c := eI x) (x := jy x) k hk
 have h4 := h.short
 have e1 : (jy x).queue.length + 1 = x.queue.length := by show (x.queue.drop 1).length + 1 = _; rw [List.length_drop]; omega
 have e2 : (jy x).by_ = x.by_ := rfl
 rw [e2] at h3
 change (fD fl a s (eI x) (jy x) k).by_.length ≤ n at h2
 omega
theorem KA.next (hN : Net fl n) (h : KA fl a n s x) (hq : 0 < x.queue.length) : KA fl a n s (fD fl a s (eI x) (jy x) (bO fl a (eI x)).length) ∧ M9 n (fD fl a s (eI x) (jy x) (bO fl a (eI x)).length) < M9 n x := by
 obtain ⟨h1, h2⟩ := xj hN h.inv (queue_eq hq)
 exact ⟨⟨h1, by rw [← gz (IZ hq)]; exact h.same, by have := (h.fold hN hq (Nat.le_refl _)).2.2; omega⟩, h2⟩
theorem KA.end (h : KA fl a n s x) (hq : ¬ 0 < x.queue.length) : x.by_ = cO fl a s := by
 rw [← h.same]
 refine (iT ?_).symm
 unfold wT
 rw [List.length_eq_zero_iff.1 (show x.queue.length = 0 by omega)]
theorem yM {c : Int} {z : rE} {k : Nat} (hk : k < (bO fl a c).length) (h : vD fl s (fD fl a s c z k).by_ (nth (bO fl a c) k) = true) :
 gk (fD fl a s c z k).by_ ((nth (bO fl a c) k).fin fl) (nth (bO fl a c) k) = (fD fl a s c z (k + 1)).by_ ∧ (fD fl a s c z k).queue ++ [(nth (bO fl a c) k).fin fl] = (fD fl a s c z (k + 1)).queue := by
 rw [nq hk, tT h]; exact ⟨rfl, rfl⟩
theorem CT {c : Int} {z : rE} {k : Nat} (hk : k < (bO fl a c).length) (h : vD fl s (fD fl a s c z k).by_ (nth (bO fl a c) k) = false) :
 (fD fl a s c z k).by_ = (fD fl a s c z (k + 1)).by_ ∧ (fD fl a s c z k).queue = (fD fl a s c z (k + 1)).queue := by
 rw [nq hk, xG h]; exact ⟨rfl, rfl⟩
theorem xk {c : Int} {z : rE} : fD fl a s c z 0 = z := rfl
structure IG (fl : List cC) (n : Nat) (a0 a : List Int) : Prop where
  inb : yE fl a
  same : nB (EO fl n) a = gK fl n a0
theorem IG.done {a0 : List Int} (h : IG fl n a0 a) (e : dc fl a n < 0) : gK fl n a0 = (0, false, a) := by
 rw [← h.same]; exact iT (if_pos e)
theorem IG.stuck {a0 : List Int} (h : IG fl n a0 a) (e : ¬ dc fl a n < 0) (e2 : eY fl a n (cO fl a (dc fl a n)) < 0) : gK fl n a0 = (dc fl a n, true, a) := by
 rw [← h.same]; exact iT ((if_neg e).trans (if_pos e2))
theorem IG.next {a0 : List Int} (hN : Net fl n) (h : IG fl n a0 a) (e : ¬ dc fl a n < 0) (e2 : ¬ eY fl a n (cO fl a (dc fl a n)) < 0) :
 IG fl n a0 (kX fl a (dc fl a n) (eY fl a n (cO fl a (dc fl a n)))) ∧ N9 fl a n (dc fl a n) (eY fl a n (cO fl a (dc fl a n))) := by
 obtain ⟨s, s1, s2, s3⟩ := w8 e
 obtain ⟨t, t1, t2, t3, t4⟩ := tW e2
 rw [s2] at t2 t3 ⊢
 rw [t2]
 have hS := sent hN h.inb s1 t1 s3 t3 t4
 refine ⟨⟨hS.inb, ?_⟩, hS⟩
 rw [← h.same]
 refine (gz ?_).symm
 unfold EO
 rw [if_neg e, s2, if_neg (by rw [t2]; omega), t2]
structure KN (fl : List cC) (a : List Int) (q : List (Int × Way)) (s t : Int) (dep : Int → Nat) (x : Int × List Way) : Prop where
  inv : G2 fl a q s t dep x
  same : nB (Ed fl q s) x = gr fl q s t
theorem OY {dep : Int → Nat} {q : List (Int × Way)} (ht : xz q s t) : KN fl a q s t dep (t, []) :=
 ⟨⟨rfl, (fun w h => by cases h), (fun w h => by cases h), List.nodup_nil, ht, by simp⟩, rfl⟩
theorem EE {q : List (Int × Way)} {x : Int × List Way} (hx : x.1 = s) : Ed fl q s x = .inr x.2 := if_pos hx
theorem D3 {q : List (Int × Way)} {x : Int × List Way} (hx : ¬ x.1 = s) : Ed fl q s x = .inl ((jv q x.1).gq fl, x.2 ++ [jv q x.1]) := if_neg hx
theorem KN.next {dep : Int → Nat} {q : List (Int × Way)} (hd : ∀ c w, e9 q c = some w → Open fl a w ∧ w.fin fl = c ∧ xz q s (w.gq fl) ∧ dep (w.gq fl) < dep c ∧ dep c ≤ q.length) {x : Int × List Way} (h : KN fl a q s t dep x) (hx : ¬ x.1 = s) :
 KN fl a q s t dep ((jv q x.1).gq fl, x.2 ++ [jv q x.1]) ∧ dep ((jv q x.1).gq fl) < dep x.1 ∧ Open fl a (jv q x.1) := by
 obtain ⟨h1, h2⟩ := h.inv.next hd hx
 refine ⟨⟨h1, ?_⟩, h2, h1.ways _ (List.mem_append.2 (.inr (List.mem_singleton.2 rfl)))⟩
 rw [← h.same]
 exact (gz (D3 hx)).symm
theorem KN.end {dep : Int → Nat} {q : List (Int × Way)} {x : Int × List Way} (h : KN fl a q s t dep x) (hx : x.1 = s) : x.2 = gr fl q s t := by
 rw [← h.same]; exact (iT (EE hx)).symm
theorem KN.pT {dep : Int → Nat} {q : List (Int × Way)} {x : Int × List Way} (h : KN fl a q s t dep x) : x.2.length ≤ dep t := by
 have := h.inv.pT; omega
end
end Go.Proofs.YtelbollidfdcjaaGreat
namespace Go.Proofs.YtelbollidfdcjaaGreat
open Go Go.T
set_option maxHeartbeats 8000000
def zm : VT Way := ⟨fun w => Ty.agg (fq.tys w), fun _ => ⟨rfl, rfl⟩⟩
theorem oD : mapOf Tryz.prog 196 = some (3, 199) := by kernel_rfl
theorem sj : zeroOf Tryz.prog 199 = some (.agg #[.int .i64 0, .bool false]) := by kernel_rfl
theorem pP : ∀ w M, (zm.ty (default : Way)).den w M (.agg #[.int .i64 0, .bool false]) := fun _ _ => ⟨_, rfl, rfl, rfl, trivial⟩
theorem Bc : ∀ w M, ((JX fq).ty []).den w M (.slice none 0 0) := fun w M => Ty.xY w M _ rfl
section
variable {fl : List cC} {a : List Int} {s : Int} {q : List (Int × Way)} {w : Way}
theorem FP {q : WQ} {k : Nat} (h : nth a k < (nth fl k).hi) : gk q (nth fl k).src ((e9 q (nth fl k).src).getD [] ++ [⟨k, true⟩]) = nA fl a q k := (if_pos h).symm
theorem GZ {k : Nat} (h : nth a k > (nth fl k).lo) : gk (nA fl a (eW fl a k) k) (nth fl k).dst ((e9 (nA fl a (eW fl a k) k) (nth fl k).dst).getD [] ++ [⟨k, false⟩]) = eW fl a (k + 1) := (if_pos h).symm
theorem new_eq : (!(e9 q (w.fin fl)).isSome && !decide (w.fin fl = s)) = vD fl s q w := rfl
end
theorem K8 {α : Type} {E : El α} {T J : Nat} {l l' : List α} (e : l = l') : (Ty.iU E T J l).Sub (Ty.iU E T J l') := Ty.sub_eq (congrArg (Ty.iU E T J) e)
attribute [local irreducible] aP gl Way.gq Way.fin Way.room eW nA Fh eH fB pE bO fD cO vD eI
attribute [local irreducible] iN fQ m5 qc ir iW ij iy iw qY iZ qW dz ga qV gG qd nth fP dh aa dy bodyPost Exit.then Exit.inBlock Code.wp Code.wpIn qh iq qb qU ia dn cU cj bodyPostM eF
set_option maxRecDepth 100000 in
theorem Iq (y : ah) (fl : List cC) (a : List Int) (h : mC y fl a) : dn Tryz.prog 184 [1000] [(1000, Cont.vec cS 3 a)] [Ty.pp (eL y fl 1000 fl.length)] [(1000, Cont.vec cS 3 a)] (Ty.pm KI.enc (JX fq) (eW fl a fl.length)) := by
 refine c6 Tryz.func184 rfl (by decide) Tryz.ntmps184 (by exact Nat.le_of_ble_eq_true rfl) fun w0 M0 => ?_
 have hal := h.inb.1
 have hfl := h.pT
 refine aG (aA (lB rfl (aD (aC (aG (aA (D7 KI.enc fq 199 6000 oG rfl (OP rfl (aD ?_)))))))))
 refine aC (aG (aG (aA (jt rfl (cA rfl ?_)))))
 refine aO rfl rfl rfl rfl rfl (by decide) ?_
 refine aL rfl rfl rfl rfl (cY rfl rfl rfl (bQ rfl (aD (aC (ak ?_)))))
 refine cg (fun (k : {k : Nat // k ≤ fl.length}) => live [(0, Ty.pp (eL y fl 1000 fl.length)), (3, Ty.mp 7), (10, Ty.sl dx fl), (11, Ty.int .i64 fl.length), (12, Ty.int .i64 (k.1 : Nat))] [(1000, Cont.vec cS 3 a), (7, Cont.mr KI.enc fq 199 6000 (eW fl a k.1))]) (fun k => fl.length - k.1) (⟨0, by omega⟩) ?_ fun k => ?_
 ·(refine dG.mk' ?_ ?_ <;> (repeat' (first | exact aI | exact aJ | refine aB ?_ (Ty.aU _) | refine aB ?_ (Ty.aE _) | refine aF rfl (Cont.aE _) ?_ | refine aF rfl ?_ ?_)))
  all_goals exact Cont.uN (GW fl a)
 have hk := k.2
 refine aG (aA (bF rfl rfl rfl (aD (aC (aG ?_)))))
 refine aq rfl (fun hc1 => ?_) (fun hc1 => ?_)
 ·
  refine aj (aC (aG (ak (aG (aA (bQ rfl ?_))))))
  refine bH rfl rfl rfl rfl rfl rfl (by omega) ?_
  refine aZ rfl rfl rfl (by exact Nat.le_of_ble_eq_true rfl) ?_
  refine b9 rfl (by exact List.cons_ne_nil _ _) rfl ?_
  refine cE rfl ?_
  refine bp rfl rfl (by decide) rfl rfl rfl rfl rfl rfl ?_
  refine aD (aC ?_)
  refine k7 (J := live [(0, Ty.pp (eL y fl 1000 fl.length)), (3, Ty.mp 7), (4, Ty.int .i64 (k.1 : Nat)), (5, Ty.ptr 6 0), (10, Ty.sl dx fl), (11, Ty.int .i64 fl.length), (12, Ty.int .i64 (k.1 : Nat))] [(1000, Cont.vec cS 3 a), (7, Cont.mr KI.enc fq 199 6000 (nA fl a (eW fl a k.1) k.1)), (6, Cont.cells 187 (dx.tys (nth fl k.1)))]) ?_ ?_
  ·
   refine aG (cW mixed rfl (jt rfl (cA rfl ?_)))
   refine aO rfl rfl rfl rfl rfl (by decide) ?_
   refine aL rfl rfl rfl rfl (bQ rfl ?_)
   refine eR rfl rfl rfl rfl rfl (by omega) ?_
   refine fA rfl rfl rfl (by decide) rfl rfl (by omega) rfl ?_
   refine aK rfl rfl rfl rfl rfl (by decide) ?_
   refine aS rfl rfl (by decide) rfl rfl rfl ?_
   refine bF rfl rfl rfl (aD ?_)
   refine ⟨by kernel_rfl, ?_⟩
   refine aC ?_
   refine aq rfl (fun hc2 => ?_) (fun hc2 => ?_)
   ·
    have hq := fun c => yq (fl := fl) (a := a) (c := c) k.1
    have hq1 := hq (nth fl k.1).src
    refine cW mixed rfl (Gw rfl ?_)
    refine aK rfl rfl rfl rfl rfl (by decide) ?_
    refine aS rfl rfl (by decide) rfl rfl rfl ?_
    refine Gw rfl ?_
    refine aK rfl rfl rfl rfl rfl (by decide) ?_
    refine aS rfl rfl (by decide) rfl rfl rfl ?_
    refine zV KI rfl rfl (by decide) rfl (vJ _) oG vo ?_
    refine bQ rfl ?_
    refine dB rfl rfl (by exact List.cons_ne_nil _ _) rfl (by repeat (first | exact (aX.nil : aX _ _ [] _) | (show aX _ _ ((_, _) :: _) _; apply aX.one; (· first | exact (rfl : _ = Ty.int _ _) | exact (rfl : _ = Ty.bool _)); (· exact rfl)))) (by exact (rfl : _ = some [_, _])) ?_
    refine bw (E := fq) (xs := [⟨k.1, true⟩]) rfl rfl rfl rfl rfl (by decide) (by decide) (by repeat (first | exact (aX.nil : aX _ _ [] _) | (show aX _ _ ((_, _) :: _) _; apply aX.agg; (· exact (rfl : _ = Ty.agg _))))) (by exact rfl) rfl ?_
    refine yw rfl rfl rfl (by decide) (by decide) rfl (by show 0 < 1; decide) rfl rfl rfl rfl rfl (by decide) (by show (((e9 _ _).getD []).length + 1) * 16 ≤ _; unfold oS at hq1; omega) (by show ((e9 _ _).getD []).length + 1 ≤ _; unfold oS at hq1; omega) ?_
    refine yy KI rfl rfl (by decide) rfl (vJ _) rfl oG rfl ?_
    refine aD ?_
    refine ⟨by kernel_rfl, ?_⟩
    refine fJ ?_
    (refine dG.mk' ?_ ?_ <;> (repeat' (first | exact aI | exact aJ | refine aB ?_ (Ty.aU _) | refine aB ?_ (Ty.aE _) | refine aF rfl (Cont.aE _) ?_ | refine aF rfl ?_ ?_)))
    all_goals exact Cont.uN (FP hc2)
   refine aj (fJ ?_)
   (refine dG.mk' ?_ ?_ <;> (repeat' (first | exact aI | exact aJ | refine aB ?_ (Ty.aU _) | refine aB ?_ (Ty.aE _) | refine aF rfl (Cont.aE _) ?_ | refine aF rfl ?_ ?_)))
   all_goals exact Cont.uN (IJ hc2)
  refine aG (cW mixed rfl (jt rfl (cA rfl ?_)))
  refine aO rfl rfl rfl rfl rfl (by decide) ?_
  refine aL rfl rfl rfl rfl (bQ rfl ?_)
  refine eR rfl rfl rfl rfl rfl (by omega) ?_
  refine fA rfl rfl rfl (by decide) rfl rfl (by omega) rfl ?_
  refine aK rfl rfl rfl rfl rfl (by decide) ?_
  refine aS rfl rfl (by decide) rfl rfl rfl ?_
  refine bF rfl rfl rfl (aD ?_)
  refine ⟨by kernel_rfl, ?_⟩
  refine aC ?_
  refine aq rfl (fun hc3 => ?_) (fun hc3 => ?_)
  ·
   have hq2 := FV (fl := fl) (a := a) (c := (nth fl k.1).dst) (k := k.1)
   refine cW mixed rfl (Gw rfl ?_)
   refine aK rfl rfl rfl rfl rfl (by decide) ?_
   refine aS rfl rfl (by decide) rfl rfl rfl ?_
   refine Gw rfl ?_
   refine aK rfl rfl rfl rfl rfl (by decide) ?_
   refine aS rfl rfl (by decide) rfl rfl rfl ?_
   refine zV KI rfl rfl (by decide) rfl (vJ _) oG vo ?_
   refine bQ rfl ?_
   refine dB rfl rfl (by exact List.cons_ne_nil _ _) rfl (by repeat (first | exact (aX.nil : aX _ _ [] _) | (show aX _ _ ((_, _) :: _) _; apply aX.one; (· first | exact (rfl : _ = Ty.int _ _) | exact (rfl : _ = Ty.bool _)); (· exact rfl)))) (by exact (rfl : _ = some [_, _])) ?_
   refine bw (E := fq) (xs := [⟨k.1, false⟩]) rfl rfl rfl rfl rfl (by decide) (by decide) (by repeat (first | exact (aX.nil : aX _ _ [] _) | (show aX _ _ ((_, _) :: _) _; apply aX.agg; (· exact (rfl : _ = Ty.agg _))))) (by exact rfl) rfl ?_
   refine yw rfl rfl rfl (by decide) (by decide) rfl (by show 0 < 1; decide) rfl rfl rfl rfl rfl (by decide) (by show (((e9 _ _).getD []).length + 1) * 16 ≤ _; unfold oS at hq2; omega) (by show ((e9 _ _).getD []).length + 1 ≤ _; unfold oS at hq2; omega) ?_
   refine yy KI rfl rfl (by decide) rfl (vJ _) rfl oG rfl ?_
   refine aD ?_
   refine ⟨by kernel_rfl, ?_⟩
   refine bX (aC (aA ?_))
   refine cD rfl rfl (by omega) (by omega) ?_
   refine bQ rfl (aD ?_)
   refine bl (⟨k.1 + 1, by omega⟩) ?_ (by show fl.length - (k.1 + 1) < fl.length - k.1; omega)
   (refine dG.mk' ?_ ?_ <;> (repeat' (first | exact aI | exact aJ | refine aB ?_ (Ty.aU _) | refine aB ?_ (Ty.aE _) | refine aF rfl (Cont.aE _) ?_ | refine aF rfl ?_ ?_)))
   all_goals skip
   all_goals exact Cont.uN (GZ hc3)
  refine aj (bX (aC (aA ?_)))
  refine cD rfl rfl (by omega) (by omega) ?_
  refine bQ rfl (aD ?_)
  refine bl (⟨k.1 + 1, by omega⟩) ?_ (by show fl.length - (k.1 + 1) < fl.length - k.1; omega)
  (refine dG.mk' ?_ ?_ <;> (repeat' (first | exact aI | exact aJ | refine aB ?_ (Ty.aU _) | refine aB ?_ (Ty.aE _) | refine aF rfl (Cont.aE _) ?_ | refine aF rfl ?_ ?_)))
  all_goals skip
  all_goals exact Cont.uN (Iz hc3)
 refine cZ (aQ (aQ (ay rfl (aC (aG ?_)))))
 refine fV (tg := 7) rfl (Cont.uN (show eW fl a k.1 = eW fl a fl.length by rw [show k.1 = fl.length by have := k.2; omega])) ?_
 refine iX (tg := 6000) [] [(7, Cont.mp KI.enc (JX fq) (eW fl a fl.length))] (by decide) rfl trivial ⟨LG rfl rfl, trivial⟩ ?_
 refine lF (tg := 7) [(3, Ty.pm KI.enc (JX fq) (eW fl a fl.length))] (by decide) rfl ⟨Mp rfl rfl (by decide), trivial⟩ ?_
 refine aA (MP rfl (NJ rfl (aD (aC (av ?_)))))
 refine ew [1000] rfl rfl (by decide) (by repeat (first | exact dR | refine c7 rfl (bW (by decide) rfl) ?_)) ?_
 all_goals exact eA (aN rfl rfl)
set_option maxRecDepth 100000 in
theorem Kf (y : ah) (fl : List cC) (a : List Int) (h : mC y fl a) (s : Int) (hs : 0 ≤ s ∧ s < (y.cells + 1 : Nat)) : dn Tryz.prog 130 [1000] [(1000, Cont.vec cS 3 a)] [Ty.pp (eL y fl 1000 fl.length), Ty.int .i64 s] [(1000, Cont.vec cS 3 a), (16, Cont.mp KI.enc zm (cO fl a s))] (Ty.mp 16) := by
 refine c6 Tryz.func130 rfl (by decide) Tryz.ntmps130 (by exact Nat.le_of_ble_eq_true rfl) fun w0 M0 => ?_
 have hal := h.inb.1
 have hN := h.net
 have hcl := nR h.right
 refine aG (aA (lB rfl (aD (aC (aG (aA (GQ KI.enc zm oD rfl (OP rfl (aD ?_)))))))))
 refine aC (aG (aA (jt rfl ?_)))
 refine bk [(1000, 1000)] [] [(1000, Cont.vec cS 3 a)] (Iq y fl a h) rfl rfl (aH bD (fE (aH (aH (aH (aH (aH (aH bD (dj (by exact List.mem_cons_self))) (aN rfl rfl)) (aN rfl rfl)) (aN rfl rfl)) (aN rfl rfl)) (aN rfl rfl)))) (b8 (a := 1000) (b := 1000) (by exact List.mem_cons_self) rfl (bW (by exact List.mem_cons_self) rfl) pre_nil) (bG (a := 1000) (b := 1000) (by exact List.mem_cons_self) rfl (bW (by exact List.mem_cons_self) rfl) post_nil) (aN rfl rfl) ?_
 refine NJ rfl (aD (aC (aG (aA (bQ rfl ?_)))))
 refine Cg (E := cS) (xs := [s]) rfl rfl rfl rfl rfl (by decide) (by decide) (by repeat (first | exact (aX.nil : aX _ _ [] _) | (show aX _ _ ((_, _) :: _) _; apply aX.one; (· exact (rfl : _ = Ty.int _ _)); (· exact rfl)))) (by exact rfl) rfl rfl ?_
 refine A4 rfl (aD (aC (aG ?_)))
 refine Mt (s := 7) (J := 4100) (tg := 20) rfl rfl (by decide) (by decide) rfl ?_
 refine ak ?_
 refine cg (fun (x : {x : rE // KA fl a (y.cells + 1) s x}) => live [(0, Ty.pp (eL y fl 1000 fl.length)), (1, Ty.int .i64 s), (5, Ty.mp 16), (6, Ty.pm KI.enc (JX fq) (eW fl a fl.length)), (7, Ty.iU cS 3 4100 x.1.queue)] [(1000, Cont.vec cS 3 a), (16, Cont.mp KI.enc zm x.1.by_)]) (fun x => M9 (y.cells + 1) x.1) (⟨⟨[], [s]⟩, Oc hs⟩) ?_ fun x => ?_
 ·(refine dG.mk' ?_ ?_ <;> (repeat' (first | exact aI | exact aJ | refine aB ?_ (Ty.aU _) | refine aB ?_ (Ty.aE _) | refine aF rfl (Cont.aE _) ?_)))
 refine aG (aG (aA ?_))
 refine eK (rfl : _ = Ty.iU _ _ _ _) ?_
 refine M7 rfl rfl rfl (bF rfl rfl rfl (aD (aC ?_)))
 refine aq rfl (fun hc1 => ?_) (fun hc1 => ?_)
 ·
  refine aj (aC (ak (aG ?_)))
  have hlen : 0 < x.1.queue.length := by omega
  refine aA ?_
  refine eK (rfl : _ = Ty.iU _ _ _ _) ?_
  refine ID (i := 0) rfl rfl rfl rfl rfl rfl hlen ?_
  refine y4 rfl rfl rfl rfl (cE rfl (aD (aC (aG (aA ?_)))))
  refine eK (rfl : _ = Ty.iU _ _ _ _) ?_
  refine Mw (lo := 1) rfl rfl rfl rfl rfl rfl hlen hlen ?_
  refine fX (rfl : _ = Ty.iU _ _ _ _) ?_
  refine aD (aC (aG ?_))
  refine gT (s := 8) rfl (Ty.au (show nth x.1.queue 0 = eI x.1 by unfold eI; rfl)) ?_
  refine aA (MP rfl (bQ rfl ?_))
  refine zN KI (z0 := []) rfl rfl (vJ _) oG vo Bc ?_
  refine cY (E := fq) (xs := oS (eW fl a fl.length) (eI x.1)) rfl rfl rfl ?_
  refine bQ rfl (aD (aC ?_))
  refine gT (s := 30) rfl (show (Ty.sl fq (oS (eW fl a fl.length) (eI x.1))).Sub (Ty.sl fq (bO fl a (eI x.1))) from Ty.hH rX) ?_
  refine gT (s := 31) rfl (Ty.au (congrArg (fun l : List Way => ((l.length : Nat) : Int)) (rX (c := eI x.1)))) ?_
  refine ak ?_
  refine cg (fun (j : {j : Nat // j ≤ (bO fl a (eI x.1)).length}) => live [(0, Ty.pp (eL y fl 1000 fl.length)), (1, Ty.int .i64 s), (5, Ty.mp 16), (6, Ty.pm KI.enc (JX fq) (eW fl a fl.length)), (7, Ty.iU cS 3 4100 (fD fl a s (eI x.1) (jy x.1) j.1).queue), (8, Ty.int .i64 (eI x.1)), (30, Ty.sl fq (bO fl a (eI x.1))), (31, Ty.int .i64 (bO fl a (eI x.1)).length), (32, Ty.int .i64 (j.1 : Nat))] [(1000, Cont.vec cS 3 a), (16, Cont.mp KI.enc zm (fD fl a s (eI x.1) (jy x.1) j.1).by_)]) (fun j => (bO fl a (eI x.1)).length - j.1) (⟨0, by omega⟩) ?_ fun j => ?_
  ·(refine dG.mk' ?_ ?_ <;> (repeat' (first | exact aI | exact aJ | refine aB ?_ (Ty.aU _) | refine aB ?_ (Ty.aE _) | refine aF rfl (Cont.aE _) ?_ | refine aF rfl ?_ ?_ | refine aB ?_ ?_)))
   all_goals first | exact K8 (congrArg rE.queue (xk (fl := fl) (a := a) (s := s) (c := eI x.1) (z := jy x.1)).symm) | exact Cont.xU (show x.1.by_ = (fD fl a s (eI x.1) (jy x.1) 0).by_ by rw [xk]; rfl)
  have hj := j.2
  have hwl := ox (fl := fl) (a := a) (c := eI x.1)
  have hfl := h.pT
  have hff := x.2.fold hN hlen hj
  refine aG (aA (bF rfl rfl rfl (aD (aC (aG ?_)))))
  refine aq rfl (fun hc2 => ?_) (fun hc2 => ?_)
  ·
   refine aj (aC (aG (ak (aG (aA ?_)))))
   refine bH rfl rfl rfl rfl rfl rfl (by omega) ?_
   refine aZ rfl rfl rfl (by exact Nat.le_of_ble_eq_true rfl) ?_
   refine b9 rfl (by exact List.cons_ne_nil _ _) rfl ?_
   refine bp rfl rfl (by decide) rfl rfl rfl rfl rfl rfl ?_
   refine aD (aC (aG ?_))
   have hwj := (nU.1 (cL (xs := bO fl a (eI x.1)) (k := j.1) (by omega))).1
   refine aA (jt rfl ?_)
   refine bS rfl rfl (by decide) rfl rfl (by exact Nat.le_of_ble_eq_true rfl) ?_
   refine dX [1000] (EH y fl a h (nth (bO fl a (eI x.1)) j.1) hwj.1) rfl (aM (kZ (aM (af (bI rfl rfl)) (aM (af (bI rfl rfl)) (aM (af (bI rfl rfl)) (aM (af (bI rfl rfl)) (aM (af (bI rfl rfl)) (aM (gY rfl hal (by decide) rfl) bf))))))) (aM (af (bI rfl rfl)) bf)) (by exact qQ (by repeat (first | exact p5 | refine oF (by exact dL _ _) ?_))) ?_
   refine qq rfl (bL rfl rfl (bL rfl rfl (cE rfl (cE rfl (aD (aC (aG (aA (Gw rfl ?_)))))))))
   refine bQ rfl ?_
   refine yc KI (k := (nth (bO fl a (eI x.1)) j.1).fin fl) (z0 := (default : Way)) rfl rfl (by decide) rfl (vJ _) oD sj pP ?_
   refine qq rfl (bL rfl rfl (bL rfl rfl ?_))
   refine b9 rfl (by exact List.cons_ne_nil _ _) rfl ?_
   refine bp rfl rfl (by decide) rfl rfl rfl rfl rfl rfl ?_
   refine dw rfl (aD (aC (aG (aA (g8 rfl (eE rfl (g8 rfl ?_)))))))
   apply aT (s := 50) rfl rfl rfl
   ·intro hg; apply aV; (refine bQ rfl ?_); refine aD ?_; exact rfl
   ·exact rfl
   ·exact rfl
   apply aT (s := 50) rfl rfl rfl
   ·intro hg; apply aV; (refine bQ rfl ?_); refine aD ?_; exact rfl
   ·exact rfl
   ·exact rfl
   apply aT (s := 50) rfl rfl rfl
   ·intro hg; apply aR (s := 51) rfl (by (rw [hg]; rfl)); apply aR (s := 52) rfl (by (rw [hg]; rfl)); apply aV; (refine bF rfl rfl rfl ?_); refine aD ?_; exact rfl
   ·exact rfl
   ·exact rfl
   refine eX rfl rfl (aD (aC ?_))
   refine cx rfl (fun hc3 => ?_) (fun hc3 => ?_)
   ·
    refine aG (aA (Gw rfl (bQ rfl ?_)))
    refine bS rfl rfl (by decide) rfl rfl (by exact Nat.le_of_ble_eq_true rfl) ?_
    refine Ci KI (k := (nth (bO fl a (eI x.1)) j.1).fin fl) (v := nth (bO fl a (eI x.1)) j.1) rfl rfl (by decide) rfl (vJ _) rfl rfl oD ?_
    refine aD (aC (aA ?_))
    refine eK (rfl : _ = Ty.iU _ _ _ _) ?_
    refine bQ rfl ?_
    refine bw (E := cS) (xs := [_]) rfl rfl rfl rfl rfl (by decide) (by decide) (by repeat (first | exact (aX.nil : aX _ _ [] _) | (show aX _ _ ((_, _) :: _) _; apply aX.one; (· exact (rfl : _ = Ty.int _ _)); (· exact rfl)))) (by exact rfl) rfl ?_
    refine Fa rfl rfl (by decide) rfl (by show 0 < 1; decide) rfl rfl rfl rfl rfl (by decide) (by show (_ + 1) * 8 ≤ _; omega) (by show _ + 1 ≤ _; omega) ?_
    refine fX (rfl : _ = Ty.iU _ _ _ _) ?_
    refine aD (bX (aC (aA ?_)))
    refine cD rfl rfl (by omega) (by omega) ?_
    refine bQ rfl (aD ?_)
    refine bl (⟨j.1 + 1, by omega⟩) ?_ (by show (bO fl a (eI x.1)).length - (j.1 + 1) < (bO fl a (eI x.1)).length - j.1; omega)
    (refine dG.mk' ?_ ?_ <;> (repeat' (first | exact aI | exact aJ | refine aB ?_ (Ty.aU _) | refine aB ?_ (Ty.aE _) | refine aF rfl (Cont.aE _) ?_ | refine aF rfl ?_ ?_ | refine aB ?_ ?_)))
    all_goals skip
    all_goals first | exact K8 (yM (by omega) (by rw [← new_eq]; exact hc3)).2 | exact Cont.xU (yM (by omega) (by rw [← new_eq]; exact hc3)).1
   refine aj (bX (aC (aA ?_)))
   refine cD rfl rfl (by omega) (by omega) ?_
   refine bQ rfl (aD ?_)
   refine bl (⟨j.1 + 1, by omega⟩) ?_ (by show (bO fl a (eI x.1)).length - (j.1 + 1) < (bO fl a (eI x.1)).length - j.1; omega)
   (refine dG.mk' ?_ ?_ <;> (repeat' (first | exact aI | exact aJ | refine aB ?_ (Ty.aU _) | refine aB ?_ (Ty.aE _) | refine aF rfl (Cont.aE _) ?_ | refine aF rfl ?_ ?_ | refine aB ?_ ?_)))
   all_goals skip
   all_goals first | exact K8 (CT (by omega) (by rw [← new_eq]; exact hc3)).2 | exact Cont.xU (CT (by omega) (by rw [← new_eq]; exact hc3)).1
  refine cZ (aQ (aQ (ay rfl (bX ?_))))
  refine bl (⟨fD fl a s (eI x.1) (jy x.1) (bO fl a (eI x.1)).length, (x.2.next hN hlen).1⟩) ?_ (by exact (x.2.next hN hlen).2)
  (refine dG.mk' ?_ ?_ <;> (repeat' (first | exact aI | exact aJ | refine aB ?_ (Ty.aU _) | refine aB ?_ (Ty.aE _) | refine aF rfl (Cont.aE _) ?_ | refine aF rfl ?_ ?_ | refine aB ?_ ?_)))
  all_goals skip
  all_goals first | exact K8 (congrArg (fun n => (fD fl a s (eI x.1) (jy x.1) n).queue) (show j.1 = _ by have := j.2; omega)) | exact Cont.xU (congrArg (fun n => (fD fl a s (eI x.1) (jy x.1) n).by_) (show j.1 = _ by have := j.2; omega))
 refine cZ (aQ (aQ (ay rfl (aC (aG ?_)))))
 refine fV (tg := 16) rfl (Cont.xU (x.2.end (by omega))) ?_
 refine aA (Gw rfl (OP rfl (aD (aC (av ?_)))))
 refine ew [1000, 16] rfl rfl (by decide) (by repeat (first | exact dR | refine c7 rfl (bW (by decide) rfl) ?_ | refine c7 rfl (Lb (by decide) rfl) ?_)) ?_
 all_goals skip
 all_goals exact eA (Lm (by decide))
end Go.Proofs.YtelbollidfdcjaaGreat
namespace Go.Proofs.YtelbollidfdcjaaGreat
open Go Go.T
section
variable {fl : List cC} {a : List Int} {n : Nat} {q : List (Int × Way)}
theorem C7 {n k : Nat} (h : k ≤ n) : (List.range n).take k = List.range k := by
 rw [List.take_range, Nat.min_eq_left h]
theorem K1 {j : Nat} (hj : j < n) (h : ∀ i, i < j → jr fl a q i = false) (hc : jr fl a q j = true) : (j : Int) = eY fl a n q := by
 unfold eY
 refine (gp (by rw [List.length_range]; exact hj) (fun x hx => ?_) ?_).symm
 ·rw [C7 (by omega)] at hx
  exact h x (List.mem_range.1 hx)
 rw [List.getElem_range]; exact hc
theorem HN {j : Nat} (hj : n ≤ j) (h : ∀ i, i < j → jr fl a q i = false) : -1 = eY fl a n q := by
 unfold eY
 refine (iO fun x hx => ?_).symm
 exact h x (by have := List.mem_range.1 hx; omega)
theorem B0 {j : Nat} (hj : j < n) : ((e9 q (j : Int)).isSome && decide (nth (gR fl a n) j < 0)) = jr fl a q j := by
 unfold jr; rw [tG hj]
theorem G1 (hl : fl.length ≤ 34) (ha : ∀ i, i < fl.length → 0 ≤ nth a i ∧ nth a i ≤ 300) (c : Int) : -10200 ≤ over fl a c ∧ over fl a c ≤ 10200 := by
 have h := y8 (fl := fl) (a := a) (c := c) (k := fl.length) ha
 have e : pE fl a fl.length c = over fl a c := rfl
 rw [e] at h; omega
theorem wW (m : Int) (fl : List cC) (a : List Int) : m = fC fl a m [] := rfl
theorem HS {s t : Int} {l : List Way} (e : l = gr fl (cO fl a s) s t) : eH a l (fC fl a (min (over fl a s) (-over fl a t)) l) = kX fl a s t := by subst e; rfl
end
end Go.Proofs.YtelbollidfdcjaaGreat
namespace Go.Proofs.YtelbollidfdcjaaGreat
open Go Go.T
set_option maxHeartbeats 16000000
structure I0 (y : ah) (fl : List cC) (a : List Int) : Prop where
  right : y.cI
  net : Net fl (y.cells + 1)
  bd : Bd fl
  inb : hU fl = true → yE fl a
  pT : fl.length ≤ 34
section
variable {y : ah} {fl : List cC} {a : List Int} {n : Nat}
theorem Ae (h : (!fl.all fun f => decide (f.lo ≤ f.hi)) = true) : hU fl = false := qt h
theorem n9 (h : (!fl.all fun f => decide (f.lo ≤ f.hi)) = false) : hU fl = true := gA h
theorem L3 (h : hU fl = false) : 0 = (cm fl n a).1 ∧ true = (cm fl n a).2.1 ∧ a = (cm fl n a).2.2 := by rw [yS h]; exact ⟨rfl, rfl, rfl⟩
theorem L4 {b : List Int} (h : hU fl = true) (hx : IG fl n a b) (e : dc fl b n < 0) : 0 = (cm fl n a).1 ∧ false = (cm fl n a).2.1 ∧ b = (cm fl n a).2.2 := by rw [oC h, hx.done e]; exact ⟨rfl, rfl, rfl⟩
theorem Mx {b : List Int} (h : hU fl = true) (hx : IG fl n a b) (e : ¬ dc fl b n < 0) (e2 : eY fl b n (cO fl b (dc fl b n)) < 0) : dc fl b n = (cm fl n a).1 ∧ true = (cm fl n a).2.1 ∧ b = (cm fl n a).2.2 := by rw [oC h, hx.stuck e e2]; exact ⟨rfl, rfl, rfl⟩
theorem Og (h : yE fl a) : IG fl n a a := ⟨h, rfl⟩
theorem Kb {x z : Int} (h1 : 0 < x) (h2 : z < 0) : 0 < min x (-z) := by omega
theorem has_eq : fidx (fun v : Int => decide (v > 0)) (gR fl a n) = dc fl a n := rfl
theorem Hw (m x : Int) : fk m [x] = min m x := rfl
theorem xN {m : Int} {l : List Way} {w : Way} : fk (fC fl a m l) [w.room fl a] = fC fl a m (l ++ [w]) := (Hw _ _).trans (q7 m l).symm
theorem Eb {k : Int} (h : 0 ≤ k ∧ k < n) : nth (gR fl a n) k.toNat = over fl a k := by rw [tG (by omega)]; congr 1; omega
theorem Iy {x : Int} (h : -20000 ≤ x ∧ x ≤ 20000) : IntKind.i64.wrap (0 - x) = -x := by rw [show (0 : Int) - x = -x by omega]; exact IntWalk.i64_in _ (by omega)
end
attribute [local irreducible] aP gl Way.gq Way.fin Way.room eW eH fB gR over bO cO dc eY jr fC gr kX cm gK fk
attribute [local irreducible] iN fQ m5 qc ir iW ij iy iw qY iZ qW dz ga qV gG qd nth fP dh aa dy bodyPost Exit.then Exit.inBlock Code.wp Code.wpIn qh iq qb qU ia dn cU cj bodyPostM eF
set_option maxRecDepth 100000 in
theorem HJ (f : cC) : dy Tryz.prog 177 [Ty.agg (dx.tys f)] (Ty.bool (decide (f.lo ≤ f.hi))) := by
 refine bC Tryz.func177 rfl (by decide) Tryz.ntmps177 (by exact Nat.le_of_ble_eq_true rfl) fun w0 M0 => ?_
 refine aG (aA (bM rfl (dw rfl (aD (aC (aG (aA ?_)))))))
 refine aO rfl rfl rfl rfl rfl (by decide) ?_
 refine aL rfl rfl rfl rfl ?_
 refine aO rfl rfl rfl rfl rfl (by decide) ?_
 refine aL rfl rfl rfl rfl (bF rfl rfl rfl (dw rfl (aD (aC (av (bz rfl rfl ?_))))))
 all_goals exact cV rfl rfl
set_option maxRecDepth 100000 in
theorem IX (v : Int) : dy Tryz.prog 179 [Ty.int .i64 v] (Ty.bool (decide (v > 0))) := by
 refine bC Tryz.func179 rfl (by decide) Tryz.ntmps179 (by exact Nat.le_of_ble_eq_true rfl) fun w0 M0 => ?_
 refine aG (aA (dw rfl (aD (aC (aG (aA (bQ rfl (bF rfl rfl rfl (dw rfl ?_)))))))))
 refine aD (aC (av (bz rfl rfl ?_)))
 all_goals exact cV rfl rfl
set_option maxRecDepth 100000 in
theorem J5 (y : ah) (fl : List cC) (a : List Int) (h : I0 y fl a) : dn Tryz.prog 129 [1000] [(1000, Cont.vec cS 3 a)] [Ty.pp (eL y fl 1000 fl.length)] [(1000, Cont.vec cS 3 (cm fl (y.cells + 1) a).2.2)] (Ty.ju [Ty.int .i64 (cm fl (y.cells + 1) a).1, Ty.bool (cm fl (y.cells + 1) a).2.1]) := by
 refine c6 Tryz.func129 rfl (by decide) Tryz.ntmps129 (by exact Nat.le_of_ble_eq_true rfl) fun w0 M0 => ?_
 have hcl := nR h.right
 have hfl := h.pT
 have hN := h.net
 refine aG (aA (cE rfl (dw rfl (aD (aC (aG (aG (aA (jt rfl ?_)))))))))
 refine cA rfl ?_
 refine aO rfl rfl rfl rfl rfl (by decide) ?_
 refine aL rfl rfl rfl rfl ?_
 refine az (Cz fl (Ty.jC _ []) rfl (fun f => decide (f.lo ≤ f.hi)) rfl rfl fun f _ => dZ (HJ f) rfl rfl rfl rfl rfl rfl) rfl rfl rfl rfl rfl ?_
 refine eE rfl (aD (aC ?_))
 refine cx rfl (fun hc1 => ?_) (fun hc1 => ?_)
 ·
  refine aG (aA (cE rfl (dw rfl (aD (aC (av (aW ?_)))))))
  refine zo [1000] rfl rfl rfl (by decide) ?_ ?_ ?_
  ·exact c7 rfl (bW (by decide) (L3 (Ae hc1)).2.2) dR
  all_goals skip
  all_goals first | exact eA (lA rfl rfl (congrArg (Ty.int .i64) (L3 (Ae hc1)).1)) | exact eA (lA rfl rfl (congrArg Ty.bool (L3 (Ae hc1)).2.1))
 refine aj (aC (ak ?_))
 refine cg (fun (x : {b : List Int // IG fl (y.cells + 1) a b}) => live [(0, Ty.pp (eL y fl 1000 fl.length))] [(1000, Cont.vec cS 3 x.1)]) (fun x => NX fl (y.cells + 1) x.1) (⟨a, Og (h.inb (n9 hc1))⟩) ?_ fun x => ?_
 ·(refine dG.mk' ?_ ?_ <;> (repeat' (first | exact aI | exact aJ | refine aB ?_ (Ty.aU _) | refine aB ?_ (Ty.aE _) | refine aF rfl (Cont.aE _) ?_)))
 have hF : mC y fl x.1 := ⟨h.right, h.net, h.bd, x.2.inb, h.pT⟩
 have hal := hF.inb.1
 have hov := G1 h.pT fun i hi => (hF.Mm hi).1
 have hol : (gR fl x.1 (y.cells + 1)).length = (y.cells + 1) := yh
 refine ak (aG (aA (jt rfl ?_)))
 refine bk [(1000, 1000)] [] [(1000, Cont.vec cS 3 x.1)] (L9 y fl x.1 hF) rfl rfl (aH bD (fE (aH (aH (aH (aH (aH (aH bD (dj (by exact List.mem_cons_self))) (aN rfl rfl)) (aN rfl rfl)) (aN rfl rfl)) (aN rfl rfl)) (aN rfl rfl)))) (b8 (a := 1000) (b := 1000) (by exact List.mem_cons_self) rfl (bW (by exact List.mem_cons_self) rfl) pre_nil) (bG (a := 1000) (b := 1000) (by decide) rfl (bW (by decide) rfl) post_nil) (aN rfl rfl) ?_
 refine zE rfl (aD (aC (aG (aA (fU rfl ?_)))))
 refine az (vC (gR fl x.1 (y.cells + 1)) (Ty.jC _ []) rfl (fun v => decide (v > 0)) rfl rfl fun v _ => dZ (IX v) rfl rfl rfl rfl rfl rfl) rfl rfl rfl rfl rfl ?_
 refine cE rfl (aD (aC (aG (aG ?_))))
 refine gT (s := 5) rfl (Ty.au (has_eq (fl := fl) (a := x.1) (n := (y.cells + 1)))) ?_
 refine aA (bQ rfl (bF rfl rfl rfl (aD (aC ?_))))
 refine aq rfl (fun hc2 => ?_) (fun hc2 => ?_)
 ·
  refine aG (aA (cE rfl (dw rfl (aD (aC (av (aW (bJ (aW ?_)))))))))
  refine bJ ?_
  refine zo [1000] rfl rfl rfl (by decide) ?_ ?_ ?_
  ·exact c7 rfl (bW (by decide) (L4 (n9 hc1) x.2 hc2).2.2) dR
  all_goals skip
  all_goals first | exact eA (lA rfl rfl (congrArg (Ty.int .i64) (L4 (n9 hc1) x.2 hc2).1)) | exact eA (lA rfl rfl (congrArg Ty.bool (L4 (n9 hc1) x.2 hc2).2.1))
 refine aj (aC (aG ?_))
 obtain ⟨s, s1, s2, s3⟩ := w8 hc2
 have hs : 0 ≤ (dc fl x.1 (y.cells + 1)) ∧ (dc fl x.1 (y.cells + 1)) < ((y.cells + 1) : Nat) := by omega
 refine aA (jt rfl (bQ rfl ?_))
 refine bk (res' := Ty.mp 32) [(1000, 1000), (32, 16)] [32] [(1000, Cont.vec cS 3 x.1), (32, Cont.mp KI.enc zm (cO fl x.1 (dc fl x.1 (y.cells + 1))))] (Kf y fl x.1 hF (dc fl x.1 (y.cells + 1)) hs) rfl rfl (aH (aH bD (aN rfl rfl)) (fE (aH (aH (aH (aH (aH (aH bD (dj (by exact List.mem_cons_self))) (aN rfl rfl)) (aN rfl rfl)) (aN rfl rfl)) (aN rfl rfl)) (aN rfl rfl)))) (b8 (a := 1000) (b := 1000) (by exact List.mem_cons_self) rfl (bW (by exact List.mem_cons_self) rfl) pre_nil) (bG (a := 1000) (b := 1000) (by decide) rfl (bW (by decide) rfl) (bG (a := 32) (b := 16) (by decide) rfl (Lb (by decide) rfl) post_nil)) (Lm (by decide)) ?_
 refine OP rfl (aD (aC (aG (aA (cE rfl (aD (aC ?_)))))))
 refine k7 (J := live [(0, Ty.pp (eL y fl 1000 fl.length)), (4, Ty.sl cS (gR fl x.1 (y.cells + 1))), (5, Ty.int .i64 (dc fl x.1 (y.cells + 1))), (6, Ty.mp 32), (7, Ty.int .i64 (eY fl x.1 (y.cells + 1) (cO fl x.1 (dc fl x.1 (y.cells + 1)))))] [(1000, Cont.vec cS 3 x.1), (32, Cont.mp KI.enc zm (cO fl x.1 (dc fl x.1 (y.cells + 1))))]) ?_ ?_
 ·
  refine aG (aA (fU rfl (cY rfl rfl rfl (bQ rfl (aD (aC (ak ?_)))))))
  refine cg (fun (j : {j : Nat // j ≤ (y.cells + 1) ∧ ∀ i, i < j → jr fl x.1 (cO fl x.1 (dc fl x.1 (y.cells + 1))) i = false}) => live [(0, Ty.pp (eL y fl 1000 fl.length)), (4, Ty.sl cS (gR fl x.1 (y.cells + 1))), (5, Ty.int .i64 (dc fl x.1 (y.cells + 1))), (6, Ty.mp 32), (7, Ty.int .i64 (-1)), (32, Ty.sl cS (gR fl x.1 (y.cells + 1))), (33, Ty.int .i64 (gR fl x.1 (y.cells + 1)).length), (34, Ty.int .i64 (j.1 : Nat))] [(1000, Cont.vec cS 3 x.1), (32, Cont.mp KI.enc zm (cO fl x.1 (dc fl x.1 (y.cells + 1))))]) (fun j => (y.cells + 1) - j.1) (⟨0, Nat.zero_le _, fun i hi => absurd hi (Nat.not_lt_zero i)⟩) ?_ fun j => ?_
  ·(refine dG.mk' ?_ ?_ <;> (repeat' (first | exact aI | exact aJ | refine aB ?_ (Ty.aU _) | refine aB ?_ (Ty.aE _) | refine aF rfl (Cont.aE _) ?_)))
  have hj := j.2.1
  refine aG (aA (bF rfl rfl rfl (aD (aC (aG ?_)))))
  refine aq rfl (fun hc3 => ?_) (fun hc3 => ?_)
  ·
   refine aj (aC (aG (ak (aG (aA (bQ rfl ?_))))))
   refine bH rfl rfl rfl rfl rfl rfl (by omega) ?_
   refine aL rfl rfl rfl rfl (cE rfl (cE rfl (aD (aC (aG (aA (Gw rfl (bQ rfl ?_))))))))
   refine yc KI (k := ((j.1 : Nat) : Int)) (z0 := (default : Way)) rfl rfl (by decide) rfl (vJ _) oD sj pP ?_
   refine qq rfl (bL rfl rfl (bL rfl rfl ?_))
   refine b9 rfl (by exact List.cons_ne_nil _ _) rfl ?_
   refine bp rfl rfl (by decide) rfl rfl rfl rfl rfl rfl ?_
   refine dw rfl (aD (aC (aG (aA (g8 rfl (g8 rfl ?_))))))
   apply aT (s := 46) rfl rfl rfl
   ·intro hg; apply aV; (refine bQ rfl ?_); refine aD ?_; exact rfl
   ·exact rfl
   ·exact rfl
   apply aT (s := 46) rfl rfl rfl
   ·intro hg; apply aR (s := 47) rfl (by (rw [hg]; rfl)); apply aV; (refine bF rfl rfl rfl ?_); refine aD ?_; exact rfl
   ·exact rfl
   ·exact rfl
   refine eX rfl rfl (aD (aC ?_))
   refine cx rfl (fun hc4 => ?_) (fun hc4 => ?_)
   ·
    refine aG (aA (bQ rfl (cE rfl (aD (aC (cZ (gH rfl (aQ (aQ ?_)))))))))
    refine ay rfl (fJ ?_)
    (refine dG.mk' ?_ ?_ <;> (repeat' (first | exact aI | exact aJ | refine aB ?_ (Ty.aU _) | refine aB ?_ (Ty.aE _) | refine aF rfl (Cont.aE _) ?_ | refine aB ?_ ?_)))
    all_goals exact Ty.au (K1 (by omega) j.2.2 (by rw [← B0 (n := (y.cells + 1)) (by omega)]; exact hc4))
   refine aj (bX (aC (aA ?_)))
   refine cD rfl rfl (by omega) (by omega) ?_
   refine bQ rfl (aD ?_)
   refine bl (⟨j.1 + 1, by omega, fun i hi => by by_cases e : i = j.1; (subst e; rw [← B0 (n := (y.cells + 1)) (by omega)]; exact hc4); exact j.2.2 i (by omega)⟩) ?_ (by show (y.cells + 1) - (j.1 + 1) < (y.cells + 1) - j.1; omega)
   (refine dG.mk' ?_ ?_ <;> (repeat' (first | exact aI | exact aJ | refine aB ?_ (Ty.aU _) | refine aB ?_ (Ty.aE _) | refine aF rfl (Cont.aE _) ?_)))
   all_goals skip
  refine cZ (aQ (aQ (ay rfl (fJ ?_))))
  (refine dG.mk' ?_ ?_ <;> (repeat' (first | exact aI | exact aJ | refine aB ?_ (Ty.aU _) | refine aB ?_ (Ty.aE _) | refine aF rfl (Cont.aE _) ?_ | refine aB ?_ ?_)))
  all_goals exact Ty.au (HN (by omega) j.2.2)
 refine aG (aG (aA (bQ rfl (bF rfl rfl rfl (aD (aC ?_))))))
 refine aq rfl (fun hc5 => ?_) (fun hc5 => ?_)
 ·
  refine aG (aA (bQ rfl (cE rfl (dw rfl (aD (aC (av (aW (bJ ?_)))))))))
  refine aW (bJ ?_)
  refine zo [1000] rfl rfl rfl (by decide) ?_ ?_ ?_
  ·exact c7 rfl (bW (by decide) (Mx (n9 hc1) x.2 hc2 hc5).2.2) dR
  all_goals skip
  all_goals first | exact eA (lA rfl rfl (congrArg (Ty.int .i64) (Mx (n9 hc1) x.2 hc2 hc5).1)) | exact eA (lA rfl rfl (congrArg Ty.bool (Mx (n9 hc1) x.2 hc2 hc5).2.1))
 refine aj (aC (aG ?_))
 obtain ⟨t, t1, t2, t3, t4⟩ := tW hc5
 have hnx := x.2.next hN hc2 hc5
 have hR := q3 (a := x.1) hN hs
 obtain ⟨dep, d0, hd⟩ := hR.arc
 have hmet : xz (cO fl x.1 (dc fl x.1 (y.cells + 1))) (dc fl x.1 (y.cells + 1)) (eY fl x.1 (y.cells + 1) (cO fl x.1 (dc fl x.1 (y.cells + 1)))) := by rw [t2]; obtain ⟨v, hv⟩ := Option.isSome_iff_exists.1 t3; exact .inr (mZ hv)
 have ht : 0 ≤ (eY fl x.1 (y.cells + 1) (cO fl x.1 (dc fl x.1 (y.cells + 1)))) ∧ (eY fl x.1 (y.cells + 1) (cO fl x.1 (dc fl x.1 (y.cells + 1)))) < ((y.cells + 1) : Nat) := by omega
 have ho1 := hov (dc fl x.1 (y.cells + 1))
 have ho2 := hov (eY fl x.1 (y.cells + 1) (cO fl x.1 (dc fl x.1 (y.cells + 1))))
 have hdq : dep (eY fl x.1 (y.cells + 1) (cO fl x.1 (dc fl x.1 (y.cells + 1)))) ≤ 21 := by
  obtain ⟨v, hv⟩ := Option.isSome_iff_exists.1 t3
  have h1 := (hd _ _ hv).2.2.2.2
  have h2 := hR.pT
  rw [t2]; omega
 refine aA (lB rfl (aD (aC (aG ?_))))
 have hoa := Eb (fl := fl) (a := x.1) (n := (y.cells + 1)) hs
 have hob := Eb (fl := fl) (a := x.1) (n := (y.cells + 1)) ht
 refine cW mixed rfl (fU rfl (bQ rfl ?_))
 refine j5 rfl rfl rfl rfl rfl rfl (by omega) (by omega) ?_
 refine aL rfl rfl rfl rfl (fU rfl (bQ rfl ?_))
 refine j5 rfl rfl rfl rfl rfl rfl (by omega) (by omega) ?_
 refine aL rfl rfl rfl rfl (Nt rfl ?_)
 refine bw (E := cS) (xs := [_]) rfl rfl rfl rfl rfl (by decide) (by decide) (by repeat (first | exact (aX.nil : aX _ _ [] _) | (show aX _ _ ((_, _) :: _) _; apply aX.one; (· exact (rfl : _ = Ty.int _ _)); (· exact rfl)))) (by exact rfl) rfl ?_
 refine az (sK _ _) rfl rfl rfl rfl rfl (cE rfl (aD ?_))
 refine ⟨by kernel_rfl, ?_⟩
 refine aC (aG (aG ?_))
 refine gT (s := 13) rfl (Ty.au (by rw [hoa, hob, Iy (by omega), Hw] : _ = (min (over fl x.1 (dc fl x.1 (y.cells + 1))) (-over fl x.1 (eY fl x.1 (y.cells + 1) (cO fl x.1 (dc fl x.1 (y.cells + 1)))))))) ?_
 refine aA (bQ rfl (cE rfl (aD (aC (ak ?_)))))
 refine cg (fun (p : {p : Int × List Way // KN fl x.1 (cO fl x.1 (dc fl x.1 (y.cells + 1))) (dc fl x.1 (y.cells + 1)) (eY fl x.1 (y.cells + 1) (cO fl x.1 (dc fl x.1 (y.cells + 1)))) dep p}) => live [(0, Ty.pp (eL y fl 1000 fl.length)), (5, Ty.int .i64 (dc fl x.1 (y.cells + 1))), (6, Ty.mp 32), (12, Ty.row fq 199 81 p.1.2), (13, Ty.int .i64 (fC fl x.1 (min (over fl x.1 (dc fl x.1 (y.cells + 1))) (-over fl x.1 (eY fl x.1 (y.cells + 1) (cO fl x.1 (dc fl x.1 (y.cells + 1)))))) p.1.2)), (14, Ty.int .i64 p.1.1)] [(1000, Cont.vec cS 3 x.1), (32, Cont.mp KI.enc zm (cO fl x.1 (dc fl x.1 (y.cells + 1))))]) (fun p => dep p.1.1) (⟨((eY fl x.1 (y.cells + 1) (cO fl x.1 (dc fl x.1 (y.cells + 1)))), []), OY hmet⟩) ?_ fun p => ?_
 ·(refine dG.mk' ?_ ?_ <;> (repeat' (first | exact aI | exact aJ | refine aB ?_ (Ty.aU _) | refine aB ?_ (Ty.aE _) | refine aB ?_ Ty.kN | refine aF rfl (Cont.aE _) ?_ | refine aB ?_ ?_)))
  all_goals exact Ty.au (wW _ _ _)
 have hpf := p.2.pT
 refine aG (aG (aA (bQ rfl (bQ rfl (bF rfl rfl rfl (aD (aC ?_)))))))
 refine dM rfl (fun hc6 => ?_) (fun hc6 => ?_)
 ·
  refine aj (aC (aG (ak (aG ?_))))
  have hpx := p.2.next hd hc6
  have hpo := hpx.2.2
  refine aA (I6 rfl (Gw rfl (bQ rfl ?_)))
  refine wL KI (k := p.1.1) (z0 := (default : Way)) rfl rfl (by decide) rfl (vJ _) oD sj pP ?_
  refine bw (E := fq) (xs := [jv (cO fl x.1 (dc fl x.1 (y.cells + 1))) p.1.1]) rfl rfl rfl rfl rfl (by decide) (by decide) (by repeat (first | exact (aX.nil : aX _ _ [] _) | (show aX _ _ ((_, _) :: _) _; apply aX.agg; (· exact (rfl : _ = Ty.agg _))))) (by exact rfl) rfl ?_
  refine eN rfl rfl (by decide) rfl rfl rfl rfl rfl rfl (by decide) (by (simp <;> omega)) (by (simp <;> omega)) ?_
  refine A4 rfl (aD (aC (aG (aA (jt rfl (Gw rfl (bQ rfl ?_)))))))
  refine wL KI (k := p.1.1) (z0 := (default : Way)) rfl rfl (by decide) rfl (vJ _) oD sj pP ?_
  refine dX [1000] (EH y fl x.1 hF (jv (cO fl x.1 (dc fl x.1 (y.cells + 1))) p.1.1) hpo.1) rfl (aM (kZ (aM (af (bI rfl rfl)) (aM (af (bI rfl rfl)) (aM (af (bI rfl rfl)) (aM (af (bI rfl rfl)) (aM (af (bI rfl rfl)) (aM (gY rfl hal (by decide) rfl) bf))))))) (aM (af (bI rfl rfl)) bf)) (by exact qQ (by repeat (first | exact p5 | refine oF (by exact dL _ _) ?_))) ?_
  refine qq rfl (bL rfl rfl (bL rfl rfl (cE rfl (cE rfl (aD (aC (aA (bQ rfl (bQ rfl ?_)))))))))
  refine bw (E := cS) (xs := [_]) rfl rfl rfl rfl rfl (by decide) (by decide) (by repeat (first | exact (aX.nil : aX _ _ [] _) | (show aX _ _ ((_, _) :: _) _; apply aX.one; (· exact (rfl : _ = Ty.int _ _)); (· exact rfl)))) (by exact rfl) rfl ?_
  refine az (sK _ _) rfl rfl rfl rfl rfl (cE rfl (aD (bX (aC (aA (jt rfl (Gw rfl (bQ rfl ?_))))))))
  refine wL KI (k := p.1.1) (z0 := (default : Way)) rfl rfl (by decide) rfl (vJ _) oD sj pP ?_
  refine dX [1000] (Az y fl x.1 (jv (cO fl x.1 (dc fl x.1 (y.cells + 1))) p.1.1) hpo.1) rfl (aM (kZ (aM (af (bI rfl rfl)) (aM (af (bI rfl rfl)) (aM (af (bI rfl rfl)) (aM (af (bI rfl rfl)) (aM (af (bI rfl rfl)) (aM (gY rfl hal (by decide) rfl) bf))))))) (aM (af (bI rfl rfl)) bf)) (by exact dL _ _) ?_
  refine cE rfl (aD ?_)
  refine bl (⟨((jv (cO fl x.1 (dc fl x.1 (y.cells + 1))) p.1.1).gq fl, p.1.2 ++ [jv (cO fl x.1 (dc fl x.1 (y.cells + 1))) p.1.1]), (p.2.next hd hc6).1⟩) ?_ (by exact (p.2.next hd hc6).2.1)
  (refine dG.mk' ?_ ?_ <;> (repeat' (first | exact aI | exact aJ | refine aB ?_ (Ty.aU _) | refine aB ?_ (Ty.aE _) | refine aF rfl (Cont.aE _) ?_ | refine aB ?_ ?_)))
  all_goals skip
  all_goals exact Ty.au xN
 refine cZ (aQ (aQ (ay rfl (aC ?_))))
 have hmp := p7 (fl := fl) (a := x.1) (m := (min (over fl x.1 (dc fl x.1 (y.cells + 1))) (-over fl x.1 (eY fl x.1 (y.cells + 1) (cO fl x.1 (dc fl x.1 (y.cells + 1))))))) (Kb (by rw [s2]; exact s3) (by rw [t2]; exact t4)) p.1.2 p.2.inv.ways
 have hml := (sM (fl := fl) (a := x.1) (min (over fl x.1 (dc fl x.1 (y.cells + 1))) (-over fl x.1 (eY fl x.1 (y.cells + 1) (cO fl x.1 (dc fl x.1 (y.cells + 1)))))) p.1.2).1
 refine lF (tg := 81) [(12, Ty.sl fq p.1.2)] (by decide) rfl ⟨E9 rfl, trivial⟩ ?_
 refine aA (jt rfl (fU rfl (bQ rfl ?_)))
 refine bk [(1000, 1000)] [] [(1000, Cont.vec cS 3 (eH x.1 p.1.2 (fC fl x.1 (min (over fl x.1 (dc fl x.1 (y.cells + 1))) (-over fl x.1 (eY fl x.1 (y.cells + 1) (cO fl x.1 (dc fl x.1 (y.cells + 1)))))) p.1.2)))] (HL y fl x.1 hF p.1.2 (by omega) (fun w hw => (p.2.inv.ways w hw).1) (fC fl x.1 (min (over fl x.1 (dc fl x.1 (y.cells + 1))) (-over fl x.1 (eY fl x.1 (y.cells + 1) (cO fl x.1 (dc fl x.1 (y.cells + 1)))))) p.1.2) (by omega)) rfl rfl (aH (aH (aH bD (aN rfl rfl)) (aN rfl rfl)) (fE (aH (aH (aH (aH (aH (aH bD (dj (by exact List.mem_cons_self))) (aN rfl rfl)) (aN rfl rfl)) (aN rfl rfl)) (aN rfl rfl)) (aN rfl rfl)))) (b8 (a := 1000) (b := 1000) (by exact List.mem_cons_self) rfl (bW (by exact List.mem_cons_self) rfl) pre_nil) (bG (a := 1000) (b := 1000) (by decide) rfl (bW (by decide) rfl) post_nil) (aN rfl rfl) ?_
 refine aD (bX ?_)
 refine bl (⟨kX fl x.1 (dc fl x.1 (y.cells + 1)) (eY fl x.1 (y.cells + 1) (cO fl x.1 (dc fl x.1 (y.cells + 1)))), hnx.1⟩) ?_ (by exact hnx.2.less)
 (refine dG.mk' ?_ ?_ <;> (repeat' (first | exact aI | exact aJ | refine aB ?_ (Ty.aU _) | refine aB ?_ (Ty.aE _) | refine aF rfl ?_ ?_)))
 all_goals skip
 all_goals exact Cont.dW (HS (p.2.end hc6))
end Go.Proofs.YtelbollidfdcjaaGreat
namespace Go.Proofs.YtelbollidfdcjaaGreat
open Go Go.T
section
variable {fl : List cC} {a : List Int} {n : Nat} {G : Nat → Int} {x : Ks}
structure rO (fl : List cC) (a : List Int) (n : Nat) (G : Nat → Int) (x : Ks) : Prop where
  inv : mH fl a n G x
  same : nB (mO fl a n G) x = iY fl a n G
theorem OW (hn : 0 < n) : rO fl a n G ⟨0, 0, 0, MV n⟩ := ⟨LS hn, rfl⟩
theorem rO.r (h : rO fl a n G x) : ¬ n ≤ x.r := by have := h.inv.r; omega
theorem rO.round (h : rO fl a n G x) (hc : n ≤ x.c) (ha : ¬ x.st.at_ < 0) : rO fl a n G ⟨x.r + 1, 0, 0, ⟨x.st.worth, x.st.by_, -1⟩⟩ :=
 ⟨h.inv.round hc (fun e => ha (by rw [h.inv.last e]; decide)), by rw [← gz (uY h.r hc ha)]; exact h.same⟩
theorem rO.stop (h : rO fl a n G x) (hc : n ≤ x.c) (ha : x.st.at_ < 0) : cJ fl a n G = [] := by
 refine uW ?_
 rw [← h.same]; exact iT (xK h.r hc ha)
theorem rO.cell (h : rO fl a n G x) (hc : ¬ n ≤ x.c) (hj : (bO fl a x.c).length ≤ x.j) : rO fl a n G ⟨x.r, x.c + 1, 0, x.st⟩ :=
 ⟨h.inv.cell hc hj, by rw [← gz (xQ h.r hc hj)]; exact h.same⟩
theorem rO.no (h : rO fl a n G x) (hc : ¬ n ≤ x.c) (hj : ¬ (bO fl a x.c).length ≤ x.j) (hg : lE fl G x.st x.c (nth (bO fl a x.c) x.j) = false) : rO fl a n G ⟨x.r, x.c, x.j + 1, x.st⟩ :=
 ⟨h.inv.no hc hj hg, by rw [← gz (BL h.r hc hj hg)]; exact h.same⟩
theorem rO.yes (hN : Net fl n) (hG : ∀ i, -1 ≤ G i ∧ G i ≤ 1) (h : rO fl a n G x) (hc : ¬ n ≤ x.c) (hj : ¬ (bO fl a x.c).length ≤ x.j) (hg : lE fl G x.st x.c (nth (bO fl a x.c) x.j) = true) (hr : ¬ x.r + 1 = n) : rO fl a n G ⟨x.r, x.c, x.j + 1, mG fl G x.st x.c (nth (bO fl a x.c) x.j)⟩ :=
 ⟨h.inv.yes hN hG hc hj hg hr, by rw [← gz (zX h.r hc hj hg hr)]; exact h.same⟩
structure Found (fl : List cC) (a : List Int) (n : Nat) (G : Nat → Int) (st : r7) (v : Nat) : Prop where
  found : ∃ R T τ, Gh fl a n G (n - 1) st R T τ ∧ v < n ∧ R v = n
  at_ : st.at_ = v
  same : cJ fl a n G = pR fl st (fS (cH fl st) n v)
  len : st.by_.length = n
theorem rO.last (hN : Net fl n) (hG : ∀ i, -1 ≤ G i ∧ G i ≤ 1) (h : rO fl a n G x) (hc : ¬ n ≤ x.c) (hj : ¬ (bO fl a x.c).length ≤ x.j) (hg : lE fl G x.st x.c (nth (bO fl a x.c) x.j) = true) (hr : x.r + 1 = n) :
    ∃ v : Nat, Found fl a n G (mG fl G x.st x.c (nth (bO fl a x.c) x.j)) v := by
  have h1 := h.inv.found hN hG hc hj hg hr
  have h2 : iY fl a n G = some (mG fl G x.st x.c (nth (bO fl a x.c) x.j)) := by
    rw [← h.same]; exact iT (xS h.r hc hj hg hr)
  cases h1 with
  | some _ R T τ v h3 hv e hR =>
    refine ⟨v, ⟨R, T, τ, h3, hv, hR⟩, e, ?_, h3.len.2⟩
    rw [uw h2, e, Int.toNat_natCast]
theorem mH.small (h : mH fl a n G x) (hn : n ≤ 21) (hl : fl.length ≤ 34) : x.st.worth.length = n ∧ x.st.by_.length = n ∧ ∀ v, v < n → 0 ≤ nth x.st.worth v ∧ nth x.st.worth v ≤ 40000 := by
 obtain ⟨R, T, τ, h1, h2, _⟩ := h.gh
 refine ⟨h1.len.1, h1.len.2, fun v hv => ?_⟩
 have h3 := h1.le v hv
 have h4 := h.r
 have h5 := h.c
 have h6 := h.j.1
 have e1 : x.r * (n * (2 * fl.length)) ≤ 21 * (21 * 68) := Nat.mul_le_mul (by omega) (Nat.mul_le_mul hn (by omega))
 have e2 : x.c * (2 * fl.length) ≤ 21 * 68 := Nat.mul_le_mul (by omega) (by omega)
 omega
variable {st : r7} {v s p : Nat}
theorem Found.chain (hN : Net fl n) (h : Found fl a n G st v) {k : Nat} (hk : k < n) : fS (cH fl st) k v < n ∧ Open fl a (nth st.by_ (fS (cH fl st) k v)) ∧ (nth st.by_ (fS (cH fl st) k v)).gq fl = (fS (cH fl st) (k + 1) v : Nat) := by
 obtain ⟨R, T, τ, h1, h2, h3⟩ := h.found
 obtain ⟨a1, a2⟩ := AP hN h1 h2 h3 k (by omega)
 obtain ⟨b1, _⟩ := h1.way _ a1 (by omega)
 refine ⟨a1, b1, ?_⟩
 have := (hN.way b1.1).1
 show _ = ((((nth st.by_ (fS (cH fl st) k v)).gq fl).toNat : Nat) : Int)
 omega
structure LU (fl : List cC) (a : List Int) (n : Nat) (st : r7) (s p : Nat) (x : Nat × List Way) : Prop where
  at_ : x.1 < n ∧ Open fl a (nth st.by_ x.1) ∧ (nth st.by_ x.1).gq fl = (cH fl st x.1 : Nat)
  ix : ∃ i, i ≤ p ∧ x.1 = fS (cH fl st) i s ∧ x.2.length = i
  same : nB (Bh fl st s) x = pR fl st s
theorem NV.gq {T : Nat → Nat} (hN : Net fl n) (h : NV fl a n G st T s) (t : Nat) : fS (cH fl st) t s < n ∧ Open fl a (nth st.by_ (fS (cH fl st) t s)) ∧ (nth st.by_ (fS (cH fl st) t s)).gq fl = (cH fl st (fS (cH fl st) t s) : Nat) := by
 refine ⟨h.at_ t, (h.way t).1, ?_⟩
 have := (hN.way (h.way t).1.1).1
 show _ = ((((nth st.by_ (fS (cH fl st) t s)).gq fl).toNat : Nat) : Int)
 omega
theorem EB {x : Nat × List Way} (h : ¬ (¬ x.2 = [] ∧ x.1 = s)) : Bh fl st s x = .inl (cH fl st x.1, x.2 ++ [nth st.by_ x.1]) := if_neg h
theorem DB {x : Nat × List Way} (h : ¬ x.2 = [] ∧ x.1 = s) : Bh fl st s x = .inr x.2 := if_pos h
theorem LU.next {T : Nat → Nat} (hN : Net fl n) (hC : NV fl a n G st T s) (hp : fS (cH fl st) p s = s) (hp1 : 1 ≤ p) {x : Nat × List Way} (h : LU fl a n st s p x) (hc : ¬ (¬ x.2 = [] ∧ x.1 = s)) :
 LU fl a n st s p (cH fl st x.1, x.2 ++ [nth st.by_ x.1]) ∧ x.2.length < p := by
 obtain ⟨i, h1, h2, h3⟩ := h.ix
 have hi : i < p := by
  by_cases e : i = p
  ·exfalso; apply hc
   subst e
   exact ⟨fun e => by rw [e] at h3; simp at h3; omega, h2.trans hp⟩
  omega
 have e : cH fl st x.1 = fS (cH fl st) (i + 1) s := by rw [h2]; rfl
 refine ⟨⟨?_, ⟨i + 1, hi, e, by rw [List.length_append, h3]; rfl⟩, ?_⟩, by omega⟩
 ·show cH fl st x.1 < n ∧ Open fl a (nth st.by_ (cH fl st x.1)) ∧ _ = ((cH fl st (cH fl st x.1) : Nat) : Int)
  rw [e]; exact hC.gq hN (i + 1)
 rw [← gz (EB hc)]; exact h.same
theorem LU.end {x : Nat × List Way} (h : LU fl a n st s p x) (hc : ¬ x.2 = [] ∧ x.1 = s) : x.2 = pR fl st s := by
 rw [← h.same]; exact (iT (DB hc)).symm
theorem Found.O4 (hN : Net fl n) (h : Found fl a n G st v) : ∃ T p, NV fl a n G st T (fS (cH fl st) n v) ∧ 1 ≤ p ∧ p ≤ n ∧ fS (cH fl st) p (fS (cH fl st) n v) = fS (cH fl st) n v ∧ LU fl a n st (fS (cH fl st) n v) p (fS (cH fl st) n v, []) := by
 obtain ⟨R, T, τ, h1, h2, h3⟩ := h.found
 have hC := IY hN h1 h2 h3
 obtain ⟨p, p1, p2, p3⟩ := hC.back
 exact ⟨T, p, hC, p1, p2, p3, ⟨hC.gq hN 0, ⟨0, Nat.zero_le _, rfl, rfl⟩, rfl⟩⟩
structure Mg (fl : List cC) (n : Nat) (G : Nat → Int) (a b : List Int) : Prop where
  feas : gb fl n b
  same : nB (stepG fl n G) b = gU fl n G a
theorem Da {b : List Int} (e : cJ fl b n G = []) : stepG fl n G b = .inr b := if_pos e
theorem DJ {b : List Int} (e : ¬ cJ fl b n G = []) : stepG fl n G b = .inl (eH b (cJ fl b n G) (fC fl b 300 (cJ fl b n G))) := if_neg e
theorem Mg.done {b : List Int} (h : Mg fl n G a b) (e : cJ fl b n G = []) : b = gU fl n G a := by
 rw [← h.same]; exact (iT (Da e)).symm
theorem Mg.next {b : List Int} (hN : Net fl n) (hn : 0 < n) (hB : Bd fl) (hG : ∀ i, -1 ≤ G i ∧ G i ≤ 1) (h : Mg fl n G a b) (e : ¬ cJ fl b n G = []) :
 Mg fl n G a (eH b (cJ fl b n G) (fC fl b 300 (cJ fl b n G))) ∧ (300 * fl.length - k9 fl G (eH b (cJ fl b n G) (fC fl b 300 (cJ fl b n G)))).toNat < (300 * fl.length - k9 fl G b).toNat ∧ EL fl b n G (cJ fl b n G) := by
 rcases ud (a := b) hN hn hG with ⟨e', _⟩ | hc
 ·exact absurd e' e
 have hb := uZ h.feas hc
 refine ⟨⟨hb.feas, ?_⟩, ?_, hc⟩
 ·rw [← h.same]; exact (gz (DJ e)).symm
 have h1 := hb.more
 have h2 := E8 hB hb.feas.1 hG
 omega
end
def iz (has : Nat → Bool) (x : List Int) (k : Nat) : Int := cy (fun i => if has i = true then nth x i else 0) k
theorem F2 {has : Nat → Bool} {x : List Int} {k : Nat} (h : has k = true) : iz has x k + nth x k = iz has x (k + 1) := by
 show _ = iz has x k + (if _ then _ else _); rw [if_pos h]
theorem Ig {has : Nat → Bool} {x : List Int} {k : Nat} (h : has k = false) : iz has x k = iz has x (k + 1) := by
 show _ = iz has x k + (if _ then _ else _); rw [if_neg (by rw [h]; decide)]; omega
theorem FQ {has : Nat → Bool} {x : List Int} {k : Nat} (h : ∀ i, i < k → 0 ≤ nth x i ∧ nth x i ≤ 300) : -(300 * (k : Int)) ≤ iz has x k ∧ iz has x k ≤ 300 * k := by
 refine rY (b := 300) fun i hi => ?_
 have := h i hi
 split <;> omega
theorem G9 {has : Nat → Bool} {less : Bool} {i : Nat} (h : has i = false) : dF has less i = 0 := by unfold dF; rw [h]; cases less <;> rfl
theorem yj {has : Nat → Bool} {less : Bool} {i : Nat} (h : has i = true) : dF has less i = if less = true then -1 else 1 := by unfold dF; rw [h]; cases less <;> rfl
theorem Jq {has : Nat → Bool} {less : Bool} {w : Way} (h : has w.ix = false) : 0 = fo (dF has less) w := by
 unfold fo xy; rw [G9 h]; cases w.more <;> rfl
theorem KP {has : Nat → Bool} {less : Bool} {w : Way} (h : has w.ix = true) (e : w.more ≠ less) : 1 = fo (dF has less) w := by
 unfold fo xy; rw [yj h]
 cases hm : w.more <;> cases hl : less <;> first | rfl | exact absurd (hm.trans hl.symm) e
theorem Jy {has : Nat → Bool} {less : Bool} {w : Way} (h : has w.ix = true) (e : w.more = less) : -1 = fo (dF has less) w := by
 unfold fo xy; rw [yj h, e]
 cases less <;> rfl
end Go.Proofs.YtelbollidfdcjaaGreat
namespace Go.Proofs.YtelbollidfdcjaaGreat
open Go Go.T
set_option maxHeartbeats 16000000
theorem Ns : Tryz.prog.underlying 4 = some .bool := Tryz.underlying4
section
variable {fl : List cC} {a : List Int} {n : Nat} {G : Nat → Int} {st : r7} {r c j : Nat} {w : Way}
def nL (fl : List cC) (G : Nat → Int) (st : r7) (c : Nat) (w : Way) : r7 := if lE fl G st c w = true then mG fl G st c w else st
theorem qH (h : nth st.worth c + fo G w > nth st.worth (w.fin fl).toNat) : nL fl G st c w = mG fl G st c w := if_pos (decide_eq_true h)
theorem s6 (h : ¬ nth st.worth c + fo G w > nth st.worth (w.fin fl).toNat) : nL fl G st c w = st := if_neg (by rw [show lE fl G st c w = false from decide_eq_false h]; decide)
theorem rO.Ms (hN : Net fl n) (hG : ∀ i, -1 ≤ G i ∧ G i ≤ 1) (h : rO fl a n G ⟨r, c, j, st⟩) (hc : c < n) (hj : j < (bO fl a c).length) (hg : nth st.worth c + fo G (nth (bO fl a c) j) > nth st.worth ((nth (bO fl a c) j).fin fl).toNat) (hr : ¬ (r : Int) = n - 1) : rO fl a n G ⟨r, c, j + 1, nL fl G st c (nth (bO fl a c) j)⟩ := by
 rw [qH hg]; exact h.yes hN hG (Nat.not_le.2 hc) (Nat.not_le.2 hj) (decide_eq_true hg) (by show ¬ r + 1 = n; intro e; apply hr; rw [← e]; show (r : Int) = ((r + 1 : Nat) : Int) - 1; omega)
theorem rO.Nw (h : rO fl a n G ⟨r, c, j, st⟩) (hc : c < n) (hj : j < (bO fl a c).length) (hg : ¬ nth st.worth c + fo G (nth (bO fl a c) j) > nth st.worth ((nth (bO fl a c) j).fin fl).toNat) : rO fl a n G ⟨r, c, j + 1, nL fl G st c (nth (bO fl a c) j)⟩ := by
 rw [s6 hg]; exact h.no (Nat.not_le.2 hc) (Nat.not_le.2 hj) (decide_eq_false hg)
theorem Nu (h : nth st.worth c + fo G w > nth st.worth (w.fin fl).toNat) : st.worth.set (w.fin fl).toNat (nth st.worth c + fo G w) = (nL fl G st c w).worth := by rw [qH h]; rfl
theorem Nl (h : nth st.worth c + fo G w > nth st.worth (w.fin fl).toNat) : st.by_.set (w.fin fl).toNat w = (nL fl G st c w).by_ := by rw [qH h]; rfl
theorem Ny (h : nth st.worth c + fo G w > nth st.worth (w.fin fl).toNat) : w.fin fl = (nL fl G st c w).at_ := by rw [qH h]; rfl
theorem Nh (h : ¬ nth st.worth c + fo G w > nth st.worth (w.fin fl).toNat) : st.worth = (nL fl G st c w).worth := by rw [s6 h]
theorem OJ (h : ¬ nth st.worth c + fo G w > nth st.worth (w.fin fl).toNat) : st.by_ = (nL fl G st c w).by_ := by rw [s6 h]
theorem Nd (h : ¬ nth st.worth c + fo G w > nth st.worth (w.fin fl).toNat) : st.at_ = (nL fl G st c w).at_ := by rw [s6 h]
theorem rO.hit (hN : Net fl n) (hG : ∀ i, -1 ≤ G i ∧ G i ≤ 1) (h : rO fl a n G ⟨r, c, j, st⟩) (hc : c < n) (hj : j < (bO fl a c).length) (hg : nth st.worth c + fo G (nth (bO fl a c) j) > nth st.worth ((nth (bO fl a c) j).fin fl).toNat) (hr : (r : Int) = n - 1) :
 ∃ (v : Nat) (s' : r7), st.worth.set ((nth (bO fl a c) j).fin fl).toNat (nth st.worth c + fo G (nth (bO fl a c) j)) = s'.worth ∧ st.by_.set ((nth (bO fl a c) j).fin fl).toNat (nth (bO fl a c) j) = s'.by_ ∧ (nth (bO fl a c) j).fin fl = ((v : Nat) : Int) ∧ Found fl a n G s' v := by
 obtain ⟨v, hv⟩ := h.last hN hG (Nat.not_le.2 hc) (Nat.not_le.2 hj) (decide_eq_true hg) (by show r + 1 = n; have := h.inv.r; omega)
 exact ⟨v, _, rfl, rfl, hv.at_, hv⟩
theorem Lh {e : List Way} {s : Nat} (h : (decide ((e.length : Int) = 0) || !decide ((c : Int) = (s : Int))) = true) : ¬ (¬ e = [] ∧ c = s) := by
 rintro ⟨h1, h2⟩
 have h3 : (e.length : Int) ≠ 0 := fun h => h1 (List.length_eq_zero_iff.1 (by omega))
 rw [decide_eq_false h3, decide_eq_true (by omega)] at h; cases h
theorem OL {e : List Way} {s : Nat} (h : (decide ((e.length : Int) = 0) || !decide ((c : Int) = (s : Int))) = false) : ¬ e = [] ∧ c = s := by
 rw [Bool.or_eq_false_iff] at h
 refine ⟨fun e0 => ?_, ?_⟩
 ·subst e0; exact absurd h.1 (by decide)
 have := of_decide_eq_true (gA h.2 : decide ((c : Int) = (s : Int)) = true); omega
theorem N0 {e : List Way} {p : Nat} (h : e.length < p) : p - (e ++ [w]).length < p - e.length := by rw [List.length_append]; show p - (e.length + 1) < _; omega
theorem O9 {s p : Nat} {x : Nat × List Way} (h : LU fl a n st s p x) (hc : ¬ x.2 = [] ∧ x.1 = s) : pR fl st s ≠ [] := by rw [← h.end hc]; exact hc.1
end
attribute [local irreducible] aP gl Way.gq Way.fin Way.room eW eH fB gR over bO cO dc eY jr fC gr kX cm gK fk fo dF cJ gU pR iY nL mG
attribute [local irreducible] iN fQ m5 qc ir iW ij iy iw qY iZ qW dz ga qV gG qd nth fP dh aa dy bodyPost Exit.then Exit.inBlock Code.wp Code.wpIn qh iq qb qU ia dn cU cj bodyPostM eF
set_option maxRecDepth 100000 in
theorem nG (y : ah) (fl : List cC) (a : List Int) (h : I0 y fl a) : dn Tryz.prog 119 [1000] [(1000, Cont.vec cS 3 a)] [Ty.pp (eL y fl 1000 fl.length)] [(1000, Cont.vec cS 3 (cm fl (y.cells + 1) a).2.2)] (Ty.bool (!(cm fl (y.cells + 1) a).2.1)) := by
 refine c6 Tryz.func119 rfl (by decide) Tryz.ntmps119 (by exact Nat.le_of_ble_eq_true rfl) fun w0 M0 => ?_
 refine aG (aA (dw rfl (aD (aC (aG (aA (jt rfl ?_)))))))
 refine bk [(1000, 1000)] [] [(1000, Cont.vec cS 3 (cm fl (y.cells + 1) a).2.2)] (J5 y fl a h) rfl rfl (aH bD (fE (aH (aH (aH (aH (aH (aH bD (dj (by exact List.mem_cons_self))) (aN rfl rfl)) (aN rfl rfl)) (aN rfl rfl)) (aN rfl rfl)) (aN rfl rfl)))) (b8 (a := 1000) (b := 1000) (by exact List.mem_cons_self) rfl (bW (by exact List.mem_cons_self) rfl) pre_nil) (bG (a := 1000) (b := 1000) (by decide) rfl (bW (by decide) rfl) post_nil) (aN rfl rfl) ?_
 refine qq rfl (bL rfl rfl (bL rfl rfl (cE rfl (dw rfl (aD (aC (aG (aA (g8 rfl ?_)))))))))
 refine eE rfl (dw rfl (aD (aC (av ?_))))
 refine ew [1000] rfl rfl (by decide) (by repeat (first | exact dR | refine c7 rfl (bW (by decide) rfl) ?_)) ?_
 all_goals exact eA (aN rfl rfl)
set_option maxRecDepth 100000 in
theorem Eu (th : Ty) (h1 : th.deps = []) (h2 : th.cdeps = []) (has : Nat → Bool) (less : Bool) (w : Way) (hf : oU Tryz.prog (Ty.nd th h1 h2) [Ty.int .i64 ((w.ix : Nat) : Int)] (Ty.bool (has w.ix))) : dy Tryz.prog 202 [Ty.agg [Ty.nd th h1 h2, Ty.bool less], Ty.agg (fq.tys w)] (Ty.int .i64 (fo (dF has less) w)) := by
 refine bC Tryz.func202 rfl (by decide) Tryz.ntmps202 (by exact Nat.le_of_ble_eq_true rfl) fun w0 M0 => ?_
 refine aG (aA (bM rfl (bM rfl (cE rfl (aD (aC (aG (aG (aA ?_)))))))))
 refine aO rfl rfl rfl rfl rfl (by decide) ?_
 refine aL rfl rfl rfl rfl ?_
 refine aO rfl rfl rfl rfl rfl (by decide) ?_
 refine aL rfl rfl rfl rfl (ep rfl hf rfl (eE rfl (aD (aC ?_))))
 refine cx rfl (fun hc1 => ?_) (fun hc1 => ?_)
 ·
  refine aG (aA (cE rfl (aD (aC (av (aW (bz rfl rfl ?_)))))))
  all_goals skip
  all_goals exact bE rfl rfl (congrArg (Ty.int .i64) (Jq (qt hc1)))
 refine aj (aC (aG (aG (aA ?_))))
 refine aO rfl rfl rfl rfl rfl (by decide) ?_
 refine aL rfl rfl rfl rfl ?_
 refine aO rfl rfl rfl rfl rfl (by decide) ?_
 refine aL rfl rfl rfl rfl (EX Ns rfl rfl (aD (aC ?_)))
 refine dM rfl (fun hc2 => ?_) (fun hc2 => ?_)
 ·
  refine aG (aA (cE rfl (aD (aC (av (aW (bz rfl rfl ?_)))))))
  all_goals skip
  all_goals exact bE rfl rfl (congrArg (Ty.int .i64) (KP (gA hc1) hc2))
 refine aj (aC (aG (aA (cE rfl (aD (aC (av (bz rfl rfl ?_))))))))
 all_goals skip
 all_goals exact bE rfl rfl (congrArg (Ty.int .i64) (Jy (gA hc1) hc2))
set_option maxRecDepth 100000 in
theorem G0 (y : ah) (fl : List cC) (a : List Int) (h : mC y fl a) (th : Ty) (h1 : th.deps = []) (h2 : th.cdeps = []) (has : Nat → Bool) (hf : ∀ i, i < fl.length → oU Tryz.prog (Ty.nd th h1 h2) [Ty.int .i64 ((i : Nat) : Int)] (Ty.bool (has i))) (less : Bool) : dn Tryz.prog 195 [1000] [(1000, Cont.vec cS 3 a)] [Ty.pp (eL y fl 1000 fl.length), Ty.agg [Ty.nd th h1 h2, Ty.bool less]] [(1000, Cont.vec cS 3 a)] (Ty.Gj fq (cJ fl a (y.cells + 1) (dF has less))) := by
 refine c6 Tryz.func195 rfl (by decide) Tryz.ntmps195 (by exact Nat.le_of_ble_eq_true rfl) fun w0 M0 => ?_
 have hal := h.inb.1
 have hN := h.net
 have hfl := h.pT
 have hcl := nR h.right
 have hG := sH (has := has) less
 refine aG (aA (bM rfl (lB rfl (aD (aC (KY (aG (aA (jt rfl ?_)))))))))
 refine dX [] (sG y h.right) rfl (aM (nH (l1 := bK y) (l2 := [Ty.sl dx fl, Ty.vs 1000 fl.length]) rfl rfl) bf) (by exact dL _ _) ?_
 refine cD rfl rfl (by omega) (by omega) ?_
 refine cE rfl (aD (aC (aG (cW mixed rfl (bQ rfl ?_)))))
 refine An (E := cS) (x0 := 0) rfl rfl rfl rfl rfl rfl rfl (by decide) rfl (by omega) (by (dsimp only; omega)) (by omega) ?_
 refine bQ rfl ?_
 refine An (E := fq) (x0 := default) rfl rfl rfl rfl rfl rfl rfl (by decide) rfl (by omega) (by (dsimp only; omega)) (by omega) ?_
 refine Od rfl (Od rfl (aD ?_))
 refine ⟨by kernel_rfl, ?_⟩
 refine aC (aG (aA (jt rfl ?_)))
 refine bk [(1000, 1000)] [] [(1000, Cont.vec cS 3 a)] (Iq y fl a h) rfl rfl (aH bD (fE (aH (aH (aH (aH (aH (aH bD (dj (by exact List.mem_cons_self))) (aN rfl rfl)) (aN rfl rfl)) (aN rfl rfl)) (aN rfl rfl)) (aN rfl rfl)))) (b8 (a := 1000) (b := 1000) (by exact List.mem_cons_self) rfl (bW (by exact List.mem_cons_self) rfl) pre_nil) (bG (a := 1000) (b := 1000) (by decide) rfl (bW (by decide) rfl) post_nil) (aN rfl rfl) ?_
 refine NJ rfl (aD (aC (aG (aA (cE rfl (aD (aC (aG (Jw ?_)))))))))
 refine aC (aG (aG (aA (bQ rfl (bQ rfl (aD (aC (ak ?_))))))))
 refine cg (fun (x : {x : Nat × r7 // rO fl a (y.cells + 1) (dF has less) ⟨x.1, 0, 0, x.2⟩ ∧ x.2.at_ = -1}) => live [(0, Ty.pp (eL y fl 1000 fl.length)), (3, Ty.pp [Ty.nd th h1 h2, Ty.bool less]), (5, Ty.int .i64 ((y.cells + 1) : Nat)), (6, Ty.vs 23 (y.cells + 1)), (7, Ty.vs 25 (y.cells + 1)), (8, Ty.pm KI.enc (JX fq) (eW fl a fl.length)), (27, Ty.int .i64 ((y.cells + 1) : Nat)), (28, Ty.int .i64 ((x.1.1 : Nat) : Int))] [(1000, Cont.vec cS 3 a), (23, Cont.vec cS 3 x.1.2.worth), (25, Cont.vec fq 199 x.1.2.by_)]) (fun x => (y.cells + 1) - x.1.1) (⟨(0, MV (y.cells + 1)), OW (by omega), rfl⟩) ?_ fun x => ?_
 ·(refine dG.mk' ?_ ?_ <;> (repeat' (first | exact aI | exact aJ | refine aB ?_ (Ty.aU _) | refine aB ?_ (Ty.aE _) | refine aF rfl (Cont.aE _) ?_)))
 have hxr : x.1.1 < (y.cells + 1) := x.2.1.inv.r
 have hxs : x.1.2.worth.length = (y.cells + 1) ∧ x.1.2.by_.length = (y.cells + 1) := ⟨(x.2.1.inv.small (by omega) hfl).1, (x.2.1.inv.small (by omega) hfl).2.1⟩
 refine aG (aA (bF rfl rfl rfl (aD (aC (aG ?_)))))
 refine p6 rfl (decide_eq_true (by show ((x.1.1 : Nat) : Int) < ((y.cells + 1) : Nat); have : x.1.1 < (y.cells + 1) := hxr; omega)) ?_
 refine aj (aC (aG (ak (aG (aA (bQ rfl (cE rfl (aD (aC ?_)))))))))
 refine aG (aA (cE rfl (aD (aC (aG (aG (aA (bQ rfl (bQ rfl ?_)))))))))
 refine aD (aC (ak ?_))
 refine cg (fun (z : {z : Nat × r7 // rO fl a (y.cells + 1) (dF has less) ⟨x.1.1, z.1, 0, z.2⟩}) => live [(0, Ty.pp (eL y fl 1000 fl.length)), (3, Ty.pp [Ty.nd th h1 h2, Ty.bool less]), (5, Ty.int .i64 ((y.cells + 1) : Nat)), (6, Ty.vs 23 (y.cells + 1)), (7, Ty.vs 25 (y.cells + 1)), (8, Ty.pm KI.enc (JX fq) (eW fl a fl.length)), (9, Ty.int .i64 z.1.2.at_), (10, Ty.int .i64 ((x.1.1 : Nat) : Int)), (27, Ty.int .i64 ((y.cells + 1) : Nat)), (28, Ty.int .i64 ((x.1.1 : Nat) : Int)), (31, Ty.int .i64 ((y.cells + 1) : Nat)), (32, Ty.int .i64 ((z.1.1 : Nat) : Int))] [(1000, Cont.vec cS 3 a), (23, Cont.vec cS 3 z.1.2.worth), (25, Cont.vec fq 199 z.1.2.by_)]) (fun z => (y.cells + 1) - z.1.1) (⟨(0, x.1.2), x.2.1⟩) ?_ fun z => ?_
 ·(refine dG.mk' ?_ ?_ <;> (repeat' (first | exact aI | exact aJ | refine aB ?_ (Ty.aU _) | refine aB ?_ (Ty.aE _) | refine aF rfl (Cont.aE _) ?_ | refine aB ?_ ?_)))
  all_goals exact Ty.au x.2.2.symm
 have hzc : z.1.1 ≤ (y.cells + 1) := z.2.inv.c
 have hzs : z.1.2.worth.length = (y.cells + 1) ∧ z.1.2.by_.length = (y.cells + 1) := ⟨(z.2.inv.small (by omega) hfl).1, (z.2.inv.small (by omega) hfl).2.1⟩
 refine aG (aA (bF rfl rfl rfl (aD (aC (aG ?_)))))
 refine aq rfl (fun hc2 => ?_) (fun hc2 => ?_)
 ·
  refine aj (aC (aG (ak (aG (aA (bQ rfl (cE rfl (aD (aC ?_)))))))))
  refine aG (aA (MP rfl (bQ rfl ?_)))
  refine zN KI (z0 := []) rfl rfl (vJ _) oG vo Bc ?_
  refine cY (E := fq) (xs := oS (eW fl a fl.length) ((z.1.1 : Nat) : Int)) rfl rfl rfl ?_
  refine bQ rfl (aD (aC ?_))
  refine gT (s := 37) rfl (show (Ty.sl fq (oS (eW fl a fl.length) ((z.1.1 : Nat) : Int))).Sub (Ty.sl fq (bO fl a z.1.1)) from Ty.hH rX) ?_
  refine gT (s := 38) rfl (Ty.au (congrArg (fun l : List Way => ((l.length : Nat) : Int)) (rX (c := ((z.1.1 : Nat) : Int))))) ?_
  refine ak ?_
  refine cg (fun (u : {u : Nat × r7 // rO fl a (y.cells + 1) (dF has less) ⟨x.1.1, z.1.1, u.1, u.2⟩}) => live [(0, Ty.pp (eL y fl 1000 fl.length)), (3, Ty.pp [Ty.nd th h1 h2, Ty.bool less]), (5, Ty.int .i64 ((y.cells + 1) : Nat)), (6, Ty.vs 23 (y.cells + 1)), (7, Ty.vs 25 (y.cells + 1)), (8, Ty.pm KI.enc (JX fq) (eW fl a fl.length)), (9, Ty.int .i64 u.1.2.at_), (10, Ty.int .i64 ((x.1.1 : Nat) : Int)), (11, Ty.int .i64 ((z.1.1 : Nat) : Int)), (27, Ty.int .i64 ((y.cells + 1) : Nat)), (28, Ty.int .i64 ((x.1.1 : Nat) : Int)), (31, Ty.int .i64 ((y.cells + 1) : Nat)), (32, Ty.int .i64 ((z.1.1 : Nat) : Int)), (37, Ty.sl fq (bO fl a z.1.1)), (38, Ty.int .i64 (bO fl a z.1.1).length), (39, Ty.int .i64 ((u.1.1 : Nat) : Int))] [(1000, Cont.vec cS 3 a), (23, Cont.vec cS 3 u.1.2.worth), (25, Cont.vec fq 199 u.1.2.by_)]) (fun u => (bO fl a z.1.1).length - u.1.1) (⟨(0, z.1.2), z.2⟩) ?_ fun u => ?_
  ·(refine dG.mk' ?_ ?_ <;> (repeat' (first | exact aI | exact aJ | refine aB ?_ (Ty.aU _) | refine aB ?_ (Ty.aE _) | refine aF rfl (Cont.aE _) ?_)))
  have hus : u.1.2.worth.length = (y.cells + 1) ∧ u.1.2.by_.length = (y.cells + 1) ∧ ∀ v, v < (y.cells + 1) → 0 ≤ nth u.1.2.worth v ∧ nth u.1.2.worth v ≤ 40000 := u.2.inv.small (by omega) hfl
  have hwl := ox (fl := fl) (a := a) (c := ((z.1.1 : Nat) : Int))
  refine aG (aA (bF rfl rfl rfl (aD (aC (aG ?_)))))
  refine aq rfl (fun hc3 => ?_) (fun hc3 => ?_)
  ·
   refine aj (aC (aG (ak (aG ?_))))
   have hzn : z.1.1 < (y.cells + 1) := by omega
   have hun : u.1.1 < (bO fl a z.1.1).length := by omega
   have hwo := (nU.1 (cL (xs := bO fl a z.1.1) (k := u.1.1) hun)).1
   have hwj := hwo
   have hwf := (hN.way hwo.1).2
   have haw := E1 hG (nth (bO fl a z.1.1) u.1.1)
   have hu1 := hus.2.2 z.1.1 hzn
   have hu2 := hus.2.2 ((nth (bO fl a z.1.1) u.1.1).fin fl).toNat (by omega)
   refine aA ?_
   refine bH rfl rfl rfl rfl rfl rfl (by omega) ?_
   refine aZ rfl rfl rfl (by exact Nat.le_of_ble_eq_true rfl) ?_
   refine b9 rfl (by exact List.cons_ne_nil _ _) rfl ?_
   refine bp rfl rfl (by decide) rfl rfl rfl rfl rfl rfl ?_
   refine aD (aC (aG (aA (jt rfl ?_))))
   refine bS rfl rfl (by decide) rfl rfl (by exact Nat.le_of_ble_eq_true rfl) ?_
   refine dX [1000] (EH y fl a h (nth (bO fl a z.1.1) u.1.1) hwj.1) rfl (aM (kZ (aM (af (bI rfl rfl)) (aM (af (bI rfl rfl)) (aM (af (bI rfl rfl)) (aM (af (bI rfl rfl)) (aM (af (bI rfl rfl)) (aM (gY rfl hal (by decide) rfl) bf))))))) (aM (af (bI rfl rfl)) bf)) (by exact qQ (by repeat (first | exact p5 | refine oF (by exact dL _ _) ?_))) ?_
   refine qq rfl (bL rfl rfl (bL rfl rfl (cE rfl (cE rfl (aD (aC (aG (cW mixed rfl (Jf rfl ?_)))))))))
   refine bQ rfl ?_
   refine eR rfl rfl rfl rfl rfl (by omega) ?_
   refine fA rfl rfl rfl (by decide) rfl rfl (by omega) rfl ?_
   refine aZ rfl rfl rfl (by exact Nat.le_of_ble_eq_true rfl) ?_
   refine bS rfl rfl (by decide) rfl rfl (by exact Nat.le_of_ble_eq_true rfl) ?_
   refine az (Eu th h1 h2 has less (nth (bO fl a z.1.1) u.1.1) (hf _ hwj.1)) rfl rfl rfl rfl rfl ?_
   refine cD rfl rfl (by omega) (by omega) ?_
   refine Jf rfl (bQ rfl ?_)
   refine fK rfl rfl rfl rfl rfl (by omega) (by omega) ?_
   refine fA rfl rfl rfl (by decide) rfl rfl (by omega) rfl ?_
   refine bF rfl rfl rfl (aD ?_)
   refine ⟨by kernel_rfl, ?_⟩
   refine aC ?_
   refine aq rfl (fun hc4 => ?_) (fun hc4 => ?_)
   ·
    refine aG (cW mixed rfl (Jf rfl (bQ rfl (Jf rfl (bQ rfl (Jf rfl (bQ rfl ?_)))))))
    refine eR rfl rfl rfl rfl rfl (by omega) ?_
    refine fA rfl rfl rfl (by decide) rfl rfl (by omega) rfl ?_
    refine aZ rfl rfl rfl (by exact Nat.le_of_ble_eq_true rfl) ?_
    refine bS rfl rfl (by decide) rfl rfl (by exact Nat.le_of_ble_eq_true rfl) ?_
    refine az (Eu th h1 h2 has less (nth (bO fl a z.1.1) u.1.1) (hf _ hwj.1)) rfl rfl rfl rfl rfl ?_
    refine cD rfl rfl (by omega) (by omega) ?_
    refine bS rfl rfl (by decide) rfl rfl (by exact Nat.le_of_ble_eq_true rfl) ?_
    refine bQ rfl ?_
    refine fK rfl rfl rfl rfl rfl (by omega) (by omega) ?_
    refine je rfl rfl rfl (by decide) rfl rfl (by exact (rfl : _ = Ty.int _ _)) rfl (by omega) (by decide) rfl rfl ?_
    refine fK rfl rfl rfl rfl rfl (by omega) (by omega) ?_
    refine lJ (E := fq) (z := (nth (bO fl a z.1.1) u.1.1)) ((nth (bO fl a z.1.1) u.1.1).fin fl).toNat rfl rfl rfl (by decide) rfl rfl rfl (by omega) ?_
    refine cE rfl (aD ?_)
    refine ⟨by kernel_rfl, ?_⟩
    refine aC (aG (aA (bQ rfl (bQ rfl ?_))))
    refine iB rfl rfl (by omega) (by omega) ?_
    refine bF rfl rfl rfl (aD (aC ?_))
    refine aq rfl (fun hc5 => ?_) (fun hc5 => ?_)
    ·
     refine cZ (gH rfl (aQ (aQ (gH rfl (gH rfl (aQ (aQ (gH rfl (aQ ?_)))))))))
     refine gH rfl (aQ (aQ (ay rfl (aC (aG (aG ?_))))))
     obtain ⟨v, st, e1, e2, e3, hFd⟩ := u.2.hit hN hG hzn hun hc4 hc5
     obtain ⟨T, p, hC, p1, p2, p3, hX⟩ := hFd.O4 hN
     refine fV (tg := 25) rfl (Cont.dW e2) ?_
     refine gT (s := 9) rfl (Ty.au e3) ?_
     refine aA (bQ rfl (bQ rfl (aD (aC (ak ?_)))))
     refine cg (fun (i : {i : Nat // i ≤ (y.cells + 1)}) => live [(0, Ty.pp (eL y fl 1000 fl.length)), (5, Ty.int .i64 ((y.cells + 1) : Nat)), (7, Ty.vs 25 (y.cells + 1)), (9, Ty.int .i64 ((fS (cH fl st) i.1 v : Nat) : Int)), (87, Ty.int .i64 ((y.cells + 1) : Nat)), (88, Ty.int .i64 ((i.1 : Nat) : Int))] [(1000, Cont.vec cS 3 a), (25, Cont.vec fq 199 st.by_)]) (fun i => (y.cells + 1) - i.1) (⟨0, by omega⟩) ?_ fun i => ?_
     ·(refine dG.mk' ?_ ?_ <;> (repeat' (first | exact aI | exact aJ | refine aB ?_ (Ty.aU _) | refine aB ?_ (Ty.aE _) | refine aF rfl (Cont.aE _) ?_)))
     refine aG (aA (bF rfl rfl rfl (aD (aC (aG ?_)))))
     refine aq rfl (fun hc6 => ?_) (fun hc6 => ?_)
     ·
      refine aj (aC (aG (ak ?_)))
      have hch := hFd.chain hN (k := i.1) (by omega)
      have hbl := hFd.len
      refine aA (jt rfl (Jf rfl (bQ rfl ?_)))
      refine eR rfl rfl rfl rfl rfl (by omega) ?_
      refine pF (fS (cH fl st) i.1 v) rfl rfl rfl (by decide) rfl rfl rfl (by omega) ?_
      refine dX [1000] (Az y fl a (nth st.by_ (fS (cH fl st) i.1 v)) hch.2.1.1) rfl (aM (kZ (aM (af (bI rfl rfl)) (aM (af (bI rfl rfl)) (aM (af (bI rfl rfl)) (aM (af (bI rfl rfl)) (aM (af (bI rfl rfl)) (aM (gY rfl hal (by decide) rfl) bf))))))) (aM (af (bI rfl rfl)) bf)) (by exact dL _ _) ?_
      refine cE rfl (aD (bX (aC (aA ?_))))
      refine cD rfl rfl (by omega) (by omega) ?_
      refine bQ rfl (aD ?_)
      refine bl (⟨i.1 + 1, by omega⟩) ?_ (by show (y.cells + 1) - (i.1 + 1) < (y.cells + 1) - i.1; omega)
      (refine dG.mk' ?_ ?_ <;> (repeat' (first | exact aI | exact aJ | refine aB ?_ (Ty.aU _) | refine aB ?_ (Ty.aE _) | refine aF rfl (Cont.aE _) ?_ | refine aB ?_ ?_)))
      all_goals skip
      all_goals exact Ty.au hch.2.2
     refine cZ (aQ (aQ (ay rfl (aC (aG ?_)))))
     have hbl := hFd.len
     have hin : i.1 = (y.cells + 1) := by have := i.2; omega
     refine gT (s := 9) rfl (Ty.au (by rw [hin] : _ = ((fS (cH fl st) (y.cells + 1) v : Nat) : Int))) ?_
     refine aA (lB rfl (aD (aC (aG (aG (aA (bQ rfl (cE rfl (aD ?_)))))))))
     refine aC (ak ?_)
     refine cg (fun (c : {c : Nat × List Way // LU fl a (y.cells + 1) st (fS (cH fl st) (y.cells + 1) v) p c}) => live [(0, Ty.pp (eL y fl 1000 fl.length)), (7, Ty.vs 25 (y.cells + 1)), (9, Ty.int .i64 ((fS (cH fl st) (y.cells + 1) v : Nat) : Int)), (16, Ty.row fq 199 118 c.1.2), (17, Ty.int .i64 ((c.1.1 : Nat) : Int))] [(1000, Cont.vec cS 3 a), (25, Cont.vec fq 199 st.by_)]) (fun c => p - c.1.2.length) (⟨(fS (cH fl st) (y.cells + 1) v, []), hX⟩) ?_ fun c => ?_
     ·(refine dG.mk' ?_ ?_ <;> (repeat' (first | exact aI | exact aJ | refine aB ?_ (Ty.aU _) | refine aB ?_ (Ty.aE _) | refine aB ?_ Ty.kN | refine aF rfl (Cont.aE _) ?_)))
      all_goals trace_state
     have hcx := c.2.at_
     have hci : c.1.2.length ≤ p := by obtain ⟨i, i1, _, i3⟩ := c.2.ix; omega
     refine aG (aG (aA (I6 rfl (nF rfl rfl rfl (bF rfl rfl rfl (g8 rfl ?_))))))
     apply aT (s := 101) rfl rfl rfl
     ·intro hg; apply aV; (refine bQ rfl ?_); refine aD ?_; exact rfl
     ·exact rfl
     ·exact rfl
     apply aT (s := 101) rfl rfl rfl
     ·intro hg; apply aV; (refine bQ rfl ?_); refine aD ?_; exact rfl
     ·exact rfl
     ·exact rfl
     apply aT (s := 101) rfl rfl rfl
     ·intro hg; apply aR (s := 102) rfl (by (rw [hg]; rfl)); apply aR (s := 103) rfl (by (rw [hg]; rfl)); apply aV; (refine bF rfl rfl rfl ?_); refine aD ?_; exact rfl
     ·exact rfl
     ·exact rfl
     refine qi rfl rfl (aD (aC ?_))
     refine cx rfl (fun hc7 => ?_) (fun hc7 => ?_)
     ·
      refine aj (aC (aG (ak (aA (I6 rfl (Jf rfl (bQ rfl ?_)))))))
      refine eR rfl rfl rfl rfl rfl (by omega) ?_
      refine pF c.1.1 rfl rfl rfl (by decide) rfl rfl rfl (by omega) ?_
      refine bw (E := fq) (xs := [_]) rfl rfl rfl rfl rfl (by decide) (by decide) (by repeat (first | exact (aX.nil : aX _ _ [] _) | (show aX _ _ ((_, _) :: _) _; apply aX.agg; (· exact (rfl : _ = Ty.agg _))))) (by exact rfl) rfl ?_
      refine eN rfl rfl (by decide) rfl rfl rfl rfl rfl rfl (by decide) (by (simp <;> omega)) (by (simp <;> omega)) ?_
      refine A4 rfl (aD (bX (aC (aA (jt rfl (Jf rfl (bQ rfl ?_)))))))
      refine eR rfl rfl rfl rfl rfl (by omega) ?_
      refine pF c.1.1 rfl rfl rfl (by decide) rfl rfl rfl (by omega) ?_
      refine dX [1000] (Az y fl a (nth st.by_ c.1.1) hcx.2.1.1) rfl (aM (kZ (aM (af (bI rfl rfl)) (aM (af (bI rfl rfl)) (aM (af (bI rfl rfl)) (aM (af (bI rfl rfl)) (aM (af (bI rfl rfl)) (aM (gY rfl hal (by decide) rfl) bf))))))) (aM (af (bI rfl rfl)) bf)) (by exact dL _ _) ?_
      refine cE rfl (aD ?_)
      refine bl (⟨(cH fl st c.1.1, c.1.2 ++ [nth st.by_ c.1.1]), (c.2.next hN hC p3 p1 (Lh hc7)).1⟩) ?_ (by exact N0 (c.2.next hN hC p3 p1 (Lh hc7)).2)
      (refine dG.mk' ?_ ?_ <;> (repeat' (first | exact aI | exact aJ | refine aB ?_ (Ty.aU _) | refine aB ?_ (Ty.aE _) | refine aF rfl (Cont.aE _) ?_ | refine aB ?_ ?_)))
      all_goals skip
      all_goals exact Ty.au hcx.2.2
     refine cZ (aQ (aQ (ay rfl (aC (aG (aA (I6 rfl (A4 rfl (aD ?_)))))))))
     refine aC (av (ug ?_))
     refine ew [1000] rfl rfl (by decide) (by repeat (first | exact dR | refine c7 rfl (bW (by decide) rfl) ?_)) ?_
     all_goals skip
     all_goals exact D6 (by decide) rfl (by rw [hFd.same]; exact c.2.end (OL hc7)) (by rw [hFd.same]; exact O9 c.2 (OL hc7))
    refine aj (bX (aC (aA ?_)))
    refine cD rfl rfl (by omega) (by omega) ?_
    refine bQ rfl (aD ?_)
    refine bl (⟨(u.1.1 + 1, nL fl (dF has less) u.1.2 z.1.1 (nth (bO fl a z.1.1) u.1.1)), by exact u.2.Ms hN hG hzn hun hc4 hc5⟩) ?_ (by show (bO fl a z.1.1).length - (u.1.1 + 1) < (bO fl a z.1.1).length - u.1.1; omega)
    (refine dG.mk' ?_ ?_ <;> (repeat' (first | exact aI | exact aJ | refine aB ?_ (Ty.aU _) | refine aB ?_ (Ty.aE _) | refine aF rfl (Cont.aE _) ?_ | refine aF rfl ?_ ?_ | refine aB ?_ ?_)))
    all_goals skip
    all_goals first | exact Cont.dW (Nu hc4) | exact Cont.dW (Nl hc4) | exact Ty.au (Ny hc4)
   refine aj (bX (aC (aA ?_)))
   refine cD rfl rfl (by omega) (by omega) ?_
   refine bQ rfl (aD ?_)
   refine bl (⟨(u.1.1 + 1, nL fl (dF has less) u.1.2 z.1.1 (nth (bO fl a z.1.1) u.1.1)), by exact u.2.Nw hzn hun hc4⟩) ?_ (by show (bO fl a z.1.1).length - (u.1.1 + 1) < (bO fl a z.1.1).length - u.1.1; omega)
   (refine dG.mk' ?_ ?_ <;> (repeat' (first | exact aI | exact aJ | refine aB ?_ (Ty.aU _) | refine aB ?_ (Ty.aE _) | refine aF rfl (Cont.aE _) ?_ | refine aF rfl ?_ ?_ | refine aB ?_ ?_)))
   all_goals skip
   all_goals first | exact Cont.dW (Nh hc4) | exact Cont.dW (OJ hc4) | exact Ty.au (Nd hc4)
  refine cZ (aQ (aQ (ay rfl (bX (aC (aA ?_))))))
  refine cD rfl rfl (by omega) (by omega) ?_
  refine bQ rfl (aD ?_)
  refine bl (⟨(z.1.1 + 1, u.1.2), u.2.cell (by show ¬ (y.cells + 1) ≤ z.1.1; omega) (by show (bO fl a z.1.1).length ≤ u.1.1; omega)⟩) ?_ (by show (y.cells + 1) - (z.1.1 + 1) < (y.cells + 1) - z.1.1; omega)
  (refine dG.mk' ?_ ?_ <;> (repeat' (first | exact aI | exact aJ | refine aB ?_ (Ty.aU _) | refine aB ?_ (Ty.aE _) | refine aF rfl (Cont.aE _) ?_)))
  all_goals skip
 refine cZ (aQ (aQ (ay rfl (aC (aG (aA (bQ rfl (bF rfl rfl rfl (aD ?_)))))))))
 refine aC ?_
 refine aq rfl (fun hc8 => ?_) (fun hc8 => ?_)
 ·
  refine aG (aA (lB rfl (aD (aC (av (bJ (aW (aW (bJ ?_)))))))))
  refine aW (ug ?_)
  refine ew [1000] rfl rfl (by decide) (by repeat (first | exact dR | refine c7 rfl (bW (by decide) rfl) ?_)) ?_
  all_goals skip
  all_goals exact Df (z.2.stop (by show (y.cells + 1) ≤ z.1.1; omega) (by assumption))
 refine aj (bX (aC (aA ?_)))
 refine cD rfl rfl (by omega) (by omega) ?_
 refine bQ rfl (aD ?_)
 refine bl (⟨(x.1.1 + 1, ⟨z.1.2.worth, z.1.2.by_, -1⟩), z.2.round (by show (y.cells + 1) ≤ z.1.1; omega) (by assumption), rfl⟩) ?_ (by show (y.cells + 1) - (x.1.1 + 1) < (y.cells + 1) - x.1.1; omega)
 (refine dG.mk' ?_ ?_ <;> (repeat' (first | exact aI | exact aJ | refine aB ?_ (Ty.aU _) | refine aB ?_ (Ty.aE _) | refine aF rfl (Cont.aE _) ?_)))
 all_goals skip
end Go.Proofs.YtelbollidfdcjaaGreat
