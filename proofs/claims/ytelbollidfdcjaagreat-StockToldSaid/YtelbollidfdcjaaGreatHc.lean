/- Lemmas: the program and the reference walked, plain laws. -/
import Derived.Test.YtelbollidfdcjaaGreatHb
namespace Go.Proofs.YtelbollidfdcjaaGreat
open Go Go.T
set_option maxHeartbeats 2000000
structure bB.Small (y : bB) : Prop where
  bins : y.bins.length ≤ 1000
  moves : y.moves.length ≤ 1000
  levels : y.levels.length ≤ 1000
def xV (y : bB) : Ty := Ty.Mr 135 [fH y]
def FG (y : bB) : Ty := Ty.pp [Ty.jc 142 [Ty.pp [xV y]]]
theorem Ed {y : bB} (h : mS y = false) : 1 ≤ y.days ∧ y.days ≤ 5 := by
 unfold mS at h
 simp only [Bool.or_eq_false_iff, Bool.not_eq_false', dJ] at h
 exact h.1.1.1
def dO (y : bB) (k : Int) : Int := if bZ y = 0 then if y.bin k = true then 0 else 1 else bZ y
theorem Ef {y : bB} {k : Int} (h : (decide (bZ y = 0) && !y.bin k) = true) : 1 = dO y k := by
 rw [Bool.and_eq_true, decide_eq_true_eq, Bool.not_eq_true'] at h
 unfold dO; rw [if_pos h.1, if_neg (by rw [h.2]; decide)]
theorem Et {y : bB} {k : Int} (h : (decide (bZ y = 0) && !y.bin k) = false) : bZ y = dO y k := by
 unfold dO
 by_cases e : bZ y = 0
 ·rw [decide_eq_true e, Bool.true_and, Bool.not_eq_false'] at h
  rw [if_pos e, if_pos h, e]
 rw [if_neg e]
attribute [local irreducible] iP fV m6 qX ig iw ia ij ir qN iy qQ eA ga qU gS qM nth fX dy aj dx bodyPost Exit.then Exit.inBlock Code.wp Code.wpIn qO iz qT qR iZ eR cW cZ bodyPostM eH
set_option maxRecDepth 100000 in
theorem qS (n lo hi : Int) : dx Tryz.prog 111 [Ty.int .i64 n, Ty.int .i64 lo, Ty.int .i64 hi] (Ty.bool (rJ n lo hi)) := by
 refine au Tryz.func111 rfl (by decide) Tryz.ntmps111 (by exact Nat.le_of_ble_eq_true rfl) fun w0 M0 => ?_
 refine aE (aA (dY rfl (aD (aC (aE (aA (bM rfl (bM rfl (bE rfl rfl rfl ?_)))))))))
 refine gU rfl ?_
 apply aS (s := 10) rfl rfl rfl
 ·intro hg; apply aT; (refine bM rfl ?_); refine aD ?_; exact rfl
 ·exact rfl
 ·exact rfl
 apply aS (s := 10) rfl rfl rfl
 ·intro hg; apply aT; (refine bM rfl ?_); refine aD ?_; exact rfl
 ·exact rfl
 ·exact rfl
 apply aS (s := 10) rfl rfl rfl
 ·intro hg; apply aO (s := 11) rfl (by (rw [hg]; rfl)); apply aO (s := 12) rfl (by (rw [hg]; rfl)); apply aT; (refine bE rfl rfl rfl ?_); refine aD ?_; exact rfl
 ·exact rfl
 ·exact rfl
 refine fB rfl rfl (dY rfl (aD (aC (az (bq rfl rfl ?_)))))
 all_goals exact cC rfl rfl
set_option maxRecDepth 100000 in
theorem Dm (y : bB) (hs : y.Small) (n : Int) : dx Tryz.prog 135 [fH y, Ty.int .i64 n] (Ty.bool (y.bin n)) := by
 refine au Tryz.func135 rfl (by decide) Tryz.ntmps135 (by exact Nat.le_of_ble_eq_true rfl) fun w0 M0 => ?_
 have hs1 := hs.bins
 refine aE (aA (bJ rfl (dY rfl (aD (aC (aE (aA (bM rfl ?_))))))))
 refine aM rfl rfl rfl rfl rfl (by decide) ?_
 refine aK rfl rfl rfl rfl (cx rfl rfl rfl ?_)
 refine gL rfl rfl (by omega) (by omega) ?_
 refine aa (qS _ _ _) rfl rfl rfl rfl rfl (dY rfl (aD (aC (az (bq rfl rfl ?_)))))
 all_goals exact cC rfl rfl
set_option maxRecDepth 100000 in
theorem IF (y : bB) (n : Int) : dx Tryz.prog 122 [fH y, Ty.int .i64 n] (Ty.bool (y.time n)) := by
 refine au Tryz.func122 rfl (by decide) Tryz.ntmps122 (by exact Nat.le_of_ble_eq_true rfl) fun w0 M0 => ?_
 refine aE (aA (bJ rfl (dY rfl (aD (aC (aE (aA (bM rfl ?_))))))))
 refine aM rfl rfl rfl rfl rfl (by decide) ?_
 refine aK rfl rfl rfl rfl (aa (qS _ _ _) rfl rfl rfl rfl rfl (dY rfl (aD (aC (az (bq rfl rfl ?_))))))
 all_goals exact cC rfl rfl
set_option maxRecDepth 100000 in
theorem sv (s : Span) : dx Tryz.prog 145 [Ty.agg (dV.tys s)] (Ty.bool (gO s)) := by
 refine au Tryz.func145 rfl (by decide) Tryz.ntmps145 (by exact Nat.le_of_ble_eq_true rfl) fun w0 M0 => ?_
 refine aE (aA (bJ rfl (dY rfl (aD (aC (aE (aA ?_)))))))
 refine aM rfl rfl rfl rfl rfl (by decide) ?_
 refine aK rfl rfl rfl rfl (aa (qS _ _ _) rfl rfl rfl rfl rfl (gU rfl ?_))
 apply aS (s := 6) rfl rfl rfl
 ·intro hg; apply aT; (refine aM rfl rfl rfl rfl rfl (by decide) ?_); refine aD ?_; exact rfl
 ·exact rfl
 ·exact rfl
 apply aS (s := 6) rfl rfl rfl
 ·intro hg; apply aO (s := 7) rfl (by (rw [hg]; rfl)); apply aT; (refine aK rfl rfl rfl rfl ?_); refine aD ?_; exact rfl
 ·exact rfl
 ·exact rfl
 apply aS (s := 6) rfl rfl rfl
 ·intro hg; apply aO (s := 8) rfl (by (rw [hg]; rfl)); apply aT; (refine aa (qS _ _ _) rfl rfl rfl rfl rfl ?_); refine aD ?_; exact rfl
 ·exact rfl
 ·exact rfl
 refine fB rfl rfl (dY rfl (aD (aC (az (bq rfl rfl ?_)))))
 all_goals exact cC rfl rfl
set_option maxRecDepth 100000 in
theorem wM (s : Span) : dx Tryz.prog 154 [Ty.agg (dV.tys s)] (Ty.bool (iD s)) := by
 refine au Tryz.func154 rfl (by decide) Tryz.ntmps154 (by exact Nat.le_of_ble_eq_true rfl) fun w0 M0 => ?_
 refine aE (aA (bJ rfl (dY rfl (aD (aC (aE (aA ?_)))))))
 refine aM rfl rfl rfl rfl rfl (by decide) ?_
 refine aK rfl rfl rfl rfl ?_
 refine aM rfl rfl rfl rfl rfl (by decide) ?_
 refine aK rfl rfl rfl rfl (bE rfl rfl rfl (dY rfl (aD (aC (az (bq rfl rfl ?_))))))
 all_goals exact cC rfl rfl
set_option maxRecDepth 100000 in
theorem Br (y : bB) (hs : y.Small) (n : Int) : dx Tryz.prog 142 [Ty.int .i64 n, Ty.pp [xV y]] (Ty.bool (y.fin n)) := by
 refine au Tryz.func142 rfl (by decide) Tryz.ntmps142 (by exact Nat.le_of_ble_eq_true rfl) fun w0 M0 => ?_
 refine aE (aA (dY rfl (aD (aC (aE (aA (bM rfl (bE rfl rfl rfl (gU rfl ?_)))))))))
 apply aS (s := 6) rfl rfl rfl
 ·intro hg; apply aT; (refine aK rfl rfl rfl rfl ?_); refine aD ?_; exact rfl
 ·exact rfl
 ·exact rfl
 apply aS (s := 6) rfl rfl rfl
 ·intro hg; apply aT; (refine bM rfl ?_); refine aD ?_; exact rfl
 ·exact rfl
 ·exact rfl
 apply aS (s := 6) rfl rfl rfl
 ·intro hg; apply aO (s := 7) rfl (by (rw [hg]; rfl)); apply aO (s := 8) rfl (by (rw [hg]; rfl)); apply aT; (refine eV rfl (Dj (Dm y hs n) rfl rfl rfl rfl rfl rfl) rfl ?_); refine aD ?_; exact rfl
 ·exact rfl
 ·exact rfl
 refine kj rfl rfl (dY rfl (aD (aC (az (bq rfl rfl ?_)))))
 all_goals exact cC rfl rfl
set_option maxRecDepth 100000 in
theorem GC (b : ve) : dx Tryz.prog 144 [Ty.agg (eU.tys b)] (Ty.bool (rJ b.holds 0 300 && gO b.first)) := by
 refine au Tryz.func144 rfl (by decide) Tryz.ntmps144 (by exact Nat.le_of_ble_eq_true rfl) fun w0 M0 => ?_
 refine aE (aA (bJ rfl (dY rfl (aD (aC (aE (aA ?_)))))))
 refine aM rfl rfl rfl rfl rfl (by decide) ?_
 refine aK rfl rfl rfl rfl (aa (qS _ _ _) rfl rfl rfl rfl rfl (gU rfl ?_))
 apply aS (s := 6) rfl rfl rfl
 ·intro hg; apply aT; (refine aM rfl rfl rfl rfl rfl (by decide) ?_); refine aD ?_; exact rfl
 ·exact rfl
 ·exact rfl
 apply aS (s := 6) rfl rfl rfl
 ·intro hg; apply aO (s := 7) rfl (by (rw [hg]; rfl)); apply aT; (refine aY rfl rfl rfl (by exact Nat.le_of_ble_eq_true rfl) ?_); refine aD ?_; exact rfl
 ·exact rfl
 ·exact rfl
 apply aS (s := 6) rfl rfl rfl
 ·intro hg; apply aO (s := 8) rfl (by (rw [hg]; rfl)); apply aT; (refine aa (sv _) rfl rfl rfl rfl rfl ?_); refine aD ?_; exact rfl
 ·exact rfl
 ·exact rfl
 refine fB rfl rfl (dY rfl (aD (aC (az (bq rfl rfl ?_)))))
 all_goals exact cC rfl rfl
set_option maxRecDepth 100000 in
theorem F6 (m : Move) : dx Tryz.prog 147 [Ty.agg (dm.tys m)] (Ty.bool (gO m.sacks)) := by
 refine au Tryz.func147 rfl (by decide) Tryz.ntmps147 (by exact Nat.le_of_ble_eq_true rfl) fun w0 M0 => ?_
 refine aE (aA (bJ rfl (dY rfl (aD (aC (aE (aA ?_)))))))
 refine aM rfl rfl rfl rfl rfl (by decide) ?_
 refine aY rfl rfl rfl (by exact Nat.le_of_ble_eq_true rfl) ?_
 refine aa (sv _) rfl rfl rfl rfl rfl (dY rfl (aD (aC (az (bq rfl rfl ?_)))))
 all_goals exact cC rfl rfl
set_option maxRecDepth 100000 in
theorem IS (l : Level) : dx Tryz.prog 149 [Ty.agg (ef.tys l)] (Ty.bool (gO l.sacks)) := by
 refine au Tryz.func149 rfl (by decide) Tryz.ntmps149 (by exact Nat.le_of_ble_eq_true rfl) fun w0 M0 => ?_
 refine aE (aA (bJ rfl (dY rfl (aD (aC (aE (aA ?_)))))))
 refine aM rfl rfl rfl rfl rfl (by decide) ?_
 refine aY rfl rfl rfl (by exact Nat.le_of_ble_eq_true rfl) ?_
 refine aa (sv _) rfl rfl rfl rfl rfl (dY rfl (aD (aC (az (bq rfl rfl ?_)))))
 all_goals exact cC rfl rfl
set_option maxRecDepth 100000 in
theorem Gj (y : bB) (hs : y.Small) (hd : 1 ≤ y.days ∧ y.days ≤ 5) (m : Move) : dx Tryz.prog 150 [Ty.agg (dm.tys m), Ty.pp (bk y), FG y] (Ty.bool ((rJ m.day 0 (y.days - 1) && y.fin m.src) && y.fin m.dst)) := by
 refine au Tryz.func150 rfl (by decide) Tryz.ntmps150 (by exact Nat.le_of_ble_eq_true rfl) fun w0 M0 => ?_
 refine aE (aA (bJ rfl (dY rfl (aD (aC (aE (aA ?_)))))))
 refine aM rfl rfl rfl rfl rfl (by decide) ?_
 refine aK rfl rfl rfl rfl ?_
 refine aM rfl rfl rfl rfl rfl (by decide) ?_
 refine aK rfl rfl rfl rfl ?_
 refine gL rfl rfl (by omega) (by omega) ?_
 refine aa (qS _ _ _) rfl rfl rfl rfl rfl (gU rfl ?_)
 apply aS (s := 11) rfl rfl rfl
 ·intro hg; apply aT; (refine aK rfl rfl rfl rfl ?_); refine aD ?_; exact rfl
 ·exact rfl
 ·exact rfl
 apply aS (s := 11) rfl rfl rfl
 ·intro hg; apply aT; (refine aM rfl rfl rfl rfl rfl (by decide) ?_); refine aD ?_; exact rfl
 ·exact rfl
 ·exact rfl
 apply aS (s := 11) rfl rfl rfl
 ·intro hg; apply aO (s := 13) rfl (by (rw [hg]; rfl)); apply aT; (refine aK rfl rfl rfl rfl ?_); refine aD ?_; exact rfl
 ·exact rfl
 ·exact rfl
 apply aS (s := 11) rfl rfl rfl
 ·intro hg; apply aO (s := 12) rfl (by (rw [hg]; rfl)); apply aO (s := 14) rfl (by (rw [hg]; rfl)); apply aT; (refine eV rfl (dN (Br y hs m.src) rfl rfl rfl rfl rfl rfl) rfl ?_); refine aD ?_; exact rfl
 ·exact rfl
 ·exact rfl
 refine fB rfl rfl (gU rfl ?_)
 apply aS (s := 17) rfl rfl rfl
 ·intro hg; apply aT; (refine aK rfl rfl rfl rfl ?_); refine aD ?_; exact rfl
 ·exact rfl
 ·exact rfl
 apply aS (s := 17) rfl rfl rfl
 ·intro hg; apply aT; (refine aM rfl rfl rfl rfl rfl (by decide) ?_); refine aD ?_; exact rfl
 ·exact rfl
 ·exact rfl
 apply aS (s := 17) rfl rfl rfl
 ·intro hg; apply aO (s := 19) rfl (by (rw [hg]; rfl)); apply aT; (refine aK rfl rfl rfl rfl ?_); refine aD ?_; exact rfl
 ·exact rfl
 ·exact rfl
 apply aS (s := 17) rfl rfl rfl
 ·intro hg; apply aO (s := 18) rfl (by (rw [hg]; rfl)); apply aO (s := 20) rfl (by (rw [hg]; rfl)); apply aT; (refine eV rfl (dN (Br y hs m.dst) rfl rfl rfl rfl rfl rfl) rfl ?_); refine aD ?_; exact rfl
 ·exact rfl
 ·exact rfl
 refine fB rfl rfl (dY rfl (aD (aC (az (bq rfl rfl ?_)))))
 all_goals exact cC rfl rfl
set_option maxRecDepth 100000 in
theorem Hu (y : bB) (hs : y.Small) (l : Level) : dx Tryz.prog 151 [Ty.agg (ef.tys l), Ty.pp (bk y), Ty.pp [xV y]] (Ty.bool (y.time l.day && y.bin l.bin)) := by
 refine au Tryz.func151 rfl (by decide) Tryz.ntmps151 (by exact Nat.le_of_ble_eq_true rfl) fun w0 M0 => ?_
 refine aE (aA (bJ rfl (dY rfl (aD (aC (aE (aA ?_)))))))
 refine aY rfl rfl rfl (by exact Nat.le_of_ble_eq_true rfl) ?_
 refine aM rfl rfl rfl rfl rfl (by decide) ?_
 refine aK rfl rfl rfl rfl (aa (IF y _) rfl rfl rfl rfl rfl (gU rfl ?_))
 apply aS (s := 9) rfl rfl rfl
 ·intro hg; apply aT; (refine aK rfl rfl rfl rfl ?_); refine aD ?_; exact rfl
 ·exact rfl
 ·exact rfl
 apply aS (s := 9) rfl rfl rfl
 ·intro hg; apply aT; (refine aM rfl rfl rfl rfl rfl (by decide) ?_); refine aD ?_; exact rfl
 ·exact rfl
 ·exact rfl
 apply aS (s := 9) rfl rfl rfl
 ·intro hg; apply aO (s := 11) rfl (by (rw [hg]; rfl)); apply aT; (refine aK rfl rfl rfl rfl ?_); refine aD ?_; exact rfl
 ·exact rfl
 ·exact rfl
 apply aS (s := 9) rfl rfl rfl
 ·intro hg; apply aO (s := 10) rfl (by (rw [hg]; rfl)); apply aO (s := 12) rfl (by (rw [hg]; rfl)); apply aT; (refine eV rfl (Dj (Dm y hs l.bin) rfl rfl rfl rfl rfl rfl) rfl ?_); refine aD ?_; exact rfl
 ·exact rfl
 ·exact rfl
 refine fB rfl rfl (dY rfl (aD (aC (az (bq rfl rfl ?_)))))
 all_goals exact cC rfl rfl
set_option maxRecDepth 100000 in
theorem Ia (m : Move) : dx Tryz.prog 152 [Ty.agg (dm.tys m)] (Ty.bool (!decide (m.src = m.dst))) := by
 refine au Tryz.func152 rfl (by decide) Tryz.ntmps152 (by exact Nat.le_of_ble_eq_true rfl) fun w0 M0 => ?_
 refine aE (aA (bJ rfl (dY rfl (aD (aC (aE (aA ?_)))))))
 refine aM rfl rfl rfl rfl rfl (by decide) ?_
 refine aK rfl rfl rfl rfl ?_
 refine aM rfl rfl rfl rfl rfl (by decide) ?_
 refine aK rfl rfl rfl rfl (bE rfl rfl rfl (dY rfl (aD (aC (az (bq rfl rfl ?_))))))
 all_goals exact cC rfl rfl
set_option maxRecDepth 100000 in
theorem HG (b : ve) : dx Tryz.prog 153 [Ty.agg (eU.tys b)] (Ty.bool (iD b.first)) := by
 refine au Tryz.func153 rfl (by decide) Tryz.ntmps153 (by exact Nat.le_of_ble_eq_true rfl) fun w0 M0 => ?_
 refine aE (aA (bJ rfl (dY rfl (aD (aC (aE (aA ?_)))))))
 refine aM rfl rfl rfl rfl rfl (by decide) ?_
 refine aY rfl rfl rfl (by exact Nat.le_of_ble_eq_true rfl) ?_
 refine aa (wM _) rfl rfl rfl rfl rfl (dY rfl (aD (aC (az (bq rfl rfl ?_)))))
 all_goals exact cC rfl rfl
set_option maxRecDepth 100000 in
theorem HX (m : Move) : dx Tryz.prog 155 [Ty.agg (dm.tys m)] (Ty.bool (iD m.sacks)) := by
 refine au Tryz.func155 rfl (by decide) Tryz.ntmps155 (by exact Nat.le_of_ble_eq_true rfl) fun w0 M0 => ?_
 refine aE (aA (bJ rfl (dY rfl (aD (aC (aE (aA ?_)))))))
 refine aM rfl rfl rfl rfl rfl (by decide) ?_
 refine aY rfl rfl rfl (by exact Nat.le_of_ble_eq_true rfl) ?_
 refine aa (wM _) rfl rfl rfl rfl rfl (dY rfl (aD (aC (az (bq rfl rfl ?_)))))
 all_goals exact cC rfl rfl
set_option maxRecDepth 100000 in
theorem E4 (l : Level) : dx Tryz.prog 156 [Ty.agg (ef.tys l)] (Ty.bool (iD l.sacks)) := by
 refine au Tryz.func156 rfl (by decide) Tryz.ntmps156 (by exact Nat.le_of_ble_eq_true rfl) fun w0 M0 => ?_
 refine aE (aA (bJ rfl (dY rfl (aD (aC (aE (aA ?_)))))))
 refine aM rfl rfl rfl rfl rfl (by decide) ?_
 refine aY rfl rfl rfl (by exact Nat.le_of_ble_eq_true rfl) ?_
 refine aa (wM _) rfl rfl rfl rfl rfl (dY rfl (aD (aC (az (bq rfl rfl ?_)))))
 all_goals exact cC rfl rfl
set_option maxRecDepth 100000 in
theorem jf (y : bB) (hs : y.Small) : dx Tryz.prog 70 [fH y] (Ty.int .i64 (bZ y)) := by
 refine au Tryz.func70 rfl (by decide) Tryz.ntmps70 (by exact Nat.le_of_ble_eq_true rfl) fun w0 M0 => ?_
 have hs1 := hs.bins
 have hs2 := hs.moves
 have hs3 := hs.levels
 refine aE (aA (bJ rfl (cB rfl (aD (aC (aE (aA ?_)))))))
 refine aY rfl rfl rfl (by exact Nat.le_of_ble_eq_true rfl) ?_
 refine FW (l := [fH y]) rfl ?_
 refine b8 rfl (by exact List.cons_ne_nil _ _) rfl ?_
 refine ct rfl rfl (by decide) rfl rfl (by exact (rfl : _ = Ty.Mr _ _)) rfl (by exact Nat.le_of_ble_eq_true rfl) rfl rfl (by exact (rfl : _ = [_])) ?_
 refine aD (aC (aE ?_))
 refine jY (tg := 4) [(3, Ty.pp [xV y])] (by decide) rfl ⟨kD (T := 118) (tg := 4) (off := 0) (l := [xV y]) rfl rfl rfl (by decide), trivial⟩ ?_
 refine aA (dH rfl ?_)
 refine b8 rfl (by exact List.cons_ne_nil _ _) rfl ?_
 refine ct rfl rfl (by decide) rfl rfl (by exact (rfl : _ = Ty.jc _ _)) rfl (by exact Nat.le_of_ble_eq_true rfl) rfl rfl (by exact (rfl : _ = [_])) ?_
 refine aD (aC (aE (ah (aE ?_))))
 refine jY (tg := 5) [(4, FG y)] (by decide) rfl ⟨kD (T := 118) (tg := 5) (off := 0) (l := [Ty.jc 142 [Ty.pp [xV y]]]) rfl rfl rfl (by decide), trivial⟩ ?_
 refine aA ?_
 refine aM rfl rfl rfl rfl rfl (by decide) ?_
 refine aK rfl rfl rfl rfl (aa (qS _ _ _) rfl rfl rfl rfl rfl (dM rfl (gU rfl ?_)))
 apply aS (s := 13) rfl rfl rfl
 ·intro hg; apply aT; (refine aM rfl rfl rfl rfl rfl (by decide) ?_); refine aD ?_; exact rfl
 ·exact rfl
 ·exact rfl
 apply aS (s := 13) rfl rfl rfl
 ·intro hg; apply aO (s := 14) rfl (by (rw [hg]; rfl)); apply aT; (refine aK rfl rfl rfl rfl ?_); refine aD ?_; exact rfl
 ·exact rfl
 ·exact rfl
 apply aS (s := 13) rfl rfl rfl
 ·intro hg; apply aO (s := 15) rfl (by (rw [hg]; rfl)); apply aT; (refine cx rfl rfl rfl ?_); refine aD ?_; exact rfl
 ·exact rfl
 ·exact rfl
 apply aS (s := 13) rfl rfl rfl
 ·intro hg; apply aO (s := 16) rfl (by (rw [hg]; rfl)); apply aT; (refine aa (qS _ _ _) rfl rfl rfl rfl rfl ?_); refine aD ?_; exact rfl
 ·exact rfl
 ·exact rfl
 apply aS (s := 13) rfl rfl rfl
 ·intro hg; apply aO (s := 17) rfl (by (rw [hg]; rfl)); apply aT; (refine dM rfl ?_); refine aD ?_; exact rfl
 ·exact rfl
 ·exact rfl
 refine kj rfl rfl (gU rfl ?_)
 apply aS (s := 20) rfl rfl rfl
 ·intro hg; apply aT; (refine aM rfl rfl rfl rfl rfl (by decide) ?_); refine aD ?_; exact rfl
 ·exact rfl
 ·exact rfl
 apply aS (s := 20) rfl rfl rfl
 ·intro hg; apply aO (s := 21) rfl (by (rw [hg]; rfl)); apply aT; (refine aK rfl rfl rfl rfl ?_); refine aD ?_; exact rfl
 ·exact rfl
 ·exact rfl
 apply aS (s := 20) rfl rfl rfl
 ·intro hg; apply aO (s := 22) rfl (by (rw [hg]; rfl)); apply aT; (refine cx rfl rfl rfl ?_); refine aD ?_; exact rfl
 ·exact rfl
 ·exact rfl
 apply aS (s := 20) rfl rfl rfl
 ·intro hg; apply aO (s := 23) rfl (by (rw [hg]; rfl)); apply aT; (refine bE rfl rfl rfl ?_); refine aD ?_; exact rfl
 ·exact rfl
 ·exact rfl
 refine kj rfl rfl (gU rfl ?_)
 apply aS (s := 26) rfl rfl rfl
 ·intro hg; apply aT; (refine aM rfl rfl rfl rfl rfl (by decide) ?_); refine aD ?_; exact rfl
 ·exact rfl
 ·exact rfl
 apply aS (s := 26) rfl rfl rfl
 ·intro hg; apply aO (s := 27) rfl (by (rw [hg]; rfl)); apply aT; (refine aK rfl rfl rfl rfl ?_); refine aD ?_; exact rfl
 ·exact rfl
 ·exact rfl
 apply aS (s := 26) rfl rfl rfl
 ·intro hg; apply aO (s := 28) rfl (by (rw [hg]; rfl)); apply aT; (refine cx rfl rfl rfl ?_); refine aD ?_; exact rfl
 ·exact rfl
 ·exact rfl
 apply aS (s := 26) rfl rfl rfl
 ·intro hg; apply aO (s := 29) rfl (by (rw [hg]; rfl)); apply aT; (refine bE rfl rfl rfl ?_); refine aD ?_; exact rfl
 ·exact rfl
 ·exact rfl
 refine kj rfl rfl (dY rfl (aD (aC ?_)))
 refine cY rfl (fun hc1 => ?_) (fun hc1 => ?_)
 ·
  refine aE (aA (cB rfl (aD (aC (az (bD (aV (bq rfl rfl ?_))))))))
  all_goals skip
  exact ay rfl rfl (congrArg (Ty.int .i64) (by rw [bZ, if_pos (show mS y = true from hc1)]))
 refine aE ?_
 refine dw (B := live [(1, Ty.pp (bk y)), (3, Ty.pp [xV y]), (4, FG y)] []) ?_ ?_
 ·(refine dD.mk' ?_ ?_ <;> (repeat' (first | exact aH | exact aI | refine aB ?_ (Ty.aW _) | refine aB ?_ (Ty.aF _))))
 refine aA ?_
 refine aM rfl rfl rfl rfl rfl (by decide) ?_
 refine aK rfl rfl rfl rfl ?_
 refine aa (uV y.bins (Ty.jc _ []) rfl (fun b => rJ b.holds 0 300 && gO b.first) rfl rfl fun b _ => dN (GC b) rfl rfl rfl rfl rfl rfl) rfl rfl rfl rfl rfl ?_
 refine dM rfl (dY rfl (aD (aC ?_)))
 refine cY rfl (fun hc2 => ?_) (fun hc2 => ?_)
 ·
  refine aE (aA (cB rfl (aD (aC (az (bD (aV (bq rfl rfl ?_))))))))
  all_goals skip
  exact ay rfl rfl (congrArg (Ty.int .i64) (by rw [bZ, if_neg (ng (show mS y = false from hc1)), if_pos (show mq y = true from hc2)]))
 refine aE (aA ?_)
 refine aM rfl rfl rfl rfl rfl (by decide) ?_
 refine aK rfl rfl rfl rfl ?_
 refine aa (mI y.moves (Ty.jc _ []) rfl (fun m => gO m.sacks) rfl rfl fun m _ => dN (F6 m) rfl rfl rfl rfl rfl rfl) rfl rfl rfl rfl rfl ?_
 refine dM rfl (gU rfl ?_)
 apply aS (s := 42) rfl rfl rfl
 ·intro hg; apply aT; (refine aM rfl rfl rfl rfl rfl (by decide) ?_); refine aD ?_; exact rfl
 ·exact rfl
 ·exact rfl
 apply aS (s := 42) rfl rfl rfl
 ·intro hg; apply aO (s := 43) rfl (by (rw [hg]; rfl)); apply aT; (refine aK rfl rfl rfl rfl ?_); refine aD ?_; exact rfl
 ·exact rfl
 ·exact rfl
 apply aS (s := 42) rfl rfl rfl
 ·intro hg; apply aO (s := 44) rfl (by (rw [hg]; rfl)); apply aT; (refine aa (mK y.levels (Ty.jc _ []) rfl (fun l => gO l.sacks) rfl rfl fun l _ => dN (IS l) rfl rfl rfl rfl rfl rfl) rfl rfl rfl rfl rfl ?_); refine aD ?_; exact rfl
 ·exact rfl
 ·exact rfl
 apply aS (s := 42) rfl rfl rfl
 ·intro hg; apply aO (s := 45) rfl (by (rw [hg]; rfl)); apply aT; (refine dM rfl ?_); refine aD ?_; exact rfl
 ·exact rfl
 ·exact rfl
 refine kj rfl rfl (dY rfl (aD (aC ?_)))
 refine cY rfl (fun hc3 => ?_) (fun hc3 => ?_)
 ·
  refine aE (aA (cB rfl (aD (aC (az (bD (aV (bq rfl rfl ?_))))))))
  all_goals skip
  exact ay rfl rfl (congrArg (Ty.int .i64) (by rw [bZ, if_neg (ng (show mS y = false from hc1)), if_neg (ng (show mq y = false from hc2)), if_pos (show kB y = true from hc3)]))
 refine aE ?_
 refine dw (B := live [(1, Ty.pp (bk y)), (3, Ty.pp [xV y]), (4, FG y)] []) ?_ ?_
 ·(refine dD.mk' ?_ ?_ <;> (repeat' (first | exact aH | exact aI | refine aB ?_ (Ty.aW _) | refine aB ?_ (Ty.aF _))))
 have hd := Ed hc1
 refine aA ?_
 refine aM rfl rfl rfl rfl rfl (by decide) ?_
 refine aK rfl rfl rfl rfl (dH rfl ?_)
 refine aa (mI y.moves (Ty.jc _ [Ty.pp (bk y), FG y]) rfl (fun m => (rJ m.day 0 (y.days - 1) && y.fin m.src) && y.fin m.dst) rfl rfl fun m _ => dN (Gj y hs hd m) rfl rfl rfl rfl rfl rfl) rfl rfl rfl rfl rfl ?_
 refine dM rfl (dY rfl (aD (aC ?_)))
 refine cY rfl (fun hc4 => ?_) (fun hc4 => ?_)
 ·
  refine aE (aA (cB rfl (aD (aC (az (bD (aV (bq rfl rfl ?_))))))))
  all_goals skip
  exact ay rfl rfl (congrArg (Ty.int .i64) (by rw [bZ, if_neg (ng (show mS y = false from hc1)), if_neg (ng (show mq y = false from hc2)), if_neg (ng (show kB y = false from hc3)), if_pos (show Ap y = true from hc4)]))
 refine aE (aA ?_)
 refine aM rfl rfl rfl rfl rfl (by decide) ?_
 refine aK rfl rfl rfl rfl (dH rfl ?_)
 refine aa (mK y.levels (Ty.jc _ [Ty.pp (bk y), Ty.pp [xV y]]) rfl (fun l => y.time l.day && y.bin l.bin) rfl rfl fun l _ => dN (Hu y hs l) rfl rfl rfl rfl rfl rfl) rfl rfl rfl rfl rfl ?_
 refine dM rfl (dY rfl (aD (aC ?_)))
 refine cY rfl (fun hc5 => ?_) (fun hc5 => ?_)
 ·
  refine aE (aA (cB rfl (aD (aC (az (bD (aV (bq rfl rfl ?_))))))))
  all_goals skip
  exact ay rfl rfl (congrArg (Ty.int .i64) (by rw [bZ, if_neg (ng (show mS y = false from hc1)), if_neg (ng (show mq y = false from hc2)), if_neg (ng (show kB y = false from hc3)), if_neg (ng (show Ap y = false from hc4)), if_pos (show vX y = true from hc5)]))
 refine aE ?_
 refine dw (B := live [(1, Ty.pp (bk y)), (3, Ty.pp [xV y]), (4, FG y)] []) ?_ ?_
 ·(refine dD.mk' ?_ ?_ <;> (repeat' (first | exact aH | exact aI | refine aB ?_ (Ty.aW _) | refine aB ?_ (Ty.aF _))))
 refine aA ?_
 refine aM rfl rfl rfl rfl rfl (by decide) ?_
 refine aK rfl rfl rfl rfl ?_
 refine aa (mI y.moves (Ty.jc _ []) rfl (fun m => !decide (m.src = m.dst)) rfl rfl fun m _ => dN (Ia m) rfl rfl rfl rfl rfl rfl) rfl rfl rfl rfl rfl ?_
 refine dM rfl (dY rfl (aD (aC ?_)))
 refine cY rfl (fun hc6 => ?_) (fun hc6 => ?_)
 ·
  refine aE (aA (cB rfl (aD (aC (az (bD (aV (bq rfl rfl ?_))))))))
  all_goals skip
  exact ay rfl rfl (congrArg (Ty.int .i64) (by rw [bZ, if_neg (ng (show mS y = false from hc1)), if_neg (ng (show mq y = false from hc2)), if_neg (ng (show kB y = false from hc3)), if_neg (ng (show Ap y = false from hc4)), if_neg (ng (show vX y = false from hc5)), if_pos (show tM y = true from hc6)]))
 refine aE (aA ?_)
 refine aM rfl rfl rfl rfl rfl (by decide) ?_
 refine aK rfl rfl rfl rfl ?_
 refine aa (uV y.bins (Ty.jc _ []) rfl (fun b => iD b.first) rfl rfl fun b _ => dN (HG b) rfl rfl rfl rfl rfl rfl) rfl rfl rfl rfl rfl ?_
 refine dM rfl (gU rfl ?_)
 apply aS (s := 70) rfl rfl rfl
 ·intro hg; apply aT; (refine aM rfl rfl rfl rfl rfl (by decide) ?_); refine aD ?_; exact rfl
 ·exact rfl
 ·exact rfl
 apply aS (s := 70) rfl rfl rfl
 ·intro hg; apply aO (s := 71) rfl (by (rw [hg]; rfl)); apply aT; (refine aK rfl rfl rfl rfl ?_); refine aD ?_; exact rfl
 ·exact rfl
 ·exact rfl
 apply aS (s := 70) rfl rfl rfl
 ·intro hg; apply aO (s := 72) rfl (by (rw [hg]; rfl)); apply aT; (refine aa (mI y.moves (Ty.jc _ []) rfl (fun m => iD m.sacks) rfl rfl fun m _ => dN (HX m) rfl rfl rfl rfl rfl rfl) rfl rfl rfl rfl rfl ?_); refine aD ?_; exact rfl
 ·exact rfl
 ·exact rfl
 apply aS (s := 70) rfl rfl rfl
 ·intro hg; apply aO (s := 73) rfl (by (rw [hg]; rfl)); apply aT; (refine dM rfl ?_); refine aD ?_; exact rfl
 ·exact rfl
 ·exact rfl
 refine kj rfl rfl (gU rfl ?_)
 apply aS (s := 76) rfl rfl rfl
 ·intro hg; apply aT; (refine aM rfl rfl rfl rfl rfl (by decide) ?_); refine aD ?_; exact rfl
 ·exact rfl
 ·exact rfl
 apply aS (s := 76) rfl rfl rfl
 ·intro hg; apply aO (s := 77) rfl (by (rw [hg]; rfl)); apply aT; (refine aK rfl rfl rfl rfl ?_); refine aD ?_; exact rfl
 ·exact rfl
 ·exact rfl
 apply aS (s := 76) rfl rfl rfl
 ·intro hg; apply aO (s := 78) rfl (by (rw [hg]; rfl)); apply aT; (refine aa (mK y.levels (Ty.jc _ []) rfl (fun l => iD l.sacks) rfl rfl fun l _ => dN (E4 l) rfl rfl rfl rfl rfl rfl) rfl rfl rfl rfl rfl ?_); refine aD ?_; exact rfl
 ·exact rfl
 ·exact rfl
 apply aS (s := 76) rfl rfl rfl
 ·intro hg; apply aO (s := 79) rfl (by (rw [hg]; rfl)); apply aT; (refine dM rfl ?_); refine aD ?_; exact rfl
 ·exact rfl
 ·exact rfl
 refine kj rfl rfl (dY rfl (aD (aC ?_)))
 refine cY rfl (fun hc7 => ?_) (fun hc7 => ?_)
 ·
  refine aE (aA (cB rfl (aD (aC (az (bD (aV (bq rfl rfl ?_))))))))
  all_goals skip
  exact ay rfl rfl (congrArg (Ty.int .i64) (by rw [bZ, if_neg (ng (show mS y = false from hc1)), if_neg (ng (show mq y = false from hc2)), if_neg (ng (show kB y = false from hc3)), if_neg (ng (show Ap y = false from hc4)), if_neg (ng (show vX y = false from hc5)), if_neg (ng (show tM y = false from hc6)), if_pos (show td y = true from hc7)]))
 refine ak (bW (aC (aE (aA (cB rfl (aD (aC (az (bq rfl rfl ?_)))))))))
 all_goals skip
 exact ay rfl rfl (congrArg (Ty.int .i64) (by rw [bZ, if_neg (ng (show mS y = false from hc1)), if_neg (ng (show mq y = false from hc2)), if_neg (ng (show kB y = false from hc3)), if_neg (ng (show Ap y = false from hc4)), if_neg (ng (show vX y = false from hc5)), if_neg (ng (show tM y = false from hc6)), if_neg (ng (show td y = false from hc7))]))
set_option maxRecDepth 100000 in
theorem vQ (y : bB) (hs : y.Small) (k : Int) : dx Tryz.prog 90 [fH y, Ty.int .i64 k] (Ty.int .i64 (dO y k)) := by
 refine au Tryz.func90 rfl (by decide) Tryz.ntmps90 (by exact Nat.le_of_ble_eq_true rfl) fun w0 M0 => ?_
 refine aE (aA (bJ rfl (cB rfl (aD (aC (aE (aA ?_)))))))
 refine aY rfl rfl rfl (by exact Nat.le_of_ble_eq_true rfl) ?_
 refine aa (jf y hs) rfl rfl rfl rfl rfl (cB rfl (aD (aC (aE (aE (aA (bM rfl (bE rfl rfl rfl (gU rfl ?_)))))))))
 apply aS (s := 10) rfl rfl rfl
 ·intro hg; apply aT; (refine aY rfl rfl rfl (by exact Nat.le_of_ble_eq_true rfl) ?_); refine aD ?_; exact rfl
 ·exact rfl
 ·exact rfl
 apply aS (s := 10) rfl rfl rfl
 ·intro hg; apply aT; (refine bM rfl ?_); refine aD ?_; exact rfl
 ·exact rfl
 ·exact rfl
 apply aS (s := 10) rfl rfl rfl
 ·intro hg; apply aO (s := 11) rfl (by (rw [hg]; rfl)); apply aO (s := 12) rfl (by (rw [hg]; rfl)); apply aT; (refine aa (Dm y hs _) rfl rfl rfl rfl rfl ?_); refine aD ?_; exact rfl
 ·exact rfl
 ·exact rfl
 apply aS (s := 10) rfl rfl rfl
 ·intro hg; apply aO (s := 13) rfl (by (rw [hg]; rfl)); apply aT; (refine dM rfl ?_); refine aD ?_; exact rfl
 ·exact rfl
 ·exact rfl
 refine fB rfl rfl (aD (aC ?_))
 refine cY rfl (fun hc1 => ?_) (fun hc1 => ?_)
 ·
  refine aA (cB rfl (aD (aC (aE (aA (bM rfl (cB rfl (aD (aC ?_)))))))))
  refine az (bq rfl rfl ?_)
  all_goals skip
  all_goals exact ay rfl rfl (congrArg (Ty.int .i64) (Ef hc1))
 refine ak (aC (aE (aA (bM rfl (cB rfl (aD (aC (az (bq rfl rfl ?_)))))))))
 all_goals skip
 all_goals exact ay rfl rfl (congrArg (Ty.int .i64) (Et hc1))
end Go.Proofs.YtelbollidfdcjaaGreat
namespace Go.T
open Go Go.RowKit
def sA (A : As) (L : List Nat) (s t : Ty) : Prop := ∀ w M v, Wf w M → (∀ x ∈ A.tags, x.1 ∈ L → x.2.den w M x.1) → s.den w M v → t.den w (qV M L) v
def nq (A : As) (L : List Nat) : List Ty → List Ty → Prop
  | [], [] => True
  | s :: ss, t :: ts => sA A L s t ∧ nq A L ss ts
  | _, _ => False
theorem bh {A : As} {L : List Nat} : nq A L [] [] := trivial
theorem aN {A : As} {L : List Nat} {s t : Ty} {ss ts : List Ty} (h : sA A L s t) (h' : nq A L ss ts) : nq A L (s :: ss) (t :: ts) := ⟨h, h'⟩
theorem pI {A : As} {L : List Nat} {w : World} {M : bC} (wf : Wf w M) (ht : ∀ x ∈ A.tags, x.1 ∈ L → x.2.den w M x.1) : ∀ {ss ts : List Ty} {vs : List Value}, nq A L ss ts → cK w M ss vs → cK w (qV M L) ts vs
  | [], [], [], _, _ => trivial
  | _ :: _, _ :: _, _ :: _, ⟨h, h'⟩, ⟨h1, h2⟩ => ⟨h _ _ _ wf ht h1, pI wf ht h' h2⟩
theorem af {A : As} {L : List Nat} {s t : Ty} (h : I6 L s t) : sA A L s t := fun w M v wf _ hd => h w M v wf hd
theorem hH {A : As} {L : List Nat} {ss ts : List Ty} (h : nq A L ss ts) : sA A L (Ty.agg ss) (Ty.agg ts) := fun _ _ _ wf ht ⟨cs, e, hd⟩ => ⟨cs, e, pI wf ht h hd⟩
theorem jD {A : As} {L : List Nat} {α : Type} {E : El α} {T tg n : Nat} {xs : List α} (hc : A.tag tg = some (.vec E T xs)) (hn : xs.length = n) (h1 : fS tg) (hL : L.contains tg = true) : sA A L (.vs tg n) (.sl E xs) := fun w M v wf ht hd => by
 have hL' : tg ∈ L := by simpa using hL
 have hv : ga E T xs w M tg := ht _ (cj hc) hL'
 subst hn
 rcases hd with ⟨h0, rfl⟩ | ⟨b, cc, hb, e, hn1, hn2⟩
 ·exact ⟨none, 0, by rw [h0], by omega, by simp [maxLen], fun h => absurd h (by omega)⟩
 refine ⟨_, cc, e, hn1, hn2, fun _ => ⟨b, 0, rfl, zL hb hL', wf.lt b _ hb, fun i t hi => ?_⟩⟩
 obtain ⟨u, hu, hdu⟩ := pX wf h1 hb hv hi
 refine ⟨u, by rw [Nat.zero_add]; exact hu, t.mono (S := fun _ => True) (K := fun _ => True) (w := w) ⟨Nat.le_refl _, rfl, rfl, rfl, fun b _ hm => ⟨jV hm, rfl⟩, fun b t _ h => absurd trivial h⟩ ?_ ?_ hdu⟩
 ·intro u hu
  have : u ∈ cE (xs.flatMap E.tys) := List.mem_flatMap.2 ⟨t, List.mem_of_getElem? hi, hu⟩
  rw [E.cX] at this; cases this
 intro u hu
 have : u ∈ bl (xs.flatMap E.tys) := List.mem_flatMap.2 ⟨t, List.mem_of_getElem? hi, hu⟩
 rw [E.cJ] at this; cases this
section
variable {P : Program} {fr : Fr} {ops : Array Oper} {A : As} {rest : List Oper} {K : As → List (As × Fx) → Prop} {d : Nat} {t ty' : TypeId} {p : String} {e : Array Edge} {Q : Exit → Act → World → Prop} {c : Code}
theorem dg (L : List Nat) {f : FuncId} {args : List Ty} {res : Ty} (hF : dx P f args res) {xs : List Operand} {ats : Array TypeId} {ss : List Ty} (hx : oT A fr xs = ss) (hl : nq A L ss args) (hp : res.Plain)
 (h : aj P fr ops rest (A.set d res) fun A' l => K A' ((A, { d := some d, ty := res, rs := xs.flatMap cD, rt := L }) :: l)) : aj P fr ops (⟨some d, .call ⟨.value (.func f), xs.toArray, ats⟩, t, p, e, none⟩ :: rest) A K := by
 refine ⟨{ d := some d, ty := res, rs := xs.flatMap cD, rt := L }, ⟨rfl, by simp, by simp, by simp, fun a w M wf _ hrd htg => ?_⟩, h⟩
 rw [if_pos (by simp [Region.wanted])]
 have hv : cK w M ss (xs.map a.eval) := hx ▸ gl hrd fun x hx c hc => List.mem_flatMap.2 ⟨x, hx, hc⟩
 have hc := hF.2 w _ _ (KQ (L := L) wf) so (pI wf htg hl hv)
 have hrun : (execOp a.eval ⟨some d, .call ⟨.value (.func f), xs.toArray, ats⟩, t, p, e, none⟩).run P w = .ok (.enter f (xs.map a.eval).toArray) w := by
  simp [execOp, resolve, Act.eval, Deferred.ofValue, invoke, nr hF]
 refine mJ hrun ?_
 refine hc.mono fun en w' ⟨r, M', he, wf', le, hden⟩ => ?_
 obtain ⟨h1, h2, h3⟩ := CT wf le hp hden
 exact ⟨r, he, r, rfl, _, h1, h2, h3, by simp⟩
end
section
open Go.RowKit
variable {P : Program} {A : As} {fn : Func} {n : Nat} {w0 : World} {M0 : bC} {F : List Nat} {post : List (Nat × Cont)} [T : kU P]
end
section
variable {P : Program} {fr : Fr} {ops : Array Oper} {A : As} {rest : List Oper} {K : As → List (As × Fx) → Prop} {d : Nat} {t ty' : TypeId} {p : String} {e : Array Edge} [T : kU P]
def Nl (w : World) (M : bC) (J : Nat) (v : Value) : Prop := v = .slice none 0 0 ∨ ∃ g n c cur T, v = .slice (some ⟨g, 0, none⟩) n c ∧ M g = some J ∧ w.heap[g]? = some (.cells cur T (0, 0)) ∧ n ≤ cur.size
def Cont.fit (vs : List Value) : Cont :=
  { den := fun w M J => ∀ v ∈ vs, Nl w M J v
    mono := fun le _ _ hs hk h v hv => (h v hv).imp id fun ⟨g, n, c, cur, T, e, hg, hh, hn⟩ => let ⟨h1, h2⟩ := le.own g _ hg hk
      ⟨g, n, c, cur, T, e, h1, (h2 hs).trans hh, hn⟩ }
end
instance : Inhabited {v : Value // v.oneCell' = true} := ⟨⟨.bool true, rfl⟩⟩
section
variable {P : Program} {fr : Fr} {A : As} {Q : Exit → Act → World → Prop} {code : Code}
end
end Go.T
namespace Go.T
open Go Go.RowKit
def we {α : Type} (E : El α) (T J : Nat) (xs : List α) (w : World) (M : bC) (v : Value) : Prop :=
  (xs = [] ∧ v = .slice none 0 0) ∨ ∃ g off c cur, v = .slice (some ⟨g, off, none⟩) xs.length c ∧ M g = some J ∧ w.heap[g]? = some (.cells cur T (0, 0)) ∧ xs.length ≤ c ∧ c ≤ maxLen ∧ off + c * E.size ≤ cur.size ∧ cK w M (xs.flatMap E.tys) ((cur.toList.drop off).take (xs.length * E.size))
def Ty.eY {α : Type} (E : El α) (T J : Nat) (xs : List α) : Ty :=
  ⟨we E T J xs, [J], [J], fun le hk hs h => h.imp id fun ⟨g, off, c, cur, e, hg, hh, h1, h2, h3, h4⟩ =>
    let ⟨a, b⟩ := le.own g J hg (hk J (by simp))
    ⟨g, off, c, cur, e, a, (b (hs J (by simp))).trans hh, h1, h2, h3, bX le (by rw [E.cX]; intro _ h; cases h) (by rw [E.cJ]; intro _ h; cases h) h4⟩, true, fun _ h => by
      rcases h with ⟨_, rfl⟩ | ⟨_, _, _, _, rfl, _⟩ <;> rfl⟩
def fm (size : Nat) : Value → Option (Nat × Nat)
  | .slice (some a) n _ => some (a.block, a.off + n * size)
  | _ => none
def roomy : Value → Bool
  | .slice _ n c => Nat.blt n c
  | _ => false
section
variable {κ α : Type} [DecidableEq κ]
def wj (size : Nat) (vs : List Value) : Prop := ∀ (i j : Nat) (v u : Value) (g e e' : Nat), vs[i]? = some v → vs[j]? = some u → fm size v = some (g, e) → fm size u = some (g, e') → i = j
def N8 (enc : κ → Value) (E : El α) (T J : Nat) (q : List (κ × List α)) (w : World) (M : bC) (t : Nat) : Prop :=
  (q.map Prod.fst).Nodup ∧ ∃ b es clock, M b = some t ∧ w.heap[b]? = some (.map es clock) ∧ es.toList.map (·.key) = q.map (fun x => enc x.1) ∧ cK w M (q.map fun x => Ty.eY E T J x.2) (es.toList.map (·.val)) ∧ wj E.size (es.toList.map (·.val))
omit [DecidableEq κ] in
theorem su {E : El α} {T J : Nat} {q : List (κ × List α)} : (∀ u ∈ cE (q.map fun x => Ty.eY E T J x.2), u = J) ∧ ∀ u ∈ bl (q.map fun x => Ty.eY E T J x.2), u = J := by
 constructor <;>
 ·intro u hu
  simp only [cE, bl, List.mem_flatMap, List.mem_map] at hu
  obtain ⟨t, ⟨x, _, rfl⟩, hu⟩ := hu
  simpa [Ty.eY] using hu
def Cont.mr (enc : κ → Value) (E : El α) (T J : Nat) (q : List (κ × List α)) : Cont :=
  { den := N8 enc E T J q, deps := [J], cdeps := [J]
    mono := fun le hk hs hst hkt ⟨hn, b, es, clock, h1, h2, h3, h4, h5⟩ => let ⟨a, c⟩ := le.own b _ h1 hkt
      ⟨hn, b, es, clock, a, (c hst).trans h2, h3, bX le (fun u hu => by rw [su.1 u hu]; exact hk J (by simp)) (fun u hu => by rw [su.2 u hu]; exact hs J (by simp)) h4, h5⟩ }
omit [DecidableEq κ] in
theorem Cont.sw {enc : κ → Value} {E : El α} {T J : Nat} {q q' : List (κ × List α)} (h : q = q') : (Cont.mr enc E T J q).Sub (Cont.mr enc E T J q') := h ▸ Cont.aF _
def Nj (size t : Nat) (q : List (κ × List α)) (k : κ) (w : World) (M : bC) (v : Value) : Prop :=
  ∀ (g e0 : Nat), fm size v = some (g, e0) → ∃ (b : Nat) (es : Array MapEntry) (clock : Nat), M b = some t ∧ w.heap[b]? = some (.map es clock) ∧ ∀ (j : Nat) (u : Value) (e1 : Nat), (es.toList.map (·.val))[j]? = some u → fm size u = some (g, e1) → (q[j]?).map Prod.fst = some k ∧ (roomy v = true → e1 ≤ e0)
def N5 (E : El α) (T t J : Nat) (q : List (κ × List α)) (k : κ) (xs : List α) (w : World) (M : bC) (v : Value) : Prop := we E T J xs w M v ∧ Nj E.size t q k w M v
def Ty.qv (E : El α) (T t J : Nat) (q : List (κ × List α)) (k : κ) (xs : List α) : Ty :=
  ⟨N5 E T t J q k xs, [t, J], [t, J], fun le hk hs ⟨h, h'⟩ => ⟨(Ty.eY E T J xs).mono le (fun u hu => hk u (by simp [Ty.eY] at hu ⊢; exact .inr hu)) (fun u hu => hs u (by simp [Ty.eY] at hu ⊢; exact .inr hu)) h, fun g e0 he =>
    let ⟨b, es, clock, h1, h2, h3⟩ := h' g e0 he
    let ⟨a, c⟩ := le.own b t h1 (hk t (by simp))
    ⟨b, es, clock, a, (c (hs t (by simp))).trans h2, h3⟩⟩, true, fun ho h => (Ty.eY E T J xs).isOne ho h.1⟩
omit [DecidableEq κ] in
theorem Ar (q : List (κ × List α)) (hn : (q.map Prod.fst).Nodup) {i j : Nat} {k : κ} (hi : (q[i]?).map Prod.fst = some k) (hj : (q[j]?).map Prod.fst = some k) : i = j := by
 rw [← List.getElem?_map] at hi hj
 obtain ⟨h1, e1⟩ := List.getElem?_eq_some_iff.1 hi
 obtain ⟨h2, e2⟩ := List.getElem?_eq_some_iff.1 hj
 exact (List.getElem_inj hn).1 (e1.trans e2.symm)
theorem zW {q : List (κ × List α)} {k : κ} {i : Nat} (h : (q.map Prod.fst).findIdx? (fun x => decide (x = k)) = some i) : (q[i]?).map Prod.fst = some k := by
 obtain ⟨v, hv, _⟩ := pN q k i h
 rw [hv]; rfl
theorem Ez (q : List (κ × List α)) (k : κ) (v : List α) (hn : (q.map Prod.fst).Nodup) : ((gu q k v).map Prod.fst).Nodup := by
  cases hi : (q.map Prod.fst).findIdx? (fun x => decide (x = k)) with
  | some i =>
    obtain ⟨u, hu, _, hp⟩ := pN q k i hi
    rw [hp, List.map_set]
    have : (q.map Prod.fst).set i k = q.map Prod.fst := by
      apply List.ext_getElem?
      intro j
      rw [List.getElem?_set]
      by_cases e : i = j
      · subst e
        have hlt := (List.getElem?_eq_some_iff.1 hu).1
        rw [if_pos rfl, if_pos (by simpa using hlt), List.getElem?_map, hu]; rfl
      · rw [if_neg e]
    rw [this]; exact hn
  | none =>
    obtain ⟨_, hp⟩ := p4 q k hi
    rw [hp, List.map_append, List.nodup_append]
    refine ⟨hn, by simp, fun a ha b hb => ?_⟩
    simp only [List.map_cons, List.map_nil, List.mem_singleton] at hb
    subst hb
    intro e
    subst e
    rw [List.findIdx?_eq_none_iff] at hi
    have := hi a ha
    simp at this
end
section
variable {P : Program} {fr : Fr} {ops : Array Oper} {A : As} {rest : List Oper} {K : As → List (As × Fx) → Prop} {d : Nat} {t ty' mt kt et : TypeId} {p : String} {e : Array Edge}
variable {κ α : Type} [DecidableEq κ] {E : El α} {Tb J tg : Nat} {q : List (κ × List α)} {k : κ} {xs ys : List α}
omit [DecidableEq κ] in
theorem Kv {x : Operand} {enc : κ → Value} (hx : A.op fr x = .mp tg) (hc : A.tag tg = some (.mr enc E Tb J q)) (h1 : fS tg) {a : Act} {w : World} {M : bC} {rs : List Nat} (wf : Wf w M) (hr : ∀ c ∈ cD x, c ∈ rs) (hrd : ∀ c ∈ rs, c < fr.n → (A.slots c).den w M (a.tmps.getD c undef)) (htg : ∀ y ∈ A.tags, y.1 ∈ [tg] → y.2.den w M y.1) :
 (q.map Prod.fst).Nodup ∧ ∃ b es clock, a.eval x = .map (some b) ∧ M b = some tg ∧ w.heap[b]? = some (.map es clock) ∧ es.toList.map (·.key) = q.map (fun x => enc x.1) ∧ cK w M (q.map fun x => Ty.eY E Tb J x.2) (es.toList.map (·.val)) ∧ wj E.size (es.toList.map (·.val)) := by
 have hxd := cS hr hrd
 rw [hx] at hxd
 obtain ⟨b, e1, e2⟩ := hxd
 obtain ⟨hn, b', es, clock, h2, h3⟩ := htg _ (cj hc) (by simp)
 obtain ⟨u, rfl⟩ : ∃ u, tg = u + 1 := ⟨tg - 1, by omega⟩
 have : b = b' := wf.inj b b' u (by omega) e2 h2
 subst this
 exact ⟨hn, b, es, clock, e1, e2, h3⟩
theorem CA {es : Array MapEntry} {i : Nat} {en : MapEntry} (h : es[i]? = some en) : (es.toList.map (·.val))[i]? = some en.val := by
 rw [List.getElem?_map, Array.getElem?_toList, h]; rfl
omit [DecidableEq κ] in
theorem C2 (enc : κ → Value) (E : El α) (Tb J : Nat) (hm : mapOf P mt = some (kt, et)) (hp : fr.pass.contains (d + 1) = false)
 (h : aj P fr ops rest (A.after { d := some d, ty := .mp (d + 1), K := [d + 1], sets := [(d + 1, .mr enc E Tb J [])] }) fun A' l' => K A' ((A, { d := some d, ty := .mp (d + 1), K := [d + 1], sets := [(d + 1, .mr enc E Tb J [])] }) :: l')) :
 aj P fr ops (⟨some d, .makeMap mt none, t, p, e, none⟩ :: rest) A K := by
 refine ⟨_, gp rfl rfl (by simp) (by simp) (by simp at hp ⊢; exact hp) fun a w M wf _ _ => ?_, h⟩
 have hrun : (execOp a.eval ⟨some d, .makeMap mt none, t, p, e, none⟩).run P w = .ok (.value (.map (some w.heap.size))) (w.alloc (.map #[] 0)) := by
  simp [execOp, Instr.makeMap, newObj, Sem.run]
 obtain ⟨h1, h2, h3⟩ := lp wf (.map #[] 0) (d + 1)
 refine ⟨_, _, hrun, _, h1, h2, ⟨_, rfl, h3⟩, fun x hx => ?_⟩
 rw [List.mem_singleton.1 hx]
 exact ⟨by simp, w.heap.size, #[], 0, h3, g8 _ _, rfl, trivial, fun i j v u g e e' hi => by simp at hi⟩
theorem x9 {x y : Operand} {kty : Ty} (KK : xU P kt κ) (hx : A.op fr x = .mp tg) (hc : A.tag tg = some (.mr KK.enc E Tb J q)) (h1 : fS tg) (hy : A.op fr y = kty) (hk : uS kty (KK.enc k)) (hm : mapOf P mt = some (kt, et)) (hz : zeroOf P et = some (.slice none 0 0))
 (h : aj P fr ops rest (A.set d (.qv E Tb tg J q k ((fA q k).getD []))) fun A' l' => K A' ((A, { d := some d, ty := .qv E Tb tg J q k ((fA q k).getD []), rs := cD x ++ cD y, rt := [tg] }) :: l')) :
 aj P fr ops (⟨some d, .lookup mt x y false, t, p, e, none⟩ :: rest) A K :=
 bL (bV rfl rfl fun a w M wf hrd htg => by
  obtain ⟨hn, b, es, clock, e1, e2, h3, h4, h5, h6⟩ := Kv hx hc h1 wf (fun c hc => List.mem_append_left _ hc) hrd htg
  have hyd := cS (fun c hc => List.mem_append_right (cD x) hc) hrd
  rw [hy] at hyd
  have hu := p5 hm
  rcases r8 KK h4 h5 k with ⟨i, v, en, hi, hg, hen, _, hd, hf⟩ | ⟨_, hg, hf⟩
  ·refine ⟨en.val, ?_, by rw [hg]; exact hd, fun g e0 he => ⟨b, es, clock, e2, h3, fun j u e1 hj hju => ?_⟩⟩
   ·simp only [execOp, e1, hk _ _ _ hyd]
    simp [Instr.lookup, underlying, hu, getObj, Sem.run, h3, KK.check, hf]
   have hij := h6 i j en.val u g e0 e1 (CA hen) hj he hju
   subst hij
   rw [CA hen] at hj
   injection hj with hj
   subst hj
   rw [he] at hju
   injection hju with hju
   injection hju with _ hju
   exact ⟨zW hi, fun _ => by omega⟩
  refine ⟨.slice none 0 0, ?_, by rw [hg]; exact .inl ⟨rfl, rfl⟩, fun g e0 he => by simp [fm] at he⟩
  simp only [execOp, e1, hk _ _ _ hyd]
  simp [Instr.lookup, underlying, hu, getObj, Sem.run, h3, KK.check, hf, wu hz]) h
theorem yI {x y z : Operand} {kty : Ty} (KK : xU P kt κ) (hx : A.op fr x = .mp tg) (hc : A.tag tg = some (.mr KK.enc E Tb J q)) (h1 : fS tg) (hy : A.op fr y = kty) (hk : uS kty (KK.enc k)) (hz : A.op fr z = .qv E Tb tg J q k xs) (hm : mapOf P mt = some (kt, et)) (hJ : Nat.beq J tg = false)
 (h : aj P fr ops rest (A.after { d := none, S := [tg], sets := [(tg, .mr KK.enc E Tb J (gu q k xs))], rs := cD x ++ (cD y ++ cD z), rt := [tg] }) fun A' l' => K A' ((A, { d := none, S := [tg], sets := [(tg, .mr KK.enc E Tb J (gu q k xs))], rs := cD x ++ (cD y ++ cD z), rt := [tg] }) :: l')) :
 aj P fr ops (⟨none, .mapUpdate mt x y z, t, p, e, none⟩ :: rest) A K := by
 have hJ' : J ≠ tg := fun h => by subst h; simp at hJ
 refine ⟨_, jE rfl rfl rfl (by simp) (by simpa using h1.1) (by simp) fun a w M wf hrd htg => ?_, h⟩
 obtain ⟨hn, b, es, clock, e1, e2, h3, h4, h5, h6⟩ := Kv hx hc h1 wf (fun c hc => List.mem_append_left _ hc) hrd htg
 have hyd := cS (fun c hc => List.mem_append_right (cD x) (List.mem_append_left (cD z) hc)) hrd
 have hzd := cS (fun c hc => List.mem_append_right (cD x) (List.mem_append_right (cD y) hc)) hrd
 rw [hy] at hyd
 rw [hz] at hzd
 obtain ⟨hrow, hown⟩ := hzd
 have hu := p5 hm
 have hblt : b < w.heap.size := wf.lt b _ e2
 have own' : ∀ (g e0 : Nat), fm E.size (a.eval z) = some (g, e0) → ∀ (j : Nat) (u : Value) (e' : Nat), (es.toList.map (·.val))[j]? = some u → fm E.size u = some (g, e') → (q[j]?).map Prod.fst = some k := fun g e0 he j u e' hj hju => by
  obtain ⟨b', es', c', g1, g2, g3⟩ := hown g e0 he
  obtain ⟨u', rfl⟩ : ∃ u, tg = u + 1 := ⟨tg - 1, by omega⟩
  have : b = b' := wf.inj b b' u' (by omega) e2 g1
  subst this
  rw [h3] at g2
  injection g2 with g2
  injection g2 with g2 g4
  subst g2
  exact (g3 j u e' hj hju).1
 have fin : ∀ (es' : Array MapEntry) (clock' : Nat), es'.toList.map (·.key) = (gu q k xs).map (fun x => KK.enc x.1) → cK w M ((gu q k xs).map fun x => Ty.eY E Tb J x.2) (es'.toList.map (·.val)) → wj E.size (es'.toList.map (·.val)) →
  (Instr.mapUpdate mt (.map (some b)) (KK.enc k) (a.eval z)).run P w = .ok () { w with heap := w.heap.setIfInBounds b (.map es' clock') } →
  ∃ w', (execOp a.eval ⟨none, .mapUpdate mt x y z, t, p, e, none⟩).run P w = .ok .skip w' ∧ Fx.left { d := none, S := [tg], sets := [(tg, .mr KK.enc E Tb J (gu q k xs))], rs := cD x ++ (cD y ++ cD z), rt := [tg] } w M w' undef := by
  intro es' clock' hk' hd' hap hrun
  have hr : (execOp a.eval ⟨none, .mapUpdate mt x y z, t, p, e, none⟩).run P w = .ok .skip { w with heap := w.heap.setIfInBounds b (.map es' clock') } := by
   simp only [execOp, e1, hk _ _ _ hyd]
   simp [hrun]
  have le : Le (· ∈ [tg]) (· ∈ ([] : List Nat)) w M { w with heap := w.heap.setIfInBounds b (.map es' clock') } M := by
   refine ⟨by simp, rfl, rfl, rfl, fun b2 hlt hm2 => ⟨hm2, ?_⟩, fun b2 u hm2 _ => ⟨hm2, fun hs => ?_⟩⟩
   ·have : b ≠ b2 := fun h => by subst h; rw [e2] at hm2; cases hm2
    simp [Array.getElem?_setIfInBounds, this]
   have : b ≠ b2 := fun h => by subst h; rw [e2] at hm2; injection hm2 with hm2; exact hs (by simp [hm2])
   simp [Array.getElem?_setIfInBounds, this]
  refine ⟨_, hr, M, ⟨fun b2 u h => by simpa using wf.lt b2 u h, wf.inj⟩, le, trivial, fun x hx => ?_⟩
  rw [List.mem_singleton.1 hx]
  refine ⟨Ez q k xs hn, b, es', clock', e2, by simp [hblt], hk', ?_, hap⟩
  exact bX le (fun _ _ => by simp) (fun u hu => by rw [su.2 u hu]; simpa using hJ') hd'
 rcases r8 KK h4 h5 k with ⟨i, v0, en, hi, hg, hen, hkey, hd, hf⟩ | ⟨hi, hg, hf⟩
 ·obtain ⟨v1, hv1, _, hput⟩ := pN q k i hi
  have hil : i < es.size := (Array.getElem?_eq_some_iff.1 hen).1
  have hes : (es.modify i fun e => { e with key := KK.enc k, val := a.eval z }).toList = es.toList.set i { en with key := KK.enc k, val := a.eval z } := by
   rw [Array.toList_modify, List.modify_eq_set, Array.getElem?_toList, hen]; rfl
  refine fin (es.modify i fun e => { e with key := KK.enc k, val := a.eval z }) clock ?_ ?_ ?_ ?_
  ·rw [hput, List.map_set, hes, List.map_set, h4]
  ·rw [hput, List.map_set, hes, List.map_set]
   exact lY h5 hrow
  ·rw [hes, List.map_set]
   intro i1 j1 v u g e' e'' hi1 hj1 hv hu
   rw [List.getElem?_set] at hi1 hj1
   by_cases c1 : i = i1 <;> by_cases c2 : i = j1
   ·omega
   ·rw [if_pos c1] at hi1; rw [if_neg c2] at hj1
    split at hi1
    ·injection hi1 with hi1
     have hi1 : a.eval z = v := hi1
     subst hi1
     have := Ar q hn (own' g e' hv j1 u e'' hj1 hu) (zW hi)
     omega
    cases hi1
   ·rw [if_neg c1] at hi1; rw [if_pos c2] at hj1
    split at hj1
    ·injection hj1 with hj1
     have hj1 : a.eval z = u := hj1
     subst hj1
     have := Ar q hn (own' g e'' hu i1 v e' hi1 hv) (zW hi)
     omega
    cases hj1
   rw [if_neg c1] at hi1; rw [if_neg c2] at hj1
   exact h6 i1 j1 v u g e' e'' hi1 hj1 hv hu
  simp [Instr.mapUpdate, underlying, hu, getObj, setObj, Sem.run, h3, KK.check, hf, hen, hkey, Instr.keyThatStays, KK.same]
 obtain ⟨_, hput⟩ := p4 q k hi
 have hlen : (es.toList.map (·.val)).length = q.length := by have := congrArg List.length h4; simpa using this
 have hno : ∀ j, (q[j]?).map Prod.fst ≠ some k := fun j hj => by
  rw [List.findIdx?_eq_none_iff] at hi
  rw [← List.getElem?_map] at hj
  have := hi k (List.mem_of_getElem? hj)
  simp at this
 refine fin (es.push { key := KK.enc k, val := a.eval z, born := clock }) (clock + 1) ?_ ?_ ?_ ?_
 ·rw [hput]; simp [h4]
 ·rw [hput]; simp only [Array.toList_push, List.map_append, List.map_cons, List.map_nil]
  exact eO h5 ⟨hrow, trivial⟩
 ·simp only [Array.toList_push, List.map_append, List.map_cons, List.map_nil]
  intro i1 j1 v u g e' e'' hi1 hj1 hv hu
  rw [List.getElem?_append] at hi1 hj1
  split at hi1 <;> split at hj1
  ·exact h6 i1 j1 v u g e' e'' hi1 hj1 hv hu
  ·rw [List.getElem?_singleton] at hj1
   split at hj1
   ·injection hj1 with hj1
    subst hj1
    exact absurd (own' g e'' hu i1 v e' hi1 hv) (hno i1)
   cases hj1
  ·rw [List.getElem?_singleton] at hi1
   split at hi1
   ·injection hi1 with hi1
    subst hi1
    exact absurd (own' g e' hv j1 u e'' hj1 hu) (hno j1)
   cases hi1
  rw [List.getElem?_singleton] at hi1 hj1
  split at hi1 <;> split at hj1 <;> first | omega | (exfalso; simp at hj1; done) | (exfalso; simp at hi1; done)
 simp [Instr.mapUpdate, underlying, hu, getObj, setObj, Sem.run, h3, KK.check, hf]
end
section
variable {P : Program} {fr : Fr} {ops : Array Oper} {A : As} {rest : List Oper} {K : As → List (As × Fx) → Prop} {d : Nat} {t ty' mt kt et : TypeId} {p : String} {e : Array Edge} [T : kU P]
variable {κ α : Type} [DecidableEq κ] {E : El α} {Tb J tg : Nat} {q : List (κ × List α)} {k : κ} {xs ys : List α}
theorem zD [Inhabited α] {w : World} {M : bC} {g off i j : Nat} {cur : Array Value} {ty : Ty} (hh : w.heap[g]? = some (.cells cur Tb (0, 0))) (hd : cK w M (xs.flatMap E.tys) ((cur.toList.drop off).take (xs.length * E.size))) (hi : i < xs.length) (hl : (E.tys (nth xs i))[j]? = some ty) :
 ∃ u, w.cell? ⟨g, off + i * E.size + j, none⟩ = some u ∧ ty.den w M u := by
 obtain ⟨u, hu, hdu⟩ := dQ hd _ ty (lH E xs hi j ty hl)
 rw [List.getElem?_take] at hu
 split at hu
 ·rw [List.getElem?_drop] at hu
  exact ⟨u, by rw [Nat.add_assoc]; simpa [World.cell?, hh] using hu, hdu⟩
 cases hu
end
end Go.T
namespace Go.T
open Go Go.RowKit
section
variable {P : Program} {fr : Fr} {ops : Array Oper} {A : As} {rest : List Oper} {K : As → List (As × Fx) → Prop} {d : Nat} {t ty' mt kt et : TypeId} {p : String} {e : Array Edge} [T : kU P]
variable {κ α : Type} [DecidableEq κ] {E : El α} {Tb J tg : Nat} {q : List (κ × List α)} {k : κ} {xs ys : List α}
theorem CM (l news : List Value) (o n m e : Nat) (he : o + n ≤ e) (hl : e + news.length ≤ l.length) : (((l.take e ++ news ++ l.drop (e + news.length)).drop o).take n) = (l.drop o).take n := by
 apply List.ext_getElem?
 intro i
 rw [List.getElem?_take, List.getElem?_take]
 split
 ·rename_i hi
  rw [List.getElem?_drop, List.getElem?_drop, List.append_assoc, List.getElem?_append_left (by rw [List.length_take]; omega), List.getElem?_take, if_pos (by omega)]
 rfl
theorem w5 (l news : List Value) (o n : Nat) (hl : o + n + news.length ≤ l.length) : (((l.take (o + n) ++ news ++ l.drop (o + n + news.length)).drop o).take (n + news.length)) = (l.drop o).take n ++ news := by
 have h1 : (l.take (o + n) ++ news ++ l.drop (o + n + news.length)).drop o = (l.drop o).take n ++ news ++ l.drop (o + n + news.length) := by
  rw [List.append_assoc, List.drop_append_of_le_length (by rw [List.length_take]; omega), List.drop_take, show o + n - o = n by omega, List.append_assoc]
 have h2 : ((l.drop o).take n ++ news).length = n + news.length := by rw [List.length_append, List.length_take, List.length_drop, Nat.min_eq_left (by omega)]
 rw [h1, List.take_left' h2]
omit [DecidableEq κ] in
theorem F3 {w : World} {M : bC} {vs : List Value} (hd : cK w M (q.map fun x => Ty.eY E Tb J x.2) vs) {j : Nat} {u : Value} {g e1 : Nat} (hj : vs[j]? = some u) (hu : fm E.size u = some (g, e1)) : M g = some J := by
 have hlen := cG hd
 have hlt := (List.getElem?_eq_some_iff.1 hj).1
 obtain ⟨x, hx, hdx⟩ := dQ hd j (Ty.eY E Tb J (q[j]'(by simpa [hlen] using hlt)).2) (by rw [List.getElem?_map, List.getElem?_eq_getElem (by simpa [hlen] using hlt)]; rfl)
 rw [hj] at hx
 injection hx with hx
 subst hx
 rcases hdx with ⟨_, e⟩ | ⟨g', off, c, cur, e, hg, _⟩
 ·rw [e] at hu; simp [fm] at hu
 rw [e] at hu
 simp only [fm, Option.some.injEq, Prod.mk.injEq] at hu
 rw [← hu.1]; exact hg
theorem yZ {x y : Operand} {enc : κ → Value} {st el : Nat} {ti te : TI} (hx : A.op fr x = .qv E el tg J q k xs) (hy : A.op fr y = .sl E ys) (hc : A.tag tg = some (.mr enc E el J q)) (h1 : fS tg) (hJ : 4096 ≤ J) (hp : fr.pass.contains J = false) (hpos : 0 < ys.length) (hT : T.eZ[st]? = some ti) (hk : ti.k = .slice el) (hE : T.eZ[el]? = some te) (hs : te.size = E.size) (hz : te.zero.length = te.size) (h0 : 0 < te.size)
    (hlen : (xs.length + ys.length) * te.bytes ≤ 140737488355328) (hlen' : xs.length + ys.length ≤ 9223372036854775807)
    (h : aj P fr ops rest (A.after { d := some d, ty := .qv E el tg J q k (xs ++ ys), S := [tg, J], sets := [(tg, .mr enc E el J q)], rs := cD x ++ cD y, rt := [tg] }) fun A' l' => K A' ((A, { d := some d, ty := .qv E el tg J q k (xs ++ ys), S := [tg, J], sets := [(tg, .mr enc E el J q)], rs := cD x ++ cD y, rt := [tg] }) :: l')) :
    aj P fr ops (⟨some d, .call ⟨.builtin .append, #[x, y], #[st, st]⟩, t, p, e, none⟩ :: rest) A K := by
  refine ⟨_, gp rfl rfl (by simp) (by simp; exact ⟨h1.1, by omega⟩) (by simp) fun a w M wf hr htg => ?_, h⟩
  obtain ⟨hdx, hdy⟩ := op2 hr
  rw [hx] at hdx; rw [hy] at hdy
  obtain ⟨hrow, hown⟩ := hdx
  obtain ⟨hn, b, es, clock, hb, hhb, hkeys, hvals, hap⟩ := htg _ (cj hc) (by simp)
  have ownb : ∀ (g e0 : Nat), fm E.size (a.eval x) = some (g, e0) → ∀ (j : Nat) (u : Value) (e1 : Nat), (es.toList.map (·.val))[j]? = some u → fm E.size u = some (g, e1) → (q[j]?).map Prod.fst = some k ∧ (roomy (a.eval x) = true → e1 ≤ e0) := fun g e0 he => by
    obtain ⟨b', es', c', g1, g2, g3⟩ := hown g e0 he
    obtain ⟨u', hu'⟩ : ∃ u, tg = u + 1 := ⟨tg - 1, by omega⟩
    have : b = b' := by
      have hb' : M b = some (u' + 1) := hu' ▸ hb
      have g1' : M b' = some (u' + 1) := hu' ▸ g1
      exact wf.inj b b' u' (by omega) hb' g1'
    subst this
    rw [hhb] at g2
    injection g2 with g2
    injection g2 with g2 _
    subst g2
    exact g3
  obtain ⟨_, D, _, hD, hkd, _⟩ := dW hT
  rw [hk] at hkd
  cases D <;> simp only [TK.of, reduceCtorEq, TK.slice.injEq] at hkd
  subst hkd
  rename_i el
  obtain ⟨i, _, hi, _, _, hsz, hby, hze⟩ := dW hE
  obtain ⟨zz, hiz, hzc⟩ : ∃ z, i.zero = some z ∧ z.cells.size = i.size := by
    cases hiz : i.zero with
    | none => rw [hiz] at hze; rw [← hze] at hz; simp at hz; omega
    | some z => rw [hiz] at hze; exact ⟨z, rfl, by simp at hze; rw [hsz, ← hz, ← hze]; simp⟩
  obtain ⟨ad, c', ey, hc1, hc2, hpp⟩ := hdy
  obtain ⟨b', off', rfl, hp'⟩ := hpp hpos
  obtain ⟨news, hn1, hn2, hn3⟩ := nD hp' _ (Nat.le_refl _)
  rw [List.take_length] at hn2
  have hnl : news.length = ys.length * i.size := by rw [hn1, dI, hsz, hs]
  have hnews : ∀ j u, news[j]? = some u → w.cell? ((⟨b', off', none⟩ : Addr).add j) = some u := fun j u hj => by rw [Addr.add_lit]; exact hn3 j u hj
  have hones := lJ hn2 (lO E ys)
  have hesz : E.size = i.size := by rw [hsz, hs]
  -- behind a growth
  have grown : ∀ (olds : List Value) (cap : Nat), cK w M (xs.flatMap E.tys) olds → cap < xs.length + ys.length →
      (Builtin.append_ #[st, st] t #[a.eval x, a.eval y]).run P w = .ok (.slice (some ⟨w.heap.size, 0, none⟩) (xs.length + ys.length) (grownCap w (xs.length + ys.length) cap el)) (w.drew.alloc (.cells (olds.toArray ++ news.toArray ++ Builtin.zeroCells zz.cells (grownCap w (xs.length + ys.length) cap el - (xs.length + ys.length))) el)) →
      ∃ v w', (execOp a.eval ⟨some d, .call ⟨.builtin .append, #[x, y], #[st, st]⟩, t, p, e, none⟩).run P w = .ok (.value v) w' ∧ Fx.left { d := some d, ty := .qv E el tg J q k (xs ++ ys), S := [tg, J], sets := [(tg, .mr enc E el J q)], rs := cD x ++ cD y, rt := [tg] } w M w' v := by
    intro olds cap hdo hcap hrun
    have holen : olds.length = xs.length * i.size := by rw [cG hdo, dI, hesz]
    have hge := grownCap_ge w (xs.length + ys.length) cap el
    have hcm : grownCap w (xs.length + ys.length) cap el ≤ maxLen := grownCap_le_maxLen w (xs.length + ys.length) cap el (by simp only [maxLen]; omega)
    have hsize : (w.drew.alloc (.cells (olds.toArray ++ news.toArray ++ Builtin.zeroCells zz.cells (grownCap w (xs.length + ys.length) cap el - (xs.length + ys.length))) el)).heap.size = w.heap.size + 1 := by simp
    have hold : ∀ b2, b2 < w.heap.size → (w.drew.alloc (.cells (olds.toArray ++ news.toArray ++ Builtin.zeroCells zz.cells (grownCap w (xs.length + ys.length) cap el - (xs.length + ys.length))) el)).heap[b2]? = w.heap[b2]? := fun b2 h => Below.heap_alloc w.drew _ b2 h
    have hnew : (w.drew.alloc (.cells (olds.toArray ++ news.toArray ++ Builtin.zeroCells zz.cells (grownCap w (xs.length + ys.length) cap el - (xs.length + ys.length))) el)).heap[w.heap.size]? = some (.cells (olds.toArray ++ news.toArray ++ Builtin.zeroCells zz.cells (grownCap w (xs.length + ys.length) cap el - (xs.length + ys.length))) el (0, 0)) := g8 w.drew _
    have hos : (w.drew.alloc (.cells (olds.toArray ++ news.toArray ++ Builtin.zeroCells zz.cells (grownCap w (xs.length + ys.length) cap el - (xs.length + ys.length))) el)).os = w.os ∧ (w.drew.alloc (.cells (olds.toArray ++ news.toArray ++ Builtin.zeroCells zz.cells (grownCap w (xs.length + ys.length) cap el - (xs.length + ys.length))) el)).tape = w.tape ∧ (w.drew.alloc (.cells (olds.toArray ++ news.toArray ++ Builtin.zeroCells zz.cells (grownCap w (xs.length + ys.length) cap el - (xs.length + ys.length))) el)).output = w.output := ⟨rfl, rfl, rfl⟩
    have hcs : (olds.toArray ++ news.toArray ++ Builtin.zeroCells zz.cells (grownCap w (xs.length + ys.length) cap el - (xs.length + ys.length))).size = grownCap w (xs.length + ys.length) cap el * i.size := by
      simp only [Array.size_append, List.size_toArray, size_zeroCells, hzc, holen, hnl, ← Nat.add_mul]
      congr 1
      omega
    have htk : ((olds.toArray ++ news.toArray ++ Builtin.zeroCells zz.cells (grownCap w (xs.length + ys.length) cap el - (xs.length + ys.length))).toList.drop 0).take ((xs ++ ys).length * E.size) = olds ++ news := by
      rw [List.drop_zero]
      simp only [Array.toList_append]
      rw [List.take_left' (by rw [List.length_append, holen, hnl, List.length_append, hesz, Nat.add_mul])]
    generalize hw' : (w.drew.alloc (.cells (olds.toArray ++ news.toArray ++ Builtin.zeroCells zz.cells (grownCap w (xs.length + ys.length) cap el - (xs.length + ys.length))) el)) = w' at *
    generalize hcu : (olds.toArray ++ news.toArray ++ Builtin.zeroCells zz.cells (grownCap w (xs.length + ys.length) cap el - (xs.length + ys.length))) = cu at *
    have le : Le (· ∈ [tg, J]) (· ∈ ([] : List Nat)) w M w' (fun b2 => if b2 = w.heap.size then some J else M b2) :=
      ⟨by omega, hos.1, hos.2.1, hos.2.2, fun b2 hb2 hm => ⟨by rw [if_neg (by omega)]; exact hm, hold b2 hb2⟩, fun b2 u hm _ => by
        have := wf.lt b2 u hm
        exact ⟨by rw [if_neg (by omega)]; exact hm, fun _ => hold b2 this⟩⟩
    have le0 : Le (· ∈ ([] : List Nat)) (· ∈ ([] : List Nat)) w M w' (fun b2 => if b2 = w.heap.size then some J else M b2) :=
      ⟨by omega, hos.1, hos.2.1, hos.2.2, fun b2 hb2 hm => ⟨by rw [if_neg (by omega)]; exact hm, hold b2 hb2⟩, fun b2 u hm _ => by
        have := wf.lt b2 u hm
        exact ⟨by rw [if_neg (by omega)]; exact hm, fun _ => hold b2 this⟩⟩
    have wf' : Wf w' (fun b2 => if b2 = w.heap.size then some J else M b2) := by
      refine ⟨fun b2 u hm => ?_, fun b2 b3 u ht1 hm hm' => ?_⟩
      · split at hm
        · omega
        · have := wf.lt b2 u hm; omega
      · split at hm
        · injection hm with hm; omega
        · split at hm'
          · injection hm' with hm'; omega
          · exact wf.inj b2 b3 u ht1 hm hm'
    have hblt := wf.lt b tg hb
    refine ⟨.slice (some ⟨w.heap.size, 0, none⟩) (xs.length + ys.length) (grownCap w (xs.length + ys.length) cap el), w', by simp [execOp, resolve, invoke, builtin, hrun], _, wf', le, ⟨.inr ⟨w.heap.size, 0, grownCap w (xs.length + ys.length) cap el, cu, by rw [List.length_append], by simp, hnew, by rw [List.length_append]; exact hge, hcm, by rw [hcs, hesz]; omega, ?_⟩, fun g e0 he => ?_⟩, fun y hy => ?_⟩
    · rw [htk, List.flatMap_append]
      exact jB (bX le0 (by rw [E.cX]; intro _ h; cases h) (by rw [E.cJ]; intro _ h; cases h) hdo) (bX le0 (by rw [E.cX]; intro _ h; cases h) (by rw [E.cJ]; intro _ h; cases h) hn2)
    · simp only [fm, Option.some.injEq, Prod.mk.injEq] at he
      obtain ⟨rfl, _⟩ := he
      refine ⟨b, es, clock, (if_neg (by omega)).trans hb, (hold b hblt).trans hhb, fun j u e1 hj hju => ?_⟩
      have := wf.lt _ _ (F3 hvals hj hju)
      omega
    · rw [List.mem_singleton.1 hy]
      refine ⟨hn, b, es, clock, (if_neg (by omega)).trans hb, (hold b hblt).trans hhb, hkeys, ?_, hap⟩
      exact bX le0 (fun _ _ h => by cases h) (fun _ _ h => by cases h) hvals
  rcases hrow with ⟨hxe, ex⟩ | ⟨g, off, cap, cur, ex, hg, hh, hxc, hcm, hfit, hdx⟩
  · have hrn := run_append_nil (P := P) w st t el i zz hD hi hiz ⟨b', off', none⟩ ys.length c' news hnl hnews hpos (by omega) (by rw [hby]; have := hlen; rw [Nat.add_mul] at this; omega)
    subst hxe
    refine grown [] 0 trivial (by simpa using hpos) ?_
    rw [ex, ey]
    simpa using hrn
  · by_cases hroom : xs.length + ys.length ≤ cap
    · -- in place
      have hm : (xs.length + ys.length) * E.size ≤ cap * E.size := Nat.mul_le_mul_right _ hroom
      rw [Nat.add_mul] at hm
      have hcf : off + xs.length * i.size + news.length ≤ cur.size := by rw [hnl, ← hesz]; omega
      have hf := run_firstCells_some (P := P) w i.size ys.length ⟨b', off', none⟩ ys.length c' news hnl hnews
      have hst := run_storeCells_at (P := P) g (off + xs.length * i.size) el news 0 cur w hh (by simpa using hcf) hones
      rw [l8 _ hh] at hst
      simp only [Nat.add_zero] at hst
      obtain ⟨h1', h2', h3'⟩ := gw (cs' := (cur.toList.take (off + xs.length * i.size) ++ news ++ cur.toList.drop (off + xs.length * i.size + news.length)).toArray) (Tb := el) wf hg _ rfl
      have hrun : (Builtin.append_ #[st, st] t #[a.eval x, a.eval y]).run P w = .ok (.slice (some ⟨g, off, none⟩) (xs.length + ys.length) cap) { w with heap := w.heap.setIfInBounds g (.cells (cur.toList.take (off + xs.length * i.size) ++ news ++ cur.toList.drop (off + xs.length * i.size + news.length)).toArray el (0, 0)) } := by
        rw [ex, ey]
        simp [Builtin.append_, run_underlying hD, sizeOf, typeInfo, hi, Builtin.lenOf, hroom, hf, Addr.add_lit, hst]
      have le : Le (· ∈ [tg, J]) (· ∈ ([] : List Nat)) w M { w with heap := w.heap.setIfInBounds g (.cells (cur.toList.take (off + xs.length * i.size) ++ news ++ cur.toList.drop (off + xs.length * i.size + news.length)).toArray el (0, 0)) } M :=
        h2'.weaken (fun u hu => by simp only [List.mem_singleton] at hu; subst hu; simp) (fun _ h => by cases h)
      have hgb : g ≠ b := fun e => by rw [e, hhb] at hh; cases hh
      have hroomy : roomy (a.eval x) = true := by rw [ex]; simp [roomy]; omega
      have hb' : ({ w with heap := w.heap.setIfInBounds g (.cells (cur.toList.take (off + xs.length * i.size) ++ news ++ cur.toList.drop (off + xs.length * i.size + news.length)).toArray el (0, 0)) } : World).heap[b]? = some (.map es clock) := by
        show (w.heap.setIfInBounds g _)[b]? = _
        rw [Array.getElem?_setIfInBounds_ne hgb]; exact hhb
      refine ⟨.slice (some ⟨g, off, none⟩) (xs.length + ys.length) cap, _, by simp [execOp, resolve, invoke, builtin, hrun], M, h1', le, ⟨.inr ⟨g, off, cap, _, by rw [List.length_append], hg, h3', by rw [List.length_append]; exact hroom, hcm, ?_, ?_⟩, fun g' e0 he => ?_⟩, fun y hy => ?_⟩
      · simp only [List.size_toArray, List.length_append, List.length_take, List.length_drop, Array.length_toList]
        omega
      · rw [List.length_append, Nat.add_mul, hesz, ← hnl, List.toList_toArray, w5 _ _ _ _ (by simpa using hcf), List.flatMap_append]
        refine bX h2' (by rw [← List.flatMap_append, E.cX]; intro _ h; cases h) (by rw [← List.flatMap_append, E.cJ]; intro _ h; cases h) (jB ?_ hn2)
        rw [← hesz]; exact hdx
      · simp only [fm, Option.some.injEq, Prod.mk.injEq] at he
        obtain ⟨rfl, rfl⟩ := he
        refine ⟨b, es, clock, hb, hb', fun j u e1 hj hju => ?_⟩
        have := ownb g (off + xs.length * E.size) (by rw [ex]; rfl) j u e1 hj hju
        refine ⟨this.1, fun _ => ?_⟩
        have := this.2 hroomy
        rw [Nat.add_mul]; omega
      · rw [List.mem_singleton.1 hy]
        refine ⟨hn, b, es, clock, hb, hb', hkeys, ?_, hap⟩
        refine gD (by rw [cG hvals]) fun j ty hj => ?_
        obtain ⟨u, hu, hdu⟩ := dQ hvals j ty hj
        refine ⟨u, hu, ?_⟩
        rw [List.getElem?_map] at hj
        obtain ⟨qe, _, rfl⟩ := Option.map_eq_some_iff.1 hj
        rcases hdu with h | ⟨g2, off2, c2, cur2, e2, hg2, hh2, k1, k2, k3, k4⟩
        · exact .inl h
        · by_cases hgg : g = g2
          · subst hgg
            rw [hh] at hh2
            injection hh2 with hh2
            injection hh2 with ha _
            subst ha
            have hend := (ownb g (off + xs.length * E.size) (by rw [ex]; rfl) j u _ hu (by rw [e2]; rfl)).2 hroomy
            refine .inr ⟨g, off2, c2, _, e2, hg, h3', k1, k2, ?_, ?_⟩
            · simp only [List.size_toArray, List.length_append, List.length_take, List.length_drop, Array.length_toList]
              omega
            · rw [List.toList_toArray, CM _ _ _ _ 0 _ (by rw [← hesz]; exact hend) (by simpa using hcf)]
              exact bX h2' (by rw [E.cX]; intro _ h; cases h) (by rw [E.cJ]; intro _ h; cases h) k4
          · refine .inr ⟨g2, off2, c2, cur2, e2, hg2, ?_, k1, k2, k3, bX h2' (by rw [E.cX]; intro _ h; cases h) (by rw [E.cJ]; intro _ h; cases h) k4⟩
            show (w.heap.setIfInBounds g _)[g2]? = _
            rw [Array.getElem?_setIfInBounds_ne hgg]; exact hh2
    · have holds : ∀ j u, ((cur.toList.drop off).take (xs.length * E.size))[j]? = some u → w.cell? ((⟨g, off, none⟩ : Addr).add j) = some u := fun j u hj => by
        rw [List.getElem?_take] at hj
        split at hj
        · rw [List.getElem?_drop] at hj
          rw [Addr.add_lit]
          simpa [World.cell?, hh] using hj
        · cases hj
      have hol : ((cur.toList.drop off).take (xs.length * E.size)).length = xs.length * i.size := by rw [cG hdx, dI, hesz]
      have hrn := run_append_grow (P := P) w st t el i zz hD hi hiz ⟨g, off, none⟩ xs.length cap _ hol holds ⟨b', off', none⟩ ys.length c' news hnl hnews (by omega) (by omega) (growslice_fits (by omega) (by rw [hby]; exact hlen))
      refine grown _ cap hdx (by omega) ?_
      rw [ex, ey]
      exact hrn
end
end Go.T
namespace Go.T
open Go Go.RowKit
end Go.T
namespace Go.T
open Go Go.RowKit Go.Lib
section
variable {P : Program} {fr : Fr} {ops : Array Oper} {A : As} {rest : List Oper} {K : As → List (As × Fx) → Prop} {d : Nat} {t ty' ty2 : TypeId} {p : String} {e : Array Edge} [T : kU P]
end
end Go.T
namespace Go.T
open Go Go.RowKit
section
variable {P : Program} {fr : Fr} {ops : Array Oper} {A : As} {rest : List Oper} {K : As → List (As × Fx) → Prop} {t mt : TypeId} {p : String} {e : Array Edge} {d : Option Nat} {x y z : Operand}
end
section
variable {P : Program} {fr : Fr} {ops : Array Oper} {A : As} {rest : List Oper} {K : As → List (As × Fx) → Prop} {d : Nat} {t mt kt et : TypeId} {p : String} {e : Array Edge}
variable {κ β : Type} [DecidableEq κ]
end
section
variable {A : As} {κ β : Type} [DecidableEq κ]
end
section
variable {P : Program} {fr : Fr} {ops : Array Oper} {A : As} {rest : List Oper} {K : As → List (As × Fx) → Prop} {t ty' : TypeId} {p : String} {e : Array Edge} [T : kU P]
end
section
variable {P : Program} {fr : Fr} {ops : Array Oper} {A : As} {rest : List Oper} {K : As → List (As × Fx) → Prop} {d : Nat} {t ty' : TypeId} {p : String} {e : Array Edge} [T : kU P]
theorem mM {α : Type} [Inhabited α] {E : El α} {xs : List α} {x : Operand} {tg off Tb : Nat} {ti : TI} (i : Nat) (hx : A.op fr x = .ptr tg off) (he : off = i * E.size) (hc : A.tag tg = some (.vec E Tb xs)) (h1 : fS tg) (hT : T.eZ[ty']? = some ti) (ha : ti.k.agg = true) (hsz : ti.size = E.size) (hi : i < xs.length)
 (h : aj P fr ops rest (A.set d (.agg (E.tys (nth xs i)))) fun A' l => K A' ((A, { d := some d, ty := .agg (E.tys (nth xs i)), rs := cD x, rt := [tg] }) :: l)) : aj P fr ops (⟨some d, .load ty' x, t, p, e, none⟩ :: rest) A K :=
 bL (bV rfl rfl fun a w M wf hr ht => by
  have := cS (x := x) (fun _ h => h) hr
  rw [hx] at this
  obtain ⟨b, hb, e⟩ := this
  obtain ⟨cs, g1, g2, g3⟩ := wm (l := E.tys (nth xs i)) (b := b) (q := off) (off := 0) (n := ti.size) (m := E.tys (nth xs i)) (fun j t hj => pX wf h1 hb (rW hc w M ht) (by
   rw [he]; exact lH E xs hi j t hj)) (by rw [List.drop_zero, hsz, ← E.len (nth xs i), List.take_length]) (by rw [E.len, hsz])
  exact ⟨.agg cs.toArray, by simp only [execOp, e]; rw [Sem.run_bind, gT (off := off) hT ha g1 (by simpa using g3)]; rfl, cs.toArray, rfl, by simpa using g2⟩) h
end
section
variable {P : Program} {A : As} {fn : Func} {n : Nat} {w0 : World} {M0 : bC} [T : kU P]
end
section
variable {P : Program} {fr : Fr} {A : As} {c : Code} {Q : Exit → Act → World → Prop}
theorem fK {tg : Nat} {C D : Cont} (hc : A.tag tg = some C) (h : C.Sub D) (h' : fX P fr c ⟨A.slots, (tg, D) :: A.tags⟩ Q) : fX P fr c A Q := fun a w ⟨M, ok, hsl, ht⟩ =>
 h' a w ⟨M, ok, hsl, fun x hx => by
  rcases List.mem_cons.1 hx with rfl | hx
  ·exact h _ _ _ (ht _ (cj hc))
  exact ht x hx⟩
end
section
variable {P : Program} {fr : Fr} {ops : Array Oper} {A : As} {rest : List Oper} {K : As → List (As × Fx) → Prop} {d : Nat} {t mt kt et : TypeId} {p : String} {e : Array Edge} {κ β : Type} [DecidableEq κ]
end
end Go.T
namespace Go.T
open Go Go.RowKit
def MU (J : World → bC → Prop) (w : World) (M : bC) : Prop :=
  ∃ Mc, Wf w Mc ∧ FL Mc ∧ J w Mc ∧ (∀ b, M b = none → Mc b = none) ∧ ∀ b u, b < w.heap.size → M b = some u → u ≠ 7000 → Mc b = some (Zt + b)
theorem vm {J : World → bC → Prop} (hJ : Cb J) {S K : Nat → Prop} {w w' : World} {M M' : bC} (le : Le S K w M w' M') (hs : ¬ S 7000) (hk : ¬ K 7000) (h : MU J w M) : MU J w' M' := by
  obtain ⟨Mc, wf, z, hj, h1, h2⟩ := h
  have own : ∀ b, M b = some 7000 → M' b = some 7000 ∧ w'.heap[b]? = w.heap[b]? := fun b h => let ⟨a, c⟩ := le.own b _ h hk; ⟨a, c hs⟩
  have mb : ∀ b t, Mc b = some t → t < Zt → M b = some 7000 := fun b t h ht => by
    cases hm : M b with
    | none => rw [h1 b hm] at h; cases h
    | some u =>
      by_cases e : u = 7000
      · rw [e]
      · have := h2 b u (wf.lt b t h) hm e
        rw [this] at h; injection h with h; omega
  let N : bC := fun b => if b < w'.heap.size then (match M' b with | none => none | some u => if u = 7000 then (if b < w.heap.size ∧ M b = some 7000 then Mc b else some (Zt + b)) else some (Zt + b)) else none
  have hN : ∀ b, N b = if b < w'.heap.size then (match M' b with | none => none | some u => if u = 7000 then (if b < w.heap.size ∧ M b = some 7000 then Mc b else some (Zt + b)) else some (Zt + b)) else none := fun _ => rfl
  have zok : FL N := by
    intro b u h hu
    rw [hN] at h
    split at h
    · split at h
      · cases h
      · split at h
        · split at h
          · exact z b u h hu
          · injection h with h; exact h.symm
        · injection h with h; exact h.symm
    · cases h
  have wf' : Wf w' N := by
    refine ⟨fun b t h => ?_, fun b b' t ht1 h h' => ?_⟩
    · rw [hN] at h
      split at h
      · assumption
      · cases h
    · have part : ∀ b, N b = some (t + 1) → Mc b = some (t + 1) := fun b h => by
        have hz : t + 1 < Zt := by unfold Zt; omega
        rw [hN] at h
        split at h
        · split at h
          · cases h
          · split at h
            · split at h
              · exact h
              · injection h with h; omega
            · injection h with h; omega
        · cases h
      exact wf.inj b b' t ht1 (part b h) (part b' h')
  have lez : Le (fun t => Zt ≤ t) (fun t => Zt ≤ t) w Mc w' N := by
    refine ⟨le.size, le.os, le.tape, le.out, fun b hb hm => ?_, fun b t hm ht => ?_⟩
    · have hb' : b < w'.heap.size := Nat.lt_of_lt_of_le hb le.size
      cases hmb : M b with
      | none =>
        obtain ⟨a, c⟩ := le.qW b hb hmb
        exact ⟨by rw [hN, if_pos hb', a], c⟩
      | some u =>
        by_cases e : u = 7000
        · subst e
          obtain ⟨a, c⟩ := own b hmb
          exact ⟨by rw [hN, if_pos hb', a]; show (if (7000 : Nat) = 7000 then _ else _) = _; rw [if_pos rfl, if_pos ⟨hb, hmb⟩]; exact hm, c⟩
        · rw [h2 b u hb hmb e] at hm; cases hm
    · have hlt := wf.lt b t hm
      have h0 := mb b t hm (Nat.lt_of_not_le ht)
      obtain ⟨a, c⟩ := own b h0
      refine ⟨?_, fun _ => c⟩
      rw [hN, if_pos (Nat.lt_of_lt_of_le hlt le.size), a]
      show (if (7000 : Nat) = 7000 then _ else _) = _
      rw [if_pos rfl, if_pos ⟨hlt, h0⟩]; exact hm
  refine ⟨N, wf', zok, hJ _ _ _ _ wf' lez hj, fun b h => ?_, fun b u hb h hu => ?_⟩
  · rw [hN, h]; split <;> rfl
  · rw [hN, if_pos hb, h]; show (if u = 7000 then _ else _) = _; rw [if_neg hu]
def Cont.ck {J : World → bC → Prop} (hJ : Cb J) : Cont :=
  { den := fun w M t => t = 7000 ∧ MU J w M
    mono := fun le _ _ hs hk ⟨e, h⟩ => ⟨e, vm hJ le (e ▸ hs) (e ▸ hk) h⟩ }
theorem Cont.ML {J : Nat → World → bC → Prop} (hJ : ∀ k, Cb (J k)) {a b : Nat} (e : a = b) : (Cont.ck (hJ a)).Sub (Cont.ck (hJ b)) := by subst e; exact Cont.aF _
def N7 (b1 : Bool) (J1 Jx : World → bC → Prop) (w : World) (M : bC) (v : Value) : Prop := (v = .bool b1 ∧ MU J1 w M) ∨ (v = .bool (!b1) ∧ MU Jx w M)
def Ty.yb {J1 Jx : World → bC → Prop} (b1 : Bool) (h1 : Cb J1) (hx : Cb Jx) : Ty :=
  ⟨N7 b1 J1 Jx, [7000], [7000], fun le hk hs h => h.imp (fun ⟨e, h⟩ => ⟨e, vm h1 le (hs _ (by simp)) (hk _ (by simp)) h⟩) (fun ⟨e, h⟩ => ⟨e, vm hx le (hs _ (by simp)) (hk _ (by simp)) h⟩), true, fun _ h => h.elim (fun ⟨e, _⟩ => e ▸ rfl) (fun ⟨e, _⟩ => e ▸ rfl)⟩
def Cont.me (g T : Nat) (v : Value) (tys : List Ty) (cs : List Value) (h1 : cE tys = []) (h2 : bl tys = []) : Cont :=
  { den := fun w M _ => M g = some 1000 ∧ w.heap[g]? = some (.cells #[v] T (0, 0)) ∧ cK w M tys cs
    deps := [1000], cdeps := [1000]
    mono := fun le hk hs _ _ ⟨e1, e2, e3⟩ => let ⟨a, c⟩ := le.own g _ e1 (hk 1000 (by simp)); ⟨a, (c (hs 1000 (by simp))).trans e2, bX le (by rw [h1]; intro _ h; cases h) (by rw [h2]; intro _ h; cases h) e3⟩ }
def B2 (w : World) (M1 Mc' : bC) : bC := fun b => if b < w.heap.size then M1 b else (Mc' b).map fun _ => 7000
theorem Gk {w w' : World} {M1 Mc Mc' : bC} (wf1 : Wf w M1) (wf' : Wf w' Mc') (h1 : ∀ b, M1 b = none → Mc b = none) (h2 : ∀ b u, b < w.heap.size → M1 b = some u → u ≠ 7000 → Mc b = some (Zt + b)) (le : Le (fun t => t < Zt) (fun t => t < Zt) w Mc w' Mc') :
 Wf w' (B2 w M1 Mc') ∧ Le (· ∈ [7000]) (· ∈ ([] : List Nat)) w M1 w' (B2 w M1 Mc') ∧ (∀ b, B2 w M1 Mc' b = none → Mc' b = none) ∧ ∀ b u, b < w'.heap.size → B2 w M1 Mc' b = some u → u ≠ 7000 → Mc' b = some (Zt + b) := by
 unfold B2
 refine ⟨⟨fun b u h => ?_, fun b b' u ht1 h h' => ?_⟩, ⟨le.size, le.os, le.tape, le.out, fun b hb hm => ⟨by simp [hb, hm], (le.qW b hb (h1 b hm)).2⟩, fun b u hm _ => ⟨by simp [wf1.lt b u hm, hm], fun hs => ?_⟩⟩, fun b h => ?_, fun b u _ h hu => ?_⟩
 ·split at h
  ·exact Nat.lt_of_lt_of_le ‹_› le.size
  obtain ⟨v, hv, _⟩ := Option.map_eq_some_iff.1 h
  exact wf'.lt b v hv
 ·have part : ∀ b, (if b < w.heap.size then M1 b else (Mc' b).map fun _ => 7000) = some (u + 1) → M1 b = some (u + 1) := fun b h => by
   split at h
   ·exact h
   obtain ⟨v, _, hv⟩ := Option.map_eq_some_iff.1 h
   omega
  exact wf1.inj b b' u ht1 (part b h) (part b' h')
 ·have hu : u ≠ 7000 := fun e => hs (by simp [e])
  exact (le.own b _ (h2 b u (wf1.lt b _ hm) hm hu) (by omega)).2 (by omega)
 ·split at h
  ·exact (le.qW b ‹_› (h1 b h)).1
  simpa using h
 split at h
 ·exact (le.own b _ (h2 b u ‹_› h hu) (by omega)).1
 obtain ⟨v, _, hv⟩ := Option.map_eq_some_iff.1 h
 exact absurd hv.symm hu
section
variable {P : Program} {fr : Fr} {ops : Array Oper} {A : As} {rest : List Oper} {K : As → List (As × Fx) → Prop} {d : Nat} {t ty' : TypeId} {p : String} {e : Array Edge}
theorem BM {c l k : Nat} {encs : List (List Ty)} {J : Nat → World → bC → Prop} {Jx : World → bC → Prop} (hJ : ∀ k, Cb (J k)) (hJx : Cb Jx) (hY : MS P l encs J Jx) {xs : List Operand} {ats : Array TypeId} {tys : List Ty}
 (hkd : fr.kd = .plain) (hc : A.op fr (.tmp c) = .ex (yv l)) (hx : oT A fr xs = tys) (hd : cE tys = []) (hdc : bl tys = []) (hk : encs[k]? = some tys) (ht : A.tag 7000 = some (.ck (hJ k)))
 (h : aj P fr ops rest (A.after { d := some d, ty := .yb true (hJ (k + 1)) hJx, S := [7000], rs := c :: xs.flatMap cD, rt := [7000] }) fun A' l' => K A' ((A, { d := some d, ty := .yb true (hJ (k + 1)) hJx, S := [7000], rs := c :: xs.flatMap cD, rt := [7000] }) :: l')) :
 aj P fr ops (⟨some d, .call ⟨.value (.tmp c), xs.toArray, ats⟩, t, p, e, none⟩ :: rest) A K := by
 refine ⟨{ d := some d, ty := .yb true (hJ (k + 1)) hJx, S := [7000], rs := c :: xs.flatMap cD, rt := [7000] }, ⟨rfl, by simp, by simp, by simp, fun a w M wf hsz hrd htg => ?_⟩, h⟩
 rw [if_pos (by simp [Region.wanted])]
 have hcv := cS (x := .tmp c) (rs := c :: xs.flatMap cD) (fun u hu => by exact (List.mem_singleton.1 hu) ▸ List.mem_cons_self) hrd
 rw [hc] at hcv
 have hcv : a.eval (.tmp c) = yv l := hcv
 obtain ⟨_, Mc, wfc, z, hj, h1, h2⟩ := htg _ (cj ht) (by simp)
 have hv : cK w Mc tys (xs.map a.eval) := iO h1 hd hdc (hx ▸ gl (rs := c :: xs.flatMap cD) hrd fun x hx c hc => List.mem_cons_of_mem _ (List.mem_flatMap.2 ⟨x, hx, hc⟩))
 obtain ⟨fn, tmps, assign, body, hy, hR⟩ := hY k tys hk w Mc _ wfc z hj hv
 refine ⟨fun f _ => fr.kd.vL f, ?_⟩
 have hrun : (execOp a.eval ⟨some d, .call ⟨.value (.tmp c), xs.toArray, ats⟩, t, p, e, none⟩).run P w = .ok (.round l fn tmps assign body) w := by
  simp [execOp, resolve, hcv, yv, Deferred.ofValue, invoke, hy]
 rw [Oper.semAt_eq _ _ _ (by intro c h; cases h), hrun, Oper.uponIn_round]
 refine ⟨fun h => (by rw [fr.kd.w7] at h; cases h), ?_⟩
 have hfe : fr.kd.jI = Fence.wide := by rw [hkd]; rfl
 rw [hfe]
 refine RoundIn.mono hR fun en w' ⟨Mc', wf', z', le, hor⟩ => ?_
 obtain ⟨g1, g2, g3, g4⟩ := Gk wf wf' h1 h2 le
 rcases hor with ⟨rfl, hj'⟩ | ⟨rfl, hj'⟩
 ·exact ⟨.bool true, rfl, _, g1, g2, .inl ⟨rfl, Mc', wf', z', hj', g3, g4⟩, by simp⟩
 exact ⟨.bool false, rfl, _, g1, g2, .inr ⟨rfl, Mc', wf', z', hj', g3, g4⟩, by simp⟩
theorem F9 {x : Operand} {J1 Jx : World → bC → Prop} {h1 : Cb J1} {hx : Cb Jx} {b1 : Bool} (hop : A.op fr x = .yb b1 h1 hx)
 (h : aj P fr ops rest (A.set d (.yb (!b1) h1 hx)) fun A' l' => K A' ((A, { d := some d, ty := .yb (!b1) h1 hx, rs := cD x }) :: l')) : aj P fr ops (⟨some d, .unOp .not ty' x, t, p, e, none⟩ :: rest) A K :=
 bL (bV rfl rfl fun a w M _ hrd _ => by
  have hdx := cS (x := x) (fun _ h => h) hrd
  rw [hop] at hdx
  rcases hdx with ⟨ex, hj⟩ | ⟨ex, hj⟩
  ·exact ⟨.bool (!b1), by simp [execOp, ex, Op.unary], .inl ⟨rfl, hj⟩⟩
  exact ⟨.bool (!!b1), by simp [execOp, ex, Op.unary], .inr ⟨rfl, hj⟩⟩) h
end
section
variable {P : Program} {fr : Fr} {A : As} {Q : Exit → Act → World → Prop} {x y : Code}
theorem EB {c : Operand} {J1 Jx : World → bC → Prop} {h1 : Cb J1} {hx : Cb Jx} (hc : A.op fr c = .yb false h1 hx) (hth : fX P fr x ⟨A.slots, (7000, .ck hx) :: A.tags⟩ Q) (hel : fX P fr y ⟨A.slots, (7000, .ck h1) :: A.tags⟩ Q) : fX P fr (.cond c x y) A Q := fun a w ha => by
 obtain ⟨M, ok, hs, ht⟩ := ha
 have hd := cS (x := c) (rs := cD c) (fun _ h => h) (fun c _ hn => hs c hn)
 rw [hc] at hd
 rcases hd with ⟨ev, hj⟩ | ⟨ev, hj⟩
 ·exact wpIn_cond_false ev (hel a w ⟨M, ok, hs, fun x hx => by
   rcases List.mem_cons.1 hx with rfl | hx
   ·exact ⟨rfl, hj⟩
   exact ht x hx⟩)
 ·exact wpIn_cond_true ev (hth a w ⟨M, ok, hs, fun x hx => by
   rcases List.mem_cons.1 hx with rfl | hx
   ·exact ⟨rfl, hj⟩
   exact ht x hx⟩)
end
def ko (Mc : bC) (g : Option Nat) : bC := fun b => match Mc b with | none => none | some u => if u < Zt then some 7000 else if some b = g then some 1000 else some 5000
theorem CG {Mc : bC} {g : Option Nat} {b : Nat} (h : ko Mc g b = none) : Mc b = none := by
 unfold ko at h
 split at h
 ·assumption
 split at h
 ·cases h
 split at h <;> cases h
theorem nx {Mc : bC} {g : Option Nat} {b : Nat} (h : Mc b = none) : ko Mc g b = none := by simp [ko, h]
theorem Fj {w : World} {Mc : bC} {g : Option Nat} (wf : Wf w Mc) : Wf w (ko Mc g) := by
  refine ⟨fun b t h => ?_, fun b b' t ht h h' => ?_⟩
  · cases hm : Mc b with
    | none => rw [nx hm] at h; cases h
    | some u => exact wf.lt b u hm
  · have key : ∀ b, ko Mc g b = some (t + 1) → some b = g := fun b h => by
      unfold ko at h
      split at h
      · cases h
      · split at h
        · injection h with h; omega
        · split at h
          · assumption
          · injection h with h; omega
    have e1 := key b h
    have e2 := key b' h'
    rw [← e2] at e1; injection e1
theorem FI {w : World} {Mc : bC} {g : Option Nat} {J : World → bC → Prop} (wf : Wf w Mc) (z : FL Mc) (hj : J w Mc) : MU J w (ko Mc g) := by
 refine ⟨Mc, wf, z, hj, fun b h => CG h, fun b u _ h hu => ?_⟩
 unfold ko at h
 split at h
 ·cases h
 rename_i v hv
 split at h
 ·injection h with h; exact absurd h.symm hu
 rw [hv]; congr 1; exact z b v hv (by omega)
section
variable {P : Program}
variable {A : As} {fn : Func} {n : Nat} {J1 Jx : World → bC → Prop}
end
end Go.T
namespace Go.T
open Go Go.RowKit
section
variable {P : Program} {fr : Fr} {ops : Array Oper} {A : As} {rest : List Oper} {K : As → List (As × Fx) → Prop} {d : Nat} {t ty' : TypeId} {p : String} {e : Array Edge} [T : kU P]
variable {α : Type} {E : El α} {Tb J : Nat} {xs ys : List α}
theorem Ls {x : Operand} {ti : TI} {el : Nat} (hx : A.op fr x = .eY E Tb J xs) (hT : T.eZ[ty']? = some ti) (hk : ti.k = .slice el)
 (h : aj P fr ops rest (A.set d (.int .i64 (xs.length : Nat))) fun A' l => K A' ((A, { d := some d, ty := .int .i64 (xs.length : Nat), rs := cD x }) :: l)) :
 aj P fr ops (⟨some d, .call ⟨.builtin .len, #[x], #[ty']⟩, t, p, e, none⟩ :: rest) A K :=
 bL (bV rfl rfl fun a w M _ hr _ => by
  have := cS (x := x) (fun _ h => h) hr
  rw [hx] at this
  have h1 := this
  obtain ⟨_, D, _, hD, hkd, _⟩ := dW hT
  rw [hk] at hkd
  cases D <;> simp only [TK.of, reduceCtorEq, TK.slice.injEq] at hkd
  refine ⟨.int .i64 xs.length, ?_, rfl⟩
  rcases h1 with ⟨hn, ex⟩ | ⟨g, off, c, cur, ex, _⟩
  ·simp [execOp, ex, resolve, invoke, builtin, Builtin.len_, run_underlying hD, hn, goInt]
  simp [execOp, ex, resolve, invoke, builtin, Builtin.len_, run_underlying hD, goInt]) h
theorem IZ [Inhabited α] {x y : Operand} {kd : IntKind} {i : Nat} {ti te : TI} {el : Nat} (hx : A.op fr x = .eY E Tb J xs) (hy : A.op fr y = .int kd i) (hT : T.eZ[ty']? = some ti) (hk : ti.k = .slice el) (hE : T.eZ[el]? = some te) (hs : te.size = E.size) (hi : i < xs.length)
 (h : aj P fr ops rest (A.set d (.op J (E.tys (nth xs i)))) fun A' l' => K A' ((A, { d := some d, ty := .op J (E.tys (nth xs i)), rs := cD x ++ cD y }) :: l')) : aj P fr ops (⟨some d, .indexAddr ty' x y, t, p, e, none⟩ :: rest) A K :=
 bL (bV rfl rfl fun a w M _ hr _ => by
  obtain ⟨hdx, hdy⟩ := op2 hr
  rw [hx] at hdx; rw [hy] at hdy
  have h1 := hdx
  have ey : a.eval y = .int kd i := hdy
  rcases h1 with ⟨h0, _⟩ | ⟨g, off, c, cur, ex, hg, hh, hn, _, _, hd⟩
  ·subst h0; simp at hi
  refine ⟨_, by simp only [execOp, ex, ey, Sem.run_bind, g7 hT hk hE (Int.natCast_nonneg i) (show (i : Int).toNat < xs.length from hi)]; rfl, g, off + i * te.size, by simp, hg, fun j ty hj => ?_⟩
  rw [hs]
  exact zD hh hd hi hj) h
theorem Lq {x y : Operand} {kd : IntKind} {lo : Nat} {ti te : TI} {el : Nat} (hx : A.op fr x = .eY E Tb J xs) (hy : A.op fr y = .int kd lo) (hT : T.eZ[ty']? = some ti) (hk : ti.k = .slice el) (hE : T.eZ[el]? = some te) (hs : te.size = E.size) (hlo : lo ≤ xs.length) (h0 : 0 < xs.length)
 (h : aj P fr ops rest (A.set d (.eY E Tb J (xs.drop lo))) fun A' l' => K A' ((A, { d := some d, ty := .eY E Tb J (xs.drop lo), rs := cD x ++ cD y }) :: l')) : aj P fr ops (⟨some d, .slice ty' x (some y) none none, t, p, e, none⟩ :: rest) A K :=
 bL (bV rfl rfl fun a w M _ hr _ => by
  obtain ⟨hdx, hdy⟩ := op2 hr
  rw [hx] at hdx; rw [hy] at hdy
  have h1 := hdx
  have ey : a.eval y = .int kd lo := hdy
  obtain ⟨_, D, _, hD, hkd, _⟩ := dW hT
  rw [hk] at hkd
  cases D <;> simp only [TK.of, reduceCtorEq, TK.slice.injEq] at hkd
  subst hkd
  have hsz := fun w => dS (P := P) hE w
  rcases h1 with ⟨hn, _⟩ | ⟨g, off, c, cur, ex, hg, hh, hn, hc, hsz2, hd⟩
  ·subst hn; simp at h0
  have hlc : lo ≤ c := by omega
  have hrun : ∃ ad, (execOp a.eval ⟨some d, .slice ty' x (some y) none none, t, p, e, none⟩).run P w = .ok (.value (.slice (some ad) (xs.length - lo) (c - lo))) w ∧ ad = (if c = lo then (⟨g, off, none⟩ : Addr) else ⟨g, off + lo * E.size, none⟩) := by
   refine ⟨_, ?_, rfl⟩
   simp [execOp, ex, ey, Instr.sliceAt, Instr.slice, run_underlying hD, Instr.sliceBounds, Instr.sliceBound, asIntOf, hsz, hs, hn, hlo]
   by_cases hcl : c = lo
   ·simp [hcl]
   simp [hcl]; exact Addr.add_lit _ _ _
  obtain ⟨ad, hrun, had⟩ := hrun
  have hlen : (xs.drop lo).length = xs.length - lo := List.length_drop
  have key : cK w M ((xs.drop lo).flatMap E.tys) ((cur.toList.drop (off + lo * E.size)).take ((xs.drop lo).length * E.size)) := by
   have := lM (lo * E.size) hd
   rw [List.drop_take, List.drop_drop, ← Nat.sub_mul] at this
   have e1 : (xs.flatMap E.tys).drop (lo * E.size) = (xs.drop lo).flatMap E.tys := by
    have : xs.flatMap E.tys = (xs.take lo).flatMap E.tys ++ (xs.drop lo).flatMap E.tys := by rw [← List.flatMap_append, List.take_append_drop]
    rw [this, List.drop_left' (by rw [dI, List.length_take, Nat.min_eq_left hlo])]
   rw [e1] at this
   rw [hlen]; exact this
  by_cases hcl : c = lo
  ·rw [if_pos hcl] at had
   subst had
   refine ⟨_, hrun, .inr ⟨g, off, c - lo, cur, by rw [hlen], hg, hh, by rw [hlen]; omega, by omega, ?_, ?_⟩⟩
   ·have : c - lo = 0 := by omega
    rw [this]; omega
   have h0' : xs.drop lo = [] := List.eq_nil_of_length_eq_zero (by rw [hlen]; omega)
   rw [h0']; simp [cK]
  rw [if_neg hcl] at had
  subst had
  refine ⟨_, hrun, .inr ⟨g, off + lo * E.size, c - lo, cur, by rw [hlen], hg, hh, by rw [hlen]; omega, by omega, ?_, key⟩⟩
  rw [Nat.add_assoc, ← Nat.add_mul, show lo + (c - lo) = c by omega]; exact hsz2) h
theorem E1 {x y : Operand} {st el : Nat} {ti te : TI} (hx : A.op fr x = .eY E el J xs) (hy : A.op fr y = .sl E ys) (hJ : 4096 ≤ J) (hp : fr.pass.contains J = false) (hpos : 0 < ys.length) (hT : T.eZ[st]? = some ti) (hk : ti.k = .slice el) (hE : T.eZ[el]? = some te) (hs : te.size = E.size) (hz : te.zero.length = te.size) (h0 : 0 < te.size)
    (hlen : (xs.length + ys.length) * te.bytes ≤ 140737488355328) (hlen' : xs.length + ys.length ≤ 9223372036854775807)
    (h : aj P fr ops rest (A.after { d := some d, ty := .eY E el J (xs ++ ys), S := [J], rs := cD x ++ cD y }) fun A' l' => K A' ((A, { d := some d, ty := .eY E el J (xs ++ ys), S := [J], rs := cD x ++ cD y }) :: l')) :
    aj P fr ops (⟨some d, .call ⟨.builtin .append, #[x, y], #[st, st]⟩, t, p, e, none⟩ :: rest) A K := by
  refine ⟨_, gp rfl rfl (by simp) (by simp; omega) (by simp) fun a w M wf hr htg => ?_, h⟩
  obtain ⟨hdx, hdy⟩ := op2 hr
  rw [hx] at hdx; rw [hy] at hdy
  have hrow := hdx
  obtain ⟨_, D, _, hD, hkd, _⟩ := dW hT
  rw [hk] at hkd
  cases D <;> simp only [TK.of, reduceCtorEq, TK.slice.injEq] at hkd
  subst hkd
  rename_i el
  obtain ⟨i, _, hi, _, _, hsz, hby, hze⟩ := dW hE
  obtain ⟨zz, hiz, hzc⟩ : ∃ z, i.zero = some z ∧ z.cells.size = i.size := by
    cases hiz : i.zero with
    | none => rw [hiz] at hze; rw [← hze] at hz; simp at hz; omega
    | some z => rw [hiz] at hze; exact ⟨z, rfl, by simp at hze; rw [hsz, ← hz, ← hze]; simp⟩
  obtain ⟨ad, c', ey, hc1, hc2, hpp⟩ := hdy
  obtain ⟨b', off', rfl, hp'⟩ := hpp hpos
  obtain ⟨news, hn1, hn2, hn3⟩ := nD hp' _ (Nat.le_refl _)
  rw [List.take_length] at hn2
  have hnl : news.length = ys.length * i.size := by rw [hn1, dI, hsz, hs]
  have hnews : ∀ j u, news[j]? = some u → w.cell? ((⟨b', off', none⟩ : Addr).add j) = some u := fun j u hj => by rw [Addr.add_lit]; exact hn3 j u hj
  have hones := lJ hn2 (lO E ys)
  have hesz : E.size = i.size := by rw [hsz, hs]
  -- behind a growth
  have grown : ∀ (olds : List Value) (cap : Nat), cK w M (xs.flatMap E.tys) olds → cap < xs.length + ys.length →
      (Builtin.append_ #[st, st] t #[a.eval x, a.eval y]).run P w = .ok (.slice (some ⟨w.heap.size, 0, none⟩) (xs.length + ys.length) (grownCap w (xs.length + ys.length) cap el)) (w.drew.alloc (.cells (olds.toArray ++ news.toArray ++ Builtin.zeroCells zz.cells (grownCap w (xs.length + ys.length) cap el - (xs.length + ys.length))) el)) →
      ∃ v w', (execOp a.eval ⟨some d, .call ⟨.builtin .append, #[x, y], #[st, st]⟩, t, p, e, none⟩).run P w = .ok (.value v) w' ∧ Fx.left { d := some d, ty := .eY E el J (xs ++ ys), S := [J], rs := cD x ++ cD y } w M w' v := by
    intro olds cap hdo hcap hrun
    have holen : olds.length = xs.length * i.size := by rw [cG hdo, dI, hesz]
    have hge := grownCap_ge w (xs.length + ys.length) cap el
    have hcm : grownCap w (xs.length + ys.length) cap el ≤ maxLen := grownCap_le_maxLen w (xs.length + ys.length) cap el (by simp only [maxLen]; omega)
    have hsize : (w.drew.alloc (.cells (olds.toArray ++ news.toArray ++ Builtin.zeroCells zz.cells (grownCap w (xs.length + ys.length) cap el - (xs.length + ys.length))) el)).heap.size = w.heap.size + 1 := by simp
    have hold : ∀ b2, b2 < w.heap.size → (w.drew.alloc (.cells (olds.toArray ++ news.toArray ++ Builtin.zeroCells zz.cells (grownCap w (xs.length + ys.length) cap el - (xs.length + ys.length))) el)).heap[b2]? = w.heap[b2]? := fun b2 h => Below.heap_alloc w.drew _ b2 h
    have hnew : (w.drew.alloc (.cells (olds.toArray ++ news.toArray ++ Builtin.zeroCells zz.cells (grownCap w (xs.length + ys.length) cap el - (xs.length + ys.length))) el)).heap[w.heap.size]? = some (.cells (olds.toArray ++ news.toArray ++ Builtin.zeroCells zz.cells (grownCap w (xs.length + ys.length) cap el - (xs.length + ys.length))) el (0, 0)) := g8 w.drew _
    have hos : (w.drew.alloc (.cells (olds.toArray ++ news.toArray ++ Builtin.zeroCells zz.cells (grownCap w (xs.length + ys.length) cap el - (xs.length + ys.length))) el)).os = w.os ∧ (w.drew.alloc (.cells (olds.toArray ++ news.toArray ++ Builtin.zeroCells zz.cells (grownCap w (xs.length + ys.length) cap el - (xs.length + ys.length))) el)).tape = w.tape ∧ (w.drew.alloc (.cells (olds.toArray ++ news.toArray ++ Builtin.zeroCells zz.cells (grownCap w (xs.length + ys.length) cap el - (xs.length + ys.length))) el)).output = w.output := ⟨rfl, rfl, rfl⟩
    have hcs : (olds.toArray ++ news.toArray ++ Builtin.zeroCells zz.cells (grownCap w (xs.length + ys.length) cap el - (xs.length + ys.length))).size = grownCap w (xs.length + ys.length) cap el * i.size := by
      simp only [Array.size_append, List.size_toArray, size_zeroCells, hzc, holen, hnl, ← Nat.add_mul]
      congr 1
      omega
    have htk : ((olds.toArray ++ news.toArray ++ Builtin.zeroCells zz.cells (grownCap w (xs.length + ys.length) cap el - (xs.length + ys.length))).toList.drop 0).take ((xs ++ ys).length * E.size) = olds ++ news := by
      rw [List.drop_zero]
      simp only [Array.toList_append]
      rw [List.take_left' (by rw [List.length_append, holen, hnl, List.length_append, hesz, Nat.add_mul])]
    generalize hw' : (w.drew.alloc (.cells (olds.toArray ++ news.toArray ++ Builtin.zeroCells zz.cells (grownCap w (xs.length + ys.length) cap el - (xs.length + ys.length))) el)) = w' at *
    generalize hcu : (olds.toArray ++ news.toArray ++ Builtin.zeroCells zz.cells (grownCap w (xs.length + ys.length) cap el - (xs.length + ys.length))) = cu at *
    have le : Le (· ∈ [J]) (· ∈ ([] : List Nat)) w M w' (fun b2 => if b2 = w.heap.size then some J else M b2) :=
      ⟨by omega, hos.1, hos.2.1, hos.2.2, fun b2 hb2 hm => ⟨by rw [if_neg (by omega)]; exact hm, hold b2 hb2⟩, fun b2 u hm _ => by
        have := wf.lt b2 u hm
        exact ⟨by rw [if_neg (by omega)]; exact hm, fun _ => hold b2 this⟩⟩
    have le0 : Le (· ∈ ([] : List Nat)) (· ∈ ([] : List Nat)) w M w' (fun b2 => if b2 = w.heap.size then some J else M b2) :=
      ⟨by omega, hos.1, hos.2.1, hos.2.2, fun b2 hb2 hm => ⟨by rw [if_neg (by omega)]; exact hm, hold b2 hb2⟩, fun b2 u hm _ => by
        have := wf.lt b2 u hm
        exact ⟨by rw [if_neg (by omega)]; exact hm, fun _ => hold b2 this⟩⟩
    have wf' : Wf w' (fun b2 => if b2 = w.heap.size then some J else M b2) := by
      refine ⟨fun b2 u hm => ?_, fun b2 b3 u ht1 hm hm' => ?_⟩
      · split at hm
        · omega
        · have := wf.lt b2 u hm; omega
      · split at hm
        · injection hm with hm; omega
        · split at hm'
          · injection hm' with hm'; omega
          · exact wf.inj b2 b3 u ht1 hm hm'
    refine ⟨.slice (some ⟨w.heap.size, 0, none⟩) (xs.length + ys.length) (grownCap w (xs.length + ys.length) cap el), w', by simp [execOp, resolve, invoke, builtin, hrun], _, wf', le, .inr ⟨w.heap.size, 0, grownCap w (xs.length + ys.length) cap el, cu, by rw [List.length_append], by simp, hnew, by rw [List.length_append]; exact hge, hcm, by rw [hcs, hesz]; omega, ?_⟩, by simp⟩
    rw [htk, List.flatMap_append]
    exact jB (bX le0 (by rw [E.cX]; intro _ h; cases h) (by rw [E.cJ]; intro _ h; cases h) hdo) (bX le0 (by rw [E.cX]; intro _ h; cases h) (by rw [E.cJ]; intro _ h; cases h) hn2)
  rcases hrow with ⟨hxe, ex⟩ | ⟨g, off, cap, cur, ex, hg, hh, hxc, hcm, hfit, hdx⟩
  · have hrn := run_append_nil (P := P) w st t el i zz hD hi hiz ⟨b', off', none⟩ ys.length c' news hnl hnews hpos (by omega) (by rw [hby]; have := hlen; rw [Nat.add_mul] at this; omega)
    subst hxe
    refine grown [] 0 trivial (by simpa using hpos) ?_
    rw [ex, ey]
    simpa using hrn
  · by_cases hroom : xs.length + ys.length ≤ cap
    · -- in place
      have hm : (xs.length + ys.length) * E.size ≤ cap * E.size := Nat.mul_le_mul_right _ hroom
      rw [Nat.add_mul] at hm
      have hcf : off + xs.length * i.size + news.length ≤ cur.size := by rw [hnl, ← hesz]; omega
      have hf := run_firstCells_some (P := P) w i.size ys.length ⟨b', off', none⟩ ys.length c' news hnl hnews
      have hst := run_storeCells_at (P := P) g (off + xs.length * i.size) el news 0 cur w hh (by simpa using hcf) hones
      rw [l8 _ hh] at hst
      simp only [Nat.add_zero] at hst
      obtain ⟨h1', h2', h3'⟩ := gw (cs' := (cur.toList.take (off + xs.length * i.size) ++ news ++ cur.toList.drop (off + xs.length * i.size + news.length)).toArray) (Tb := el) wf hg _ rfl
      have hrun : (Builtin.append_ #[st, st] t #[a.eval x, a.eval y]).run P w = .ok (.slice (some ⟨g, off, none⟩) (xs.length + ys.length) cap) { w with heap := w.heap.setIfInBounds g (.cells (cur.toList.take (off + xs.length * i.size) ++ news ++ cur.toList.drop (off + xs.length * i.size + news.length)).toArray el (0, 0)) } := by
        rw [ex, ey]
        simp [Builtin.append_, run_underlying hD, sizeOf, typeInfo, hi, Builtin.lenOf, hroom, hf, Addr.add_lit, hst]
      have le : Le (· ∈ [J]) (· ∈ ([] : List Nat)) w M { w with heap := w.heap.setIfInBounds g (.cells (cur.toList.take (off + xs.length * i.size) ++ news ++ cur.toList.drop (off + xs.length * i.size + news.length)).toArray el (0, 0)) } M :=
        h2'.weaken (fun u hu => by simp only [List.mem_singleton] at hu; subst hu; simp) (fun _ h => by cases h)
      refine ⟨.slice (some ⟨g, off, none⟩) (xs.length + ys.length) cap, _, by simp [execOp, resolve, invoke, builtin, hrun], M, h1', le, .inr ⟨g, off, cap, _, by rw [List.length_append], hg, h3', by rw [List.length_append]; exact hroom, hcm, ?_, ?_⟩, by simp⟩
      · simp only [List.size_toArray, List.length_append, List.length_take, List.length_drop, Array.length_toList]
        omega
      · rw [List.length_append, Nat.add_mul, hesz, ← hnl, List.toList_toArray, w5 _ _ _ _ (by simpa using hcf), List.flatMap_append]
        refine bX h2' (by rw [← List.flatMap_append, E.cX]; intro _ h; cases h) (by rw [← List.flatMap_append, E.cJ]; intro _ h; cases h) (jB ?_ hn2)
        rw [← hesz]; exact hdx
    · have holds : ∀ j u, ((cur.toList.drop off).take (xs.length * E.size))[j]? = some u → w.cell? ((⟨g, off, none⟩ : Addr).add j) = some u := fun j u hj => by
        rw [List.getElem?_take] at hj
        split at hj
        · rw [List.getElem?_drop] at hj
          rw [Addr.add_lit]
          simpa [World.cell?, hh] using hj
        · cases hj
      have hol : ((cur.toList.drop off).take (xs.length * E.size)).length = xs.length * i.size := by rw [cG hdx, dI, hesz]
      have hrn := run_append_grow (P := P) w st t el i zz hD hi hiz ⟨g, off, none⟩ xs.length cap _ hol holds ⟨b', off', none⟩ ys.length c' news hnl hnews (by omega) (by omega) (growslice_fits (by omega) (by rw [hby]; exact hlen))
      refine grown _ cap hdx (by omega) ?_
      rw [ex, ey]
      exact hrn
end
section
variable {P : Program} {fr : Fr} {A : As} {c : Code} {Q : Exit → Act → World → Prop}
end
end Go.T
namespace Go.T
open Go Go.RowKit
section
variable {P : Program} {fr : Fr} {ops : Array Oper} {A : As} {rest : List Oper} {K : As → List (As × Fx) → Prop} {d : Nat} {t : TypeId} {p : String} {e : Array Edge}
end
end Go.T
namespace Go.T
open Go Go.RowKit
theorem Ty.wT {α : Type} {E : El α} {T tg n : Nat} {xs : List α} (hn : xs.length = n) : (Ty.row E T tg xs).Sub (Ty.vs tg n) := fun w M v ⟨cs, h1, h2, h3⟩ => by
 subst hn
 rcases h1.2 with ⟨e, h0⟩ | ⟨g, cap, cur, ex, _, hh, hn1, hcap, _, htk⟩
 ·exact .inl ⟨h0, e⟩
 exact .inr ⟨g, cap, h3 g (by rw [ex]; rfl), ex, hn1, hcap⟩
theorem Cont.eB {T : Nat} {l l' : List Ty} (h : Jj l l') : (Cont.cells T l).Sub (Cont.cells T l') := fun w M v ⟨b, cs, h1, h2, h3⟩ => ⟨b, cs, h1, h2, tY h h3⟩
end Go.T
namespace Go.T
open Go Go.RowKit
end Go.T
namespace Go.T
open Go Go.RowKit
section
variable {P : Program} {fr : Fr} {A : As} {c : Code} {Q : Exit → Act → World → Prop}
theorem m9 {α : Type} {E : El α} {T Tc tg c0 : Nat} {l : List Ty} {xs : List α} (i : Nat) (hc : A.tag c0 = some (.cells Tc l)) (hi : l[i]? = some (.row E T tg xs))
 (h : fX P fr c ⟨A.slots, (tg, .vec E T xs) :: A.tags⟩ Q) : fX P fr c A Q := fun a w ⟨M, ok, hsl, ht⟩ => by
 refine h a w ⟨M, ok, hsl, fun x hx => ?_⟩
 rcases List.mem_cons.1 hx with rfl | hx
 ·obtain ⟨b, cs, hb, hh, hd⟩ := ht _ (cj hc)
  obtain ⟨v, _, ⟨ds, h1, h2, h3⟩⟩ := dQ hd i _ hi
  rcases h1.2 with ⟨e, h0⟩ | ⟨g, cap, cur, ex, _, hh, hn1, hcap, _, htk⟩
  ·exact .inl (List.length_eq_zero_iff.1 h0)
  have hg : M g = some tg := h3 g (by rw [ex]; rfl)
  exact .inr ⟨g, cur, hg, hh, by rw [dI, htk]; exact h2⟩
 exact ht x hx
end
end Go.T
namespace Go.T
open Go Go.RowKit
section
variable {P : Program} {A : As} {fn : Func} {n : Nat} {w0 : World} {M0 : bC}
end
end Go.T
namespace Go.T
open Go Go.RowKit
section
variable {P : Program} {fr : Fr} {A : As} {c : Code} {Q : Exit → Act → World → Prop}
end
section
variable {P : Program} {A : As} {fn : Func} {n : Nat} {w0 : World} {M0 : bC}
end
end Go.T
namespace Go.T
open Go Go.RowKit
section
variable {P : Program} {fr : Fr} {ops : Array Oper} {A : As} {rest : List Oper} {K : As → List (As × Fx) → Prop} {d : Nat} {t : TypeId} {p : String} {e : Array Edge} {y : Operand}
theorem AO {c : Operand} {b : Bool} (hc : A.op fr c = .bool false) (hy : A.op fr y = .bool b)
 (h : aj P fr ops rest (A.set d (.bool b)) fun A' l' => K A' ((A, { d := some d, ty := .bool b, rs := cD c ++ cD y }) :: l')) : aj P fr ops (⟨some d, .pick c (.const (.bool true)) y, t, p, e, none⟩ :: rest) A K :=
 bL (bV rfl rfl fun a w M _ hrd _ => by
  obtain ⟨hdc, hdy⟩ := op2 hrd
  rw [hc] at hdc; rw [hy] at hdy
  have ec : a.eval c = .bool false := hdc
  have ey : a.eval y = .bool b := hdy
  exact ⟨.bool b, by simp only [execOp, ec, ey]; simp [asBool], rfl⟩) h
theorem KB {c : Operand} (hc : A.op fr c = .bool true)
 (h : aj P fr ops rest (A.set d (.bool true)) fun A' l' => K A' ((A, { d := some d, ty := .bool true, rs := cD c ++ cD y }) :: l')) : aj P fr ops (⟨some d, .pick c (.const (.bool true)) y, t, p, e, none⟩ :: rest) A K :=
 bL (bV rfl rfl fun a w M _ hrd _ => by
  obtain ⟨hdc, _⟩ := op2 hrd
  rw [hc] at hdc
  have ec : a.eval c = .bool true := hdc
  exact ⟨.bool true, by simp only [execOp, ec]; simp [asBool, Act.eval], rfl⟩) h
theorem AB {op : Op} {j s : Nat} {want : Bool} (hs : pG ops j = some s) (hn : Nat.blt s fr.n = true) (hc : A.slots s = .ex undef)
 (h : aj P fr ops rest (A.set d (.ex undef)) fun A' l' => K A' ((A, { d := some d, ty := .ex undef, rs := [s] }) :: l')) : aj P fr ops (⟨some d, op, t, p, e, some (j, want)⟩ :: rest) A K := by
 refine ⟨{ d := some d, ty := .ex undef, rs := [s] }, ⟨rfl, (by simp), (by simp), (by simp), fun a w M wf hsz hrd htg => ?_⟩, h⟩
 have hv := hrd s List.mem_cons_self (by simpa using hn)
 rw [hc] at hv
 have hy := qj (ops := ops) hs (by rw [hsz]; simpa using hn) hv
 have hw : Region.wanted ⟨some d, op, t, p, e, some (j, want)⟩ (yielded ops a.tmps) = false := by
  simp only [Region.wanted, hy]
  cases want <;> simp_all
 rw [if_neg (by rw [hw]; simp)]
 exact ⟨M, wf, Le.refl _ _ _ _, rfl, by simp⟩
end
section
variable {P : Program} {fr : Fr} {A : As} {Q : Exit → Act → World → Prop} {code : Code}
end
end Go.T
namespace Go.T
open Go Go.RowKit
section
variable {P : Program} {fr : Fr} {A : As} {Q : Exit → Act → World → Prop}
end
end Go.T
namespace Go.T
open Go Go.RowKit
section
variable {P : Program} {fr : Fr} {ops : Array Oper} {A : As} {rest : List Oper} {K : As → List (As × Fx) → Prop} {d : Nat} {t ty' : TypeId} {p : String} {e : Array Edge} [T : kU P]
end
section
open Go.RowKit
variable {P : Program} {A : As} {fn : Func} {n : Nat} {w0 : World} {M0 : bC} {F : List Nat} {post : List (Nat × Cont)} [T : kU P]
end
section
variable {P : Program} {fr : Fr} {A : As}
end
end Go.T
namespace Go.T
open Go Go.RowKit
section
variable {P : Program} {fr : Fr} {A : As}
end
end Go.T
namespace Go.T
open Go Go.RowKit
end Go.T
namespace Go.T
open Go Go.RowKit
def Mi (tys : List Ty) (vs : List Value) (w : World) (M : bC) (_ : Nat) : Prop := cK w M tys vs
def Cont.fact (tys : List Ty) (vs : List Value) (h1 : cE tys = []) (h2 : bl tys = []) : Cont :=
  { den := Mi tys vs, deps := [], cdeps := [], mono := fun le _ _ _ _ h => bX le (by rw [h1]; intro _ h; cases h) (by rw [h2]; intro _ h; cases h) h }
def XB (b D Tb : Nat) (vs : List Value) (J : Nat → World → bC → Prop) : Prop :=
  ∀ k w M, Wf w M → J k w M → M b = some D ∧ ∃ cs : Array Value, w.heap[b]? = some (.cells cs Tb (0, 0)) ∧ cs.toList.take vs.length = vs
def Hv (P : Program) (f : FuncId) (b D Tb : Nat) (vs : List Value) (tys : List Ty) (args : Nat → List Ty) (encs : List (List Ty)) (resD resS : Ty) : Prop :=
  (∃ fn, P.funcs[f]? = some fn ∧ (fn.name == "runtime.NumGoroutine") = false ∧ fn.body.isNone = false) ∧
  ∀ l J Jx, (∀ k, Cb (J k)) → Cb Jx → XB b D Tb vs J → MS P l encs J Jx → ∀ w M us, Wf w M → FL M → cK w M (args l) us → cK w M tys vs → J 0 w M →
    Calls P f us.toArray w (cZ encs.length J Jx resD resS)
section
variable {P : Program}
theorem CY {f b D Tb : Nat} {us : List Value} {tys : List Ty} {fn : Func} {c : Code} {args : Nat → List Ty} {encs : List (List Ty)} {n : Nat} (h1 : cE tys = []) (h2 : bl tys = []) (hf : P.funcs[f]? = some fn) (hb : fn.body = some c) (hn : (fn.name == "runtime.NumGoroutine") = false) (hnt : fn.ntmps = n) (hl : ∀ l, (args l).length ≤ n) (hdd : ∀ l, cE (args l) = [] ∧ bl (args l) = [])
    (h : ∀ l J Jx (hJ : ∀ k, Cb (J k)) (hJx : Cb Jx), XB b D Tb us J → MS P l encs J Jx → ∀ w0 M0, fX P ⟨n, w0, M0, [7000, 5000], .plain⟩ c (sn (args l) [(7000, .ck (hJ 0)), (4000, Cont.fact tys us h1 h2)]) (bodyPost P fn (cZ encs.length J Jx (Ty.jv []) (Ty.jv [])))) : Hv P f b D Tb us tys args encs (Ty.jv []) (Ty.jv []) := by
  refine ⟨⟨fn, hf, hn, by rw [hb]; rfl⟩, fun l J Jx hJ hJx hX hY w Mc vs wf z hd hus hj => calls_of_wp hf hb (wpIn_wide.1 (h l J Jx hJ hJx hX hY w (ko Mc none) _ _ ?_))⟩
  have hall : cK w (ko Mc none) (args l) vs := iO (fun b hb => nx hb) (hdd l).1 (hdd l).2 hd
  have hlen := cG hall
  have hl := hl l
  refine ⟨ko Mc none, ⟨Fj wf, Le.refl _ _ _ _, by simp [hnt, hlen]; omega, Defs.nil⟩, fun c hc => ?_, fun x hx => ?_⟩
  · simp only [sn]
    cases ha : (args l)[c]? with
    | none => trivial
    | some ty =>
      obtain ⟨v, hv, hdv⟩ := dQ hall c ty ha
      have : (vs.toArray ++ Array.replicate (fn.ntmps - vs.toArray.size) undef).getD c undef = v := by
        have hlt : c < vs.length := (List.getElem?_eq_some_iff.1 hv).1
        rw [Array.getD_eq_getD_getElem?, Array.getElem?_append_left (by simpa using hlt)]
        simp [hv]
      rw [this]; exact hdv
  · rcases List.mem_cons.1 hx with rfl | hx
    · exact ⟨rfl, FI wf z hj⟩
    · rw [List.mem_singleton.1 hx]
      exact iO (fun b hb => nx hb) h1 h2 hus
theorem Je {fn : Func} {n : Nat} {A : As} {w0 : World} {M0 : bC} {J : Nat → World → bC → Prop} {Jx : World → bC → Prop} {m : Nat} {h1 : Cb (J m)} (hr : fn.results = #[]) (ht : A.tag 7000 = some (.ck h1)) : dy ⟨n, w0, M0, [7000, 5000], .plain⟩ A (bodyPost P fn (cZ m J Jx (Ty.jv []) (Ty.jv [])) .normal) := by
 intro a w' ⟨M, ok, hsl, htg⟩
 obtain ⟨_, Mc', wf', z', hj, k1, k2⟩ := htg _ (cj ht)
 exact ⟨ok.gZ (by simp), _, results_none hr _ _ _, _, Mc', rfl, wf', z', .inl ⟨⟨_, rfl, trivial⟩, hj⟩⟩
theorem GQ {fn : Func} {n : Nat} {A : As} {w0 : World} {M0 : bC} {J : Nat → World → bC → Prop} {Jx : World → bC → Prop} {m k : Nat} {hJ : ∀ k, Cb (J k)} (e : k = m) (hr : fn.results = #[]) (ht : A.tag 7000 = some (.ck (hJ k))) : dy ⟨n, w0, M0, [7000, 5000], .plain⟩ A (bodyPost P fn (cZ m J Jx (Ty.jv []) (Ty.jv [])) .normal) := by
 subst e; exact Je hr ht
theorem D5 {fn : Func} {n : Nat} {A : As} {w0 : World} {M0 : bC} {J : Nat → World → bC → Prop} {Jx : World → bC → Prop} {m : Nat} {hx : Cb Jx} (hr : fn.results = #[]) (ht : A.tag 7000 = some (.ck hx)) : dy ⟨n, w0, M0, [7000, 5000], .plain⟩ A (bodyPost P fn (cZ m J Jx (Ty.jv []) (Ty.jv [])) .ret) := by
 intro a w' ⟨M, ok, hsl, htg⟩
 obtain ⟨_, Mc', wf', z', hj, k1, k2⟩ := htg _ (cj ht)
 exact ⟨ok.gZ (by simp), _, results_none hr _ _ _, _, Mc', rfl, wf', z', .inr ⟨⟨_, rfl, trivial⟩, hj⟩⟩
variable {fr : Fr} {ops : Array Oper} {A : As} {rest : List Oper} {K : As → List (As × Fx) → Prop} {d : Nat} {t ty' : TypeId} {p : String} {e : Array Edge} [T : kU P]
omit T in
theorem kG {x : Operand} {b off : Nat} (hx : A.op fr x = .ex (.pointer (some ⟨b, off, none⟩)))
 (h : aj P fr ops rest (A.set d (.ex (.pointer (some ⟨b, off, none⟩)))) fun A' l' => K A' ((A, { d := some d, ty := .ex (.pointer (some ⟨b, off, none⟩)), rs := cD x }) :: l')) : aj P fr ops (⟨some d, .nilCheck x, t, p, e, none⟩ :: rest) A K :=
 bL (bV rfl rfl fun a w M _ hrd _ => by
  have hdx := cS (x := x) (fun _ h => h) hrd
  rw [hx] at hdx
  have ex : a.eval x = .pointer (some ⟨b, off, none⟩) := hdx
  exact ⟨_, by simp [execOp, ex], rfl⟩) h
theorem jH {x : Operand} {b off f : Nat} {ti tf : TI} {fs : List (Nat × Nat)} {o ft : Nat} (hx : A.op fr x = .ex (.pointer (some ⟨b, off, none⟩))) (hT : T.eZ[ty']? = some ti) (hk : ti.k = .struct fs) (hf : fs[f]? = some (o, ft)) (hF : T.eZ[ft]? = some tf) (h0 : tf.size ≠ 0)
 (h : aj P fr ops rest (A.set d (.ex (.pointer (some ⟨b, off + o, none⟩)))) fun A' l' => K A' ((A, { d := some d, ty := .ex (.pointer (some ⟨b, off + o, none⟩)), rs := cD x }) :: l')) : aj P fr ops (⟨some d, .fieldAddr ty' x f, t, p, e, none⟩ :: rest) A K :=
 bL (bV rfl rfl fun a w M _ hrd _ => by
  have hdx := cS (x := x) (fun _ h => h) hrd
  rw [hx] at hdx
  have ex : a.eval x = .pointer (some ⟨b, off, none⟩) := hdx
  exact ⟨_, by simp [execOp, ex, tq hT hk hf hF h0], rfl⟩) h
def Nx {α : Type} (v : Value) (E : El α) (T tg : Nat) (xs : List α) (w : World) (M : bC) (_ : Nat) : Prop := (Ty.row E T tg xs).den w M v
def Cont.rv {α : Type} (v : Value) (E : El α) (T tg : Nat) (xs : List α) : Cont :=
  { den := Nx v E T tg xs, deps := (Ty.row E T tg xs).deps, cdeps := (Ty.row E T tg xs).cdeps, mono := fun le hk hs _ _ h => (Ty.row E T tg xs).mono le hk hs h }
theorem pY {α : Type} {E : El α} {c : Nat} {y : Operand} {st el tg : Nat} {v : Value} {ti te : TI} {xs ys : List α} (hx : A.op fr (.tmp c) = .ex v) (hc : A.tag tg = some (.rv v E el tg xs)) (hy : A.op fr y = .sl E ys) (hcy : (cD y).contains c = false) (h1 : 1 ≤ tg) (hp : fr.pass.contains tg = false) (hT : T.eZ[st]? = some ti) (hk : ti.k = .slice el) (hE : T.eZ[el]? = some te) (hs : te.size = E.size) (hz : te.zero.length = te.size) (h0 : 0 < te.size)
 (hlen : (xs.length + ys.length) * te.bytes ≤ 140737488355328) (hlen' : xs.length + ys.length ≤ 9223372036854775807) (hyA : (A.set c (.row E el tg xs)).op fr y = A.op fr y) (hxA : (A.set c (.row E el tg xs)).op fr (.tmp c) = .row E el tg xs)
 (h : aj P fr ops rest (A.after { d := some d, ty := .row E el tg (xs ++ ys), K := [tg], rs := cD (.tmp c) ++ cD y, rt := [tg] }) fun A' l' => K A' ((A, { d := some d, ty := .row E el tg (xs ++ ys), K := [tg], rs := cD (.tmp c) ++ cD y, rt := [tg] }) :: l')) :
 aj P fr ops (⟨some d, .call ⟨.builtin .append, #[.tmp c, y], #[st, st]⟩, t, p, e, none⟩ :: rest) A K := by
 refine ⟨_, ?_, h⟩
 obtain ⟨a1, a2, a3, a4, a5⟩ := wk (P := P) (fr := fr) (ops := ops) (A := A.set c (.row E el tg xs)) (d := d) (t := t) (p := p) (e := e) (x := .tmp c) (y := y) (E := E) (xs := xs) (ys := ys) (st := st) (by rw [hxA]; exact Ty.aF _) (hyA.trans hy) h1 hp hT hk hE hs hz h0 hlen hlen'
 refine ⟨a1, a2, a3, a4, fun a w M wf hsz hr ht => a5 a w M wf hsz (fun c' hc' hn => ?_) (fun x _ hx => by cases hx)⟩
 by_cases e : c' = c
 ·subst e
  have h1 : (A.slots c').den w M (a.tmps.getD c' undef) := hr c' hc' hn
  have h2 : Nx v E el tg xs w M tg := ht _ (cj hc) (by simp)
  have h3 : A.slots c' = .ex v := by
   have h5 : (bif Nat.blt c' fr.n then A.slots c' else Ty.any) = .ex v := hx
   have h6 : Nat.blt c' fr.n = true := by rw [Nat.blt_eq]; exact hn
   rw [h6, cond_true] at h5
   exact h5
  rw [h3] at h1
  have h4 : a.tmps.getD c' undef = v := h1
  show ((A.set c' (.row E el tg xs)).slots c').den w M _
  simp only [As.set, Nat.beq_refl, cond_true]
  rw [h4]; exact h2
 show ((A.set c (.row E el tg xs)).slots c').den w M _
 have : Nat.beq c' c = false := by cases hb : Nat.beq c' c with | false => rfl | true => exact absurd (Nat.eq_of_beq_eq_true hb) e
 simp only [As.set, this, cond_false]
 exact hr c' hc' hn
theorem Bu {vs l : List Value} {i : Nat} {v : Value} (h : l.take vs.length = vs) (hv : vs[i]? = some v) : l[i]? = some v := by
 have hi : i < vs.length := (List.getElem?_eq_some_iff.1 hv).1
 rw [← h, List.getElem?_take, if_pos hi] at hv
 exact hv
theorem rM {x : Operand} {b D Tb off k : Nat} {vs : List Value} {tys : List Ty} {J : Nat → World → bC → Prop} {hJ : ∀ k, Cb (J k)} {ti : TI} {ty : Ty} {h1 : cE tys = []} {h2 : bl tys = []} (hX : XB b D Tb vs J) (hx : A.op fr x = .ex (.pointer (some ⟨b, off, none⟩))) (ht : A.tag 7000 = some (.ck (hJ k))) (htf : A.tag 4000 = some (Cont.fact tys vs h1 h2)) (hT : T.eZ[ty']? = some ti) (ha : ti.k.agg = false) (hl : tys[off]? = some ty)
 (h : aj P fr ops rest (A.set d ty) fun A' l => K A' ((A, { d := some d, ty := ty, rs := cD x, rt := [7000, 4000] }) :: l)) : aj P fr ops (⟨some d, .load ty' x, t, p, e, none⟩ :: rest) A K :=
 bL (bV rfl rfl fun a w M wf hr htg => by
  have hdx := cS (x := x) (fun _ h => h) hr
  rw [hx] at hdx
  have ex : a.eval x = .pointer (some ⟨b, off, none⟩) := hdx
  obtain ⟨_, Mc, wfc, z, hj, g1, g2⟩ := htg _ (cj ht) (by simp)
  have hf : cK w M tys vs := htg _ (cj htf) (by simp)
  obtain ⟨_, cs, hh, hcs⟩ := hX k w Mc wfc hj
  obtain ⟨v, hv, hd⟩ := dQ hf off ty hl
  have hv' : w.cell? ⟨b, off, none⟩ = some v := by
   have := Bu hcs hv
   simpa [World.cell?, hh] using this
  exact ⟨v, by simp [execOp, ex, jU hT ha hv'], hd⟩) h
theorem pz {b D Tb k : Nat} {vs : List Value} {tys : List Ty} {J : Nat → World → bC → Prop} {hJ : ∀ k, Cb (J k)} {h1 : cE tys = []} {h2 : bl tys = []} {L : List Nat} (hX : XB b D Tb vs J) (hD : D < 4096) (ht : A.tag 7000 = some (.ck (hJ k))) (htf : A.tag 4000 = some (Cont.fact tys vs h1 h2)) (hL0 : L.contains 7000 = true) (hL1 : L.contains 4000 = true) :
    sA A L (.ex (.pointer (some ⟨b, 0, none⟩))) (.pp tys) := fun w M v wf htg hv => by
  have hv : v = .pointer (some ⟨b, 0, none⟩) := hv
  have hL0 : 7000 ∈ L := by simpa using hL0
  have hL1 : 4000 ∈ L := by simpa using hL1
  obtain ⟨_, Mc, wfc, z, hj, g1, g2⟩ := htg _ (cj ht) hL0
  have hf : cK w M tys vs := htg _ (cj htf) hL1
  obtain ⟨hb, cs, hh, hcs⟩ := hX k w Mc wfc hj
  have hlt : b < w.heap.size := wfc.lt b _ hb
  have hm : qV M L b = none := by
    cases hm : M b with
    | none => exact jV hm
    | some u =>
      by_cases e : u = 7000
      · subst e; exact zL hm hL0
      · have := g2 b u hlt hm e
        rw [this] at hb
        injection hb with hb
        have : Zt = 1000000 := rfl
        omega
  have hf2 : cK w (qV M L) tys vs := bX (S := fun _ => True) (K := fun _ => True) (w' := w) ⟨Nat.le_refl _, rfl, rfl, rfl, fun b _ hm => ⟨jV hm, rfl⟩, fun b t _ h => absurd trivial h⟩ (by rw [h1]; intro _ h; cases h) (by rw [h2]; intro _ h; cases h) hf
  refine ⟨b, 0, hv, hm, hlt, fun i t hi => ?_⟩
  obtain ⟨x, hx, hdx⟩ := dQ hf2 i t hi
  refine ⟨x, ?_, hdx⟩
  have := Bu hcs hx
  simpa [World.cell?, hh] using this
end
theorem vK {l : List Nat} (h : l.all (fun t => Nat.blt t 1000000) = true) : ∀ t ∈ l, t < Zt := fun t ht => by
 have := List.all_eq_true.1 h t ht
 rw [Nat.blt_eq] at this; exact this
section
variable {P : Program} {fr : Fr} {A : As} {Q : Exit → Act → World → Prop} {c : Code}
theorem pZ {w : World} {M : bC} {l1 l2 : List Ty} {vs : List Value} (h : cK w M (l1 ++ l2) vs) : ∃ v1 v2, vs = v1 ++ v2 ∧ cK w M l1 v1 ∧ cK w M l2 v2 := by
  induction l1 generalizing vs with
  | nil => exact ⟨[], vs, rfl, trivial, h⟩
  | cons t l1 ih =>
    cases vs with
    | nil => cases h
    | cons v vs =>
      obtain ⟨v1, v2, e, h1, h2⟩ := ih h.2
      exact ⟨v :: v1, v2, by rw [e]; rfl, ⟨h.1, h1⟩, h2⟩
theorem Dt {w : World} {M : bC} : ∀ (vs : List Value), cK w M (vs.map Ty.ex) vs
  | [] => trivial
  | _ :: vs => ⟨rfl, Dt vs⟩
theorem q7 {w : World} {M : bC} : ∀ {vs us : List Value}, cK w M (vs.map Ty.ex) us → us = vs
  | [], [], _ => rfl
  | [], _ :: _, h => by cases h
  | _ :: _, [], h => by cases h
  | v :: vs, u :: us, h => by rw [show u = v from h.1, q7 h.2]
theorem GD {D Tb : Nat} {tys r : List Ty} (h1 : cE tys = []) (h2 : bl tys = []) (hc : A.tag D = some (.cells Tb (tys ++ r))) (hD : fS D)
 (h : ∀ vs, vs.length = tys.length → fX P fr c ⟨A.slots, (D, .cells Tb (vs.map Ty.ex ++ r)) :: (4000, Cont.fact tys vs h1 h2) :: A.tags.filter fun x => !(x.1 == D)⟩ Q) : fX P fr c A Q := by
 intro a w ⟨M, ok, hsl, htg⟩
 obtain ⟨b, cs, hb, hh, hd⟩ := htg _ (cj hc)
 obtain ⟨v1, v2, e, d1, d2⟩ := pZ hd
 refine h v1 (cG d1) a w ⟨M, ok, hsl, fun x hx => ?_⟩
 rcases List.mem_cons.1 hx with rfl | hx
 ·exact ⟨b, cs, hb, hh, by rw [e]; exact eO (Dt v1) d2⟩
 rcases List.mem_cons.1 hx with rfl | hx
 ·exact d1
 exact htg x (List.mem_filter.1 hx).1
theorem B7 {D Tb : Nat} {vs : List Value} {tys r : List Ty} {h1 : cE tys = []} {h2 : bl tys = []} (hc : A.tag D = some (.cells Tb (vs.map Ty.ex ++ r))) (hf : A.tag 4000 = some (Cont.fact tys vs h1 h2))
 (h : fX P fr c ⟨A.slots, (D, .cells Tb (tys ++ r)) :: A.tags.filter fun x => !(x.1 == D)⟩ Q) : fX P fr c A Q := by
 intro a w ⟨M, ok, hsl, htg⟩
 obtain ⟨b, cs, hb, hh, hd⟩ := htg _ (cj hc)
 have hfd : cK w M tys vs := htg _ (cj hf)
 refine h a w ⟨M, ok, hsl, fun x hx => ?_⟩
 rcases List.mem_cons.1 hx with rfl | hx
 ·obtain ⟨v1, v2, e, d1, d2⟩ := pZ hd
  rw [q7 d1] at e
  exact ⟨b, cs, hb, hh, by rw [e]; exact eO hfd d2⟩
 exact htg x (List.mem_filter.1 hx).1
theorem vC {D Tb tg : Nat} {α : Type} {E : El α} {T : Nat} {xs : List α} (l1 : List Ty) {l2 : List Ty} (hc : A.tag D = some (.cells Tb (l1 ++ Ty.row E T tg xs :: l2)))
    (h : ∀ v, fX P fr c ⟨A.slots, (D, .cells Tb (l1 ++ Ty.ex v :: l2)) :: (tg, Cont.rv v E T tg xs) :: A.tags.filter fun x => !(x.1 == D)⟩ Q) : fX P fr c A Q := by
  intro a w ⟨M, ok, hsl, htg⟩
  obtain ⟨b, cs, hb, hh, hd⟩ := htg _ (cj hc)
  obtain ⟨v1, v2, e, d1, d2⟩ := pZ hd
  match v2, d2 with
  | v :: v2, d2 =>
    refine h v a w ⟨M, ok, hsl, fun x hx => ?_⟩
    rcases List.mem_cons.1 hx with rfl | hx
    · exact ⟨b, cs, hb, hh, by rw [e]; exact eO d1 ⟨rfl, d2.2⟩⟩
    · rcases List.mem_cons.1 hx with rfl | hx
      · exact d2.1
      · exact htg x (List.mem_filter.1 hx).1
theorem zC {T tg off : Nat} {l : List Ty} (hc : A.tag tg = some (.cells T l)) (hd : kg (cE l) [tg] = true) (h1 : fS tg) : uG A tg (.ptr tg off) (.pp (l.drop off)) := fun w M v wf ht hv =>
 kD (A := A.set 0 (.ptr tg off)) (s := 0) rfl hc hd h1 w M v wf ht hv
theorem Hf {tg i : Nat} {t : Ty} : ∀ {l l' : List Ty}, yC A tg l l' → l'[i]? = some t → ∃ i', i' = i ∧ ∃ s, l[i']? = some s ∧ uG A tg s t := by
  induction i with
  | zero =>
    intro l l' h e
    match l, l', h with
    | [], [], _ => cases e
    | s :: _, t' :: _, h => injection e with e; subst e; exact ⟨0, rfl, s, rfl, h.1⟩
  | succ i ih =>
    intro l l' h e
    match l, l', h with
    | [], [], _ => cases e
    | _ :: l, _ :: l', h =>
      obtain ⟨i', rfl, s, h1, h2⟩ := ih (l := l) (l' := l') h.2 e
      exact ⟨i' + 1, rfl, s, h1, h2⟩
theorem B4 {tg : Nat} {l l' : List Ty} (h : yC A tg l l') : uG A tg (.pp l) (.pp l') := fun w M v wf ht ⟨b, off, e, m1, m2, m3⟩ => by
 refine ⟨b, off, e, by simp [eM, m1], m2, fun i t hi => ?_⟩
 obtain ⟨_, rfl, s, h1, h2⟩ := Hf h hi
 obtain ⟨x, hx, hdx⟩ := m3 _ s h1
 exact ⟨x, hx, h2 w M x wf ht hdx⟩
theorem tJ {tg s : Nat} {l l' : List Ty} (hx : A.slots s = .pp l) (h : yC A tg l l') : y4 A tg s (.pp l') := fun w M v wf ht hv => B4 h w M v wf ht (hx ▸ hv)
theorem Bx {f D Tb n sd : Nat} {tys : List Ty} {vs : List Value} {h1 : cE tys = []} {h2 : bl tys = []} {oA : List Ty} {encs : List (List Ty)} {resD resS : Ty} {s : Nat → Ty} {tg : Nat → List (Nat × Cont)} {r : Nat → List Ty}
    (hI : ∀ b, Hv P f b D Tb vs tys (fun l => Ty.ex (yv l) :: Ty.pp [Ty.ex (.pointer (some ⟨b, 0, none⟩))] :: oA) encs resD resS)
    (hD : fS D) (hsn : sd < n) (hsd : s sd = Ty.ptr D 0) (htD : ∀ k, (D, Cont.cells Tb (vs.map Ty.ex ++ r k)) ∈ tg k) (htf : (4000, Cont.fact tys vs h1 h2) ∈ tg 0) :
    ∀ (l : Nat) (J : Nat → World → bC → Prop) (Jx : World → bC → Prop) (tm : Array Value), (∀ k, Cb (J k)) → Cb Jx → MS P l encs J Jx → (∀ k w M, J k w M → (∀ c, c < n → (s c).den w M (tm.getD c undef)) ∧ ∀ x ∈ tg k, x.2.den w M x.1) → ∀ w M us, Wf w M → FL M → cK w M (Ty.ex (yv l) :: Ty.pp [Ty.ptr D 0] :: oA) us → J 0 w M → Calls P f us.toArray w (cZ encs.length J Jx resD resS) := by
  intro l J Jx tm hJ hJx hY hS w M us wf z hd hj
  obtain ⟨u, rfl⟩ : ∃ u, D = u + 1 := ⟨D - 1, by have := hD.1; omega⟩
  have hat : ∀ k w M, Wf w M → J k w M → ∃ b, M b = some (u + 1) ∧ tm.getD sd undef = .pointer (some ⟨b, 0, none⟩) ∧ ∃ cs : Array Value, w.heap[b]? = some (.cells cs Tb (0, 0)) ∧ cs.toList.take vs.length = vs := fun k w M wf hj => by
    obtain ⟨g1, g2⟩ := hS k w M hj
    have g3 := g1 sd hsn
    rw [hsd] at g3
    obtain ⟨b, hb, e⟩ := g3
    obtain ⟨b', cs, hb', hh, hds⟩ := g2 _ (htD k)
    have := wf.inj b b' u hD.2 hb hb'
    subst this
    obtain ⟨v1, v2, e2, d1, d2⟩ := pZ hds
    rw [q7 d1] at e2
    exact ⟨b, hb, e, cs, hh, by rw [e2, List.take_left']; rfl⟩
  obtain ⟨b, hb, eb, _⟩ := hat 0 w M wf hj
  have hX : XB b (u + 1) Tb vs J := fun k w' M' wf' hj' => by
    obtain ⟨b', hb', eb', cs, hh, hcs⟩ := hat k w' M' wf' hj'
    rw [eb] at eb'
    injection eb' with eb'
    injection eb' with eb'
    injection eb' with eb' _ _
    subst eb'
    exact ⟨hb', cs, hh, hcs⟩
  refine (hI b).2 l J Jx hJ hJx hX hY w M us wf z ?_ ((hS 0 w M hj).2 _ htf) hj
  match us, hd with
  | u1 :: u2 :: us, ⟨d1, ⟨q, off, e, m1, m2, m3⟩, d3⟩ =>
    refine ⟨d1, ⟨q, off, e, m1, m2, fun i t hi => ?_⟩, d3⟩
    cases i with
    | succ i => cases hi
    | zero =>
      obtain ⟨x, hx, b', hb', ex⟩ := m3 0 _ rfl
      have := wf.inj b b' u hD.2 hb hb'
      subst this
      injection hi with hi
      subst hi
      exact ⟨x, hx, ex⟩
end
end Go.T
namespace Go.Proofs.YtelbollidfdcjaaGreat
open Go Go.T
set_option maxHeartbeats 4000000
section
variable {y : bB}
theorem Ev (hr : y.cN) : (y.bins.length : Int) * y.days = (y.cells : Nat) := by
 rw [← D_eq hr]; unfold bB.cells; simp
theorem nL (hr : y.cN) : y.cells ≤ 20 := by
 have h1 := hr.bins; have h2 := hr.days; have h3 := D_eq hr
 have := Nat.mul_le_mul (show y.bins.length ≤ 4 by omega) (show y.D ≤ 5 by omega)
 unfold bB.cells; omega
theorem BZ {s d : Int} (hs : 0 ≤ s ∧ s ≤ 4) (hd : 0 ≤ d ∧ d ≤ 6) : 0 ≤ s * d ∧ s * d ≤ 24 := by
 have : s = 0 ∨ s = 1 ∨ s = 2 ∨ s = 3 ∨ s = 4 := by omega
 rcases this with e | e | e | e | e <;> subst e <;> omega
def fy (n : Int) (l : List Int) : Int := l.foldl min n
theorem C0 (n : Int) (l : List Int) : fy n (l.take 0) = n := rfl
theorem Cj {n : Int} {l : List Int} {k : Nat} (h : k < l.length) : min (fy n (l.take k)) (nth l k) = fy n (l.take (k + 1)) := by
 unfold fy; rw [eK h, List.foldl_append]; rfl
def wR (k : Nat) : List Bool := List.replicate k true ++ List.replicate (8 - k) false
def bP : List Bool := List.replicate 8 true
theorem xj {k : Nat} (h : k ≤ 8) : (wR k).length = 8 := by unfold wR; rw [List.length_append, List.length_replicate, List.length_replicate]; omega
theorem Cz {k : Nat} (h : k < 8) : (wR k).set k true = wR (k + 1) := by
 unfold wR
 rw [List.set_append_right _ _ (by simp), List.length_replicate, Nat.sub_self, show 8 - k = (8 - (k + 1)) + 1 by omega, List.replicate_succ, List.set_cons_zero, List.replicate_succ', List.append_assoc]; rfl
theorem MI (hr : y.cN) {s d : Int} (h : s = -1) : ((y.cells : Nat) : Int) = y.cell s d := by rw [h, sV hr]
theorem Ld {s d : Int} (h : ¬ s = -1) : s * y.days + d = y.cell s d := (if_neg h).symm
theorem G7 (hr : y.cN) {b t : Nat} : (b : Int) * (y.days + 1) + t = (y.kept b t : Nat) := by
 rw [← D_eq hr]; unfold bB.kept; simp
end
attribute [local irreducible] bB.cell bB.kept bB.cells fy
attribute [local irreducible] iP fV m6 qX ig iw ia ij ir qN iy qQ eA ga qU gS qM nth fX dy aj dx bodyPost Exit.then Exit.inBlock Code.wp Code.wpIn qO iz qT qR iZ eR cW cZ bodyPostM eH
set_option maxRecDepth 100000 in
theorem rK (n : Int) (l : List Int) : dx Tryz.prog 180 [Ty.int .i64 n, Ty.sl cm l] (Ty.int .i64 (fy n l)) := by
 refine au Tryz.func180 rfl (by decide) Tryz.ntmps180 (by exact Nat.le_of_ble_eq_true rfl) fun w0 M0 => ?_
 refine kA (s := 1) rfl rfl j7 fun hln => ?_
 refine aE (aA (cB rfl (aD (aC (aE (aE (aA (gm rfl (cx rfl rfl rfl ?_)))))))))
 refine bM rfl (aD (aC (ah ?_)))
 refine cU (fun (k : {k : Nat // k ≤ l.length}) => live [(0, Ty.int .i64 (fy n (l.take k.1))), (7, Ty.sl cm l), (8, Ty.int .i64 l.length), (9, Ty.int .i64 (k.1 : Nat))] []) (fun k => l.length - k.1) (⟨0, by omega⟩) ?_ fun k => ?_
 ·(refine dD.mk' ?_ ?_ <;> (repeat' (first | exact aH | exact aI | refine aB ?_ (Ty.aW _) | refine aB ?_ (Ty.aF _) | refine aB ?_ ?_)))
  all_goals exact Ty.bA (C0 n l).symm
 refine aE (aA (bE rfl rfl rfl (aD (aC (aE ?_)))))
 refine av rfl (fun hc1 => ?_) (fun hc1 => ?_)
 ·
  refine ak (aC (aE (ah (aE (aA ?_)))))
  refine bI rfl rfl rfl rfl rfl rfl (by omega) ?_
  refine aK rfl rfl rfl rfl (cB rfl (aD (aC (aA (bM rfl (bM rfl (uX rfl rfl (cB rfl (aD ?_)))))))))
  refine bW (aC (aA ?_))
  refine bz rfl rfl (by omega) (by omega) ?_
  refine bM rfl (aD ?_)
  refine bf (⟨k.1 + 1, by omega⟩) ?_ (by show l.length - (k.1 + 1) < l.length - k.1; omega)
  (refine dD.mk' ?_ ?_ <;> (repeat' (first | exact aH | exact aI | refine aB ?_ (Ty.aW _) | refine aB ?_ (Ty.aF _) | refine aB ?_ ?_)))
  all_goals skip
  all_goals exact Ty.bA (Cj (by omega))
 refine cT (aR (aR (aq rfl (aC (aE (aA (bM rfl (cB rfl (aD ?_)))))))))
 refine aC (az (bq rfl rfl ?_))
 all_goals skip
 all_goals exact ay rfl rfl (congrArg (Ty.int .i64) (by rw [List.take_of_length_le (by have := k.2; omega)]))
set_option maxRecDepth 100000 in
theorem qZ : dx Tryz.prog 118 [] (Ty.arr jG bP) := by
 refine au Tryz.func118 rfl (by decide) Tryz.ntmps118 (by exact Nat.le_of_ble_eq_true rfl) fun w0 M0 => ?_
 refine aE (aA ?_)
 refine b8 rfl (by exact List.cons_ne_nil _ _) rfl ?_
 refine aD (aC (aE (aA ?_)))
 refine AU (E := jG) (xs := List.replicate 8 false) rfl (by exact List.cons_ne_nil _ _) rfl rfl ?_
 refine aD (aC (aE (aE (aA (bM rfl (aD (aC (ah ?_))))))))
 refine cU (fun (k : {k : Nat // k ≤ 8}) => live [(0, Ty.ptr 1 0), (1, Ty.ptr 2 0), (3, Ty.int .i64 (k.1 : Nat))] [(1, Cont.cells 180 [Ty.bool false, Ty.bool false, Ty.bool false, Ty.bool false, Ty.bool false, Ty.bool false, Ty.bool false, Ty.bool false]), (2, Cont.vec jG 180 (wR k.1))]) (fun k => 8 - k.1) (⟨0, by omega⟩) ?_ fun k => ?_
 ·(refine dD.mk' ?_ ?_ <;> (repeat' (first | exact aH | exact aI | refine aB ?_ (Ty.aW _) | refine aB ?_ (Ty.aF _) | refine aG rfl (Cont.aF _) ?_)))
 have hkl := xj k.2
 refine aE (aA (bE rfl rfl rfl (aD (aC (aE ?_)))))
 refine av rfl (fun hc1 => ?_) (fun hc1 => ?_)
 ·
  refine ak (aC (aE (ah (aE (aA (bM rfl (cB rfl (aD (aC ?_)))))))))
  refine aA (bM rfl ?_)
  refine sP (n := 8) rfl rfl rfl rfl rfl (by omega) (by omega) ?_
  refine ry rfl rfl rfl (by decide) rfl rfl (by exact (rfl : _ = Ty.bool _)) rfl (by omega) (by decide) rfl rfl ?_
  refine aD (bW (aC (aA ?_)))
  refine bz rfl rfl (by omega) (by omega) ?_
  refine bM rfl (aD ?_)
  refine bf (⟨k.1 + 1, by omega⟩) ?_ (by show 8 - (k.1 + 1) < 8 - k.1; omega)
  (refine dD.mk' ?_ ?_ <;> (repeat' (first | exact aH | exact aI | refine aB ?_ (Ty.aW _) | refine aB ?_ (Ty.aF _) | refine aG rfl (Cont.aF _) ?_ | refine aG rfl ?_ ?_)))
  all_goals skip
  all_goals exact Cont.eP (Cz (by omega))
 refine cT (aR (aR (aq rfl (aC (aE ?_)))))
 obtain ⟨k, hk⟩ := k
 obtain rfl : k = 8 := by have h1 : ¬ (k : Int) < 8 := hc1; have h2 : k ≤ 8 := hk; omega
 have hkl := xj hk
 refine aA ?_
 refine iL rfl rfl (by decide) rfl rfl (by rw [hkl]; rfl) (fun e => by rw [e] at hkl; cases hkl) ?_
 refine Bb rfl rfl (by decide) rfl rfl (by rw [hkl]; rfl) rfl ?_
 refine aD (aC (az ?_))
 refine BF (show wR 8 = bP from rfl) rfl rfl rfl rfl (by decide) rfl rfl (by rw [hkl]; rfl) (fun e => by rw [e] at hkl; cases hkl)
set_option maxRecDepth 100000 in
theorem sJ (y : bB) (hr : y.cN) : dx Tryz.prog 131 [Ty.pp (bk y)] (Ty.int .i64 (y.cells : Nat)) := by
 refine au Tryz.func131 rfl (by decide) Tryz.ntmps131 (by exact Nat.le_of_ble_eq_true rfl) fun w0 M0 => ?_
 have hcm := Ev hr
 have hcl := nL hr
 refine aE (aA (cB rfl (aD (aC (aE (cM mixed rfl (iF rfl (bU rfl ?_))))))))
 refine aM rfl rfl rfl rfl rfl (by decide) ?_
 refine aM rfl rfl rfl rfl rfl (by decide) ?_
 refine aK rfl rfl rfl rfl (cx rfl rfl rfl (iF rfl (bU rfl ?_)))
 refine aM rfl rfl rfl rfl rfl (by decide) ?_
 refine aM rfl rfl rfl rfl rfl (by decide) ?_
 refine aK rfl rfl rfl rfl ?_
 refine DU rfl rfl (by rw [hcm]; omega) (by rw [hcm]; omega) ?_
 refine cB rfl (aD ?_)
 refine ⟨by kernel_rfl, ?_⟩
 refine aC (az (bq rfl rfl ?_))
 all_goals skip
 all_goals exact ay rfl rfl (congrArg (Ty.int .i64) hcm)
set_option maxRecDepth 100000 in
theorem vV (y : bB) (hr : y.cN) (s d : Int) (hs : -1 ≤ s ∧ s < y.bins.length) (hd : 0 ≤ d ∧ d ≤ y.days) : dx Tryz.prog 132 [Ty.pp (bk y), Ty.int .i64 s, Ty.int .i64 d] (Ty.int .i64 (y.cell s d)) := by
 refine au Tryz.func132 rfl (by decide) Tryz.ntmps132 (by exact Nat.le_of_ble_eq_true rfl) fun w0 M0 => ?_
 have h1 := hr.bins
 have h2 := hr.days
 refine aE (aA (cB rfl (aD (aC (aE (aE (aA (bM rfl (bE rfl rfl rfl ?_)))))))))
 refine aD (aC ?_)
 refine av rfl (fun hc1 => ?_) (fun hc1 => ?_)
 ·
  refine aE (aA (iF rfl (aa (sJ y hr) rfl rfl rfl rfl rfl (cB rfl (aD (aC (az (aV (bq rfl rfl ?_)))))))))
  all_goals skip
  all_goals exact ay rfl rfl (congrArg (Ty.int .i64) (MI hr hc1))
 refine ak (aC (aE ?_))
 have hb := BZ (s := s) (d := y.days) (by omega) (by omega)
 refine aA (bM rfl (iF rfl (bU rfl ?_)))
 refine aM rfl rfl rfl rfl rfl (by decide) ?_
 refine aM rfl rfl rfl rfl rfl (by decide) ?_
 refine aK rfl rfl rfl rfl ?_
 refine DU rfl rfl (by omega) (by omega) ?_
 refine bM rfl ?_
 refine bz rfl rfl (by omega) (by omega) ?_
 refine cB rfl (aD (aC (az (bq rfl rfl ?_))))
 all_goals skip
 all_goals exact ay rfl rfl (congrArg (Ty.int .i64) (Ld hc1))
set_option maxRecDepth 100000 in
theorem w6 (y : bB) (hr : y.cN) (b t : Nat) (hb : b < y.bins.length) (ht : t ≤ y.D) : dx Tryz.prog 89 [Ty.pp (bk y), Ty.int .i64 (b : Nat), Ty.int .i64 (t : Nat)] (Ty.int .i64 (y.kept b t : Nat)) := by
 refine au Tryz.func89 rfl (by decide) Tryz.ntmps89 (by exact Nat.le_of_ble_eq_true rfl) fun w0 M0 => ?_
 have h1 := hr.bins
 have h2 := hr.days
 have h3 := D_eq hr
 have h4 := BZ (s := (b : Nat)) (d := y.days + 1) (by omega) (by omega)
 refine aE (aA (cB rfl (aD (aC (aE (aA (bM rfl (iF rfl (bU rfl ?_)))))))))
 refine aM rfl rfl rfl rfl rfl (by decide) ?_
 refine aM rfl rfl rfl rfl rfl (by decide) ?_
 refine aK rfl rfl rfl rfl ?_
 refine bz rfl rfl (by omega) (by omega) ?_
 refine DU rfl rfl (by omega) (by omega) ?_
 refine bM rfl ?_
 refine bz rfl rfl (by omega) (by omega) ?_
 refine cB rfl (aD (aC (az (bq rfl rfl ?_))))
 all_goals skip
 all_goals exact ay rfl rfl (congrArg (Ty.int .i64) (G7 hr))
end Go.Proofs.YtelbollidfdcjaaGreat
namespace Go.Proofs.YtelbollidfdcjaaGreat
open Go Go.T
set_option maxHeartbeats 8000000
def jj (f : b9) : List Ty := [Ty.agg (dZ.tys f)]
section
variable {y : bB} {c : Nat → Bool} {b t : Nat}
def Cq (y : bB) (b t : Nat) : Int := if 0 < t then y.cell b ((t : Int) - 1) else (y.cells : Nat)
def FJ (y : bB) (b t : Nat) : Int := if t < y.D then y.cell b t else (y.cells : Nat)
def vE (s d : Int) (k : Span) : List Ty := [Ty.int .i64 s, Ty.int .i64 d, Ty.int .i64 k.lo, Ty.int .i64 k.hi]
theorem Jg (h : (t : Int) > 0) : y.cell b ((t : Int) - 1) = Cq y b t := (if_pos (by omega)).symm
theorem LA (h : ¬ (t : Int) > 0) : ((y.cells : Nat) : Int) = Cq y b t := (if_neg (by omega)).symm
theorem KJ (hr : y.cN) (h : (t : Int) < y.days) : y.cell b t = FJ y b t := (if_pos (by have := D_eq hr; omega)).symm
theorem LF (hr : y.cN) (h : ¬ (t : Int) < y.days) : ((y.cells : Nat) : Int) = FJ y b t := (if_neg (by have := D_eq hr; omega)).symm
theorem Hg (h : (t : Int) > 0) : 0 = (iC y b t).lo ∧ (nth y.bins b).holds = (iC y b t).hi := by unfold iC; rw [if_pos (by omega)]; exact ⟨rfl, rfl⟩
theorem Kq (h : ¬ (t : Int) > 0) : max 0 (nth y.bins b).first.lo = (iC y b t).lo ∧ fy (nth y.bins b).holds [(nth y.bins b).first.hi] = (iC y b t).hi := by unfold iC; rw [if_neg (by omega)]; exact ⟨rfl, rfl⟩
theorem Dz {s : Span} {k : Nat} (h : ((c k && decide ((nth y.levels k).bin = b)) && decide ((nth y.levels k).day = t)) = true) : max (gK y c b t s k).lo (nth y.levels k).sacks.lo = (gK y c b t s (k + 1)).lo ∧ fy (gK y c b t s k).hi [(nth y.levels k).sacks.hi] = (gK y c b t s (k + 1)).hi := by
 show _ = (if _ then _ else _ : Span).lo ∧ _ = (if _ then _ else _ : Span).hi
 rw [if_pos h]; exact ⟨rfl, rfl⟩
theorem Gx {s : Span} {k : Nat} (h : ((c k && decide ((nth y.levels k).bin = b)) && decide ((nth y.levels k).day = t)) = false) : (gK y c b t s k).lo = (gK y c b t s (k + 1)).lo ∧ (gK y c b t s k).hi = (gK y c b t s (k + 1)).hi := by
 show _ = (if _ then _ else _ : Span).lo ∧ _ = (if _ then _ else _ : Span).hi
 rw [if_neg (by rw [h]; decide)]; exact ⟨rfl, rfl⟩
theorem B6 (s : Span) : s.lo = (gK y c b t s 0).lo ∧ s.hi = (gK y c b t s 0).hi := ⟨rfl, rfl⟩
theorem JU {s : Span} {k : Nat} (hk : k ≤ y.levels.length) (h : ¬ (k : Int) < (y.levels.length : Int)) : gK y c b t s k = gK y c b t s y.levels.length := by rw [show k = y.levels.length by omega]
theorem KC (hb : b < y.bins.length) (ht : t ≤ y.D) : jj (nth (aP y c) (b * (y.D + 1) + t)) = [Ty.agg (vE (Cq y b t) (FJ y b t) (gK y c b t (iC y b t) y.levels.length))] := congrArg jj (iR (c := c) hb ht)
theorem JG {i : Nat} (hi : i < y.moves.length) : jj (nth (aP y c) (y.bins.length * (y.D + 1) + i)) = [Ty.agg [Ty.int .i64 (y.cell (nth y.moves i).src (nth y.moves i).day), Ty.int .i64 (y.cell (nth y.moves i).dst (nth y.moves i).day), Ty.int .i64 (nth y.moves i).sacks.lo, Ty.int .i64 (nth y.moves i).sacks.hi]] := congrArg jj (iS (c := c) hi)
theorem D6 (hb : b < y.bins.length) (ht : t ≤ y.D) : b * (y.D + 1) + t < (aP y c).length := by
 rw [eS]; have h := mR hb ht; unfold bB.kept at h; omega
theorem Gz {J : Nat → World → bC → Prop} (hJ : ∀ k, Cb (J k)) {m k : Nat} (e : m = k) : (Cont.ck (hJ m)).Sub (Cont.ck (hJ k)) := Cont.ML hJ e
end
attribute [local irreducible] bB.cell bB.cells fy Cq FJ iC gK aP
attribute [local irreducible] iP fV m6 qX ig iw ia ij ir qN iy qQ eA ga qU gS qM nth fX dy aj dx bodyPost Exit.then Exit.inBlock Code.wp Code.wpIn qO iz qT qR iZ eR cW cZ bodyPostM eH
set_option maxRecDepth 100000 in
theorem vR (y : bB) (hr : y.cN) (c8 : List Bool) (hc8 : c8.length = 8) (b D : Nat) (hD : D < 4096) (vs : List Value) : Hv Tryz.prog 196 b D 185 vs (bk y) (fun l => [Ty.ex (yv l), Ty.pp [Ty.ex (.pointer (some ⟨b, 0, none⟩))], Ty.pa jG c8 0]) ((aP y (nth c8)).map jj) (Ty.jv []) (Ty.jv []) := by
 refine CY rfl rfl Tryz.func196 rfl (by decide) Tryz.ntmps196 (fun _ => by exact Nat.le_of_ble_eq_true rfl) (fun _ => ⟨rfl, rfl⟩) fun l J Jx hJ hJx hX hY w0 M0 => ?_
 have h1 := hr.bins
 have h2 := hr.days
 have h3 := D_eq hr
 have h4 := hr.moves
 have h5 := hr.levels
 refine aE (aE (aA (aK rfl rfl rfl rfl (kG rfl ?_))))
 refine jH rfl rfl rfl rfl rfl (by decide) ?_
 refine jH rfl rfl rfl rfl rfl (by decide) ?_
 refine rM hX rfl rfl rfl rfl rfl rfl (cx rfl rfl rfl (bM rfl (aD (aC (ah ?_)))))
 refine cU (fun (k : {k : Nat // k ≤ y.bins.length}) => live [(0, Ty.ex (yv l)), (1, Ty.pp [Ty.ex (.pointer (some ⟨b, 0, none⟩))]), (2, Ty.pa jG c8 0), (16, Ty.sl eU y.bins), (17, Ty.int .i64 y.bins.length), (18, Ty.int .i64 (k.1 : Nat))] [(7000, Cont.ck (hJ (k.1 * (y.D + 1)))), (4000, Cont.fact (bk y) vs rfl rfl)]) (fun k => y.bins.length - k.1) (⟨0, by omega⟩) ?_ fun k => ?_
 ·(refine dD.mk' ?_ ?_ <;> (repeat' (first | exact aH | exact aI | refine aB ?_ (Ty.aW _) | refine aB ?_ (Ty.aF _) | refine aG rfl (Cont.aF _) ?_ | refine aG rfl ?_ ?_)))
  all_goals exact Gz hJ (Nat.zero_mul _).symm
 refine aE (aA (bE rfl rfl rfl (aD (aC (aE ?_)))))
 refine av rfl (fun hc1 => ?_) (fun hc1 => ?_)
 ·
  refine ak (aC (aE (ah (aE (aA (bM rfl ?_))))))
  refine bI rfl rfl rfl rfl rfl rfl (by omega) ?_
  refine aY rfl rfl rfl (by exact Nat.le_of_ble_eq_true rfl) ?_
  refine b8 rfl (by exact List.cons_ne_nil _ _) rfl ?_
  refine cB rfl ?_
  refine bp rfl rfl (by decide) rfl rfl rfl rfl rfl rfl ?_
  refine aD (aC (aE (aA (aK rfl rfl rfl rfl (kG rfl ?_)))))
  refine jH rfl rfl rfl rfl rfl (by decide) ?_
  refine jH rfl rfl rfl rfl rfl (by decide) ?_
  refine rM hX rfl rfl rfl rfl rfl rfl ?_
  refine bz rfl rfl (by omega) (by omega) ?_
  refine bM rfl (aD (aC (ah ?_)))
  refine cU (fun (t : {t : Nat // t ≤ y.D + 1}) => live [(0, Ty.ex (yv l)), (1, Ty.pp [Ty.ex (.pointer (some ⟨b, 0, none⟩))]), (2, Ty.pa jG c8 0), (4, Ty.int .i64 (k.1 : Nat)), (5, Ty.ptr 6 0), (16, Ty.sl eU y.bins), (17, Ty.int .i64 y.bins.length), (18, Ty.int .i64 (k.1 : Nat)), (28, Ty.int .i64 (y.days + 1)), (29, Ty.int .i64 (t.1 : Nat))] [(6, Cont.cells 39 (eU.tys (nth y.bins k.1))), (7000, Cont.ck (hJ (k.1 * (y.D + 1) + t.1))), (4000, Cont.fact (bk y) vs rfl rfl)]) (fun t => y.D + 1 - t.1) (⟨0, by omega⟩) ?_ fun t => ?_
  ·(refine dD.mk' ?_ ?_ <;> (repeat' (first | exact aH | exact aI | refine aB ?_ (Ty.aW _) | refine aB ?_ (Ty.aF _) | refine aG rfl (Cont.aF _) ?_)))
  refine aE (aA (bE rfl rfl rfl (aD (aC (aE ?_)))))
  refine av rfl (fun hc2 => ?_) (fun hc2 => ?_)
  ·
   refine ak (aC (aE (ah (aE (aA (bM rfl (cB rfl (aD (aC ?_)))))))))
   refine aE (cM mixed rfl (aK rfl rfl rfl rfl ?_))
   refine dg [7000, 4000] (sJ y hr) rfl (aN (pz hX hD rfl rfl rfl rfl) bh) (by exact dF _ _) ?_
   refine aK rfl rfl rfl rfl ?_
   refine dg [7000, 4000] (sJ y hr) rfl (aN (pz hX hD rfl rfl rfl rfl) bh) (by exact dF _ _) ?_
   refine aL rfl rfl rfl rfl rfl (by decide) ?_
   refine aU rfl rfl (by decide) rfl rfl rfl ?_
   refine dG rfl rfl (by exact List.cons_ne_nil _ _) rfl (by repeat (first | exact (aX.nil : aX _ _ [] _) | (show aX _ _ ((_, _) :: _) _; apply aX.one; (· exact (rfl : _ = Ty.int _ _)); (· exact rfl)))) (by exact (rfl : _ = some [_, _, _, _])) ?_
   refine b8 rfl (by exact List.cons_ne_nil _ _) rfl ?_
   refine bp rfl rfl (by decide) rfl rfl rfl rfl rfl rfl ?_
   refine aD ?_
   refine ⟨by kernel_rfl, ?_⟩
   refine aC ?_
   refine kf (J := live [(0, Ty.ex (yv l)), (1, Ty.pp [Ty.ex (.pointer (some ⟨b, 0, none⟩))]), (2, Ty.pa jG c8 0), (4, Ty.int .i64 (k.1 : Nat)), (5, Ty.ptr 6 0), (6, Ty.int .i64 (t.1 : Nat)), (7, Ty.ptr 8 0), (16, Ty.sl eU y.bins), (17, Ty.int .i64 y.bins.length), (18, Ty.int .i64 (k.1 : Nat)), (28, Ty.int .i64 (y.days + 1)), (29, Ty.int .i64 (t.1 : Nat))] [(6, Cont.cells 39 (eU.tys (nth y.bins k.1))), (8, Cont.cells 187 [Ty.int .i64 (Cq y k.1 t.1), Ty.int .i64 (y.cells : Nat), Ty.int .i64 (iC y k.1 t.1).lo, Ty.int .i64 (iC y k.1 t.1).hi]), (7000, Cont.ck (hJ (k.1 * (y.D + 1) + t.1))), (4000, Cont.fact (bk y) vs rfl rfl)]) ?_ ?_
   ·
    refine aE (aA (bM rfl (bE rfl rfl rfl (aD (aC ?_)))))
    refine av rfl (fun hc3 => ?_) (fun hc3 => ?_)
    ·
     refine aA (aK rfl rfl rfl rfl (bM rfl (bM rfl ?_)))
     refine gL rfl rfl (by omega) (by omega) ?_
     refine dg [7000, 4000] (vV y hr (k.1 : Nat) ((t.1 : Int) - 1) (by omega) (by omega)) rfl (aN (pz hX hD rfl rfl rfl rfl) (aN (af (bF rfl rfl)) (aN (af (bF rfl rfl)) bh))) (by exact dF _ _) ?_
     refine aL rfl rfl rfl rfl rfl (by decide) ?_
     refine ct rfl rfl (by decide) rfl rfl (by exact (rfl : _ = Ty.int _ _)) rfl (by exact Nat.le_of_ble_eq_true rfl) rfl rfl (by exact rfl) ?_
     refine aD (fP ?_)
     (refine dD.mk' ?_ ?_ <;> (repeat' (first | exact aH | exact aI | exact dK | refine aB ?_ (Ty.aW _) | refine aB ?_ (Ty.aF _) | refine aG rfl (Cont.aF _) ?_ | refine aG rfl (Cont.dL ?_) ?_ | refine bY ?_ (Ty.aF _) | refine bY ?_ ?_)))
     all_goals first | exact Ty.bA (Jg hc3) | exact Ty.bA (Hg hc3).1 | exact Ty.bA (Hg hc3).2
    refine cM mixed rfl ?_
    refine aL rfl rfl rfl rfl rfl (by decide) ?_
    refine aL rfl rfl rfl rfl rfl (by decide) ?_
    refine aU rfl rfl (by decide) rfl rfl rfl ?_
    refine uN rfl rfl ?_
    refine aL rfl rfl rfl rfl rfl (by decide) ?_
    refine aU rfl rfl (by decide) rfl rfl rfl ?_
    refine aL rfl rfl rfl rfl rfl (by decide) ?_
    refine aL rfl rfl rfl rfl rfl (by decide) ?_
    refine aU rfl rfl (by decide) rfl rfl rfl ?_
    refine bt (E := cm) (xs := [_]) rfl rfl rfl rfl rfl (by decide) (by decide) (by repeat (first | exact (aX.nil : aX _ _ [] _) | (show aX _ _ ((_, _) :: _) _; apply aX.one; (· exact (rfl : _ = Ty.int _ _)); (· exact rfl)))) (by exact rfl) rfl ?_
    refine aa (rK _ _) rfl rfl rfl rfl rfl ?_
    refine aL rfl rfl rfl rfl rfl (by decide) ?_
    refine ct rfl rfl (by decide) rfl rfl (by exact (rfl : _ = Ty.int _ _)) rfl (by exact Nat.le_of_ble_eq_true rfl) rfl rfl (by exact rfl) ?_
    refine aL rfl rfl rfl rfl rfl (by decide) ?_
    refine ct rfl rfl (by decide) rfl rfl (by exact (rfl : _ = Ty.int _ _)) rfl (by exact Nat.le_of_ble_eq_true rfl) rfl rfl (by exact rfl) ?_
    refine aD ?_
    refine ⟨by kernel_rfl, ?_⟩
    refine fP ?_
    (refine dD.mk' ?_ ?_ <;> (repeat' (first | exact aH | exact aI | exact dK | refine aB ?_ (Ty.aW _) | refine aB ?_ (Ty.aF _) | refine aG rfl (Cont.aF _) ?_ | refine aG rfl (Cont.dL ?_) ?_ | refine bY ?_ (Ty.aF _) | refine bY ?_ ?_)))
    all_goals first | exact Ty.bA (LA hc3) | exact Ty.bA (Kq hc3).1 | exact Ty.bA (Kq hc3).2
   refine kf (J := live [(0, Ty.ex (yv l)), (1, Ty.pp [Ty.ex (.pointer (some ⟨b, 0, none⟩))]), (2, Ty.pa jG c8 0), (4, Ty.int .i64 (k.1 : Nat)), (5, Ty.ptr 6 0), (6, Ty.int .i64 (t.1 : Nat)), (7, Ty.ptr 8 0), (16, Ty.sl eU y.bins), (17, Ty.int .i64 y.bins.length), (18, Ty.int .i64 (k.1 : Nat)), (28, Ty.int .i64 (y.days + 1)), (29, Ty.int .i64 (t.1 : Nat))] [(6, Cont.cells 39 (eU.tys (nth y.bins k.1))), (8, Cont.cells 187 (vE (Cq y k.1 t.1) (FJ y k.1 t.1) (iC y k.1 t.1))), (7000, Cont.ck (hJ (k.1 * (y.D + 1) + t.1))), (4000, Cont.fact (bk y) vs rfl rfl)]) ?_ ?_
   ·
    refine aE (aA (bM rfl (aK rfl rfl rfl rfl (kG rfl ?_))))
    refine jH rfl rfl rfl rfl rfl (by decide) ?_
    refine jH rfl rfl rfl rfl rfl (by decide) ?_
    refine rM hX rfl rfl rfl rfl rfl rfl (bE rfl rfl rfl (aD (aC ?_)))
    refine av rfl (fun hc4 => ?_) (fun hc4 => ?_)
    ·
     refine aA (aK rfl rfl rfl rfl (bM rfl (bM rfl ?_)))
     refine dg [7000, 4000] (vV y hr (k.1 : Nat) (t.1 : Nat) (by omega) (by omega)) rfl (aN (pz hX hD rfl rfl rfl rfl) (aN (af (bF rfl rfl)) (aN (af (bF rfl rfl)) bh))) (by exact dF _ _) ?_
     refine aL rfl rfl rfl rfl rfl (by decide) ?_
     refine ct rfl rfl (by decide) rfl rfl (by exact (rfl : _ = Ty.int _ _)) rfl (by exact Nat.le_of_ble_eq_true rfl) rfl rfl (by exact rfl) ?_
     refine aD (fP ?_)
     (refine dD.mk' ?_ ?_ <;> (repeat' (first | exact aH | exact aI | exact dK | refine aB ?_ (Ty.aW _) | refine aB ?_ (Ty.aF _) | refine aG rfl (Cont.aF _) ?_ | refine aG rfl (Cont.dL ?_) ?_ | refine bY ?_ (Ty.aF _) | refine bY ?_ ?_)))
     all_goals exact Ty.bA (KJ hr hc4)
    refine ak (fP ?_)
    (refine dD.mk' ?_ ?_ <;> (repeat' (first | exact aH | exact aI | exact dK | refine aB ?_ (Ty.aW _) | refine aB ?_ (Ty.aF _) | refine aG rfl (Cont.aF _) ?_ | refine aG rfl (Cont.dL ?_) ?_ | refine bY ?_ (Ty.aF _) | refine bY ?_ ?_)))
    all_goals exact Ty.bA (LF hr hc4)
   refine aE (aE (aA (aK rfl rfl rfl rfl (kG rfl ?_))))
   refine jH rfl rfl rfl rfl rfl (by decide) ?_
   refine jH rfl rfl rfl rfl rfl (by decide) ?_
   refine rM hX rfl rfl rfl rfl rfl rfl (cx rfl rfl rfl (bM rfl (aD (aC (ah ?_)))))
   refine cU (fun (i : {i : Nat // i ≤ y.levels.length}) => live [(0, Ty.ex (yv l)), (1, Ty.pp [Ty.ex (.pointer (some ⟨b, 0, none⟩))]), (2, Ty.pa jG c8 0), (4, Ty.int .i64 (k.1 : Nat)), (5, Ty.ptr 6 0), (6, Ty.int .i64 (t.1 : Nat)), (7, Ty.ptr 8 0), (16, Ty.sl eU y.bins), (17, Ty.int .i64 y.bins.length), (18, Ty.int .i64 (k.1 : Nat)), (28, Ty.int .i64 (y.days + 1)), (29, Ty.int .i64 (t.1 : Nat)), (76, Ty.sl ef y.levels), (77, Ty.int .i64 y.levels.length), (78, Ty.int .i64 (i.1 : Nat))] [(6, Cont.cells 39 (eU.tys (nth y.bins k.1))), (8, Cont.cells 187 (vE (Cq y k.1 t.1) (FJ y k.1 t.1) (gK y (nth c8) k.1 t.1 (iC y k.1 t.1) i.1))), (7000, Cont.ck (hJ (k.1 * (y.D + 1) + t.1))), (4000, Cont.fact (bk y) vs rfl rfl)]) (fun i => y.levels.length - i.1) (⟨0, by omega⟩) ?_ fun i => ?_
   ·(refine dD.mk' ?_ ?_ <;> (repeat' (first | exact aH | exact aI | exact dK | refine aB ?_ (Ty.aW _) | refine aB ?_ (Ty.aF _) | refine aG rfl (Cont.aF _) ?_ | refine aG rfl (Cont.dL ?_) ?_ | refine bY ?_ (Ty.aF _) | refine bY ?_ ?_)))
    all_goals first | exact Ty.bA (B6 _).1 | exact Ty.bA (B6 _).2
   have hi := i.2
   refine aE (aA (bE rfl rfl rfl (aD (aC (aE ?_)))))
   refine av rfl (fun hc5 => ?_) (fun hc5 => ?_)
   ·
    refine ak (aC (aE (ah (aE (aA (bM rfl ?_))))))
    refine bI rfl rfl rfl rfl rfl rfl (by omega) ?_
    refine aY rfl rfl rfl (by exact Nat.le_of_ble_eq_true rfl) ?_
    refine b8 rfl (by exact List.cons_ne_nil _ _) rfl ?_
    refine cB rfl ?_
    refine bp rfl rfl (by decide) rfl rfl rfl rfl rfl rfl ?_
    refine aD (aC (aE (aA (bM rfl ?_))))
    refine Cc (n := 8) rfl rfl rfl rfl rfl (by omega) ?_
    refine Es rfl rfl rfl (Nat.zero_add _) (by omega) rfl ?_
    refine gU rfl ?_
    apply aS (s := 86) rfl rfl rfl
    ·intro hg; apply aT; (refine aL rfl rfl rfl rfl rfl (by decide) ?_); refine aD ?_; exact rfl
    ·exact rfl
    ·exact rfl
    apply aS (s := 86) rfl rfl rfl
    ·intro hg; apply aO (s := 87) rfl (by (rw [hg]; rfl)); apply aT; (refine aU rfl rfl (by decide) rfl rfl rfl ?_); refine aD ?_; exact rfl
    ·exact rfl
    ·exact rfl
    apply aS (s := 86) rfl rfl rfl
    ·intro hg; apply aT; (refine bM rfl ?_); refine aD ?_; exact rfl
    ·exact rfl
    ·exact rfl
    apply aS (s := 86) rfl rfl rfl
    ·intro hg; apply aO (s := 88) rfl (by (rw [hg]; rfl)); apply aO (s := 89) rfl (by (rw [hg]; rfl)); apply aT; (refine bE rfl rfl rfl ?_); refine aD ?_; exact rfl
    ·exact rfl
    ·exact rfl
    refine fB rfl rfl (gU rfl ?_)
    apply aS (s := 92) rfl rfl rfl
    ·intro hg; apply aT; (refine aL rfl rfl rfl rfl rfl (by decide) ?_); refine aD ?_; exact rfl
    ·exact rfl
    ·exact rfl
    apply aS (s := 92) rfl rfl rfl
    ·intro hg; apply aO (s := 93) rfl (by (rw [hg]; rfl)); apply aT; (refine aU rfl rfl (by decide) rfl rfl rfl ?_); refine aD ?_; exact rfl
    ·exact rfl
    ·exact rfl
    apply aS (s := 92) rfl rfl rfl
    ·intro hg; apply aT; (refine bM rfl ?_); refine aD ?_; exact rfl
    ·exact rfl
    ·exact rfl
    apply aS (s := 92) rfl rfl rfl
    ·intro hg; apply aO (s := 94) rfl (by (rw [hg]; rfl)); apply aO (s := 95) rfl (by (rw [hg]; rfl)); apply aT; (refine bE rfl rfl rfl ?_); refine aD ?_; exact rfl
    ·exact rfl
    ·exact rfl
    refine fB rfl rfl (aD (aC ?_))
    refine cY rfl (fun hc6 => ?_) (fun hc6 => ?_)
    ·
     refine cM mixed rfl ?_
     refine aL rfl rfl rfl rfl rfl (by decide) ?_
     refine aU rfl rfl (by decide) rfl rfl rfl ?_
     refine aL rfl rfl rfl rfl rfl (by decide) ?_
     refine aL rfl rfl rfl rfl rfl (by decide) ?_
     refine aU rfl rfl (by decide) rfl rfl rfl ?_
     refine uN rfl rfl ?_
     refine aL rfl rfl rfl rfl rfl (by decide) ?_
     refine aU rfl rfl (by decide) rfl rfl rfl ?_
     refine aL rfl rfl rfl rfl rfl (by decide) ?_
     refine aL rfl rfl rfl rfl rfl (by decide) ?_
     refine aU rfl rfl (by decide) rfl rfl rfl ?_
     refine bt (E := cm) (xs := [_]) rfl rfl rfl rfl rfl (by decide) (by decide) (by repeat (first | exact (aX.nil : aX _ _ [] _) | (show aX _ _ ((_, _) :: _) _; apply aX.one; (· exact (rfl : _ = Ty.int _ _)); (· exact rfl)))) (by exact rfl) rfl ?_
     refine aa (rK _ _) rfl rfl rfl rfl rfl ?_
     refine aL rfl rfl rfl rfl rfl (by decide) ?_
     refine ct rfl rfl (by decide) rfl rfl (by exact (rfl : _ = Ty.int _ _)) rfl (by exact Nat.le_of_ble_eq_true rfl) rfl rfl (by exact rfl) ?_
     refine aL rfl rfl rfl rfl rfl (by decide) ?_
     refine ct rfl rfl (by decide) rfl rfl (by exact (rfl : _ = Ty.int _ _)) rfl (by exact Nat.le_of_ble_eq_true rfl) rfl rfl (by exact rfl) ?_
     refine aD ?_
     refine ⟨by kernel_rfl, ?_⟩
     refine bW (aC (aA ?_))
     refine bz rfl rfl (by omega) (by omega) ?_
     refine bM rfl (aD ?_)
     refine bf (⟨i.1 + 1, by omega⟩) ?_ (by show y.levels.length - (i.1 + 1) < y.levels.length - i.1; omega)
     (refine dD.mk' ?_ ?_ <;> (repeat' (first | exact aH | exact aI | exact dK | refine aB ?_ (Ty.aW _) | refine aB ?_ (Ty.aF _) | refine aG rfl (Cont.aF _) ?_ | refine aG rfl (Cont.dL ?_) ?_ | refine bY ?_ (Ty.aF _) | refine bY ?_ ?_)))
     all_goals skip
     all_goals first | exact Ty.bA (Dz hc6).1 | exact Ty.bA (Dz hc6).2
    refine ak (bW (aC (aA ?_)))
    refine bz rfl rfl (by omega) (by omega) ?_
    refine bM rfl (aD ?_)
    refine bf (⟨i.1 + 1, by omega⟩) ?_ (by show y.levels.length - (i.1 + 1) < y.levels.length - i.1; omega)
    (refine dD.mk' ?_ ?_ <;> (repeat' (first | exact aH | exact aI | exact dK | refine aB ?_ (Ty.aW _) | refine aB ?_ (Ty.aF _) | refine aG rfl (Cont.aF _) ?_ | refine aG rfl (Cont.dL ?_) ?_ | refine bY ?_ (Ty.aF _) | refine bY ?_ ?_)))
    all_goals skip
    all_goals first | exact Ty.bA (Gx hc6).1 | exact Ty.bA (Gx hc6).2
   refine cT (aR (aR (aq rfl (aC (aE ?_)))))
   refine fK (tg := 8) rfl (Cont.nQ (congrArg (vE _ _) (JU i.2 hc5))) ?_
   refine aA (N2 rfl ?_)
   refine bG rfl rfl (by decide) rfl rfl (by exact Nat.le_of_ble_eq_true rfl) ?_
   refine BM hJ hJx hY rfl rfl rfl rfl rfl (Dy (D6 (by omega) (by omega)) (KC (by omega) (by omega))) rfl ?_
   refine F9 (h1 := hJ _) (hx := hJx) rfl ?_
   refine aD (aC ?_)
   refine EB (h1 := hJ _) (hx := hJx) rfl ?_ ?_
   ·
    refine az (bD (aV (aV (bD (bD (aV (aV (bD (aV ?_)))))))))
    exact D5 rfl rfl
   refine ak (bW (aC (aA ?_)))
   refine bz rfl rfl (by omega) (by omega) ?_
   refine bM rfl (aD ?_)
   refine bf (⟨t.1 + 1, by omega⟩) ?_ (by show y.D + 1 - (t.1 + 1) < y.D + 1 - t.1; omega)
   (refine dD.mk' ?_ ?_ <;> (repeat' (first | exact aH | exact aI | refine aB ?_ (Ty.aW _) | refine aB ?_ (Ty.aF _) | refine aG rfl (Cont.aF _) ?_)))
   all_goals skip
  refine cT (aR (aR (aq rfl (bW (aC (aA ?_))))))
  refine bz rfl rfl (by omega) (by omega) ?_
  refine bM rfl (aD ?_)
  refine bf (⟨k.1 + 1, by omega⟩) ?_ (by show y.bins.length - (k.1 + 1) < y.bins.length - k.1; omega)
  (refine dD.mk' ?_ ?_ <;> (repeat' (first | exact aH | exact aI | refine aB ?_ (Ty.aW _) | refine aB ?_ (Ty.aF _) | refine aG rfl (Cont.aF _) ?_ | refine aG rfl ?_ ?_)))
  all_goals skip
  all_goals exact Gz hJ (show k.1 * (y.D + 1) + t.1 = (k.1 + 1) * (y.D + 1) by rw [Nat.succ_mul]; have := t.2; omega)
 refine cT (aR (aR (aq rfl (aC (aE (aA (aK rfl rfl rfl rfl (kG rfl ?_))))))))
 refine jH rfl rfl rfl rfl rfl (by decide) ?_
 refine jH rfl rfl rfl rfl rfl (by decide) ?_
 refine rM hX rfl rfl rfl rfl rfl rfl (cx rfl rfl rfl (bM rfl (aD (aC (ah ?_)))))
 refine cU (fun (i : {i : Nat // i ≤ y.moves.length}) => live [(0, Ty.ex (yv l)), (1, Ty.pp [Ty.ex (.pointer (some ⟨b, 0, none⟩))]), (124, Ty.sl dm y.moves), (125, Ty.int .i64 y.moves.length), (126, Ty.int .i64 (i.1 : Nat))] [(7000, Cont.ck (hJ (y.bins.length * (y.D + 1) + i.1))), (4000, Cont.fact (bk y) vs rfl rfl)]) (fun i => y.moves.length - i.1) (⟨0, by omega⟩) ?_ fun i => ?_
 ·(refine dD.mk' ?_ ?_ <;> (repeat' (first | exact aH | exact aI | refine aB ?_ (Ty.aW _) | refine aB ?_ (Ty.aF _) | refine aG rfl (Cont.aF _) ?_ | refine aG rfl ?_ ?_)))
  all_goals exact Gz hJ (show k.1 * (y.D + 1) = y.bins.length * (y.D + 1) + 0 by rw [show k.1 = y.bins.length by have := k.2; omega]; rfl)
 refine aE (aA (bE rfl rfl rfl (aD (aC (aE ?_)))))
 refine av rfl (fun hc8 => ?_) (fun hc8 => ?_)
 ·
  refine ak (aC (aE (ah (aE (aA ?_)))))
  refine bI rfl rfl rfl rfl rfl rfl (by omega) ?_
  refine aY rfl rfl rfl (by exact Nat.le_of_ble_eq_true rfl) ?_
  refine b8 rfl (by exact List.cons_ne_nil _ _) rfl ?_
  refine bp rfl rfl (by decide) rfl rfl rfl rfl rfl rfl ?_
  refine aD (aC (aE ?_))
  have hm := hr.move _ (cV (xs := y.moves) (k := i.1) (by omega))
  refine cM mixed rfl (N2 rfl (aK rfl rfl rfl rfl ?_))
  refine aL rfl rfl rfl rfl rfl (by decide) ?_
  refine aU rfl rfl (by decide) rfl rfl rfl ?_
  refine aL rfl rfl rfl rfl rfl (by decide) ?_
  refine aU rfl rfl (by decide) rfl rfl rfl ?_
  refine dg [7000, 4000] (vV y hr (nth y.moves i.1).src (nth y.moves i.1).day hm.2.1 (by omega)) rfl (aN (pz hX hD rfl rfl rfl rfl) (aN (af (bF rfl rfl)) (aN (af (bF rfl rfl)) bh))) (by exact dF _ _) ?_
  refine aK rfl rfl rfl rfl ?_
  refine aL rfl rfl rfl rfl rfl (by decide) ?_
  refine aU rfl rfl (by decide) rfl rfl rfl ?_
  refine aL rfl rfl rfl rfl rfl (by decide) ?_
  refine aU rfl rfl (by decide) rfl rfl rfl ?_
  refine dg [7000, 4000] (vV y hr (nth y.moves i.1).dst (nth y.moves i.1).day hm.2.2.1 (by omega)) rfl (aN (pz hX hD rfl rfl rfl rfl) (aN (af (bF rfl rfl)) (aN (af (bF rfl rfl)) bh))) (by exact dF _ _) ?_
  refine aL rfl rfl rfl rfl rfl (by decide) ?_
  refine aL rfl rfl rfl rfl rfl (by decide) ?_
  refine aU rfl rfl (by decide) rfl rfl rfl ?_
  refine aL rfl rfl rfl rfl rfl (by decide) ?_
  refine aL rfl rfl rfl rfl rfl (by decide) ?_
  refine aU rfl rfl (by decide) rfl rfl rfl ?_
  refine dG rfl rfl (by exact List.cons_ne_nil _ _) rfl (by repeat (first | exact (aX.nil : aX _ _ [] _) | (show aX _ _ ((_, _) :: _) _; apply aX.one; (· exact (rfl : _ = Ty.int _ _)); (· exact rfl)))) (by exact (rfl : _ = some [_, _, _, _])) ?_
  refine BM hJ hJx hY rfl rfl rfl rfl rfl (Dy (by rw [eS]; omega) (JG (by omega))) rfl ?_
  refine F9 (h1 := hJ _) (hx := hJx) rfl ?_
  refine aD ?_
  refine ⟨by kernel_rfl, ?_⟩
  refine aC ?_
  refine EB (h1 := hJ _) (hx := hJx) rfl ?_ ?_
  ·
   refine az (bD (aV (aV (bD ?_))))
   exact D5 rfl rfl
  refine ak (bW (aC (aA ?_)))
  refine bz rfl rfl (by omega) (by omega) ?_
  refine bM rfl (aD ?_)
  refine bf (⟨i.1 + 1, by omega⟩) ?_ (by show y.moves.length - (i.1 + 1) < y.moves.length - i.1; omega)
  (refine dD.mk' ?_ ?_ <;> (repeat' (first | exact aH | exact aI | refine aB ?_ (Ty.aW _) | refine aB ?_ (Ty.aF _) | refine aG rfl (Cont.aF _) ?_)))
  all_goals skip
 refine cT (aR (aR (aq rfl ?_)))
 exact GQ (hJ := hJ) (by rw [List.length_map, eS, show i.1 = y.moves.length by have := i.2; omega]) rfl rfl
end Go.Proofs.YtelbollidfdcjaaGreat
namespace Go.T
open Go Go.RowKit
theorem K4 {ρ : List (Nat × Nat)} {a b : Nat} (h : (a, b) ∈ ρ) : Conv ρ (.mp a) (.mp b) := fun _ _ _ _ _ _ hre ⟨k, e, hk⟩ => ⟨k, e, hre.some _ h k hk⟩
def HR {α : Type} (E : El α) : VT (List α) := ⟨fun xs => Ty.sl E xs, fun _ => ⟨rfl, rfl⟩⟩
section
variable {A : As}
theorem Db {α : Type} {E : El α} {T J : Nat} {xs : List α} {w : World} {M : bC} {v : Value} (wf : Wf w M) (h : we E T J xs w M v) : m6 E xs w (eM M J) v := by
 rcases h with ⟨rfl, rfl⟩ | ⟨g, off, c, cur, rfl, hg, hh, h1, h2, h3, h4⟩
 ·exact ⟨none, 0, rfl, Nat.le_refl _, by simp [maxLen], fun h => absurd h (by simp)⟩
 refine ⟨_, c, rfl, h1, h2, fun h0 => ⟨g, off, rfl, by simp [eM, hg], wf.lt g _ hg, fun i t hi => ?_⟩⟩
 obtain ⟨u, hu, hdu⟩ := dQ h4 i t hi
 refine ⟨u, ?_, t.mono (jW (w := w)) ?_ (fun _ _ h => by cases h) hdu⟩
 ·have hlt : i < xs.length * E.size := by
   have := (List.getElem?_eq_some_iff.1 hu).1
   rw [List.length_take] at this; omega
  rw [List.getElem?_take, if_pos hlt, List.getElem?_drop] at hu
  simpa [World.cell?, hh] using hu
 intro u hu
 have : u ∈ cE (xs.flatMap E.tys) := List.mem_flatMap.2 ⟨t, List.mem_of_getElem? hi, hu⟩
 rw [E.cX] at this; cases this
theorem J8 {κ α : Type} [DecidableEq κ] {enc : κ → Value} {E : El α} {T J m : Nat} {q : List (κ × List α)} (hc : A.tag m = some (.mr enc E T J q)) (hne : Nat.beq m J = false) : JS A J (m, .mp enc (HR E) q) := fun w M wf ht => by
  obtain ⟨_, b, es, clock, h1, h2, h3, h4, _⟩ := ht _ (cj hc)
  have hmj : m ≠ J := fun h => by subst h; simp at hne
  refine ⟨b, by simp [eM, h1, hmj], es, clock, h2, h3, ?_⟩
  have key : ∀ (l : List (κ × List α)) (vs : List Value), cK w M (l.map fun x => Ty.eY E T J x.2) vs → cK w (eM M J) (l.map fun x => (HR E).ty x.2) vs := by
    intro l
    induction l with
    | nil => intro vs h; cases vs with | nil => trivial | cons => cases h
    | cons x l ih =>
      intro vs h
      cases vs with
      | nil => cases h
      | cons v vs => exact ⟨Db wf h.1, ih vs h.2⟩
  exact key q _ h4
theorem j5 {L : List Nat} {l1 l2 : List Ty} (h1 : cE l1 = []) (h2 : bl l1 = []) : sA A L (.pp (l1 ++ l2)) (.pp l1) := fun w M v _ _ ⟨b, off, e, m1, m2, m3⟩ => by
 refine ⟨b, off, e, jV m1, m2, fun i t hi => ?_⟩
 have hl : i < l1.length := (List.getElem?_eq_some_iff.1 hi).1
 obtain ⟨x, hx, hd⟩ := m3 i t (by rw [List.getElem?_append_left hl]; exact hi)
 refine ⟨x, hx, t.mono (S := fun _ => True) (K := fun _ => True) ⟨Nat.le_refl _, rfl, rfl, rfl, fun b _ hm => ⟨jV hm, rfl⟩, fun b t _ h => absurd trivial h⟩ ?_ ?_ hd⟩
 ·intro u hu
  have : u ∈ cE l1 := List.mem_flatMap.2 ⟨t, List.mem_of_getElem? hi, hu⟩
  rw [h1] at this; cases this
 intro u hu
 have : u ∈ bl l1 := List.mem_flatMap.2 ⟨t, List.mem_of_getElem? hi, hu⟩
 rw [h2] at this; cases this
theorem Fm {L : List Nat} {i : Nat} {t : Ty} : ∀ {l l' : List Ty}, nq A L l l' → l'[i]? = some t → ∃ s, l[i]? = some s ∧ sA A L s t := by
  induction i with
  | zero =>
    intro l l' h e
    match l, l', h with
    | [], [], _ => cases e
    | s :: _, t' :: _, h => injection e with e; subst e; exact ⟨s, rfl, h.1⟩
  | succ i ih =>
    intro l l' h e
    match l, l', h with
    | [], [], _ => cases e
    | _ :: l, _ :: l', h => exact ih (l := l) (l' := l') h.2 e
theorem kR {L : List Nat} {l l' : List Ty} (h : nq A L l l') : sA A L (.pp l) (.pp l') := fun w M v wf ht ⟨b, off, e, m1, m2, m3⟩ => by
 refine ⟨b, off, e, jV m1, m2, fun i t hi => ?_⟩
 obtain ⟨s, h1, h2⟩ := Fm h hi
 obtain ⟨x, hx, hd⟩ := m3 i s h1
 exact ⟨x, hx, h2 w M x wf ht hd⟩
end
section
variable {P : Program} {fr : Fr} {A : As} {c : Code} {Q : Exit → Act → World → Prop}
theorem Lj {α : Type} {E : El α} {T J tg s : Nat} {xs : List α} (hs : Nat.blt s fr.n = true) (hc : A.slots s = .row E T tg xs) (h1 : fS tg) (hJ : 4096 ≤ J) (hp : fr.pass.contains tg = false)
    (h : fX P fr c ⟨fun i => bif Nat.beq i s then .eY E T J xs else gY [] [tg] A.slots i, nT [] [tg] A.tags⟩ Q) : fX P fr c A Q := fun a w ⟨M, ok, hsl, ht⟩ => by
  have le : Le (· ∈ ([] : List Nat)) (· ∈ [tg]) w M w (k6 M tg J) := ow
  refine h a w ⟨k6 M tg J, ⟨CE hJ ok.wf, Fr.jT ok.base (by intro _ h; cases h) (fun t ht => by simp only [List.mem_singleton] at ht; subst ht; exact ⟨h1.1, by simpa using hp⟩) le, ok.size, ok.defers.step (by intro _ h; cases h) (fun t ht => by simp only [List.mem_singleton] at ht; subst ht; exact h1.1) le⟩, fun i hi => ?_, fun x hx => ?_⟩
  · cases hb : Nat.beq i s with
    | false =>
      simp only [hb, cond_false]
      rcases fZ [] [tg] A.slots i with ⟨e, hdj⟩ | ⟨_, e⟩
      · rw [e]; exact (A.slots i).mono le (fQ hdj).1 (fQ hdj).2 (hsl i hi)
      · rw [e]; trivial
    | true =>
      have his : i = s := Nat.eq_of_beq_eq_true hb
      subst his
      simp only [hb, cond_true]
      have hd := hsl i hi
      rw [hc] at hd
      obtain ⟨vs, hown, hcs, hM⟩ := hd
      rcases hown.2 with ⟨ez, h0⟩ | ⟨g, cap, cur, ez, _, hh, hnc, hcap, hsz, htk⟩
      · exact .inl ⟨List.length_eq_zero_iff.1 h0, ez⟩
      · have hg : M g = some tg := hM g (by rw [ez]; rfl)
        refine .inr ⟨g, 0, cap, cur, ez, by simp [k6, hg], hh, hnc, hcap, by omega, ?_⟩
        rw [List.drop_zero, htk]
        exact bX (ow (w := w)) (by rw [E.cX]; intro _ h; cases h) (by rw [E.cJ]; intro _ h; cases h) hcs
  · exact iW le hx fun y hy _ => ht y hy
end
end Go.T
namespace Go.Proofs.YtelbollidfdcjaaGreat
open Go Go.T
set_option maxHeartbeats 8000000
theorem four {vs : List Value} {n : Nat} (h : vs.length = n) (e : n = 4) : ∃ a b c d, vs = [a, b, c, d] := by
  subst e
  match vs, h with
  | [a, b, c, d], _ => exact ⟨a, b, c, d, rfl⟩
def D4 (y : bB) : List Ty := [Ty.int .i64 y.days, Ty.sl eU y.bins, Ty.sl dm y.moves, Ty.sl ef y.levels, Ty.ex (.slice none 0 0), Ty.ex (.slice none 0 0)]
def Mk (y : bB) (F A : Nat) (fl : List b9) (a : List Int) : List Ty := [Ty.int .i64 y.days, Ty.sl eU y.bins, Ty.sl dm y.moves, Ty.sl ef y.levels, Ty.row dZ 187 F fl, Ty.row cm 3 A a]
theorem EG {fl : List b9} {k : Nat} (h : k < fl.length) : (fT fl).take k ++ [(nth fl k).lo] = (fT fl).take (k + 1) := by
 unfold fT; rw [← List.map_take, ← List.map_take, eK h, List.map_append]; rfl
theorem BV {y : bB} {fl : List b9} {α : Type} {f : b9 → α} : [Ty.int .i64 y.days, Ty.sl eU y.bins, Ty.sl dm y.moves, Ty.sl ef y.levels, Ty.row dZ 187 23 (fl.take (fl.map f).length), Ty.row cm 3 31 ((fT fl).take (fl.map f).length)] = Mk y 23 31 fl (fT fl) := by
 rw [List.length_map, List.take_of_length_le (Nat.le_refl _), List.take_of_length_le (by unfold fT; rw [List.length_map]; exact Nat.le_refl _)]; rfl
def l9 (y : bB) (F A m n : Nat) : List Ty := [Ty.int .i64 y.days, Ty.sl eU y.bins, Ty.sl dm y.moves, Ty.sl ef y.levels, Ty.vs F m, Ty.vs A n]
def eF (y : bB) (fl : List b9) (A n : Nat) : List Ty := [Ty.int .i64 y.days, Ty.sl eU y.bins, Ty.sl dm y.moves, Ty.sl ef y.levels, Ty.sl dZ fl, Ty.vs A n]
def kQ (y : bB) (fl : List b9) (a : List Int) : List Ty := [Ty.int .i64 y.days, Ty.sl eU y.bins, Ty.sl dm y.moves, Ty.sl ef y.levels, Ty.sl dZ fl, Ty.sl cm a]
theorem DI (fl : List b9) : (fT fl).length = fl.length := by unfold fT; rw [List.length_map]
theorem iV {y : bB} (hr : y.cN) {c : Nat → Bool} : (aP y c).length ≤ 34 := by
 have h1 := hr.bins; have h2 := hr.days; have h3 := D_eq hr; have h4 := hr.moves
 have := Nat.mul_le_mul (show y.bins.length ≤ 4 by omega) (show y.D + 1 ≤ 6 by omega)
 rw [eS]; omega
attribute [local irreducible] aP fT
attribute [local irreducible] iP fV m6 qX ig iw ia ij ir qN iy qQ eA ga qU gS qM nth fX dy aj dx bodyPost Exit.then Exit.inBlock Code.wp Code.wpIn qO iz qT qR iZ eR cW cZ bodyPostM eH
set_option maxRecDepth 100000 in
theorem F1 (y : bB) (c8 : List Bool) (hc8 : c8.length = 8) : eR Tryz.prog 173 [1000] [(1000, Cont.cells 185 (D4 y))] [Ty.ptr 1000 0, Ty.arr jG c8] [(1000, Cont.cells 185 (D4 y))] (Ty.jc 196 [Ty.pp [Ty.ptr 1000 0], Ty.pa jG c8 0]) := by
 refine eG Tryz.func173 rfl (by decide) Tryz.ntmps173 (by exact Nat.le_of_ble_eq_true rfl) fun w0 M0 => ?_
 refine aE (aA ?_)
 refine gB (ty := Ty.ptr 1000 0) rfl rfl ?_
 refine tB rfl (mF rfl (aD (aC (aE (aA (dH rfl (Nw rfl (aD (aC ?_)))))))))
 refine az ?_
 refine gW [1000] rfl rfl (by decide) (by repeat (first | exact fO | refine eN rfl (bK (by decide) rfl rfl rfl) ?_)) ?_
 all_goals skip
 all_goals exact fo (tG (aJ (aJ bO (aQ rfl rfl)) (eo (aJ bO (eE (by decide))))))
set_option maxRecDepth 100000 in
theorem oY (y : bB) (hr : y.cN) (c8 : List Bool) (hc8 : c8.length = 8) : eR Tryz.prog 117 [] [] [fH y, Ty.arr jG c8] [(23, Cont.vec dZ 187 (aP y (nth c8))), (31, Cont.vec cm 3 (fT (aP y (nth c8))))] (Ty.pp (l9 y 23 31 (aP y (nth c8)).length (aP y (nth c8)).length)) := by
 refine qo Tryz.func117 rfl (by decide) Tryz.ntmps117 (by exact Nat.le_of_ble_eq_true rfl) fun w0 M0 => ?_
 have hfl := iV (c := nth c8) hr
 refine aE (aA (bJ rfl (tB rfl (mF rfl (aD (aC (aE (aA ?_))))))))
 refine aY rfl rfl rfl (by exact Nat.le_of_ble_eq_true rfl) ?_
 refine dG rfl rfl (by exact List.cons_ne_nil _ _) rfl (by repeat (first | exact (aX.nil : aX _ _ [] _) | (show aX _ _ ((_, _) :: _) _; apply aX.agg; (· exact (rfl : _ = Ty.agg _))))) (by exact rfl) ?_
 refine sX rfl rfl rfl ?_
 refine b8 rfl (by exact List.cons_ne_nil _ _) rfl ?_
 refine ct rfl rfl (by decide) rfl rfl (by exact (rfl : _ = Ty.ptr _ _)) rfl (by exact Nat.le_of_ble_eq_true rfl) rfl rfl (by exact (rfl : _ = [_])) ?_
 refine aD (aC (aE (aE (aA ?_))))
 refine aU rfl rfl (by decide) rfl rfl rfl ?_
 refine vp rfl rfl rfl (by rw [hc8]; rfl) ?_
 refine cI (res' := Ty.jc 196 [Ty.pp [Ty.ptr 10 0], Ty.pa jG c8 0]) [(10, 1000)] [] [(10, Cont.cells 185 (D4 y))] (F1 y c8 hc8) rfl rfl (aJ (aJ bO (aQ rfl rfl)) (eE (by exact List.mem_cons_self))) (cF (a := 10) (b := 1000) (by exact List.mem_cons_self) rfl (bK (by exact List.mem_cons_self) rfl rfl rfl) pre_nil) (bN (a := 10) (b := 1000) (by exact List.mem_cons_self) rfl (bK (by exact List.mem_cons_self) rfl rfl rfl) post_nil) (tG (aJ (aJ bO (aQ rfl rfl)) (eo (aJ bO (eE (by exact List.mem_cons_self)))))) ?_
 refine aD (aC ?_)
 refine GD (D := 10) (Tb := 185) (tys := bk y) (r := [Ty.ex (.slice none 0 0), Ty.ex (.slice none 0 0)]) rfl rfl rfl (by decide) fun vs hvs => ?_
 obtain ⟨v0, v1, v2, v3, rfl⟩ := four hvs rfl
 refine ah ?_
 refine rL (ps := [13]) (lk [(5, Ty.ptr 6 0), (9, Ty.ptr 10 0)]) (fun k => [(6, Cont.cells 152 [Ty.ptr 10 0]), (10, Cont.cells 185 [Ty.ex v0, Ty.ex v1, Ty.ex v2, Ty.ex v3, Ty.row dZ 187 23 ((aP y (nth c8)).take k), Ty.row cm 3 31 ((fT (aP y (nth c8))).take k)]), (4000, Cont.fact (bk y) [v0, v1, v2, v3] rfl rfl)]) false [] [6, 10, 4000] rfl rfl ((vR y hr c8 hc8 0 10 (by decide) [v0, v1, v2, v3]).1) (Bx (D := 10) (n := 36) (sd := 9) (r := fun k => [Ty.row dZ 187 23 ((aP y (nth c8)).take k), Ty.row cm 3 31 ((fT (aP y (nth c8))).take k)]) (fun b => vR y hr c8 hc8 b 10 (by decide) [v0, v1, v2, v3]) (by decide) (by decide) rfl (fun k => List.mem_cons_of_mem _ List.mem_cons_self) (List.mem_cons_of_mem _ (List.mem_cons_of_mem _ List.mem_cons_self))) (vK rfl) (vK rfl) (by decide) (by intro t ht; obtain ⟨x, _, rfl⟩ := List.mem_map.1 ht; exact ⟨rfl, rfl, rfl⟩) rfl rfl (fun _ => rfl) rfl ?_ ?_ ?_ (by intro h; cases h)
 ·(refine dD.mk' ?_ ?_ <;> (repeat' (first | exact aH | exact aI | exact dK | refine aB ?_ (Ty.aW _) | refine aB ?_ (Ty.aF _) | refine aG rfl (Cont.aF _) ?_ | refine aG rfl (Cont.dL ?_) ?_ | refine bY ?_ (Ty.aF _) | refine bY ?_ Ty.mL)))
  all_goals trace_state
 ·intro k tys hk
  obtain ⟨hk1, rfl⟩ := Du hk
  refine ⟨live [(5, Ty.ptr 6 0), (6, Ty.ptr 7 0), (9, Ty.ptr 10 0)] [(6, Cont.cells 152 [Ty.ptr 10 0]), (7, Cont.cells 187 (dZ.tys (nth (aP y (nth c8)) k))), (10, Cont.cells 185 [Ty.ex v0, Ty.ex v1, Ty.ex v2, Ty.ex v3, Ty.row dZ 187 23 ((aP y (nth c8)).take k), Ty.row cm 3 31 ((fT (aP y (nth c8))).take k)]), (4000, Cont.fact (bk y) [v0, v1, v2, v3] rfl rfl)], fun l w M => ?_, fun l w M => ?_⟩
  ·
   refine aA ?_
   refine b8 rfl (by exact List.cons_ne_nil _ _) rfl ?_
   refine bp rfl rfl (by decide) rfl rfl rfl rfl rfl rfl ?_
   refine aD (fP ?_)
   (refine dD.mk' ?_ ?_ <;> (repeat' (first | exact aH | exact aI | refine aB ?_ (Ty.aW _) | refine aB ?_ (Ty.aF _) | refine aG rfl (Cont.aF _) ?_)))
  refine ah ?_
  refine vC (D := 10) (Tb := 185) (tg := 23) [Ty.ex v0, Ty.ex v1, Ty.ex v2, Ty.ex v3] rfl fun v4 => ?_
  refine vC (D := 10) (Tb := 185) (tg := 31) [Ty.ex v0, Ty.ex v1, Ty.ex v2, Ty.ex v3, Ty.ex v4] rfl fun v5 => ?_
  refine cM mixed rfl ?_
  refine aU rfl rfl (by decide) rfl rfl rfl ?_
  refine aU rfl rfl (by decide) rfl rfl rfl ?_
  refine aU rfl rfl (by decide) rfl rfl rfl ?_
  refine cP rfl ?_
  refine aL rfl rfl rfl rfl rfl (by decide) ?_
  refine aU rfl rfl (by decide) rfl rfl rfl ?_
  refine bG rfl rfl (by decide) rfl rfl (by exact Nat.le_of_ble_eq_true rfl) ?_
  refine bt (E := dZ) (xs := [_]) rfl rfl rfl rfl rfl (by decide) (by decide) (by repeat (first | exact (aX.nil : aX _ _ [] _) | (show aX _ _ ((_, _) :: _) _; apply aX.agg; (· exact (rfl : _ = Ty.agg _))))) (by exact rfl) rfl ?_
  refine pY (tg := 23) rfl rfl rfl rfl (by decide) rfl rfl rfl rfl rfl rfl (by decide) (by (simp <;> omega)) (by (simp <;> omega)) rfl rfl ?_
  refine aU rfl rfl (by decide) rfl rfl rfl ?_
  refine cP rfl ?_
  refine aL rfl rfl rfl rfl rfl (by decide) ?_
  refine aU rfl rfl (by decide) rfl rfl rfl ?_
  refine aL rfl rfl rfl rfl rfl (by decide) ?_
  refine aU rfl rfl (by decide) rfl rfl rfl ?_
  refine bt (E := cm) (xs := [_]) rfl rfl rfl rfl rfl (by decide) (by decide) (by repeat (first | exact (aX.nil : aX _ _ [] _) | (show aX _ _ ((_, _) :: _) _; apply aX.one; (· exact (rfl : _ = Ty.int _ _)); (· exact rfl)))) (by exact rfl) rfl ?_
  refine pY (tg := 31) rfl rfl rfl rfl (by decide) rfl rfl rfl rfl rfl rfl (by decide) (by (simp <;> omega)) (by (simp <;> omega)) rfl rfl ?_
  refine cP rfl ?_
  refine aL rfl rfl rfl rfl rfl (by decide) ?_
  refine ct rfl rfl (by decide) rfl rfl (by exact (rfl : _ = Ty.row _ _ _ _)) rfl (by exact Nat.le_of_ble_eq_true rfl) rfl rfl (by exact rfl) ?_
  refine cP rfl ?_
  refine aL rfl rfl rfl rfl rfl (by decide) ?_
  refine ct rfl rfl (by decide) rfl rfl (by exact (rfl : _ = Ty.row _ _ _ _)) rfl (by exact Nat.le_of_ble_eq_true rfl) rfl rfl (by exact rfl) ?_
  refine aD ?_
  refine ⟨by kernel_rfl, ?_⟩
  refine bW (Bj ?_)
  (refine dD.mk' ?_ ?_ <;> (repeat' (first | exact aH | exact aI | exact dK | refine aB ?_ (Ty.aW _) | refine aG rfl (Cont.aF _) ?_ | refine aG rfl (Cont.dL ?_) ?_ | refine bY ?_ (Ty.aF _) | refine bY ?_ ?_)))
  all_goals first | exact Ty.gG (eK hk1).symm | exact Ty.gG (EG hk1)
 refine bW (aC (aE ?_))
 refine B7 (D := 10) (Tb := 185) (vs := [v0, v1, v2, v3]) (tys := bk y) (r := [Ty.row dZ 187 23 ((aP y (nth c8)).take ((aP y (nth c8)).map jj).length), Ty.row cm 3 31 ((fT (aP y (nth c8))).take ((aP y (nth c8)).map jj).length)]) rfl rfl ?_
 refine fK (tg := 10) rfl (Cont.nQ (T := 185) (BV (y := y) (fl := aP y (nth c8)) (f := jj))) ?_
 refine m9 (c0 := 10) (tg := 23) 4 rfl rfl ?_
 refine m9 (c0 := 10) (tg := 31) 5 rfl rfl ?_
 refine fK (tg := 10) rfl (Cont.eB (l' := l9 y 23 31 (aP y (nth c8)).length (aP y (nth c8)).length) ⟨Ty.aF _, Ty.aF _, Ty.aF _, Ty.aF _, Ty.wT rfl, Ty.wT (DI _), trivial⟩) ?_
 refine mj (tg := 10) [] [(6, Cont.cells 152 [Ty.pp (l9 y 23 31 (aP y (nth c8)).length (aP y (nth c8)).length)])] (by decide) rfl trivial ⟨iE rfl rfl ⟨zC rfl rfl (by decide), trivial⟩, trivial⟩ ?_
 refine aA ?_
 refine aU rfl rfl (by decide) rfl rfl rfl ?_
 refine It rfl (aD (aC (az (Gb rfl ?_))))
 refine gW [23, 31] rfl rfl (by decide) (by repeat (first | exact fO | refine eN rfl (cA (by decide) rfl) ?_)) ?_
 all_goals skip
 all_goals exact fo (eo (aJ (aJ (aJ (aJ (aJ (aJ bO (eT (by decide))) (eT (by decide))) (aQ rfl rfl)) (aQ rfl rfl)) (aQ rfl rfl)) (aQ rfl rfl)))
end Go.Proofs.YtelbollidfdcjaaGreat
namespace Go.Proofs.YtelbollidfdcjaaGreat
open Go Go.T
section
variable {fl : List b9} {a : List Int} {n k : Nat} {c : Int} {w : Way}
abbrev WQ : Type := List (Int × List Way)
def oW (q : WQ) (c : Int) : List Way := (fA q c).getD []
def En (q : WQ) (c : Int) (w : Way) : WQ := gu q c (oW q c ++ [w])
theorem A4 (q : WQ) (c c' : Int) (w : Way) : oW (En q c w) c' = oW q c' ++ (if c = c' then [w] else []) := by
 unfold En
 show (fA (gu _ _ _) c').getD [] = _
 rw [yh]
 by_cases e : c = c'
 ·subst e; rw [if_pos rfl, if_pos rfl]; rfl
 rw [if_neg e, if_neg e, List.append_nil]; rfl
def nJ (fl : List b9) (a : List Int) (q : WQ) (k : Nat) : WQ := if nth a k < (nth fl k).hi then En q (nth fl k).src ⟨k, true⟩ else q
def eX (fl : List b9) (a : List Int) : Nat → WQ
  | 0 => []
  | k + 1 => if nth a k > (nth fl k).lo then En (nJ fl a (eX fl a k) k) (nth fl k).dst ⟨k, false⟩ else nJ fl a (eX fl a k) k
theorem Fk (fl : List b9) (a : List Int) : ([] : WQ) = eX fl a 0 := rfl
theorem F8 {q : WQ} (h : ¬ nth a k < (nth fl k).hi) : q = nJ fl a q k := (if_neg h).symm
theorem Gv (h : ¬ nth a k > (nth fl k).lo) : nJ fl a (eX fl a k) k = eX fl a (k + 1) := (if_neg h).symm
theorem s9 {q : WQ} : oW (nJ fl a q k) c = oW q c ++ (if nth a k < (nth fl k).hi ∧ (nth fl k).src = c then [⟨k, true⟩] else []) := by
 unfold nJ
 by_cases h : nth a k < (nth fl k).hi
 ·rw [if_pos h, A4]
  by_cases e : (nth fl k).src = c
  ·rw [if_pos e, if_pos ⟨h, e⟩]
  rw [if_neg e, if_neg fun h => e h.2]
 rw [if_neg h, if_neg fun h' => h h'.1, List.append_nil]
theorem tL : ∀ k, oW (eX fl a k) c = (List.range k).flatMap (BG fl a c)
  | 0 => rfl
  | k + 1 => by
    rw [List.range_succ, List.flatMap_append, List.flatMap_singleton, ← tL k]
    show oW (if _ then _ else _) c = _
    unfold BG
    by_cases h : nth a k > (nth fl k).lo
    · rw [if_pos h, A4, s9, List.append_assoc]
      congr 2
      by_cases e : (nth fl k).dst = c
      · rw [if_pos e, if_pos ⟨h, e⟩]
      · rw [if_neg e, if_neg fun h => e h.2]
    · rw [if_neg h, s9, if_neg (c := _ ∧ (nth fl k).dst = c) (fun h' => h h'.1), List.append_nil]
theorem rm : oW (eX fl a fl.length) c = bQ fl a c := tL _
theorem yP (k : Nat) : (oW (eX fl a k) c).length ≤ 2 * k := by
  rw [tL]
  have key : ∀ n, ((List.range n).flatMap (BG fl a c)).length ≤ 2 * n := by
    intro n
    induction n with
    | zero => simp
    | succ n ih => rw [List.range_succ, List.flatMap_append, List.length_append, List.flatMap_singleton]; have := BE (fl := fl) (a := a) (c := c) n; omega
  exact key k
theorem FM : (oW (nJ fl a (eX fl a k) k) c).length ≤ 2 * k + 1 := by
 rw [s9, List.length_append]
 have := yP (fl := fl) (a := a) (c := c) k
 split <;> simp <;> omega
def pO (fl : List b9) (a : List Int) (k : Nat) (c : Int) : Int := c7 (fun i => (ind ((nth fl i).dst = c) - ind ((nth fl i).src = c)) * nth a i) k
def fE (fl : List b9) (a : List Int) (n k : Nat) : List Int := (List.range n).map fun c => pO fl a k (c : Nat)
theorem jz : (fE fl a n k).length = n := by unfold fE; rw [List.length_map, List.length_range]
theorem jP {c : Nat} (h : c < n) : nth (fE fl a n k) c = pO fl a k c := fI _ h
theorem CR : fE fl a n fl.length = gR fl a n := rfl
theorem Bh {l l' : List Int} (h : l.length = l'.length) (h' : ∀ i, i < l.length → nth l i = nth l' i) : l = l' := by
 refine List.ext_getElem h fun i h1 h2 => ?_
 have := h' i h1
 unfold nth at this
 rw [List.getD_eq_getElem?_getD, List.getD_eq_getElem?_getD, List.getElem?_eq_getElem h1, List.getElem?_eq_getElem h2] at this
 exact this
def oO (fl : List b9) (a : List Int) (l : List Int) (k : Nat) : List Int := l.set (nth fl k).src.toNat (nth l (nth fl k).src.toNat - nth a k)
theorem BB (hs : 0 ≤ (nth fl k).src ∧ (nth fl k).src < n) (hd : 0 ≤ (nth fl k).dst ∧ (nth fl k).dst < n) :
 (oO fl a (fE fl a n k) k).set (nth fl k).dst.toNat (nth (oO fl a (fE fl a n k) k) (nth fl k).dst.toNat + nth a k) = fE fl a n (k + 1) := by
 have hS : ∀ c, c < n → nth (oO fl a (fE fl a n k) k) c = pO fl a k c - ind ((nth fl k).src = (c : Int)) * nth a k := fun c hc => by
  unfold oO
  rw [iJ (by rw [jz]; exact hc)]
  by_cases e : (nth fl k).src.toNat = c
  ·rw [if_pos e, e, jP hc, dj (by omega), Int.one_mul]
  rw [if_neg e, jP hc, dX (by omega), Int.zero_mul, Int.sub_zero]
 have hl : (oO fl a (fE fl a n k) k).length = n := by unfold oO; rw [List.length_set, jz]
 refine Bh (by rw [List.length_set, hl, jz]) fun c hc => ?_
 rw [List.length_set, hl] at hc
 rw [iJ (by rw [hl]; exact hc), jP hc]
 show _ = pO fl a k c + (ind ((nth fl k).dst = (c : Int)) - ind ((nth fl k).src = (c : Int))) * nth a k
 rw [Int.sub_mul]
 by_cases e : (nth fl k).dst.toNat = c
 ·rw [if_pos e, e, hS c hc, dj (p := (nth fl k).dst = (c : Int)) (by omega), Int.one_mul]; omega
 rw [if_neg e, hS c hc, dX (p := (nth fl k).dst = (c : Int)) (by omega), Int.zero_mul]; omega
theorem FH (fl : List b9) (a l : List Int) (k : Nat) : (oO fl a l k).length = l.length := List.length_set
theorem Fc (fl : List b9) (a : List Int) (n : Nat) : List.replicate (((n : Nat) : Int)).toNat 0 = fE fl a n 0 := by
 rw [Int.toNat_natCast]
 refine Bh (by rw [List.length_replicate, jz]) fun i hi => ?_
 rw [List.length_replicate] at hi
 rw [jP hi, zx _ _ _ hi]; rfl
theorem Ff {c : Nat} (h : ∀ c : Int, -(300 * (k : Int)) ≤ pO fl a k c ∧ pO fl a k c ≤ 300 * k) (ha : 0 ≤ nth a k ∧ nth a k ≤ 300) (hc : c < n) (hs : (nth fl k).src.toNat < n) : -(300 * (k : Int) + 300) ≤ nth (oO fl a (fE fl a n k) k) c ∧ nth (oO fl a (fE fl a n k) k) c ≤ 300 * k := by
 unfold oO
 rw [iJ (by rw [jz]; exact hc)]
 split
 ·rw [jP hs]; have := h ((nth fl k).src.toNat : Nat); omega
 rw [jP hc]; have := h (c : Nat); omega
theorem yF (ha : ∀ i, i < k → 0 ≤ nth a i ∧ nth a i ≤ 300) : -(300 * (k : Int)) ≤ pO fl a k c ∧ pO fl a k c ≤ 300 * k := by
 refine nS (b := 300) fun i hi => ?_
 have := ha i hi
 unfold ind
 split <;> split <;> simp <;> omega
end
end Go.Proofs.YtelbollidfdcjaaGreat
namespace Go.Proofs.YtelbollidfdcjaaGreat
open Go Go.T
set_option maxHeartbeats 8000000
section
variable {fl : List b9} {a : List Int} {n : Nat} {w : Way}
theorem I8 (h : w.more = true) : (nth fl w.ix).src = w.gj fl := (if_pos h).symm
theorem MG (h : w.more = false) : (nth fl w.ix).dst = w.gj fl := (if_neg (by rw [h]; decide)).symm
theorem Ds (h : w.more = true) : (nth fl w.ix).dst = w.fin fl ∧ (nth fl w.ix).hi - nth a w.ix = w.room fl a := ⟨(if_pos h).symm, (if_pos h).symm⟩
theorem Hq (h : w.more = false) : (nth fl w.ix).src = w.fin fl ∧ nth a w.ix - (nth fl w.ix).lo = w.room fl a := ⟨(if_neg (by rw [h]; decide)).symm, (if_neg (by rw [h]; decide)).symm⟩
structure lf (y : bB) (fl : List b9) (a : List Int) : Prop where
  right : y.cN
  net : Net fl (y.cells + 1)
  bd : Bd fl
  inb : xT fl a
  oX : fl.length ≤ 34
theorem lf.Lz {y : bB} (h : lf y fl a) {i : Nat} (hi : i < fl.length) : (0 ≤ nth a i ∧ nth a i ≤ 300) ∧ (0 ≤ (nth fl i).lo ∧ (nth fl i).lo ≤ 300) ∧ 0 ≤ (nth fl i).hi ∧ (nth fl i).hi ≤ 300 := by
 have h1 := h.bd i hi
 have h2 := h.inb.2 i hi
 omega
theorem Mb {l : List Way} {k : Nat} {d : Int} (hk : k < l.length) (hm : (nth l k).more = true) : (eI a (l.take k) d).set (nth l k).ix (nth (eI a (l.take k) d) (nth l k).ix + d) = eI a (l.take (k + 1)) d := by
 rw [eK hk, qn]; unfold k7 xQ; rw [hm]; rfl
theorem MW {l : List Way} {k : Nat} {d : Int} (hk : k < l.length) (hm : (nth l k).more = false) : (eI a (l.take k) d).set (nth l k).ix (nth (eI a (l.take k) d) (nth l k).ix - d) = eI a (l.take (k + 1)) d := by
 rw [eK hk, qn]; unfold k7 xQ; rw [hm]; rfl
theorem xz {l : List Way} {d : Int} (hd : 0 ≤ d ∧ d ≤ 20000) (ha : ∀ i, -300 ≤ nth a i ∧ nth a i ≤ 300) (hw : ∀ w ∈ l, w.ix < a.length) : ∀ k, k ≤ l.length → ∀ i, -(20000 * ((k : Int) + 1)) ≤ nth (eI a (l.take k) d) i ∧ nth (eI a (l.take k) d) i ≤ 20000 * ((k : Int) + 1)
  | 0, _, i => by rw [List.take_zero]; have := ha i; show _ ≤ nth a i ∧ nth a i ≤ _; omega
  | k + 1, hk, i => by
    have ih := xz hd ha hw k (by omega) i
    rw [eK (by omega), qn, j4 (by rw [tU]; exact hw _ (cV (by omega)))]
    split
    · unfold xQ; split <;> omega
    · omega
theorem Ci (a : List Int) (l : List Way) (d : Int) : a = eI a (l.take 0) d := rfl
theorem JZ {l : List Int} {i : Nat} (h : l.length ≤ i) : nth l i = 0 := by
 unfold nth; rw [List.getD_eq_getElem?_getD, List.getElem?_eq_none h]; rfl
theorem lf.abs {y : bB} (h : lf y fl a) (i : Nat) : -300 ≤ nth a i ∧ nth a i ≤ 300 := by
 by_cases c : i < fl.length
 ·have := (h.Lz c).1; omega
 rw [JZ (by rw [h.inb.1]; omega)]; omega
end
theorem oE : mapOf Tryz.prog 227 = some (3, 222) := by kernel_rfl
theorem vM : zeroOf Tryz.prog 222 = some (.slice none 0 0) := by kernel_rfl
def KI : xU Tryz.prog 3 Int := K8 Tryz.prog 3 .i64 Tryz.underlying3
theorem um (n : Int) : uS (Ty.int .i64 n) (KI.enc n) := Jk
attribute [local irreducible] aP fT Way.gj Way.fin Way.room eX nJ En eI fE pO
attribute [local irreducible] iP fV m6 qX ig iw ia ij ir qN iy qQ eA ga qU gS qM nth fX dy aj dx bodyPost Exit.then Exit.inBlock Code.wp Code.wpIn qO iz qT qR iZ eR cW cZ bodyPostM eH
set_option maxRecDepth 100000 in
theorem z8 (y : bB) (fl : List b9) (a : List Int) (w : Way) (hw : w.ix < fl.length) : dx Tryz.prog 181 [Ty.pp (kQ y fl a), Ty.agg (fq.tys w)] (Ty.int .i64 (w.gj fl)) := by
 refine au Tryz.func181 rfl (by decide) Tryz.ntmps181 (by exact Nat.le_of_ble_eq_true rfl) fun w0 M0 => ?_
 refine aE (aA (bJ rfl (cB rfl (aD (aC (aE (aE (aA ?_))))))))
 refine aM rfl rfl rfl rfl rfl (by decide) ?_
 refine aK rfl rfl rfl rfl (aD (aC ?_))
 refine cY rfl (fun hc1 => ?_) (fun hc1 => ?_)
 ·
  refine aE (cM mixed rfl (iF rfl (bU rfl ?_)))
  refine aM rfl rfl rfl rfl rfl (by decide) ?_
  refine aK rfl rfl rfl rfl ?_
  refine aM rfl rfl rfl rfl rfl (by decide) ?_
  refine aK rfl rfl rfl rfl ?_
  refine bI rfl rfl rfl rfl rfl rfl (by omega) ?_
  refine aM rfl rfl rfl rfl rfl (by decide) ?_
  refine aK rfl rfl rfl rfl (cB rfl (aD ?_))
  refine ⟨by kernel_rfl, ?_⟩
  refine aC (az (aV (bq rfl rfl ?_)))
  all_goals skip
  all_goals exact ay rfl rfl (congrArg (Ty.int .i64) (I8 hc1))
 refine ak (aC (aE (cM mixed rfl (iF rfl (bU rfl ?_)))))
 refine aM rfl rfl rfl rfl rfl (by decide) ?_
 refine aK rfl rfl rfl rfl ?_
 refine aM rfl rfl rfl rfl rfl (by decide) ?_
 refine aK rfl rfl rfl rfl ?_
 refine bI rfl rfl rfl rfl rfl rfl (by omega) ?_
 refine aM rfl rfl rfl rfl rfl (by decide) ?_
 refine aK rfl rfl rfl rfl (cB rfl (aD ?_))
 refine ⟨by kernel_rfl, ?_⟩
 refine aC (az (bq rfl rfl ?_))
 all_goals skip
 all_goals exact ay rfl rfl (congrArg (Ty.int .i64) (MG hc1))
set_option maxRecDepth 100000 in
theorem D3 (y : bB) (fl : List b9) (a : List Int) (h : lf y fl a) (w : Way) (hw : w.ix < fl.length) : dx Tryz.prog 182 [Ty.pp (kQ y fl a), Ty.agg (fq.tys w)] (Ty.jv [Ty.int .i64 (w.fin fl), Ty.int .i64 (w.room fl a)]) := by
 refine au Tryz.func182 rfl (by decide) Tryz.ntmps182 (by exact Nat.le_of_ble_eq_true rfl) fun w0 M0 => ?_
 have hl := h.inb.1
 have hb := h.Lz hw
 refine aE (aA (bJ rfl (cB rfl (cB rfl (aD (aC (aE (cM mixed rfl (iF rfl ?_)))))))))
 refine bU rfl ?_
 refine aM rfl rfl rfl rfl rfl (by decide) ?_
 refine aK rfl rfl rfl rfl ?_
 refine aM rfl rfl rfl rfl rfl (by decide) ?_
 refine aK rfl rfl rfl rfl ?_
 refine bI rfl rfl rfl rfl rfl rfl (by omega) ?_
 refine aY rfl rfl rfl (by exact Nat.le_of_ble_eq_true rfl) ?_
 refine b8 rfl (by exact List.cons_ne_nil _ _) rfl ?_
 refine bp rfl rfl (by decide) rfl rfl rfl rfl rfl rfl ?_
 refine aD ?_
 refine ⟨by kernel_rfl, ?_⟩
 refine aC (aE (aE (aA ?_)))
 refine aM rfl rfl rfl rfl rfl (by decide) ?_
 refine aK rfl rfl rfl rfl (aD (aC ?_))
 refine cY rfl (fun hc1 => ?_) (fun hc1 => ?_)
 ·
  refine aE (cM mixed rfl ?_)
  refine aL rfl rfl rfl rfl rfl (by decide) ?_
  refine aU rfl rfl (by decide) rfl rfl rfl ?_
  refine aL rfl rfl rfl rfl rfl (by decide) ?_
  refine aU rfl rfl (by decide) rfl rfl rfl ?_
  refine iF rfl (bU rfl ?_)
  refine aM rfl rfl rfl rfl rfl (by decide) ?_
  refine aK rfl rfl rfl rfl ?_
  refine aM rfl rfl rfl rfl rfl (by decide) ?_
  refine aK rfl rfl rfl rfl ?_
  refine bI rfl rfl rfl rfl rfl rfl (by omega) ?_
  refine aK rfl rfl rfl rfl ?_
  refine gL rfl rfl (by omega) (by omega) ?_
  refine cB rfl (cB rfl (aD ?_))
  refine ⟨by kernel_rfl, ?_⟩
  refine aC (az (aV ?_))
  refine fD rfl rfl rfl ?_ ?_
  all_goals skip
  all_goals first | exact ay rfl rfl (congrArg (Ty.int .i64) (Ds (a := a) hc1).1) | exact ay rfl rfl (congrArg (Ty.int .i64) (Ds (a := a) hc1).2)
 refine ak (aC (aE (cM mixed rfl ?_)))
 refine aL rfl rfl rfl rfl rfl (by decide) ?_
 refine aU rfl rfl (by decide) rfl rfl rfl ?_
 refine iF rfl (bU rfl ?_)
 refine aM rfl rfl rfl rfl rfl (by decide) ?_
 refine aK rfl rfl rfl rfl ?_
 refine aM rfl rfl rfl rfl rfl (by decide) ?_
 refine aK rfl rfl rfl rfl ?_
 refine bI rfl rfl rfl rfl rfl rfl (by omega) ?_
 refine aK rfl rfl rfl rfl ?_
 refine aL rfl rfl rfl rfl rfl (by decide) ?_
 refine aU rfl rfl (by decide) rfl rfl rfl ?_
 refine gL rfl rfl (by omega) (by omega) ?_
 refine cB rfl (cB rfl (aD ?_))
 refine ⟨by kernel_rfl, ?_⟩
 refine aC (az ?_)
 refine fD rfl rfl rfl ?_ ?_
 all_goals skip
 all_goals first | exact ay rfl rfl (congrArg (Ty.int .i64) (Hq (a := a) hc1).1) | exact ay rfl rfl (congrArg (Ty.int .i64) (Hq (a := a) hc1).2)
set_option maxRecDepth 100000 in
theorem Im (y : bB) (fl : List b9) (a : List Int) (h : lf y fl a) (l : List Way) (hl : l.length ≤ 100) (hw : ∀ w ∈ l, w.ix < fl.length) (d : Int) (hd : 0 ≤ d ∧ d ≤ 20000) : eR Tryz.prog 183 [1000] [(1000, Cont.vec cm 3 a)] [Ty.pp (eF y fl 1000 fl.length), Ty.sl fq l, Ty.int .i64 d] [(1000, Cont.vec cm 3 (eI a l d))] (Ty.jv []) := by
 refine eG Tryz.func183 rfl (by decide) Tryz.ntmps183 (by exact Nat.le_of_ble_eq_true rfl) fun w0 M0 => ?_
 have hal := h.inb.1
 refine aE (aA (gm rfl (cx rfl rfl rfl (bM rfl (aD (aC (ah ?_)))))))
 refine cU (fun (k : {k : Nat // k ≤ l.length}) => live [(0, Ty.pp (eF y fl 1000 fl.length)), (2, Ty.int .i64 d), (8, Ty.sl fq l), (9, Ty.int .i64 l.length), (10, Ty.int .i64 (k.1 : Nat))] [(1000, Cont.vec cm 3 (eI a (l.take k.1) d))]) (fun k => l.length - k.1) (⟨0, by omega⟩) ?_ fun k => ?_
 ·(refine dD.mk' ?_ ?_ <;> (repeat' (first | exact aH | exact aI | refine aB ?_ (Ty.aW _) | refine aB ?_ (Ty.aF _) | refine aG rfl ?_ ?_)))
  all_goals exact Cont.eP (Ci _ _ _)
 have hsl := tU d (l.take k.1) a
 have hk := k.2
 have hsa := xz hd h.abs (fun w hw' => by rw [hal]; exact hw w hw') k.1 k.2
 refine aE (aA (bE rfl rfl rfl (aD (aC (aE ?_)))))
 refine av rfl (fun hc1 => ?_) (fun hc1 => ?_)
 ·
  refine ak (aC (aE (ah (aE ?_))))
  have hwk := hw _ (cV (xs := l) (k := k.1) (by omega))
  have hsk := hsa (nth l k.1).ix
  refine aA ?_
  refine bI rfl rfl rfl rfl rfl rfl (by omega) ?_
  refine aY rfl rfl rfl (by exact Nat.le_of_ble_eq_true rfl) ?_
  refine b8 rfl (by exact List.cons_ne_nil _ _) rfl ?_
  refine bp rfl rfl (by decide) rfl rfl rfl rfl rfl rfl ?_
  refine aD (aC (aE (aA ?_)))
  refine aL rfl rfl rfl rfl rfl (by decide) ?_
  refine aU rfl rfl (by decide) rfl rfl rfl ?_
  refine aD (aC ?_)
  refine cY rfl (fun hc2 => ?_) (fun hc2 => ?_)
  ·
   refine cM mixed rfl (iF rfl (bU rfl ?_))
   refine aM rfl rfl rfl rfl rfl (by decide) ?_
   refine aK rfl rfl rfl rfl ?_
   refine aL rfl rfl rfl rfl rfl (by decide) ?_
   refine aU rfl rfl (by decide) rfl rfl rfl ?_
   refine dA rfl rfl rfl rfl rfl (by omega) ?_
   refine fC rfl rfl rfl (by decide) rfl rfl (by omega) rfl ?_
   refine bM rfl ?_
   refine bz rfl rfl (by omega) (by omega) ?_
   refine dA rfl rfl rfl rfl rfl (by omega) ?_
   refine iU rfl rfl rfl (by decide) rfl rfl (by exact (rfl : _ = Ty.int _ _)) rfl (by omega) (by decide) rfl rfl ?_
   refine aD ?_
   refine ⟨by kernel_rfl, ?_⟩
   refine bW (aC (aA ?_))
   refine bz rfl rfl (by omega) (by omega) ?_
   refine bM rfl (aD ?_)
   refine bf (⟨k.1 + 1, by omega⟩) ?_ (by show l.length - (k.1 + 1) < l.length - k.1; omega)
   (refine dD.mk' ?_ ?_ <;> (repeat' (first | exact aH | exact aI | refine aB ?_ (Ty.aW _) | refine aB ?_ (Ty.aF _) | refine aG rfl ?_ ?_)))
   all_goals skip
   all_goals exact Cont.eP (Mb (by omega) hc2)
  refine cM mixed rfl (iF rfl (bU rfl ?_))
  refine aM rfl rfl rfl rfl rfl (by decide) ?_
  refine aK rfl rfl rfl rfl ?_
  refine aL rfl rfl rfl rfl rfl (by decide) ?_
  refine aU rfl rfl (by decide) rfl rfl rfl ?_
  refine dA rfl rfl rfl rfl rfl (by omega) ?_
  refine fC rfl rfl rfl (by decide) rfl rfl (by omega) rfl ?_
  refine bM rfl ?_
  refine gL rfl rfl (by omega) (by omega) ?_
  refine dA rfl rfl rfl rfl rfl (by omega) ?_
  refine iU rfl rfl rfl (by decide) rfl rfl (by exact (rfl : _ = Ty.int _ _)) rfl (by omega) (by decide) rfl rfl ?_
  refine aD ?_
  refine ⟨by kernel_rfl, ?_⟩
  refine bW (aC (aA ?_))
  refine bz rfl rfl (by omega) (by omega) ?_
  refine bM rfl (aD ?_)
  refine bf (⟨k.1 + 1, by omega⟩) ?_ (by show l.length - (k.1 + 1) < l.length - k.1; omega)
  (refine dD.mk' ?_ ?_ <;> (repeat' (first | exact aH | exact aI | refine aB ?_ (Ty.aW _) | refine aB ?_ (Ty.aF _) | refine aG rfl ?_ ?_)))
  all_goals skip
  all_goals exact Cont.eP (MW (by omega) hc2)
 refine cT (aR (aR (aq rfl (Mo ?_))))
 refine L4 [1000] rfl (by decide) ?_
 ·exact eN rfl (cA (by decide) (by rw [List.take_of_length_le (by have := k.2; omega)])) fO
set_option maxRecDepth 100000 in
theorem LW (y : bB) (fl : List b9) (a : List Int) (h : lf y fl a) : eR Tryz.prog 178 [1000] [(1000, Cont.vec cm 3 a)] [Ty.pp (eF y fl 1000 fl.length)] [(1000, Cont.vec cm 3 a)] (Ty.sl cm (gR fl a (y.cells + 1))) := by
 refine eG Tryz.func178 rfl (by decide) Tryz.ntmps178 (by exact Nat.le_of_ble_eq_true rfl) fun w0 M0 => ?_
 have hal := h.inb.1
 have hcl := nL h.right
 have hfl := h.oX
 refine aE (aA (mF rfl (aD (aC (aE (aA (iF rfl ?_)))))))
 refine dg [] (sJ y h.right) rfl (aN (j5 (l1 := bk y) (l2 := [Ty.sl dZ fl, Ty.vs 1000 fl.length]) rfl rfl) bh) (by exact dF _ _) ?_
 refine bz rfl rfl (by omega) (by omega) ?_
 refine vG (E := cm) (x0 := 0) rfl rfl rfl rfl rfl rfl rfl (by decide) rfl (by omega) (by (dsimp only; omega)) (by omega) ?_
 refine NZ rfl (aD (aC (aE (aE (aA (iF rfl (bU rfl ?_)))))))
 refine aM rfl rfl rfl rfl rfl (by decide) ?_
 refine aK rfl rfl rfl rfl (cx rfl rfl rfl (bM rfl (aD (aC (ah ?_)))))
 refine cU (fun (k : {k : Nat // k ≤ fl.length}) => live [(0, Ty.pp (eF y fl 1000 fl.length)), (3, Ty.vs 10 (y.cells + 1)), (13, Ty.sl dZ fl), (14, Ty.int .i64 fl.length), (15, Ty.int .i64 (k.1 : Nat))] [(1000, Cont.vec cm 3 a), (10, Cont.vec cm 3 (fE fl a (y.cells + 1) k.1))]) (fun k => fl.length - k.1) (⟨0, by omega⟩) ?_ fun k => ?_
 ·(refine dD.mk' ?_ ?_ <;> (repeat' (first | exact aH | exact aI | refine aB ?_ (Ty.aW _) | refine aB ?_ (Ty.aF _) | refine aG rfl (Cont.aF _) ?_ | refine aG rfl ?_ ?_)))
  all_goals exact Cont.eP (Fc _ _ _)
 have hk := k.2
 have hul := jz (fl := fl) (a := a) (n := y.cells + 1) (k := k.1)
 refine aE (aA (bE rfl rfl rfl (aD (aC (aE ?_)))))
 refine av rfl (fun hc1 => ?_) (fun hc1 => ?_)
 ·
  refine ak (aC (aE (ah (aE (aA (bM rfl ?_))))))
  refine bI rfl rfl rfl rfl rfl rfl (by omega) ?_
  refine aY rfl rfl rfl (by exact Nat.le_of_ble_eq_true rfl) ?_
  refine b8 rfl (by exact List.cons_ne_nil _ _) rfl ?_
  refine cB rfl ?_
  refine bp rfl rfl (by decide) rfl rfl rfl rfl rfl rfl ?_
  refine aD (aC (aE ?_))
  have hs := h.net.src k.1 (by omega)
  have hd := h.net.dst k.1 (by omega)
  have hamt := (h.Lz (show k.1 < fl.length by omega)).1
  have habs := fun c => yF (fl := fl) (a := a) (c := c) (k := k.1) fun i hi => (h.Lz (show i < fl.length by omega)).1
  have hn1 := jP (fl := fl) (a := a) (n := y.cells + 1) (k := k.1) (c := (nth fl k.1).src.toNat) (by omega)
  have hb1 := habs ((nth fl k.1).src.toNat : Nat)
  refine cM mixed rfl (AR rfl ?_)
  refine aL rfl rfl rfl rfl rfl (by decide) ?_
  refine aU rfl rfl (by decide) rfl rfl rfl ?_
  refine gi rfl rfl rfl rfl rfl hs.1 (by omega) ?_
  refine fC rfl rfl rfl (by decide) rfl rfl (by omega) rfl ?_
  refine iF rfl (bU rfl ?_)
  refine aM rfl rfl rfl rfl rfl (by decide) ?_
  refine aK rfl rfl rfl rfl (bM rfl ?_)
  refine dA rfl rfl rfl rfl rfl (by omega) ?_
  refine fC rfl rfl rfl (by decide) rfl rfl (by omega) rfl ?_
  refine gL rfl rfl (by omega) (by omega) ?_
  refine gi rfl rfl rfl rfl rfl hs.1 (by omega) ?_
  refine iU rfl rfl rfl (by decide) rfl rfl (by exact (rfl : _ = Ty.int _ _)) rfl (by omega) (by decide) rfl rfl ?_
  refine aD ?_
  refine ⟨by kernel_rfl, ?_⟩
  refine aC ?_
  have hsl : (oO fl a (fE fl a (y.cells + 1) k.1) k.1).length = y.cells + 1 := (FH _ _ _ _).trans hul
  have hb2 := Ff (fl := fl) (a := a) (n := y.cells + 1) (k := k.1) (c := (nth fl k.1).dst.toNat) habs hamt (by omega) (by omega)
  unfold oO at hb2 hsl
  refine cM mixed rfl (AR rfl ?_)
  refine aL rfl rfl rfl rfl rfl (by decide) ?_
  refine aU rfl rfl (by decide) rfl rfl rfl ?_
  refine gi rfl rfl rfl rfl rfl hd.1 (by omega) ?_
  refine fC rfl rfl rfl (by decide) rfl rfl (by omega) rfl ?_
  refine iF rfl (bU rfl ?_)
  refine aM rfl rfl rfl rfl rfl (by decide) ?_
  refine aK rfl rfl rfl rfl (bM rfl ?_)
  refine dA rfl rfl rfl rfl rfl (by omega) ?_
  refine fC rfl rfl rfl (by decide) rfl rfl (by omega) rfl ?_
  refine bz rfl rfl (by omega) (by omega) ?_
  refine gi rfl rfl rfl rfl rfl hd.1 (by omega) ?_
  refine iU rfl rfl rfl (by decide) rfl rfl (by exact (rfl : _ = Ty.int _ _)) rfl (by omega) (by decide) rfl rfl ?_
  refine aD ?_
  refine ⟨by kernel_rfl, ?_⟩
  refine bW (aC (aA ?_))
  refine bz rfl rfl (by omega) (by omega) ?_
  refine bM rfl (aD ?_)
  refine bf (⟨k.1 + 1, by omega⟩) ?_ (by show fl.length - (k.1 + 1) < fl.length - k.1; omega)
  (refine dD.mk' ?_ ?_ <;> (repeat' (first | exact aH | exact aI | refine aB ?_ (Ty.aW _) | refine aB ?_ (Ty.aF _) | refine aG rfl (Cont.aF _) ?_ | refine aG rfl ?_ ?_)))
  all_goals skip
  all_goals exact Cont.eP (BB hs hd)
 refine cT (aR (aR (aq rfl (aC (aE ?_)))))
 refine jY (tg := 10) [(3, Ty.sl cm (fE fl a (y.cells + 1) k.1))] (by decide) rfl ⟨Gq rfl rfl hul (by decide), trivial⟩ ?_
 refine gX (s := 3) rfl (Ty.gq (show fE fl a (y.cells + 1) k.1 = gR fl a (y.cells + 1) by rw [show k.1 = fl.length by have := k.2; omega]; exact CR)) ?_
 refine aA (gm rfl (Bs rfl (aD (aC (az ?_)))))
 refine gW [1000] rfl rfl (by decide) (by repeat (first | exact fO | refine eN rfl (cA (by decide) rfl) ?_)) ?_
 all_goals exact fo (aQ rfl rfl)
end Go.Proofs.YtelbollidfdcjaaGreat
namespace Go.Proofs.YtelbollidfdcjaaGreat
open Go Go.T
section
variable {fl : List b9} {a : List Int} {n : Nat} {s t : Int} {x : q5}
def eJ (x : q5) : Int := nth x.queue 0
def jy (x : q5) : q5 := ⟨x.by_, x.queue.drop 1⟩
theorem queue_eq (h : 0 < x.queue.length) : x.queue = eJ x :: x.queue.drop 1 := by
  unfold eJ
  cases hq : x.queue with
  | nil => rw [hq] at h; exact absurd h (by simp)
  | cons c r => rfl
structure Ji (fl : List b9) (a : List Int) (n : Nat) (s : Int) (x : q5) : Prop where
  inv : l7 fl a n s x none
  same : nN (xH fl a s) x = cQ fl a s
  short : x.queue.length ≤ x.by_.length + 1
theorem Nv (hs : 0 ≤ s ∧ s < n) : Ji fl a n s ⟨[], [s]⟩ := ⟨K6 hs, rfl, Nat.le_refl _⟩
theorem GF (h : 0 < x.queue.length) : xH fl a s x = .inl (fF fl a s (eJ x) (jy x) (bQ fl a (eJ x)).length) := by
 have e := queue_eq h
 unfold xH
 rw [e]; rfl
theorem Ji.fold (hN : Net fl n) (h : Ji fl a n s x) (hq : 0 < x.queue.length) {k : Nat} (hk : k ≤ (bQ fl a (eJ x)).length) :
 (fF fl a s (eJ x) (jy x) k).queue.length ≤ n ∧ (fF fl a s (eJ x) (jy x) k).by_.length ≤ n ∧ (fF fl a s (eJ x) (jy x) k).queue.length ≤ (fF fl a s (eJ x) (jy x) k).by_.length := by
 have h1 := (h.inv.pop (queue_eq hq)).fold hN k hk
 have h2 := h1.oX
 have h3 := xN (fl := fl) (a := a) (s := s) (c := eJ x) (x := jy x) k hk
 have h4 := h.short
 have e1 : (jy x).queue.length + 1 = x.queue.length := by show (x.queue.drop 1).length + 1 = _; rw [List.length_drop]; omega
 have e2 : (jy x).by_ = x.by_ := rfl
 rw [e2] at h3
 change (fF fl a s (eJ x) (jy x) k).by_.length ≤ n at h2
 omega
theorem Ji.next (hN : Net fl n) (h : Ji fl a n s x) (hq : 0 < x.queue.length) : Ji fl a n s (fF fl a s (eJ x) (jy x) (bQ fl a (eJ x)).length) ∧ L3 n (fF fl a s (eJ x) (jy x) (bQ fl a (eJ x)).length) < L3 n x := by
 obtain ⟨h1, h2⟩ := w8 hN h.inv (queue_eq hq)
 exact ⟨⟨h1, by rw [← hO (GF hq)]; exact h.same, by have := (h.fold hN hq (Nat.le_refl _)).2.2; omega⟩, h2⟩
theorem Ji.end (h : Ji fl a n s x) (hq : ¬ 0 < x.queue.length) : x.by_ = cQ fl a s := by
 rw [← h.same]
 refine (iT ?_).symm
 unfold xH
 rw [List.length_eq_zero_iff.1 (show x.queue.length = 0 by omega)]
theorem xp {c : Int} {z : q5} {k : Nat} (hk : k < (bQ fl a c).length) (h : uf fl s (fF fl a s c z k).by_ (nth (bQ fl a c) k) = true) :
 gu (fF fl a s c z k).by_ ((nth (bQ fl a c) k).fin fl) (nth (bQ fl a c) k) = (fF fl a s c z (k + 1)).by_ ∧ (fF fl a s c z k).queue ++ [(nth (bQ fl a c) k).fin fl] = (fF fl a s c z (k + 1)).queue := by
 rw [oG hk, tV h]; exact ⟨rfl, rfl⟩
theorem A6 {c : Int} {z : q5} {k : Nat} (hk : k < (bQ fl a c).length) (h : uf fl s (fF fl a s c z k).by_ (nth (bQ fl a c) k) = false) :
 (fF fl a s c z k).by_ = (fF fl a s c z (k + 1)).by_ ∧ (fF fl a s c z k).queue = (fF fl a s c z (k + 1)).queue := by
 rw [oG hk, wG h]; exact ⟨rfl, rfl⟩
theorem xE {c : Int} {z : q5} : fF fl a s c z 0 = z := rfl
structure Ik (fl : List b9) (n : Nat) (a0 a : List Int) : Prop where
  inb : xT fl a
  same : nN (EL fl n) a = fR fl n a0
theorem Ik.done {a0 : List Int} (h : Ik fl n a0 a) (e : dn fl a n < 0) : fR fl n a0 = (0, false, a) := by
 rw [← h.same]; exact iT (if_pos e)
theorem Ik.stuck {a0 : List Int} (h : Ik fl n a0 a) (e : ¬ dn fl a n < 0) (e2 : eW fl a n (cQ fl a (dn fl a n)) < 0) : fR fl n a0 = (dn fl a n, true, a) := by
 rw [← h.same]; exact iT ((if_neg e).trans (if_pos e2))
theorem Ik.next {a0 : List Int} (hN : Net fl n) (h : Ik fl n a0 a) (e : ¬ dn fl a n < 0) (e2 : ¬ eW fl a n (cQ fl a (dn fl a n)) < 0) :
 Ik fl n a0 (kO fl a (dn fl a n) (eW fl a n (cQ fl a (dn fl a n)))) ∧ NH fl a n (dn fl a n) (eW fl a n (cQ fl a (dn fl a n))) := by
 obtain ⟨s, s1, s2, s3⟩ := vn e
 obtain ⟨t, t1, t2, t3, t4⟩ := tX e2
 rw [s2] at t2 t3 ⊢
 rw [t2]
 have hS := sent hN h.inb s1 t1 s3 t3 t4
 refine ⟨⟨hS.inb, ?_⟩, hS⟩
 rw [← h.same]
 refine (hO ?_).symm
 unfold EL
 rw [if_neg e, s2, if_neg (by rw [t2]; omega), t2]
structure Iu (fl : List b9) (a : List Int) (q : List (Int × Way)) (s t : Int) (dep : Int → Nat) (x : Int × List Way) : Prop where
  inv : Hs fl a q s t dep x
  same : nN (Dl fl q s) x = gx fl q s t
theorem Nn {dep : Int → Nat} {q : List (Int × Way)} (ht : w9 q s t) : Iu fl a q s t dep (t, []) :=
 ⟨⟨rfl, (fun w h => by cases h), (fun w h => by cases h), List.nodup_nil, ht, by simp⟩, rfl⟩
theorem C9 {q : List (Int × Way)} {x : Int × List Way} (hx : x.1 = s) : Dl fl q s x = .inr x.2 := if_pos hx
theorem DC {q : List (Int × Way)} {x : Int × List Way} (hx : ¬ x.1 = s) : Dl fl q s x = .inl ((jw q x.1).gj fl, x.2 ++ [jw q x.1]) := if_neg hx
theorem Iu.next {dep : Int → Nat} {q : List (Int × Way)} (hd : ∀ c w, fA q c = some w → Open fl a w ∧ w.fin fl = c ∧ w9 q s (w.gj fl) ∧ dep (w.gj fl) < dep c ∧ dep c ≤ q.length) {x : Int × List Way} (h : Iu fl a q s t dep x) (hx : ¬ x.1 = s) :
 Iu fl a q s t dep ((jw q x.1).gj fl, x.2 ++ [jw q x.1]) ∧ dep ((jw q x.1).gj fl) < dep x.1 ∧ Open fl a (jw q x.1) := by
 obtain ⟨h1, h2⟩ := h.inv.next hd hx
 refine ⟨⟨h1, ?_⟩, h2, h1.ways _ (List.mem_append.2 (.inr (List.mem_singleton.2 rfl)))⟩
 rw [← h.same]
 exact (hO (DC hx)).symm
theorem Iu.end {dep : Int → Nat} {q : List (Int × Way)} {x : Int × List Way} (h : Iu fl a q s t dep x) (hx : x.1 = s) : x.2 = gx fl q s t := by
 rw [← h.same]; exact (iT (C9 hx)).symm
theorem Iu.oX {dep : Int → Nat} {q : List (Int × Way)} {x : Int × List Way} (h : Iu fl a q s t dep x) : x.2.length ≤ dep t := by
 have := h.inv.oX; omega
end
end Go.Proofs.YtelbollidfdcjaaGreat
namespace Go.Proofs.YtelbollidfdcjaaGreat
open Go Go.T
set_option maxHeartbeats 8000000
def zm : VT Way := ⟨fun w => Ty.agg (fq.tys w), fun _ => ⟨rfl, rfl⟩⟩
theorem n8 : mapOf Tryz.prog 196 = some (3, 199) := by kernel_rfl
theorem rQ : zeroOf Tryz.prog 199 = some (.agg #[.int .i64 0, .bool false]) := by kernel_rfl
theorem pU : ∀ w M, (zm.ty (default : Way)).den w M (.agg #[.int .i64 0, .bool false]) := fun _ _ => ⟨_, rfl, rfl, rfl, trivial⟩
theorem AZ : ∀ w M, ((HR fq).ty []).den w M (.slice none 0 0) := fun w M => Ty.vo w M _ rfl
section
variable {fl : List b9} {a : List Int} {s : Int} {q : List (Int × Way)} {w : Way}
theorem FE {q : WQ} {k : Nat} (h : nth a k < (nth fl k).hi) : gu q (nth fl k).src ((fA q (nth fl k).src).getD [] ++ [⟨k, true⟩]) = nJ fl a q k := (if_pos h).symm
theorem FU {k : Nat} (h : nth a k > (nth fl k).lo) : gu (nJ fl a (eX fl a k) k) (nth fl k).dst ((fA (nJ fl a (eX fl a k) k) (nth fl k).dst).getD [] ++ [⟨k, false⟩]) = eX fl a (k + 1) := (if_pos h).symm
theorem new_eq : (!(fA q (w.fin fl)).isSome && !decide (w.fin fl = s)) = uf fl s q w := rfl
end
theorem Jp {α : Type} {E : El α} {T J : Nat} {l l' : List α} (e : l = l') : (Ty.eY E T J l).Sub (Ty.eY E T J l') := Ty.sub_eq (congrArg (Ty.eY E T J) e)
attribute [local irreducible] aP fT Way.gj Way.fin Way.room eX nJ En eI fE pO bQ fF cQ uf eJ
attribute [local irreducible] iP fV m6 qX ig iw ia ij ir qN iy qQ eA ga qU gS qM nth fX dy aj dx bodyPost Exit.then Exit.inBlock Code.wp Code.wpIn qO iz qT qR iZ eR cW cZ bodyPostM eH
set_option maxRecDepth 100000 in
theorem Gu (y : bB) (fl : List b9) (a : List Int) (h : lf y fl a) : eR Tryz.prog 184 [1000] [(1000, Cont.vec cm 3 a)] [Ty.pp (eF y fl 1000 fl.length)] [(1000, Cont.vec cm 3 a)] (Ty.pm KI.enc (HR fq) (eX fl a fl.length)) := by
 refine eG Tryz.func184 rfl (by decide) Tryz.ntmps184 (by exact Nat.le_of_ble_eq_true rfl) fun w0 M0 => ?_
 have hal := h.inb.1
 have hfl := h.oX
 refine aE (aA (mF rfl (aD (aC (aE (aA (C2 KI.enc fq 199 6000 oE rfl (NW rfl (aD ?_)))))))))
 refine aC (aE (aE (aA (iF rfl (bU rfl ?_)))))
 refine aM rfl rfl rfl rfl rfl (by decide) ?_
 refine aK rfl rfl rfl rfl (cx rfl rfl rfl (bM rfl (aD (aC (ah ?_)))))
 refine cU (fun (k : {k : Nat // k ≤ fl.length}) => live [(0, Ty.pp (eF y fl 1000 fl.length)), (3, Ty.mp 7), (10, Ty.sl dZ fl), (11, Ty.int .i64 fl.length), (12, Ty.int .i64 (k.1 : Nat))] [(1000, Cont.vec cm 3 a), (7, Cont.mr KI.enc fq 199 6000 (eX fl a k.1))]) (fun k => fl.length - k.1) (⟨0, by omega⟩) ?_ fun k => ?_
 ·(refine dD.mk' ?_ ?_ <;> (repeat' (first | exact aH | exact aI | refine aB ?_ (Ty.aW _) | refine aB ?_ (Ty.aF _) | refine aG rfl (Cont.aF _) ?_ | refine aG rfl ?_ ?_)))
  all_goals exact Cont.sw (Fk fl a)
 have hk := k.2
 refine aE (aA (bE rfl rfl rfl (aD (aC (aE ?_)))))
 refine av rfl (fun hc1 => ?_) (fun hc1 => ?_)
 ·
  refine ak (aC (aE (ah (aE (aA (bM rfl ?_))))))
  refine bI rfl rfl rfl rfl rfl rfl (by omega) ?_
  refine aY rfl rfl rfl (by exact Nat.le_of_ble_eq_true rfl) ?_
  refine b8 rfl (by exact List.cons_ne_nil _ _) rfl ?_
  refine cB rfl ?_
  refine bp rfl rfl (by decide) rfl rfl rfl rfl rfl rfl ?_
  refine aD (aC ?_)
  refine kf (J := live [(0, Ty.pp (eF y fl 1000 fl.length)), (3, Ty.mp 7), (4, Ty.int .i64 (k.1 : Nat)), (5, Ty.ptr 6 0), (10, Ty.sl dZ fl), (11, Ty.int .i64 fl.length), (12, Ty.int .i64 (k.1 : Nat))] [(1000, Cont.vec cm 3 a), (7, Cont.mr KI.enc fq 199 6000 (nJ fl a (eX fl a k.1) k.1)), (6, Cont.cells 187 (dZ.tys (nth fl k.1)))]) ?_ ?_
  ·
   refine aE (cM mixed rfl (iF rfl (bU rfl ?_)))
   refine aM rfl rfl rfl rfl rfl (by decide) ?_
   refine aK rfl rfl rfl rfl (bM rfl ?_)
   refine dA rfl rfl rfl rfl rfl (by omega) ?_
   refine fC rfl rfl rfl (by decide) rfl rfl (by omega) rfl ?_
   refine aL rfl rfl rfl rfl rfl (by decide) ?_
   refine aU rfl rfl (by decide) rfl rfl rfl ?_
   refine bE rfl rfl rfl (aD ?_)
   refine ⟨by kernel_rfl, ?_⟩
   refine aC ?_
   refine av rfl (fun hc2 => ?_) (fun hc2 => ?_)
   ·
    have hq := fun c => yP (fl := fl) (a := a) (c := c) k.1
    have hq1 := hq (nth fl k.1).src
    refine cM mixed rfl (Il rfl ?_)
    refine aL rfl rfl rfl rfl rfl (by decide) ?_
    refine aU rfl rfl (by decide) rfl rfl rfl ?_
    refine Il rfl ?_
    refine aL rfl rfl rfl rfl rfl (by decide) ?_
    refine aU rfl rfl (by decide) rfl rfl rfl ?_
    refine x9 KI rfl rfl (by decide) rfl (um _) oE vM ?_
    refine bM rfl ?_
    refine dG rfl rfl (by exact List.cons_ne_nil _ _) rfl (by repeat (first | exact (aX.nil : aX _ _ [] _) | (show aX _ _ ((_, _) :: _) _; apply aX.one; (· first | exact (rfl : _ = Ty.int _ _) | exact (rfl : _ = Ty.bool _)); (· exact rfl)))) (by exact (rfl : _ = some [_, _])) ?_
    refine bt (E := fq) (xs := [⟨k.1, true⟩]) rfl rfl rfl rfl rfl (by decide) (by decide) (by repeat (first | exact (aX.nil : aX _ _ [] _) | (show aX _ _ ((_, _) :: _) _; apply aX.agg; (· exact (rfl : _ = Ty.agg _))))) (by exact rfl) rfl ?_
    refine yZ rfl rfl rfl (by decide) (by decide) rfl (by show 0 < 1; decide) rfl rfl rfl rfl rfl (by decide) (by show (((fA _ _).getD []).length + 1) * 16 ≤ _; unfold oW at hq1; omega) (by show ((fA _ _).getD []).length + 1 ≤ _; unfold oW at hq1; omega) ?_
    refine yI KI rfl rfl (by decide) rfl (um _) rfl oE rfl ?_
    refine aD ?_
    refine ⟨by kernel_rfl, ?_⟩
    refine fP ?_
    (refine dD.mk' ?_ ?_ <;> (repeat' (first | exact aH | exact aI | refine aB ?_ (Ty.aW _) | refine aB ?_ (Ty.aF _) | refine aG rfl (Cont.aF _) ?_ | refine aG rfl ?_ ?_)))
    all_goals exact Cont.sw (FE hc2)
   refine ak (fP ?_)
   (refine dD.mk' ?_ ?_ <;> (repeat' (first | exact aH | exact aI | refine aB ?_ (Ty.aW _) | refine aB ?_ (Ty.aF _) | refine aG rfl (Cont.aF _) ?_ | refine aG rfl ?_ ?_)))
   all_goals exact Cont.sw (F8 hc2)
  refine aE (cM mixed rfl (iF rfl (bU rfl ?_)))
  refine aM rfl rfl rfl rfl rfl (by decide) ?_
  refine aK rfl rfl rfl rfl (bM rfl ?_)
  refine dA rfl rfl rfl rfl rfl (by omega) ?_
  refine fC rfl rfl rfl (by decide) rfl rfl (by omega) rfl ?_
  refine aL rfl rfl rfl rfl rfl (by decide) ?_
  refine aU rfl rfl (by decide) rfl rfl rfl ?_
  refine bE rfl rfl rfl (aD ?_)
  refine ⟨by kernel_rfl, ?_⟩
  refine aC ?_
  refine av rfl (fun hc3 => ?_) (fun hc3 => ?_)
  ·
   have hq2 := FM (fl := fl) (a := a) (c := (nth fl k.1).dst) (k := k.1)
   refine cM mixed rfl (Il rfl ?_)
   refine aL rfl rfl rfl rfl rfl (by decide) ?_
   refine aU rfl rfl (by decide) rfl rfl rfl ?_
   refine Il rfl ?_
   refine aL rfl rfl rfl rfl rfl (by decide) ?_
   refine aU rfl rfl (by decide) rfl rfl rfl ?_
   refine x9 KI rfl rfl (by decide) rfl (um _) oE vM ?_
   refine bM rfl ?_
   refine dG rfl rfl (by exact List.cons_ne_nil _ _) rfl (by repeat (first | exact (aX.nil : aX _ _ [] _) | (show aX _ _ ((_, _) :: _) _; apply aX.one; (· first | exact (rfl : _ = Ty.int _ _) | exact (rfl : _ = Ty.bool _)); (· exact rfl)))) (by exact (rfl : _ = some [_, _])) ?_
   refine bt (E := fq) (xs := [⟨k.1, false⟩]) rfl rfl rfl rfl rfl (by decide) (by decide) (by repeat (first | exact (aX.nil : aX _ _ [] _) | (show aX _ _ ((_, _) :: _) _; apply aX.agg; (· exact (rfl : _ = Ty.agg _))))) (by exact rfl) rfl ?_
   refine yZ rfl rfl rfl (by decide) (by decide) rfl (by show 0 < 1; decide) rfl rfl rfl rfl rfl (by decide) (by show (((fA _ _).getD []).length + 1) * 16 ≤ _; unfold oW at hq2; omega) (by show ((fA _ _).getD []).length + 1 ≤ _; unfold oW at hq2; omega) ?_
   refine yI KI rfl rfl (by decide) rfl (um _) rfl oE rfl ?_
   refine aD ?_
   refine ⟨by kernel_rfl, ?_⟩
   refine bW (aC (aA ?_))
   refine bz rfl rfl (by omega) (by omega) ?_
   refine bM rfl (aD ?_)
   refine bf (⟨k.1 + 1, by omega⟩) ?_ (by show fl.length - (k.1 + 1) < fl.length - k.1; omega)
   (refine dD.mk' ?_ ?_ <;> (repeat' (first | exact aH | exact aI | refine aB ?_ (Ty.aW _) | refine aB ?_ (Ty.aF _) | refine aG rfl (Cont.aF _) ?_ | refine aG rfl ?_ ?_)))
   all_goals skip
   all_goals exact Cont.sw (FU hc3)
  refine ak (bW (aC (aA ?_)))
  refine bz rfl rfl (by omega) (by omega) ?_
  refine bM rfl (aD ?_)
  refine bf (⟨k.1 + 1, by omega⟩) ?_ (by show fl.length - (k.1 + 1) < fl.length - k.1; omega)
  (refine dD.mk' ?_ ?_ <;> (repeat' (first | exact aH | exact aI | refine aB ?_ (Ty.aW _) | refine aB ?_ (Ty.aF _) | refine aG rfl (Cont.aF _) ?_ | refine aG rfl ?_ ?_)))
  all_goals skip
  all_goals exact Cont.sw (Gv hc3)
 refine cT (aR (aR (aq rfl (aC (aE ?_)))))
 refine fK (tg := 7) rfl (Cont.sw (show eX fl a k.1 = eX fl a fl.length by rw [show k.1 = fl.length by have := k.2; omega])) ?_
 refine mj (tg := 6000) [] [(7, Cont.mp KI.enc (HR fq) (eX fl a fl.length))] (by decide) rfl trivial ⟨J8 rfl rfl, trivial⟩ ?_
 refine jY (tg := 7) [(3, Ty.pm KI.enc (HR fq) (eX fl a fl.length))] (by decide) rfl ⟨Lw rfl rfl (by decide), trivial⟩ ?_
 refine aA (LY rfl (MM rfl (aD (aC (az ?_)))))
 refine gW [1000] rfl rfl (by decide) (by repeat (first | exact fO | refine eN rfl (cA (by decide) rfl) ?_)) ?_
 all_goals exact fo (aQ rfl rfl)
set_option maxRecDepth 100000 in
theorem Jb (y : bB) (fl : List b9) (a : List Int) (h : lf y fl a) (s : Int) (hs : 0 ≤ s ∧ s < (y.cells + 1 : Nat)) : eR Tryz.prog 130 [1000] [(1000, Cont.vec cm 3 a)] [Ty.pp (eF y fl 1000 fl.length), Ty.int .i64 s] [(1000, Cont.vec cm 3 a), (16, Cont.mp KI.enc zm (cQ fl a s))] (Ty.mp 16) := by
 refine eG Tryz.func130 rfl (by decide) Tryz.ntmps130 (by exact Nat.le_of_ble_eq_true rfl) fun w0 M0 => ?_
 have hal := h.inb.1
 have hN := h.net
 have hcl := nL h.right
 refine aE (aA (mF rfl (aD (aC (aE (aA (Eo KI.enc zm n8 rfl (NW rfl (aD ?_)))))))))
 refine aC (aE (aA (iF rfl ?_)))
 refine cI [(1000, 1000)] [] [(1000, Cont.vec cm 3 a)] (Gu y fl a h) rfl rfl (aJ bO (eo (aJ (aJ (aJ (aJ (aJ (aJ bO (eT (by exact List.mem_cons_self))) (aQ rfl rfl)) (aQ rfl rfl)) (aQ rfl rfl)) (aQ rfl rfl)) (aQ rfl rfl)))) (cF (a := 1000) (b := 1000) (by exact List.mem_cons_self) rfl (cA (by exact List.mem_cons_self) rfl) pre_nil) (bN (a := 1000) (b := 1000) (by exact List.mem_cons_self) rfl (cA (by exact List.mem_cons_self) rfl) post_nil) (aQ rfl rfl) ?_
 refine MM rfl (aD (aC (aE (aA (bM rfl ?_)))))
 refine uK (E := cm) (xs := [s]) rfl rfl rfl rfl rfl (by decide) (by decide) (by repeat (first | exact (aX.nil : aX _ _ [] _) | (show aX _ _ ((_, _) :: _) _; apply aX.one; (· exact (rfl : _ = Ty.int _ _)); (· exact rfl)))) (by exact rfl) rfl rfl ?_
 refine Ir rfl (aD (aC (aE ?_)))
 refine Lj (s := 7) (J := 4100) (tg := 20) rfl rfl (by decide) (by decide) rfl ?_
 refine ah ?_
 refine cU (fun (x : {x : q5 // Ji fl a (y.cells + 1) s x}) => live [(0, Ty.pp (eF y fl 1000 fl.length)), (1, Ty.int .i64 s), (5, Ty.mp 16), (6, Ty.pm KI.enc (HR fq) (eX fl a fl.length)), (7, Ty.eY cm 3 4100 x.1.queue)] [(1000, Cont.vec cm 3 a), (16, Cont.mp KI.enc zm x.1.by_)]) (fun x => L3 (y.cells + 1) x.1) (⟨⟨[], [s]⟩, Nv hs⟩) ?_ fun x => ?_
 ·(refine dD.mk' ?_ ?_ <;> (repeat' (first | exact aH | exact aI | refine aB ?_ (Ty.aW _) | refine aB ?_ (Ty.aF _) | refine aG rfl (Cont.aF _) ?_)))
 refine aE (aE (aA ?_))
 refine eL (rfl : _ = Ty.eY _ _ _ _) ?_
 refine Ls rfl rfl rfl (bE rfl rfl rfl (aD (aC ?_)))
 refine av rfl (fun hc1 => ?_) (fun hc1 => ?_)
 ·
  refine ak (aC (ah (aE ?_)))
  have hlen : 0 < x.1.queue.length := by omega
  refine aA ?_
  refine eL (rfl : _ = Ty.eY _ _ _ _) ?_
  refine IZ (i := 0) rfl rfl rfl rfl rfl rfl hlen ?_
  refine yq rfl rfl rfl rfl (cB rfl (aD (aC (aE (aA ?_)))))
  refine eL (rfl : _ = Ty.eY _ _ _ _) ?_
  refine Lq (lo := 1) rfl rfl rfl rfl rfl rfl hlen hlen ?_
  refine gE (rfl : _ = Ty.eY _ _ _ _) ?_
  refine aD (aC (aE ?_))
  refine gX (s := 8) rfl (Ty.bA (show nth x.1.queue 0 = eJ x.1 by unfold eJ; rfl)) ?_
  refine aA (LY rfl (bM rfl ?_))
  refine yy KI (z0 := []) rfl rfl (um _) oE vM AZ ?_
  refine cx (E := fq) (xs := oW (eX fl a fl.length) (eJ x.1)) rfl rfl rfl ?_
  refine bM rfl (aD (aC ?_))
  refine gX (s := 30) rfl (show (Ty.sl fq (oW (eX fl a fl.length) (eJ x.1))).Sub (Ty.sl fq (bQ fl a (eJ x.1))) from Ty.gq rm) ?_
  refine gX (s := 31) rfl (Ty.bA (congrArg (fun l : List Way => ((l.length : Nat) : Int)) (rm (c := eJ x.1)))) ?_
  refine ah ?_
  refine cU (fun (j : {j : Nat // j ≤ (bQ fl a (eJ x.1)).length}) => live [(0, Ty.pp (eF y fl 1000 fl.length)), (1, Ty.int .i64 s), (5, Ty.mp 16), (6, Ty.pm KI.enc (HR fq) (eX fl a fl.length)), (7, Ty.eY cm 3 4100 (fF fl a s (eJ x.1) (jy x.1) j.1).queue), (8, Ty.int .i64 (eJ x.1)), (30, Ty.sl fq (bQ fl a (eJ x.1))), (31, Ty.int .i64 (bQ fl a (eJ x.1)).length), (32, Ty.int .i64 (j.1 : Nat))] [(1000, Cont.vec cm 3 a), (16, Cont.mp KI.enc zm (fF fl a s (eJ x.1) (jy x.1) j.1).by_)]) (fun j => (bQ fl a (eJ x.1)).length - j.1) (⟨0, by omega⟩) ?_ fun j => ?_
  ·(refine dD.mk' ?_ ?_ <;> (repeat' (first | exact aH | exact aI | refine aB ?_ (Ty.aW _) | refine aB ?_ (Ty.aF _) | refine aG rfl (Cont.aF _) ?_ | refine aG rfl ?_ ?_ | refine aB ?_ ?_)))
   all_goals first | exact Jp (congrArg q5.queue (xE (fl := fl) (a := a) (s := s) (c := eJ x.1) (z := jy x.1)).symm) | exact Cont.xL (show x.1.by_ = (fF fl a s (eJ x.1) (jy x.1) 0).by_ by rw [xE]; rfl)
  have hj := j.2
  have hwl := oy (fl := fl) (a := a) (c := eJ x.1)
  have hfl := h.oX
  have hff := x.2.fold hN hlen hj
  refine aE (aA (bE rfl rfl rfl (aD (aC (aE ?_)))))
  refine av rfl (fun hc2 => ?_) (fun hc2 => ?_)
  ·
   refine ak (aC (aE (ah (aE (aA ?_)))))
   refine bI rfl rfl rfl rfl rfl rfl (by omega) ?_
   refine aY rfl rfl rfl (by exact Nat.le_of_ble_eq_true rfl) ?_
   refine b8 rfl (by exact List.cons_ne_nil _ _) rfl ?_
   refine bp rfl rfl (by decide) rfl rfl rfl rfl rfl rfl ?_
   refine aD (aC (aE ?_))
   have hwj := (nP.1 (cV (xs := bQ fl a (eJ x.1)) (k := j.1) (by omega))).1
   refine aA (iF rfl ?_)
   refine bG rfl rfl (by decide) rfl rfl (by exact Nat.le_of_ble_eq_true rfl) ?_
   refine dg [1000] (D3 y fl a h (nth (bQ fl a (eJ x.1)) j.1) hwj.1) rfl (aN (kR (aN (af (bF rfl rfl)) (aN (af (bF rfl rfl)) (aN (af (bF rfl rfl)) (aN (af (bF rfl rfl)) (aN (af (bF rfl rfl)) (aN (jD rfl hal (by decide) rfl) bh))))))) (aN (af (bF rfl rfl)) bh)) (by exact p6 (by repeat (first | exact pg | refine oM (by exact dF _ _) ?_))) ?_
   refine rH rfl (bS rfl rfl (bS rfl rfl (cB rfl (cB rfl (aD (aC (aE (aA (Il rfl ?_)))))))))
   refine bM rfl ?_
   refine yE KI (k := (nth (bQ fl a (eJ x.1)) j.1).fin fl) (z0 := (default : Way)) rfl rfl (by decide) rfl (um _) n8 rQ pU ?_
   refine rH rfl (bS rfl rfl (bS rfl rfl ?_))
   refine b8 rfl (by exact List.cons_ne_nil _ _) rfl ?_
   refine bp rfl rfl (by decide) rfl rfl rfl rfl rfl rfl ?_
   refine dY rfl (aD (aC (aE (aA (gU rfl (dM rfl (gU rfl ?_)))))))
   apply aS (s := 50) rfl rfl rfl
   ·intro hg; apply aT; (refine bM rfl ?_); refine aD ?_; exact rfl
   ·exact rfl
   ·exact rfl
   apply aS (s := 50) rfl rfl rfl
   ·intro hg; apply aT; (refine bM rfl ?_); refine aD ?_; exact rfl
   ·exact rfl
   ·exact rfl
   apply aS (s := 50) rfl rfl rfl
   ·intro hg; apply aO (s := 51) rfl (by (rw [hg]; rfl)); apply aO (s := 52) rfl (by (rw [hg]; rfl)); apply aT; (refine bE rfl rfl rfl ?_); refine aD ?_; exact rfl
   ·exact rfl
   ·exact rfl
   refine fB rfl rfl (aD (aC ?_))
   refine cY rfl (fun hc3 => ?_) (fun hc3 => ?_)
   ·
    refine aE (aA (Il rfl (bM rfl ?_)))
    refine bG rfl rfl (by decide) rfl rfl (by exact Nat.le_of_ble_eq_true rfl) ?_
    refine B1 KI (k := (nth (bQ fl a (eJ x.1)) j.1).fin fl) (v := nth (bQ fl a (eJ x.1)) j.1) rfl rfl (by decide) rfl (um _) rfl rfl n8 ?_
    refine aD (aC (aA ?_))
    refine eL (rfl : _ = Ty.eY _ _ _ _) ?_
    refine bM rfl ?_
    refine bt (E := cm) (xs := [_]) rfl rfl rfl rfl rfl (by decide) (by decide) (by repeat (first | exact (aX.nil : aX _ _ [] _) | (show aX _ _ ((_, _) :: _) _; apply aX.one; (· exact (rfl : _ = Ty.int _ _)); (· exact rfl)))) (by exact rfl) rfl ?_
    refine E1 rfl rfl (by decide) rfl (by show 0 < 1; decide) rfl rfl rfl rfl rfl (by decide) (by show (_ + 1) * 8 ≤ _; omega) (by show _ + 1 ≤ _; omega) ?_
    refine gE (rfl : _ = Ty.eY _ _ _ _) ?_
    refine aD (bW (aC (aA ?_)))
    refine bz rfl rfl (by omega) (by omega) ?_
    refine bM rfl (aD ?_)
    refine bf (⟨j.1 + 1, by omega⟩) ?_ (by show (bQ fl a (eJ x.1)).length - (j.1 + 1) < (bQ fl a (eJ x.1)).length - j.1; omega)
    (refine dD.mk' ?_ ?_ <;> (repeat' (first | exact aH | exact aI | refine aB ?_ (Ty.aW _) | refine aB ?_ (Ty.aF _) | refine aG rfl (Cont.aF _) ?_ | refine aG rfl ?_ ?_ | refine aB ?_ ?_)))
    all_goals skip
    all_goals first | exact Jp (xp (by omega) (by rw [← new_eq]; exact hc3)).2 | exact Cont.xL (xp (by omega) (by rw [← new_eq]; exact hc3)).1
   refine ak (bW (aC (aA ?_)))
   refine bz rfl rfl (by omega) (by omega) ?_
   refine bM rfl (aD ?_)
   refine bf (⟨j.1 + 1, by omega⟩) ?_ (by show (bQ fl a (eJ x.1)).length - (j.1 + 1) < (bQ fl a (eJ x.1)).length - j.1; omega)
   (refine dD.mk' ?_ ?_ <;> (repeat' (first | exact aH | exact aI | refine aB ?_ (Ty.aW _) | refine aB ?_ (Ty.aF _) | refine aG rfl (Cont.aF _) ?_ | refine aG rfl ?_ ?_ | refine aB ?_ ?_)))
   all_goals skip
   all_goals first | exact Jp (A6 (by omega) (by rw [← new_eq]; exact hc3)).2 | exact Cont.xL (A6 (by omega) (by rw [← new_eq]; exact hc3)).1
  refine cT (aR (aR (aq rfl (bW ?_))))
  refine bf (⟨fF fl a s (eJ x.1) (jy x.1) (bQ fl a (eJ x.1)).length, (x.2.next hN hlen).1⟩) ?_ (by exact (x.2.next hN hlen).2)
  (refine dD.mk' ?_ ?_ <;> (repeat' (first | exact aH | exact aI | refine aB ?_ (Ty.aW _) | refine aB ?_ (Ty.aF _) | refine aG rfl (Cont.aF _) ?_ | refine aG rfl ?_ ?_ | refine aB ?_ ?_)))
  all_goals skip
  all_goals first | exact Jp (congrArg (fun n => (fF fl a s (eJ x.1) (jy x.1) n).queue) (show j.1 = _ by have := j.2; omega)) | exact Cont.xL (congrArg (fun n => (fF fl a s (eJ x.1) (jy x.1) n).by_) (show j.1 = _ by have := j.2; omega))
 refine cT (aR (aR (aq rfl (aC (aE ?_)))))
 refine fK (tg := 16) rfl (Cont.xL (x.2.end (by omega))) ?_
 refine aA (Il rfl (NW rfl (aD (aC (az ?_)))))
 refine gW [1000, 16] rfl rfl (by decide) (by repeat (first | exact fO | refine eN rfl (cA (by decide) rfl) ?_ | refine eN rfl (Kj (by decide) rfl) ?_)) ?_
 all_goals skip
 all_goals exact fo (K4 (by decide))
end Go.Proofs.YtelbollidfdcjaaGreat
namespace Go.Proofs.YtelbollidfdcjaaGreat
open Go Go.T
section
variable {fl : List b9} {a : List Int} {n : Nat} {q : List (Int × Way)}
theorem Ch {n k : Nat} (h : k ≤ n) : (List.range n).take k = List.range k := by
 rw [List.take_range, Nat.min_eq_left h]
theorem J3 {j : Nat} (hj : j < n) (h : ∀ i, i < j → jh fl a q i = false) (hc : jh fl a q j = true) : (j : Int) = eW fl a n q := by
 unfold eW
 refine (gk (by rw [List.length_range]; exact hj) (fun x hx => ?_) ?_).symm
 ·rw [Ch (by omega)] at hx
  exact h x (List.mem_range.1 hx)
 rw [List.getElem_range]; exact hc
theorem G2 {j : Nat} (hj : n ≤ j) (h : ∀ i, i < j → jh fl a q i = false) : -1 = eW fl a n q := by
 unfold eW
 refine (iY fun x hx => ?_).symm
 exact h x (by have := List.mem_range.1 hx; omega)
theorem Au {j : Nat} (hj : j < n) : ((fA q (j : Int)).isSome && decide (nth (gR fl a n) j < 0)) = jh fl a q j := by
 unfold jh; rw [s8 hj]
theorem GM (hl : fl.length ≤ 34) (ha : ∀ i, i < fl.length → 0 ≤ nth a i ∧ nth a i ≤ 300) (c : Int) : -10200 ≤ over fl a c ∧ over fl a c ≤ 10200 := by
 have h := yF (fl := fl) (a := a) (c := c) (k := fl.length) ha
 have e : pO fl a fl.length c = over fl a c := rfl
 rw [e] at h; omega
theorem v8 (m : Int) (fl : List b9) (a : List Int) : m = fG fl a m [] := rfl
theorem Gr {s t : Int} {l : List Way} (e : l = gx fl (cQ fl a s) s t) : eI a l (fG fl a (min (over fl a s) (-over fl a t)) l) = kO fl a s t := by subst e; rfl
end
end Go.Proofs.YtelbollidfdcjaaGreat
namespace Go.Proofs.YtelbollidfdcjaaGreat
open Go Go.T
set_option maxHeartbeats 16000000
structure DR (y : bB) (fl : List b9) (a : List Int) : Prop where
  right : y.cN
  net : Net fl (y.cells + 1)
  bd : Bd fl
  inb : hU fl = true → xT fl a
  oX : fl.length ≤ 34
section
variable {y : bB} {fl : List b9} {a : List Int} {n : Nat}
theorem AQ (h : (!fl.all fun f => decide (f.lo ≤ f.hi)) = true) : hU fl = false := qd h
theorem oB (h : (!fl.all fun f => decide (f.lo ≤ f.hi)) = false) : hU fl = true := fY h
theorem MJ (h : hU fl = false) : 0 = (cO fl n a).1 ∧ true = (cO fl n a).2.1 ∧ a = (cO fl n a).2.2 := by rw [xw h]; exact ⟨rfl, rfl, rfl⟩
theorem K9 {b : List Int} (h : hU fl = true) (hx : Ik fl n a b) (e : dn fl b n < 0) : 0 = (cO fl n a).1 ∧ false = (cO fl n a).2.1 ∧ b = (cO fl n a).2.2 := by rw [oI h, hx.done e]; exact ⟨rfl, rfl, rfl⟩
theorem Lt {b : List Int} (h : hU fl = true) (hx : Ik fl n a b) (e : ¬ dn fl b n < 0) (e2 : eW fl b n (cQ fl b (dn fl b n)) < 0) : dn fl b n = (cO fl n a).1 ∧ true = (cO fl n a).2.1 ∧ b = (cO fl n a).2.2 := by rw [oI h, hx.stuck e e2]; exact ⟨rfl, rfl, rfl⟩
theorem Nh (h : xT fl a) : Ik fl n a a := ⟨h, rfl⟩
theorem Ju {x z : Int} (h1 : 0 < x) (h2 : z < 0) : 0 < min x (-z) := by omega
theorem has_eq : fidx (fun v : Int => decide (v > 0)) (gR fl a n) = dn fl a n := rfl
theorem GI (m x : Int) : fy m [x] = min m x := rfl
theorem wg {m : Int} {l : List Way} {w : Way} : fy (fG fl a m l) [w.room fl a] = fG fl a m (l ++ [w]) := (GI _ _).trans (rB m l).symm
theorem DY {k : Int} (h : 0 ≤ k ∧ k < n) : nth (gR fl a n) k.toNat = over fl a k := by rw [s8 (by omega)]; congr 1; omega
theorem Hz {x : Int} (h : -20000 ≤ x ∧ x ≤ 20000) : IntKind.i64.wrap (0 - x) = -x := by rw [show (0 : Int) - x = -x by omega]; exact IntWalk.i64_in _ (by omega)
end
attribute [local irreducible] aP fT Way.gj Way.fin Way.room eX eI fE gR over bQ cQ dn eW jh fG gx kO cO fR fy
attribute [local irreducible] iP fV m6 qX ig iw ia ij ir qN iy qQ eA ga qU gS qM nth fX dy aj dx bodyPost Exit.then Exit.inBlock Code.wp Code.wpIn qO iz qT qR iZ eR cW cZ bodyPostM eH
set_option maxRecDepth 100000 in
theorem GY (f : b9) : dx Tryz.prog 177 [Ty.agg (dZ.tys f)] (Ty.bool (decide (f.lo ≤ f.hi))) := by
 refine au Tryz.func177 rfl (by decide) Tryz.ntmps177 (by exact Nat.le_of_ble_eq_true rfl) fun w0 M0 => ?_
 refine aE (aA (bJ rfl (dY rfl (aD (aC (aE (aA ?_)))))))
 refine aM rfl rfl rfl rfl rfl (by decide) ?_
 refine aK rfl rfl rfl rfl ?_
 refine aM rfl rfl rfl rfl rfl (by decide) ?_
 refine aK rfl rfl rfl rfl (bE rfl rfl rfl (dY rfl (aD (aC (az (bq rfl rfl ?_))))))
 all_goals exact cC rfl rfl
set_option maxRecDepth 100000 in
theorem IL (v : Int) : dx Tryz.prog 179 [Ty.int .i64 v] (Ty.bool (decide (v > 0))) := by
 refine au Tryz.func179 rfl (by decide) Tryz.ntmps179 (by exact Nat.le_of_ble_eq_true rfl) fun w0 M0 => ?_
 refine aE (aA (dY rfl (aD (aC (aE (aA (bM rfl (bE rfl rfl rfl (dY rfl ?_)))))))))
 refine aD (aC (az (bq rfl rfl ?_)))
 all_goals exact cC rfl rfl
set_option maxRecDepth 100000 in
theorem KG (y : bB) (fl : List b9) (a : List Int) (h : DR y fl a) : eR Tryz.prog 129 [1000] [(1000, Cont.vec cm 3 a)] [Ty.pp (eF y fl 1000 fl.length)] [(1000, Cont.vec cm 3 (cO fl (y.cells + 1) a).2.2)] (Ty.jv [Ty.int .i64 (cO fl (y.cells + 1) a).1, Ty.bool (cO fl (y.cells + 1) a).2.1]) := by
 refine eG Tryz.func129 rfl (by decide) Tryz.ntmps129 (by exact Nat.le_of_ble_eq_true rfl) fun w0 M0 => ?_
 have hcl := nL h.right
 have hfl := h.oX
 have hN := h.net
 refine aE (aA (cB rfl (dY rfl (aD (aC (aE (aE (aA (iF rfl ?_)))))))))
 refine bU rfl ?_
 refine aM rfl rfl rfl rfl rfl (by decide) ?_
 refine aK rfl rfl rfl rfl ?_
 refine aa (Bf fl (Ty.jc _ []) rfl (fun f => decide (f.lo ≤ f.hi)) rfl rfl fun f _ => dN (GY f) rfl rfl rfl rfl rfl rfl) rfl rfl rfl rfl rfl ?_
 refine dM rfl (aD (aC ?_))
 refine cY rfl (fun hc1 => ?_) (fun hc1 => ?_)
 ·
  refine aE (aA (cB rfl (dY rfl (aD (aC (az (aV ?_)))))))
  refine AD [1000] rfl rfl rfl (by decide) ?_ ?_ ?_
  ·exact eN rfl (cA (by decide) (MJ (AQ hc1)).2.2) fO
  all_goals skip
  all_goals first | exact fo (oU rfl rfl (congrArg (Ty.int .i64) (MJ (AQ hc1)).1)) | exact fo (oU rfl rfl (congrArg Ty.bool (MJ (AQ hc1)).2.1))
 refine ak (aC (ah ?_))
 refine cU (fun (x : {b : List Int // Ik fl (y.cells + 1) a b}) => live [(0, Ty.pp (eF y fl 1000 fl.length))] [(1000, Cont.vec cm 3 x.1)]) (fun x => Ml fl (y.cells + 1) x.1) (⟨a, Nh (h.inb (oB hc1))⟩) ?_ fun x => ?_
 ·(refine dD.mk' ?_ ?_ <;> (repeat' (first | exact aH | exact aI | refine aB ?_ (Ty.aW _) | refine aB ?_ (Ty.aF _) | refine aG rfl (Cont.aF _) ?_)))
 have hF : lf y fl x.1 := ⟨h.right, h.net, h.bd, x.2.inb, h.oX⟩
 have hal := hF.inb.1
 have hov := GM h.oX fun i hi => (hF.Lz hi).1
 have hol : (gR fl x.1 (y.cells + 1)).length = (y.cells + 1) := y5
 refine ah (aE (aA (iF rfl ?_)))
 refine cI [(1000, 1000)] [] [(1000, Cont.vec cm 3 x.1)] (LW y fl x.1 hF) rfl rfl (aJ bO (eo (aJ (aJ (aJ (aJ (aJ (aJ bO (eT (by exact List.mem_cons_self))) (aQ rfl rfl)) (aQ rfl rfl)) (aQ rfl rfl)) (aQ rfl rfl)) (aQ rfl rfl)))) (cF (a := 1000) (b := 1000) (by exact List.mem_cons_self) rfl (cA (by exact List.mem_cons_self) rfl) pre_nil) (bN (a := 1000) (b := 1000) (by decide) rfl (cA (by decide) rfl) post_nil) (aQ rfl rfl) ?_
 refine Bs rfl (aD (aC (aE (aA (gm rfl ?_)))))
 refine aa (oQ (gR fl x.1 (y.cells + 1)) (Ty.jc _ []) rfl (fun v => decide (v > 0)) rfl rfl fun v _ => dN (IL v) rfl rfl rfl rfl rfl rfl) rfl rfl rfl rfl rfl ?_
 refine cB rfl (aD (aC (aE (aE ?_))))
 refine gX (s := 5) rfl (Ty.bA (has_eq (fl := fl) (a := x.1) (n := (y.cells + 1)))) ?_
 refine aA (bM rfl (bE rfl rfl rfl (aD (aC ?_))))
 refine av rfl (fun hc2 => ?_) (fun hc2 => ?_)
 ·
  refine aE (aA (cB rfl (dY rfl (aD (aC (az (aV (bD (aV ?_)))))))))
  refine bD ?_
  refine AD [1000] rfl rfl rfl (by decide) ?_ ?_ ?_
  ·exact eN rfl (cA (by decide) (K9 (oB hc1) x.2 hc2).2.2) fO
  all_goals skip
  all_goals first | exact fo (oU rfl rfl (congrArg (Ty.int .i64) (K9 (oB hc1) x.2 hc2).1)) | exact fo (oU rfl rfl (congrArg Ty.bool (K9 (oB hc1) x.2 hc2).2.1))
 refine ak (aC (aE ?_))
 obtain ⟨s, s1, s2, s3⟩ := vn hc2
 have hs : 0 ≤ (dn fl x.1 (y.cells + 1)) ∧ (dn fl x.1 (y.cells + 1)) < ((y.cells + 1) : Nat) := by omega
 refine aA (iF rfl (bM rfl ?_))
 refine cI (res' := Ty.mp 32) [(1000, 1000), (32, 16)] [32] [(1000, Cont.vec cm 3 x.1), (32, Cont.mp KI.enc zm (cQ fl x.1 (dn fl x.1 (y.cells + 1))))] (Jb y fl x.1 hF (dn fl x.1 (y.cells + 1)) hs) rfl rfl (aJ (aJ bO (aQ rfl rfl)) (eo (aJ (aJ (aJ (aJ (aJ (aJ bO (eT (by exact List.mem_cons_self))) (aQ rfl rfl)) (aQ rfl rfl)) (aQ rfl rfl)) (aQ rfl rfl)) (aQ rfl rfl)))) (cF (a := 1000) (b := 1000) (by exact List.mem_cons_self) rfl (cA (by exact List.mem_cons_self) rfl) pre_nil) (bN (a := 1000) (b := 1000) (by decide) rfl (cA (by decide) rfl) (bN (a := 32) (b := 16) (by decide) rfl (Kj (by decide) rfl) post_nil)) (K4 (by decide)) ?_
 refine NW rfl (aD (aC (aE (aA (cB rfl (aD (aC ?_)))))))
 refine kf (J := live [(0, Ty.pp (eF y fl 1000 fl.length)), (4, Ty.sl cm (gR fl x.1 (y.cells + 1))), (5, Ty.int .i64 (dn fl x.1 (y.cells + 1))), (6, Ty.mp 32), (7, Ty.int .i64 (eW fl x.1 (y.cells + 1) (cQ fl x.1 (dn fl x.1 (y.cells + 1)))))] [(1000, Cont.vec cm 3 x.1), (32, Cont.mp KI.enc zm (cQ fl x.1 (dn fl x.1 (y.cells + 1))))]) ?_ ?_
 ·
  refine aE (aA (gm rfl (cx rfl rfl rfl (bM rfl (aD (aC (ah ?_)))))))
  refine cU (fun (j : {j : Nat // j ≤ (y.cells + 1) ∧ ∀ i, i < j → jh fl x.1 (cQ fl x.1 (dn fl x.1 (y.cells + 1))) i = false}) => live [(0, Ty.pp (eF y fl 1000 fl.length)), (4, Ty.sl cm (gR fl x.1 (y.cells + 1))), (5, Ty.int .i64 (dn fl x.1 (y.cells + 1))), (6, Ty.mp 32), (7, Ty.int .i64 (-1)), (32, Ty.sl cm (gR fl x.1 (y.cells + 1))), (33, Ty.int .i64 (gR fl x.1 (y.cells + 1)).length), (34, Ty.int .i64 (j.1 : Nat))] [(1000, Cont.vec cm 3 x.1), (32, Cont.mp KI.enc zm (cQ fl x.1 (dn fl x.1 (y.cells + 1))))]) (fun j => (y.cells + 1) - j.1) (⟨0, Nat.zero_le _, fun i hi => absurd hi (Nat.not_lt_zero i)⟩) ?_ fun j => ?_
  ·(refine dD.mk' ?_ ?_ <;> (repeat' (first | exact aH | exact aI | refine aB ?_ (Ty.aW _) | refine aB ?_ (Ty.aF _) | refine aG rfl (Cont.aF _) ?_)))
  have hj := j.2.1
  refine aE (aA (bE rfl rfl rfl (aD (aC (aE ?_)))))
  refine av rfl (fun hc3 => ?_) (fun hc3 => ?_)
  ·
   refine ak (aC (aE (ah (aE (aA (bM rfl ?_))))))
   refine bI rfl rfl rfl rfl rfl rfl (by omega) ?_
   refine aK rfl rfl rfl rfl (cB rfl (cB rfl (aD (aC (aE (aA (Il rfl (bM rfl ?_))))))))
   refine yE KI (k := ((j.1 : Nat) : Int)) (z0 := (default : Way)) rfl rfl (by decide) rfl (um _) n8 rQ pU ?_
   refine rH rfl (bS rfl rfl (bS rfl rfl ?_))
   refine b8 rfl (by exact List.cons_ne_nil _ _) rfl ?_
   refine bp rfl rfl (by decide) rfl rfl rfl rfl rfl rfl ?_
   refine dY rfl (aD (aC (aE (aA (gU rfl (gU rfl ?_))))))
   apply aS (s := 46) rfl rfl rfl
   ·intro hg; apply aT; (refine bM rfl ?_); refine aD ?_; exact rfl
   ·exact rfl
   ·exact rfl
   apply aS (s := 46) rfl rfl rfl
   ·intro hg; apply aO (s := 47) rfl (by (rw [hg]; rfl)); apply aT; (refine bE rfl rfl rfl ?_); refine aD ?_; exact rfl
   ·exact rfl
   ·exact rfl
   refine fB rfl rfl (aD (aC ?_))
   refine cY rfl (fun hc4 => ?_) (fun hc4 => ?_)
   ·
    refine aE (aA (bM rfl (cB rfl (aD (aC (cT (gJ rfl (aR (aR ?_)))))))))
    refine aq rfl (fP ?_)
    (refine dD.mk' ?_ ?_ <;> (repeat' (first | exact aH | exact aI | refine aB ?_ (Ty.aW _) | refine aB ?_ (Ty.aF _) | refine aG rfl (Cont.aF _) ?_ | refine aB ?_ ?_)))
    all_goals exact Ty.bA (J3 (by omega) j.2.2 (by rw [← Au (n := (y.cells + 1)) (by omega)]; exact hc4))
   refine ak (bW (aC (aA ?_)))
   refine bz rfl rfl (by omega) (by omega) ?_
   refine bM rfl (aD ?_)
   refine bf (⟨j.1 + 1, by omega, fun i hi => by by_cases e : i = j.1; (subst e; rw [← Au (n := (y.cells + 1)) (by omega)]; exact hc4); exact j.2.2 i (by omega)⟩) ?_ (by show (y.cells + 1) - (j.1 + 1) < (y.cells + 1) - j.1; omega)
   (refine dD.mk' ?_ ?_ <;> (repeat' (first | exact aH | exact aI | refine aB ?_ (Ty.aW _) | refine aB ?_ (Ty.aF _) | refine aG rfl (Cont.aF _) ?_)))
   all_goals skip
  refine cT (aR (aR (aq rfl (fP ?_))))
  (refine dD.mk' ?_ ?_ <;> (repeat' (first | exact aH | exact aI | refine aB ?_ (Ty.aW _) | refine aB ?_ (Ty.aF _) | refine aG rfl (Cont.aF _) ?_ | refine aB ?_ ?_)))
  all_goals exact Ty.bA (G2 (by omega) j.2.2)
 refine aE (aE (aA (bM rfl (bE rfl rfl rfl (aD (aC ?_))))))
 refine av rfl (fun hc5 => ?_) (fun hc5 => ?_)
 ·
  refine aE (aA (bM rfl (cB rfl (dY rfl (aD (aC (az (aV (bD ?_)))))))))
  refine aV (bD ?_)
  refine AD [1000] rfl rfl rfl (by decide) ?_ ?_ ?_
  ·exact eN rfl (cA (by decide) (Lt (oB hc1) x.2 hc2 hc5).2.2) fO
  all_goals skip
  all_goals first | exact fo (oU rfl rfl (congrArg (Ty.int .i64) (Lt (oB hc1) x.2 hc2 hc5).1)) | exact fo (oU rfl rfl (congrArg Ty.bool (Lt (oB hc1) x.2 hc2 hc5).2.1))
 refine ak (aC (aE ?_))
 obtain ⟨t, t1, t2, t3, t4⟩ := tX hc5
 have hnx := x.2.next hN hc2 hc5
 have hR := oH (a := x.1) hN hs
 obtain ⟨dep, d0, hd⟩ := hR.arc
 have hmet : w9 (cQ fl x.1 (dn fl x.1 (y.cells + 1))) (dn fl x.1 (y.cells + 1)) (eW fl x.1 (y.cells + 1) (cQ fl x.1 (dn fl x.1 (y.cells + 1)))) := by rw [t2]; obtain ⟨v, hv⟩ := Option.isSome_iff_exists.1 t3; exact .inr (mY hv)
 have ht : 0 ≤ (eW fl x.1 (y.cells + 1) (cQ fl x.1 (dn fl x.1 (y.cells + 1)))) ∧ (eW fl x.1 (y.cells + 1) (cQ fl x.1 (dn fl x.1 (y.cells + 1)))) < ((y.cells + 1) : Nat) := by omega
 have ho1 := hov (dn fl x.1 (y.cells + 1))
 have ho2 := hov (eW fl x.1 (y.cells + 1) (cQ fl x.1 (dn fl x.1 (y.cells + 1))))
 have hdq : dep (eW fl x.1 (y.cells + 1) (cQ fl x.1 (dn fl x.1 (y.cells + 1)))) ≤ 21 := by
  obtain ⟨v, hv⟩ := Option.isSome_iff_exists.1 t3
  have h1 := (hd _ _ hv).2.2.2.2
  have h2 := hR.oX
  rw [t2]; omega
 refine aA (mF rfl (aD (aC (aE ?_))))
 have hoa := DY (fl := fl) (a := x.1) (n := (y.cells + 1)) hs
 have hob := DY (fl := fl) (a := x.1) (n := (y.cells + 1)) ht
 refine cM mixed rfl (gm rfl (bM rfl ?_))
 refine lX rfl rfl rfl rfl rfl rfl (by omega) (by omega) ?_
 refine aK rfl rfl rfl rfl (gm rfl (bM rfl ?_))
 refine lX rfl rfl rfl rfl rfl rfl (by omega) (by omega) ?_
 refine aK rfl rfl rfl rfl (Mv rfl ?_)
 refine bt (E := cm) (xs := [_]) rfl rfl rfl rfl rfl (by decide) (by decide) (by repeat (first | exact (aX.nil : aX _ _ [] _) | (show aX _ _ ((_, _) :: _) _; apply aX.one; (· exact (rfl : _ = Ty.int _ _)); (· exact rfl)))) (by exact rfl) rfl ?_
 refine aa (rK _ _) rfl rfl rfl rfl rfl (cB rfl (aD ?_))
 refine ⟨by kernel_rfl, ?_⟩
 refine aC (aE (aE ?_))
 refine gX (s := 13) rfl (Ty.bA (by rw [hoa, hob, Hz (by omega), GI] : _ = (min (over fl x.1 (dn fl x.1 (y.cells + 1))) (-over fl x.1 (eW fl x.1 (y.cells + 1) (cQ fl x.1 (dn fl x.1 (y.cells + 1)))))))) ?_
 refine aA (bM rfl (cB rfl (aD (aC (ah ?_)))))
 refine cU (fun (p : {p : Int × List Way // Iu fl x.1 (cQ fl x.1 (dn fl x.1 (y.cells + 1))) (dn fl x.1 (y.cells + 1)) (eW fl x.1 (y.cells + 1) (cQ fl x.1 (dn fl x.1 (y.cells + 1)))) dep p}) => live [(0, Ty.pp (eF y fl 1000 fl.length)), (5, Ty.int .i64 (dn fl x.1 (y.cells + 1))), (6, Ty.mp 32), (12, Ty.row fq 199 81 p.1.2), (13, Ty.int .i64 (fG fl x.1 (min (over fl x.1 (dn fl x.1 (y.cells + 1))) (-over fl x.1 (eW fl x.1 (y.cells + 1) (cQ fl x.1 (dn fl x.1 (y.cells + 1)))))) p.1.2)), (14, Ty.int .i64 p.1.1)] [(1000, Cont.vec cm 3 x.1), (32, Cont.mp KI.enc zm (cQ fl x.1 (dn fl x.1 (y.cells + 1))))]) (fun p => dep p.1.1) (⟨((eW fl x.1 (y.cells + 1) (cQ fl x.1 (dn fl x.1 (y.cells + 1)))), []), Nn hmet⟩) ?_ fun p => ?_
 ·(refine dD.mk' ?_ ?_ <;> (repeat' (first | exact aH | exact aI | refine aB ?_ (Ty.aW _) | refine aB ?_ (Ty.aF _) | refine aB ?_ Ty.mL | refine aG rfl (Cont.aF _) ?_ | refine aB ?_ ?_)))
  all_goals exact Ty.bA (v8 _ _ _)
 have hpf := p.2.oX
 refine aE (aE (aA (bM rfl (bM rfl (bE rfl rfl rfl (aD (aC ?_)))))))
 refine cv rfl (fun hc6 => ?_) (fun hc6 => ?_)
 ·
  refine ak (aC (aE (ah (aE ?_))))
  have hpx := p.2.next hd hc6
  have hpo := hpx.2.2
  refine aA (KV rfl (Il rfl (bM rfl ?_)))
  refine xA KI (k := p.1.1) (z0 := (default : Way)) rfl rfl (by decide) rfl (um _) n8 rQ pU ?_
  refine bt (E := fq) (xs := [jw (cQ fl x.1 (dn fl x.1 (y.cells + 1))) p.1.1]) rfl rfl rfl rfl rfl (by decide) (by decide) (by repeat (first | exact (aX.nil : aX _ _ [] _) | (show aX _ _ ((_, _) :: _) _; apply aX.agg; (· exact (rfl : _ = Ty.agg _))))) (by exact rfl) rfl ?_
  refine gH rfl rfl (by decide) rfl rfl rfl rfl rfl rfl (by decide) (by (simp <;> omega)) (by (simp <;> omega)) ?_
  refine Ir rfl (aD (aC (aE (aA (iF rfl (Il rfl (bM rfl ?_)))))))
  refine xA KI (k := p.1.1) (z0 := (default : Way)) rfl rfl (by decide) rfl (um _) n8 rQ pU ?_
  refine dg [1000] (D3 y fl x.1 hF (jw (cQ fl x.1 (dn fl x.1 (y.cells + 1))) p.1.1) hpo.1) rfl (aN (kR (aN (af (bF rfl rfl)) (aN (af (bF rfl rfl)) (aN (af (bF rfl rfl)) (aN (af (bF rfl rfl)) (aN (af (bF rfl rfl)) (aN (jD rfl hal (by decide) rfl) bh))))))) (aN (af (bF rfl rfl)) bh)) (by exact p6 (by repeat (first | exact pg | refine oM (by exact dF _ _) ?_))) ?_
  refine rH rfl (bS rfl rfl (bS rfl rfl (cB rfl (cB rfl (aD (aC (aA (bM rfl (bM rfl ?_)))))))))
  refine bt (E := cm) (xs := [_]) rfl rfl rfl rfl rfl (by decide) (by decide) (by repeat (first | exact (aX.nil : aX _ _ [] _) | (show aX _ _ ((_, _) :: _) _; apply aX.one; (· exact (rfl : _ = Ty.int _ _)); (· exact rfl)))) (by exact rfl) rfl ?_
  refine aa (rK _ _) rfl rfl rfl rfl rfl (cB rfl (aD (bW (aC (aA (iF rfl (Il rfl (bM rfl ?_))))))))
  refine xA KI (k := p.1.1) (z0 := (default : Way)) rfl rfl (by decide) rfl (um _) n8 rQ pU ?_
  refine dg [1000] (z8 y fl x.1 (jw (cQ fl x.1 (dn fl x.1 (y.cells + 1))) p.1.1) hpo.1) rfl (aN (kR (aN (af (bF rfl rfl)) (aN (af (bF rfl rfl)) (aN (af (bF rfl rfl)) (aN (af (bF rfl rfl)) (aN (af (bF rfl rfl)) (aN (jD rfl hal (by decide) rfl) bh))))))) (aN (af (bF rfl rfl)) bh)) (by exact dF _ _) ?_
  refine cB rfl (aD ?_)
  refine bf (⟨((jw (cQ fl x.1 (dn fl x.1 (y.cells + 1))) p.1.1).gj fl, p.1.2 ++ [jw (cQ fl x.1 (dn fl x.1 (y.cells + 1))) p.1.1]), (p.2.next hd hc6).1⟩) ?_ (by exact (p.2.next hd hc6).2.1)
  (refine dD.mk' ?_ ?_ <;> (repeat' (first | exact aH | exact aI | refine aB ?_ (Ty.aW _) | refine aB ?_ (Ty.aF _) | refine aG rfl (Cont.aF _) ?_ | refine aB ?_ ?_)))
  all_goals skip
  all_goals exact Ty.bA wg
 refine cT (aR (aR (aq rfl (aC ?_))))
 have hmp := qI (fl := fl) (a := x.1) (m := (min (over fl x.1 (dn fl x.1 (y.cells + 1))) (-over fl x.1 (eW fl x.1 (y.cells + 1) (cQ fl x.1 (dn fl x.1 (y.cells + 1))))))) (Ju (by rw [s2]; exact s3) (by rw [t2]; exact t4)) p.1.2 p.2.inv.ways
 have hml := (sE (fl := fl) (a := x.1) (min (over fl x.1 (dn fl x.1 (y.cells + 1))) (-over fl x.1 (eW fl x.1 (y.cells + 1) (cQ fl x.1 (dn fl x.1 (y.cells + 1)))))) p.1.2).1
 refine jY (tg := 81) [(12, Ty.sl fq p.1.2)] (by decide) rfl ⟨Dk rfl, trivial⟩ ?_
 refine aA (iF rfl (gm rfl (bM rfl ?_)))
 refine cI [(1000, 1000)] [] [(1000, Cont.vec cm 3 (eI x.1 p.1.2 (fG fl x.1 (min (over fl x.1 (dn fl x.1 (y.cells + 1))) (-over fl x.1 (eW fl x.1 (y.cells + 1) (cQ fl x.1 (dn fl x.1 (y.cells + 1)))))) p.1.2)))] (Im y fl x.1 hF p.1.2 (by omega) (fun w hw => (p.2.inv.ways w hw).1) (fG fl x.1 (min (over fl x.1 (dn fl x.1 (y.cells + 1))) (-over fl x.1 (eW fl x.1 (y.cells + 1) (cQ fl x.1 (dn fl x.1 (y.cells + 1)))))) p.1.2) (by omega)) rfl rfl (aJ (aJ (aJ bO (aQ rfl rfl)) (aQ rfl rfl)) (eo (aJ (aJ (aJ (aJ (aJ (aJ bO (eT (by exact List.mem_cons_self))) (aQ rfl rfl)) (aQ rfl rfl)) (aQ rfl rfl)) (aQ rfl rfl)) (aQ rfl rfl)))) (cF (a := 1000) (b := 1000) (by exact List.mem_cons_self) rfl (cA (by exact List.mem_cons_self) rfl) pre_nil) (bN (a := 1000) (b := 1000) (by decide) rfl (cA (by decide) rfl) post_nil) (aQ rfl rfl) ?_
 refine aD (bW ?_)
 refine bf (⟨kO fl x.1 (dn fl x.1 (y.cells + 1)) (eW fl x.1 (y.cells + 1) (cQ fl x.1 (dn fl x.1 (y.cells + 1)))), hnx.1⟩) ?_ (by exact hnx.2.less)
 (refine dD.mk' ?_ ?_ <;> (repeat' (first | exact aH | exact aI | refine aB ?_ (Ty.aW _) | refine aB ?_ (Ty.aF _) | refine aG rfl ?_ ?_)))
 all_goals skip
 all_goals exact Cont.eP (Gr (p.2.end hc6))
end Go.Proofs.YtelbollidfdcjaaGreat
namespace Go.Proofs.YtelbollidfdcjaaGreat
open Go Go.T
section
variable {fl : List b9} {a : List Int} {n : Nat} {G : Nat → Int} {x : Jr}
structure rI (fl : List b9) (a : List Int) (n : Nat) (G : Nat → Int) (x : Jr) : Prop where
  inv : mD fl a n G x
  same : nN (mU fl a n G) x = iq fl a n G
theorem Nq (hn : 0 < n) : rI fl a n G ⟨0, 0, 0, L9 n⟩ := ⟨Km hn, rfl⟩
theorem rI.r (h : rI fl a n G x) : ¬ n ≤ x.r := by have := h.inv.r; omega
theorem rI.round (h : rI fl a n G x) (hc : n ≤ x.c) (ha : ¬ x.st.at_ < 0) : rI fl a n G ⟨x.r + 1, 0, 0, ⟨x.st.worth, x.st.by_, -1⟩⟩ :=
 ⟨h.inv.round hc (fun e => ha (by rw [h.inv.last e]; decide)), by rw [← hO (uI h.r hc ha)]; exact h.same⟩
theorem rI.stop (h : rI fl a n G x) (hc : n ≤ x.c) (ha : x.st.at_ < 0) : cL fl a n G = [] := by
 refine uW ?_
 rw [← h.same]; exact iT (wO h.r hc ha)
theorem rI.cell (h : rI fl a n G x) (hc : ¬ n ≤ x.c) (hj : (bQ fl a x.c).length ≤ x.j) : rI fl a n G ⟨x.r, x.c + 1, 0, x.st⟩ :=
 ⟨h.inv.cell hc hj, by rw [← hO (wv h.r hc hj)]; exact h.same⟩
theorem rI.no (h : rI fl a n G x) (hc : ¬ n ≤ x.c) (hj : ¬ (bQ fl a x.c).length ≤ x.j) (hg : k8 fl G x.st x.c (nth (bQ fl a x.c) x.j) = false) : rI fl a n G ⟨x.r, x.c, x.j + 1, x.st⟩ :=
 ⟨h.inv.no hc hj hg, by rw [← hO (BH h.r hc hj hg)]; exact h.same⟩
theorem rI.yes (hN : Net fl n) (hG : ∀ i, -1 ≤ G i ∧ G i ≤ 1) (h : rI fl a n G x) (hc : ¬ n ≤ x.c) (hj : ¬ (bQ fl a x.c).length ≤ x.j) (hg : k8 fl G x.st x.c (nth (bQ fl a x.c) x.j) = true) (hr : ¬ x.r + 1 = n) : rI fl a n G ⟨x.r, x.c, x.j + 1, mE fl G x.st x.c (nth (bQ fl a x.c) x.j)⟩ :=
 ⟨h.inv.yes hN hG hc hj hg hr, by rw [← hO (yQ h.r hc hj hg hr)]; exact h.same⟩
structure Found (fl : List b9) (a : List Int) (n : Nat) (G : Nat → Int) (st : ru) (v : Nat) : Prop where
  found : ∃ R T τ, Gh fl a n G (n - 1) st R T τ ∧ v < n ∧ R v = n
  at_ : st.at_ = v
  same : cL fl a n G = pS fl st (fW (cH fl st) n v)
  len : st.by_.length = n
theorem rI.last (hN : Net fl n) (hG : ∀ i, -1 ≤ G i ∧ G i ≤ 1) (h : rI fl a n G x) (hc : ¬ n ≤ x.c) (hj : ¬ (bQ fl a x.c).length ≤ x.j) (hg : k8 fl G x.st x.c (nth (bQ fl a x.c) x.j) = true) (hr : x.r + 1 = n) :
    ∃ v : Nat, Found fl a n G (mE fl G x.st x.c (nth (bQ fl a x.c) x.j)) v := by
  have h1 := h.inv.found hN hG hc hj hg hr
  have h2 : iq fl a n G = some (mE fl G x.st x.c (nth (bQ fl a x.c) x.j)) := by
    rw [← h.same]; exact iT (vq h.r hc hj hg hr)
  cases h1 with
  | some _ R T τ v h3 hv e hR =>
    refine ⟨v, ⟨R, T, τ, h3, hv, hR⟩, e, ?_, h3.len.2⟩
    rw [uF h2, e, Int.toNat_natCast]
theorem mD.small (h : mD fl a n G x) (hn : n ≤ 21) (hl : fl.length ≤ 34) : x.st.worth.length = n ∧ x.st.by_.length = n ∧ ∀ v, v < n → 0 ≤ nth x.st.worth v ∧ nth x.st.worth v ≤ 40000 := by
 obtain ⟨R, T, τ, h1, h2, _⟩ := h.gh
 refine ⟨h1.len.1, h1.len.2, fun v hv => ?_⟩
 have h3 := h1.le v hv
 have h4 := h.r
 have h5 := h.c
 have h6 := h.j.1
 have e1 : x.r * (n * (2 * fl.length)) ≤ 21 * (21 * 68) := Nat.mul_le_mul (by omega) (Nat.mul_le_mul hn (by omega))
 have e2 : x.c * (2 * fl.length) ≤ 21 * 68 := Nat.mul_le_mul (by omega) (by omega)
 omega
variable {st : ru} {v s p : Nat}
theorem Found.chain (hN : Net fl n) (h : Found fl a n G st v) {k : Nat} (hk : k < n) : fW (cH fl st) k v < n ∧ Open fl a (nth st.by_ (fW (cH fl st) k v)) ∧ (nth st.by_ (fW (cH fl st) k v)).gj fl = (fW (cH fl st) (k + 1) v : Nat) := by
 obtain ⟨R, T, τ, h1, h2, h3⟩ := h.found
 obtain ⟨a1, a2⟩ := zh hN h1 h2 h3 k (by omega)
 obtain ⟨b1, _⟩ := h1.way _ a1 (by omega)
 refine ⟨a1, b1, ?_⟩
 have := (hN.way b1.1).1
 show _ = ((((nth st.by_ (fW (cH fl st) k v)).gj fl).toNat : Nat) : Int)
 omega
structure Kx (fl : List b9) (a : List Int) (n : Nat) (st : ru) (s p : Nat) (x : Nat × List Way) : Prop where
  at_ : x.1 < n ∧ Open fl a (nth st.by_ x.1) ∧ (nth st.by_ x.1).gj fl = (cH fl st x.1 : Nat)
  ix : ∃ i, i ≤ p ∧ x.1 = fW (cH fl st) i s ∧ x.2.length = i
  same : nN (B3 fl st s) x = pS fl st s
theorem MR.gj {T : Nat → Nat} (hN : Net fl n) (h : MR fl a n G st T s) (t : Nat) : fW (cH fl st) t s < n ∧ Open fl a (nth st.by_ (fW (cH fl st) t s)) ∧ (nth st.by_ (fW (cH fl st) t s)).gj fl = (cH fl st (fW (cH fl st) t s) : Nat) := by
 refine ⟨h.at_ t, (h.way t).1, ?_⟩
 have := (hN.way (h.way t).1.1).1
 show _ = ((((nth st.by_ (fW (cH fl st) t s)).gj fl).toNat : Nat) : Int)
 omega
theorem Cm {x : Nat × List Way} (h : ¬ (¬ x.2 = [] ∧ x.1 = s)) : B3 fl st s x = .inl (cH fl st x.1, x.2 ++ [nth st.by_ x.1]) := if_neg h
theorem DL {x : Nat × List Way} (h : ¬ x.2 = [] ∧ x.1 = s) : B3 fl st s x = .inr x.2 := if_pos h
theorem Kx.next {T : Nat → Nat} (hN : Net fl n) (hC : MR fl a n G st T s) (hp : fW (cH fl st) p s = s) (hp1 : 1 ≤ p) {x : Nat × List Way} (h : Kx fl a n st s p x) (hc : ¬ (¬ x.2 = [] ∧ x.1 = s)) :
 Kx fl a n st s p (cH fl st x.1, x.2 ++ [nth st.by_ x.1]) ∧ x.2.length < p := by
 obtain ⟨i, h1, h2, h3⟩ := h.ix
 have hi : i < p := by
  by_cases e : i = p
  ·exfalso; apply hc
   subst e
   exact ⟨fun e => by rw [e] at h3; simp at h3; omega, h2.trans hp⟩
  omega
 have e : cH fl st x.1 = fW (cH fl st) (i + 1) s := by rw [h2]; rfl
 refine ⟨⟨?_, ⟨i + 1, hi, e, by rw [List.length_append, h3]; rfl⟩, ?_⟩, by omega⟩
 ·show cH fl st x.1 < n ∧ Open fl a (nth st.by_ (cH fl st x.1)) ∧ _ = ((cH fl st (cH fl st x.1) : Nat) : Int)
  rw [e]; exact hC.gj hN (i + 1)
 rw [← hO (Cm hc)]; exact h.same
theorem Kx.end {x : Nat × List Way} (h : Kx fl a n st s p x) (hc : ¬ x.2 = [] ∧ x.1 = s) : x.2 = pS fl st s := by
 rw [← h.same]; exact (iT (DL hc)).symm
theorem Found.N4 (hN : Net fl n) (h : Found fl a n G st v) : ∃ T p, MR fl a n G st T (fW (cH fl st) n v) ∧ 1 ≤ p ∧ p ≤ n ∧ fW (cH fl st) p (fW (cH fl st) n v) = fW (cH fl st) n v ∧ Kx fl a n st (fW (cH fl st) n v) p (fW (cH fl st) n v, []) := by
 obtain ⟨R, T, τ, h1, h2, h3⟩ := h.found
 have hC := HH hN h1 h2 h3
 obtain ⟨p, p1, p2, p3⟩ := hC.back
 exact ⟨T, p, hC, p1, p2, p3, ⟨hC.gj hN 0, ⟨0, Nat.zero_le _, rfl, rfl⟩, rfl⟩⟩
structure L0 (fl : List b9) (n : Nat) (G : Nat → Int) (a b : List Int) : Prop where
  feas : fU fl n b
  same : nN (stepG fl n G) b = gN fl n G a
theorem C8 {b : List Int} (e : cL fl b n G = []) : stepG fl n G b = .inr b := if_pos e
theorem DJ {b : List Int} (e : ¬ cL fl b n G = []) : stepG fl n G b = .inl (eI b (cL fl b n G) (fG fl b 300 (cL fl b n G))) := if_neg e
theorem L0.done {b : List Int} (h : L0 fl n G a b) (e : cL fl b n G = []) : b = gN fl n G a := by
 rw [← h.same]; exact (iT (C8 e)).symm
theorem L0.next {b : List Int} (hN : Net fl n) (hn : 0 < n) (hB : Bd fl) (hG : ∀ i, -1 ≤ G i ∧ G i ≤ 1) (h : L0 fl n G a b) (e : ¬ cL fl b n G = []) :
 L0 fl n G a (eI b (cL fl b n G) (fG fl b 300 (cL fl b n G))) ∧ (300 * fl.length - k5 fl G (eI b (cL fl b n G) (fG fl b 300 (cL fl b n G)))).toNat < (300 * fl.length - k5 fl G b).toNat ∧ EU fl b n G (cL fl b n G) := by
 rcases uZ (a := b) hN hn hG with ⟨e', _⟩ | hc
 ·exact absurd e' e
 have hb := uQ h.feas hc
 refine ⟨⟨hb.feas, ?_⟩, ?_, hc⟩
 ·rw [← h.same]; exact (hO (DJ e)).symm
 have h1 := hb.more
 have h2 := DV hB hb.feas.1 hG
 omega
end
def jC (has : Nat → Bool) (x : List Int) (k : Nat) : Int := c7 (fun i => if has i = true then nth x i else 0) k
theorem Ew {has : Nat → Bool} {x : List Int} {k : Nat} (h : has k = true) : jC has x k + nth x k = jC has x (k + 1) := by
 show _ = jC has x k + (if _ then _ else _); rw [if_pos h]
theorem IT {has : Nat → Bool} {x : List Int} {k : Nat} (h : has k = false) : jC has x k = jC has x (k + 1) := by
 show _ = jC has x k + (if _ then _ else _); rw [if_neg (by rw [h]; decide)]; omega
theorem Eu {has : Nat → Bool} {x : List Int} {k : Nat} (h : ∀ i, i < k → 0 ≤ nth x i ∧ nth x i ≤ 300) : -(300 * (k : Int)) ≤ jC has x k ∧ jC has x k ≤ 300 * k := by
 refine nS (b := 300) fun i hi => ?_
 have := h i hi
 split <;> omega
theorem HB {has : Nat → Bool} {less : Bool} {i : Nat} (h : has i = false) : dB has less i = 0 := by unfold dB; rw [h]; cases less <;> rfl
theorem x7 {has : Nat → Bool} {less : Bool} {i : Nat} (h : has i = true) : dB has less i = if less = true then -1 else 1 := by unfold dB; rw [h]; cases less <;> rfl
theorem I7 {has : Nat → Bool} {less : Bool} {w : Way} (h : has w.ix = false) : 0 = fu (dB has less) w := by
 unfold fu xQ; rw [HB h]; cases w.more <;> rfl
theorem Jy {has : Nat → Bool} {less : Bool} {w : Way} (h : has w.ix = true) (e : w.more ≠ less) : 1 = fu (dB has less) w := by
 unfold fu xQ; rw [x7 h]
 cases hm : w.more <;> cases hl : less <;> first | rfl | exact absurd (hm.trans hl.symm) e
theorem J4 {has : Nat → Bool} {less : Bool} {w : Way} (h : has w.ix = true) (e : w.more = less) : -1 = fu (dB has less) w := by
 unfold fu xQ; rw [x7 h, e]
 cases less <;> rfl
end Go.Proofs.YtelbollidfdcjaaGreat
namespace Go.Proofs.YtelbollidfdcjaaGreat
open Go Go.T
set_option maxHeartbeats 16000000
theorem NQ : Tryz.prog.underlying 4 = some .bool := Tryz.underlying4
section
variable {fl : List b9} {a : List Int} {n : Nat} {G : Nat → Int} {st : ru} {r c j : Nat} {w : Way}
def nA (fl : List b9) (G : Nat → Int) (st : ru) (c : Nat) (w : Way) : ru := if k8 fl G st c w = true then mE fl G st c w else st
theorem qD (h : nth st.worth c + fu G w > nth st.worth (w.fin fl).toNat) : nA fl G st c w = mE fl G st c w := if_pos (decide_eq_true h)
theorem rU (h : ¬ nth st.worth c + fu G w > nth st.worth (w.fin fl).toNat) : nA fl G st c w = st := if_neg (by rw [show k8 fl G st c w = false from decide_eq_false h]; decide)
theorem rI.MA (hN : Net fl n) (hG : ∀ i, -1 ≤ G i ∧ G i ≤ 1) (h : rI fl a n G ⟨r, c, j, st⟩) (hc : c < n) (hj : j < (bQ fl a c).length) (hg : nth st.worth c + fu G (nth (bQ fl a c) j) > nth st.worth ((nth (bQ fl a c) j).fin fl).toNat) (hr : ¬ (r : Int) = n - 1) : rI fl a n G ⟨r, c, j + 1, nA fl G st c (nth (bQ fl a c) j)⟩ := by
 rw [qD hg]; exact h.yes hN hG (Nat.not_le.2 hc) (Nat.not_le.2 hj) (decide_eq_true hg) (by show ¬ r + 1 = n; intro e; apply hr; rw [← e]; show (r : Int) = ((r + 1 : Nat) : Int) - 1; omega)
theorem rI.NT (h : rI fl a n G ⟨r, c, j, st⟩) (hc : c < n) (hj : j < (bQ fl a c).length) (hg : ¬ nth st.worth c + fu G (nth (bQ fl a c) j) > nth st.worth ((nth (bQ fl a c) j).fin fl).toNat) : rI fl a n G ⟨r, c, j + 1, nA fl G st c (nth (bQ fl a c) j)⟩ := by
 rw [rU hg]; exact h.no (Nat.not_le.2 hc) (Nat.not_le.2 hj) (decide_eq_false hg)
theorem M6 (h : nth st.worth c + fu G w > nth st.worth (w.fin fl).toNat) : st.worth.set (w.fin fl).toNat (nth st.worth c + fu G w) = (nA fl G st c w).worth := by rw [qD h]; rfl
theorem Mt (h : nth st.worth c + fu G w > nth st.worth (w.fin fl).toNat) : st.by_.set (w.fin fl).toNat w = (nA fl G st c w).by_ := by rw [qD h]; rfl
theorem Ms (h : nth st.worth c + fu G w > nth st.worth (w.fin fl).toNat) : w.fin fl = (nA fl G st c w).at_ := by rw [qD h]; rfl
theorem My (h : ¬ nth st.worth c + fu G w > nth st.worth (w.fin fl).toNat) : st.worth = (nA fl G st c w).worth := by rw [rU h]
theorem Mu (h : ¬ nth st.worth c + fu G w > nth st.worth (w.fin fl).toNat) : st.by_ = (nA fl G st c w).by_ := by rw [rU h]
theorem MY (h : ¬ nth st.worth c + fu G w > nth st.worth (w.fin fl).toNat) : st.at_ = (nA fl G st c w).at_ := by rw [rU h]
theorem rI.hit (hN : Net fl n) (hG : ∀ i, -1 ≤ G i ∧ G i ≤ 1) (h : rI fl a n G ⟨r, c, j, st⟩) (hc : c < n) (hj : j < (bQ fl a c).length) (hg : nth st.worth c + fu G (nth (bQ fl a c) j) > nth st.worth ((nth (bQ fl a c) j).fin fl).toNat) (hr : (r : Int) = n - 1) :
 ∃ (v : Nat) (s' : ru), st.worth.set ((nth (bQ fl a c) j).fin fl).toNat (nth st.worth c + fu G (nth (bQ fl a c) j)) = s'.worth ∧ st.by_.set ((nth (bQ fl a c) j).fin fl).toNat (nth (bQ fl a c) j) = s'.by_ ∧ (nth (bQ fl a c) j).fin fl = ((v : Nat) : Int) ∧ Found fl a n G s' v := by
 obtain ⟨v, hv⟩ := h.last hN hG (Nat.not_le.2 hc) (Nat.not_le.2 hj) (decide_eq_true hg) (by show r + 1 = n; have := h.inv.r; omega)
 exact ⟨v, _, rfl, rfl, hv.at_, hv⟩
theorem Kh {e : List Way} {s : Nat} (h : (decide ((e.length : Int) = 0) || !decide ((c : Int) = (s : Int))) = true) : ¬ (¬ e = [] ∧ c = s) := by
 rintro ⟨h1, h2⟩
 have h3 : (e.length : Int) ≠ 0 := fun h => h1 (List.length_eq_zero_iff.1 (by omega))
 rw [decide_eq_false h3, decide_eq_true (by omega)] at h; cases h
theorem MZ {e : List Way} {s : Nat} (h : (decide ((e.length : Int) = 0) || !decide ((c : Int) = (s : Int))) = false) : ¬ e = [] ∧ c = s := by
 rw [Bool.or_eq_false_iff] at h
 refine ⟨fun e0 => ?_, ?_⟩
 ·subst e0; exact absurd h.1 (by decide)
 have := of_decide_eq_true (fY h.2 : decide ((c : Int) = (s : Int)) = true); omega
theorem NA {e : List Way} {p : Nat} (h : e.length < p) : p - (e ++ [w]).length < p - e.length := by rw [List.length_append]; show p - (e.length + 1) < _; omega
theorem N9 {s p : Nat} {x : Nat × List Way} (h : Kx fl a n st s p x) (hc : ¬ x.2 = [] ∧ x.1 = s) : pS fl st s ≠ [] := by rw [← h.end hc]; exact hc.1
end
attribute [local irreducible] aP fT Way.gj Way.fin Way.room eX eI fE gR over bQ cQ dn eW jh fG gx kO cO fR fy fu dB cL gN pS iq nA mE
attribute [local irreducible] iP fV m6 qX ig iw ia ij ir qN iy qQ eA ga qU gS qM nth fX dy aj dx bodyPost Exit.then Exit.inBlock Code.wp Code.wpIn qO iz qT qR iZ eR cW cZ bodyPostM eH
set_option maxRecDepth 100000 in
theorem mA (y : bB) (fl : List b9) (a : List Int) (h : DR y fl a) : eR Tryz.prog 119 [1000] [(1000, Cont.vec cm 3 a)] [Ty.pp (eF y fl 1000 fl.length)] [(1000, Cont.vec cm 3 (cO fl (y.cells + 1) a).2.2)] (Ty.bool (!(cO fl (y.cells + 1) a).2.1)) := by
 refine eG Tryz.func119 rfl (by decide) Tryz.ntmps119 (by exact Nat.le_of_ble_eq_true rfl) fun w0 M0 => ?_
 refine aE (aA (dY rfl (aD (aC (aE (aA (iF rfl ?_)))))))
 refine cI [(1000, 1000)] [] [(1000, Cont.vec cm 3 (cO fl (y.cells + 1) a).2.2)] (KG y fl a h) rfl rfl (aJ bO (eo (aJ (aJ (aJ (aJ (aJ (aJ bO (eT (by exact List.mem_cons_self))) (aQ rfl rfl)) (aQ rfl rfl)) (aQ rfl rfl)) (aQ rfl rfl)) (aQ rfl rfl)))) (cF (a := 1000) (b := 1000) (by exact List.mem_cons_self) rfl (cA (by exact List.mem_cons_self) rfl) pre_nil) (bN (a := 1000) (b := 1000) (by decide) rfl (cA (by decide) rfl) post_nil) (aQ rfl rfl) ?_
 refine rH rfl (bS rfl rfl (bS rfl rfl (cB rfl (dY rfl (aD (aC (aE (aA (gU rfl ?_)))))))))
 refine dM rfl (dY rfl (aD (aC (az ?_))))
 refine gW [1000] rfl rfl (by decide) (by repeat (first | exact fO | refine eN rfl (cA (by decide) rfl) ?_)) ?_
 all_goals exact fo (aQ rfl rfl)
set_option maxRecDepth 100000 in
theorem DZ (th : Ty) (h1 : th.deps = []) (h2 : th.cdeps = []) (has : Nat → Bool) (less : Bool) (w : Way) (hf : nj Tryz.prog (Ty.nd th h1 h2) [Ty.int .i64 ((w.ix : Nat) : Int)] (Ty.bool (has w.ix))) : dx Tryz.prog 202 [Ty.agg [Ty.nd th h1 h2, Ty.bool less], Ty.agg (fq.tys w)] (Ty.int .i64 (fu (dB has less) w)) := by
 refine au Tryz.func202 rfl (by decide) Tryz.ntmps202 (by exact Nat.le_of_ble_eq_true rfl) fun w0 M0 => ?_
 refine aE (aA (bJ rfl (bJ rfl (cB rfl (aD (aC (aE (aE (aA ?_)))))))))
 refine aM rfl rfl rfl rfl rfl (by decide) ?_
 refine aK rfl rfl rfl rfl ?_
 refine aM rfl rfl rfl rfl rfl (by decide) ?_
 refine aK rfl rfl rfl rfl (eV rfl hf rfl (dM rfl (aD (aC ?_))))
 refine cY rfl (fun hc1 => ?_) (fun hc1 => ?_)
 ·
  refine aE (aA (cB rfl (aD (aC (az (aV (bq rfl rfl ?_)))))))
  all_goals skip
  all_goals exact ay rfl rfl (congrArg (Ty.int .i64) (I7 (qd hc1)))
 refine ak (aC (aE (aE (aA ?_))))
 refine aM rfl rfl rfl rfl rfl (by decide) ?_
 refine aK rfl rfl rfl rfl ?_
 refine aM rfl rfl rfl rfl rfl (by decide) ?_
 refine aK rfl rfl rfl rfl (D2 NQ rfl rfl (aD (aC ?_)))
 refine cv rfl (fun hc2 => ?_) (fun hc2 => ?_)
 ·
  refine aE (aA (cB rfl (aD (aC (az (aV (bq rfl rfl ?_)))))))
  all_goals skip
  all_goals exact ay rfl rfl (congrArg (Ty.int .i64) (Jy (fY hc1) hc2))
 refine ak (aC (aE (aA (cB rfl (aD (aC (az (bq rfl rfl ?_))))))))
 all_goals skip
 all_goals exact ay rfl rfl (congrArg (Ty.int .i64) (J4 (fY hc1) hc2))
set_option maxRecDepth 100000 in
theorem GX (y : bB) (fl : List b9) (a : List Int) (h : lf y fl a) (th : Ty) (h1 : th.deps = []) (h2 : th.cdeps = []) (has : Nat → Bool) (hf : ∀ i, i < fl.length → nj Tryz.prog (Ty.nd th h1 h2) [Ty.int .i64 ((i : Nat) : Int)] (Ty.bool (has i))) (less : Bool) : eR Tryz.prog 195 [1000] [(1000, Cont.vec cm 3 a)] [Ty.pp (eF y fl 1000 fl.length), Ty.agg [Ty.nd th h1 h2, Ty.bool less]] [(1000, Cont.vec cm 3 a)] (Ty.Fq fq (cL fl a (y.cells + 1) (dB has less))) := by
 refine eG Tryz.func195 rfl (by decide) Tryz.ntmps195 (by exact Nat.le_of_ble_eq_true rfl) fun w0 M0 => ?_
 have hal := h.inb.1
 have hN := h.net
 have hfl := h.oX
 have hcl := nL h.right
 have hG := sQ (has := has) less
 refine aE (aA (bJ rfl (mF rfl (aD (aC (Jv (aE (aA (iF rfl ?_)))))))))
 refine dg [] (sJ y h.right) rfl (aN (j5 (l1 := bk y) (l2 := [Ty.sl dZ fl, Ty.vs 1000 fl.length]) rfl rfl) bh) (by exact dF _ _) ?_
 refine bz rfl rfl (by omega) (by omega) ?_
 refine cB rfl (aD (aC (aE (cM mixed rfl (bM rfl ?_)))))
 refine vG (E := cm) (x0 := 0) rfl rfl rfl rfl rfl rfl rfl (by decide) rfl (by omega) (by (dsimp only; omega)) (by omega) ?_
 refine bM rfl ?_
 refine vG (E := fq) (x0 := default) rfl rfl rfl rfl rfl rfl rfl (by decide) rfl (by omega) (by (dsimp only; omega)) (by omega) ?_
 refine NZ rfl (NZ rfl (aD ?_))
 refine ⟨by kernel_rfl, ?_⟩
 refine aC (aE (aA (iF rfl ?_)))
 refine cI [(1000, 1000)] [] [(1000, Cont.vec cm 3 a)] (Gu y fl a h) rfl rfl (aJ bO (eo (aJ (aJ (aJ (aJ (aJ (aJ bO (eT (by exact List.mem_cons_self))) (aQ rfl rfl)) (aQ rfl rfl)) (aQ rfl rfl)) (aQ rfl rfl)) (aQ rfl rfl)))) (cF (a := 1000) (b := 1000) (by exact List.mem_cons_self) rfl (cA (by exact List.mem_cons_self) rfl) pre_nil) (bN (a := 1000) (b := 1000) (by decide) rfl (cA (by decide) rfl) post_nil) (aQ rfl rfl) ?_
 refine MM rfl (aD (aC (aE (aA (cB rfl (aD (aC (aE (I3 ?_)))))))))
 refine aC (aE (aE (aA (bM rfl (bM rfl (aD (aC (ah ?_))))))))
 refine cU (fun (x : {x : Nat × ru // rI fl a (y.cells + 1) (dB has less) ⟨x.1, 0, 0, x.2⟩ ∧ x.2.at_ = -1}) => live [(0, Ty.pp (eF y fl 1000 fl.length)), (3, Ty.pp [Ty.nd th h1 h2, Ty.bool less]), (5, Ty.int .i64 ((y.cells + 1) : Nat)), (6, Ty.vs 23 (y.cells + 1)), (7, Ty.vs 25 (y.cells + 1)), (8, Ty.pm KI.enc (HR fq) (eX fl a fl.length)), (27, Ty.int .i64 ((y.cells + 1) : Nat)), (28, Ty.int .i64 ((x.1.1 : Nat) : Int))] [(1000, Cont.vec cm 3 a), (23, Cont.vec cm 3 x.1.2.worth), (25, Cont.vec fq 199 x.1.2.by_)]) (fun x => (y.cells + 1) - x.1.1) (⟨(0, L9 (y.cells + 1)), Nq (by omega), rfl⟩) ?_ fun x => ?_
 ·(refine dD.mk' ?_ ?_ <;> (repeat' (first | exact aH | exact aI | refine aB ?_ (Ty.aW _) | refine aB ?_ (Ty.aF _) | refine aG rfl (Cont.aF _) ?_)))
 have hxr : x.1.1 < (y.cells + 1) := x.2.1.inv.r
 have hxs : x.1.2.worth.length = (y.cells + 1) ∧ x.1.2.by_.length = (y.cells + 1) := ⟨(x.2.1.inv.small (by omega) hfl).1, (x.2.1.inv.small (by omega) hfl).2.1⟩
 refine aE (aA (bE rfl rfl rfl (aD (aC (aE ?_)))))
 refine qA rfl (decide_eq_true (by show ((x.1.1 : Nat) : Int) < ((y.cells + 1) : Nat); have : x.1.1 < (y.cells + 1) := hxr; omega)) ?_
 refine ak (aC (aE (ah (aE (aA (bM rfl (cB rfl (aD (aC ?_)))))))))
 refine aE (aA (cB rfl (aD (aC (aE (aE (aA (bM rfl (bM rfl ?_)))))))))
 refine aD (aC (ah ?_))
 refine cU (fun (z : {z : Nat × ru // rI fl a (y.cells + 1) (dB has less) ⟨x.1.1, z.1, 0, z.2⟩}) => live [(0, Ty.pp (eF y fl 1000 fl.length)), (3, Ty.pp [Ty.nd th h1 h2, Ty.bool less]), (5, Ty.int .i64 ((y.cells + 1) : Nat)), (6, Ty.vs 23 (y.cells + 1)), (7, Ty.vs 25 (y.cells + 1)), (8, Ty.pm KI.enc (HR fq) (eX fl a fl.length)), (9, Ty.int .i64 z.1.2.at_), (10, Ty.int .i64 ((x.1.1 : Nat) : Int)), (27, Ty.int .i64 ((y.cells + 1) : Nat)), (28, Ty.int .i64 ((x.1.1 : Nat) : Int)), (31, Ty.int .i64 ((y.cells + 1) : Nat)), (32, Ty.int .i64 ((z.1.1 : Nat) : Int))] [(1000, Cont.vec cm 3 a), (23, Cont.vec cm 3 z.1.2.worth), (25, Cont.vec fq 199 z.1.2.by_)]) (fun z => (y.cells + 1) - z.1.1) (⟨(0, x.1.2), x.2.1⟩) ?_ fun z => ?_
 ·(refine dD.mk' ?_ ?_ <;> (repeat' (first | exact aH | exact aI | refine aB ?_ (Ty.aW _) | refine aB ?_ (Ty.aF _) | refine aG rfl (Cont.aF _) ?_ | refine aB ?_ ?_)))
  all_goals exact Ty.bA x.2.2.symm
 have hzc : z.1.1 ≤ (y.cells + 1) := z.2.inv.c
 have hzs : z.1.2.worth.length = (y.cells + 1) ∧ z.1.2.by_.length = (y.cells + 1) := ⟨(z.2.inv.small (by omega) hfl).1, (z.2.inv.small (by omega) hfl).2.1⟩
 refine aE (aA (bE rfl rfl rfl (aD (aC (aE ?_)))))
 refine av rfl (fun hc2 => ?_) (fun hc2 => ?_)
 ·
  refine ak (aC (aE (ah (aE (aA (bM rfl (cB rfl (aD (aC ?_)))))))))
  refine aE (aA (LY rfl (bM rfl ?_)))
  refine yy KI (z0 := []) rfl rfl (um _) oE vM AZ ?_
  refine cx (E := fq) (xs := oW (eX fl a fl.length) ((z.1.1 : Nat) : Int)) rfl rfl rfl ?_
  refine bM rfl (aD (aC ?_))
  refine gX (s := 37) rfl (show (Ty.sl fq (oW (eX fl a fl.length) ((z.1.1 : Nat) : Int))).Sub (Ty.sl fq (bQ fl a z.1.1)) from Ty.gq rm) ?_
  refine gX (s := 38) rfl (Ty.bA (congrArg (fun l : List Way => ((l.length : Nat) : Int)) (rm (c := ((z.1.1 : Nat) : Int))))) ?_
  refine ah ?_
  refine cU (fun (u : {u : Nat × ru // rI fl a (y.cells + 1) (dB has less) ⟨x.1.1, z.1.1, u.1, u.2⟩}) => live [(0, Ty.pp (eF y fl 1000 fl.length)), (3, Ty.pp [Ty.nd th h1 h2, Ty.bool less]), (5, Ty.int .i64 ((y.cells + 1) : Nat)), (6, Ty.vs 23 (y.cells + 1)), (7, Ty.vs 25 (y.cells + 1)), (8, Ty.pm KI.enc (HR fq) (eX fl a fl.length)), (9, Ty.int .i64 u.1.2.at_), (10, Ty.int .i64 ((x.1.1 : Nat) : Int)), (11, Ty.int .i64 ((z.1.1 : Nat) : Int)), (27, Ty.int .i64 ((y.cells + 1) : Nat)), (28, Ty.int .i64 ((x.1.1 : Nat) : Int)), (31, Ty.int .i64 ((y.cells + 1) : Nat)), (32, Ty.int .i64 ((z.1.1 : Nat) : Int)), (37, Ty.sl fq (bQ fl a z.1.1)), (38, Ty.int .i64 (bQ fl a z.1.1).length), (39, Ty.int .i64 ((u.1.1 : Nat) : Int))] [(1000, Cont.vec cm 3 a), (23, Cont.vec cm 3 u.1.2.worth), (25, Cont.vec fq 199 u.1.2.by_)]) (fun u => (bQ fl a z.1.1).length - u.1.1) (⟨(0, z.1.2), z.2⟩) ?_ fun u => ?_
  ·(refine dD.mk' ?_ ?_ <;> (repeat' (first | exact aH | exact aI | refine aB ?_ (Ty.aW _) | refine aB ?_ (Ty.aF _) | refine aG rfl (Cont.aF _) ?_)))
  have hus : u.1.2.worth.length = (y.cells + 1) ∧ u.1.2.by_.length = (y.cells + 1) ∧ ∀ v, v < (y.cells + 1) → 0 ≤ nth u.1.2.worth v ∧ nth u.1.2.worth v ≤ 40000 := u.2.inv.small (by omega) hfl
  have hwl := oy (fl := fl) (a := a) (c := ((z.1.1 : Nat) : Int))
  refine aE (aA (bE rfl rfl rfl (aD (aC (aE ?_)))))
  refine av rfl (fun hc3 => ?_) (fun hc3 => ?_)
  ·
   refine ak (aC (aE (ah (aE ?_))))
   have hzn : z.1.1 < (y.cells + 1) := by omega
   have hun : u.1.1 < (bQ fl a z.1.1).length := by omega
   have hwo := (nP.1 (cV (xs := bQ fl a z.1.1) (k := u.1.1) hun)).1
   have hwj := hwo
   have hwf := (hN.way hwo.1).2
   have haw := EZ hG (nth (bQ fl a z.1.1) u.1.1)
   have hu1 := hus.2.2 z.1.1 hzn
   have hu2 := hus.2.2 ((nth (bQ fl a z.1.1) u.1.1).fin fl).toNat (by omega)
   refine aA ?_
   refine bI rfl rfl rfl rfl rfl rfl (by omega) ?_
   refine aY rfl rfl rfl (by exact Nat.le_of_ble_eq_true rfl) ?_
   refine b8 rfl (by exact List.cons_ne_nil _ _) rfl ?_
   refine bp rfl rfl (by decide) rfl rfl rfl rfl rfl rfl ?_
   refine aD (aC (aE (aA (iF rfl ?_))))
   refine bG rfl rfl (by decide) rfl rfl (by exact Nat.le_of_ble_eq_true rfl) ?_
   refine dg [1000] (D3 y fl a h (nth (bQ fl a z.1.1) u.1.1) hwj.1) rfl (aN (kR (aN (af (bF rfl rfl)) (aN (af (bF rfl rfl)) (aN (af (bF rfl rfl)) (aN (af (bF rfl rfl)) (aN (af (bF rfl rfl)) (aN (jD rfl hal (by decide) rfl) bh))))))) (aN (af (bF rfl rfl)) bh)) (by exact p6 (by repeat (first | exact pg | refine oM (by exact dF _ _) ?_))) ?_
   refine rH rfl (bS rfl rfl (bS rfl rfl (cB rfl (cB rfl (aD (aC (aE (cM mixed rfl (AR rfl ?_)))))))))
   refine bM rfl ?_
   refine dA rfl rfl rfl rfl rfl (by omega) ?_
   refine fC rfl rfl rfl (by decide) rfl rfl (by omega) rfl ?_
   refine aY rfl rfl rfl (by exact Nat.le_of_ble_eq_true rfl) ?_
   refine bG rfl rfl (by decide) rfl rfl (by exact Nat.le_of_ble_eq_true rfl) ?_
   refine aa (DZ th h1 h2 has less (nth (bQ fl a z.1.1) u.1.1) (hf _ hwj.1)) rfl rfl rfl rfl rfl ?_
   refine bz rfl rfl (by omega) (by omega) ?_
   refine AR rfl (bM rfl ?_)
   refine gi rfl rfl rfl rfl rfl (by omega) (by omega) ?_
   refine fC rfl rfl rfl (by decide) rfl rfl (by omega) rfl ?_
   refine bE rfl rfl rfl (aD ?_)
   refine ⟨by kernel_rfl, ?_⟩
   refine aC ?_
   refine av rfl (fun hc4 => ?_) (fun hc4 => ?_)
   ·
    refine aE (cM mixed rfl (AR rfl (bM rfl (AR rfl (bM rfl (AR rfl (bM rfl ?_)))))))
    refine dA rfl rfl rfl rfl rfl (by omega) ?_
    refine fC rfl rfl rfl (by decide) rfl rfl (by omega) rfl ?_
    refine aY rfl rfl rfl (by exact Nat.le_of_ble_eq_true rfl) ?_
    refine bG rfl rfl (by decide) rfl rfl (by exact Nat.le_of_ble_eq_true rfl) ?_
    refine aa (DZ th h1 h2 has less (nth (bQ fl a z.1.1) u.1.1) (hf _ hwj.1)) rfl rfl rfl rfl rfl ?_
    refine bz rfl rfl (by omega) (by omega) ?_
    refine bG rfl rfl (by decide) rfl rfl (by exact Nat.le_of_ble_eq_true rfl) ?_
    refine bM rfl ?_
    refine gi rfl rfl rfl rfl rfl (by omega) (by omega) ?_
    refine iU rfl rfl rfl (by decide) rfl rfl (by exact (rfl : _ = Ty.int _ _)) rfl (by omega) (by decide) rfl rfl ?_
    refine gi rfl rfl rfl rfl rfl (by omega) (by omega) ?_
    refine AM (E := fq) (z := (nth (bQ fl a z.1.1) u.1.1)) ((nth (bQ fl a z.1.1) u.1.1).fin fl).toNat rfl rfl rfl (by decide) rfl rfl rfl (by omega) ?_
    refine cB rfl (aD ?_)
    refine ⟨by kernel_rfl, ?_⟩
    refine aC (aE (aA (bM rfl (bM rfl ?_))))
    refine gL rfl rfl (by omega) (by omega) ?_
    refine bE rfl rfl rfl (aD (aC ?_))
    refine av rfl (fun hc5 => ?_) (fun hc5 => ?_)
    ·
     refine cT (gJ rfl (aR (aR (gJ rfl (gJ rfl (aR (aR (gJ rfl (aR ?_)))))))))
     refine gJ rfl (aR (aR (aq rfl (aC (aE (aE ?_))))))
     obtain ⟨v, st, e1, e2, e3, hFd⟩ := u.2.hit hN hG hzn hun hc4 hc5
     obtain ⟨T, p, hC, p1, p2, p3, hX⟩ := hFd.N4 hN
     refine fK (tg := 25) rfl (Cont.eP e2) ?_
     refine gX (s := 9) rfl (Ty.bA e3) ?_
     refine aA (bM rfl (bM rfl (aD (aC (ah ?_)))))
     refine cU (fun (i : {i : Nat // i ≤ (y.cells + 1)}) => live [(0, Ty.pp (eF y fl 1000 fl.length)), (5, Ty.int .i64 ((y.cells + 1) : Nat)), (7, Ty.vs 25 (y.cells + 1)), (9, Ty.int .i64 ((fW (cH fl st) i.1 v : Nat) : Int)), (87, Ty.int .i64 ((y.cells + 1) : Nat)), (88, Ty.int .i64 ((i.1 : Nat) : Int))] [(1000, Cont.vec cm 3 a), (25, Cont.vec fq 199 st.by_)]) (fun i => (y.cells + 1) - i.1) (⟨0, by omega⟩) ?_ fun i => ?_
     ·(refine dD.mk' ?_ ?_ <;> (repeat' (first | exact aH | exact aI | refine aB ?_ (Ty.aW _) | refine aB ?_ (Ty.aF _) | refine aG rfl (Cont.aF _) ?_)))
     refine aE (aA (bE rfl rfl rfl (aD (aC (aE ?_)))))
     refine av rfl (fun hc6 => ?_) (fun hc6 => ?_)
     ·
      refine ak (aC (aE (ah ?_)))
      have hch := hFd.chain hN (k := i.1) (by omega)
      have hbl := hFd.len
      refine aA (iF rfl (AR rfl (bM rfl ?_)))
      refine dA rfl rfl rfl rfl rfl (by omega) ?_
      refine mM (fW (cH fl st) i.1 v) rfl rfl rfl (by decide) rfl rfl rfl (by omega) ?_
      refine dg [1000] (z8 y fl a (nth st.by_ (fW (cH fl st) i.1 v)) hch.2.1.1) rfl (aN (kR (aN (af (bF rfl rfl)) (aN (af (bF rfl rfl)) (aN (af (bF rfl rfl)) (aN (af (bF rfl rfl)) (aN (af (bF rfl rfl)) (aN (jD rfl hal (by decide) rfl) bh))))))) (aN (af (bF rfl rfl)) bh)) (by exact dF _ _) ?_
      refine cB rfl (aD (bW (aC (aA ?_))))
      refine bz rfl rfl (by omega) (by omega) ?_
      refine bM rfl (aD ?_)
      refine bf (⟨i.1 + 1, by omega⟩) ?_ (by show (y.cells + 1) - (i.1 + 1) < (y.cells + 1) - i.1; omega)
      (refine dD.mk' ?_ ?_ <;> (repeat' (first | exact aH | exact aI | refine aB ?_ (Ty.aW _) | refine aB ?_ (Ty.aF _) | refine aG rfl (Cont.aF _) ?_ | refine aB ?_ ?_)))
      all_goals skip
      all_goals exact Ty.bA hch.2.2
     refine cT (aR (aR (aq rfl (aC (aE ?_)))))
     have hbl := hFd.len
     have hin : i.1 = (y.cells + 1) := by have := i.2; omega
     refine gX (s := 9) rfl (Ty.bA (by rw [hin] : _ = ((fW (cH fl st) (y.cells + 1) v : Nat) : Int))) ?_
     refine aA (mF rfl (aD (aC (aE (aE (aA (bM rfl (cB rfl (aD ?_)))))))))
     refine aC (ah ?_)
     refine cU (fun (c : {c : Nat × List Way // Kx fl a (y.cells + 1) st (fW (cH fl st) (y.cells + 1) v) p c}) => live [(0, Ty.pp (eF y fl 1000 fl.length)), (7, Ty.vs 25 (y.cells + 1)), (9, Ty.int .i64 ((fW (cH fl st) (y.cells + 1) v : Nat) : Int)), (16, Ty.row fq 199 118 c.1.2), (17, Ty.int .i64 ((c.1.1 : Nat) : Int))] [(1000, Cont.vec cm 3 a), (25, Cont.vec fq 199 st.by_)]) (fun c => p - c.1.2.length) (⟨(fW (cH fl st) (y.cells + 1) v, []), hX⟩) ?_ fun c => ?_
     ·(refine dD.mk' ?_ ?_ <;> (repeat' (first | exact aH | exact aI | refine aB ?_ (Ty.aW _) | refine aB ?_ (Ty.aF _) | refine aB ?_ Ty.mL | refine aG rfl (Cont.aF _) ?_)))
      all_goals trace_state
     have hcx := c.2.at_
     have hci : c.1.2.length ≤ p := by obtain ⟨i, i1, _, i3⟩ := c.2.ix; omega
     refine aE (aE (aA (KV rfl (nG rfl rfl rfl (bE rfl rfl rfl (gU rfl ?_))))))
     apply aS (s := 101) rfl rfl rfl
     ·intro hg; apply aT; (refine bM rfl ?_); refine aD ?_; exact rfl
     ·exact rfl
     ·exact rfl
     apply aS (s := 101) rfl rfl rfl
     ·intro hg; apply aT; (refine bM rfl ?_); refine aD ?_; exact rfl
     ·exact rfl
     ·exact rfl
     apply aS (s := 101) rfl rfl rfl
     ·intro hg; apply aO (s := 102) rfl (by (rw [hg]; rfl)); apply aO (s := 103) rfl (by (rw [hg]; rfl)); apply aT; (refine bE rfl rfl rfl ?_); refine aD ?_; exact rfl
     ·exact rfl
     ·exact rfl
     refine kj rfl rfl (aD (aC ?_))
     refine cY rfl (fun hc7 => ?_) (fun hc7 => ?_)
     ·
      refine ak (aC (aE (ah (aA (KV rfl (AR rfl (bM rfl ?_)))))))
      refine dA rfl rfl rfl rfl rfl (by omega) ?_
      refine mM c.1.1 rfl rfl rfl (by decide) rfl rfl rfl (by omega) ?_
      refine bt (E := fq) (xs := [_]) rfl rfl rfl rfl rfl (by decide) (by decide) (by repeat (first | exact (aX.nil : aX _ _ [] _) | (show aX _ _ ((_, _) :: _) _; apply aX.agg; (· exact (rfl : _ = Ty.agg _))))) (by exact rfl) rfl ?_
      refine gH rfl rfl (by decide) rfl rfl rfl rfl rfl rfl (by decide) (by (simp <;> omega)) (by (simp <;> omega)) ?_
      refine Ir rfl (aD (bW (aC (aA (iF rfl (AR rfl (bM rfl ?_)))))))
      refine dA rfl rfl rfl rfl rfl (by omega) ?_
      refine mM c.1.1 rfl rfl rfl (by decide) rfl rfl rfl (by omega) ?_
      refine dg [1000] (z8 y fl a (nth st.by_ c.1.1) hcx.2.1.1) rfl (aN (kR (aN (af (bF rfl rfl)) (aN (af (bF rfl rfl)) (aN (af (bF rfl rfl)) (aN (af (bF rfl rfl)) (aN (af (bF rfl rfl)) (aN (jD rfl hal (by decide) rfl) bh))))))) (aN (af (bF rfl rfl)) bh)) (by exact dF _ _) ?_
      refine cB rfl (aD ?_)
      refine bf (⟨(cH fl st c.1.1, c.1.2 ++ [nth st.by_ c.1.1]), (c.2.next hN hC p3 p1 (Kh hc7)).1⟩) ?_ (by exact NA (c.2.next hN hC p3 p1 (Kh hc7)).2)
      (refine dD.mk' ?_ ?_ <;> (repeat' (first | exact aH | exact aI | refine aB ?_ (Ty.aW _) | refine aB ?_ (Ty.aF _) | refine aG rfl (Cont.aF _) ?_ | refine aB ?_ ?_)))
      all_goals skip
      all_goals exact Ty.bA hcx.2.2
     refine cT (aR (aR (aq rfl (aC (aE (aA (KV rfl (Ir rfl (aD ?_)))))))))
     refine aC (az (uD ?_))
     refine gW [1000] rfl rfl (by decide) (by repeat (first | exact fO | refine eN rfl (cA (by decide) rfl) ?_)) ?_
     all_goals skip
     all_goals exact C4 (by decide) rfl (by rw [hFd.same]; exact c.2.end (MZ hc7)) (by rw [hFd.same]; exact N9 c.2 (MZ hc7))
    refine ak (bW (aC (aA ?_)))
    refine bz rfl rfl (by omega) (by omega) ?_
    refine bM rfl (aD ?_)
    refine bf (⟨(u.1.1 + 1, nA fl (dB has less) u.1.2 z.1.1 (nth (bQ fl a z.1.1) u.1.1)), by exact u.2.MA hN hG hzn hun hc4 hc5⟩) ?_ (by show (bQ fl a z.1.1).length - (u.1.1 + 1) < (bQ fl a z.1.1).length - u.1.1; omega)
    (refine dD.mk' ?_ ?_ <;> (repeat' (first | exact aH | exact aI | refine aB ?_ (Ty.aW _) | refine aB ?_ (Ty.aF _) | refine aG rfl (Cont.aF _) ?_ | refine aG rfl ?_ ?_ | refine aB ?_ ?_)))
    all_goals skip
    all_goals first | exact Cont.eP (M6 hc4) | exact Cont.eP (Mt hc4) | exact Ty.bA (Ms hc4)
   refine ak (bW (aC (aA ?_)))
   refine bz rfl rfl (by omega) (by omega) ?_
   refine bM rfl (aD ?_)
   refine bf (⟨(u.1.1 + 1, nA fl (dB has less) u.1.2 z.1.1 (nth (bQ fl a z.1.1) u.1.1)), by exact u.2.NT hzn hun hc4⟩) ?_ (by show (bQ fl a z.1.1).length - (u.1.1 + 1) < (bQ fl a z.1.1).length - u.1.1; omega)
   (refine dD.mk' ?_ ?_ <;> (repeat' (first | exact aH | exact aI | refine aB ?_ (Ty.aW _) | refine aB ?_ (Ty.aF _) | refine aG rfl (Cont.aF _) ?_ | refine aG rfl ?_ ?_ | refine aB ?_ ?_)))
   all_goals skip
   all_goals first | exact Cont.eP (My hc4) | exact Cont.eP (Mu hc4) | exact Ty.bA (MY hc4)
  refine cT (aR (aR (aq rfl (bW (aC (aA ?_))))))
  refine bz rfl rfl (by omega) (by omega) ?_
  refine bM rfl (aD ?_)
  refine bf (⟨(z.1.1 + 1, u.1.2), u.2.cell (by show ¬ (y.cells + 1) ≤ z.1.1; omega) (by show (bQ fl a z.1.1).length ≤ u.1.1; omega)⟩) ?_ (by show (y.cells + 1) - (z.1.1 + 1) < (y.cells + 1) - z.1.1; omega)
  (refine dD.mk' ?_ ?_ <;> (repeat' (first | exact aH | exact aI | refine aB ?_ (Ty.aW _) | refine aB ?_ (Ty.aF _) | refine aG rfl (Cont.aF _) ?_)))
  all_goals skip
 refine cT (aR (aR (aq rfl (aC (aE (aA (bM rfl (bE rfl rfl rfl (aD ?_)))))))))
 refine aC ?_
 refine av rfl (fun hc8 => ?_) (fun hc8 => ?_)
 ·
  refine aE (aA (mF rfl (aD (aC (az (bD (aV (aV (bD ?_)))))))))
  refine aV (uD ?_)
  refine gW [1000] rfl rfl (by decide) (by repeat (first | exact fO | refine eN rfl (cA (by decide) rfl) ?_)) ?_
  all_goals skip
  all_goals exact C6 (z.2.stop (by show (y.cells + 1) ≤ z.1.1; omega) (by assumption))
 refine ak (bW (aC (aA ?_)))
 refine bz rfl rfl (by omega) (by omega) ?_
 refine bM rfl (aD ?_)
 refine bf (⟨(x.1.1 + 1, ⟨z.1.2.worth, z.1.2.by_, -1⟩), z.2.round (by show (y.cells + 1) ≤ z.1.1; omega) (by assumption), rfl⟩) ?_ (by show (y.cells + 1) - (x.1.1 + 1) < (y.cells + 1) - x.1.1; omega)
 (refine dD.mk' ?_ ?_ <;> (repeat' (first | exact aH | exact aI | refine aB ?_ (Ty.aW _) | refine aB ?_ (Ty.aF _) | refine aG rfl (Cont.aF _) ?_)))
 all_goals skip
end Go.Proofs.YtelbollidfdcjaaGreat
namespace Go.Proofs.YtelbollidfdcjaaGreat
open Go Go.T
set_option maxHeartbeats 16000000
theorem Kn : Tryz.prog.underlying 28 = some (.slice 3) := by kernel_rfl
theorem LH : Tryz.prog.underlying 222 = some (.slice 199) := by kernel_rfl
section
variable {y : bB} {fl : List b9} {a : List Int} {n : Nat} {has : Nat → Bool} {xs : List Int}
theorem Ns {G : Nat → Int} (h : fU fl n a) : L0 fl n G a a := ⟨h, rfl⟩
theorem Hp {c : Nat → Bool} {b : Nat} (hl : a.length = (aP y c).length) (hb : b < y.bins.length) : y.kept b 0 < a.length := by rw [hl]; exact D6 hb (Nat.zero_le _)
theorem I5 {x : List Int} {i k : Nat} (h : i = k) : jC has x i = jC has x k := by rw [h]
theorem JI (fl : List b9) (has : Nat → Bool) (x : List Int) : jC has x fl.length = jQ fl has x := rfl
theorem JO (hN : Net fl n) (hn : 0 < n) (hB : Bd fl) (h : fU fl n a) : (⟨jQ fl has (gN fl n (dB has true) a), jQ fl has (gN fl n (dB has false) (By fl n has a))⟩ : Span) = gb fl n has := (sS hN hn hB h).2.2.eq.symm
def gQ (y : bB) (a : List Int) (k : Nat) : List Int := (List.range k).map fun b => nth a (y.kept b 0)
theorem uC (k : Nat) : gQ y a k ++ [nth a (y.kept k 0)] = gQ y a (k + 1) := by unfold gQ; rw [List.range_succ, List.map_append]; rfl
theorem uH : gQ y a 0 = [] := rfl
theorem xB (k : Nat) : (gQ y a k).length = k := by unfold gQ; rw [List.length_map, List.length_range]
theorem told_eq (y : bB) (a : List Int) : (⟨gQ y a y.bins.length, a.drop (y.bins.length * (y.D + 1))⟩ : dU) = fL y a := rfl
theorem A3 (h : xs = []) : (Ty.ku (.slice none 0 0)).Sub (Ty.row cm 3 26 xs) := by subst h; exact Ty.mL
theorem lo_eq (fl : List b9) (n : Nat) (has : Nat → Bool) (a : List Int) : gN fl n (dB has true) a = By fl n has a := rfl
theorem hi_eq (fl : List b9) (n : Nat) (has : Nat → Bool) (a : List Int) : gN fl n (dB has false) (By fl n has a) = yR fl n has a := rfl
end
attribute [local irreducible] aP fT Way.gj Way.fin Way.room eX eI fE gR over bQ cQ dn eW jh fG gx kO cO fR fy fu dB cL gN pS iq jC jQ gb By yR gQ bB.kept
attribute [local irreducible] iP fV m6 qX ig iw ia ij ir qN iy qQ eA ga qU gS qM nth fX dy aj dx bodyPost Exit.then Exit.inBlock Code.wp Code.wpIn qO iz qT qR iZ eR cW cZ bodyPostM eH
set_option maxRecDepth 100000 in
theorem uU (l : List Int) (h : l.length ≤ 1000) : dx Tryz.prog 172 [Ty.sl cm l] (Ty.sl cm l) := by
 refine au Tryz.func172 rfl (by decide) Tryz.ntmps172 (by exact Nat.le_of_ble_eq_true rfl) fun w0 M0 => ?_
 refine aE (aA (mF rfl (aD (aC (aE (aE (aA (gm rfl (Dq Kn rfl ?_)))))))))
 refine aD (aC ?_)
 refine yJ rfl (fun hc1 => ?_) (fun hc1 => ?_)
 ·
  refine aE (aA (mF rfl (aD (aC (az (aV (bq rfl rfl ?_)))))))
  all_goals skip
  exact fJ hc1
 refine ak (aC (aE (aA ?_)))
 refine wF (E := cm) rfl rfl rfl rfl ?_
 refine gm rfl ?_
 refine gH rfl rfl (by decide) rfl rfl rfl rfl rfl rfl (by decide) (by (simp <;> omega)) (by (simp <;> omega)) ?_
 refine Ir rfl (aD (aC (az (bq rfl rfl ?_))))
 all_goals exact EX (by decide)
 skip
set_option maxRecDepth 100000 in
theorem GK (y : bB) (fl : List b9) (a : List Int) (h : lf y fl a) (hfe : fU fl (y.cells + 1) a) (th : Ty) (h1 : th.deps = []) (h2 : th.cdeps = []) (has : Nat → Bool) (hf : ∀ i, i < fl.length → nj Tryz.prog (Ty.nd th h1 h2) [Ty.int .i64 ((i : Nat) : Int)] (Ty.bool (has i))) (less : Bool) : eR Tryz.prog 164 [1000] [(1000, Cont.vec cm 3 a)] [Ty.pp (eF y fl 1000 fl.length), Ty.agg [Ty.nd th h1 h2, Ty.bool less]] [(1000, Cont.vec cm 3 (gN fl (y.cells + 1) (dB has less) a))] (Ty.int .i64 (jQ fl has (gN fl (y.cells + 1) (dB has less) a))) := by
 refine eG Tryz.func164 rfl (by decide) Tryz.ntmps164 (by exact Nat.le_of_ble_eq_true rfl) fun w0 M0 => ?_
 have hN := h.net
 have hfl := h.oX
 have hcl := nL h.right
 have hG := sQ (has := has) less
 have hn : 0 < (y.cells + 1) := Nat.succ_pos _
 refine aE (aA (bJ rfl (cB rfl (aD (aC (aE (ah ?_)))))))
 refine cU (fun (b : {b : List Int // L0 fl (y.cells + 1) (dB has less) a b}) => live [(0, Ty.pp (eF y fl 1000 fl.length)), (3, Ty.pp [Ty.nd th h1 h2, Ty.bool less])] [(1000, Cont.vec cm 3 b.1)]) (fun b => (300 * fl.length - k5 fl (dB has less) b.1).toNat) (⟨a, Ns hfe⟩) ?_ fun b => ?_
 ·(refine dD.mk' ?_ ?_ <;> (repeat' (first | exact aH | exact aI | refine aB ?_ (Ty.aW _) | refine aB ?_ (Ty.aF _) | refine aG rfl (Cont.aF _) ?_)))
 have hF : lf y fl b.1 := ⟨h.right, h.net, h.bd, b.2.feas.1, h.oX⟩
 have hal := hF.inb.1
 refine ah (aE (aA (iF rfl ?_)))
 refine aY rfl rfl rfl (by exact Nat.le_of_ble_eq_true rfl) ?_
 refine cI [(1000, 1000)] [] [(1000, Cont.vec cm 3 b.1)] (GX y fl b.1 hF th h1 h2 has hf less) rfl rfl (aJ (aJ bO (aQ rfl rfl)) (eo (aJ (aJ (aJ (aJ (aJ (aJ bO (eT (by exact List.mem_cons_self))) (aQ rfl rfl)) (aQ rfl rfl)) (aQ rfl rfl)) (aQ rfl rfl)) (aQ rfl rfl)))) (cF (a := 1000) (b := 1000) (by exact List.mem_cons_self) rfl (cA (by exact List.mem_cons_self) rfl) pre_nil) (bN (a := 1000) (b := 1000) (by decide) rfl (cA (by decide) rfl) post_nil) (aQ rfl rfl) ?_
 refine OA rfl (aD (aC (aE (aE (aA (OE rfl (GP LH rfl (aD (aC ?_)))))))))
 refine cY rfl (fun hc1 => ?_) (fun hc1 => ?_)
 ·
  refine cT (aR (gJ rfl (aR (aq rfl (aC (aE ?_))))))
  have hb : b.1 = (gN fl (y.cells + 1) (dB has less) a) := b.2.done (List.isEmpty_iff.1 hc1)
  have hF2 : lf y fl (gN fl (y.cells + 1) (dB has less) a) := by rw [← hb]; exact hF
  have hal2 := hF2.inb.1
  refine fK (tg := 1000) rfl (Cont.eP hb) ?_
  refine aA (cB rfl (aD (aC (aE (aE (aA (iF rfl (bU rfl ?_))))))))
  refine aM rfl rfl rfl rfl rfl (by decide) ?_
  refine aK rfl rfl rfl rfl (rq rfl rfl rfl (bM rfl (aD (aC (ah ?_)))))
  refine cU (fun (i : {i : Nat // i ≤ fl.length}) => live [(0, Ty.pp (eF y fl 1000 fl.length)), (3, Ty.pp [Ty.nd th h1 h2, Ty.bool less]), (11, Ty.int .i64 (jC has (gN fl (y.cells + 1) (dB has less) a) i.1)), (43, Ty.vs 1000 fl.length), (44, Ty.int .i64 fl.length), (45, Ty.int .i64 (i.1 : Nat))] [(1000, Cont.vec cm 3 (gN fl (y.cells + 1) (dB has less) a))]) (fun i => fl.length - i.1) (⟨0, by omega⟩) ?_ fun i => ?_
  ·(refine dD.mk' ?_ ?_ <;> (repeat' (first | exact aH | exact aI | refine aB ?_ (Ty.aW _) | refine aB ?_ (Ty.aF _) | refine aG rfl (Cont.aF _) ?_ | refine aB ?_ ?_)))
   all_goals exact Ty.bA (by unfold jC; rfl)
  have hi := i.2
  have hup := Eu (has := has) (x := (gN fl (y.cells + 1) (dB has less) a)) (k := i.1) fun q hq => (hF2.Lz (by omega)).1
  refine aE (aA (bE rfl rfl rfl (aD (aC (aE ?_)))))
  refine av rfl (fun hc2 => ?_) (fun hc2 => ?_)
  ·
   refine ak (aC (aE (ah (aE (aA (bM rfl ?_))))))
   refine dA rfl rfl rfl rfl rfl (by omega) ?_
   refine fC rfl rfl rfl (by decide) rfl rfl (by omega) rfl ?_
   refine cB rfl (cB rfl (aD (aC (aE ?_))))
   have hai := (hF2.Lz (show i.1 < fl.length by omega)).1
   refine aA ?_
   refine aM rfl rfl rfl rfl rfl (by decide) ?_
   refine aK rfl rfl rfl rfl (bM rfl ?_)
   refine eV rfl (hf i.1 (by omega)) rfl ?_
   refine aD (aC ?_)
   refine cY rfl (fun hc3 => ?_) (fun hc3 => ?_)
   ·
    refine aA (bM rfl (bM rfl ?_))
    refine bz rfl rfl (by omega) (by omega) ?_
    refine cB rfl (aD (bW (aC (aA ?_))))
    refine bz rfl rfl (by omega) (by omega) ?_
    refine bM rfl (aD ?_)
    refine bf (⟨i.1 + 1, by omega⟩) ?_ (by show fl.length - (i.1 + 1) < fl.length - i.1; omega)
    (refine dD.mk' ?_ ?_ <;> (repeat' (first | exact aH | exact aI | refine aB ?_ (Ty.aW _) | refine aB ?_ (Ty.aF _) | refine aG rfl (Cont.aF _) ?_ | refine aB ?_ ?_)))
    all_goals skip
    all_goals exact Ty.bA (Ew hc3)
   refine ak (bW (aC (aA ?_)))
   refine bz rfl rfl (by omega) (by omega) ?_
   refine bM rfl (aD ?_)
   refine bf (⟨i.1 + 1, by omega⟩) ?_ (by show fl.length - (i.1 + 1) < fl.length - i.1; omega)
   (refine dD.mk' ?_ ?_ <;> (repeat' (first | exact aH | exact aI | refine aB ?_ (Ty.aW _) | refine aB ?_ (Ty.aF _) | refine aG rfl (Cont.aF _) ?_ | refine aB ?_ ?_)))
   all_goals skip
   all_goals exact Ty.bA (IT hc3)
  refine cT (aR (aR (aq rfl (aC (aE (aA (bM rfl (cB rfl (aD ?_)))))))))
  refine aC (az ?_)
  refine gW [1000] rfl rfl (by decide) (by repeat (first | exact fO | refine eN rfl (cA (by decide) rfl) ?_)) ?_
  all_goals skip
  all_goals exact fo (oU rfl rfl (congrArg (Ty.int .i64) ((I5 (by have := i.2; omega)).trans (JI fl has _))))
 refine ak (aC (aE ?_))
 refine gX (s := 5) rfl (show (Ty.Fq fq (cL fl b.1 (y.cells + 1) (dB has less))).Sub (Ty.sl fq (cL fl b.1 (y.cells + 1) (dB has less))) from Ty.Ll) ?_
 have hne : ¬ (cL fl b.1 (y.cells + 1) (dB has less)) = [] := fun e => by rw [e] at hc1; cases hc1
 have hnx := b.2.next hN hn h.bd hG hne
 have hC := hnx.2.2
 have hlen := hC.oX
 refine aA (cB rfl (aD (aC (aE (aE (aA (gm rfl (cx rfl rfl rfl (bM rfl ?_)))))))))
 refine aD (aC (ah ?_))
 refine cU (fun (j : {j : Nat // j ≤ (cL fl b.1 (y.cells + 1) (dB has less)).length}) => live [(0, Ty.pp (eF y fl 1000 fl.length)), (3, Ty.pp [Ty.nd th h1 h2, Ty.bool less]), (5, Ty.sl fq (cL fl b.1 (y.cells + 1) (dB has less))), (6, Ty.int .i64 (fG fl b.1 300 ((cL fl b.1 (y.cells + 1) (dB has less)).take j.1))), (19, Ty.sl fq (cL fl b.1 (y.cells + 1) (dB has less))), (20, Ty.int .i64 (cL fl b.1 (y.cells + 1) (dB has less)).length), (21, Ty.int .i64 (j.1 : Nat))] [(1000, Cont.vec cm 3 b.1)]) (fun j => (cL fl b.1 (y.cells + 1) (dB has less)).length - j.1) (⟨0, by omega⟩) ?_ fun j => ?_
 ·(refine dD.mk' ?_ ?_ <;> (repeat' (first | exact aH | exact aI | refine aB ?_ (Ty.aW _) | refine aB ?_ (Ty.aF _) | refine aG rfl (Cont.aF _) ?_ | refine aB ?_ ?_)))
  all_goals exact Ty.bA (v8 _ _ _)
 have hj := j.2
 refine aE (aA (bE rfl rfl rfl (aD (aC (aE ?_)))))
 refine av rfl (fun hc4 => ?_) (fun hc4 => ?_)
 ·
  refine ak (aC (aE (ah (aE (aA ?_)))))
  refine bI rfl rfl rfl rfl rfl rfl (by omega) ?_
  refine aY rfl rfl rfl (by exact Nat.le_of_ble_eq_true rfl) ?_
  refine b8 rfl (by exact List.cons_ne_nil _ _) rfl ?_
  refine bp rfl rfl (by decide) rfl rfl rfl rfl rfl rfl ?_
  refine aD (aC (aE ?_))
  have hwj := hC.ways _ (cV (xs := (cL fl b.1 (y.cells + 1) (dB has less))) (k := j.1) (by omega))
  refine aA (iF rfl ?_)
  refine bG rfl rfl (by decide) rfl rfl (by exact Nat.le_of_ble_eq_true rfl) ?_
  refine dg [1000] (D3 y fl b.1 hF (nth (cL fl b.1 (y.cells + 1) (dB has less)) j.1) hwj.1) rfl (aN (kR (aN (af (bF rfl rfl)) (aN (af (bF rfl rfl)) (aN (af (bF rfl rfl)) (aN (af (bF rfl rfl)) (aN (af (bF rfl rfl)) (aN (jD rfl hal (by decide) rfl) bh))))))) (aN (af (bF rfl rfl)) bh)) (by exact p6 (by repeat (first | exact pg | refine oM (by exact dF _ _) ?_))) ?_
  refine rH rfl (bS rfl rfl (bS rfl rfl (cB rfl (cB rfl (aD (aC (aA (bM rfl (bM rfl ?_)))))))))
  refine bt (E := cm) (xs := [_]) rfl rfl rfl rfl rfl (by decide) (by decide) (by repeat (first | exact (aX.nil : aX _ _ [] _) | (show aX _ _ ((_, _) :: _) _; apply aX.one; (· exact (rfl : _ = Ty.int _ _)); (· exact rfl)))) (by exact rfl) rfl ?_
  refine aa (rK _ _) rfl rfl rfl rfl rfl (cB rfl (aD (bW (aC (aA ?_)))))
  refine bz rfl rfl (by omega) (by omega) ?_
  refine bM rfl (aD ?_)
  refine bf (⟨j.1 + 1, by omega⟩) ?_ (by show (cL fl b.1 (y.cells + 1) (dB has less)).length - (j.1 + 1) < (cL fl b.1 (y.cells + 1) (dB has less)).length - j.1; omega)
  (refine dD.mk' ?_ ?_ <;> (repeat' (first | exact aH | exact aI | refine aB ?_ (Ty.aW _) | refine aB ?_ (Ty.aF _) | refine aG rfl (Cont.aF _) ?_ | refine aB ?_ ?_)))
  all_goals skip
  all_goals exact Ty.bA (by rw [eK (by omega)]; exact wg)
 refine cT (aR (aR (aq rfl (aC ?_))))
 have hmp := qI (fl := fl) (a := b.1) (m := 300) (by decide) (cL fl b.1 (y.cells + 1) (dB has less)) hC.ways
 have hml := (sE (fl := fl) (a := b.1) 300 (cL fl b.1 (y.cells + 1) (dB has less))).1
 refine gX (s := 6) rfl (Ty.bA (by rw [List.take_of_length_le (by omega)] : _ = fG fl b.1 300 (cL fl b.1 (y.cells + 1) (dB has less)))) ?_
 refine aA (iF rfl (gm rfl (bM rfl ?_)))
 refine cI [(1000, 1000)] [] [(1000, Cont.vec cm 3 (eI b.1 (cL fl b.1 (y.cells + 1) (dB has less)) (fG fl b.1 300 (cL fl b.1 (y.cells + 1) (dB has less)))))] (Im y fl b.1 hF (cL fl b.1 (y.cells + 1) (dB has less)) (by omega) (fun w hw => (hC.ways w hw).1) (fG fl b.1 300 (cL fl b.1 (y.cells + 1) (dB has less))) (by omega)) rfl rfl (aJ (aJ (aJ bO (aQ rfl rfl)) (aQ rfl rfl)) (eo (aJ (aJ (aJ (aJ (aJ (aJ bO (eT (by exact List.mem_cons_self))) (aQ rfl rfl)) (aQ rfl rfl)) (aQ rfl rfl)) (aQ rfl rfl)) (aQ rfl rfl)))) (cF (a := 1000) (b := 1000) (by exact List.mem_cons_self) rfl (cA (by exact List.mem_cons_self) rfl) pre_nil) (bN (a := 1000) (b := 1000) (by decide) rfl (cA (by decide) rfl) post_nil) (aQ rfl rfl) ?_
 refine aD (bW ?_)
 refine bf (⟨eI b.1 (cL fl b.1 (y.cells + 1) (dB has less)) (fG fl b.1 300 (cL fl b.1 (y.cells + 1) (dB has less))), hnx.1⟩) ?_ (by exact hnx.2.1)
 (refine dD.mk' ?_ ?_ <;> (repeat' (first | exact aH | exact aI | refine aB ?_ (Ty.aW _) | refine aB ?_ (Ty.aF _) | refine aG rfl (Cont.aF _) ?_)))
 all_goals skip
set_option maxRecDepth 100000 in
theorem Co (y : bB) (fl : List b9) (a : List Int) (h : lf y fl a) (hfe : fU fl (y.cells + 1) a) (th : Ty) (h1 : th.deps = []) (h2 : th.cdeps = []) (has : Nat → Bool) (hf : ∀ i, i < fl.length → nj Tryz.prog (Ty.nd th h1 h2) [Ty.int .i64 ((i : Nat) : Int)] (Ty.bool (has i))) (ho : th.one = true) : eR Tryz.prog 87 [1000] [(1000, Cont.vec cm 3 a)] [Ty.pp (eF y fl 1000 fl.length), Ty.nd th h1 h2] [(1000, Cont.vec cm 3 (yR fl (y.cells + 1) has a))] (Ty.agg (dV.tys (gb fl (y.cells + 1) has))) := by
 refine eG Tryz.func87 rfl (by decide) Tryz.ntmps87 (by exact Nat.le_of_ble_eq_true rfl) fun w0 M0 => ?_
 have hsp := sS (has := has) h.net (Nat.succ_pos _) h.bd hfe
 have hF : lf y fl (By fl (y.cells + 1) has a) := ⟨h.right, h.net, h.bd, hsp.1.1, h.oX⟩
 refine aE (aA ?_)
 refine b8 rfl (by exact List.cons_ne_nil _ _) rfl ?_
 refine aD (aC (aE (aA (iF rfl ?_))))
 refine eL (ty := Ty.nd th h1 h2) rfl ?_
 refine dG rfl rfl (by exact List.cons_ne_nil _ _) rfl (aX.one (ty := Ty.nd th h1 h2) rfl ho (aX.one (ty := Ty.bool true) rfl rfl aX.nil)) (by exact (rfl : _ = some [_, _])) ?_
 refine cI [(1000, 1000)] [] [(1000, Cont.vec cm 3 (By fl (y.cells + 1) has a))] (GK y fl a h hfe th h1 h2 has hf true) rfl rfl (aJ (aJ bO (aQ rfl rfl)) (eo (aJ (aJ (aJ (aJ (aJ (aJ bO (eT (by exact List.mem_cons_self))) (aQ rfl rfl)) (aQ rfl rfl)) (aQ rfl rfl)) (aQ rfl rfl)) (aQ rfl rfl)))) (cF (a := 1000) (b := 1000) (by exact List.mem_cons_self) rfl (cA (by exact List.mem_cons_self) rfl) pre_nil) (bN (a := 1000) (b := 1000) (by decide) rfl (cA (by decide) (lo_eq _ _ _ _)) post_nil) (aQ rfl rfl) ?_
 refine cB rfl (aD (aC (aE (aA (bM rfl (iF rfl ?_))))))
 refine eL (ty := Ty.nd th h1 h2) rfl ?_
 refine dG rfl rfl (by exact List.cons_ne_nil _ _) rfl (aX.one (ty := Ty.nd th h1 h2) rfl ho (aX.one (ty := Ty.bool false) rfl rfl aX.nil)) (by exact (rfl : _ = some [_, _])) ?_
 refine cI [(1000, 1000)] [] [(1000, Cont.vec cm 3 (yR fl (y.cells + 1) has a))] (GK y fl (By fl (y.cells + 1) has a) hF hsp.1 th h1 h2 has hf false) rfl rfl (aJ (aJ bO (aQ rfl rfl)) (eo (aJ (aJ (aJ (aJ (aJ (aJ bO (eT (by exact List.mem_cons_self))) (aQ rfl rfl)) (aQ rfl rfl)) (aQ rfl rfl)) (aQ rfl rfl)) (aQ rfl rfl)))) (cF (a := 1000) (b := 1000) (by exact List.mem_cons_self) rfl (cA (by exact List.mem_cons_self) rfl) pre_nil) (bN (a := 1000) (b := 1000) (by decide) rfl (cA (by decide) (hi_eq _ _ _ _)) post_nil) (aQ rfl rfl) ?_
 refine dG rfl rfl (by exact List.cons_ne_nil _ _) rfl (by repeat (first | exact (aX.nil : aX _ _ [] _) | (show aX _ _ ((_, _) :: _) _; apply aX.one; (· exact (rfl : _ = Ty.int _ _)); (· exact rfl)))) (by exact (rfl : _ = some [_, _])) ?_
 refine bp rfl rfl (by decide) rfl rfl rfl rfl rfl rfl ?_
 refine aD (aC (az ?_))
 refine DO [1000] rfl rfl rfl rfl (by decide) rfl rfl rfl (by decide) (by repeat (first | exact fO | refine eN rfl (cA (by decide) rfl) ?_)) ?_
 all_goals skip
 all_goals exact fo (oU rfl rfl (congrArg (fun s => Ty.agg (dV.tys s)) (JO h.net (Nat.succ_pos _) h.bd hfe)))
set_option maxRecDepth 100000 in
theorem L7 (y : bB) (c : Nat → Bool) (a : List Int) (hr : y.cN) (hl : a.length = (aP y c).length) : dx Tryz.prog 120 [Ty.pp (kQ y (aP y c) a)] (kr (fL y a)) := by
 refine au Tryz.func120 rfl (by decide) Tryz.ntmps120 (by exact Nat.le_of_ble_eq_true rfl) fun w0 M0 => ?_
 have hfl := eS (y := y) (c := c)
 have h1 := hr.bins
 have h2 := hr.days
 have h3 := D_eq hr
 have h4 := hr.moves
 have hf34 : (aP y c).length ≤ 34 := iV hr
 refine aE (aA ?_)
 refine b8 rfl (by exact List.cons_ne_nil _ _) rfl ?_
 refine aD (aC (aE (aA ?_)))
 refine b8 rfl (by exact List.cons_ne_nil _ _) rfl ?_
 refine aD (aC (aE (aE (aA (iF rfl (bU rfl ?_))))))
 refine aM rfl rfl rfl rfl rfl (by decide) ?_
 refine aM rfl rfl rfl rfl rfl (by decide) ?_
 refine aK rfl rfl rfl rfl (cx rfl rfl rfl (bM rfl (aD (aC (ah ?_)))))
 refine cU (fun (k : {k : Nat // k ≤ y.bins.length}) => live [(0, Ty.pp (kQ y (aP y c) a)), (2, Ty.ptr 3 0), (3, Ty.ptr 4 0), (9, Ty.sl eU y.bins), (10, Ty.int .i64 y.bins.length), (11, Ty.int .i64 (k.1 : Nat))] [(3, Cont.cells 30 [Ty.ex (.slice none 0 0), Ty.ex (.slice none 0 0)]), (4, Cont.cells 30 [Ty.row cm 3 26 (gQ y a k.1), Ty.ex (.slice none 0 0)])]) (fun k => y.bins.length - k.1) (⟨0, by omega⟩) ?_ fun k => ?_
 ·(refine dD.mk' ?_ ?_ <;> (repeat' (first | exact aH | exact aI | exact dK | refine aB ?_ (Ty.aW _) | refine aB ?_ (Ty.aF _) | refine aG rfl (Cont.aF _) ?_ | refine aG rfl (Cont.dL ?_) ?_ | refine bY ?_ (Ty.aF _) | refine bY ?_ ?_)))
  all_goals exact A3 uH
 have hk := k.2
 have hfk := xB (y := y) (a := a) k.1
 refine aE (aA (bE rfl rfl rfl (aD (aC (aE ?_)))))
 refine av rfl (fun hc1 => ?_) (fun hc1 => ?_)
 ·
  refine ak (aC (aE (ah (aE (aA (bM rfl (cB rfl (aD (aC ?_)))))))))
  have hkl := Hp hl (show k.1 < y.bins.length by omega)
  refine cM mixed rfl ?_
  refine aL rfl rfl rfl rfl rfl (by decide) ?_
  refine aU rfl rfl (by decide) rfl rfl rfl ?_
  refine iF rfl (bU rfl ?_)
  refine aM rfl rfl rfl rfl rfl (by decide) ?_
  refine aK rfl rfl rfl rfl (iF rfl (bM rfl ?_))
  refine dg [] (w6 y hr k.1 0 (by omega) (Nat.zero_le _)) rfl (aN (j5 (l1 := bk y) (l2 := [Ty.sl dZ (aP y c), Ty.sl cm a]) rfl rfl) (aN (af (bF rfl rfl)) (aN (af (bF rfl rfl)) bh))) (by exact dF _ _) ?_
  refine bI rfl rfl rfl rfl rfl rfl (by omega) ?_
  refine aK rfl rfl rfl rfl ?_
  refine bt (E := cm) (xs := [_]) rfl rfl rfl rfl rfl (by decide) (by decide) (by repeat (first | exact (aX.nil : aX _ _ [] _) | (show aX _ _ ((_, _) :: _) _; apply aX.one; (· exact (rfl : _ = Ty.int _ _)); (· exact rfl)))) (by exact rfl) rfl ?_
  refine gH rfl rfl (by decide) rfl rfl rfl rfl rfl rfl (by decide) (by (simp <;> omega)) (by (simp <;> omega)) ?_
  refine aL rfl rfl rfl rfl rfl (by decide) ?_
  refine ct rfl rfl (by decide) rfl rfl (by exact (rfl : _ = Ty.row _ _ _ _)) rfl (by exact Nat.le_of_ble_eq_true rfl) rfl rfl (by exact rfl) ?_
  refine aD ?_
  refine ⟨by kernel_rfl, ?_⟩
  refine bW (aC (aA ?_))
  refine bz rfl rfl (by omega) (by omega) ?_
  refine bM rfl (aD ?_)
  refine bf (⟨k.1 + 1, by omega⟩) ?_ (by show y.bins.length - (k.1 + 1) < y.bins.length - k.1; omega)
  (refine dD.mk' ?_ ?_ <;> (repeat' (first | exact aH | exact aI | exact dK | refine aB ?_ (Ty.aW _) | refine aB ?_ (Ty.aF _) | refine aG rfl (Cont.aF _) ?_ | refine aG rfl (Cont.dL ?_) ?_ | refine bY ?_ (Ty.aF _) | refine bY ?_ ?_)))
  all_goals skip
  all_goals exact Ty.gG (uC _)
 refine cT (aR (aR (aq rfl (aC (aE (cM mixed rfl (iF rfl (bU rfl ?_))))))))
 refine aM rfl rfl rfl rfl rfl (by decide) ?_
 refine aK rfl rfl rfl rfl (iF rfl (bU rfl ?_))
 refine aM rfl rfl rfl rfl rfl (by decide) ?_
 refine aK rfl rfl rfl rfl (cx rfl rfl rfl (iF rfl (bU rfl ?_)))
 refine aM rfl rfl rfl rfl rfl (by decide) ?_
 refine aM rfl rfl rfl rfl rfl (by decide) ?_
 refine aK rfl rfl rfl rfl (cx rfl rfl rfl ?_)
 refine gL rfl rfl (by omega) (by omega) ?_
 refine CO (lo := y.bins.length * (y.D + 1)) rfl (by exact congrArg (Ty.int .i64) (by rw [hfl]; omega : ((aP y c).length : Int) - (y.moves.length : Int) = ((y.bins.length * (y.D + 1) : Nat) : Int))) rfl rfl rfl rfl (by rw [hl]; omega) ?_
 refine aa (uU _ (by rw [List.length_drop]; omega)) rfl rfl rfl rfl rfl ?_
 refine aL rfl rfl rfl rfl rfl (by decide) ?_
 refine ct rfl rfl (by decide) rfl rfl (by exact (rfl : _ = Ty.sl _ _)) rfl (by exact Nat.le_of_ble_eq_true rfl) rfl rfl (by exact rfl) ?_
 refine aD ?_
 refine ⟨by kernel_rfl, ?_⟩
 refine aC (aE (aA ?_))
 refine bG rfl rfl (by decide) rfl rfl (by exact Nat.le_of_ble_eq_true rfl) ?_
 refine bp rfl rfl (by decide) rfl rfl rfl rfl rfl rfl ?_
 refine aD (aC (az ?_))
 refine ux rfl rfl rfl rfl (by decide) rfl rfl rfl ?_
 exact zP (ts := dP (fL y a)) (lK (q6 (by decide) (show gQ y a k.1 = (fL y a).first by rw [show k.1 = y.bins.length by have := k.2; omega]; exact congrArg dU.first (told_eq y a))) (lK (cC rfl rfl) wE))
end Go.Proofs.YtelbollidfdcjaaGreat
