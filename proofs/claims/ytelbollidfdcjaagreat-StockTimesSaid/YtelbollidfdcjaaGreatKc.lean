/- Lemmas: the program and the reference walked, plain laws. -/
import Derived.Test.YtelbollidfdcjaaGreatKb
namespace Go.Proofs.YtelbollidfdcjaaGreat
open Go Go.T
set_option maxHeartbeats 2000000
structure ak.Small (y : ak) : Prop where
  bins : y.bins.length ≤ 1000
  moves : y.moves.length ≤ 1000
  levels : y.levels.length ≤ 1000
def xT (y : ak) : Ty := Ty.OW 135 [dn y]
def Fb (y : ak) : Ty := Ty.pp [Ty.ju 142 [Ty.pp [xT y]]]
theorem Gq {y : ak} (h : lZ y = false) : 1 ≤ y.days ∧ y.days ≤ 5 := by
 unfold lZ at h
 simp only [Bool.or_eq_false_iff, Bool.not_eq_false', iN] at h
 exact h.1.1.1
def dU (y : ak) (k : Int) : Int := if bL y = 0 then if y.bin k = true then 0 else 1 else bL y
theorem Gx {y : ak} {k : Int} (h : (decide (bL y = 0) && !y.bin k) = true) : 1 = dU y k := by
 rw [Bool.and_eq_true, decide_eq_true_eq, Bool.not_eq_true'] at h
 unfold dU; rw [if_pos h.1, if_neg (by rw [h.2]; decide)]
theorem G1 {y : ak} {k : Int} (h : (decide (bL y = 0) && !y.bin k) = false) : bL y = dU y k := by
 unfold dU
 by_cases e : bL y = 0
 ·rw [decide_eq_true e, Bool.true_and, Bool.not_eq_false'] at h
  rw [if_pos e, if_pos h, e]
 rw [if_neg e]
attribute [local irreducible] gA eU lH nR gy gl g5 gr g9 nU gx nZ dN fS nJ ff nQ nth fI dQ au dK bodyPost Exit.then Exit.inBlock Code.wp Code.wpIn nY gm oC n9 g7 eM cJ cH bodyPostM dP
set_option maxRecDepth 100000 in
theorem uX (n lo hi : Int) : dK Tryz.prog 111 [Ty.int .i64 n, Ty.int .i64 lo, Ty.int .i64 hi] (Ty.bool (x6 n lo hi)) := by
 refine ah Tryz.func111 rfl (by decide) Tryz.ntmps111 (by exact Nat.le_of_ble_eq_true rfl) fun w0 M0 => ?_
 refine aE (aA (dA rfl (aD (aC (aE (aA (bG rfl (bG rfl (bB rfl rfl rfl ?_)))))))))
 refine fB rfl ?_
 apply aN (s := 10) rfl rfl rfl
 ·intro hg; apply aO; (refine bG rfl ?_); refine aD ?_; exact rfl
 ·exact rfl
 ·exact rfl
 apply aN (s := 10) rfl rfl rfl
 ·intro hg; apply aO; (refine bG rfl ?_); refine aD ?_; exact rfl
 ·exact rfl
 ·exact rfl
 apply aN (s := 10) rfl rfl rfl
 ·intro hg; apply aL (s := 11) rfl (by (rw [hg]; rfl)); apply aL (s := 12) rfl (by (rw [hg]; rfl)); apply aO; (refine bB rfl rfl rfl ?_); refine aD ?_; exact rfl
 ·exact rfl
 ·exact rfl
 refine dy rfl rfl (dA rfl (aD (aC (ay (bP rfl rfl ?_)))))
 all_goals exact b9 rfl rfl
set_option maxRecDepth 100000 in
theorem Ef (y : ak) (hs : y.Small) (n : Int) : dK Tryz.prog 135 [dn y, Ty.int .i64 n] (Ty.bool (y.bin n)) := by
 refine ah Tryz.func135 rfl (by decide) Tryz.ntmps135 (by exact Nat.le_of_ble_eq_true rfl) fun w0 M0 => ?_
 have hs1 := hs.bins
 refine aE (aA (bD rfl (dA rfl (aD (aC (aE (aA (bG rfl ?_))))))))
 refine aH rfl rfl rfl rfl rfl (by decide) ?_
 refine aI rfl rfl rfl rfl (cK rfl rfl rfl ?_)
 refine gR rfl rfl (by omega) (by omega) ?_
 refine af (uX _ _ _) rfl rfl rfl rfl rfl (dA rfl (aD (aC (ay (bP rfl rfl ?_)))))
 all_goals exact b9 rfl rfl
set_option maxRecDepth 100000 in
theorem NJ (y : ak) (n : Int) : dK Tryz.prog 122 [dn y, Ty.int .i64 n] (Ty.bool (y.time n)) := by
 refine ah Tryz.func122 rfl (by decide) Tryz.ntmps122 (by exact Nat.le_of_ble_eq_true rfl) fun w0 M0 => ?_
 refine aE (aA (bD rfl (dA rfl (aD (aC (aE (aA (bG rfl ?_))))))))
 refine aH rfl rfl rfl rfl rfl (by decide) ?_
 refine aI rfl rfl rfl rfl (af (uX _ _ _) rfl rfl rfl rfl rfl (dA rfl (aD (aC (ay (bP rfl rfl ?_))))))
 all_goals exact b9 rfl rfl
set_option maxRecDepth 100000 in
theorem tV (s : Span) : dK Tryz.prog 145 [Ty.agg (bl.tys s)] (Ty.bool (fM s)) := by
 refine ah Tryz.func145 rfl (by decide) Tryz.ntmps145 (by exact Nat.le_of_ble_eq_true rfl) fun w0 M0 => ?_
 refine aE (aA (bD rfl (dA rfl (aD (aC (aE (aA ?_)))))))
 refine aH rfl rfl rfl rfl rfl (by decide) ?_
 refine aI rfl rfl rfl rfl (af (uX _ _ _) rfl rfl rfl rfl rfl (fB rfl ?_))
 apply aN (s := 6) rfl rfl rfl
 ·intro hg; apply aO; (refine aH rfl rfl rfl rfl rfl (by decide) ?_); refine aD ?_; exact rfl
 ·exact rfl
 ·exact rfl
 apply aN (s := 6) rfl rfl rfl
 ·intro hg; apply aL (s := 7) rfl (by (rw [hg]; rfl)); apply aO; (refine aI rfl rfl rfl rfl ?_); refine aD ?_; exact rfl
 ·exact rfl
 ·exact rfl
 apply aN (s := 6) rfl rfl rfl
 ·intro hg; apply aL (s := 8) rfl (by (rw [hg]; rfl)); apply aO; (refine af (uX _ _ _) rfl rfl rfl rfl rfl ?_); refine aD ?_; exact rfl
 ·exact rfl
 ·exact rfl
 refine dy rfl rfl (dA rfl (aD (aC (ay (bP rfl rfl ?_)))))
 all_goals exact b9 rfl rfl
set_option maxRecDepth 100000 in
theorem xJ (s : Span) : dK Tryz.prog 154 [Ty.agg (bl.tys s)] (Ty.bool (gL s)) := by
 refine ah Tryz.func154 rfl (by decide) Tryz.ntmps154 (by exact Nat.le_of_ble_eq_true rfl) fun w0 M0 => ?_
 refine aE (aA (bD rfl (dA rfl (aD (aC (aE (aA ?_)))))))
 refine aH rfl rfl rfl rfl rfl (by decide) ?_
 refine aI rfl rfl rfl rfl ?_
 refine aH rfl rfl rfl rfl rfl (by decide) ?_
 refine aI rfl rfl rfl rfl (bB rfl rfl rfl (dA rfl (aD (aC (ay (bP rfl rfl ?_))))))
 all_goals exact b9 rfl rfl
set_option maxRecDepth 100000 in
theorem Av (y : ak) (hs : y.Small) (n : Int) : dK Tryz.prog 142 [Ty.int .i64 n, Ty.pp [xT y]] (Ty.bool (y.fin n)) := by
 refine ah Tryz.func142 rfl (by decide) Tryz.ntmps142 (by exact Nat.le_of_ble_eq_true rfl) fun w0 M0 => ?_
 refine aE (aA (dA rfl (aD (aC (aE (aA (bG rfl (bB rfl rfl rfl (fB rfl ?_)))))))))
 apply aN (s := 6) rfl rfl rfl
 ·intro hg; apply aO; (refine aI rfl rfl rfl rfl ?_); refine aD ?_; exact rfl
 ·exact rfl
 ·exact rfl
 apply aN (s := 6) rfl rfl rfl
 ·intro hg; apply aO; (refine bG rfl ?_); refine aD ?_; exact rfl
 ·exact rfl
 ·exact rfl
 apply aN (s := 6) rfl rfl rfl
 ·intro hg; apply aL (s := 7) rfl (by (rw [hg]; rfl)); apply aL (s := 8) rfl (by (rw [hg]; rfl)); apply aO; (refine eS rfl (EL (Ef y hs n) rfl rfl rfl rfl rfl rfl) rfl ?_); refine aD ?_; exact rfl
 ·exact rfl
 ·exact rfl
 refine ig rfl rfl (dA rfl (aD (aC (ay (bP rfl rfl ?_)))))
 all_goals exact b9 rfl rfl
set_option maxRecDepth 100000 in
theorem KM (b : sX) : dK Tryz.prog 144 [Ty.agg (fC.tys b)] (Ty.bool (x6 b.holds 0 300 && fM b.first)) := by
 refine ah Tryz.func144 rfl (by decide) Tryz.ntmps144 (by exact Nat.le_of_ble_eq_true rfl) fun w0 M0 => ?_
 refine aE (aA (bD rfl (dA rfl (aD (aC (aE (aA ?_)))))))
 refine aH rfl rfl rfl rfl rfl (by decide) ?_
 refine aI rfl rfl rfl rfl (af (uX _ _ _) rfl rfl rfl rfl rfl (fB rfl ?_))
 apply aN (s := 6) rfl rfl rfl
 ·intro hg; apply aO; (refine aH rfl rfl rfl rfl rfl (by decide) ?_); refine aD ?_; exact rfl
 ·exact rfl
 ·exact rfl
 apply aN (s := 6) rfl rfl rfl
 ·intro hg; apply aL (s := 7) rfl (by (rw [hg]; rfl)); apply aO; (refine aX rfl rfl rfl (by exact Nat.le_of_ble_eq_true rfl) ?_); refine aD ?_; exact rfl
 ·exact rfl
 ·exact rfl
 apply aN (s := 6) rfl rfl rfl
 ·intro hg; apply aL (s := 8) rfl (by (rw [hg]; rfl)); apply aO; (refine af (tV _) rfl rfl rfl rfl rfl ?_); refine aD ?_; exact rfl
 ·exact rfl
 ·exact rfl
 refine dy rfl rfl (dA rfl (aD (aC (ay (bP rfl rfl ?_)))))
 all_goals exact b9 rfl rfl
set_option maxRecDepth 100000 in
theorem HO (m : Move) : dK Tryz.prog 147 [Ty.agg (eD.tys m)] (Ty.bool (fM m.sacks)) := by
 refine ah Tryz.func147 rfl (by decide) Tryz.ntmps147 (by exact Nat.le_of_ble_eq_true rfl) fun w0 M0 => ?_
 refine aE (aA (bD rfl (dA rfl (aD (aC (aE (aA ?_)))))))
 refine aH rfl rfl rfl rfl rfl (by decide) ?_
 refine aX rfl rfl rfl (by exact Nat.le_of_ble_eq_true rfl) ?_
 refine af (tV _) rfl rfl rfl rfl rfl (dA rfl (aD (aC (ay (bP rfl rfl ?_)))))
 all_goals exact b9 rfl rfl
set_option maxRecDepth 100000 in
theorem Hq (l : Level) : dK Tryz.prog 149 [Ty.agg (dV.tys l)] (Ty.bool (fM l.sacks)) := by
 refine ah Tryz.func149 rfl (by decide) Tryz.ntmps149 (by exact Nat.le_of_ble_eq_true rfl) fun w0 M0 => ?_
 refine aE (aA (bD rfl (dA rfl (aD (aC (aE (aA ?_)))))))
 refine aH rfl rfl rfl rfl rfl (by decide) ?_
 refine aX rfl rfl rfl (by exact Nat.le_of_ble_eq_true rfl) ?_
 refine af (tV _) rfl rfl rfl rfl rfl (dA rfl (aD (aC (ay (bP rfl rfl ?_)))))
 all_goals exact b9 rfl rfl
set_option maxRecDepth 100000 in
theorem Kj (y : ak) (hs : y.Small) (hd : 1 ≤ y.days ∧ y.days ≤ 5) (m : Move) : dK Tryz.prog 150 [Ty.agg (eD.tys m), Ty.pp (bH y), Fb y] (Ty.bool ((x6 m.day 0 (y.days - 1) && y.fin m.src) && y.fin m.dst)) := by
 refine ah Tryz.func150 rfl (by decide) Tryz.ntmps150 (by exact Nat.le_of_ble_eq_true rfl) fun w0 M0 => ?_
 refine aE (aA (bD rfl (dA rfl (aD (aC (aE (aA ?_)))))))
 refine aH rfl rfl rfl rfl rfl (by decide) ?_
 refine aI rfl rfl rfl rfl ?_
 refine aH rfl rfl rfl rfl rfl (by decide) ?_
 refine aI rfl rfl rfl rfl ?_
 refine gR rfl rfl (by omega) (by omega) ?_
 refine af (uX _ _ _) rfl rfl rfl rfl rfl (fB rfl ?_)
 apply aN (s := 11) rfl rfl rfl
 ·intro hg; apply aO; (refine aI rfl rfl rfl rfl ?_); refine aD ?_; exact rfl
 ·exact rfl
 ·exact rfl
 apply aN (s := 11) rfl rfl rfl
 ·intro hg; apply aO; (refine aH rfl rfl rfl rfl rfl (by decide) ?_); refine aD ?_; exact rfl
 ·exact rfl
 ·exact rfl
 apply aN (s := 11) rfl rfl rfl
 ·intro hg; apply aL (s := 13) rfl (by (rw [hg]; rfl)); apply aO; (refine aI rfl rfl rfl rfl ?_); refine aD ?_; exact rfl
 ·exact rfl
 ·exact rfl
 apply aN (s := 11) rfl rfl rfl
 ·intro hg; apply aL (s := 12) rfl (by (rw [hg]; rfl)); apply aL (s := 14) rfl (by (rw [hg]; rfl)); apply aO; (refine eS rfl (dS (Av y hs m.src) rfl rfl rfl rfl rfl rfl) rfl ?_); refine aD ?_; exact rfl
 ·exact rfl
 ·exact rfl
 refine dy rfl rfl (fB rfl ?_)
 apply aN (s := 17) rfl rfl rfl
 ·intro hg; apply aO; (refine aI rfl rfl rfl rfl ?_); refine aD ?_; exact rfl
 ·exact rfl
 ·exact rfl
 apply aN (s := 17) rfl rfl rfl
 ·intro hg; apply aO; (refine aH rfl rfl rfl rfl rfl (by decide) ?_); refine aD ?_; exact rfl
 ·exact rfl
 ·exact rfl
 apply aN (s := 17) rfl rfl rfl
 ·intro hg; apply aL (s := 19) rfl (by (rw [hg]; rfl)); apply aO; (refine aI rfl rfl rfl rfl ?_); refine aD ?_; exact rfl
 ·exact rfl
 ·exact rfl
 apply aN (s := 17) rfl rfl rfl
 ·intro hg; apply aL (s := 18) rfl (by (rw [hg]; rfl)); apply aL (s := 20) rfl (by (rw [hg]; rfl)); apply aO; (refine eS rfl (dS (Av y hs m.dst) rfl rfl rfl rfl rfl rfl) rfl ?_); refine aD ?_; exact rfl
 ·exact rfl
 ·exact rfl
 refine dy rfl rfl (dA rfl (aD (aC (ay (bP rfl rfl ?_)))))
 all_goals exact b9 rfl rfl
set_option maxRecDepth 100000 in
theorem Jd (y : ak) (hs : y.Small) (l : Level) : dK Tryz.prog 151 [Ty.agg (dV.tys l), Ty.pp (bH y), Ty.pp [xT y]] (Ty.bool (y.time l.day && y.bin l.bin)) := by
 refine ah Tryz.func151 rfl (by decide) Tryz.ntmps151 (by exact Nat.le_of_ble_eq_true rfl) fun w0 M0 => ?_
 refine aE (aA (bD rfl (dA rfl (aD (aC (aE (aA ?_)))))))
 refine aX rfl rfl rfl (by exact Nat.le_of_ble_eq_true rfl) ?_
 refine aH rfl rfl rfl rfl rfl (by decide) ?_
 refine aI rfl rfl rfl rfl (af (NJ y _) rfl rfl rfl rfl rfl (fB rfl ?_))
 apply aN (s := 9) rfl rfl rfl
 ·intro hg; apply aO; (refine aI rfl rfl rfl rfl ?_); refine aD ?_; exact rfl
 ·exact rfl
 ·exact rfl
 apply aN (s := 9) rfl rfl rfl
 ·intro hg; apply aO; (refine aH rfl rfl rfl rfl rfl (by decide) ?_); refine aD ?_; exact rfl
 ·exact rfl
 ·exact rfl
 apply aN (s := 9) rfl rfl rfl
 ·intro hg; apply aL (s := 11) rfl (by (rw [hg]; rfl)); apply aO; (refine aI rfl rfl rfl rfl ?_); refine aD ?_; exact rfl
 ·exact rfl
 ·exact rfl
 apply aN (s := 9) rfl rfl rfl
 ·intro hg; apply aL (s := 10) rfl (by (rw [hg]; rfl)); apply aL (s := 12) rfl (by (rw [hg]; rfl)); apply aO; (refine eS rfl (EL (Ef y hs l.bin) rfl rfl rfl rfl rfl rfl) rfl ?_); refine aD ?_; exact rfl
 ·exact rfl
 ·exact rfl
 refine dy rfl rfl (dA rfl (aD (aC (ay (bP rfl rfl ?_)))))
 all_goals exact b9 rfl rfl
set_option maxRecDepth 100000 in
theorem Jj (m : Move) : dK Tryz.prog 152 [Ty.agg (eD.tys m)] (Ty.bool (!decide (m.src = m.dst))) := by
 refine ah Tryz.func152 rfl (by decide) Tryz.ntmps152 (by exact Nat.le_of_ble_eq_true rfl) fun w0 M0 => ?_
 refine aE (aA (bD rfl (dA rfl (aD (aC (aE (aA ?_)))))))
 refine aH rfl rfl rfl rfl rfl (by decide) ?_
 refine aI rfl rfl rfl rfl ?_
 refine aH rfl rfl rfl rfl rfl (by decide) ?_
 refine aI rfl rfl rfl rfl (bB rfl rfl rfl (dA rfl (aD (aC (ay (bP rfl rfl ?_))))))
 all_goals exact b9 rfl rfl
set_option maxRecDepth 100000 in
theorem It (b : sX) : dK Tryz.prog 153 [Ty.agg (fC.tys b)] (Ty.bool (gL b.first)) := by
 refine ah Tryz.func153 rfl (by decide) Tryz.ntmps153 (by exact Nat.le_of_ble_eq_true rfl) fun w0 M0 => ?_
 refine aE (aA (bD rfl (dA rfl (aD (aC (aE (aA ?_)))))))
 refine aH rfl rfl rfl rfl rfl (by decide) ?_
 refine aX rfl rfl rfl (by exact Nat.le_of_ble_eq_true rfl) ?_
 refine af (xJ _) rfl rfl rfl rfl rfl (dA rfl (aD (aC (ay (bP rfl rfl ?_)))))
 all_goals exact b9 rfl rfl
set_option maxRecDepth 100000 in
theorem IN (m : Move) : dK Tryz.prog 155 [Ty.agg (eD.tys m)] (Ty.bool (gL m.sacks)) := by
 refine ah Tryz.func155 rfl (by decide) Tryz.ntmps155 (by exact Nat.le_of_ble_eq_true rfl) fun w0 M0 => ?_
 refine aE (aA (bD rfl (dA rfl (aD (aC (aE (aA ?_)))))))
 refine aH rfl rfl rfl rfl rfl (by decide) ?_
 refine aX rfl rfl rfl (by exact Nat.le_of_ble_eq_true rfl) ?_
 refine af (xJ _) rfl rfl rfl rfl rfl (dA rfl (aD (aC (ay (bP rfl rfl ?_)))))
 all_goals exact b9 rfl rfl
set_option maxRecDepth 100000 in
theorem Ff (l : Level) : dK Tryz.prog 156 [Ty.agg (dV.tys l)] (Ty.bool (gL l.sacks)) := by
 refine ah Tryz.func156 rfl (by decide) Tryz.ntmps156 (by exact Nat.le_of_ble_eq_true rfl) fun w0 M0 => ?_
 refine aE (aA (bD rfl (dA rfl (aD (aC (aE (aA ?_)))))))
 refine aH rfl rfl rfl rfl rfl (by decide) ?_
 refine aX rfl rfl rfl (by exact Nat.le_of_ble_eq_true rfl) ?_
 refine af (xJ _) rfl rfl rfl rfl rfl (dA rfl (aD (aC (ay (bP rfl rfl ?_)))))
 all_goals exact b9 rfl rfl
set_option maxRecDepth 100000 in
theorem lE (y : ak) (hs : y.Small) : dK Tryz.prog 70 [dn y] (Ty.int .i64 (bL y)) := by
 refine ah Tryz.func70 rfl (by decide) Tryz.ntmps70 (by exact Nat.le_of_ble_eq_true rfl) fun w0 M0 => ?_
 have hs1 := hs.bins
 have hs2 := hs.moves
 have hs3 := hs.levels
 refine aE (aA (bD rfl (bk rfl (aD (aC (aE (aA ?_)))))))
 refine aX rfl rfl rfl (by exact Nat.le_of_ble_eq_true rfl) ?_
 refine Fo (l := [dn y]) rfl ?_
 refine bp rfl (by exact List.cons_ne_nil _ _) rfl ?_
 refine cm rfl rfl (by decide) rfl rfl (by exact (rfl : _ = Ty.OW _ _)) rfl (by exact Nat.le_of_ble_eq_true rfl) rfl rfl (by exact (rfl : _ = [_])) ?_
 refine aD (aC (aE ?_))
 refine kK (tg := 4) [(3, Ty.pp [xT y])] (by decide) rfl ⟨l8 (T := 118) (tg := 4) (off := 0) (l := [xT y]) rfl rfl rfl (by decide), trivial⟩ ?_
 refine aA (dL rfl ?_)
 refine bp rfl (by exact List.cons_ne_nil _ _) rfl ?_
 refine cm rfl rfl (by decide) rfl rfl (by exact (rfl : _ = Ty.ju _ _)) rfl (by exact Nat.le_of_ble_eq_true rfl) rfl rfl (by exact (rfl : _ = [_])) ?_
 refine aD (aC (aE (aZ (aE ?_))))
 refine kK (tg := 5) [(4, Fb y)] (by decide) rfl ⟨l8 (T := 118) (tg := 5) (off := 0) (l := [Ty.ju 142 [Ty.pp [xT y]]]) rfl rfl rfl (by decide), trivial⟩ ?_
 refine aA ?_
 refine aH rfl rfl rfl rfl rfl (by decide) ?_
 refine aI rfl rfl rfl rfl (af (uX _ _ _) rfl rfl rfl rfl rfl (eN rfl (fB rfl ?_)))
 apply aN (s := 13) rfl rfl rfl
 ·intro hg; apply aO; (refine aH rfl rfl rfl rfl rfl (by decide) ?_); refine aD ?_; exact rfl
 ·exact rfl
 ·exact rfl
 apply aN (s := 13) rfl rfl rfl
 ·intro hg; apply aL (s := 14) rfl (by (rw [hg]; rfl)); apply aO; (refine aI rfl rfl rfl rfl ?_); refine aD ?_; exact rfl
 ·exact rfl
 ·exact rfl
 apply aN (s := 13) rfl rfl rfl
 ·intro hg; apply aL (s := 15) rfl (by (rw [hg]; rfl)); apply aO; (refine cK rfl rfl rfl ?_); refine aD ?_; exact rfl
 ·exact rfl
 ·exact rfl
 apply aN (s := 13) rfl rfl rfl
 ·intro hg; apply aL (s := 16) rfl (by (rw [hg]; rfl)); apply aO; (refine af (uX _ _ _) rfl rfl rfl rfl rfl ?_); refine aD ?_; exact rfl
 ·exact rfl
 ·exact rfl
 apply aN (s := 13) rfl rfl rfl
 ·intro hg; apply aL (s := 17) rfl (by (rw [hg]; rfl)); apply aO; (refine eN rfl ?_); refine aD ?_; exact rfl
 ·exact rfl
 ·exact rfl
 refine ig rfl rfl (fB rfl ?_)
 apply aN (s := 20) rfl rfl rfl
 ·intro hg; apply aO; (refine aH rfl rfl rfl rfl rfl (by decide) ?_); refine aD ?_; exact rfl
 ·exact rfl
 ·exact rfl
 apply aN (s := 20) rfl rfl rfl
 ·intro hg; apply aL (s := 21) rfl (by (rw [hg]; rfl)); apply aO; (refine aI rfl rfl rfl rfl ?_); refine aD ?_; exact rfl
 ·exact rfl
 ·exact rfl
 apply aN (s := 20) rfl rfl rfl
 ·intro hg; apply aL (s := 22) rfl (by (rw [hg]; rfl)); apply aO; (refine cK rfl rfl rfl ?_); refine aD ?_; exact rfl
 ·exact rfl
 ·exact rfl
 apply aN (s := 20) rfl rfl rfl
 ·intro hg; apply aL (s := 23) rfl (by (rw [hg]; rfl)); apply aO; (refine bB rfl rfl rfl ?_); refine aD ?_; exact rfl
 ·exact rfl
 ·exact rfl
 refine ig rfl rfl (fB rfl ?_)
 apply aN (s := 26) rfl rfl rfl
 ·intro hg; apply aO; (refine aH rfl rfl rfl rfl rfl (by decide) ?_); refine aD ?_; exact rfl
 ·exact rfl
 ·exact rfl
 apply aN (s := 26) rfl rfl rfl
 ·intro hg; apply aL (s := 27) rfl (by (rw [hg]; rfl)); apply aO; (refine aI rfl rfl rfl rfl ?_); refine aD ?_; exact rfl
 ·exact rfl
 ·exact rfl
 apply aN (s := 26) rfl rfl rfl
 ·intro hg; apply aL (s := 28) rfl (by (rw [hg]; rfl)); apply aO; (refine cK rfl rfl rfl ?_); refine aD ?_; exact rfl
 ·exact rfl
 ·exact rfl
 apply aN (s := 26) rfl rfl rfl
 ·intro hg; apply aL (s := 29) rfl (by (rw [hg]; rfl)); apply aO; (refine bB rfl rfl rfl ?_); refine aD ?_; exact rfl
 ·exact rfl
 ·exact rfl
 refine ig rfl rfl (dA rfl (aD (aC ?_)))
 refine cI rfl (fun hc1 => ?_) (fun hc1 => ?_)
 ·
  refine aE (aA (bk rfl (aD (aC (ay (bC (aS (bP rfl rfl ?_))))))))
  all_goals skip
  exact az rfl rfl (congrArg (Ty.int .i64) (by rw [bL, if_pos (show lZ y = true from hc1)]))
 refine aE ?_
 refine iy (B := live [(1, Ty.pp (bH y)), (3, Ty.pp [xT y]), (4, Fb y)] []) ?_ ?_
 ·(refine cx.mk' ?_ ?_ <;> (repeat' (first | exact aJ | exact aK | refine aB ?_ (Ty.aU _) | refine aB ?_ (Ty.aF _))))
 refine aA ?_
 refine aH rfl rfl rfl rfl rfl (by decide) ?_
 refine aI rfl rfl rfl rfl ?_
 refine af (tv y.bins (Ty.ju _ []) rfl (fun b => x6 b.holds 0 300 && fM b.first) rfl rfl fun b _ => dS (KM b) rfl rfl rfl rfl rfl rfl) rfl rfl rfl rfl rfl ?_
 refine eN rfl (dA rfl (aD (aC ?_)))
 refine cI rfl (fun hc2 => ?_) (fun hc2 => ?_)
 ·
  refine aE (aA (bk rfl (aD (aC (ay (bC (aS (bP rfl rfl ?_))))))))
  all_goals skip
  exact az rfl rfl (congrArg (Ty.int .i64) (by rw [bL, if_neg (ng (show lZ y = false from hc1)), if_pos (show ko y = true from hc2)]))
 refine aE (aA ?_)
 refine aH rfl rfl rfl rfl rfl (by decide) ?_
 refine aI rfl rfl rfl rfl ?_
 refine af (l6 y.moves (Ty.ju _ []) rfl (fun m => fM m.sacks) rfl rfl fun m _ => dS (HO m) rfl rfl rfl rfl rfl rfl) rfl rfl rfl rfl rfl ?_
 refine eN rfl (fB rfl ?_)
 apply aN (s := 42) rfl rfl rfl
 ·intro hg; apply aO; (refine aH rfl rfl rfl rfl rfl (by decide) ?_); refine aD ?_; exact rfl
 ·exact rfl
 ·exact rfl
 apply aN (s := 42) rfl rfl rfl
 ·intro hg; apply aL (s := 43) rfl (by (rw [hg]; rfl)); apply aO; (refine aI rfl rfl rfl rfl ?_); refine aD ?_; exact rfl
 ·exact rfl
 ·exact rfl
 apply aN (s := 42) rfl rfl rfl
 ·intro hg; apply aL (s := 44) rfl (by (rw [hg]; rfl)); apply aO; (refine af (oW y.levels (Ty.ju _ []) rfl (fun l => fM l.sacks) rfl rfl fun l _ => dS (Hq l) rfl rfl rfl rfl rfl rfl) rfl rfl rfl rfl rfl ?_); refine aD ?_; exact rfl
 ·exact rfl
 ·exact rfl
 apply aN (s := 42) rfl rfl rfl
 ·intro hg; apply aL (s := 45) rfl (by (rw [hg]; rfl)); apply aO; (refine eN rfl ?_); refine aD ?_; exact rfl
 ·exact rfl
 ·exact rfl
 refine ig rfl rfl (dA rfl (aD (aC ?_)))
 refine cI rfl (fun hc3 => ?_) (fun hc3 => ?_)
 ·
  refine aE (aA (bk rfl (aD (aC (ay (bC (aS (bP rfl rfl ?_))))))))
  all_goals skip
  exact az rfl rfl (congrArg (Ty.int .i64) (by rw [bL, if_neg (ng (show lZ y = false from hc1)), if_neg (ng (show ko y = false from hc2)), if_pos (show jZ y = true from hc3)]))
 refine aE ?_
 refine iy (B := live [(1, Ty.pp (bH y)), (3, Ty.pp [xT y]), (4, Fb y)] []) ?_ ?_
 ·(refine cx.mk' ?_ ?_ <;> (repeat' (first | exact aJ | exact aK | refine aB ?_ (Ty.aU _) | refine aB ?_ (Ty.aF _))))
 have hd := Gq hc1
 refine aA ?_
 refine aH rfl rfl rfl rfl rfl (by decide) ?_
 refine aI rfl rfl rfl rfl (dL rfl ?_)
 refine af (l6 y.moves (Ty.ju _ [Ty.pp (bH y), Fb y]) rfl (fun m => (x6 m.day 0 (y.days - 1) && y.fin m.src) && y.fin m.dst) rfl rfl fun m _ => dS (Kj y hs hd m) rfl rfl rfl rfl rfl rfl) rfl rfl rfl rfl rfl ?_
 refine eN rfl (dA rfl (aD (aC ?_)))
 refine cI rfl (fun hc4 => ?_) (fun hc4 => ?_)
 ·
  refine aE (aA (bk rfl (aD (aC (ay (bC (aS (bP rfl rfl ?_))))))))
  all_goals skip
  exact az rfl rfl (congrArg (Ty.int .i64) (by rw [bL, if_neg (ng (show lZ y = false from hc1)), if_neg (ng (show ko y = false from hc2)), if_neg (ng (show jZ y = false from hc3)), if_pos (show xP y = true from hc4)]))
 refine aE (aA ?_)
 refine aH rfl rfl rfl rfl rfl (by decide) ?_
 refine aI rfl rfl rfl rfl (dL rfl ?_)
 refine af (oW y.levels (Ty.ju _ [Ty.pp (bH y), Ty.pp [xT y]]) rfl (fun l => y.time l.day && y.bin l.bin) rfl rfl fun l _ => dS (Jd y hs l) rfl rfl rfl rfl rfl rfl) rfl rfl rfl rfl rfl ?_
 refine eN rfl (dA rfl (aD (aC ?_)))
 refine cI rfl (fun hc5 => ?_) (fun hc5 => ?_)
 ·
  refine aE (aA (bk rfl (aD (aC (ay (bC (aS (bP rfl rfl ?_))))))))
  all_goals skip
  exact az rfl rfl (congrArg (Ty.int .i64) (by rw [bL, if_neg (ng (show lZ y = false from hc1)), if_neg (ng (show ko y = false from hc2)), if_neg (ng (show jZ y = false from hc3)), if_neg (ng (show xP y = false from hc4)), if_pos (show rZ y = true from hc5)]))
 refine aE ?_
 refine iy (B := live [(1, Ty.pp (bH y)), (3, Ty.pp [xT y]), (4, Fb y)] []) ?_ ?_
 ·(refine cx.mk' ?_ ?_ <;> (repeat' (first | exact aJ | exact aK | refine aB ?_ (Ty.aU _) | refine aB ?_ (Ty.aF _))))
 refine aA ?_
 refine aH rfl rfl rfl rfl rfl (by decide) ?_
 refine aI rfl rfl rfl rfl ?_
 refine af (l6 y.moves (Ty.ju _ []) rfl (fun m => !decide (m.src = m.dst)) rfl rfl fun m _ => dS (Jj m) rfl rfl rfl rfl rfl rfl) rfl rfl rfl rfl rfl ?_
 refine eN rfl (dA rfl (aD (aC ?_)))
 refine cI rfl (fun hc6 => ?_) (fun hc6 => ?_)
 ·
  refine aE (aA (bk rfl (aD (aC (ay (bC (aS (bP rfl rfl ?_))))))))
  all_goals skip
  exact az rfl rfl (congrArg (Ty.int .i64) (by rw [bL, if_neg (ng (show lZ y = false from hc1)), if_neg (ng (show ko y = false from hc2)), if_neg (ng (show jZ y = false from hc3)), if_neg (ng (show xP y = false from hc4)), if_neg (ng (show rZ y = false from hc5)), if_pos (show rD y = true from hc6)]))
 refine aE (aA ?_)
 refine aH rfl rfl rfl rfl rfl (by decide) ?_
 refine aI rfl rfl rfl rfl ?_
 refine af (tv y.bins (Ty.ju _ []) rfl (fun b => gL b.first) rfl rfl fun b _ => dS (It b) rfl rfl rfl rfl rfl rfl) rfl rfl rfl rfl rfl ?_
 refine eN rfl (fB rfl ?_)
 apply aN (s := 70) rfl rfl rfl
 ·intro hg; apply aO; (refine aH rfl rfl rfl rfl rfl (by decide) ?_); refine aD ?_; exact rfl
 ·exact rfl
 ·exact rfl
 apply aN (s := 70) rfl rfl rfl
 ·intro hg; apply aL (s := 71) rfl (by (rw [hg]; rfl)); apply aO; (refine aI rfl rfl rfl rfl ?_); refine aD ?_; exact rfl
 ·exact rfl
 ·exact rfl
 apply aN (s := 70) rfl rfl rfl
 ·intro hg; apply aL (s := 72) rfl (by (rw [hg]; rfl)); apply aO; (refine af (l6 y.moves (Ty.ju _ []) rfl (fun m => gL m.sacks) rfl rfl fun m _ => dS (IN m) rfl rfl rfl rfl rfl rfl) rfl rfl rfl rfl rfl ?_); refine aD ?_; exact rfl
 ·exact rfl
 ·exact rfl
 apply aN (s := 70) rfl rfl rfl
 ·intro hg; apply aL (s := 73) rfl (by (rw [hg]; rfl)); apply aO; (refine eN rfl ?_); refine aD ?_; exact rfl
 ·exact rfl
 ·exact rfl
 refine ig rfl rfl (fB rfl ?_)
 apply aN (s := 76) rfl rfl rfl
 ·intro hg; apply aO; (refine aH rfl rfl rfl rfl rfl (by decide) ?_); refine aD ?_; exact rfl
 ·exact rfl
 ·exact rfl
 apply aN (s := 76) rfl rfl rfl
 ·intro hg; apply aL (s := 77) rfl (by (rw [hg]; rfl)); apply aO; (refine aI rfl rfl rfl rfl ?_); refine aD ?_; exact rfl
 ·exact rfl
 ·exact rfl
 apply aN (s := 76) rfl rfl rfl
 ·intro hg; apply aL (s := 78) rfl (by (rw [hg]; rfl)); apply aO; (refine af (oW y.levels (Ty.ju _ []) rfl (fun l => gL l.sacks) rfl rfl fun l _ => dS (Ff l) rfl rfl rfl rfl rfl rfl) rfl rfl rfl rfl rfl ?_); refine aD ?_; exact rfl
 ·exact rfl
 ·exact rfl
 apply aN (s := 76) rfl rfl rfl
 ·intro hg; apply aL (s := 79) rfl (by (rw [hg]; rfl)); apply aO; (refine eN rfl ?_); refine aD ?_; exact rfl
 ·exact rfl
 ·exact rfl
 refine ig rfl rfl (dA rfl (aD (aC ?_)))
 refine cI rfl (fun hc7 => ?_) (fun hc7 => ?_)
 ·
  refine aE (aA (bk rfl (aD (aC (ay (bC (aS (bP rfl rfl ?_))))))))
  all_goals skip
  exact az rfl rfl (congrArg (Ty.int .i64) (by rw [bL, if_neg (ng (show lZ y = false from hc1)), if_neg (ng (show ko y = false from hc2)), if_neg (ng (show jZ y = false from hc3)), if_neg (ng (show xP y = false from hc4)), if_neg (ng (show rZ y = false from hc5)), if_neg (ng (show rD y = false from hc6)), if_pos (show tH y = true from hc7)]))
 refine aq (bI (aC (aE (aA (bk rfl (aD (aC (ay (bP rfl rfl ?_)))))))))
 all_goals skip
 exact az rfl rfl (congrArg (Ty.int .i64) (by rw [bL, if_neg (ng (show lZ y = false from hc1)), if_neg (ng (show ko y = false from hc2)), if_neg (ng (show jZ y = false from hc3)), if_neg (ng (show xP y = false from hc4)), if_neg (ng (show rZ y = false from hc5)), if_neg (ng (show rD y = false from hc6)), if_neg (ng (show tH y = false from hc7))]))
set_option maxRecDepth 100000 in
theorem AO (y : ak) (hs : y.Small) (k : Int) : dK Tryz.prog 90 [dn y, Ty.int .i64 k] (Ty.int .i64 (dU y k)) := by
 refine ah Tryz.func90 rfl (by decide) Tryz.ntmps90 (by exact Nat.le_of_ble_eq_true rfl) fun w0 M0 => ?_
 refine aE (aA (bD rfl (bk rfl (aD (aC (aE (aA ?_)))))))
 refine aX rfl rfl rfl (by exact Nat.le_of_ble_eq_true rfl) ?_
 refine af (lE y hs) rfl rfl rfl rfl rfl (bk rfl (aD (aC (aE (aE (aA (bG rfl (bB rfl rfl rfl (fB rfl ?_)))))))))
 apply aN (s := 10) rfl rfl rfl
 ·intro hg; apply aO; (refine aX rfl rfl rfl (by exact Nat.le_of_ble_eq_true rfl) ?_); refine aD ?_; exact rfl
 ·exact rfl
 ·exact rfl
 apply aN (s := 10) rfl rfl rfl
 ·intro hg; apply aO; (refine bG rfl ?_); refine aD ?_; exact rfl
 ·exact rfl
 ·exact rfl
 apply aN (s := 10) rfl rfl rfl
 ·intro hg; apply aL (s := 11) rfl (by (rw [hg]; rfl)); apply aL (s := 12) rfl (by (rw [hg]; rfl)); apply aO; (refine af (Ef y hs _) rfl rfl rfl rfl rfl ?_); refine aD ?_; exact rfl
 ·exact rfl
 ·exact rfl
 apply aN (s := 10) rfl rfl rfl
 ·intro hg; apply aL (s := 13) rfl (by (rw [hg]; rfl)); apply aO; (refine eN rfl ?_); refine aD ?_; exact rfl
 ·exact rfl
 ·exact rfl
 refine dy rfl rfl (aD (aC ?_))
 refine cI rfl (fun hc1 => ?_) (fun hc1 => ?_)
 ·
  refine aA (bk rfl (aD (aC (aE (aA (bG rfl (bk rfl (aD (aC ?_)))))))))
  refine ay (bP rfl rfl ?_)
  all_goals skip
  all_goals exact az rfl rfl (congrArg (Ty.int .i64) (Gx hc1))
 refine aq (aC (aE (aA (bG rfl (bk rfl (aD (aC (ay (bP rfl rfl ?_)))))))))
 all_goals skip
 all_goals exact az rfl rfl (congrArg (Ty.int .i64) (G1 hc1))
end Go.Proofs.YtelbollidfdcjaaGreat
namespace Go.T
open Go Go.RowKit
def qg (A : As) (L : List Nat) (s t : Ty) : Prop := ∀ w M v, Wf w M → (∀ x ∈ A.tags, x.1 ∈ L → x.2.den w M x.1) → s.den w M v → t.den w (qS M L) v
def n6 (A : As) (L : List Nat) : List Ty → List Ty → Prop
  | [], [] => True
  | s :: ss, t :: ts => qg A L s t ∧ n6 A L ss ts
  | _, _ => False
theorem cN {A : As} {L : List Nat} : n6 A L [] [] := trivial
theorem aW {A : As} {L : List Nat} {s t : Ty} {ss ts : List Ty} (h : qg A L s t) (h' : n6 A L ss ts) : n6 A L (s :: ss) (t :: ts) := ⟨h, h'⟩
theorem og {A : As} {L : List Nat} {w : World} {M : bA} (wf : Wf w M) (ht : ∀ x ∈ A.tags, x.1 ∈ L → x.2.den w M x.1) : ∀ {ss ts : List Ty} {vs : List Value}, n6 A L ss ts → cB w M ss vs → cB w (qS M L) ts vs
  | [], [], [], _, _ => trivial
  | _ :: _, _ :: _, _ :: _, ⟨h, h'⟩, ⟨h1, h2⟩ => ⟨h _ _ _ wf ht h1, og wf ht h' h2⟩
theorem bT {A : As} {L : List Nat} {s t : Ty} (h : ON L s t) : qg A L s t := fun w M v wf _ hd => h w M v wf hd
theorem yP {A : As} {L : List Nat} {ss ts : List Ty} (h : n6 A L ss ts) : qg A L (Ty.agg ss) (Ty.agg ts) := fun _ _ _ wf ht ⟨cs, e, hd⟩ => ⟨cs, e, og wf ht h hd⟩
theorem jV {A : As} {L : List Nat} {α : Type} {E : El α} {T tg n : Nat} {xs : List α} (hc : A.tag tg = some (.vec E T xs)) (hn : xs.length = n) (h1 : fj tg) (hL : L.contains tg = true) : qg A L (.vs tg n) (.sl E xs) := fun w M v wf ht hd => by
 have hL' : tg ∈ L := by simpa using hL
 have hv : fS E T xs w M tg := ht _ (cZ hc) hL'
 subst hn
 rcases hd with ⟨h0, rfl⟩ | ⟨b, cc, hb, e, hn1, hn2⟩
 ·exact ⟨none, 0, by rw [h0], by omega, by simp [maxLen], fun h => absurd h (by omega)⟩
 refine ⟨_, cc, e, hn1, hn2, fun _ => ⟨b, 0, rfl, zV hb hL', wf.lt b _ hb, fun i t hi => ?_⟩⟩
 obtain ⟨u, hu, hdu⟩ := nD wf h1 hb hv hi
 refine ⟨u, by rw [Nat.zero_add]; exact hu, t.mono (S := fun _ => True) (K := fun _ => True) (w := w) ⟨Nat.le_refl _, rfl, rfl, rfl, fun b _ hm => ⟨jN hm, rfl⟩, fun b t _ h => absurd trivial h⟩ ?_ ?_ hdu⟩
 ·intro u hu
  have : u ∈ bw (xs.flatMap E.tys) := List.mem_flatMap.2 ⟨t, List.mem_of_getElem? hi, hu⟩
  rw [E.cV] at this; cases this
 intro u hu
 have : u ∈ bX (xs.flatMap E.tys) := List.mem_flatMap.2 ⟨t, List.mem_of_getElem? hi, hu⟩
 rw [E.cO] at this; cases this
section
variable {P : Program} {fr : Fr} {ops : Array Oper} {A : As} {rest : List Oper} {K : As → List (As × Fx) → Prop} {d : Nat} {t ty' : TypeId} {p : String} {e : Array Edge} {Q : Exit → Act → World → Prop} {c : Code}
theorem eI (L : List Nat) {f : FuncId} {args : List Ty} {res : Ty} (hF : dK P f args res) {xs : List Operand} {ats : Array TypeId} {ss : List Ty} (hx : oK A fr xs = ss) (hl : n6 A L ss args) (hp : res.Plain)
 (h : au P fr ops rest (A.set d res) fun A' l => K A' ((A, { d := some d, ty := res, rs := xs.flatMap cC, rt := L }) :: l)) : au P fr ops (⟨some d, .call ⟨.value (.func f), xs.toArray, ats⟩, t, p, e, none⟩ :: rest) A K := by
 refine ⟨{ d := some d, ty := res, rs := xs.flatMap cC, rt := L }, ⟨rfl, by simp, by simp, by simp, fun a w M wf _ hrd htg => ?_⟩, h⟩
 rw [if_pos (by simp [Region.wanted])]
 have hv : cB w M ss (xs.map a.eval) := hx ▸ gp hrd fun x hx c hc => List.mem_flatMap.2 ⟨x, hx, hc⟩
 have hc := hF.2 w _ _ (Ku (L := L) wf) sj (og wf htg hl hv)
 have hrun : (execOp a.eval ⟨some d, .call ⟨.value (.func f), xs.toArray, ats⟩, t, p, e, none⟩).run P w = .ok (.enter f (xs.map a.eval).toArray) w := by
  simp [execOp, resolve, Act.eval, Deferred.ofValue, invoke, n5 hF]
 refine l9 hrun ?_
 refine hc.mono fun en w' ⟨r, M', he, wf', le, hden⟩ => ?_
 obtain ⟨h1, h2, h3⟩ := Dh wf le hp hden
 exact ⟨r, he, r, rfl, _, h1, h2, h3, by simp⟩
end
section
open Go.RowKit
variable {P : Program} {A : As} {fn : Func} {n : Nat} {w0 : World} {M0 : bA} {F : List Nat} {post : List (Nat × Cont)} [T : kZ P]
end
section
variable {P : Program} {fr : Fr} {ops : Array Oper} {A : As} {rest : List Oper} {K : As → List (As × Fx) → Prop} {d : Nat} {t ty' : TypeId} {p : String} {e : Array Edge} [T : kZ P]
def Px (w : World) (M : bA) (J : Nat) (v : Value) : Prop := v = .slice none 0 0 ∨ ∃ g n c cur T, v = .slice (some ⟨g, 0, none⟩) n c ∧ M g = some J ∧ w.heap[g]? = some (.cells cur T (0, 0)) ∧ n ≤ cur.size
def Cont.fit (vs : List Value) : Cont :=
  { den := fun w M J => ∀ v ∈ vs, Px w M J v
    mono := fun le _ _ hs hk h v hv => (h v hv).imp id fun ⟨g, n, c, cur, T, e, hg, hh, hn⟩ => let ⟨h1, h2⟩ := le.own g _ hg hk
      ⟨g, n, c, cur, T, e, h1, (h2 hs).trans hh, hn⟩ }
end
instance : Inhabited {v : Value // v.oneCell' = true} := ⟨⟨.bool true, rfl⟩⟩
section
variable {P : Program} {fr : Fr} {A : As} {Q : Exit → Act → World → Prop} {code : Code}
end
end Go.T
namespace Go.T
open Go Go.RowKit
def uI {α : Type} (E : El α) (T J : Nat) (xs : List α) (w : World) (M : bA) (v : Value) : Prop :=
  (xs = [] ∧ v = .slice none 0 0) ∨ ∃ g off c cur, v = .slice (some ⟨g, off, none⟩) xs.length c ∧ M g = some J ∧ w.heap[g]? = some (.cells cur T (0, 0)) ∧ xs.length ≤ c ∧ c ≤ maxLen ∧ off + c * E.size ≤ cur.size ∧ cB w M (xs.flatMap E.tys) ((cur.toList.drop off).take (xs.length * E.size))
def Ty.fP {α : Type} (E : El α) (T J : Nat) (xs : List α) : Ty :=
  ⟨uI E T J xs, [J], [J], fun le hk hs h => h.imp id fun ⟨g, off, c, cur, e, hg, hh, h1, h2, h3, h4⟩ =>
    let ⟨a, b⟩ := le.own g J hg (hk J (by simp))
    ⟨g, off, c, cur, e, a, (b (hs J (by simp))).trans hh, h1, h2, h3, bf le (by rw [E.cV]; intro _ h; cases h) (by rw [E.cO]; intro _ h; cases h) h4⟩, true, fun _ h => by
      rcases h with ⟨_, rfl⟩ | ⟨_, _, _, _, rfl, _⟩ <;> rfl⟩
def jM (size : Nat) : Value → Option (Nat × Nat)
  | .slice (some a) n _ => some (a.block, a.off + n * size)
  | _ => none
def roomy : Value → Bool
  | .slice _ n c => Nat.blt n c
  | _ => false
section
variable {κ α : Type} [DecidableEq κ]
def y6 (size : Nat) (vs : List Value) : Prop := ∀ (i j : Nat) (v u : Value) (g e e' : Nat), vs[i]? = some v → vs[j]? = some u → jM size v = some (g, e) → jM size u = some (g, e') → i = j
def QO (enc : κ → Value) (E : El α) (T J : Nat) (q : List (κ × List α)) (w : World) (M : bA) (t : Nat) : Prop :=
  (q.map Prod.fst).Nodup ∧ ∃ b es clock, M b = some t ∧ w.heap[b]? = some (.map es clock) ∧ es.toList.map (·.key) = q.map (fun x => enc x.1) ∧ cB w M (q.map fun x => Ty.fP E T J x.2) (es.toList.map (·.val)) ∧ y6 E.size (es.toList.map (·.val))
omit [DecidableEq κ] in
theorem tF {E : El α} {T J : Nat} {q : List (κ × List α)} : (∀ u ∈ bw (q.map fun x => Ty.fP E T J x.2), u = J) ∧ ∀ u ∈ bX (q.map fun x => Ty.fP E T J x.2), u = J := by
 constructor <;>
 ·intro u hu
  simp only [bw, bX, List.mem_flatMap, List.mem_map] at hu
  obtain ⟨t, ⟨x, _, rfl⟩, hu⟩ := hu
  simpa [Ty.fP] using hu
def Cont.mr (enc : κ → Value) (E : El α) (T J : Nat) (q : List (κ × List α)) : Cont :=
  { den := QO enc E T J q, deps := [J], cdeps := [J]
    mono := fun le hk hs hst hkt ⟨hn, b, es, clock, h1, h2, h3, h4, h5⟩ => let ⟨a, c⟩ := le.own b _ h1 hkt
      ⟨hn, b, es, clock, a, (c hst).trans h2, h3, bf le (fun u hu => by rw [tF.1 u hu]; exact hk J (by simp)) (fun u hu => by rw [tF.2 u hu]; exact hs J (by simp)) h4, h5⟩ }
omit [DecidableEq κ] in
theorem Cont.tQ {enc : κ → Value} {E : El α} {T J : Nat} {q q' : List (κ × List α)} (h : q = q') : (Cont.mr enc E T J q).Sub (Cont.mr enc E T J q') := h ▸ Cont.aF _
def P2 (size t : Nat) (q : List (κ × List α)) (k : κ) (w : World) (M : bA) (v : Value) : Prop :=
  ∀ (g e0 : Nat), jM size v = some (g, e0) → ∃ (b : Nat) (es : Array MapEntry) (clock : Nat), M b = some t ∧ w.heap[b]? = some (.map es clock) ∧ ∀ (j : Nat) (u : Value) (e1 : Nat), (es.toList.map (·.val))[j]? = some u → jM size u = some (g, e1) → (q[j]?).map Prod.fst = some k ∧ (roomy v = true → e1 ≤ e0)
def QH (E : El α) (T t J : Nat) (q : List (κ × List α)) (k : κ) (xs : List α) (w : World) (M : bA) (v : Value) : Prop := uI E T J xs w M v ∧ P2 E.size t q k w M v
def Ty.qv (E : El α) (T t J : Nat) (q : List (κ × List α)) (k : κ) (xs : List α) : Ty :=
  ⟨QH E T t J q k xs, [t, J], [t, J], fun le hk hs ⟨h, h'⟩ => ⟨(Ty.fP E T J xs).mono le (fun u hu => hk u (by simp [Ty.fP] at hu ⊢; exact .inr hu)) (fun u hu => hs u (by simp [Ty.fP] at hu ⊢; exact .inr hu)) h, fun g e0 he =>
    let ⟨b, es, clock, h1, h2, h3⟩ := h' g e0 he
    let ⟨a, c⟩ := le.own b t h1 (hk t (by simp))
    ⟨b, es, clock, a, (c (hs t (by simp))).trans h2, h3⟩⟩, true, fun ho h => (Ty.fP E T J xs).isOne ho h.1⟩
omit [DecidableEq κ] in
theorem Bf (q : List (κ × List α)) (hn : (q.map Prod.fst).Nodup) {i j : Nat} {k : κ} (hi : (q[i]?).map Prod.fst = some k) (hj : (q[j]?).map Prod.fst = some k) : i = j := by
 rw [← List.getElem?_map] at hi hj
 obtain ⟨h1, e1⟩ := List.getElem?_eq_some_iff.1 hi
 obtain ⟨h2, e2⟩ := List.getElem?_eq_some_iff.1 hj
 exact (List.getElem_inj hn).1 (e1.trans e2.symm)
theorem AV {q : List (κ × List α)} {k : κ} {i : Nat} (h : (q.map Prod.fst).findIdx? (fun x => decide (x = k)) = some i) : (q[i]?).map Prod.fst = some k := by
 obtain ⟨v, hv, _⟩ := oX q k i h
 rw [hv]; rfl
theorem GV (q : List (κ × List α)) (k : κ) (v : List α) (hn : (q.map Prod.fst).Nodup) : ((gu q k v).map Prod.fst).Nodup := by
  cases hi : (q.map Prod.fst).findIdx? (fun x => decide (x = k)) with
  | some i =>
    obtain ⟨u, hu, _, hp⟩ := oX q k i hi
    rw [hp, List.map_set]
    have : (q.map Prod.fst).set i k = q.map Prod.fst := by
      apply List.ext_getElem?
      intro j
      rw [List.getElem?_set]
      by_cases e : i = j
      · subst e
        have hlt := (List.getElem?_eq_some_iff.1 hu).1
        rw [if_pos rfl, if_pos (by simpa using hlt), List.getElem?_map, hu]; rfl
      · rw [if_neg e]
    rw [this]; exact hn
  | none =>
    obtain ⟨_, hp⟩ := pz q k hi
    rw [hp, List.map_append, List.nodup_append]
    refine ⟨hn, by simp, fun a ha b hb => ?_⟩
    simp only [List.map_cons, List.map_nil, List.mem_singleton] at hb
    subst hb
    intro e
    subst e
    rw [List.findIdx?_eq_none_iff] at hi
    have := hi a ha
    simp at this
end
section
variable {P : Program} {fr : Fr} {ops : Array Oper} {A : As} {rest : List Oper} {K : As → List (As × Fx) → Prop} {d : Nat} {t ty' mt kt et : TypeId} {p : String} {e : Array Edge}
variable {κ α : Type} [DecidableEq κ] {E : El α} {Tb J tg : Nat} {q : List (κ × List α)} {k : κ} {xs ys : List α}
omit [DecidableEq κ] in
theorem Mi {x : Operand} {enc : κ → Value} (hx : A.op fr x = .mp tg) (hc : A.tag tg = some (.mr enc E Tb J q)) (h1 : fj tg) {a : Act} {w : World} {M : bA} {rs : List Nat} (wf : Wf w M) (hr : ∀ c ∈ cC x, c ∈ rs) (hrd : ∀ c ∈ rs, c < fr.n → (A.slots c).den w M (a.tmps.getD c undef)) (htg : ∀ y ∈ A.tags, y.1 ∈ [tg] → y.2.den w M y.1) :
 (q.map Prod.fst).Nodup ∧ ∃ b es clock, a.eval x = .map (some b) ∧ M b = some tg ∧ w.heap[b]? = some (.map es clock) ∧ es.toList.map (·.key) = q.map (fun x => enc x.1) ∧ cB w M (q.map fun x => Ty.fP E Tb J x.2) (es.toList.map (·.val)) ∧ y6 E.size (es.toList.map (·.val)) := by
 have hxd := cR hr hrd
 rw [hx] at hxd
 obtain ⟨b, e1, e2⟩ := hxd
 obtain ⟨hn, b', es, clock, h2, h3⟩ := htg _ (cZ hc) (by simp)
 obtain ⟨u, rfl⟩ : ∃ u, tg = u + 1 := ⟨tg - 1, by omega⟩
 have : b = b' := wf.inj b b' u (by omega) e2 h2
 subst this
 exact ⟨hn, b, es, clock, e1, e2, h3⟩
theorem CW {es : Array MapEntry} {i : Nat} {en : MapEntry} (h : es[i]? = some en) : (es.toList.map (·.val))[i]? = some en.val := by
 rw [List.getElem?_map, Array.getElem?_toList, h]; rfl
omit [DecidableEq κ] in
theorem Di (enc : κ → Value) (E : El α) (Tb J : Nat) (hm : mapOf P mt = some (kt, et)) (hp : fr.pass.contains (d + 1) = false)
 (h : au P fr ops rest (A.after { d := some d, ty := .mp (d + 1), K := [d + 1], sets := [(d + 1, .mr enc E Tb J [])] }) fun A' l' => K A' ((A, { d := some d, ty := .mp (d + 1), K := [d + 1], sets := [(d + 1, .mr enc E Tb J [])] }) :: l')) :
 au P fr ops (⟨some d, .makeMap mt none, t, p, e, none⟩ :: rest) A K := by
 refine ⟨_, fZ rfl rfl (by simp) (by simp) (by simp at hp ⊢; exact hp) fun a w M wf _ _ => ?_, h⟩
 have hrun : (execOp a.eval ⟨some d, .makeMap mt none, t, p, e, none⟩).run P w = .ok (.value (.map (some w.heap.size))) (w.alloc (.map #[] 0)) := by
  simp [execOp, Instr.makeMap, newObj, Sem.run]
 obtain ⟨h1, h2, h3⟩ := jY wf (.map #[] 0) (d + 1)
 refine ⟨_, _, hrun, _, h1, h2, ⟨_, rfl, h3⟩, fun x hx => ?_⟩
 rw [List.mem_singleton.1 hx]
 exact ⟨by simp, w.heap.size, #[], 0, h3, gO _ _, rfl, trivial, fun i j v u g e e' hi => by simp at hi⟩
theorem yK {x y : Operand} {kty : Ty} (KK : xU P kt κ) (hx : A.op fr x = .mp tg) (hc : A.tag tg = some (.mr KK.enc E Tb J q)) (h1 : fj tg) (hy : A.op fr y = kty) (hk : tj kty (KK.enc k)) (hm : mapOf P mt = some (kt, et)) (hz : zeroOf P et = some (.slice none 0 0))
 (h : au P fr ops rest (A.set d (.qv E Tb tg J q k ((eZ q k).getD []))) fun A' l' => K A' ((A, { d := some d, ty := .qv E Tb tg J q k ((eZ q k).getD []), rs := cC x ++ cC y, rt := [tg] }) :: l')) :
 au P fr ops (⟨some d, .lookup mt x y false, t, p, e, none⟩ :: rest) A K :=
 bJ (bS rfl rfl fun a w M wf hrd htg => by
  obtain ⟨hn, b, es, clock, e1, e2, h3, h4, h5, h6⟩ := Mi hx hc h1 wf (fun c hc => List.mem_append_left _ hc) hrd htg
  have hyd := cR (fun c hc => List.mem_append_right (cC x) hc) hrd
  rw [hy] at hyd
  have hu := pY hm
  rcases rX KK h4 h5 k with ⟨i, v, en, hi, hg, hen, _, hd, hf⟩ | ⟨_, hg, hf⟩
  ·refine ⟨en.val, ?_, by rw [hg]; exact hd, fun g e0 he => ⟨b, es, clock, e2, h3, fun j u e1 hj hju => ?_⟩⟩
   ·simp only [execOp, e1, hk _ _ _ hyd]
    simp [Instr.lookup, underlying, hu, getObj, Sem.run, h3, KK.check, hf]
   have hij := h6 i j en.val u g e0 e1 (CW hen) hj he hju
   subst hij
   rw [CW hen] at hj
   injection hj with hj
   subst hj
   rw [he] at hju
   injection hju with hju
   injection hju with _ hju
   exact ⟨AV hi, fun _ => by omega⟩
  refine ⟨.slice none 0 0, ?_, by rw [hg]; exact .inl ⟨rfl, rfl⟩, fun g e0 he => by simp [jM] at he⟩
  simp only [execOp, e1, hk _ _ _ hyd]
  simp [Instr.lookup, underlying, hu, getObj, Sem.run, h3, KK.check, hf, w6 hz]) h
theorem zL {x y z : Operand} {kty : Ty} (KK : xU P kt κ) (hx : A.op fr x = .mp tg) (hc : A.tag tg = some (.mr KK.enc E Tb J q)) (h1 : fj tg) (hy : A.op fr y = kty) (hk : tj kty (KK.enc k)) (hz : A.op fr z = .qv E Tb tg J q k xs) (hm : mapOf P mt = some (kt, et)) (hJ : Nat.beq J tg = false)
 (h : au P fr ops rest (A.after { d := none, S := [tg], sets := [(tg, .mr KK.enc E Tb J (gu q k xs))], rs := cC x ++ (cC y ++ cC z), rt := [tg] }) fun A' l' => K A' ((A, { d := none, S := [tg], sets := [(tg, .mr KK.enc E Tb J (gu q k xs))], rs := cC x ++ (cC y ++ cC z), rt := [tg] }) :: l')) :
 au P fr ops (⟨none, .mapUpdate mt x y z, t, p, e, none⟩ :: rest) A K := by
 have hJ' : J ≠ tg := fun h => by subst h; simp at hJ
 refine ⟨_, lR rfl rfl rfl (by simp) (by simpa using h1.1) (by simp) fun a w M wf hrd htg => ?_, h⟩
 obtain ⟨hn, b, es, clock, e1, e2, h3, h4, h5, h6⟩ := Mi hx hc h1 wf (fun c hc => List.mem_append_left _ hc) hrd htg
 have hyd := cR (fun c hc => List.mem_append_right (cC x) (List.mem_append_left (cC z) hc)) hrd
 have hzd := cR (fun c hc => List.mem_append_right (cC x) (List.mem_append_right (cC y) hc)) hrd
 rw [hy] at hyd
 rw [hz] at hzd
 obtain ⟨hrow, hown⟩ := hzd
 have hu := pY hm
 have hblt : b < w.heap.size := wf.lt b _ e2
 have own' : ∀ (g e0 : Nat), jM E.size (a.eval z) = some (g, e0) → ∀ (j : Nat) (u : Value) (e' : Nat), (es.toList.map (·.val))[j]? = some u → jM E.size u = some (g, e') → (q[j]?).map Prod.fst = some k := fun g e0 he j u e' hj hju => by
  obtain ⟨b', es', c', g1, g2, g3⟩ := hown g e0 he
  obtain ⟨u', rfl⟩ : ∃ u, tg = u + 1 := ⟨tg - 1, by omega⟩
  have : b = b' := wf.inj b b' u' (by omega) e2 g1
  subst this
  rw [h3] at g2
  injection g2 with g2
  injection g2 with g2 g4
  subst g2
  exact (g3 j u e' hj hju).1
 have fin : ∀ (es' : Array MapEntry) (clock' : Nat), es'.toList.map (·.key) = (gu q k xs).map (fun x => KK.enc x.1) → cB w M ((gu q k xs).map fun x => Ty.fP E Tb J x.2) (es'.toList.map (·.val)) → y6 E.size (es'.toList.map (·.val)) →
  (Instr.mapUpdate mt (.map (some b)) (KK.enc k) (a.eval z)).run P w = .ok () { w with heap := w.heap.setIfInBounds b (.map es' clock') } →
  ∃ w', (execOp a.eval ⟨none, .mapUpdate mt x y z, t, p, e, none⟩).run P w = .ok .skip w' ∧ Fx.left { d := none, S := [tg], sets := [(tg, .mr KK.enc E Tb J (gu q k xs))], rs := cC x ++ (cC y ++ cC z), rt := [tg] } w M w' undef := by
  intro es' clock' hk' hd' hap hrun
  have hr : (execOp a.eval ⟨none, .mapUpdate mt x y z, t, p, e, none⟩).run P w = .ok .skip { w with heap := w.heap.setIfInBounds b (.map es' clock') } := by
   simp only [execOp, e1, hk _ _ _ hyd]
   simp [hrun]
  have le : Le (· ∈ [tg]) (· ∈ ([] : List Nat)) w M { w with heap := w.heap.setIfInBounds b (.map es' clock') } M := by
   refine ⟨by simp, rfl, rfl, rfl, fun b2 hlt hm2 => ⟨hm2, ?_⟩, fun b2 u hm2 _ => ⟨hm2, fun hs => ?_⟩⟩
   ·have : b ≠ b2 := fun h => by subst h; rw [e2] at hm2; cases hm2
    simp [Array.getElem?_setIfInBounds, this]
   have : b ≠ b2 := fun h => by subst h; rw [e2] at hm2; injection hm2 with hm2; exact hs (by simp [hm2])
   simp [Array.getElem?_setIfInBounds, this]
  refine ⟨_, hr, M, ⟨fun b2 u h => by simpa using wf.lt b2 u h, wf.inj⟩, le, trivial, fun x hx => ?_⟩
  rw [List.mem_singleton.1 hx]
  refine ⟨GV q k xs hn, b, es', clock', e2, by simp [hblt], hk', ?_, hap⟩
  exact bf le (fun _ _ => by simp) (fun u hu => by rw [tF.2 u hu]; simpa using hJ') hd'
 rcases rX KK h4 h5 k with ⟨i, v0, en, hi, hg, hen, hkey, hd, hf⟩ | ⟨hi, hg, hf⟩
 ·obtain ⟨v1, hv1, _, hput⟩ := oX q k i hi
  have hil : i < es.size := (Array.getElem?_eq_some_iff.1 hen).1
  have hes : (es.modify i fun e => { e with key := KK.enc k, val := a.eval z }).toList = es.toList.set i { en with key := KK.enc k, val := a.eval z } := by
   rw [Array.toList_modify, List.modify_eq_set, Array.getElem?_toList, hen]; rfl
  refine fin (es.modify i fun e => { e with key := KK.enc k, val := a.eval z }) clock ?_ ?_ ?_ ?_
  ·rw [hput, List.map_set, hes, List.map_set, h4]
  ·rw [hput, List.map_set, hes, List.map_set]
   exact r9 h5 hrow
  ·rw [hes, List.map_set]
   intro i1 j1 v u g e' e'' hi1 hj1 hv hu
   rw [List.getElem?_set] at hi1 hj1
   by_cases c1 : i = i1 <;> by_cases c2 : i = j1
   ·omega
   ·rw [if_pos c1] at hi1; rw [if_neg c2] at hj1
    split at hi1
    ·injection hi1 with hi1
     have hi1 : a.eval z = v := hi1
     subst hi1
     have := Bf q hn (own' g e' hv j1 u e'' hj1 hu) (AV hi)
     omega
    cases hi1
   ·rw [if_neg c1] at hi1; rw [if_pos c2] at hj1
    split at hj1
    ·injection hj1 with hj1
     have hj1 : a.eval z = u := hj1
     subst hj1
     have := Bf q hn (own' g e'' hu i1 v e' hi1 hv) (AV hi)
     omega
    cases hj1
   rw [if_neg c1] at hi1; rw [if_neg c2] at hj1
   exact h6 i1 j1 v u g e' e'' hi1 hj1 hv hu
  simp [Instr.mapUpdate, underlying, hu, getObj, setObj, Sem.run, h3, KK.check, hf, hen, hkey, Instr.keyThatStays, KK.same]
 obtain ⟨_, hput⟩ := pz q k hi
 have hlen : (es.toList.map (·.val)).length = q.length := by have := congrArg List.length h4; simpa using this
 have hno : ∀ j, (q[j]?).map Prod.fst ≠ some k := fun j hj => by
  rw [List.findIdx?_eq_none_iff] at hi
  rw [← List.getElem?_map] at hj
  have := hi k (List.mem_of_getElem? hj)
  simp at this
 refine fin (es.push { key := KK.enc k, val := a.eval z, born := clock }) (clock + 1) ?_ ?_ ?_ ?_
 ·rw [hput]; simp [h4]
 ·rw [hput]; simp only [Array.toList_push, List.map_append, List.map_cons, List.map_nil]
  exact ef h5 ⟨hrow, trivial⟩
 ·simp only [Array.toList_push, List.map_append, List.map_cons, List.map_nil]
  intro i1 j1 v u g e' e'' hi1 hj1 hv hu
  rw [List.getElem?_append] at hi1 hj1
  split at hi1 <;> split at hj1
  ·exact h6 i1 j1 v u g e' e'' hi1 hj1 hv hu
  ·rw [List.getElem?_singleton] at hj1
   split at hj1
   ·injection hj1 with hj1
    subst hj1
    exact absurd (own' g e'' hu i1 v e' hi1 hv) (hno i1)
   cases hj1
  ·rw [List.getElem?_singleton] at hi1
   split at hi1
   ·injection hi1 with hi1
    subst hi1
    exact absurd (own' g e' hv j1 u e'' hj1 hu) (hno j1)
   cases hi1
  rw [List.getElem?_singleton] at hi1 hj1
  split at hi1 <;> split at hj1 <;> first | omega | (exfalso; simp at hj1; done) | (exfalso; simp at hi1; done)
 simp [Instr.mapUpdate, underlying, hu, getObj, setObj, Sem.run, h3, KK.check, hf]
end
section
variable {P : Program} {fr : Fr} {ops : Array Oper} {A : As} {rest : List Oper} {K : As → List (As × Fx) → Prop} {d : Nat} {t ty' mt kt et : TypeId} {p : String} {e : Array Edge} [T : kZ P]
variable {κ α : Type} [DecidableEq κ] {E : El α} {Tb J tg : Nat} {q : List (κ × List α)} {k : κ} {xs ys : List α}
theorem xp [Inhabited α] {w : World} {M : bA} {g off i j : Nat} {cur : Array Value} {ty : Ty} (hh : w.heap[g]? = some (.cells cur Tb (0, 0))) (hd : cB w M (xs.flatMap E.tys) ((cur.toList.drop off).take (xs.length * E.size))) (hi : i < xs.length) (hl : (E.tys (nth xs i))[j]? = some ty) :
 ∃ u, w.cell? ⟨g, off + i * E.size + j, none⟩ = some u ∧ ty.den w M u := by
 obtain ⟨u, hu, hdu⟩ := dR hd _ ty (nB E xs hi j ty hl)
 rw [List.getElem?_take] at hu
 split at hu
 ·rw [List.getElem?_drop] at hu
  exact ⟨u, by rw [Nat.add_assoc]; simpa [World.cell?, hh] using hu, hdu⟩
 cases hu
end
end Go.T
namespace Go.T
open Go Go.RowKit
section
variable {P : Program} {fr : Fr} {ops : Array Oper} {A : As} {rest : List Oper} {K : As → List (As × Fx) → Prop} {d : Nat} {t ty' mt kt et : TypeId} {p : String} {e : Array Edge} [T : kZ P]
variable {κ α : Type} [DecidableEq κ] {E : El α} {Tb J tg : Nat} {q : List (κ × List α)} {k : κ} {xs ys : List α}
theorem Ki (l news : List Value) (o n m e : Nat) (he : o + n ≤ e) (hl : e + news.length ≤ l.length) : (((l.take e ++ news ++ l.drop (e + news.length)).drop o).take n) = (l.drop o).take n := by
 apply List.ext_getElem?
 intro i
 rw [List.getElem?_take, List.getElem?_take]
 split
 ·rename_i hi
  rw [List.getElem?_drop, List.getElem?_drop, List.append_assoc, List.getElem?_append_left (by rw [List.length_take]; omega), List.getElem?_take, if_pos (by omega)]
 rfl
theorem Bk (l news : List Value) (o n : Nat) (hl : o + n + news.length ≤ l.length) : (((l.take (o + n) ++ news ++ l.drop (o + n + news.length)).drop o).take (n + news.length)) = (l.drop o).take n ++ news := by
 have h1 : (l.take (o + n) ++ news ++ l.drop (o + n + news.length)).drop o = (l.drop o).take n ++ news ++ l.drop (o + n + news.length) := by
  rw [List.append_assoc, List.drop_append_of_le_length (by rw [List.length_take]; omega), List.drop_take, show o + n - o = n by omega, List.append_assoc]
 have h2 : ((l.drop o).take n ++ news).length = n + news.length := by rw [List.length_append, List.length_take, List.length_drop, Nat.min_eq_left (by omega)]
 rw [h1, List.take_left' h2]
omit [DecidableEq κ] in
theorem Kh {w : World} {M : bA} {vs : List Value} (hd : cB w M (q.map fun x => Ty.fP E Tb J x.2) vs) {j : Nat} {u : Value} {g e1 : Nat} (hj : vs[j]? = some u) (hu : jM E.size u = some (g, e1)) : M g = some J := by
 have hlen := cU hd
 have hlt := (List.getElem?_eq_some_iff.1 hj).1
 obtain ⟨x, hx, hdx⟩ := dR hd j (Ty.fP E Tb J (q[j]'(by simpa [hlen] using hlt)).2) (by rw [List.getElem?_map, List.getElem?_eq_getElem (by simpa [hlen] using hlt)]; rfl)
 rw [hj] at hx
 injection hx with hx
 subst hx
 rcases hdx with ⟨_, e⟩ | ⟨g', off, c, cur, e, hg, _⟩
 ·rw [e] at hu; simp [jM] at hu
 rw [e] at hu
 simp only [jM, Option.some.injEq, Prod.mk.injEq] at hu
 rw [← hu.1]; exact hg
theorem yE {x y : Operand} {enc : κ → Value} {st el : Nat} {ti te : TI} (hx : A.op fr x = .qv E el tg J q k xs) (hy : A.op fr y = .sl E ys) (hc : A.tag tg = some (.mr enc E el J q)) (h1 : fj tg) (hJ : 4096 ≤ J) (hp : fr.pass.contains J = false) (hpos : 0 < ys.length) (hT : T.eK[st]? = some ti) (hk : ti.k = .slice el) (hE : T.eK[el]? = some te) (hs : te.size = E.size) (hz : te.zero.length = te.size) (h0 : 0 < te.size)
    (hlen : (xs.length + ys.length) * te.bytes ≤ 140737488355328) (hlen' : xs.length + ys.length ≤ 9223372036854775807)
    (h : au P fr ops rest (A.after { d := some d, ty := .qv E el tg J q k (xs ++ ys), S := [tg, J], sets := [(tg, .mr enc E el J q)], rs := cC x ++ cC y, rt := [tg] }) fun A' l' => K A' ((A, { d := some d, ty := .qv E el tg J q k (xs ++ ys), S := [tg, J], sets := [(tg, .mr enc E el J q)], rs := cC x ++ cC y, rt := [tg] }) :: l')) :
    au P fr ops (⟨some d, .call ⟨.builtin .append, #[x, y], #[st, st]⟩, t, p, e, none⟩ :: rest) A K := by
  refine ⟨_, fZ rfl rfl (by simp) (by simp; exact ⟨h1.1, by omega⟩) (by simp) fun a w M wf hr htg => ?_, h⟩
  obtain ⟨hdx, hdy⟩ := op2 hr
  rw [hx] at hdx; rw [hy] at hdy
  obtain ⟨hrow, hown⟩ := hdx
  obtain ⟨hn, b, es, clock, hb, hhb, hkeys, hvals, hap⟩ := htg _ (cZ hc) (by simp)
  have ownb : ∀ (g e0 : Nat), jM E.size (a.eval x) = some (g, e0) → ∀ (j : Nat) (u : Value) (e1 : Nat), (es.toList.map (·.val))[j]? = some u → jM E.size u = some (g, e1) → (q[j]?).map Prod.fst = some k ∧ (roomy (a.eval x) = true → e1 ≤ e0) := fun g e0 he => by
    obtain ⟨b', es', c', g1, g2, g3⟩ := hown g e0 he
    obtain ⟨u', hu'⟩ : ∃ u, tg = u + 1 := ⟨tg - 1, by omega⟩
    have : b = b' := by
      have hb' : M b = some (u' + 1) := hu' ▸ hb
      have g1' : M b' = some (u' + 1) := hu' ▸ g1
      exact wf.inj b b' u' (by omega) hb' g1'
    subst this
    rw [hhb] at g2
    injection g2 with g2
    injection g2 with g2 _
    subst g2
    exact g3
  obtain ⟨_, D, _, hD, hkd, _⟩ := cv hT
  rw [hk] at hkd
  cases D <;> simp only [TK.of, reduceCtorEq, TK.slice.injEq] at hkd
  subst hkd
  rename_i el
  obtain ⟨i, _, hi, _, _, hsz, hby, hze⟩ := cv hE
  obtain ⟨zz, hiz, hzc⟩ : ∃ z, i.zero = some z ∧ z.cells.size = i.size := by
    cases hiz : i.zero with
    | none => rw [hiz] at hze; rw [← hze] at hz; simp at hz; omega
    | some z => rw [hiz] at hze; exact ⟨z, rfl, by simp at hze; rw [hsz, ← hz, ← hze]; simp⟩
  obtain ⟨ad, c', ey, hc1, hc2, hpp⟩ := hdy
  obtain ⟨b', off', rfl, hp'⟩ := hpp hpos
  obtain ⟨news, hn1, hn2, hn3⟩ := m8 hp' _ (Nat.le_refl _)
  rw [List.take_length] at hn2
  have hnl : news.length = ys.length * i.size := by rw [hn1, ct, hsz, hs]
  have hnews : ∀ j u, news[j]? = some u → w.cell? ((⟨b', off', none⟩ : Addr).add j) = some u := fun j u hj => by rw [Addr.add_lit]; exact hn3 j u hj
  have hones := j9 hn2 (lK E ys)
  have hesz : E.size = i.size := by rw [hsz, hs]
  -- behind a growth
  have grown : ∀ (olds : List Value) (cap : Nat), cB w M (xs.flatMap E.tys) olds → cap < xs.length + ys.length →
      (Builtin.append_ #[st, st] t #[a.eval x, a.eval y]).run P w = .ok (.slice (some ⟨w.heap.size, 0, none⟩) (xs.length + ys.length) (grownCap w (xs.length + ys.length) cap el)) (w.drew.alloc (.cells (olds.toArray ++ news.toArray ++ Builtin.zeroCells zz.cells (grownCap w (xs.length + ys.length) cap el - (xs.length + ys.length))) el)) →
      ∃ v w', (execOp a.eval ⟨some d, .call ⟨.builtin .append, #[x, y], #[st, st]⟩, t, p, e, none⟩).run P w = .ok (.value v) w' ∧ Fx.left { d := some d, ty := .qv E el tg J q k (xs ++ ys), S := [tg, J], sets := [(tg, .mr enc E el J q)], rs := cC x ++ cC y, rt := [tg] } w M w' v := by
    intro olds cap hdo hcap hrun
    have holen : olds.length = xs.length * i.size := by rw [cU hdo, ct, hesz]
    have hge := grownCap_ge w (xs.length + ys.length) cap el
    have hcm : grownCap w (xs.length + ys.length) cap el ≤ maxLen := grownCap_le_maxLen w (xs.length + ys.length) cap el (by simp only [maxLen]; omega)
    have hsize : (w.drew.alloc (.cells (olds.toArray ++ news.toArray ++ Builtin.zeroCells zz.cells (grownCap w (xs.length + ys.length) cap el - (xs.length + ys.length))) el)).heap.size = w.heap.size + 1 := by simp
    have hold : ∀ b2, b2 < w.heap.size → (w.drew.alloc (.cells (olds.toArray ++ news.toArray ++ Builtin.zeroCells zz.cells (grownCap w (xs.length + ys.length) cap el - (xs.length + ys.length))) el)).heap[b2]? = w.heap[b2]? := fun b2 h => Below.heap_alloc w.drew _ b2 h
    have hnew : (w.drew.alloc (.cells (olds.toArray ++ news.toArray ++ Builtin.zeroCells zz.cells (grownCap w (xs.length + ys.length) cap el - (xs.length + ys.length))) el)).heap[w.heap.size]? = some (.cells (olds.toArray ++ news.toArray ++ Builtin.zeroCells zz.cells (grownCap w (xs.length + ys.length) cap el - (xs.length + ys.length))) el (0, 0)) := gO w.drew _
    have hos : (w.drew.alloc (.cells (olds.toArray ++ news.toArray ++ Builtin.zeroCells zz.cells (grownCap w (xs.length + ys.length) cap el - (xs.length + ys.length))) el)).os = w.os ∧ (w.drew.alloc (.cells (olds.toArray ++ news.toArray ++ Builtin.zeroCells zz.cells (grownCap w (xs.length + ys.length) cap el - (xs.length + ys.length))) el)).tape = w.tape ∧ (w.drew.alloc (.cells (olds.toArray ++ news.toArray ++ Builtin.zeroCells zz.cells (grownCap w (xs.length + ys.length) cap el - (xs.length + ys.length))) el)).output = w.output := ⟨rfl, rfl, rfl⟩
    have hcs : (olds.toArray ++ news.toArray ++ Builtin.zeroCells zz.cells (grownCap w (xs.length + ys.length) cap el - (xs.length + ys.length))).size = grownCap w (xs.length + ys.length) cap el * i.size := by
      simp only [Array.size_append, List.size_toArray, size_zeroCells, hzc, holen, hnl, ← Nat.add_mul]
      congr 1
      omega
    have htk : ((olds.toArray ++ news.toArray ++ Builtin.zeroCells zz.cells (grownCap w (xs.length + ys.length) cap el - (xs.length + ys.length))).toList.drop 0).take ((xs ++ ys).length * E.size) = olds ++ news := by
      rw [List.drop_zero]
      simp only [Array.toList_append]
      rw [List.take_left' (by rw [List.length_append, holen, hnl, List.length_append, hesz, Nat.add_mul])]
    generalize hw' : (w.drew.alloc (.cells (olds.toArray ++ news.toArray ++ Builtin.zeroCells zz.cells (grownCap w (xs.length + ys.length) cap el - (xs.length + ys.length))) el)) = w' at *
    generalize hcu : (olds.toArray ++ news.toArray ++ Builtin.zeroCells zz.cells (grownCap w (xs.length + ys.length) cap el - (xs.length + ys.length))) = cu at *
    have le : Le (· ∈ [tg, J]) (· ∈ ([] : List Nat)) w M w' (fun b2 => if b2 = w.heap.size then some J else M b2) :=
      ⟨by omega, hos.1, hos.2.1, hos.2.2, fun b2 hb2 hm => ⟨by rw [if_neg (by omega)]; exact hm, hold b2 hb2⟩, fun b2 u hm _ => by
        have := wf.lt b2 u hm
        exact ⟨by rw [if_neg (by omega)]; exact hm, fun _ => hold b2 this⟩⟩
    have le0 : Le (· ∈ ([] : List Nat)) (· ∈ ([] : List Nat)) w M w' (fun b2 => if b2 = w.heap.size then some J else M b2) :=
      ⟨by omega, hos.1, hos.2.1, hos.2.2, fun b2 hb2 hm => ⟨by rw [if_neg (by omega)]; exact hm, hold b2 hb2⟩, fun b2 u hm _ => by
        have := wf.lt b2 u hm
        exact ⟨by rw [if_neg (by omega)]; exact hm, fun _ => hold b2 this⟩⟩
    have wf' : Wf w' (fun b2 => if b2 = w.heap.size then some J else M b2) := by
      refine ⟨fun b2 u hm => ?_, fun b2 b3 u ht1 hm hm' => ?_⟩
      · split at hm
        · omega
        · have := wf.lt b2 u hm; omega
      · split at hm
        · injection hm with hm; omega
        · split at hm'
          · injection hm' with hm'; omega
          · exact wf.inj b2 b3 u ht1 hm hm'
    have hblt := wf.lt b tg hb
    refine ⟨.slice (some ⟨w.heap.size, 0, none⟩) (xs.length + ys.length) (grownCap w (xs.length + ys.length) cap el), w', by simp [execOp, resolve, invoke, builtin, hrun], _, wf', le, ⟨.inr ⟨w.heap.size, 0, grownCap w (xs.length + ys.length) cap el, cu, by rw [List.length_append], by simp, hnew, by rw [List.length_append]; exact hge, hcm, by rw [hcs, hesz]; omega, ?_⟩, fun g e0 he => ?_⟩, fun y hy => ?_⟩
    · rw [htk, List.flatMap_append]
      exact jg (bf le0 (by rw [E.cV]; intro _ h; cases h) (by rw [E.cO]; intro _ h; cases h) hdo) (bf le0 (by rw [E.cV]; intro _ h; cases h) (by rw [E.cO]; intro _ h; cases h) hn2)
    · simp only [jM, Option.some.injEq, Prod.mk.injEq] at he
      obtain ⟨rfl, _⟩ := he
      refine ⟨b, es, clock, (if_neg (by omega)).trans hb, (hold b hblt).trans hhb, fun j u e1 hj hju => ?_⟩
      have := wf.lt _ _ (Kh hvals hj hju)
      omega
    · rw [List.mem_singleton.1 hy]
      refine ⟨hn, b, es, clock, (if_neg (by omega)).trans hb, (hold b hblt).trans hhb, hkeys, ?_, hap⟩
      exact bf le0 (fun _ _ h => by cases h) (fun _ _ h => by cases h) hvals
  rcases hrow with ⟨hxe, ex⟩ | ⟨g, off, cap, cur, ex, hg, hh, hxc, hcm, hfit, hdx⟩
  · have hrn := run_append_nil (P := P) w st t el i zz hD hi hiz ⟨b', off', none⟩ ys.length c' news hnl hnews hpos (by omega) (by rw [hby]; have := hlen; rw [Nat.add_mul] at this; omega)
    subst hxe
    refine grown [] 0 trivial (by simpa using hpos) ?_
    rw [ex, ey]
    simpa using hrn
  · by_cases hroom : xs.length + ys.length ≤ cap
    · -- in place
      have hm : (xs.length + ys.length) * E.size ≤ cap * E.size := Nat.mul_le_mul_right _ hroom
      rw [Nat.add_mul] at hm
      have hcf : off + xs.length * i.size + news.length ≤ cur.size := by rw [hnl, ← hesz]; omega
      have hf := run_firstCells_some (P := P) w i.size ys.length ⟨b', off', none⟩ ys.length c' news hnl hnews
      have hst := run_storeCells_at (P := P) g (off + xs.length * i.size) el news 0 cur w hh (by simpa using hcf) hones
      rw [nk _ hh] at hst
      simp only [Nat.add_zero] at hst
      obtain ⟨h1', h2', h3'⟩ := kW (cs' := (cur.toList.take (off + xs.length * i.size) ++ news ++ cur.toList.drop (off + xs.length * i.size + news.length)).toArray) (Tb := el) wf hg _ rfl
      have hrun : (Builtin.append_ #[st, st] t #[a.eval x, a.eval y]).run P w = .ok (.slice (some ⟨g, off, none⟩) (xs.length + ys.length) cap) { w with heap := w.heap.setIfInBounds g (.cells (cur.toList.take (off + xs.length * i.size) ++ news ++ cur.toList.drop (off + xs.length * i.size + news.length)).toArray el (0, 0)) } := by
        rw [ex, ey]
        simp [Builtin.append_, run_underlying hD, sizeOf, typeInfo, hi, Builtin.lenOf, hroom, hf, Addr.add_lit, hst]
      have le : Le (· ∈ [tg, J]) (· ∈ ([] : List Nat)) w M { w with heap := w.heap.setIfInBounds g (.cells (cur.toList.take (off + xs.length * i.size) ++ news ++ cur.toList.drop (off + xs.length * i.size + news.length)).toArray el (0, 0)) } M :=
        h2'.weaken (fun u hu => by simp only [List.mem_singleton] at hu; subst hu; simp) (fun _ h => by cases h)
      have hgb : g ≠ b := fun e => by rw [e, hhb] at hh; cases hh
      have hroomy : roomy (a.eval x) = true := by rw [ex]; simp [roomy]; omega
      have hb' : ({ w with heap := w.heap.setIfInBounds g (.cells (cur.toList.take (off + xs.length * i.size) ++ news ++ cur.toList.drop (off + xs.length * i.size + news.length)).toArray el (0, 0)) } : World).heap[b]? = some (.map es clock) := by
        show (w.heap.setIfInBounds g _)[b]? = _
        rw [Array.getElem?_setIfInBounds_ne hgb]; exact hhb
      refine ⟨.slice (some ⟨g, off, none⟩) (xs.length + ys.length) cap, _, by simp [execOp, resolve, invoke, builtin, hrun], M, h1', le, ⟨.inr ⟨g, off, cap, _, by rw [List.length_append], hg, h3', by rw [List.length_append]; exact hroom, hcm, ?_, ?_⟩, fun g' e0 he => ?_⟩, fun y hy => ?_⟩
      · simp only [List.size_toArray, List.length_append, List.length_take, List.length_drop, Array.length_toList]
        omega
      · rw [List.length_append, Nat.add_mul, hesz, ← hnl, List.toList_toArray, Bk _ _ _ _ (by simpa using hcf), List.flatMap_append]
        refine bf h2' (by rw [← List.flatMap_append, E.cV]; intro _ h; cases h) (by rw [← List.flatMap_append, E.cO]; intro _ h; cases h) (jg ?_ hn2)
        rw [← hesz]; exact hdx
      · simp only [jM, Option.some.injEq, Prod.mk.injEq] at he
        obtain ⟨rfl, rfl⟩ := he
        refine ⟨b, es, clock, hb, hb', fun j u e1 hj hju => ?_⟩
        have := ownb g (off + xs.length * E.size) (by rw [ex]; rfl) j u e1 hj hju
        refine ⟨this.1, fun _ => ?_⟩
        have := this.2 hroomy
        rw [Nat.add_mul]; omega
      · rw [List.mem_singleton.1 hy]
        refine ⟨hn, b, es, clock, hb, hb', hkeys, ?_, hap⟩
        refine fR (by rw [cU hvals]) fun j ty hj => ?_
        obtain ⟨u, hu, hdu⟩ := dR hvals j ty hj
        refine ⟨u, hu, ?_⟩
        rw [List.getElem?_map] at hj
        obtain ⟨qe, _, rfl⟩ := Option.map_eq_some_iff.1 hj
        rcases hdu with h | ⟨g2, off2, c2, cur2, e2, hg2, hh2, k1, k2, k3, k4⟩
        · exact .inl h
        · by_cases hgg : g = g2
          · subst hgg
            rw [hh] at hh2
            injection hh2 with hh2
            injection hh2 with ha _
            subst ha
            have hend := (ownb g (off + xs.length * E.size) (by rw [ex]; rfl) j u _ hu (by rw [e2]; rfl)).2 hroomy
            refine .inr ⟨g, off2, c2, _, e2, hg, h3', k1, k2, ?_, ?_⟩
            · simp only [List.size_toArray, List.length_append, List.length_take, List.length_drop, Array.length_toList]
              omega
            · rw [List.toList_toArray, Ki _ _ _ _ 0 _ (by rw [← hesz]; exact hend) (by simpa using hcf)]
              exact bf h2' (by rw [E.cV]; intro _ h; cases h) (by rw [E.cO]; intro _ h; cases h) k4
          · refine .inr ⟨g2, off2, c2, cur2, e2, hg2, ?_, k1, k2, k3, bf h2' (by rw [E.cV]; intro _ h; cases h) (by rw [E.cO]; intro _ h; cases h) k4⟩
            show (w.heap.setIfInBounds g _)[g2]? = _
            rw [Array.getElem?_setIfInBounds_ne hgg]; exact hh2
    · have holds : ∀ j u, ((cur.toList.drop off).take (xs.length * E.size))[j]? = some u → w.cell? ((⟨g, off, none⟩ : Addr).add j) = some u := fun j u hj => by
        rw [List.getElem?_take] at hj
        split at hj
        · rw [List.getElem?_drop] at hj
          rw [Addr.add_lit]
          simpa [World.cell?, hh] using hj
        · cases hj
      have hol : ((cur.toList.drop off).take (xs.length * E.size)).length = xs.length * i.size := by rw [cU hdx, ct, hesz]
      have hrn := run_append_grow (P := P) w st t el i zz hD hi hiz ⟨g, off, none⟩ xs.length cap _ hol holds ⟨b', off', none⟩ ys.length c' news hnl hnews (by omega) (by omega) (growslice_fits (by omega) (by rw [hby]; exact hlen))
      refine grown _ cap hdx (by omega) ?_
      rw [ex, ey]
      exact hrn
end
end Go.T
namespace Go.T
open Go Go.RowKit
end Go.T
namespace Go.T
open Go Go.RowKit Go.Lib
section
variable {P : Program} {fr : Fr} {ops : Array Oper} {A : As} {rest : List Oper} {K : As → List (As × Fx) → Prop} {d : Nat} {t ty' ty2 : TypeId} {p : String} {e : Array Edge} [T : kZ P]
end
end Go.T
namespace Go.T
open Go Go.RowKit
section
variable {P : Program} {fr : Fr} {ops : Array Oper} {A : As} {rest : List Oper} {K : As → List (As × Fx) → Prop} {t mt : TypeId} {p : String} {e : Array Edge} {d : Option Nat} {x y z : Operand}
end
section
variable {P : Program} {fr : Fr} {ops : Array Oper} {A : As} {rest : List Oper} {K : As → List (As × Fx) → Prop} {d : Nat} {t mt kt et : TypeId} {p : String} {e : Array Edge}
variable {κ β : Type} [DecidableEq κ]
end
section
variable {A : As} {κ β : Type} [DecidableEq κ]
end
section
variable {P : Program} {fr : Fr} {ops : Array Oper} {A : As} {rest : List Oper} {K : As → List (As × Fx) → Prop} {t ty' : TypeId} {p : String} {e : Array Edge} [T : kZ P]
end
section
variable {P : Program} {fr : Fr} {ops : Array Oper} {A : As} {rest : List Oper} {K : As → List (As × Fx) → Prop} {d : Nat} {t ty' : TypeId} {p : String} {e : Array Edge} [T : kZ P]
theorem kX {α : Type} [Inhabited α] {E : El α} {xs : List α} {x : Operand} {tg off Tb : Nat} {ti : TI} (i : Nat) (hx : A.op fr x = .ptr tg off) (he : off = i * E.size) (hc : A.tag tg = some (.vec E Tb xs)) (h1 : fj tg) (hT : T.eK[ty']? = some ti) (ha : ti.k.agg = true) (hsz : ti.size = E.size) (hi : i < xs.length)
 (h : au P fr ops rest (A.set d (.agg (E.tys (nth xs i)))) fun A' l => K A' ((A, { d := some d, ty := .agg (E.tys (nth xs i)), rs := cC x, rt := [tg] }) :: l)) : au P fr ops (⟨some d, .load ty' x, t, p, e, none⟩ :: rest) A K :=
 bJ (bS rfl rfl fun a w M wf hr ht => by
  have := cR (x := x) (fun _ h => h) hr
  rw [hx] at this
  obtain ⟨b, hb, e⟩ := this
  obtain ⟨cs, g1, g2, g3⟩ := rB (l := E.tys (nth xs i)) (b := b) (q := off) (off := 0) (n := ti.size) (m := E.tys (nth xs i)) (fun j t hj => nD wf h1 hb (sD hc w M ht) (by
   rw [he]; exact nB E xs hi j t hj)) (by rw [List.drop_zero, hsz, ← E.len (nth xs i), List.take_length]) (by rw [E.len, hsz])
  exact ⟨.agg cs.toArray, by simp only [execOp, e]; rw [Sem.run_bind, iC (off := off) hT ha g1 (by simpa using g3)]; rfl, cs.toArray, rfl, by simpa using g2⟩) h
end
section
variable {P : Program} {A : As} {fn : Func} {n : Nat} {w0 : World} {M0 : bA} [T : kZ P]
end
section
variable {P : Program} {fr : Fr} {A : As} {c : Code} {Q : Exit → Act → World → Prop}
theorem jW {tg : Nat} {C D : Cont} (hc : A.tag tg = some C) (h : C.Sub D) (h' : fI P fr c ⟨A.slots, (tg, D) :: A.tags⟩ Q) : fI P fr c A Q := fun a w ⟨M, ok, hsl, ht⟩ =>
 h' a w ⟨M, ok, hsl, fun x hx => by
  rcases List.mem_cons.1 hx with rfl | hx
  ·exact h _ _ _ (ht _ (cZ hc))
  exact ht x hx⟩
end
section
variable {P : Program} {fr : Fr} {ops : Array Oper} {A : As} {rest : List Oper} {K : As → List (As × Fx) → Prop} {d : Nat} {t mt kt et : TypeId} {p : String} {e : Array Edge} {κ β : Type} [DecidableEq κ]
end
end Go.T
namespace Go.T
open Go Go.RowKit
def OI (J : World → bA → Prop) (w : World) (M : bA) : Prop :=
  ∃ Mc, Wf w Mc ∧ FX Mc ∧ J w Mc ∧ (∀ b, M b = none → Mc b = none) ∧ ∀ b u, b < w.heap.size → M b = some u → u ≠ 7000 → Mc b = some (Zt + b)
theorem vn {J : World → bA → Prop} (hJ : Cb J) {S K : Nat → Prop} {w w' : World} {M M' : bA} (le : Le S K w M w' M') (hs : ¬ S 7000) (hk : ¬ K 7000) (h : OI J w M) : OI J w' M' := by
  obtain ⟨Mc, wf, z, hj, h1, h2⟩ := h
  have own : ∀ b, M b = some 7000 → M' b = some 7000 ∧ w'.heap[b]? = w.heap[b]? := fun b h => let ⟨a, c⟩ := le.own b _ h hk; ⟨a, c hs⟩
  have mb : ∀ b t, Mc b = some t → t < Zt → M b = some 7000 := fun b t h ht => by
    cases hm : M b with
    | none => rw [h1 b hm] at h; cases h
    | some u =>
      by_cases e : u = 7000
      · rw [e]
      · have := h2 b u (wf.lt b t h) hm e
        rw [this] at h; injection h with h; omega
  let N : bA := fun b => if b < w'.heap.size then (match M' b with | none => none | some u => if u = 7000 then (if b < w.heap.size ∧ M b = some 7000 then Mc b else some (Zt + b)) else some (Zt + b)) else none
  have hN : ∀ b, N b = if b < w'.heap.size then (match M' b with | none => none | some u => if u = 7000 then (if b < w.heap.size ∧ M b = some 7000 then Mc b else some (Zt + b)) else some (Zt + b)) else none := fun _ => rfl
  have zok : FX N := by
    intro b u h hu
    rw [hN] at h
    split at h
    · split at h
      · cases h
      · split at h
        · split at h
          · exact z b u h hu
          · injection h with h; exact h.symm
        · injection h with h; exact h.symm
    · cases h
  have wf' : Wf w' N := by
    refine ⟨fun b t h => ?_, fun b b' t ht1 h h' => ?_⟩
    · rw [hN] at h
      split at h
      · assumption
      · cases h
    · have part : ∀ b, N b = some (t + 1) → Mc b = some (t + 1) := fun b h => by
        have hz : t + 1 < Zt := by unfold Zt; omega
        rw [hN] at h
        split at h
        · split at h
          · cases h
          · split at h
            · split at h
              · exact h
              · injection h with h; omega
            · injection h with h; omega
        · cases h
      exact wf.inj b b' t ht1 (part b h) (part b' h')
  have lez : Le (fun t => Zt ≤ t) (fun t => Zt ≤ t) w Mc w' N := by
    refine ⟨le.size, le.os, le.tape, le.out, fun b hb hm => ?_, fun b t hm ht => ?_⟩
    · have hb' : b < w'.heap.size := Nat.lt_of_lt_of_le hb le.size
      cases hmb : M b with
      | none =>
        obtain ⟨a, c⟩ := le.qL b hb hmb
        exact ⟨by rw [hN, if_pos hb', a], c⟩
      | some u =>
        by_cases e : u = 7000
        · subst e
          obtain ⟨a, c⟩ := own b hmb
          exact ⟨by rw [hN, if_pos hb', a]; show (if (7000 : Nat) = 7000 then _ else _) = _; rw [if_pos rfl, if_pos ⟨hb, hmb⟩]; exact hm, c⟩
        · rw [h2 b u hb hmb e] at hm; cases hm
    · have hlt := wf.lt b t hm
      have h0 := mb b t hm (Nat.lt_of_not_le ht)
      obtain ⟨a, c⟩ := own b h0
      refine ⟨?_, fun _ => c⟩
      rw [hN, if_pos (Nat.lt_of_lt_of_le hlt le.size), a]
      show (if (7000 : Nat) = 7000 then _ else _) = _
      rw [if_pos rfl, if_pos ⟨hlt, h0⟩]; exact hm
  refine ⟨N, wf', zok, hJ _ _ _ _ wf' lez hj, fun b h => ?_, fun b u hb h hu => ?_⟩
  · rw [hN, h]; split <;> rfl
  · rw [hN, if_pos hb, h]; show (if u = 7000 then _ else _) = _; rw [if_neg hu]
def Cont.ck {J : World → bA → Prop} (hJ : Cb J) : Cont :=
  { den := fun w M t => t = 7000 ∧ OI J w M
    mono := fun le _ _ hs hk ⟨e, h⟩ => ⟨e, vn hJ le (e ▸ hs) (e ▸ hk) h⟩ }
theorem Cont.N2 {J : Nat → World → bA → Prop} (hJ : ∀ k, Cb (J k)) {a b : Nat} (e : a = b) : (Cont.ck (hJ a)).Sub (Cont.ck (hJ b)) := by subst e; exact Cont.aF _
def QJ (b1 : Bool) (J1 Jx : World → bA → Prop) (w : World) (M : bA) (v : Value) : Prop := (v = .bool b1 ∧ OI J1 w M) ∨ (v = .bool (!b1) ∧ OI Jx w M)
def Ty.yb {J1 Jx : World → bA → Prop} (b1 : Bool) (h1 : Cb J1) (hx : Cb Jx) : Ty :=
  ⟨QJ b1 J1 Jx, [7000], [7000], fun le hk hs h => h.imp (fun ⟨e, h⟩ => ⟨e, vn h1 le (hs _ (by simp)) (hk _ (by simp)) h⟩) (fun ⟨e, h⟩ => ⟨e, vn hx le (hs _ (by simp)) (hk _ (by simp)) h⟩), true, fun _ h => h.elim (fun ⟨e, _⟩ => e ▸ rfl) (fun ⟨e, _⟩ => e ▸ rfl)⟩
def Cont.me (g T : Nat) (v : Value) (tys : List Ty) (cs : List Value) (h1 : bw tys = []) (h2 : bX tys = []) : Cont :=
  { den := fun w M _ => M g = some 1000 ∧ w.heap[g]? = some (.cells #[v] T (0, 0)) ∧ cB w M tys cs
    deps := [1000], cdeps := [1000]
    mono := fun le hk hs _ _ ⟨e1, e2, e3⟩ => let ⟨a, c⟩ := le.own g _ e1 (hk 1000 (by simp)); ⟨a, (c (hs 1000 (by simp))).trans e2, bf le (by rw [h1]; intro _ h; cases h) (by rw [h2]; intro _ h; cases h) e3⟩ }
def B4 (w : World) (M1 Mc' : bA) : bA := fun b => if b < w.heap.size then M1 b else (Mc' b).map fun _ => 7000
theorem IS {w w' : World} {M1 Mc Mc' : bA} (wf1 : Wf w M1) (wf' : Wf w' Mc') (h1 : ∀ b, M1 b = none → Mc b = none) (h2 : ∀ b u, b < w.heap.size → M1 b = some u → u ≠ 7000 → Mc b = some (Zt + b)) (le : Le (fun t => t < Zt) (fun t => t < Zt) w Mc w' Mc') :
 Wf w' (B4 w M1 Mc') ∧ Le (· ∈ [7000]) (· ∈ ([] : List Nat)) w M1 w' (B4 w M1 Mc') ∧ (∀ b, B4 w M1 Mc' b = none → Mc' b = none) ∧ ∀ b u, b < w'.heap.size → B4 w M1 Mc' b = some u → u ≠ 7000 → Mc' b = some (Zt + b) := by
 unfold B4
 refine ⟨⟨fun b u h => ?_, fun b b' u ht1 h h' => ?_⟩, ⟨le.size, le.os, le.tape, le.out, fun b hb hm => ⟨by simp [hb, hm], (le.qL b hb (h1 b hm)).2⟩, fun b u hm _ => ⟨by simp [wf1.lt b u hm, hm], fun hs => ?_⟩⟩, fun b h => ?_, fun b u _ h hu => ?_⟩
 ·split at h
  ·exact Nat.lt_of_lt_of_le ‹_› le.size
  obtain ⟨v, hv, _⟩ := Option.map_eq_some_iff.1 h
  exact wf'.lt b v hv
 ·have part : ∀ b, (if b < w.heap.size then M1 b else (Mc' b).map fun _ => 7000) = some (u + 1) → M1 b = some (u + 1) := fun b h => by
   split at h
   ·exact h
   obtain ⟨v, _, hv⟩ := Option.map_eq_some_iff.1 h
   omega
  exact wf1.inj b b' u ht1 (part b h) (part b' h')
 ·have hu : u ≠ 7000 := fun e => hs (by simp [e])
  exact (le.own b _ (h2 b u (wf1.lt b _ hm) hm hu) (by omega)).2 (by omega)
 ·split at h
  ·exact (le.qL b ‹_› (h1 b h)).1
  simpa using h
 split at h
 ·exact (le.own b _ (h2 b u ‹_› h hu) (by omega)).1
 obtain ⟨v, _, hv⟩ := Option.map_eq_some_iff.1 h
 exact absurd hv.symm hu
section
variable {P : Program} {fr : Fr} {ops : Array Oper} {A : As} {rest : List Oper} {K : As → List (As × Fx) → Prop} {d : Nat} {t ty' : TypeId} {p : String} {e : Array Edge}
theorem BH {c l k : Nat} {encs : List (List Ty)} {J : Nat → World → bA → Prop} {Jx : World → bA → Prop} (hJ : ∀ k, Cb (J k)) (hJx : Cb Jx) (hY : OK P l encs J Jx) {xs : List Operand} {ats : Array TypeId} {tys : List Ty}
 (hkd : fr.kd = .plain) (hc : A.op fr (.tmp c) = .ex (yv l)) (hx : oK A fr xs = tys) (hd : bw tys = []) (hdc : bX tys = []) (hk : encs[k]? = some tys) (ht : A.tag 7000 = some (.ck (hJ k)))
 (h : au P fr ops rest (A.after { d := some d, ty := .yb true (hJ (k + 1)) hJx, S := [7000], rs := c :: xs.flatMap cC, rt := [7000] }) fun A' l' => K A' ((A, { d := some d, ty := .yb true (hJ (k + 1)) hJx, S := [7000], rs := c :: xs.flatMap cC, rt := [7000] }) :: l')) :
 au P fr ops (⟨some d, .call ⟨.value (.tmp c), xs.toArray, ats⟩, t, p, e, none⟩ :: rest) A K := by
 refine ⟨{ d := some d, ty := .yb true (hJ (k + 1)) hJx, S := [7000], rs := c :: xs.flatMap cC, rt := [7000] }, ⟨rfl, by simp, by simp, by simp, fun a w M wf hsz hrd htg => ?_⟩, h⟩
 rw [if_pos (by simp [Region.wanted])]
 have hcv := cR (x := .tmp c) (rs := c :: xs.flatMap cC) (fun u hu => by exact (List.mem_singleton.1 hu) ▸ List.mem_cons_self) hrd
 rw [hc] at hcv
 have hcv : a.eval (.tmp c) = yv l := hcv
 obtain ⟨_, Mc, wfc, z, hj, h1, h2⟩ := htg _ (cZ ht) (by simp)
 have hv : cB w Mc tys (xs.map a.eval) := gY h1 hd hdc (hx ▸ gp (rs := c :: xs.flatMap cC) hrd fun x hx c hc => List.mem_cons_of_mem _ (List.mem_flatMap.2 ⟨x, hx, hc⟩))
 obtain ⟨fn, tmps, assign, body, hy, hR⟩ := hY k tys hk w Mc _ wfc z hj hv
 refine ⟨fun f _ => fr.kd.vG f, ?_⟩
 have hrun : (execOp a.eval ⟨some d, .call ⟨.value (.tmp c), xs.toArray, ats⟩, t, p, e, none⟩).run P w = .ok (.round l fn tmps assign body) w := by
  simp [execOp, resolve, hcv, yv, Deferred.ofValue, invoke, hy]
 rw [Oper.semAt_eq _ _ _ (by intro c h; cases h), hrun, Oper.uponIn_round]
 refine ⟨fun h => (by rw [fr.kd.vS] at h; cases h), ?_⟩
 have hfe : fr.kd.iq = Fence.wide := by rw [hkd]; rfl
 rw [hfe]
 refine RoundIn.mono hR fun en w' ⟨Mc', wf', z', le, hor⟩ => ?_
 obtain ⟨g1, g2, g3, g4⟩ := IS wf wf' h1 h2 le
 rcases hor with ⟨rfl, hj'⟩ | ⟨rfl, hj'⟩
 ·exact ⟨.bool true, rfl, _, g1, g2, .inl ⟨rfl, Mc', wf', z', hj', g3, g4⟩, by simp⟩
 exact ⟨.bool false, rfl, _, g1, g2, .inr ⟨rfl, Mc', wf', z', hj', g3, g4⟩, by simp⟩
theorem KL {x : Operand} {J1 Jx : World → bA → Prop} {h1 : Cb J1} {hx : Cb Jx} {b1 : Bool} (hop : A.op fr x = .yb b1 h1 hx)
 (h : au P fr ops rest (A.set d (.yb (!b1) h1 hx)) fun A' l' => K A' ((A, { d := some d, ty := .yb (!b1) h1 hx, rs := cC x }) :: l')) : au P fr ops (⟨some d, .unOp .not ty' x, t, p, e, none⟩ :: rest) A K :=
 bJ (bS rfl rfl fun a w M _ hrd _ => by
  have hdx := cR (x := x) (fun _ h => h) hrd
  rw [hop] at hdx
  rcases hdx with ⟨ex, hj⟩ | ⟨ex, hj⟩
  ·exact ⟨.bool (!b1), by simp [execOp, ex, Op.unary], .inl ⟨rfl, hj⟩⟩
  exact ⟨.bool (!!b1), by simp [execOp, ex, Op.unary], .inr ⟨rfl, hj⟩⟩) h
end
section
variable {P : Program} {fr : Fr} {A : As} {Q : Exit → Act → World → Prop} {x y : Code}
theorem FG {c : Operand} {J1 Jx : World → bA → Prop} {h1 : Cb J1} {hx : Cb Jx} (hc : A.op fr c = .yb false h1 hx) (hth : fI P fr x ⟨A.slots, (7000, .ck hx) :: A.tags⟩ Q) (hel : fI P fr y ⟨A.slots, (7000, .ck h1) :: A.tags⟩ Q) : fI P fr (.cond c x y) A Q := fun a w ha => by
 obtain ⟨M, ok, hs, ht⟩ := ha
 have hd := cR (x := c) (rs := cC c) (fun _ h => h) (fun c _ hn => hs c hn)
 rw [hc] at hd
 rcases hd with ⟨ev, hj⟩ | ⟨ev, hj⟩
 ·exact wpIn_cond_false ev (hel a w ⟨M, ok, hs, fun x hx => by
   rcases List.mem_cons.1 hx with rfl | hx
   ·exact ⟨rfl, hj⟩
   exact ht x hx⟩)
 ·exact wpIn_cond_true ev (hth a w ⟨M, ok, hs, fun x hx => by
   rcases List.mem_cons.1 hx with rfl | hx
   ·exact ⟨rfl, hj⟩
   exact ht x hx⟩)
end
def kr (Mc : bA) (g : Option Nat) : bA := fun b => match Mc b with | none => none | some u => if u < Zt then some 7000 else if some b = g then some 1000 else some 5000
theorem BC {Mc : bA} {g : Option Nat} {b : Nat} (h : kr Mc g b = none) : Mc b = none := by
 unfold kr at h
 split at h
 ·assumption
 split at h
 ·cases h
 split at h <;> cases h
theorem nP {Mc : bA} {g : Option Nat} {b : Nat} (h : Mc b = none) : kr Mc g b = none := by simp [kr, h]
theorem HA {w : World} {Mc : bA} {g : Option Nat} (wf : Wf w Mc) : Wf w (kr Mc g) := by
  refine ⟨fun b t h => ?_, fun b b' t ht h h' => ?_⟩
  · cases hm : Mc b with
    | none => rw [nP hm] at h; cases h
    | some u => exact wf.lt b u hm
  · have key : ∀ b, kr Mc g b = some (t + 1) → some b = g := fun b h => by
      unfold kr at h
      split at h
      · cases h
      · split at h
        · injection h with h; omega
        · split at h
          · assumption
          · injection h with h; omega
    have e1 := key b h
    have e2 := key b' h'
    rw [← e2] at e1; injection e1
theorem Fw {w : World} {Mc : bA} {g : Option Nat} {J : World → bA → Prop} (wf : Wf w Mc) (z : FX Mc) (hj : J w Mc) : OI J w (kr Mc g) := by
 refine ⟨Mc, wf, z, hj, fun b h => BC h, fun b u _ h hu => ?_⟩
 unfold kr at h
 split at h
 ·cases h
 rename_i v hv
 split at h
 ·injection h with h; exact absurd h.symm hu
 rw [hv]; congr 1; exact z b v hv (by omega)
section
variable {P : Program}
variable {A : As} {fn : Func} {n : Nat} {J1 Jx : World → bA → Prop}
end
end Go.T
namespace Go.T
open Go Go.RowKit
section
variable {P : Program} {fr : Fr} {ops : Array Oper} {A : As} {rest : List Oper} {K : As → List (As × Fx) → Prop} {d : Nat} {t ty' : TypeId} {p : String} {e : Array Edge} [T : kZ P]
variable {α : Type} {E : El α} {Tb J : Nat} {xs ys : List α}
theorem ND {x : Operand} {ti : TI} {el : Nat} (hx : A.op fr x = .fP E Tb J xs) (hT : T.eK[ty']? = some ti) (hk : ti.k = .slice el)
 (h : au P fr ops rest (A.set d (.int .i64 (xs.length : Nat))) fun A' l => K A' ((A, { d := some d, ty := .int .i64 (xs.length : Nat), rs := cC x }) :: l)) :
 au P fr ops (⟨some d, .call ⟨.builtin .len, #[x], #[ty']⟩, t, p, e, none⟩ :: rest) A K :=
 bJ (bS rfl rfl fun a w M _ hr _ => by
  have := cR (x := x) (fun _ h => h) hr
  rw [hx] at this
  have h1 := this
  obtain ⟨_, D, _, hD, hkd, _⟩ := cv hT
  rw [hk] at hkd
  cases D <;> simp only [TK.of, reduceCtorEq, TK.slice.injEq] at hkd
  refine ⟨.int .i64 xs.length, ?_, rfl⟩
  rcases h1 with ⟨hn, ex⟩ | ⟨g, off, c, cur, ex, _⟩
  ·simp [execOp, ex, resolve, invoke, builtin, Builtin.len_, run_underlying hD, hn, goInt]
  simp [execOp, ex, resolve, invoke, builtin, Builtin.len_, run_underlying hD, goInt]) h
theorem IF [Inhabited α] {x y : Operand} {kd : IntKind} {i : Nat} {ti te : TI} {el : Nat} (hx : A.op fr x = .fP E Tb J xs) (hy : A.op fr y = .int kd i) (hT : T.eK[ty']? = some ti) (hk : ti.k = .slice el) (hE : T.eK[el]? = some te) (hs : te.size = E.size) (hi : i < xs.length)
 (h : au P fr ops rest (A.set d (.op J (E.tys (nth xs i)))) fun A' l' => K A' ((A, { d := some d, ty := .op J (E.tys (nth xs i)), rs := cC x ++ cC y }) :: l')) : au P fr ops (⟨some d, .indexAddr ty' x y, t, p, e, none⟩ :: rest) A K :=
 bJ (bS rfl rfl fun a w M _ hr _ => by
  obtain ⟨hdx, hdy⟩ := op2 hr
  rw [hx] at hdx; rw [hy] at hdy
  have h1 := hdx
  have ey : a.eval y = .int kd i := hdy
  rcases h1 with ⟨h0, _⟩ | ⟨g, off, c, cur, ex, hg, hh, hn, _, _, hd⟩
  ·subst h0; simp at hi
  refine ⟨_, by simp only [execOp, ex, ey, Sem.run_bind, hU hT hk hE (Int.natCast_nonneg i) (show (i : Int).toNat < xs.length from hi)]; rfl, g, off + i * te.size, by simp, hg, fun j ty hj => ?_⟩
  rw [hs]
  exact xp hh hd hi hj) h
theorem NN {x y : Operand} {kd : IntKind} {lo : Nat} {ti te : TI} {el : Nat} (hx : A.op fr x = .fP E Tb J xs) (hy : A.op fr y = .int kd lo) (hT : T.eK[ty']? = some ti) (hk : ti.k = .slice el) (hE : T.eK[el]? = some te) (hs : te.size = E.size) (hlo : lo ≤ xs.length) (h0 : 0 < xs.length)
 (h : au P fr ops rest (A.set d (.fP E Tb J (xs.drop lo))) fun A' l' => K A' ((A, { d := some d, ty := .fP E Tb J (xs.drop lo), rs := cC x ++ cC y }) :: l')) : au P fr ops (⟨some d, .slice ty' x (some y) none none, t, p, e, none⟩ :: rest) A K :=
 bJ (bS rfl rfl fun a w M _ hr _ => by
  obtain ⟨hdx, hdy⟩ := op2 hr
  rw [hx] at hdx; rw [hy] at hdy
  have h1 := hdx
  have ey : a.eval y = .int kd lo := hdy
  obtain ⟨_, D, _, hD, hkd, _⟩ := cv hT
  rw [hk] at hkd
  cases D <;> simp only [TK.of, reduceCtorEq, TK.slice.injEq] at hkd
  subst hkd
  have hsz := fun w => dJ (P := P) hE w
  rcases h1 with ⟨hn, _⟩ | ⟨g, off, c, cur, ex, hg, hh, hn, hc, hsz2, hd⟩
  ·subst hn; simp at h0
  have hlc : lo ≤ c := by omega
  have hrun : ∃ ad, (execOp a.eval ⟨some d, .slice ty' x (some y) none none, t, p, e, none⟩).run P w = .ok (.value (.slice (some ad) (xs.length - lo) (c - lo))) w ∧ ad = (if c = lo then (⟨g, off, none⟩ : Addr) else ⟨g, off + lo * E.size, none⟩) := by
   refine ⟨_, ?_, rfl⟩
   simp [execOp, ex, ey, Instr.sliceAt, Instr.slice, run_underlying hD, Instr.sliceBounds, Instr.sliceBound, asIntOf, hsz, hs, hn, hlo]
   by_cases hcl : c = lo
   ·simp [hcl]
   simp [hcl]; exact Addr.add_lit _ _ _
  obtain ⟨ad, hrun, had⟩ := hrun
  have hlen : (xs.drop lo).length = xs.length - lo := List.length_drop
  have key : cB w M ((xs.drop lo).flatMap E.tys) ((cur.toList.drop (off + lo * E.size)).take ((xs.drop lo).length * E.size)) := by
   have := mg (lo * E.size) hd
   rw [List.drop_take, List.drop_drop, ← Nat.sub_mul] at this
   have e1 : (xs.flatMap E.tys).drop (lo * E.size) = (xs.drop lo).flatMap E.tys := by
    have : xs.flatMap E.tys = (xs.take lo).flatMap E.tys ++ (xs.drop lo).flatMap E.tys := by rw [← List.flatMap_append, List.take_append_drop]
    rw [this, List.drop_left' (by rw [ct, List.length_take, Nat.min_eq_left hlo])]
   rw [e1] at this
   rw [hlen]; exact this
  by_cases hcl : c = lo
  ·rw [if_pos hcl] at had
   subst had
   refine ⟨_, hrun, .inr ⟨g, off, c - lo, cur, by rw [hlen], hg, hh, by rw [hlen]; omega, by omega, ?_, ?_⟩⟩
   ·have : c - lo = 0 := by omega
    rw [this]; omega
   have h0' : xs.drop lo = [] := List.eq_nil_of_length_eq_zero (by rw [hlen]; omega)
   rw [h0']; simp [cB]
  rw [if_neg hcl] at had
  subst had
  refine ⟨_, hrun, .inr ⟨g, off + lo * E.size, c - lo, cur, by rw [hlen], hg, hh, by rw [hlen]; omega, by omega, ?_, key⟩⟩
  rw [Nat.add_assoc, ← Nat.add_mul, show lo + (c - lo) = c by omega]; exact hsz2) h
theorem GM {x y : Operand} {st el : Nat} {ti te : TI} (hx : A.op fr x = .fP E el J xs) (hy : A.op fr y = .sl E ys) (hJ : 4096 ≤ J) (hp : fr.pass.contains J = false) (hpos : 0 < ys.length) (hT : T.eK[st]? = some ti) (hk : ti.k = .slice el) (hE : T.eK[el]? = some te) (hs : te.size = E.size) (hz : te.zero.length = te.size) (h0 : 0 < te.size)
    (hlen : (xs.length + ys.length) * te.bytes ≤ 140737488355328) (hlen' : xs.length + ys.length ≤ 9223372036854775807)
    (h : au P fr ops rest (A.after { d := some d, ty := .fP E el J (xs ++ ys), S := [J], rs := cC x ++ cC y }) fun A' l' => K A' ((A, { d := some d, ty := .fP E el J (xs ++ ys), S := [J], rs := cC x ++ cC y }) :: l')) :
    au P fr ops (⟨some d, .call ⟨.builtin .append, #[x, y], #[st, st]⟩, t, p, e, none⟩ :: rest) A K := by
  refine ⟨_, fZ rfl rfl (by simp) (by simp; omega) (by simp) fun a w M wf hr htg => ?_, h⟩
  obtain ⟨hdx, hdy⟩ := op2 hr
  rw [hx] at hdx; rw [hy] at hdy
  have hrow := hdx
  obtain ⟨_, D, _, hD, hkd, _⟩ := cv hT
  rw [hk] at hkd
  cases D <;> simp only [TK.of, reduceCtorEq, TK.slice.injEq] at hkd
  subst hkd
  rename_i el
  obtain ⟨i, _, hi, _, _, hsz, hby, hze⟩ := cv hE
  obtain ⟨zz, hiz, hzc⟩ : ∃ z, i.zero = some z ∧ z.cells.size = i.size := by
    cases hiz : i.zero with
    | none => rw [hiz] at hze; rw [← hze] at hz; simp at hz; omega
    | some z => rw [hiz] at hze; exact ⟨z, rfl, by simp at hze; rw [hsz, ← hz, ← hze]; simp⟩
  obtain ⟨ad, c', ey, hc1, hc2, hpp⟩ := hdy
  obtain ⟨b', off', rfl, hp'⟩ := hpp hpos
  obtain ⟨news, hn1, hn2, hn3⟩ := m8 hp' _ (Nat.le_refl _)
  rw [List.take_length] at hn2
  have hnl : news.length = ys.length * i.size := by rw [hn1, ct, hsz, hs]
  have hnews : ∀ j u, news[j]? = some u → w.cell? ((⟨b', off', none⟩ : Addr).add j) = some u := fun j u hj => by rw [Addr.add_lit]; exact hn3 j u hj
  have hones := j9 hn2 (lK E ys)
  have hesz : E.size = i.size := by rw [hsz, hs]
  -- behind a growth
  have grown : ∀ (olds : List Value) (cap : Nat), cB w M (xs.flatMap E.tys) olds → cap < xs.length + ys.length →
      (Builtin.append_ #[st, st] t #[a.eval x, a.eval y]).run P w = .ok (.slice (some ⟨w.heap.size, 0, none⟩) (xs.length + ys.length) (grownCap w (xs.length + ys.length) cap el)) (w.drew.alloc (.cells (olds.toArray ++ news.toArray ++ Builtin.zeroCells zz.cells (grownCap w (xs.length + ys.length) cap el - (xs.length + ys.length))) el)) →
      ∃ v w', (execOp a.eval ⟨some d, .call ⟨.builtin .append, #[x, y], #[st, st]⟩, t, p, e, none⟩).run P w = .ok (.value v) w' ∧ Fx.left { d := some d, ty := .fP E el J (xs ++ ys), S := [J], rs := cC x ++ cC y } w M w' v := by
    intro olds cap hdo hcap hrun
    have holen : olds.length = xs.length * i.size := by rw [cU hdo, ct, hesz]
    have hge := grownCap_ge w (xs.length + ys.length) cap el
    have hcm : grownCap w (xs.length + ys.length) cap el ≤ maxLen := grownCap_le_maxLen w (xs.length + ys.length) cap el (by simp only [maxLen]; omega)
    have hsize : (w.drew.alloc (.cells (olds.toArray ++ news.toArray ++ Builtin.zeroCells zz.cells (grownCap w (xs.length + ys.length) cap el - (xs.length + ys.length))) el)).heap.size = w.heap.size + 1 := by simp
    have hold : ∀ b2, b2 < w.heap.size → (w.drew.alloc (.cells (olds.toArray ++ news.toArray ++ Builtin.zeroCells zz.cells (grownCap w (xs.length + ys.length) cap el - (xs.length + ys.length))) el)).heap[b2]? = w.heap[b2]? := fun b2 h => Below.heap_alloc w.drew _ b2 h
    have hnew : (w.drew.alloc (.cells (olds.toArray ++ news.toArray ++ Builtin.zeroCells zz.cells (grownCap w (xs.length + ys.length) cap el - (xs.length + ys.length))) el)).heap[w.heap.size]? = some (.cells (olds.toArray ++ news.toArray ++ Builtin.zeroCells zz.cells (grownCap w (xs.length + ys.length) cap el - (xs.length + ys.length))) el (0, 0)) := gO w.drew _
    have hos : (w.drew.alloc (.cells (olds.toArray ++ news.toArray ++ Builtin.zeroCells zz.cells (grownCap w (xs.length + ys.length) cap el - (xs.length + ys.length))) el)).os = w.os ∧ (w.drew.alloc (.cells (olds.toArray ++ news.toArray ++ Builtin.zeroCells zz.cells (grownCap w (xs.length + ys.length) cap el - (xs.length + ys.length))) el)).tape = w.tape ∧ (w.drew.alloc (.cells (olds.toArray ++ news.toArray ++ Builtin.zeroCells zz.cells (grownCap w (xs.length + ys.length) cap el - (xs.length + ys.length))) el)).output = w.output := ⟨rfl, rfl, rfl⟩
    have hcs : (olds.toArray ++ news.toArray ++ Builtin.zeroCells zz.cells (grownCap w (xs.length + ys.length) cap el - (xs.length + ys.length))).size = grownCap w (xs.length + ys.length) cap el * i.size := by
      simp only [Array.size_append, List.size_toArray, size_zeroCells, hzc, holen, hnl, ← Nat.add_mul]
      congr 1
      omega
    have htk : ((olds.toArray ++ news.toArray ++ Builtin.zeroCells zz.cells (grownCap w (xs.length + ys.length) cap el - (xs.length + ys.length))).toList.drop 0).take ((xs ++ ys).length * E.size) = olds ++ news := by
      rw [List.drop_zero]
      simp only [Array.toList_append]
      rw [List.take_left' (by rw [List.length_append, holen, hnl, List.length_append, hesz, Nat.add_mul])]
    generalize hw' : (w.drew.alloc (.cells (olds.toArray ++ news.toArray ++ Builtin.zeroCells zz.cells (grownCap w (xs.length + ys.length) cap el - (xs.length + ys.length))) el)) = w' at *
    generalize hcu : (olds.toArray ++ news.toArray ++ Builtin.zeroCells zz.cells (grownCap w (xs.length + ys.length) cap el - (xs.length + ys.length))) = cu at *
    have le : Le (· ∈ [J]) (· ∈ ([] : List Nat)) w M w' (fun b2 => if b2 = w.heap.size then some J else M b2) :=
      ⟨by omega, hos.1, hos.2.1, hos.2.2, fun b2 hb2 hm => ⟨by rw [if_neg (by omega)]; exact hm, hold b2 hb2⟩, fun b2 u hm _ => by
        have := wf.lt b2 u hm
        exact ⟨by rw [if_neg (by omega)]; exact hm, fun _ => hold b2 this⟩⟩
    have le0 : Le (· ∈ ([] : List Nat)) (· ∈ ([] : List Nat)) w M w' (fun b2 => if b2 = w.heap.size then some J else M b2) :=
      ⟨by omega, hos.1, hos.2.1, hos.2.2, fun b2 hb2 hm => ⟨by rw [if_neg (by omega)]; exact hm, hold b2 hb2⟩, fun b2 u hm _ => by
        have := wf.lt b2 u hm
        exact ⟨by rw [if_neg (by omega)]; exact hm, fun _ => hold b2 this⟩⟩
    have wf' : Wf w' (fun b2 => if b2 = w.heap.size then some J else M b2) := by
      refine ⟨fun b2 u hm => ?_, fun b2 b3 u ht1 hm hm' => ?_⟩
      · split at hm
        · omega
        · have := wf.lt b2 u hm; omega
      · split at hm
        · injection hm with hm; omega
        · split at hm'
          · injection hm' with hm'; omega
          · exact wf.inj b2 b3 u ht1 hm hm'
    refine ⟨.slice (some ⟨w.heap.size, 0, none⟩) (xs.length + ys.length) (grownCap w (xs.length + ys.length) cap el), w', by simp [execOp, resolve, invoke, builtin, hrun], _, wf', le, .inr ⟨w.heap.size, 0, grownCap w (xs.length + ys.length) cap el, cu, by rw [List.length_append], by simp, hnew, by rw [List.length_append]; exact hge, hcm, by rw [hcs, hesz]; omega, ?_⟩, by simp⟩
    rw [htk, List.flatMap_append]
    exact jg (bf le0 (by rw [E.cV]; intro _ h; cases h) (by rw [E.cO]; intro _ h; cases h) hdo) (bf le0 (by rw [E.cV]; intro _ h; cases h) (by rw [E.cO]; intro _ h; cases h) hn2)
  rcases hrow with ⟨hxe, ex⟩ | ⟨g, off, cap, cur, ex, hg, hh, hxc, hcm, hfit, hdx⟩
  · have hrn := run_append_nil (P := P) w st t el i zz hD hi hiz ⟨b', off', none⟩ ys.length c' news hnl hnews hpos (by omega) (by rw [hby]; have := hlen; rw [Nat.add_mul] at this; omega)
    subst hxe
    refine grown [] 0 trivial (by simpa using hpos) ?_
    rw [ex, ey]
    simpa using hrn
  · by_cases hroom : xs.length + ys.length ≤ cap
    · -- in place
      have hm : (xs.length + ys.length) * E.size ≤ cap * E.size := Nat.mul_le_mul_right _ hroom
      rw [Nat.add_mul] at hm
      have hcf : off + xs.length * i.size + news.length ≤ cur.size := by rw [hnl, ← hesz]; omega
      have hf := run_firstCells_some (P := P) w i.size ys.length ⟨b', off', none⟩ ys.length c' news hnl hnews
      have hst := run_storeCells_at (P := P) g (off + xs.length * i.size) el news 0 cur w hh (by simpa using hcf) hones
      rw [nk _ hh] at hst
      simp only [Nat.add_zero] at hst
      obtain ⟨h1', h2', h3'⟩ := kW (cs' := (cur.toList.take (off + xs.length * i.size) ++ news ++ cur.toList.drop (off + xs.length * i.size + news.length)).toArray) (Tb := el) wf hg _ rfl
      have hrun : (Builtin.append_ #[st, st] t #[a.eval x, a.eval y]).run P w = .ok (.slice (some ⟨g, off, none⟩) (xs.length + ys.length) cap) { w with heap := w.heap.setIfInBounds g (.cells (cur.toList.take (off + xs.length * i.size) ++ news ++ cur.toList.drop (off + xs.length * i.size + news.length)).toArray el (0, 0)) } := by
        rw [ex, ey]
        simp [Builtin.append_, run_underlying hD, sizeOf, typeInfo, hi, Builtin.lenOf, hroom, hf, Addr.add_lit, hst]
      have le : Le (· ∈ [J]) (· ∈ ([] : List Nat)) w M { w with heap := w.heap.setIfInBounds g (.cells (cur.toList.take (off + xs.length * i.size) ++ news ++ cur.toList.drop (off + xs.length * i.size + news.length)).toArray el (0, 0)) } M :=
        h2'.weaken (fun u hu => by simp only [List.mem_singleton] at hu; subst hu; simp) (fun _ h => by cases h)
      refine ⟨.slice (some ⟨g, off, none⟩) (xs.length + ys.length) cap, _, by simp [execOp, resolve, invoke, builtin, hrun], M, h1', le, .inr ⟨g, off, cap, _, by rw [List.length_append], hg, h3', by rw [List.length_append]; exact hroom, hcm, ?_, ?_⟩, by simp⟩
      · simp only [List.size_toArray, List.length_append, List.length_take, List.length_drop, Array.length_toList]
        omega
      · rw [List.length_append, Nat.add_mul, hesz, ← hnl, List.toList_toArray, Bk _ _ _ _ (by simpa using hcf), List.flatMap_append]
        refine bf h2' (by rw [← List.flatMap_append, E.cV]; intro _ h; cases h) (by rw [← List.flatMap_append, E.cO]; intro _ h; cases h) (jg ?_ hn2)
        rw [← hesz]; exact hdx
    · have holds : ∀ j u, ((cur.toList.drop off).take (xs.length * E.size))[j]? = some u → w.cell? ((⟨g, off, none⟩ : Addr).add j) = some u := fun j u hj => by
        rw [List.getElem?_take] at hj
        split at hj
        · rw [List.getElem?_drop] at hj
          rw [Addr.add_lit]
          simpa [World.cell?, hh] using hj
        · cases hj
      have hol : ((cur.toList.drop off).take (xs.length * E.size)).length = xs.length * i.size := by rw [cU hdx, ct, hesz]
      have hrn := run_append_grow (P := P) w st t el i zz hD hi hiz ⟨g, off, none⟩ xs.length cap _ hol holds ⟨b', off', none⟩ ys.length c' news hnl hnews (by omega) (by omega) (growslice_fits (by omega) (by rw [hby]; exact hlen))
      refine grown _ cap hdx (by omega) ?_
      rw [ex, ey]
      exact hrn
end
section
variable {P : Program} {fr : Fr} {A : As} {c : Code} {Q : Exit → Act → World → Prop}
end
end Go.T
namespace Go.T
open Go Go.RowKit
section
variable {P : Program} {fr : Fr} {ops : Array Oper} {A : As} {rest : List Oper} {K : As → List (As × Fx) → Prop} {d : Nat} {t : TypeId} {p : String} {e : Array Edge}
end
end Go.T
namespace Go.T
open Go Go.RowKit
theorem Ty.z4 {α : Type} {E : El α} {T tg n : Nat} {xs : List α} (hn : xs.length = n) : (Ty.row E T tg xs).Sub (Ty.vs tg n) := fun w M v ⟨cs, h1, h2, h3⟩ => by
 subst hn
 rcases h1.2 with ⟨e, h0⟩ | ⟨g, cap, cur, ex, _, hh, hn1, hcap, _, htk⟩
 ·exact .inl ⟨h0, e⟩
 exact .inr ⟨g, cap, h3 g (by rw [ex]; rfl), ex, hn1, hcap⟩
theorem Cont.jz {T : Nat} {l l' : List Ty} (h : Kw l l') : (Cont.cells T l).Sub (Cont.cells T l') := fun w M v ⟨b, cs, h1, h2, h3⟩ => ⟨b, cs, h1, h2, tS h h3⟩
end Go.T
namespace Go.T
open Go Go.RowKit
end Go.T
namespace Go.T
open Go Go.RowKit
section
variable {P : Program} {fr : Fr} {A : As} {c : Code} {Q : Exit → Act → World → Prop}
theorem qN {α : Type} {E : El α} {T Tc tg c0 : Nat} {l : List Ty} {xs : List α} (i : Nat) (hc : A.tag c0 = some (.cells Tc l)) (hi : l[i]? = some (.row E T tg xs))
 (h : fI P fr c ⟨A.slots, (tg, .vec E T xs) :: A.tags⟩ Q) : fI P fr c A Q := fun a w ⟨M, ok, hsl, ht⟩ => by
 refine h a w ⟨M, ok, hsl, fun x hx => ?_⟩
 rcases List.mem_cons.1 hx with rfl | hx
 ·obtain ⟨b, cs, hb, hh, hd⟩ := ht _ (cZ hc)
  obtain ⟨v, _, ⟨ds, h1, h2, h3⟩⟩ := dR hd i _ hi
  rcases h1.2 with ⟨e, h0⟩ | ⟨g, cap, cur, ex, _, hh, hn1, hcap, _, htk⟩
  ·exact .inl (List.length_eq_zero_iff.1 h0)
  have hg : M g = some tg := h3 g (by rw [ex]; rfl)
  exact .inr ⟨g, cur, hg, hh, by rw [ct, htk]; exact h2⟩
 exact ht x hx
end
end Go.T
namespace Go.T
open Go Go.RowKit
section
variable {P : Program} {A : As} {fn : Func} {n : Nat} {w0 : World} {M0 : bA}
end
end Go.T
namespace Go.T
open Go Go.RowKit
section
variable {P : Program} {fr : Fr} {A : As} {c : Code} {Q : Exit → Act → World → Prop}
end
section
variable {P : Program} {A : As} {fn : Func} {n : Nat} {w0 : World} {M0 : bA}
end
end Go.T
namespace Go.T
open Go Go.RowKit
section
variable {P : Program} {fr : Fr} {ops : Array Oper} {A : As} {rest : List Oper} {K : As → List (As × Fx) → Prop} {d : Nat} {t : TypeId} {p : String} {e : Array Edge} {y : Operand}
theorem AS {c : Operand} {b : Bool} (hc : A.op fr c = .bool false) (hy : A.op fr y = .bool b)
 (h : au P fr ops rest (A.set d (.bool b)) fun A' l' => K A' ((A, { d := some d, ty := .bool b, rs := cC c ++ cC y }) :: l')) : au P fr ops (⟨some d, .pick c (.const (.bool true)) y, t, p, e, none⟩ :: rest) A K :=
 bJ (bS rfl rfl fun a w M _ hrd _ => by
  obtain ⟨hdc, hdy⟩ := op2 hrd
  rw [hc] at hdc; rw [hy] at hdy
  have ec : a.eval c = .bool false := hdc
  have ey : a.eval y = .bool b := hdy
  exact ⟨.bool b, by simp only [execOp, ec, ey]; simp [asBool], rfl⟩) h
theorem K2 {c : Operand} (hc : A.op fr c = .bool true)
 (h : au P fr ops rest (A.set d (.bool true)) fun A' l' => K A' ((A, { d := some d, ty := .bool true, rs := cC c ++ cC y }) :: l')) : au P fr ops (⟨some d, .pick c (.const (.bool true)) y, t, p, e, none⟩ :: rest) A K :=
 bJ (bS rfl rfl fun a w M _ hrd _ => by
  obtain ⟨hdc, _⟩ := op2 hrd
  rw [hc] at hdc
  have ec : a.eval c = .bool true := hdc
  exact ⟨.bool true, by simp only [execOp, ec]; simp [asBool, Act.eval], rfl⟩) h
theorem AH {op : Op} {j s : Nat} {want : Bool} (hs : oz ops j = some s) (hn : Nat.blt s fr.n = true) (hc : A.slots s = .ex undef)
 (h : au P fr ops rest (A.set d (.ex undef)) fun A' l' => K A' ((A, { d := some d, ty := .ex undef, rs := [s] }) :: l')) : au P fr ops (⟨some d, op, t, p, e, some (j, want)⟩ :: rest) A K := by
 refine ⟨{ d := some d, ty := .ex undef, rs := [s] }, ⟨rfl, (by simp), (by simp), (by simp), fun a w M wf hsz hrd htg => ?_⟩, h⟩
 have hv := hrd s List.mem_cons_self (by simpa using hn)
 rw [hc] at hv
 have hy := qY (ops := ops) hs (by rw [hsz]; simpa using hn) hv
 have hw : Region.wanted ⟨some d, op, t, p, e, some (j, want)⟩ (yielded ops a.tmps) = false := by
  simp only [Region.wanted, hy]
  cases want <;> simp_all
 rw [if_neg (by rw [hw]; simp)]
 exact ⟨M, wf, Le.refl _ _ _ _, rfl, by simp⟩
end
section
variable {P : Program} {fr : Fr} {A : As} {Q : Exit → Act → World → Prop} {code : Code}
end
end Go.T
namespace Go.T
open Go Go.RowKit
section
variable {P : Program} {fr : Fr} {A : As} {Q : Exit → Act → World → Prop}
end
end Go.T
namespace Go.T
open Go Go.RowKit
section
variable {P : Program} {fr : Fr} {ops : Array Oper} {A : As} {rest : List Oper} {K : As → List (As × Fx) → Prop} {d : Nat} {t ty' : TypeId} {p : String} {e : Array Edge} [T : kZ P]
end
section
open Go.RowKit
variable {P : Program} {A : As} {fn : Func} {n : Nat} {w0 : World} {M0 : bA} {F : List Nat} {post : List (Nat × Cont)} [T : kZ P]
end
section
variable {P : Program} {fr : Fr} {A : As}
end
end Go.T
namespace Go.T
open Go Go.RowKit
section
variable {P : Program} {fr : Fr} {A : As}
end
end Go.T
namespace Go.T
open Go Go.RowKit
end Go.T
namespace Go.T
open Go Go.RowKit
def O7 (tys : List Ty) (vs : List Value) (w : World) (M : bA) (_ : Nat) : Prop := cB w M tys vs
def Cont.fact (tys : List Ty) (vs : List Value) (h1 : bw tys = []) (h2 : bX tys = []) : Cont :=
  { den := O7 tys vs, deps := [], cdeps := [], mono := fun le _ _ _ _ h => bf le (by rw [h1]; intro _ h; cases h) (by rw [h2]; intro _ h; cases h) h }
def XB (b D Tb : Nat) (vs : List Value) (J : Nat → World → bA → Prop) : Prop :=
  ∀ k w M, Wf w M → J k w M → M b = some D ∧ ∃ cs : Array Value, w.heap[b]? = some (.cells cs Tb (0, 0)) ∧ cs.toList.take vs.length = vs
def Iw (P : Program) (f : FuncId) (b D Tb : Nat) (vs : List Value) (tys : List Ty) (args : Nat → List Ty) (encs : List (List Ty)) (resD resS : Ty) : Prop :=
  (∃ fn, P.funcs[f]? = some fn ∧ (fn.name == "runtime.NumGoroutine") = false ∧ fn.body.isNone = false) ∧
  ∀ l J Jx, (∀ k, Cb (J k)) → Cb Jx → XB b D Tb vs J → OK P l encs J Jx → ∀ w M us, Wf w M → FX M → cB w M (args l) us → cB w M tys vs → J 0 w M →
    Calls P f us.toArray w (cH encs.length J Jx resD resS)
section
variable {P : Program}
theorem DN {f b D Tb : Nat} {us : List Value} {tys : List Ty} {fn : Func} {c : Code} {args : Nat → List Ty} {encs : List (List Ty)} {n : Nat} (h1 : bw tys = []) (h2 : bX tys = []) (hf : P.funcs[f]? = some fn) (hb : fn.body = some c) (hn : (fn.name == "runtime.NumGoroutine") = false) (hnt : fn.ntmps = n) (hl : ∀ l, (args l).length ≤ n) (hdd : ∀ l, bw (args l) = [] ∧ bX (args l) = [])
    (h : ∀ l J Jx (hJ : ∀ k, Cb (J k)) (hJx : Cb Jx), XB b D Tb us J → OK P l encs J Jx → ∀ w0 M0, fI P ⟨n, w0, M0, [7000, 5000], .plain⟩ c (tE (args l) [(7000, .ck (hJ 0)), (4000, Cont.fact tys us h1 h2)]) (bodyPost P fn (cH encs.length J Jx (Ty.kY []) (Ty.kY [])))) : Iw P f b D Tb us tys args encs (Ty.kY []) (Ty.kY []) := by
  refine ⟨⟨fn, hf, hn, by rw [hb]; rfl⟩, fun l J Jx hJ hJx hX hY w Mc vs wf z hd hus hj => calls_of_wp hf hb (wpIn_wide.1 (h l J Jx hJ hJx hX hY w (kr Mc none) _ _ ?_))⟩
  have hall : cB w (kr Mc none) (args l) vs := gY (fun b hb => nP hb) (hdd l).1 (hdd l).2 hd
  have hlen := cU hall
  have hl := hl l
  refine ⟨kr Mc none, ⟨HA wf, Le.refl _ _ _ _, by simp [hnt, hlen]; omega, Defs.nil⟩, fun c hc => ?_, fun x hx => ?_⟩
  · simp only [tE]
    cases ha : (args l)[c]? with
    | none => trivial
    | some ty =>
      obtain ⟨v, hv, hdv⟩ := dR hall c ty ha
      have : (vs.toArray ++ Array.replicate (fn.ntmps - vs.toArray.size) undef).getD c undef = v := by
        have hlt : c < vs.length := (List.getElem?_eq_some_iff.1 hv).1
        rw [Array.getD_eq_getD_getElem?, Array.getElem?_append_left (by simpa using hlt)]
        simp [hv]
      rw [this]; exact hdv
  · rcases List.mem_cons.1 hx with rfl | hx
    · exact ⟨rfl, Fw wf z hj⟩
    · rw [List.mem_singleton.1 hx]
      exact gY (fun b hb => nP hb) h1 h2 hus
theorem Ly {fn : Func} {n : Nat} {A : As} {w0 : World} {M0 : bA} {J : Nat → World → bA → Prop} {Jx : World → bA → Prop} {m : Nat} {h1 : Cb (J m)} (hr : fn.results = #[]) (ht : A.tag 7000 = some (.ck h1)) : dQ ⟨n, w0, M0, [7000, 5000], .plain⟩ A (bodyPost P fn (cH m J Jx (Ty.kY []) (Ty.kY [])) .normal) := by
 intro a w' ⟨M, ok, hsl, htg⟩
 obtain ⟨_, Mc', wf', z', hj, k1, k2⟩ := htg _ (cZ ht)
 exact ⟨ok.iA (by simp), _, results_none hr _ _ _, _, Mc', rfl, wf', z', .inl ⟨⟨_, rfl, trivial⟩, hj⟩⟩
theorem J5 {fn : Func} {n : Nat} {A : As} {w0 : World} {M0 : bA} {J : Nat → World → bA → Prop} {Jx : World → bA → Prop} {m k : Nat} {hJ : ∀ k, Cb (J k)} (e : k = m) (hr : fn.results = #[]) (ht : A.tag 7000 = some (.ck (hJ k))) : dQ ⟨n, w0, M0, [7000, 5000], .plain⟩ A (bodyPost P fn (cH m J Jx (Ty.kY []) (Ty.kY [])) .normal) := by
 subst e; exact Ly hr ht
theorem D1 {fn : Func} {n : Nat} {A : As} {w0 : World} {M0 : bA} {J : Nat → World → bA → Prop} {Jx : World → bA → Prop} {m : Nat} {hx : Cb Jx} (hr : fn.results = #[]) (ht : A.tag 7000 = some (.ck hx)) : dQ ⟨n, w0, M0, [7000, 5000], .plain⟩ A (bodyPost P fn (cH m J Jx (Ty.kY []) (Ty.kY [])) .ret) := by
 intro a w' ⟨M, ok, hsl, htg⟩
 obtain ⟨_, Mc', wf', z', hj, k1, k2⟩ := htg _ (cZ ht)
 exact ⟨ok.iA (by simp), _, results_none hr _ _ _, _, Mc', rfl, wf', z', .inr ⟨⟨_, rfl, trivial⟩, hj⟩⟩
variable {fr : Fr} {ops : Array Oper} {A : As} {rest : List Oper} {K : As → List (As × Fx) → Prop} {d : Nat} {t ty' : TypeId} {p : String} {e : Array Edge} [T : kZ P]
omit T in
theorem kO {x : Operand} {b off : Nat} (hx : A.op fr x = .ex (.pointer (some ⟨b, off, none⟩)))
 (h : au P fr ops rest (A.set d (.ex (.pointer (some ⟨b, off, none⟩)))) fun A' l' => K A' ((A, { d := some d, ty := .ex (.pointer (some ⟨b, off, none⟩)), rs := cC x }) :: l')) : au P fr ops (⟨some d, .nilCheck x, t, p, e, none⟩ :: rest) A K :=
 bJ (bS rfl rfl fun a w M _ hrd _ => by
  have hdx := cR (x := x) (fun _ h => h) hrd
  rw [hx] at hdx
  have ex : a.eval x = .pointer (some ⟨b, off, none⟩) := hdx
  exact ⟨_, by simp [execOp, ex], rfl⟩) h
theorem ia {x : Operand} {b off f : Nat} {ti tf : TI} {fs : List (Nat × Nat)} {o ft : Nat} (hx : A.op fr x = .ex (.pointer (some ⟨b, off, none⟩))) (hT : T.eK[ty']? = some ti) (hk : ti.k = .struct fs) (hf : fs[f]? = some (o, ft)) (hF : T.eK[ft]? = some tf) (h0 : tf.size ≠ 0)
 (h : au P fr ops rest (A.set d (.ex (.pointer (some ⟨b, off + o, none⟩)))) fun A' l' => K A' ((A, { d := some d, ty := .ex (.pointer (some ⟨b, off + o, none⟩)), rs := cC x }) :: l')) : au P fr ops (⟨some d, .fieldAddr ty' x f, t, p, e, none⟩ :: rest) A K :=
 bJ (bS rfl rfl fun a w M _ hrd _ => by
  have hdx := cR (x := x) (fun _ h => h) hrd
  rw [hx] at hdx
  have ex : a.eval x = .pointer (some ⟨b, off, none⟩) := hdx
  exact ⟨_, by simp [execOp, ex, tL hT hk hf hF h0], rfl⟩) h
def QC {α : Type} (v : Value) (E : El α) (T tg : Nat) (xs : List α) (w : World) (M : bA) (_ : Nat) : Prop := (Ty.row E T tg xs).den w M v
def Cont.rv {α : Type} (v : Value) (E : El α) (T tg : Nat) (xs : List α) : Cont :=
  { den := QC v E T tg xs, deps := (Ty.row E T tg xs).deps, cdeps := (Ty.row E T tg xs).cdeps, mono := fun le hk hs _ _ h => (Ty.row E T tg xs).mono le hk hs h }
theorem qD {α : Type} {E : El α} {c : Nat} {y : Operand} {st el tg : Nat} {v : Value} {ti te : TI} {xs ys : List α} (hx : A.op fr (.tmp c) = .ex v) (hc : A.tag tg = some (.rv v E el tg xs)) (hy : A.op fr y = .sl E ys) (hcy : (cC y).contains c = false) (h1 : 1 ≤ tg) (hp : fr.pass.contains tg = false) (hT : T.eK[st]? = some ti) (hk : ti.k = .slice el) (hE : T.eK[el]? = some te) (hs : te.size = E.size) (hz : te.zero.length = te.size) (h0 : 0 < te.size)
 (hlen : (xs.length + ys.length) * te.bytes ≤ 140737488355328) (hlen' : xs.length + ys.length ≤ 9223372036854775807) (hyA : (A.set c (.row E el tg xs)).op fr y = A.op fr y) (hxA : (A.set c (.row E el tg xs)).op fr (.tmp c) = .row E el tg xs)
 (h : au P fr ops rest (A.after { d := some d, ty := .row E el tg (xs ++ ys), K := [tg], rs := cC (.tmp c) ++ cC y, rt := [tg] }) fun A' l' => K A' ((A, { d := some d, ty := .row E el tg (xs ++ ys), K := [tg], rs := cC (.tmp c) ++ cC y, rt := [tg] }) :: l')) :
 au P fr ops (⟨some d, .call ⟨.builtin .append, #[.tmp c, y], #[st, st]⟩, t, p, e, none⟩ :: rest) A K := by
 refine ⟨_, ?_, h⟩
 obtain ⟨a1, a2, a3, a4, a5⟩ := wF (P := P) (fr := fr) (ops := ops) (A := A.set c (.row E el tg xs)) (d := d) (t := t) (p := p) (e := e) (x := .tmp c) (y := y) (E := E) (xs := xs) (ys := ys) (st := st) (by rw [hxA]; exact Ty.aF _) (hyA.trans hy) h1 hp hT hk hE hs hz h0 hlen hlen'
 refine ⟨a1, a2, a3, a4, fun a w M wf hsz hr ht => a5 a w M wf hsz (fun c' hc' hn => ?_) (fun x _ hx => by cases hx)⟩
 by_cases e : c' = c
 ·subst e
  have h1 : (A.slots c').den w M (a.tmps.getD c' undef) := hr c' hc' hn
  have h2 : QC v E el tg xs w M tg := ht _ (cZ hc) (by simp)
  have h3 : A.slots c' = .ex v := by
   have h5 : (bif Nat.blt c' fr.n then A.slots c' else Ty.any) = .ex v := hx
   have h6 : Nat.blt c' fr.n = true := by rw [Nat.blt_eq]; exact hn
   rw [h6, cond_true] at h5
   exact h5
  rw [h3] at h1
  have h4 : a.tmps.getD c' undef = v := h1
  show ((A.set c' (.row E el tg xs)).slots c').den w M _
  simp only [As.set, Nat.beq_refl, cond_true]
  rw [h4]; exact h2
 show ((A.set c (.row E el tg xs)).slots c').den w M _
 have : Nat.beq c' c = false := by cases hb : Nat.beq c' c with | false => rfl | true => exact absurd (Nat.eq_of_beq_eq_true hb) e
 simp only [As.set, this, cond_false]
 exact hr c' hc' hn
theorem CC {vs l : List Value} {i : Nat} {v : Value} (h : l.take vs.length = vs) (hv : vs[i]? = some v) : l[i]? = some v := by
 have hi : i < vs.length := (List.getElem?_eq_some_iff.1 hv).1
 rw [← h, List.getElem?_take, if_pos hi] at hv
 exact hv
theorem sI {x : Operand} {b D Tb off k : Nat} {vs : List Value} {tys : List Ty} {J : Nat → World → bA → Prop} {hJ : ∀ k, Cb (J k)} {ti : TI} {ty : Ty} {h1 : bw tys = []} {h2 : bX tys = []} (hX : XB b D Tb vs J) (hx : A.op fr x = .ex (.pointer (some ⟨b, off, none⟩))) (ht : A.tag 7000 = some (.ck (hJ k))) (htf : A.tag 4000 = some (Cont.fact tys vs h1 h2)) (hT : T.eK[ty']? = some ti) (ha : ti.k.agg = false) (hl : tys[off]? = some ty)
 (h : au P fr ops rest (A.set d ty) fun A' l => K A' ((A, { d := some d, ty := ty, rs := cC x, rt := [7000, 4000] }) :: l)) : au P fr ops (⟨some d, .load ty' x, t, p, e, none⟩ :: rest) A K :=
 bJ (bS rfl rfl fun a w M wf hr htg => by
  have hdx := cR (x := x) (fun _ h => h) hr
  rw [hx] at hdx
  have ex : a.eval x = .pointer (some ⟨b, off, none⟩) := hdx
  obtain ⟨_, Mc, wfc, z, hj, g1, g2⟩ := htg _ (cZ ht) (by simp)
  have hf : cB w M tys vs := htg _ (cZ htf) (by simp)
  obtain ⟨_, cs, hh, hcs⟩ := hX k w Mc wfc hj
  obtain ⟨v, hv, hd⟩ := dR hf off ty hl
  have hv' : w.cell? ⟨b, off, none⟩ = some v := by
   have := CC hcs hv
   simpa [World.cell?, hh] using this
  exact ⟨v, by simp [execOp, ex, kF hT ha hv'], hd⟩) h
theorem pQ {b D Tb k : Nat} {vs : List Value} {tys : List Ty} {J : Nat → World → bA → Prop} {hJ : ∀ k, Cb (J k)} {h1 : bw tys = []} {h2 : bX tys = []} {L : List Nat} (hX : XB b D Tb vs J) (hD : D < 4096) (ht : A.tag 7000 = some (.ck (hJ k))) (htf : A.tag 4000 = some (Cont.fact tys vs h1 h2)) (hL0 : L.contains 7000 = true) (hL1 : L.contains 4000 = true) :
    qg A L (.ex (.pointer (some ⟨b, 0, none⟩))) (.pp tys) := fun w M v wf htg hv => by
  have hv : v = .pointer (some ⟨b, 0, none⟩) := hv
  have hL0 : 7000 ∈ L := by simpa using hL0
  have hL1 : 4000 ∈ L := by simpa using hL1
  obtain ⟨_, Mc, wfc, z, hj, g1, g2⟩ := htg _ (cZ ht) hL0
  have hf : cB w M tys vs := htg _ (cZ htf) hL1
  obtain ⟨hb, cs, hh, hcs⟩ := hX k w Mc wfc hj
  have hlt : b < w.heap.size := wfc.lt b _ hb
  have hm : qS M L b = none := by
    cases hm : M b with
    | none => exact jN hm
    | some u =>
      by_cases e : u = 7000
      · subst e; exact zV hm hL0
      · have := g2 b u hlt hm e
        rw [this] at hb
        injection hb with hb
        have : Zt = 1000000 := rfl
        omega
  have hf2 : cB w (qS M L) tys vs := bf (S := fun _ => True) (K := fun _ => True) (w' := w) ⟨Nat.le_refl _, rfl, rfl, rfl, fun b _ hm => ⟨jN hm, rfl⟩, fun b t _ h => absurd trivial h⟩ (by rw [h1]; intro _ h; cases h) (by rw [h2]; intro _ h; cases h) hf
  refine ⟨b, 0, hv, hm, hlt, fun i t hi => ?_⟩
  obtain ⟨x, hx, hdx⟩ := dR hf2 i t hi
  refine ⟨x, ?_, hdx⟩
  have := CC hcs hx
  simpa [World.cell?, hh] using this
end
theorem uz {l : List Nat} (h : l.all (fun t => Nat.blt t 1000000) = true) : ∀ t ∈ l, t < Zt := fun t ht => by
 have := List.all_eq_true.1 h t ht
 rw [Nat.blt_eq] at this; exact this
section
variable {P : Program} {fr : Fr} {A : As} {Q : Exit → Act → World → Prop} {c : Code}
theorem pS {w : World} {M : bA} {l1 l2 : List Ty} {vs : List Value} (h : cB w M (l1 ++ l2) vs) : ∃ v1 v2, vs = v1 ++ v2 ∧ cB w M l1 v1 ∧ cB w M l2 v2 := by
  induction l1 generalizing vs with
  | nil => exact ⟨[], vs, rfl, trivial, h⟩
  | cons t l1 ih =>
    cases vs with
    | nil => cases h
    | cons v vs =>
      obtain ⟨v1, v2, e, h1, h2⟩ := ih h.2
      exact ⟨v :: v1, v2, by rw [e]; rfl, ⟨h.1, h1⟩, h2⟩
theorem D9 {w : World} {M : bA} : ∀ (vs : List Value), cB w M (vs.map Ty.ex) vs
  | [] => trivial
  | _ :: vs => ⟨rfl, D9 vs⟩
theorem q3 {w : World} {M : bA} : ∀ {vs us : List Value}, cB w M (vs.map Ty.ex) us → us = vs
  | [], [], _ => rfl
  | [], _ :: _, h => by cases h
  | _ :: _, [], h => by cases h
  | v :: vs, u :: us, h => by rw [show u = v from h.1, q3 h.2]
theorem IL {D Tb : Nat} {tys r : List Ty} (h1 : bw tys = []) (h2 : bX tys = []) (hc : A.tag D = some (.cells Tb (tys ++ r))) (hD : fj D)
 (h : ∀ vs, vs.length = tys.length → fI P fr c ⟨A.slots, (D, .cells Tb (vs.map Ty.ex ++ r)) :: (4000, Cont.fact tys vs h1 h2) :: A.tags.filter fun x => !(x.1 == D)⟩ Q) : fI P fr c A Q := by
 intro a w ⟨M, ok, hsl, htg⟩
 obtain ⟨b, cs, hb, hh, hd⟩ := htg _ (cZ hc)
 obtain ⟨v1, v2, e, d1, d2⟩ := pS hd
 refine h v1 (cU d1) a w ⟨M, ok, hsl, fun x hx => ?_⟩
 rcases List.mem_cons.1 hx with rfl | hx
 ·exact ⟨b, cs, hb, hh, by rw [e]; exact ef (D9 v1) d2⟩
 rcases List.mem_cons.1 hx with rfl | hx
 ·exact d1
 exact htg x (List.mem_filter.1 hx).1
theorem Ca {D Tb : Nat} {vs : List Value} {tys r : List Ty} {h1 : bw tys = []} {h2 : bX tys = []} (hc : A.tag D = some (.cells Tb (vs.map Ty.ex ++ r))) (hf : A.tag 4000 = some (Cont.fact tys vs h1 h2))
 (h : fI P fr c ⟨A.slots, (D, .cells Tb (tys ++ r)) :: A.tags.filter fun x => !(x.1 == D)⟩ Q) : fI P fr c A Q := by
 intro a w ⟨M, ok, hsl, htg⟩
 obtain ⟨b, cs, hb, hh, hd⟩ := htg _ (cZ hc)
 have hfd : cB w M tys vs := htg _ (cZ hf)
 refine h a w ⟨M, ok, hsl, fun x hx => ?_⟩
 rcases List.mem_cons.1 hx with rfl | hx
 ·obtain ⟨v1, v2, e, d1, d2⟩ := pS hd
  rw [q3 d1] at e
  exact ⟨b, cs, hb, hh, by rw [e]; exact ef hfd d2⟩
 exact htg x (List.mem_filter.1 hx).1
theorem uw {D Tb tg : Nat} {α : Type} {E : El α} {T : Nat} {xs : List α} (l1 : List Ty) {l2 : List Ty} (hc : A.tag D = some (.cells Tb (l1 ++ Ty.row E T tg xs :: l2)))
    (h : ∀ v, fI P fr c ⟨A.slots, (D, .cells Tb (l1 ++ Ty.ex v :: l2)) :: (tg, Cont.rv v E T tg xs) :: A.tags.filter fun x => !(x.1 == D)⟩ Q) : fI P fr c A Q := by
  intro a w ⟨M, ok, hsl, htg⟩
  obtain ⟨b, cs, hb, hh, hd⟩ := htg _ (cZ hc)
  obtain ⟨v1, v2, e, d1, d2⟩ := pS hd
  match v2, d2 with
  | v :: v2, d2 =>
    refine h v a w ⟨M, ok, hsl, fun x hx => ?_⟩
    rcases List.mem_cons.1 hx with rfl | hx
    · exact ⟨b, cs, hb, hh, by rw [e]; exact ef d1 ⟨rfl, d2.2⟩⟩
    · rcases List.mem_cons.1 hx with rfl | hx
      · exact d2.1
      · exact htg x (List.mem_filter.1 hx).1
theorem xh {T tg off : Nat} {l : List Ty} (hc : A.tag tg = some (.cells T l)) (hd : kU (bw l) [tg] = true) (h1 : fj tg) : uO A tg (.ptr tg off) (.pp (l.drop off)) := fun w M v wf ht hv =>
 l8 (A := A.set 0 (.ptr tg off)) (s := 0) rfl hc hd h1 w M v wf ht hv
theorem Jw {tg i : Nat} {t : Ty} : ∀ {l l' : List Ty}, zK A tg l l' → l'[i]? = some t → ∃ i', i' = i ∧ ∃ s, l[i']? = some s ∧ uO A tg s t := by
  induction i with
  | zero =>
    intro l l' h e
    match l, l', h with
    | [], [], _ => cases e
    | s :: _, t' :: _, h => injection e with e; subst e; exact ⟨0, rfl, s, rfl, h.1⟩
  | succ i ih =>
    intro l l' h e
    match l, l', h with
    | [], [], _ => cases e
    | _ :: l, _ :: l', h =>
      obtain ⟨i', rfl, s, h1, h2⟩ := ih (l := l) (l' := l') h.2 e
      exact ⟨i' + 1, rfl, s, h1, h2⟩
theorem Bw {tg : Nat} {l l' : List Ty} (h : zK A tg l l') : uO A tg (.pp l) (.pp l') := fun w M v wf ht ⟨b, off, e, m1, m2, m3⟩ => by
 refine ⟨b, off, e, by simp [eB, m1], m2, fun i t hi => ?_⟩
 obtain ⟨_, rfl, s, h1, h2⟩ := Jw h hi
 obtain ⟨x, hx, hdx⟩ := m3 _ s h1
 exact ⟨x, hx, h2 w M x wf ht hdx⟩
theorem zl {tg s : Nat} {l l' : List Ty} (hx : A.slots s = .pp l) (h : zK A tg l l') : yG A tg s (.pp l') := fun w M v wf ht hv => Bw h w M v wf ht (hx ▸ hv)
theorem Bq {f D Tb n sd : Nat} {tys : List Ty} {vs : List Value} {h1 : bw tys = []} {h2 : bX tys = []} {mq : List Ty} {encs : List (List Ty)} {resD resS : Ty} {s : Nat → Ty} {tg : Nat → List (Nat × Cont)} {r : Nat → List Ty}
    (hI : ∀ b, Iw P f b D Tb vs tys (fun l => Ty.ex (yv l) :: Ty.pp [Ty.ex (.pointer (some ⟨b, 0, none⟩))] :: mq) encs resD resS)
    (hD : fj D) (hsn : sd < n) (hsd : s sd = Ty.ptr D 0) (htD : ∀ k, (D, Cont.cells Tb (vs.map Ty.ex ++ r k)) ∈ tg k) (htf : (4000, Cont.fact tys vs h1 h2) ∈ tg 0) :
    ∀ (l : Nat) (J : Nat → World → bA → Prop) (Jx : World → bA → Prop) (tm : Array Value), (∀ k, Cb (J k)) → Cb Jx → OK P l encs J Jx → (∀ k w M, J k w M → (∀ c, c < n → (s c).den w M (tm.getD c undef)) ∧ ∀ x ∈ tg k, x.2.den w M x.1) → ∀ w M us, Wf w M → FX M → cB w M (Ty.ex (yv l) :: Ty.pp [Ty.ptr D 0] :: mq) us → J 0 w M → Calls P f us.toArray w (cH encs.length J Jx resD resS) := by
  intro l J Jx tm hJ hJx hY hS w M us wf z hd hj
  obtain ⟨u, rfl⟩ : ∃ u, D = u + 1 := ⟨D - 1, by have := hD.1; omega⟩
  have hat : ∀ k w M, Wf w M → J k w M → ∃ b, M b = some (u + 1) ∧ tm.getD sd undef = .pointer (some ⟨b, 0, none⟩) ∧ ∃ cs : Array Value, w.heap[b]? = some (.cells cs Tb (0, 0)) ∧ cs.toList.take vs.length = vs := fun k w M wf hj => by
    obtain ⟨g1, g2⟩ := hS k w M hj
    have g3 := g1 sd hsn
    rw [hsd] at g3
    obtain ⟨b, hb, e⟩ := g3
    obtain ⟨b', cs, hb', hh, hds⟩ := g2 _ (htD k)
    have := wf.inj b b' u hD.2 hb hb'
    subst this
    obtain ⟨v1, v2, e2, d1, d2⟩ := pS hds
    rw [q3 d1] at e2
    exact ⟨b, hb, e, cs, hh, by rw [e2, List.take_left']; rfl⟩
  obtain ⟨b, hb, eb, _⟩ := hat 0 w M wf hj
  have hX : XB b (u + 1) Tb vs J := fun k w' M' wf' hj' => by
    obtain ⟨b', hb', eb', cs, hh, hcs⟩ := hat k w' M' wf' hj'
    rw [eb] at eb'
    injection eb' with eb'
    injection eb' with eb'
    injection eb' with eb' _ _
    subst eb'
    exact ⟨hb', cs, hh, hcs⟩
  refine (hI b).2 l J Jx hJ hJx hX hY w M us wf z ?_ ((hS 0 w M hj).2 _ htf) hj
  match us, hd with
  | u1 :: u2 :: us, ⟨d1, ⟨q, off, e, m1, m2, m3⟩, d3⟩ =>
    refine ⟨d1, ⟨q, off, e, m1, m2, fun i t hi => ?_⟩, d3⟩
    cases i with
    | succ i => cases hi
    | zero =>
      obtain ⟨x, hx, b', hb', ex⟩ := m3 0 _ rfl
      have := wf.inj b b' u hD.2 hb hb'
      subst this
      injection hi with hi
      subst hi
      exact ⟨x, hx, ex⟩
end
end Go.T
namespace Go.Proofs.YtelbollidfdcjaaGreat
open Go Go.T
set_option maxHeartbeats 4000000
section
variable {y : ak}
theorem FR (hr : y.cG) : (y.bins.length : Int) * y.days = (y.cells : Nat) := by
 rw [← D_eq hr]; unfold ak.cells; simp
theorem mm (hr : y.cG) : y.cells ≤ 20 := by
 have h1 := hr.bins; have h2 := hr.days; have h3 := D_eq hr
 have := Nat.mul_le_mul (show y.bins.length ≤ 4 by omega) (show y.D ≤ 5 by omega)
 unfold ak.cells; omega
theorem B9 {s d : Int} (hs : 0 ≤ s ∧ s ≤ 4) (hd : 0 ≤ d ∧ d ≤ 6) : 0 ≤ s * d ∧ s * d ≤ 24 := by
 have : s = 0 ∨ s = 1 ∨ s = 2 ∨ s = 3 ∨ s = 4 := by omega
 rcases this with e | e | e | e | e <;> subst e <;> omega
def fk (n : Int) (l : List Int) : Int := l.foldl min n
theorem DB (n : Int) (l : List Int) : fk n (l.take 0) = n := rfl
theorem Dl {n : Int} {l : List Int} {k : Nat} (h : k < l.length) : min (fk n (l.take k)) (nth l k) = fk n (l.take (k + 1)) := by
 unfold fk; rw [cT h, List.foldl_append]; rfl
def vp (k : Nat) : List Bool := List.replicate k true ++ List.replicate (8 - k) false
def bY : List Bool := List.replicate 8 true
theorem zB {k : Nat} (h : k ≤ 8) : (vp k).length = 8 := by unfold vp; rw [List.length_append, List.length_replicate, List.length_replicate]; omega
theorem De {k : Nat} (h : k < 8) : (vp k).set k true = vp (k + 1) := by
 unfold vp
 rw [List.set_append_right _ _ (by simp), List.length_replicate, Nat.sub_self, show 8 - k = (8 - (k + 1)) + 1 by omega, List.replicate_succ, List.set_cons_zero, List.replicate_succ', List.append_assoc]; rfl
theorem NK (hr : y.cG) {s d : Int} (h : s = -1) : ((y.cells : Nat) : Int) = y.cell s d := by rw [h, ry hr]
theorem Nq {s d : Int} (h : ¬ s = -1) : s * y.days + d = y.cell s d := (if_neg h).symm
theorem I3 (hr : y.cG) {b t : Nat} : (b : Int) * (y.days + 1) + t = (y.kept b t : Nat) := by
 rw [← D_eq hr]; unfold ak.kept; simp
end
attribute [local irreducible] ak.cell ak.kept ak.cells fk
attribute [local irreducible] gA eU lH nR gy gl g5 gr g9 nU gx nZ dN fS nJ ff nQ nth fI dQ au dK bodyPost Exit.then Exit.inBlock Code.wp Code.wpIn nY gm oC n9 g7 eM cJ cH bodyPostM dP
set_option maxRecDepth 100000 in
theorem r5 (n : Int) (l : List Int) : dK Tryz.prog 180 [Ty.int .i64 n, Ty.sl cy l] (Ty.int .i64 (fk n l)) := by
 refine ah Tryz.func180 rfl (by decide) Tryz.ntmps180 (by exact Nat.le_of_ble_eq_true rfl) fun w0 M0 => ?_
 refine g6 (s := 1) rfl rfl g8 fun hln => ?_
 refine aE (aA (bk rfl (aD (aC (aE (aE (aA (fN rfl (cK rfl rfl rfl ?_)))))))))
 refine bG rfl (aD (aC (aZ ?_)))
 refine cF (fun (k : {k : Nat // k ≤ l.length}) => live [(0, Ty.int .i64 (fk n (l.take k.1))), (7, Ty.sl cy l), (8, Ty.int .i64 l.length), (9, Ty.int .i64 (k.1 : Nat))] []) (fun k => l.length - k.1) (⟨0, by omega⟩) ?_ fun k => ?_
 ·(refine cx.mk' ?_ ?_ <;> (repeat' (first | exact aJ | exact aK | refine aB ?_ (Ty.aU _) | refine aB ?_ (Ty.aF _) | refine aB ?_ ?_)))
  all_goals exact Ty.bE (DB n l).symm
 refine aE (aA (bB rfl rfl rfl (aD (aC (aE ?_)))))
 refine aj rfl (fun hc1 => ?_) (fun hc1 => ?_)
 ·
  refine aq (aC (aE (aZ (aE (aA ?_)))))
  refine av rfl rfl rfl rfl rfl rfl (by omega) ?_
  refine aI rfl rfl rfl rfl (bk rfl (aD (aC (aA (bG rfl (bG rfl (JN rfl rfl (bk rfl (aD ?_)))))))))
  refine bI (aC (aA ?_))
  refine cA rfl rfl (by omega) (by omega) ?_
  refine bG rfl (aD ?_)
  refine bO (⟨k.1 + 1, by omega⟩) ?_ (by show l.length - (k.1 + 1) < l.length - k.1; omega)
  (refine cx.mk' ?_ ?_ <;> (repeat' (first | exact aJ | exact aK | refine aB ?_ (Ty.aU _) | refine aB ?_ (Ty.aF _) | refine aB ?_ ?_)))
  all_goals skip
  all_goals exact Ty.bE (Dl (by omega))
 refine cE (aP (aP (aa rfl (aC (aE (aA (bG rfl (bk rfl (aD ?_)))))))))
 refine aC (ay (bP rfl rfl ?_))
 all_goals skip
 all_goals exact az rfl rfl (congrArg (Ty.int .i64) (by rw [List.take_of_length_le (by have := k.2; omega)]))
set_option maxRecDepth 100000 in
theorem sG : dK Tryz.prog 118 [] (Ty.arr eV bY) := by
 refine ah Tryz.func118 rfl (by decide) Tryz.ntmps118 (by exact Nat.le_of_ble_eq_true rfl) fun w0 M0 => ?_
 refine aE (aA ?_)
 refine bp rfl (by exact List.cons_ne_nil _ _) rfl ?_
 refine aD (aC (aE (aA ?_)))
 refine BN (E := eV) (xs := List.replicate 8 false) rfl (by exact List.cons_ne_nil _ _) rfl rfl ?_
 refine aD (aC (aE (aE (aA (bG rfl (aD (aC (aZ ?_))))))))
 refine cF (fun (k : {k : Nat // k ≤ 8}) => live [(0, Ty.ptr 1 0), (1, Ty.ptr 2 0), (3, Ty.int .i64 (k.1 : Nat))] [(1, Cont.cells 180 [Ty.bool false, Ty.bool false, Ty.bool false, Ty.bool false, Ty.bool false, Ty.bool false, Ty.bool false, Ty.bool false]), (2, Cont.vec eV 180 (vp k.1))]) (fun k => 8 - k.1) (⟨0, by omega⟩) ?_ fun k => ?_
 ·(refine cx.mk' ?_ ?_ <;> (repeat' (first | exact aJ | exact aK | refine aB ?_ (Ty.aU _) | refine aB ?_ (Ty.aF _) | refine aG rfl (Cont.aF _) ?_)))
 have hkl := zB k.2
 refine aE (aA (bB rfl rfl rfl (aD (aC (aE ?_)))))
 refine aj rfl (fun hc1 => ?_) (fun hc1 => ?_)
 ·
  refine aq (aC (aE (aZ (aE (aA (bG rfl (bk rfl (aD (aC ?_)))))))))
  refine aA (bG rfl ?_)
  refine sR (n := 8) rfl rfl rfl rfl rfl (by omega) (by omega) ?_
  refine rK rfl rfl rfl (by decide) rfl rfl (by exact (rfl : _ = Ty.bool _)) rfl (by omega) (by decide) rfl rfl ?_
  refine aD (bI (aC (aA ?_)))
  refine cA rfl rfl (by omega) (by omega) ?_
  refine bG rfl (aD ?_)
  refine bO (⟨k.1 + 1, by omega⟩) ?_ (by show 8 - (k.1 + 1) < 8 - k.1; omega)
  (refine cx.mk' ?_ ?_ <;> (repeat' (first | exact aJ | exact aK | refine aB ?_ (Ty.aU _) | refine aB ?_ (Ty.aF _) | refine aG rfl (Cont.aF _) ?_ | refine aG rfl ?_ ?_)))
  all_goals skip
  all_goals exact Cont.cr (De (by omega))
 refine cE (aP (aP (aa rfl (aC (aE ?_)))))
 obtain ⟨k, hk⟩ := k
 obtain rfl : k = 8 := by have h1 : ¬ (k : Int) < 8 := hc1; have h2 : k ≤ 8 := hk; omega
 have hkl := zB hk
 refine aA ?_
 refine iI rfl rfl (by decide) rfl rfl (by rw [hkl]; rfl) (fun e => by rw [e] at hkl; cases hkl) ?_
 refine BQ rfl rfl (by decide) rfl rfl (by rw [hkl]; rfl) rfl ?_
 refine aD (aC (ay ?_))
 refine Au (show vp 8 = bY from rfl) rfl rfl rfl rfl (by decide) rfl rfl (by rw [hkl]; rfl) (fun e => by rw [e] at hkl; cases hkl)
set_option maxRecDepth 100000 in
theorem rY (y : ak) (hr : y.cG) : dK Tryz.prog 131 [Ty.pp (bH y)] (Ty.int .i64 (y.cells : Nat)) := by
 refine ah Tryz.func131 rfl (by decide) Tryz.ntmps131 (by exact Nat.le_of_ble_eq_true rfl) fun w0 M0 => ?_
 have hcm := FR hr
 have hcl := mm hr
 refine aE (aA (bk rfl (aD (aC (aE (cP mixed rfl (jo rfl (bq rfl ?_))))))))
 refine aH rfl rfl rfl rfl rfl (by decide) ?_
 refine aH rfl rfl rfl rfl rfl (by decide) ?_
 refine aI rfl rfl rfl rfl (cK rfl rfl rfl (jo rfl (bq rfl ?_)))
 refine aH rfl rfl rfl rfl rfl (by decide) ?_
 refine aH rfl rfl rfl rfl rfl (by decide) ?_
 refine aI rfl rfl rfl rfl ?_
 refine wL rfl rfl (by rw [hcm]; omega) (by rw [hcm]; omega) ?_
 refine bk rfl (aD ?_)
 refine ⟨by kernel_rfl, ?_⟩
 refine aC (ay (bP rfl rfl ?_))
 all_goals skip
 all_goals exact az rfl rfl (congrArg (Ty.int .i64) hcm)
set_option maxRecDepth 100000 in
theorem wO (y : ak) (hr : y.cG) (s d : Int) (hs : -1 ≤ s ∧ s < y.bins.length) (hd : 0 ≤ d ∧ d ≤ y.days) : dK Tryz.prog 132 [Ty.pp (bH y), Ty.int .i64 s, Ty.int .i64 d] (Ty.int .i64 (y.cell s d)) := by
 refine ah Tryz.func132 rfl (by decide) Tryz.ntmps132 (by exact Nat.le_of_ble_eq_true rfl) fun w0 M0 => ?_
 have h1 := hr.bins
 have h2 := hr.days
 refine aE (aA (bk rfl (aD (aC (aE (aE (aA (bG rfl (bB rfl rfl rfl ?_)))))))))
 refine aD (aC ?_)
 refine aj rfl (fun hc1 => ?_) (fun hc1 => ?_)
 ·
  refine aE (aA (jo rfl (af (rY y hr) rfl rfl rfl rfl rfl (bk rfl (aD (aC (ay (aS (bP rfl rfl ?_)))))))))
  all_goals skip
  all_goals exact az rfl rfl (congrArg (Ty.int .i64) (NK hr hc1))
 refine aq (aC (aE ?_))
 have hb := B9 (s := s) (d := y.days) (by omega) (by omega)
 refine aA (bG rfl (jo rfl (bq rfl ?_)))
 refine aH rfl rfl rfl rfl rfl (by decide) ?_
 refine aH rfl rfl rfl rfl rfl (by decide) ?_
 refine aI rfl rfl rfl rfl ?_
 refine wL rfl rfl (by omega) (by omega) ?_
 refine bG rfl ?_
 refine cA rfl rfl (by omega) (by omega) ?_
 refine bk rfl (aD (aC (ay (bP rfl rfl ?_))))
 all_goals skip
 all_goals exact az rfl rfl (congrArg (Ty.int .i64) (Nq hc1))
set_option maxRecDepth 100000 in
theorem Cv (y : ak) (hr : y.cG) (b t : Nat) (hb : b < y.bins.length) (ht : t ≤ y.D) : dK Tryz.prog 89 [Ty.pp (bH y), Ty.int .i64 (b : Nat), Ty.int .i64 (t : Nat)] (Ty.int .i64 (y.kept b t : Nat)) := by
 refine ah Tryz.func89 rfl (by decide) Tryz.ntmps89 (by exact Nat.le_of_ble_eq_true rfl) fun w0 M0 => ?_
 have h1 := hr.bins
 have h2 := hr.days
 have h3 := D_eq hr
 have h4 := B9 (s := (b : Nat)) (d := y.days + 1) (by omega) (by omega)
 refine aE (aA (bk rfl (aD (aC (aE (aA (bG rfl (jo rfl (bq rfl ?_)))))))))
 refine aH rfl rfl rfl rfl rfl (by decide) ?_
 refine aH rfl rfl rfl rfl rfl (by decide) ?_
 refine aI rfl rfl rfl rfl ?_
 refine cA rfl rfl (by omega) (by omega) ?_
 refine wL rfl rfl (by omega) (by omega) ?_
 refine bG rfl ?_
 refine cA rfl rfl (by omega) (by omega) ?_
 refine bk rfl (aD (aC (ay (bP rfl rfl ?_))))
 all_goals skip
 all_goals exact az rfl rfl (congrArg (Ty.int .i64) (I3 hr))
end Go.Proofs.YtelbollidfdcjaaGreat
namespace Go.Proofs.YtelbollidfdcjaaGreat
open Go Go.T
set_option maxHeartbeats 8000000
def je (f : bu) : List Ty := [Ty.agg (dg.tys f)]
section
variable {y : ak} {c : Nat → Bool} {b t : Nat}
def DF (y : ak) (b t : Nat) : Int := if 0 < t then y.cell b ((t : Int) - 1) else (y.cells : Nat)
def Gm (y : ak) (b t : Nat) : Int := if t < y.D then y.cell b t else (y.cells : Nat)
def vB (s d : Int) (k : Span) : List Ty := [Ty.int .i64 s, Ty.int .i64 d, Ty.int .i64 k.lo, Ty.int .i64 k.hi]
theorem Lx (h : (t : Int) > 0) : y.cell b ((t : Int) - 1) = DF y b t := (if_pos (by omega)).symm
theorem NZ (h : ¬ (t : Int) > 0) : ((y.cells : Nat) : Int) = DF y b t := (if_neg (by omega)).symm
theorem LA (hr : y.cG) (h : (t : Int) < y.days) : y.cell b t = Gm y b t := (if_pos (by have := D_eq hr; omega)).symm
theorem N3 (hr : y.cG) (h : ¬ (t : Int) < y.days) : ((y.cells : Nat) : Int) = Gm y b t := (if_neg (by have := D_eq hr; omega)).symm
theorem HG (h : (t : Int) > 0) : 0 = (iF y b t).lo ∧ (nth y.bins b).holds = (iF y b t).hi := by unfold iF; rw [if_pos (by omega)]; exact ⟨rfl, rfl⟩
theorem Mo (h : ¬ (t : Int) > 0) : max 0 (nth y.bins b).first.lo = (iF y b t).lo ∧ fk (nth y.bins b).holds [(nth y.bins b).first.hi] = (iF y b t).hi := by unfold iF; rw [if_neg (by omega)]; exact ⟨rfl, rfl⟩
theorem EA {s : Span} {k : Nat} (h : ((c k && decide ((nth y.levels k).bin = b)) && decide ((nth y.levels k).day = t)) = true) : max (gH y c b t s k).lo (nth y.levels k).sacks.lo = (gH y c b t s (k + 1)).lo ∧ fk (gH y c b t s k).hi [(nth y.levels k).sacks.hi] = (gH y c b t s (k + 1)).hi := by
 show _ = (if _ then _ else _ : Span).lo ∧ _ = (if _ then _ else _ : Span).hi
 rw [if_pos h]; exact ⟨rfl, rfl⟩
theorem Io {s : Span} {k : Nat} (h : ((c k && decide ((nth y.levels k).bin = b)) && decide ((nth y.levels k).day = t)) = false) : (gH y c b t s k).lo = (gH y c b t s (k + 1)).lo ∧ (gH y c b t s k).hi = (gH y c b t s (k + 1)).hi := by
 show _ = (if _ then _ else _ : Span).lo ∧ _ = (if _ then _ else _ : Span).hi
 rw [if_neg (by rw [h]; decide)]; exact ⟨rfl, rfl⟩
theorem Ay (s : Span) : s.lo = (gH y c b t s 0).lo ∧ s.hi = (gH y c b t s 0).hi := ⟨rfl, rfl⟩
theorem LM {s : Span} {k : Nat} (hk : k ≤ y.levels.length) (h : ¬ (k : Int) < (y.levels.length : Int)) : gH y c b t s k = gH y c b t s y.levels.length := by rw [show k = y.levels.length by omega]
theorem MI (hb : b < y.bins.length) (ht : t ≤ y.D) : je (nth (aQ y c) (b * (y.D + 1) + t)) = [Ty.agg (vB (DF y b t) (Gm y b t) (gH y c b t (iF y b t) y.levels.length))] := congrArg je (iT (c := c) hb ht)
theorem LO {i : Nat} (hi : i < y.moves.length) : je (nth (aQ y c) (y.bins.length * (y.D + 1) + i)) = [Ty.agg [Ty.int .i64 (y.cell (nth y.moves i).src (nth y.moves i).day), Ty.int .i64 (y.cell (nth y.moves i).dst (nth y.moves i).day), Ty.int .i64 (nth y.moves i).sacks.lo, Ty.int .i64 (nth y.moves i).sacks.hi]] := congrArg je (iS (c := c) hi)
theorem FL (hb : b < y.bins.length) (ht : t ≤ y.D) : b * (y.D + 1) + t < (aQ y c).length := by
 rw [fF]; have h := qH hb ht; unfold ak.kept at h; omega
theorem KD {J : Nat → World → bA → Prop} (hJ : ∀ k, Cb (J k)) {m k : Nat} (e : m = k) : (Cont.ck (hJ m)).Sub (Cont.ck (hJ k)) := Cont.N2 hJ e
end
attribute [local irreducible] ak.cell ak.cells fk DF Gm iF gH aQ
attribute [local irreducible] gA eU lH nR gy gl g5 gr g9 nU gx nZ dN fS nJ ff nQ nth fI dQ au dK bodyPost Exit.then Exit.inBlock Code.wp Code.wpIn nY gm oC n9 g7 eM cJ cH bodyPostM dP
set_option maxRecDepth 100000 in
theorem vC (y : ak) (hr : y.cG) (c8 : List Bool) (hc8 : c8.length = 8) (b D : Nat) (hD : D < 4096) (vs : List Value) : Iw Tryz.prog 196 b D 185 vs (bH y) (fun l => [Ty.ex (yv l), Ty.pp [Ty.ex (.pointer (some ⟨b, 0, none⟩))], Ty.pa eV c8 0]) ((aQ y (nth c8)).map je) (Ty.kY []) (Ty.kY []) := by
 refine DN rfl rfl Tryz.func196 rfl (by decide) Tryz.ntmps196 (fun _ => by exact Nat.le_of_ble_eq_true rfl) (fun _ => ⟨rfl, rfl⟩) fun l J Jx hJ hJx hX hY w0 M0 => ?_
 have h1 := hr.bins
 have h2 := hr.days
 have h3 := D_eq hr
 have h4 := hr.moves
 have h5 := hr.levels
 refine aE (aE (aA (aI rfl rfl rfl rfl (kO rfl ?_))))
 refine ia rfl rfl rfl rfl rfl (by decide) ?_
 refine ia rfl rfl rfl rfl rfl (by decide) ?_
 refine sI hX rfl rfl rfl rfl rfl rfl (cK rfl rfl rfl (bG rfl (aD (aC (aZ ?_)))))
 refine cF (fun (k : {k : Nat // k ≤ y.bins.length}) => live [(0, Ty.ex (yv l)), (1, Ty.pp [Ty.ex (.pointer (some ⟨b, 0, none⟩))]), (2, Ty.pa eV c8 0), (16, Ty.sl fC y.bins), (17, Ty.int .i64 y.bins.length), (18, Ty.int .i64 (k.1 : Nat))] [(7000, Cont.ck (hJ (k.1 * (y.D + 1)))), (4000, Cont.fact (bH y) vs rfl rfl)]) (fun k => y.bins.length - k.1) (⟨0, by omega⟩) ?_ fun k => ?_
 ·(refine cx.mk' ?_ ?_ <;> (repeat' (first | exact aJ | exact aK | refine aB ?_ (Ty.aU _) | refine aB ?_ (Ty.aF _) | refine aG rfl (Cont.aF _) ?_ | refine aG rfl ?_ ?_)))
  all_goals exact KD hJ (Nat.zero_mul _).symm
 refine aE (aA (bB rfl rfl rfl (aD (aC (aE ?_)))))
 refine aj rfl (fun hc1 => ?_) (fun hc1 => ?_)
 ·
  refine aq (aC (aE (aZ (aE (aA (bG rfl ?_))))))
  refine av rfl rfl rfl rfl rfl rfl (by omega) ?_
  refine aX rfl rfl rfl (by exact Nat.le_of_ble_eq_true rfl) ?_
  refine bp rfl (by exact List.cons_ne_nil _ _) rfl ?_
  refine bk rfl ?_
  refine bZ rfl rfl (by decide) rfl rfl rfl rfl rfl rfl ?_
  refine aD (aC (aE (aA (aI rfl rfl rfl rfl (kO rfl ?_)))))
  refine ia rfl rfl rfl rfl rfl (by decide) ?_
  refine ia rfl rfl rfl rfl rfl (by decide) ?_
  refine sI hX rfl rfl rfl rfl rfl rfl ?_
  refine cA rfl rfl (by omega) (by omega) ?_
  refine bG rfl (aD (aC (aZ ?_)))
  refine cF (fun (t : {t : Nat // t ≤ y.D + 1}) => live [(0, Ty.ex (yv l)), (1, Ty.pp [Ty.ex (.pointer (some ⟨b, 0, none⟩))]), (2, Ty.pa eV c8 0), (4, Ty.int .i64 (k.1 : Nat)), (5, Ty.ptr 6 0), (16, Ty.sl fC y.bins), (17, Ty.int .i64 y.bins.length), (18, Ty.int .i64 (k.1 : Nat)), (28, Ty.int .i64 (y.days + 1)), (29, Ty.int .i64 (t.1 : Nat))] [(6, Cont.cells 39 (fC.tys (nth y.bins k.1))), (7000, Cont.ck (hJ (k.1 * (y.D + 1) + t.1))), (4000, Cont.fact (bH y) vs rfl rfl)]) (fun t => y.D + 1 - t.1) (⟨0, by omega⟩) ?_ fun t => ?_
  ·(refine cx.mk' ?_ ?_ <;> (repeat' (first | exact aJ | exact aK | refine aB ?_ (Ty.aU _) | refine aB ?_ (Ty.aF _) | refine aG rfl (Cont.aF _) ?_)))
  refine aE (aA (bB rfl rfl rfl (aD (aC (aE ?_)))))
  refine aj rfl (fun hc2 => ?_) (fun hc2 => ?_)
  ·
   refine aq (aC (aE (aZ (aE (aA (bG rfl (bk rfl (aD (aC ?_)))))))))
   refine aE (cP mixed rfl (aI rfl rfl rfl rfl ?_))
   refine eI [7000, 4000] (rY y hr) rfl (aW (pQ hX hD rfl rfl rfl rfl) cN) (by exact dX _ _) ?_
   refine aI rfl rfl rfl rfl ?_
   refine eI [7000, 4000] (rY y hr) rfl (aW (pQ hX hD rfl rfl rfl rfl) cN) (by exact dX _ _) ?_
   refine aR rfl rfl rfl rfl rfl (by decide) ?_
   refine aY rfl rfl (by decide) rfl rfl rfl ?_
   refine dG rfl rfl (by exact List.cons_ne_nil _ _) rfl (by repeat (first | exact (aV.nil : aV _ _ [] _) | (show aV _ _ ((_, _) :: _) _; apply aV.one; (· exact (rfl : _ = Ty.int _ _)); (· exact rfl)))) (by exact (rfl : _ = some [_, _, _, _])) ?_
   refine bp rfl (by exact List.cons_ne_nil _ _) rfl ?_
   refine bZ rfl rfl (by decide) rfl rfl rfl rfl rfl rfl ?_
   refine aD ?_
   refine ⟨by kernel_rfl, ?_⟩
   refine aC ?_
   refine mJ (J := live [(0, Ty.ex (yv l)), (1, Ty.pp [Ty.ex (.pointer (some ⟨b, 0, none⟩))]), (2, Ty.pa eV c8 0), (4, Ty.int .i64 (k.1 : Nat)), (5, Ty.ptr 6 0), (6, Ty.int .i64 (t.1 : Nat)), (7, Ty.ptr 8 0), (16, Ty.sl fC y.bins), (17, Ty.int .i64 y.bins.length), (18, Ty.int .i64 (k.1 : Nat)), (28, Ty.int .i64 (y.days + 1)), (29, Ty.int .i64 (t.1 : Nat))] [(6, Cont.cells 39 (fC.tys (nth y.bins k.1))), (8, Cont.cells 187 [Ty.int .i64 (DF y k.1 t.1), Ty.int .i64 (y.cells : Nat), Ty.int .i64 (iF y k.1 t.1).lo, Ty.int .i64 (iF y k.1 t.1).hi]), (7000, Cont.ck (hJ (k.1 * (y.D + 1) + t.1))), (4000, Cont.fact (bH y) vs rfl rfl)]) ?_ ?_
   ·
    refine aE (aA (bG rfl (bB rfl rfl rfl (aD (aC ?_)))))
    refine aj rfl (fun hc3 => ?_) (fun hc3 => ?_)
    ·
     refine aA (aI rfl rfl rfl rfl (bG rfl (bG rfl ?_)))
     refine gR rfl rfl (by omega) (by omega) ?_
     refine eI [7000, 4000] (wO y hr (k.1 : Nat) ((t.1 : Int) - 1) (by omega) (by omega)) rfl (aW (pQ hX hD rfl rfl rfl rfl) (aW (bT (bR rfl rfl)) (aW (bT (bR rfl rfl)) cN))) (by exact dX _ _) ?_
     refine aR rfl rfl rfl rfl rfl (by decide) ?_
     refine cm rfl rfl (by decide) rfl rfl (by exact (rfl : _ = Ty.int _ _)) rfl (by exact Nat.le_of_ble_eq_true rfl) rfl rfl (by exact rfl) ?_
     refine aD (fJ ?_)
     (refine cx.mk' ?_ ?_ <;> (repeat' (first | exact aJ | exact aK | exact dD | refine aB ?_ (Ty.aU _) | refine aB ?_ (Ty.aF _) | refine aG rfl (Cont.aF _) ?_ | refine aG rfl (Cont.dF ?_) ?_ | refine bM ?_ (Ty.aF _) | refine bM ?_ ?_)))
     all_goals first | exact Ty.bE (Lx hc3) | exact Ty.bE (HG hc3).1 | exact Ty.bE (HG hc3).2
    refine cP mixed rfl ?_
    refine aR rfl rfl rfl rfl rfl (by decide) ?_
    refine aR rfl rfl rfl rfl rfl (by decide) ?_
    refine aY rfl rfl (by decide) rfl rfl rfl ?_
    refine CV rfl rfl ?_
    refine aR rfl rfl rfl rfl rfl (by decide) ?_
    refine aY rfl rfl (by decide) rfl rfl rfl ?_
    refine aR rfl rfl rfl rfl rfl (by decide) ?_
    refine aR rfl rfl rfl rfl rfl (by decide) ?_
    refine aY rfl rfl (by decide) rfl rfl rfl ?_
    refine bW (E := cy) (xs := [_]) rfl rfl rfl rfl rfl (by decide) (by decide) (by repeat (first | exact (aV.nil : aV _ _ [] _) | (show aV _ _ ((_, _) :: _) _; apply aV.one; (· exact (rfl : _ = Ty.int _ _)); (· exact rfl)))) (by exact rfl) rfl ?_
    refine af (r5 _ _) rfl rfl rfl rfl rfl ?_
    refine aR rfl rfl rfl rfl rfl (by decide) ?_
    refine cm rfl rfl (by decide) rfl rfl (by exact (rfl : _ = Ty.int _ _)) rfl (by exact Nat.le_of_ble_eq_true rfl) rfl rfl (by exact rfl) ?_
    refine aR rfl rfl rfl rfl rfl (by decide) ?_
    refine cm rfl rfl (by decide) rfl rfl (by exact (rfl : _ = Ty.int _ _)) rfl (by exact Nat.le_of_ble_eq_true rfl) rfl rfl (by exact rfl) ?_
    refine aD ?_
    refine ⟨by kernel_rfl, ?_⟩
    refine fJ ?_
    (refine cx.mk' ?_ ?_ <;> (repeat' (first | exact aJ | exact aK | exact dD | refine aB ?_ (Ty.aU _) | refine aB ?_ (Ty.aF _) | refine aG rfl (Cont.aF _) ?_ | refine aG rfl (Cont.dF ?_) ?_ | refine bM ?_ (Ty.aF _) | refine bM ?_ ?_)))
    all_goals first | exact Ty.bE (NZ hc3) | exact Ty.bE (Mo hc3).1 | exact Ty.bE (Mo hc3).2
   refine mJ (J := live [(0, Ty.ex (yv l)), (1, Ty.pp [Ty.ex (.pointer (some ⟨b, 0, none⟩))]), (2, Ty.pa eV c8 0), (4, Ty.int .i64 (k.1 : Nat)), (5, Ty.ptr 6 0), (6, Ty.int .i64 (t.1 : Nat)), (7, Ty.ptr 8 0), (16, Ty.sl fC y.bins), (17, Ty.int .i64 y.bins.length), (18, Ty.int .i64 (k.1 : Nat)), (28, Ty.int .i64 (y.days + 1)), (29, Ty.int .i64 (t.1 : Nat))] [(6, Cont.cells 39 (fC.tys (nth y.bins k.1))), (8, Cont.cells 187 (vB (DF y k.1 t.1) (Gm y k.1 t.1) (iF y k.1 t.1))), (7000, Cont.ck (hJ (k.1 * (y.D + 1) + t.1))), (4000, Cont.fact (bH y) vs rfl rfl)]) ?_ ?_
   ·
    refine aE (aA (bG rfl (aI rfl rfl rfl rfl (kO rfl ?_))))
    refine ia rfl rfl rfl rfl rfl (by decide) ?_
    refine ia rfl rfl rfl rfl rfl (by decide) ?_
    refine sI hX rfl rfl rfl rfl rfl rfl (bB rfl rfl rfl (aD (aC ?_)))
    refine aj rfl (fun hc4 => ?_) (fun hc4 => ?_)
    ·
     refine aA (aI rfl rfl rfl rfl (bG rfl (bG rfl ?_)))
     refine eI [7000, 4000] (wO y hr (k.1 : Nat) (t.1 : Nat) (by omega) (by omega)) rfl (aW (pQ hX hD rfl rfl rfl rfl) (aW (bT (bR rfl rfl)) (aW (bT (bR rfl rfl)) cN))) (by exact dX _ _) ?_
     refine aR rfl rfl rfl rfl rfl (by decide) ?_
     refine cm rfl rfl (by decide) rfl rfl (by exact (rfl : _ = Ty.int _ _)) rfl (by exact Nat.le_of_ble_eq_true rfl) rfl rfl (by exact rfl) ?_
     refine aD (fJ ?_)
     (refine cx.mk' ?_ ?_ <;> (repeat' (first | exact aJ | exact aK | exact dD | refine aB ?_ (Ty.aU _) | refine aB ?_ (Ty.aF _) | refine aG rfl (Cont.aF _) ?_ | refine aG rfl (Cont.dF ?_) ?_ | refine bM ?_ (Ty.aF _) | refine bM ?_ ?_)))
     all_goals exact Ty.bE (LA hr hc4)
    refine aq (fJ ?_)
    (refine cx.mk' ?_ ?_ <;> (repeat' (first | exact aJ | exact aK | exact dD | refine aB ?_ (Ty.aU _) | refine aB ?_ (Ty.aF _) | refine aG rfl (Cont.aF _) ?_ | refine aG rfl (Cont.dF ?_) ?_ | refine bM ?_ (Ty.aF _) | refine bM ?_ ?_)))
    all_goals exact Ty.bE (N3 hr hc4)
   refine aE (aE (aA (aI rfl rfl rfl rfl (kO rfl ?_))))
   refine ia rfl rfl rfl rfl rfl (by decide) ?_
   refine ia rfl rfl rfl rfl rfl (by decide) ?_
   refine sI hX rfl rfl rfl rfl rfl rfl (cK rfl rfl rfl (bG rfl (aD (aC (aZ ?_)))))
   refine cF (fun (i : {i : Nat // i ≤ y.levels.length}) => live [(0, Ty.ex (yv l)), (1, Ty.pp [Ty.ex (.pointer (some ⟨b, 0, none⟩))]), (2, Ty.pa eV c8 0), (4, Ty.int .i64 (k.1 : Nat)), (5, Ty.ptr 6 0), (6, Ty.int .i64 (t.1 : Nat)), (7, Ty.ptr 8 0), (16, Ty.sl fC y.bins), (17, Ty.int .i64 y.bins.length), (18, Ty.int .i64 (k.1 : Nat)), (28, Ty.int .i64 (y.days + 1)), (29, Ty.int .i64 (t.1 : Nat)), (76, Ty.sl dV y.levels), (77, Ty.int .i64 y.levels.length), (78, Ty.int .i64 (i.1 : Nat))] [(6, Cont.cells 39 (fC.tys (nth y.bins k.1))), (8, Cont.cells 187 (vB (DF y k.1 t.1) (Gm y k.1 t.1) (gH y (nth c8) k.1 t.1 (iF y k.1 t.1) i.1))), (7000, Cont.ck (hJ (k.1 * (y.D + 1) + t.1))), (4000, Cont.fact (bH y) vs rfl rfl)]) (fun i => y.levels.length - i.1) (⟨0, by omega⟩) ?_ fun i => ?_
   ·(refine cx.mk' ?_ ?_ <;> (repeat' (first | exact aJ | exact aK | exact dD | refine aB ?_ (Ty.aU _) | refine aB ?_ (Ty.aF _) | refine aG rfl (Cont.aF _) ?_ | refine aG rfl (Cont.dF ?_) ?_ | refine bM ?_ (Ty.aF _) | refine bM ?_ ?_)))
    all_goals first | exact Ty.bE (Ay _).1 | exact Ty.bE (Ay _).2
   have hi := i.2
   refine aE (aA (bB rfl rfl rfl (aD (aC (aE ?_)))))
   refine aj rfl (fun hc5 => ?_) (fun hc5 => ?_)
   ·
    refine aq (aC (aE (aZ (aE (aA (bG rfl ?_))))))
    refine av rfl rfl rfl rfl rfl rfl (by omega) ?_
    refine aX rfl rfl rfl (by exact Nat.le_of_ble_eq_true rfl) ?_
    refine bp rfl (by exact List.cons_ne_nil _ _) rfl ?_
    refine bk rfl ?_
    refine bZ rfl rfl (by decide) rfl rfl rfl rfl rfl rfl ?_
    refine aD (aC (aE (aA (bG rfl ?_))))
    refine Cl (n := 8) rfl rfl rfl rfl rfl (by omega) ?_
    refine Gp rfl rfl rfl (Nat.zero_add _) (by omega) rfl ?_
    refine fB rfl ?_
    apply aN (s := 86) rfl rfl rfl
    ·intro hg; apply aO; (refine aR rfl rfl rfl rfl rfl (by decide) ?_); refine aD ?_; exact rfl
    ·exact rfl
    ·exact rfl
    apply aN (s := 86) rfl rfl rfl
    ·intro hg; apply aL (s := 87) rfl (by (rw [hg]; rfl)); apply aO; (refine aY rfl rfl (by decide) rfl rfl rfl ?_); refine aD ?_; exact rfl
    ·exact rfl
    ·exact rfl
    apply aN (s := 86) rfl rfl rfl
    ·intro hg; apply aO; (refine bG rfl ?_); refine aD ?_; exact rfl
    ·exact rfl
    ·exact rfl
    apply aN (s := 86) rfl rfl rfl
    ·intro hg; apply aL (s := 88) rfl (by (rw [hg]; rfl)); apply aL (s := 89) rfl (by (rw [hg]; rfl)); apply aO; (refine bB rfl rfl rfl ?_); refine aD ?_; exact rfl
    ·exact rfl
    ·exact rfl
    refine dy rfl rfl (fB rfl ?_)
    apply aN (s := 92) rfl rfl rfl
    ·intro hg; apply aO; (refine aR rfl rfl rfl rfl rfl (by decide) ?_); refine aD ?_; exact rfl
    ·exact rfl
    ·exact rfl
    apply aN (s := 92) rfl rfl rfl
    ·intro hg; apply aL (s := 93) rfl (by (rw [hg]; rfl)); apply aO; (refine aY rfl rfl (by decide) rfl rfl rfl ?_); refine aD ?_; exact rfl
    ·exact rfl
    ·exact rfl
    apply aN (s := 92) rfl rfl rfl
    ·intro hg; apply aO; (refine bG rfl ?_); refine aD ?_; exact rfl
    ·exact rfl
    ·exact rfl
    apply aN (s := 92) rfl rfl rfl
    ·intro hg; apply aL (s := 94) rfl (by (rw [hg]; rfl)); apply aL (s := 95) rfl (by (rw [hg]; rfl)); apply aO; (refine bB rfl rfl rfl ?_); refine aD ?_; exact rfl
    ·exact rfl
    ·exact rfl
    refine dy rfl rfl (aD (aC ?_))
    refine cI rfl (fun hc6 => ?_) (fun hc6 => ?_)
    ·
     refine cP mixed rfl ?_
     refine aR rfl rfl rfl rfl rfl (by decide) ?_
     refine aY rfl rfl (by decide) rfl rfl rfl ?_
     refine aR rfl rfl rfl rfl rfl (by decide) ?_
     refine aR rfl rfl rfl rfl rfl (by decide) ?_
     refine aY rfl rfl (by decide) rfl rfl rfl ?_
     refine CV rfl rfl ?_
     refine aR rfl rfl rfl rfl rfl (by decide) ?_
     refine aY rfl rfl (by decide) rfl rfl rfl ?_
     refine aR rfl rfl rfl rfl rfl (by decide) ?_
     refine aR rfl rfl rfl rfl rfl (by decide) ?_
     refine aY rfl rfl (by decide) rfl rfl rfl ?_
     refine bW (E := cy) (xs := [_]) rfl rfl rfl rfl rfl (by decide) (by decide) (by repeat (first | exact (aV.nil : aV _ _ [] _) | (show aV _ _ ((_, _) :: _) _; apply aV.one; (· exact (rfl : _ = Ty.int _ _)); (· exact rfl)))) (by exact rfl) rfl ?_
     refine af (r5 _ _) rfl rfl rfl rfl rfl ?_
     refine aR rfl rfl rfl rfl rfl (by decide) ?_
     refine cm rfl rfl (by decide) rfl rfl (by exact (rfl : _ = Ty.int _ _)) rfl (by exact Nat.le_of_ble_eq_true rfl) rfl rfl (by exact rfl) ?_
     refine aR rfl rfl rfl rfl rfl (by decide) ?_
     refine cm rfl rfl (by decide) rfl rfl (by exact (rfl : _ = Ty.int _ _)) rfl (by exact Nat.le_of_ble_eq_true rfl) rfl rfl (by exact rfl) ?_
     refine aD ?_
     refine ⟨by kernel_rfl, ?_⟩
     refine bI (aC (aA ?_))
     refine cA rfl rfl (by omega) (by omega) ?_
     refine bG rfl (aD ?_)
     refine bO (⟨i.1 + 1, by omega⟩) ?_ (by show y.levels.length - (i.1 + 1) < y.levels.length - i.1; omega)
     (refine cx.mk' ?_ ?_ <;> (repeat' (first | exact aJ | exact aK | exact dD | refine aB ?_ (Ty.aU _) | refine aB ?_ (Ty.aF _) | refine aG rfl (Cont.aF _) ?_ | refine aG rfl (Cont.dF ?_) ?_ | refine bM ?_ (Ty.aF _) | refine bM ?_ ?_)))
     all_goals skip
     all_goals first | exact Ty.bE (EA hc6).1 | exact Ty.bE (EA hc6).2
    refine aq (bI (aC (aA ?_)))
    refine cA rfl rfl (by omega) (by omega) ?_
    refine bG rfl (aD ?_)
    refine bO (⟨i.1 + 1, by omega⟩) ?_ (by show y.levels.length - (i.1 + 1) < y.levels.length - i.1; omega)
    (refine cx.mk' ?_ ?_ <;> (repeat' (first | exact aJ | exact aK | exact dD | refine aB ?_ (Ty.aU _) | refine aB ?_ (Ty.aF _) | refine aG rfl (Cont.aF _) ?_ | refine aG rfl (Cont.dF ?_) ?_ | refine bM ?_ (Ty.aF _) | refine bM ?_ ?_)))
    all_goals skip
    all_goals first | exact Ty.bE (Io hc6).1 | exact Ty.bE (Io hc6).2
   refine cE (aP (aP (aa rfl (aC (aE ?_)))))
   refine jW (tg := 8) rfl (Cont.m9 (congrArg (vB _ _) (LM i.2 hc5))) ?_
   refine aA (QD rfl ?_)
   refine bz rfl rfl (by decide) rfl rfl (by exact Nat.le_of_ble_eq_true rfl) ?_
   refine BH hJ hJx hY rfl rfl rfl rfl rfl (FO (FL (by omega) (by omega)) (MI (by omega) (by omega))) rfl ?_
   refine KL (h1 := hJ _) (hx := hJx) rfl ?_
   refine aD (aC ?_)
   refine FG (h1 := hJ _) (hx := hJx) rfl ?_ ?_
   ·
    refine ay (bC (aS (aS (bC (bC (aS (aS (bC (aS ?_)))))))))
    exact D1 rfl rfl
   refine aq (bI (aC (aA ?_)))
   refine cA rfl rfl (by omega) (by omega) ?_
   refine bG rfl (aD ?_)
   refine bO (⟨t.1 + 1, by omega⟩) ?_ (by show y.D + 1 - (t.1 + 1) < y.D + 1 - t.1; omega)
   (refine cx.mk' ?_ ?_ <;> (repeat' (first | exact aJ | exact aK | refine aB ?_ (Ty.aU _) | refine aB ?_ (Ty.aF _) | refine aG rfl (Cont.aF _) ?_)))
   all_goals skip
  refine cE (aP (aP (aa rfl (bI (aC (aA ?_))))))
  refine cA rfl rfl (by omega) (by omega) ?_
  refine bG rfl (aD ?_)
  refine bO (⟨k.1 + 1, by omega⟩) ?_ (by show y.bins.length - (k.1 + 1) < y.bins.length - k.1; omega)
  (refine cx.mk' ?_ ?_ <;> (repeat' (first | exact aJ | exact aK | refine aB ?_ (Ty.aU _) | refine aB ?_ (Ty.aF _) | refine aG rfl (Cont.aF _) ?_ | refine aG rfl ?_ ?_)))
  all_goals skip
  all_goals exact KD hJ (show k.1 * (y.D + 1) + t.1 = (k.1 + 1) * (y.D + 1) by rw [Nat.succ_mul]; have := t.2; omega)
 refine cE (aP (aP (aa rfl (aC (aE (aA (aI rfl rfl rfl rfl (kO rfl ?_))))))))
 refine ia rfl rfl rfl rfl rfl (by decide) ?_
 refine ia rfl rfl rfl rfl rfl (by decide) ?_
 refine sI hX rfl rfl rfl rfl rfl rfl (cK rfl rfl rfl (bG rfl (aD (aC (aZ ?_)))))
 refine cF (fun (i : {i : Nat // i ≤ y.moves.length}) => live [(0, Ty.ex (yv l)), (1, Ty.pp [Ty.ex (.pointer (some ⟨b, 0, none⟩))]), (124, Ty.sl eD y.moves), (125, Ty.int .i64 y.moves.length), (126, Ty.int .i64 (i.1 : Nat))] [(7000, Cont.ck (hJ (y.bins.length * (y.D + 1) + i.1))), (4000, Cont.fact (bH y) vs rfl rfl)]) (fun i => y.moves.length - i.1) (⟨0, by omega⟩) ?_ fun i => ?_
 ·(refine cx.mk' ?_ ?_ <;> (repeat' (first | exact aJ | exact aK | refine aB ?_ (Ty.aU _) | refine aB ?_ (Ty.aF _) | refine aG rfl (Cont.aF _) ?_ | refine aG rfl ?_ ?_)))
  all_goals exact KD hJ (show k.1 * (y.D + 1) = y.bins.length * (y.D + 1) + 0 by rw [show k.1 = y.bins.length by have := k.2; omega]; rfl)
 refine aE (aA (bB rfl rfl rfl (aD (aC (aE ?_)))))
 refine aj rfl (fun hc8 => ?_) (fun hc8 => ?_)
 ·
  refine aq (aC (aE (aZ (aE (aA ?_)))))
  refine av rfl rfl rfl rfl rfl rfl (by omega) ?_
  refine aX rfl rfl rfl (by exact Nat.le_of_ble_eq_true rfl) ?_
  refine bp rfl (by exact List.cons_ne_nil _ _) rfl ?_
  refine bZ rfl rfl (by decide) rfl rfl rfl rfl rfl rfl ?_
  refine aD (aC (aE ?_))
  have hm := hr.move _ (cW (xs := y.moves) (k := i.1) (by omega))
  refine cP mixed rfl (QD rfl (aI rfl rfl rfl rfl ?_))
  refine aR rfl rfl rfl rfl rfl (by decide) ?_
  refine aY rfl rfl (by decide) rfl rfl rfl ?_
  refine aR rfl rfl rfl rfl rfl (by decide) ?_
  refine aY rfl rfl (by decide) rfl rfl rfl ?_
  refine eI [7000, 4000] (wO y hr (nth y.moves i.1).src (nth y.moves i.1).day hm.2.1 (by omega)) rfl (aW (pQ hX hD rfl rfl rfl rfl) (aW (bT (bR rfl rfl)) (aW (bT (bR rfl rfl)) cN))) (by exact dX _ _) ?_
  refine aI rfl rfl rfl rfl ?_
  refine aR rfl rfl rfl rfl rfl (by decide) ?_
  refine aY rfl rfl (by decide) rfl rfl rfl ?_
  refine aR rfl rfl rfl rfl rfl (by decide) ?_
  refine aY rfl rfl (by decide) rfl rfl rfl ?_
  refine eI [7000, 4000] (wO y hr (nth y.moves i.1).dst (nth y.moves i.1).day hm.2.2.1 (by omega)) rfl (aW (pQ hX hD rfl rfl rfl rfl) (aW (bT (bR rfl rfl)) (aW (bT (bR rfl rfl)) cN))) (by exact dX _ _) ?_
  refine aR rfl rfl rfl rfl rfl (by decide) ?_
  refine aR rfl rfl rfl rfl rfl (by decide) ?_
  refine aY rfl rfl (by decide) rfl rfl rfl ?_
  refine aR rfl rfl rfl rfl rfl (by decide) ?_
  refine aR rfl rfl rfl rfl rfl (by decide) ?_
  refine aY rfl rfl (by decide) rfl rfl rfl ?_
  refine dG rfl rfl (by exact List.cons_ne_nil _ _) rfl (by repeat (first | exact (aV.nil : aV _ _ [] _) | (show aV _ _ ((_, _) :: _) _; apply aV.one; (· exact (rfl : _ = Ty.int _ _)); (· exact rfl)))) (by exact (rfl : _ = some [_, _, _, _])) ?_
  refine BH hJ hJx hY rfl rfl rfl rfl rfl (FO (by rw [fF]; omega) (LO (by omega))) rfl ?_
  refine KL (h1 := hJ _) (hx := hJx) rfl ?_
  refine aD ?_
  refine ⟨by kernel_rfl, ?_⟩
  refine aC ?_
  refine FG (h1 := hJ _) (hx := hJx) rfl ?_ ?_
  ·
   refine ay (bC (aS (aS (bC ?_))))
   exact D1 rfl rfl
  refine aq (bI (aC (aA ?_)))
  refine cA rfl rfl (by omega) (by omega) ?_
  refine bG rfl (aD ?_)
  refine bO (⟨i.1 + 1, by omega⟩) ?_ (by show y.moves.length - (i.1 + 1) < y.moves.length - i.1; omega)
  (refine cx.mk' ?_ ?_ <;> (repeat' (first | exact aJ | exact aK | refine aB ?_ (Ty.aU _) | refine aB ?_ (Ty.aF _) | refine aG rfl (Cont.aF _) ?_)))
  all_goals skip
 refine cE (aP (aP (aa rfl ?_)))
 exact J5 (hJ := hJ) (by rw [List.length_map, fF, show i.1 = y.moves.length by have := i.2; omega]) rfl rfl
end Go.Proofs.YtelbollidfdcjaaGreat
namespace Go.T
open Go Go.RowKit
theorem Mb {ρ : List (Nat × Nat)} {a b : Nat} (h : (a, b) ∈ ρ) : Conv ρ (.mp a) (.mp b) := fun _ _ _ _ _ _ hre ⟨k, e, hk⟩ => ⟨k, e, hre.some _ h k hk⟩
def JU {α : Type} (E : El α) : VT (List α) := ⟨fun xs => Ty.sl E xs, fun _ => ⟨rfl, rfl⟩⟩
section
variable {A : As}
theorem Eh {α : Type} {E : El α} {T J : Nat} {xs : List α} {w : World} {M : bA} {v : Value} (wf : Wf w M) (h : uI E T J xs w M v) : lH E xs w (eB M J) v := by
 rcases h with ⟨rfl, rfl⟩ | ⟨g, off, c, cur, rfl, hg, hh, h1, h2, h3, h4⟩
 ·exact ⟨none, 0, rfl, Nat.le_refl _, by simp [maxLen], fun h => absurd h (by simp)⟩
 refine ⟨_, c, rfl, h1, h2, fun h0 => ⟨g, off, rfl, by simp [eB, hg], wf.lt g _ hg, fun i t hi => ?_⟩⟩
 obtain ⟨u, hu, hdu⟩ := dR h4 i t hi
 refine ⟨u, ?_, t.mono (jP (w := w)) ?_ (fun _ _ h => by cases h) hdu⟩
 ·have hlt : i < xs.length * E.size := by
   have := (List.getElem?_eq_some_iff.1 hu).1
   rw [List.length_take] at this; omega
  rw [List.getElem?_take, if_pos hlt, List.getElem?_drop] at hu
  simpa [World.cell?, hh] using hu
 intro u hu
 have : u ∈ bw (xs.flatMap E.tys) := List.mem_flatMap.2 ⟨t, List.mem_of_getElem? hi, hu⟩
 rw [E.cV] at this; cases this
theorem MU {κ α : Type} [DecidableEq κ] {enc : κ → Value} {E : El α} {T J m : Nat} {q : List (κ × List α)} (hc : A.tag m = some (.mr enc E T J q)) (hne : Nat.beq m J = false) : K3 A J (m, .mp enc (JU E) q) := fun w M wf ht => by
  obtain ⟨_, b, es, clock, h1, h2, h3, h4, _⟩ := ht _ (cZ hc)
  have hmj : m ≠ J := fun h => by subst h; simp at hne
  refine ⟨b, by simp [eB, h1, hmj], es, clock, h2, h3, ?_⟩
  have key : ∀ (l : List (κ × List α)) (vs : List Value), cB w M (l.map fun x => Ty.fP E T J x.2) vs → cB w (eB M J) (l.map fun x => (JU E).ty x.2) vs := by
    intro l
    induction l with
    | nil => intro vs h; cases vs with | nil => trivial | cons => cases h
    | cons x l ih =>
      intro vs h
      cases vs with
      | nil => cases h
      | cons v vs => exact ⟨Eh wf h.1, ih vs h.2⟩
  exact key q _ h4
theorem mV {L : List Nat} {l1 l2 : List Ty} (h1 : bw l1 = []) (h2 : bX l1 = []) : qg A L (.pp (l1 ++ l2)) (.pp l1) := fun w M v _ _ ⟨b, off, e, m1, m2, m3⟩ => by
 refine ⟨b, off, e, jN m1, m2, fun i t hi => ?_⟩
 have hl : i < l1.length := (List.getElem?_eq_some_iff.1 hi).1
 obtain ⟨x, hx, hd⟩ := m3 i t (by rw [List.getElem?_append_left hl]; exact hi)
 refine ⟨x, hx, t.mono (S := fun _ => True) (K := fun _ => True) ⟨Nat.le_refl _, rfl, rfl, rfl, fun b _ hm => ⟨jN hm, rfl⟩, fun b t _ h => absurd trivial h⟩ ?_ ?_ hd⟩
 ·intro u hu
  have : u ∈ bw l1 := List.mem_flatMap.2 ⟨t, List.mem_of_getElem? hi, hu⟩
  rw [h1] at this; cases this
 intro u hu
 have : u ∈ bX l1 := List.mem_flatMap.2 ⟨t, List.mem_of_getElem? hi, hu⟩
 rw [h2] at this; cases this
theorem FZ {L : List Nat} {i : Nat} {t : Ty} : ∀ {l l' : List Ty}, n6 A L l l' → l'[i]? = some t → ∃ s, l[i]? = some s ∧ qg A L s t := by
  induction i with
  | zero =>
    intro l l' h e
    match l, l', h with
    | [], [], _ => cases e
    | s :: _, t' :: _, h => injection e with e; subst e; exact ⟨s, rfl, h.1⟩
  | succ i ih =>
    intro l l' h e
    match l, l', h with
    | [], [], _ => cases e
    | _ :: l, _ :: l', h => exact ih (l := l) (l' := l') h.2 e
theorem kN {L : List Nat} {l l' : List Ty} (h : n6 A L l l') : qg A L (.pp l) (.pp l') := fun w M v wf ht ⟨b, off, e, m1, m2, m3⟩ => by
 refine ⟨b, off, e, jN m1, m2, fun i t hi => ?_⟩
 obtain ⟨s, h1, h2⟩ := FZ h hi
 obtain ⟨x, hx, hd⟩ := m3 i s h1
 exact ⟨x, hx, h2 w M x wf ht hd⟩
end
section
variable {P : Program} {fr : Fr} {A : As} {c : Code} {Q : Exit → Act → World → Prop}
theorem N7 {α : Type} {E : El α} {T J tg s : Nat} {xs : List α} (hs : Nat.blt s fr.n = true) (hc : A.slots s = .row E T tg xs) (h1 : fj tg) (hJ : 4096 ≤ J) (hp : fr.pass.contains tg = false)
    (h : fI P fr c ⟨fun i => bif Nat.beq i s then .fP E T J xs else gU [] [tg] A.slots i, mz [] [tg] A.tags⟩ Q) : fI P fr c A Q := fun a w ⟨M, ok, hsl, ht⟩ => by
  have le : Le (· ∈ ([] : List Nat)) (· ∈ [tg]) w M w (mD M tg J) := vH
  refine h a w ⟨mD M tg J, ⟨CZ hJ ok.wf, Fr.jO ok.base (by intro _ h; cases h) (fun t ht => by simp only [List.mem_singleton] at ht; subst ht; exact ⟨h1.1, by simpa using hp⟩) le, ok.size, ok.defers.step (by intro _ h; cases h) (fun t ht => by simp only [List.mem_singleton] at ht; subst ht; exact h1.1) le⟩, fun i hi => ?_, fun x hx => ?_⟩
  · cases hb : Nat.beq i s with
    | false =>
      simp only [hb, cond_false]
      rcases fX [] [tg] A.slots i with ⟨e, hdj⟩ | ⟨_, e⟩
      · rw [e]; exact (A.slots i).mono le (fK hdj).1 (fK hdj).2 (hsl i hi)
      · rw [e]; trivial
    | true =>
      have his : i = s := Nat.eq_of_beq_eq_true hb
      subst his
      simp only [hb, cond_true]
      have hd := hsl i hi
      rw [hc] at hd
      obtain ⟨vs, hown, hcs, hM⟩ := hd
      rcases hown.2 with ⟨ez, h0⟩ | ⟨g, cap, cur, ez, _, hh, hnc, hcap, hsz, htk⟩
      · exact .inl ⟨List.length_eq_zero_iff.1 h0, ez⟩
      · have hg : M g = some tg := hM g (by rw [ez]; rfl)
        refine .inr ⟨g, 0, cap, cur, ez, by simp [mD, hg], hh, hnc, hcap, by omega, ?_⟩
        rw [List.drop_zero, htk]
        exact bf (vH (w := w)) (by rw [E.cV]; intro _ h; cases h) (by rw [E.cO]; intro _ h; cases h) hcs
  · exact iP le hx fun y hy _ => ht y hy
end
end Go.T
namespace Go.Proofs.YtelbollidfdcjaaGreat
open Go Go.T
set_option maxHeartbeats 8000000
theorem four {vs : List Value} {n : Nat} (h : vs.length = n) (e : n = 4) : ∃ a b c d, vs = [a, b, c, d] := by
  subst e
  match vs, h with
  | [a, b, c, d], _ => exact ⟨a, b, c, d, rfl⟩
def E8 (y : ak) : List Ty := [Ty.int .i64 y.days, Ty.sl fC y.bins, Ty.sl eD y.moves, Ty.sl dV y.levels, Ty.ex (.slice none 0 0), Ty.ex (.slice none 0 0)]
def Ol (y : ak) (F A : Nat) (fl : List bu) (a : List Int) : List Ty := [Ty.int .i64 y.days, Ty.sl fC y.bins, Ty.sl eD y.moves, Ty.sl dV y.levels, Ty.row dg 187 F fl, Ty.row cy 3 A a]
theorem Ee {fl : List bu} {k : Nat} (h : k < fl.length) : (gZ fl).take k ++ [(nth fl k).lo] = (gZ fl).take (k + 1) := by
 unfold gZ; rw [← List.map_take, ← List.map_take, cT h, List.map_append]; rfl
theorem A8 {y : ak} {fl : List bu} {α : Type} {f : bu → α} : [Ty.int .i64 y.days, Ty.sl fC y.bins, Ty.sl eD y.moves, Ty.sl dV y.levels, Ty.row dg 187 23 (fl.take (fl.map f).length), Ty.row cy 3 31 ((gZ fl).take (fl.map f).length)] = Ol y 23 31 fl (gZ fl) := by
 rw [List.length_map, List.take_of_length_le (Nat.le_refl _), List.take_of_length_le (by unfold gZ; rw [List.length_map]; exact Nat.le_refl _)]; rfl
def rP (y : ak) (F A m n : Nat) : List Ty := [Ty.int .i64 y.days, Ty.sl fC y.bins, Ty.sl eD y.moves, Ty.sl dV y.levels, Ty.vs F m, Ty.vs A n]
def eF (y : ak) (fl : List bu) (A n : Nat) : List Ty := [Ty.int .i64 y.days, Ty.sl fC y.bins, Ty.sl eD y.moves, Ty.sl dV y.levels, Ty.sl dg fl, Ty.vs A n]
def mB (y : ak) (fl : List bu) (a : List Int) : List Ty := [Ty.int .i64 y.days, Ty.sl fC y.bins, Ty.sl eD y.moves, Ty.sl dV y.levels, Ty.sl dg fl, Ty.sl cy a]
theorem DS (fl : List bu) : (gZ fl).length = fl.length := by unfold gZ; rw [List.length_map]
theorem j6 {y : ak} (hr : y.cG) {c : Nat → Bool} : (aQ y c).length ≤ 34 := by
 have h1 := hr.bins; have h2 := hr.days; have h3 := D_eq hr; have h4 := hr.moves
 have := Nat.mul_le_mul (show y.bins.length ≤ 4 by omega) (show y.D + 1 ≤ 6 by omega)
 rw [fF]; omega
attribute [local irreducible] aQ gZ
attribute [local irreducible] gA eU lH nR gy gl g5 gr g9 nU gx nZ dN fS nJ ff nQ nth fI dQ au dK bodyPost Exit.then Exit.inBlock Code.wp Code.wpIn nY gm oC n9 g7 eM cJ cH bodyPostM dP
set_option maxRecDepth 100000 in
theorem JM (y : ak) (c8 : List Bool) (hc8 : c8.length = 8) : eM Tryz.prog 173 [1000] [(1000, Cont.cells 185 (E8 y))] [Ty.ptr 1000 0, Ty.arr eV c8] [(1000, Cont.cells 185 (E8 y))] (Ty.ju 196 [Ty.pp [Ty.ptr 1000 0], Ty.pa eV c8 0]) := by
 refine fL Tryz.func173 rfl (by decide) Tryz.ntmps173 (by exact Nat.le_of_ble_eq_true rfl) fun w0 M0 => ?_
 refine aE (aA ?_)
 refine fu (ty := Ty.ptr 1000 0) rfl rfl ?_
 refine tM rfl (lq rfl (aD (aC (aE (aA (dL rfl (QF rfl (aD (aC ?_)))))))))
 refine ay ?_
 refine iX [1000] rfl rfl (by decide) (by repeat (first | exact gE | refine eC rfl (kS (by decide) rfl rfl rfl) ?_)) ?_
 all_goals skip
 all_goals exact iO (tJ (aM (aM bU (aT rfl rfl)) (e8 (aM bU (jm (by decide))))))
set_option maxRecDepth 100000 in
theorem rV (y : ak) (hr : y.cG) (c8 : List Bool) (hc8 : c8.length = 8) : eM Tryz.prog 117 [] [] [dn y, Ty.arr eV c8] [(23, Cont.vec dg 187 (aQ y (nth c8))), (31, Cont.vec cy 3 (gZ (aQ y (nth c8))))] (Ty.pp (rP y 23 31 (aQ y (nth c8)).length (aQ y (nth c8)).length)) := by
 refine qn Tryz.func117 rfl (by decide) Tryz.ntmps117 (by exact Nat.le_of_ble_eq_true rfl) fun w0 M0 => ?_
 have hfl := j6 (c := nth c8) hr
 refine aE (aA (bD rfl (tM rfl (lq rfl (aD (aC (aE (aA ?_))))))))
 refine aX rfl rfl rfl (by exact Nat.le_of_ble_eq_true rfl) ?_
 refine dG rfl rfl (by exact List.cons_ne_nil _ _) rfl (by repeat (first | exact (aV.nil : aV _ _ [] _) | (show aV _ _ ((_, _) :: _) _; apply aV.agg; (· exact (rfl : _ = Ty.agg _))))) (by exact rfl) ?_
 refine y4 rfl rfl rfl ?_
 refine bp rfl (by exact List.cons_ne_nil _ _) rfl ?_
 refine cm rfl rfl (by decide) rfl rfl (by exact (rfl : _ = Ty.ptr _ _)) rfl (by exact Nat.le_of_ble_eq_true rfl) rfl rfl (by exact (rfl : _ = [_])) ?_
 refine aD (aC (aE (aE (aA ?_))))
 refine aY rfl rfl (by decide) rfl rfl rfl ?_
 refine vq rfl rfl rfl (by rw [hc8]; rfl) ?_
 refine dI (res' := Ty.ju 196 [Ty.pp [Ty.ptr 10 0], Ty.pa eV c8 0]) [(10, 1000)] [] [(10, Cont.cells 185 (E8 y))] (JM y c8 hc8) rfl rfl (aM (aM bU (aT rfl rfl)) (jm (by exact List.mem_cons_self))) (cz (a := 10) (b := 1000) (by exact List.mem_cons_self) rfl (kS (by exact List.mem_cons_self) rfl rfl rfl) pre_nil) (bg (a := 10) (b := 1000) (by exact List.mem_cons_self) rfl (kS (by exact List.mem_cons_self) rfl rfl rfl) post_nil) (tJ (aM (aM bU (aT rfl rfl)) (e8 (aM bU (jm (by exact List.mem_cons_self)))))) ?_
 refine aD (aC ?_)
 refine IL (D := 10) (Tb := 185) (tys := bH y) (r := [Ty.ex (.slice none 0 0), Ty.ex (.slice none 0 0)]) rfl rfl rfl (by decide) fun vs hvs => ?_
 obtain ⟨v0, v1, v2, v3, rfl⟩ := four hvs rfl
 refine aZ ?_
 refine rO (ps := [13]) (lk [(5, Ty.ptr 6 0), (9, Ty.ptr 10 0)]) (fun k => [(6, Cont.cells 152 [Ty.ptr 10 0]), (10, Cont.cells 185 [Ty.ex v0, Ty.ex v1, Ty.ex v2, Ty.ex v3, Ty.row dg 187 23 ((aQ y (nth c8)).take k), Ty.row cy 3 31 ((gZ (aQ y (nth c8))).take k)]), (4000, Cont.fact (bH y) [v0, v1, v2, v3] rfl rfl)]) false [] [6, 10, 4000] rfl rfl ((vC y hr c8 hc8 0 10 (by decide) [v0, v1, v2, v3]).1) (Bq (D := 10) (n := 36) (sd := 9) (r := fun k => [Ty.row dg 187 23 ((aQ y (nth c8)).take k), Ty.row cy 3 31 ((gZ (aQ y (nth c8))).take k)]) (fun b => vC y hr c8 hc8 b 10 (by decide) [v0, v1, v2, v3]) (by decide) (by decide) rfl (fun k => List.mem_cons_of_mem _ List.mem_cons_self) (List.mem_cons_of_mem _ (List.mem_cons_of_mem _ List.mem_cons_self))) (uz rfl) (uz rfl) (by decide) (by intro t ht; obtain ⟨x, _, rfl⟩ := List.mem_map.1 ht; exact ⟨rfl, rfl, rfl⟩) rfl rfl (fun _ => rfl) rfl ?_ ?_ ?_ (by intro h; cases h)
 ·(refine cx.mk' ?_ ?_ <;> (repeat' (first | exact aJ | exact aK | exact dD | refine aB ?_ (Ty.aU _) | refine aB ?_ (Ty.aF _) | refine aG rfl (Cont.aF _) ?_ | refine aG rfl (Cont.dF ?_) ?_ | refine bM ?_ (Ty.aF _) | refine bM ?_ Ty.gq)))
  all_goals trace_state
 ·intro k tys hk
  obtain ⟨hk1, rfl⟩ := E4 hk
  refine ⟨live [(5, Ty.ptr 6 0), (6, Ty.ptr 7 0), (9, Ty.ptr 10 0)] [(6, Cont.cells 152 [Ty.ptr 10 0]), (7, Cont.cells 187 (dg.tys (nth (aQ y (nth c8)) k))), (10, Cont.cells 185 [Ty.ex v0, Ty.ex v1, Ty.ex v2, Ty.ex v3, Ty.row dg 187 23 ((aQ y (nth c8)).take k), Ty.row cy 3 31 ((gZ (aQ y (nth c8))).take k)]), (4000, Cont.fact (bH y) [v0, v1, v2, v3] rfl rfl)], fun l w M => ?_, fun l w M => ?_⟩
  ·
   refine aA ?_
   refine bp rfl (by exact List.cons_ne_nil _ _) rfl ?_
   refine bZ rfl rfl (by decide) rfl rfl rfl rfl rfl rfl ?_
   refine aD (fJ ?_)
   (refine cx.mk' ?_ ?_ <;> (repeat' (first | exact aJ | exact aK | refine aB ?_ (Ty.aU _) | refine aB ?_ (Ty.aF _) | refine aG rfl (Cont.aF _) ?_)))
  refine aZ ?_
  refine uw (D := 10) (Tb := 185) (tg := 23) [Ty.ex v0, Ty.ex v1, Ty.ex v2, Ty.ex v3] rfl fun v4 => ?_
  refine uw (D := 10) (Tb := 185) (tg := 31) [Ty.ex v0, Ty.ex v1, Ty.ex v2, Ty.ex v3, Ty.ex v4] rfl fun v5 => ?_
  refine cP mixed rfl ?_
  refine aY rfl rfl (by decide) rfl rfl rfl ?_
  refine aY rfl rfl (by decide) rfl rfl rfl ?_
  refine aY rfl rfl (by decide) rfl rfl rfl ?_
  refine cY rfl ?_
  refine aR rfl rfl rfl rfl rfl (by decide) ?_
  refine aY rfl rfl (by decide) rfl rfl rfl ?_
  refine bz rfl rfl (by decide) rfl rfl (by exact Nat.le_of_ble_eq_true rfl) ?_
  refine bW (E := dg) (xs := [_]) rfl rfl rfl rfl rfl (by decide) (by decide) (by repeat (first | exact (aV.nil : aV _ _ [] _) | (show aV _ _ ((_, _) :: _) _; apply aV.agg; (· exact (rfl : _ = Ty.agg _))))) (by exact rfl) rfl ?_
  refine qD (tg := 23) rfl rfl rfl rfl (by decide) rfl rfl rfl rfl rfl rfl (by decide) (by (simp <;> omega)) (by (simp <;> omega)) rfl rfl ?_
  refine aY rfl rfl (by decide) rfl rfl rfl ?_
  refine cY rfl ?_
  refine aR rfl rfl rfl rfl rfl (by decide) ?_
  refine aY rfl rfl (by decide) rfl rfl rfl ?_
  refine aR rfl rfl rfl rfl rfl (by decide) ?_
  refine aY rfl rfl (by decide) rfl rfl rfl ?_
  refine bW (E := cy) (xs := [_]) rfl rfl rfl rfl rfl (by decide) (by decide) (by repeat (first | exact (aV.nil : aV _ _ [] _) | (show aV _ _ ((_, _) :: _) _; apply aV.one; (· exact (rfl : _ = Ty.int _ _)); (· exact rfl)))) (by exact rfl) rfl ?_
  refine qD (tg := 31) rfl rfl rfl rfl (by decide) rfl rfl rfl rfl rfl rfl (by decide) (by (simp <;> omega)) (by (simp <;> omega)) rfl rfl ?_
  refine cY rfl ?_
  refine aR rfl rfl rfl rfl rfl (by decide) ?_
  refine cm rfl rfl (by decide) rfl rfl (by exact (rfl : _ = Ty.row _ _ _ _)) rfl (by exact Nat.le_of_ble_eq_true rfl) rfl rfl (by exact rfl) ?_
  refine cY rfl ?_
  refine aR rfl rfl rfl rfl rfl (by decide) ?_
  refine cm rfl rfl (by decide) rfl rfl (by exact (rfl : _ = Ty.row _ _ _ _)) rfl (by exact Nat.le_of_ble_eq_true rfl) rfl rfl (by exact rfl) ?_
  refine aD ?_
  refine ⟨by kernel_rfl, ?_⟩
  refine bI (B2 ?_)
  (refine cx.mk' ?_ ?_ <;> (repeat' (first | exact aJ | exact aK | exact dD | refine aB ?_ (Ty.aU _) | refine aG rfl (Cont.aF _) ?_ | refine aG rfl (Cont.dF ?_) ?_ | refine bM ?_ (Ty.aF _) | refine bM ?_ ?_)))
  all_goals first | exact Ty.fH (cT hk1).symm | exact Ty.fH (Ee hk1)
 refine bI (aC (aE ?_))
 refine Ca (D := 10) (Tb := 185) (vs := [v0, v1, v2, v3]) (tys := bH y) (r := [Ty.row dg 187 23 ((aQ y (nth c8)).take ((aQ y (nth c8)).map je).length), Ty.row cy 3 31 ((gZ (aQ y (nth c8))).take ((aQ y (nth c8)).map je).length)]) rfl rfl ?_
 refine jW (tg := 10) rfl (Cont.m9 (T := 185) (A8 (y := y) (fl := aQ y (nth c8)) (f := je))) ?_
 refine qN (c0 := 10) (tg := 23) 4 rfl rfl ?_
 refine qN (c0 := 10) (tg := 31) 5 rfl rfl ?_
 refine jW (tg := 10) rfl (Cont.jz (l' := rP y 23 31 (aQ y (nth c8)).length (aQ y (nth c8)).length) ⟨Ty.aF _, Ty.aF _, Ty.aF _, Ty.aF _, Ty.z4 rfl, Ty.z4 (DS _), trivial⟩) ?_
 refine jA (tg := 10) [] [(6, Cont.cells 152 [Ty.pp (rP y 23 31 (aQ y (nth c8)).length (aQ y (nth c8)).length)])] (by decide) rfl trivial ⟨fD rfl rfl ⟨xh rfl rfl (by decide), trivial⟩, trivial⟩ ?_
 refine aA ?_
 refine aY rfl rfl (by decide) rfl rfl rfl ?_
 refine LR rfl (aD (aC (ay (JX rfl ?_))))
 refine iX [23, 31] rfl rfl (by decide) (by repeat (first | exact gE | refine eC rfl (bh (by decide) rfl) ?_)) ?_
 all_goals skip
 all_goals exact iO (e8 (aM (aM (aM (aM (aM (aM bU (dZ (by decide))) (dZ (by decide))) (aT rfl rfl)) (aT rfl rfl)) (aT rfl rfl)) (aT rfl rfl)))
end Go.Proofs.YtelbollidfdcjaaGreat
namespace Go.Proofs.YtelbollidfdcjaaGreat
open Go Go.T
section
variable {fl : List bu} {a : List Int} {n k : Nat} {c : Int} {w : Way}
abbrev WQ : Type := List (Int × List Way)
def oL (q : WQ) (c : Int) : List Way := (eZ q c).getD []
def G4 (q : WQ) (c : Int) (w : Way) : WQ := gu q c (oL q c ++ [w])
theorem CN (q : WQ) (c c' : Int) (w : Way) : oL (G4 q c w) c' = oL q c' ++ (if c = c' then [w] else []) := by
 unfold G4
 show (eZ (gu _ _ _) c').getD [] = _
 rw [xx]
 by_cases e : c = c'
 ·subst e; rw [if_pos rfl, if_pos rfl]; rfl
 rw [if_neg e, if_neg e, List.append_nil]; rfl
def nC (fl : List bu) (a : List Int) (q : WQ) (k : Nat) : WQ := if nth a k < (nth fl k).hi then G4 q (nth fl k).src ⟨k, true⟩ else q
def eR (fl : List bu) (a : List Int) : Nat → WQ
  | 0 => []
  | k + 1 => if nth a k > (nth fl k).lo then G4 (nC fl a (eR fl a k) k) (nth fl k).dst ⟨k, false⟩ else nC fl a (eR fl a k) k
theorem Ga (fl : List bu) (a : List Int) : ([] : WQ) = eR fl a 0 := rfl
theorem KC {q : WQ} (h : ¬ nth a k < (nth fl k).hi) : q = nC fl a q k := (if_neg h).symm
theorem Jn (h : ¬ nth a k > (nth fl k).lo) : nC fl a (eR fl a k) k = eR fl a (k + 1) := (if_neg h).symm
theorem tG {q : WQ} : oL (nC fl a q k) c = oL q c ++ (if nth a k < (nth fl k).hi ∧ (nth fl k).src = c then [⟨k, true⟩] else []) := by
 unfold nC
 by_cases h : nth a k < (nth fl k).hi
 ·rw [if_pos h, CN]
  by_cases e : (nth fl k).src = c
  ·rw [if_pos e, if_pos ⟨h, e⟩]
  rw [if_neg e, if_neg fun h => e h.2]
 rw [if_neg h, if_neg fun h' => h h'.1, List.append_nil]
theorem sk : ∀ k, oL (eR fl a k) c = (List.range k).flatMap (Az fl a c)
  | 0 => rfl
  | k + 1 => by
    rw [List.range_succ, List.flatMap_append, List.flatMap_singleton, ← sk k]
    show oL (if _ then _ else _) c = _
    unfold Az
    by_cases h : nth a k > (nth fl k).lo
    · rw [if_pos h, CN, tG, List.append_assoc]
      congr 2
      by_cases e : (nth fl k).dst = c
      · rw [if_pos e, if_pos ⟨h, e⟩]
      · rw [if_neg e, if_neg fun h => e h.2]
    · rw [if_neg h, tG, if_neg (c := _ ∧ (nth fl k).dst = c) (fun h' => h h'.1), List.append_nil]
theorem r8 : oL (eR fl a fl.length) c = bK fl a c := sk _
theorem zC (k : Nat) : (oL (eR fl a k) c).length ≤ 2 * k := by
  rw [sk]
  have key : ∀ n, ((List.range n).flatMap (Az fl a c)).length ≤ 2 * n := by
    intro n
    induction n with
    | zero => simp
    | succ n ih => rw [List.range_succ, List.flatMap_append, List.length_append, List.flatMap_singleton]; have := By (fl := fl) (a := a) (c := c) n; omega
  exact key k
theorem G6 : (oL (nC fl a (eR fl a k) k) c).length ≤ 2 * k + 1 := by
 rw [tG, List.length_append]
 have := zC (fl := fl) (a := a) (c := c) k
 split <;> simp <;> omega
def pM (fl : List bu) (a : List Int) (k : Nat) (c : Int) : Int := cw (fun i => (ind ((nth fl i).dst = c) - ind ((nth fl i).src = c)) * nth a i) k
def ep (fl : List bu) (a : List Int) (n k : Nat) : List Int := (List.range n).map fun c => pM fl a k (c : Nat)
theorem jy : (ep fl a n k).length = n := by unfold ep; rw [List.length_map, List.length_range]
theorem jC {c : Nat} (h : c < n) : nth (ep fl a n k) c = pM fl a k c := eY _ h
theorem Cz : ep fl a n fl.length = gQ fl a n := rfl
theorem B5 {l l' : List Int} (h : l.length = l'.length) (h' : ∀ i, i < l.length → nth l i = nth l' i) : l = l' := by
 refine List.ext_getElem h fun i h1 h2 => ?_
 have := h' i h1
 unfold nth at this
 rw [List.getD_eq_getElem?_getD, List.getD_eq_getElem?_getD, List.getElem?_eq_getElem h1, List.getElem?_eq_getElem h2] at this
 exact this
def oI (fl : List bu) (a : List Int) (l : List Int) (k : Nat) : List Int := l.set (nth fl k).src.toNat (nth l (nth fl k).src.toNat - nth a k)
theorem Ba (hs : 0 ≤ (nth fl k).src ∧ (nth fl k).src < n) (hd : 0 ≤ (nth fl k).dst ∧ (nth fl k).dst < n) :
 (oI fl a (ep fl a n k) k).set (nth fl k).dst.toNat (nth (oI fl a (ep fl a n k) k) (nth fl k).dst.toNat + nth a k) = ep fl a n (k + 1) := by
 have hS : ∀ c, c < n → nth (oI fl a (ep fl a n k) k) c = pM fl a k c - ind ((nth fl k).src = (c : Int)) * nth a k := fun c hc => by
  unfold oI
  rw [jf (by rw [jy]; exact hc)]
  by_cases e : (nth fl k).src.toNat = c
  ·rw [if_pos e, e, jC hc, fQ (by omega), Int.one_mul]
  rw [if_neg e, jC hc, ew (by omega), Int.zero_mul, Int.sub_zero]
 have hl : (oI fl a (ep fl a n k) k).length = n := by unfold oI; rw [List.length_set, jy]
 refine B5 (by rw [List.length_set, hl, jy]) fun c hc => ?_
 rw [List.length_set, hl] at hc
 rw [jf (by rw [hl]; exact hc), jC hc]
 show _ = pM fl a k c + (ind ((nth fl k).dst = (c : Int)) - ind ((nth fl k).src = (c : Int))) * nth a k
 rw [Int.sub_mul]
 by_cases e : (nth fl k).dst.toNat = c
 ·rw [if_pos e, e, hS c hc, fQ (p := (nth fl k).dst = (c : Int)) (by omega), Int.one_mul]; omega
 rw [if_neg e, hS c hc, ew (p := (nth fl k).dst = (c : Int)) (by omega), Int.zero_mul]; omega
theorem Gw (fl : List bu) (a l : List Int) (k : Nat) : (oI fl a l k).length = l.length := List.length_set
theorem G5 (fl : List bu) (a : List Int) (n : Nat) : List.replicate (((n : Nat) : Int)).toNat 0 = ep fl a n 0 := by
 rw [Int.toNat_natCast]
 refine B5 (by rw [List.length_replicate, jy]) fun i hi => ?_
 rw [List.length_replicate] at hi
 rw [jC hi, Aa _ _ _ hi]; rfl
theorem G7 {c : Nat} (h : ∀ c : Int, -(300 * (k : Int)) ≤ pM fl a k c ∧ pM fl a k c ≤ 300 * k) (ha : 0 ≤ nth a k ∧ nth a k ≤ 300) (hc : c < n) (hs : (nth fl k).src.toNat < n) : -(300 * (k : Int) + 300) ≤ nth (oI fl a (ep fl a n k) k) c ∧ nth (oI fl a (ep fl a n k) k) c ≤ 300 * k := by
 unfold oI
 rw [jf (by rw [jy]; exact hc)]
 split
 ·rw [jC hs]; have := h ((nth fl k).src.toNat : Nat); omega
 rw [jC hc]; have := h (c : Nat); omega
theorem zA (ha : ∀ i, i < k → 0 ≤ nth a i ∧ nth a i ≤ 300) : -(300 * (k : Int)) ≤ pM fl a k c ∧ pM fl a k c ≤ 300 * k := by
 refine pI (b := 300) fun i hi => ?_
 have := ha i hi
 unfold ind
 split <;> split <;> simp <;> omega
end
end Go.Proofs.YtelbollidfdcjaaGreat
namespace Go.Proofs.YtelbollidfdcjaaGreat
open Go Go.T
set_option maxHeartbeats 8000000
section
variable {fl : List bu} {a : List Int} {n : Nat} {w : Way}
theorem MJ (h : w.more = true) : (nth fl w.ix).src = w.hH fl := (if_pos h).symm
theorem NQ (h : w.more = false) : (nth fl w.ix).dst = w.hH fl := (if_neg (by rw [h]; decide)).symm
theorem E9 (h : w.more = true) : (nth fl w.ix).dst = w.fin fl ∧ (nth fl w.ix).hi - nth a w.ix = w.room fl a := ⟨(if_pos h).symm, (if_pos h).symm⟩
theorem JP (h : w.more = false) : (nth fl w.ix).src = w.fin fl ∧ nth a w.ix - (nth fl w.ix).lo = w.room fl a := ⟨(if_neg (by rw [h]; decide)).symm, (if_neg (by rw [h]; decide)).symm⟩
structure lN (y : ak) (fl : List bu) (a : List Int) : Prop where
  right : y.cG
  net : Net fl (y.cells + 1)
  bd : Bd fl
  inb : xS fl a
  qb : fl.length ≤ 34
theorem lN.N9 {y : ak} (h : lN y fl a) {i : Nat} (hi : i < fl.length) : (0 ≤ nth a i ∧ nth a i ≤ 300) ∧ (0 ≤ (nth fl i).lo ∧ (nth fl i).lo ≤ 300) ∧ 0 ≤ (nth fl i).hi ∧ (nth fl i).hi ≤ 300 := by
 have h1 := h.bd i hi
 have h2 := h.inb.2 i hi
 omega
theorem PK {l : List Way} {k : Nat} {d : Int} (hk : k < l.length) (hm : (nth l k).more = true) : (dr a (l.take k) d).set (nth l k).ix (nth (dr a (l.take k) d) (nth l k).ix + d) = dr a (l.take (k + 1)) d := by
 rw [cT hk, q4]; unfold k5 xO; rw [hm]; rfl
theorem Oh {l : List Way} {k : Nat} {d : Int} (hk : k < l.length) (hm : (nth l k).more = false) : (dr a (l.take k) d).set (nth l k).ix (nth (dr a (l.take k) d) (nth l k).ix - d) = dr a (l.take (k + 1)) d := by
 rw [cT hk, q4]; unfold k5 xO; rw [hm]; rfl
theorem yQ {l : List Way} {d : Int} (hd : 0 ≤ d ∧ d ≤ 20000) (ha : ∀ i, -300 ≤ nth a i ∧ nth a i ≤ 300) (hw : ∀ w ∈ l, w.ix < a.length) : ∀ k, k ≤ l.length → ∀ i, -(20000 * ((k : Int) + 1)) ≤ nth (dr a (l.take k) d) i ∧ nth (dr a (l.take k) d) i ≤ 20000 * ((k : Int) + 1)
  | 0, _, i => by rw [List.take_zero]; have := ha i; show _ ≤ nth a i ∧ nth a i ≤ _; omega
  | k + 1, hk, i => by
    have ih := yQ hd ha hw k (by omega) i
    rw [cT (by omega), q4, kB (by rw [su]; exact hw _ (cW (by omega)))]
    split
    · unfold xO; split <;> omega
    · omega
theorem DK (a : List Int) (l : List Way) (d : Int) : a = dr a (l.take 0) d := rfl
theorem LB {l : List Int} {i : Nat} (h : l.length ≤ i) : nth l i = 0 := by
 unfold nth; rw [List.getD_eq_getElem?_getD, List.getElem?_eq_none h]; rfl
theorem lN.abs {y : ak} (h : lN y fl a) (i : Nat) : -300 ≤ nth a i ∧ nth a i ≤ 300 := by
 by_cases c : i < fl.length
 ·have := (h.N9 c).1; omega
 rw [LB (by rw [h.inb.1]; omega)]; omega
end
theorem n8 : mapOf Tryz.prog 227 = some (3, 222) := by kernel_rfl
theorem ux : zeroOf Tryz.prog 222 = some (.slice none 0 0) := by kernel_rfl
def KI : xU Tryz.prog 3 Int := NW Tryz.prog 3 .i64 Tryz.underlying3
theorem uZ (n : Int) : tj (Ty.int .i64 n) (KI.enc n) := La
attribute [local irreducible] aQ gZ Way.hH Way.fin Way.room eR nC G4 dr ep pM
attribute [local irreducible] gA eU lH nR gy gl g5 gr g9 nU gx nZ dN fS nJ ff nQ nth fI dQ au dK bodyPost Exit.then Exit.inBlock Code.wp Code.wpIn nY gm oC n9 g7 eM cJ cH bodyPostM dP
set_option maxRecDepth 100000 in
theorem Ag (y : ak) (fl : List bu) (a : List Int) (w : Way) (hw : w.ix < fl.length) : dK Tryz.prog 181 [Ty.pp (mB y fl a), Ty.agg (fm.tys w)] (Ty.int .i64 (w.hH fl)) := by
 refine ah Tryz.func181 rfl (by decide) Tryz.ntmps181 (by exact Nat.le_of_ble_eq_true rfl) fun w0 M0 => ?_
 refine aE (aA (bD rfl (bk rfl (aD (aC (aE (aE (aA ?_))))))))
 refine aH rfl rfl rfl rfl rfl (by decide) ?_
 refine aI rfl rfl rfl rfl (aD (aC ?_))
 refine cI rfl (fun hc1 => ?_) (fun hc1 => ?_)
 ·
  refine aE (cP mixed rfl (jo rfl (bq rfl ?_)))
  refine aH rfl rfl rfl rfl rfl (by decide) ?_
  refine aI rfl rfl rfl rfl ?_
  refine aH rfl rfl rfl rfl rfl (by decide) ?_
  refine aI rfl rfl rfl rfl ?_
  refine av rfl rfl rfl rfl rfl rfl (by omega) ?_
  refine aH rfl rfl rfl rfl rfl (by decide) ?_
  refine aI rfl rfl rfl rfl (bk rfl (aD ?_))
  refine ⟨by kernel_rfl, ?_⟩
  refine aC (ay (aS (bP rfl rfl ?_)))
  all_goals skip
  all_goals exact az rfl rfl (congrArg (Ty.int .i64) (MJ hc1))
 refine aq (aC (aE (cP mixed rfl (jo rfl (bq rfl ?_)))))
 refine aH rfl rfl rfl rfl rfl (by decide) ?_
 refine aI rfl rfl rfl rfl ?_
 refine aH rfl rfl rfl rfl rfl (by decide) ?_
 refine aI rfl rfl rfl rfl ?_
 refine av rfl rfl rfl rfl rfl rfl (by omega) ?_
 refine aH rfl rfl rfl rfl rfl (by decide) ?_
 refine aI rfl rfl rfl rfl (bk rfl (aD ?_))
 refine ⟨by kernel_rfl, ?_⟩
 refine aC (ay (bP rfl rfl ?_))
 all_goals skip
 all_goals exact az rfl rfl (congrArg (Ty.int .i64) (NQ hc1))
set_option maxRecDepth 100000 in
theorem E5 (y : ak) (fl : List bu) (a : List Int) (h : lN y fl a) (w : Way) (hw : w.ix < fl.length) : dK Tryz.prog 182 [Ty.pp (mB y fl a), Ty.agg (fm.tys w)] (Ty.kY [Ty.int .i64 (w.fin fl), Ty.int .i64 (w.room fl a)]) := by
 refine ah Tryz.func182 rfl (by decide) Tryz.ntmps182 (by exact Nat.le_of_ble_eq_true rfl) fun w0 M0 => ?_
 have hl := h.inb.1
 have hb := h.N9 hw
 refine aE (aA (bD rfl (bk rfl (bk rfl (aD (aC (aE (cP mixed rfl (jo rfl ?_)))))))))
 refine bq rfl ?_
 refine aH rfl rfl rfl rfl rfl (by decide) ?_
 refine aI rfl rfl rfl rfl ?_
 refine aH rfl rfl rfl rfl rfl (by decide) ?_
 refine aI rfl rfl rfl rfl ?_
 refine av rfl rfl rfl rfl rfl rfl (by omega) ?_
 refine aX rfl rfl rfl (by exact Nat.le_of_ble_eq_true rfl) ?_
 refine bp rfl (by exact List.cons_ne_nil _ _) rfl ?_
 refine bZ rfl rfl (by decide) rfl rfl rfl rfl rfl rfl ?_
 refine aD ?_
 refine ⟨by kernel_rfl, ?_⟩
 refine aC (aE (aE (aA ?_)))
 refine aH rfl rfl rfl rfl rfl (by decide) ?_
 refine aI rfl rfl rfl rfl (aD (aC ?_))
 refine cI rfl (fun hc1 => ?_) (fun hc1 => ?_)
 ·
  refine aE (cP mixed rfl ?_)
  refine aR rfl rfl rfl rfl rfl (by decide) ?_
  refine aY rfl rfl (by decide) rfl rfl rfl ?_
  refine aR rfl rfl rfl rfl rfl (by decide) ?_
  refine aY rfl rfl (by decide) rfl rfl rfl ?_
  refine jo rfl (bq rfl ?_)
  refine aH rfl rfl rfl rfl rfl (by decide) ?_
  refine aI rfl rfl rfl rfl ?_
  refine aH rfl rfl rfl rfl rfl (by decide) ?_
  refine aI rfl rfl rfl rfl ?_
  refine av rfl rfl rfl rfl rfl rfl (by omega) ?_
  refine aI rfl rfl rfl rfl ?_
  refine gR rfl rfl (by omega) (by omega) ?_
  refine bk rfl (bk rfl (aD ?_))
  refine ⟨by kernel_rfl, ?_⟩
  refine aC (ay (aS ?_))
  refine fV rfl rfl rfl ?_ ?_
  all_goals skip
  all_goals first | exact az rfl rfl (congrArg (Ty.int .i64) (E9 (a := a) hc1).1) | exact az rfl rfl (congrArg (Ty.int .i64) (E9 (a := a) hc1).2)
 refine aq (aC (aE (cP mixed rfl ?_)))
 refine aR rfl rfl rfl rfl rfl (by decide) ?_
 refine aY rfl rfl (by decide) rfl rfl rfl ?_
 refine jo rfl (bq rfl ?_)
 refine aH rfl rfl rfl rfl rfl (by decide) ?_
 refine aI rfl rfl rfl rfl ?_
 refine aH rfl rfl rfl rfl rfl (by decide) ?_
 refine aI rfl rfl rfl rfl ?_
 refine av rfl rfl rfl rfl rfl rfl (by omega) ?_
 refine aI rfl rfl rfl rfl ?_
 refine aR rfl rfl rfl rfl rfl (by decide) ?_
 refine aY rfl rfl (by decide) rfl rfl rfl ?_
 refine gR rfl rfl (by omega) (by omega) ?_
 refine bk rfl (bk rfl (aD ?_))
 refine ⟨by kernel_rfl, ?_⟩
 refine aC (ay ?_)
 refine fV rfl rfl rfl ?_ ?_
 all_goals skip
 all_goals first | exact az rfl rfl (congrArg (Ty.int .i64) (JP (a := a) hc1).1) | exact az rfl rfl (congrArg (Ty.int .i64) (JP (a := a) hc1).2)
set_option maxRecDepth 100000 in
theorem HK (y : ak) (fl : List bu) (a : List Int) (h : lN y fl a) (l : List Way) (hl : l.length ≤ 100) (hw : ∀ w ∈ l, w.ix < fl.length) (d : Int) (hd : 0 ≤ d ∧ d ≤ 20000) : eM Tryz.prog 183 [1000] [(1000, Cont.vec cy 3 a)] [Ty.pp (eF y fl 1000 fl.length), Ty.sl fm l, Ty.int .i64 d] [(1000, Cont.vec cy 3 (dr a l d))] (Ty.kY []) := by
 refine fL Tryz.func183 rfl (by decide) Tryz.ntmps183 (by exact Nat.le_of_ble_eq_true rfl) fun w0 M0 => ?_
 have hal := h.inb.1
 refine aE (aA (fN rfl (cK rfl rfl rfl (bG rfl (aD (aC (aZ ?_)))))))
 refine cF (fun (k : {k : Nat // k ≤ l.length}) => live [(0, Ty.pp (eF y fl 1000 fl.length)), (2, Ty.int .i64 d), (8, Ty.sl fm l), (9, Ty.int .i64 l.length), (10, Ty.int .i64 (k.1 : Nat))] [(1000, Cont.vec cy 3 (dr a (l.take k.1) d))]) (fun k => l.length - k.1) (⟨0, by omega⟩) ?_ fun k => ?_
 ·(refine cx.mk' ?_ ?_ <;> (repeat' (first | exact aJ | exact aK | refine aB ?_ (Ty.aU _) | refine aB ?_ (Ty.aF _) | refine aG rfl ?_ ?_)))
  all_goals exact Cont.cr (DK _ _ _)
 have hsl := su d (l.take k.1) a
 have hk := k.2
 have hsa := yQ hd h.abs (fun w hw' => by rw [hal]; exact hw w hw') k.1 k.2
 refine aE (aA (bB rfl rfl rfl (aD (aC (aE ?_)))))
 refine aj rfl (fun hc1 => ?_) (fun hc1 => ?_)
 ·
  refine aq (aC (aE (aZ (aE ?_))))
  have hwk := hw _ (cW (xs := l) (k := k.1) (by omega))
  have hsk := hsa (nth l k.1).ix
  refine aA ?_
  refine av rfl rfl rfl rfl rfl rfl (by omega) ?_
  refine aX rfl rfl rfl (by exact Nat.le_of_ble_eq_true rfl) ?_
  refine bp rfl (by exact List.cons_ne_nil _ _) rfl ?_
  refine bZ rfl rfl (by decide) rfl rfl rfl rfl rfl rfl ?_
  refine aD (aC (aE (aA ?_)))
  refine aR rfl rfl rfl rfl rfl (by decide) ?_
  refine aY rfl rfl (by decide) rfl rfl rfl ?_
  refine aD (aC ?_)
  refine cI rfl (fun hc2 => ?_) (fun hc2 => ?_)
  ·
   refine cP mixed rfl (jo rfl (bq rfl ?_))
   refine aH rfl rfl rfl rfl rfl (by decide) ?_
   refine aI rfl rfl rfl rfl ?_
   refine aR rfl rfl rfl rfl rfl (by decide) ?_
   refine aY rfl rfl (by decide) rfl rfl rfl ?_
   refine dM rfl rfl rfl rfl rfl (by omega) ?_
   refine eo rfl rfl rfl (by decide) rfl rfl (by omega) rfl ?_
   refine bG rfl ?_
   refine cA rfl rfl (by omega) (by omega) ?_
   refine dM rfl rfl rfl rfl rfl (by omega) ?_
   refine jT rfl rfl rfl (by decide) rfl rfl (by exact (rfl : _ = Ty.int _ _)) rfl (by omega) (by decide) rfl rfl ?_
   refine aD ?_
   refine ⟨by kernel_rfl, ?_⟩
   refine bI (aC (aA ?_))
   refine cA rfl rfl (by omega) (by omega) ?_
   refine bG rfl (aD ?_)
   refine bO (⟨k.1 + 1, by omega⟩) ?_ (by show l.length - (k.1 + 1) < l.length - k.1; omega)
   (refine cx.mk' ?_ ?_ <;> (repeat' (first | exact aJ | exact aK | refine aB ?_ (Ty.aU _) | refine aB ?_ (Ty.aF _) | refine aG rfl ?_ ?_)))
   all_goals skip
   all_goals exact Cont.cr (PK (by omega) hc2)
  refine cP mixed rfl (jo rfl (bq rfl ?_))
  refine aH rfl rfl rfl rfl rfl (by decide) ?_
  refine aI rfl rfl rfl rfl ?_
  refine aR rfl rfl rfl rfl rfl (by decide) ?_
  refine aY rfl rfl (by decide) rfl rfl rfl ?_
  refine dM rfl rfl rfl rfl rfl (by omega) ?_
  refine eo rfl rfl rfl (by decide) rfl rfl (by omega) rfl ?_
  refine bG rfl ?_
  refine gR rfl rfl (by omega) (by omega) ?_
  refine dM rfl rfl rfl rfl rfl (by omega) ?_
  refine jT rfl rfl rfl (by decide) rfl rfl (by exact (rfl : _ = Ty.int _ _)) rfl (by omega) (by decide) rfl rfl ?_
  refine aD ?_
  refine ⟨by kernel_rfl, ?_⟩
  refine bI (aC (aA ?_))
  refine cA rfl rfl (by omega) (by omega) ?_
  refine bG rfl (aD ?_)
  refine bO (⟨k.1 + 1, by omega⟩) ?_ (by show l.length - (k.1 + 1) < l.length - k.1; omega)
  (refine cx.mk' ?_ ?_ <;> (repeat' (first | exact aJ | exact aK | refine aB ?_ (Ty.aU _) | refine aB ?_ (Ty.aF _) | refine aG rfl ?_ ?_)))
  all_goals skip
  all_goals exact Cont.cr (Oh (by omega) hc2)
 refine cE (aP (aP (aa rfl (MX ?_))))
 refine IA [1000] rfl (by decide) ?_
 ·exact eC rfl (bh (by decide) (by rw [List.take_of_length_le (by have := k.2; omega)])) gE
set_option maxRecDepth 100000 in
theorem Np (y : ak) (fl : List bu) (a : List Int) (h : lN y fl a) : eM Tryz.prog 178 [1000] [(1000, Cont.vec cy 3 a)] [Ty.pp (eF y fl 1000 fl.length)] [(1000, Cont.vec cy 3 a)] (Ty.sl cy (gQ fl a (y.cells + 1))) := by
 refine fL Tryz.func178 rfl (by decide) Tryz.ntmps178 (by exact Nat.le_of_ble_eq_true rfl) fun w0 M0 => ?_
 have hal := h.inb.1
 have hcl := mm h.right
 have hfl := h.qb
 refine aE (aA (lq rfl (aD (aC (aE (aA (jo rfl ?_)))))))
 refine eI [] (rY y h.right) rfl (aW (mV (l1 := bH y) (l2 := [Ty.sl dg fl, Ty.vs 1000 fl.length]) rfl rfl) cN) (by exact dX _ _) ?_
 refine cA rfl rfl (by omega) (by omega) ?_
 refine qB (E := cy) (x0 := 0) rfl rfl rfl rfl rfl rfl rfl (by decide) rfl (by omega) (by (dsimp only; omega)) (by omega) ?_
 refine P4 rfl (aD (aC (aE (aE (aA (jo rfl (bq rfl ?_)))))))
 refine aH rfl rfl rfl rfl rfl (by decide) ?_
 refine aI rfl rfl rfl rfl (cK rfl rfl rfl (bG rfl (aD (aC (aZ ?_)))))
 refine cF (fun (k : {k : Nat // k ≤ fl.length}) => live [(0, Ty.pp (eF y fl 1000 fl.length)), (3, Ty.vs 10 (y.cells + 1)), (13, Ty.sl dg fl), (14, Ty.int .i64 fl.length), (15, Ty.int .i64 (k.1 : Nat))] [(1000, Cont.vec cy 3 a), (10, Cont.vec cy 3 (ep fl a (y.cells + 1) k.1))]) (fun k => fl.length - k.1) (⟨0, by omega⟩) ?_ fun k => ?_
 ·(refine cx.mk' ?_ ?_ <;> (repeat' (first | exact aJ | exact aK | refine aB ?_ (Ty.aU _) | refine aB ?_ (Ty.aF _) | refine aG rfl (Cont.aF _) ?_ | refine aG rfl ?_ ?_)))
  all_goals exact Cont.cr (G5 _ _ _)
 have hk := k.2
 have hul := jy (fl := fl) (a := a) (n := y.cells + 1) (k := k.1)
 refine aE (aA (bB rfl rfl rfl (aD (aC (aE ?_)))))
 refine aj rfl (fun hc1 => ?_) (fun hc1 => ?_)
 ·
  refine aq (aC (aE (aZ (aE (aA (bG rfl ?_))))))
  refine av rfl rfl rfl rfl rfl rfl (by omega) ?_
  refine aX rfl rfl rfl (by exact Nat.le_of_ble_eq_true rfl) ?_
  refine bp rfl (by exact List.cons_ne_nil _ _) rfl ?_
  refine bk rfl ?_
  refine bZ rfl rfl (by decide) rfl rfl rfl rfl rfl rfl ?_
  refine aD (aC (aE ?_))
  have hs := h.net.src k.1 (by omega)
  have hd := h.net.dst k.1 (by omega)
  have hamt := (h.N9 (show k.1 < fl.length by omega)).1
  have habs := fun c => zA (fl := fl) (a := a) (c := c) (k := k.1) fun i hi => (h.N9 (show i < fl.length by omega)).1
  have hn1 := jC (fl := fl) (a := a) (n := y.cells + 1) (k := k.1) (c := (nth fl k.1).src.toNat) (by omega)
  have hb1 := habs ((nth fl k.1).src.toNat : Nat)
  refine cP mixed rfl (Kq rfl ?_)
  refine aR rfl rfl rfl rfl rfl (by decide) ?_
  refine aY rfl rfl (by decide) rfl rfl rfl ?_
  refine fy rfl rfl rfl rfl rfl hs.1 (by omega) ?_
  refine eo rfl rfl rfl (by decide) rfl rfl (by omega) rfl ?_
  refine jo rfl (bq rfl ?_)
  refine aH rfl rfl rfl rfl rfl (by decide) ?_
  refine aI rfl rfl rfl rfl (bG rfl ?_)
  refine dM rfl rfl rfl rfl rfl (by omega) ?_
  refine eo rfl rfl rfl (by decide) rfl rfl (by omega) rfl ?_
  refine gR rfl rfl (by omega) (by omega) ?_
  refine fy rfl rfl rfl rfl rfl hs.1 (by omega) ?_
  refine jT rfl rfl rfl (by decide) rfl rfl (by exact (rfl : _ = Ty.int _ _)) rfl (by omega) (by decide) rfl rfl ?_
  refine aD ?_
  refine ⟨by kernel_rfl, ?_⟩
  refine aC ?_
  have hsl : (oI fl a (ep fl a (y.cells + 1) k.1) k.1).length = y.cells + 1 := (Gw _ _ _ _).trans hul
  have hb2 := G7 (fl := fl) (a := a) (n := y.cells + 1) (k := k.1) (c := (nth fl k.1).dst.toNat) habs hamt (by omega) (by omega)
  unfold oI at hb2 hsl
  refine cP mixed rfl (Kq rfl ?_)
  refine aR rfl rfl rfl rfl rfl (by decide) ?_
  refine aY rfl rfl (by decide) rfl rfl rfl ?_
  refine fy rfl rfl rfl rfl rfl hd.1 (by omega) ?_
  refine eo rfl rfl rfl (by decide) rfl rfl (by omega) rfl ?_
  refine jo rfl (bq rfl ?_)
  refine aH rfl rfl rfl rfl rfl (by decide) ?_
  refine aI rfl rfl rfl rfl (bG rfl ?_)
  refine dM rfl rfl rfl rfl rfl (by omega) ?_
  refine eo rfl rfl rfl (by decide) rfl rfl (by omega) rfl ?_
  refine cA rfl rfl (by omega) (by omega) ?_
  refine fy rfl rfl rfl rfl rfl hd.1 (by omega) ?_
  refine jT rfl rfl rfl (by decide) rfl rfl (by exact (rfl : _ = Ty.int _ _)) rfl (by omega) (by decide) rfl rfl ?_
  refine aD ?_
  refine ⟨by kernel_rfl, ?_⟩
  refine bI (aC (aA ?_))
  refine cA rfl rfl (by omega) (by omega) ?_
  refine bG rfl (aD ?_)
  refine bO (⟨k.1 + 1, by omega⟩) ?_ (by show fl.length - (k.1 + 1) < fl.length - k.1; omega)
  (refine cx.mk' ?_ ?_ <;> (repeat' (first | exact aJ | exact aK | refine aB ?_ (Ty.aU _) | refine aB ?_ (Ty.aF _) | refine aG rfl (Cont.aF _) ?_ | refine aG rfl ?_ ?_)))
  all_goals skip
  all_goals exact Cont.cr (Ba hs hd)
 refine cE (aP (aP (aa rfl (aC (aE ?_)))))
 refine kK (tg := 10) [(3, Ty.sl cy (ep fl a (y.cells + 1) k.1))] (by decide) rfl ⟨NP rfl rfl hul (by decide), trivial⟩ ?_
 refine iV (s := 3) rfl (Ty.Dq (show ep fl a (y.cells + 1) k.1 = gQ fl a (y.cells + 1) by rw [show k.1 = fl.length by have := k.2; omega]; exact Cz)) ?_
 refine aA (fN rfl (Ez rfl (aD (aC (ay ?_)))))
 refine iX [1000] rfl rfl (by decide) (by repeat (first | exact gE | refine eC rfl (bh (by decide) rfl) ?_)) ?_
 all_goals exact iO (aT rfl rfl)
end Go.Proofs.YtelbollidfdcjaaGreat
namespace Go.Proofs.YtelbollidfdcjaaGreat
open Go Go.T
section
variable {fl : List bu} {a : List Int} {n : Nat} {s t : Int} {x : rF}
def dx (x : rF) : Int := nth x.queue 0
def jw (x : rF) : rF := ⟨x.by_, x.queue.drop 1⟩
theorem queue_eq (h : 0 < x.queue.length) : x.queue = dx x :: x.queue.drop 1 := by
  unfold dx
  cases hq : x.queue with
  | nil => rw [hq] at h; exact absurd h (by simp)
  | cons c r => rfl
structure Lc (fl : List bu) (a : List Int) (n : Nat) (s : Int) (x : rF) : Prop where
  inv : lM fl a n s x none
  same : mZ (xA fl a s) x = cM fl a s
  short : x.queue.length ≤ x.by_.length + 1
theorem Py (hs : 0 ≤ s ∧ s < n) : Lc fl a n s ⟨[], [s]⟩ := ⟨Mf hs, rfl, Nat.le_refl _⟩
theorem Ij (h : 0 < x.queue.length) : xA fl a s x = .inl (fA fl a s (dx x) (jw x) (bK fl a (dx x)).length) := by
 have e := queue_eq h
 unfold xA
 rw [e]; rfl
theorem Lc.fold (hN : Net fl n) (h : Lc fl a n s x) (hq : 0 < x.queue.length) {k : Nat} (hk : k ≤ (bK fl a (dx x)).length) :
 (fA fl a s (dx x) (jw x) k).queue.length ≤ n ∧ (fA fl a s (dx x) (jw x) k).by_.length ≤ n ∧ (fA fl a s (dx x) (jw x) k).queue.length ≤ (fA fl a s (dx x) (jw x) k).by_.length := by
 have h1 := (h.inv.pop (queue_eq hq)).fold hN k hk
 have h2 := h1.qb
 have h3 := wS (fl := fl) (a := a) (s := s) (c := dx x) (x := jw x) k hk
 have h4 := h.short
 have e1 : (jw x).queue.length + 1 = x.queue.length := by show (x.queue.drop 1).length + 1 = _; rw [List.length_drop]; omega
 have e2 : (jw x).by_ = x.by_ := rfl
 rw [e2] at h3
 change (fA fl a s (dx x) (jw x) k).by_.length ≤ n at h2
 omega
theorem Lc.next (hN : Net fl n) (h : Lc fl a n s x) (hq : 0 < x.queue.length) : Lc fl a n s (fA fl a s (dx x) (jw x) (bK fl a (dx x)).length) ∧ N4 n (fA fl a s (dx x) (jw x) (bK fl a (dx x)).length) < N4 n x := by
 obtain ⟨h1, h2⟩ := vP hN h.inv (queue_eq hq)
 exact ⟨⟨h1, by rw [← iB (Ij hq)]; exact h.same, by have := (h.fold hN hq (Nat.le_refl _)).2.2; omega⟩, h2⟩
theorem Lc.end (h : Lc fl a n s x) (hq : ¬ 0 < x.queue.length) : x.by_ = cM fl a s := by
 rw [← h.same]
 refine (iQ ?_).symm
 unfold xA
 rw [List.length_eq_zero_iff.1 (show x.queue.length = 0 by omega)]
theorem yh {c : Int} {z : rF} {k : Nat} (hk : k < (bK fl a c).length) (h : ud fl s (fA fl a s c z k).by_ (nth (bK fl a c) k) = true) :
 gu (fA fl a s c z k).by_ ((nth (bK fl a c) k).fin fl) (nth (bK fl a c) k) = (fA fl a s c z (k + 1)).by_ ∧ (fA fl a s c z k).queue ++ [(nth (bK fl a c) k).fin fl] = (fA fl a s c z (k + 1)).queue := by
 rw [nV hk, sY h]; exact ⟨rfl, rfl⟩
theorem Cc {c : Int} {z : rF} {k : Nat} (hk : k < (bK fl a c).length) (h : ud fl s (fA fl a s c z k).by_ (nth (bK fl a c) k) = false) :
 (fA fl a s c z k).by_ = (fA fl a s c z (k + 1)).by_ ∧ (fA fl a s c z k).queue = (fA fl a s c z (k + 1)).queue := by
 rw [nV hk, vT h]; exact ⟨rfl, rfl⟩
theorem wo {c : Int} {z : rF} : fA fl a s c z 0 = z := rfl
structure H9 (fl : List bu) (n : Nat) (a0 a : List Int) : Prop where
  inb : xS fl a
  same : mZ (Eg fl n) a = gK fl n a0
theorem H9.done {a0 : List Int} (h : H9 fl n a0 a) (e : dW fl a n < 0) : gK fl n a0 = (0, false, a) := by
 rw [← h.same]; exact iQ (if_pos e)
theorem H9.stuck {a0 : List Int} (h : H9 fl n a0 a) (e : ¬ dW fl a n < 0) (e2 : eP fl a n (cM fl a (dW fl a n)) < 0) : gK fl n a0 = (dW fl a n, true, a) := by
 rw [← h.same]; exact iQ ((if_neg e).trans (if_pos e2))
theorem H9.next {a0 : List Int} (hN : Net fl n) (h : H9 fl n a0 a) (e : ¬ dW fl a n < 0) (e2 : ¬ eP fl a n (cM fl a (dW fl a n)) < 0) :
 H9 fl n a0 (kP fl a (dW fl a n) (eP fl a n (cM fl a (dW fl a n)))) ∧ OM fl a n (dW fl a n) (eP fl a n (cM fl a (dW fl a n))) := by
 obtain ⟨s, s1, s2, s3⟩ := wA e
 obtain ⟨t, t1, t2, t3, t4⟩ := tD e2
 rw [s2] at t2 t3 ⊢
 rw [t2]
 have hS := sent hN h.inb s1 t1 s3 t3 t4
 refine ⟨⟨hS.inb, ?_⟩, hS⟩
 rw [← h.same]
 refine (iB ?_).symm
 unfold Eg
 rw [if_neg e, s2, if_neg (by rw [t2]; omega), t2]
structure L5 (fl : List bu) (a : List Int) (q : List (Int × Way)) (s t : Int) (dep : Int → Nat) (x : Int × List Way) : Prop where
  inv : JG fl a q s t dep x
  same : mZ (Es fl q s) x = hO fl q s t
theorem Pm {dep : Int → Nat} {q : List (Int × Way)} (ht : xM q s t) : L5 fl a q s t dep (t, []) :=
 ⟨⟨rfl, (fun w h => by cases h), (fun w h => by cases h), List.nodup_nil, ht, by simp⟩, rfl⟩
theorem DD {q : List (Int × Way)} {x : Int × List Way} (hx : x.1 = s) : Es fl q s x = .inr x.2 := if_pos hx
theorem DA {q : List (Int × Way)} {x : Int × List Way} (hx : ¬ x.1 = s) : Es fl q s x = .inl ((jv q x.1).hH fl, x.2 ++ [jv q x.1]) := if_neg hx
theorem L5.next {dep : Int → Nat} {q : List (Int × Way)} (hd : ∀ c w, eZ q c = some w → Open fl a w ∧ w.fin fl = c ∧ xM q s (w.hH fl) ∧ dep (w.hH fl) < dep c ∧ dep c ≤ q.length) {x : Int × List Way} (h : L5 fl a q s t dep x) (hx : ¬ x.1 = s) :
 L5 fl a q s t dep ((jv q x.1).hH fl, x.2 ++ [jv q x.1]) ∧ dep ((jv q x.1).hH fl) < dep x.1 ∧ Open fl a (jv q x.1) := by
 obtain ⟨h1, h2⟩ := h.inv.next hd hx
 refine ⟨⟨h1, ?_⟩, h2, h1.ways _ (List.mem_append.2 (.inr (List.mem_singleton.2 rfl)))⟩
 rw [← h.same]
 exact (iB (DA hx)).symm
theorem L5.end {dep : Int → Nat} {q : List (Int × Way)} {x : Int × List Way} (h : L5 fl a q s t dep x) (hx : x.1 = s) : x.2 = hO fl q s t := by
 rw [← h.same]; exact (iQ (DD hx)).symm
theorem L5.qb {dep : Int → Nat} {q : List (Int × Way)} {x : Int × List Way} (h : L5 fl a q s t dep x) : x.2.length ≤ dep t := by
 have := h.inv.qb; omega
end
end Go.Proofs.YtelbollidfdcjaaGreat
namespace Go.Proofs.YtelbollidfdcjaaGreat
open Go Go.T
set_option maxHeartbeats 8000000
def zY : VT Way := ⟨fun w => Ty.agg (fm.tys w), fun _ => ⟨rfl, rfl⟩⟩
theorem nS : mapOf Tryz.prog 196 = some (3, 199) := by kernel_rfl
theorem sW : zeroOf Tryz.prog 199 = some (.agg #[.int .i64 0, .bool false]) := by kernel_rfl
theorem oa : ∀ w M, (zY.ty (default : Way)).den w M (.agg #[.int .i64 0, .bool false]) := fun _ _ => ⟨_, rfl, rfl, rfl, trivial⟩
theorem Br : ∀ w M, ((JU fm).ty []).den w M (.slice none 0 0) := fun w M => Ty.AP w M _ rfl
section
variable {fl : List bu} {a : List Int} {s : Int} {q : List (Int × Way)} {w : Way}
theorem Gg {q : WQ} {k : Nat} (h : nth a k < (nth fl k).hi) : gu q (nth fl k).src ((eZ q (nth fl k).src).getD [] ++ [⟨k, true⟩]) = nC fl a q k := (if_pos h).symm
theorem GI {k : Nat} (h : nth a k > (nth fl k).lo) : gu (nC fl a (eR fl a k) k) (nth fl k).dst ((eZ (nC fl a (eR fl a k) k) (nth fl k).dst).getD [] ++ [⟨k, false⟩]) = eR fl a (k + 1) := (if_pos h).symm
theorem new_eq : (!(eZ q (w.fin fl)).isSome && !decide (w.fin fl = s)) = ud fl s q w := rfl
end
theorem Lf {α : Type} {E : El α} {T J : Nat} {l l' : List α} (e : l = l') : (Ty.fP E T J l).Sub (Ty.fP E T J l') := Ty.sub_eq (congrArg (Ty.fP E T J) e)
attribute [local irreducible] aQ gZ Way.hH Way.fin Way.room eR nC G4 dr ep pM bK fA cM ud dx
attribute [local irreducible] gA eU lH nR gy gl g5 gr g9 nU gx nZ dN fS nJ ff nQ nth fI dQ au dK bodyPost Exit.then Exit.inBlock Code.wp Code.wpIn nY gm oC n9 g7 eM cJ cH bodyPostM dP
set_option maxRecDepth 100000 in
theorem Hx (y : ak) (fl : List bu) (a : List Int) (h : lN y fl a) : eM Tryz.prog 184 [1000] [(1000, Cont.vec cy 3 a)] [Ty.pp (eF y fl 1000 fl.length)] [(1000, Cont.vec cy 3 a)] (Ty.pm KI.enc (JU fm) (eR fl a fl.length)) := by
 refine fL Tryz.func184 rfl (by decide) Tryz.ntmps184 (by exact Nat.le_of_ble_eq_true rfl) fun w0 M0 => ?_
 have hal := h.inb.1
 have hfl := h.qb
 refine aE (aA (lq rfl (aD (aC (aE (aA (Di KI.enc fm 199 6000 n8 rfl (Pe rfl (aD ?_)))))))))
 refine aC (aE (aE (aA (jo rfl (bq rfl ?_)))))
 refine aH rfl rfl rfl rfl rfl (by decide) ?_
 refine aI rfl rfl rfl rfl (cK rfl rfl rfl (bG rfl (aD (aC (aZ ?_)))))
 refine cF (fun (k : {k : Nat // k ≤ fl.length}) => live [(0, Ty.pp (eF y fl 1000 fl.length)), (3, Ty.mp 7), (10, Ty.sl dg fl), (11, Ty.int .i64 fl.length), (12, Ty.int .i64 (k.1 : Nat))] [(1000, Cont.vec cy 3 a), (7, Cont.mr KI.enc fm 199 6000 (eR fl a k.1))]) (fun k => fl.length - k.1) (⟨0, by omega⟩) ?_ fun k => ?_
 ·(refine cx.mk' ?_ ?_ <;> (repeat' (first | exact aJ | exact aK | refine aB ?_ (Ty.aU _) | refine aB ?_ (Ty.aF _) | refine aG rfl (Cont.aF _) ?_ | refine aG rfl ?_ ?_)))
  all_goals exact Cont.tQ (Ga fl a)
 have hk := k.2
 refine aE (aA (bB rfl rfl rfl (aD (aC (aE ?_)))))
 refine aj rfl (fun hc1 => ?_) (fun hc1 => ?_)
 ·
  refine aq (aC (aE (aZ (aE (aA (bG rfl ?_))))))
  refine av rfl rfl rfl rfl rfl rfl (by omega) ?_
  refine aX rfl rfl rfl (by exact Nat.le_of_ble_eq_true rfl) ?_
  refine bp rfl (by exact List.cons_ne_nil _ _) rfl ?_
  refine bk rfl ?_
  refine bZ rfl rfl (by decide) rfl rfl rfl rfl rfl rfl ?_
  refine aD (aC ?_)
  refine mJ (J := live [(0, Ty.pp (eF y fl 1000 fl.length)), (3, Ty.mp 7), (4, Ty.int .i64 (k.1 : Nat)), (5, Ty.ptr 6 0), (10, Ty.sl dg fl), (11, Ty.int .i64 fl.length), (12, Ty.int .i64 (k.1 : Nat))] [(1000, Cont.vec cy 3 a), (7, Cont.mr KI.enc fm 199 6000 (nC fl a (eR fl a k.1) k.1)), (6, Cont.cells 187 (dg.tys (nth fl k.1)))]) ?_ ?_
  ·
   refine aE (cP mixed rfl (jo rfl (bq rfl ?_)))
   refine aH rfl rfl rfl rfl rfl (by decide) ?_
   refine aI rfl rfl rfl rfl (bG rfl ?_)
   refine dM rfl rfl rfl rfl rfl (by omega) ?_
   refine eo rfl rfl rfl (by decide) rfl rfl (by omega) rfl ?_
   refine aR rfl rfl rfl rfl rfl (by decide) ?_
   refine aY rfl rfl (by decide) rfl rfl rfl ?_
   refine bB rfl rfl rfl (aD ?_)
   refine ⟨by kernel_rfl, ?_⟩
   refine aC ?_
   refine aj rfl (fun hc2 => ?_) (fun hc2 => ?_)
   ·
    have hq := fun c => zC (fl := fl) (a := a) (c := c) k.1
    have hq1 := hq (nth fl k.1).src
    refine cP mixed rfl (JE rfl ?_)
    refine aR rfl rfl rfl rfl rfl (by decide) ?_
    refine aY rfl rfl (by decide) rfl rfl rfl ?_
    refine JE rfl ?_
    refine aR rfl rfl rfl rfl rfl (by decide) ?_
    refine aY rfl rfl (by decide) rfl rfl rfl ?_
    refine yK KI rfl rfl (by decide) rfl (uZ _) n8 ux ?_
    refine bG rfl ?_
    refine dG rfl rfl (by exact List.cons_ne_nil _ _) rfl (by repeat (first | exact (aV.nil : aV _ _ [] _) | (show aV _ _ ((_, _) :: _) _; apply aV.one; (· first | exact (rfl : _ = Ty.int _ _) | exact (rfl : _ = Ty.bool _)); (· exact rfl)))) (by exact (rfl : _ = some [_, _])) ?_
    refine bW (E := fm) (xs := [⟨k.1, true⟩]) rfl rfl rfl rfl rfl (by decide) (by decide) (by repeat (first | exact (aV.nil : aV _ _ [] _) | (show aV _ _ ((_, _) :: _) _; apply aV.agg; (· exact (rfl : _ = Ty.agg _))))) (by exact rfl) rfl ?_
    refine yE rfl rfl rfl (by decide) (by decide) rfl (by show 0 < 1; decide) rfl rfl rfl rfl rfl (by decide) (by show (((eZ _ _).getD []).length + 1) * 16 ≤ _; unfold oL at hq1; omega) (by show ((eZ _ _).getD []).length + 1 ≤ _; unfold oL at hq1; omega) ?_
    refine zL KI rfl rfl (by decide) rfl (uZ _) rfl n8 rfl ?_
    refine aD ?_
    refine ⟨by kernel_rfl, ?_⟩
    refine fJ ?_
    (refine cx.mk' ?_ ?_ <;> (repeat' (first | exact aJ | exact aK | refine aB ?_ (Ty.aU _) | refine aB ?_ (Ty.aF _) | refine aG rfl (Cont.aF _) ?_ | refine aG rfl ?_ ?_)))
    all_goals exact Cont.tQ (Gg hc2)
   refine aq (fJ ?_)
   (refine cx.mk' ?_ ?_ <;> (repeat' (first | exact aJ | exact aK | refine aB ?_ (Ty.aU _) | refine aB ?_ (Ty.aF _) | refine aG rfl (Cont.aF _) ?_ | refine aG rfl ?_ ?_)))
   all_goals exact Cont.tQ (KC hc2)
  refine aE (cP mixed rfl (jo rfl (bq rfl ?_)))
  refine aH rfl rfl rfl rfl rfl (by decide) ?_
  refine aI rfl rfl rfl rfl (bG rfl ?_)
  refine dM rfl rfl rfl rfl rfl (by omega) ?_
  refine eo rfl rfl rfl (by decide) rfl rfl (by omega) rfl ?_
  refine aR rfl rfl rfl rfl rfl (by decide) ?_
  refine aY rfl rfl (by decide) rfl rfl rfl ?_
  refine bB rfl rfl rfl (aD ?_)
  refine ⟨by kernel_rfl, ?_⟩
  refine aC ?_
  refine aj rfl (fun hc3 => ?_) (fun hc3 => ?_)
  ·
   have hq2 := G6 (fl := fl) (a := a) (c := (nth fl k.1).dst) (k := k.1)
   refine cP mixed rfl (JE rfl ?_)
   refine aR rfl rfl rfl rfl rfl (by decide) ?_
   refine aY rfl rfl (by decide) rfl rfl rfl ?_
   refine JE rfl ?_
   refine aR rfl rfl rfl rfl rfl (by decide) ?_
   refine aY rfl rfl (by decide) rfl rfl rfl ?_
   refine yK KI rfl rfl (by decide) rfl (uZ _) n8 ux ?_
   refine bG rfl ?_
   refine dG rfl rfl (by exact List.cons_ne_nil _ _) rfl (by repeat (first | exact (aV.nil : aV _ _ [] _) | (show aV _ _ ((_, _) :: _) _; apply aV.one; (· first | exact (rfl : _ = Ty.int _ _) | exact (rfl : _ = Ty.bool _)); (· exact rfl)))) (by exact (rfl : _ = some [_, _])) ?_
   refine bW (E := fm) (xs := [⟨k.1, false⟩]) rfl rfl rfl rfl rfl (by decide) (by decide) (by repeat (first | exact (aV.nil : aV _ _ [] _) | (show aV _ _ ((_, _) :: _) _; apply aV.agg; (· exact (rfl : _ = Ty.agg _))))) (by exact rfl) rfl ?_
   refine yE rfl rfl rfl (by decide) (by decide) rfl (by show 0 < 1; decide) rfl rfl rfl rfl rfl (by decide) (by show (((eZ _ _).getD []).length + 1) * 16 ≤ _; unfold oL at hq2; omega) (by show ((eZ _ _).getD []).length + 1 ≤ _; unfold oL at hq2; omega) ?_
   refine zL KI rfl rfl (by decide) rfl (uZ _) rfl n8 rfl ?_
   refine aD ?_
   refine ⟨by kernel_rfl, ?_⟩
   refine bI (aC (aA ?_))
   refine cA rfl rfl (by omega) (by omega) ?_
   refine bG rfl (aD ?_)
   refine bO (⟨k.1 + 1, by omega⟩) ?_ (by show fl.length - (k.1 + 1) < fl.length - k.1; omega)
   (refine cx.mk' ?_ ?_ <;> (repeat' (first | exact aJ | exact aK | refine aB ?_ (Ty.aU _) | refine aB ?_ (Ty.aF _) | refine aG rfl (Cont.aF _) ?_ | refine aG rfl ?_ ?_)))
   all_goals skip
   all_goals exact Cont.tQ (GI hc3)
  refine aq (bI (aC (aA ?_)))
  refine cA rfl rfl (by omega) (by omega) ?_
  refine bG rfl (aD ?_)
  refine bO (⟨k.1 + 1, by omega⟩) ?_ (by show fl.length - (k.1 + 1) < fl.length - k.1; omega)
  (refine cx.mk' ?_ ?_ <;> (repeat' (first | exact aJ | exact aK | refine aB ?_ (Ty.aU _) | refine aB ?_ (Ty.aF _) | refine aG rfl (Cont.aF _) ?_ | refine aG rfl ?_ ?_)))
  all_goals skip
  all_goals exact Cont.tQ (Jn hc3)
 refine cE (aP (aP (aa rfl (aC (aE ?_)))))
 refine jW (tg := 7) rfl (Cont.tQ (show eR fl a k.1 = eR fl a fl.length by rw [show k.1 = fl.length by have := k.2; omega])) ?_
 refine jA (tg := 6000) [] [(7, Cont.mp KI.enc (JU fm) (eR fl a fl.length))] (by decide) rfl trivial ⟨MU rfl rfl, trivial⟩ ?_
 refine kK (tg := 7) [(3, Ty.pm KI.enc (JU fm) (eR fl a fl.length))] (by decide) rfl ⟨NT rfl rfl (by decide), trivial⟩ ?_
 refine aA (OA rfl (Ns rfl (aD (aC (ay ?_)))))
 refine iX [1000] rfl rfl (by decide) (by repeat (first | exact gE | refine eC rfl (bh (by decide) rfl) ?_)) ?_
 all_goals exact iO (aT rfl rfl)
set_option maxRecDepth 100000 in
theorem MO (y : ak) (fl : List bu) (a : List Int) (h : lN y fl a) (s : Int) (hs : 0 ≤ s ∧ s < (y.cells + 1 : Nat)) : eM Tryz.prog 130 [1000] [(1000, Cont.vec cy 3 a)] [Ty.pp (eF y fl 1000 fl.length), Ty.int .i64 s] [(1000, Cont.vec cy 3 a), (16, Cont.mp KI.enc zY (cM fl a s))] (Ty.mp 16) := by
 refine fL Tryz.func130 rfl (by decide) Tryz.ntmps130 (by exact Nat.le_of_ble_eq_true rfl) fun w0 M0 => ?_
 have hal := h.inb.1
 have hN := h.net
 have hcl := mm h.right
 refine aE (aA (lq rfl (aD (aC (aE (aA (Fi KI.enc zY nS rfl (Pe rfl (aD ?_)))))))))
 refine aC (aE (aA (jo rfl ?_)))
 refine dI [(1000, 1000)] [] [(1000, Cont.vec cy 3 a)] (Hx y fl a h) rfl rfl (aM bU (e8 (aM (aM (aM (aM (aM (aM bU (dZ (by exact List.mem_cons_self))) (aT rfl rfl)) (aT rfl rfl)) (aT rfl rfl)) (aT rfl rfl)) (aT rfl rfl)))) (cz (a := 1000) (b := 1000) (by exact List.mem_cons_self) rfl (bh (by exact List.mem_cons_self) rfl) pre_nil) (bg (a := 1000) (b := 1000) (by exact List.mem_cons_self) rfl (bh (by exact List.mem_cons_self) rfl) post_nil) (aT rfl rfl) ?_
 refine Ns rfl (aD (aC (aE (aA (bG rfl ?_)))))
 refine CD (E := cy) (xs := [s]) rfl rfl rfl rfl rfl (by decide) (by decide) (by repeat (first | exact (aV.nil : aV _ _ [] _) | (show aV _ _ ((_, _) :: _) _; apply aV.one; (· exact (rfl : _ = Ty.int _ _)); (· exact rfl)))) (by exact rfl) rfl rfl ?_
 refine Aj rfl (aD (aC (aE ?_)))
 refine N7 (s := 7) (J := 4100) (tg := 20) rfl rfl (by decide) (by decide) rfl ?_
 refine aZ ?_
 refine cF (fun (x : {x : rF // Lc fl a (y.cells + 1) s x}) => live [(0, Ty.pp (eF y fl 1000 fl.length)), (1, Ty.int .i64 s), (5, Ty.mp 16), (6, Ty.pm KI.enc (JU fm) (eR fl a fl.length)), (7, Ty.fP cy 3 4100 x.1.queue)] [(1000, Cont.vec cy 3 a), (16, Cont.mp KI.enc zY x.1.by_)]) (fun x => N4 (y.cells + 1) x.1) (⟨⟨[], [s]⟩, Py hs⟩) ?_ fun x => ?_
 ·(refine cx.mk' ?_ ?_ <;> (repeat' (first | exact aJ | exact aK | refine aB ?_ (Ty.aU _) | refine aB ?_ (Ty.aF _) | refine aG rfl (Cont.aF _) ?_)))
 refine aE (aE (aA ?_))
 refine eA (rfl : _ = Ty.fP _ _ _ _) ?_
 refine ND rfl rfl rfl (bB rfl rfl rfl (aD (aC ?_)))
 refine aj rfl (fun hc1 => ?_) (fun hc1 => ?_)
 ·
  refine aq (aC (aZ (aE ?_)))
  have hlen : 0 < x.1.queue.length := by omega
  refine aA ?_
  refine eA (rfl : _ = Ty.fP _ _ _ _) ?_
  refine IF (i := 0) rfl rfl rfl rfl rfl rfl hlen ?_
  refine GH rfl rfl rfl rfl (bk rfl (aD (aC (aE (aA ?_)))))
  refine eA (rfl : _ = Ty.fP _ _ _ _) ?_
  refine NN (lo := 1) rfl rfl rfl rfl rfl rfl hlen hlen ?_
  refine gW (rfl : _ = Ty.fP _ _ _ _) ?_
  refine aD (aC (aE ?_))
  refine iV (s := 8) rfl (Ty.bE (show nth x.1.queue 0 = dx x.1 by unfold dx; rfl)) ?_
  refine aA (OA rfl (bG rfl ?_))
  refine yU KI (z0 := []) rfl rfl (uZ _) n8 ux Br ?_
  refine cK (E := fm) (xs := oL (eR fl a fl.length) (dx x.1)) rfl rfl rfl ?_
  refine bG rfl (aD (aC ?_))
  refine iV (s := 30) rfl (show (Ty.sl fm (oL (eR fl a fl.length) (dx x.1))).Sub (Ty.sl fm (bK fl a (dx x.1))) from Ty.Dq r8) ?_
  refine iV (s := 31) rfl (Ty.bE (congrArg (fun l : List Way => ((l.length : Nat) : Int)) (r8 (c := dx x.1)))) ?_
  refine aZ ?_
  refine cF (fun (j : {j : Nat // j ≤ (bK fl a (dx x.1)).length}) => live [(0, Ty.pp (eF y fl 1000 fl.length)), (1, Ty.int .i64 s), (5, Ty.mp 16), (6, Ty.pm KI.enc (JU fm) (eR fl a fl.length)), (7, Ty.fP cy 3 4100 (fA fl a s (dx x.1) (jw x.1) j.1).queue), (8, Ty.int .i64 (dx x.1)), (30, Ty.sl fm (bK fl a (dx x.1))), (31, Ty.int .i64 (bK fl a (dx x.1)).length), (32, Ty.int .i64 (j.1 : Nat))] [(1000, Cont.vec cy 3 a), (16, Cont.mp KI.enc zY (fA fl a s (dx x.1) (jw x.1) j.1).by_)]) (fun j => (bK fl a (dx x.1)).length - j.1) (⟨0, by omega⟩) ?_ fun j => ?_
  ·(refine cx.mk' ?_ ?_ <;> (repeat' (first | exact aJ | exact aK | refine aB ?_ (Ty.aU _) | refine aB ?_ (Ty.aF _) | refine aG rfl (Cont.aF _) ?_ | refine aG rfl ?_ ?_ | refine aB ?_ ?_)))
   all_goals first | exact Lf (congrArg rF.queue (wo (fl := fl) (a := a) (s := s) (c := dx x.1) (z := jw x.1)).symm) | exact Cont.vO (show x.1.by_ = (fA fl a s (dx x.1) (jw x.1) 0).by_ by rw [wo]; rfl)
  have hj := j.2
  have hwl := oQ (fl := fl) (a := a) (c := dx x.1)
  have hfl := h.qb
  have hff := x.2.fold hN hlen hj
  refine aE (aA (bB rfl rfl rfl (aD (aC (aE ?_)))))
  refine aj rfl (fun hc2 => ?_) (fun hc2 => ?_)
  ·
   refine aq (aC (aE (aZ (aE (aA ?_)))))
   refine av rfl rfl rfl rfl rfl rfl (by omega) ?_
   refine aX rfl rfl rfl (by exact Nat.le_of_ble_eq_true rfl) ?_
   refine bp rfl (by exact List.cons_ne_nil _ _) rfl ?_
   refine bZ rfl rfl (by decide) rfl rfl rfl rfl rfl rfl ?_
   refine aD (aC (aE ?_))
   have hwj := (nI.1 (cW (xs := bK fl a (dx x.1)) (k := j.1) (by omega))).1
   refine aA (jo rfl ?_)
   refine bz rfl rfl (by decide) rfl rfl (by exact Nat.le_of_ble_eq_true rfl) ?_
   refine eI [1000] (E5 y fl a h (nth (bK fl a (dx x.1)) j.1) hwj.1) rfl (aW (kN (aW (bT (bR rfl rfl)) (aW (bT (bR rfl rfl)) (aW (bT (bR rfl rfl)) (aW (bT (bR rfl rfl)) (aW (bT (bR rfl rfl)) (aW (jV rfl hal (by decide) rfl) cN))))))) (aW (bT (bR rfl rfl)) cN)) (by exact p4 (by repeat (first | exact qA | refine nx (by exact dX _ _) ?_))) ?_
   refine uH rfl (bQ rfl rfl (bQ rfl rfl (bk rfl (bk rfl (aD (aC (aE (aA (JE rfl ?_)))))))))
   refine bG rfl ?_
   refine y5 KI (k := (nth (bK fl a (dx x.1)) j.1).fin fl) (z0 := (default : Way)) rfl rfl (by decide) rfl (uZ _) nS sW oa ?_
   refine uH rfl (bQ rfl rfl (bQ rfl rfl ?_))
   refine bp rfl (by exact List.cons_ne_nil _ _) rfl ?_
   refine bZ rfl rfl (by decide) rfl rfl rfl rfl rfl rfl ?_
   refine dA rfl (aD (aC (aE (aA (fB rfl (eN rfl (fB rfl ?_)))))))
   apply aN (s := 50) rfl rfl rfl
   ·intro hg; apply aO; (refine bG rfl ?_); refine aD ?_; exact rfl
   ·exact rfl
   ·exact rfl
   apply aN (s := 50) rfl rfl rfl
   ·intro hg; apply aO; (refine bG rfl ?_); refine aD ?_; exact rfl
   ·exact rfl
   ·exact rfl
   apply aN (s := 50) rfl rfl rfl
   ·intro hg; apply aL (s := 51) rfl (by (rw [hg]; rfl)); apply aL (s := 52) rfl (by (rw [hg]; rfl)); apply aO; (refine bB rfl rfl rfl ?_); refine aD ?_; exact rfl
   ·exact rfl
   ·exact rfl
   refine dy rfl rfl (aD (aC ?_))
   refine cI rfl (fun hc3 => ?_) (fun hc3 => ?_)
   ·
    refine aE (aA (JE rfl (bG rfl ?_)))
    refine bz rfl rfl (by decide) rfl rfl (by exact Nat.le_of_ble_eq_true rfl) ?_
    refine BY KI (k := (nth (bK fl a (dx x.1)) j.1).fin fl) (v := nth (bK fl a (dx x.1)) j.1) rfl rfl (by decide) rfl (uZ _) rfl rfl nS ?_
    refine aD (aC (aA ?_))
    refine eA (rfl : _ = Ty.fP _ _ _ _) ?_
    refine bG rfl ?_
    refine bW (E := cy) (xs := [_]) rfl rfl rfl rfl rfl (by decide) (by decide) (by repeat (first | exact (aV.nil : aV _ _ [] _) | (show aV _ _ ((_, _) :: _) _; apply aV.one; (· exact (rfl : _ = Ty.int _ _)); (· exact rfl)))) (by exact rfl) rfl ?_
    refine GM rfl rfl (by decide) rfl (by show 0 < 1; decide) rfl rfl rfl rfl rfl (by decide) (by show (_ + 1) * 8 ≤ _; omega) (by show _ + 1 ≤ _; omega) ?_
    refine gW (rfl : _ = Ty.fP _ _ _ _) ?_
    refine aD (bI (aC (aA ?_)))
    refine cA rfl rfl (by omega) (by omega) ?_
    refine bG rfl (aD ?_)
    refine bO (⟨j.1 + 1, by omega⟩) ?_ (by show (bK fl a (dx x.1)).length - (j.1 + 1) < (bK fl a (dx x.1)).length - j.1; omega)
    (refine cx.mk' ?_ ?_ <;> (repeat' (first | exact aJ | exact aK | refine aB ?_ (Ty.aU _) | refine aB ?_ (Ty.aF _) | refine aG rfl (Cont.aF _) ?_ | refine aG rfl ?_ ?_ | refine aB ?_ ?_)))
    all_goals skip
    all_goals first | exact Lf (yh (by omega) (by rw [← new_eq]; exact hc3)).2 | exact Cont.vO (yh (by omega) (by rw [← new_eq]; exact hc3)).1
   refine aq (bI (aC (aA ?_)))
   refine cA rfl rfl (by omega) (by omega) ?_
   refine bG rfl (aD ?_)
   refine bO (⟨j.1 + 1, by omega⟩) ?_ (by show (bK fl a (dx x.1)).length - (j.1 + 1) < (bK fl a (dx x.1)).length - j.1; omega)
   (refine cx.mk' ?_ ?_ <;> (repeat' (first | exact aJ | exact aK | refine aB ?_ (Ty.aU _) | refine aB ?_ (Ty.aF _) | refine aG rfl (Cont.aF _) ?_ | refine aG rfl ?_ ?_ | refine aB ?_ ?_)))
   all_goals skip
   all_goals first | exact Lf (Cc (by omega) (by rw [← new_eq]; exact hc3)).2 | exact Cont.vO (Cc (by omega) (by rw [← new_eq]; exact hc3)).1
  refine cE (aP (aP (aa rfl (bI ?_))))
  refine bO (⟨fA fl a s (dx x.1) (jw x.1) (bK fl a (dx x.1)).length, (x.2.next hN hlen).1⟩) ?_ (by exact (x.2.next hN hlen).2)
  (refine cx.mk' ?_ ?_ <;> (repeat' (first | exact aJ | exact aK | refine aB ?_ (Ty.aU _) | refine aB ?_ (Ty.aF _) | refine aG rfl (Cont.aF _) ?_ | refine aG rfl ?_ ?_ | refine aB ?_ ?_)))
  all_goals skip
  all_goals first | exact Lf (congrArg (fun n => (fA fl a s (dx x.1) (jw x.1) n).queue) (show j.1 = _ by have := j.2; omega)) | exact Cont.vO (congrArg (fun n => (fA fl a s (dx x.1) (jw x.1) n).by_) (show j.1 = _ by have := j.2; omega))
 refine cE (aP (aP (aa rfl (aC (aE ?_)))))
 refine jW (tg := 16) rfl (Cont.vO (x.2.end (by omega))) ?_
 refine aA (JE rfl (Pe rfl (aD (aC (ay ?_)))))
 refine iX [1000, 16] rfl rfl (by decide) (by repeat (first | exact gE | refine eC rfl (bh (by decide) rfl) ?_ | refine eC rfl (Mu (by decide) rfl) ?_)) ?_
 all_goals skip
 all_goals exact iO (Mb (by decide))
end Go.Proofs.YtelbollidfdcjaaGreat
namespace Go.Proofs.YtelbollidfdcjaaGreat
open Go Go.T
section
variable {fl : List bu} {a : List Int} {n : Nat} {q : List (Int × Way)}
theorem C0 {n k : Nat} (h : k ≤ n) : (List.range n).take k = List.range k := by
 rw [List.take_range, Nat.min_eq_left h]
theorem L8 {j : Nat} (hj : j < n) (h : ∀ i, i < j → jj fl a q i = false) (hc : jj fl a q j = true) : (j : Int) = eP fl a n q := by
 unfold eP
 refine (gw (by rw [List.length_range]; exact hj) (fun x hx => ?_) ?_).symm
 ·rw [C0 (by omega)] at hx
  exact h x (List.mem_range.1 hx)
 rw [List.getElem_range]; exact hc
theorem J4 {j : Nat} (hj : n ≤ j) (h : ∀ i, i < j → jj fl a q i = false) : -1 = eP fl a n q := by
 unfold eP
 refine (iU fun x hx => ?_).symm
 exact h x (by have := List.mem_range.1 hx; omega)
theorem A7 {j : Nat} (hj : j < n) : ((eZ q (j : Int)).isSome && decide (nth (gQ fl a n) j < 0)) = jj fl a q j := by
 unfold jj; rw [s9 hj]
theorem Ia (hl : fl.length ≤ 34) (ha : ∀ i, i < fl.length → 0 ≤ nth a i ∧ nth a i ≤ 300) (c : Int) : -10200 ≤ over fl a c ∧ over fl a c ≤ 10200 := by
 have h := zA (fl := fl) (a := a) (c := c) (k := fl.length) ha
 have e : pM fl a fl.length c = over fl a c := rfl
 rw [e] at h; omega
theorem wG (m : Int) (fl : List bu) (a : List Int) : m = e9 fl a m [] := rfl
theorem ID {s t : Int} {l : List Way} (e : l = hO fl (cM fl a s) s t) : dr a l (e9 fl a (min (over fl a s) (-over fl a t)) l) = kP fl a s t := by subst e; rfl
end
end Go.Proofs.YtelbollidfdcjaaGreat
namespace Go.Proofs.YtelbollidfdcjaaGreat
open Go Go.T
set_option maxHeartbeats 16000000
structure J0 (y : ak) (fl : List bu) (a : List Int) : Prop where
  right : y.cG
  net : Net fl (y.cells + 1)
  bd : Bd fl
  inb : iD fl = true → xS fl a
  qb : fl.length ≤ 34
section
variable {y : ak} {fl : List bu} {a : List Int} {n : Nat}
theorem Ab (h : (!fl.all fun f => decide (f.lo ≤ f.hi)) = true) : iD fl = false := nA h
theorem nv (h : (!fl.all fun f => decide (f.lo ≤ f.hi)) = false) : iD fl = true := eX h
theorem N1 (h : iD fl = false) : 0 = (cQ fl n a).1 ∧ true = (cQ fl n a).2.1 ∧ a = (cQ fl n a).2.2 := by rw [yp h]; exact ⟨rfl, rfl, rfl⟩
theorem Ng {b : List Int} (h : iD fl = true) (hx : H9 fl n a b) (e : dW fl b n < 0) : 0 = (cQ fl n a).1 ∧ false = (cQ fl n a).2.1 ∧ b = (cQ fl n a).2.2 := by rw [nj h, hx.done e]; exact ⟨rfl, rfl, rfl⟩
theorem NY {b : List Int} (h : iD fl = true) (hx : H9 fl n a b) (e : ¬ dW fl b n < 0) (e2 : eP fl b n (cM fl b (dW fl b n)) < 0) : dW fl b n = (cQ fl n a).1 ∧ true = (cQ fl n a).2.1 ∧ b = (cQ fl n a).2.2 := by rw [nj h, hx.stuck e e2]; exact ⟨rfl, rfl, rfl⟩
theorem Pu (h : xS fl a) : H9 fl n a a := ⟨h, rfl⟩
theorem K0 {x z : Int} (h1 : 0 < x) (h2 : z < 0) : 0 < min x (-z) := by omega
theorem has_eq : fidx (fun v : Int => decide (v > 0)) (gQ fl a n) = dW fl a n := rfl
theorem HV (m x : Int) : fk m [x] = min m x := rfl
theorem vu {m : Int} {l : List Way} {w : Way} : fk (e9 fl a m l) [w.room fl a] = e9 fl a m (l ++ [w]) := (HV _ _).trans (q5 m l).symm
theorem Ek {k : Int} (h : 0 ≤ k ∧ k < n) : nth (gQ fl a n) k.toNat = over fl a k := by rw [s9 (by omega)]; congr 1; omega
theorem I4 {x : Int} (h : -20000 ≤ x ∧ x ≤ 20000) : IntKind.i64.wrap (0 - x) = -x := by rw [show (0 : Int) - x = -x by omega]; exact IntWalk.i64_in _ (by omega)
end
attribute [local irreducible] aQ gZ Way.hH Way.fin Way.room eR dr ep gQ over bK cM dW eP jj e9 hO kP cQ gK fk
attribute [local irreducible] gA eU lH nR gy gl g5 gr g9 nU gx nZ dN fS nJ ff nQ nth fI dQ au dK bodyPost Exit.then Exit.inBlock Code.wp Code.wpIn nY gm oC n9 g7 eM cJ cH bodyPostM dP
set_option maxRecDepth 100000 in
theorem Kk (f : bu) : dK Tryz.prog 177 [Ty.agg (dg.tys f)] (Ty.bool (decide (f.lo ≤ f.hi))) := by
 refine ah Tryz.func177 rfl (by decide) Tryz.ntmps177 (by exact Nat.le_of_ble_eq_true rfl) fun w0 M0 => ?_
 refine aE (aA (bD rfl (dA rfl (aD (aC (aE (aA ?_)))))))
 refine aH rfl rfl rfl rfl rfl (by decide) ?_
 refine aI rfl rfl rfl rfl ?_
 refine aH rfl rfl rfl rfl rfl (by decide) ?_
 refine aI rfl rfl rfl rfl (bB rfl rfl rfl (dA rfl (aD (aC (ay (bP rfl rfl ?_))))))
 all_goals exact b9 rfl rfl
set_option maxRecDepth 100000 in
theorem KR (v : Int) : dK Tryz.prog 179 [Ty.int .i64 v] (Ty.bool (decide (v > 0))) := by
 refine ah Tryz.func179 rfl (by decide) Tryz.ntmps179 (by exact Nat.le_of_ble_eq_true rfl) fun w0 M0 => ?_
 refine aE (aA (dA rfl (aD (aC (aE (aA (bG rfl (bB rfl rfl rfl (dA rfl ?_)))))))))
 refine aD (aC (ay (bP rfl rfl ?_)))
 all_goals exact b9 rfl rfl
set_option maxRecDepth 100000 in
theorem Kt (y : ak) (fl : List bu) (a : List Int) (h : J0 y fl a) : eM Tryz.prog 129 [1000] [(1000, Cont.vec cy 3 a)] [Ty.pp (eF y fl 1000 fl.length)] [(1000, Cont.vec cy 3 (cQ fl (y.cells + 1) a).2.2)] (Ty.kY [Ty.int .i64 (cQ fl (y.cells + 1) a).1, Ty.bool (cQ fl (y.cells + 1) a).2.1]) := by
 refine fL Tryz.func129 rfl (by decide) Tryz.ntmps129 (by exact Nat.le_of_ble_eq_true rfl) fun w0 M0 => ?_
 have hcl := mm h.right
 have hfl := h.qb
 have hN := h.net
 refine aE (aA (bk rfl (dA rfl (aD (aC (aE (aE (aA (jo rfl ?_)))))))))
 refine bq rfl ?_
 refine aH rfl rfl rfl rfl rfl (by decide) ?_
 refine aI rfl rfl rfl rfl ?_
 refine af (BX fl (Ty.ju _ []) rfl (fun f => decide (f.lo ≤ f.hi)) rfl rfl fun f _ => dS (Kk f) rfl rfl rfl rfl rfl rfl) rfl rfl rfl rfl rfl ?_
 refine eN rfl (aD (aC ?_))
 refine cI rfl (fun hc1 => ?_) (fun hc1 => ?_)
 ·
  refine aE (aA (bk rfl (dA rfl (aD (aC (ay (aS ?_)))))))
  refine Ah [1000] rfl rfl rfl (by decide) ?_ ?_ ?_
  ·exact eC rfl (bh (by decide) (N1 (Ab hc1)).2.2) gE
  all_goals skip
  all_goals first | exact iO (oq rfl rfl (congrArg (Ty.int .i64) (N1 (Ab hc1)).1)) | exact iO (oq rfl rfl (congrArg Ty.bool (N1 (Ab hc1)).2.1))
 refine aq (aC (aZ ?_))
 refine cF (fun (x : {b : List Int // H9 fl (y.cells + 1) a b}) => live [(0, Ty.pp (eF y fl 1000 fl.length))] [(1000, Cont.vec cy 3 x.1)]) (fun x => O3 fl (y.cells + 1) x.1) (⟨a, Pu (h.inb (nv hc1))⟩) ?_ fun x => ?_
 ·(refine cx.mk' ?_ ?_ <;> (repeat' (first | exact aJ | exact aK | refine aB ?_ (Ty.aU _) | refine aB ?_ (Ty.aF _) | refine aG rfl (Cont.aF _) ?_)))
 have hF : lN y fl x.1 := ⟨h.right, h.net, h.bd, x.2.inb, h.qb⟩
 have hal := hF.inb.1
 have hov := Ia h.qb fun i hi => (hF.N9 hi).1
 have hol : (gQ fl x.1 (y.cells + 1)).length = (y.cells + 1) := zG
 refine aZ (aE (aA (jo rfl ?_)))
 refine dI [(1000, 1000)] [] [(1000, Cont.vec cy 3 x.1)] (Np y fl x.1 hF) rfl rfl (aM bU (e8 (aM (aM (aM (aM (aM (aM bU (dZ (by exact List.mem_cons_self))) (aT rfl rfl)) (aT rfl rfl)) (aT rfl rfl)) (aT rfl rfl)) (aT rfl rfl)))) (cz (a := 1000) (b := 1000) (by exact List.mem_cons_self) rfl (bh (by exact List.mem_cons_self) rfl) pre_nil) (bg (a := 1000) (b := 1000) (by decide) rfl (bh (by decide) rfl) post_nil) (aT rfl rfl) ?_
 refine Ez rfl (aD (aC (aE (aA (fN rfl ?_)))))
 refine af (uh (gQ fl x.1 (y.cells + 1)) (Ty.ju _ []) rfl (fun v => decide (v > 0)) rfl rfl fun v _ => dS (KR v) rfl rfl rfl rfl rfl rfl) rfl rfl rfl rfl rfl ?_
 refine bk rfl (aD (aC (aE (aE ?_))))
 refine iV (s := 5) rfl (Ty.bE (has_eq (fl := fl) (a := x.1) (n := (y.cells + 1)))) ?_
 refine aA (bG rfl (bB rfl rfl rfl (aD (aC ?_))))
 refine aj rfl (fun hc2 => ?_) (fun hc2 => ?_)
 ·
  refine aE (aA (bk rfl (dA rfl (aD (aC (ay (aS (bC (aS ?_)))))))))
  refine bC ?_
  refine Ah [1000] rfl rfl rfl (by decide) ?_ ?_ ?_
  ·exact eC rfl (bh (by decide) (Ng (nv hc1) x.2 hc2).2.2) gE
  all_goals skip
  all_goals first | exact iO (oq rfl rfl (congrArg (Ty.int .i64) (Ng (nv hc1) x.2 hc2).1)) | exact iO (oq rfl rfl (congrArg Ty.bool (Ng (nv hc1) x.2 hc2).2.1))
 refine aq (aC (aE ?_))
 obtain ⟨s, s1, s2, s3⟩ := wA hc2
 have hs : 0 ≤ (dW fl x.1 (y.cells + 1)) ∧ (dW fl x.1 (y.cells + 1)) < ((y.cells + 1) : Nat) := by omega
 refine aA (jo rfl (bG rfl ?_))
 refine dI (res' := Ty.mp 32) [(1000, 1000), (32, 16)] [32] [(1000, Cont.vec cy 3 x.1), (32, Cont.mp KI.enc zY (cM fl x.1 (dW fl x.1 (y.cells + 1))))] (MO y fl x.1 hF (dW fl x.1 (y.cells + 1)) hs) rfl rfl (aM (aM bU (aT rfl rfl)) (e8 (aM (aM (aM (aM (aM (aM bU (dZ (by exact List.mem_cons_self))) (aT rfl rfl)) (aT rfl rfl)) (aT rfl rfl)) (aT rfl rfl)) (aT rfl rfl)))) (cz (a := 1000) (b := 1000) (by exact List.mem_cons_self) rfl (bh (by exact List.mem_cons_self) rfl) pre_nil) (bg (a := 1000) (b := 1000) (by decide) rfl (bh (by decide) rfl) (bg (a := 32) (b := 16) (by decide) rfl (Mu (by decide) rfl) post_nil)) (Mb (by decide)) ?_
 refine Pe rfl (aD (aC (aE (aA (bk rfl (aD (aC ?_)))))))
 refine mJ (J := live [(0, Ty.pp (eF y fl 1000 fl.length)), (4, Ty.sl cy (gQ fl x.1 (y.cells + 1))), (5, Ty.int .i64 (dW fl x.1 (y.cells + 1))), (6, Ty.mp 32), (7, Ty.int .i64 (eP fl x.1 (y.cells + 1) (cM fl x.1 (dW fl x.1 (y.cells + 1)))))] [(1000, Cont.vec cy 3 x.1), (32, Cont.mp KI.enc zY (cM fl x.1 (dW fl x.1 (y.cells + 1))))]) ?_ ?_
 ·
  refine aE (aA (fN rfl (cK rfl rfl rfl (bG rfl (aD (aC (aZ ?_)))))))
  refine cF (fun (j : {j : Nat // j ≤ (y.cells + 1) ∧ ∀ i, i < j → jj fl x.1 (cM fl x.1 (dW fl x.1 (y.cells + 1))) i = false}) => live [(0, Ty.pp (eF y fl 1000 fl.length)), (4, Ty.sl cy (gQ fl x.1 (y.cells + 1))), (5, Ty.int .i64 (dW fl x.1 (y.cells + 1))), (6, Ty.mp 32), (7, Ty.int .i64 (-1)), (32, Ty.sl cy (gQ fl x.1 (y.cells + 1))), (33, Ty.int .i64 (gQ fl x.1 (y.cells + 1)).length), (34, Ty.int .i64 (j.1 : Nat))] [(1000, Cont.vec cy 3 x.1), (32, Cont.mp KI.enc zY (cM fl x.1 (dW fl x.1 (y.cells + 1))))]) (fun j => (y.cells + 1) - j.1) (⟨0, Nat.zero_le _, fun i hi => absurd hi (Nat.not_lt_zero i)⟩) ?_ fun j => ?_
  ·(refine cx.mk' ?_ ?_ <;> (repeat' (first | exact aJ | exact aK | refine aB ?_ (Ty.aU _) | refine aB ?_ (Ty.aF _) | refine aG rfl (Cont.aF _) ?_)))
  have hj := j.2.1
  refine aE (aA (bB rfl rfl rfl (aD (aC (aE ?_)))))
  refine aj rfl (fun hc3 => ?_) (fun hc3 => ?_)
  ·
   refine aq (aC (aE (aZ (aE (aA (bG rfl ?_))))))
   refine av rfl rfl rfl rfl rfl rfl (by omega) ?_
   refine aI rfl rfl rfl rfl (bk rfl (bk rfl (aD (aC (aE (aA (JE rfl (bG rfl ?_))))))))
   refine y5 KI (k := ((j.1 : Nat) : Int)) (z0 := (default : Way)) rfl rfl (by decide) rfl (uZ _) nS sW oa ?_
   refine uH rfl (bQ rfl rfl (bQ rfl rfl ?_))
   refine bp rfl (by exact List.cons_ne_nil _ _) rfl ?_
   refine bZ rfl rfl (by decide) rfl rfl rfl rfl rfl rfl ?_
   refine dA rfl (aD (aC (aE (aA (fB rfl (fB rfl ?_))))))
   apply aN (s := 46) rfl rfl rfl
   ·intro hg; apply aO; (refine bG rfl ?_); refine aD ?_; exact rfl
   ·exact rfl
   ·exact rfl
   apply aN (s := 46) rfl rfl rfl
   ·intro hg; apply aL (s := 47) rfl (by (rw [hg]; rfl)); apply aO; (refine bB rfl rfl rfl ?_); refine aD ?_; exact rfl
   ·exact rfl
   ·exact rfl
   refine dy rfl rfl (aD (aC ?_))
   refine cI rfl (fun hc4 => ?_) (fun hc4 => ?_)
   ·
    refine aE (aA (bG rfl (bk rfl (aD (aC (cE (gD rfl (aP (aP ?_)))))))))
    refine aa rfl (fJ ?_)
    (refine cx.mk' ?_ ?_ <;> (repeat' (first | exact aJ | exact aK | refine aB ?_ (Ty.aU _) | refine aB ?_ (Ty.aF _) | refine aG rfl (Cont.aF _) ?_ | refine aB ?_ ?_)))
    all_goals exact Ty.bE (L8 (by omega) j.2.2 (by rw [← A7 (n := (y.cells + 1)) (by omega)]; exact hc4))
   refine aq (bI (aC (aA ?_)))
   refine cA rfl rfl (by omega) (by omega) ?_
   refine bG rfl (aD ?_)
   refine bO (⟨j.1 + 1, by omega, fun i hi => by by_cases e : i = j.1; (subst e; rw [← A7 (n := (y.cells + 1)) (by omega)]; exact hc4); exact j.2.2 i (by omega)⟩) ?_ (by show (y.cells + 1) - (j.1 + 1) < (y.cells + 1) - j.1; omega)
   (refine cx.mk' ?_ ?_ <;> (repeat' (first | exact aJ | exact aK | refine aB ?_ (Ty.aU _) | refine aB ?_ (Ty.aF _) | refine aG rfl (Cont.aF _) ?_)))
   all_goals skip
  refine cE (aP (aP (aa rfl (fJ ?_))))
  (refine cx.mk' ?_ ?_ <;> (repeat' (first | exact aJ | exact aK | refine aB ?_ (Ty.aU _) | refine aB ?_ (Ty.aF _) | refine aG rfl (Cont.aF _) ?_ | refine aB ?_ ?_)))
  all_goals exact Ty.bE (J4 (by omega) j.2.2)
 refine aE (aE (aA (bG rfl (bB rfl rfl rfl (aD (aC ?_))))))
 refine aj rfl (fun hc5 => ?_) (fun hc5 => ?_)
 ·
  refine aE (aA (bG rfl (bk rfl (dA rfl (aD (aC (ay (aS (bC ?_)))))))))
  refine aS (bC ?_)
  refine Ah [1000] rfl rfl rfl (by decide) ?_ ?_ ?_
  ·exact eC rfl (bh (by decide) (NY (nv hc1) x.2 hc2 hc5).2.2) gE
  all_goals skip
  all_goals first | exact iO (oq rfl rfl (congrArg (Ty.int .i64) (NY (nv hc1) x.2 hc2 hc5).1)) | exact iO (oq rfl rfl (congrArg Ty.bool (NY (nv hc1) x.2 hc2 hc5).2.1))
 refine aq (aC (aE ?_))
 obtain ⟨t, t1, t2, t3, t4⟩ := tD hc5
 have hnx := x.2.next hN hc2 hc5
 have hR := qp (a := x.1) hN hs
 obtain ⟨dep, d0, hd⟩ := hR.arc
 have hmet : xM (cM fl x.1 (dW fl x.1 (y.cells + 1))) (dW fl x.1 (y.cells + 1)) (eP fl x.1 (y.cells + 1) (cM fl x.1 (dW fl x.1 (y.cells + 1)))) := by rw [t2]; obtain ⟨v, hv⟩ := Option.isSome_iff_exists.1 t3; exact .inr (mP hv)
 have ht : 0 ≤ (eP fl x.1 (y.cells + 1) (cM fl x.1 (dW fl x.1 (y.cells + 1)))) ∧ (eP fl x.1 (y.cells + 1) (cM fl x.1 (dW fl x.1 (y.cells + 1)))) < ((y.cells + 1) : Nat) := by omega
 have ho1 := hov (dW fl x.1 (y.cells + 1))
 have ho2 := hov (eP fl x.1 (y.cells + 1) (cM fl x.1 (dW fl x.1 (y.cells + 1))))
 have hdq : dep (eP fl x.1 (y.cells + 1) (cM fl x.1 (dW fl x.1 (y.cells + 1)))) ≤ 21 := by
  obtain ⟨v, hv⟩ := Option.isSome_iff_exists.1 t3
  have h1 := (hd _ _ hv).2.2.2.2
  have h2 := hR.qb
  rw [t2]; omega
 refine aA (lq rfl (aD (aC (aE ?_))))
 have hoa := Ek (fl := fl) (a := x.1) (n := (y.cells + 1)) hs
 have hob := Ek (fl := fl) (a := x.1) (n := (y.cells + 1)) ht
 refine cP mixed rfl (fN rfl (bG rfl ?_))
 refine gC rfl rfl rfl rfl rfl rfl (by omega) (by omega) ?_
 refine aI rfl rfl rfl rfl (fN rfl (bG rfl ?_))
 refine gC rfl rfl rfl rfl rfl rfl (by omega) (by omega) ?_
 refine aI rfl rfl rfl rfl (PB rfl ?_)
 refine bW (E := cy) (xs := [_]) rfl rfl rfl rfl rfl (by decide) (by decide) (by repeat (first | exact (aV.nil : aV _ _ [] _) | (show aV _ _ ((_, _) :: _) _; apply aV.one; (· exact (rfl : _ = Ty.int _ _)); (· exact rfl)))) (by exact rfl) rfl ?_
 refine af (r5 _ _) rfl rfl rfl rfl rfl (bk rfl (aD ?_))
 refine ⟨by kernel_rfl, ?_⟩
 refine aC (aE (aE ?_))
 refine iV (s := 13) rfl (Ty.bE (by rw [hoa, hob, I4 (by omega), HV] : _ = (min (over fl x.1 (dW fl x.1 (y.cells + 1))) (-over fl x.1 (eP fl x.1 (y.cells + 1) (cM fl x.1 (dW fl x.1 (y.cells + 1)))))))) ?_
 refine aA (bG rfl (bk rfl (aD (aC (aZ ?_)))))
 refine cF (fun (p : {p : Int × List Way // L5 fl x.1 (cM fl x.1 (dW fl x.1 (y.cells + 1))) (dW fl x.1 (y.cells + 1)) (eP fl x.1 (y.cells + 1) (cM fl x.1 (dW fl x.1 (y.cells + 1)))) dep p}) => live [(0, Ty.pp (eF y fl 1000 fl.length)), (5, Ty.int .i64 (dW fl x.1 (y.cells + 1))), (6, Ty.mp 32), (12, Ty.row fm 199 81 p.1.2), (13, Ty.int .i64 (e9 fl x.1 (min (over fl x.1 (dW fl x.1 (y.cells + 1))) (-over fl x.1 (eP fl x.1 (y.cells + 1) (cM fl x.1 (dW fl x.1 (y.cells + 1)))))) p.1.2)), (14, Ty.int .i64 p.1.1)] [(1000, Cont.vec cy 3 x.1), (32, Cont.mp KI.enc zY (cM fl x.1 (dW fl x.1 (y.cells + 1))))]) (fun p => dep p.1.1) (⟨((eP fl x.1 (y.cells + 1) (cM fl x.1 (dW fl x.1 (y.cells + 1)))), []), Pm hmet⟩) ?_ fun p => ?_
 ·(refine cx.mk' ?_ ?_ <;> (repeat' (first | exact aJ | exact aK | refine aB ?_ (Ty.aU _) | refine aB ?_ (Ty.aF _) | refine aB ?_ Ty.gq | refine aG rfl (Cont.aF _) ?_ | refine aB ?_ ?_)))
  all_goals exact Ty.bE (wG _ _ _)
 have hpf := p.2.qb
 refine aE (aE (aA (bG rfl (bG rfl (bB rfl rfl rfl (aD (aC ?_)))))))
 refine dH rfl (fun hc6 => ?_) (fun hc6 => ?_)
 ·
  refine aq (aC (aE (aZ (aE ?_))))
  have hpx := p.2.next hd hc6
  have hpo := hpx.2.2
  refine aA (GR rfl (JE rfl (bG rfl ?_)))
  refine wv KI (k := p.1.1) (z0 := (default : Way)) rfl rfl (by decide) rfl (uZ _) nS sW oa ?_
  refine bW (E := fm) (xs := [jv (cM fl x.1 (dW fl x.1 (y.cells + 1))) p.1.1]) rfl rfl rfl rfl rfl (by decide) (by decide) (by repeat (first | exact (aV.nil : aV _ _ [] _) | (show aV _ _ ((_, _) :: _) _; apply aV.agg; (· exact (rfl : _ = Ty.agg _))))) (by exact rfl) rfl ?_
  refine dw rfl rfl (by decide) rfl rfl rfl rfl rfl rfl (by decide) (by (simp <;> omega)) (by (simp <;> omega)) ?_
  refine Aj rfl (aD (aC (aE (aA (jo rfl (JE rfl (bG rfl ?_)))))))
  refine wv KI (k := p.1.1) (z0 := (default : Way)) rfl rfl (by decide) rfl (uZ _) nS sW oa ?_
  refine eI [1000] (E5 y fl x.1 hF (jv (cM fl x.1 (dW fl x.1 (y.cells + 1))) p.1.1) hpo.1) rfl (aW (kN (aW (bT (bR rfl rfl)) (aW (bT (bR rfl rfl)) (aW (bT (bR rfl rfl)) (aW (bT (bR rfl rfl)) (aW (bT (bR rfl rfl)) (aW (jV rfl hal (by decide) rfl) cN))))))) (aW (bT (bR rfl rfl)) cN)) (by exact p4 (by repeat (first | exact qA | refine nx (by exact dX _ _) ?_))) ?_
  refine uH rfl (bQ rfl rfl (bQ rfl rfl (bk rfl (bk rfl (aD (aC (aA (bG rfl (bG rfl ?_)))))))))
  refine bW (E := cy) (xs := [_]) rfl rfl rfl rfl rfl (by decide) (by decide) (by repeat (first | exact (aV.nil : aV _ _ [] _) | (show aV _ _ ((_, _) :: _) _; apply aV.one; (· exact (rfl : _ = Ty.int _ _)); (· exact rfl)))) (by exact rfl) rfl ?_
  refine af (r5 _ _) rfl rfl rfl rfl rfl (bk rfl (aD (bI (aC (aA (jo rfl (JE rfl (bG rfl ?_))))))))
  refine wv KI (k := p.1.1) (z0 := (default : Way)) rfl rfl (by decide) rfl (uZ _) nS sW oa ?_
  refine eI [1000] (Ag y fl x.1 (jv (cM fl x.1 (dW fl x.1 (y.cells + 1))) p.1.1) hpo.1) rfl (aW (kN (aW (bT (bR rfl rfl)) (aW (bT (bR rfl rfl)) (aW (bT (bR rfl rfl)) (aW (bT (bR rfl rfl)) (aW (bT (bR rfl rfl)) (aW (jV rfl hal (by decide) rfl) cN))))))) (aW (bT (bR rfl rfl)) cN)) (by exact dX _ _) ?_
  refine bk rfl (aD ?_)
  refine bO (⟨((jv (cM fl x.1 (dW fl x.1 (y.cells + 1))) p.1.1).hH fl, p.1.2 ++ [jv (cM fl x.1 (dW fl x.1 (y.cells + 1))) p.1.1]), (p.2.next hd hc6).1⟩) ?_ (by exact (p.2.next hd hc6).2.1)
  (refine cx.mk' ?_ ?_ <;> (repeat' (first | exact aJ | exact aK | refine aB ?_ (Ty.aU _) | refine aB ?_ (Ty.aF _) | refine aG rfl (Cont.aF _) ?_ | refine aB ?_ ?_)))
  all_goals skip
  all_goals exact Ty.bE vu
 refine cE (aP (aP (aa rfl (aC ?_))))
 have hmp := p6 (fl := fl) (a := x.1) (m := (min (over fl x.1 (dW fl x.1 (y.cells + 1))) (-over fl x.1 (eP fl x.1 (y.cells + 1) (cM fl x.1 (dW fl x.1 (y.cells + 1))))))) (K0 (by rw [s2]; exact s3) (by rw [t2]; exact t4)) p.1.2 p.2.inv.ways
 have hml := (sF (fl := fl) (a := x.1) (min (over fl x.1 (dW fl x.1 (y.cells + 1))) (-over fl x.1 (eP fl x.1 (y.cells + 1) (cM fl x.1 (dW fl x.1 (y.cells + 1)))))) p.1.2).1
 refine kK (tg := 81) [(12, Ty.sl fm p.1.2)] (by decide) rfl ⟨vF rfl, trivial⟩ ?_
 refine aA (jo rfl (fN rfl (bG rfl ?_)))
 refine dI [(1000, 1000)] [] [(1000, Cont.vec cy 3 (dr x.1 p.1.2 (e9 fl x.1 (min (over fl x.1 (dW fl x.1 (y.cells + 1))) (-over fl x.1 (eP fl x.1 (y.cells + 1) (cM fl x.1 (dW fl x.1 (y.cells + 1)))))) p.1.2)))] (HK y fl x.1 hF p.1.2 (by omega) (fun w hw => (p.2.inv.ways w hw).1) (e9 fl x.1 (min (over fl x.1 (dW fl x.1 (y.cells + 1))) (-over fl x.1 (eP fl x.1 (y.cells + 1) (cM fl x.1 (dW fl x.1 (y.cells + 1)))))) p.1.2) (by omega)) rfl rfl (aM (aM (aM bU (aT rfl rfl)) (aT rfl rfl)) (e8 (aM (aM (aM (aM (aM (aM bU (dZ (by exact List.mem_cons_self))) (aT rfl rfl)) (aT rfl rfl)) (aT rfl rfl)) (aT rfl rfl)) (aT rfl rfl)))) (cz (a := 1000) (b := 1000) (by exact List.mem_cons_self) rfl (bh (by exact List.mem_cons_self) rfl) pre_nil) (bg (a := 1000) (b := 1000) (by decide) rfl (bh (by decide) rfl) post_nil) (aT rfl rfl) ?_
 refine aD (bI ?_)
 refine bO (⟨kP fl x.1 (dW fl x.1 (y.cells + 1)) (eP fl x.1 (y.cells + 1) (cM fl x.1 (dW fl x.1 (y.cells + 1)))), hnx.1⟩) ?_ (by exact hnx.2.less)
 (refine cx.mk' ?_ ?_ <;> (repeat' (first | exact aJ | exact aK | refine aB ?_ (Ty.aU _) | refine aB ?_ (Ty.aF _) | refine aG rfl ?_ ?_)))
 all_goals skip
 all_goals exact Cont.cr (ID (p.2.end hc6))
end Go.Proofs.YtelbollidfdcjaaGreat
namespace Go.Proofs.YtelbollidfdcjaaGreat
open Go Go.T
section
variable {fl : List bu} {a : List Int} {n : Nat} {G : Nat → Int} {x : Lp}
structure rI (fl : List bu) (a : List Int) (n : Nat) (G : Nat → Int) (x : Lp) : Prop where
  inv : lp fl a n G x
  same : mZ (mH fl a n G) x = iZ fl a n G
theorem QA (hn : 0 < n) : rI fl a n G ⟨0, 0, 0, NX n⟩ := ⟨Ml hn, rfl⟩
theorem rI.r (h : rI fl a n G x) : ¬ n ≤ x.r := by have := h.inv.r; omega
theorem rI.round (h : rI fl a n G x) (hc : n ≤ x.c) (ha : ¬ x.st.at_ < 0) : rI fl a n G ⟨x.r + 1, 0, 0, ⟨x.st.worth, x.st.by_, -1⟩⟩ :=
 ⟨h.inv.round hc (fun e => ha (by rw [h.inv.last e]; decide)), by rw [← iB (uS h.r hc ha)]; exact h.same⟩
theorem rI.stop (h : rI fl a n G x) (hc : n ≤ x.c) (ha : x.st.at_ < 0) : cL fl a n G = [] := by
 refine uB ?_
 rw [← h.same]; exact iQ (vY h.r hc ha)
theorem rI.cell (h : rI fl a n G x) (hc : ¬ n ≤ x.c) (hj : (bK fl a x.c).length ≤ x.j) : rI fl a n G ⟨x.r, x.c + 1, 0, x.st⟩ :=
 ⟨h.inv.cell hc hj, by rw [← iB (vN h.r hc hj)]; exact h.same⟩
theorem rI.no (h : rI fl a n G x) (hc : ¬ n ≤ x.c) (hj : ¬ (bK fl a x.c).length ≤ x.j) (hg : k8 fl G x.st x.c (nth (bK fl a x.c) x.j) = false) : rI fl a n G ⟨x.r, x.c, x.j + 1, x.st⟩ :=
 ⟨h.inv.no hc hj hg, by rw [← iB (Bh h.r hc hj hg)]; exact h.same⟩
theorem rI.yes (hN : Net fl n) (hG : ∀ i, -1 ≤ G i ∧ G i ≤ 1) (h : rI fl a n G x) (hc : ¬ n ≤ x.c) (hj : ¬ (bK fl a x.c).length ≤ x.j) (hg : k8 fl G x.st x.c (nth (bK fl a x.c) x.j) = true) (hr : ¬ x.r + 1 = n) : rI fl a n G ⟨x.r, x.c, x.j + 1, lf fl G x.st x.c (nth (bK fl a x.c) x.j)⟩ :=
 ⟨h.inv.yes hN hG hc hj hg hr, by rw [← iB (yO h.r hc hj hg hr)]; exact h.same⟩
structure Found (fl : List bu) (a : List Int) (n : Nat) (G : Nat → Int) (st : rS) (v : Nat) : Prop where
  found : ∃ R T τ, Gh fl a n G (n - 1) st R T τ ∧ v < n ∧ R v = n
  at_ : st.at_ = v
  same : cL fl a n G = oy fl st (fO (cD fl st) n v)
  len : st.by_.length = n
theorem rI.last (hN : Net fl n) (hG : ∀ i, -1 ≤ G i ∧ G i ≤ 1) (h : rI fl a n G x) (hc : ¬ n ≤ x.c) (hj : ¬ (bK fl a x.c).length ≤ x.j) (hg : k8 fl G x.st x.c (nth (bK fl a x.c) x.j) = true) (hr : x.r + 1 = n) :
    ∃ v : Nat, Found fl a n G (lf fl G x.st x.c (nth (bK fl a x.c) x.j)) v := by
  have h1 := h.inv.found hN hG hc hj hg hr
  have h2 : iZ fl a n G = some (lf fl G x.st x.c (nth (bK fl a x.c) x.j)) := by
    rw [← h.same]; exact iQ (wq h.r hc hj hg hr)
  cases h1 with
  | some _ R T τ v h3 hv e hR =>
    refine ⟨v, ⟨R, T, τ, h3, hv, hR⟩, e, ?_, h3.len.2⟩
    rw [tw h2, e, Int.toNat_natCast]
theorem lp.small (h : lp fl a n G x) (hn : n ≤ 21) (hl : fl.length ≤ 34) : x.st.worth.length = n ∧ x.st.by_.length = n ∧ ∀ v, v < n → 0 ≤ nth x.st.worth v ∧ nth x.st.worth v ≤ 40000 := by
 obtain ⟨R, T, τ, h1, h2, _⟩ := h.gh
 refine ⟨h1.len.1, h1.len.2, fun v hv => ?_⟩
 have h3 := h1.le v hv
 have h4 := h.r
 have h5 := h.c
 have h6 := h.j.1
 have e1 : x.r * (n * (2 * fl.length)) ≤ 21 * (21 * 68) := Nat.mul_le_mul (by omega) (Nat.mul_le_mul hn (by omega))
 have e2 : x.c * (2 * fl.length) ≤ 21 * 68 := Nat.mul_le_mul (by omega) (by omega)
 omega
variable {st : rS} {v s p : Nat}
theorem Found.chain (hN : Net fl n) (h : Found fl a n G st v) {k : Nat} (hk : k < n) : fO (cD fl st) k v < n ∧ Open fl a (nth st.by_ (fO (cD fl st) k v)) ∧ (nth st.by_ (fO (cD fl st) k v)).hH fl = (fO (cD fl st) (k + 1) v : Nat) := by
 obtain ⟨R, T, τ, h1, h2, h3⟩ := h.found
 obtain ⟨a1, a2⟩ := AT hN h1 h2 h3 k (by omega)
 obtain ⟨b1, _⟩ := h1.way _ a1 (by omega)
 refine ⟨a1, b1, ?_⟩
 have := (hN.way b1.1).1
 show _ = ((((nth st.by_ (fO (cD fl st) k v)).hH fl).toNat : Nat) : Int)
 omega
structure Mm (fl : List bu) (a : List Int) (n : Nat) (st : rS) (s p : Nat) (x : Nat × List Way) : Prop where
  at_ : x.1 < n ∧ Open fl a (nth st.by_ x.1) ∧ (nth st.by_ x.1).hH fl = (cD fl st x.1 : Nat)
  ix : ∃ i, i ≤ p ∧ x.1 = fO (cD fl st) i s ∧ x.2.length = i
  same : mZ (B0 fl st s) x = oy fl st s
theorem OJ.hH {T : Nat → Nat} (hN : Net fl n) (h : OJ fl a n G st T s) (t : Nat) : fO (cD fl st) t s < n ∧ Open fl a (nth st.by_ (fO (cD fl st) t s)) ∧ (nth st.by_ (fO (cD fl st) t s)).hH fl = (cD fl st (fO (cD fl st) t s) : Nat) := by
 refine ⟨h.at_ t, (h.way t).1, ?_⟩
 have := (hN.way (h.way t).1.1).1
 show _ = ((((nth st.by_ (fO (cD fl st) t s)).hH fl).toNat : Nat) : Int)
 omega
theorem DM {x : Nat × List Way} (h : ¬ (¬ x.2 = [] ∧ x.1 = s)) : B0 fl st s x = .inl (cD fl st x.1, x.2 ++ [nth st.by_ x.1]) := if_neg h
theorem DZ {x : Nat × List Way} (h : ¬ x.2 = [] ∧ x.1 = s) : B0 fl st s x = .inr x.2 := if_pos h
theorem Mm.next {T : Nat → Nat} (hN : Net fl n) (hC : OJ fl a n G st T s) (hp : fO (cD fl st) p s = s) (hp1 : 1 ≤ p) {x : Nat × List Way} (h : Mm fl a n st s p x) (hc : ¬ (¬ x.2 = [] ∧ x.1 = s)) :
 Mm fl a n st s p (cD fl st x.1, x.2 ++ [nth st.by_ x.1]) ∧ x.2.length < p := by
 obtain ⟨i, h1, h2, h3⟩ := h.ix
 have hi : i < p := by
  by_cases e : i = p
  ·exfalso; apply hc
   subst e
   exact ⟨fun e => by rw [e] at h3; simp at h3; omega, h2.trans hp⟩
  omega
 have e : cD fl st x.1 = fO (cD fl st) (i + 1) s := by rw [h2]; rfl
 refine ⟨⟨?_, ⟨i + 1, hi, e, by rw [List.length_append, h3]; rfl⟩, ?_⟩, by omega⟩
 ·show cD fl st x.1 < n ∧ Open fl a (nth st.by_ (cD fl st x.1)) ∧ _ = ((cD fl st (cD fl st x.1) : Nat) : Int)
  rw [e]; exact hC.hH hN (i + 1)
 rw [← iB (DM hc)]; exact h.same
theorem Mm.end {x : Nat × List Way} (h : Mm fl a n st s p x) (hc : ¬ x.2 = [] ∧ x.1 = s) : x.2 = oy fl st s := by
 rw [← h.same]; exact (iQ (DZ hc)).symm
theorem Found.QW (hN : Net fl n) (h : Found fl a n G st v) : ∃ T p, OJ fl a n G st T (fO (cD fl st) n v) ∧ 1 ≤ p ∧ p ≤ n ∧ fO (cD fl st) p (fO (cD fl st) n v) = fO (cD fl st) n v ∧ Mm fl a n st (fO (cD fl st) n v) p (fO (cD fl st) n v, []) := by
 obtain ⟨R, T, τ, h1, h2, h3⟩ := h.found
 have hC := I1 hN h1 h2 h3
 obtain ⟨p, p1, p2, p3⟩ := hC.back
 exact ⟨T, p, hC, p1, p2, p3, ⟨hC.hH hN 0, ⟨0, Nat.zero_le _, rfl, rfl⟩, rfl⟩⟩
structure Nl (fl : List bu) (n : Nat) (G : Nat → Int) (a b : List Int) : Prop where
  feas : gX fl n b
  same : mZ (stepG fl n G) b = gV fl n G a
theorem Cy {b : List Int} (e : cL fl b n G = []) : stepG fl n G b = .inr b := if_pos e
theorem Dn {b : List Int} (e : ¬ cL fl b n G = []) : stepG fl n G b = .inl (dr b (cL fl b n G) (e9 fl b 300 (cL fl b n G))) := if_neg e
theorem Nl.done {b : List Int} (h : Nl fl n G a b) (e : cL fl b n G = []) : b = gV fl n G a := by
 rw [← h.same]; exact (iQ (Cy e)).symm
theorem Nl.next {b : List Int} (hN : Net fl n) (hn : 0 < n) (hB : Bd fl) (hG : ∀ i, -1 ≤ G i ∧ G i ≤ 1) (h : Nl fl n G a b) (e : ¬ cL fl b n G = []) :
 Nl fl n G a (dr b (cL fl b n G) (e9 fl b 300 (cL fl b n G))) ∧ (300 * fl.length - k7 fl G (dr b (cL fl b n G) (e9 fl b 300 (cL fl b n G)))).toNat < (300 * fl.length - k7 fl G b).toNat ∧ ES fl b n G (cL fl b n G) := by
 rcases tq (a := b) hN hn hG with ⟨e', _⟩ | hc
 ·exact absurd e' e
 have hb := uF h.feas hc
 refine ⟨⟨hb.feas, ?_⟩, ?_, hc⟩
 ·rw [← h.same]; exact (iB (Dn e)).symm
 have h1 := hb.more
 have h2 := Ey hB hb.feas.1 hG
 omega
end
def ij (has : Nat → Bool) (x : List Int) (k : Nat) : Int := cw (fun i => if has i = true then nth x i else 0) k
theorem GZ {has : Nat → Bool} {x : List Int} {k : Nat} (h : has k = true) : ij has x k + nth x k = ij has x (k + 1) := by
 show _ = ij has x k + (if _ then _ else _); rw [if_pos h]
theorem KJ {has : Nat → Bool} {x : List Int} {k : Nat} (h : has k = false) : ij has x k = ij has x (k + 1) := by
 show _ = ij has x k + (if _ then _ else _); rw [if_neg (by rw [h]; decide)]; omega
theorem G2 {has : Nat → Bool} {x : List Int} {k : Nat} (h : ∀ i, i < k → 0 ≤ nth x i ∧ nth x i ≤ 300) : -(300 * (k : Int)) ≤ ij has x k ∧ ij has x k ≤ 300 * k := by
 refine pI (b := 300) fun i hi => ?_
 have := h i hi
 split <;> omega
theorem KH {has : Nat → Bool} {less : Bool} {i : Nat} (h : has i = false) : cq has less i = 0 := by unfold cq; rw [h]; cases less <;> rfl
theorem x7 {has : Nat → Bool} {less : Bool} {i : Nat} (h : has i = true) : cq has less i = if less = true then -1 else 1 := by unfold cq; rw [h]; cases less <;> rfl
theorem Lh {has : Nat → Bool} {less : Bool} {w : Way} (h : has w.ix = false) : 0 = fo (cq has less) w := by
 unfold fo xO; rw [KH h]; cases w.more <;> rfl
theorem LQ {has : Nat → Bool} {less : Bool} {w : Way} (h : has w.ix = true) (e : w.more ≠ less) : 1 = fo (cq has less) w := by
 unfold fo xO; rw [x7 h]
 cases hm : w.more <;> cases hl : less <;> first | rfl | exact absurd (hm.trans hl.symm) e
theorem MH {has : Nat → Bool} {less : Bool} {w : Way} (h : has w.ix = true) (e : w.more = less) : -1 = fo (cq has less) w := by
 unfold fo xO; rw [x7 h, e]
 cases less <;> rfl
end Go.Proofs.YtelbollidfdcjaaGreat
namespace Go.Proofs.YtelbollidfdcjaaGreat
open Go Go.T
set_option maxHeartbeats 16000000
theorem Ox : Tryz.prog.underlying 4 = some .bool := Tryz.underlying4
section
variable {fl : List bu} {a : List Int} {n : Nat} {G : Nat → Int} {st : rS} {r c j : Nat} {w : Way}
def nE (fl : List bu) (G : Nat → Int) (st : rS) (c : Nat) (w : Way) : rS := if k8 fl G st c w = true then lf fl G st c w else st
theorem qI (h : nth st.worth c + fo G w > nth st.worth (w.fin fl).toNat) : nE fl G st c w = lf fl G st c w := if_pos (decide_eq_true h)
theorem sP (h : ¬ nth st.worth c + fo G w > nth st.worth (w.fin fl).toNat) : nE fl G st c w = st := if_neg (by rw [show k8 fl G st c w = false from decide_eq_false h]; decide)
theorem rI.Nj (hN : Net fl n) (hG : ∀ i, -1 ≤ G i ∧ G i ≤ 1) (h : rI fl a n G ⟨r, c, j, st⟩) (hc : c < n) (hj : j < (bK fl a c).length) (hg : nth st.worth c + fo G (nth (bK fl a c) j) > nth st.worth ((nth (bK fl a c) j).fin fl).toNat) (hr : ¬ (r : Int) = n - 1) : rI fl a n G ⟨r, c, j + 1, nE fl G st c (nth (bK fl a c) j)⟩ := by
 rw [qI hg]; exact h.yes hN hG (Nat.not_le.2 hc) (Nat.not_le.2 hj) (decide_eq_true hg) (by show ¬ r + 1 = n; intro e; apply hr; rw [← e]; show (r : Int) = ((r + 1 : Nat) : Int) - 1; omega)
theorem rI.O2 (h : rI fl a n G ⟨r, c, j, st⟩) (hc : c < n) (hj : j < (bK fl a c).length) (hg : ¬ nth st.worth c + fo G (nth (bK fl a c) j) > nth st.worth ((nth (bK fl a c) j).fin fl).toNat) : rI fl a n G ⟨r, c, j + 1, nE fl G st c (nth (bK fl a c) j)⟩ := by
 rw [sP hg]; exact h.no (Nat.not_le.2 hc) (Nat.not_le.2 hj) (decide_eq_false hg)
theorem PF (h : nth st.worth c + fo G w > nth st.worth (w.fin fl).toNat) : st.worth.set (w.fin fl).toNat (nth st.worth c + fo G w) = (nE fl G st c w).worth := by rw [qI h]; rfl
theorem PA (h : nth st.worth c + fo G w > nth st.worth (w.fin fl).toNat) : st.by_.set (w.fin fl).toNat w = (nE fl G st c w).by_ := by rw [qI h]; rfl
theorem Oq (h : nth st.worth c + fo G w > nth st.worth (w.fin fl).toNat) : w.fin fl = (nE fl G st c w).at_ := by rw [qI h]; rfl
theorem OZ (h : ¬ nth st.worth c + fo G w > nth st.worth (w.fin fl).toNat) : st.worth = (nE fl G st c w).worth := by rw [sP h]
theorem On (h : ¬ nth st.worth c + fo G w > nth st.worth (w.fin fl).toNat) : st.by_ = (nE fl G st c w).by_ := by rw [sP h]
theorem PM (h : ¬ nth st.worth c + fo G w > nth st.worth (w.fin fl).toNat) : st.at_ = (nE fl G st c w).at_ := by rw [sP h]
theorem rI.hit (hN : Net fl n) (hG : ∀ i, -1 ≤ G i ∧ G i ≤ 1) (h : rI fl a n G ⟨r, c, j, st⟩) (hc : c < n) (hj : j < (bK fl a c).length) (hg : nth st.worth c + fo G (nth (bK fl a c) j) > nth st.worth ((nth (bK fl a c) j).fin fl).toNat) (hr : (r : Int) = n - 1) :
 ∃ (v : Nat) (s' : rS), st.worth.set ((nth (bK fl a c) j).fin fl).toNat (nth st.worth c + fo G (nth (bK fl a c) j)) = s'.worth ∧ st.by_.set ((nth (bK fl a c) j).fin fl).toNat (nth (bK fl a c) j) = s'.by_ ∧ (nth (bK fl a c) j).fin fl = ((v : Nat) : Int) ∧ Found fl a n G s' v := by
 obtain ⟨v, hv⟩ := h.last hN hG (Nat.not_le.2 hc) (Nat.not_le.2 hj) (decide_eq_true hg) (by show r + 1 = n; have := h.inv.r; omega)
 exact ⟨v, _, rfl, rfl, hv.at_, hv⟩
theorem Mw {e : List Way} {s : Nat} (h : (decide ((e.length : Int) = 0) || !decide ((c : Int) = (s : Int))) = true) : ¬ (¬ e = [] ∧ c = s) := by
 rintro ⟨h1, h2⟩
 have h3 : (e.length : Int) ≠ 0 := fun h => h1 (List.length_eq_zero_iff.1 (by omega))
 rw [decide_eq_false h3, decide_eq_true (by omega)] at h; cases h
theorem PC {e : List Way} {s : Nat} (h : (decide ((e.length : Int) = 0) || !decide ((c : Int) = (s : Int))) = false) : ¬ e = [] ∧ c = s := by
 rw [Bool.or_eq_false_iff] at h
 refine ⟨fun e0 => ?_, ?_⟩
 ·subst e0; exact absurd h.1 (by decide)
 have := of_decide_eq_true (eX h.2 : decide ((c : Int) = (s : Int)) = true); omega
theorem Ot {e : List Way} {p : Nat} (h : e.length < p) : p - (e ++ [w]).length < p - e.length := by rw [List.length_append]; show p - (e.length + 1) < _; omega
theorem QK {s p : Nat} {x : Nat × List Way} (h : Mm fl a n st s p x) (hc : ¬ x.2 = [] ∧ x.1 = s) : oy fl st s ≠ [] := by rw [← h.end hc]; exact hc.1
end
attribute [local irreducible] aQ gZ Way.hH Way.fin Way.room eR dr ep gQ over bK cM dW eP jj e9 hO kP cQ gK fk fo cq cL gV oy iZ nE lf
attribute [local irreducible] gA eU lH nR gy gl g5 gr g9 nU gx nZ dN fS nJ ff nQ nth fI dQ au dK bodyPost Exit.then Exit.inBlock Code.wp Code.wpIn nY gm oC n9 g7 eM cJ cH bodyPostM dP
set_option maxRecDepth 100000 in
theorem m5 (y : ak) (fl : List bu) (a : List Int) (h : J0 y fl a) : eM Tryz.prog 119 [1000] [(1000, Cont.vec cy 3 a)] [Ty.pp (eF y fl 1000 fl.length)] [(1000, Cont.vec cy 3 (cQ fl (y.cells + 1) a).2.2)] (Ty.bool (!(cQ fl (y.cells + 1) a).2.1)) := by
 refine fL Tryz.func119 rfl (by decide) Tryz.ntmps119 (by exact Nat.le_of_ble_eq_true rfl) fun w0 M0 => ?_
 refine aE (aA (dA rfl (aD (aC (aE (aA (jo rfl ?_)))))))
 refine dI [(1000, 1000)] [] [(1000, Cont.vec cy 3 (cQ fl (y.cells + 1) a).2.2)] (Kt y fl a h) rfl rfl (aM bU (e8 (aM (aM (aM (aM (aM (aM bU (dZ (by exact List.mem_cons_self))) (aT rfl rfl)) (aT rfl rfl)) (aT rfl rfl)) (aT rfl rfl)) (aT rfl rfl)))) (cz (a := 1000) (b := 1000) (by exact List.mem_cons_self) rfl (bh (by exact List.mem_cons_self) rfl) pre_nil) (bg (a := 1000) (b := 1000) (by decide) rfl (bh (by decide) rfl) post_nil) (aT rfl rfl) ?_
 refine uH rfl (bQ rfl rfl (bQ rfl rfl (bk rfl (dA rfl (aD (aC (aE (aA (fB rfl ?_)))))))))
 refine eN rfl (dA rfl (aD (aC (ay ?_))))
 refine iX [1000] rfl rfl (by decide) (by repeat (first | exact gE | refine eC rfl (bh (by decide) rfl) ?_)) ?_
 all_goals exact iO (aT rfl rfl)
set_option maxRecDepth 100000 in
theorem FJ (th : Ty) (h1 : th.deps = []) (h2 : th.cdeps = []) (has : Nat → Bool) (less : Bool) (w : Way) (hf : oM Tryz.prog (Ty.nd th h1 h2) [Ty.int .i64 ((w.ix : Nat) : Int)] (Ty.bool (has w.ix))) : dK Tryz.prog 202 [Ty.agg [Ty.nd th h1 h2, Ty.bool less], Ty.agg (fm.tys w)] (Ty.int .i64 (fo (cq has less) w)) := by
 refine ah Tryz.func202 rfl (by decide) Tryz.ntmps202 (by exact Nat.le_of_ble_eq_true rfl) fun w0 M0 => ?_
 refine aE (aA (bD rfl (bD rfl (bk rfl (aD (aC (aE (aE (aA ?_)))))))))
 refine aH rfl rfl rfl rfl rfl (by decide) ?_
 refine aI rfl rfl rfl rfl ?_
 refine aH rfl rfl rfl rfl rfl (by decide) ?_
 refine aI rfl rfl rfl rfl (eS rfl hf rfl (eN rfl (aD (aC ?_))))
 refine cI rfl (fun hc1 => ?_) (fun hc1 => ?_)
 ·
  refine aE (aA (bk rfl (aD (aC (ay (aS (bP rfl rfl ?_)))))))
  all_goals skip
  all_goals exact az rfl rfl (congrArg (Ty.int .i64) (Lh (nA hc1)))
 refine aq (aC (aE (aE (aA ?_))))
 refine aH rfl rfl rfl rfl rfl (by decide) ?_
 refine aI rfl rfl rfl rfl ?_
 refine aH rfl rfl rfl rfl rfl (by decide) ?_
 refine aI rfl rfl rfl rfl (Ex Ox rfl rfl (aD (aC ?_)))
 refine dH rfl (fun hc2 => ?_) (fun hc2 => ?_)
 ·
  refine aE (aA (bk rfl (aD (aC (ay (aS (bP rfl rfl ?_)))))))
  all_goals skip
  all_goals exact az rfl rfl (congrArg (Ty.int .i64) (LQ (eX hc1) hc2))
 refine aq (aC (aE (aA (bk rfl (aD (aC (ay (bP rfl rfl ?_))))))))
 all_goals skip
 all_goals exact az rfl rfl (congrArg (Ty.int .i64) (MH (eX hc1) hc2))
set_option maxRecDepth 100000 in
theorem Kl (y : ak) (fl : List bu) (a : List Int) (h : lN y fl a) (th : Ty) (h1 : th.deps = []) (h2 : th.cdeps = []) (has : Nat → Bool) (hf : ∀ i, i < fl.length → oM Tryz.prog (Ty.nd th h1 h2) [Ty.int .i64 ((i : Nat) : Int)] (Ty.bool (has i))) (less : Bool) : eM Tryz.prog 195 [1000] [(1000, Cont.vec cy 3 a)] [Ty.pp (eF y fl 1000 fl.length), Ty.agg [Ty.nd th h1 h2, Ty.bool less]] [(1000, Cont.vec cy 3 a)] (Ty.HD fm (cL fl a (y.cells + 1) (cq has less))) := by
 refine fL Tryz.func195 rfl (by decide) Tryz.ntmps195 (by exact Nat.le_of_ble_eq_true rfl) fun w0 M0 => ?_
 have hal := h.inb.1
 have hN := h.net
 have hfl := h.qb
 have hcl := mm h.right
 have hG := rJ (has := has) less
 refine aE (aA (bD rfl (lq rfl (aD (aC (K7 (aE (aA (jo rfl ?_)))))))))
 refine eI [] (rY y h.right) rfl (aW (mV (l1 := bH y) (l2 := [Ty.sl dg fl, Ty.vs 1000 fl.length]) rfl rfl) cN) (by exact dX _ _) ?_
 refine cA rfl rfl (by omega) (by omega) ?_
 refine bk rfl (aD (aC (aE (cP mixed rfl (bG rfl ?_)))))
 refine qB (E := cy) (x0 := 0) rfl rfl rfl rfl rfl rfl rfl (by decide) rfl (by omega) (by (dsimp only; omega)) (by omega) ?_
 refine bG rfl ?_
 refine qB (E := fm) (x0 := default) rfl rfl rfl rfl rfl rfl rfl (by decide) rfl (by omega) (by (dsimp only; omega)) (by omega) ?_
 refine P4 rfl (P4 rfl (aD ?_))
 refine ⟨by kernel_rfl, ?_⟩
 refine aC (aE (aA (jo rfl ?_)))
 refine dI [(1000, 1000)] [] [(1000, Cont.vec cy 3 a)] (Hx y fl a h) rfl rfl (aM bU (e8 (aM (aM (aM (aM (aM (aM bU (dZ (by exact List.mem_cons_self))) (aT rfl rfl)) (aT rfl rfl)) (aT rfl rfl)) (aT rfl rfl)) (aT rfl rfl)))) (cz (a := 1000) (b := 1000) (by exact List.mem_cons_self) rfl (bh (by exact List.mem_cons_self) rfl) pre_nil) (bg (a := 1000) (b := 1000) (by decide) rfl (bh (by decide) rfl) post_nil) (aT rfl rfl) ?_
 refine Ns rfl (aD (aC (aE (aA (bk rfl (aD (aC (aE (Lv ?_)))))))))
 refine aC (aE (aE (aA (bG rfl (bG rfl (aD (aC (aZ ?_))))))))
 refine cF (fun (x : {x : Nat × rS // rI fl a (y.cells + 1) (cq has less) ⟨x.1, 0, 0, x.2⟩ ∧ x.2.at_ = -1}) => live [(0, Ty.pp (eF y fl 1000 fl.length)), (3, Ty.pp [Ty.nd th h1 h2, Ty.bool less]), (5, Ty.int .i64 ((y.cells + 1) : Nat)), (6, Ty.vs 23 (y.cells + 1)), (7, Ty.vs 25 (y.cells + 1)), (8, Ty.pm KI.enc (JU fm) (eR fl a fl.length)), (27, Ty.int .i64 ((y.cells + 1) : Nat)), (28, Ty.int .i64 ((x.1.1 : Nat) : Int))] [(1000, Cont.vec cy 3 a), (23, Cont.vec cy 3 x.1.2.worth), (25, Cont.vec fm 199 x.1.2.by_)]) (fun x => (y.cells + 1) - x.1.1) (⟨(0, NX (y.cells + 1)), QA (by omega), rfl⟩) ?_ fun x => ?_
 ·(refine cx.mk' ?_ ?_ <;> (repeat' (first | exact aJ | exact aK | refine aB ?_ (Ty.aU _) | refine aB ?_ (Ty.aF _) | refine aG rfl (Cont.aF _) ?_)))
 have hxr : x.1.1 < (y.cells + 1) := x.2.1.inv.r
 have hxs : x.1.2.worth.length = (y.cells + 1) ∧ x.1.2.by_.length = (y.cells + 1) := ⟨(x.2.1.inv.small (by omega) hfl).1, (x.2.1.inv.small (by omega) hfl).2.1⟩
 refine aE (aA (bB rfl rfl rfl (aD (aC (aE ?_)))))
 refine qE rfl (decide_eq_true (by show ((x.1.1 : Nat) : Int) < ((y.cells + 1) : Nat); have : x.1.1 < (y.cells + 1) := hxr; omega)) ?_
 refine aq (aC (aE (aZ (aE (aA (bG rfl (bk rfl (aD (aC ?_)))))))))
 refine aE (aA (bk rfl (aD (aC (aE (aE (aA (bG rfl (bG rfl ?_)))))))))
 refine aD (aC (aZ ?_))
 refine cF (fun (z : {z : Nat × rS // rI fl a (y.cells + 1) (cq has less) ⟨x.1.1, z.1, 0, z.2⟩}) => live [(0, Ty.pp (eF y fl 1000 fl.length)), (3, Ty.pp [Ty.nd th h1 h2, Ty.bool less]), (5, Ty.int .i64 ((y.cells + 1) : Nat)), (6, Ty.vs 23 (y.cells + 1)), (7, Ty.vs 25 (y.cells + 1)), (8, Ty.pm KI.enc (JU fm) (eR fl a fl.length)), (9, Ty.int .i64 z.1.2.at_), (10, Ty.int .i64 ((x.1.1 : Nat) : Int)), (27, Ty.int .i64 ((y.cells + 1) : Nat)), (28, Ty.int .i64 ((x.1.1 : Nat) : Int)), (31, Ty.int .i64 ((y.cells + 1) : Nat)), (32, Ty.int .i64 ((z.1.1 : Nat) : Int))] [(1000, Cont.vec cy 3 a), (23, Cont.vec cy 3 z.1.2.worth), (25, Cont.vec fm 199 z.1.2.by_)]) (fun z => (y.cells + 1) - z.1.1) (⟨(0, x.1.2), x.2.1⟩) ?_ fun z => ?_
 ·(refine cx.mk' ?_ ?_ <;> (repeat' (first | exact aJ | exact aK | refine aB ?_ (Ty.aU _) | refine aB ?_ (Ty.aF _) | refine aG rfl (Cont.aF _) ?_ | refine aB ?_ ?_)))
  all_goals exact Ty.bE x.2.2.symm
 have hzc : z.1.1 ≤ (y.cells + 1) := z.2.inv.c
 have hzs : z.1.2.worth.length = (y.cells + 1) ∧ z.1.2.by_.length = (y.cells + 1) := ⟨(z.2.inv.small (by omega) hfl).1, (z.2.inv.small (by omega) hfl).2.1⟩
 refine aE (aA (bB rfl rfl rfl (aD (aC (aE ?_)))))
 refine aj rfl (fun hc2 => ?_) (fun hc2 => ?_)
 ·
  refine aq (aC (aE (aZ (aE (aA (bG rfl (bk rfl (aD (aC ?_)))))))))
  refine aE (aA (OA rfl (bG rfl ?_)))
  refine yU KI (z0 := []) rfl rfl (uZ _) n8 ux Br ?_
  refine cK (E := fm) (xs := oL (eR fl a fl.length) ((z.1.1 : Nat) : Int)) rfl rfl rfl ?_
  refine bG rfl (aD (aC ?_))
  refine iV (s := 37) rfl (show (Ty.sl fm (oL (eR fl a fl.length) ((z.1.1 : Nat) : Int))).Sub (Ty.sl fm (bK fl a z.1.1)) from Ty.Dq r8) ?_
  refine iV (s := 38) rfl (Ty.bE (congrArg (fun l : List Way => ((l.length : Nat) : Int)) (r8 (c := ((z.1.1 : Nat) : Int))))) ?_
  refine aZ ?_
  refine cF (fun (u : {u : Nat × rS // rI fl a (y.cells + 1) (cq has less) ⟨x.1.1, z.1.1, u.1, u.2⟩}) => live [(0, Ty.pp (eF y fl 1000 fl.length)), (3, Ty.pp [Ty.nd th h1 h2, Ty.bool less]), (5, Ty.int .i64 ((y.cells + 1) : Nat)), (6, Ty.vs 23 (y.cells + 1)), (7, Ty.vs 25 (y.cells + 1)), (8, Ty.pm KI.enc (JU fm) (eR fl a fl.length)), (9, Ty.int .i64 u.1.2.at_), (10, Ty.int .i64 ((x.1.1 : Nat) : Int)), (11, Ty.int .i64 ((z.1.1 : Nat) : Int)), (27, Ty.int .i64 ((y.cells + 1) : Nat)), (28, Ty.int .i64 ((x.1.1 : Nat) : Int)), (31, Ty.int .i64 ((y.cells + 1) : Nat)), (32, Ty.int .i64 ((z.1.1 : Nat) : Int)), (37, Ty.sl fm (bK fl a z.1.1)), (38, Ty.int .i64 (bK fl a z.1.1).length), (39, Ty.int .i64 ((u.1.1 : Nat) : Int))] [(1000, Cont.vec cy 3 a), (23, Cont.vec cy 3 u.1.2.worth), (25, Cont.vec fm 199 u.1.2.by_)]) (fun u => (bK fl a z.1.1).length - u.1.1) (⟨(0, z.1.2), z.2⟩) ?_ fun u => ?_
  ·(refine cx.mk' ?_ ?_ <;> (repeat' (first | exact aJ | exact aK | refine aB ?_ (Ty.aU _) | refine aB ?_ (Ty.aF _) | refine aG rfl (Cont.aF _) ?_)))
  have hus : u.1.2.worth.length = (y.cells + 1) ∧ u.1.2.by_.length = (y.cells + 1) ∧ ∀ v, v < (y.cells + 1) → 0 ≤ nth u.1.2.worth v ∧ nth u.1.2.worth v ≤ 40000 := u.2.inv.small (by omega) hfl
  have hwl := oQ (fl := fl) (a := a) (c := ((z.1.1 : Nat) : Int))
  refine aE (aA (bB rfl rfl rfl (aD (aC (aE ?_)))))
  refine aj rfl (fun hc3 => ?_) (fun hc3 => ?_)
  ·
   refine aq (aC (aE (aZ (aE ?_))))
   have hzn : z.1.1 < (y.cells + 1) := by omega
   have hun : u.1.1 < (bK fl a z.1.1).length := by omega
   have hwo := (nI.1 (cW (xs := bK fl a z.1.1) (k := u.1.1) hun)).1
   have hwj := hwo
   have hwf := (hN.way hwo.1).2
   have haw := Dw hG (nth (bK fl a z.1.1) u.1.1)
   have hu1 := hus.2.2 z.1.1 hzn
   have hu2 := hus.2.2 ((nth (bK fl a z.1.1) u.1.1).fin fl).toNat (by omega)
   refine aA ?_
   refine av rfl rfl rfl rfl rfl rfl (by omega) ?_
   refine aX rfl rfl rfl (by exact Nat.le_of_ble_eq_true rfl) ?_
   refine bp rfl (by exact List.cons_ne_nil _ _) rfl ?_
   refine bZ rfl rfl (by decide) rfl rfl rfl rfl rfl rfl ?_
   refine aD (aC (aE (aA (jo rfl ?_))))
   refine bz rfl rfl (by decide) rfl rfl (by exact Nat.le_of_ble_eq_true rfl) ?_
   refine eI [1000] (E5 y fl a h (nth (bK fl a z.1.1) u.1.1) hwj.1) rfl (aW (kN (aW (bT (bR rfl rfl)) (aW (bT (bR rfl rfl)) (aW (bT (bR rfl rfl)) (aW (bT (bR rfl rfl)) (aW (bT (bR rfl rfl)) (aW (jV rfl hal (by decide) rfl) cN))))))) (aW (bT (bR rfl rfl)) cN)) (by exact p4 (by repeat (first | exact qA | refine nx (by exact dX _ _) ?_))) ?_
   refine uH rfl (bQ rfl rfl (bQ rfl rfl (bk rfl (bk rfl (aD (aC (aE (cP mixed rfl (Kq rfl ?_)))))))))
   refine bG rfl ?_
   refine dM rfl rfl rfl rfl rfl (by omega) ?_
   refine eo rfl rfl rfl (by decide) rfl rfl (by omega) rfl ?_
   refine aX rfl rfl rfl (by exact Nat.le_of_ble_eq_true rfl) ?_
   refine bz rfl rfl (by decide) rfl rfl (by exact Nat.le_of_ble_eq_true rfl) ?_
   refine af (FJ th h1 h2 has less (nth (bK fl a z.1.1) u.1.1) (hf _ hwj.1)) rfl rfl rfl rfl rfl ?_
   refine cA rfl rfl (by omega) (by omega) ?_
   refine Kq rfl (bG rfl ?_)
   refine fy rfl rfl rfl rfl rfl (by omega) (by omega) ?_
   refine eo rfl rfl rfl (by decide) rfl rfl (by omega) rfl ?_
   refine bB rfl rfl rfl (aD ?_)
   refine ⟨by kernel_rfl, ?_⟩
   refine aC ?_
   refine aj rfl (fun hc4 => ?_) (fun hc4 => ?_)
   ·
    refine aE (cP mixed rfl (Kq rfl (bG rfl (Kq rfl (bG rfl (Kq rfl (bG rfl ?_)))))))
    refine dM rfl rfl rfl rfl rfl (by omega) ?_
    refine eo rfl rfl rfl (by decide) rfl rfl (by omega) rfl ?_
    refine aX rfl rfl rfl (by exact Nat.le_of_ble_eq_true rfl) ?_
    refine bz rfl rfl (by decide) rfl rfl (by exact Nat.le_of_ble_eq_true rfl) ?_
    refine af (FJ th h1 h2 has less (nth (bK fl a z.1.1) u.1.1) (hf _ hwj.1)) rfl rfl rfl rfl rfl ?_
    refine cA rfl rfl (by omega) (by omega) ?_
    refine bz rfl rfl (by decide) rfl rfl (by exact Nat.le_of_ble_eq_true rfl) ?_
    refine bG rfl ?_
    refine fy rfl rfl rfl rfl rfl (by omega) (by omega) ?_
    refine jT rfl rfl rfl (by decide) rfl rfl (by exact (rfl : _ = Ty.int _ _)) rfl (by omega) (by decide) rfl rfl ?_
    refine fy rfl rfl rfl rfl rfl (by omega) (by omega) ?_
    refine nq (E := fm) (z := (nth (bK fl a z.1.1) u.1.1)) ((nth (bK fl a z.1.1) u.1.1).fin fl).toNat rfl rfl rfl (by decide) rfl rfl rfl (by omega) ?_
    refine bk rfl (aD ?_)
    refine ⟨by kernel_rfl, ?_⟩
    refine aC (aE (aA (bG rfl (bG rfl ?_))))
    refine gR rfl rfl (by omega) (by omega) ?_
    refine bB rfl rfl rfl (aD (aC ?_))
    refine aj rfl (fun hc5 => ?_) (fun hc5 => ?_)
    ·
     refine cE (gD rfl (aP (aP (gD rfl (gD rfl (aP (aP (gD rfl (aP ?_)))))))))
     refine gD rfl (aP (aP (aa rfl (aC (aE (aE ?_))))))
     obtain ⟨v, st, e1, e2, e3, hFd⟩ := u.2.hit hN hG hzn hun hc4 hc5
     obtain ⟨T, p, hC, p1, p2, p3, hX⟩ := hFd.QW hN
     refine jW (tg := 25) rfl (Cont.cr e2) ?_
     refine iV (s := 9) rfl (Ty.bE e3) ?_
     refine aA (bG rfl (bG rfl (aD (aC (aZ ?_)))))
     refine cF (fun (i : {i : Nat // i ≤ (y.cells + 1)}) => live [(0, Ty.pp (eF y fl 1000 fl.length)), (5, Ty.int .i64 ((y.cells + 1) : Nat)), (7, Ty.vs 25 (y.cells + 1)), (9, Ty.int .i64 ((fO (cD fl st) i.1 v : Nat) : Int)), (87, Ty.int .i64 ((y.cells + 1) : Nat)), (88, Ty.int .i64 ((i.1 : Nat) : Int))] [(1000, Cont.vec cy 3 a), (25, Cont.vec fm 199 st.by_)]) (fun i => (y.cells + 1) - i.1) (⟨0, by omega⟩) ?_ fun i => ?_
     ·(refine cx.mk' ?_ ?_ <;> (repeat' (first | exact aJ | exact aK | refine aB ?_ (Ty.aU _) | refine aB ?_ (Ty.aF _) | refine aG rfl (Cont.aF _) ?_)))
     refine aE (aA (bB rfl rfl rfl (aD (aC (aE ?_)))))
     refine aj rfl (fun hc6 => ?_) (fun hc6 => ?_)
     ·
      refine aq (aC (aE (aZ ?_)))
      have hch := hFd.chain hN (k := i.1) (by omega)
      have hbl := hFd.len
      refine aA (jo rfl (Kq rfl (bG rfl ?_)))
      refine dM rfl rfl rfl rfl rfl (by omega) ?_
      refine kX (fO (cD fl st) i.1 v) rfl rfl rfl (by decide) rfl rfl rfl (by omega) ?_
      refine eI [1000] (Ag y fl a (nth st.by_ (fO (cD fl st) i.1 v)) hch.2.1.1) rfl (aW (kN (aW (bT (bR rfl rfl)) (aW (bT (bR rfl rfl)) (aW (bT (bR rfl rfl)) (aW (bT (bR rfl rfl)) (aW (bT (bR rfl rfl)) (aW (jV rfl hal (by decide) rfl) cN))))))) (aW (bT (bR rfl rfl)) cN)) (by exact dX _ _) ?_
      refine bk rfl (aD (bI (aC (aA ?_))))
      refine cA rfl rfl (by omega) (by omega) ?_
      refine bG rfl (aD ?_)
      refine bO (⟨i.1 + 1, by omega⟩) ?_ (by show (y.cells + 1) - (i.1 + 1) < (y.cells + 1) - i.1; omega)
      (refine cx.mk' ?_ ?_ <;> (repeat' (first | exact aJ | exact aK | refine aB ?_ (Ty.aU _) | refine aB ?_ (Ty.aF _) | refine aG rfl (Cont.aF _) ?_ | refine aB ?_ ?_)))
      all_goals skip
      all_goals exact Ty.bE hch.2.2
     refine cE (aP (aP (aa rfl (aC (aE ?_)))))
     have hbl := hFd.len
     have hin : i.1 = (y.cells + 1) := by have := i.2; omega
     refine iV (s := 9) rfl (Ty.bE (by rw [hin] : _ = ((fO (cD fl st) (y.cells + 1) v : Nat) : Int))) ?_
     refine aA (lq rfl (aD (aC (aE (aE (aA (bG rfl (bk rfl (aD ?_)))))))))
     refine aC (aZ ?_)
     refine cF (fun (c : {c : Nat × List Way // Mm fl a (y.cells + 1) st (fO (cD fl st) (y.cells + 1) v) p c}) => live [(0, Ty.pp (eF y fl 1000 fl.length)), (7, Ty.vs 25 (y.cells + 1)), (9, Ty.int .i64 ((fO (cD fl st) (y.cells + 1) v : Nat) : Int)), (16, Ty.row fm 199 118 c.1.2), (17, Ty.int .i64 ((c.1.1 : Nat) : Int))] [(1000, Cont.vec cy 3 a), (25, Cont.vec fm 199 st.by_)]) (fun c => p - c.1.2.length) (⟨(fO (cD fl st) (y.cells + 1) v, []), hX⟩) ?_ fun c => ?_
     ·(refine cx.mk' ?_ ?_ <;> (repeat' (first | exact aJ | exact aK | refine aB ?_ (Ty.aU _) | refine aB ?_ (Ty.aF _) | refine aB ?_ Ty.gq | refine aG rfl (Cont.aF _) ?_)))
      all_goals trace_state
     have hcx := c.2.at_
     have hci : c.1.2.length ≤ p := by obtain ⟨i, i1, _, i3⟩ := c.2.ix; omega
     refine aE (aE (aA (GR rfl (FT rfl rfl rfl (bB rfl rfl rfl (fB rfl ?_))))))
     apply aN (s := 101) rfl rfl rfl
     ·intro hg; apply aO; (refine bG rfl ?_); refine aD ?_; exact rfl
     ·exact rfl
     ·exact rfl
     apply aN (s := 101) rfl rfl rfl
     ·intro hg; apply aO; (refine bG rfl ?_); refine aD ?_; exact rfl
     ·exact rfl
     ·exact rfl
     apply aN (s := 101) rfl rfl rfl
     ·intro hg; apply aL (s := 102) rfl (by (rw [hg]; rfl)); apply aL (s := 103) rfl (by (rw [hg]; rfl)); apply aO; (refine bB rfl rfl rfl ?_); refine aD ?_; exact rfl
     ·exact rfl
     ·exact rfl
     refine ig rfl rfl (aD (aC ?_))
     refine cI rfl (fun hc7 => ?_) (fun hc7 => ?_)
     ·
      refine aq (aC (aE (aZ (aA (GR rfl (Kq rfl (bG rfl ?_)))))))
      refine dM rfl rfl rfl rfl rfl (by omega) ?_
      refine kX c.1.1 rfl rfl rfl (by decide) rfl rfl rfl (by omega) ?_
      refine bW (E := fm) (xs := [_]) rfl rfl rfl rfl rfl (by decide) (by decide) (by repeat (first | exact (aV.nil : aV _ _ [] _) | (show aV _ _ ((_, _) :: _) _; apply aV.agg; (· exact (rfl : _ = Ty.agg _))))) (by exact rfl) rfl ?_
      refine dw rfl rfl (by decide) rfl rfl rfl rfl rfl rfl (by decide) (by (simp <;> omega)) (by (simp <;> omega)) ?_
      refine Aj rfl (aD (bI (aC (aA (jo rfl (Kq rfl (bG rfl ?_)))))))
      refine dM rfl rfl rfl rfl rfl (by omega) ?_
      refine kX c.1.1 rfl rfl rfl (by decide) rfl rfl rfl (by omega) ?_
      refine eI [1000] (Ag y fl a (nth st.by_ c.1.1) hcx.2.1.1) rfl (aW (kN (aW (bT (bR rfl rfl)) (aW (bT (bR rfl rfl)) (aW (bT (bR rfl rfl)) (aW (bT (bR rfl rfl)) (aW (bT (bR rfl rfl)) (aW (jV rfl hal (by decide) rfl) cN))))))) (aW (bT (bR rfl rfl)) cN)) (by exact dX _ _) ?_
      refine bk rfl (aD ?_)
      refine bO (⟨(cD fl st c.1.1, c.1.2 ++ [nth st.by_ c.1.1]), (c.2.next hN hC p3 p1 (Mw hc7)).1⟩) ?_ (by exact Ot (c.2.next hN hC p3 p1 (Mw hc7)).2)
      (refine cx.mk' ?_ ?_ <;> (repeat' (first | exact aJ | exact aK | refine aB ?_ (Ty.aU _) | refine aB ?_ (Ty.aF _) | refine aG rfl (Cont.aF _) ?_ | refine aB ?_ ?_)))
      all_goals skip
      all_goals exact Ty.bE hcx.2.2
     refine cE (aP (aP (aa rfl (aC (aE (aA (GR rfl (Aj rfl (aD ?_)))))))))
     refine aC (ay (uJ ?_))
     refine iX [1000] rfl rfl (by decide) (by repeat (first | exact gE | refine eC rfl (bh (by decide) rfl) ?_)) ?_
     all_goals skip
     all_goals exact DQ (by decide) rfl (by rw [hFd.same]; exact c.2.end (PC hc7)) (by rw [hFd.same]; exact QK c.2 (PC hc7))
    refine aq (bI (aC (aA ?_)))
    refine cA rfl rfl (by omega) (by omega) ?_
    refine bG rfl (aD ?_)
    refine bO (⟨(u.1.1 + 1, nE fl (cq has less) u.1.2 z.1.1 (nth (bK fl a z.1.1) u.1.1)), by exact u.2.Nj hN hG hzn hun hc4 hc5⟩) ?_ (by show (bK fl a z.1.1).length - (u.1.1 + 1) < (bK fl a z.1.1).length - u.1.1; omega)
    (refine cx.mk' ?_ ?_ <;> (repeat' (first | exact aJ | exact aK | refine aB ?_ (Ty.aU _) | refine aB ?_ (Ty.aF _) | refine aG rfl (Cont.aF _) ?_ | refine aG rfl ?_ ?_ | refine aB ?_ ?_)))
    all_goals skip
    all_goals first | exact Cont.cr (PF hc4) | exact Cont.cr (PA hc4) | exact Ty.bE (Oq hc4)
   refine aq (bI (aC (aA ?_)))
   refine cA rfl rfl (by omega) (by omega) ?_
   refine bG rfl (aD ?_)
   refine bO (⟨(u.1.1 + 1, nE fl (cq has less) u.1.2 z.1.1 (nth (bK fl a z.1.1) u.1.1)), by exact u.2.O2 hzn hun hc4⟩) ?_ (by show (bK fl a z.1.1).length - (u.1.1 + 1) < (bK fl a z.1.1).length - u.1.1; omega)
   (refine cx.mk' ?_ ?_ <;> (repeat' (first | exact aJ | exact aK | refine aB ?_ (Ty.aU _) | refine aB ?_ (Ty.aF _) | refine aG rfl (Cont.aF _) ?_ | refine aG rfl ?_ ?_ | refine aB ?_ ?_)))
   all_goals skip
   all_goals first | exact Cont.cr (OZ hc4) | exact Cont.cr (On hc4) | exact Ty.bE (PM hc4)
  refine cE (aP (aP (aa rfl (bI (aC (aA ?_))))))
  refine cA rfl rfl (by omega) (by omega) ?_
  refine bG rfl (aD ?_)
  refine bO (⟨(z.1.1 + 1, u.1.2), u.2.cell (by show ¬ (y.cells + 1) ≤ z.1.1; omega) (by show (bK fl a z.1.1).length ≤ u.1.1; omega)⟩) ?_ (by show (y.cells + 1) - (z.1.1 + 1) < (y.cells + 1) - z.1.1; omega)
  (refine cx.mk' ?_ ?_ <;> (repeat' (first | exact aJ | exact aK | refine aB ?_ (Ty.aU _) | refine aB ?_ (Ty.aF _) | refine aG rfl (Cont.aF _) ?_)))
  all_goals skip
 refine cE (aP (aP (aa rfl (aC (aE (aA (bG rfl (bB rfl rfl rfl (aD ?_)))))))))
 refine aC ?_
 refine aj rfl (fun hc8 => ?_) (fun hc8 => ?_)
 ·
  refine aE (aA (lq rfl (aD (aC (ay (bC (aS (aS (bC ?_)))))))))
  refine aS (uJ ?_)
  refine iX [1000] rfl rfl (by decide) (by repeat (first | exact gE | refine eC rfl (bh (by decide) rfl) ?_)) ?_
  all_goals skip
  all_goals exact C3 (z.2.stop (by show (y.cells + 1) ≤ z.1.1; omega) (by assumption))
 refine aq (bI (aC (aA ?_)))
 refine cA rfl rfl (by omega) (by omega) ?_
 refine bG rfl (aD ?_)
 refine bO (⟨(x.1.1 + 1, ⟨z.1.2.worth, z.1.2.by_, -1⟩), z.2.round (by show (y.cells + 1) ≤ z.1.1; omega) (by assumption), rfl⟩) ?_ (by show (y.cells + 1) - (x.1.1 + 1) < (y.cells + 1) - x.1.1; omega)
 (refine cx.mk' ?_ ?_ <;> (repeat' (first | exact aJ | exact aK | refine aB ?_ (Ty.aU _) | refine aB ?_ (Ty.aF _) | refine aG rfl (Cont.aF _) ?_)))
 all_goals skip
end Go.Proofs.YtelbollidfdcjaaGreat
namespace Go.Proofs.YtelbollidfdcjaaGreat
open Go Go.T
set_option maxHeartbeats 16000000
theorem Mx : Tryz.prog.underlying 28 = some (.slice 3) := by kernel_rfl
theorem N8 : Tryz.prog.underlying 222 = some (.slice 199) := by kernel_rfl
section
variable {y : ak} {fl : List bu} {a : List Int} {n : Nat} {has : Nat → Bool} {xs : List Int}
theorem Pq {G : Nat → Int} (h : gX fl n a) : Nl fl n G a a := ⟨h, rfl⟩
theorem HR {c : Nat → Bool} {b : Nat} (hl : a.length = (aQ y c).length) (hb : b < y.bins.length) : y.kept b 0 < a.length := by rw [hl]; exact FL hb (Nat.zero_le _)
theorem K4 {x : List Int} {i k : Nat} (h : i = k) : ij has x i = ij has x k := by rw [h]
theorem Lj (fl : List bu) (has : Nat → Bool) (x : List Int) : ij has x fl.length = jD fl has x := rfl
theorem MN (hN : Net fl n) (hn : 0 < n) (hB : Bd fl) (h : gX fl n a) : (⟨jD fl has (gV fl n (cq has true) a), jD fl has (gV fl n (cq has false) (BD fl n has a))⟩ : Span) = gk fl n has := (rm hN hn hB h).2.2.eq.symm
def iE (y : ak) (a : List Int) (k : Nat) : List Int := (List.range k).map fun b => nth a (y.kept b 0)
theorem A9 (k : Nat) : iE y a k ++ [nth a (y.kept k 0)] = iE y a (k + 1) := by unfold iE; rw [List.range_succ, List.map_append]; rfl
theorem CE : iE y a 0 = [] := rfl
theorem C5 (k : Nat) : (iE y a k).length = k := by unfold iE; rw [List.length_map, List.length_range]
theorem told_eq (y : ak) (a : List Int) : (⟨iE y a y.bins.length, a.drop (y.bins.length * (y.D + 1))⟩ : dY) = gB y a := rfl
theorem IY (h : xs = []) : (Ty.jI (.slice none 0 0)).Sub (Ty.row cy 3 26 xs) := by subst h; exact Ty.gq
theorem lo_eq (fl : List bu) (n : Nat) (has : Nat → Bool) (a : List Int) : gV fl n (cq has true) a = BD fl n has a := rfl
theorem hi_eq (fl : List bu) (n : Nat) (has : Nat → Bool) (a : List Int) : gV fl n (cq has false) (BD fl n has a) = yl fl n has a := rfl
end
attribute [local irreducible] aQ gZ Way.hH Way.fin Way.room eR dr ep gQ over bK cM dW eP jj e9 hO kP cQ gK fk fo cq cL gV oy iZ ij jD gk BD yl iE ak.kept
attribute [local irreducible] gA eU lH nR gy gl g5 gr g9 nU gx nZ dN fS nJ ff nQ nth fI dQ au dK bodyPost Exit.then Exit.inBlock Code.wp Code.wpIn nY gm oC n9 g7 eM cJ cH bodyPostM dP
set_option maxRecDepth 100000 in
theorem B3 (l : List Int) (h : l.length ≤ 1000) : dK Tryz.prog 172 [Ty.sl cy l] (Ty.sl cy l) := by
 refine ah Tryz.func172 rfl (by decide) Tryz.ntmps172 (by exact Nat.le_of_ble_eq_true rfl) fun w0 M0 => ?_
 refine aE (aA (lq rfl (aD (aC (aE (aE (aA (fN rfl (EI Mx rfl ?_)))))))))
 refine aD (aC ?_)
 refine yN rfl (fun hc1 => ?_) (fun hc1 => ?_)
 ·
  refine aE (aA (lq rfl (aD (aC (ay (aS (bP rfl rfl ?_)))))))
  all_goals skip
  exact gG hc1
 refine aq (aC (aE (aA ?_)))
 refine w9 (E := cy) rfl rfl rfl rfl ?_
 refine fN rfl ?_
 refine dw rfl rfl (by decide) rfl rfl rfl rfl rfl rfl (by decide) (by (simp <;> omega)) (by (simp <;> omega)) ?_
 refine Aj rfl (aD (aC (ay (bP rfl rfl ?_))))
 all_goals exact rT (by decide)
 skip
set_option maxRecDepth 100000 in
theorem HU (y : ak) (fl : List bu) (a : List Int) (h : lN y fl a) (hfe : gX fl (y.cells + 1) a) (th : Ty) (h1 : th.deps = []) (h2 : th.cdeps = []) (has : Nat → Bool) (hf : ∀ i, i < fl.length → oM Tryz.prog (Ty.nd th h1 h2) [Ty.int .i64 ((i : Nat) : Int)] (Ty.bool (has i))) (less : Bool) : eM Tryz.prog 164 [1000] [(1000, Cont.vec cy 3 a)] [Ty.pp (eF y fl 1000 fl.length), Ty.agg [Ty.nd th h1 h2, Ty.bool less]] [(1000, Cont.vec cy 3 (gV fl (y.cells + 1) (cq has less) a))] (Ty.int .i64 (jD fl has (gV fl (y.cells + 1) (cq has less) a))) := by
 refine fL Tryz.func164 rfl (by decide) Tryz.ntmps164 (by exact Nat.le_of_ble_eq_true rfl) fun w0 M0 => ?_
 have hN := h.net
 have hfl := h.qb
 have hcl := mm h.right
 have hG := rJ (has := has) less
 have hn : 0 < (y.cells + 1) := Nat.succ_pos _
 refine aE (aA (bD rfl (bk rfl (aD (aC (aE (aZ ?_)))))))
 refine cF (fun (b : {b : List Int // Nl fl (y.cells + 1) (cq has less) a b}) => live [(0, Ty.pp (eF y fl 1000 fl.length)), (3, Ty.pp [Ty.nd th h1 h2, Ty.bool less])] [(1000, Cont.vec cy 3 b.1)]) (fun b => (300 * fl.length - k7 fl (cq has less) b.1).toNat) (⟨a, Pq hfe⟩) ?_ fun b => ?_
 ·(refine cx.mk' ?_ ?_ <;> (repeat' (first | exact aJ | exact aK | refine aB ?_ (Ty.aU _) | refine aB ?_ (Ty.aF _) | refine aG rfl (Cont.aF _) ?_)))
 have hF : lN y fl b.1 := ⟨h.right, h.net, h.bd, b.2.feas.1, h.qb⟩
 have hal := hF.inb.1
 refine aZ (aE (aA (jo rfl ?_)))
 refine aX rfl rfl rfl (by exact Nat.le_of_ble_eq_true rfl) ?_
 refine dI [(1000, 1000)] [] [(1000, Cont.vec cy 3 b.1)] (Kl y fl b.1 hF th h1 h2 has hf less) rfl rfl (aM (aM bU (aT rfl rfl)) (e8 (aM (aM (aM (aM (aM (aM bU (dZ (by exact List.mem_cons_self))) (aT rfl rfl)) (aT rfl rfl)) (aT rfl rfl)) (aT rfl rfl)) (aT rfl rfl)))) (cz (a := 1000) (b := 1000) (by exact List.mem_cons_self) rfl (bh (by exact List.mem_cons_self) rfl) pre_nil) (bg (a := 1000) (b := 1000) (by decide) rfl (bh (by decide) rfl) post_nil) (aT rfl rfl) ?_
 refine QL rfl (aD (aC (aE (aE (aA (QT rfl (HS N8 rfl (aD (aC ?_)))))))))
 refine cI rfl (fun hc1 => ?_) (fun hc1 => ?_)
 ·
  refine cE (aP (gD rfl (aP (aa rfl (aC (aE ?_))))))
  have hb : b.1 = (gV fl (y.cells + 1) (cq has less) a) := b.2.done (List.isEmpty_iff.1 hc1)
  have hF2 : lN y fl (gV fl (y.cells + 1) (cq has less) a) := by rw [← hb]; exact hF
  have hal2 := hF2.inb.1
  refine jW (tg := 1000) rfl (Cont.cr hb) ?_
  refine aA (bk rfl (aD (aC (aE (aE (aA (jo rfl (bq rfl ?_))))))))
  refine aH rfl rfl rfl rfl rfl (by decide) ?_
  refine aI rfl rfl rfl rfl (Hg rfl rfl rfl (bG rfl (aD (aC (aZ ?_)))))
  refine cF (fun (i : {i : Nat // i ≤ fl.length}) => live [(0, Ty.pp (eF y fl 1000 fl.length)), (3, Ty.pp [Ty.nd th h1 h2, Ty.bool less]), (11, Ty.int .i64 (ij has (gV fl (y.cells + 1) (cq has less) a) i.1)), (43, Ty.vs 1000 fl.length), (44, Ty.int .i64 fl.length), (45, Ty.int .i64 (i.1 : Nat))] [(1000, Cont.vec cy 3 (gV fl (y.cells + 1) (cq has less) a))]) (fun i => fl.length - i.1) (⟨0, by omega⟩) ?_ fun i => ?_
  ·(refine cx.mk' ?_ ?_ <;> (repeat' (first | exact aJ | exact aK | refine aB ?_ (Ty.aU _) | refine aB ?_ (Ty.aF _) | refine aG rfl (Cont.aF _) ?_ | refine aB ?_ ?_)))
   all_goals exact Ty.bE (by unfold ij; rfl)
  have hi := i.2
  have hup := G2 (has := has) (x := (gV fl (y.cells + 1) (cq has less) a)) (k := i.1) fun q hq => (hF2.N9 (by omega)).1
  refine aE (aA (bB rfl rfl rfl (aD (aC (aE ?_)))))
  refine aj rfl (fun hc2 => ?_) (fun hc2 => ?_)
  ·
   refine aq (aC (aE (aZ (aE (aA (bG rfl ?_))))))
   refine dM rfl rfl rfl rfl rfl (by omega) ?_
   refine eo rfl rfl rfl (by decide) rfl rfl (by omega) rfl ?_
   refine bk rfl (bk rfl (aD (aC (aE ?_))))
   have hai := (hF2.N9 (show i.1 < fl.length by omega)).1
   refine aA ?_
   refine aH rfl rfl rfl rfl rfl (by decide) ?_
   refine aI rfl rfl rfl rfl (bG rfl ?_)
   refine eS rfl (hf i.1 (by omega)) rfl ?_
   refine aD (aC ?_)
   refine cI rfl (fun hc3 => ?_) (fun hc3 => ?_)
   ·
    refine aA (bG rfl (bG rfl ?_))
    refine cA rfl rfl (by omega) (by omega) ?_
    refine bk rfl (aD (bI (aC (aA ?_))))
    refine cA rfl rfl (by omega) (by omega) ?_
    refine bG rfl (aD ?_)
    refine bO (⟨i.1 + 1, by omega⟩) ?_ (by show fl.length - (i.1 + 1) < fl.length - i.1; omega)
    (refine cx.mk' ?_ ?_ <;> (repeat' (first | exact aJ | exact aK | refine aB ?_ (Ty.aU _) | refine aB ?_ (Ty.aF _) | refine aG rfl (Cont.aF _) ?_ | refine aB ?_ ?_)))
    all_goals skip
    all_goals exact Ty.bE (GZ hc3)
   refine aq (bI (aC (aA ?_)))
   refine cA rfl rfl (by omega) (by omega) ?_
   refine bG rfl (aD ?_)
   refine bO (⟨i.1 + 1, by omega⟩) ?_ (by show fl.length - (i.1 + 1) < fl.length - i.1; omega)
   (refine cx.mk' ?_ ?_ <;> (repeat' (first | exact aJ | exact aK | refine aB ?_ (Ty.aU _) | refine aB ?_ (Ty.aF _) | refine aG rfl (Cont.aF _) ?_ | refine aB ?_ ?_)))
   all_goals skip
   all_goals exact Ty.bE (KJ hc3)
  refine cE (aP (aP (aa rfl (aC (aE (aA (bG rfl (bk rfl (aD ?_)))))))))
  refine aC (ay ?_)
  refine iX [1000] rfl rfl (by decide) (by repeat (first | exact gE | refine eC rfl (bh (by decide) rfl) ?_)) ?_
  all_goals skip
  all_goals exact iO (oq rfl rfl (congrArg (Ty.int .i64) ((K4 (by have := i.2; omega)).trans (Lj fl has _))))
 refine aq (aC (aE ?_))
 refine iV (s := 5) rfl (show (Ty.HD fm (cL fl b.1 (y.cells + 1) (cq has less))).Sub (Ty.sl fm (cL fl b.1 (y.cells + 1) (cq has less))) from Ty.Nu) ?_
 have hne : ¬ (cL fl b.1 (y.cells + 1) (cq has less)) = [] := fun e => by rw [e] at hc1; cases hc1
 have hnx := b.2.next hN hn h.bd hG hne
 have hC := hnx.2.2
 have hlen := hC.qb
 refine aA (bk rfl (aD (aC (aE (aE (aA (fN rfl (cK rfl rfl rfl (bG rfl ?_)))))))))
 refine aD (aC (aZ ?_))
 refine cF (fun (j : {j : Nat // j ≤ (cL fl b.1 (y.cells + 1) (cq has less)).length}) => live [(0, Ty.pp (eF y fl 1000 fl.length)), (3, Ty.pp [Ty.nd th h1 h2, Ty.bool less]), (5, Ty.sl fm (cL fl b.1 (y.cells + 1) (cq has less))), (6, Ty.int .i64 (e9 fl b.1 300 ((cL fl b.1 (y.cells + 1) (cq has less)).take j.1))), (19, Ty.sl fm (cL fl b.1 (y.cells + 1) (cq has less))), (20, Ty.int .i64 (cL fl b.1 (y.cells + 1) (cq has less)).length), (21, Ty.int .i64 (j.1 : Nat))] [(1000, Cont.vec cy 3 b.1)]) (fun j => (cL fl b.1 (y.cells + 1) (cq has less)).length - j.1) (⟨0, by omega⟩) ?_ fun j => ?_
 ·(refine cx.mk' ?_ ?_ <;> (repeat' (first | exact aJ | exact aK | refine aB ?_ (Ty.aU _) | refine aB ?_ (Ty.aF _) | refine aG rfl (Cont.aF _) ?_ | refine aB ?_ ?_)))
  all_goals exact Ty.bE (wG _ _ _)
 have hj := j.2
 refine aE (aA (bB rfl rfl rfl (aD (aC (aE ?_)))))
 refine aj rfl (fun hc4 => ?_) (fun hc4 => ?_)
 ·
  refine aq (aC (aE (aZ (aE (aA ?_)))))
  refine av rfl rfl rfl rfl rfl rfl (by omega) ?_
  refine aX rfl rfl rfl (by exact Nat.le_of_ble_eq_true rfl) ?_
  refine bp rfl (by exact List.cons_ne_nil _ _) rfl ?_
  refine bZ rfl rfl (by decide) rfl rfl rfl rfl rfl rfl ?_
  refine aD (aC (aE ?_))
  have hwj := hC.ways _ (cW (xs := (cL fl b.1 (y.cells + 1) (cq has less))) (k := j.1) (by omega))
  refine aA (jo rfl ?_)
  refine bz rfl rfl (by decide) rfl rfl (by exact Nat.le_of_ble_eq_true rfl) ?_
  refine eI [1000] (E5 y fl b.1 hF (nth (cL fl b.1 (y.cells + 1) (cq has less)) j.1) hwj.1) rfl (aW (kN (aW (bT (bR rfl rfl)) (aW (bT (bR rfl rfl)) (aW (bT (bR rfl rfl)) (aW (bT (bR rfl rfl)) (aW (bT (bR rfl rfl)) (aW (jV rfl hal (by decide) rfl) cN))))))) (aW (bT (bR rfl rfl)) cN)) (by exact p4 (by repeat (first | exact qA | refine nx (by exact dX _ _) ?_))) ?_
  refine uH rfl (bQ rfl rfl (bQ rfl rfl (bk rfl (bk rfl (aD (aC (aA (bG rfl (bG rfl ?_)))))))))
  refine bW (E := cy) (xs := [_]) rfl rfl rfl rfl rfl (by decide) (by decide) (by repeat (first | exact (aV.nil : aV _ _ [] _) | (show aV _ _ ((_, _) :: _) _; apply aV.one; (· exact (rfl : _ = Ty.int _ _)); (· exact rfl)))) (by exact rfl) rfl ?_
  refine af (r5 _ _) rfl rfl rfl rfl rfl (bk rfl (aD (bI (aC (aA ?_)))))
  refine cA rfl rfl (by omega) (by omega) ?_
  refine bG rfl (aD ?_)
  refine bO (⟨j.1 + 1, by omega⟩) ?_ (by show (cL fl b.1 (y.cells + 1) (cq has less)).length - (j.1 + 1) < (cL fl b.1 (y.cells + 1) (cq has less)).length - j.1; omega)
  (refine cx.mk' ?_ ?_ <;> (repeat' (first | exact aJ | exact aK | refine aB ?_ (Ty.aU _) | refine aB ?_ (Ty.aF _) | refine aG rfl (Cont.aF _) ?_ | refine aB ?_ ?_)))
  all_goals skip
  all_goals exact Ty.bE (by rw [cT (by omega)]; exact vu)
 refine cE (aP (aP (aa rfl (aC ?_))))
 have hmp := p6 (fl := fl) (a := b.1) (m := 300) (by decide) (cL fl b.1 (y.cells + 1) (cq has less)) hC.ways
 have hml := (sF (fl := fl) (a := b.1) 300 (cL fl b.1 (y.cells + 1) (cq has less))).1
 refine iV (s := 6) rfl (Ty.bE (by rw [List.take_of_length_le (by omega)] : _ = e9 fl b.1 300 (cL fl b.1 (y.cells + 1) (cq has less)))) ?_
 refine aA (jo rfl (fN rfl (bG rfl ?_)))
 refine dI [(1000, 1000)] [] [(1000, Cont.vec cy 3 (dr b.1 (cL fl b.1 (y.cells + 1) (cq has less)) (e9 fl b.1 300 (cL fl b.1 (y.cells + 1) (cq has less)))))] (HK y fl b.1 hF (cL fl b.1 (y.cells + 1) (cq has less)) (by omega) (fun w hw => (hC.ways w hw).1) (e9 fl b.1 300 (cL fl b.1 (y.cells + 1) (cq has less))) (by omega)) rfl rfl (aM (aM (aM bU (aT rfl rfl)) (aT rfl rfl)) (e8 (aM (aM (aM (aM (aM (aM bU (dZ (by exact List.mem_cons_self))) (aT rfl rfl)) (aT rfl rfl)) (aT rfl rfl)) (aT rfl rfl)) (aT rfl rfl)))) (cz (a := 1000) (b := 1000) (by exact List.mem_cons_self) rfl (bh (by exact List.mem_cons_self) rfl) pre_nil) (bg (a := 1000) (b := 1000) (by decide) rfl (bh (by decide) rfl) post_nil) (aT rfl rfl) ?_
 refine aD (bI ?_)
 refine bO (⟨dr b.1 (cL fl b.1 (y.cells + 1) (cq has less)) (e9 fl b.1 300 (cL fl b.1 (y.cells + 1) (cq has less))), hnx.1⟩) ?_ (by exact hnx.2.1)
 (refine cx.mk' ?_ ?_ <;> (repeat' (first | exact aJ | exact aK | refine aB ?_ (Ty.aU _) | refine aB ?_ (Ty.aF _) | refine aG rfl (Cont.aF _) ?_)))
 all_goals skip
set_option maxRecDepth 100000 in
theorem DG (y : ak) (fl : List bu) (a : List Int) (h : lN y fl a) (hfe : gX fl (y.cells + 1) a) (th : Ty) (h1 : th.deps = []) (h2 : th.cdeps = []) (has : Nat → Bool) (hf : ∀ i, i < fl.length → oM Tryz.prog (Ty.nd th h1 h2) [Ty.int .i64 ((i : Nat) : Int)] (Ty.bool (has i))) (ho : th.one = true) : eM Tryz.prog 87 [1000] [(1000, Cont.vec cy 3 a)] [Ty.pp (eF y fl 1000 fl.length), Ty.nd th h1 h2] [(1000, Cont.vec cy 3 (yl fl (y.cells + 1) has a))] (Ty.agg (bl.tys (gk fl (y.cells + 1) has))) := by
 refine fL Tryz.func87 rfl (by decide) Tryz.ntmps87 (by exact Nat.le_of_ble_eq_true rfl) fun w0 M0 => ?_
 have hsp := rm (has := has) h.net (Nat.succ_pos _) h.bd hfe
 have hF : lN y fl (BD fl (y.cells + 1) has a) := ⟨h.right, h.net, h.bd, hsp.1.1, h.qb⟩
 refine aE (aA ?_)
 refine bp rfl (by exact List.cons_ne_nil _ _) rfl ?_
 refine aD (aC (aE (aA (jo rfl ?_))))
 refine eA (ty := Ty.nd th h1 h2) rfl ?_
 refine dG rfl rfl (by exact List.cons_ne_nil _ _) rfl (aV.one (ty := Ty.nd th h1 h2) rfl ho (aV.one (ty := Ty.bool true) rfl rfl aV.nil)) (by exact (rfl : _ = some [_, _])) ?_
 refine dI [(1000, 1000)] [] [(1000, Cont.vec cy 3 (BD fl (y.cells + 1) has a))] (HU y fl a h hfe th h1 h2 has hf true) rfl rfl (aM (aM bU (aT rfl rfl)) (e8 (aM (aM (aM (aM (aM (aM bU (dZ (by exact List.mem_cons_self))) (aT rfl rfl)) (aT rfl rfl)) (aT rfl rfl)) (aT rfl rfl)) (aT rfl rfl)))) (cz (a := 1000) (b := 1000) (by exact List.mem_cons_self) rfl (bh (by exact List.mem_cons_self) rfl) pre_nil) (bg (a := 1000) (b := 1000) (by decide) rfl (bh (by decide) (lo_eq _ _ _ _)) post_nil) (aT rfl rfl) ?_
 refine bk rfl (aD (aC (aE (aA (bG rfl (jo rfl ?_))))))
 refine eA (ty := Ty.nd th h1 h2) rfl ?_
 refine dG rfl rfl (by exact List.cons_ne_nil _ _) rfl (aV.one (ty := Ty.nd th h1 h2) rfl ho (aV.one (ty := Ty.bool false) rfl rfl aV.nil)) (by exact (rfl : _ = some [_, _])) ?_
 refine dI [(1000, 1000)] [] [(1000, Cont.vec cy 3 (yl fl (y.cells + 1) has a))] (HU y fl (BD fl (y.cells + 1) has a) hF hsp.1 th h1 h2 has hf false) rfl rfl (aM (aM bU (aT rfl rfl)) (e8 (aM (aM (aM (aM (aM (aM bU (dZ (by exact List.mem_cons_self))) (aT rfl rfl)) (aT rfl rfl)) (aT rfl rfl)) (aT rfl rfl)) (aT rfl rfl)))) (cz (a := 1000) (b := 1000) (by exact List.mem_cons_self) rfl (bh (by exact List.mem_cons_self) rfl) pre_nil) (bg (a := 1000) (b := 1000) (by decide) rfl (bh (by decide) (hi_eq _ _ _ _)) post_nil) (aT rfl rfl) ?_
 refine dG rfl rfl (by exact List.cons_ne_nil _ _) rfl (by repeat (first | exact (aV.nil : aV _ _ [] _) | (show aV _ _ ((_, _) :: _) _; apply aV.one; (· exact (rfl : _ = Ty.int _ _)); (· exact rfl)))) (by exact (rfl : _ = some [_, _])) ?_
 refine bZ rfl rfl (by decide) rfl rfl rfl rfl rfl rfl ?_
 refine aD (aC (ay ?_))
 refine LI [1000] rfl rfl rfl rfl (by decide) rfl rfl rfl (by decide) (by repeat (first | exact gE | refine eC rfl (bh (by decide) rfl) ?_)) ?_
 all_goals skip
 all_goals exact iO (oq rfl rfl (congrArg (fun s => Ty.agg (bl.tys s)) (MN h.net (Nat.succ_pos _) h.bd hfe)))
set_option maxRecDepth 100000 in
theorem Nm (y : ak) (c : Nat → Bool) (a : List Int) (hr : y.cG) (hl : a.length = (aQ y c).length) : dK Tryz.prog 120 [Ty.pp (mB y (aQ y c) a)] (yD (gB y a)) := by
 refine ah Tryz.func120 rfl (by decide) Tryz.ntmps120 (by exact Nat.le_of_ble_eq_true rfl) fun w0 M0 => ?_
 have hfl := fF (y := y) (c := c)
 have h1 := hr.bins
 have h2 := hr.days
 have h3 := D_eq hr
 have h4 := hr.moves
 have hf34 : (aQ y c).length ≤ 34 := j6 hr
 refine aE (aA ?_)
 refine bp rfl (by exact List.cons_ne_nil _ _) rfl ?_
 refine aD (aC (aE (aA ?_)))
 refine bp rfl (by exact List.cons_ne_nil _ _) rfl ?_
 refine aD (aC (aE (aE (aA (jo rfl (bq rfl ?_))))))
 refine aH rfl rfl rfl rfl rfl (by decide) ?_
 refine aH rfl rfl rfl rfl rfl (by decide) ?_
 refine aI rfl rfl rfl rfl (cK rfl rfl rfl (bG rfl (aD (aC (aZ ?_)))))
 refine cF (fun (k : {k : Nat // k ≤ y.bins.length}) => live [(0, Ty.pp (mB y (aQ y c) a)), (2, Ty.ptr 3 0), (3, Ty.ptr 4 0), (9, Ty.sl fC y.bins), (10, Ty.int .i64 y.bins.length), (11, Ty.int .i64 (k.1 : Nat))] [(3, Cont.cells 30 [Ty.ex (.slice none 0 0), Ty.ex (.slice none 0 0)]), (4, Cont.cells 30 [Ty.row cy 3 26 (iE y a k.1), Ty.ex (.slice none 0 0)])]) (fun k => y.bins.length - k.1) (⟨0, by omega⟩) ?_ fun k => ?_
 ·(refine cx.mk' ?_ ?_ <;> (repeat' (first | exact aJ | exact aK | exact dD | refine aB ?_ (Ty.aU _) | refine aB ?_ (Ty.aF _) | refine aG rfl (Cont.aF _) ?_ | refine aG rfl (Cont.dF ?_) ?_ | refine bM ?_ (Ty.aF _) | refine bM ?_ ?_)))
  all_goals exact IY CE
 have hk := k.2
 have hfk := C5 (y := y) (a := a) k.1
 refine aE (aA (bB rfl rfl rfl (aD (aC (aE ?_)))))
 refine aj rfl (fun hc1 => ?_) (fun hc1 => ?_)
 ·
  refine aq (aC (aE (aZ (aE (aA (bG rfl (bk rfl (aD (aC ?_)))))))))
  have hkl := HR hl (show k.1 < y.bins.length by omega)
  refine cP mixed rfl ?_
  refine aR rfl rfl rfl rfl rfl (by decide) ?_
  refine aY rfl rfl (by decide) rfl rfl rfl ?_
  refine jo rfl (bq rfl ?_)
  refine aH rfl rfl rfl rfl rfl (by decide) ?_
  refine aI rfl rfl rfl rfl (jo rfl (bG rfl ?_))
  refine eI [] (Cv y hr k.1 0 (by omega) (Nat.zero_le _)) rfl (aW (mV (l1 := bH y) (l2 := [Ty.sl dg (aQ y c), Ty.sl cy a]) rfl rfl) (aW (bT (bR rfl rfl)) (aW (bT (bR rfl rfl)) cN))) (by exact dX _ _) ?_
  refine av rfl rfl rfl rfl rfl rfl (by omega) ?_
  refine aI rfl rfl rfl rfl ?_
  refine bW (E := cy) (xs := [_]) rfl rfl rfl rfl rfl (by decide) (by decide) (by repeat (first | exact (aV.nil : aV _ _ [] _) | (show aV _ _ ((_, _) :: _) _; apply aV.one; (· exact (rfl : _ = Ty.int _ _)); (· exact rfl)))) (by exact rfl) rfl ?_
  refine dw rfl rfl (by decide) rfl rfl rfl rfl rfl rfl (by decide) (by (simp <;> omega)) (by (simp <;> omega)) ?_
  refine aR rfl rfl rfl rfl rfl (by decide) ?_
  refine cm rfl rfl (by decide) rfl rfl (by exact (rfl : _ = Ty.row _ _ _ _)) rfl (by exact Nat.le_of_ble_eq_true rfl) rfl rfl (by exact rfl) ?_
  refine aD ?_
  refine ⟨by kernel_rfl, ?_⟩
  refine bI (aC (aA ?_))
  refine cA rfl rfl (by omega) (by omega) ?_
  refine bG rfl (aD ?_)
  refine bO (⟨k.1 + 1, by omega⟩) ?_ (by show y.bins.length - (k.1 + 1) < y.bins.length - k.1; omega)
  (refine cx.mk' ?_ ?_ <;> (repeat' (first | exact aJ | exact aK | exact dD | refine aB ?_ (Ty.aU _) | refine aB ?_ (Ty.aF _) | refine aG rfl (Cont.aF _) ?_ | refine aG rfl (Cont.dF ?_) ?_ | refine bM ?_ (Ty.aF _) | refine bM ?_ ?_)))
  all_goals skip
  all_goals exact Ty.fH (A9 _)
 refine cE (aP (aP (aa rfl (aC (aE (cP mixed rfl (jo rfl (bq rfl ?_))))))))
 refine aH rfl rfl rfl rfl rfl (by decide) ?_
 refine aI rfl rfl rfl rfl (jo rfl (bq rfl ?_))
 refine aH rfl rfl rfl rfl rfl (by decide) ?_
 refine aI rfl rfl rfl rfl (cK rfl rfl rfl (jo rfl (bq rfl ?_)))
 refine aH rfl rfl rfl rfl rfl (by decide) ?_
 refine aH rfl rfl rfl rfl rfl (by decide) ?_
 refine aI rfl rfl rfl rfl (cK rfl rfl rfl ?_)
 refine gR rfl rfl (by omega) (by omega) ?_
 refine I7 (lo := y.bins.length * (y.D + 1)) rfl (by exact congrArg (Ty.int .i64) (by rw [hfl]; omega : ((aQ y c).length : Int) - (y.moves.length : Int) = ((y.bins.length * (y.D + 1) : Nat) : Int))) rfl rfl rfl rfl (by rw [hl]; omega) ?_
 refine af (B3 _ (by rw [List.length_drop]; omega)) rfl rfl rfl rfl rfl ?_
 refine aR rfl rfl rfl rfl rfl (by decide) ?_
 refine cm rfl rfl (by decide) rfl rfl (by exact (rfl : _ = Ty.sl _ _)) rfl (by exact Nat.le_of_ble_eq_true rfl) rfl rfl (by exact rfl) ?_
 refine aD ?_
 refine ⟨by kernel_rfl, ?_⟩
 refine aC (aE (aA ?_))
 refine bz rfl rfl (by decide) rfl rfl (by exact Nat.le_of_ble_eq_true rfl) ?_
 refine bZ rfl rfl (by decide) rfl rfl rfl rfl rfl rfl ?_
 refine aD (aC (ay ?_))
 refine lG rfl rfl rfl rfl (by decide) rfl rfl rfl ?_
 exact EG (ts := mG (gB y a)) (pU (xG (by decide) (show iE y a k.1 = (gB y a).first by rw [show k.1 = y.bins.length by have := k.2; omega]; exact congrArg dY.first (told_eq y a))) (pU (b9 rfl rfl) CQ))
end Go.Proofs.YtelbollidfdcjaaGreat
