/- Lemmas: the program and the reference walked, plain laws. -/
import Derived.Test.YtelbollidfdcjaaGreatMb
namespace Go.Proofs.YtelbollidfdcjaaGreat
open Go Go.T
set_option maxHeartbeats 2000000
structure au.Small (y : au) : Prop where
  bins : y.bins.length ≤ 1000
  moves : y.moves.length ≤ 1000
  levels : y.levels.length ≤ 1000
def yh (y : au) : Ty := Ty.RI 135 [dr y]
def Hs (y : au) : Ty := Ty.pp [Ty.jw 142 [Ty.pp [yh y]]]
theorem G5 {y : au} (h : k6 y = false) : 1 ≤ y.days ∧ y.days ≤ 5 := by
 unfold k6 at h
 simp only [Bool.or_eq_false_iff, Bool.not_eq_false', fQ] at h
 exact h.1.1.1
def eC (y : au) (k : Int) : Int := if bL y = 0 then if y.bin k = true then 0 else 1 else bL y
theorem Gg {y : au} {k : Int} (h : (decide (bL y = 0) && !y.bin k) = true) : 1 = eC y k := by
 rw [Bool.and_eq_true, decide_eq_true_eq, Bool.not_eq_true'] at h
 unfold eC; rw [if_pos h.1, if_neg (by rw [h.2]; decide)]
theorem IA {y : au} {k : Int} (h : (decide (bL y = 0) && !y.bin k) = false) : bL y = eC y k := by
 unfold eC
 by_cases e : bL y = 0
 ·rw [decide_eq_true e, Bool.true_and, Bool.not_eq_false'] at h
  rw [if_pos e, if_pos h, e]
 rw [if_neg e]
attribute [local irreducible] gL eX lN nh gy g6 gu gw gx nj gr ni dN fX nH fu nZ nth fP dQ bA dJ bodyPost Exit.then Exit.inBlock Code.wp Code.wpIn nW g7 nY nV g8 eP cL cM bodyPostM dR
set_option maxRecDepth 100000 in
theorem uN (n lo hi : Int) : dJ Tryz.prog 111 [Ty.int .i64 n, Ty.int .i64 lo, Ty.int .i64 hi] (Ty.bool (AI n lo hi)) := by
 refine ak Tryz.func111 rfl (by decide) Tryz.ntmps111 (by exact Nat.le_of_ble_eq_true rfl) fun w0 M0 => ?_
 refine aE (aA (cm rfl (aD (aC (aE (aA (bF rfl (bF rfl (bB rfl rfl rfl ?_)))))))))
 refine eO rfl ?_
 apply aM (s := 10) rfl rfl rfl
 ·intro hg; apply aO; (refine bF rfl ?_); refine aD ?_; exact rfl
 ·exact rfl
 ·exact rfl
 apply aM (s := 10) rfl rfl rfl
 ·intro hg; apply aO; (refine bF rfl ?_); refine aD ?_; exact rfl
 ·exact rfl
 ·exact rfl
 apply aM (s := 10) rfl rfl rfl
 ·intro hg; apply aK (s := 11) rfl (by (rw [hg]; rfl)); apply aK (s := 12) rfl (by (rw [hg]; rfl)); apply aO; (refine bB rfl rfl rfl ?_); refine aD ?_; exact rfl
 ·exact rfl
 ·exact rfl
 refine dV rfl rfl (cm rfl (aD (aC (az (bR rfl rfl ?_)))))
 all_goals exact cG rfl rfl
set_option maxRecDepth 100000 in
theorem Fg (y : au) (hs : y.Small) (n : Int) : dJ Tryz.prog 135 [dr y, Ty.int .i64 n] (Ty.bool (y.bin n)) := by
 refine ak Tryz.func135 rfl (by decide) Tryz.ntmps135 (by exact Nat.le_of_ble_eq_true rfl) fun w0 M0 => ?_
 have hs1 := hs.bins
 refine aE (aA (bD rfl (cm rfl (aD (aC (aE (aA (bF rfl ?_))))))))
 refine aL rfl rfl rfl rfl rfl (by decide) ?_
 refine aJ rfl rfl rfl rfl (cD rfl rfl rfl ?_)
 refine gH rfl rfl (by omega) (by omega) ?_
 refine af (uN _ _ _) rfl rfl rfl rfl rfl (cm rfl (aD (aC (az (bR rfl rfl ?_)))))
 all_goals exact cG rfl rfl
set_option maxRecDepth 100000 in
theorem Pa (y : au) (n : Int) : dJ Tryz.prog 122 [dr y, Ty.int .i64 n] (Ty.bool (y.time n)) := by
 refine ak Tryz.func122 rfl (by decide) Tryz.ntmps122 (by exact Nat.le_of_ble_eq_true rfl) fun w0 M0 => ?_
 refine aE (aA (bD rfl (cm rfl (aD (aC (aE (aA (bF rfl ?_))))))))
 refine aL rfl rfl rfl rfl rfl (by decide) ?_
 refine aJ rfl rfl rfl rfl (af (uN _ _ _) rfl rfl rfl rfl rfl (cm rfl (aD (aC (az (bR rfl rfl ?_))))))
 all_goals exact cG rfl rfl
set_option maxRecDepth 100000 in
theorem uW (s : Span) : dJ Tryz.prog 145 [Ty.agg (bw.tys s)] (Ty.bool (fF s)) := by
 refine ak Tryz.func145 rfl (by decide) Tryz.ntmps145 (by exact Nat.le_of_ble_eq_true rfl) fun w0 M0 => ?_
 refine aE (aA (bD rfl (cm rfl (aD (aC (aE (aA ?_)))))))
 refine aL rfl rfl rfl rfl rfl (by decide) ?_
 refine aJ rfl rfl rfl rfl (af (uN _ _ _) rfl rfl rfl rfl rfl (eO rfl ?_))
 apply aM (s := 6) rfl rfl rfl
 ·intro hg; apply aO; (refine aL rfl rfl rfl rfl rfl (by decide) ?_); refine aD ?_; exact rfl
 ·exact rfl
 ·exact rfl
 apply aM (s := 6) rfl rfl rfl
 ·intro hg; apply aK (s := 7) rfl (by (rw [hg]; rfl)); apply aO; (refine aJ rfl rfl rfl rfl ?_); refine aD ?_; exact rfl
 ·exact rfl
 ·exact rfl
 apply aM (s := 6) rfl rfl rfl
 ·intro hg; apply aK (s := 8) rfl (by (rw [hg]; rfl)); apply aO; (refine af (uN _ _ _) rfl rfl rfl rfl rfl ?_); refine aD ?_; exact rfl
 ·exact rfl
 ·exact rfl
 refine dV rfl rfl (cm rfl (aD (aC (az (bR rfl rfl ?_)))))
 all_goals exact cG rfl rfl
set_option maxRecDepth 100000 in
theorem wG (s : Span) : dJ Tryz.prog 154 [Ty.agg (bw.tys s)] (Ty.bool (fZ s)) := by
 refine ak Tryz.func154 rfl (by decide) Tryz.ntmps154 (by exact Nat.le_of_ble_eq_true rfl) fun w0 M0 => ?_
 refine aE (aA (bD rfl (cm rfl (aD (aC (aE (aA ?_)))))))
 refine aL rfl rfl rfl rfl rfl (by decide) ?_
 refine aJ rfl rfl rfl rfl ?_
 refine aL rfl rfl rfl rfl rfl (by decide) ?_
 refine aJ rfl rfl rfl rfl (bB rfl rfl rfl (cm rfl (aD (aC (az (bR rfl rfl ?_))))))
 all_goals exact cG rfl rfl
set_option maxRecDepth 100000 in
theorem Cp (y : au) (hs : y.Small) (n : Int) : dJ Tryz.prog 142 [Ty.int .i64 n, Ty.pp [yh y]] (Ty.bool (y.fin n)) := by
 refine ak Tryz.func142 rfl (by decide) Tryz.ntmps142 (by exact Nat.le_of_ble_eq_true rfl) fun w0 M0 => ?_
 refine aE (aA (cm rfl (aD (aC (aE (aA (bF rfl (bB rfl rfl rfl (eO rfl ?_)))))))))
 apply aM (s := 6) rfl rfl rfl
 ·intro hg; apply aO; (refine aJ rfl rfl rfl rfl ?_); refine aD ?_; exact rfl
 ·exact rfl
 ·exact rfl
 apply aM (s := 6) rfl rfl rfl
 ·intro hg; apply aO; (refine bF rfl ?_); refine aD ?_; exact rfl
 ·exact rfl
 ·exact rfl
 apply aM (s := 6) rfl rfl rfl
 ·intro hg; apply aK (s := 7) rfl (by (rw [hg]; rfl)); apply aK (s := 8) rfl (by (rw [hg]; rfl)); apply aO; (refine eV rfl (FL (Fg y hs n) rfl rfl rfl rfl rfl rfl) rfl ?_); refine aD ?_; exact rfl
 ·exact rfl
 ·exact rfl
 refine ir rfl rfl (cm rfl (aD (aC (az (bR rfl rfl ?_)))))
 all_goals exact cG rfl rfl
set_option maxRecDepth 100000 in
theorem LJ (b : tC) : dJ Tryz.prog 144 [Ty.agg (fN.tys b)] (Ty.bool (AI b.holds 0 300 && fF b.first)) := by
 refine ak Tryz.func144 rfl (by decide) Tryz.ntmps144 (by exact Nat.le_of_ble_eq_true rfl) fun w0 M0 => ?_
 refine aE (aA (bD rfl (cm rfl (aD (aC (aE (aA ?_)))))))
 refine aL rfl rfl rfl rfl rfl (by decide) ?_
 refine aJ rfl rfl rfl rfl (af (uN _ _ _) rfl rfl rfl rfl rfl (eO rfl ?_))
 apply aM (s := 6) rfl rfl rfl
 ·intro hg; apply aO; (refine aL rfl rfl rfl rfl rfl (by decide) ?_); refine aD ?_; exact rfl
 ·exact rfl
 ·exact rfl
 apply aM (s := 6) rfl rfl rfl
 ·intro hg; apply aK (s := 7) rfl (by (rw [hg]; rfl)); apply aO; (refine aX rfl rfl rfl (by exact Nat.le_of_ble_eq_true rfl) ?_); refine aD ?_; exact rfl
 ·exact rfl
 ·exact rfl
 apply aM (s := 6) rfl rfl rfl
 ·intro hg; apply aK (s := 8) rfl (by (rw [hg]; rfl)); apply aO; (refine af (uW _) rfl rfl rfl rfl rfl ?_); refine aD ?_; exact rfl
 ·exact rfl
 ·exact rfl
 refine dV rfl rfl (cm rfl (aD (aC (az (bR rfl rfl ?_)))))
 all_goals exact cG rfl rfl
set_option maxRecDepth 100000 in
theorem Kc (m : Move) : dJ Tryz.prog 147 [Ty.agg (eH.tys m)] (Ty.bool (fF m.sacks)) := by
 refine ak Tryz.func147 rfl (by decide) Tryz.ntmps147 (by exact Nat.le_of_ble_eq_true rfl) fun w0 M0 => ?_
 refine aE (aA (bD rfl (cm rfl (aD (aC (aE (aA ?_)))))))
 refine aL rfl rfl rfl rfl rfl (by decide) ?_
 refine aX rfl rfl rfl (by exact Nat.le_of_ble_eq_true rfl) ?_
 refine af (uW _) rfl rfl rfl rfl rfl (cm rfl (aD (aC (az (bR rfl rfl ?_)))))
 all_goals exact cG rfl rfl
set_option maxRecDepth 100000 in
theorem La (l : Level) : dJ Tryz.prog 149 [Ty.agg (dX.tys l)] (Ty.bool (fF l.sacks)) := by
 refine ak Tryz.func149 rfl (by decide) Tryz.ntmps149 (by exact Nat.le_of_ble_eq_true rfl) fun w0 M0 => ?_
 refine aE (aA (bD rfl (cm rfl (aD (aC (aE (aA ?_)))))))
 refine aL rfl rfl rfl rfl rfl (by decide) ?_
 refine aX rfl rfl rfl (by exact Nat.le_of_ble_eq_true rfl) ?_
 refine af (uW _) rfl rfl rfl rfl rfl (cm rfl (aD (aC (az (bR rfl rfl ?_)))))
 all_goals exact cG rfl rfl
set_option maxRecDepth 100000 in
theorem K0 (y : au) (hs : y.Small) (hd : 1 ≤ y.days ∧ y.days ≤ 5) (m : Move) : dJ Tryz.prog 150 [Ty.agg (eH.tys m), Ty.pp (bE y), Hs y] (Ty.bool ((AI m.day 0 (y.days - 1) && y.fin m.src) && y.fin m.dst)) := by
 refine ak Tryz.func150 rfl (by decide) Tryz.ntmps150 (by exact Nat.le_of_ble_eq_true rfl) fun w0 M0 => ?_
 refine aE (aA (bD rfl (cm rfl (aD (aC (aE (aA ?_)))))))
 refine aL rfl rfl rfl rfl rfl (by decide) ?_
 refine aJ rfl rfl rfl rfl ?_
 refine aL rfl rfl rfl rfl rfl (by decide) ?_
 refine aJ rfl rfl rfl rfl ?_
 refine gH rfl rfl (by omega) (by omega) ?_
 refine af (uN _ _ _) rfl rfl rfl rfl rfl (eO rfl ?_)
 apply aM (s := 11) rfl rfl rfl
 ·intro hg; apply aO; (refine aJ rfl rfl rfl rfl ?_); refine aD ?_; exact rfl
 ·exact rfl
 ·exact rfl
 apply aM (s := 11) rfl rfl rfl
 ·intro hg; apply aO; (refine aL rfl rfl rfl rfl rfl (by decide) ?_); refine aD ?_; exact rfl
 ·exact rfl
 ·exact rfl
 apply aM (s := 11) rfl rfl rfl
 ·intro hg; apply aK (s := 13) rfl (by (rw [hg]; rfl)); apply aO; (refine aJ rfl rfl rfl rfl ?_); refine aD ?_; exact rfl
 ·exact rfl
 ·exact rfl
 apply aM (s := 11) rfl rfl rfl
 ·intro hg; apply aK (s := 12) rfl (by (rw [hg]; rfl)); apply aK (s := 14) rfl (by (rw [hg]; rfl)); apply aO; (refine eV rfl (dU (Cp y hs m.src) rfl rfl rfl rfl rfl rfl) rfl ?_); refine aD ?_; exact rfl
 ·exact rfl
 ·exact rfl
 refine dV rfl rfl (eO rfl ?_)
 apply aM (s := 17) rfl rfl rfl
 ·intro hg; apply aO; (refine aJ rfl rfl rfl rfl ?_); refine aD ?_; exact rfl
 ·exact rfl
 ·exact rfl
 apply aM (s := 17) rfl rfl rfl
 ·intro hg; apply aO; (refine aL rfl rfl rfl rfl rfl (by decide) ?_); refine aD ?_; exact rfl
 ·exact rfl
 ·exact rfl
 apply aM (s := 17) rfl rfl rfl
 ·intro hg; apply aK (s := 19) rfl (by (rw [hg]; rfl)); apply aO; (refine aJ rfl rfl rfl rfl ?_); refine aD ?_; exact rfl
 ·exact rfl
 ·exact rfl
 apply aM (s := 17) rfl rfl rfl
 ·intro hg; apply aK (s := 18) rfl (by (rw [hg]; rfl)); apply aK (s := 20) rfl (by (rw [hg]; rfl)); apply aO; (refine eV rfl (dU (Cp y hs m.dst) rfl rfl rfl rfl rfl rfl) rfl ?_); refine aD ?_; exact rfl
 ·exact rfl
 ·exact rfl
 refine dV rfl rfl (cm rfl (aD (aC (az (bR rfl rfl ?_)))))
 all_goals exact cG rfl rfl
set_option maxRecDepth 100000 in
theorem JP (y : au) (hs : y.Small) (l : Level) : dJ Tryz.prog 151 [Ty.agg (dX.tys l), Ty.pp (bE y), Ty.pp [yh y]] (Ty.bool (y.time l.day && y.bin l.bin)) := by
 refine ak Tryz.func151 rfl (by decide) Tryz.ntmps151 (by exact Nat.le_of_ble_eq_true rfl) fun w0 M0 => ?_
 refine aE (aA (bD rfl (cm rfl (aD (aC (aE (aA ?_)))))))
 refine aX rfl rfl rfl (by exact Nat.le_of_ble_eq_true rfl) ?_
 refine aL rfl rfl rfl rfl rfl (by decide) ?_
 refine aJ rfl rfl rfl rfl (af (Pa y _) rfl rfl rfl rfl rfl (eO rfl ?_))
 apply aM (s := 9) rfl rfl rfl
 ·intro hg; apply aO; (refine aJ rfl rfl rfl rfl ?_); refine aD ?_; exact rfl
 ·exact rfl
 ·exact rfl
 apply aM (s := 9) rfl rfl rfl
 ·intro hg; apply aO; (refine aL rfl rfl rfl rfl rfl (by decide) ?_); refine aD ?_; exact rfl
 ·exact rfl
 ·exact rfl
 apply aM (s := 9) rfl rfl rfl
 ·intro hg; apply aK (s := 11) rfl (by (rw [hg]; rfl)); apply aO; (refine aJ rfl rfl rfl rfl ?_); refine aD ?_; exact rfl
 ·exact rfl
 ·exact rfl
 apply aM (s := 9) rfl rfl rfl
 ·intro hg; apply aK (s := 10) rfl (by (rw [hg]; rfl)); apply aK (s := 12) rfl (by (rw [hg]; rfl)); apply aO; (refine eV rfl (FL (Fg y hs l.bin) rfl rfl rfl rfl rfl rfl) rfl ?_); refine aD ?_; exact rfl
 ·exact rfl
 ·exact rfl
 refine dV rfl rfl (cm rfl (aD (aC (az (bR rfl rfl ?_)))))
 all_goals exact cG rfl rfl
set_option maxRecDepth 100000 in
theorem JC (m : Move) : dJ Tryz.prog 152 [Ty.agg (eH.tys m)] (Ty.bool (!decide (m.src = m.dst))) := by
 refine ak Tryz.func152 rfl (by decide) Tryz.ntmps152 (by exact Nat.le_of_ble_eq_true rfl) fun w0 M0 => ?_
 refine aE (aA (bD rfl (cm rfl (aD (aC (aE (aA ?_)))))))
 refine aL rfl rfl rfl rfl rfl (by decide) ?_
 refine aJ rfl rfl rfl rfl ?_
 refine aL rfl rfl rfl rfl rfl (by decide) ?_
 refine aJ rfl rfl rfl rfl (bB rfl rfl rfl (cm rfl (aD (aC (az (bR rfl rfl ?_))))))
 all_goals exact cG rfl rfl
set_option maxRecDepth 100000 in
theorem I3 (b : tC) : dJ Tryz.prog 153 [Ty.agg (fN.tys b)] (Ty.bool (fZ b.first)) := by
 refine ak Tryz.func153 rfl (by decide) Tryz.ntmps153 (by exact Nat.le_of_ble_eq_true rfl) fun w0 M0 => ?_
 refine aE (aA (bD rfl (cm rfl (aD (aC (aE (aA ?_)))))))
 refine aL rfl rfl rfl rfl rfl (by decide) ?_
 refine aX rfl rfl rfl (by exact Nat.le_of_ble_eq_true rfl) ?_
 refine af (wG _) rfl rfl rfl rfl rfl (cm rfl (aD (aC (az (bR rfl rfl ?_)))))
 all_goals exact cG rfl rfl
set_option maxRecDepth 100000 in
theorem JL (m : Move) : dJ Tryz.prog 155 [Ty.agg (eH.tys m)] (Ty.bool (fZ m.sacks)) := by
 refine ak Tryz.func155 rfl (by decide) Tryz.ntmps155 (by exact Nat.le_of_ble_eq_true rfl) fun w0 M0 => ?_
 refine aE (aA (bD rfl (cm rfl (aD (aC (aE (aA ?_)))))))
 refine aL rfl rfl rfl rfl rfl (by decide) ?_
 refine aX rfl rfl rfl (by exact Nat.le_of_ble_eq_true rfl) ?_
 refine af (wG _) rfl rfl rfl rfl rfl (cm rfl (aD (aC (az (bR rfl rfl ?_)))))
 all_goals exact cG rfl rfl
set_option maxRecDepth 100000 in
theorem Gb (l : Level) : dJ Tryz.prog 156 [Ty.agg (dX.tys l)] (Ty.bool (fZ l.sacks)) := by
 refine ak Tryz.func156 rfl (by decide) Tryz.ntmps156 (by exact Nat.le_of_ble_eq_true rfl) fun w0 M0 => ?_
 refine aE (aA (bD rfl (cm rfl (aD (aC (aE (aA ?_)))))))
 refine aL rfl rfl rfl rfl rfl (by decide) ?_
 refine aX rfl rfl rfl (by exact Nat.le_of_ble_eq_true rfl) ?_
 refine af (wG _) rfl rfl rfl rfl rfl (cm rfl (aD (aC (az (bR rfl rfl ?_)))))
 all_goals exact cG rfl rfl
set_option maxRecDepth 100000 in
theorem kW (y : au) (hs : y.Small) : dJ Tryz.prog 70 [dr y] (Ty.int .i64 (bL y)) := by
 refine ak Tryz.func70 rfl (by decide) Tryz.ntmps70 (by exact Nat.le_of_ble_eq_true rfl) fun w0 M0 => ?_
 have hs1 := hs.bins
 have hs2 := hs.moves
 have hs3 := hs.levels
 refine aE (aA (bD rfl (bZ rfl (aD (aC (aE (aA ?_)))))))
 refine aX rfl rfl rfl (by exact Nat.le_of_ble_eq_true rfl) ?_
 refine H7 (l := [dr y]) rfl ?_
 refine bu rfl (by exact List.cons_ne_nil _ _) rfl ?_
 refine cv rfl rfl (by decide) rfl rfl (by exact (rfl : _ = Ty.RI _ _)) rfl (by exact Nat.le_of_ble_eq_true rfl) rfl rfl (by exact (rfl : _ = [_])) ?_
 refine aD (aC (aE ?_))
 refine k8 (tg := 4) [(3, Ty.pp [yh y])] (by decide) rfl ⟨mM (T := 118) (tg := 4) (off := 0) (l := [yh y]) rfl rfl rfl (by decide), trivial⟩ ?_
 refine aA (dK rfl ?_)
 refine bu rfl (by exact List.cons_ne_nil _ _) rfl ?_
 refine cv rfl rfl (by decide) rfl rfl (by exact (rfl : _ = Ty.jw _ _)) rfl (by exact Nat.le_of_ble_eq_true rfl) rfl rfl (by exact (rfl : _ = [_])) ?_
 refine aD (aC (aE (aY (aE ?_))))
 refine k8 (tg := 5) [(4, Hs y)] (by decide) rfl ⟨mM (T := 118) (tg := 5) (off := 0) (l := [Ty.jw 142 [Ty.pp [yh y]]]) rfl rfl rfl (by decide), trivial⟩ ?_
 refine aA ?_
 refine aL rfl rfl rfl rfl rfl (by decide) ?_
 refine aJ rfl rfl rfl rfl (af (uN _ _ _) rfl rfl rfl rfl rfl (dm rfl (eO rfl ?_)))
 apply aM (s := 13) rfl rfl rfl
 ·intro hg; apply aO; (refine aL rfl rfl rfl rfl rfl (by decide) ?_); refine aD ?_; exact rfl
 ·exact rfl
 ·exact rfl
 apply aM (s := 13) rfl rfl rfl
 ·intro hg; apply aK (s := 14) rfl (by (rw [hg]; rfl)); apply aO; (refine aJ rfl rfl rfl rfl ?_); refine aD ?_; exact rfl
 ·exact rfl
 ·exact rfl
 apply aM (s := 13) rfl rfl rfl
 ·intro hg; apply aK (s := 15) rfl (by (rw [hg]; rfl)); apply aO; (refine cD rfl rfl rfl ?_); refine aD ?_; exact rfl
 ·exact rfl
 ·exact rfl
 apply aM (s := 13) rfl rfl rfl
 ·intro hg; apply aK (s := 16) rfl (by (rw [hg]; rfl)); apply aO; (refine af (uN _ _ _) rfl rfl rfl rfl rfl ?_); refine aD ?_; exact rfl
 ·exact rfl
 ·exact rfl
 apply aM (s := 13) rfl rfl rfl
 ·intro hg; apply aK (s := 17) rfl (by (rw [hg]; rfl)); apply aO; (refine dm rfl ?_); refine aD ?_; exact rfl
 ·exact rfl
 ·exact rfl
 refine ir rfl rfl (eO rfl ?_)
 apply aM (s := 20) rfl rfl rfl
 ·intro hg; apply aO; (refine aL rfl rfl rfl rfl rfl (by decide) ?_); refine aD ?_; exact rfl
 ·exact rfl
 ·exact rfl
 apply aM (s := 20) rfl rfl rfl
 ·intro hg; apply aK (s := 21) rfl (by (rw [hg]; rfl)); apply aO; (refine aJ rfl rfl rfl rfl ?_); refine aD ?_; exact rfl
 ·exact rfl
 ·exact rfl
 apply aM (s := 20) rfl rfl rfl
 ·intro hg; apply aK (s := 22) rfl (by (rw [hg]; rfl)); apply aO; (refine cD rfl rfl rfl ?_); refine aD ?_; exact rfl
 ·exact rfl
 ·exact rfl
 apply aM (s := 20) rfl rfl rfl
 ·intro hg; apply aK (s := 23) rfl (by (rw [hg]; rfl)); apply aO; (refine bB rfl rfl rfl ?_); refine aD ?_; exact rfl
 ·exact rfl
 ·exact rfl
 refine ir rfl rfl (eO rfl ?_)
 apply aM (s := 26) rfl rfl rfl
 ·intro hg; apply aO; (refine aL rfl rfl rfl rfl rfl (by decide) ?_); refine aD ?_; exact rfl
 ·exact rfl
 ·exact rfl
 apply aM (s := 26) rfl rfl rfl
 ·intro hg; apply aK (s := 27) rfl (by (rw [hg]; rfl)); apply aO; (refine aJ rfl rfl rfl rfl ?_); refine aD ?_; exact rfl
 ·exact rfl
 ·exact rfl
 apply aM (s := 26) rfl rfl rfl
 ·intro hg; apply aK (s := 28) rfl (by (rw [hg]; rfl)); apply aO; (refine cD rfl rfl rfl ?_); refine aD ?_; exact rfl
 ·exact rfl
 ·exact rfl
 apply aM (s := 26) rfl rfl rfl
 ·intro hg; apply aK (s := 29) rfl (by (rw [hg]; rfl)); apply aO; (refine bB rfl rfl rfl ?_); refine aD ?_; exact rfl
 ·exact rfl
 ·exact rfl
 refine ir rfl rfl (cm rfl (aD (aC ?_)))
 refine cH rfl (fun hc1 => ?_) (fun hc1 => ?_)
 ·
  refine aE (aA (bZ rfl (aD (aC (az (ay (aQ (bR rfl rfl ?_))))))))
  all_goals skip
  exact av rfl rfl (congrArg (Ty.int .i64) (by rw [bL, if_pos (show k6 y = true from hc1)]))
 refine aE ?_
 refine iQ (B := live [(1, Ty.pp (bE y)), (3, Ty.pp [yh y]), (4, Hs y)] []) ?_ ?_
 ·(refine cg.mk' ?_ ?_ <;> (repeat' (first | exact aI | exact aH | refine aB ?_ (Ty.aT _) | refine aB ?_ (Ty.aF _))))
 refine aA ?_
 refine aL rfl rfl rfl rfl rfl (by decide) ?_
 refine aJ rfl rfl rfl rfl ?_
 refine af (vC y.bins (Ty.jw _ []) rfl (fun b => AI b.holds 0 300 && fF b.first) rfl rfl fun b _ => dU (LJ b) rfl rfl rfl rfl rfl rfl) rfl rfl rfl rfl rfl ?_
 refine dm rfl (cm rfl (aD (aC ?_)))
 refine cH rfl (fun hc2 => ?_) (fun hc2 => ?_)
 ·
  refine aE (aA (bZ rfl (aD (aC (az (ay (aQ (bR rfl rfl ?_))))))))
  all_goals skip
  exact av rfl rfl (congrArg (Ty.int .i64) (by rw [bL, if_neg (ng (show k6 y = false from hc1)), if_pos (show kL y = true from hc2)]))
 refine aE (aA ?_)
 refine aL rfl rfl rfl rfl rfl (by decide) ?_
 refine aJ rfl rfl rfl rfl ?_
 refine af (mL y.moves (Ty.jw _ []) rfl (fun m => fF m.sacks) rfl rfl fun m _ => dU (Kc m) rfl rfl rfl rfl rfl rfl) rfl rfl rfl rfl rfl ?_
 refine dm rfl (eO rfl ?_)
 apply aM (s := 42) rfl rfl rfl
 ·intro hg; apply aO; (refine aL rfl rfl rfl rfl rfl (by decide) ?_); refine aD ?_; exact rfl
 ·exact rfl
 ·exact rfl
 apply aM (s := 42) rfl rfl rfl
 ·intro hg; apply aK (s := 43) rfl (by (rw [hg]; rfl)); apply aO; (refine aJ rfl rfl rfl rfl ?_); refine aD ?_; exact rfl
 ·exact rfl
 ·exact rfl
 apply aM (s := 42) rfl rfl rfl
 ·intro hg; apply aK (s := 44) rfl (by (rw [hg]; rfl)); apply aO; (refine af (pU y.levels (Ty.jw _ []) rfl (fun l => fF l.sacks) rfl rfl fun l _ => dU (La l) rfl rfl rfl rfl rfl rfl) rfl rfl rfl rfl rfl ?_); refine aD ?_; exact rfl
 ·exact rfl
 ·exact rfl
 apply aM (s := 42) rfl rfl rfl
 ·intro hg; apply aK (s := 45) rfl (by (rw [hg]; rfl)); apply aO; (refine dm rfl ?_); refine aD ?_; exact rfl
 ·exact rfl
 ·exact rfl
 refine ir rfl rfl (cm rfl (aD (aC ?_)))
 refine cH rfl (fun hc3 => ?_) (fun hc3 => ?_)
 ·
  refine aE (aA (bZ rfl (aD (aC (az (ay (aQ (bR rfl rfl ?_))))))))
  all_goals skip
  exact av rfl rfl (congrArg (Ty.int .i64) (by rw [bL, if_neg (ng (show k6 y = false from hc1)), if_neg (ng (show kL y = false from hc2)), if_pos (show iX y = true from hc3)]))
 refine aE ?_
 refine iQ (B := live [(1, Ty.pp (bE y)), (3, Ty.pp [yh y]), (4, Hs y)] []) ?_ ?_
 ·(refine cg.mk' ?_ ?_ <;> (repeat' (first | exact aI | exact aH | refine aB ?_ (Ty.aT _) | refine aB ?_ (Ty.aF _))))
 have hd := G5 hc1
 refine aA ?_
 refine aL rfl rfl rfl rfl rfl (by decide) ?_
 refine aJ rfl rfl rfl rfl (dK rfl ?_)
 refine af (mL y.moves (Ty.jw _ [Ty.pp (bE y), Hs y]) rfl (fun m => (AI m.day 0 (y.days - 1) && y.fin m.src) && y.fin m.dst) rfl rfl fun m _ => dU (K0 y hs hd m) rfl rfl rfl rfl rfl rfl) rfl rfl rfl rfl rfl ?_
 refine dm rfl (cm rfl (aD (aC ?_)))
 refine cH rfl (fun hc4 => ?_) (fun hc4 => ?_)
 ·
  refine aE (aA (bZ rfl (aD (aC (az (ay (aQ (bR rfl rfl ?_))))))))
  all_goals skip
  exact av rfl rfl (congrArg (Ty.int .i64) (by rw [bL, if_neg (ng (show k6 y = false from hc1)), if_neg (ng (show kL y = false from hc2)), if_neg (ng (show iX y = false from hc3)), if_pos (show xh y = true from hc4)]))
 refine aE (aA ?_)
 refine aL rfl rfl rfl rfl rfl (by decide) ?_
 refine aJ rfl rfl rfl rfl (dK rfl ?_)
 refine af (pU y.levels (Ty.jw _ [Ty.pp (bE y), Ty.pp [yh y]]) rfl (fun l => y.time l.day && y.bin l.bin) rfl rfl fun l _ => dU (JP y hs l) rfl rfl rfl rfl rfl rfl) rfl rfl rfl rfl rfl ?_
 refine dm rfl (cm rfl (aD (aC ?_)))
 refine cH rfl (fun hc5 => ?_) (fun hc5 => ?_)
 ·
  refine aE (aA (bZ rfl (aD (aC (az (ay (aQ (bR rfl rfl ?_))))))))
  all_goals skip
  exact av rfl rfl (congrArg (Ty.int .i64) (by rw [bL, if_neg (ng (show k6 y = false from hc1)), if_neg (ng (show kL y = false from hc2)), if_neg (ng (show iX y = false from hc3)), if_neg (ng (show xh y = false from hc4)), if_pos (show qz y = true from hc5)]))
 refine aE ?_
 refine iQ (B := live [(1, Ty.pp (bE y)), (3, Ty.pp [yh y]), (4, Hs y)] []) ?_ ?_
 ·(refine cg.mk' ?_ ?_ <;> (repeat' (first | exact aI | exact aH | refine aB ?_ (Ty.aT _) | refine aB ?_ (Ty.aF _))))
 refine aA ?_
 refine aL rfl rfl rfl rfl rfl (by decide) ?_
 refine aJ rfl rfl rfl rfl ?_
 refine af (mL y.moves (Ty.jw _ []) rfl (fun m => !decide (m.src = m.dst)) rfl rfl fun m _ => dU (JC m) rfl rfl rfl rfl rfl rfl) rfl rfl rfl rfl rfl ?_
 refine dm rfl (cm rfl (aD (aC ?_)))
 refine cH rfl (fun hc6 => ?_) (fun hc6 => ?_)
 ·
  refine aE (aA (bZ rfl (aD (aC (az (ay (aQ (bR rfl rfl ?_))))))))
  all_goals skip
  exact av rfl rfl (congrArg (Ty.int .i64) (by rw [bL, if_neg (ng (show k6 y = false from hc1)), if_neg (ng (show kL y = false from hc2)), if_neg (ng (show iX y = false from hc3)), if_neg (ng (show xh y = false from hc4)), if_neg (ng (show qz y = false from hc5)), if_pos (show p6 y = true from hc6)]))
 refine aE (aA ?_)
 refine aL rfl rfl rfl rfl rfl (by decide) ?_
 refine aJ rfl rfl rfl rfl ?_
 refine af (vC y.bins (Ty.jw _ []) rfl (fun b => fZ b.first) rfl rfl fun b _ => dU (I3 b) rfl rfl rfl rfl rfl rfl) rfl rfl rfl rfl rfl ?_
 refine dm rfl (eO rfl ?_)
 apply aM (s := 70) rfl rfl rfl
 ·intro hg; apply aO; (refine aL rfl rfl rfl rfl rfl (by decide) ?_); refine aD ?_; exact rfl
 ·exact rfl
 ·exact rfl
 apply aM (s := 70) rfl rfl rfl
 ·intro hg; apply aK (s := 71) rfl (by (rw [hg]; rfl)); apply aO; (refine aJ rfl rfl rfl rfl ?_); refine aD ?_; exact rfl
 ·exact rfl
 ·exact rfl
 apply aM (s := 70) rfl rfl rfl
 ·intro hg; apply aK (s := 72) rfl (by (rw [hg]; rfl)); apply aO; (refine af (mL y.moves (Ty.jw _ []) rfl (fun m => fZ m.sacks) rfl rfl fun m _ => dU (JL m) rfl rfl rfl rfl rfl rfl) rfl rfl rfl rfl rfl ?_); refine aD ?_; exact rfl
 ·exact rfl
 ·exact rfl
 apply aM (s := 70) rfl rfl rfl
 ·intro hg; apply aK (s := 73) rfl (by (rw [hg]; rfl)); apply aO; (refine dm rfl ?_); refine aD ?_; exact rfl
 ·exact rfl
 ·exact rfl
 refine ir rfl rfl (eO rfl ?_)
 apply aM (s := 76) rfl rfl rfl
 ·intro hg; apply aO; (refine aL rfl rfl rfl rfl rfl (by decide) ?_); refine aD ?_; exact rfl
 ·exact rfl
 ·exact rfl
 apply aM (s := 76) rfl rfl rfl
 ·intro hg; apply aK (s := 77) rfl (by (rw [hg]; rfl)); apply aO; (refine aJ rfl rfl rfl rfl ?_); refine aD ?_; exact rfl
 ·exact rfl
 ·exact rfl
 apply aM (s := 76) rfl rfl rfl
 ·intro hg; apply aK (s := 78) rfl (by (rw [hg]; rfl)); apply aO; (refine af (pU y.levels (Ty.jw _ []) rfl (fun l => fZ l.sacks) rfl rfl fun l _ => dU (Gb l) rfl rfl rfl rfl rfl rfl) rfl rfl rfl rfl rfl ?_); refine aD ?_; exact rfl
 ·exact rfl
 ·exact rfl
 apply aM (s := 76) rfl rfl rfl
 ·intro hg; apply aK (s := 79) rfl (by (rw [hg]; rfl)); apply aO; (refine dm rfl ?_); refine aD ?_; exact rfl
 ·exact rfl
 ·exact rfl
 refine ir rfl rfl (cm rfl (aD (aC ?_)))
 refine cH rfl (fun hc7 => ?_) (fun hc7 => ?_)
 ·
  refine aE (aA (bZ rfl (aD (aC (az (ay (aQ (bR rfl rfl ?_))))))))
  all_goals skip
  exact av rfl rfl (congrArg (Ty.int .i64) (by rw [bL, if_neg (ng (show k6 y = false from hc1)), if_neg (ng (show kL y = false from hc2)), if_neg (ng (show iX y = false from hc3)), if_neg (ng (show xh y = false from hc4)), if_neg (ng (show qz y = false from hc5)), if_neg (ng (show p6 y = false from hc6)), if_pos (show pg y = true from hc7)]))
 refine aj (bI (aC (aE (aA (bZ rfl (aD (aC (az (bR rfl rfl ?_)))))))))
 all_goals skip
 exact av rfl rfl (congrArg (Ty.int .i64) (by rw [bL, if_neg (ng (show k6 y = false from hc1)), if_neg (ng (show kL y = false from hc2)), if_neg (ng (show iX y = false from hc3)), if_neg (ng (show xh y = false from hc4)), if_neg (ng (show qz y = false from hc5)), if_neg (ng (show p6 y = false from hc6)), if_neg (ng (show pg y = false from hc7))]))
set_option maxRecDepth 100000 in
theorem BD (y : au) (hs : y.Small) (k : Int) : dJ Tryz.prog 90 [dr y, Ty.int .i64 k] (Ty.int .i64 (eC y k)) := by
 refine ak Tryz.func90 rfl (by decide) Tryz.ntmps90 (by exact Nat.le_of_ble_eq_true rfl) fun w0 M0 => ?_
 refine aE (aA (bD rfl (bZ rfl (aD (aC (aE (aA ?_)))))))
 refine aX rfl rfl rfl (by exact Nat.le_of_ble_eq_true rfl) ?_
 refine af (kW y hs) rfl rfl rfl rfl rfl (bZ rfl (aD (aC (aE (aE (aA (bF rfl (bB rfl rfl rfl (eO rfl ?_)))))))))
 apply aM (s := 10) rfl rfl rfl
 ·intro hg; apply aO; (refine aX rfl rfl rfl (by exact Nat.le_of_ble_eq_true rfl) ?_); refine aD ?_; exact rfl
 ·exact rfl
 ·exact rfl
 apply aM (s := 10) rfl rfl rfl
 ·intro hg; apply aO; (refine bF rfl ?_); refine aD ?_; exact rfl
 ·exact rfl
 ·exact rfl
 apply aM (s := 10) rfl rfl rfl
 ·intro hg; apply aK (s := 11) rfl (by (rw [hg]; rfl)); apply aK (s := 12) rfl (by (rw [hg]; rfl)); apply aO; (refine af (Fg y hs _) rfl rfl rfl rfl rfl ?_); refine aD ?_; exact rfl
 ·exact rfl
 ·exact rfl
 apply aM (s := 10) rfl rfl rfl
 ·intro hg; apply aK (s := 13) rfl (by (rw [hg]; rfl)); apply aO; (refine dm rfl ?_); refine aD ?_; exact rfl
 ·exact rfl
 ·exact rfl
 refine dV rfl rfl (aD (aC ?_))
 refine cH rfl (fun hc1 => ?_) (fun hc1 => ?_)
 ·
  refine aA (bZ rfl (aD (aC (aE (aA (bF rfl (bZ rfl (aD (aC ?_)))))))))
  refine az (bR rfl rfl ?_)
  all_goals skip
  all_goals exact av rfl rfl (congrArg (Ty.int .i64) (Gg hc1))
 refine aj (aC (aE (aA (bF rfl (bZ rfl (aD (aC (az (bR rfl rfl ?_)))))))))
 all_goals skip
 all_goals exact av rfl rfl (congrArg (Ty.int .i64) (IA hc1))
end Go.Proofs.YtelbollidfdcjaaGreat
namespace Go.T
open Go Go.RowKit
def rE (A : As) (L : List Nat) (s t : Ty) : Prop := ∀ w M v, Wf w M → (∀ x ∈ A.tags, x.1 ∈ L → x.2.den w M x.1) → s.den w M v → t.den w (qt M L) v
def oA (A : As) (L : List Nat) : List Ty → List Ty → Prop
  | [], [] => True
  | s :: ss, t :: ts => rE A L s t ∧ oA A L ss ts
  | _, _ => False
theorem cR {A : As} {L : List Nat} : oA A L [] [] := trivial
theorem aW {A : As} {L : List Nat} {s t : Ty} {ss ts : List Ty} (h : rE A L s t) (h' : oA A L ss ts) : oA A L (s :: ss) (t :: ts) := ⟨h, h'⟩
theorem pN {A : As} {L : List Nat} {w : World} {M : bC} (wf : Wf w M) (ht : ∀ x ∈ A.tags, x.1 ∈ L → x.2.den w M x.1) : ∀ {ss ts : List Ty} {vs : List Value}, oA A L ss ts → cI w M ss vs → cI w (qt M L) ts vs
  | [], [], [], _, _ => trivial
  | _ :: _, _ :: _, _ :: _, ⟨h, h'⟩, ⟨h1, h2⟩ => ⟨h _ _ _ wf ht h1, pN wf ht h' h2⟩
theorem bU {A : As} {L : List Nat} {s t : Ty} (h : QK L s t) : rE A L s t := fun w M v wf _ hd => h w M v wf hd
theorem zy {A : As} {L : List Nat} {ss ts : List Ty} (h : oA A L ss ts) : rE A L (Ty.agg ss) (Ty.agg ts) := fun _ _ _ wf ht ⟨cs, e, hd⟩ => ⟨cs, e, pN wf ht h hd⟩
theorem jr {A : As} {L : List Nat} {α : Type} {E : El α} {T tg n : Nat} {xs : List α} (hc : A.tag tg = some (.vec E T xs)) (hn : xs.length = n) (h1 : gE tg) (hL : L.contains tg = true) : rE A L (.vs tg n) (.sl E xs) := fun w M v wf ht hd => by
 have hL' : tg ∈ L := by simpa using hL
 have hv : fX E T xs w M tg := ht _ (cj hc) hL'
 subst hn
 rcases hd with ⟨h0, rfl⟩ | ⟨b, cc, hb, e, hn1, hn2⟩
 ·exact ⟨none, 0, by rw [h0], by omega, by simp [maxLen], fun h => absurd h (by omega)⟩
 refine ⟨_, cc, e, hn1, hn2, fun _ => ⟨b, 0, rfl, At hb hL', wf.lt b _ hb, fun i t hi => ?_⟩⟩
 obtain ⟨u, hu, hdu⟩ := mw wf h1 hb hv hi
 refine ⟨u, by rw [Nat.zero_add]; exact hu, t.mono (S := fun _ => True) (K := fun _ => True) (w := w) ⟨Nat.le_refl _, rfl, rfl, rfl, fun b _ hm => ⟨jS hm, rfl⟩, fun b t _ h => absurd trivial h⟩ ?_ ?_ hdu⟩
 ·intro u hu
  have : u ∈ cF (xs.flatMap E.tys) := List.mem_flatMap.2 ⟨t, List.mem_of_getElem? hi, hu⟩
  rw [E.cY] at this; cases this
 intro u hu
 have : u ∈ bY (xs.flatMap E.tys) := List.mem_flatMap.2 ⟨t, List.mem_of_getElem? hi, hu⟩
 rw [E.cS] at this; cases this
section
variable {P : Program} {fr : Fr} {ops : Array Oper} {A : As} {rest : List Oper} {K : As → List (As × Fx) → Prop} {d : Nat} {t ty' : TypeId} {p : String} {e : Array Edge} {Q : Exit → Act → World → Prop} {c : Code}
theorem eM (L : List Nat) {f : FuncId} {args : List Ty} {res : Ty} (hF : dJ P f args res) {xs : List Operand} {ats : Array TypeId} {ss : List Ty} (hx : oW A fr xs = ss) (hl : oA A L ss args) (hp : res.Plain)
 (h : bA P fr ops rest (A.set d res) fun A' l => K A' ((A, { d := some d, ty := res, rs := xs.flatMap cJ, rt := L }) :: l)) : bA P fr ops (⟨some d, .call ⟨.value (.func f), xs.toArray, ats⟩, t, p, e, none⟩ :: rest) A K := by
 refine ⟨{ d := some d, ty := res, rs := xs.flatMap cJ, rt := L }, ⟨rfl, by simp, by simp, by simp, fun a w M wf _ hrd htg => ?_⟩, h⟩
 rw [if_pos (by simp [Region.wanted])]
 have hv : cI w M ss (xs.map a.eval) := hx ▸ iD hrd fun x hx c hc => List.mem_flatMap.2 ⟨x, hx, hc⟩
 have hc := hF.2 w _ _ (Ma (L := L) wf) uF (pN wf htg hl hv)
 have hrun : (execOp a.eval ⟨some d, .call ⟨.value (.func f), xs.toArray, ats⟩, t, p, e, none⟩).run P w = .ok (.enter f (xs.map a.eval).toArray) w := by
  simp [execOp, resolve, Act.eval, Deferred.ofValue, invoke, nu hF]
 refine mK hrun ?_
 refine hc.mono fun en w' ⟨r, M', he, wf', le, hden⟩ => ?_
 obtain ⟨h1, h2, h3⟩ := EB wf le hp hden
 exact ⟨r, he, r, rfl, _, h1, h2, h3, by simp⟩
end
section
open Go.RowKit
variable {P : Program} {A : As} {fn : Func} {n : Nat} {w0 : World} {M0 : bC} {F : List Nat} {post : List (Nat × Cont)} [T : lD P]
end
section
variable {P : Program} {fr : Fr} {ops : Array Oper} {A : As} {rest : List Oper} {K : As → List (As × Fx) → Prop} {d : Nat} {t ty' : TypeId} {p : String} {e : Array Edge} [T : lD P]
def Rf (w : World) (M : bC) (J : Nat) (v : Value) : Prop := v = .slice none 0 0 ∨ ∃ g n c cur T, v = .slice (some ⟨g, 0, none⟩) n c ∧ M g = some J ∧ w.heap[g]? = some (.cells cur T (0, 0)) ∧ n ≤ cur.size
def Cont.fit (vs : List Value) : Cont :=
  { den := fun w M J => ∀ v ∈ vs, Rf w M J v
    mono := fun le _ _ hs hk h v hv => (h v hv).imp id fun ⟨g, n, c, cur, T, e, hg, hh, hn⟩ => let ⟨h1, h2⟩ := le.own g _ hg hk
      ⟨g, n, c, cur, T, e, h1, (h2 hs).trans hh, hn⟩ }
end
instance : Inhabited {v : Value // v.oneCell' = true} := ⟨⟨.bool true, rfl⟩⟩
section
variable {P : Program} {fr : Fr} {A : As} {Q : Exit → Act → World → Prop} {code : Code}
end
end Go.T
namespace Go.T
open Go Go.RowKit
def vM {α : Type} (E : El α) (T J : Nat) (xs : List α) (w : World) (M : bC) (v : Value) : Prop :=
  (xs = [] ∧ v = .slice none 0 0) ∨ ∃ g off c cur, v = .slice (some ⟨g, off, none⟩) xs.length c ∧ M g = some J ∧ w.heap[g]? = some (.cells cur T (0, 0)) ∧ xs.length ≤ c ∧ c ≤ maxLen ∧ off + c * E.size ≤ cur.size ∧ cI w M (xs.flatMap E.tys) ((cur.toList.drop off).take (xs.length * E.size))
def Ty.ff {α : Type} (E : El α) (T J : Nat) (xs : List α) : Ty :=
  ⟨vM E T J xs, [J], [J], fun le hk hs h => h.imp id fun ⟨g, off, c, cur, e, hg, hh, h1, h2, h3, h4⟩ =>
    let ⟨a, b⟩ := le.own g J hg (hk J (by simp))
    ⟨g, off, c, cur, e, a, (b (hs J (by simp))).trans hh, h1, h2, h3, bl le (by rw [E.cY]; intro _ h; cases h) (by rw [E.cS]; intro _ h; cases h) h4⟩, true, fun _ h => by
      rcases h with ⟨_, rfl⟩ | ⟨_, _, _, _, rfl, _⟩ <;> rfl⟩
def jO (size : Nat) : Value → Option (Nat × Nat)
  | .slice (some a) n _ => some (a.block, a.off + n * size)
  | _ => none
def roomy : Value → Bool
  | .slice _ n c => Nat.blt n c
  | _ => false
section
variable {κ α : Type} [DecidableEq κ]
def zD (size : Nat) (vs : List Value) : Prop := ∀ (i j : Nat) (v u : Value) (g e e' : Nat), vs[i]? = some v → vs[j]? = some u → jO size v = some (g, e) → jO size u = some (g, e') → i = j
def SB (enc : κ → Value) (E : El α) (T J : Nat) (q : List (κ × List α)) (w : World) (M : bC) (t : Nat) : Prop :=
  (q.map Prod.fst).Nodup ∧ ∃ b es clock, M b = some t ∧ w.heap[b]? = some (.map es clock) ∧ es.toList.map (·.key) = q.map (fun x => enc x.1) ∧ cI w M (q.map fun x => Ty.ff E T J x.2) (es.toList.map (·.val)) ∧ zD E.size (es.toList.map (·.val))
omit [DecidableEq κ] in
theorem uZ {E : El α} {T J : Nat} {q : List (κ × List α)} : (∀ u ∈ cF (q.map fun x => Ty.ff E T J x.2), u = J) ∧ ∀ u ∈ bY (q.map fun x => Ty.ff E T J x.2), u = J := by
 constructor <;>
 ·intro u hu
  simp only [cF, bY, List.mem_flatMap, List.mem_map] at hu
  obtain ⟨t, ⟨x, _, rfl⟩, hu⟩ := hu
  simpa [Ty.ff] using hu
def Cont.mr (enc : κ → Value) (E : El α) (T J : Nat) (q : List (κ × List α)) : Cont :=
  { den := SB enc E T J q, deps := [J], cdeps := [J]
    mono := fun le hk hs hst hkt ⟨hn, b, es, clock, h1, h2, h3, h4, h5⟩ => let ⟨a, c⟩ := le.own b _ h1 hkt
      ⟨hn, b, es, clock, a, (c hst).trans h2, h3, bl le (fun u hu => by rw [uZ.1 u hu]; exact hk J (by simp)) (fun u hu => by rw [uZ.2 u hu]; exact hs J (by simp)) h4, h5⟩ }
omit [DecidableEq κ] in
theorem Cont.uD {enc : κ → Value} {E : El α} {T J : Nat} {q q' : List (κ × List α)} (h : q = q') : (Cont.mr enc E T J q).Sub (Cont.mr enc E T J q') := h ▸ Cont.aF _
def R1 (size t : Nat) (q : List (κ × List α)) (k : κ) (w : World) (M : bC) (v : Value) : Prop :=
  ∀ (g e0 : Nat), jO size v = some (g, e0) → ∃ (b : Nat) (es : Array MapEntry) (clock : Nat), M b = some t ∧ w.heap[b]? = some (.map es clock) ∧ ∀ (j : Nat) (u : Value) (e1 : Nat), (es.toList.map (·.val))[j]? = some u → jO size u = some (g, e1) → (q[j]?).map Prod.fst = some k ∧ (roomy v = true → e1 ≤ e0)
def SF (E : El α) (T t J : Nat) (q : List (κ × List α)) (k : κ) (xs : List α) (w : World) (M : bC) (v : Value) : Prop := vM E T J xs w M v ∧ R1 E.size t q k w M v
def Ty.qv (E : El α) (T t J : Nat) (q : List (κ × List α)) (k : κ) (xs : List α) : Ty :=
  ⟨SF E T t J q k xs, [t, J], [t, J], fun le hk hs ⟨h, h'⟩ => ⟨(Ty.ff E T J xs).mono le (fun u hu => hk u (by simp [Ty.ff] at hu ⊢; exact .inr hu)) (fun u hu => hs u (by simp [Ty.ff] at hu ⊢; exact .inr hu)) h, fun g e0 he =>
    let ⟨b, es, clock, h1, h2, h3⟩ := h' g e0 he
    let ⟨a, c⟩ := le.own b t h1 (hk t (by simp))
    ⟨b, es, clock, a, (c (hs t (by simp))).trans h2, h3⟩⟩, true, fun ho h => (Ty.ff E T J xs).isOne ho h.1⟩
omit [DecidableEq κ] in
theorem DT (q : List (κ × List α)) (hn : (q.map Prod.fst).Nodup) {i j : Nat} {k : κ} (hi : (q[i]?).map Prod.fst = some k) (hj : (q[j]?).map Prod.fst = some k) : i = j := by
 rw [← List.getElem?_map] at hi hj
 obtain ⟨h1, e1⟩ := List.getElem?_eq_some_iff.1 hi
 obtain ⟨h2, e2⟩ := List.getElem?_eq_some_iff.1 hj
 exact (List.getElem_inj hn).1 (e1.trans e2.symm)
theorem BO {q : List (κ × List α)} {k : κ} {i : Nat} (h : (q.map Prod.fst).findIdx? (fun x => decide (x = k)) = some i) : (q[i]?).map Prod.fst = some k := by
 obtain ⟨v, hv, _⟩ := pQ q k i h
 rw [hv]; rfl
theorem HI (q : List (κ × List α)) (k : κ) (v : List α) (hn : (q.map Prod.fst).Nodup) : ((iE q k v).map Prod.fst).Nodup := by
  cases hi : (q.map Prod.fst).findIdx? (fun x => decide (x = k)) with
  | some i =>
    obtain ⟨u, hu, _, hp⟩ := pQ q k i hi
    rw [hp, List.map_set]
    have : (q.map Prod.fst).set i k = q.map Prod.fst := by
      apply List.ext_getElem?
      intro j
      rw [List.getElem?_set]
      by_cases e : i = j
      · subst e
        have hlt := (List.getElem?_eq_some_iff.1 hu).1
        rw [if_pos rfl, if_pos (by simpa using hlt), List.getElem?_map, hu]; rfl
      · rw [if_neg e]
    rw [this]; exact hn
  | none =>
    obtain ⟨_, hp⟩ := qp q k hi
    rw [hp, List.map_append, List.nodup_append]
    refine ⟨hn, by simp, fun a ha b hb => ?_⟩
    simp only [List.map_cons, List.map_nil, List.mem_singleton] at hb
    subst hb
    intro e
    subst e
    rw [List.findIdx?_eq_none_iff] at hi
    have := hi a ha
    simp at this
end
section
variable {P : Program} {fr : Fr} {ops : Array Oper} {A : As} {rest : List Oper} {K : As → List (As × Fx) → Prop} {d : Nat} {t ty' mt kt et : TypeId} {p : String} {e : Array Edge}
variable {κ α : Type} [DecidableEq κ] {E : El α} {Tb J tg : Nat} {q : List (κ × List α)} {k : κ} {xs ys : List α}
omit [DecidableEq κ] in
theorem N2 {x : Operand} {enc : κ → Value} (hx : A.op fr x = .mp tg) (hc : A.tag tg = some (.mr enc E Tb J q)) (h1 : gE tg) {a : Act} {w : World} {M : bC} {rs : List Nat} (wf : Wf w M) (hr : ∀ c ∈ cJ x, c ∈ rs) (hrd : ∀ c ∈ rs, c < fr.n → (A.slots c).den w M (a.tmps.getD c undef)) (htg : ∀ y ∈ A.tags, y.1 ∈ [tg] → y.2.den w M y.1) :
 (q.map Prod.fst).Nodup ∧ ∃ b es clock, a.eval x = .map (some b) ∧ M b = some tg ∧ w.heap[b]? = some (.map es clock) ∧ es.toList.map (·.key) = q.map (fun x => enc x.1) ∧ cI w M (q.map fun x => Ty.ff E Tb J x.2) (es.toList.map (·.val)) ∧ zD E.size (es.toList.map (·.val)) := by
 have hxd := cV hr hrd
 rw [hx] at hxd
 obtain ⟨b, e1, e2⟩ := hxd
 obtain ⟨hn, b', es, clock, h2, h3⟩ := htg _ (cj hc) (by simp)
 obtain ⟨u, rfl⟩ : ∃ u, tg = u + 1 := ⟨tg - 1, by omega⟩
 have : b = b' := wf.inj b b' u (by omega) e2 h2
 subst this
 exact ⟨hn, b, es, clock, e1, e2, h3⟩
theorem B2 {es : Array MapEntry} {i : Nat} {en : MapEntry} (h : es[i]? = some en) : (es.toList.map (·.val))[i]? = some en.val := by
 rw [List.getElem?_map, Array.getElem?_toList, h]; rfl
omit [DecidableEq κ] in
theorem D6 (enc : κ → Value) (E : El α) (Tb J : Nat) (hm : mapOf P mt = some (kt, et)) (hp : fr.pass.contains (d + 1) = false)
 (h : bA P fr ops rest (A.after { d := some d, ty := .mp (d + 1), K := [d + 1], sets := [(d + 1, .mr enc E Tb J [])] }) fun A' l' => K A' ((A, { d := some d, ty := .mp (d + 1), K := [d + 1], sets := [(d + 1, .mr enc E Tb J [])] }) :: l')) :
 bA P fr ops (⟨some d, .makeMap mt none, t, p, e, none⟩ :: rest) A K := by
 refine ⟨_, gC rfl rfl (by simp) (by simp) (by simp at hp ⊢; exact hp) fun a w M wf _ _ => ?_, h⟩
 have hrun : (execOp a.eval ⟨some d, .makeMap mt none, t, p, e, none⟩).run P w = .ok (.value (.map (some w.heap.size))) (w.alloc (.map #[] 0)) := by
  simp [execOp, Instr.makeMap, newObj, Sem.run]
 obtain ⟨h1, h2, h3⟩ := jh wf (.map #[] 0) (d + 1)
 refine ⟨_, _, hrun, _, h1, h2, ⟨_, rfl, h3⟩, fun x hx => ?_⟩
 rw [List.mem_singleton.1 hx]
 exact ⟨by simp, w.heap.size, #[], 0, h3, gq _ _, rfl, trivial, fun i j v u g e e' hi => by simp at hi⟩
theorem yp {x y : Operand} {kty : Ty} (KK : yf P kt κ) (hx : A.op fr x = .mp tg) (hc : A.tag tg = some (.mr KK.enc E Tb J q)) (h1 : gE tg) (hy : A.op fr y = kty) (hk : vP kty (KK.enc k)) (hm : mapOf P mt = some (kt, et)) (hz : zeroOf P et = some (.slice none 0 0))
 (h : bA P fr ops rest (A.set d (.qv E Tb tg J q k ((e9 q k).getD []))) fun A' l' => K A' ((A, { d := some d, ty := .qv E Tb tg J q k ((e9 q k).getD []), rs := cJ x ++ cJ y, rt := [tg] }) :: l')) :
 bA P fr ops (⟨some d, .lookup mt x y false, t, p, e, none⟩ :: rest) A K :=
 bJ (bT rfl rfl fun a w M wf hrd htg => by
  obtain ⟨hn, b, es, clock, e1, e2, h3, h4, h5, h6⟩ := N2 hx hc h1 wf (fun c hc => List.mem_append_left _ hc) hrd htg
  have hyd := cV (fun c hc => List.mem_append_right (cJ x) hc) hrd
  rw [hy] at hyd
  have hu := qZ hm
  rcases sJ KK h4 h5 k with ⟨i, v, en, hi, hg, hen, _, hd, hf⟩ | ⟨_, hg, hf⟩
  ·refine ⟨en.val, ?_, by rw [hg]; exact hd, fun g e0 he => ⟨b, es, clock, e2, h3, fun j u e1 hj hju => ?_⟩⟩
   ·simp only [execOp, e1, hk _ _ _ hyd]
    simp [Instr.lookup, underlying, hu, getObj, Sem.run, h3, KK.check, hf]
   have hij := h6 i j en.val u g e0 e1 (B2 hen) hj he hju
   subst hij
   rw [B2 hen] at hj
   injection hj with hj
   subst hj
   rw [he] at hju
   injection hju with hju
   injection hju with _ hju
   exact ⟨BO hi, fun _ => by omega⟩
  refine ⟨.slice none 0 0, ?_, by rw [hg]; exact .inl ⟨rfl, rfl⟩, fun g e0 he => by simp [jO] at he⟩
  simp only [execOp, e1, hk _ _ _ hyd]
  simp [Instr.lookup, underlying, hu, getObj, Sem.run, h3, KK.check, hf, yN hz]) h
theorem AM {x y z : Operand} {kty : Ty} (KK : yf P kt κ) (hx : A.op fr x = .mp tg) (hc : A.tag tg = some (.mr KK.enc E Tb J q)) (h1 : gE tg) (hy : A.op fr y = kty) (hk : vP kty (KK.enc k)) (hz : A.op fr z = .qv E Tb tg J q k xs) (hm : mapOf P mt = some (kt, et)) (hJ : Nat.beq J tg = false)
 (h : bA P fr ops rest (A.after { d := none, S := [tg], sets := [(tg, .mr KK.enc E Tb J (iE q k xs))], rs := cJ x ++ (cJ y ++ cJ z), rt := [tg] }) fun A' l' => K A' ((A, { d := none, S := [tg], sets := [(tg, .mr KK.enc E Tb J (iE q k xs))], rs := cJ x ++ (cJ y ++ cJ z), rt := [tg] }) :: l')) :
 bA P fr ops (⟨none, .mapUpdate mt x y z, t, p, e, none⟩ :: rest) A K := by
 have hJ' : J ≠ tg := fun h => by subst h; simp at hJ
 refine ⟨_, l7 rfl rfl rfl (by simp) (by simpa using h1.1) (by simp) fun a w M wf hrd htg => ?_, h⟩
 obtain ⟨hn, b, es, clock, e1, e2, h3, h4, h5, h6⟩ := N2 hx hc h1 wf (fun c hc => List.mem_append_left _ hc) hrd htg
 have hyd := cV (fun c hc => List.mem_append_right (cJ x) (List.mem_append_left (cJ z) hc)) hrd
 have hzd := cV (fun c hc => List.mem_append_right (cJ x) (List.mem_append_right (cJ y) hc)) hrd
 rw [hy] at hyd
 rw [hz] at hzd
 obtain ⟨hrow, hown⟩ := hzd
 have hu := qZ hm
 have hblt : b < w.heap.size := wf.lt b _ e2
 have own' : ∀ (g e0 : Nat), jO E.size (a.eval z) = some (g, e0) → ∀ (j : Nat) (u : Value) (e' : Nat), (es.toList.map (·.val))[j]? = some u → jO E.size u = some (g, e') → (q[j]?).map Prod.fst = some k := fun g e0 he j u e' hj hju => by
  obtain ⟨b', es', c', g1, g2, g3⟩ := hown g e0 he
  obtain ⟨u', rfl⟩ : ∃ u, tg = u + 1 := ⟨tg - 1, by omega⟩
  have : b = b' := wf.inj b b' u' (by omega) e2 g1
  subst this
  rw [h3] at g2
  injection g2 with g2
  injection g2 with g2 g4
  subst g2
  exact (g3 j u e' hj hju).1
 have fin : ∀ (es' : Array MapEntry) (clock' : Nat), es'.toList.map (·.key) = (iE q k xs).map (fun x => KK.enc x.1) → cI w M ((iE q k xs).map fun x => Ty.ff E Tb J x.2) (es'.toList.map (·.val)) → zD E.size (es'.toList.map (·.val)) →
  (Instr.mapUpdate mt (.map (some b)) (KK.enc k) (a.eval z)).run P w = .ok () { w with heap := w.heap.setIfInBounds b (.map es' clock') } →
  ∃ w', (execOp a.eval ⟨none, .mapUpdate mt x y z, t, p, e, none⟩).run P w = .ok .skip w' ∧ Fx.left { d := none, S := [tg], sets := [(tg, .mr KK.enc E Tb J (iE q k xs))], rs := cJ x ++ (cJ y ++ cJ z), rt := [tg] } w M w' undef := by
  intro es' clock' hk' hd' hap hrun
  have hr : (execOp a.eval ⟨none, .mapUpdate mt x y z, t, p, e, none⟩).run P w = .ok .skip { w with heap := w.heap.setIfInBounds b (.map es' clock') } := by
   simp only [execOp, e1, hk _ _ _ hyd]
   simp [hrun]
  have le : Le (· ∈ [tg]) (· ∈ ([] : List Nat)) w M { w with heap := w.heap.setIfInBounds b (.map es' clock') } M := by
   refine ⟨by simp, rfl, rfl, rfl, fun b2 hlt hm2 => ⟨hm2, ?_⟩, fun b2 u hm2 _ => ⟨hm2, fun hs => ?_⟩⟩
   ·have : b ≠ b2 := fun h => by subst h; rw [e2] at hm2; cases hm2
    simp [Array.getElem?_setIfInBounds, this]
   have : b ≠ b2 := fun h => by subst h; rw [e2] at hm2; injection hm2 with hm2; exact hs (by simp [hm2])
   simp [Array.getElem?_setIfInBounds, this]
  refine ⟨_, hr, M, ⟨fun b2 u h => by simpa using wf.lt b2 u h, wf.inj⟩, le, trivial, fun x hx => ?_⟩
  rw [List.mem_singleton.1 hx]
  refine ⟨HI q k xs hn, b, es', clock', e2, by simp [hblt], hk', ?_, hap⟩
  exact bl le (fun _ _ => by simp) (fun u hu => by rw [uZ.2 u hu]; simpa using hJ') hd'
 rcases sJ KK h4 h5 k with ⟨i, v0, en, hi, hg, hen, hkey, hd, hf⟩ | ⟨hi, hg, hf⟩
 ·obtain ⟨v1, hv1, _, hput⟩ := pQ q k i hi
  have hil : i < es.size := (Array.getElem?_eq_some_iff.1 hen).1
  have hes : (es.modify i fun e => { e with key := KK.enc k, val := a.eval z }).toList = es.toList.set i { en with key := KK.enc k, val := a.eval z } := by
   rw [Array.toList_modify, List.modify_eq_set, Array.getElem?_toList, hen]; rfl
  refine fin (es.modify i fun e => { e with key := KK.enc k, val := a.eval z }) clock ?_ ?_ ?_ ?_
  ·rw [hput, List.map_set, hes, List.map_set, h4]
  ·rw [hput, List.map_set, hes, List.map_set]
   exact su h5 hrow
  ·rw [hes, List.map_set]
   intro i1 j1 v u g e' e'' hi1 hj1 hv hu
   rw [List.getElem?_set] at hi1 hj1
   by_cases c1 : i = i1 <;> by_cases c2 : i = j1
   ·omega
   ·rw [if_pos c1] at hi1; rw [if_neg c2] at hj1
    split at hi1
    ·injection hi1 with hi1
     have hi1 : a.eval z = v := hi1
     subst hi1
     have := DT q hn (own' g e' hv j1 u e'' hj1 hu) (BO hi)
     omega
    cases hi1
   ·rw [if_neg c1] at hi1; rw [if_pos c2] at hj1
    split at hj1
    ·injection hj1 with hj1
     have hj1 : a.eval z = u := hj1
     subst hj1
     have := DT q hn (own' g e'' hu i1 v e' hi1 hv) (BO hi)
     omega
    cases hj1
   rw [if_neg c1] at hi1; rw [if_neg c2] at hj1
   exact h6 i1 j1 v u g e' e'' hi1 hj1 hv hu
  simp [Instr.mapUpdate, underlying, hu, getObj, setObj, Sem.run, h3, KK.check, hf, hen, hkey, Instr.keyThatStays, KK.same]
 obtain ⟨_, hput⟩ := qp q k hi
 have hlen : (es.toList.map (·.val)).length = q.length := by have := congrArg List.length h4; simpa using this
 have hno : ∀ j, (q[j]?).map Prod.fst ≠ some k := fun j hj => by
  rw [List.findIdx?_eq_none_iff] at hi
  rw [← List.getElem?_map] at hj
  have := hi k (List.mem_of_getElem? hj)
  simp at this
 refine fin (es.push { key := KK.enc k, val := a.eval z, born := clock }) (clock + 1) ?_ ?_ ?_ ?_
 ·rw [hput]; simp [h4]
 ·rw [hput]; simp only [Array.toList_push, List.map_append, List.map_cons, List.map_nil]
  exact fB h5 ⟨hrow, trivial⟩
 ·simp only [Array.toList_push, List.map_append, List.map_cons, List.map_nil]
  intro i1 j1 v u g e' e'' hi1 hj1 hv hu
  rw [List.getElem?_append] at hi1 hj1
  split at hi1 <;> split at hj1
  ·exact h6 i1 j1 v u g e' e'' hi1 hj1 hv hu
  ·rw [List.getElem?_singleton] at hj1
   split at hj1
   ·injection hj1 with hj1
    subst hj1
    exact absurd (own' g e'' hu i1 v e' hi1 hv) (hno i1)
   cases hj1
  ·rw [List.getElem?_singleton] at hi1
   split at hi1
   ·injection hi1 with hi1
    subst hi1
    exact absurd (own' g e' hv j1 u e'' hj1 hu) (hno j1)
   cases hi1
  rw [List.getElem?_singleton] at hi1 hj1
  split at hi1 <;> split at hj1 <;> first | omega | (exfalso; simp at hj1; done) | (exfalso; simp at hi1; done)
 simp [Instr.mapUpdate, underlying, hu, getObj, setObj, Sem.run, h3, KK.check, hf]
end
section
variable {P : Program} {fr : Fr} {ops : Array Oper} {A : As} {rest : List Oper} {K : As → List (As × Fx) → Prop} {d : Nat} {t ty' mt kt et : TypeId} {p : String} {e : Array Edge} [T : lD P]
variable {κ α : Type} [DecidableEq κ] {E : El α} {Tb J tg : Nat} {q : List (κ × List α)} {k : κ} {xs ys : List α}
theorem z5 [Inhabited α] {w : World} {M : bC} {g off i j : Nat} {cur : Array Value} {ty : Ty} (hh : w.heap[g]? = some (.cells cur Tb (0, 0))) (hd : cI w M (xs.flatMap E.tys) ((cur.toList.drop off).take (xs.length * E.size))) (hi : i < xs.length) (hl : (E.tys (nth xs i))[j]? = some ty) :
 ∃ u, w.cell? ⟨g, off + i * E.size + j, none⟩ = some u ∧ ty.den w M u := by
 obtain ⟨u, hu, hdu⟩ := dW hd _ ty (mj E xs hi j ty hl)
 rw [List.getElem?_take] at hu
 split at hu
 ·rw [List.getElem?_drop] at hu
  exact ⟨u, by rw [Nat.add_assoc]; simpa [World.cell?, hh] using hu, hdu⟩
 cases hu
end
end Go.T
namespace Go.T
open Go Go.RowKit
section
variable {P : Program} {fr : Fr} {ops : Array Oper} {A : As} {rest : List Oper} {K : As → List (As × Fx) → Prop} {d : Nat} {t ty' mt kt et : TypeId} {p : String} {e : Array Edge} [T : lD P]
variable {κ α : Type} [DecidableEq κ] {E : El α} {Tb J tg : Nat} {q : List (κ × List α)} {k : κ} {xs ys : List α}
theorem Io (l news : List Value) (o n m e : Nat) (he : o + n ≤ e) (hl : e + news.length ≤ l.length) : (((l.take e ++ news ++ l.drop (e + news.length)).drop o).take n) = (l.drop o).take n := by
 apply List.ext_getElem?
 intro i
 rw [List.getElem?_take, List.getElem?_take]
 split
 ·rename_i hi
  rw [List.getElem?_drop, List.getElem?_drop, List.append_assoc, List.getElem?_append_left (by rw [List.length_take]; omega), List.getElem?_take, if_pos (by omega)]
 rfl
theorem Bk (l news : List Value) (o n : Nat) (hl : o + n + news.length ≤ l.length) : (((l.take (o + n) ++ news ++ l.drop (o + n + news.length)).drop o).take (n + news.length)) = (l.drop o).take n ++ news := by
 have h1 : (l.take (o + n) ++ news ++ l.drop (o + n + news.length)).drop o = (l.drop o).take n ++ news ++ l.drop (o + n + news.length) := by
  rw [List.append_assoc, List.drop_append_of_le_length (by rw [List.length_take]; omega), List.drop_take, show o + n - o = n by omega, List.append_assoc]
 have h2 : ((l.drop o).take n ++ news).length = n + news.length := by rw [List.length_append, List.length_take, List.length_drop, Nat.min_eq_left (by omega)]
 rw [h1, List.take_left' h2]
omit [DecidableEq κ] in
theorem JR {w : World} {M : bC} {vs : List Value} (hd : cI w M (q.map fun x => Ty.ff E Tb J x.2) vs) {j : Nat} {u : Value} {g e1 : Nat} (hj : vs[j]? = some u) (hu : jO E.size u = some (g, e1)) : M g = some J := by
 have hlen := cW hd
 have hlt := (List.getElem?_eq_some_iff.1 hj).1
 obtain ⟨x, hx, hdx⟩ := dW hd j (Ty.ff E Tb J (q[j]'(by simpa [hlen] using hlt)).2) (by rw [List.getElem?_map, List.getElem?_eq_getElem (by simpa [hlen] using hlt)]; rfl)
 rw [hj] at hx
 injection hx with hx
 subst hx
 rcases hdx with ⟨_, e⟩ | ⟨g', off, c, cur, e, hg, _⟩
 ·rw [e] at hu; simp [jO] at hu
 rw [e] at hu
 simp only [jO, Option.some.injEq, Prod.mk.injEq] at hu
 rw [← hu.1]; exact hg
theorem zG {x y : Operand} {enc : κ → Value} {st el : Nat} {ti te : TI} (hx : A.op fr x = .qv E el tg J q k xs) (hy : A.op fr y = .sl E ys) (hc : A.tag tg = some (.mr enc E el J q)) (h1 : gE tg) (hJ : 4096 ≤ J) (hp : fr.pass.contains J = false) (hpos : 0 < ys.length) (hT : T.eN[st]? = some ti) (hk : ti.k = .slice el) (hE : T.eN[el]? = some te) (hs : te.size = E.size) (hz : te.zero.length = te.size) (h0 : 0 < te.size)
    (hlen : (xs.length + ys.length) * te.bytes ≤ 140737488355328) (hlen' : xs.length + ys.length ≤ 9223372036854775807)
    (h : bA P fr ops rest (A.after { d := some d, ty := .qv E el tg J q k (xs ++ ys), S := [tg, J], sets := [(tg, .mr enc E el J q)], rs := cJ x ++ cJ y, rt := [tg] }) fun A' l' => K A' ((A, { d := some d, ty := .qv E el tg J q k (xs ++ ys), S := [tg, J], sets := [(tg, .mr enc E el J q)], rs := cJ x ++ cJ y, rt := [tg] }) :: l')) :
    bA P fr ops (⟨some d, .call ⟨.builtin .append, #[x, y], #[st, st]⟩, t, p, e, none⟩ :: rest) A K := by
  refine ⟨_, gC rfl rfl (by simp) (by simp; exact ⟨h1.1, by omega⟩) (by simp) fun a w M wf hr htg => ?_, h⟩
  obtain ⟨hdx, hdy⟩ := op2 hr
  rw [hx] at hdx; rw [hy] at hdy
  obtain ⟨hrow, hown⟩ := hdx
  obtain ⟨hn, b, es, clock, hb, hhb, hkeys, hvals, hap⟩ := htg _ (cj hc) (by simp)
  have ownb : ∀ (g e0 : Nat), jO E.size (a.eval x) = some (g, e0) → ∀ (j : Nat) (u : Value) (e1 : Nat), (es.toList.map (·.val))[j]? = some u → jO E.size u = some (g, e1) → (q[j]?).map Prod.fst = some k ∧ (roomy (a.eval x) = true → e1 ≤ e0) := fun g e0 he => by
    obtain ⟨b', es', c', g1, g2, g3⟩ := hown g e0 he
    obtain ⟨u', hu'⟩ : ∃ u, tg = u + 1 := ⟨tg - 1, by omega⟩
    have : b = b' := by
      have hb' : M b = some (u' + 1) := hu' ▸ hb
      have g1' : M b' = some (u' + 1) := hu' ▸ g1
      exact wf.inj b b' u' (by omega) hb' g1'
    subst this
    rw [hhb] at g2
    injection g2 with g2
    injection g2 with g2 _
    subst g2
    exact g3
  obtain ⟨_, D, _, hD, hkd, _⟩ := cz hT
  rw [hk] at hkd
  cases D <;> simp only [TK.of, reduceCtorEq, TK.slice.injEq] at hkd
  subst hkd
  rename_i el
  obtain ⟨i, _, hi, _, _, hsz, hby, hze⟩ := cz hE
  obtain ⟨zz, hiz, hzc⟩ : ∃ z, i.zero = some z ∧ z.cells.size = i.size := by
    cases hiz : i.zero with
    | none => rw [hiz] at hze; rw [← hze] at hz; simp at hz; omega
    | some z => rw [hiz] at hze; exact ⟨z, rfl, by simp at hze; rw [hsz, ← hz, ← hze]; simp⟩
  obtain ⟨ad, c', ey, hc1, hc2, hpp⟩ := hdy
  obtain ⟨b', off', rfl, hp'⟩ := hpp hpos
  obtain ⟨news, hn1, hn2, hn3⟩ := m6 hp' _ (Nat.le_refl _)
  rw [List.take_length] at hn2
  have hnl : news.length = ys.length * i.size := by rw [hn1, c6, hsz, hs]
  have hnews : ∀ j u, news[j]? = some u → w.cell? ((⟨b', off', none⟩ : Addr).add j) = some u := fun j u hj => by rw [Addr.add_lit]; exact hn3 j u hj
  have hones := kO hn2 (lY E ys)
  have hesz : E.size = i.size := by rw [hsz, hs]
  -- behind a growth
  have grown : ∀ (olds : List Value) (cap : Nat), cI w M (xs.flatMap E.tys) olds → cap < xs.length + ys.length →
      (Builtin.append_ #[st, st] t #[a.eval x, a.eval y]).run P w = .ok (.slice (some ⟨w.heap.size, 0, none⟩) (xs.length + ys.length) (grownCap w (xs.length + ys.length) cap el)) (w.drew.alloc (.cells (olds.toArray ++ news.toArray ++ Builtin.zeroCells zz.cells (grownCap w (xs.length + ys.length) cap el - (xs.length + ys.length))) el)) →
      ∃ v w', (execOp a.eval ⟨some d, .call ⟨.builtin .append, #[x, y], #[st, st]⟩, t, p, e, none⟩).run P w = .ok (.value v) w' ∧ Fx.left { d := some d, ty := .qv E el tg J q k (xs ++ ys), S := [tg, J], sets := [(tg, .mr enc E el J q)], rs := cJ x ++ cJ y, rt := [tg] } w M w' v := by
    intro olds cap hdo hcap hrun
    have holen : olds.length = xs.length * i.size := by rw [cW hdo, c6, hesz]
    have hge := grownCap_ge w (xs.length + ys.length) cap el
    have hcm : grownCap w (xs.length + ys.length) cap el ≤ maxLen := grownCap_le_maxLen w (xs.length + ys.length) cap el (by simp only [maxLen]; omega)
    have hsize : (w.drew.alloc (.cells (olds.toArray ++ news.toArray ++ Builtin.zeroCells zz.cells (grownCap w (xs.length + ys.length) cap el - (xs.length + ys.length))) el)).heap.size = w.heap.size + 1 := by simp
    have hold : ∀ b2, b2 < w.heap.size → (w.drew.alloc (.cells (olds.toArray ++ news.toArray ++ Builtin.zeroCells zz.cells (grownCap w (xs.length + ys.length) cap el - (xs.length + ys.length))) el)).heap[b2]? = w.heap[b2]? := fun b2 h => Below.heap_alloc w.drew _ b2 h
    have hnew : (w.drew.alloc (.cells (olds.toArray ++ news.toArray ++ Builtin.zeroCells zz.cells (grownCap w (xs.length + ys.length) cap el - (xs.length + ys.length))) el)).heap[w.heap.size]? = some (.cells (olds.toArray ++ news.toArray ++ Builtin.zeroCells zz.cells (grownCap w (xs.length + ys.length) cap el - (xs.length + ys.length))) el (0, 0)) := gq w.drew _
    have hos : (w.drew.alloc (.cells (olds.toArray ++ news.toArray ++ Builtin.zeroCells zz.cells (grownCap w (xs.length + ys.length) cap el - (xs.length + ys.length))) el)).os = w.os ∧ (w.drew.alloc (.cells (olds.toArray ++ news.toArray ++ Builtin.zeroCells zz.cells (grownCap w (xs.length + ys.length) cap el - (xs.length + ys.length))) el)).tape = w.tape ∧ (w.drew.alloc (.cells (olds.toArray ++ news.toArray ++ Builtin.zeroCells zz.cells (grownCap w (xs.length + ys.length) cap el - (xs.length + ys.length))) el)).output = w.output := ⟨rfl, rfl, rfl⟩
    have hcs : (olds.toArray ++ news.toArray ++ Builtin.zeroCells zz.cells (grownCap w (xs.length + ys.length) cap el - (xs.length + ys.length))).size = grownCap w (xs.length + ys.length) cap el * i.size := by
      simp only [Array.size_append, List.size_toArray, size_zeroCells, hzc, holen, hnl, ← Nat.add_mul]
      congr 1
      omega
    have htk : ((olds.toArray ++ news.toArray ++ Builtin.zeroCells zz.cells (grownCap w (xs.length + ys.length) cap el - (xs.length + ys.length))).toList.drop 0).take ((xs ++ ys).length * E.size) = olds ++ news := by
      rw [List.drop_zero]
      simp only [Array.toList_append]
      rw [List.take_left' (by rw [List.length_append, holen, hnl, List.length_append, hesz, Nat.add_mul])]
    generalize hw' : (w.drew.alloc (.cells (olds.toArray ++ news.toArray ++ Builtin.zeroCells zz.cells (grownCap w (xs.length + ys.length) cap el - (xs.length + ys.length))) el)) = w' at *
    generalize hcu : (olds.toArray ++ news.toArray ++ Builtin.zeroCells zz.cells (grownCap w (xs.length + ys.length) cap el - (xs.length + ys.length))) = cu at *
    have le : Le (· ∈ [tg, J]) (· ∈ ([] : List Nat)) w M w' (fun b2 => if b2 = w.heap.size then some J else M b2) :=
      ⟨by omega, hos.1, hos.2.1, hos.2.2, fun b2 hb2 hm => ⟨by rw [if_neg (by omega)]; exact hm, hold b2 hb2⟩, fun b2 u hm _ => by
        have := wf.lt b2 u hm
        exact ⟨by rw [if_neg (by omega)]; exact hm, fun _ => hold b2 this⟩⟩
    have le0 : Le (· ∈ ([] : List Nat)) (· ∈ ([] : List Nat)) w M w' (fun b2 => if b2 = w.heap.size then some J else M b2) :=
      ⟨by omega, hos.1, hos.2.1, hos.2.2, fun b2 hb2 hm => ⟨by rw [if_neg (by omega)]; exact hm, hold b2 hb2⟩, fun b2 u hm _ => by
        have := wf.lt b2 u hm
        exact ⟨by rw [if_neg (by omega)]; exact hm, fun _ => hold b2 this⟩⟩
    have wf' : Wf w' (fun b2 => if b2 = w.heap.size then some J else M b2) := by
      refine ⟨fun b2 u hm => ?_, fun b2 b3 u ht1 hm hm' => ?_⟩
      · split at hm
        · omega
        · have := wf.lt b2 u hm; omega
      · split at hm
        · injection hm with hm; omega
        · split at hm'
          · injection hm' with hm'; omega
          · exact wf.inj b2 b3 u ht1 hm hm'
    have hblt := wf.lt b tg hb
    refine ⟨.slice (some ⟨w.heap.size, 0, none⟩) (xs.length + ys.length) (grownCap w (xs.length + ys.length) cap el), w', by simp [execOp, resolve, invoke, builtin, hrun], _, wf', le, ⟨.inr ⟨w.heap.size, 0, grownCap w (xs.length + ys.length) cap el, cu, by rw [List.length_append], by simp, hnew, by rw [List.length_append]; exact hge, hcm, by rw [hcs, hesz]; omega, ?_⟩, fun g e0 he => ?_⟩, fun y hy => ?_⟩
    · rw [htk, List.flatMap_append]
      exact jm (bl le0 (by rw [E.cY]; intro _ h; cases h) (by rw [E.cS]; intro _ h; cases h) hdo) (bl le0 (by rw [E.cY]; intro _ h; cases h) (by rw [E.cS]; intro _ h; cases h) hn2)
    · simp only [jO, Option.some.injEq, Prod.mk.injEq] at he
      obtain ⟨rfl, _⟩ := he
      refine ⟨b, es, clock, (if_neg (by omega)).trans hb, (hold b hblt).trans hhb, fun j u e1 hj hju => ?_⟩
      have := wf.lt _ _ (JR hvals hj hju)
      omega
    · rw [List.mem_singleton.1 hy]
      refine ⟨hn, b, es, clock, (if_neg (by omega)).trans hb, (hold b hblt).trans hhb, hkeys, ?_, hap⟩
      exact bl le0 (fun _ _ h => by cases h) (fun _ _ h => by cases h) hvals
  rcases hrow with ⟨hxe, ex⟩ | ⟨g, off, cap, cur, ex, hg, hh, hxc, hcm, hfit, hdx⟩
  · have hrn := run_append_nil (P := P) w st t el i zz hD hi hiz ⟨b', off', none⟩ ys.length c' news hnl hnews hpos (by omega) (by rw [hby]; have := hlen; rw [Nat.add_mul] at this; omega)
    subst hxe
    refine grown [] 0 trivial (by simpa using hpos) ?_
    rw [ex, ey]
    simpa using hrn
  · by_cases hroom : xs.length + ys.length ≤ cap
    · -- in place
      have hm : (xs.length + ys.length) * E.size ≤ cap * E.size := Nat.mul_le_mul_right _ hroom
      rw [Nat.add_mul] at hm
      have hcf : off + xs.length * i.size + news.length ≤ cur.size := by rw [hnl, ← hesz]; omega
      have hf := run_firstCells_some (P := P) w i.size ys.length ⟨b', off', none⟩ ys.length c' news hnl hnews
      have hst := run_storeCells_at (P := P) g (off + xs.length * i.size) el news 0 cur w hh (by simpa using hcf) hones
      rw [n4 _ hh] at hst
      simp only [Nat.add_zero] at hst
      obtain ⟨h1', h2', h3'⟩ := kZ (cs' := (cur.toList.take (off + xs.length * i.size) ++ news ++ cur.toList.drop (off + xs.length * i.size + news.length)).toArray) (Tb := el) wf hg _ rfl
      have hrun : (Builtin.append_ #[st, st] t #[a.eval x, a.eval y]).run P w = .ok (.slice (some ⟨g, off, none⟩) (xs.length + ys.length) cap) { w with heap := w.heap.setIfInBounds g (.cells (cur.toList.take (off + xs.length * i.size) ++ news ++ cur.toList.drop (off + xs.length * i.size + news.length)).toArray el (0, 0)) } := by
        rw [ex, ey]
        simp [Builtin.append_, run_underlying hD, sizeOf, typeInfo, hi, Builtin.lenOf, hroom, hf, Addr.add_lit, hst]
      have le : Le (· ∈ [tg, J]) (· ∈ ([] : List Nat)) w M { w with heap := w.heap.setIfInBounds g (.cells (cur.toList.take (off + xs.length * i.size) ++ news ++ cur.toList.drop (off + xs.length * i.size + news.length)).toArray el (0, 0)) } M :=
        h2'.weaken (fun u hu => by simp only [List.mem_singleton] at hu; subst hu; simp) (fun _ h => by cases h)
      have hgb : g ≠ b := fun e => by rw [e, hhb] at hh; cases hh
      have hroomy : roomy (a.eval x) = true := by rw [ex]; simp [roomy]; omega
      have hb' : ({ w with heap := w.heap.setIfInBounds g (.cells (cur.toList.take (off + xs.length * i.size) ++ news ++ cur.toList.drop (off + xs.length * i.size + news.length)).toArray el (0, 0)) } : World).heap[b]? = some (.map es clock) := by
        show (w.heap.setIfInBounds g _)[b]? = _
        rw [Array.getElem?_setIfInBounds_ne hgb]; exact hhb
      refine ⟨.slice (some ⟨g, off, none⟩) (xs.length + ys.length) cap, _, by simp [execOp, resolve, invoke, builtin, hrun], M, h1', le, ⟨.inr ⟨g, off, cap, _, by rw [List.length_append], hg, h3', by rw [List.length_append]; exact hroom, hcm, ?_, ?_⟩, fun g' e0 he => ?_⟩, fun y hy => ?_⟩
      · simp only [List.size_toArray, List.length_append, List.length_take, List.length_drop, Array.length_toList]
        omega
      · rw [List.length_append, Nat.add_mul, hesz, ← hnl, List.toList_toArray, Bk _ _ _ _ (by simpa using hcf), List.flatMap_append]
        refine bl h2' (by rw [← List.flatMap_append, E.cY]; intro _ h; cases h) (by rw [← List.flatMap_append, E.cS]; intro _ h; cases h) (jm ?_ hn2)
        rw [← hesz]; exact hdx
      · simp only [jO, Option.some.injEq, Prod.mk.injEq] at he
        obtain ⟨rfl, rfl⟩ := he
        refine ⟨b, es, clock, hb, hb', fun j u e1 hj hju => ?_⟩
        have := ownb g (off + xs.length * E.size) (by rw [ex]; rfl) j u e1 hj hju
        refine ⟨this.1, fun _ => ?_⟩
        have := this.2 hroomy
        rw [Nat.add_mul]; omega
      · rw [List.mem_singleton.1 hy]
        refine ⟨hn, b, es, clock, hb, hb', hkeys, ?_, hap⟩
        refine fm (by rw [cW hvals]) fun j ty hj => ?_
        obtain ⟨u, hu, hdu⟩ := dW hvals j ty hj
        refine ⟨u, hu, ?_⟩
        rw [List.getElem?_map] at hj
        obtain ⟨qe, _, rfl⟩ := Option.map_eq_some_iff.1 hj
        rcases hdu with h | ⟨g2, off2, c2, cur2, e2, hg2, hh2, k1, k2, k3, k4⟩
        · exact .inl h
        · by_cases hgg : g = g2
          · subst hgg
            rw [hh] at hh2
            injection hh2 with hh2
            injection hh2 with ha _
            subst ha
            have hend := (ownb g (off + xs.length * E.size) (by rw [ex]; rfl) j u _ hu (by rw [e2]; rfl)).2 hroomy
            refine .inr ⟨g, off2, c2, _, e2, hg, h3', k1, k2, ?_, ?_⟩
            · simp only [List.size_toArray, List.length_append, List.length_take, List.length_drop, Array.length_toList]
              omega
            · rw [List.toList_toArray, Io _ _ _ _ 0 _ (by rw [← hesz]; exact hend) (by simpa using hcf)]
              exact bl h2' (by rw [E.cY]; intro _ h; cases h) (by rw [E.cS]; intro _ h; cases h) k4
          · refine .inr ⟨g2, off2, c2, cur2, e2, hg2, ?_, k1, k2, k3, bl h2' (by rw [E.cY]; intro _ h; cases h) (by rw [E.cS]; intro _ h; cases h) k4⟩
            show (w.heap.setIfInBounds g _)[g2]? = _
            rw [Array.getElem?_setIfInBounds_ne hgg]; exact hh2
    · have holds : ∀ j u, ((cur.toList.drop off).take (xs.length * E.size))[j]? = some u → w.cell? ((⟨g, off, none⟩ : Addr).add j) = some u := fun j u hj => by
        rw [List.getElem?_take] at hj
        split at hj
        · rw [List.getElem?_drop] at hj
          rw [Addr.add_lit]
          simpa [World.cell?, hh] using hj
        · cases hj
      have hol : ((cur.toList.drop off).take (xs.length * E.size)).length = xs.length * i.size := by rw [cW hdx, c6, hesz]
      have hrn := run_append_grow (P := P) w st t el i zz hD hi hiz ⟨g, off, none⟩ xs.length cap _ hol holds ⟨b', off', none⟩ ys.length c' news hnl hnews (by omega) (by omega) (growslice_fits (by omega) (by rw [hby]; exact hlen))
      refine grown _ cap hdx (by omega) ?_
      rw [ex, ey]
      exact hrn
end
end Go.T
namespace Go.T
open Go Go.RowKit
end Go.T
namespace Go.T
open Go Go.RowKit Go.Lib
section
variable {P : Program} {fr : Fr} {ops : Array Oper} {A : As} {rest : List Oper} {K : As → List (As × Fx) → Prop} {d : Nat} {t ty' ty2 : TypeId} {p : String} {e : Array Edge} [T : lD P]
end
end Go.T
namespace Go.T
open Go Go.RowKit
section
variable {P : Program} {fr : Fr} {ops : Array Oper} {A : As} {rest : List Oper} {K : As → List (As × Fx) → Prop} {t mt : TypeId} {p : String} {e : Array Edge} {d : Option Nat} {x y z : Operand}
end
section
variable {P : Program} {fr : Fr} {ops : Array Oper} {A : As} {rest : List Oper} {K : As → List (As × Fx) → Prop} {d : Nat} {t mt kt et : TypeId} {p : String} {e : Array Edge}
variable {κ β : Type} [DecidableEq κ]
end
section
variable {A : As} {κ β : Type} [DecidableEq κ]
end
section
variable {P : Program} {fr : Fr} {ops : Array Oper} {A : As} {rest : List Oper} {K : As → List (As × Fx) → Prop} {t ty' : TypeId} {p : String} {e : Array Edge} [T : lD P]
end
section
variable {P : Program} {fr : Fr} {ops : Array Oper} {A : As} {rest : List Oper} {K : As → List (As × Fx) → Prop} {d : Nat} {t ty' : TypeId} {p : String} {e : Array Edge} [T : lD P]
theorem lB {α : Type} [Inhabited α] {E : El α} {xs : List α} {x : Operand} {tg off Tb : Nat} {ti : TI} (i : Nat) (hx : A.op fr x = .ptr tg off) (he : off = i * E.size) (hc : A.tag tg = some (.vec E Tb xs)) (h1 : gE tg) (hT : T.eN[ty']? = some ti) (ha : ti.k.agg = true) (hsz : ti.size = E.size) (hi : i < xs.length)
 (h : bA P fr ops rest (A.set d (.agg (E.tys (nth xs i)))) fun A' l => K A' ((A, { d := some d, ty := .agg (E.tys (nth xs i)), rs := cJ x, rt := [tg] }) :: l)) : bA P fr ops (⟨some d, .load ty' x, t, p, e, none⟩ :: rest) A K :=
 bJ (bT rfl rfl fun a w M wf hr ht => by
  have := cV (x := x) (fun _ h => h) hr
  rw [hx] at this
  obtain ⟨b, hb, e⟩ := this
  obtain ⟨cs, g1, g2, g3⟩ := rQ (l := E.tys (nth xs i)) (b := b) (q := off) (off := 0) (n := ti.size) (m := E.tys (nth xs i)) (fun j t hj => mw wf h1 hb (sn hc w M ht) (by
   rw [he]; exact mj E xs hi j t hj)) (by rw [List.drop_zero, hsz, ← E.len (nth xs i), List.take_length]) (by rw [E.len, hsz])
  exact ⟨.agg cs.toArray, by simp only [execOp, e]; rw [Sem.run_bind, iJ (off := off) hT ha g1 (by simpa using g3)]; rfl, cs.toArray, rfl, by simpa using g2⟩) h
end
section
variable {P : Program} {A : As} {fn : Func} {n : Nat} {w0 : World} {M0 : bC} [T : lD P]
end
section
variable {P : Program} {fr : Fr} {A : As} {c : Code} {Q : Exit → Act → World → Prop}
theorem jk {tg : Nat} {C D : Cont} (hc : A.tag tg = some C) (h : C.Sub D) (h' : fP P fr c ⟨A.slots, (tg, D) :: A.tags⟩ Q) : fP P fr c A Q := fun a w ⟨M, ok, hsl, ht⟩ =>
 h' a w ⟨M, ok, hsl, fun x hx => by
  rcases List.mem_cons.1 hx with rfl | hx
  ·exact h _ _ _ (ht _ (cj hc))
  exact ht x hx⟩
end
section
variable {P : Program} {fr : Fr} {ops : Array Oper} {A : As} {rest : List Oper} {K : As → List (As × Fx) → Prop} {d : Nat} {t mt kt et : TypeId} {p : String} {e : Array Edge} {κ β : Type} [DecidableEq κ]
end
end Go.T
namespace Go.T
open Go Go.RowKit
def P7 (J : World → bC → Prop) (w : World) (M : bC) : Prop :=
  ∃ Mc, Wf w Mc ∧ Ho Mc ∧ J w Mc ∧ (∀ b, M b = none → Mc b = none) ∧ ∀ b u, b < w.heap.size → M b = some u → u ≠ 7000 → Mc b = some (Zt + b)
theorem xq {J : World → bC → Prop} (hJ : Cb J) {S K : Nat → Prop} {w w' : World} {M M' : bC} (le : Le S K w M w' M') (hs : ¬ S 7000) (hk : ¬ K 7000) (h : P7 J w M) : P7 J w' M' := by
  obtain ⟨Mc, wf, z, hj, h1, h2⟩ := h
  have own : ∀ b, M b = some 7000 → M' b = some 7000 ∧ w'.heap[b]? = w.heap[b]? := fun b h => let ⟨a, c⟩ := le.own b _ h hk; ⟨a, c hs⟩
  have mb : ∀ b t, Mc b = some t → t < Zt → M b = some 7000 := fun b t h ht => by
    cases hm : M b with
    | none => rw [h1 b hm] at h; cases h
    | some u =>
      by_cases e : u = 7000
      · rw [e]
      · have := h2 b u (wf.lt b t h) hm e
        rw [this] at h; injection h with h; omega
  let N : bC := fun b => if b < w'.heap.size then (match M' b with | none => none | some u => if u = 7000 then (if b < w.heap.size ∧ M b = some 7000 then Mc b else some (Zt + b)) else some (Zt + b)) else none
  have hN : ∀ b, N b = if b < w'.heap.size then (match M' b with | none => none | some u => if u = 7000 then (if b < w.heap.size ∧ M b = some 7000 then Mc b else some (Zt + b)) else some (Zt + b)) else none := fun _ => rfl
  have zok : Ho N := by
    intro b u h hu
    rw [hN] at h
    split at h
    · split at h
      · cases h
      · split at h
        · split at h
          · exact z b u h hu
          · injection h with h; exact h.symm
        · injection h with h; exact h.symm
    · cases h
  have wf' : Wf w' N := by
    refine ⟨fun b t h => ?_, fun b b' t ht1 h h' => ?_⟩
    · rw [hN] at h
      split at h
      · assumption
      · cases h
    · have part : ∀ b, N b = some (t + 1) → Mc b = some (t + 1) := fun b h => by
        have hz : t + 1 < Zt := by unfold Zt; omega
        rw [hN] at h
        split at h
        · split at h
          · cases h
          · split at h
            · split at h
              · exact h
              · injection h with h; omega
            · injection h with h; omega
        · cases h
      exact wf.inj b b' t ht1 (part b h) (part b' h')
  have lez : Le (fun t => Zt ≤ t) (fun t => Zt ≤ t) w Mc w' N := by
    refine ⟨le.size, le.os, le.tape, le.out, fun b hb hm => ?_, fun b t hm ht => ?_⟩
    · have hb' : b < w'.heap.size := Nat.lt_of_lt_of_le hb le.size
      cases hmb : M b with
      | none =>
        obtain ⟨a, c⟩ := le.ql b hb hmb
        exact ⟨by rw [hN, if_pos hb', a], c⟩
      | some u =>
        by_cases e : u = 7000
        · subst e
          obtain ⟨a, c⟩ := own b hmb
          exact ⟨by rw [hN, if_pos hb', a]; show (if (7000 : Nat) = 7000 then _ else _) = _; rw [if_pos rfl, if_pos ⟨hb, hmb⟩]; exact hm, c⟩
        · rw [h2 b u hb hmb e] at hm; cases hm
    · have hlt := wf.lt b t hm
      have h0 := mb b t hm (Nat.lt_of_not_le ht)
      obtain ⟨a, c⟩ := own b h0
      refine ⟨?_, fun _ => c⟩
      rw [hN, if_pos (Nat.lt_of_lt_of_le hlt le.size), a]
      show (if (7000 : Nat) = 7000 then _ else _) = _
      rw [if_pos rfl, if_pos ⟨hlt, h0⟩]; exact hm
  refine ⟨N, wf', zok, hJ _ _ _ _ wf' lez hj, fun b h => ?_, fun b u hb h hu => ?_⟩
  · rw [hN, h]; split <;> rfl
  · rw [hN, if_pos hb, h]; show (if u = 7000 then _ else _) = _; rw [if_neg hu]
def Cont.ck {J : World → bC → Prop} (hJ : Cb J) : Cont :=
  { den := fun w M t => t = 7000 ∧ P7 J w M
    mono := fun le _ _ hs hk ⟨e, h⟩ => ⟨e, xq hJ le (e ▸ hs) (e ▸ hk) h⟩ }
theorem Cont.Pe {J : Nat → World → bC → Prop} (hJ : ∀ k, Cb (J k)) {a b : Nat} (e : a = b) : (Cont.ck (hJ a)).Sub (Cont.ck (hJ b)) := by subst e; exact Cont.aF _
def SE (b1 : Bool) (J1 Jx : World → bC → Prop) (w : World) (M : bC) (v : Value) : Prop := (v = .bool b1 ∧ P7 J1 w M) ∨ (v = .bool (!b1) ∧ P7 Jx w M)
def Ty.yb {J1 Jx : World → bC → Prop} (b1 : Bool) (h1 : Cb J1) (hx : Cb Jx) : Ty :=
  ⟨SE b1 J1 Jx, [7000], [7000], fun le hk hs h => h.imp (fun ⟨e, h⟩ => ⟨e, xq h1 le (hs _ (by simp)) (hk _ (by simp)) h⟩) (fun ⟨e, h⟩ => ⟨e, xq hx le (hs _ (by simp)) (hk _ (by simp)) h⟩), true, fun _ h => h.elim (fun ⟨e, _⟩ => e ▸ rfl) (fun ⟨e, _⟩ => e ▸ rfl)⟩
def Cont.me (g T : Nat) (v : Value) (tys : List Ty) (cs : List Value) (h1 : cF tys = []) (h2 : bY tys = []) : Cont :=
  { den := fun w M _ => M g = some 1000 ∧ w.heap[g]? = some (.cells #[v] T (0, 0)) ∧ cI w M tys cs
    deps := [1000], cdeps := [1000]
    mono := fun le hk hs _ _ ⟨e1, e2, e3⟩ => let ⟨a, c⟩ := le.own g _ e1 (hk 1000 (by simp)); ⟨a, (c (hs 1000 (by simp))).trans e2, bl le (by rw [h1]; intro _ h; cases h) (by rw [h2]; intro _ h; cases h) e3⟩ }
def DK (w : World) (M1 Mc' : bC) : bC := fun b => if b < w.heap.size then M1 b else (Mc' b).map fun _ => 7000
theorem LO {w w' : World} {M1 Mc Mc' : bC} (wf1 : Wf w M1) (wf' : Wf w' Mc') (h1 : ∀ b, M1 b = none → Mc b = none) (h2 : ∀ b u, b < w.heap.size → M1 b = some u → u ≠ 7000 → Mc b = some (Zt + b)) (le : Le (fun t => t < Zt) (fun t => t < Zt) w Mc w' Mc') :
 Wf w' (DK w M1 Mc') ∧ Le (· ∈ [7000]) (· ∈ ([] : List Nat)) w M1 w' (DK w M1 Mc') ∧ (∀ b, DK w M1 Mc' b = none → Mc' b = none) ∧ ∀ b u, b < w'.heap.size → DK w M1 Mc' b = some u → u ≠ 7000 → Mc' b = some (Zt + b) := by
 unfold DK
 refine ⟨⟨fun b u h => ?_, fun b b' u ht1 h h' => ?_⟩, ⟨le.size, le.os, le.tape, le.out, fun b hb hm => ⟨by simp [hb, hm], (le.ql b hb (h1 b hm)).2⟩, fun b u hm _ => ⟨by simp [wf1.lt b u hm, hm], fun hs => ?_⟩⟩, fun b h => ?_, fun b u _ h hu => ?_⟩
 ·split at h
  ·exact Nat.lt_of_lt_of_le ‹_› le.size
  obtain ⟨v, hv, _⟩ := Option.map_eq_some_iff.1 h
  exact wf'.lt b v hv
 ·have part : ∀ b, (if b < w.heap.size then M1 b else (Mc' b).map fun _ => 7000) = some (u + 1) → M1 b = some (u + 1) := fun b h => by
   split at h
   ·exact h
   obtain ⟨v, _, hv⟩ := Option.map_eq_some_iff.1 h
   omega
  exact wf1.inj b b' u ht1 (part b h) (part b' h')
 ·have hu : u ≠ 7000 := fun e => hs (by simp [e])
  exact (le.own b _ (h2 b u (wf1.lt b _ hm) hm hu) (by omega)).2 (by omega)
 ·split at h
  ·exact (le.ql b ‹_› (h1 b h)).1
  simpa using h
 split at h
 ·exact (le.own b _ (h2 b u ‹_› h hu) (by omega)).1
 obtain ⟨v, _, hv⟩ := Option.map_eq_some_iff.1 h
 exact absurd hv.symm hu
section
variable {P : Program} {fr : Fr} {ops : Array Oper} {A : As} {rest : List Oper} {K : As → List (As × Fx) → Prop} {d : Nat} {t ty' : TypeId} {p : String} {e : Array Edge}
theorem C4 {c l k : Nat} {encs : List (List Ty)} {J : Nat → World → bC → Prop} {Jx : World → bC → Prop} (hJ : ∀ k, Cb (J k)) (hJx : Cb Jx) (hY : P8 P l encs J Jx) {xs : List Operand} {ats : Array TypeId} {tys : List Ty}
 (hkd : fr.kd = .plain) (hc : A.op fr (.tmp c) = .ex (yv l)) (hx : oW A fr xs = tys) (hd : cF tys = []) (hdc : bY tys = []) (hk : encs[k]? = some tys) (ht : A.tag 7000 = some (.ck (hJ k)))
 (h : bA P fr ops rest (A.after { d := some d, ty := .yb true (hJ (k + 1)) hJx, S := [7000], rs := c :: xs.flatMap cJ, rt := [7000] }) fun A' l' => K A' ((A, { d := some d, ty := .yb true (hJ (k + 1)) hJx, S := [7000], rs := c :: xs.flatMap cJ, rt := [7000] }) :: l')) :
 bA P fr ops (⟨some d, .call ⟨.value (.tmp c), xs.toArray, ats⟩, t, p, e, none⟩ :: rest) A K := by
 refine ⟨{ d := some d, ty := .yb true (hJ (k + 1)) hJx, S := [7000], rs := c :: xs.flatMap cJ, rt := [7000] }, ⟨rfl, by simp, by simp, by simp, fun a w M wf hsz hrd htg => ?_⟩, h⟩
 rw [if_pos (by simp [Region.wanted])]
 have hcv := cV (x := .tmp c) (rs := c :: xs.flatMap cJ) (fun u hu => by exact (List.mem_singleton.1 hu) ▸ List.mem_cons_self) hrd
 rw [hc] at hcv
 have hcv : a.eval (.tmp c) = yv l := hcv
 obtain ⟨_, Mc, wfc, z, hj, h1, h2⟩ := htg _ (cj ht) (by simp)
 have hv : cI w Mc tys (xs.map a.eval) := g9 h1 hd hdc (hx ▸ iD (rs := c :: xs.flatMap cJ) hrd fun x hx c hc => List.mem_cons_of_mem _ (List.mem_flatMap.2 ⟨x, hx, hc⟩))
 obtain ⟨fn, tmps, assign, body, hy, hR⟩ := hY k tys hk w Mc _ wfc z hj hv
 refine ⟨fun f _ => fr.kd.v9 f, ?_⟩
 have hrun : (execOp a.eval ⟨some d, .call ⟨.value (.tmp c), xs.toArray, ats⟩, t, p, e, none⟩).run P w = .ok (.round l fn tmps assign body) w := by
  simp [execOp, resolve, hcv, yv, Deferred.ofValue, invoke, hy]
 rw [Oper.semAt_eq _ _ _ (by intro c h; cases h), hrun, Oper.uponIn_round]
 refine ⟨fun h => (by rw [fr.kd.wj] at h; cases h), ?_⟩
 have hfe : fr.kd.jA = Fence.wide := by rw [hkd]; rfl
 rw [hfe]
 refine RoundIn.mono hR fun en w' ⟨Mc', wf', z', le, hor⟩ => ?_
 obtain ⟨g1, g2, g3, g4⟩ := LO wf wf' h1 h2 le
 rcases hor with ⟨rfl, hj'⟩ | ⟨rfl, hj'⟩
 ·exact ⟨.bool true, rfl, _, g1, g2, .inl ⟨rfl, Mc', wf', z', hj', g3, g4⟩, by simp⟩
 exact ⟨.bool false, rfl, _, g1, g2, .inr ⟨rfl, Mc', wf', z', hj', g3, g4⟩, by simp⟩
theorem IV {x : Operand} {J1 Jx : World → bC → Prop} {h1 : Cb J1} {hx : Cb Jx} {b1 : Bool} (hop : A.op fr x = .yb b1 h1 hx)
 (h : bA P fr ops rest (A.set d (.yb (!b1) h1 hx)) fun A' l' => K A' ((A, { d := some d, ty := .yb (!b1) h1 hx, rs := cJ x }) :: l')) : bA P fr ops (⟨some d, .unOp .not ty' x, t, p, e, none⟩ :: rest) A K :=
 bJ (bT rfl rfl fun a w M _ hrd _ => by
  have hdx := cV (x := x) (fun _ h => h) hrd
  rw [hop] at hdx
  rcases hdx with ⟨ex, hj⟩ | ⟨ex, hj⟩
  ·exact ⟨.bool (!b1), by simp [execOp, ex, Op.unary], .inl ⟨rfl, hj⟩⟩
  exact ⟨.bool (!!b1), by simp [execOp, ex, Op.unary], .inr ⟨rfl, hj⟩⟩) h
end
section
variable {P : Program} {fr : Fr} {A : As} {Q : Exit → Act → World → Prop} {x y : Code}
theorem E5 {c : Operand} {J1 Jx : World → bC → Prop} {h1 : Cb J1} {hx : Cb Jx} (hc : A.op fr c = .yb false h1 hx) (hth : fP P fr x ⟨A.slots, (7000, .ck hx) :: A.tags⟩ Q) (hel : fP P fr y ⟨A.slots, (7000, .ck h1) :: A.tags⟩ Q) : fP P fr (.cond c x y) A Q := fun a w ha => by
 obtain ⟨M, ok, hs, ht⟩ := ha
 have hd := cV (x := c) (rs := cJ c) (fun _ h => h) (fun c _ hn => hs c hn)
 rw [hc] at hd
 rcases hd with ⟨ev, hj⟩ | ⟨ev, hj⟩
 ·exact wpIn_cond_false ev (hel a w ⟨M, ok, hs, fun x hx => by
   rcases List.mem_cons.1 hx with rfl | hx
   ·exact ⟨rfl, hj⟩
   exact ht x hx⟩)
 ·exact wpIn_cond_true ev (hth a w ⟨M, ok, hs, fun x hx => by
   rcases List.mem_cons.1 hx with rfl | hx
   ·exact ⟨rfl, hj⟩
   exact ht x hx⟩)
end
def lG (Mc : bC) (g : Option Nat) : bC := fun b => match Mc b with | none => none | some u => if u < Zt then some 7000 else if some b = g then some 1000 else some 5000
theorem By {Mc : bC} {g : Option Nat} {b : Nat} (h : lG Mc g b = none) : Mc b = none := by
 unfold lG at h
 split at h
 ·assumption
 split at h
 ·cases h
 split at h <;> cases h
theorem oE {Mc : bC} {g : Option Nat} {b : Nat} (h : Mc b = none) : lG Mc g b = none := by simp [lG, h]
theorem HF {w : World} {Mc : bC} {g : Option Nat} (wf : Wf w Mc) : Wf w (lG Mc g) := by
  refine ⟨fun b t h => ?_, fun b b' t ht h h' => ?_⟩
  · cases hm : Mc b with
    | none => rw [oE hm] at h; cases h
    | some u => exact wf.lt b u hm
  · have key : ∀ b, lG Mc g b = some (t + 1) → some b = g := fun b h => by
      unfold lG at h
      split at h
      · cases h
      · split at h
        · injection h with h; omega
        · split at h
          · assumption
          · injection h with h; omega
    have e1 := key b h
    have e2 := key b' h'
    rw [← e2] at e1; injection e1
theorem HL {w : World} {Mc : bC} {g : Option Nat} {J : World → bC → Prop} (wf : Wf w Mc) (z : Ho Mc) (hj : J w Mc) : P7 J w (lG Mc g) := by
 refine ⟨Mc, wf, z, hj, fun b h => By h, fun b u _ h hu => ?_⟩
 unfold lG at h
 split at h
 ·cases h
 rename_i v hv
 split at h
 ·injection h with h; exact absurd h.symm hu
 rw [hv]; congr 1; exact z b v hv (by omega)
section
variable {P : Program}
variable {A : As} {fn : Func} {n : Nat} {J1 Jx : World → bC → Prop}
end
end Go.T
namespace Go.T
open Go Go.RowKit
section
variable {P : Program} {fr : Fr} {ops : Array Oper} {A : As} {rest : List Oper} {K : As → List (As × Fx) → Prop} {d : Nat} {t ty' : TypeId} {p : String} {e : Array Edge} [T : lD P]
variable {α : Type} {E : El α} {Tb J : Nat} {xs ys : List α}
theorem Pr {x : Operand} {ti : TI} {el : Nat} (hx : A.op fr x = .ff E Tb J xs) (hT : T.eN[ty']? = some ti) (hk : ti.k = .slice el)
 (h : bA P fr ops rest (A.set d (.int .i64 (xs.length : Nat))) fun A' l => K A' ((A, { d := some d, ty := .int .i64 (xs.length : Nat), rs := cJ x }) :: l)) :
 bA P fr ops (⟨some d, .call ⟨.builtin .len, #[x], #[ty']⟩, t, p, e, none⟩ :: rest) A K :=
 bJ (bT rfl rfl fun a w M _ hr _ => by
  have := cV (x := x) (fun _ h => h) hr
  rw [hx] at this
  have h1 := this
  obtain ⟨_, D, _, hD, hkd, _⟩ := cz hT
  rw [hk] at hkd
  cases D <;> simp only [TK.of, reduceCtorEq, TK.slice.injEq] at hkd
  refine ⟨.int .i64 xs.length, ?_, rfl⟩
  rcases h1 with ⟨hn, ex⟩ | ⟨g, off, c, cur, ex, _⟩
  ·simp [execOp, ex, resolve, invoke, builtin, Builtin.len_, run_underlying hD, hn, goInt]
  simp [execOp, ex, resolve, invoke, builtin, Builtin.len_, run_underlying hD, goInt]) h
theorem K1 [Inhabited α] {x y : Operand} {kd : IntKind} {i : Nat} {ti te : TI} {el : Nat} (hx : A.op fr x = .ff E Tb J xs) (hy : A.op fr y = .int kd i) (hT : T.eN[ty']? = some ti) (hk : ti.k = .slice el) (hE : T.eN[el]? = some te) (hs : te.size = E.size) (hi : i < xs.length)
 (h : bA P fr ops rest (A.set d (.op J (E.tys (nth xs i)))) fun A' l' => K A' ((A, { d := some d, ty := .op J (E.tys (nth xs i)), rs := cJ x ++ cJ y }) :: l')) : bA P fr ops (⟨some d, .indexAddr ty' x y, t, p, e, none⟩ :: rest) A K :=
 bJ (bT rfl rfl fun a w M _ hr _ => by
  obtain ⟨hdx, hdy⟩ := op2 hr
  rw [hx] at hdx; rw [hy] at hdy
  have h1 := hdx
  have ey : a.eval y = .int kd i := hdy
  rcases h1 with ⟨h0, _⟩ | ⟨g, off, c, cur, ex, hg, hh, hn, _, _, hd⟩
  ·subst h0; simp at hi
  refine ⟨_, by simp only [execOp, ex, ey, Sem.run_bind, iG hT hk hE (Int.natCast_nonneg i) (show (i : Int).toNat < xs.length from hi)]; rfl, g, off + i * te.size, by simp, hg, fun j ty hj => ?_⟩
  rw [hs]
  exact z5 hh hd hi hj) h
theorem PE {x y : Operand} {kd : IntKind} {lo : Nat} {ti te : TI} {el : Nat} (hx : A.op fr x = .ff E Tb J xs) (hy : A.op fr y = .int kd lo) (hT : T.eN[ty']? = some ti) (hk : ti.k = .slice el) (hE : T.eN[el]? = some te) (hs : te.size = E.size) (hlo : lo ≤ xs.length) (h0 : 0 < xs.length)
 (h : bA P fr ops rest (A.set d (.ff E Tb J (xs.drop lo))) fun A' l' => K A' ((A, { d := some d, ty := .ff E Tb J (xs.drop lo), rs := cJ x ++ cJ y }) :: l')) : bA P fr ops (⟨some d, .slice ty' x (some y) none none, t, p, e, none⟩ :: rest) A K :=
 bJ (bT rfl rfl fun a w M _ hr _ => by
  obtain ⟨hdx, hdy⟩ := op2 hr
  rw [hx] at hdx; rw [hy] at hdy
  have h1 := hdx
  have ey : a.eval y = .int kd lo := hdy
  obtain ⟨_, D, _, hD, hkd, _⟩ := cz hT
  rw [hk] at hkd
  cases D <;> simp only [TK.of, reduceCtorEq, TK.slice.injEq] at hkd
  subst hkd
  have hsz := fun w => dO (P := P) hE w
  rcases h1 with ⟨hn, _⟩ | ⟨g, off, c, cur, ex, hg, hh, hn, hc, hsz2, hd⟩
  ·subst hn; simp at h0
  have hlc : lo ≤ c := by omega
  have hrun : ∃ ad, (execOp a.eval ⟨some d, .slice ty' x (some y) none none, t, p, e, none⟩).run P w = .ok (.value (.slice (some ad) (xs.length - lo) (c - lo))) w ∧ ad = (if c = lo then (⟨g, off, none⟩ : Addr) else ⟨g, off + lo * E.size, none⟩) := by
   refine ⟨_, ?_, rfl⟩
   simp [execOp, ex, ey, Instr.sliceAt, Instr.slice, run_underlying hD, Instr.sliceBounds, Instr.sliceBound, asIntOf, hsz, hs, hn, hlo]
   by_cases hcl : c = lo
   ·simp [hcl]
   simp [hcl]; exact Addr.add_lit _ _ _
  obtain ⟨ad, hrun, had⟩ := hrun
  have hlen : (xs.drop lo).length = xs.length - lo := List.length_drop
  have key : cI w M ((xs.drop lo).flatMap E.tys) ((cur.toList.drop (off + lo * E.size)).take ((xs.drop lo).length * E.size)) := by
   have := nF (lo * E.size) hd
   rw [List.drop_take, List.drop_drop, ← Nat.sub_mul] at this
   have e1 : (xs.flatMap E.tys).drop (lo * E.size) = (xs.drop lo).flatMap E.tys := by
    have : xs.flatMap E.tys = (xs.take lo).flatMap E.tys ++ (xs.drop lo).flatMap E.tys := by rw [← List.flatMap_append, List.take_append_drop]
    rw [this, List.drop_left' (by rw [c6, List.length_take, Nat.min_eq_left hlo])]
   rw [e1] at this
   rw [hlen]; exact this
  by_cases hcl : c = lo
  ·rw [if_pos hcl] at had
   subst had
   refine ⟨_, hrun, .inr ⟨g, off, c - lo, cur, by rw [hlen], hg, hh, by rw [hlen]; omega, by omega, ?_, ?_⟩⟩
   ·have : c - lo = 0 := by omega
    rw [this]; omega
   have h0' : xs.drop lo = [] := List.eq_nil_of_length_eq_zero (by rw [hlen]; omega)
   rw [h0']; simp [cI]
  rw [if_neg hcl] at had
  subst had
  refine ⟨_, hrun, .inr ⟨g, off + lo * E.size, c - lo, cur, by rw [hlen], hg, hh, by rw [hlen]; omega, by omega, ?_, key⟩⟩
  rw [Nat.add_assoc, ← Nat.add_mul, show lo + (c - lo) = c by omega]; exact hsz2) h
theorem G9 {x y : Operand} {st el : Nat} {ti te : TI} (hx : A.op fr x = .ff E el J xs) (hy : A.op fr y = .sl E ys) (hJ : 4096 ≤ J) (hp : fr.pass.contains J = false) (hpos : 0 < ys.length) (hT : T.eN[st]? = some ti) (hk : ti.k = .slice el) (hE : T.eN[el]? = some te) (hs : te.size = E.size) (hz : te.zero.length = te.size) (h0 : 0 < te.size)
    (hlen : (xs.length + ys.length) * te.bytes ≤ 140737488355328) (hlen' : xs.length + ys.length ≤ 9223372036854775807)
    (h : bA P fr ops rest (A.after { d := some d, ty := .ff E el J (xs ++ ys), S := [J], rs := cJ x ++ cJ y }) fun A' l' => K A' ((A, { d := some d, ty := .ff E el J (xs ++ ys), S := [J], rs := cJ x ++ cJ y }) :: l')) :
    bA P fr ops (⟨some d, .call ⟨.builtin .append, #[x, y], #[st, st]⟩, t, p, e, none⟩ :: rest) A K := by
  refine ⟨_, gC rfl rfl (by simp) (by simp; omega) (by simp) fun a w M wf hr htg => ?_, h⟩
  obtain ⟨hdx, hdy⟩ := op2 hr
  rw [hx] at hdx; rw [hy] at hdy
  have hrow := hdx
  obtain ⟨_, D, _, hD, hkd, _⟩ := cz hT
  rw [hk] at hkd
  cases D <;> simp only [TK.of, reduceCtorEq, TK.slice.injEq] at hkd
  subst hkd
  rename_i el
  obtain ⟨i, _, hi, _, _, hsz, hby, hze⟩ := cz hE
  obtain ⟨zz, hiz, hzc⟩ : ∃ z, i.zero = some z ∧ z.cells.size = i.size := by
    cases hiz : i.zero with
    | none => rw [hiz] at hze; rw [← hze] at hz; simp at hz; omega
    | some z => rw [hiz] at hze; exact ⟨z, rfl, by simp at hze; rw [hsz, ← hz, ← hze]; simp⟩
  obtain ⟨ad, c', ey, hc1, hc2, hpp⟩ := hdy
  obtain ⟨b', off', rfl, hp'⟩ := hpp hpos
  obtain ⟨news, hn1, hn2, hn3⟩ := m6 hp' _ (Nat.le_refl _)
  rw [List.take_length] at hn2
  have hnl : news.length = ys.length * i.size := by rw [hn1, c6, hsz, hs]
  have hnews : ∀ j u, news[j]? = some u → w.cell? ((⟨b', off', none⟩ : Addr).add j) = some u := fun j u hj => by rw [Addr.add_lit]; exact hn3 j u hj
  have hones := kO hn2 (lY E ys)
  have hesz : E.size = i.size := by rw [hsz, hs]
  -- behind a growth
  have grown : ∀ (olds : List Value) (cap : Nat), cI w M (xs.flatMap E.tys) olds → cap < xs.length + ys.length →
      (Builtin.append_ #[st, st] t #[a.eval x, a.eval y]).run P w = .ok (.slice (some ⟨w.heap.size, 0, none⟩) (xs.length + ys.length) (grownCap w (xs.length + ys.length) cap el)) (w.drew.alloc (.cells (olds.toArray ++ news.toArray ++ Builtin.zeroCells zz.cells (grownCap w (xs.length + ys.length) cap el - (xs.length + ys.length))) el)) →
      ∃ v w', (execOp a.eval ⟨some d, .call ⟨.builtin .append, #[x, y], #[st, st]⟩, t, p, e, none⟩).run P w = .ok (.value v) w' ∧ Fx.left { d := some d, ty := .ff E el J (xs ++ ys), S := [J], rs := cJ x ++ cJ y } w M w' v := by
    intro olds cap hdo hcap hrun
    have holen : olds.length = xs.length * i.size := by rw [cW hdo, c6, hesz]
    have hge := grownCap_ge w (xs.length + ys.length) cap el
    have hcm : grownCap w (xs.length + ys.length) cap el ≤ maxLen := grownCap_le_maxLen w (xs.length + ys.length) cap el (by simp only [maxLen]; omega)
    have hsize : (w.drew.alloc (.cells (olds.toArray ++ news.toArray ++ Builtin.zeroCells zz.cells (grownCap w (xs.length + ys.length) cap el - (xs.length + ys.length))) el)).heap.size = w.heap.size + 1 := by simp
    have hold : ∀ b2, b2 < w.heap.size → (w.drew.alloc (.cells (olds.toArray ++ news.toArray ++ Builtin.zeroCells zz.cells (grownCap w (xs.length + ys.length) cap el - (xs.length + ys.length))) el)).heap[b2]? = w.heap[b2]? := fun b2 h => Below.heap_alloc w.drew _ b2 h
    have hnew : (w.drew.alloc (.cells (olds.toArray ++ news.toArray ++ Builtin.zeroCells zz.cells (grownCap w (xs.length + ys.length) cap el - (xs.length + ys.length))) el)).heap[w.heap.size]? = some (.cells (olds.toArray ++ news.toArray ++ Builtin.zeroCells zz.cells (grownCap w (xs.length + ys.length) cap el - (xs.length + ys.length))) el (0, 0)) := gq w.drew _
    have hos : (w.drew.alloc (.cells (olds.toArray ++ news.toArray ++ Builtin.zeroCells zz.cells (grownCap w (xs.length + ys.length) cap el - (xs.length + ys.length))) el)).os = w.os ∧ (w.drew.alloc (.cells (olds.toArray ++ news.toArray ++ Builtin.zeroCells zz.cells (grownCap w (xs.length + ys.length) cap el - (xs.length + ys.length))) el)).tape = w.tape ∧ (w.drew.alloc (.cells (olds.toArray ++ news.toArray ++ Builtin.zeroCells zz.cells (grownCap w (xs.length + ys.length) cap el - (xs.length + ys.length))) el)).output = w.output := ⟨rfl, rfl, rfl⟩
    have hcs : (olds.toArray ++ news.toArray ++ Builtin.zeroCells zz.cells (grownCap w (xs.length + ys.length) cap el - (xs.length + ys.length))).size = grownCap w (xs.length + ys.length) cap el * i.size := by
      simp only [Array.size_append, List.size_toArray, size_zeroCells, hzc, holen, hnl, ← Nat.add_mul]
      congr 1
      omega
    have htk : ((olds.toArray ++ news.toArray ++ Builtin.zeroCells zz.cells (grownCap w (xs.length + ys.length) cap el - (xs.length + ys.length))).toList.drop 0).take ((xs ++ ys).length * E.size) = olds ++ news := by
      rw [List.drop_zero]
      simp only [Array.toList_append]
      rw [List.take_left' (by rw [List.length_append, holen, hnl, List.length_append, hesz, Nat.add_mul])]
    generalize hw' : (w.drew.alloc (.cells (olds.toArray ++ news.toArray ++ Builtin.zeroCells zz.cells (grownCap w (xs.length + ys.length) cap el - (xs.length + ys.length))) el)) = w' at *
    generalize hcu : (olds.toArray ++ news.toArray ++ Builtin.zeroCells zz.cells (grownCap w (xs.length + ys.length) cap el - (xs.length + ys.length))) = cu at *
    have le : Le (· ∈ [J]) (· ∈ ([] : List Nat)) w M w' (fun b2 => if b2 = w.heap.size then some J else M b2) :=
      ⟨by omega, hos.1, hos.2.1, hos.2.2, fun b2 hb2 hm => ⟨by rw [if_neg (by omega)]; exact hm, hold b2 hb2⟩, fun b2 u hm _ => by
        have := wf.lt b2 u hm
        exact ⟨by rw [if_neg (by omega)]; exact hm, fun _ => hold b2 this⟩⟩
    have le0 : Le (· ∈ ([] : List Nat)) (· ∈ ([] : List Nat)) w M w' (fun b2 => if b2 = w.heap.size then some J else M b2) :=
      ⟨by omega, hos.1, hos.2.1, hos.2.2, fun b2 hb2 hm => ⟨by rw [if_neg (by omega)]; exact hm, hold b2 hb2⟩, fun b2 u hm _ => by
        have := wf.lt b2 u hm
        exact ⟨by rw [if_neg (by omega)]; exact hm, fun _ => hold b2 this⟩⟩
    have wf' : Wf w' (fun b2 => if b2 = w.heap.size then some J else M b2) := by
      refine ⟨fun b2 u hm => ?_, fun b2 b3 u ht1 hm hm' => ?_⟩
      · split at hm
        · omega
        · have := wf.lt b2 u hm; omega
      · split at hm
        · injection hm with hm; omega
        · split at hm'
          · injection hm' with hm'; omega
          · exact wf.inj b2 b3 u ht1 hm hm'
    refine ⟨.slice (some ⟨w.heap.size, 0, none⟩) (xs.length + ys.length) (grownCap w (xs.length + ys.length) cap el), w', by simp [execOp, resolve, invoke, builtin, hrun], _, wf', le, .inr ⟨w.heap.size, 0, grownCap w (xs.length + ys.length) cap el, cu, by rw [List.length_append], by simp, hnew, by rw [List.length_append]; exact hge, hcm, by rw [hcs, hesz]; omega, ?_⟩, by simp⟩
    rw [htk, List.flatMap_append]
    exact jm (bl le0 (by rw [E.cY]; intro _ h; cases h) (by rw [E.cS]; intro _ h; cases h) hdo) (bl le0 (by rw [E.cY]; intro _ h; cases h) (by rw [E.cS]; intro _ h; cases h) hn2)
  rcases hrow with ⟨hxe, ex⟩ | ⟨g, off, cap, cur, ex, hg, hh, hxc, hcm, hfit, hdx⟩
  · have hrn := run_append_nil (P := P) w st t el i zz hD hi hiz ⟨b', off', none⟩ ys.length c' news hnl hnews hpos (by omega) (by rw [hby]; have := hlen; rw [Nat.add_mul] at this; omega)
    subst hxe
    refine grown [] 0 trivial (by simpa using hpos) ?_
    rw [ex, ey]
    simpa using hrn
  · by_cases hroom : xs.length + ys.length ≤ cap
    · -- in place
      have hm : (xs.length + ys.length) * E.size ≤ cap * E.size := Nat.mul_le_mul_right _ hroom
      rw [Nat.add_mul] at hm
      have hcf : off + xs.length * i.size + news.length ≤ cur.size := by rw [hnl, ← hesz]; omega
      have hf := run_firstCells_some (P := P) w i.size ys.length ⟨b', off', none⟩ ys.length c' news hnl hnews
      have hst := run_storeCells_at (P := P) g (off + xs.length * i.size) el news 0 cur w hh (by simpa using hcf) hones
      rw [n4 _ hh] at hst
      simp only [Nat.add_zero] at hst
      obtain ⟨h1', h2', h3'⟩ := kZ (cs' := (cur.toList.take (off + xs.length * i.size) ++ news ++ cur.toList.drop (off + xs.length * i.size + news.length)).toArray) (Tb := el) wf hg _ rfl
      have hrun : (Builtin.append_ #[st, st] t #[a.eval x, a.eval y]).run P w = .ok (.slice (some ⟨g, off, none⟩) (xs.length + ys.length) cap) { w with heap := w.heap.setIfInBounds g (.cells (cur.toList.take (off + xs.length * i.size) ++ news ++ cur.toList.drop (off + xs.length * i.size + news.length)).toArray el (0, 0)) } := by
        rw [ex, ey]
        simp [Builtin.append_, run_underlying hD, sizeOf, typeInfo, hi, Builtin.lenOf, hroom, hf, Addr.add_lit, hst]
      have le : Le (· ∈ [J]) (· ∈ ([] : List Nat)) w M { w with heap := w.heap.setIfInBounds g (.cells (cur.toList.take (off + xs.length * i.size) ++ news ++ cur.toList.drop (off + xs.length * i.size + news.length)).toArray el (0, 0)) } M :=
        h2'.weaken (fun u hu => by simp only [List.mem_singleton] at hu; subst hu; simp) (fun _ h => by cases h)
      refine ⟨.slice (some ⟨g, off, none⟩) (xs.length + ys.length) cap, _, by simp [execOp, resolve, invoke, builtin, hrun], M, h1', le, .inr ⟨g, off, cap, _, by rw [List.length_append], hg, h3', by rw [List.length_append]; exact hroom, hcm, ?_, ?_⟩, by simp⟩
      · simp only [List.size_toArray, List.length_append, List.length_take, List.length_drop, Array.length_toList]
        omega
      · rw [List.length_append, Nat.add_mul, hesz, ← hnl, List.toList_toArray, Bk _ _ _ _ (by simpa using hcf), List.flatMap_append]
        refine bl h2' (by rw [← List.flatMap_append, E.cY]; intro _ h; cases h) (by rw [← List.flatMap_append, E.cS]; intro _ h; cases h) (jm ?_ hn2)
        rw [← hesz]; exact hdx
    · have holds : ∀ j u, ((cur.toList.drop off).take (xs.length * E.size))[j]? = some u → w.cell? ((⟨g, off, none⟩ : Addr).add j) = some u := fun j u hj => by
        rw [List.getElem?_take] at hj
        split at hj
        · rw [List.getElem?_drop] at hj
          rw [Addr.add_lit]
          simpa [World.cell?, hh] using hj
        · cases hj
      have hol : ((cur.toList.drop off).take (xs.length * E.size)).length = xs.length * i.size := by rw [cW hdx, c6, hesz]
      have hrn := run_append_grow (P := P) w st t el i zz hD hi hiz ⟨g, off, none⟩ xs.length cap _ hol holds ⟨b', off', none⟩ ys.length c' news hnl hnews (by omega) (by omega) (growslice_fits (by omega) (by rw [hby]; exact hlen))
      refine grown _ cap hdx (by omega) ?_
      rw [ex, ey]
      exact hrn
end
section
variable {P : Program} {fr : Fr} {A : As} {c : Code} {Q : Exit → Act → World → Prop}
end
end Go.T
namespace Go.T
open Go Go.RowKit
section
variable {P : Program} {fr : Fr} {ops : Array Oper} {A : As} {rest : List Oper} {K : As → List (As × Fx) → Prop} {d : Nat} {t : TypeId} {p : String} {e : Array Edge}
end
end Go.T
namespace Go.T
open Go Go.RowKit
theorem Ty.Ae {α : Type} {E : El α} {T tg n : Nat} {xs : List α} (hn : xs.length = n) : (Ty.row E T tg xs).Sub (Ty.vs tg n) := fun w M v ⟨cs, h1, h2, h3⟩ => by
 subst hn
 rcases h1.2 with ⟨e, h0⟩ | ⟨g, cap, cur, ex, _, hh, hn1, hcap, _, htk⟩
 ·exact .inl ⟨h0, e⟩
 exact .inr ⟨g, cap, h3 g (by rw [ex]; rfl), ex, hn1, hcap⟩
theorem Cont.kF {T : Nat} {l l' : List Ty} (h : My l l') : (Cont.cells T l).Sub (Cont.cells T l') := fun w M v ⟨b, cs, h1, h2, h3⟩ => ⟨b, cs, h1, h2, uY h h3⟩
end Go.T
namespace Go.T
open Go Go.RowKit
end Go.T
namespace Go.T
open Go Go.RowKit
section
variable {P : Program} {fr : Fr} {A : As} {c : Code} {Q : Exit → Act → World → Prop}
theorem qK {α : Type} {E : El α} {T Tc tg c0 : Nat} {l : List Ty} {xs : List α} (i : Nat) (hc : A.tag c0 = some (.cells Tc l)) (hi : l[i]? = some (.row E T tg xs))
 (h : fP P fr c ⟨A.slots, (tg, .vec E T xs) :: A.tags⟩ Q) : fP P fr c A Q := fun a w ⟨M, ok, hsl, ht⟩ => by
 refine h a w ⟨M, ok, hsl, fun x hx => ?_⟩
 rcases List.mem_cons.1 hx with rfl | hx
 ·obtain ⟨b, cs, hb, hh, hd⟩ := ht _ (cj hc)
  obtain ⟨v, _, ⟨ds, h1, h2, h3⟩⟩ := dW hd i _ hi
  rcases h1.2 with ⟨e, h0⟩ | ⟨g, cap, cur, ex, _, hh, hn1, hcap, _, htk⟩
  ·exact .inl (List.length_eq_zero_iff.1 h0)
  have hg : M g = some tg := h3 g (by rw [ex]; rfl)
  exact .inr ⟨g, cur, hg, hh, by rw [c6, htk]; exact h2⟩
 exact ht x hx
end
end Go.T
namespace Go.T
open Go Go.RowKit
section
variable {P : Program} {A : As} {fn : Func} {n : Nat} {w0 : World} {M0 : bC}
theorem Qb {t1 t2 t3 t4 : Nat} {r1 r2 r3 r4 : Ty} (hr : fn.results = #[.tmp t1, .tmp t2, .tmp t3, .tmp t4]) (h1 : Nat.blt t1 n = true) (h2 : Nat.blt t2 n = true) (h3 : Nat.blt t3 n = true) (h4 : Nat.blt t4 n = true) (hs1 : gU (A.slots t1) r1) (hs2 : gU (A.slots t2) r2) (hs3 : gU (A.slots t3) r3) (hs4 : gU (A.slots t4) r4) :
 dQ ⟨n, w0, M0, [], .plain⟩ A (bodyPost P fn (lV w0 M0 (Ty.j8 [r1, r2, r3, r4])) .ret) := by
 intro a w ⟨M, ok, hsl, _⟩
 exact ⟨ok.gl (by simp), .tuple #[a.tmps.getD t1 undef, a.tmps.getD t2 undef, a.tmps.getD t3 undef, a.tmps.getD t4 undef], by simp [results, hr], _, og M, rfl, qi ok.wf, nO (fr := ⟨n, w0, M0, [], .plain⟩) (fun _ h => h) ok.base, _, rfl, hs1 _ _ _ ok.wf (hsl t1 (by simpa using h1)), hs2 _ _ _ ok.wf (hsl t2 (by simpa using h2)), hs3 _ _ _ ok.wf (hsl t3 (by simpa using h3)), hs4 _ _ _ ok.wf (hsl t4 (by simpa using h4)), trivial⟩
end
end Go.T
namespace Go.T
open Go Go.RowKit
section
variable {P : Program} {fr : Fr} {A : As} {c : Code} {Q : Exit → Act → World → Prop}
end
section
variable {P : Program} {A : As} {fn : Func} {n : Nat} {w0 : World} {M0 : bC}
end
end Go.T
namespace Go.T
open Go Go.RowKit
section
variable {P : Program} {fr : Fr} {ops : Array Oper} {A : As} {rest : List Oper} {K : As → List (As × Fx) → Prop} {d : Nat} {t : TypeId} {p : String} {e : Array Edge} {y : Operand}
theorem Aj {c : Operand} {b : Bool} (hc : A.op fr c = .bool false) (hy : A.op fr y = .bool b)
 (h : bA P fr ops rest (A.set d (.bool b)) fun A' l' => K A' ((A, { d := some d, ty := .bool b, rs := cJ c ++ cJ y }) :: l')) : bA P fr ops (⟨some d, .pick c (.const (.bool true)) y, t, p, e, none⟩ :: rest) A K :=
 bJ (bT rfl rfl fun a w M _ hrd _ => by
  obtain ⟨hdc, hdy⟩ := op2 hrd
  rw [hc] at hdc; rw [hy] at hdy
  have ec : a.eval c = .bool false := hdc
  have ey : a.eval y = .bool b := hdy
  exact ⟨.bool b, by simp only [execOp, ec, ey]; simp [asBool], rfl⟩) h
theorem MR {c : Operand} (hc : A.op fr c = .bool true)
 (h : bA P fr ops rest (A.set d (.bool true)) fun A' l' => K A' ((A, { d := some d, ty := .bool true, rs := cJ c ++ cJ y }) :: l')) : bA P fr ops (⟨some d, .pick c (.const (.bool true)) y, t, p, e, none⟩ :: rest) A K :=
 bJ (bT rfl rfl fun a w M _ hrd _ => by
  obtain ⟨hdc, _⟩ := op2 hrd
  rw [hc] at hdc
  have ec : a.eval c = .bool true := hdc
  exact ⟨.bool true, by simp only [execOp, ec]; simp [asBool, Act.eval], rfl⟩) h
theorem AW {op : Op} {j s : Nat} {want : Bool} (hs : pY ops j = some s) (hn : Nat.blt s fr.n = true) (hc : A.slots s = .ex undef)
 (h : bA P fr ops rest (A.set d (.ex undef)) fun A' l' => K A' ((A, { d := some d, ty := .ex undef, rs := [s] }) :: l')) : bA P fr ops (⟨some d, op, t, p, e, some (j, want)⟩ :: rest) A K := by
 refine ⟨{ d := some d, ty := .ex undef, rs := [s] }, ⟨rfl, (by simp), (by simp), (by simp), fun a w M wf hsz hrd htg => ?_⟩, h⟩
 have hv := hrd s List.mem_cons_self (by simpa using hn)
 rw [hc] at hv
 have hy := qy (ops := ops) hs (by rw [hsz]; simpa using hn) hv
 have hw : Region.wanted ⟨some d, op, t, p, e, some (j, want)⟩ (yielded ops a.tmps) = false := by
  simp only [Region.wanted, hy]
  cases want <;> simp_all
 rw [if_neg (by rw [hw]; simp)]
 exact ⟨M, wf, Le.refl _ _ _ _, rfl, by simp⟩
end
section
variable {P : Program} {fr : Fr} {A : As} {Q : Exit → Act → World → Prop} {code : Code}
end
end Go.T
namespace Go.T
open Go Go.RowKit
section
variable {P : Program} {fr : Fr} {A : As} {Q : Exit → Act → World → Prop}
end
end Go.T
namespace Go.T
open Go Go.RowKit
section
variable {P : Program} {fr : Fr} {ops : Array Oper} {A : As} {rest : List Oper} {K : As → List (As × Fx) → Prop} {d : Nat} {t ty' : TypeId} {p : String} {e : Array Edge} [T : lD P]
end
section
open Go.RowKit
variable {P : Program} {A : As} {fn : Func} {n : Nat} {w0 : World} {M0 : bC} {F : List Nat} {post : List (Nat × Cont)} [T : lD P]
end
section
variable {P : Program} {fr : Fr} {A : As}
end
end Go.T
namespace Go.T
open Go Go.RowKit
section
variable {P : Program} {fr : Fr} {A : As}
end
end Go.T
namespace Go.T
open Go Go.RowKit
end Go.T
namespace Go.T
open Go Go.RowKit
def Qt (tys : List Ty) (vs : List Value) (w : World) (M : bC) (_ : Nat) : Prop := cI w M tys vs
def Cont.fact (tys : List Ty) (vs : List Value) (h1 : cF tys = []) (h2 : bY tys = []) : Cont :=
  { den := Qt tys vs, deps := [], cdeps := [], mono := fun le _ _ _ _ h => bl le (by rw [h1]; intro _ h; cases h) (by rw [h2]; intro _ h; cases h) h }
def XB (b D Tb : Nat) (vs : List Value) (J : Nat → World → bC → Prop) : Prop :=
  ∀ k w M, Wf w M → J k w M → M b = some D ∧ ∃ cs : Array Value, w.heap[b]? = some (.cells cs Tb (0, 0)) ∧ cs.toList.take vs.length = vs
def Jw (P : Program) (f : FuncId) (b D Tb : Nat) (vs : List Value) (tys : List Ty) (args : Nat → List Ty) (encs : List (List Ty)) (resD resS : Ty) : Prop :=
  (∃ fn, P.funcs[f]? = some fn ∧ (fn.name == "runtime.NumGoroutine") = false ∧ fn.body.isNone = false) ∧
  ∀ l J Jx, (∀ k, Cb (J k)) → Cb Jx → XB b D Tb vs J → P8 P l encs J Jx → ∀ w M us, Wf w M → Ho M → cI w M (args l) us → cI w M tys vs → J 0 w M →
    Calls P f us.toArray w (cM encs.length J Jx resD resS)
section
variable {P : Program}
theorem Ec {f b D Tb : Nat} {us : List Value} {tys : List Ty} {fn : Func} {c : Code} {args : Nat → List Ty} {encs : List (List Ty)} {n : Nat} (h1 : cF tys = []) (h2 : bY tys = []) (hf : P.funcs[f]? = some fn) (hb : fn.body = some c) (hn : (fn.name == "runtime.NumGoroutine") = false) (hnt : fn.ntmps = n) (hl : ∀ l, (args l).length ≤ n) (hdd : ∀ l, cF (args l) = [] ∧ bY (args l) = [])
    (h : ∀ l J Jx (hJ : ∀ k, Cb (J k)) (hJx : Cb Jx), XB b D Tb us J → P8 P l encs J Jx → ∀ w0 M0, fP P ⟨n, w0, M0, [7000, 5000], .plain⟩ c (uH (args l) [(7000, .ck (hJ 0)), (4000, Cont.fact tys us h1 h2)]) (bodyPost P fn (cM encs.length J Jx (Ty.j8 []) (Ty.j8 [])))) : Jw P f b D Tb us tys args encs (Ty.j8 []) (Ty.j8 []) := by
  refine ⟨⟨fn, hf, hn, by rw [hb]; rfl⟩, fun l J Jx hJ hJx hX hY w Mc vs wf z hd hus hj => calls_of_wp hf hb (wpIn_wide.1 (h l J Jx hJ hJx hX hY w (lG Mc none) _ _ ?_))⟩
  have hall : cI w (lG Mc none) (args l) vs := g9 (fun b hb => oE hb) (hdd l).1 (hdd l).2 hd
  have hlen := cW hall
  have hl := hl l
  refine ⟨lG Mc none, ⟨HF wf, Le.refl _ _ _ _, by simp [hnt, hlen]; omega, Defs.nil⟩, fun c hc => ?_, fun x hx => ?_⟩
  · simp only [uH]
    cases ha : (args l)[c]? with
    | none => trivial
    | some ty =>
      obtain ⟨v, hv, hdv⟩ := dW hall c ty ha
      have : (vs.toArray ++ Array.replicate (fn.ntmps - vs.toArray.size) undef).getD c undef = v := by
        have hlt : c < vs.length := (List.getElem?_eq_some_iff.1 hv).1
        rw [Array.getD_eq_getD_getElem?, Array.getElem?_append_left (by simpa using hlt)]
        simp [hv]
      rw [this]; exact hdv
  · rcases List.mem_cons.1 hx with rfl | hx
    · exact ⟨rfl, HL wf z hj⟩
    · rw [List.mem_singleton.1 hx]
      exact g9 (fun b hb => oE hb) h1 h2 hus
theorem Nu {fn : Func} {n : Nat} {A : As} {w0 : World} {M0 : bC} {J : Nat → World → bC → Prop} {Jx : World → bC → Prop} {m : Nat} {h1 : Cb (J m)} (hr : fn.results = #[]) (ht : A.tag 7000 = some (.ck h1)) : dQ ⟨n, w0, M0, [7000, 5000], .plain⟩ A (bodyPost P fn (cM m J Jx (Ty.j8 []) (Ty.j8 [])) .normal) := by
 intro a w' ⟨M, ok, hsl, htg⟩
 obtain ⟨_, Mc', wf', z', hj, k1, k2⟩ := htg _ (cj ht)
 exact ⟨ok.gl (by simp), _, results_none hr _ _ _, _, Mc', rfl, wf', z', .inl ⟨⟨_, rfl, trivial⟩, hj⟩⟩
theorem JD {fn : Func} {n : Nat} {A : As} {w0 : World} {M0 : bC} {J : Nat → World → bC → Prop} {Jx : World → bC → Prop} {m k : Nat} {hJ : ∀ k, Cb (J k)} (e : k = m) (hr : fn.results = #[]) (ht : A.tag 7000 = some (.ck (hJ k))) : dQ ⟨n, w0, M0, [7000, 5000], .plain⟩ A (bodyPost P fn (cM m J Jx (Ty.j8 []) (Ty.j8 [])) .normal) := by
 subst e; exact Nu hr ht
theorem Fy {fn : Func} {n : Nat} {A : As} {w0 : World} {M0 : bC} {J : Nat → World → bC → Prop} {Jx : World → bC → Prop} {m : Nat} {hx : Cb Jx} (hr : fn.results = #[]) (ht : A.tag 7000 = some (.ck hx)) : dQ ⟨n, w0, M0, [7000, 5000], .plain⟩ A (bodyPost P fn (cM m J Jx (Ty.j8 []) (Ty.j8 [])) .ret) := by
 intro a w' ⟨M, ok, hsl, htg⟩
 obtain ⟨_, Mc', wf', z', hj, k1, k2⟩ := htg _ (cj ht)
 exact ⟨ok.gl (by simp), _, results_none hr _ _ _, _, Mc', rfl, wf', z', .inr ⟨⟨_, rfl, trivial⟩, hj⟩⟩
variable {fr : Fr} {ops : Array Oper} {A : As} {rest : List Oper} {K : As → List (As × Fx) → Prop} {d : Nat} {t ty' : TypeId} {p : String} {e : Array Edge} [T : lD P]
omit T in
theorem ku {x : Operand} {b off : Nat} (hx : A.op fr x = .ex (.pointer (some ⟨b, off, none⟩)))
 (h : bA P fr ops rest (A.set d (.ex (.pointer (some ⟨b, off, none⟩)))) fun A' l' => K A' ((A, { d := some d, ty := .ex (.pointer (some ⟨b, off, none⟩)), rs := cJ x }) :: l')) : bA P fr ops (⟨some d, .nilCheck x, t, p, e, none⟩ :: rest) A K :=
 bJ (bT rfl rfl fun a w M _ hrd _ => by
  have hdx := cV (x := x) (fun _ h => h) hrd
  rw [hx] at hdx
  have ex : a.eval x = .pointer (some ⟨b, off, none⟩) := hdx
  exact ⟨_, by simp [execOp, ex], rfl⟩) h
theorem jB {x : Operand} {b off f : Nat} {ti tf : TI} {fs : List (Nat × Nat)} {o ft : Nat} (hx : A.op fr x = .ex (.pointer (some ⟨b, off, none⟩))) (hT : T.eN[ty']? = some ti) (hk : ti.k = .struct fs) (hf : fs[f]? = some (o, ft)) (hF : T.eN[ft]? = some tf) (h0 : tf.size ≠ 0)
 (h : bA P fr ops rest (A.set d (.ex (.pointer (some ⟨b, off + o, none⟩)))) fun A' l' => K A' ((A, { d := some d, ty := .ex (.pointer (some ⟨b, off + o, none⟩)), rs := cJ x }) :: l')) : bA P fr ops (⟨some d, .fieldAddr ty' x f, t, p, e, none⟩ :: rest) A K :=
 bJ (bT rfl rfl fun a w M _ hrd _ => by
  have hdx := cV (x := x) (fun _ h => h) hrd
  rw [hx] at hdx
  have ex : a.eval x = .pointer (some ⟨b, off, none⟩) := hdx
  exact ⟨_, by simp [execOp, ex, tW hT hk hf hF h0], rfl⟩) h
def R7 {α : Type} (v : Value) (E : El α) (T tg : Nat) (xs : List α) (w : World) (M : bC) (_ : Nat) : Prop := (Ty.row E T tg xs).den w M v
def Cont.rv {α : Type} (v : Value) (E : El α) (T tg : Nat) (xs : List α) : Cont :=
  { den := R7 v E T tg xs, deps := (Ty.row E T tg xs).deps, cdeps := (Ty.row E T tg xs).cdeps, mono := fun le hk hs _ _ h => (Ty.row E T tg xs).mono le hk hs h }
theorem qS {α : Type} {E : El α} {c : Nat} {y : Operand} {st el tg : Nat} {v : Value} {ti te : TI} {xs ys : List α} (hx : A.op fr (.tmp c) = .ex v) (hc : A.tag tg = some (.rv v E el tg xs)) (hy : A.op fr y = .sl E ys) (hcy : (cJ y).contains c = false) (h1 : 1 ≤ tg) (hp : fr.pass.contains tg = false) (hT : T.eN[st]? = some ti) (hk : ti.k = .slice el) (hE : T.eN[el]? = some te) (hs : te.size = E.size) (hz : te.zero.length = te.size) (h0 : 0 < te.size)
 (hlen : (xs.length + ys.length) * te.bytes ≤ 140737488355328) (hlen' : xs.length + ys.length ≤ 9223372036854775807) (hyA : (A.set c (.row E el tg xs)).op fr y = A.op fr y) (hxA : (A.set c (.row E el tg xs)).op fr (.tmp c) = .row E el tg xs)
 (h : bA P fr ops rest (A.after { d := some d, ty := .row E el tg (xs ++ ys), K := [tg], rs := cJ (.tmp c) ++ cJ y, rt := [tg] }) fun A' l' => K A' ((A, { d := some d, ty := .row E el tg (xs ++ ys), K := [tg], rs := cJ (.tmp c) ++ cJ y, rt := [tg] }) :: l')) :
 bA P fr ops (⟨some d, .call ⟨.builtin .append, #[.tmp c, y], #[st, st]⟩, t, p, e, none⟩ :: rest) A K := by
 refine ⟨_, ?_, h⟩
 obtain ⟨a1, a2, a3, a4, a5⟩ := wQ (P := P) (fr := fr) (ops := ops) (A := A.set c (.row E el tg xs)) (d := d) (t := t) (p := p) (e := e) (x := .tmp c) (y := y) (E := E) (xs := xs) (ys := ys) (st := st) (by rw [hxA]; exact Ty.aF _) (hyA.trans hy) h1 hp hT hk hE hs hz h0 hlen hlen'
 refine ⟨a1, a2, a3, a4, fun a w M wf hsz hr ht => a5 a w M wf hsz (fun c' hc' hn => ?_) (fun x _ hx => by cases hx)⟩
 by_cases e : c' = c
 ·subst e
  have h1 : (A.slots c').den w M (a.tmps.getD c' undef) := hr c' hc' hn
  have h2 : R7 v E el tg xs w M tg := ht _ (cj hc) (by simp)
  have h3 : A.slots c' = .ex v := by
   have h5 : (bif Nat.blt c' fr.n then A.slots c' else Ty.any) = .ex v := hx
   have h6 : Nat.blt c' fr.n = true := by rw [Nat.blt_eq]; exact hn
   rw [h6, cond_true] at h5
   exact h5
  rw [h3] at h1
  have h4 : a.tmps.getD c' undef = v := h1
  show ((A.set c' (.row E el tg xs)).slots c').den w M _
  simp only [As.set, Nat.beq_refl, cond_true]
  rw [h4]; exact h2
 show ((A.set c (.row E el tg xs)).slots c').den w M _
 have : Nat.beq c' c = false := by cases hb : Nat.beq c' c with | false => rfl | true => exact absurd (Nat.eq_of_beq_eq_true hb) e
 simp only [As.set, this, cond_false]
 exact hr c' hc' hn
theorem Bu {vs l : List Value} {i : Nat} {v : Value} (h : l.take vs.length = vs) (hv : vs[i]? = some v) : l[i]? = some v := by
 have hi : i < vs.length := (List.getElem?_eq_some_iff.1 hv).1
 rw [← h, List.getElem?_take, if_pos hi] at hv
 exact hv
theorem sI {x : Operand} {b D Tb off k : Nat} {vs : List Value} {tys : List Ty} {J : Nat → World → bC → Prop} {hJ : ∀ k, Cb (J k)} {ti : TI} {ty : Ty} {h1 : cF tys = []} {h2 : bY tys = []} (hX : XB b D Tb vs J) (hx : A.op fr x = .ex (.pointer (some ⟨b, off, none⟩))) (ht : A.tag 7000 = some (.ck (hJ k))) (htf : A.tag 4000 = some (Cont.fact tys vs h1 h2)) (hT : T.eN[ty']? = some ti) (ha : ti.k.agg = false) (hl : tys[off]? = some ty)
 (h : bA P fr ops rest (A.set d ty) fun A' l => K A' ((A, { d := some d, ty := ty, rs := cJ x, rt := [7000, 4000] }) :: l)) : bA P fr ops (⟨some d, .load ty' x, t, p, e, none⟩ :: rest) A K :=
 bJ (bT rfl rfl fun a w M wf hr htg => by
  have hdx := cV (x := x) (fun _ h => h) hr
  rw [hx] at hdx
  have ex : a.eval x = .pointer (some ⟨b, off, none⟩) := hdx
  obtain ⟨_, Mc, wfc, z, hj, g1, g2⟩ := htg _ (cj ht) (by simp)
  have hf : cI w M tys vs := htg _ (cj htf) (by simp)
  obtain ⟨_, cs, hh, hcs⟩ := hX k w Mc wfc hj
  obtain ⟨v, hv, hd⟩ := dW hf off ty hl
  have hv' : w.cell? ⟨b, off, none⟩ = some v := by
   have := Bu hcs hv
   simpa [World.cell?, hh] using this
  exact ⟨v, by simp [execOp, ex, kC hT ha hv'], hd⟩) h
theorem qm {b D Tb k : Nat} {vs : List Value} {tys : List Ty} {J : Nat → World → bC → Prop} {hJ : ∀ k, Cb (J k)} {h1 : cF tys = []} {h2 : bY tys = []} {L : List Nat} (hX : XB b D Tb vs J) (hD : D < 4096) (ht : A.tag 7000 = some (.ck (hJ k))) (htf : A.tag 4000 = some (Cont.fact tys vs h1 h2)) (hL0 : L.contains 7000 = true) (hL1 : L.contains 4000 = true) :
    rE A L (.ex (.pointer (some ⟨b, 0, none⟩))) (.pp tys) := fun w M v wf htg hv => by
  have hv : v = .pointer (some ⟨b, 0, none⟩) := hv
  have hL0 : 7000 ∈ L := by simpa using hL0
  have hL1 : 4000 ∈ L := by simpa using hL1
  obtain ⟨_, Mc, wfc, z, hj, g1, g2⟩ := htg _ (cj ht) hL0
  have hf : cI w M tys vs := htg _ (cj htf) hL1
  obtain ⟨hb, cs, hh, hcs⟩ := hX k w Mc wfc hj
  have hlt : b < w.heap.size := wfc.lt b _ hb
  have hm : qt M L b = none := by
    cases hm : M b with
    | none => exact jS hm
    | some u =>
      by_cases e : u = 7000
      · subst e; exact At hm hL0
      · have := g2 b u hlt hm e
        rw [this] at hb
        injection hb with hb
        have : Zt = 1000000 := rfl
        omega
  have hf2 : cI w (qt M L) tys vs := bl (S := fun _ => True) (K := fun _ => True) (w' := w) ⟨Nat.le_refl _, rfl, rfl, rfl, fun b _ hm => ⟨jS hm, rfl⟩, fun b t _ h => absurd trivial h⟩ (by rw [h1]; intro _ h; cases h) (by rw [h2]; intro _ h; cases h) hf
  refine ⟨b, 0, hv, hm, hlt, fun i t hi => ?_⟩
  obtain ⟨x, hx, hdx⟩ := dW hf2 i t hi
  refine ⟨x, ?_, hdx⟩
  have := Bu hcs hx
  simpa [World.cell?, hh] using this
end
theorem vh {l : List Nat} (h : l.all (fun t => Nat.blt t 1000000) = true) : ∀ t ∈ l, t < Zt := fun t ht => by
 have := List.all_eq_true.1 h t ht
 rw [Nat.blt_eq] at this; exact this
section
variable {P : Program} {fr : Fr} {A : As} {Q : Exit → Act → World → Prop} {c : Code}
theorem qn {w : World} {M : bC} {l1 l2 : List Ty} {vs : List Value} (h : cI w M (l1 ++ l2) vs) : ∃ v1 v2, vs = v1 ++ v2 ∧ cI w M l1 v1 ∧ cI w M l2 v2 := by
  induction l1 generalizing vs with
  | nil => exact ⟨[], vs, rfl, trivial, h⟩
  | cons t l1 ih =>
    cases vs with
    | nil => cases h
    | cons v vs =>
      obtain ⟨v1, v2, e, h1, h2⟩ := ih h.2
      exact ⟨v :: v1, v2, by rw [e]; rfl, ⟨h.1, h1⟩, h2⟩
theorem F8 {w : World} {M : bC} : ∀ (vs : List Value), cI w M (vs.map Ty.ex) vs
  | [] => trivial
  | _ :: vs => ⟨rfl, F8 vs⟩
theorem rK {w : World} {M : bC} : ∀ {vs us : List Value}, cI w M (vs.map Ty.ex) us → us = vs
  | [], [], _ => rfl
  | [], _ :: _, h => by cases h
  | _ :: _, [], h => by cases h
  | v :: vs, u :: us, h => by rw [show u = v from h.1, rK h.2]
theorem Kk {D Tb : Nat} {tys r : List Ty} (h1 : cF tys = []) (h2 : bY tys = []) (hc : A.tag D = some (.cells Tb (tys ++ r))) (hD : gE D)
 (h : ∀ vs, vs.length = tys.length → fP P fr c ⟨A.slots, (D, .cells Tb (vs.map Ty.ex ++ r)) :: (4000, Cont.fact tys vs h1 h2) :: A.tags.filter fun x => !(x.1 == D)⟩ Q) : fP P fr c A Q := by
 intro a w ⟨M, ok, hsl, htg⟩
 obtain ⟨b, cs, hb, hh, hd⟩ := htg _ (cj hc)
 obtain ⟨v1, v2, e, d1, d2⟩ := qn hd
 refine h v1 (cW d1) a w ⟨M, ok, hsl, fun x hx => ?_⟩
 rcases List.mem_cons.1 hx with rfl | hx
 ·exact ⟨b, cs, hb, hh, by rw [e]; exact fB (F8 v1) d2⟩
 rcases List.mem_cons.1 hx with rfl | hx
 ·exact d1
 exact htg x (List.mem_filter.1 hx).1
theorem B9 {D Tb : Nat} {vs : List Value} {tys r : List Ty} {h1 : cF tys = []} {h2 : bY tys = []} (hc : A.tag D = some (.cells Tb (vs.map Ty.ex ++ r))) (hf : A.tag 4000 = some (Cont.fact tys vs h1 h2))
 (h : fP P fr c ⟨A.slots, (D, .cells Tb (tys ++ r)) :: A.tags.filter fun x => !(x.1 == D)⟩ Q) : fP P fr c A Q := by
 intro a w ⟨M, ok, hsl, htg⟩
 obtain ⟨b, cs, hb, hh, hd⟩ := htg _ (cj hc)
 have hfd : cI w M tys vs := htg _ (cj hf)
 refine h a w ⟨M, ok, hsl, fun x hx => ?_⟩
 rcases List.mem_cons.1 hx with rfl | hx
 ·obtain ⟨v1, v2, e, d1, d2⟩ := qn hd
  rw [rK d1] at e
  exact ⟨b, cs, hb, hh, by rw [e]; exact fB hfd d2⟩
 exact htg x (List.mem_filter.1 hx).1
theorem vg {D Tb tg : Nat} {α : Type} {E : El α} {T : Nat} {xs : List α} (l1 : List Ty) {l2 : List Ty} (hc : A.tag D = some (.cells Tb (l1 ++ Ty.row E T tg xs :: l2)))
    (h : ∀ v, fP P fr c ⟨A.slots, (D, .cells Tb (l1 ++ Ty.ex v :: l2)) :: (tg, Cont.rv v E T tg xs) :: A.tags.filter fun x => !(x.1 == D)⟩ Q) : fP P fr c A Q := by
  intro a w ⟨M, ok, hsl, htg⟩
  obtain ⟨b, cs, hb, hh, hd⟩ := htg _ (cj hc)
  obtain ⟨v1, v2, e, d1, d2⟩ := qn hd
  match v2, d2 with
  | v :: v2, d2 =>
    refine h v a w ⟨M, ok, hsl, fun x hx => ?_⟩
    rcases List.mem_cons.1 hx with rfl | hx
    · exact ⟨b, cs, hb, hh, by rw [e]; exact fB d1 ⟨rfl, d2.2⟩⟩
    · rcases List.mem_cons.1 hx with rfl | hx
      · exact d2.1
      · exact htg x (List.mem_filter.1 hx).1
theorem AH {T tg off : Nat} {l : List Ty} (hc : A.tag tg = some (.cells T l)) (hd : k7 (cF l) [tg] = true) (h1 : gE tg) : vB A tg (.ptr tg off) (.pp (l.drop off)) := fun w M v wf ht hv =>
 mM (A := A.set 0 (.ptr tg off)) (s := 0) rfl hc hd h1 w M v wf ht hv
theorem Lr {tg i : Nat} {t : Ty} : ∀ {l l' : List Ty}, AE A tg l l' → l'[i]? = some t → ∃ i', i' = i ∧ ∃ s, l[i']? = some s ∧ vB A tg s t := by
  induction i with
  | zero =>
    intro l l' h e
    match l, l', h with
    | [], [], _ => cases e
    | s :: _, t' :: _, h => injection e with e; subst e; exact ⟨0, rfl, s, rfl, h.1⟩
  | succ i ih =>
    intro l l' h e
    match l, l', h with
    | [], [], _ => cases e
    | _ :: l, _ :: l', h =>
      obtain ⟨i', rfl, s, h1, h2⟩ := ih (l := l) (l' := l') h.2 e
      exact ⟨i' + 1, rfl, s, h1, h2⟩
theorem Ch {tg : Nat} {l l' : List Ty} (h : AE A tg l l') : vB A tg (.pp l) (.pp l') := fun w M v wf ht ⟨b, off, e, m1, m2, m3⟩ => by
 refine ⟨b, off, e, by simp [eE, m1], m2, fun i t hi => ?_⟩
 obtain ⟨_, rfl, s, h1, h2⟩ := Lr h hi
 obtain ⟨x, hx, hdx⟩ := m3 _ s h1
 exact ⟨x, hx, h2 w M x wf ht hdx⟩
theorem Af {tg s : Nat} {l l' : List Ty} (hx : A.slots s = .pp l) (h : AE A tg l l') : yw A tg s (.pp l') := fun w M v wf ht hv => Ch h w M v wf ht (hx ▸ hv)
theorem DN {f D Tb n sd : Nat} {tys : List Ty} {vs : List Value} {h1 : cF tys = []} {h2 : bY tys = []} {m8 : List Ty} {encs : List (List Ty)} {resD resS : Ty} {s : Nat → Ty} {tg : Nat → List (Nat × Cont)} {r : Nat → List Ty}
    (hI : ∀ b, Jw P f b D Tb vs tys (fun l => Ty.ex (yv l) :: Ty.pp [Ty.ex (.pointer (some ⟨b, 0, none⟩))] :: m8) encs resD resS)
    (hD : gE D) (hsn : sd < n) (hsd : s sd = Ty.ptr D 0) (htD : ∀ k, (D, Cont.cells Tb (vs.map Ty.ex ++ r k)) ∈ tg k) (htf : (4000, Cont.fact tys vs h1 h2) ∈ tg 0) :
    ∀ (l : Nat) (J : Nat → World → bC → Prop) (Jx : World → bC → Prop) (tm : Array Value), (∀ k, Cb (J k)) → Cb Jx → P8 P l encs J Jx → (∀ k w M, J k w M → (∀ c, c < n → (s c).den w M (tm.getD c undef)) ∧ ∀ x ∈ tg k, x.2.den w M x.1) → ∀ w M us, Wf w M → Ho M → cI w M (Ty.ex (yv l) :: Ty.pp [Ty.ptr D 0] :: m8) us → J 0 w M → Calls P f us.toArray w (cM encs.length J Jx resD resS) := by
  intro l J Jx tm hJ hJx hY hS w M us wf z hd hj
  obtain ⟨u, rfl⟩ : ∃ u, D = u + 1 := ⟨D - 1, by have := hD.1; omega⟩
  have hat : ∀ k w M, Wf w M → J k w M → ∃ b, M b = some (u + 1) ∧ tm.getD sd undef = .pointer (some ⟨b, 0, none⟩) ∧ ∃ cs : Array Value, w.heap[b]? = some (.cells cs Tb (0, 0)) ∧ cs.toList.take vs.length = vs := fun k w M wf hj => by
    obtain ⟨g1, g2⟩ := hS k w M hj
    have g3 := g1 sd hsn
    rw [hsd] at g3
    obtain ⟨b, hb, e⟩ := g3
    obtain ⟨b', cs, hb', hh, hds⟩ := g2 _ (htD k)
    have := wf.inj b b' u hD.2 hb hb'
    subst this
    obtain ⟨v1, v2, e2, d1, d2⟩ := qn hds
    rw [rK d1] at e2
    exact ⟨b, hb, e, cs, hh, by rw [e2, List.take_left']; rfl⟩
  obtain ⟨b, hb, eb, _⟩ := hat 0 w M wf hj
  have hX : XB b (u + 1) Tb vs J := fun k w' M' wf' hj' => by
    obtain ⟨b', hb', eb', cs, hh, hcs⟩ := hat k w' M' wf' hj'
    rw [eb] at eb'
    injection eb' with eb'
    injection eb' with eb'
    injection eb' with eb' _ _
    subst eb'
    exact ⟨hb', cs, hh, hcs⟩
  refine (hI b).2 l J Jx hJ hJx hX hY w M us wf z ?_ ((hS 0 w M hj).2 _ htf) hj
  match us, hd with
  | u1 :: u2 :: us, ⟨d1, ⟨q, off, e, m1, m2, m3⟩, d3⟩ =>
    refine ⟨d1, ⟨q, off, e, m1, m2, fun i t hi => ?_⟩, d3⟩
    cases i with
    | succ i => cases hi
    | zero =>
      obtain ⟨x, hx, b', hb', ex⟩ := m3 0 _ rfl
      have := wf.inj b b' u hD.2 hb hb'
      subst this
      injection hi with hi
      subst hi
      exact ⟨x, hx, ex⟩
end
end Go.T
namespace Go.Proofs.YtelbollidfdcjaaGreat
open Go Go.T
set_option maxHeartbeats 4000000
section
variable {y : au}
theorem Gf (hr : y.bt) : (y.bins.length : Int) * y.days = (y.cells : Nat) := by
 rw [← D_eq hr]; unfold au.cells; simp
theorem nQ (hr : y.bt) : y.cells ≤ 20 := by
 have h1 := hr.bins; have h2 := hr.days; have h3 := D_eq hr
 have := Nat.mul_le_mul (show y.bins.length ≤ 4 by omega) (show y.D ≤ 5 by omega)
 unfold au.cells; omega
theorem DQ {s d : Int} (hs : 0 ≤ s ∧ s ≤ 4) (hd : 0 ≤ d ∧ d ≤ 6) : 0 ≤ s * d ∧ s * d ≤ 24 := by
 have : s = 0 ∨ s = 1 ∨ s = 2 ∨ s = 3 ∨ s = 4 := by omega
 rcases this with e | e | e | e | e <;> subst e <;> omega
def gA (n : Int) (l : List Int) : Int := l.foldl min n
theorem Em (n : Int) (l : List Int) : gA n (l.take 0) = n := rfl
theorem En {n : Int} {l : List Int} {k : Nat} (h : k < l.length) : min (gA n (l.take k)) (nth l k) = gA n (l.take (k + 1)) := by
 unfold gA; rw [cQ h, List.foldl_append]; rfl
def wN (k : Nat) : List Bool := List.replicate k true ++ List.replicate (8 - k) false
def bf : List Bool := List.replicate 8 true
theorem zq {k : Nat} (h : k ≤ 8) : (wN k).length = 8 := by unfold wN; rw [List.length_append, List.length_replicate, List.length_replicate]; omega
theorem Dz {k : Nat} (h : k < 8) : (wN k).set k true = wN (k + 1) := by
 unfold wN
 rw [List.set_append_right _ _ (by simp), List.length_replicate, Nat.sub_self, show 8 - k = (8 - (k + 1)) + 1 by omega, List.replicate_succ, List.set_cons_zero, List.replicate_succ', List.append_assoc]; rfl
theorem Pp (hr : y.bt) {s d : Int} (h : s = -1) : ((y.cells : Nat) : Int) = y.cell s d := by rw [h, sF hr]
theorem PA {s d : Int} (h : ¬ s = -1) : s * y.days + d = y.cell s d := (if_neg h).symm
theorem Kq (hr : y.bt) {b t : Nat} : (b : Int) * (y.days + 1) + t = (y.kept b t : Nat) := by
 rw [← D_eq hr]; unfold au.kept; simp
end
attribute [local irreducible] au.cell au.kept au.cells gA
attribute [local irreducible] gL eX lN nh gy g6 gu gw gx nj gr ni dN fX nH fu nZ nth fP dQ bA dJ bodyPost Exit.then Exit.inBlock Code.wp Code.wpIn nW g7 nY nV g8 eP cL cM bodyPostM dR
set_option maxRecDepth 100000 in
theorem s8 (n : Int) (l : List Int) : dJ Tryz.prog 180 [Ty.int .i64 n, Ty.sl cT l] (Ty.int .i64 (gA n l)) := by
 refine ak Tryz.func180 rfl (by decide) Tryz.ntmps180 (by exact Nat.le_of_ble_eq_true rfl) fun w0 M0 => ?_
 refine gJ (s := 1) rfl rfl gK fun hln => ?_
 refine aE (aA (bZ rfl (aD (aC (aE (aE (aA (eA rfl (cD rfl rfl rfl ?_)))))))))
 refine bF rfl (aD (aC (aY ?_)))
 refine b9 (fun (k : {k : Nat // k ≤ l.length}) => live [(0, Ty.int .i64 (gA n (l.take k.1))), (7, Ty.sl cT l), (8, Ty.int .i64 l.length), (9, Ty.int .i64 (k.1 : Nat))] []) (fun k => l.length - k.1) (⟨0, by omega⟩) ?_ fun k => ?_
 ·(refine cg.mk' ?_ ?_ <;> (repeat' (first | exact aI | exact aH | refine aB ?_ (Ty.aT _) | refine aB ?_ (Ty.aF _) | refine aB ?_ ?_)))
  all_goals exact Ty.bN (Em n l).symm
 refine aE (aA (bB rfl rfl rfl (aD (aC (aE ?_)))))
 refine ah rfl (fun hc1 => ?_) (fun hc1 => ?_)
 ·
  refine aj (aC (aE (aY (aE (aA ?_)))))
  refine aq rfl rfl rfl rfl rfl rfl (by omega) ?_
  refine aJ rfl rfl rfl rfl (bZ rfl (aD (aC (aA (bF rfl (bF rfl (Jz rfl rfl (bZ rfl (aD ?_)))))))))
  refine bI (aC (aA ?_))
  refine bq rfl rfl (by omega) (by omega) ?_
  refine bF rfl (aD ?_)
  refine bM (⟨k.1 + 1, by omega⟩) ?_ (by show l.length - (k.1 + 1) < l.length - k.1; omega)
  (refine cg.mk' ?_ ?_ <;> (repeat' (first | exact aI | exact aH | refine aB ?_ (Ty.aT _) | refine aB ?_ (Ty.aF _) | refine aB ?_ ?_)))
  all_goals skip
  all_goals exact Ty.bN (En (by omega))
 refine bz (aP (aP (aa rfl (aC (aE (aA (bF rfl (bZ rfl (aD ?_)))))))))
 refine aC (az (bR rfl rfl ?_))
 all_goals skip
 all_goals exact av rfl rfl (congrArg (Ty.int .i64) (by rw [List.take_of_length_le (by have := k.2; omega)]))
set_option maxRecDepth 100000 in
theorem tL : dJ Tryz.prog 118 [] (Ty.arr eZ bf) := by
 refine ak Tryz.func118 rfl (by decide) Tryz.ntmps118 (by exact Nat.le_of_ble_eq_true rfl) fun w0 M0 => ?_
 refine aE (aA ?_)
 refine bu rfl (by exact List.cons_ne_nil _ _) rfl ?_
 refine aD (aC (aE (aA ?_)))
 refine Da (E := eZ) (xs := List.replicate 8 false) rfl (by exact List.cons_ne_nil _ _) rfl rfl ?_
 refine aD (aC (aE (aE (aA (bF rfl (aD (aC (aY ?_))))))))
 refine b9 (fun (k : {k : Nat // k ≤ 8}) => live [(0, Ty.ptr 1 0), (1, Ty.ptr 2 0), (3, Ty.int .i64 (k.1 : Nat))] [(1, Cont.cells 180 [Ty.bool false, Ty.bool false, Ty.bool false, Ty.bool false, Ty.bool false, Ty.bool false, Ty.bool false, Ty.bool false]), (2, Cont.vec eZ 180 (wN k.1))]) (fun k => 8 - k.1) (⟨0, by omega⟩) ?_ fun k => ?_
 ·(refine cg.mk' ?_ ?_ <;> (repeat' (first | exact aI | exact aH | refine aB ?_ (Ty.aT _) | refine aB ?_ (Ty.aF _) | refine aG rfl (Cont.aF _) ?_)))
 have hkl := zq k.2
 refine aE (aA (bB rfl rfl rfl (aD (aC (aE ?_)))))
 refine ah rfl (fun hc1 => ?_) (fun hc1 => ?_)
 ·
  refine aj (aC (aE (aY (aE (aA (bF rfl (bZ rfl (aD (aC ?_)))))))))
  refine aA (bF rfl ?_)
  refine tH (n := 8) rfl rfl rfl rfl rfl (by omega) (by omega) ?_
  refine sW rfl rfl rfl (by decide) rfl rfl (by exact (rfl : _ = Ty.bool _)) rfl (by omega) (by decide) rfl rfl ?_
  refine aD (bI (aC (aA ?_)))
  refine bq rfl rfl (by omega) (by omega) ?_
  refine bF rfl (aD ?_)
  refine bM (⟨k.1 + 1, by omega⟩) ?_ (by show 8 - (k.1 + 1) < 8 - k.1; omega)
  (refine cg.mk' ?_ ?_ <;> (repeat' (first | exact aI | exact aH | refine aB ?_ (Ty.aT _) | refine aB ?_ (Ty.aF _) | refine aG rfl (Cont.aF _) ?_ | refine aG rfl ?_ ?_)))
  all_goals skip
  all_goals exact Cont.cy (Dz (by omega))
 refine bz (aP (aP (aa rfl (aC (aE ?_)))))
 obtain ⟨k, hk⟩ := k
 obtain rfl : k = 8 := by have h1 : ¬ (k : Int) < 8 := hc1; have h2 : k ≤ 8 := hk; omega
 have hkl := zq hk
 refine aA ?_
 refine iO rfl rfl (by decide) rfl rfl (by rw [hkl]; rfl) (fun e => by rw [e] at hkl; cases hkl) ?_
 refine Cc rfl rfl (by decide) rfl rfl (by rw [hkl]; rfl) rfl ?_
 refine aD (aC (az ?_))
 refine B5 (show wN 8 = bf from rfl) rfl rfl rfl rfl (by decide) rfl rfl (by rw [hkl]; rfl) (fun e => by rw [e] at hkl; cases hkl)
set_option maxRecDepth 100000 in
theorem sM (y : au) (hr : y.bt) : dJ Tryz.prog 131 [Ty.pp (bE y)] (Ty.int .i64 (y.cells : Nat)) := by
 refine ak Tryz.func131 rfl (by decide) Tryz.ntmps131 (by exact Nat.le_of_ble_eq_true rfl) fun w0 M0 => ?_
 have hcm := Gf hr
 have hcl := nQ hr
 refine aE (aA (bZ rfl (aD (aC (aE (cP mixed rfl (jv rfl (cA rfl ?_))))))))
 refine aL rfl rfl rfl rfl rfl (by decide) ?_
 refine aL rfl rfl rfl rfl rfl (by decide) ?_
 refine aJ rfl rfl rfl rfl (cD rfl rfl rfl (jv rfl (cA rfl ?_)))
 refine aL rfl rfl rfl rfl rfl (by decide) ?_
 refine aL rfl rfl rfl rfl rfl (by decide) ?_
 refine aJ rfl rfl rfl rfl ?_
 refine sw rfl rfl (by rw [hcm]; omega) (by rw [hcm]; omega) ?_
 refine bZ rfl (aD ?_)
 refine ⟨by kernel_rfl, ?_⟩
 refine aC (az (bR rfl rfl ?_))
 all_goals skip
 all_goals exact av rfl rfl (congrArg (Ty.int .i64) hcm)
set_option maxRecDepth 100000 in
theorem xe (y : au) (hr : y.bt) (s d : Int) (hs : -1 ≤ s ∧ s < y.bins.length) (hd : 0 ≤ d ∧ d ≤ y.days) : dJ Tryz.prog 132 [Ty.pp (bE y), Ty.int .i64 s, Ty.int .i64 d] (Ty.int .i64 (y.cell s d)) := by
 refine ak Tryz.func132 rfl (by decide) Tryz.ntmps132 (by exact Nat.le_of_ble_eq_true rfl) fun w0 M0 => ?_
 have h1 := hr.bins
 have h2 := hr.days
 refine aE (aA (bZ rfl (aD (aC (aE (aE (aA (bF rfl (bB rfl rfl rfl ?_)))))))))
 refine aD (aC ?_)
 refine ah rfl (fun hc1 => ?_) (fun hc1 => ?_)
 ·
  refine aE (aA (jv rfl (af (sM y hr) rfl rfl rfl rfl rfl (bZ rfl (aD (aC (az (aQ (bR rfl rfl ?_)))))))))
  all_goals skip
  all_goals exact av rfl rfl (congrArg (Ty.int .i64) (Pp hr hc1))
 refine aj (aC (aE ?_))
 have hb := DQ (s := s) (d := y.days) (by omega) (by omega)
 refine aA (bF rfl (jv rfl (cA rfl ?_)))
 refine aL rfl rfl rfl rfl rfl (by decide) ?_
 refine aL rfl rfl rfl rfl rfl (by decide) ?_
 refine aJ rfl rfl rfl rfl ?_
 refine sw rfl rfl (by omega) (by omega) ?_
 refine bF rfl ?_
 refine bq rfl rfl (by omega) (by omega) ?_
 refine bZ rfl (aD (aC (az (bR rfl rfl ?_))))
 all_goals skip
 all_goals exact av rfl rfl (congrArg (Ty.int .i64) (PA hc1))
set_option maxRecDepth 100000 in
theorem Ds (y : au) (hr : y.bt) (b t : Nat) (hb : b < y.bins.length) (ht : t ≤ y.D) : dJ Tryz.prog 89 [Ty.pp (bE y), Ty.int .i64 (b : Nat), Ty.int .i64 (t : Nat)] (Ty.int .i64 (y.kept b t : Nat)) := by
 refine ak Tryz.func89 rfl (by decide) Tryz.ntmps89 (by exact Nat.le_of_ble_eq_true rfl) fun w0 M0 => ?_
 have h1 := hr.bins
 have h2 := hr.days
 have h3 := D_eq hr
 have h4 := DQ (s := (b : Nat)) (d := y.days + 1) (by omega) (by omega)
 refine aE (aA (bZ rfl (aD (aC (aE (aA (bF rfl (jv rfl (cA rfl ?_)))))))))
 refine aL rfl rfl rfl rfl rfl (by decide) ?_
 refine aL rfl rfl rfl rfl rfl (by decide) ?_
 refine aJ rfl rfl rfl rfl ?_
 refine bq rfl rfl (by omega) (by omega) ?_
 refine sw rfl rfl (by omega) (by omega) ?_
 refine bF rfl ?_
 refine bq rfl rfl (by omega) (by omega) ?_
 refine bZ rfl (aD (aC (az (bR rfl rfl ?_))))
 all_goals skip
 all_goals exact av rfl rfl (congrArg (Ty.int .i64) (Kq hr))
end Go.Proofs.YtelbollidfdcjaaGreat
namespace Go.Proofs.YtelbollidfdcjaaGreat
open Go Go.T
set_option maxHeartbeats 8000000
def ju (f : cB) : List Ty := [Ty.agg (dn.tys f)]
section
variable {y : au} {c : Nat → Bool} {b t : Nat}
def Ei (y : au) (b t : Nat) : Int := if 0 < t then y.cell b ((t : Int) - 1) else (y.cells : Nat)
def HY (y : au) (b t : Nat) : Int := if t < y.D then y.cell b t else (y.cells : Nat)
def vq (s d : Int) (k : Span) : List Ty := [Ty.int .i64 s, Ty.int .i64 d, Ty.int .i64 k.lo, Ty.int .i64 k.hi]
theorem MY (h : (t : Int) > 0) : y.cell b ((t : Int) - 1) = Ei y b t := (if_pos (by omega)).symm
theorem Oi (h : ¬ (t : Int) > 0) : ((y.cells : Nat) : Int) = Ei y b t := (if_neg (by omega)).symm
theorem MT (hr : y.bt) (h : (t : Int) < y.days) : y.cell b t = HY y b t := (if_pos (by have := D_eq hr; omega)).symm
theorem Ph (hr : y.bt) (h : ¬ (t : Int) < y.days) : ((y.cells : Nat) : Int) = HY y b t := (if_neg (by have := D_eq hr; omega)).symm
theorem Jv (h : (t : Int) > 0) : 0 = (iM y b t).lo ∧ (nth y.bins b).holds = (iM y b t).hi := by unfold iM; rw [if_pos (by omega)]; exact ⟨rfl, rfl⟩
theorem OJ (h : ¬ (t : Int) > 0) : max 0 (nth y.bins b).first.lo = (iM y b t).lo ∧ gA (nth y.bins b).holds [(nth y.bins b).first.hi] = (iM y b t).hi := by unfold iM; rw [if_neg (by omega)]; exact ⟨rfl, rfl⟩
theorem F1 {s : Span} {k : Nat} (h : ((c k && decide ((nth y.levels k).bin = b)) && decide ((nth y.levels k).day = t)) = true) : max (gX y c b t s k).lo (nth y.levels k).sacks.lo = (gX y c b t s (k + 1)).lo ∧ gA (gX y c b t s k).hi [(nth y.levels k).sacks.hi] = (gX y c b t s (k + 1)).hi := by
 show _ = (if _ then _ else _ : Span).lo ∧ _ = (if _ then _ else _ : Span).hi
 rw [if_pos h]; exact ⟨rfl, rfl⟩
theorem KR {s : Span} {k : Nat} (h : ((c k && decide ((nth y.levels k).bin = b)) && decide ((nth y.levels k).day = t)) = false) : (gX y c b t s k).lo = (gX y c b t s (k + 1)).lo ∧ (gX y c b t s k).hi = (gX y c b t s (k + 1)).hi := by
 show _ = (if _ then _ else _ : Span).lo ∧ _ = (if _ then _ else _ : Span).hi
 rw [if_neg (by rw [h]; decide)]; exact ⟨rfl, rfl⟩
theorem CQ (s : Span) : s.lo = (gX y c b t s 0).lo ∧ s.hi = (gX y c b t s 0).hi := ⟨rfl, rfl⟩
theorem MX {s : Span} {k : Nat} (hk : k ≤ y.levels.length) (h : ¬ (k : Int) < (y.levels.length : Int)) : gX y c b t s k = gX y c b t s y.levels.length := by rw [show k = y.levels.length by omega]
theorem Nt (hb : b < y.bins.length) (ht : t ≤ y.D) : ju (nth (aR y c) (b * (y.D + 1) + t)) = [Ty.agg (vq (Ei y b t) (HY y b t) (gX y c b t (iM y b t) y.levels.length))] := congrArg ju (ig (c := c) hb ht)
theorem Ng {i : Nat} (hi : i < y.moves.length) : ju (nth (aR y c) (y.bins.length * (y.D + 1) + i)) = [Ty.agg [Ty.int .i64 (y.cell (nth y.moves i).src (nth y.moves i).day), Ty.int .i64 (y.cell (nth y.moves i).dst (nth y.moves i).day), Ty.int .i64 (nth y.moves i).sacks.lo, Ty.int .i64 (nth y.moves i).sacks.hi]] := congrArg ju (iW (c := c) hi)
theorem Fm (hb : b < y.bins.length) (ht : t ≤ y.D) : b * (y.D + 1) + t < (aR y c).length := by
 rw [fK]; have h := qC hb ht; unfold au.kept at h; omega
theorem Lq {J : Nat → World → bC → Prop} (hJ : ∀ k, Cb (J k)) {m k : Nat} (e : m = k) : (Cont.ck (hJ m)).Sub (Cont.ck (hJ k)) := Cont.Pe hJ e
end
attribute [local irreducible] au.cell au.cells gA Ei HY iM gX aR
attribute [local irreducible] gL eX lN nh gy g6 gu gw gx nj gr ni dN fX nH fu nZ nth fP dQ bA dJ bodyPost Exit.then Exit.inBlock Code.wp Code.wpIn nW g7 nY nV g8 eP cL cM bodyPostM dR
set_option maxRecDepth 100000 in
theorem vi (y : au) (hr : y.bt) (c8 : List Bool) (hc8 : c8.length = 8) (b D : Nat) (hD : D < 4096) (vs : List Value) : Jw Tryz.prog 196 b D 185 vs (bE y) (fun l => [Ty.ex (yv l), Ty.pp [Ty.ex (.pointer (some ⟨b, 0, none⟩))], Ty.pa eZ c8 0]) ((aR y (nth c8)).map ju) (Ty.j8 []) (Ty.j8 []) := by
 refine Ec rfl rfl Tryz.func196 rfl (by decide) Tryz.ntmps196 (fun _ => by exact Nat.le_of_ble_eq_true rfl) (fun _ => ⟨rfl, rfl⟩) fun l J Jx hJ hJx hX hY w0 M0 => ?_
 have h1 := hr.bins
 have h2 := hr.days
 have h3 := D_eq hr
 have h4 := hr.moves
 have h5 := hr.levels
 refine aE (aE (aA (aJ rfl rfl rfl rfl (ku rfl ?_))))
 refine jB rfl rfl rfl rfl rfl (by decide) ?_
 refine jB rfl rfl rfl rfl rfl (by decide) ?_
 refine sI hX rfl rfl rfl rfl rfl rfl (cD rfl rfl rfl (bF rfl (aD (aC (aY ?_)))))
 refine b9 (fun (k : {k : Nat // k ≤ y.bins.length}) => live [(0, Ty.ex (yv l)), (1, Ty.pp [Ty.ex (.pointer (some ⟨b, 0, none⟩))]), (2, Ty.pa eZ c8 0), (16, Ty.sl fN y.bins), (17, Ty.int .i64 y.bins.length), (18, Ty.int .i64 (k.1 : Nat))] [(7000, Cont.ck (hJ (k.1 * (y.D + 1)))), (4000, Cont.fact (bE y) vs rfl rfl)]) (fun k => y.bins.length - k.1) (⟨0, by omega⟩) ?_ fun k => ?_
 ·(refine cg.mk' ?_ ?_ <;> (repeat' (first | exact aI | exact aH | refine aB ?_ (Ty.aT _) | refine aB ?_ (Ty.aF _) | refine aG rfl (Cont.aF _) ?_ | refine aG rfl ?_ ?_)))
  all_goals exact Lq hJ (Nat.zero_mul _).symm
 refine aE (aA (bB rfl rfl rfl (aD (aC (aE ?_)))))
 refine ah rfl (fun hc1 => ?_) (fun hc1 => ?_)
 ·
  refine aj (aC (aE (aY (aE (aA (bF rfl ?_))))))
  refine aq rfl rfl rfl rfl rfl rfl (by omega) ?_
  refine aX rfl rfl rfl (by exact Nat.le_of_ble_eq_true rfl) ?_
  refine bu rfl (by exact List.cons_ne_nil _ _) rfl ?_
  refine bZ rfl ?_
  refine bh rfl rfl (by decide) rfl rfl rfl rfl rfl rfl ?_
  refine aD (aC (aE (aA (aJ rfl rfl rfl rfl (ku rfl ?_)))))
  refine jB rfl rfl rfl rfl rfl (by decide) ?_
  refine jB rfl rfl rfl rfl rfl (by decide) ?_
  refine sI hX rfl rfl rfl rfl rfl rfl ?_
  refine bq rfl rfl (by omega) (by omega) ?_
  refine bF rfl (aD (aC (aY ?_)))
  refine b9 (fun (t : {t : Nat // t ≤ y.D + 1}) => live [(0, Ty.ex (yv l)), (1, Ty.pp [Ty.ex (.pointer (some ⟨b, 0, none⟩))]), (2, Ty.pa eZ c8 0), (4, Ty.int .i64 (k.1 : Nat)), (5, Ty.ptr 6 0), (16, Ty.sl fN y.bins), (17, Ty.int .i64 y.bins.length), (18, Ty.int .i64 (k.1 : Nat)), (28, Ty.int .i64 (y.days + 1)), (29, Ty.int .i64 (t.1 : Nat))] [(6, Cont.cells 39 (fN.tys (nth y.bins k.1))), (7000, Cont.ck (hJ (k.1 * (y.D + 1) + t.1))), (4000, Cont.fact (bE y) vs rfl rfl)]) (fun t => y.D + 1 - t.1) (⟨0, by omega⟩) ?_ fun t => ?_
  ·(refine cg.mk' ?_ ?_ <;> (repeat' (first | exact aI | exact aH | refine aB ?_ (Ty.aT _) | refine aB ?_ (Ty.aF _) | refine aG rfl (Cont.aF _) ?_)))
  refine aE (aA (bB rfl rfl rfl (aD (aC (aE ?_)))))
  refine ah rfl (fun hc2 => ?_) (fun hc2 => ?_)
  ·
   refine aj (aC (aE (aY (aE (aA (bF rfl (bZ rfl (aD (aC ?_)))))))))
   refine aE (cP mixed rfl (aJ rfl rfl rfl rfl ?_))
   refine eM [7000, 4000] (sM y hr) rfl (aW (qm hX hD rfl rfl rfl rfl) cR) (by exact dc _ _) ?_
   refine aJ rfl rfl rfl rfl ?_
   refine eM [7000, 4000] (sM y hr) rfl (aW (qm hX hD rfl rfl rfl rfl) cR) (by exact dc _ _) ?_
   refine aS rfl rfl rfl rfl rfl (by decide) ?_
   refine aZ rfl rfl (by decide) rfl rfl rfl ?_
   refine dI rfl rfl (by exact List.cons_ne_nil _ _) rfl (by repeat (first | exact (aV.nil : aV _ _ [] _) | (show aV _ _ ((_, _) :: _) _; apply aV.one; (· exact (rfl : _ = Ty.int _ _)); (· exact rfl)))) (by exact (rfl : _ = some [_, _, _, _])) ?_
   refine bu rfl (by exact List.cons_ne_nil _ _) rfl ?_
   refine bh rfl rfl (by decide) rfl rfl rfl rfl rfl rfl ?_
   refine aD ?_
   refine ⟨by kernel_rfl, ?_⟩
   refine aC ?_
   refine j4 (J := live [(0, Ty.ex (yv l)), (1, Ty.pp [Ty.ex (.pointer (some ⟨b, 0, none⟩))]), (2, Ty.pa eZ c8 0), (4, Ty.int .i64 (k.1 : Nat)), (5, Ty.ptr 6 0), (6, Ty.int .i64 (t.1 : Nat)), (7, Ty.ptr 8 0), (16, Ty.sl fN y.bins), (17, Ty.int .i64 y.bins.length), (18, Ty.int .i64 (k.1 : Nat)), (28, Ty.int .i64 (y.days + 1)), (29, Ty.int .i64 (t.1 : Nat))] [(6, Cont.cells 39 (fN.tys (nth y.bins k.1))), (8, Cont.cells 187 [Ty.int .i64 (Ei y k.1 t.1), Ty.int .i64 (y.cells : Nat), Ty.int .i64 (iM y k.1 t.1).lo, Ty.int .i64 (iM y k.1 t.1).hi]), (7000, Cont.ck (hJ (k.1 * (y.D + 1) + t.1))), (4000, Cont.fact (bE y) vs rfl rfl)]) ?_ ?_
   ·
    refine aE (aA (bF rfl (bB rfl rfl rfl (aD (aC ?_)))))
    refine ah rfl (fun hc3 => ?_) (fun hc3 => ?_)
    ·
     refine aA (aJ rfl rfl rfl rfl (bF rfl (bF rfl ?_)))
     refine gH rfl rfl (by omega) (by omega) ?_
     refine eM [7000, 4000] (xe y hr (k.1 : Nat) ((t.1 : Int) - 1) (by omega) (by omega)) rfl (aW (qm hX hD rfl rfl rfl rfl) (aW (bU (bV rfl rfl)) (aW (bU (bV rfl rfl)) cR))) (by exact dc _ _) ?_
     refine aS rfl rfl rfl rfl rfl (by decide) ?_
     refine cv rfl rfl (by decide) rfl rfl (by exact (rfl : _ = Ty.int _ _)) rfl (by exact Nat.le_of_ble_eq_true rfl) rfl rfl (by exact rfl) ?_
     refine aD (eW ?_)
     (refine cg.mk' ?_ ?_ <;> (repeat' (first | exact aI | exact aH | exact dH | refine aB ?_ (Ty.aT _) | refine aB ?_ (Ty.aF _) | refine aG rfl (Cont.aF _) ?_ | refine aG rfl (Cont.dG ?_) ?_ | refine bS ?_ (Ty.aF _) | refine bS ?_ ?_)))
     all_goals first | exact Ty.bN (MY hc3) | exact Ty.bN (Jv hc3).1 | exact Ty.bN (Jv hc3).2
    refine cP mixed rfl ?_
    refine aS rfl rfl rfl rfl rfl (by decide) ?_
    refine aS rfl rfl rfl rfl rfl (by decide) ?_
    refine aZ rfl rfl (by decide) rfl rfl rfl ?_
    refine CW rfl rfl ?_
    refine aS rfl rfl rfl rfl rfl (by decide) ?_
    refine aZ rfl rfl (by decide) rfl rfl rfl ?_
    refine aS rfl rfl rfl rfl rfl (by decide) ?_
    refine aS rfl rfl rfl rfl rfl (by decide) ?_
    refine aZ rfl rfl (by decide) rfl rfl rfl ?_
    refine bW (E := cT) (xs := [_]) rfl rfl rfl rfl rfl (by decide) (by decide) (by repeat (first | exact (aV.nil : aV _ _ [] _) | (show aV _ _ ((_, _) :: _) _; apply aV.one; (· exact (rfl : _ = Ty.int _ _)); (· exact rfl)))) (by exact rfl) rfl ?_
    refine af (s8 _ _) rfl rfl rfl rfl rfl ?_
    refine aS rfl rfl rfl rfl rfl (by decide) ?_
    refine cv rfl rfl (by decide) rfl rfl (by exact (rfl : _ = Ty.int _ _)) rfl (by exact Nat.le_of_ble_eq_true rfl) rfl rfl (by exact rfl) ?_
    refine aS rfl rfl rfl rfl rfl (by decide) ?_
    refine cv rfl rfl (by decide) rfl rfl (by exact (rfl : _ = Ty.int _ _)) rfl (by exact Nat.le_of_ble_eq_true rfl) rfl rfl (by exact rfl) ?_
    refine aD ?_
    refine ⟨by kernel_rfl, ?_⟩
    refine eW ?_
    (refine cg.mk' ?_ ?_ <;> (repeat' (first | exact aI | exact aH | exact dH | refine aB ?_ (Ty.aT _) | refine aB ?_ (Ty.aF _) | refine aG rfl (Cont.aF _) ?_ | refine aG rfl (Cont.dG ?_) ?_ | refine bS ?_ (Ty.aF _) | refine bS ?_ ?_)))
    all_goals first | exact Ty.bN (Oi hc3) | exact Ty.bN (OJ hc3).1 | exact Ty.bN (OJ hc3).2
   refine j4 (J := live [(0, Ty.ex (yv l)), (1, Ty.pp [Ty.ex (.pointer (some ⟨b, 0, none⟩))]), (2, Ty.pa eZ c8 0), (4, Ty.int .i64 (k.1 : Nat)), (5, Ty.ptr 6 0), (6, Ty.int .i64 (t.1 : Nat)), (7, Ty.ptr 8 0), (16, Ty.sl fN y.bins), (17, Ty.int .i64 y.bins.length), (18, Ty.int .i64 (k.1 : Nat)), (28, Ty.int .i64 (y.days + 1)), (29, Ty.int .i64 (t.1 : Nat))] [(6, Cont.cells 39 (fN.tys (nth y.bins k.1))), (8, Cont.cells 187 (vq (Ei y k.1 t.1) (HY y k.1 t.1) (iM y k.1 t.1))), (7000, Cont.ck (hJ (k.1 * (y.D + 1) + t.1))), (4000, Cont.fact (bE y) vs rfl rfl)]) ?_ ?_
   ·
    refine aE (aA (bF rfl (aJ rfl rfl rfl rfl (ku rfl ?_))))
    refine jB rfl rfl rfl rfl rfl (by decide) ?_
    refine jB rfl rfl rfl rfl rfl (by decide) ?_
    refine sI hX rfl rfl rfl rfl rfl rfl (bB rfl rfl rfl (aD (aC ?_)))
    refine ah rfl (fun hc4 => ?_) (fun hc4 => ?_)
    ·
     refine aA (aJ rfl rfl rfl rfl (bF rfl (bF rfl ?_)))
     refine eM [7000, 4000] (xe y hr (k.1 : Nat) (t.1 : Nat) (by omega) (by omega)) rfl (aW (qm hX hD rfl rfl rfl rfl) (aW (bU (bV rfl rfl)) (aW (bU (bV rfl rfl)) cR))) (by exact dc _ _) ?_
     refine aS rfl rfl rfl rfl rfl (by decide) ?_
     refine cv rfl rfl (by decide) rfl rfl (by exact (rfl : _ = Ty.int _ _)) rfl (by exact Nat.le_of_ble_eq_true rfl) rfl rfl (by exact rfl) ?_
     refine aD (eW ?_)
     (refine cg.mk' ?_ ?_ <;> (repeat' (first | exact aI | exact aH | exact dH | refine aB ?_ (Ty.aT _) | refine aB ?_ (Ty.aF _) | refine aG rfl (Cont.aF _) ?_ | refine aG rfl (Cont.dG ?_) ?_ | refine bS ?_ (Ty.aF _) | refine bS ?_ ?_)))
     all_goals exact Ty.bN (MT hr hc4)
    refine aj (eW ?_)
    (refine cg.mk' ?_ ?_ <;> (repeat' (first | exact aI | exact aH | exact dH | refine aB ?_ (Ty.aT _) | refine aB ?_ (Ty.aF _) | refine aG rfl (Cont.aF _) ?_ | refine aG rfl (Cont.dG ?_) ?_ | refine bS ?_ (Ty.aF _) | refine bS ?_ ?_)))
    all_goals exact Ty.bN (Ph hr hc4)
   refine aE (aE (aA (aJ rfl rfl rfl rfl (ku rfl ?_))))
   refine jB rfl rfl rfl rfl rfl (by decide) ?_
   refine jB rfl rfl rfl rfl rfl (by decide) ?_
   refine sI hX rfl rfl rfl rfl rfl rfl (cD rfl rfl rfl (bF rfl (aD (aC (aY ?_)))))
   refine b9 (fun (i : {i : Nat // i ≤ y.levels.length}) => live [(0, Ty.ex (yv l)), (1, Ty.pp [Ty.ex (.pointer (some ⟨b, 0, none⟩))]), (2, Ty.pa eZ c8 0), (4, Ty.int .i64 (k.1 : Nat)), (5, Ty.ptr 6 0), (6, Ty.int .i64 (t.1 : Nat)), (7, Ty.ptr 8 0), (16, Ty.sl fN y.bins), (17, Ty.int .i64 y.bins.length), (18, Ty.int .i64 (k.1 : Nat)), (28, Ty.int .i64 (y.days + 1)), (29, Ty.int .i64 (t.1 : Nat)), (76, Ty.sl dX y.levels), (77, Ty.int .i64 y.levels.length), (78, Ty.int .i64 (i.1 : Nat))] [(6, Cont.cells 39 (fN.tys (nth y.bins k.1))), (8, Cont.cells 187 (vq (Ei y k.1 t.1) (HY y k.1 t.1) (gX y (nth c8) k.1 t.1 (iM y k.1 t.1) i.1))), (7000, Cont.ck (hJ (k.1 * (y.D + 1) + t.1))), (4000, Cont.fact (bE y) vs rfl rfl)]) (fun i => y.levels.length - i.1) (⟨0, by omega⟩) ?_ fun i => ?_
   ·(refine cg.mk' ?_ ?_ <;> (repeat' (first | exact aI | exact aH | exact dH | refine aB ?_ (Ty.aT _) | refine aB ?_ (Ty.aF _) | refine aG rfl (Cont.aF _) ?_ | refine aG rfl (Cont.dG ?_) ?_ | refine bS ?_ (Ty.aF _) | refine bS ?_ ?_)))
    all_goals first | exact Ty.bN (CQ _).1 | exact Ty.bN (CQ _).2
   have hi := i.2
   refine aE (aA (bB rfl rfl rfl (aD (aC (aE ?_)))))
   refine ah rfl (fun hc5 => ?_) (fun hc5 => ?_)
   ·
    refine aj (aC (aE (aY (aE (aA (bF rfl ?_))))))
    refine aq rfl rfl rfl rfl rfl rfl (by omega) ?_
    refine aX rfl rfl rfl (by exact Nat.le_of_ble_eq_true rfl) ?_
    refine bu rfl (by exact List.cons_ne_nil _ _) rfl ?_
    refine bZ rfl ?_
    refine bh rfl rfl (by decide) rfl rfl rfl rfl rfl rfl ?_
    refine aD (aC (aE (aA (bF rfl ?_))))
    refine EP (n := 8) rfl rfl rfl rfl rfl (by omega) ?_
    refine HV rfl rfl rfl (Nat.zero_add _) (by omega) rfl ?_
    refine eO rfl ?_
    apply aM (s := 86) rfl rfl rfl
    ·intro hg; apply aO; (refine aS rfl rfl rfl rfl rfl (by decide) ?_); refine aD ?_; exact rfl
    ·exact rfl
    ·exact rfl
    apply aM (s := 86) rfl rfl rfl
    ·intro hg; apply aK (s := 87) rfl (by (rw [hg]; rfl)); apply aO; (refine aZ rfl rfl (by decide) rfl rfl rfl ?_); refine aD ?_; exact rfl
    ·exact rfl
    ·exact rfl
    apply aM (s := 86) rfl rfl rfl
    ·intro hg; apply aO; (refine bF rfl ?_); refine aD ?_; exact rfl
    ·exact rfl
    ·exact rfl
    apply aM (s := 86) rfl rfl rfl
    ·intro hg; apply aK (s := 88) rfl (by (rw [hg]; rfl)); apply aK (s := 89) rfl (by (rw [hg]; rfl)); apply aO; (refine bB rfl rfl rfl ?_); refine aD ?_; exact rfl
    ·exact rfl
    ·exact rfl
    refine dV rfl rfl (eO rfl ?_)
    apply aM (s := 92) rfl rfl rfl
    ·intro hg; apply aO; (refine aS rfl rfl rfl rfl rfl (by decide) ?_); refine aD ?_; exact rfl
    ·exact rfl
    ·exact rfl
    apply aM (s := 92) rfl rfl rfl
    ·intro hg; apply aK (s := 93) rfl (by (rw [hg]; rfl)); apply aO; (refine aZ rfl rfl (by decide) rfl rfl rfl ?_); refine aD ?_; exact rfl
    ·exact rfl
    ·exact rfl
    apply aM (s := 92) rfl rfl rfl
    ·intro hg; apply aO; (refine bF rfl ?_); refine aD ?_; exact rfl
    ·exact rfl
    ·exact rfl
    apply aM (s := 92) rfl rfl rfl
    ·intro hg; apply aK (s := 94) rfl (by (rw [hg]; rfl)); apply aK (s := 95) rfl (by (rw [hg]; rfl)); apply aO; (refine bB rfl rfl rfl ?_); refine aD ?_; exact rfl
    ·exact rfl
    ·exact rfl
    refine dV rfl rfl (aD (aC ?_))
    refine cH rfl (fun hc6 => ?_) (fun hc6 => ?_)
    ·
     refine cP mixed rfl ?_
     refine aS rfl rfl rfl rfl rfl (by decide) ?_
     refine aZ rfl rfl (by decide) rfl rfl rfl ?_
     refine aS rfl rfl rfl rfl rfl (by decide) ?_
     refine aS rfl rfl rfl rfl rfl (by decide) ?_
     refine aZ rfl rfl (by decide) rfl rfl rfl ?_
     refine CW rfl rfl ?_
     refine aS rfl rfl rfl rfl rfl (by decide) ?_
     refine aZ rfl rfl (by decide) rfl rfl rfl ?_
     refine aS rfl rfl rfl rfl rfl (by decide) ?_
     refine aS rfl rfl rfl rfl rfl (by decide) ?_
     refine aZ rfl rfl (by decide) rfl rfl rfl ?_
     refine bW (E := cT) (xs := [_]) rfl rfl rfl rfl rfl (by decide) (by decide) (by repeat (first | exact (aV.nil : aV _ _ [] _) | (show aV _ _ ((_, _) :: _) _; apply aV.one; (· exact (rfl : _ = Ty.int _ _)); (· exact rfl)))) (by exact rfl) rfl ?_
     refine af (s8 _ _) rfl rfl rfl rfl rfl ?_
     refine aS rfl rfl rfl rfl rfl (by decide) ?_
     refine cv rfl rfl (by decide) rfl rfl (by exact (rfl : _ = Ty.int _ _)) rfl (by exact Nat.le_of_ble_eq_true rfl) rfl rfl (by exact rfl) ?_
     refine aS rfl rfl rfl rfl rfl (by decide) ?_
     refine cv rfl rfl (by decide) rfl rfl (by exact (rfl : _ = Ty.int _ _)) rfl (by exact Nat.le_of_ble_eq_true rfl) rfl rfl (by exact rfl) ?_
     refine aD ?_
     refine ⟨by kernel_rfl, ?_⟩
     refine bI (aC (aA ?_))
     refine bq rfl rfl (by omega) (by omega) ?_
     refine bF rfl (aD ?_)
     refine bM (⟨i.1 + 1, by omega⟩) ?_ (by show y.levels.length - (i.1 + 1) < y.levels.length - i.1; omega)
     (refine cg.mk' ?_ ?_ <;> (repeat' (first | exact aI | exact aH | exact dH | refine aB ?_ (Ty.aT _) | refine aB ?_ (Ty.aF _) | refine aG rfl (Cont.aF _) ?_ | refine aG rfl (Cont.dG ?_) ?_ | refine bS ?_ (Ty.aF _) | refine bS ?_ ?_)))
     all_goals skip
     all_goals first | exact Ty.bN (F1 hc6).1 | exact Ty.bN (F1 hc6).2
    refine aj (bI (aC (aA ?_)))
    refine bq rfl rfl (by omega) (by omega) ?_
    refine bF rfl (aD ?_)
    refine bM (⟨i.1 + 1, by omega⟩) ?_ (by show y.levels.length - (i.1 + 1) < y.levels.length - i.1; omega)
    (refine cg.mk' ?_ ?_ <;> (repeat' (first | exact aI | exact aH | exact dH | refine aB ?_ (Ty.aT _) | refine aB ?_ (Ty.aF _) | refine aG rfl (Cont.aF _) ?_ | refine aG rfl (Cont.dG ?_) ?_ | refine bS ?_ (Ty.aF _) | refine bS ?_ ?_)))
    all_goals skip
    all_goals first | exact Ty.bN (KR hc6).1 | exact Ty.bN (KR hc6).2
   refine bz (aP (aP (aa rfl (aC (aE ?_)))))
   refine jk (tg := 8) rfl (Cont.nM (congrArg (vq _ _) (MX i.2 hc5))) ?_
   refine aA (R2 rfl ?_)
   refine bg rfl rfl (by decide) rfl rfl (by exact Nat.le_of_ble_eq_true rfl) ?_
   refine C4 hJ hJx hY rfl rfl rfl rfl rfl (GJ (Fm (by omega) (by omega)) (Nt (by omega) (by omega))) rfl ?_
   refine IV (h1 := hJ _) (hx := hJx) rfl ?_
   refine aD (aC ?_)
   refine E5 (h1 := hJ _) (hx := hJx) rfl ?_ ?_
   ·
    refine az (ay (aQ (aQ (ay (ay (aQ (aQ (ay (aQ ?_)))))))))
    exact Fy rfl rfl
   refine aj (bI (aC (aA ?_)))
   refine bq rfl rfl (by omega) (by omega) ?_
   refine bF rfl (aD ?_)
   refine bM (⟨t.1 + 1, by omega⟩) ?_ (by show y.D + 1 - (t.1 + 1) < y.D + 1 - t.1; omega)
   (refine cg.mk' ?_ ?_ <;> (repeat' (first | exact aI | exact aH | refine aB ?_ (Ty.aT _) | refine aB ?_ (Ty.aF _) | refine aG rfl (Cont.aF _) ?_)))
   all_goals skip
  refine bz (aP (aP (aa rfl (bI (aC (aA ?_))))))
  refine bq rfl rfl (by omega) (by omega) ?_
  refine bF rfl (aD ?_)
  refine bM (⟨k.1 + 1, by omega⟩) ?_ (by show y.bins.length - (k.1 + 1) < y.bins.length - k.1; omega)
  (refine cg.mk' ?_ ?_ <;> (repeat' (first | exact aI | exact aH | refine aB ?_ (Ty.aT _) | refine aB ?_ (Ty.aF _) | refine aG rfl (Cont.aF _) ?_ | refine aG rfl ?_ ?_)))
  all_goals skip
  all_goals exact Lq hJ (show k.1 * (y.D + 1) + t.1 = (k.1 + 1) * (y.D + 1) by rw [Nat.succ_mul]; have := t.2; omega)
 refine bz (aP (aP (aa rfl (aC (aE (aA (aJ rfl rfl rfl rfl (ku rfl ?_))))))))
 refine jB rfl rfl rfl rfl rfl (by decide) ?_
 refine jB rfl rfl rfl rfl rfl (by decide) ?_
 refine sI hX rfl rfl rfl rfl rfl rfl (cD rfl rfl rfl (bF rfl (aD (aC (aY ?_)))))
 refine b9 (fun (i : {i : Nat // i ≤ y.moves.length}) => live [(0, Ty.ex (yv l)), (1, Ty.pp [Ty.ex (.pointer (some ⟨b, 0, none⟩))]), (124, Ty.sl eH y.moves), (125, Ty.int .i64 y.moves.length), (126, Ty.int .i64 (i.1 : Nat))] [(7000, Cont.ck (hJ (y.bins.length * (y.D + 1) + i.1))), (4000, Cont.fact (bE y) vs rfl rfl)]) (fun i => y.moves.length - i.1) (⟨0, by omega⟩) ?_ fun i => ?_
 ·(refine cg.mk' ?_ ?_ <;> (repeat' (first | exact aI | exact aH | refine aB ?_ (Ty.aT _) | refine aB ?_ (Ty.aF _) | refine aG rfl (Cont.aF _) ?_ | refine aG rfl ?_ ?_)))
  all_goals exact Lq hJ (show k.1 * (y.D + 1) = y.bins.length * (y.D + 1) + 0 by rw [show k.1 = y.bins.length by have := k.2; omega]; rfl)
 refine aE (aA (bB rfl rfl rfl (aD (aC (aE ?_)))))
 refine ah rfl (fun hc8 => ?_) (fun hc8 => ?_)
 ·
  refine aj (aC (aE (aY (aE (aA ?_)))))
  refine aq rfl rfl rfl rfl rfl rfl (by omega) ?_
  refine aX rfl rfl rfl (by exact Nat.le_of_ble_eq_true rfl) ?_
  refine bu rfl (by exact List.cons_ne_nil _ _) rfl ?_
  refine bh rfl rfl (by decide) rfl rfl rfl rfl rfl rfl ?_
  refine aD (aC (aE ?_))
  have hm := hr.move _ (cX (xs := y.moves) (k := i.1) (by omega))
  refine cP mixed rfl (R2 rfl (aJ rfl rfl rfl rfl ?_))
  refine aS rfl rfl rfl rfl rfl (by decide) ?_
  refine aZ rfl rfl (by decide) rfl rfl rfl ?_
  refine aS rfl rfl rfl rfl rfl (by decide) ?_
  refine aZ rfl rfl (by decide) rfl rfl rfl ?_
  refine eM [7000, 4000] (xe y hr (nth y.moves i.1).src (nth y.moves i.1).day hm.2.1 (by omega)) rfl (aW (qm hX hD rfl rfl rfl rfl) (aW (bU (bV rfl rfl)) (aW (bU (bV rfl rfl)) cR))) (by exact dc _ _) ?_
  refine aJ rfl rfl rfl rfl ?_
  refine aS rfl rfl rfl rfl rfl (by decide) ?_
  refine aZ rfl rfl (by decide) rfl rfl rfl ?_
  refine aS rfl rfl rfl rfl rfl (by decide) ?_
  refine aZ rfl rfl (by decide) rfl rfl rfl ?_
  refine eM [7000, 4000] (xe y hr (nth y.moves i.1).dst (nth y.moves i.1).day hm.2.2.1 (by omega)) rfl (aW (qm hX hD rfl rfl rfl rfl) (aW (bU (bV rfl rfl)) (aW (bU (bV rfl rfl)) cR))) (by exact dc _ _) ?_
  refine aS rfl rfl rfl rfl rfl (by decide) ?_
  refine aS rfl rfl rfl rfl rfl (by decide) ?_
  refine aZ rfl rfl (by decide) rfl rfl rfl ?_
  refine aS rfl rfl rfl rfl rfl (by decide) ?_
  refine aS rfl rfl rfl rfl rfl (by decide) ?_
  refine aZ rfl rfl (by decide) rfl rfl rfl ?_
  refine dI rfl rfl (by exact List.cons_ne_nil _ _) rfl (by repeat (first | exact (aV.nil : aV _ _ [] _) | (show aV _ _ ((_, _) :: _) _; apply aV.one; (· exact (rfl : _ = Ty.int _ _)); (· exact rfl)))) (by exact (rfl : _ = some [_, _, _, _])) ?_
  refine C4 hJ hJx hY rfl rfl rfl rfl rfl (GJ (by rw [fK]; omega) (Ng (by omega))) rfl ?_
  refine IV (h1 := hJ _) (hx := hJx) rfl ?_
  refine aD ?_
  refine ⟨by kernel_rfl, ?_⟩
  refine aC ?_
  refine E5 (h1 := hJ _) (hx := hJx) rfl ?_ ?_
  ·
   refine az (ay (aQ (aQ (ay ?_))))
   exact Fy rfl rfl
  refine aj (bI (aC (aA ?_)))
  refine bq rfl rfl (by omega) (by omega) ?_
  refine bF rfl (aD ?_)
  refine bM (⟨i.1 + 1, by omega⟩) ?_ (by show y.moves.length - (i.1 + 1) < y.moves.length - i.1; omega)
  (refine cg.mk' ?_ ?_ <;> (repeat' (first | exact aI | exact aH | refine aB ?_ (Ty.aT _) | refine aB ?_ (Ty.aF _) | refine aG rfl (Cont.aF _) ?_)))
  all_goals skip
 refine bz (aP (aP (aa rfl ?_)))
 exact JD (hJ := hJ) (by rw [List.length_map, fK, show i.1 = y.moves.length by have := i.2; omega]) rfl rfl
end Go.Proofs.YtelbollidfdcjaaGreat
namespace Go.T
open Go Go.RowKit
theorem OC {ρ : List (Nat × Nat)} {a b : Nat} (h : (a, b) ∈ ρ) : Conv ρ (.mp a) (.mp b) := fun _ _ _ _ _ _ hre ⟨k, e, hk⟩ => ⟨k, e, hre.some _ h k hk⟩
def Ia {α : Type} (E : El α) : VT (List α) := ⟨fun xs => Ty.sl E xs, fun _ => ⟨rfl, rfl⟩⟩
section
variable {A : As}
theorem GM {α : Type} {E : El α} {T J : Nat} {xs : List α} {w : World} {M : bC} {v : Value} (wf : Wf w M) (h : vM E T J xs w M v) : lN E xs w (eE M J) v := by
 rcases h with ⟨rfl, rfl⟩ | ⟨g, off, c, cur, rfl, hg, hh, h1, h2, h3, h4⟩
 ·exact ⟨none, 0, rfl, Nat.le_refl _, by simp [maxLen], fun h => absurd h (by simp)⟩
 refine ⟨_, c, rfl, h1, h2, fun h0 => ⟨g, off, rfl, by simp [eE, hg], wf.lt g _ hg, fun i t hi => ?_⟩⟩
 obtain ⟨u, hu, hdu⟩ := dW h4 i t hi
 refine ⟨u, ?_, t.mono (jN (w := w)) ?_ (fun _ _ h => by cases h) hdu⟩
 ·have hlt : i < xs.length * E.size := by
   have := (List.getElem?_eq_some_iff.1 hu).1
   rw [List.length_take] at this; omega
  rw [List.getElem?_take, if_pos hlt, List.getElem?_drop] at hu
  simpa [World.cell?, hh] using hu
 intro u hu
 have : u ∈ cF (xs.flatMap E.tys) := List.mem_flatMap.2 ⟨t, List.mem_of_getElem? hi, hu⟩
 rw [E.cY] at this; cases this
theorem Mf {κ α : Type} [DecidableEq κ] {enc : κ → Value} {E : El α} {T J m : Nat} {q : List (κ × List α)} (hc : A.tag m = some (.mr enc E T J q)) (hne : Nat.beq m J = false) : NA A J (m, .mp enc (Ia E) q) := fun w M wf ht => by
  obtain ⟨_, b, es, clock, h1, h2, h3, h4, _⟩ := ht _ (cj hc)
  have hmj : m ≠ J := fun h => by subst h; simp at hne
  refine ⟨b, by simp [eE, h1, hmj], es, clock, h2, h3, ?_⟩
  have key : ∀ (l : List (κ × List α)) (vs : List Value), cI w M (l.map fun x => Ty.ff E T J x.2) vs → cI w (eE M J) (l.map fun x => (Ia E).ty x.2) vs := by
    intro l
    induction l with
    | nil => intro vs h; cases vs with | nil => trivial | cons => cases h
    | cons x l ih =>
      intro vs h
      cases vs with
      | nil => cases h
      | cons v vs => exact ⟨GM wf h.1, ih vs h.2⟩
  exact key q _ h4
theorem nR {L : List Nat} {l1 l2 : List Ty} (h1 : cF l1 = []) (h2 : bY l1 = []) : rE A L (.pp (l1 ++ l2)) (.pp l1) := fun w M v _ _ ⟨b, off, e, m1, m2, m3⟩ => by
 refine ⟨b, off, e, jS m1, m2, fun i t hi => ?_⟩
 have hl : i < l1.length := (List.getElem?_eq_some_iff.1 hi).1
 obtain ⟨x, hx, hd⟩ := m3 i t (by rw [List.getElem?_append_left hl]; exact hi)
 refine ⟨x, hx, t.mono (S := fun _ => True) (K := fun _ => True) ⟨Nat.le_refl _, rfl, rfl, rfl, fun b _ hm => ⟨jS hm, rfl⟩, fun b t _ h => absurd trivial h⟩ ?_ ?_ hd⟩
 ·intro u hu
  have : u ∈ cF l1 := List.mem_flatMap.2 ⟨t, List.mem_of_getElem? hi, hu⟩
  rw [h1] at this; cases this
 intro u hu
 have : u ∈ bY l1 := List.mem_flatMap.2 ⟨t, List.mem_of_getElem? hi, hu⟩
 rw [h2] at this; cases this
theorem HQ {L : List Nat} {i : Nat} {t : Ty} : ∀ {l l' : List Ty}, oA A L l l' → l'[i]? = some t → ∃ s, l[i]? = some s ∧ rE A L s t := by
  induction i with
  | zero =>
    intro l l' h e
    match l, l', h with
    | [], [], _ => cases e
    | s :: _, t' :: _, h => injection e with e; subst e; exact ⟨s, rfl, h.1⟩
  | succ i ih =>
    intro l l' h e
    match l, l', h with
    | [], [], _ => cases e
    | _ :: l, _ :: l', h => exact ih (l := l) (l' := l') h.2 e
theorem kj {L : List Nat} {l l' : List Ty} (h : oA A L l l') : rE A L (.pp l) (.pp l') := fun w M v wf ht ⟨b, off, e, m1, m2, m3⟩ => by
 refine ⟨b, off, e, jS m1, m2, fun i t hi => ?_⟩
 obtain ⟨s, h1, h2⟩ := HQ h hi
 obtain ⟨x, hx, hd⟩ := m3 i s h1
 exact ⟨x, hx, h2 w M x wf ht hd⟩
end
section
variable {P : Program} {fr : Fr} {A : As} {c : Code} {Q : Exit → Act → World → Prop}
theorem O4 {α : Type} {E : El α} {T J tg s : Nat} {xs : List α} (hs : Nat.blt s fr.n = true) (hc : A.slots s = .row E T tg xs) (h1 : gE tg) (hJ : 4096 ≤ J) (hp : fr.pass.contains tg = false)
    (h : fP P fr c ⟨fun i => bif Nat.beq i s then .ff E T J xs else gj [] [tg] A.slots i, mz [] [tg] A.tags⟩ Q) : fP P fr c A Q := fun a w ⟨M, ok, hsl, ht⟩ => by
  have le : Le (· ∈ ([] : List Nat)) (· ∈ [tg]) w M w (mG M tg J) := x6
  refine h a w ⟨mG M tg J, ⟨DF hJ ok.wf, Fr.jT ok.base (by intro _ h; cases h) (fun t ht => by simp only [List.mem_singleton] at ht; subst ht; exact ⟨h1.1, by simpa using hp⟩) le, ok.size, ok.defers.step (by intro _ h; cases h) (fun t ht => by simp only [List.mem_singleton] at ht; subst ht; exact h1.1) le⟩, fun i hi => ?_, fun x hx => ?_⟩
  · cases hb : Nat.beq i s with
    | false =>
      simp only [hb, cond_false]
      rcases fq [] [tg] A.slots i with ⟨e, hdj⟩ | ⟨_, e⟩
      · rw [e]; exact (A.slots i).mono le (fT hdj).1 (fT hdj).2 (hsl i hi)
      · rw [e]; trivial
    | true =>
      have his : i = s := Nat.eq_of_beq_eq_true hb
      subst his
      simp only [hb, cond_true]
      have hd := hsl i hi
      rw [hc] at hd
      obtain ⟨vs, hown, hcs, hM⟩ := hd
      rcases hown.2 with ⟨ez, h0⟩ | ⟨g, cap, cur, ez, _, hh, hnc, hcap, hsz, htk⟩
      · exact .inl ⟨List.length_eq_zero_iff.1 h0, ez⟩
      · have hg : M g = some tg := hM g (by rw [ez]; rfl)
        refine .inr ⟨g, 0, cap, cur, ez, by simp [mG, hg], hh, hnc, hcap, by omega, ?_⟩
        rw [List.drop_zero, htk]
        exact bl (x6 (w := w)) (by rw [E.cY]; intro _ h; cases h) (by rw [E.cS]; intro _ h; cases h) hcs
  · exact iV le hx fun y hy _ => ht y hy
end
end Go.T
namespace Go.Proofs.YtelbollidfdcjaaGreat
open Go Go.T
set_option maxHeartbeats 8000000
theorem four {vs : List Value} {n : Nat} (h : vs.length = n) (e : n = 4) : ∃ a b c d, vs = [a, b, c, d] := by
  subst e
  match vs, h with
  | [a, b, c, d], _ => exact ⟨a, b, c, d, rfl⟩
def E9 (y : au) : List Ty := [Ty.int .i64 y.days, Ty.sl fN y.bins, Ty.sl eH y.moves, Ty.sl dX y.levels, Ty.ex (.slice none 0 0), Ty.ex (.slice none 0 0)]
def RO (y : au) (F A : Nat) (fl : List cB) (a : List Int) : List Ty := [Ty.int .i64 y.days, Ty.sl fN y.bins, Ty.sl eH y.moves, Ty.sl dX y.levels, Ty.row dn 187 F fl, Ty.row cT 3 A a]
theorem Fv {fl : List cB} {k : Nat} (h : k < fl.length) : (gz fl).take k ++ [(nth fl k).lo] = (gz fl).take (k + 1) := by
 unfold gz; rw [← List.map_take, ← List.map_take, cQ h, List.map_append]; rfl
theorem Bt {y : au} {fl : List cB} {α : Type} {f : cB → α} : [Ty.int .i64 y.days, Ty.sl fN y.bins, Ty.sl eH y.moves, Ty.sl dX y.levels, Ty.row dn 187 23 (fl.take (fl.map f).length), Ty.row cT 3 31 ((gz fl).take (fl.map f).length)] = RO y 23 31 fl (gz fl) := by
 rw [List.length_map, List.take_of_length_le (Nat.le_refl _), List.take_of_length_le (by unfold gz; rw [List.length_map]; exact Nat.le_refl _)]; rfl
def sV (y : au) (F A m n : Nat) : List Ty := [Ty.int .i64 y.days, Ty.sl fN y.bins, Ty.sl eH y.moves, Ty.sl dX y.levels, Ty.vs F m, Ty.vs A n]
def eI (y : au) (fl : List cB) (A n : Nat) : List Ty := [Ty.int .i64 y.days, Ty.sl fN y.bins, Ty.sl eH y.moves, Ty.sl dX y.levels, Ty.sl dn fl, Ty.vs A n]
def mR (y : au) (fl : List cB) (a : List Int) : List Ty := [Ty.int .i64 y.days, Ty.sl fN y.bins, Ty.sl eH y.moves, Ty.sl dX y.levels, Ty.sl dn fl, Ty.sl cT a]
theorem Dr (fl : List cB) : (gz fl).length = fl.length := by unfold gz; rw [List.length_map]
theorem kQ {y : au} (hr : y.bt) {c : Nat → Bool} : (aR y c).length ≤ 34 := by
 have h1 := hr.bins; have h2 := hr.days; have h3 := D_eq hr; have h4 := hr.moves
 have := Nat.mul_le_mul (show y.bins.length ≤ 4 by omega) (show y.D + 1 ≤ 6 by omega)
 rw [fK]; omega
attribute [local irreducible] aR gz
attribute [local irreducible] gL eX lN nh gy g6 gu gw gx nj gr ni dN fX nH fu nZ nth fP dQ bA dJ bodyPost Exit.then Exit.inBlock Code.wp Code.wpIn nW g7 nY nV g8 eP cL cM bodyPostM dR
set_option maxRecDepth 100000 in
theorem Ky (y : au) (c8 : List Bool) (hc8 : c8.length = 8) : eP Tryz.prog 173 [1000] [(1000, Cont.cells 185 (E9 y))] [Ty.ptr 1000 0, Ty.arr eZ c8] [(1000, Cont.cells 185 (E9 y))] (Ty.jw 196 [Ty.pp [Ty.ptr 1000 0], Ty.pa eZ c8 0]) := by
 refine fS Tryz.func173 rfl (by decide) Tryz.ntmps173 (by exact Nat.le_of_ble_eq_true rfl) fun w0 M0 => ?_
 refine aE (aA ?_)
 refine gM (ty := Ty.ptr 1000 0) rfl rfl ?_
 refine uE rfl (lE rfl (aD (aC (aE (aA (dK rfl (R4 rfl (aD (aC ?_)))))))))
 refine az ?_
 refine iq [1000] rfl rfl (by decide) (by repeat (first | exact gS | refine eG rfl (kg (by decide) rfl rfl rfl) ?_)) ?_
 all_goals skip
 all_goals exact iR (tj (aN (aN bX (aU rfl rfl)) (fJ (aN bX (jg (by decide))))))
set_option maxRecDepth 100000 in
theorem tE (y : au) (hr : y.bt) (c8 : List Bool) (hc8 : c8.length = 8) : eP Tryz.prog 117 [] [] [dr y, Ty.arr eZ c8] [(23, Cont.vec dn 187 (aR y (nth c8))), (31, Cont.vec cT 3 (gz (aR y (nth c8))))] (Ty.pp (sV y 23 31 (aR y (nth c8)).length (aR y (nth c8)).length)) := by
 refine rG Tryz.func117 rfl (by decide) Tryz.ntmps117 (by exact Nat.le_of_ble_eq_true rfl) fun w0 M0 => ?_
 have hfl := kQ (c := nth c8) hr
 refine aE (aA (bD rfl (uE rfl (lE rfl (aD (aC (aE (aA ?_))))))))
 refine aX rfl rfl rfl (by exact Nat.le_of_ble_eq_true rfl) ?_
 refine dI rfl rfl (by exact List.cons_ne_nil _ _) rfl (by repeat (first | exact (aV.nil : aV _ _ [] _) | (show aV _ _ ((_, _) :: _) _; apply aV.agg; (· exact (rfl : _ = Ty.agg _))))) (by exact rfl) ?_
 refine zu rfl rfl rfl ?_
 refine bu rfl (by exact List.cons_ne_nil _ _) rfl ?_
 refine cv rfl rfl (by decide) rfl rfl (by exact (rfl : _ = Ty.ptr _ _)) rfl (by exact Nat.le_of_ble_eq_true rfl) rfl rfl (by exact (rfl : _ = [_])) ?_
 refine aD (aC (aE (aE (aA ?_))))
 refine aZ rfl rfl (by decide) rfl rfl rfl ?_
 refine wq rfl rfl rfl (by rw [hc8]; rfl) ?_
 refine dL (res' := Ty.jw 196 [Ty.pp [Ty.ptr 10 0], Ty.pa eZ c8 0]) [(10, 1000)] [] [(10, Cont.cells 185 (E9 y))] (Ky y c8 hc8) rfl rfl (aN (aN bX (aU rfl rfl)) (jg (by exact List.mem_cons_self))) (dA (a := 10) (b := 1000) (by exact List.mem_cons_self) rfl (kg (by exact List.mem_cons_self) rfl rfl rfl) pre_nil) (bk (a := 10) (b := 1000) (by exact List.mem_cons_self) rfl (kg (by exact List.mem_cons_self) rfl rfl rfl) post_nil) (tj (aN (aN bX (aU rfl rfl)) (fJ (aN bX (jg (by exact List.mem_cons_self)))))) ?_
 refine aD (aC ?_)
 refine Kk (D := 10) (Tb := 185) (tys := bE y) (r := [Ty.ex (.slice none 0 0), Ty.ex (.slice none 0 0)]) rfl rfl rfl (by decide) fun vs hvs => ?_
 obtain ⟨v0, v1, v2, v3, rfl⟩ := four hvs rfl
 refine aY ?_
 refine sv (ps := [13]) (lk [(5, Ty.ptr 6 0), (9, Ty.ptr 10 0)]) (fun k => [(6, Cont.cells 152 [Ty.ptr 10 0]), (10, Cont.cells 185 [Ty.ex v0, Ty.ex v1, Ty.ex v2, Ty.ex v3, Ty.row dn 187 23 ((aR y (nth c8)).take k), Ty.row cT 3 31 ((gz (aR y (nth c8))).take k)]), (4000, Cont.fact (bE y) [v0, v1, v2, v3] rfl rfl)]) false [] [6, 10, 4000] rfl rfl ((vi y hr c8 hc8 0 10 (by decide) [v0, v1, v2, v3]).1) (DN (D := 10) (n := 36) (sd := 9) (r := fun k => [Ty.row dn 187 23 ((aR y (nth c8)).take k), Ty.row cT 3 31 ((gz (aR y (nth c8))).take k)]) (fun b => vi y hr c8 hc8 b 10 (by decide) [v0, v1, v2, v3]) (by decide) (by decide) rfl (fun k => List.mem_cons_of_mem _ List.mem_cons_self) (List.mem_cons_of_mem _ (List.mem_cons_of_mem _ List.mem_cons_self))) (vh rfl) (vh rfl) (by decide) (by intro t ht; obtain ⟨x, _, rfl⟩ := List.mem_map.1 ht; exact ⟨rfl, rfl, rfl⟩) rfl rfl (fun _ => rfl) rfl ?_ ?_ ?_ (by intro h; cases h)
 ·(refine cg.mk' ?_ ?_ <;> (repeat' (first | exact aI | exact aH | exact dH | refine aB ?_ (Ty.aT _) | refine aB ?_ (Ty.aF _) | refine aG rfl (Cont.aF _) ?_ | refine aG rfl (Cont.dG ?_) ?_ | refine bS ?_ (Ty.aF _) | refine bS ?_ Ty.gZ)))
  all_goals trace_state
 ·intro k tys hk
  obtain ⟨hk1, rfl⟩ := FW hk
  refine ⟨live [(5, Ty.ptr 6 0), (6, Ty.ptr 7 0), (9, Ty.ptr 10 0)] [(6, Cont.cells 152 [Ty.ptr 10 0]), (7, Cont.cells 187 (dn.tys (nth (aR y (nth c8)) k))), (10, Cont.cells 185 [Ty.ex v0, Ty.ex v1, Ty.ex v2, Ty.ex v3, Ty.row dn 187 23 ((aR y (nth c8)).take k), Ty.row cT 3 31 ((gz (aR y (nth c8))).take k)]), (4000, Cont.fact (bE y) [v0, v1, v2, v3] rfl rfl)], fun l w M => ?_, fun l w M => ?_⟩
  ·
   refine aA ?_
   refine bu rfl (by exact List.cons_ne_nil _ _) rfl ?_
   refine bh rfl rfl (by decide) rfl rfl rfl rfl rfl rfl ?_
   refine aD (eW ?_)
   (refine cg.mk' ?_ ?_ <;> (repeat' (first | exact aI | exact aH | refine aB ?_ (Ty.aT _) | refine aB ?_ (Ty.aF _) | refine aG rfl (Cont.aF _) ?_)))
  refine aY ?_
  refine vg (D := 10) (Tb := 185) (tg := 23) [Ty.ex v0, Ty.ex v1, Ty.ex v2, Ty.ex v3] rfl fun v4 => ?_
  refine vg (D := 10) (Tb := 185) (tg := 31) [Ty.ex v0, Ty.ex v1, Ty.ex v2, Ty.ex v3, Ty.ex v4] rfl fun v5 => ?_
  refine cP mixed rfl ?_
  refine aZ rfl rfl (by decide) rfl rfl rfl ?_
  refine aZ rfl rfl (by decide) rfl rfl rfl ?_
  refine aZ rfl rfl (by decide) rfl rfl rfl ?_
  refine cZ rfl ?_
  refine aS rfl rfl rfl rfl rfl (by decide) ?_
  refine aZ rfl rfl (by decide) rfl rfl rfl ?_
  refine bg rfl rfl (by decide) rfl rfl (by exact Nat.le_of_ble_eq_true rfl) ?_
  refine bW (E := dn) (xs := [_]) rfl rfl rfl rfl rfl (by decide) (by decide) (by repeat (first | exact (aV.nil : aV _ _ [] _) | (show aV _ _ ((_, _) :: _) _; apply aV.agg; (· exact (rfl : _ = Ty.agg _))))) (by exact rfl) rfl ?_
  refine qS (tg := 23) rfl rfl rfl rfl (by decide) rfl rfl rfl rfl rfl rfl (by decide) (by (simp <;> omega)) (by (simp <;> omega)) rfl rfl ?_
  refine aZ rfl rfl (by decide) rfl rfl rfl ?_
  refine cZ rfl ?_
  refine aS rfl rfl rfl rfl rfl (by decide) ?_
  refine aZ rfl rfl (by decide) rfl rfl rfl ?_
  refine aS rfl rfl rfl rfl rfl (by decide) ?_
  refine aZ rfl rfl (by decide) rfl rfl rfl ?_
  refine bW (E := cT) (xs := [_]) rfl rfl rfl rfl rfl (by decide) (by decide) (by repeat (first | exact (aV.nil : aV _ _ [] _) | (show aV _ _ ((_, _) :: _) _; apply aV.one; (· exact (rfl : _ = Ty.int _ _)); (· exact rfl)))) (by exact rfl) rfl ?_
  refine qS (tg := 31) rfl rfl rfl rfl (by decide) rfl rfl rfl rfl rfl rfl (by decide) (by (simp <;> omega)) (by (simp <;> omega)) rfl rfl ?_
  refine cZ rfl ?_
  refine aS rfl rfl rfl rfl rfl (by decide) ?_
  refine cv rfl rfl (by decide) rfl rfl (by exact (rfl : _ = Ty.row _ _ _ _)) rfl (by exact Nat.le_of_ble_eq_true rfl) rfl rfl (by exact rfl) ?_
  refine cZ rfl ?_
  refine aS rfl rfl rfl rfl rfl (by decide) ?_
  refine cv rfl rfl (by decide) rfl rfl (by exact (rfl : _ = Ty.row _ _ _ _)) rfl (by exact Nat.le_of_ble_eq_true rfl) rfl rfl (by exact rfl) ?_
  refine aD ?_
  refine ⟨by kernel_rfl, ?_⟩
  refine bI (Bg ?_)
  (refine cg.mk' ?_ ?_ <;> (repeat' (first | exact aI | exact aH | exact dH | refine aB ?_ (Ty.aT _) | refine aG rfl (Cont.aF _) ?_ | refine aG rfl (Cont.dG ?_) ?_ | refine bS ?_ (Ty.aF _) | refine bS ?_ ?_)))
  all_goals first | exact Ty.eU (cQ hk1).symm | exact Ty.eU (Fv hk1)
 refine bI (aC (aE ?_))
 refine B9 (D := 10) (Tb := 185) (vs := [v0, v1, v2, v3]) (tys := bE y) (r := [Ty.row dn 187 23 ((aR y (nth c8)).take ((aR y (nth c8)).map ju).length), Ty.row cT 3 31 ((gz (aR y (nth c8))).take ((aR y (nth c8)).map ju).length)]) rfl rfl ?_
 refine jk (tg := 10) rfl (Cont.nM (T := 185) (Bt (y := y) (fl := aR y (nth c8)) (f := ju))) ?_
 refine qK (c0 := 10) (tg := 23) 4 rfl rfl ?_
 refine qK (c0 := 10) (tg := 31) 5 rfl rfl ?_
 refine jk (tg := 10) rfl (Cont.kF (l' := sV y 23 31 (aR y (nth c8)).length (aR y (nth c8)).length) ⟨Ty.aF _, Ty.aF _, Ty.aF _, Ty.aF _, Ty.Ae rfl, Ty.Ae (Dr _), trivial⟩) ?_
 refine jI (tg := 10) [] [(6, Cont.cells 152 [Ty.pp (sV y 23 31 (aR y (nth c8)).length (aR y (nth c8)).length)])] (by decide) rfl trivial ⟨fM rfl rfl ⟨AH rfl rfl (by decide), trivial⟩, trivial⟩ ?_
 refine aA ?_
 refine aZ rfl rfl (by decide) rfl rfl rfl ?_
 refine L8 rfl (aD (aC (az (K7 rfl ?_))))
 refine iq [23, 31] rfl rfl (by decide) (by repeat (first | exact gS | refine eG rfl (bp (by decide) rfl) ?_)) ?_
 all_goals skip
 all_goals exact iR (fJ (aN (aN (aN (aN (aN (aN bX (dg (by decide))) (dg (by decide))) (aU rfl rfl)) (aU rfl rfl)) (aU rfl rfl)) (aU rfl rfl)))
end Go.Proofs.YtelbollidfdcjaaGreat
namespace Go.Proofs.YtelbollidfdcjaaGreat
open Go Go.T
section
variable {fl : List cB} {a : List Int} {n k : Nat} {c : Int} {w : Way}
abbrev WQ : Type := List (Int × List Way)
def ot (q : WQ) (c : Int) : List Way := (e9 q c).getD []
def IE (q : WQ) (c : Int) (w : Way) : WQ := iE q c (ot q c ++ [w])
theorem DG (q : WQ) (c c' : Int) (w : Way) : ot (IE q c w) c' = ot q c' ++ (if c = c' then [w] else []) := by
 unfold IE
 show (e9 (iE _ _ _) c').getD [] = _
 rw [y9]
 by_cases e : c = c'
 ·subst e; rw [if_pos rfl, if_pos rfl]; rfl
 rw [if_neg e, if_neg e, List.append_nil]; rfl
def nI (fl : List cB) (a : List Int) (q : WQ) (k : Nat) : WQ := if nth a k < (nth fl k).hi then IE q (nth fl k).src ⟨k, true⟩ else q
def eR (fl : List cB) (a : List Int) : Nat → WQ
  | 0 => []
  | k + 1 => if nth a k > (nth fl k).lo then IE (nI fl a (eR fl a k) k) (nth fl k).dst ⟨k, false⟩ else nI fl a (eR fl a k) k
theorem GU (fl : List cB) (a : List Int) : ([] : WQ) = eR fl a 0 := rfl
theorem Lb {q : WQ} (h : ¬ nth a k < (nth fl k).hi) : q = nI fl a q k := (if_neg h).symm
theorem KQ (h : ¬ nth a k > (nth fl k).lo) : nI fl a (eR fl a k) k = eR fl a (k + 1) := (if_neg h).symm
theorem tZ {q : WQ} : ot (nI fl a q k) c = ot q c ++ (if nth a k < (nth fl k).hi ∧ (nth fl k).src = c then [⟨k, true⟩] else []) := by
 unfold nI
 by_cases h : nth a k < (nth fl k).hi
 ·rw [if_pos h, DG]
  by_cases e : (nth fl k).src = c
  ·rw [if_pos e, if_pos ⟨h, e⟩]
  rw [if_neg e, if_neg fun h => e h.2]
 rw [if_neg h, if_neg fun h' => h h'.1, List.append_nil]
theorem tQ : ∀ k, ot (eR fl a k) c = (List.range k).flatMap (DO fl a c)
  | 0 => rfl
  | k + 1 => by
    rw [List.range_succ, List.flatMap_append, List.flatMap_singleton, ← tQ k]
    show ot (if _ then _ else _) c = _
    unfold DO
    by_cases h : nth a k > (nth fl k).lo
    · rw [if_pos h, DG, tZ, List.append_assoc]
      congr 2
      by_cases e : (nth fl k).dst = c
      · rw [if_pos e, if_pos ⟨h, e⟩]
      · rw [if_neg e, if_neg fun h => e h.2]
    · rw [if_neg h, tZ, if_neg (c := _ ∧ (nth fl k).dst = c) (fun h' => h h'.1), List.append_nil]
theorem sX : ot (eR fl a fl.length) c = bO fl a c := tQ _
theorem y8 (k : Nat) : (ot (eR fl a k) c).length ≤ 2 * k := by
  rw [tQ]
  have key : ∀ n, ((List.range n).flatMap (DO fl a c)).length ≤ 2 * n := by
    intro n
    induction n with
    | zero => simp
    | succ n ih => rw [List.range_succ, List.flatMap_append, List.length_append, List.flatMap_singleton]; have := DM (fl := fl) (a := a) (c := c) n; omega
  exact key k
theorem Hq : (ot (nI fl a (eR fl a k) k) c).length ≤ 2 * k + 1 := by
 rw [tZ, List.length_append]
 have := y8 (fl := fl) (a := a) (c := c) k
 split <;> simp <;> omega
def pM (fl : List cB) (a : List Int) (k : Nat) (c : Int) : Int := c7 (fun i => (ind ((nth fl i).dst = c) - ind ((nth fl i).src = c)) * nth a i) k
def ef (fl : List cB) (a : List Int) (n k : Nat) : List Int := (List.range n).map fun c => pM fl a k (c : Nat)
theorem j9 : (ef fl a n k).length = n := by unfold ef; rw [List.length_map, List.length_range]
theorem jL {c : Nat} (h : c < n) : nth (ef fl a n k) c = pM fl a k c := eo _ h
theorem D5 : ef fl a n fl.length = gW fl a n := rfl
theorem Cd {l l' : List Int} (h : l.length = l'.length) (h' : ∀ i, i < l.length → nth l i = nth l' i) : l = l' := by
 refine List.ext_getElem h fun i h1 h2 => ?_
 have := h' i h1
 unfold nth at this
 rw [List.getD_eq_getElem?_getD, List.getD_eq_getElem?_getD, List.getElem?_eq_getElem h1, List.getElem?_eq_getElem h2] at this
 exact this
def oX (fl : List cB) (a : List Int) (l : List Int) (k : Nat) : List Int := l.set (nth fl k).src.toNat (nth l (nth fl k).src.toNat - nth a k)
theorem CV (hs : 0 ≤ (nth fl k).src ∧ (nth fl k).src < n) (hd : 0 ≤ (nth fl k).dst ∧ (nth fl k).dst < n) :
 (oX fl a (ef fl a n k) k).set (nth fl k).dst.toNat (nth (oX fl a (ef fl a n k) k) (nth fl k).dst.toNat + nth a k) = ef fl a n (k + 1) := by
 have hS : ∀ c, c < n → nth (oX fl a (ef fl a n k) k) c = pM fl a k c - ind ((nth fl k).src = (c : Int)) * nth a k := fun c hc => by
  unfold oX
  rw [iz (by rw [j9]; exact hc)]
  by_cases e : (nth fl k).src.toNat = c
  ·rw [if_pos e, e, jL hc, fj (by omega), Int.one_mul]
  rw [if_neg e, jL hc, fD (by omega), Int.zero_mul, Int.sub_zero]
 have hl : (oX fl a (ef fl a n k) k).length = n := by unfold oX; rw [List.length_set, j9]
 refine Cd (by rw [List.length_set, hl, j9]) fun c hc => ?_
 rw [List.length_set, hl] at hc
 rw [iz (by rw [hl]; exact hc), jL hc]
 show _ = pM fl a k c + (ind ((nth fl k).dst = (c : Int)) - ind ((nth fl k).src = (c : Int))) * nth a k
 rw [Int.sub_mul]
 by_cases e : (nth fl k).dst.toNat = c
 ·rw [if_pos e, e, hS c hc, fj (p := (nth fl k).dst = (c : Int)) (by omega), Int.one_mul]; omega
 rw [if_neg e, hS c hc, fD (p := (nth fl k).dst = (c : Int)) (by omega), Int.zero_mul]; omega
theorem HN (fl : List cB) (a l : List Int) (k : Nat) : (oX fl a l k).length = l.length := List.length_set
theorem Ga (fl : List cB) (a : List Int) (n : Nat) : List.replicate (((n : Nat) : Int)).toNat 0 = ef fl a n 0 := by
 rw [Int.toNat_natCast]
 refine Cd (by rw [List.length_replicate, j9]) fun i hi => ?_
 rw [List.length_replicate] at hi
 rw [jL hi, BS _ _ _ hi]; rfl
theorem Gw {c : Nat} (h : ∀ c : Int, -(300 * (k : Int)) ≤ pM fl a k c ∧ pM fl a k c ≤ 300 * k) (ha : 0 ≤ nth a k ∧ nth a k ≤ 300) (hc : c < n) (hs : (nth fl k).src.toNat < n) : -(300 * (k : Int) + 300) ≤ nth (oX fl a (ef fl a n k) k) c ∧ nth (oX fl a (ef fl a n k) k) c ≤ 300 * k := by
 unfold oX
 rw [iz (by rw [j9]; exact hc)]
 split
 ·rw [jL hs]; have := h ((nth fl k).src.toNat : Nat); omega
 rw [jL hc]; have := h (c : Nat); omega
theorem AP (ha : ∀ i, i < k → 0 ≤ nth a i ∧ nth a i ≤ 300) : -(300 * (k : Int)) ≤ pM fl a k c ∧ pM fl a k c ≤ 300 * k := by
 refine p5 (b := 300) fun i hi => ?_
 have := ha i hi
 unfold ind
 split <;> split <;> simp <;> omega
end
end Go.Proofs.YtelbollidfdcjaaGreat
namespace Go.Proofs.YtelbollidfdcjaaGreat
open Go Go.T
set_option maxHeartbeats 8000000
section
variable {fl : List cB} {a : List Int} {n : Nat} {w : Way}
theorem Mr (h : w.more = true) : (nth fl w.ix).src = w.iA fl := (if_pos h).symm
theorem PK (h : w.more = false) : (nth fl w.ix).dst = w.iA fl := (if_neg (by rw [h]; decide)).symm
theorem F4 (h : w.more = true) : (nth fl w.ix).dst = w.fin fl ∧ (nth fl w.ix).hi - nth a w.ix = w.room fl a := ⟨(if_pos h).symm, (if_pos h).symm⟩
theorem Jk (h : w.more = false) : (nth fl w.ix).src = w.fin fl ∧ nth a w.ix - (nth fl w.ix).lo = w.room fl a := ⟨(if_neg (by rw [h]; decide)).symm, (if_neg (by rw [h]; decide)).symm⟩
structure mA (y : au) (fl : List cB) (a : List Int) : Prop where
  right : y.bt
  net : Net fl (y.cells + 1)
  bd : Bd fl
  inb : yR fl a
  rB : fl.length ≤ 34
theorem mA.Pt {y : au} (h : mA y fl a) {i : Nat} (hi : i < fl.length) : (0 ≤ nth a i ∧ nth a i ≤ 300) ∧ (0 ≤ (nth fl i).lo ∧ (nth fl i).lo ≤ 300) ∧ 0 ≤ (nth fl i).hi ∧ (nth fl i).hi ≤ 300 := by
 have h1 := h.bd i hi
 have h2 := h.inb.2 i hi
 omega
theorem Ql {l : List Way} {k : Nat} {d : Int} (hk : k < l.length) (hm : (nth l k).more = true) : (dz a (l.take k) d).set (nth l k).ix (nth (dz a (l.take k) d) (nth l k).ix + d) = dz a (l.take (k + 1)) d := by
 rw [cQ hk, r6]; unfold lI yO; rw [hm]; rfl
theorem QV {l : List Way} {k : Nat} {d : Int} (hk : k < l.length) (hm : (nth l k).more = false) : (dz a (l.take k) d).set (nth l k).ix (nth (dz a (l.take k) d) (nth l k).ix - d) = dz a (l.take (k + 1)) d := by
 rw [cQ hk, r6]; unfold lI yO; rw [hm]; rfl
theorem AB {l : List Way} {d : Int} (hd : 0 ≤ d ∧ d ≤ 20000) (ha : ∀ i, -300 ≤ nth a i ∧ nth a i ≤ 300) (hw : ∀ w ∈ l, w.ix < a.length) : ∀ k, k ≤ l.length → ∀ i, -(20000 * ((k : Int) + 1)) ≤ nth (dz a (l.take k) d) i ∧ nth (dz a (l.take k) d) i ≤ 20000 * ((k : Int) + 1)
  | 0, _, i => by rw [List.take_zero]; have := ha i; show _ ≤ nth a i ∧ nth a i ≤ _; omega
  | k + 1, hk, i => by
    have ih := AB hd ha hw k (by omega) i
    rw [cQ (by omega), r6, kB (by rw [tU]; exact hw _ (cX (by omega)))]
    split
    · unfold yO; split <;> omega
    · omega
theorem Dt (a : List Int) (l : List Way) (d : Int) : a = dz a (l.take 0) d := rfl
theorem MP {l : List Int} {i : Nat} (h : l.length ≤ i) : nth l i = 0 := by
 unfold nth; rw [List.getD_eq_getElem?_getD, List.getElem?_eq_none h]; rfl
theorem mA.abs {y : au} (h : mA y fl a) (i : Nat) : -300 ≤ nth a i ∧ nth a i ≤ 300 := by
 by_cases c : i < fl.length
 ·have := (h.Pt c).1; omega
 rw [MP (by rw [h.inb.1]; omega)]; omega
end
theorem oI : mapOf Tryz.prog 227 = some (3, 222) := by kernel_rfl
theorem vc : zeroOf Tryz.prog 222 = some (.slice none 0 0) := by kernel_rfl
def KI : yf Tryz.prog 3 Int := P5 Tryz.prog 3 .i64 Tryz.underlying3
theorem vZ (n : Int) : vP (Ty.int .i64 n) (KI.enc n) := MW
attribute [local irreducible] aR gz Way.iA Way.fin Way.room eR nI IE dz ef pM
attribute [local irreducible] gL eX lN nh gy g6 gu gw gx nj gr ni dN fX nH fu nZ nth fP dQ bA dJ bodyPost Exit.then Exit.inBlock Code.wp Code.wpIn nW g7 nY nV g8 eP cL cM bodyPostM dR
set_option maxRecDepth 100000 in
theorem BI (y : au) (fl : List cB) (a : List Int) (w : Way) (hw : w.ix < fl.length) : dJ Tryz.prog 181 [Ty.pp (mR y fl a), Ty.agg (gI.tys w)] (Ty.int .i64 (w.iA fl)) := by
 refine ak Tryz.func181 rfl (by decide) Tryz.ntmps181 (by exact Nat.le_of_ble_eq_true rfl) fun w0 M0 => ?_
 refine aE (aA (bD rfl (bZ rfl (aD (aC (aE (aE (aA ?_))))))))
 refine aL rfl rfl rfl rfl rfl (by decide) ?_
 refine aJ rfl rfl rfl rfl (aD (aC ?_))
 refine cH rfl (fun hc1 => ?_) (fun hc1 => ?_)
 ·
  refine aE (cP mixed rfl (jv rfl (cA rfl ?_)))
  refine aL rfl rfl rfl rfl rfl (by decide) ?_
  refine aJ rfl rfl rfl rfl ?_
  refine aL rfl rfl rfl rfl rfl (by decide) ?_
  refine aJ rfl rfl rfl rfl ?_
  refine aq rfl rfl rfl rfl rfl rfl (by omega) ?_
  refine aL rfl rfl rfl rfl rfl (by decide) ?_
  refine aJ rfl rfl rfl rfl (bZ rfl (aD ?_))
  refine ⟨by kernel_rfl, ?_⟩
  refine aC (az (aQ (bR rfl rfl ?_)))
  all_goals skip
  all_goals exact av rfl rfl (congrArg (Ty.int .i64) (Mr hc1))
 refine aj (aC (aE (cP mixed rfl (jv rfl (cA rfl ?_)))))
 refine aL rfl rfl rfl rfl rfl (by decide) ?_
 refine aJ rfl rfl rfl rfl ?_
 refine aL rfl rfl rfl rfl rfl (by decide) ?_
 refine aJ rfl rfl rfl rfl ?_
 refine aq rfl rfl rfl rfl rfl rfl (by omega) ?_
 refine aL rfl rfl rfl rfl rfl (by decide) ?_
 refine aJ rfl rfl rfl rfl (bZ rfl (aD ?_))
 refine ⟨by kernel_rfl, ?_⟩
 refine aC (az (bR rfl rfl ?_))
 all_goals skip
 all_goals exact av rfl rfl (congrArg (Ty.int .i64) (PK hc1))
set_option maxRecDepth 100000 in
theorem GI (y : au) (fl : List cB) (a : List Int) (h : mA y fl a) (w : Way) (hw : w.ix < fl.length) : dJ Tryz.prog 182 [Ty.pp (mR y fl a), Ty.agg (gI.tys w)] (Ty.j8 [Ty.int .i64 (w.fin fl), Ty.int .i64 (w.room fl a)]) := by
 refine ak Tryz.func182 rfl (by decide) Tryz.ntmps182 (by exact Nat.le_of_ble_eq_true rfl) fun w0 M0 => ?_
 have hl := h.inb.1
 have hb := h.Pt hw
 refine aE (aA (bD rfl (bZ rfl (bZ rfl (aD (aC (aE (cP mixed rfl (jv rfl ?_)))))))))
 refine cA rfl ?_
 refine aL rfl rfl rfl rfl rfl (by decide) ?_
 refine aJ rfl rfl rfl rfl ?_
 refine aL rfl rfl rfl rfl rfl (by decide) ?_
 refine aJ rfl rfl rfl rfl ?_
 refine aq rfl rfl rfl rfl rfl rfl (by omega) ?_
 refine aX rfl rfl rfl (by exact Nat.le_of_ble_eq_true rfl) ?_
 refine bu rfl (by exact List.cons_ne_nil _ _) rfl ?_
 refine bh rfl rfl (by decide) rfl rfl rfl rfl rfl rfl ?_
 refine aD ?_
 refine ⟨by kernel_rfl, ?_⟩
 refine aC (aE (aE (aA ?_)))
 refine aL rfl rfl rfl rfl rfl (by decide) ?_
 refine aJ rfl rfl rfl rfl (aD (aC ?_))
 refine cH rfl (fun hc1 => ?_) (fun hc1 => ?_)
 ·
  refine aE (cP mixed rfl ?_)
  refine aS rfl rfl rfl rfl rfl (by decide) ?_
  refine aZ rfl rfl (by decide) rfl rfl rfl ?_
  refine aS rfl rfl rfl rfl rfl (by decide) ?_
  refine aZ rfl rfl (by decide) rfl rfl rfl ?_
  refine jv rfl (cA rfl ?_)
  refine aL rfl rfl rfl rfl rfl (by decide) ?_
  refine aJ rfl rfl rfl rfl ?_
  refine aL rfl rfl rfl rfl rfl (by decide) ?_
  refine aJ rfl rfl rfl rfl ?_
  refine aq rfl rfl rfl rfl rfl rfl (by omega) ?_
  refine aJ rfl rfl rfl rfl ?_
  refine gH rfl rfl (by omega) (by omega) ?_
  refine bZ rfl (bZ rfl (aD ?_))
  refine ⟨by kernel_rfl, ?_⟩
  refine aC (az (aQ ?_))
  refine fG rfl rfl rfl ?_ ?_
  all_goals skip
  all_goals first | exact av rfl rfl (congrArg (Ty.int .i64) (F4 (a := a) hc1).1) | exact av rfl rfl (congrArg (Ty.int .i64) (F4 (a := a) hc1).2)
 refine aj (aC (aE (cP mixed rfl ?_)))
 refine aS rfl rfl rfl rfl rfl (by decide) ?_
 refine aZ rfl rfl (by decide) rfl rfl rfl ?_
 refine jv rfl (cA rfl ?_)
 refine aL rfl rfl rfl rfl rfl (by decide) ?_
 refine aJ rfl rfl rfl rfl ?_
 refine aL rfl rfl rfl rfl rfl (by decide) ?_
 refine aJ rfl rfl rfl rfl ?_
 refine aq rfl rfl rfl rfl rfl rfl (by omega) ?_
 refine aJ rfl rfl rfl rfl ?_
 refine aS rfl rfl rfl rfl rfl (by decide) ?_
 refine aZ rfl rfl (by decide) rfl rfl rfl ?_
 refine gH rfl rfl (by omega) (by omega) ?_
 refine bZ rfl (bZ rfl (aD ?_))
 refine ⟨by kernel_rfl, ?_⟩
 refine aC (az ?_)
 refine fG rfl rfl rfl ?_ ?_
 all_goals skip
 all_goals first | exact av rfl rfl (congrArg (Ty.int .i64) (Jk (a := a) hc1).1) | exact av rfl rfl (congrArg (Ty.int .i64) (Jk (a := a) hc1).2)
set_option maxRecDepth 100000 in
theorem Kn (y : au) (fl : List cB) (a : List Int) (h : mA y fl a) (l : List Way) (hl : l.length ≤ 100) (hw : ∀ w ∈ l, w.ix < fl.length) (d : Int) (hd : 0 ≤ d ∧ d ≤ 20000) : eP Tryz.prog 183 [1000] [(1000, Cont.vec cT 3 a)] [Ty.pp (eI y fl 1000 fl.length), Ty.sl gI l, Ty.int .i64 d] [(1000, Cont.vec cT 3 (dz a l d))] (Ty.j8 []) := by
 refine fS Tryz.func183 rfl (by decide) Tryz.ntmps183 (by exact Nat.le_of_ble_eq_true rfl) fun w0 M0 => ?_
 have hal := h.inb.1
 refine aE (aA (eA rfl (cD rfl rfl rfl (bF rfl (aD (aC (aY ?_)))))))
 refine b9 (fun (k : {k : Nat // k ≤ l.length}) => live [(0, Ty.pp (eI y fl 1000 fl.length)), (2, Ty.int .i64 d), (8, Ty.sl gI l), (9, Ty.int .i64 l.length), (10, Ty.int .i64 (k.1 : Nat))] [(1000, Cont.vec cT 3 (dz a (l.take k.1) d))]) (fun k => l.length - k.1) (⟨0, by omega⟩) ?_ fun k => ?_
 ·(refine cg.mk' ?_ ?_ <;> (repeat' (first | exact aI | exact aH | refine aB ?_ (Ty.aT _) | refine aB ?_ (Ty.aF _) | refine aG rfl ?_ ?_)))
  all_goals exact Cont.cy (Dt _ _ _)
 have hsl := tU d (l.take k.1) a
 have hk := k.2
 have hsa := AB hd h.abs (fun w hw' => by rw [hal]; exact hw w hw') k.1 k.2
 refine aE (aA (bB rfl rfl rfl (aD (aC (aE ?_)))))
 refine ah rfl (fun hc1 => ?_) (fun hc1 => ?_)
 ·
  refine aj (aC (aE (aY (aE ?_))))
  have hwk := hw _ (cX (xs := l) (k := k.1) (by omega))
  have hsk := hsa (nth l k.1).ix
  refine aA ?_
  refine aq rfl rfl rfl rfl rfl rfl (by omega) ?_
  refine aX rfl rfl rfl (by exact Nat.le_of_ble_eq_true rfl) ?_
  refine bu rfl (by exact List.cons_ne_nil _ _) rfl ?_
  refine bh rfl rfl (by decide) rfl rfl rfl rfl rfl rfl ?_
  refine aD (aC (aE (aA ?_)))
  refine aS rfl rfl rfl rfl rfl (by decide) ?_
  refine aZ rfl rfl (by decide) rfl rfl rfl ?_
  refine aD (aC ?_)
  refine cH rfl (fun hc2 => ?_) (fun hc2 => ?_)
  ·
   refine cP mixed rfl (jv rfl (cA rfl ?_))
   refine aL rfl rfl rfl rfl rfl (by decide) ?_
   refine aJ rfl rfl rfl rfl ?_
   refine aS rfl rfl rfl rfl rfl (by decide) ?_
   refine aZ rfl rfl (by decide) rfl rfl rfl ?_
   refine dP rfl rfl rfl rfl rfl (by omega) ?_
   refine fA rfl rfl rfl (by decide) rfl rfl (by omega) rfl ?_
   refine bF rfl ?_
   refine bq rfl rfl (by omega) (by omega) ?_
   refine dP rfl rfl rfl rfl rfl (by omega) ?_
   refine jj rfl rfl rfl (by decide) rfl rfl (by exact (rfl : _ = Ty.int _ _)) rfl (by omega) (by decide) rfl rfl ?_
   refine aD ?_
   refine ⟨by kernel_rfl, ?_⟩
   refine bI (aC (aA ?_))
   refine bq rfl rfl (by omega) (by omega) ?_
   refine bF rfl (aD ?_)
   refine bM (⟨k.1 + 1, by omega⟩) ?_ (by show l.length - (k.1 + 1) < l.length - k.1; omega)
   (refine cg.mk' ?_ ?_ <;> (repeat' (first | exact aI | exact aH | refine aB ?_ (Ty.aT _) | refine aB ?_ (Ty.aF _) | refine aG rfl ?_ ?_)))
   all_goals skip
   all_goals exact Cont.cy (Ql (by omega) hc2)
  refine cP mixed rfl (jv rfl (cA rfl ?_))
  refine aL rfl rfl rfl rfl rfl (by decide) ?_
  refine aJ rfl rfl rfl rfl ?_
  refine aS rfl rfl rfl rfl rfl (by decide) ?_
  refine aZ rfl rfl (by decide) rfl rfl rfl ?_
  refine dP rfl rfl rfl rfl rfl (by omega) ?_
  refine fA rfl rfl rfl (by decide) rfl rfl (by omega) rfl ?_
  refine bF rfl ?_
  refine gH rfl rfl (by omega) (by omega) ?_
  refine dP rfl rfl rfl rfl rfl (by omega) ?_
  refine jj rfl rfl rfl (by decide) rfl rfl (by exact (rfl : _ = Ty.int _ _)) rfl (by omega) (by decide) rfl rfl ?_
  refine aD ?_
  refine ⟨by kernel_rfl, ?_⟩
  refine bI (aC (aA ?_))
  refine bq rfl rfl (by omega) (by omega) ?_
  refine bF rfl (aD ?_)
  refine bM (⟨k.1 + 1, by omega⟩) ?_ (by show l.length - (k.1 + 1) < l.length - k.1; omega)
  (refine cg.mk' ?_ ?_ <;> (repeat' (first | exact aI | exact aH | refine aB ?_ (Ty.aT _) | refine aB ?_ (Ty.aF _) | refine aG rfl ?_ ?_)))
  all_goals skip
  all_goals exact Cont.cy (QV (by omega) hc2)
 refine bz (aP (aP (aa rfl (N3 ?_))))
 refine JM [1000] rfl (by decide) ?_
 ·exact eG rfl (bp (by decide) (by rw [List.take_of_length_le (by have := k.2; omega)])) gS
set_option maxRecDepth 100000 in
theorem Pf (y : au) (fl : List cB) (a : List Int) (h : mA y fl a) : eP Tryz.prog 178 [1000] [(1000, Cont.vec cT 3 a)] [Ty.pp (eI y fl 1000 fl.length)] [(1000, Cont.vec cT 3 a)] (Ty.sl cT (gW fl a (y.cells + 1))) := by
 refine fS Tryz.func178 rfl (by decide) Tryz.ntmps178 (by exact Nat.le_of_ble_eq_true rfl) fun w0 M0 => ?_
 have hal := h.inb.1
 have hcl := nQ h.right
 have hfl := h.rB
 refine aE (aA (lE rfl (aD (aC (aE (aA (jv rfl ?_)))))))
 refine eM [] (sM y h.right) rfl (aW (nR (l1 := bE y) (l2 := [Ty.sl dn fl, Ty.vs 1000 fl.length]) rfl rfl) cR) (by exact dc _ _) ?_
 refine bq rfl rfl (by omega) (by omega) ?_
 refine qo (E := cT) (x0 := 0) rfl rfl rfl rfl rfl rfl rfl (by decide) rfl (by omega) (by (dsimp only; omega)) (by omega) ?_
 refine Ro rfl (aD (aC (aE (aE (aA (jv rfl (cA rfl ?_)))))))
 refine aL rfl rfl rfl rfl rfl (by decide) ?_
 refine aJ rfl rfl rfl rfl (cD rfl rfl rfl (bF rfl (aD (aC (aY ?_)))))
 refine b9 (fun (k : {k : Nat // k ≤ fl.length}) => live [(0, Ty.pp (eI y fl 1000 fl.length)), (3, Ty.vs 10 (y.cells + 1)), (13, Ty.sl dn fl), (14, Ty.int .i64 fl.length), (15, Ty.int .i64 (k.1 : Nat))] [(1000, Cont.vec cT 3 a), (10, Cont.vec cT 3 (ef fl a (y.cells + 1) k.1))]) (fun k => fl.length - k.1) (⟨0, by omega⟩) ?_ fun k => ?_
 ·(refine cg.mk' ?_ ?_ <;> (repeat' (first | exact aI | exact aH | refine aB ?_ (Ty.aT _) | refine aB ?_ (Ty.aF _) | refine aG rfl (Cont.aF _) ?_ | refine aG rfl ?_ ?_)))
  all_goals exact Cont.cy (Ga _ _ _)
 have hk := k.2
 have hul := j9 (fl := fl) (a := a) (n := y.cells + 1) (k := k.1)
 refine aE (aA (bB rfl rfl rfl (aD (aC (aE ?_)))))
 refine ah rfl (fun hc1 => ?_) (fun hc1 => ?_)
 ·
  refine aj (aC (aE (aY (aE (aA (bF rfl ?_))))))
  refine aq rfl rfl rfl rfl rfl rfl (by omega) ?_
  refine aX rfl rfl rfl (by exact Nat.le_of_ble_eq_true rfl) ?_
  refine bu rfl (by exact List.cons_ne_nil _ _) rfl ?_
  refine bZ rfl ?_
  refine bh rfl rfl (by decide) rfl rfl rfl rfl rfl rfl ?_
  refine aD (aC (aE ?_))
  have hs := h.net.src k.1 (by omega)
  have hd := h.net.dst k.1 (by omega)
  have hamt := (h.Pt (show k.1 < fl.length by omega)).1
  have habs := fun c => AP (fl := fl) (a := a) (c := c) (k := k.1) fun i hi => (h.Pt (show i < fl.length by omega)).1
  have hn1 := jL (fl := fl) (a := a) (n := y.cells + 1) (k := k.1) (c := (nth fl k.1).src.toNat) (by omega)
  have hb1 := habs ((nth fl k.1).src.toNat : Nat)
  refine cP mixed rfl (L4 rfl ?_)
  refine aS rfl rfl rfl rfl rfl (by decide) ?_
  refine aZ rfl rfl (by decide) rfl rfl rfl ?_
  refine gO rfl rfl rfl rfl rfl hs.1 (by omega) ?_
  refine fA rfl rfl rfl (by decide) rfl rfl (by omega) rfl ?_
  refine jv rfl (cA rfl ?_)
  refine aL rfl rfl rfl rfl rfl (by decide) ?_
  refine aJ rfl rfl rfl rfl (bF rfl ?_)
  refine dP rfl rfl rfl rfl rfl (by omega) ?_
  refine fA rfl rfl rfl (by decide) rfl rfl (by omega) rfl ?_
  refine gH rfl rfl (by omega) (by omega) ?_
  refine gO rfl rfl rfl rfl rfl hs.1 (by omega) ?_
  refine jj rfl rfl rfl (by decide) rfl rfl (by exact (rfl : _ = Ty.int _ _)) rfl (by omega) (by decide) rfl rfl ?_
  refine aD ?_
  refine ⟨by kernel_rfl, ?_⟩
  refine aC ?_
  have hsl : (oX fl a (ef fl a (y.cells + 1) k.1) k.1).length = y.cells + 1 := (HN _ _ _ _).trans hul
  have hb2 := Gw (fl := fl) (a := a) (n := y.cells + 1) (k := k.1) (c := (nth fl k.1).dst.toNat) habs hamt (by omega) (by omega)
  unfold oX at hb2 hsl
  refine cP mixed rfl (L4 rfl ?_)
  refine aS rfl rfl rfl rfl rfl (by decide) ?_
  refine aZ rfl rfl (by decide) rfl rfl rfl ?_
  refine gO rfl rfl rfl rfl rfl hd.1 (by omega) ?_
  refine fA rfl rfl rfl (by decide) rfl rfl (by omega) rfl ?_
  refine jv rfl (cA rfl ?_)
  refine aL rfl rfl rfl rfl rfl (by decide) ?_
  refine aJ rfl rfl rfl rfl (bF rfl ?_)
  refine dP rfl rfl rfl rfl rfl (by omega) ?_
  refine fA rfl rfl rfl (by decide) rfl rfl (by omega) rfl ?_
  refine bq rfl rfl (by omega) (by omega) ?_
  refine gO rfl rfl rfl rfl rfl hd.1 (by omega) ?_
  refine jj rfl rfl rfl (by decide) rfl rfl (by exact (rfl : _ = Ty.int _ _)) rfl (by omega) (by decide) rfl rfl ?_
  refine aD ?_
  refine ⟨by kernel_rfl, ?_⟩
  refine bI (aC (aA ?_))
  refine bq rfl rfl (by omega) (by omega) ?_
  refine bF rfl (aD ?_)
  refine bM (⟨k.1 + 1, by omega⟩) ?_ (by show fl.length - (k.1 + 1) < fl.length - k.1; omega)
  (refine cg.mk' ?_ ?_ <;> (repeat' (first | exact aI | exact aH | refine aB ?_ (Ty.aT _) | refine aB ?_ (Ty.aF _) | refine aG rfl (Cont.aF _) ?_ | refine aG rfl ?_ ?_)))
  all_goals skip
  all_goals exact Cont.cy (CV hs hd)
 refine bz (aP (aP (aa rfl (aC (aE ?_)))))
 refine k8 (tg := 10) [(3, Ty.sl cT (ef fl a (y.cells + 1) k.1))] (by decide) rfl ⟨P6 rfl rfl hul (by decide), trivial⟩ ?_
 refine iC (s := 3) rfl (Ty.j7 (show ef fl a (y.cells + 1) k.1 = gW fl a (y.cells + 1) by rw [show k.1 = fl.length by have := k.2; omega]; exact D5)) ?_
 refine aA (eA rfl (va rfl (aD (aC (az ?_)))))
 refine iq [1000] rfl rfl (by decide) (by repeat (first | exact gS | refine eG rfl (bp (by decide) rfl) ?_)) ?_
 all_goals exact iR (aU rfl rfl)
end Go.Proofs.YtelbollidfdcjaaGreat
namespace Go.Proofs.YtelbollidfdcjaaGreat
open Go Go.T
section
variable {fl : List cB} {a : List Int} {n : Nat} {s t : Int} {x : rJ}
def eD (x : rJ) : Int := nth x.queue 0
def jy (x : rJ) : rJ := ⟨x.by_, x.queue.drop 1⟩
theorem queue_eq (h : 0 < x.queue.length) : x.queue = eD x :: x.queue.drop 1 := by
  unfold eD
  cases hq : x.queue with
  | nil => rw [hq] at h; exact absurd h (by simp)
  | cons c r => rfl
structure Nr (fl : List cB) (a : List Int) (n : Nat) (s : Int) (x : rJ) : Prop where
  inv : lZ fl a n s x none
  same : nK (wI fl a s) x = cO fl a s
  short : x.queue.length ≤ x.by_.length + 1
theorem Rr (hs : 0 ≤ s ∧ s < n) : Nr fl a n s ⟨[], [s]⟩ := ⟨N9 hs, rfl, Nat.le_refl _⟩
theorem Ls (h : 0 < x.queue.length) : wI fl a s x = .inl (fI fl a s (eD x) (jy x) (bO fl a (eD x)).length) := by
 have e := queue_eq h
 unfold wI
 rw [e]; rfl
theorem Nr.fold (hN : Net fl n) (h : Nr fl a n s x) (hq : 0 < x.queue.length) {k : Nat} (hk : k ≤ (bO fl a (eD x)).length) :
 (fI fl a s (eD x) (jy x) k).queue.length ≤ n ∧ (fI fl a s (eD x) (jy x) k).by_.length ≤ n ∧ (fI fl a s (eD x) (jy x) k).queue.length ≤ (fI fl a s (eD x) (jy x) k).by_.length := by
 have h1 := (h.inv.pop (queue_eq hq)).fold hN k hk
 have h2 := h1.rB
 have h3 := xC (fl := fl) (a := a) (s := s) (c := eD x) (x := jy x) k hk
 have h4 := h.short
 have e1 : (jy x).queue.length + 1 = x.queue.length := by show (x.queue.drop 1).length + 1 = _; rw [List.length_drop]; omega
 have e2 : (jy x).by_ = x.by_ := rfl
 rw [e2] at h3
 change (fI fl a s (eD x) (jy x) k).by_.length ≤ n at h2
 omega
theorem Nr.next (hN : Net fl n) (h : Nr fl a n s x) (hq : 0 < x.queue.length) : Nr fl a n s (fI fl a s (eD x) (jy x) (bO fl a (eD x)).length) ∧ O3 n (fI fl a s (eD x) (jy x) (bO fl a (eD x)).length) < O3 n x := by
 obtain ⟨h1, h2⟩ := xk hN h.inv (queue_eq hq)
 exact ⟨⟨h1, by rw [← iI (Ls hq)]; exact h.same, by have := (h.fold hN hq (Nat.le_refl _)).2.2; omega⟩, h2⟩
theorem Nr.end (h : Nr fl a n s x) (hq : ¬ 0 < x.queue.length) : x.by_ = cO fl a s := by
 rw [← h.same]
 refine (iY ?_).symm
 unfold wI
 rw [List.length_eq_zero_iff.1 (show x.queue.length = 0 by omega)]
theorem zn {c : Int} {z : rJ} {k : Nat} (hk : k < (bO fl a c).length) (h : vW fl s (fI fl a s c z k).by_ (nth (bO fl a c) k) = true) :
 iE (fI fl a s c z k).by_ ((nth (bO fl a c) k).fin fl) (nth (bO fl a c) k) = (fI fl a s c z (k + 1)).by_ ∧ (fI fl a s c z k).queue ++ [(nth (bO fl a c) k).fin fl] = (fI fl a s c z (k + 1)).queue := by
 rw [oC hk, uP h]; exact ⟨rfl, rfl⟩
theorem DR {c : Int} {z : rJ} {k : Nat} (hk : k < (bO fl a c).length) (h : vW fl s (fI fl a s c z k).by_ (nth (bO fl a c) k) = false) :
 (fI fl a s c z k).by_ = (fI fl a s c z (k + 1)).by_ ∧ (fI fl a s c z k).queue = (fI fl a s c z (k + 1)).queue := by
 rw [oC hk, wz h]; exact ⟨rfl, rfl⟩
theorem wC {c : Int} {z : rJ} : fI fl a s c z 0 = z := rfl
structure J4 (fl : List cB) (n : Nat) (a0 a : List Int) : Prop where
  inb : yR fl a
  same : nK (Fa fl n) a = gP fl n a0
theorem J4.done {a0 : List Int} (h : J4 fl n a0 a) (e : dY fl a n < 0) : gP fl n a0 = (0, false, a) := by
 rw [← h.same]; exact iY (if_pos e)
theorem J4.stuck {a0 : List Int} (h : J4 fl n a0 a) (e : ¬ dY fl a n < 0) (e2 : eT fl a n (cO fl a (dY fl a n)) < 0) : gP fl n a0 = (dY fl a n, true, a) := by
 rw [← h.same]; exact iY ((if_neg e).trans (if_pos e2))
theorem J4.next {a0 : List Int} (hN : Net fl n) (h : J4 fl n a0 a) (e : ¬ dY fl a n < 0) (e2 : ¬ eT fl a n (cO fl a (dY fl a n)) < 0) :
 J4 fl n a0 (j0 fl a (dY fl a n) (eT fl a n (cO fl a (dY fl a n)))) ∧ QF fl a n (dY fl a n) (eT fl a n (cO fl a (dY fl a n))) := by
 obtain ⟨s, s1, s2, s3⟩ := we e
 obtain ⟨t, t1, t2, t3, t4⟩ := uc e2
 rw [s2] at t2 t3 ⊢
 rw [t2]
 have hS := sent hN h.inb s1 t1 s3 t3 t4
 refine ⟨⟨hS.inb, ?_⟩, hS⟩
 rw [← h.same]
 refine (iI ?_).symm
 unfold Fa
 rw [if_neg e, s2, if_neg (by rw [t2]; omega), t2]
structure Mv (fl : List cB) (a : List Int) (q : List (Int × Way)) (s t : Int) (dep : Int → Nat) (x : Int × List Way) : Prop where
  inv : LR fl a q s t dep x
  same : nK (FF fl q s) x = hH fl q s t
theorem Rm {dep : Int → Nat} {q : List (Int × Way)} (ht : yP q s t) : Mv fl a q s t dep (t, []) :=
 ⟨⟨rfl, (fun w h => by cases h), (fun w h => by cases h), List.nodup_nil, ht, by simp⟩, rfl⟩
theorem EC {q : List (Int × Way)} {x : Int × List Way} (hx : x.1 = s) : FF fl q s x = .inr x.2 := if_pos hx
theorem Eg {q : List (Int × Way)} {x : Int × List Way} (hx : ¬ x.1 = s) : FF fl q s x = .inl ((jz q x.1).iA fl, x.2 ++ [jz q x.1]) := if_neg hx
theorem Mv.next {dep : Int → Nat} {q : List (Int × Way)} (hd : ∀ c w, e9 q c = some w → Open fl a w ∧ w.fin fl = c ∧ yP q s (w.iA fl) ∧ dep (w.iA fl) < dep c ∧ dep c ≤ q.length) {x : Int × List Way} (h : Mv fl a q s t dep x) (hx : ¬ x.1 = s) :
 Mv fl a q s t dep ((jz q x.1).iA fl, x.2 ++ [jz q x.1]) ∧ dep ((jz q x.1).iA fl) < dep x.1 ∧ Open fl a (jz q x.1) := by
 obtain ⟨h1, h2⟩ := h.inv.next hd hx
 refine ⟨⟨h1, ?_⟩, h2, h1.ways _ (List.mem_append.2 (.inr (List.mem_singleton.2 rfl)))⟩
 rw [← h.same]
 exact (iI (Eg hx)).symm
theorem Mv.end {dep : Int → Nat} {q : List (Int × Way)} {x : Int × List Way} (h : Mv fl a q s t dep x) (hx : x.1 = s) : x.2 = hH fl q s t := by
 rw [← h.same]; exact (iY (EC hx)).symm
theorem Mv.rB {dep : Int → Nat} {q : List (Int × Way)} {x : Int × List Way} (h : Mv fl a q s t dep x) : x.2.length ≤ dep t := by
 have := h.inv.rB; omega
end
end Go.Proofs.YtelbollidfdcjaaGreat
namespace Go.Proofs.YtelbollidfdcjaaGreat
open Go Go.T
set_option maxHeartbeats 8000000
def BM : VT Way := ⟨fun w => Ty.agg (gI.tys w), fun _ => ⟨rfl, rfl⟩⟩
theorem n6 : mapOf Tryz.prog 196 = some (3, 199) := by kernel_rfl
theorem sq : zeroOf Tryz.prog 199 = some (.agg #[.int .i64 0, .bool false]) := by kernel_rfl
theorem pS : ∀ w M, (BM.ty (default : Way)).den w M (.agg #[.int .i64 0, .bool false]) := fun _ _ => ⟨_, rfl, rfl, rfl, trivial⟩
theorem CT : ∀ w M, ((Ia gI).ty []).den w M (.slice none 0 0) := fun w M => Ty.yA w M _ rfl
section
variable {fl : List cB} {a : List Int} {s : Int} {q : List (Int × Way)} {w : Way}
theorem HC {q : WQ} {k : Nat} (h : nth a k < (nth fl k).hi) : iE q (nth fl k).src ((e9 q (nth fl k).src).getD [] ++ [⟨k, true⟩]) = nI fl a q k := (if_pos h).symm
theorem Gm {k : Nat} (h : nth a k > (nth fl k).lo) : iE (nI fl a (eR fl a k) k) (nth fl k).dst ((e9 (nI fl a (eR fl a k) k) (nth fl k).dst).getD [] ++ [⟨k, false⟩]) = eR fl a (k + 1) := (if_pos h).symm
theorem new_eq : (!(e9 q (w.fin fl)).isSome && !decide (w.fin fl = s)) = vW fl s q w := rfl
end
theorem NT {α : Type} {E : El α} {T J : Nat} {l l' : List α} (e : l = l') : (Ty.ff E T J l).Sub (Ty.ff E T J l') := Ty.sub_eq (congrArg (Ty.ff E T J) e)
attribute [local irreducible] aR gz Way.iA Way.fin Way.room eR nI IE dz ef pM bO fI cO vW eD
attribute [local irreducible] gL eX lN nh gy g6 gu gw gx nj gr ni dN fX nH fu nZ nth fP dQ bA dJ bodyPost Exit.then Exit.inBlock Code.wp Code.wpIn nW g7 nY nV g8 eP cL cM bodyPostM dR
set_option maxRecDepth 100000 in
theorem LY (y : au) (fl : List cB) (a : List Int) (h : mA y fl a) : eP Tryz.prog 184 [1000] [(1000, Cont.vec cT 3 a)] [Ty.pp (eI y fl 1000 fl.length)] [(1000, Cont.vec cT 3 a)] (Ty.pm KI.enc (Ia gI) (eR fl a fl.length)) := by
 refine fS Tryz.func184 rfl (by decide) Tryz.ntmps184 (by exact Nat.le_of_ble_eq_true rfl) fun w0 M0 => ?_
 have hal := h.inb.1
 have hfl := h.rB
 refine aE (aA (lE rfl (aD (aC (aE (aA (D6 KI.enc gI 199 6000 oI rfl (RX rfl (aD ?_)))))))))
 refine aC (aE (aE (aA (jv rfl (cA rfl ?_)))))
 refine aL rfl rfl rfl rfl rfl (by decide) ?_
 refine aJ rfl rfl rfl rfl (cD rfl rfl rfl (bF rfl (aD (aC (aY ?_)))))
 refine b9 (fun (k : {k : Nat // k ≤ fl.length}) => live [(0, Ty.pp (eI y fl 1000 fl.length)), (3, Ty.mp 7), (10, Ty.sl dn fl), (11, Ty.int .i64 fl.length), (12, Ty.int .i64 (k.1 : Nat))] [(1000, Cont.vec cT 3 a), (7, Cont.mr KI.enc gI 199 6000 (eR fl a k.1))]) (fun k => fl.length - k.1) (⟨0, by omega⟩) ?_ fun k => ?_
 ·(refine cg.mk' ?_ ?_ <;> (repeat' (first | exact aI | exact aH | refine aB ?_ (Ty.aT _) | refine aB ?_ (Ty.aF _) | refine aG rfl (Cont.aF _) ?_ | refine aG rfl ?_ ?_)))
  all_goals exact Cont.uD (GU fl a)
 have hk := k.2
 refine aE (aA (bB rfl rfl rfl (aD (aC (aE ?_)))))
 refine ah rfl (fun hc1 => ?_) (fun hc1 => ?_)
 ·
  refine aj (aC (aE (aY (aE (aA (bF rfl ?_))))))
  refine aq rfl rfl rfl rfl rfl rfl (by omega) ?_
  refine aX rfl rfl rfl (by exact Nat.le_of_ble_eq_true rfl) ?_
  refine bu rfl (by exact List.cons_ne_nil _ _) rfl ?_
  refine bZ rfl ?_
  refine bh rfl rfl (by decide) rfl rfl rfl rfl rfl rfl ?_
  refine aD (aC ?_)
  refine j4 (J := live [(0, Ty.pp (eI y fl 1000 fl.length)), (3, Ty.mp 7), (4, Ty.int .i64 (k.1 : Nat)), (5, Ty.ptr 6 0), (10, Ty.sl dn fl), (11, Ty.int .i64 fl.length), (12, Ty.int .i64 (k.1 : Nat))] [(1000, Cont.vec cT 3 a), (7, Cont.mr KI.enc gI 199 6000 (nI fl a (eR fl a k.1) k.1)), (6, Cont.cells 187 (dn.tys (nth fl k.1)))]) ?_ ?_
  ·
   refine aE (cP mixed rfl (jv rfl (cA rfl ?_)))
   refine aL rfl rfl rfl rfl rfl (by decide) ?_
   refine aJ rfl rfl rfl rfl (bF rfl ?_)
   refine dP rfl rfl rfl rfl rfl (by omega) ?_
   refine fA rfl rfl rfl (by decide) rfl rfl (by omega) rfl ?_
   refine aS rfl rfl rfl rfl rfl (by decide) ?_
   refine aZ rfl rfl (by decide) rfl rfl rfl ?_
   refine bB rfl rfl rfl (aD ?_)
   refine ⟨by kernel_rfl, ?_⟩
   refine aC ?_
   refine ah rfl (fun hc2 => ?_) (fun hc2 => ?_)
   ·
    have hq := fun c => y8 (fl := fl) (a := a) (c := c) k.1
    have hq1 := hq (nth fl k.1).src
    refine cP mixed rfl (Ig rfl ?_)
    refine aS rfl rfl rfl rfl rfl (by decide) ?_
    refine aZ rfl rfl (by decide) rfl rfl rfl ?_
    refine Ig rfl ?_
    refine aS rfl rfl rfl rfl rfl (by decide) ?_
    refine aZ rfl rfl (by decide) rfl rfl rfl ?_
    refine yp KI rfl rfl (by decide) rfl (vZ _) oI vc ?_
    refine bF rfl ?_
    refine dI rfl rfl (by exact List.cons_ne_nil _ _) rfl (by repeat (first | exact (aV.nil : aV _ _ [] _) | (show aV _ _ ((_, _) :: _) _; apply aV.one; (· first | exact (rfl : _ = Ty.int _ _) | exact (rfl : _ = Ty.bool _)); (· exact rfl)))) (by exact (rfl : _ = some [_, _])) ?_
    refine bW (E := gI) (xs := [⟨k.1, true⟩]) rfl rfl rfl rfl rfl (by decide) (by decide) (by repeat (first | exact (aV.nil : aV _ _ [] _) | (show aV _ _ ((_, _) :: _) _; apply aV.agg; (· exact (rfl : _ = Ty.agg _))))) (by exact rfl) rfl ?_
    refine zG rfl rfl rfl (by decide) (by decide) rfl (by show 0 < 1; decide) rfl rfl rfl rfl rfl (by decide) (by show (((e9 _ _).getD []).length + 1) * 16 ≤ _; unfold ot at hq1; omega) (by show ((e9 _ _).getD []).length + 1 ≤ _; unfold ot at hq1; omega) ?_
    refine AM KI rfl rfl (by decide) rfl (vZ _) rfl oI rfl ?_
    refine aD ?_
    refine ⟨by kernel_rfl, ?_⟩
    refine eW ?_
    (refine cg.mk' ?_ ?_ <;> (repeat' (first | exact aI | exact aH | refine aB ?_ (Ty.aT _) | refine aB ?_ (Ty.aF _) | refine aG rfl (Cont.aF _) ?_ | refine aG rfl ?_ ?_)))
    all_goals exact Cont.uD (HC hc2)
   refine aj (eW ?_)
   (refine cg.mk' ?_ ?_ <;> (repeat' (first | exact aI | exact aH | refine aB ?_ (Ty.aT _) | refine aB ?_ (Ty.aF _) | refine aG rfl (Cont.aF _) ?_ | refine aG rfl ?_ ?_)))
   all_goals exact Cont.uD (Lb hc2)
  refine aE (cP mixed rfl (jv rfl (cA rfl ?_)))
  refine aL rfl rfl rfl rfl rfl (by decide) ?_
  refine aJ rfl rfl rfl rfl (bF rfl ?_)
  refine dP rfl rfl rfl rfl rfl (by omega) ?_
  refine fA rfl rfl rfl (by decide) rfl rfl (by omega) rfl ?_
  refine aS rfl rfl rfl rfl rfl (by decide) ?_
  refine aZ rfl rfl (by decide) rfl rfl rfl ?_
  refine bB rfl rfl rfl (aD ?_)
  refine ⟨by kernel_rfl, ?_⟩
  refine aC ?_
  refine ah rfl (fun hc3 => ?_) (fun hc3 => ?_)
  ·
   have hq2 := Hq (fl := fl) (a := a) (c := (nth fl k.1).dst) (k := k.1)
   refine cP mixed rfl (Ig rfl ?_)
   refine aS rfl rfl rfl rfl rfl (by decide) ?_
   refine aZ rfl rfl (by decide) rfl rfl rfl ?_
   refine Ig rfl ?_
   refine aS rfl rfl rfl rfl rfl (by decide) ?_
   refine aZ rfl rfl (by decide) rfl rfl rfl ?_
   refine yp KI rfl rfl (by decide) rfl (vZ _) oI vc ?_
   refine bF rfl ?_
   refine dI rfl rfl (by exact List.cons_ne_nil _ _) rfl (by repeat (first | exact (aV.nil : aV _ _ [] _) | (show aV _ _ ((_, _) :: _) _; apply aV.one; (· first | exact (rfl : _ = Ty.int _ _) | exact (rfl : _ = Ty.bool _)); (· exact rfl)))) (by exact (rfl : _ = some [_, _])) ?_
   refine bW (E := gI) (xs := [⟨k.1, false⟩]) rfl rfl rfl rfl rfl (by decide) (by decide) (by repeat (first | exact (aV.nil : aV _ _ [] _) | (show aV _ _ ((_, _) :: _) _; apply aV.agg; (· exact (rfl : _ = Ty.agg _))))) (by exact rfl) rfl ?_
   refine zG rfl rfl rfl (by decide) (by decide) rfl (by show 0 < 1; decide) rfl rfl rfl rfl rfl (by decide) (by show (((e9 _ _).getD []).length + 1) * 16 ≤ _; unfold ot at hq2; omega) (by show ((e9 _ _).getD []).length + 1 ≤ _; unfold ot at hq2; omega) ?_
   refine AM KI rfl rfl (by decide) rfl (vZ _) rfl oI rfl ?_
   refine aD ?_
   refine ⟨by kernel_rfl, ?_⟩
   refine bI (aC (aA ?_))
   refine bq rfl rfl (by omega) (by omega) ?_
   refine bF rfl (aD ?_)
   refine bM (⟨k.1 + 1, by omega⟩) ?_ (by show fl.length - (k.1 + 1) < fl.length - k.1; omega)
   (refine cg.mk' ?_ ?_ <;> (repeat' (first | exact aI | exact aH | refine aB ?_ (Ty.aT _) | refine aB ?_ (Ty.aF _) | refine aG rfl (Cont.aF _) ?_ | refine aG rfl ?_ ?_)))
   all_goals skip
   all_goals exact Cont.uD (Gm hc3)
  refine aj (bI (aC (aA ?_)))
  refine bq rfl rfl (by omega) (by omega) ?_
  refine bF rfl (aD ?_)
  refine bM (⟨k.1 + 1, by omega⟩) ?_ (by show fl.length - (k.1 + 1) < fl.length - k.1; omega)
  (refine cg.mk' ?_ ?_ <;> (repeat' (first | exact aI | exact aH | refine aB ?_ (Ty.aT _) | refine aB ?_ (Ty.aF _) | refine aG rfl (Cont.aF _) ?_ | refine aG rfl ?_ ?_)))
  all_goals skip
  all_goals exact Cont.uD (KQ hc3)
 refine bz (aP (aP (aa rfl (aC (aE ?_)))))
 refine jk (tg := 7) rfl (Cont.uD (show eR fl a k.1 = eR fl a fl.length by rw [show k.1 = fl.length by have := k.2; omega])) ?_
 refine jI (tg := 6000) [] [(7, Cont.mp KI.enc (Ia gI) (eR fl a fl.length))] (by decide) rfl trivial ⟨Mf rfl rfl, trivial⟩ ?_
 refine k8 (tg := 7) [(3, Ty.pm KI.enc (Ia gI) (eR fl a fl.length))] (by decide) rfl ⟨Oc rfl rfl (by decide), trivial⟩ ?_
 refine aA (Ou rfl (Pj rfl (aD (aC (az ?_)))))
 refine iq [1000] rfl rfl (by decide) (by repeat (first | exact gS | refine eG rfl (bp (by decide) rfl) ?_)) ?_
 all_goals exact iR (aU rfl rfl)
set_option maxRecDepth 100000 in
theorem NS (y : au) (fl : List cB) (a : List Int) (h : mA y fl a) (s : Int) (hs : 0 ≤ s ∧ s < (y.cells + 1 : Nat)) : eP Tryz.prog 130 [1000] [(1000, Cont.vec cT 3 a)] [Ty.pp (eI y fl 1000 fl.length), Ty.int .i64 s] [(1000, Cont.vec cT 3 a), (16, Cont.mp KI.enc BM (cO fl a s))] (Ty.mp 16) := by
 refine fS Tryz.func130 rfl (by decide) Tryz.ntmps130 (by exact Nat.le_of_ble_eq_true rfl) fun w0 M0 => ?_
 have hal := h.inb.1
 have hN := h.net
 have hcl := nQ h.right
 refine aE (aA (lE rfl (aD (aC (aE (aA (IG KI.enc BM n6 rfl (RX rfl (aD ?_)))))))))
 refine aC (aE (aA (jv rfl ?_)))
 refine dL [(1000, 1000)] [] [(1000, Cont.vec cT 3 a)] (LY y fl a h) rfl rfl (aN bX (fJ (aN (aN (aN (aN (aN (aN bX (dg (by exact List.mem_cons_self))) (aU rfl rfl)) (aU rfl rfl)) (aU rfl rfl)) (aU rfl rfl)) (aU rfl rfl)))) (dA (a := 1000) (b := 1000) (by exact List.mem_cons_self) rfl (bp (by exact List.mem_cons_self) rfl) pre_nil) (bk (a := 1000) (b := 1000) (by exact List.mem_cons_self) rfl (bp (by exact List.mem_cons_self) rfl) post_nil) (aU rfl rfl) ?_
 refine Pj rfl (aD (aC (aE (aA (bF rfl ?_)))))
 refine DL (E := cT) (xs := [s]) rfl rfl rfl rfl rfl (by decide) (by decide) (by repeat (first | exact (aV.nil : aV _ _ [] _) | (show aV _ _ ((_, _) :: _) _; apply aV.one; (· exact (rfl : _ = Ty.int _ _)); (· exact rfl)))) (by exact rfl) rfl rfl ?_
 refine yW rfl (aD (aC (aE ?_)))
 refine O4 (s := 7) (J := 4100) (tg := 20) rfl rfl (by decide) (by decide) rfl ?_
 refine aY ?_
 refine b9 (fun (x : {x : rJ // Nr fl a (y.cells + 1) s x}) => live [(0, Ty.pp (eI y fl 1000 fl.length)), (1, Ty.int .i64 s), (5, Ty.mp 16), (6, Ty.pm KI.enc (Ia gI) (eR fl a fl.length)), (7, Ty.ff cT 3 4100 x.1.queue)] [(1000, Cont.vec cT 3 a), (16, Cont.mp KI.enc BM x.1.by_)]) (fun x => O3 (y.cells + 1) x.1) (⟨⟨[], [s]⟩, Rr hs⟩) ?_ fun x => ?_
 ·(refine cg.mk' ?_ ?_ <;> (repeat' (first | exact aI | exact aH | refine aB ?_ (Ty.aT _) | refine aB ?_ (Ty.aF _) | refine aG rfl (Cont.aF _) ?_)))
 refine aE (aE (aA ?_))
 refine eB (rfl : _ = Ty.ff _ _ _ _) ?_
 refine Pr rfl rfl rfl (bB rfl rfl rfl (aD (aC ?_)))
 refine ah rfl (fun hc1 => ?_) (fun hc1 => ?_)
 ·
  refine aj (aC (aY (aE ?_)))
  have hlen : 0 < x.1.queue.length := by omega
  refine aA ?_
  refine eB (rfl : _ = Ty.ff _ _ _ _) ?_
  refine K1 (i := 0) rfl rfl rfl rfl rfl rfl hlen ?_
  refine GZ rfl rfl rfl rfl (bZ rfl (aD (aC (aE (aA ?_)))))
  refine eB (rfl : _ = Ty.ff _ _ _ _) ?_
  refine PE (lo := 1) rfl rfl rfl rfl rfl rfl hlen hlen ?_
  refine gi (rfl : _ = Ty.ff _ _ _ _) ?_
  refine aD (aC (aE ?_))
  refine iC (s := 8) rfl (Ty.bN (show nth x.1.queue 0 = eD x.1 by unfold eD; rfl)) ?_
  refine aA (Ou rfl (bF rfl ?_))
  refine zC KI (z0 := []) rfl rfl (vZ _) oI vc CT ?_
  refine cD (E := gI) (xs := ot (eR fl a fl.length) (eD x.1)) rfl rfl rfl ?_
  refine bF rfl (aD (aC ?_))
  refine iC (s := 30) rfl (show (Ty.sl gI (ot (eR fl a fl.length) (eD x.1))).Sub (Ty.sl gI (bO fl a (eD x.1))) from Ty.j7 sX) ?_
  refine iC (s := 31) rfl (Ty.bN (congrArg (fun l : List Way => ((l.length : Nat) : Int)) (sX (c := eD x.1)))) ?_
  refine aY ?_
  refine b9 (fun (j : {j : Nat // j ≤ (bO fl a (eD x.1)).length}) => live [(0, Ty.pp (eI y fl 1000 fl.length)), (1, Ty.int .i64 s), (5, Ty.mp 16), (6, Ty.pm KI.enc (Ia gI) (eR fl a fl.length)), (7, Ty.ff cT 3 4100 (fI fl a s (eD x.1) (jy x.1) j.1).queue), (8, Ty.int .i64 (eD x.1)), (30, Ty.sl gI (bO fl a (eD x.1))), (31, Ty.int .i64 (bO fl a (eD x.1)).length), (32, Ty.int .i64 (j.1 : Nat))] [(1000, Cont.vec cT 3 a), (16, Cont.mp KI.enc BM (fI fl a s (eD x.1) (jy x.1) j.1).by_)]) (fun j => (bO fl a (eD x.1)).length - j.1) (⟨0, by omega⟩) ?_ fun j => ?_
  ·(refine cg.mk' ?_ ?_ <;> (repeat' (first | exact aI | exact aH | refine aB ?_ (Ty.aT _) | refine aB ?_ (Ty.aF _) | refine aG rfl (Cont.aF _) ?_ | refine aG rfl ?_ ?_ | refine aB ?_ ?_)))
   all_goals first | exact NT (congrArg rJ.queue (wC (fl := fl) (a := a) (s := s) (c := eD x.1) (z := jy x.1)).symm) | exact Cont.wo (show x.1.by_ = (fI fl a s (eD x.1) (jy x.1) 0).by_ by rw [wC]; rfl)
  have hj := j.2
  have hwl := ox (fl := fl) (a := a) (c := eD x.1)
  have hfl := h.rB
  have hff := x.2.fold hN hlen hj
  refine aE (aA (bB rfl rfl rfl (aD (aC (aE ?_)))))
  refine ah rfl (fun hc2 => ?_) (fun hc2 => ?_)
  ·
   refine aj (aC (aE (aY (aE (aA ?_)))))
   refine aq rfl rfl rfl rfl rfl rfl (by omega) ?_
   refine aX rfl rfl rfl (by exact Nat.le_of_ble_eq_true rfl) ?_
   refine bu rfl (by exact List.cons_ne_nil _ _) rfl ?_
   refine bh rfl rfl (by decide) rfl rfl rfl rfl rfl rfl ?_
   refine aD (aC (aE ?_))
   have hwj := (mm.1 (cX (xs := bO fl a (eD x.1)) (k := j.1) (by omega))).1
   refine aA (jv rfl ?_)
   refine bg rfl rfl (by decide) rfl rfl (by exact Nat.le_of_ble_eq_true rfl) ?_
   refine eM [1000] (GI y fl a h (nth (bO fl a (eD x.1)) j.1) hwj.1) rfl (aW (kj (aW (bU (bV rfl rfl)) (aW (bU (bV rfl rfl)) (aW (bU (bV rfl rfl)) (aW (bU (bV rfl rfl)) (aW (bU (bV rfl rfl)) (aW (jr rfl hal (by decide) rfl) cR))))))) (aW (bU (bV rfl rfl)) cR)) (by exact qY (by repeat (first | exact qU | refine oB (by exact dc _ _) ?_))) ?_
   refine sU rfl (bQ rfl rfl (bQ rfl rfl (bZ rfl (bZ rfl (aD (aC (aE (aA (Ig rfl ?_)))))))))
   refine bF rfl ?_
   refine AQ KI (k := (nth (bO fl a (eD x.1)) j.1).fin fl) (z0 := (default : Way)) rfl rfl (by decide) rfl (vZ _) n6 sq pS ?_
   refine sU rfl (bQ rfl rfl (bQ rfl rfl ?_))
   refine bu rfl (by exact List.cons_ne_nil _ _) rfl ?_
   refine bh rfl rfl (by decide) rfl rfl rfl rfl rfl rfl ?_
   refine cm rfl (aD (aC (aE (aA (eO rfl (dm rfl (eO rfl ?_)))))))
   apply aM (s := 50) rfl rfl rfl
   ·intro hg; apply aO; (refine bF rfl ?_); refine aD ?_; exact rfl
   ·exact rfl
   ·exact rfl
   apply aM (s := 50) rfl rfl rfl
   ·intro hg; apply aO; (refine bF rfl ?_); refine aD ?_; exact rfl
   ·exact rfl
   ·exact rfl
   apply aM (s := 50) rfl rfl rfl
   ·intro hg; apply aK (s := 51) rfl (by (rw [hg]; rfl)); apply aK (s := 52) rfl (by (rw [hg]; rfl)); apply aO; (refine bB rfl rfl rfl ?_); refine aD ?_; exact rfl
   ·exact rfl
   ·exact rfl
   refine dV rfl rfl (aD (aC ?_))
   refine cH rfl (fun hc3 => ?_) (fun hc3 => ?_)
   ·
    refine aE (aA (Ig rfl (bF rfl ?_)))
    refine bg rfl rfl (by decide) rfl rfl (by exact Nat.le_of_ble_eq_true rfl) ?_
    refine CH KI (k := (nth (bO fl a (eD x.1)) j.1).fin fl) (v := nth (bO fl a (eD x.1)) j.1) rfl rfl (by decide) rfl (vZ _) rfl rfl n6 ?_
    refine aD (aC (aA ?_))
    refine eB (rfl : _ = Ty.ff _ _ _ _) ?_
    refine bF rfl ?_
    refine bW (E := cT) (xs := [_]) rfl rfl rfl rfl rfl (by decide) (by decide) (by repeat (first | exact (aV.nil : aV _ _ [] _) | (show aV _ _ ((_, _) :: _) _; apply aV.one; (· exact (rfl : _ = Ty.int _ _)); (· exact rfl)))) (by exact rfl) rfl ?_
    refine G9 rfl rfl (by decide) rfl (by show 0 < 1; decide) rfl rfl rfl rfl rfl (by decide) (by show (_ + 1) * 8 ≤ _; omega) (by show _ + 1 ≤ _; omega) ?_
    refine gi (rfl : _ = Ty.ff _ _ _ _) ?_
    refine aD (bI (aC (aA ?_)))
    refine bq rfl rfl (by omega) (by omega) ?_
    refine bF rfl (aD ?_)
    refine bM (⟨j.1 + 1, by omega⟩) ?_ (by show (bO fl a (eD x.1)).length - (j.1 + 1) < (bO fl a (eD x.1)).length - j.1; omega)
    (refine cg.mk' ?_ ?_ <;> (repeat' (first | exact aI | exact aH | refine aB ?_ (Ty.aT _) | refine aB ?_ (Ty.aF _) | refine aG rfl (Cont.aF _) ?_ | refine aG rfl ?_ ?_ | refine aB ?_ ?_)))
    all_goals skip
    all_goals first | exact NT (zn (by omega) (by rw [← new_eq]; exact hc3)).2 | exact Cont.wo (zn (by omega) (by rw [← new_eq]; exact hc3)).1
   refine aj (bI (aC (aA ?_)))
   refine bq rfl rfl (by omega) (by omega) ?_
   refine bF rfl (aD ?_)
   refine bM (⟨j.1 + 1, by omega⟩) ?_ (by show (bO fl a (eD x.1)).length - (j.1 + 1) < (bO fl a (eD x.1)).length - j.1; omega)
   (refine cg.mk' ?_ ?_ <;> (repeat' (first | exact aI | exact aH | refine aB ?_ (Ty.aT _) | refine aB ?_ (Ty.aF _) | refine aG rfl (Cont.aF _) ?_ | refine aG rfl ?_ ?_ | refine aB ?_ ?_)))
   all_goals skip
   all_goals first | exact NT (DR (by omega) (by rw [← new_eq]; exact hc3)).2 | exact Cont.wo (DR (by omega) (by rw [← new_eq]; exact hc3)).1
  refine bz (aP (aP (aa rfl (bI ?_))))
  refine bM (⟨fI fl a s (eD x.1) (jy x.1) (bO fl a (eD x.1)).length, (x.2.next hN hlen).1⟩) ?_ (by exact (x.2.next hN hlen).2)
  (refine cg.mk' ?_ ?_ <;> (repeat' (first | exact aI | exact aH | refine aB ?_ (Ty.aT _) | refine aB ?_ (Ty.aF _) | refine aG rfl (Cont.aF _) ?_ | refine aG rfl ?_ ?_ | refine aB ?_ ?_)))
  all_goals skip
  all_goals first | exact NT (congrArg (fun n => (fI fl a s (eD x.1) (jy x.1) n).queue) (show j.1 = _ by have := j.2; omega)) | exact Cont.wo (congrArg (fun n => (fI fl a s (eD x.1) (jy x.1) n).by_) (show j.1 = _ by have := j.2; omega))
 refine bz (aP (aP (aa rfl (aC (aE ?_)))))
 refine jk (tg := 16) rfl (Cont.wo (x.2.end (by omega))) ?_
 refine aA (Ig rfl (RX rfl (aD (aC (az ?_)))))
 refine iq [1000, 16] rfl rfl (by decide) (by repeat (first | exact gS | refine eG rfl (bp (by decide) rfl) ?_ | refine eG rfl (OD (by decide) rfl) ?_)) ?_
 all_goals skip
 all_goals exact iR (OC (by decide))
end Go.Proofs.YtelbollidfdcjaaGreat
namespace Go.Proofs.YtelbollidfdcjaaGreat
open Go Go.T
section
variable {fl : List cB} {a : List Int} {n : Nat} {q : List (Int × Way)}
theorem EK {n k : Nat} (h : k ≤ n) : (List.range n).take k = List.range k := by
 rw [List.take_range, Nat.min_eq_left h]
theorem Mu {j : Nat} (hj : j < n) (h : ∀ i, i < j → jP fl a q i = false) (hc : jP fl a q j = true) : (j : Int) = eT fl a n q := by
 unfold eT
 refine (hU (by rw [List.length_range]; exact hj) (fun x hx => ?_) ?_).symm
 ·rw [EK (by omega)] at hx
  exact h x (List.mem_range.1 hx)
 rw [List.getElem_range]; exact hc
theorem JY {j : Nat} (hj : n ≤ j) (h : ∀ i, i < j → jP fl a q i = false) : -1 = eT fl a n q := by
 unfold eT
 refine (iU fun x hx => ?_).symm
 exact h x (by have := List.mem_range.1 hx; omega)
theorem C3 {j : Nat} (hj : j < n) : ((e9 q (j : Int)).isSome && decide (nth (gW fl a n) j < 0)) = jP fl a q j := by
 unfold jP; rw [uB hj]
theorem JE (hl : fl.length ≤ 34) (ha : ∀ i, i < fl.length → 0 ≤ nth a i ∧ nth a i ≤ 300) (c : Int) : -10200 ≤ over fl a c ∧ over fl a c ≤ 10200 := by
 have h := AP (fl := fl) (a := a) (c := c) (k := fl.length) ha
 have e : pM fl a fl.length c = over fl a c := rfl
 rw [e] at h; omega
theorem wH (m : Int) (fl : List cB) (a : List Int) : m = fC fl a m [] := rfl
theorem Jt {s t : Int} {l : List Way} (e : l = hH fl (cO fl a s) s t) : dz a l (fC fl a (min (over fl a s) (-over fl a t)) l) = j0 fl a s t := by subst e; rfl
end
end Go.Proofs.YtelbollidfdcjaaGreat
namespace Go.Proofs.YtelbollidfdcjaaGreat
open Go Go.T
set_option maxHeartbeats 16000000
structure Ju (y : au) (fl : List cB) (a : List Int) : Prop where
  right : y.bt
  net : Net fl (y.cells + 1)
  bd : Bd fl
  inb : iL fl = true → yR fl a
  rB : fl.length ≤ 34
section
variable {y : au} {fl : List cB} {a : List Int} {n : Nat}
theorem Ak (h : (!fl.all fun f => decide (f.lo ≤ f.hi)) = true) : iL fl = false := l9 h
theorem nr (h : (!fl.all fun f => decide (f.lo ≤ f.hi)) = false) : iL fl = true := ew h
theorem P4 (h : iL fl = false) : 0 = (cU fl n a).1 ∧ true = (cU fl n a).2.1 ∧ a = (cU fl n a).2.2 := by rw [z6 h]; exact ⟨rfl, rfl, rfl⟩
theorem P0 {b : List Int} (h : iL fl = true) (hx : J4 fl n a b) (e : dY fl b n < 0) : 0 = (cU fl n a).1 ∧ false = (cU fl n a).2.1 ∧ b = (cU fl n a).2.2 := by rw [n9 h, hx.done e]; exact ⟨rfl, rfl, rfl⟩
theorem Pc {b : List Int} (h : iL fl = true) (hx : J4 fl n a b) (e : ¬ dY fl b n < 0) (e2 : eT fl b n (cO fl b (dY fl b n)) < 0) : dY fl b n = (cU fl n a).1 ∧ true = (cU fl n a).2.1 ∧ b = (cU fl n a).2.2 := by rw [n9 h, hx.stuck e e2]; exact ⟨rfl, rfl, rfl⟩
theorem RZ (h : yR fl a) : J4 fl n a a := ⟨h, rfl⟩
theorem NX {x z : Int} (h1 : 0 < x) (h2 : z < 0) : 0 < min x (-z) := by omega
theorem has_eq : fidx (fun v : Int => decide (v > 0)) (gW fl a n) = dY fl a n := rfl
theorem LL (m x : Int) : gA m [x] = min m x := rfl
theorem xA {m : Int} {l : List Way} {w : Way} : gA (fC fl a m l) [w.room fl a] = fC fl a m (l ++ [w]) := (LL _ _).trans (rP m l).symm
theorem FN {k : Int} (h : 0 ≤ k ∧ k < n) : nth (gW fl a n) k.toNat = over fl a k := by rw [uB (by omega)]; congr 1; omega
theorem K8 {x : Int} (h : -20000 ≤ x ∧ x ≤ 20000) : IntKind.i64.wrap (0 - x) = -x := by rw [show (0 : Int) - x = -x by omega]; exact IntWalk.i64_in _ (by omega)
end
attribute [local irreducible] aR gz Way.iA Way.fin Way.room eR dz ef gW over bO cO dY eT jP fC hH j0 cU gP gA
attribute [local irreducible] gL eX lN nh gy g6 gu gw gx nj gr ni dN fX nH fu nZ nth fP dQ bA dJ bodyPost Exit.then Exit.inBlock Code.wp Code.wpIn nW g7 nY nV g8 eP cL cM bodyPostM dR
set_option maxRecDepth 100000 in
theorem Kl (f : cB) : dJ Tryz.prog 177 [Ty.agg (dn.tys f)] (Ty.bool (decide (f.lo ≤ f.hi))) := by
 refine ak Tryz.func177 rfl (by decide) Tryz.ntmps177 (by exact Nat.le_of_ble_eq_true rfl) fun w0 M0 => ?_
 refine aE (aA (bD rfl (cm rfl (aD (aC (aE (aA ?_)))))))
 refine aL rfl rfl rfl rfl rfl (by decide) ?_
 refine aJ rfl rfl rfl rfl ?_
 refine aL rfl rfl rfl rfl rfl (by decide) ?_
 refine aJ rfl rfl rfl rfl (bB rfl rfl rfl (cm rfl (aD (aC (az (bR rfl rfl ?_))))))
 all_goals exact cG rfl rfl
set_option maxRecDepth 100000 in
theorem Iy (v : Int) : dJ Tryz.prog 179 [Ty.int .i64 v] (Ty.bool (decide (v > 0))) := by
 refine ak Tryz.func179 rfl (by decide) Tryz.ntmps179 (by exact Nat.le_of_ble_eq_true rfl) fun w0 M0 => ?_
 refine aE (aA (cm rfl (aD (aC (aE (aA (bF rfl (bB rfl rfl rfl (cm rfl ?_)))))))))
 refine aD (aC (az (bR rfl rfl ?_)))
 all_goals exact cG rfl rfl
set_option maxRecDepth 100000 in
theorem NL (y : au) (fl : List cB) (a : List Int) (h : Ju y fl a) : eP Tryz.prog 129 [1000] [(1000, Cont.vec cT 3 a)] [Ty.pp (eI y fl 1000 fl.length)] [(1000, Cont.vec cT 3 (cU fl (y.cells + 1) a).2.2)] (Ty.j8 [Ty.int .i64 (cU fl (y.cells + 1) a).1, Ty.bool (cU fl (y.cells + 1) a).2.1]) := by
 refine fS Tryz.func129 rfl (by decide) Tryz.ntmps129 (by exact Nat.le_of_ble_eq_true rfl) fun w0 M0 => ?_
 have hcl := nQ h.right
 have hfl := h.rB
 have hN := h.net
 refine aE (aA (bZ rfl (cm rfl (aD (aC (aE (aE (aA (jv rfl ?_)))))))))
 refine cA rfl ?_
 refine aL rfl rfl rfl rfl rfl (by decide) ?_
 refine aJ rfl rfl rfl rfl ?_
 refine af (Cv fl (Ty.jw _ []) rfl (fun f => decide (f.lo ≤ f.hi)) rfl rfl fun f _ => dU (Kl f) rfl rfl rfl rfl rfl rfl) rfl rfl rfl rfl rfl ?_
 refine dm rfl (aD (aC ?_))
 refine cH rfl (fun hc1 => ?_) (fun hc1 => ?_)
 ·
  refine aE (aA (bZ rfl (cm rfl (aD (aC (az (aQ ?_)))))))
  refine Ab [1000] rfl rfl rfl (by decide) ?_ ?_ ?_
  ·exact eG rfl (bp (by decide) (P4 (Ak hc1)).2.2) gS
  all_goals skip
  all_goals first | exact iR (pK rfl rfl (congrArg (Ty.int .i64) (P4 (Ak hc1)).1)) | exact iR (pK rfl rfl (congrArg Ty.bool (P4 (Ak hc1)).2.1))
 refine aj (aC (aY ?_))
 refine b9 (fun (x : {b : List Int // J4 fl (y.cells + 1) a b}) => live [(0, Ty.pp (eI y fl 1000 fl.length))] [(1000, Cont.vec cT 3 x.1)]) (fun x => Q2 fl (y.cells + 1) x.1) (⟨a, RZ (h.inb (nr hc1))⟩) ?_ fun x => ?_
 ·(refine cg.mk' ?_ ?_ <;> (repeat' (first | exact aI | exact aH | refine aB ?_ (Ty.aT _) | refine aB ?_ (Ty.aF _) | refine aG rfl (Cont.aF _) ?_)))
 have hF : mA y fl x.1 := ⟨h.right, h.net, h.bd, x.2.inb, h.rB⟩
 have hal := hF.inb.1
 have hov := JE h.rB fun i hi => (hF.Pt hi).1
 have hol : (gW fl x.1 (y.cells + 1)).length = (y.cells + 1) := AL
 refine aY (aE (aA (jv rfl ?_)))
 refine dL [(1000, 1000)] [] [(1000, Cont.vec cT 3 x.1)] (Pf y fl x.1 hF) rfl rfl (aN bX (fJ (aN (aN (aN (aN (aN (aN bX (dg (by exact List.mem_cons_self))) (aU rfl rfl)) (aU rfl rfl)) (aU rfl rfl)) (aU rfl rfl)) (aU rfl rfl)))) (dA (a := 1000) (b := 1000) (by exact List.mem_cons_self) rfl (bp (by exact List.mem_cons_self) rfl) pre_nil) (bk (a := 1000) (b := 1000) (by decide) rfl (bp (by decide) rfl) post_nil) (aU rfl rfl) ?_
 refine va rfl (aD (aC (aE (aA (eA rfl ?_)))))
 refine af (oa (gW fl x.1 (y.cells + 1)) (Ty.jw _ []) rfl (fun v => decide (v > 0)) rfl rfl fun v _ => dU (Iy v) rfl rfl rfl rfl rfl rfl) rfl rfl rfl rfl rfl ?_
 refine bZ rfl (aD (aC (aE (aE ?_))))
 refine iC (s := 5) rfl (Ty.bN (has_eq (fl := fl) (a := x.1) (n := (y.cells + 1)))) ?_
 refine aA (bF rfl (bB rfl rfl rfl (aD (aC ?_))))
 refine ah rfl (fun hc2 => ?_) (fun hc2 => ?_)
 ·
  refine aE (aA (bZ rfl (cm rfl (aD (aC (az (aQ (ay (aQ ?_)))))))))
  refine ay ?_
  refine Ab [1000] rfl rfl rfl (by decide) ?_ ?_ ?_
  ·exact eG rfl (bp (by decide) (P0 (nr hc1) x.2 hc2).2.2) gS
  all_goals skip
  all_goals first | exact iR (pK rfl rfl (congrArg (Ty.int .i64) (P0 (nr hc1) x.2 hc2).1)) | exact iR (pK rfl rfl (congrArg Ty.bool (P0 (nr hc1) x.2 hc2).2.1))
 refine aj (aC (aE ?_))
 obtain ⟨s, s1, s2, s3⟩ := we hc2
 have hs : 0 ≤ (dY fl x.1 (y.cells + 1)) ∧ (dY fl x.1 (y.cells + 1)) < ((y.cells + 1) : Nat) := by omega
 refine aA (jv rfl (bF rfl ?_))
 refine dL (res' := Ty.mp 32) [(1000, 1000), (32, 16)] [32] [(1000, Cont.vec cT 3 x.1), (32, Cont.mp KI.enc BM (cO fl x.1 (dY fl x.1 (y.cells + 1))))] (NS y fl x.1 hF (dY fl x.1 (y.cells + 1)) hs) rfl rfl (aN (aN bX (aU rfl rfl)) (fJ (aN (aN (aN (aN (aN (aN bX (dg (by exact List.mem_cons_self))) (aU rfl rfl)) (aU rfl rfl)) (aU rfl rfl)) (aU rfl rfl)) (aU rfl rfl)))) (dA (a := 1000) (b := 1000) (by exact List.mem_cons_self) rfl (bp (by exact List.mem_cons_self) rfl) pre_nil) (bk (a := 1000) (b := 1000) (by decide) rfl (bp (by decide) rfl) (bk (a := 32) (b := 16) (by decide) rfl (OD (by decide) rfl) post_nil)) (OC (by decide)) ?_
 refine RX rfl (aD (aC (aE (aA (bZ rfl (aD (aC ?_)))))))
 refine j4 (J := live [(0, Ty.pp (eI y fl 1000 fl.length)), (4, Ty.sl cT (gW fl x.1 (y.cells + 1))), (5, Ty.int .i64 (dY fl x.1 (y.cells + 1))), (6, Ty.mp 32), (7, Ty.int .i64 (eT fl x.1 (y.cells + 1) (cO fl x.1 (dY fl x.1 (y.cells + 1)))))] [(1000, Cont.vec cT 3 x.1), (32, Cont.mp KI.enc BM (cO fl x.1 (dY fl x.1 (y.cells + 1))))]) ?_ ?_
 ·
  refine aE (aA (eA rfl (cD rfl rfl rfl (bF rfl (aD (aC (aY ?_)))))))
  refine b9 (fun (j : {j : Nat // j ≤ (y.cells + 1) ∧ ∀ i, i < j → jP fl x.1 (cO fl x.1 (dY fl x.1 (y.cells + 1))) i = false}) => live [(0, Ty.pp (eI y fl 1000 fl.length)), (4, Ty.sl cT (gW fl x.1 (y.cells + 1))), (5, Ty.int .i64 (dY fl x.1 (y.cells + 1))), (6, Ty.mp 32), (7, Ty.int .i64 (-1)), (32, Ty.sl cT (gW fl x.1 (y.cells + 1))), (33, Ty.int .i64 (gW fl x.1 (y.cells + 1)).length), (34, Ty.int .i64 (j.1 : Nat))] [(1000, Cont.vec cT 3 x.1), (32, Cont.mp KI.enc BM (cO fl x.1 (dY fl x.1 (y.cells + 1))))]) (fun j => (y.cells + 1) - j.1) (⟨0, Nat.zero_le _, fun i hi => absurd hi (Nat.not_lt_zero i)⟩) ?_ fun j => ?_
  ·(refine cg.mk' ?_ ?_ <;> (repeat' (first | exact aI | exact aH | refine aB ?_ (Ty.aT _) | refine aB ?_ (Ty.aF _) | refine aG rfl (Cont.aF _) ?_)))
  have hj := j.2.1
  refine aE (aA (bB rfl rfl rfl (aD (aC (aE ?_)))))
  refine ah rfl (fun hc3 => ?_) (fun hc3 => ?_)
  ·
   refine aj (aC (aE (aY (aE (aA (bF rfl ?_))))))
   refine aq rfl rfl rfl rfl rfl rfl (by omega) ?_
   refine aJ rfl rfl rfl rfl (bZ rfl (bZ rfl (aD (aC (aE (aA (Ig rfl (bF rfl ?_))))))))
   refine AQ KI (k := ((j.1 : Nat) : Int)) (z0 := (default : Way)) rfl rfl (by decide) rfl (vZ _) n6 sq pS ?_
   refine sU rfl (bQ rfl rfl (bQ rfl rfl ?_))
   refine bu rfl (by exact List.cons_ne_nil _ _) rfl ?_
   refine bh rfl rfl (by decide) rfl rfl rfl rfl rfl rfl ?_
   refine cm rfl (aD (aC (aE (aA (eO rfl (eO rfl ?_))))))
   apply aM (s := 46) rfl rfl rfl
   ·intro hg; apply aO; (refine bF rfl ?_); refine aD ?_; exact rfl
   ·exact rfl
   ·exact rfl
   apply aM (s := 46) rfl rfl rfl
   ·intro hg; apply aK (s := 47) rfl (by (rw [hg]; rfl)); apply aO; (refine bB rfl rfl rfl ?_); refine aD ?_; exact rfl
   ·exact rfl
   ·exact rfl
   refine dV rfl rfl (aD (aC ?_))
   refine cH rfl (fun hc4 => ?_) (fun hc4 => ?_)
   ·
    refine aE (aA (bF rfl (bZ rfl (aD (aC (bz (gV rfl (aP (aP ?_)))))))))
    refine aa rfl (eW ?_)
    (refine cg.mk' ?_ ?_ <;> (repeat' (first | exact aI | exact aH | refine aB ?_ (Ty.aT _) | refine aB ?_ (Ty.aF _) | refine aG rfl (Cont.aF _) ?_ | refine aB ?_ ?_)))
    all_goals exact Ty.bN (Mu (by omega) j.2.2 (by rw [← C3 (n := (y.cells + 1)) (by omega)]; exact hc4))
   refine aj (bI (aC (aA ?_)))
   refine bq rfl rfl (by omega) (by omega) ?_
   refine bF rfl (aD ?_)
   refine bM (⟨j.1 + 1, by omega, fun i hi => by by_cases e : i = j.1; (subst e; rw [← C3 (n := (y.cells + 1)) (by omega)]; exact hc4); exact j.2.2 i (by omega)⟩) ?_ (by show (y.cells + 1) - (j.1 + 1) < (y.cells + 1) - j.1; omega)
   (refine cg.mk' ?_ ?_ <;> (repeat' (first | exact aI | exact aH | refine aB ?_ (Ty.aT _) | refine aB ?_ (Ty.aF _) | refine aG rfl (Cont.aF _) ?_)))
   all_goals skip
  refine bz (aP (aP (aa rfl (eW ?_))))
  (refine cg.mk' ?_ ?_ <;> (repeat' (first | exact aI | exact aH | refine aB ?_ (Ty.aT _) | refine aB ?_ (Ty.aF _) | refine aG rfl (Cont.aF _) ?_ | refine aB ?_ ?_)))
  all_goals exact Ty.bN (JY (by omega) j.2.2)
 refine aE (aE (aA (bF rfl (bB rfl rfl rfl (aD (aC ?_))))))
 refine ah rfl (fun hc5 => ?_) (fun hc5 => ?_)
 ·
  refine aE (aA (bF rfl (bZ rfl (cm rfl (aD (aC (az (aQ (ay ?_)))))))))
  refine aQ (ay ?_)
  refine Ab [1000] rfl rfl rfl (by decide) ?_ ?_ ?_
  ·exact eG rfl (bp (by decide) (Pc (nr hc1) x.2 hc2 hc5).2.2) gS
  all_goals skip
  all_goals first | exact iR (pK rfl rfl (congrArg (Ty.int .i64) (Pc (nr hc1) x.2 hc2 hc5).1)) | exact iR (pK rfl rfl (congrArg Ty.bool (Pc (nr hc1) x.2 hc2 hc5).2.1))
 refine aj (aC (aE ?_))
 obtain ⟨t, t1, t2, t3, t4⟩ := uc hc5
 have hnx := x.2.next hN hc2 hc5
 have hR := rj (a := x.1) hN hs
 obtain ⟨dep, d0, hd⟩ := hR.arc
 have hmet : yP (cO fl x.1 (dY fl x.1 (y.cells + 1))) (dY fl x.1 (y.cells + 1)) (eT fl x.1 (y.cells + 1) (cO fl x.1 (dY fl x.1 (y.cells + 1)))) := by rw [t2]; obtain ⟨v, hv⟩ := Option.isSome_iff_exists.1 t3; exact .inr (mX hv)
 have ht : 0 ≤ (eT fl x.1 (y.cells + 1) (cO fl x.1 (dY fl x.1 (y.cells + 1)))) ∧ (eT fl x.1 (y.cells + 1) (cO fl x.1 (dY fl x.1 (y.cells + 1)))) < ((y.cells + 1) : Nat) := by omega
 have ho1 := hov (dY fl x.1 (y.cells + 1))
 have ho2 := hov (eT fl x.1 (y.cells + 1) (cO fl x.1 (dY fl x.1 (y.cells + 1))))
 have hdq : dep (eT fl x.1 (y.cells + 1) (cO fl x.1 (dY fl x.1 (y.cells + 1)))) ≤ 21 := by
  obtain ⟨v, hv⟩ := Option.isSome_iff_exists.1 t3
  have h1 := (hd _ _ hv).2.2.2.2
  have h2 := hR.rB
  rw [t2]; omega
 refine aA (lE rfl (aD (aC (aE ?_))))
 have hoa := FN (fl := fl) (a := x.1) (n := (y.cells + 1)) hs
 have hob := FN (fl := fl) (a := x.1) (n := (y.cells + 1)) ht
 refine cP mixed rfl (eA rfl (bF rfl ?_))
 refine kA rfl rfl rfl rfl rfl rfl (by omega) (by omega) ?_
 refine aJ rfl rfl rfl rfl (eA rfl (bF rfl ?_))
 refine kA rfl rfl rfl rfl rfl rfl (by omega) (by omega) ?_
 refine aJ rfl rfl rfl rfl (Qp rfl ?_)
 refine bW (E := cT) (xs := [_]) rfl rfl rfl rfl rfl (by decide) (by decide) (by repeat (first | exact (aV.nil : aV _ _ [] _) | (show aV _ _ ((_, _) :: _) _; apply aV.one; (· exact (rfl : _ = Ty.int _ _)); (· exact rfl)))) (by exact rfl) rfl ?_
 refine af (s8 _ _) rfl rfl rfl rfl rfl (bZ rfl (aD ?_))
 refine ⟨by kernel_rfl, ?_⟩
 refine aC (aE (aE ?_))
 refine iC (s := 13) rfl (Ty.bN (by rw [hoa, hob, K8 (by omega), LL] : _ = (min (over fl x.1 (dY fl x.1 (y.cells + 1))) (-over fl x.1 (eT fl x.1 (y.cells + 1) (cO fl x.1 (dY fl x.1 (y.cells + 1)))))))) ?_
 refine aA (bF rfl (bZ rfl (aD (aC (aY ?_)))))
 refine b9 (fun (p : {p : Int × List Way // Mv fl x.1 (cO fl x.1 (dY fl x.1 (y.cells + 1))) (dY fl x.1 (y.cells + 1)) (eT fl x.1 (y.cells + 1) (cO fl x.1 (dY fl x.1 (y.cells + 1)))) dep p}) => live [(0, Ty.pp (eI y fl 1000 fl.length)), (5, Ty.int .i64 (dY fl x.1 (y.cells + 1))), (6, Ty.mp 32), (12, Ty.row gI 199 81 p.1.2), (13, Ty.int .i64 (fC fl x.1 (min (over fl x.1 (dY fl x.1 (y.cells + 1))) (-over fl x.1 (eT fl x.1 (y.cells + 1) (cO fl x.1 (dY fl x.1 (y.cells + 1)))))) p.1.2)), (14, Ty.int .i64 p.1.1)] [(1000, Cont.vec cT 3 x.1), (32, Cont.mp KI.enc BM (cO fl x.1 (dY fl x.1 (y.cells + 1))))]) (fun p => dep p.1.1) (⟨((eT fl x.1 (y.cells + 1) (cO fl x.1 (dY fl x.1 (y.cells + 1)))), []), Rm hmet⟩) ?_ fun p => ?_
 ·(refine cg.mk' ?_ ?_ <;> (repeat' (first | exact aI | exact aH | refine aB ?_ (Ty.aT _) | refine aB ?_ (Ty.aF _) | refine aB ?_ Ty.gZ | refine aG rfl (Cont.aF _) ?_ | refine aB ?_ ?_)))
  all_goals exact Ty.bN (wH _ _ _)
 have hpf := p.2.rB
 refine aE (aE (aA (bF rfl (bF rfl (bB rfl rfl rfl (aD (aC ?_)))))))
 refine cx rfl (fun hc6 => ?_) (fun hc6 => ?_)
 ·
  refine aj (aC (aE (aY (aE ?_))))
  have hpx := p.2.next hd hc6
  have hpo := hpx.2.2
  refine aA (Eb rfl (Ig rfl (bF rfl ?_)))
  refine yM KI (k := p.1.1) (z0 := (default : Way)) rfl rfl (by decide) rfl (vZ _) n6 sq pS ?_
  refine bW (E := gI) (xs := [jz (cO fl x.1 (dY fl x.1 (y.cells + 1))) p.1.1]) rfl rfl rfl rfl rfl (by decide) (by decide) (by repeat (first | exact (aV.nil : aV _ _ [] _) | (show aV _ _ ((_, _) :: _) _; apply aV.agg; (· exact (rfl : _ = Ty.agg _))))) (by exact rfl) rfl ?_
  refine dj rfl rfl (by decide) rfl rfl rfl rfl rfl rfl (by decide) (by (simp <;> omega)) (by (simp <;> omega)) ?_
  refine yW rfl (aD (aC (aE (aA (jv rfl (Ig rfl (bF rfl ?_)))))))
  refine yM KI (k := p.1.1) (z0 := (default : Way)) rfl rfl (by decide) rfl (vZ _) n6 sq pS ?_
  refine eM [1000] (GI y fl x.1 hF (jz (cO fl x.1 (dY fl x.1 (y.cells + 1))) p.1.1) hpo.1) rfl (aW (kj (aW (bU (bV rfl rfl)) (aW (bU (bV rfl rfl)) (aW (bU (bV rfl rfl)) (aW (bU (bV rfl rfl)) (aW (bU (bV rfl rfl)) (aW (jr rfl hal (by decide) rfl) cR))))))) (aW (bU (bV rfl rfl)) cR)) (by exact qY (by repeat (first | exact qU | refine oB (by exact dc _ _) ?_))) ?_
  refine sU rfl (bQ rfl rfl (bQ rfl rfl (bZ rfl (bZ rfl (aD (aC (aA (bF rfl (bF rfl ?_)))))))))
  refine bW (E := cT) (xs := [_]) rfl rfl rfl rfl rfl (by decide) (by decide) (by repeat (first | exact (aV.nil : aV _ _ [] _) | (show aV _ _ ((_, _) :: _) _; apply aV.one; (· exact (rfl : _ = Ty.int _ _)); (· exact rfl)))) (by exact rfl) rfl ?_
  refine af (s8 _ _) rfl rfl rfl rfl rfl (bZ rfl (aD (bI (aC (aA (jv rfl (Ig rfl (bF rfl ?_))))))))
  refine yM KI (k := p.1.1) (z0 := (default : Way)) rfl rfl (by decide) rfl (vZ _) n6 sq pS ?_
  refine eM [1000] (BI y fl x.1 (jz (cO fl x.1 (dY fl x.1 (y.cells + 1))) p.1.1) hpo.1) rfl (aW (kj (aW (bU (bV rfl rfl)) (aW (bU (bV rfl rfl)) (aW (bU (bV rfl rfl)) (aW (bU (bV rfl rfl)) (aW (bU (bV rfl rfl)) (aW (jr rfl hal (by decide) rfl) cR))))))) (aW (bU (bV rfl rfl)) cR)) (by exact dc _ _) ?_
  refine bZ rfl (aD ?_)
  refine bM (⟨((jz (cO fl x.1 (dY fl x.1 (y.cells + 1))) p.1.1).iA fl, p.1.2 ++ [jz (cO fl x.1 (dY fl x.1 (y.cells + 1))) p.1.1]), (p.2.next hd hc6).1⟩) ?_ (by exact (p.2.next hd hc6).2.1)
  (refine cg.mk' ?_ ?_ <;> (repeat' (first | exact aI | exact aH | refine aB ?_ (Ty.aT _) | refine aB ?_ (Ty.aF _) | refine aG rfl (Cont.aF _) ?_ | refine aB ?_ ?_)))
  all_goals skip
  all_goals exact Ty.bN xA
 refine bz (aP (aP (aa rfl (aC ?_))))
 have hmp := qX (fl := fl) (a := x.1) (m := (min (over fl x.1 (dY fl x.1 (y.cells + 1))) (-over fl x.1 (eT fl x.1 (y.cells + 1) (cO fl x.1 (dY fl x.1 (y.cells + 1))))))) (NX (by rw [s2]; exact s3) (by rw [t2]; exact t4)) p.1.2 p.2.inv.ways
 have hml := (tK (fl := fl) (a := x.1) (min (over fl x.1 (dY fl x.1 (y.cells + 1))) (-over fl x.1 (eT fl x.1 (y.cells + 1) (cO fl x.1 (dY fl x.1 (y.cells + 1)))))) p.1.2).1
 refine k8 (tg := 81) [(12, Ty.sl gI p.1.2)] (by decide) rfl ⟨vw rfl, trivial⟩ ?_
 refine aA (jv rfl (eA rfl (bF rfl ?_)))
 refine dL [(1000, 1000)] [] [(1000, Cont.vec cT 3 (dz x.1 p.1.2 (fC fl x.1 (min (over fl x.1 (dY fl x.1 (y.cells + 1))) (-over fl x.1 (eT fl x.1 (y.cells + 1) (cO fl x.1 (dY fl x.1 (y.cells + 1)))))) p.1.2)))] (Kn y fl x.1 hF p.1.2 (by omega) (fun w hw => (p.2.inv.ways w hw).1) (fC fl x.1 (min (over fl x.1 (dY fl x.1 (y.cells + 1))) (-over fl x.1 (eT fl x.1 (y.cells + 1) (cO fl x.1 (dY fl x.1 (y.cells + 1)))))) p.1.2) (by omega)) rfl rfl (aN (aN (aN bX (aU rfl rfl)) (aU rfl rfl)) (fJ (aN (aN (aN (aN (aN (aN bX (dg (by exact List.mem_cons_self))) (aU rfl rfl)) (aU rfl rfl)) (aU rfl rfl)) (aU rfl rfl)) (aU rfl rfl)))) (dA (a := 1000) (b := 1000) (by exact List.mem_cons_self) rfl (bp (by exact List.mem_cons_self) rfl) pre_nil) (bk (a := 1000) (b := 1000) (by decide) rfl (bp (by decide) rfl) post_nil) (aU rfl rfl) ?_
 refine aD (bI ?_)
 refine bM (⟨j0 fl x.1 (dY fl x.1 (y.cells + 1)) (eT fl x.1 (y.cells + 1) (cO fl x.1 (dY fl x.1 (y.cells + 1)))), hnx.1⟩) ?_ (by exact hnx.2.less)
 (refine cg.mk' ?_ ?_ <;> (repeat' (first | exact aI | exact aH | refine aB ?_ (Ty.aT _) | refine aB ?_ (Ty.aF _) | refine aG rfl ?_ ?_)))
 all_goals skip
 all_goals exact Cont.cy (Jt (p.2.end hc6))
end Go.Proofs.YtelbollidfdcjaaGreat
namespace Go.Proofs.YtelbollidfdcjaaGreat
open Go Go.T
section
variable {fl : List cB} {a : List Int} {n : Nat} {G : Nat → Int} {x : Nk}
structure r9 (fl : List cB) (a : List Int) (n : Nat) (G : Nat → Int) (x : Nk) : Prop where
  inv : mE fl a n G x
  same : nK (mF fl a n G) x = iS fl a n G
theorem Rz (hn : 0 < n) : r9 fl a n G ⟨0, 0, 0, PX n⟩ := ⟨OO hn, rfl⟩
theorem r9.r (h : r9 fl a n G x) : ¬ n ≤ x.r := by have := h.inv.r; omega
theorem r9.round (h : r9 fl a n G x) (hc : n ≤ x.c) (ha : ¬ x.st.at_ < 0) : r9 fl a n G ⟨x.r + 1, 0, 0, ⟨x.st.worth, x.st.by_, -1⟩⟩ :=
 ⟨h.inv.round hc (fun e => ha (by rw [h.inv.last e]; decide)), by rw [← iI (uo h.r hc ha)]; exact h.same⟩
theorem r9.stop (h : r9 fl a n G x) (hc : n ≤ x.c) (ha : x.st.at_ < 0) : cN fl a n G = [] := by
 refine vE ?_
 rw [← h.same]; exact iY (xQ h.r hc ha)
theorem r9.cell (h : r9 fl a n G x) (hc : ¬ n ≤ x.c) (hj : (bO fl a x.c).length ≤ x.j) : r9 fl a n G ⟨x.r, x.c + 1, 0, x.st⟩ :=
 ⟨h.inv.cell hc hj, by rw [← iI (xD h.r hc hj)]; exact h.same⟩
theorem r9.no (h : r9 fl a n G x) (hc : ¬ n ≤ x.c) (hj : ¬ (bO fl a x.c).length ≤ x.j) (hg : lM fl G x.st x.c (nth (bO fl a x.c) x.j) = false) : r9 fl a n G ⟨x.r, x.c, x.j + 1, x.st⟩ :=
 ⟨h.inv.no hc hj hg, by rw [← iI (CS h.r hc hj hg)]; exact h.same⟩
theorem r9.yes (hN : Net fl n) (hG : ∀ i, -1 ≤ G i ∧ G i ≤ 1) (h : r9 fl a n G x) (hc : ¬ n ≤ x.c) (hj : ¬ (bO fl a x.c).length ≤ x.j) (hg : lM fl G x.st x.c (nth (bO fl a x.c) x.j) = true) (hr : ¬ x.r + 1 = n) : r9 fl a n G ⟨x.r, x.c, x.j + 1, mD fl G x.st x.c (nth (bO fl a x.c) x.j)⟩ :=
 ⟨h.inv.yes hN hG hc hj hg hr, by rw [← iI (z8 h.r hc hj hg hr)]; exact h.same⟩
structure Found (fl : List cB) (a : List Int) (n : Nat) (G : Nat → Int) (st : sO) (v : Nat) : Prop where
  found : ∃ R T τ, Gh fl a n G (n - 1) st R T τ ∧ v < n ∧ R v = n
  at_ : st.at_ = v
  same : cN fl a n G = oo fl st (fY (cK fl st) n v)
  len : st.by_.length = n
theorem r9.last (hN : Net fl n) (hG : ∀ i, -1 ≤ G i ∧ G i ≤ 1) (h : r9 fl a n G x) (hc : ¬ n ≤ x.c) (hj : ¬ (bO fl a x.c).length ≤ x.j) (hg : lM fl G x.st x.c (nth (bO fl a x.c) x.j) = true) (hr : x.r + 1 = n) :
    ∃ v : Nat, Found fl a n G (mD fl G x.st x.c (nth (bO fl a x.c) x.j)) v := by
  have h1 := h.inv.found hN hG hc hj hg hr
  have h2 : iS fl a n G = some (mD fl G x.st x.c (nth (bO fl a x.c) x.j)) := by
    rw [← h.same]; exact iY (wF h.r hc hj hg hr)
  cases h1 with
  | some _ R T τ v h3 hv e hR =>
    refine ⟨v, ⟨R, T, τ, h3, hv, hR⟩, e, ?_, h3.len.2⟩
    rw [vA h2, e, Int.toNat_natCast]
theorem mE.small (h : mE fl a n G x) (hn : n ≤ 21) (hl : fl.length ≤ 34) : x.st.worth.length = n ∧ x.st.by_.length = n ∧ ∀ v, v < n → 0 ≤ nth x.st.worth v ∧ nth x.st.worth v ≤ 40000 := by
 obtain ⟨R, T, τ, h1, h2, _⟩ := h.gh
 refine ⟨h1.len.1, h1.len.2, fun v hv => ?_⟩
 have h3 := h1.le v hv
 have h4 := h.r
 have h5 := h.c
 have h6 := h.j.1
 have e1 : x.r * (n * (2 * fl.length)) ≤ 21 * (21 * 68) := Nat.mul_le_mul (by omega) (Nat.mul_le_mul hn (by omega))
 have e2 : x.c * (2 * fl.length) ≤ 21 * 68 := Nat.mul_le_mul (by omega) (by omega)
 omega
variable {st : sO} {v s p : Nat}
theorem Found.chain (hN : Net fl n) (h : Found fl a n G st v) {k : Nat} (hk : k < n) : fY (cK fl st) k v < n ∧ Open fl a (nth st.by_ (fY (cK fl st) k v)) ∧ (nth st.by_ (fY (cK fl st) k v)).iA fl = (fY (cK fl st) (k + 1) v : Nat) := by
 obtain ⟨R, T, τ, h1, h2, h3⟩ := h.found
 obtain ⟨a1, a2⟩ := Ax hN h1 h2 h3 k (by omega)
 obtain ⟨b1, _⟩ := h1.way _ a1 (by omega)
 refine ⟨a1, b1, ?_⟩
 have := (hN.way b1.1).1
 show _ = ((((nth st.by_ (fY (cK fl st) k v)).iA fl).toNat : Nat) : Int)
 omega
structure OI (fl : List cB) (a : List Int) (n : Nat) (st : sO) (s p : Nat) (x : Nat × List Way) : Prop where
  at_ : x.1 < n ∧ Open fl a (nth st.by_ x.1) ∧ (nth st.by_ x.1).iA fl = (cK fl st x.1 : Nat)
  ix : ∃ i, i ≤ p ∧ x.1 = fY (cK fl st) i s ∧ x.2.length = i
  same : nK (DC fl st s) x = oo fl st s
theorem P9.iA {T : Nat → Nat} (hN : Net fl n) (h : P9 fl a n G st T s) (t : Nat) : fY (cK fl st) t s < n ∧ Open fl a (nth st.by_ (fY (cK fl st) t s)) ∧ (nth st.by_ (fY (cK fl st) t s)).iA fl = (cK fl st (fY (cK fl st) t s) : Nat) := by
 refine ⟨h.at_ t, (h.way t).1, ?_⟩
 have := (hN.way (h.way t).1.1).1
 show _ = ((((nth st.by_ (fY (cK fl st) t s)).iA fl).toNat : Nat) : Int)
 omega
theorem D2 {x : Nat × List Way} (h : ¬ (¬ x.2 = [] ∧ x.1 = s)) : DC fl st s x = .inl (cK fl st x.1, x.2 ++ [nth st.by_ x.1]) := if_neg h
theorem Dj {x : Nat × List Way} (h : ¬ x.2 = [] ∧ x.1 = s) : DC fl st s x = .inr x.2 := if_pos h
theorem OI.next {T : Nat → Nat} (hN : Net fl n) (hC : P9 fl a n G st T s) (hp : fY (cK fl st) p s = s) (hp1 : 1 ≤ p) {x : Nat × List Way} (h : OI fl a n st s p x) (hc : ¬ (¬ x.2 = [] ∧ x.1 = s)) :
 OI fl a n st s p (cK fl st x.1, x.2 ++ [nth st.by_ x.1]) ∧ x.2.length < p := by
 obtain ⟨i, h1, h2, h3⟩ := h.ix
 have hi : i < p := by
  by_cases e : i = p
  ·exfalso; apply hc
   subst e
   exact ⟨fun e => by rw [e] at h3; simp at h3; omega, h2.trans hp⟩
  omega
 have e : cK fl st x.1 = fY (cK fl st) (i + 1) s := by rw [h2]; rfl
 refine ⟨⟨?_, ⟨i + 1, hi, e, by rw [List.length_append, h3]; rfl⟩, ?_⟩, by omega⟩
 ·show cK fl st x.1 < n ∧ Open fl a (nth st.by_ (cK fl st x.1)) ∧ _ = ((cK fl st (cK fl st x.1) : Nat) : Int)
  rw [e]; exact hC.iA hN (i + 1)
 rw [← iI (D2 hc)]; exact h.same
theorem OI.end {x : Nat × List Way} (h : OI fl a n st s p x) (hc : ¬ x.2 = [] ∧ x.1 = s) : x.2 = oo fl st s := by
 rw [← h.same]; exact (iY (Dj hc)).symm
theorem Found.SK (hN : Net fl n) (h : Found fl a n G st v) : ∃ T p, P9 fl a n G st T (fY (cK fl st) n v) ∧ 1 ≤ p ∧ p ≤ n ∧ fY (cK fl st) p (fY (cK fl st) n v) = fY (cK fl st) n v ∧ OI fl a n st (fY (cK fl st) n v) p (fY (cK fl st) n v, []) := by
 obtain ⟨R, T, τ, h1, h2, h3⟩ := h.found
 have hC := KP hN h1 h2 h3
 obtain ⟨p, p1, p2, p3⟩ := hC.back
 exact ⟨T, p, hC, p1, p2, p3, ⟨hC.iA hN 0, ⟨0, Nat.zero_le _, rfl, rfl⟩, rfl⟩⟩
structure Ol (fl : List cB) (n : Nat) (G : Nat → Int) (a b : List Int) : Prop where
  feas : g5 fl n b
  same : nK (stepG fl n G) b = gY fl n G a
theorem ES {b : List Int} (e : cN fl b n G = []) : stepG fl n G b = .inr b := if_pos e
theorem Eo {b : List Int} (e : ¬ cN fl b n G = []) : stepG fl n G b = .inl (dz b (cN fl b n G) (fC fl b 300 (cN fl b n G))) := if_neg e
theorem Ol.done {b : List Int} (h : Ol fl n G a b) (e : cN fl b n G = []) : b = gY fl n G a := by
 rw [← h.same]; exact (iY (ES e)).symm
theorem Ol.next {b : List Int} (hN : Net fl n) (hn : 0 < n) (hB : Bd fl) (hG : ∀ i, -1 ≤ G i ∧ G i ≤ 1) (h : Ol fl n G a b) (e : ¬ cN fl b n G = []) :
 Ol fl n G a (dz b (cN fl b n G) (fC fl b 300 (cN fl b n G))) ∧ (300 * fl.length - lK fl G (dz b (cN fl b n G) (fC fl b 300 (cN fl b n G)))).toNat < (300 * fl.length - lK fl G b).toNat ∧ FV fl b n G (cN fl b n G) := by
 rcases vO (a := b) hN hn hG with ⟨e', _⟩ | hc
 ·exact absurd e' e
 have hb := u9 h.feas hc
 refine ⟨⟨hb.feas, ?_⟩, ?_, hc⟩
 ·rw [← h.same]; exact (iI (Eo e)).symm
 have h1 := hb.more
 have h2 := Fo hB hb.feas.1 hG
 omega
end
def ij (has : Nat → Bool) (x : List Int) (k : Nat) : Int := c7 (fun i => if has i = true then nth x i else 0) k
theorem HT {has : Nat → Bool} {x : List Int} {k : Nat} (h : has k = true) : ij has x k + nth x k = ij has x (k + 1) := by
 show _ = ij has x k + (if _ then _ else _); rw [if_pos h]
theorem IY {has : Nat → Bool} {x : List Int} {k : Nat} (h : has k = false) : ij has x k = ij has x (k + 1) := by
 show _ = ij has x k + (if _ then _ else _); rw [if_neg (by rw [h]; decide)]; omega
theorem Gq {has : Nat → Bool} {x : List Int} {k : Nat} (h : ∀ i, i < k → 0 ≤ nth x i ∧ nth x i ≤ 300) : -(300 * (k : Int)) ≤ ij has x k ∧ ij has x k ≤ 300 * k := by
 refine p5 (b := 300) fun i hi => ?_
 have := h i hi
 split <;> omega
theorem JG {has : Nat → Bool} {less : Bool} {i : Nat} (h : has i = false) : cw has less i = 0 := by unfold cw; rw [h]; cases less <;> rfl
theorem zg {has : Nat → Bool} {less : Bool} {i : Nat} (h : has i = true) : cw has less i = if less = true then -1 else 1 := by unfold cw; rw [h]; cases less <;> rfl
theorem Mz {has : Nat → Bool} {less : Bool} {w : Way} (h : has w.ix = false) : 0 = gD (cw has less) w := by
 unfold gD yO; rw [JG h]; cases w.more <;> rfl
theorem No {has : Nat → Bool} {less : Bool} {w : Way} (h : has w.ix = true) (e : w.more ≠ less) : 1 = gD (cw has less) w := by
 unfold gD yO; rw [zg h]
 cases hm : w.more <;> cases hl : less <;> first | rfl | exact absurd (hm.trans hl.symm) e
theorem Nq {has : Nat → Bool} {less : Bool} {w : Way} (h : has w.ix = true) (e : w.more = less) : -1 = gD (cw has less) w := by
 unfold gD yO; rw [zg h, e]
 cases less <;> rfl
end Go.Proofs.YtelbollidfdcjaaGreat
namespace Go.Proofs.YtelbollidfdcjaaGreat
open Go Go.T
set_option maxHeartbeats 16000000
theorem PO : Tryz.prog.underlying 4 = some .bool := Tryz.underlying4
section
variable {fl : List cB} {a : List Int} {n : Nat} {G : Nat → Int} {st : sO} {r c j : Nat} {w : Way}
def nB (fl : List cB) (G : Nat → Int) (st : sO) (c : Nat) (w : Way) : sO := if lM fl G st c w = true then mD fl G st c w else st
theorem qF (h : nth st.worth c + gD G w > nth st.worth (w.fin fl).toNat) : nB fl G st c w = mD fl G st c w := if_pos (decide_eq_true h)
theorem sS (h : ¬ nth st.worth c + gD G w > nth st.worth (w.fin fl).toNat) : nB fl G st c w = st := if_neg (by rw [show lM fl G st c w = false from decide_eq_false h]; decide)
theorem r9.Pu (hN : Net fl n) (hG : ∀ i, -1 ≤ G i ∧ G i ≤ 1) (h : r9 fl a n G ⟨r, c, j, st⟩) (hc : c < n) (hj : j < (bO fl a c).length) (hg : nth st.worth c + gD G (nth (bO fl a c) j) > nth st.worth ((nth (bO fl a c) j).fin fl).toNat) (hr : ¬ (r : Int) = n - 1) : r9 fl a n G ⟨r, c, j + 1, nB fl G st c (nth (bO fl a c) j)⟩ := by
 rw [qF hg]; exact h.yes hN hG (Nat.not_le.2 hc) (Nat.not_le.2 hj) (decide_eq_true hg) (by show ¬ r + 1 = n; intro e; apply hr; rw [← e]; show (r : Int) = ((r + 1 : Nat) : Int) - 1; omega)
theorem r9.RF (h : r9 fl a n G ⟨r, c, j, st⟩) (hc : c < n) (hj : j < (bO fl a c).length) (hg : ¬ nth st.worth c + gD G (nth (bO fl a c) j) > nth st.worth ((nth (bO fl a c) j).fin fl).toNat) : r9 fl a n G ⟨r, c, j + 1, nB fl G st c (nth (bO fl a c) j)⟩ := by
 rw [sS hg]; exact h.no (Nat.not_le.2 hc) (Nat.not_le.2 hj) (decide_eq_false hg)
theorem Q8 (h : nth st.worth c + gD G w > nth st.worth (w.fin fl).toNat) : st.worth.set (w.fin fl).toNat (nth st.worth c + gD G w) = (nB fl G st c w).worth := by rw [qF h]; rfl
theorem RH (h : nth st.worth c + gD G w > nth st.worth (w.fin fl).toNat) : st.by_.set (w.fin fl).toNat w = (nB fl G st c w).by_ := by rw [qF h]; rfl
theorem Qd (h : nth st.worth c + gD G w > nth st.worth (w.fin fl).toNat) : w.fin fl = (nB fl G st c w).at_ := by rw [qF h]; rfl
theorem Qo (h : ¬ nth st.worth c + gD G w > nth st.worth (w.fin fl).toNat) : st.worth = (nB fl G st c w).worth := by rw [sS h]
theorem Qi (h : ¬ nth st.worth c + gD G w > nth st.worth (w.fin fl).toNat) : st.by_ = (nB fl G st c w).by_ := by rw [sS h]
theorem QG (h : ¬ nth st.worth c + gD G w > nth st.worth (w.fin fl).toNat) : st.at_ = (nB fl G st c w).at_ := by rw [sS h]
theorem r9.hit (hN : Net fl n) (hG : ∀ i, -1 ≤ G i ∧ G i ≤ 1) (h : r9 fl a n G ⟨r, c, j, st⟩) (hc : c < n) (hj : j < (bO fl a c).length) (hg : nth st.worth c + gD G (nth (bO fl a c) j) > nth st.worth ((nth (bO fl a c) j).fin fl).toNat) (hr : (r : Int) = n - 1) :
 ∃ (v : Nat) (s' : sO), st.worth.set ((nth (bO fl a c) j).fin fl).toNat (nth st.worth c + gD G (nth (bO fl a c) j)) = s'.worth ∧ st.by_.set ((nth (bO fl a c) j).fin fl).toNat (nth (bO fl a c) j) = s'.by_ ∧ (nth (bO fl a c) j).fin fl = ((v : Nat) : Int) ∧ Found fl a n G s' v := by
 obtain ⟨v, hv⟩ := h.last hN hG (Nat.not_le.2 hc) (Nat.not_le.2 hj) (decide_eq_true hg) (by show r + 1 = n; have := h.inv.r; omega)
 exact ⟨v, _, rfl, rfl, hv.at_, hv⟩
theorem OA {e : List Way} {s : Nat} (h : (decide ((e.length : Int) = 0) || !decide ((c : Int) = (s : Int))) = true) : ¬ (¬ e = [] ∧ c = s) := by
 rintro ⟨h1, h2⟩
 have h3 : (e.length : Int) ≠ 0 := fun h => h1 (List.length_eq_zero_iff.1 (by omega))
 rw [decide_eq_false h3, decide_eq_true (by omega)] at h; cases h
theorem RP {e : List Way} {s : Nat} (h : (decide ((e.length : Int) = 0) || !decide ((c : Int) = (s : Int))) = false) : ¬ e = [] ∧ c = s := by
 rw [Bool.or_eq_false_iff] at h
 refine ⟨fun e0 => ?_, ?_⟩
 ·subst e0; exact absurd h.1 (by decide)
 have := of_decide_eq_true (ew h.2 : decide ((c : Int) = (s : Int)) = true); omega
theorem RB {e : List Way} {p : Nat} (h : e.length < p) : p - (e ++ [w]).length < p - e.length := by rw [List.length_append]; show p - (e.length + 1) < _; omega
theorem SL {s p : Nat} {x : Nat × List Way} (h : OI fl a n st s p x) (hc : ¬ x.2 = [] ∧ x.1 = s) : oo fl st s ≠ [] := by rw [← h.end hc]; exact hc.1
end
attribute [local irreducible] aR gz Way.iA Way.fin Way.room eR dz ef gW over bO cO dY eT jP fC hH j0 cU gP gA gD cw cN gY oo iS nB mD
attribute [local irreducible] gL eX lN nh gy g6 gu gw gx nj gr ni dN fX nH fu nZ nth fP dQ bA dJ bodyPost Exit.then Exit.inBlock Code.wp Code.wpIn nW g7 nY nV g8 eP cL cM bodyPostM dR
set_option maxRecDepth 100000 in
theorem nT (y : au) (fl : List cB) (a : List Int) (h : Ju y fl a) : eP Tryz.prog 119 [1000] [(1000, Cont.vec cT 3 a)] [Ty.pp (eI y fl 1000 fl.length)] [(1000, Cont.vec cT 3 (cU fl (y.cells + 1) a).2.2)] (Ty.bool (!(cU fl (y.cells + 1) a).2.1)) := by
 refine fS Tryz.func119 rfl (by decide) Tryz.ntmps119 (by exact Nat.le_of_ble_eq_true rfl) fun w0 M0 => ?_
 refine aE (aA (cm rfl (aD (aC (aE (aA (jv rfl ?_)))))))
 refine dL [(1000, 1000)] [] [(1000, Cont.vec cT 3 (cU fl (y.cells + 1) a).2.2)] (NL y fl a h) rfl rfl (aN bX (fJ (aN (aN (aN (aN (aN (aN bX (dg (by exact List.mem_cons_self))) (aU rfl rfl)) (aU rfl rfl)) (aU rfl rfl)) (aU rfl rfl)) (aU rfl rfl)))) (dA (a := 1000) (b := 1000) (by exact List.mem_cons_self) rfl (bp (by exact List.mem_cons_self) rfl) pre_nil) (bk (a := 1000) (b := 1000) (by decide) rfl (bp (by decide) rfl) post_nil) (aU rfl rfl) ?_
 refine sU rfl (bQ rfl rfl (bQ rfl rfl (bZ rfl (cm rfl (aD (aC (aE (aA (eO rfl ?_)))))))))
 refine dm rfl (cm rfl (aD (aC (az ?_))))
 refine iq [1000] rfl rfl (by decide) (by repeat (first | exact gS | refine eG rfl (bp (by decide) rfl) ?_)) ?_
 all_goals exact iR (aU rfl rfl)
set_option maxRecDepth 100000 in
theorem F5 (th : Ty) (h1 : th.deps = []) (h2 : th.cdeps = []) (has : Nat → Bool) (less : Bool) (w : Way) (hf : oS Tryz.prog (Ty.nd th h1 h2) [Ty.int .i64 ((w.ix : Nat) : Int)] (Ty.bool (has w.ix))) : dJ Tryz.prog 202 [Ty.agg [Ty.nd th h1 h2, Ty.bool less], Ty.agg (gI.tys w)] (Ty.int .i64 (gD (cw has less) w)) := by
 refine ak Tryz.func202 rfl (by decide) Tryz.ntmps202 (by exact Nat.le_of_ble_eq_true rfl) fun w0 M0 => ?_
 refine aE (aA (bD rfl (bD rfl (bZ rfl (aD (aC (aE (aE (aA ?_)))))))))
 refine aL rfl rfl rfl rfl rfl (by decide) ?_
 refine aJ rfl rfl rfl rfl ?_
 refine aL rfl rfl rfl rfl rfl (by decide) ?_
 refine aJ rfl rfl rfl rfl (eV rfl hf rfl (dm rfl (aD (aC ?_))))
 refine cH rfl (fun hc1 => ?_) (fun hc1 => ?_)
 ·
  refine aE (aA (bZ rfl (aD (aC (az (aQ (bR rfl rfl ?_)))))))
  all_goals skip
  all_goals exact av rfl rfl (congrArg (Ty.int .i64) (Mz (l9 hc1)))
 refine aj (aC (aE (aE (aA ?_))))
 refine aL rfl rfl rfl rfl rfl (by decide) ?_
 refine aJ rfl rfl rfl rfl ?_
 refine aL rfl rfl rfl rfl rfl (by decide) ?_
 refine aJ rfl rfl rfl rfl (FY PO rfl rfl (aD (aC ?_)))
 refine cx rfl (fun hc2 => ?_) (fun hc2 => ?_)
 ·
  refine aE (aA (bZ rfl (aD (aC (az (aQ (bR rfl rfl ?_)))))))
  all_goals skip
  all_goals exact av rfl rfl (congrArg (Ty.int .i64) (No (ew hc1) hc2))
 refine aj (aC (aE (aA (bZ rfl (aD (aC (az (bR rfl rfl ?_))))))))
 all_goals skip
 all_goals exact av rfl rfl (congrArg (Ty.int .i64) (Nq (ew hc1) hc2))
set_option maxRecDepth 100000 in
theorem I5 (y : au) (fl : List cB) (a : List Int) (h : mA y fl a) (th : Ty) (h1 : th.deps = []) (h2 : th.cdeps = []) (has : Nat → Bool) (hf : ∀ i, i < fl.length → oS Tryz.prog (Ty.nd th h1 h2) [Ty.int .i64 ((i : Nat) : Int)] (Ty.bool (has i))) (less : Bool) : eP Tryz.prog 195 [1000] [(1000, Cont.vec cT 3 a)] [Ty.pp (eI y fl 1000 fl.length), Ty.agg [Ty.nd th h1 h2, Ty.bool less]] [(1000, Cont.vec cT 3 a)] (Ty.IM gI (cN fl a (y.cells + 1) (cw has less))) := by
 refine fS Tryz.func195 rfl (by decide) Tryz.ntmps195 (by exact Nat.le_of_ble_eq_true rfl) fun w0 M0 => ?_
 have hal := h.inb.1
 have hN := h.net
 have hfl := h.rB
 have hcl := nQ h.right
 have hG := tN (has := has) less
 refine aE (aA (bD rfl (lE rfl (aD (aC (Nh (aE (aA (jv rfl ?_)))))))))
 refine eM [] (sM y h.right) rfl (aW (nR (l1 := bE y) (l2 := [Ty.sl dn fl, Ty.vs 1000 fl.length]) rfl rfl) cR) (by exact dc _ _) ?_
 refine bq rfl rfl (by omega) (by omega) ?_
 refine bZ rfl (aD (aC (aE (cP mixed rfl (bF rfl ?_)))))
 refine qo (E := cT) (x0 := 0) rfl rfl rfl rfl rfl rfl rfl (by decide) rfl (by omega) (by (dsimp only; omega)) (by omega) ?_
 refine bF rfl ?_
 refine qo (E := gI) (x0 := default) rfl rfl rfl rfl rfl rfl rfl (by decide) rfl (by omega) (by (dsimp only; omega)) (by omega) ?_
 refine Ro rfl (Ro rfl (aD ?_))
 refine ⟨by kernel_rfl, ?_⟩
 refine aC (aE (aA (jv rfl ?_)))
 refine dL [(1000, 1000)] [] [(1000, Cont.vec cT 3 a)] (LY y fl a h) rfl rfl (aN bX (fJ (aN (aN (aN (aN (aN (aN bX (dg (by exact List.mem_cons_self))) (aU rfl rfl)) (aU rfl rfl)) (aU rfl rfl)) (aU rfl rfl)) (aU rfl rfl)))) (dA (a := 1000) (b := 1000) (by exact List.mem_cons_self) rfl (bp (by exact List.mem_cons_self) rfl) pre_nil) (bk (a := 1000) (b := 1000) (by decide) rfl (bp (by decide) rfl) post_nil) (aU rfl rfl) ?_
 refine Pj rfl (aD (aC (aE (aA (bZ rfl (aD (aC (aE (Nn ?_)))))))))
 refine aC (aE (aE (aA (bF rfl (bF rfl (aD (aC (aY ?_))))))))
 refine b9 (fun (x : {x : Nat × sO // r9 fl a (y.cells + 1) (cw has less) ⟨x.1, 0, 0, x.2⟩ ∧ x.2.at_ = -1}) => live [(0, Ty.pp (eI y fl 1000 fl.length)), (3, Ty.pp [Ty.nd th h1 h2, Ty.bool less]), (5, Ty.int .i64 ((y.cells + 1) : Nat)), (6, Ty.vs 23 (y.cells + 1)), (7, Ty.vs 25 (y.cells + 1)), (8, Ty.pm KI.enc (Ia gI) (eR fl a fl.length)), (27, Ty.int .i64 ((y.cells + 1) : Nat)), (28, Ty.int .i64 ((x.1.1 : Nat) : Int))] [(1000, Cont.vec cT 3 a), (23, Cont.vec cT 3 x.1.2.worth), (25, Cont.vec gI 199 x.1.2.by_)]) (fun x => (y.cells + 1) - x.1.1) (⟨(0, PX (y.cells + 1)), Rz (by omega), rfl⟩) ?_ fun x => ?_
 ·(refine cg.mk' ?_ ?_ <;> (repeat' (first | exact aI | exact aH | refine aB ?_ (Ty.aT _) | refine aB ?_ (Ty.aF _) | refine aG rfl (Cont.aF _) ?_)))
 have hxr : x.1.1 < (y.cells + 1) := x.2.1.inv.r
 have hxs : x.1.2.worth.length = (y.cells + 1) ∧ x.1.2.by_.length = (y.cells + 1) := ⟨(x.2.1.inv.small (by omega) hfl).1, (x.2.1.inv.small (by omega) hfl).2.1⟩
 refine aE (aA (bB rfl rfl rfl (aD (aC (aE ?_)))))
 refine qJ rfl (decide_eq_true (by show ((x.1.1 : Nat) : Int) < ((y.cells + 1) : Nat); have : x.1.1 < (y.cells + 1) := hxr; omega)) ?_
 refine aj (aC (aE (aY (aE (aA (bF rfl (bZ rfl (aD (aC ?_)))))))))
 refine aE (aA (bZ rfl (aD (aC (aE (aE (aA (bF rfl (bF rfl ?_)))))))))
 refine aD (aC (aY ?_))
 refine b9 (fun (z : {z : Nat × sO // r9 fl a (y.cells + 1) (cw has less) ⟨x.1.1, z.1, 0, z.2⟩}) => live [(0, Ty.pp (eI y fl 1000 fl.length)), (3, Ty.pp [Ty.nd th h1 h2, Ty.bool less]), (5, Ty.int .i64 ((y.cells + 1) : Nat)), (6, Ty.vs 23 (y.cells + 1)), (7, Ty.vs 25 (y.cells + 1)), (8, Ty.pm KI.enc (Ia gI) (eR fl a fl.length)), (9, Ty.int .i64 z.1.2.at_), (10, Ty.int .i64 ((x.1.1 : Nat) : Int)), (27, Ty.int .i64 ((y.cells + 1) : Nat)), (28, Ty.int .i64 ((x.1.1 : Nat) : Int)), (31, Ty.int .i64 ((y.cells + 1) : Nat)), (32, Ty.int .i64 ((z.1.1 : Nat) : Int))] [(1000, Cont.vec cT 3 a), (23, Cont.vec cT 3 z.1.2.worth), (25, Cont.vec gI 199 z.1.2.by_)]) (fun z => (y.cells + 1) - z.1.1) (⟨(0, x.1.2), x.2.1⟩) ?_ fun z => ?_
 ·(refine cg.mk' ?_ ?_ <;> (repeat' (first | exact aI | exact aH | refine aB ?_ (Ty.aT _) | refine aB ?_ (Ty.aF _) | refine aG rfl (Cont.aF _) ?_ | refine aB ?_ ?_)))
  all_goals exact Ty.bN x.2.2.symm
 have hzc : z.1.1 ≤ (y.cells + 1) := z.2.inv.c
 have hzs : z.1.2.worth.length = (y.cells + 1) ∧ z.1.2.by_.length = (y.cells + 1) := ⟨(z.2.inv.small (by omega) hfl).1, (z.2.inv.small (by omega) hfl).2.1⟩
 refine aE (aA (bB rfl rfl rfl (aD (aC (aE ?_)))))
 refine ah rfl (fun hc2 => ?_) (fun hc2 => ?_)
 ·
  refine aj (aC (aE (aY (aE (aA (bF rfl (bZ rfl (aD (aC ?_)))))))))
  refine aE (aA (Ou rfl (bF rfl ?_)))
  refine zC KI (z0 := []) rfl rfl (vZ _) oI vc CT ?_
  refine cD (E := gI) (xs := ot (eR fl a fl.length) ((z.1.1 : Nat) : Int)) rfl rfl rfl ?_
  refine bF rfl (aD (aC ?_))
  refine iC (s := 37) rfl (show (Ty.sl gI (ot (eR fl a fl.length) ((z.1.1 : Nat) : Int))).Sub (Ty.sl gI (bO fl a z.1.1)) from Ty.j7 sX) ?_
  refine iC (s := 38) rfl (Ty.bN (congrArg (fun l : List Way => ((l.length : Nat) : Int)) (sX (c := ((z.1.1 : Nat) : Int))))) ?_
  refine aY ?_
  refine b9 (fun (u : {u : Nat × sO // r9 fl a (y.cells + 1) (cw has less) ⟨x.1.1, z.1.1, u.1, u.2⟩}) => live [(0, Ty.pp (eI y fl 1000 fl.length)), (3, Ty.pp [Ty.nd th h1 h2, Ty.bool less]), (5, Ty.int .i64 ((y.cells + 1) : Nat)), (6, Ty.vs 23 (y.cells + 1)), (7, Ty.vs 25 (y.cells + 1)), (8, Ty.pm KI.enc (Ia gI) (eR fl a fl.length)), (9, Ty.int .i64 u.1.2.at_), (10, Ty.int .i64 ((x.1.1 : Nat) : Int)), (11, Ty.int .i64 ((z.1.1 : Nat) : Int)), (27, Ty.int .i64 ((y.cells + 1) : Nat)), (28, Ty.int .i64 ((x.1.1 : Nat) : Int)), (31, Ty.int .i64 ((y.cells + 1) : Nat)), (32, Ty.int .i64 ((z.1.1 : Nat) : Int)), (37, Ty.sl gI (bO fl a z.1.1)), (38, Ty.int .i64 (bO fl a z.1.1).length), (39, Ty.int .i64 ((u.1.1 : Nat) : Int))] [(1000, Cont.vec cT 3 a), (23, Cont.vec cT 3 u.1.2.worth), (25, Cont.vec gI 199 u.1.2.by_)]) (fun u => (bO fl a z.1.1).length - u.1.1) (⟨(0, z.1.2), z.2⟩) ?_ fun u => ?_
  ·(refine cg.mk' ?_ ?_ <;> (repeat' (first | exact aI | exact aH | refine aB ?_ (Ty.aT _) | refine aB ?_ (Ty.aF _) | refine aG rfl (Cont.aF _) ?_)))
  have hus : u.1.2.worth.length = (y.cells + 1) ∧ u.1.2.by_.length = (y.cells + 1) ∧ ∀ v, v < (y.cells + 1) → 0 ≤ nth u.1.2.worth v ∧ nth u.1.2.worth v ≤ 40000 := u.2.inv.small (by omega) hfl
  have hwl := ox (fl := fl) (a := a) (c := ((z.1.1 : Nat) : Int))
  refine aE (aA (bB rfl rfl rfl (aD (aC (aE ?_)))))
  refine ah rfl (fun hc3 => ?_) (fun hc3 => ?_)
  ·
   refine aj (aC (aE (aY (aE ?_))))
   have hzn : z.1.1 < (y.cells + 1) := by omega
   have hun : u.1.1 < (bO fl a z.1.1).length := by omega
   have hwo := (mm.1 (cX (xs := bO fl a z.1.1) (k := u.1.1) hun)).1
   have hwj := hwo
   have hwf := (hN.way hwo.1).2
   have haw := F0 hG (nth (bO fl a z.1.1) u.1.1)
   have hu1 := hus.2.2 z.1.1 hzn
   have hu2 := hus.2.2 ((nth (bO fl a z.1.1) u.1.1).fin fl).toNat (by omega)
   refine aA ?_
   refine aq rfl rfl rfl rfl rfl rfl (by omega) ?_
   refine aX rfl rfl rfl (by exact Nat.le_of_ble_eq_true rfl) ?_
   refine bu rfl (by exact List.cons_ne_nil _ _) rfl ?_
   refine bh rfl rfl (by decide) rfl rfl rfl rfl rfl rfl ?_
   refine aD (aC (aE (aA (jv rfl ?_))))
   refine bg rfl rfl (by decide) rfl rfl (by exact Nat.le_of_ble_eq_true rfl) ?_
   refine eM [1000] (GI y fl a h (nth (bO fl a z.1.1) u.1.1) hwj.1) rfl (aW (kj (aW (bU (bV rfl rfl)) (aW (bU (bV rfl rfl)) (aW (bU (bV rfl rfl)) (aW (bU (bV rfl rfl)) (aW (bU (bV rfl rfl)) (aW (jr rfl hal (by decide) rfl) cR))))))) (aW (bU (bV rfl rfl)) cR)) (by exact qY (by repeat (first | exact qU | refine oB (by exact dc _ _) ?_))) ?_
   refine sU rfl (bQ rfl rfl (bQ rfl rfl (bZ rfl (bZ rfl (aD (aC (aE (cP mixed rfl (L4 rfl ?_)))))))))
   refine bF rfl ?_
   refine dP rfl rfl rfl rfl rfl (by omega) ?_
   refine fA rfl rfl rfl (by decide) rfl rfl (by omega) rfl ?_
   refine aX rfl rfl rfl (by exact Nat.le_of_ble_eq_true rfl) ?_
   refine bg rfl rfl (by decide) rfl rfl (by exact Nat.le_of_ble_eq_true rfl) ?_
   refine af (F5 th h1 h2 has less (nth (bO fl a z.1.1) u.1.1) (hf _ hwj.1)) rfl rfl rfl rfl rfl ?_
   refine bq rfl rfl (by omega) (by omega) ?_
   refine L4 rfl (bF rfl ?_)
   refine gO rfl rfl rfl rfl rfl (by omega) (by omega) ?_
   refine fA rfl rfl rfl (by decide) rfl rfl (by omega) rfl ?_
   refine bB rfl rfl rfl (aD ?_)
   refine ⟨by kernel_rfl, ?_⟩
   refine aC ?_
   refine ah rfl (fun hc4 => ?_) (fun hc4 => ?_)
   ·
    refine aE (cP mixed rfl (L4 rfl (bF rfl (L4 rfl (bF rfl (L4 rfl (bF rfl ?_)))))))
    refine dP rfl rfl rfl rfl rfl (by omega) ?_
    refine fA rfl rfl rfl (by decide) rfl rfl (by omega) rfl ?_
    refine aX rfl rfl rfl (by exact Nat.le_of_ble_eq_true rfl) ?_
    refine bg rfl rfl (by decide) rfl rfl (by exact Nat.le_of_ble_eq_true rfl) ?_
    refine af (F5 th h1 h2 has less (nth (bO fl a z.1.1) u.1.1) (hf _ hwj.1)) rfl rfl rfl rfl rfl ?_
    refine bq rfl rfl (by omega) (by omega) ?_
    refine bg rfl rfl (by decide) rfl rfl (by exact Nat.le_of_ble_eq_true rfl) ?_
    refine bF rfl ?_
    refine gO rfl rfl rfl rfl rfl (by omega) (by omega) ?_
    refine jj rfl rfl rfl (by decide) rfl rfl (by exact (rfl : _ = Ty.int _ _)) rfl (by omega) (by decide) rfl rfl ?_
    refine gO rfl rfl rfl rfl rfl (by omega) (by omega) ?_
    refine n7 (E := gI) (z := (nth (bO fl a z.1.1) u.1.1)) ((nth (bO fl a z.1.1) u.1.1).fin fl).toNat rfl rfl rfl (by decide) rfl rfl rfl (by omega) ?_
    refine bZ rfl (aD ?_)
    refine ⟨by kernel_rfl, ?_⟩
    refine aC (aE (aA (bF rfl (bF rfl ?_))))
    refine gH rfl rfl (by omega) (by omega) ?_
    refine bB rfl rfl rfl (aD (aC ?_))
    refine ah rfl (fun hc5 => ?_) (fun hc5 => ?_)
    ·
     refine bz (gV rfl (aP (aP (gV rfl (gV rfl (aP (aP (gV rfl (aP ?_)))))))))
     refine gV rfl (aP (aP (aa rfl (aC (aE (aE ?_))))))
     obtain ⟨v, st, e1, e2, e3, hFd⟩ := u.2.hit hN hG hzn hun hc4 hc5
     obtain ⟨T, p, hC, p1, p2, p3, hX⟩ := hFd.SK hN
     refine jk (tg := 25) rfl (Cont.cy e2) ?_
     refine iC (s := 9) rfl (Ty.bN e3) ?_
     refine aA (bF rfl (bF rfl (aD (aC (aY ?_)))))
     refine b9 (fun (i : {i : Nat // i ≤ (y.cells + 1)}) => live [(0, Ty.pp (eI y fl 1000 fl.length)), (5, Ty.int .i64 ((y.cells + 1) : Nat)), (7, Ty.vs 25 (y.cells + 1)), (9, Ty.int .i64 ((fY (cK fl st) i.1 v : Nat) : Int)), (87, Ty.int .i64 ((y.cells + 1) : Nat)), (88, Ty.int .i64 ((i.1 : Nat) : Int))] [(1000, Cont.vec cT 3 a), (25, Cont.vec gI 199 st.by_)]) (fun i => (y.cells + 1) - i.1) (⟨0, by omega⟩) ?_ fun i => ?_
     ·(refine cg.mk' ?_ ?_ <;> (repeat' (first | exact aI | exact aH | refine aB ?_ (Ty.aT _) | refine aB ?_ (Ty.aF _) | refine aG rfl (Cont.aF _) ?_)))
     refine aE (aA (bB rfl rfl rfl (aD (aC (aE ?_)))))
     refine ah rfl (fun hc6 => ?_) (fun hc6 => ?_)
     ·
      refine aj (aC (aE (aY ?_)))
      have hch := hFd.chain hN (k := i.1) (by omega)
      have hbl := hFd.len
      refine aA (jv rfl (L4 rfl (bF rfl ?_)))
      refine dP rfl rfl rfl rfl rfl (by omega) ?_
      refine lB (fY (cK fl st) i.1 v) rfl rfl rfl (by decide) rfl rfl rfl (by omega) ?_
      refine eM [1000] (BI y fl a (nth st.by_ (fY (cK fl st) i.1 v)) hch.2.1.1) rfl (aW (kj (aW (bU (bV rfl rfl)) (aW (bU (bV rfl rfl)) (aW (bU (bV rfl rfl)) (aW (bU (bV rfl rfl)) (aW (bU (bV rfl rfl)) (aW (jr rfl hal (by decide) rfl) cR))))))) (aW (bU (bV rfl rfl)) cR)) (by exact dc _ _) ?_
      refine bZ rfl (aD (bI (aC (aA ?_))))
      refine bq rfl rfl (by omega) (by omega) ?_
      refine bF rfl (aD ?_)
      refine bM (⟨i.1 + 1, by omega⟩) ?_ (by show (y.cells + 1) - (i.1 + 1) < (y.cells + 1) - i.1; omega)
      (refine cg.mk' ?_ ?_ <;> (repeat' (first | exact aI | exact aH | refine aB ?_ (Ty.aT _) | refine aB ?_ (Ty.aF _) | refine aG rfl (Cont.aF _) ?_ | refine aB ?_ ?_)))
      all_goals skip
      all_goals exact Ty.bN hch.2.2
     refine bz (aP (aP (aa rfl (aC (aE ?_)))))
     have hbl := hFd.len
     have hin : i.1 = (y.cells + 1) := by have := i.2; omega
     refine iC (s := 9) rfl (Ty.bN (by rw [hin] : _ = ((fY (cK fl st) (y.cells + 1) v : Nat) : Int))) ?_
     refine aA (lE rfl (aD (aC (aE (aE (aA (bF rfl (bZ rfl (aD ?_)))))))))
     refine aC (aY ?_)
     refine b9 (fun (c : {c : Nat × List Way // OI fl a (y.cells + 1) st (fY (cK fl st) (y.cells + 1) v) p c}) => live [(0, Ty.pp (eI y fl 1000 fl.length)), (7, Ty.vs 25 (y.cells + 1)), (9, Ty.int .i64 ((fY (cK fl st) (y.cells + 1) v : Nat) : Int)), (16, Ty.row gI 199 118 c.1.2), (17, Ty.int .i64 ((c.1.1 : Nat) : Int))] [(1000, Cont.vec cT 3 a), (25, Cont.vec gI 199 st.by_)]) (fun c => p - c.1.2.length) (⟨(fY (cK fl st) (y.cells + 1) v, []), hX⟩) ?_ fun c => ?_
     ·(refine cg.mk' ?_ ?_ <;> (repeat' (first | exact aI | exact aH | refine aB ?_ (Ty.aT _) | refine aB ?_ (Ty.aF _) | refine aB ?_ Ty.gZ | refine aG rfl (Cont.aF _) ?_)))
      all_goals trace_state
     have hcx := c.2.at_
     have hci : c.1.2.length ≤ p := by obtain ⟨i, i1, _, i3⟩ := c.2.ix; omega
     refine aE (aE (aA (Eb rfl (G8 rfl rfl rfl (bB rfl rfl rfl (eO rfl ?_))))))
     apply aM (s := 101) rfl rfl rfl
     ·intro hg; apply aO; (refine bF rfl ?_); refine aD ?_; exact rfl
     ·exact rfl
     ·exact rfl
     apply aM (s := 101) rfl rfl rfl
     ·intro hg; apply aO; (refine bF rfl ?_); refine aD ?_; exact rfl
     ·exact rfl
     ·exact rfl
     apply aM (s := 101) rfl rfl rfl
     ·intro hg; apply aK (s := 102) rfl (by (rw [hg]; rfl)); apply aK (s := 103) rfl (by (rw [hg]; rfl)); apply aO; (refine bB rfl rfl rfl ?_); refine aD ?_; exact rfl
     ·exact rfl
     ·exact rfl
     refine ir rfl rfl (aD (aC ?_))
     refine cH rfl (fun hc7 => ?_) (fun hc7 => ?_)
     ·
      refine aj (aC (aE (aY (aA (Eb rfl (L4 rfl (bF rfl ?_)))))))
      refine dP rfl rfl rfl rfl rfl (by omega) ?_
      refine lB c.1.1 rfl rfl rfl (by decide) rfl rfl rfl (by omega) ?_
      refine bW (E := gI) (xs := [_]) rfl rfl rfl rfl rfl (by decide) (by decide) (by repeat (first | exact (aV.nil : aV _ _ [] _) | (show aV _ _ ((_, _) :: _) _; apply aV.agg; (· exact (rfl : _ = Ty.agg _))))) (by exact rfl) rfl ?_
      refine dj rfl rfl (by decide) rfl rfl rfl rfl rfl rfl (by decide) (by (simp <;> omega)) (by (simp <;> omega)) ?_
      refine yW rfl (aD (bI (aC (aA (jv rfl (L4 rfl (bF rfl ?_)))))))
      refine dP rfl rfl rfl rfl rfl (by omega) ?_
      refine lB c.1.1 rfl rfl rfl (by decide) rfl rfl rfl (by omega) ?_
      refine eM [1000] (BI y fl a (nth st.by_ c.1.1) hcx.2.1.1) rfl (aW (kj (aW (bU (bV rfl rfl)) (aW (bU (bV rfl rfl)) (aW (bU (bV rfl rfl)) (aW (bU (bV rfl rfl)) (aW (bU (bV rfl rfl)) (aW (jr rfl hal (by decide) rfl) cR))))))) (aW (bU (bV rfl rfl)) cR)) (by exact dc _ _) ?_
      refine bZ rfl (aD ?_)
      refine bM (⟨(cK fl st c.1.1, c.1.2 ++ [nth st.by_ c.1.1]), (c.2.next hN hC p3 p1 (OA hc7)).1⟩) ?_ (by exact RB (c.2.next hN hC p3 p1 (OA hc7)).2)
      (refine cg.mk' ?_ ?_ <;> (repeat' (first | exact aI | exact aH | refine aB ?_ (Ty.aT _) | refine aB ?_ (Ty.aF _) | refine aG rfl (Cont.aF _) ?_ | refine aB ?_ ?_)))
      all_goals skip
      all_goals exact Ty.bN hcx.2.2
     refine bz (aP (aP (aa rfl (aC (aE (aA (Eb rfl (yW rfl (aD ?_)))))))))
     refine aC (az (ug ?_))
     refine iq [1000] rfl rfl (by decide) (by repeat (first | exact gS | refine eG rfl (bp (by decide) rfl) ?_)) ?_
     all_goals skip
     all_goals exact Dh (by decide) rfl (by rw [hFd.same]; exact c.2.end (RP hc7)) (by rw [hFd.same]; exact SL c.2 (RP hc7))
    refine aj (bI (aC (aA ?_)))
    refine bq rfl rfl (by omega) (by omega) ?_
    refine bF rfl (aD ?_)
    refine bM (⟨(u.1.1 + 1, nB fl (cw has less) u.1.2 z.1.1 (nth (bO fl a z.1.1) u.1.1)), by exact u.2.Pu hN hG hzn hun hc4 hc5⟩) ?_ (by show (bO fl a z.1.1).length - (u.1.1 + 1) < (bO fl a z.1.1).length - u.1.1; omega)
    (refine cg.mk' ?_ ?_ <;> (repeat' (first | exact aI | exact aH | refine aB ?_ (Ty.aT _) | refine aB ?_ (Ty.aF _) | refine aG rfl (Cont.aF _) ?_ | refine aG rfl ?_ ?_ | refine aB ?_ ?_)))
    all_goals skip
    all_goals first | exact Cont.cy (Q8 hc4) | exact Cont.cy (RH hc4) | exact Ty.bN (Qd hc4)
   refine aj (bI (aC (aA ?_)))
   refine bq rfl rfl (by omega) (by omega) ?_
   refine bF rfl (aD ?_)
   refine bM (⟨(u.1.1 + 1, nB fl (cw has less) u.1.2 z.1.1 (nth (bO fl a z.1.1) u.1.1)), by exact u.2.RF hzn hun hc4⟩) ?_ (by show (bO fl a z.1.1).length - (u.1.1 + 1) < (bO fl a z.1.1).length - u.1.1; omega)
   (refine cg.mk' ?_ ?_ <;> (repeat' (first | exact aI | exact aH | refine aB ?_ (Ty.aT _) | refine aB ?_ (Ty.aF _) | refine aG rfl (Cont.aF _) ?_ | refine aG rfl ?_ ?_ | refine aB ?_ ?_)))
   all_goals skip
   all_goals first | exact Cont.cy (Qo hc4) | exact Cont.cy (Qi hc4) | exact Ty.bN (QG hc4)
  refine bz (aP (aP (aa rfl (bI (aC (aA ?_))))))
  refine bq rfl rfl (by omega) (by omega) ?_
  refine bF rfl (aD ?_)
  refine bM (⟨(z.1.1 + 1, u.1.2), u.2.cell (by show ¬ (y.cells + 1) ≤ z.1.1; omega) (by show (bO fl a z.1.1).length ≤ u.1.1; omega)⟩) ?_ (by show (y.cells + 1) - (z.1.1 + 1) < (y.cells + 1) - z.1.1; omega)
  (refine cg.mk' ?_ ?_ <;> (repeat' (first | exact aI | exact aH | refine aB ?_ (Ty.aT _) | refine aB ?_ (Ty.aF _) | refine aG rfl (Cont.aF _) ?_)))
  all_goals skip
 refine bz (aP (aP (aa rfl (aC (aE (aA (bF rfl (bB rfl rfl rfl (aD ?_)))))))))
 refine aC ?_
 refine ah rfl (fun hc8 => ?_) (fun hc8 => ?_)
 ·
  refine aE (aA (lE rfl (aD (aC (az (ay (aQ (aQ (ay ?_)))))))))
  refine aQ (ug ?_)
  refine iq [1000] rfl rfl (by decide) (by repeat (first | exact gS | refine eG rfl (bp (by decide) rfl) ?_)) ?_
  all_goals skip
  all_goals exact EY (z.2.stop (by show (y.cells + 1) ≤ z.1.1; omega) (by assumption))
 refine aj (bI (aC (aA ?_)))
 refine bq rfl rfl (by omega) (by omega) ?_
 refine bF rfl (aD ?_)
 refine bM (⟨(x.1.1 + 1, ⟨z.1.2.worth, z.1.2.by_, -1⟩), z.2.round (by show (y.cells + 1) ≤ z.1.1; omega) (by assumption), rfl⟩) ?_ (by show (y.cells + 1) - (x.1.1 + 1) < (y.cells + 1) - x.1.1; omega)
 (refine cg.mk' ?_ ?_ <;> (repeat' (first | exact aI | exact aH | refine aB ?_ (Ty.aT _) | refine aB ?_ (Ty.aF _) | refine aG rfl (Cont.aF _) ?_)))
 all_goals skip
end Go.Proofs.YtelbollidfdcjaaGreat
