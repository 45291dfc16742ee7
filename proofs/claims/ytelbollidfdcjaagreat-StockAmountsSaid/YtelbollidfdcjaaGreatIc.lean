/- Lemmas: the program and the reference walked, plain laws. -/
import Derived.Test.YtelbollidfdcjaaGreatIb
namespace Go.Proofs.YtelbollidfdcjaaGreat
open Go Go.T
set_option maxHeartbeats 2000000
structure bA.Small (y : bA) : Prop where
  bins : y.bins.length ≤ 1000
  moves : y.moves.length ≤ 1000
  levels : y.levels.length ≤ 1000
def xT (y : bA) : Ty := Ty.Ks 135 [eB y]
def Ft (y : bA) : Ty := Ty.pp [Ty.jD 142 [Ty.pp [xT y]]]
theorem Ee {y : bA} (h : kM y = false) : 1 ≤ y.days ∧ y.days ≤ 5 := by
 unfold kM at h
 simp only [Bool.or_eq_false_iff, Bool.not_eq_false', dA] at h
 exact h.1.1.1
def dz (y : bA) (k : Int) : Int := if bT y = 0 then if y.bin k = true then 0 else 1 else bT y
theorem FH {y : bA} {k : Int} (h : (decide (bT y = 0) && !y.bin k) = true) : 1 = dz y k := by
 rw [Bool.and_eq_true, decide_eq_true_eq, Bool.not_eq_true'] at h
 unfold dz; rw [if_pos h.1, if_neg (by rw [h.2]; decide)]
theorem Ep {y : bA} {k : Int} (h : (decide (bT y = 0) && !y.bin k) = false) : bT y = dz y k := by
 unfold dz
 by_cases e : bT y = 0
 ·rw [decide_eq_true e, Bool.true_and, Bool.not_eq_false'] at h
  rw [if_pos e, if_pos h, e]
 rw [if_neg e]
attribute [local irreducible] g6 fS m8 qg iZ iT ij ia ig qM iS qR dY gb qd gV qV nth fU dR av dK bodyPost Exit.then Exit.inBlock Code.wp Code.wpIn fR qb qX qT iw qW qc iY fC cT cU bodyPostM dr
set_option maxRecDepth 100000 in
theorem qo (n lo hi : Int) : dK Tryz.prog 111 [Ty.int .i64 n, Ty.int .i64 lo, Ty.int .i64 hi] (Ty.bool (qZ n lo hi)) := by
 refine aa Tryz.func111 rfl (by decide) Tryz.ntmps111 (by exact Nat.le_of_ble_eq_true rfl) fun w0 M0 => ?_
 refine aE (aA (cj rfl (aD (aB (aE (aA (bI rfl (bI rfl (bC rfl rfl rfl ?_)))))))))
 refine e8 rfl ?_
 apply aJ (s := 10) rfl rfl rfl
 ·intro hg; apply aO; (refine bI rfl ?_); refine aD ?_; exact rfl
 ·exact rfl
 ·exact rfl
 apply aJ (s := 10) rfl rfl rfl
 ·intro hg; apply aO; (refine bI rfl ?_); refine aD ?_; exact rfl
 ·exact rfl
 ·exact rfl
 apply aJ (s := 10) rfl rfl rfl
 ·intro hg; apply aH (s := 11) rfl (by (rw [hg]; rfl)); apply aH (s := 12) rfl (by (rw [hg]; rfl)); apply aO; (refine bC rfl rfl rfl ?_); refine aD ?_; exact rfl
 ·exact rfl
 ·exact rfl
 refine eC rfl rfl (cj rfl (aD (aB (ay (bJ rfl rfl ?_)))))
 all_goals exact bY rfl rfl
set_option maxRecDepth 100000 in
theorem EJ (y : bA) (hs : y.Small) (n : Int) : dK Tryz.prog 135 [eB y, Ty.int .i64 n] (Ty.bool (y.bin n)) := by
 refine aa Tryz.func135 rfl (by decide) Tryz.ntmps135 (by exact Nat.le_of_ble_eq_true rfl) fun w0 M0 => ?_
 have hs1 := hs.bins
 refine aE (aA (bD rfl (cj rfl (aD (aB (aE (aA (bI rfl ?_))))))))
 refine aI rfl rfl rfl rfl rfl (by decide) ?_
 refine aG rfl rfl rfl rfl (b9 rfl rfl rfl ?_)
 refine iA rfl rfl (by omega) (by omega) ?_
 refine aZ (qo _ _ _) rfl rfl rfl rfl rfl (cj rfl (aD (aB (ay (bJ rfl rfl ?_)))))
 all_goals exact bY rfl rfl
set_option maxRecDepth 100000 in
theorem MD (y : bA) (n : Int) : dK Tryz.prog 122 [eB y, Ty.int .i64 n] (Ty.bool (y.time n)) := by
 refine aa Tryz.func122 rfl (by decide) Tryz.ntmps122 (by exact Nat.le_of_ble_eq_true rfl) fun w0 M0 => ?_
 refine aE (aA (bD rfl (cj rfl (aD (aB (aE (aA (bI rfl ?_))))))))
 refine aI rfl rfl rfl rfl rfl (by decide) ?_
 refine aG rfl rfl rfl rfl (aZ (qo _ _ _) rfl rfl rfl rfl rfl (cj rfl (aD (aB (ay (bJ rfl rfl ?_))))))
 all_goals exact bY rfl rfl
set_option maxRecDepth 100000 in
theorem tA (s : Span) : dK Tryz.prog 145 [Ty.agg (dS.tys s)] (Ty.bool (eo s)) := by
 refine aa Tryz.func145 rfl (by decide) Tryz.ntmps145 (by exact Nat.le_of_ble_eq_true rfl) fun w0 M0 => ?_
 refine aE (aA (bD rfl (cj rfl (aD (aB (aE (aA ?_)))))))
 refine aI rfl rfl rfl rfl rfl (by decide) ?_
 refine aG rfl rfl rfl rfl (aZ (qo _ _ _) rfl rfl rfl rfl rfl (e8 rfl ?_))
 apply aJ (s := 6) rfl rfl rfl
 ·intro hg; apply aO; (refine aI rfl rfl rfl rfl rfl (by decide) ?_); refine aD ?_; exact rfl
 ·exact rfl
 ·exact rfl
 apply aJ (s := 6) rfl rfl rfl
 ·intro hg; apply aH (s := 7) rfl (by (rw [hg]; rfl)); apply aO; (refine aG rfl rfl rfl rfl ?_); refine aD ?_; exact rfl
 ·exact rfl
 ·exact rfl
 apply aJ (s := 6) rfl rfl rfl
 ·intro hg; apply aH (s := 8) rfl (by (rw [hg]; rfl)); apply aO; (refine aZ (qo _ _ _) rfl rfl rfl rfl rfl ?_); refine aD ?_; exact rfl
 ·exact rfl
 ·exact rfl
 refine eC rfl rfl (cj rfl (aD (aB (ay (bJ rfl rfl ?_)))))
 all_goals exact bY rfl rfl
set_option maxRecDepth 100000 in
theorem vJ (s : Span) : dK Tryz.prog 154 [Ty.agg (dS.tys s)] (Ty.bool (fO s)) := by
 refine aa Tryz.func154 rfl (by decide) Tryz.ntmps154 (by exact Nat.le_of_ble_eq_true rfl) fun w0 M0 => ?_
 refine aE (aA (bD rfl (cj rfl (aD (aB (aE (aA ?_)))))))
 refine aI rfl rfl rfl rfl rfl (by decide) ?_
 refine aG rfl rfl rfl rfl ?_
 refine aI rfl rfl rfl rfl rfl (by decide) ?_
 refine aG rfl rfl rfl rfl (bC rfl rfl rfl (cj rfl (aD (aB (ay (bJ rfl rfl ?_))))))
 all_goals exact bY rfl rfl
set_option maxRecDepth 100000 in
theorem Al (y : bA) (hs : y.Small) (n : Int) : dK Tryz.prog 142 [Ty.int .i64 n, Ty.pp [xT y]] (Ty.bool (y.fin n)) := by
 refine aa Tryz.func142 rfl (by decide) Tryz.ntmps142 (by exact Nat.le_of_ble_eq_true rfl) fun w0 M0 => ?_
 refine aE (aA (cj rfl (aD (aB (aE (aA (bI rfl (bC rfl rfl rfl (e8 rfl ?_)))))))))
 apply aJ (s := 6) rfl rfl rfl
 ·intro hg; apply aO; (refine aG rfl rfl rfl rfl ?_); refine aD ?_; exact rfl
 ·exact rfl
 ·exact rfl
 apply aJ (s := 6) rfl rfl rfl
 ·intro hg; apply aO; (refine bI rfl ?_); refine aD ?_; exact rfl
 ·exact rfl
 ·exact rfl
 apply aJ (s := 6) rfl rfl rfl
 ·intro hg; apply aH (s := 7) rfl (by (rw [hg]; rfl)); apply aH (s := 8) rfl (by (rw [hg]; rfl)); apply aO; (refine eI rfl (Dn (EJ y hs n) rfl rfl rfl rfl rfl rfl) rfl ?_); refine aD ?_; exact rfl
 ·exact rfl
 ·exact rfl
 refine iC rfl rfl (cj rfl (aD (aB (ay (bJ rfl rfl ?_)))))
 all_goals exact bY rfl rfl
set_option maxRecDepth 100000 in
theorem II (b : sU) : dK Tryz.prog 144 [Ty.agg (fJ.tys b)] (Ty.bool (qZ b.holds 0 300 && eo b.first)) := by
 refine aa Tryz.func144 rfl (by decide) Tryz.ntmps144 (by exact Nat.le_of_ble_eq_true rfl) fun w0 M0 => ?_
 refine aE (aA (bD rfl (cj rfl (aD (aB (aE (aA ?_)))))))
 refine aI rfl rfl rfl rfl rfl (by decide) ?_
 refine aG rfl rfl rfl rfl (aZ (qo _ _ _) rfl rfl rfl rfl rfl (e8 rfl ?_))
 apply aJ (s := 6) rfl rfl rfl
 ·intro hg; apply aO; (refine aI rfl rfl rfl rfl rfl (by decide) ?_); refine aD ?_; exact rfl
 ·exact rfl
 ·exact rfl
 apply aJ (s := 6) rfl rfl rfl
 ·intro hg; apply aH (s := 7) rfl (by (rw [hg]; rfl)); apply aO; (refine aU rfl rfl rfl (by exact Nat.le_of_ble_eq_true rfl) ?_); refine aD ?_; exact rfl
 ·exact rfl
 ·exact rfl
 apply aJ (s := 6) rfl rfl rfl
 ·intro hg; apply aH (s := 8) rfl (by (rw [hg]; rfl)); apply aO; (refine aZ (tA _) rfl rfl rfl rfl rfl ?_); refine aD ?_; exact rfl
 ·exact rfl
 ·exact rfl
 refine eC rfl rfl (cj rfl (aD (aB (ay (bJ rfl rfl ?_)))))
 all_goals exact bY rfl rfl
set_option maxRecDepth 100000 in
theorem He (m : Move) : dK Tryz.prog 147 [Ty.agg (eF.tys m)] (Ty.bool (eo m.sacks)) := by
 refine aa Tryz.func147 rfl (by decide) Tryz.ntmps147 (by exact Nat.le_of_ble_eq_true rfl) fun w0 M0 => ?_
 refine aE (aA (bD rfl (cj rfl (aD (aB (aE (aA ?_)))))))
 refine aI rfl rfl rfl rfl rfl (by decide) ?_
 refine aU rfl rfl rfl (by exact Nat.le_of_ble_eq_true rfl) ?_
 refine aZ (tA _) rfl rfl rfl rfl rfl (cj rfl (aD (aB (ay (bJ rfl rfl ?_)))))
 all_goals exact bY rfl rfl
set_option maxRecDepth 100000 in
theorem HT (l : Level) : dK Tryz.prog 149 [Ty.agg (dU.tys l)] (Ty.bool (eo l.sacks)) := by
 refine aa Tryz.func149 rfl (by decide) Tryz.ntmps149 (by exact Nat.le_of_ble_eq_true rfl) fun w0 M0 => ?_
 refine aE (aA (bD rfl (cj rfl (aD (aB (aE (aA ?_)))))))
 refine aI rfl rfl rfl rfl rfl (by decide) ?_
 refine aU rfl rfl rfl (by exact Nat.le_of_ble_eq_true rfl) ?_
 refine aZ (tA _) rfl rfl rfl rfl rfl (cj rfl (aD (aB (ay (bJ rfl rfl ?_)))))
 all_goals exact bY rfl rfl
set_option maxRecDepth 100000 in
theorem Hl (y : bA) (hs : y.Small) (hd : 1 ≤ y.days ∧ y.days ≤ 5) (m : Move) : dK Tryz.prog 150 [Ty.agg (eF.tys m), Ty.pp (bS y), Ft y] (Ty.bool ((qZ m.day 0 (y.days - 1) && y.fin m.src) && y.fin m.dst)) := by
 refine aa Tryz.func150 rfl (by decide) Tryz.ntmps150 (by exact Nat.le_of_ble_eq_true rfl) fun w0 M0 => ?_
 refine aE (aA (bD rfl (cj rfl (aD (aB (aE (aA ?_)))))))
 refine aI rfl rfl rfl rfl rfl (by decide) ?_
 refine aG rfl rfl rfl rfl ?_
 refine aI rfl rfl rfl rfl rfl (by decide) ?_
 refine aG rfl rfl rfl rfl ?_
 refine iA rfl rfl (by omega) (by omega) ?_
 refine aZ (qo _ _ _) rfl rfl rfl rfl rfl (e8 rfl ?_)
 apply aJ (s := 11) rfl rfl rfl
 ·intro hg; apply aO; (refine aG rfl rfl rfl rfl ?_); refine aD ?_; exact rfl
 ·exact rfl
 ·exact rfl
 apply aJ (s := 11) rfl rfl rfl
 ·intro hg; apply aO; (refine aI rfl rfl rfl rfl rfl (by decide) ?_); refine aD ?_; exact rfl
 ·exact rfl
 ·exact rfl
 apply aJ (s := 11) rfl rfl rfl
 ·intro hg; apply aH (s := 13) rfl (by (rw [hg]; rfl)); apply aO; (refine aG rfl rfl rfl rfl ?_); refine aD ?_; exact rfl
 ·exact rfl
 ·exact rfl
 apply aJ (s := 11) rfl rfl rfl
 ·intro hg; apply aH (s := 12) rfl (by (rw [hg]; rfl)); apply aH (s := 14) rfl (by (rw [hg]; rfl)); apply aO; (refine eI rfl (c9 (Al y hs m.src) rfl rfl rfl rfl rfl rfl) rfl ?_); refine aD ?_; exact rfl
 ·exact rfl
 ·exact rfl
 refine eC rfl rfl (e8 rfl ?_)
 apply aJ (s := 17) rfl rfl rfl
 ·intro hg; apply aO; (refine aG rfl rfl rfl rfl ?_); refine aD ?_; exact rfl
 ·exact rfl
 ·exact rfl
 apply aJ (s := 17) rfl rfl rfl
 ·intro hg; apply aO; (refine aI rfl rfl rfl rfl rfl (by decide) ?_); refine aD ?_; exact rfl
 ·exact rfl
 ·exact rfl
 apply aJ (s := 17) rfl rfl rfl
 ·intro hg; apply aH (s := 19) rfl (by (rw [hg]; rfl)); apply aO; (refine aG rfl rfl rfl rfl ?_); refine aD ?_; exact rfl
 ·exact rfl
 ·exact rfl
 apply aJ (s := 17) rfl rfl rfl
 ·intro hg; apply aH (s := 18) rfl (by (rw [hg]; rfl)); apply aH (s := 20) rfl (by (rw [hg]; rfl)); apply aO; (refine eI rfl (c9 (Al y hs m.dst) rfl rfl rfl rfl rfl rfl) rfl ?_); refine aD ?_; exact rfl
 ·exact rfl
 ·exact rfl
 refine eC rfl rfl (cj rfl (aD (aB (ay (bJ rfl rfl ?_)))))
 all_goals exact bY rfl rfl
set_option maxRecDepth 100000 in
theorem HY (y : bA) (hs : y.Small) (l : Level) : dK Tryz.prog 151 [Ty.agg (dU.tys l), Ty.pp (bS y), Ty.pp [xT y]] (Ty.bool (y.time l.day && y.bin l.bin)) := by
 refine aa Tryz.func151 rfl (by decide) Tryz.ntmps151 (by exact Nat.le_of_ble_eq_true rfl) fun w0 M0 => ?_
 refine aE (aA (bD rfl (cj rfl (aD (aB (aE (aA ?_)))))))
 refine aU rfl rfl rfl (by exact Nat.le_of_ble_eq_true rfl) ?_
 refine aI rfl rfl rfl rfl rfl (by decide) ?_
 refine aG rfl rfl rfl rfl (aZ (MD y _) rfl rfl rfl rfl rfl (e8 rfl ?_))
 apply aJ (s := 9) rfl rfl rfl
 ·intro hg; apply aO; (refine aG rfl rfl rfl rfl ?_); refine aD ?_; exact rfl
 ·exact rfl
 ·exact rfl
 apply aJ (s := 9) rfl rfl rfl
 ·intro hg; apply aO; (refine aI rfl rfl rfl rfl rfl (by decide) ?_); refine aD ?_; exact rfl
 ·exact rfl
 ·exact rfl
 apply aJ (s := 9) rfl rfl rfl
 ·intro hg; apply aH (s := 11) rfl (by (rw [hg]; rfl)); apply aO; (refine aG rfl rfl rfl rfl ?_); refine aD ?_; exact rfl
 ·exact rfl
 ·exact rfl
 apply aJ (s := 9) rfl rfl rfl
 ·intro hg; apply aH (s := 10) rfl (by (rw [hg]; rfl)); apply aH (s := 12) rfl (by (rw [hg]; rfl)); apply aO; (refine eI rfl (Dn (EJ y hs l.bin) rfl rfl rfl rfl rfl rfl) rfl ?_); refine aD ?_; exact rfl
 ·exact rfl
 ·exact rfl
 refine eC rfl rfl (cj rfl (aD (aB (ay (bJ rfl rfl ?_)))))
 all_goals exact bY rfl rfl
set_option maxRecDepth 100000 in
theorem IV (m : Move) : dK Tryz.prog 152 [Ty.agg (eF.tys m)] (Ty.bool (!decide (m.src = m.dst))) := by
 refine aa Tryz.func152 rfl (by decide) Tryz.ntmps152 (by exact Nat.le_of_ble_eq_true rfl) fun w0 M0 => ?_
 refine aE (aA (bD rfl (cj rfl (aD (aB (aE (aA ?_)))))))
 refine aI rfl rfl rfl rfl rfl (by decide) ?_
 refine aG rfl rfl rfl rfl ?_
 refine aI rfl rfl rfl rfl rfl (by decide) ?_
 refine aG rfl rfl rfl rfl (bC rfl rfl rfl (cj rfl (aD (aB (ay (bJ rfl rfl ?_))))))
 all_goals exact bY rfl rfl
set_option maxRecDepth 100000 in
theorem GR (b : sU) : dK Tryz.prog 153 [Ty.agg (fJ.tys b)] (Ty.bool (fO b.first)) := by
 refine aa Tryz.func153 rfl (by decide) Tryz.ntmps153 (by exact Nat.le_of_ble_eq_true rfl) fun w0 M0 => ?_
 refine aE (aA (bD rfl (cj rfl (aD (aB (aE (aA ?_)))))))
 refine aI rfl rfl rfl rfl rfl (by decide) ?_
 refine aU rfl rfl rfl (by exact Nat.le_of_ble_eq_true rfl) ?_
 refine aZ (vJ _) rfl rfl rfl rfl rfl (cj rfl (aD (aB (ay (bJ rfl rfl ?_)))))
 all_goals exact bY rfl rfl
set_option maxRecDepth 100000 in
theorem GV (m : Move) : dK Tryz.prog 155 [Ty.agg (eF.tys m)] (Ty.bool (fO m.sacks)) := by
 refine aa Tryz.func155 rfl (by decide) Tryz.ntmps155 (by exact Nat.le_of_ble_eq_true rfl) fun w0 M0 => ?_
 refine aE (aA (bD rfl (cj rfl (aD (aB (aE (aA ?_)))))))
 refine aI rfl rfl rfl rfl rfl (by decide) ?_
 refine aU rfl rfl rfl (by exact Nat.le_of_ble_eq_true rfl) ?_
 refine aZ (vJ _) rfl rfl rfl rfl rfl (cj rfl (aD (aB (ay (bJ rfl rfl ?_)))))
 all_goals exact bY rfl rfl
set_option maxRecDepth 100000 in
theorem Ek (l : Level) : dK Tryz.prog 156 [Ty.agg (dU.tys l)] (Ty.bool (fO l.sacks)) := by
 refine aa Tryz.func156 rfl (by decide) Tryz.ntmps156 (by exact Nat.le_of_ble_eq_true rfl) fun w0 M0 => ?_
 refine aE (aA (bD rfl (cj rfl (aD (aB (aE (aA ?_)))))))
 refine aI rfl rfl rfl rfl rfl (by decide) ?_
 refine aU rfl rfl rfl (by exact Nat.le_of_ble_eq_true rfl) ?_
 refine aZ (vJ _) rfl rfl rfl rfl rfl (cj rfl (aD (aB (ay (bJ rfl rfl ?_)))))
 all_goals exact bY rfl rfl
set_option maxRecDepth 100000 in
theorem kF (y : bA) (hs : y.Small) : dK Tryz.prog 70 [eB y] (Ty.int .i64 (bT y)) := by
 refine aa Tryz.func70 rfl (by decide) Tryz.ntmps70 (by exact Nat.le_of_ble_eq_true rfl) fun w0 M0 => ?_
 have hs1 := hs.bins
 have hs2 := hs.moves
 have hs3 := hs.levels
 refine aE (aA (bD rfl (bk rfl (aD (aB (aE (aA ?_)))))))
 refine aU rfl rfl rfl (by exact Nat.le_of_ble_eq_true rfl) ?_
 refine E5 (l := [eB y]) rfl ?_
 refine bu rfl (by exact List.cons_ne_nil _ _) rfl ?_
 refine dF rfl rfl (by decide) rfl rfl (by exact (rfl : _ = Ty.Ks _ _)) rfl (by exact Nat.le_of_ble_eq_true rfl) rfl rfl (by exact (rfl : _ = [_])) ?_
 refine aD (aB (aE ?_))
 refine jO (tg := 4) [(3, Ty.pp [xT y])] (by decide) rfl ⟨kC (T := 118) (tg := 4) (off := 0) (l := [xT y]) rfl rfl rfl (by decide), trivial⟩ ?_
 refine aA (cw rfl ?_)
 refine bu rfl (by exact List.cons_ne_nil _ _) rfl ?_
 refine dF rfl rfl (by decide) rfl rfl (by exact (rfl : _ = Ty.jD _ _)) rfl (by exact Nat.le_of_ble_eq_true rfl) rfl rfl (by exact (rfl : _ = [_])) ?_
 refine aD (aB (aE (af (aE ?_))))
 refine jO (tg := 5) [(4, Ft y)] (by decide) rfl ⟨kC (T := 118) (tg := 5) (off := 0) (l := [Ty.jD 142 [Ty.pp [xT y]]]) rfl rfl rfl (by decide), trivial⟩ ?_
 refine aA ?_
 refine aI rfl rfl rfl rfl rfl (by decide) ?_
 refine aG rfl rfl rfl rfl (aZ (qo _ _ _) rfl rfl rfl rfl rfl (dX rfl (e8 rfl ?_)))
 apply aJ (s := 13) rfl rfl rfl
 ·intro hg; apply aO; (refine aI rfl rfl rfl rfl rfl (by decide) ?_); refine aD ?_; exact rfl
 ·exact rfl
 ·exact rfl
 apply aJ (s := 13) rfl rfl rfl
 ·intro hg; apply aH (s := 14) rfl (by (rw [hg]; rfl)); apply aO; (refine aG rfl rfl rfl rfl ?_); refine aD ?_; exact rfl
 ·exact rfl
 ·exact rfl
 apply aJ (s := 13) rfl rfl rfl
 ·intro hg; apply aH (s := 15) rfl (by (rw [hg]; rfl)); apply aO; (refine b9 rfl rfl rfl ?_); refine aD ?_; exact rfl
 ·exact rfl
 ·exact rfl
 apply aJ (s := 13) rfl rfl rfl
 ·intro hg; apply aH (s := 16) rfl (by (rw [hg]; rfl)); apply aO; (refine aZ (qo _ _ _) rfl rfl rfl rfl rfl ?_); refine aD ?_; exact rfl
 ·exact rfl
 ·exact rfl
 apply aJ (s := 13) rfl rfl rfl
 ·intro hg; apply aH (s := 17) rfl (by (rw [hg]; rfl)); apply aO; (refine dX rfl ?_); refine aD ?_; exact rfl
 ·exact rfl
 ·exact rfl
 refine iC rfl rfl (e8 rfl ?_)
 apply aJ (s := 20) rfl rfl rfl
 ·intro hg; apply aO; (refine aI rfl rfl rfl rfl rfl (by decide) ?_); refine aD ?_; exact rfl
 ·exact rfl
 ·exact rfl
 apply aJ (s := 20) rfl rfl rfl
 ·intro hg; apply aH (s := 21) rfl (by (rw [hg]; rfl)); apply aO; (refine aG rfl rfl rfl rfl ?_); refine aD ?_; exact rfl
 ·exact rfl
 ·exact rfl
 apply aJ (s := 20) rfl rfl rfl
 ·intro hg; apply aH (s := 22) rfl (by (rw [hg]; rfl)); apply aO; (refine b9 rfl rfl rfl ?_); refine aD ?_; exact rfl
 ·exact rfl
 ·exact rfl
 apply aJ (s := 20) rfl rfl rfl
 ·intro hg; apply aH (s := 23) rfl (by (rw [hg]; rfl)); apply aO; (refine bC rfl rfl rfl ?_); refine aD ?_; exact rfl
 ·exact rfl
 ·exact rfl
 refine iC rfl rfl (e8 rfl ?_)
 apply aJ (s := 26) rfl rfl rfl
 ·intro hg; apply aO; (refine aI rfl rfl rfl rfl rfl (by decide) ?_); refine aD ?_; exact rfl
 ·exact rfl
 ·exact rfl
 apply aJ (s := 26) rfl rfl rfl
 ·intro hg; apply aH (s := 27) rfl (by (rw [hg]; rfl)); apply aO; (refine aG rfl rfl rfl rfl ?_); refine aD ?_; exact rfl
 ·exact rfl
 ·exact rfl
 apply aJ (s := 26) rfl rfl rfl
 ·intro hg; apply aH (s := 28) rfl (by (rw [hg]; rfl)); apply aO; (refine b9 rfl rfl rfl ?_); refine aD ?_; exact rfl
 ·exact rfl
 ·exact rfl
 apply aJ (s := 26) rfl rfl rfl
 ·intro hg; apply aH (s := 29) rfl (by (rw [hg]; rfl)); apply aO; (refine bC rfl rfl rfl ?_); refine aD ?_; exact rfl
 ·exact rfl
 ·exact rfl
 refine iC rfl rfl (cj rfl (aD (aB ?_)))
 refine bt rfl (fun hc1 => ?_) (fun hc1 => ?_)
 ·
  refine aE (aA (bk rfl (aD (aB (ay (au (aQ (bJ rfl rfl ?_))))))))
  all_goals skip
  exact ah rfl rfl (congrArg (Ty.int .i64) (by rw [bT, if_pos (show kM y = true from hc1)]))
 refine aE ?_
 refine sC (B := live [(1, Ty.pp (bS y)), (3, Ty.pp [xT y]), (4, Ft y)] []) ?_ ?_
 ·(refine cv.mk' ?_ ?_ <;> (repeat' (first | exact aM | exact aL | refine aC ?_ (Ty.aV _) | refine aC ?_ (Ty.aF _))))
 refine aA ?_
 refine aI rfl rfl rfl rfl rfl (by decide) ?_
 refine aG rfl rfl rfl rfl ?_
 refine aZ (uB y.bins (Ty.jD _ []) rfl (fun b => qZ b.holds 0 300 && eo b.first) rfl rfl fun b _ => c9 (II b) rfl rfl rfl rfl rfl rfl) rfl rfl rfl rfl rfl ?_
 refine dX rfl (cj rfl (aD (aB ?_)))
 refine bt rfl (fun hc2 => ?_) (fun hc2 => ?_)
 ·
  refine aE (aA (bk rfl (aD (aB (ay (au (aQ (bJ rfl rfl ?_))))))))
  all_goals skip
  exact ah rfl rfl (congrArg (Ty.int .i64) (by rw [bT, if_neg (ng (show kM y = false from hc1)), if_pos (show jt y = true from hc2)]))
 refine aE (aA ?_)
 refine aI rfl rfl rfl rfl rfl (by decide) ?_
 refine aG rfl rfl rfl rfl ?_
 refine aZ (mH y.moves (Ty.jD _ []) rfl (fun m => eo m.sacks) rfl rfl fun m _ => c9 (He m) rfl rfl rfl rfl rfl rfl) rfl rfl rfl rfl rfl ?_
 refine dX rfl (e8 rfl ?_)
 apply aJ (s := 42) rfl rfl rfl
 ·intro hg; apply aO; (refine aI rfl rfl rfl rfl rfl (by decide) ?_); refine aD ?_; exact rfl
 ·exact rfl
 ·exact rfl
 apply aJ (s := 42) rfl rfl rfl
 ·intro hg; apply aH (s := 43) rfl (by (rw [hg]; rfl)); apply aO; (refine aG rfl rfl rfl rfl ?_); refine aD ?_; exact rfl
 ·exact rfl
 ·exact rfl
 apply aJ (s := 42) rfl rfl rfl
 ·intro hg; apply aH (s := 44) rfl (by (rw [hg]; rfl)); apply aO; (refine aZ (mN y.levels (Ty.jD _ []) rfl (fun l => eo l.sacks) rfl rfl fun l _ => c9 (HT l) rfl rfl rfl rfl rfl rfl) rfl rfl rfl rfl rfl ?_); refine aD ?_; exact rfl
 ·exact rfl
 ·exact rfl
 apply aJ (s := 42) rfl rfl rfl
 ·intro hg; apply aH (s := 45) rfl (by (rw [hg]; rfl)); apply aO; (refine dX rfl ?_); refine aD ?_; exact rfl
 ·exact rfl
 ·exact rfl
 refine iC rfl rfl (cj rfl (aD (aB ?_)))
 refine bt rfl (fun hc3 => ?_) (fun hc3 => ?_)
 ·
  refine aE (aA (bk rfl (aD (aB (ay (au (aQ (bJ rfl rfl ?_))))))))
  all_goals skip
  exact ah rfl rfl (congrArg (Ty.int .i64) (by rw [bT, if_neg (ng (show kM y = false from hc1)), if_neg (ng (show jt y = false from hc2)), if_pos (show iO y = true from hc3)]))
 refine aE ?_
 refine sC (B := live [(1, Ty.pp (bS y)), (3, Ty.pp [xT y]), (4, Ft y)] []) ?_ ?_
 ·(refine cv.mk' ?_ ?_ <;> (repeat' (first | exact aM | exact aL | refine aC ?_ (Ty.aV _) | refine aC ?_ (Ty.aF _))))
 have hd := Ee hc1
 refine aA ?_
 refine aI rfl rfl rfl rfl rfl (by decide) ?_
 refine aG rfl rfl rfl rfl (cw rfl ?_)
 refine aZ (mH y.moves (Ty.jD _ [Ty.pp (bS y), Ft y]) rfl (fun m => (qZ m.day 0 (y.days - 1) && y.fin m.src) && y.fin m.dst) rfl rfl fun m _ => c9 (Hl y hs hd m) rfl rfl rfl rfl rfl rfl) rfl rfl rfl rfl rfl ?_
 refine dX rfl (cj rfl (aD (aB ?_)))
 refine bt rfl (fun hc4 => ?_) (fun hc4 => ?_)
 ·
  refine aE (aA (bk rfl (aD (aB (ay (au (aQ (bJ rfl rfl ?_))))))))
  all_goals skip
  exact ah rfl rfl (congrArg (Ty.int .i64) (by rw [bT, if_neg (ng (show kM y = false from hc1)), if_neg (ng (show jt y = false from hc2)), if_neg (ng (show iO y = false from hc3)), if_pos (show xJ y = true from hc4)]))
 refine aE (aA ?_)
 refine aI rfl rfl rfl rfl rfl (by decide) ?_
 refine aG rfl rfl rfl rfl (cw rfl ?_)
 refine aZ (mN y.levels (Ty.jD _ [Ty.pp (bS y), Ty.pp [xT y]]) rfl (fun l => y.time l.day && y.bin l.bin) rfl rfl fun l _ => c9 (HY y hs l) rfl rfl rfl rfl rfl rfl) rfl rfl rfl rfl rfl ?_
 refine dX rfl (cj rfl (aD (aB ?_)))
 refine bt rfl (fun hc5 => ?_) (fun hc5 => ?_)
 ·
  refine aE (aA (bk rfl (aD (aB (ay (au (aQ (bJ rfl rfl ?_))))))))
  all_goals skip
  exact ah rfl rfl (congrArg (Ty.int .i64) (by rw [bT, if_neg (ng (show kM y = false from hc1)), if_neg (ng (show jt y = false from hc2)), if_neg (ng (show iO y = false from hc3)), if_neg (ng (show xJ y = false from hc4)), if_pos (show qQ y = true from hc5)]))
 refine aE ?_
 refine sC (B := live [(1, Ty.pp (bS y)), (3, Ty.pp [xT y]), (4, Ft y)] []) ?_ ?_
 ·(refine cv.mk' ?_ ?_ <;> (repeat' (first | exact aM | exact aL | refine aC ?_ (Ty.aV _) | refine aC ?_ (Ty.aF _))))
 refine aA ?_
 refine aI rfl rfl rfl rfl rfl (by decide) ?_
 refine aG rfl rfl rfl rfl ?_
 refine aZ (mH y.moves (Ty.jD _ []) rfl (fun m => !decide (m.src = m.dst)) rfl rfl fun m _ => c9 (IV m) rfl rfl rfl rfl rfl rfl) rfl rfl rfl rfl rfl ?_
 refine dX rfl (cj rfl (aD (aB ?_)))
 refine bt rfl (fun hc6 => ?_) (fun hc6 => ?_)
 ·
  refine aE (aA (bk rfl (aD (aB (ay (au (aQ (bJ rfl rfl ?_))))))))
  all_goals skip
  exact ah rfl rfl (congrArg (Ty.int .i64) (by rw [bT, if_neg (ng (show kM y = false from hc1)), if_neg (ng (show jt y = false from hc2)), if_neg (ng (show iO y = false from hc3)), if_neg (ng (show xJ y = false from hc4)), if_neg (ng (show qQ y = false from hc5)), if_pos (show oW y = true from hc6)]))
 refine aE (aA ?_)
 refine aI rfl rfl rfl rfl rfl (by decide) ?_
 refine aG rfl rfl rfl rfl ?_
 refine aZ (uB y.bins (Ty.jD _ []) rfl (fun b => fO b.first) rfl rfl fun b _ => c9 (GR b) rfl rfl rfl rfl rfl rfl) rfl rfl rfl rfl rfl ?_
 refine dX rfl (e8 rfl ?_)
 apply aJ (s := 70) rfl rfl rfl
 ·intro hg; apply aO; (refine aI rfl rfl rfl rfl rfl (by decide) ?_); refine aD ?_; exact rfl
 ·exact rfl
 ·exact rfl
 apply aJ (s := 70) rfl rfl rfl
 ·intro hg; apply aH (s := 71) rfl (by (rw [hg]; rfl)); apply aO; (refine aG rfl rfl rfl rfl ?_); refine aD ?_; exact rfl
 ·exact rfl
 ·exact rfl
 apply aJ (s := 70) rfl rfl rfl
 ·intro hg; apply aH (s := 72) rfl (by (rw [hg]; rfl)); apply aO; (refine aZ (mH y.moves (Ty.jD _ []) rfl (fun m => fO m.sacks) rfl rfl fun m _ => c9 (GV m) rfl rfl rfl rfl rfl rfl) rfl rfl rfl rfl rfl ?_); refine aD ?_; exact rfl
 ·exact rfl
 ·exact rfl
 apply aJ (s := 70) rfl rfl rfl
 ·intro hg; apply aH (s := 73) rfl (by (rw [hg]; rfl)); apply aO; (refine dX rfl ?_); refine aD ?_; exact rfl
 ·exact rfl
 ·exact rfl
 refine iC rfl rfl (e8 rfl ?_)
 apply aJ (s := 76) rfl rfl rfl
 ·intro hg; apply aO; (refine aI rfl rfl rfl rfl rfl (by decide) ?_); refine aD ?_; exact rfl
 ·exact rfl
 ·exact rfl
 apply aJ (s := 76) rfl rfl rfl
 ·intro hg; apply aH (s := 77) rfl (by (rw [hg]; rfl)); apply aO; (refine aG rfl rfl rfl rfl ?_); refine aD ?_; exact rfl
 ·exact rfl
 ·exact rfl
 apply aJ (s := 76) rfl rfl rfl
 ·intro hg; apply aH (s := 78) rfl (by (rw [hg]; rfl)); apply aO; (refine aZ (mN y.levels (Ty.jD _ []) rfl (fun l => fO l.sacks) rfl rfl fun l _ => c9 (Ek l) rfl rfl rfl rfl rfl rfl) rfl rfl rfl rfl rfl ?_); refine aD ?_; exact rfl
 ·exact rfl
 ·exact rfl
 apply aJ (s := 76) rfl rfl rfl
 ·intro hg; apply aH (s := 79) rfl (by (rw [hg]; rfl)); apply aO; (refine dX rfl ?_); refine aD ?_; exact rfl
 ·exact rfl
 ·exact rfl
 refine iC rfl rfl (cj rfl (aD (aB ?_)))
 refine bt rfl (fun hc7 => ?_) (fun hc7 => ?_)
 ·
  refine aE (aA (bk rfl (aD (aB (ay (au (aQ (bJ rfl rfl ?_))))))))
  all_goals skip
  exact ah rfl rfl (congrArg (Ty.int .i64) (by rw [bT, if_neg (ng (show kM y = false from hc1)), if_neg (ng (show jt y = false from hc2)), if_neg (ng (show iO y = false from hc3)), if_neg (ng (show xJ y = false from hc4)), if_neg (ng (show qQ y = false from hc5)), if_neg (ng (show oW y = false from hc6)), if_pos (show om y = true from hc7)]))
 refine aq (bM (aB (aE (aA (bk rfl (aD (aB (ay (bJ rfl rfl ?_)))))))))
 all_goals skip
 exact ah rfl rfl (congrArg (Ty.int .i64) (by rw [bT, if_neg (ng (show kM y = false from hc1)), if_neg (ng (show jt y = false from hc2)), if_neg (ng (show iO y = false from hc3)), if_neg (ng (show xJ y = false from hc4)), if_neg (ng (show qQ y = false from hc5)), if_neg (ng (show oW y = false from hc6)), if_neg (ng (show om y = false from hc7))]))
set_option maxRecDepth 100000 in
theorem zw (y : bA) (hs : y.Small) (k : Int) : dK Tryz.prog 90 [eB y, Ty.int .i64 k] (Ty.int .i64 (dz y k)) := by
 refine aa Tryz.func90 rfl (by decide) Tryz.ntmps90 (by exact Nat.le_of_ble_eq_true rfl) fun w0 M0 => ?_
 refine aE (aA (bD rfl (bk rfl (aD (aB (aE (aA ?_)))))))
 refine aU rfl rfl rfl (by exact Nat.le_of_ble_eq_true rfl) ?_
 refine aZ (kF y hs) rfl rfl rfl rfl rfl (bk rfl (aD (aB (aE (aE (aA (bI rfl (bC rfl rfl rfl (e8 rfl ?_)))))))))
 apply aJ (s := 10) rfl rfl rfl
 ·intro hg; apply aO; (refine aU rfl rfl rfl (by exact Nat.le_of_ble_eq_true rfl) ?_); refine aD ?_; exact rfl
 ·exact rfl
 ·exact rfl
 apply aJ (s := 10) rfl rfl rfl
 ·intro hg; apply aO; (refine bI rfl ?_); refine aD ?_; exact rfl
 ·exact rfl
 ·exact rfl
 apply aJ (s := 10) rfl rfl rfl
 ·intro hg; apply aH (s := 11) rfl (by (rw [hg]; rfl)); apply aH (s := 12) rfl (by (rw [hg]; rfl)); apply aO; (refine aZ (EJ y hs _) rfl rfl rfl rfl rfl ?_); refine aD ?_; exact rfl
 ·exact rfl
 ·exact rfl
 apply aJ (s := 10) rfl rfl rfl
 ·intro hg; apply aH (s := 13) rfl (by (rw [hg]; rfl)); apply aO; (refine dX rfl ?_); refine aD ?_; exact rfl
 ·exact rfl
 ·exact rfl
 refine eC rfl rfl (aD (aB ?_))
 refine bt rfl (fun hc1 => ?_) (fun hc1 => ?_)
 ·
  refine aA (bk rfl (aD (aB (aE (aA (bI rfl (bk rfl (aD (aB ?_)))))))))
  refine ay (bJ rfl rfl ?_)
  all_goals skip
  all_goals exact ah rfl rfl (congrArg (Ty.int .i64) (FH hc1))
 refine aq (aB (aE (aA (bI rfl (bk rfl (aD (aB (ay (bJ rfl rfl ?_)))))))))
 all_goals skip
 all_goals exact ah rfl rfl (congrArg (Ty.int .i64) (Ep hc1))
end Go.Proofs.YtelbollidfdcjaaGreat
namespace Go.T
open Go Go.RowKit
def uU (A : As) (L : List Nat) (s t : Ty) : Prop := ∀ w M v, Wf w M → (∀ x ∈ A.tags, x.1 ∈ L → x.2.den w M x.1) → s.den w M v → t.den w (pI M L) v
def pE (A : As) (L : List Nat) : List Ty → List Ty → Prop
  | [], [] => True
  | s :: ss, t :: ts => uU A L s t ∧ pE A L ss ts
  | _, _ => False
theorem cY {A : As} {L : List Nat} : pE A L [] [] := trivial
theorem aY {A : As} {L : List Nat} {s t : Ty} {ss ts : List Ty} (h : uU A L s t) (h' : pE A L ss ts) : pE A L (s :: ss) (t :: ts) := ⟨h, h'⟩
theorem uF {A : As} {L : List Nat} {w : World} {M : bB} (wf : Wf w M) (ht : ∀ x ∈ A.tags, x.1 ∈ L → x.2.den w M x.1) : ∀ {ss ts : List Ty} {vs : List Value}, pE A L ss ts → cB w M ss vs → cB w (pI M L) ts vs
  | [], [], [], _, _ => trivial
  | _ :: _, _ :: _, _ :: _, ⟨h, h'⟩, ⟨h1, h2⟩ => ⟨h _ _ _ wf ht h1, uF wf ht h' h2⟩
theorem bV {A : As} {L : List Nat} {s t : Ty} (h : E0 L s t) : uU A L s t := fun w M v wf _ hd => h w M v wf hd
theorem jY {A : As} {L : List Nat} {α : Type} {E : El α} {T tg n : Nat} {xs : List α} (hc : A.tag tg = some (.vec E T xs)) (hn : xs.length = n) (h1 : fN tg) (hL : L.contains tg = true) : uU A L (.vs tg n) (.sl E xs) := fun w M v wf ht hd => by
 have hL' : tg ∈ L := by simpa using hL
 have hv : gb E T xs w M tg := ht _ (cW hc) hL'
 subst hn
 rcases hd with ⟨h0, rfl⟩ | ⟨b, cc, hb, e, hn1, hn2⟩
 ·exact ⟨none, 0, by rw [h0], by omega, by simp [maxLen], fun h => absurd h (by omega)⟩
 refine ⟨_, cc, e, hn1, hn2, fun _ => ⟨b, 0, rfl, zP hb hL', wf.lt b _ hb, fun i t hi => ?_⟩⟩
 obtain ⟨u, hu, hdu⟩ := lz wf h1 hb hv hi
 refine ⟨u, by rw [Nat.zero_add]; exact hu, t.mono (S := fun _ => True) (K := fun _ => True) (w := w) ⟨Nat.le_refl _, rfl, rfl, rfl, fun b _ hm => ⟨jJ hm, rfl⟩, fun b t _ h => absurd trivial h⟩ ?_ ?_ hdu⟩
 ·intro u hu
  have : u ∈ cC (xs.flatMap E.tys) := List.mem_flatMap.2 ⟨t, List.mem_of_getElem? hi, hu⟩
  rw [E.cO] at this; cases this
 intro u hu
 have : u ∈ bX (xs.flatMap E.tys) := List.mem_flatMap.2 ⟨t, List.mem_of_getElem? hi, hu⟩
 rw [E.cD] at this; cases this
section
variable {P : Program} {fr : Fr} {ops : Array Oper} {A : As} {rest : List Oper} {K : As → List (As × Fx) → Prop} {d : Nat} {t ty' : TypeId} {p : String} {e : Array Edge} {Q : Exit → Act → World → Prop} {c : Code}
theorem eM (L : List Nat) {f : FuncId} {args : List Ty} {res : Ty} (hF : dK P f args res) {xs : List Operand} {ats : Array TypeId} {ss : List Ty} (hx : mw A fr xs = ss) (hl : pE A L ss args) (hp : res.Plain)
 (h : av P fr ops rest (A.set d res) fun A' l => K A' ((A, { d := some d, ty := res, rs := xs.flatMap bw, rt := L }) :: l)) : av P fr ops (⟨some d, .call ⟨.value (.func f), xs.toArray, ats⟩, t, p, e, none⟩ :: rest) A K := by
 refine ⟨{ d := some d, ty := res, rs := xs.flatMap bw, rt := L }, ⟨rfl, by simp, by simp, by simp, fun a w M wf _ hrd htg => ?_⟩, h⟩
 rw [if_pos (by simp [Region.wanted])]
 have hv : cB w M ss (xs.map a.eval) := hx ▸ gF hrd fun x hx c hc => List.mem_flatMap.2 ⟨x, hx, hc⟩
 have hc := hF.2 w _ _ (EG (L := L) wf) qD (uF wf htg hl hv)
 have hrun : (execOp a.eval ⟨some d, .call ⟨.value (.func f), xs.toArray, ats⟩, t, p, e, none⟩).run P w = .ok (.enter f (xs.map a.eval).toArray) w := by
  simp [execOp, resolve, Act.eval, Deferred.ofValue, invoke, lD hF]
 refine kH hrun ?_
 refine hc.mono fun en w' ⟨r, M', he, wf', le, hden⟩ => ?_
 obtain ⟨h1, h2, h3⟩ := wg wf le hp hden
 exact ⟨r, he, r, rfl, _, h1, h2, h3, by simp⟩
end
section
open Go.RowKit
variable {P : Program} {A : As} {fn : Func} {n : Nat} {w0 : World} {M0 : bB} {F : List Nat} {post : List (Nat × Cont)} [T : kf P]
end
section
variable {P : Program} {fr : Fr} {ops : Array Oper} {A : As} {rest : List Oper} {K : As → List (As × Fx) → Prop} {d : Nat} {t ty' : TypeId} {p : String} {e : Array Edge} [T : kf P]
def N8 (w : World) (M : bB) (J : Nat) (v : Value) : Prop := v = .slice none 0 0 ∨ ∃ g n c cur T, v = .slice (some ⟨g, 0, none⟩) n c ∧ M g = some J ∧ w.heap[g]? = some (.cells cur T (0, 0)) ∧ n ≤ cur.size
def Cont.fit (vs : List Value) : Cont :=
  { den := fun w M J => ∀ v ∈ vs, N8 w M J v
    mono := fun le _ _ hs hk h v hv => (h v hv).imp id fun ⟨g, n, c, cur, T, e, hg, hh, hn⟩ => let ⟨h1, h2⟩ := le.own g _ hg hk
      ⟨g, n, c, cur, T, e, h1, (h2 hs).trans hh, hn⟩ }
end
instance : Inhabited {v : Value // v.oneCell' = true} := ⟨⟨.bool true, rfl⟩⟩
section
variable {P : Program} {fr : Fr} {A : As} {Q : Exit → Act → World → Prop} {code : Code}
end
end Go.T
namespace Go.T
open Go Go.RowKit
def xA {α : Type} (E : El α) (T J : Nat) (xs : List α) (w : World) (M : bB) (v : Value) : Prop :=
  (xs = [] ∧ v = .slice none 0 0) ∨ ∃ g off c cur, v = .slice (some ⟨g, off, none⟩) xs.length c ∧ M g = some J ∧ w.heap[g]? = some (.cells cur T (0, 0)) ∧ xs.length ≤ c ∧ c ≤ maxLen ∧ off + c * E.size ≤ cur.size ∧ cB w M (xs.flatMap E.tys) ((cur.toList.drop off).take (xs.length * E.size))
def Ty.eL {α : Type} (E : El α) (T J : Nat) (xs : List α) : Ty :=
  ⟨xA E T J xs, [J], [J], fun le hk hs h => h.imp id fun ⟨g, off, c, cur, e, hg, hh, h1, h2, h3, h4⟩ =>
    let ⟨a, b⟩ := le.own g J hg (hk J (by simp))
    ⟨g, off, c, cur, e, a, (b (hs J (by simp))).trans hh, h1, h2, h3, bQ le (by rw [E.cO]; intro _ h; cases h) (by rw [E.cD]; intro _ h; cases h) h4⟩, true, fun _ h => by
      rcases h with ⟨_, rfl⟩ | ⟨_, _, _, _, rfl, _⟩ <;> rfl⟩
def ff (size : Nat) : Value → Option (Nat × Nat)
  | .slice (some a) n _ => some (a.block, a.off + n * size)
  | _ => none
def roomy : Value → Bool
  | .slice _ n c => Nat.blt n c
  | _ => false
section
variable {κ α : Type} [DecidableEq κ]
def wG (size : Nat) (vs : List Value) : Prop := ∀ (i j : Nat) (v u : Value) (g e e' : Nat), vs[i]? = some v → vs[j]? = some u → ff size v = some (g, e) → ff size u = some (g, e') → i = j
def Og (enc : κ → Value) (E : El α) (T J : Nat) (q : List (κ × List α)) (w : World) (M : bB) (t : Nat) : Prop :=
  (q.map Prod.fst).Nodup ∧ ∃ b es clock, M b = some t ∧ w.heap[b]? = some (.map es clock) ∧ es.toList.map (·.key) = q.map (fun x => enc x.1) ∧ cB w M (q.map fun x => Ty.eL E T J x.2) (es.toList.map (·.val)) ∧ wG E.size (es.toList.map (·.val))
omit [DecidableEq κ] in
theorem tU {E : El α} {T J : Nat} {q : List (κ × List α)} : (∀ u ∈ cC (q.map fun x => Ty.eL E T J x.2), u = J) ∧ ∀ u ∈ bX (q.map fun x => Ty.eL E T J x.2), u = J := by
 constructor <;>
 ·intro u hu
  simp only [cC, bX, List.mem_flatMap, List.mem_map] at hu
  obtain ⟨t, ⟨x, _, rfl⟩, hu⟩ := hu
  simpa [Ty.eL] using hu
def Cont.mr (enc : κ → Value) (E : El α) (T J : Nat) (q : List (κ × List α)) : Cont :=
  { den := Og enc E T J q, deps := [J], cdeps := [J]
    mono := fun le hk hs hst hkt ⟨hn, b, es, clock, h1, h2, h3, h4, h5⟩ => let ⟨a, c⟩ := le.own b _ h1 hkt
      ⟨hn, b, es, clock, a, (c hst).trans h2, h3, bQ le (fun u hu => by rw [tU.1 u hu]; exact hk J (by simp)) (fun u hu => by rw [tU.2 u hu]; exact hs J (by simp)) h4, h5⟩ }
omit [DecidableEq κ] in
theorem Cont.tC {enc : κ → Value} {E : El α} {T J : Nat} {q q' : List (κ × List α)} (h : q = q') : (Cont.mr enc E T J q).Sub (Cont.mr enc E T J q') := h ▸ Cont.aF _
def OD (size t : Nat) (q : List (κ × List α)) (k : κ) (w : World) (M : bB) (v : Value) : Prop :=
  ∀ (g e0 : Nat), ff size v = some (g, e0) → ∃ (b : Nat) (es : Array MapEntry) (clock : Nat), M b = some t ∧ w.heap[b]? = some (.map es clock) ∧ ∀ (j : Nat) (u : Value) (e1 : Nat), (es.toList.map (·.val))[j]? = some u → ff size u = some (g, e1) → (q[j]?).map Prod.fst = some k ∧ (roomy v = true → e1 ≤ e0)
def OZ (E : El α) (T t J : Nat) (q : List (κ × List α)) (k : κ) (xs : List α) (w : World) (M : bB) (v : Value) : Prop := xA E T J xs w M v ∧ OD E.size t q k w M v
def Ty.qv (E : El α) (T t J : Nat) (q : List (κ × List α)) (k : κ) (xs : List α) : Ty :=
  ⟨OZ E T t J q k xs, [t, J], [t, J], fun le hk hs ⟨h, h'⟩ => ⟨(Ty.eL E T J xs).mono le (fun u hu => hk u (by simp [Ty.eL] at hu ⊢; exact .inr hu)) (fun u hu => hs u (by simp [Ty.eL] at hu ⊢; exact .inr hu)) h, fun g e0 he =>
    let ⟨b, es, clock, h1, h2, h3⟩ := h' g e0 he
    let ⟨a, c⟩ := le.own b t h1 (hk t (by simp))
    ⟨b, es, clock, a, (c (hs t (by simp))).trans h2, h3⟩⟩, true, fun ho h => (Ty.eL E T J xs).isOne ho h.1⟩
omit [DecidableEq κ] in
theorem Ba (q : List (κ × List α)) (hn : (q.map Prod.fst).Nodup) {i j : Nat} {k : κ} (hi : (q[i]?).map Prod.fst = some k) (hj : (q[j]?).map Prod.fst = some k) : i = j := by
 rw [← List.getElem?_map] at hi hj
 obtain ⟨h1, e1⟩ := List.getElem?_eq_some_iff.1 hi
 obtain ⟨h2, e2⟩ := List.getElem?_eq_some_iff.1 hj
 exact (List.getElem_inj hn).1 (e1.trans e2.symm)
theorem zL {q : List (κ × List α)} {k : κ} {i : Nat} (h : (q.map Prod.fst).findIdx? (fun x => decide (x = k)) = some i) : (q[i]?).map Prod.fst = some k := by
 obtain ⟨v, hv, _⟩ := oV q k i h
 rw [hv]; rfl
theorem FE (q : List (κ × List α)) (k : κ) (v : List α) (hn : (q.map Prod.fst).Nodup) : ((gZ q k v).map Prod.fst).Nodup := by
  cases hi : (q.map Prod.fst).findIdx? (fun x => decide (x = k)) with
  | some i =>
    obtain ⟨u, hu, _, hp⟩ := oV q k i hi
    rw [hp, List.map_set]
    have : (q.map Prod.fst).set i k = q.map Prod.fst := by
      apply List.ext_getElem?
      intro j
      rw [List.getElem?_set]
      by_cases e : i = j
      · subst e
        have hlt := (List.getElem?_eq_some_iff.1 hu).1
        rw [if_pos rfl, if_pos (by simpa using hlt), List.getElem?_map, hu]; rfl
      · rw [if_neg e]
    rw [this]; exact hn
  | none =>
    obtain ⟨_, hp⟩ := pY q k hi
    rw [hp, List.map_append, List.nodup_append]
    refine ⟨hn, by simp, fun a ha b hb => ?_⟩
    simp only [List.map_cons, List.map_nil, List.mem_singleton] at hb
    subst hb
    intro e
    subst e
    rw [List.findIdx?_eq_none_iff] at hi
    have := hi a ha
    simp at this
end
section
variable {P : Program} {fr : Fr} {ops : Array Oper} {A : As} {rest : List Oper} {K : As → List (As × Fx) → Prop} {d : Nat} {t ty' mt kt et : TypeId} {p : String} {e : Array Edge}
variable {κ α : Type} [DecidableEq κ] {E : El α} {Tb J tg : Nat} {q : List (κ × List α)} {k : κ} {xs ys : List α}
omit [DecidableEq κ] in
theorem Kp {x : Operand} {enc : κ → Value} (hx : A.op fr x = .mp tg) (hc : A.tag tg = some (.mr enc E Tb J q)) (h1 : fN tg) {a : Act} {w : World} {M : bB} {rs : List Nat} (wf : Wf w M) (hr : ∀ c ∈ bw x, c ∈ rs) (hrd : ∀ c ∈ rs, c < fr.n → (A.slots c).den w M (a.tmps.getD c undef)) (htg : ∀ y ∈ A.tags, y.1 ∈ [tg] → y.2.den w M y.1) :
 (q.map Prod.fst).Nodup ∧ ∃ b es clock, a.eval x = .map (some b) ∧ M b = some tg ∧ w.heap[b]? = some (.map es clock) ∧ es.toList.map (·.key) = q.map (fun x => enc x.1) ∧ cB w M (q.map fun x => Ty.eL E Tb J x.2) (es.toList.map (·.val)) ∧ wG E.size (es.toList.map (·.val)) := by
 have hxd := cE hr hrd
 rw [hx] at hxd
 obtain ⟨b, e1, e2⟩ := hxd
 obtain ⟨hn, b', es, clock, h2, h3⟩ := htg _ (cW hc) (by simp)
 obtain ⟨u, rfl⟩ : ∃ u, tg = u + 1 := ⟨tg - 1, by omega⟩
 have : b = b' := wf.inj b b' u (by omega) e2 h2
 subst this
 exact ⟨hn, b, es, clock, e1, e2, h3⟩
theorem Bq {es : Array MapEntry} {i : Nat} {en : MapEntry} (h : es[i]? = some en) : (es.toList.map (·.val))[i]? = some en.val := by
 rw [List.getElem?_map, Array.getElem?_toList, h]; rfl
omit [DecidableEq κ] in
theorem Cz (enc : κ → Value) (E : El α) (Tb J : Nat) (hm : mapOf P mt = some (kt, et)) (hp : fr.pass.contains (d + 1) = false)
 (h : av P fr ops rest (A.after { d := some d, ty := .mp (d + 1), K := [d + 1], sets := [(d + 1, .mr enc E Tb J [])] }) fun A' l' => K A' ((A, { d := some d, ty := .mp (d + 1), K := [d + 1], sets := [(d + 1, .mr enc E Tb J [])] }) :: l')) :
 av P fr ops (⟨some d, .makeMap mt none, t, p, e, none⟩ :: rest) A K := by
 refine ⟨_, gC rfl rfl (by simp) (by simp) (by simp at hp ⊢; exact hp) fun a w M wf _ _ => ?_, h⟩
 have hrun : (execOp a.eval ⟨some d, .makeMap mt none, t, p, e, none⟩).run P w = .ok (.value (.map (some w.heap.size))) (w.alloc (.map #[] 0)) := by
  simp [execOp, Instr.makeMap, newObj, Sem.run]
 obtain ⟨h1, h2, h3⟩ := kQ wf (.map #[] 0) (d + 1)
 refine ⟨_, _, hrun, _, h1, h2, ⟨_, rfl, h3⟩, fun x hx => ?_⟩
 rw [List.mem_singleton.1 hx]
 exact ⟨by simp, w.heap.size, #[], 0, h3, gO _ _, rfl, trivial, fun i j v u g e e' hi => by simp at hi⟩
theorem yR {x y : Operand} {kty : Ty} (KK : xV P kt κ) (hx : A.op fr x = .mp tg) (hc : A.tag tg = some (.mr KK.enc E Tb J q)) (h1 : fN tg) (hy : A.op fr y = kty) (hk : tj kty (KK.enc k)) (hm : mapOf P mt = some (kt, et)) (hz : zeroOf P et = some (.slice none 0 0))
 (h : av P fr ops rest (A.set d (.qv E Tb tg J q k ((eS q k).getD []))) fun A' l' => K A' ((A, { d := some d, ty := .qv E Tb tg J q k ((eS q k).getD []), rs := bw x ++ bw y, rt := [tg] }) :: l')) :
 av P fr ops (⟨some d, .lookup mt x y false, t, p, e, none⟩ :: rest) A K :=
 bE (bL rfl rfl fun a w M wf hrd htg => by
  obtain ⟨hn, b, es, clock, e1, e2, h3, h4, h5, h6⟩ := Kp hx hc h1 wf (fun c hc => List.mem_append_left _ hc) hrd htg
  have hyd := cE (fun c hc => List.mem_append_right (bw x) hc) hrd
  rw [hy] at hyd
  have hu := p6 hm
  rcases sE KK h4 h5 k with ⟨i, v, en, hi, hg, hen, _, hd, hf⟩ | ⟨_, hg, hf⟩
  ·refine ⟨en.val, ?_, by rw [hg]; exact hd, fun g e0 he => ⟨b, es, clock, e2, h3, fun j u e1 hj hju => ?_⟩⟩
   ·simp only [execOp, e1, hk _ _ _ hyd]
    simp [Instr.lookup, underlying, hu, getObj, Sem.run, h3, KK.check, hf]
   have hij := h6 i j en.val u g e0 e1 (Bq hen) hj he hju
   subst hij
   rw [Bq hen] at hj
   injection hj with hj
   subst hj
   rw [he] at hju
   injection hju with hju
   injection hju with _ hju
   exact ⟨zL hi, fun _ => by omega⟩
  refine ⟨.slice none 0 0, ?_, by rw [hg]; exact .inl ⟨rfl, rfl⟩, fun g e0 he => by simp [ff] at he⟩
  simp only [execOp, e1, hk _ _ _ hyd]
  simp [Instr.lookup, underlying, hu, getObj, Sem.run, h3, KK.check, hf, vO hz]) h
theorem yy {x y z : Operand} {kty : Ty} (KK : xV P kt κ) (hx : A.op fr x = .mp tg) (hc : A.tag tg = some (.mr KK.enc E Tb J q)) (h1 : fN tg) (hy : A.op fr y = kty) (hk : tj kty (KK.enc k)) (hz : A.op fr z = .qv E Tb tg J q k xs) (hm : mapOf P mt = some (kt, et)) (hJ : Nat.beq J tg = false)
 (h : av P fr ops rest (A.after { d := none, S := [tg], sets := [(tg, .mr KK.enc E Tb J (gZ q k xs))], rs := bw x ++ (bw y ++ bw z), rt := [tg] }) fun A' l' => K A' ((A, { d := none, S := [tg], sets := [(tg, .mr KK.enc E Tb J (gZ q k xs))], rs := bw x ++ (bw y ++ bw z), rt := [tg] }) :: l')) :
 av P fr ops (⟨none, .mapUpdate mt x y z, t, p, e, none⟩ :: rest) A K := by
 have hJ' : J ≠ tg := fun h => by subst h; simp at hJ
 refine ⟨_, jU rfl rfl rfl (by simp) (by simpa using h1.1) (by simp) fun a w M wf hrd htg => ?_, h⟩
 obtain ⟨hn, b, es, clock, e1, e2, h3, h4, h5, h6⟩ := Kp hx hc h1 wf (fun c hc => List.mem_append_left _ hc) hrd htg
 have hyd := cE (fun c hc => List.mem_append_right (bw x) (List.mem_append_left (bw z) hc)) hrd
 have hzd := cE (fun c hc => List.mem_append_right (bw x) (List.mem_append_right (bw y) hc)) hrd
 rw [hy] at hyd
 rw [hz] at hzd
 obtain ⟨hrow, hown⟩ := hzd
 have hu := p6 hm
 have hblt : b < w.heap.size := wf.lt b _ e2
 have own' : ∀ (g e0 : Nat), ff E.size (a.eval z) = some (g, e0) → ∀ (j : Nat) (u : Value) (e' : Nat), (es.toList.map (·.val))[j]? = some u → ff E.size u = some (g, e') → (q[j]?).map Prod.fst = some k := fun g e0 he j u e' hj hju => by
  obtain ⟨b', es', c', g1, g2, g3⟩ := hown g e0 he
  obtain ⟨u', rfl⟩ : ∃ u, tg = u + 1 := ⟨tg - 1, by omega⟩
  have : b = b' := wf.inj b b' u' (by omega) e2 g1
  subst this
  rw [h3] at g2
  injection g2 with g2
  injection g2 with g2 g4
  subst g2
  exact (g3 j u e' hj hju).1
 have fin : ∀ (es' : Array MapEntry) (clock' : Nat), es'.toList.map (·.key) = (gZ q k xs).map (fun x => KK.enc x.1) → cB w M ((gZ q k xs).map fun x => Ty.eL E Tb J x.2) (es'.toList.map (·.val)) → wG E.size (es'.toList.map (·.val)) →
  (Instr.mapUpdate mt (.map (some b)) (KK.enc k) (a.eval z)).run P w = .ok () { w with heap := w.heap.setIfInBounds b (.map es' clock') } →
  ∃ w', (execOp a.eval ⟨none, .mapUpdate mt x y z, t, p, e, none⟩).run P w = .ok .skip w' ∧ Fx.left { d := none, S := [tg], sets := [(tg, .mr KK.enc E Tb J (gZ q k xs))], rs := bw x ++ (bw y ++ bw z), rt := [tg] } w M w' undef := by
  intro es' clock' hk' hd' hap hrun
  have hr : (execOp a.eval ⟨none, .mapUpdate mt x y z, t, p, e, none⟩).run P w = .ok .skip { w with heap := w.heap.setIfInBounds b (.map es' clock') } := by
   simp only [execOp, e1, hk _ _ _ hyd]
   simp [hrun]
  have le : Le (· ∈ [tg]) (· ∈ ([] : List Nat)) w M { w with heap := w.heap.setIfInBounds b (.map es' clock') } M := by
   refine ⟨by simp, rfl, rfl, rfl, fun b2 hlt hm2 => ⟨hm2, ?_⟩, fun b2 u hm2 _ => ⟨hm2, fun hs => ?_⟩⟩
   ·have : b ≠ b2 := fun h => by subst h; rw [e2] at hm2; cases hm2
    simp [Array.getElem?_setIfInBounds, this]
   have : b ≠ b2 := fun h => by subst h; rw [e2] at hm2; injection hm2 with hm2; exact hs (by simp [hm2])
   simp [Array.getElem?_setIfInBounds, this]
  refine ⟨_, hr, M, ⟨fun b2 u h => by simpa using wf.lt b2 u h, wf.inj⟩, le, trivial, fun x hx => ?_⟩
  rw [List.mem_singleton.1 hx]
  refine ⟨FE q k xs hn, b, es', clock', e2, by simp [hblt], hk', ?_, hap⟩
  exact bQ le (fun _ _ => by simp) (fun u hu => by rw [tU.2 u hu]; simpa using hJ') hd'
 rcases sE KK h4 h5 k with ⟨i, v0, en, hi, hg, hen, hkey, hd, hf⟩ | ⟨hi, hg, hf⟩
 ·obtain ⟨v1, hv1, _, hput⟩ := oV q k i hi
  have hil : i < es.size := (Array.getElem?_eq_some_iff.1 hen).1
  have hes : (es.modify i fun e => { e with key := KK.enc k, val := a.eval z }).toList = es.toList.set i { en with key := KK.enc k, val := a.eval z } := by
   rw [Array.toList_modify, List.modify_eq_set, Array.getElem?_toList, hen]; rfl
  refine fin (es.modify i fun e => { e with key := KK.enc k, val := a.eval z }) clock ?_ ?_ ?_ ?_
  ·rw [hput, List.map_set, hes, List.map_set, h4]
  ·rw [hput, List.map_set, hes, List.map_set]
   exact lR h5 hrow
  ·rw [hes, List.map_set]
   intro i1 j1 v u g e' e'' hi1 hj1 hv hu
   rw [List.getElem?_set] at hi1 hj1
   by_cases c1 : i = i1 <;> by_cases c2 : i = j1
   ·omega
   ·rw [if_pos c1] at hi1; rw [if_neg c2] at hj1
    split at hi1
    ·injection hi1 with hi1
     have hi1 : a.eval z = v := hi1
     subst hi1
     have := Ba q hn (own' g e' hv j1 u e'' hj1 hu) (zL hi)
     omega
    cases hi1
   ·rw [if_neg c1] at hi1; rw [if_pos c2] at hj1
    split at hj1
    ·injection hj1 with hj1
     have hj1 : a.eval z = u := hj1
     subst hj1
     have := Ba q hn (own' g e'' hu i1 v e' hi1 hv) (zL hi)
     omega
    cases hj1
   rw [if_neg c1] at hi1; rw [if_neg c2] at hj1
   exact h6 i1 j1 v u g e' e'' hi1 hj1 hv hu
  simp [Instr.mapUpdate, underlying, hu, getObj, setObj, Sem.run, h3, KK.check, hf, hen, hkey, Instr.keyThatStays, KK.same]
 obtain ⟨_, hput⟩ := pY q k hi
 have hlen : (es.toList.map (·.val)).length = q.length := by have := congrArg List.length h4; simpa using this
 have hno : ∀ j, (q[j]?).map Prod.fst ≠ some k := fun j hj => by
  rw [List.findIdx?_eq_none_iff] at hi
  rw [← List.getElem?_map] at hj
  have := hi k (List.mem_of_getElem? hj)
  simp at this
 refine fin (es.push { key := KK.enc k, val := a.eval z, born := clock }) (clock + 1) ?_ ?_ ?_ ?_
 ·rw [hput]; simp [h4]
 ·rw [hput]; simp only [Array.toList_push, List.map_append, List.map_cons, List.map_nil]
  exact eT h5 ⟨hrow, trivial⟩
 ·simp only [Array.toList_push, List.map_append, List.map_cons, List.map_nil]
  intro i1 j1 v u g e' e'' hi1 hj1 hv hu
  rw [List.getElem?_append] at hi1 hj1
  split at hi1 <;> split at hj1
  ·exact h6 i1 j1 v u g e' e'' hi1 hj1 hv hu
  ·rw [List.getElem?_singleton] at hj1
   split at hj1
   ·injection hj1 with hj1
    subst hj1
    exact absurd (own' g e'' hu i1 v e' hi1 hv) (hno i1)
   cases hj1
  ·rw [List.getElem?_singleton] at hi1
   split at hi1
   ·injection hi1 with hi1
    subst hi1
    exact absurd (own' g e' hv j1 u e'' hj1 hu) (hno j1)
   cases hi1
  rw [List.getElem?_singleton] at hi1 hj1
  split at hi1 <;> split at hj1 <;> first | omega | (exfalso; simp at hj1; done) | (exfalso; simp at hi1; done)
 simp [Instr.mapUpdate, underlying, hu, getObj, setObj, Sem.run, h3, KK.check, hf]
end
section
variable {P : Program} {fr : Fr} {ops : Array Oper} {A : As} {rest : List Oper} {K : As → List (As × Fx) → Prop} {d : Nat} {t ty' mt kt et : TypeId} {p : String} {e : Array Edge} [T : kf P]
variable {κ α : Type} [DecidableEq κ] {E : El α} {Tb J tg : Nat} {q : List (κ × List α)} {k : κ} {xs ys : List α}
theorem yz [Inhabited α] {w : World} {M : bB} {g off i j : Nat} {cur : Array Value} {ty : Ty} (hh : w.heap[g]? = some (.cells cur Tb (0, 0))) (hd : cB w M (xs.flatMap E.tys) ((cur.toList.drop off).take (xs.length * E.size))) (hi : i < xs.length) (hl : (E.tys (nth xs i))[j]? = some ty) :
 ∃ u, w.cell? ⟨g, off + i * E.size + j, none⟩ = some u ∧ ty.den w M u := by
 obtain ⟨u, hu, hdu⟩ := dG hd _ ty (lO E xs hi j ty hl)
 rw [List.getElem?_take] at hu
 split at hu
 ·rw [List.getElem?_drop] at hu
  exact ⟨u, by rw [Nat.add_assoc]; simpa [World.cell?, hh] using hu, hdu⟩
 cases hu
end
end Go.T
namespace Go.T
open Go Go.RowKit
section
variable {P : Program} {fr : Fr} {ops : Array Oper} {A : As} {rest : List Oper} {K : As → List (As × Fx) → Prop} {d : Nat} {t ty' mt kt et : TypeId} {p : String} {e : Array Edge} [T : kf P]
variable {κ α : Type} [DecidableEq κ] {E : El α} {Tb J tg : Nat} {q : List (κ × List α)} {k : κ} {xs ys : List α}
theorem BR (l news : List Value) (o n m e : Nat) (he : o + n ≤ e) (hl : e + news.length ≤ l.length) : (((l.take e ++ news ++ l.drop (e + news.length)).drop o).take n) = (l.drop o).take n := by
 apply List.ext_getElem?
 intro i
 rw [List.getElem?_take, List.getElem?_take]
 split
 ·rename_i hi
  rw [List.getElem?_drop, List.getElem?_drop, List.append_assoc, List.getElem?_append_left (by rw [List.length_take]; omega), List.getElem?_take, if_pos (by omega)]
 rfl
theorem wP (l news : List Value) (o n : Nat) (hl : o + n + news.length ≤ l.length) : (((l.take (o + n) ++ news ++ l.drop (o + n + news.length)).drop o).take (n + news.length)) = (l.drop o).take n ++ news := by
 have h1 : (l.take (o + n) ++ news ++ l.drop (o + n + news.length)).drop o = (l.drop o).take n ++ news ++ l.drop (o + n + news.length) := by
  rw [List.append_assoc, List.drop_append_of_le_length (by rw [List.length_take]; omega), List.drop_take, show o + n - o = n by omega, List.append_assoc]
 have h2 : ((l.drop o).take n ++ news).length = n + news.length := by rw [List.length_append, List.length_take, List.length_drop, Nat.min_eq_left (by omega)]
 rw [h1, List.take_left' h2]
omit [DecidableEq κ] in
theorem HV {w : World} {M : bB} {vs : List Value} (hd : cB w M (q.map fun x => Ty.eL E Tb J x.2) vs) {j : Nat} {u : Value} {g e1 : Nat} (hj : vs[j]? = some u) (hu : ff E.size u = some (g, e1)) : M g = some J := by
 have hlen := cL hd
 have hlt := (List.getElem?_eq_some_iff.1 hj).1
 obtain ⟨x, hx, hdx⟩ := dG hd j (Ty.eL E Tb J (q[j]'(by simpa [hlen] using hlt)).2) (by rw [List.getElem?_map, List.getElem?_eq_getElem (by simpa [hlen] using hlt)]; rfl)
 rw [hj] at hx
 injection hx with hx
 subst hx
 rcases hdx with ⟨_, e⟩ | ⟨g', off, c, cur, e, hg, _⟩
 ·rw [e] at hu; simp [ff] at hu
 rw [e] at hu
 simp only [ff, Option.some.injEq, Prod.mk.injEq] at hu
 rw [← hu.1]; exact hg
theorem yp {x y : Operand} {enc : κ → Value} {st el : Nat} {ti te : TI} (hx : A.op fr x = .qv E el tg J q k xs) (hy : A.op fr y = .sl E ys) (hc : A.tag tg = some (.mr enc E el J q)) (h1 : fN tg) (hJ : 4096 ≤ J) (hp : fr.pass.contains J = false) (hpos : 0 < ys.length) (hT : T.eE[st]? = some ti) (hk : ti.k = .slice el) (hE : T.eE[el]? = some te) (hs : te.size = E.size) (hz : te.zero.length = te.size) (h0 : 0 < te.size)
    (hlen : (xs.length + ys.length) * te.bytes ≤ 140737488355328) (hlen' : xs.length + ys.length ≤ 9223372036854775807)
    (h : av P fr ops rest (A.after { d := some d, ty := .qv E el tg J q k (xs ++ ys), S := [tg, J], sets := [(tg, .mr enc E el J q)], rs := bw x ++ bw y, rt := [tg] }) fun A' l' => K A' ((A, { d := some d, ty := .qv E el tg J q k (xs ++ ys), S := [tg, J], sets := [(tg, .mr enc E el J q)], rs := bw x ++ bw y, rt := [tg] }) :: l')) :
    av P fr ops (⟨some d, .call ⟨.builtin .append, #[x, y], #[st, st]⟩, t, p, e, none⟩ :: rest) A K := by
  refine ⟨_, gC rfl rfl (by simp) (by simp; exact ⟨h1.1, by omega⟩) (by simp) fun a w M wf hr htg => ?_, h⟩
  obtain ⟨hdx, hdy⟩ := op2 hr
  rw [hx] at hdx; rw [hy] at hdy
  obtain ⟨hrow, hown⟩ := hdx
  obtain ⟨hn, b, es, clock, hb, hhb, hkeys, hvals, hap⟩ := htg _ (cW hc) (by simp)
  have ownb : ∀ (g e0 : Nat), ff E.size (a.eval x) = some (g, e0) → ∀ (j : Nat) (u : Value) (e1 : Nat), (es.toList.map (·.val))[j]? = some u → ff E.size u = some (g, e1) → (q[j]?).map Prod.fst = some k ∧ (roomy (a.eval x) = true → e1 ≤ e0) := fun g e0 he => by
    obtain ⟨b', es', c', g1, g2, g3⟩ := hown g e0 he
    obtain ⟨u', hu'⟩ : ∃ u, tg = u + 1 := ⟨tg - 1, by omega⟩
    have : b = b' := by
      have hb' : M b = some (u' + 1) := hu' ▸ hb
      have g1' : M b' = some (u' + 1) := hu' ▸ g1
      exact wf.inj b b' u' (by omega) hb' g1'
    subst this
    rw [hhb] at g2
    injection g2 with g2
    injection g2 with g2 _
    subst g2
    exact g3
  obtain ⟨_, D, _, hD, hkd, _⟩ := ct hT
  rw [hk] at hkd
  cases D <;> simp only [TK.of, reduceCtorEq, TK.slice.injEq] at hkd
  subst hkd
  rename_i el
  obtain ⟨i, _, hi, _, _, hsz, hby, hze⟩ := ct hE
  obtain ⟨zz, hiz, hzc⟩ : ∃ z, i.zero = some z ∧ z.cells.size = i.size := by
    cases hiz : i.zero with
    | none => rw [hiz] at hze; rw [← hze] at hz; simp at hz; omega
    | some z => rw [hiz] at hze; exact ⟨z, rfl, by simp at hze; rw [hsz, ← hz, ← hze]; simp⟩
  obtain ⟨ad, c', ey, hc1, hc2, hpp⟩ := hdy
  obtain ⟨b', off', rfl, hp'⟩ := hpp hpos
  obtain ⟨news, hn1, hn2, hn3⟩ := mm hp' _ (Nat.le_refl _)
  rw [List.take_length] at hn2
  have hnl : news.length = ys.length * i.size := by rw [hn1, cq, hsz, hs]
  have hnews : ∀ j u, news[j]? = some u → w.cell? ((⟨b', off', none⟩ : Addr).add j) = some u := fun j u hj => by rw [Addr.add_lit]; exact hn3 j u hj
  have hones := lK hn2 (lH E ys)
  have hesz : E.size = i.size := by rw [hsz, hs]
  -- behind a growth
  have grown : ∀ (olds : List Value) (cap : Nat), cB w M (xs.flatMap E.tys) olds → cap < xs.length + ys.length →
      (Builtin.append_ #[st, st] t #[a.eval x, a.eval y]).run P w = .ok (.slice (some ⟨w.heap.size, 0, none⟩) (xs.length + ys.length) (grownCap w (xs.length + ys.length) cap el)) (w.drew.alloc (.cells (olds.toArray ++ news.toArray ++ Builtin.zeroCells zz.cells (grownCap w (xs.length + ys.length) cap el - (xs.length + ys.length))) el)) →
      ∃ v w', (execOp a.eval ⟨some d, .call ⟨.builtin .append, #[x, y], #[st, st]⟩, t, p, e, none⟩).run P w = .ok (.value v) w' ∧ Fx.left { d := some d, ty := .qv E el tg J q k (xs ++ ys), S := [tg, J], sets := [(tg, .mr enc E el J q)], rs := bw x ++ bw y, rt := [tg] } w M w' v := by
    intro olds cap hdo hcap hrun
    have holen : olds.length = xs.length * i.size := by rw [cL hdo, cq, hesz]
    have hge := grownCap_ge w (xs.length + ys.length) cap el
    have hcm : grownCap w (xs.length + ys.length) cap el ≤ maxLen := grownCap_le_maxLen w (xs.length + ys.length) cap el (by simp only [maxLen]; omega)
    have hsize : (w.drew.alloc (.cells (olds.toArray ++ news.toArray ++ Builtin.zeroCells zz.cells (grownCap w (xs.length + ys.length) cap el - (xs.length + ys.length))) el)).heap.size = w.heap.size + 1 := by simp
    have hold : ∀ b2, b2 < w.heap.size → (w.drew.alloc (.cells (olds.toArray ++ news.toArray ++ Builtin.zeroCells zz.cells (grownCap w (xs.length + ys.length) cap el - (xs.length + ys.length))) el)).heap[b2]? = w.heap[b2]? := fun b2 h => Below.heap_alloc w.drew _ b2 h
    have hnew : (w.drew.alloc (.cells (olds.toArray ++ news.toArray ++ Builtin.zeroCells zz.cells (grownCap w (xs.length + ys.length) cap el - (xs.length + ys.length))) el)).heap[w.heap.size]? = some (.cells (olds.toArray ++ news.toArray ++ Builtin.zeroCells zz.cells (grownCap w (xs.length + ys.length) cap el - (xs.length + ys.length))) el (0, 0)) := gO w.drew _
    have hos : (w.drew.alloc (.cells (olds.toArray ++ news.toArray ++ Builtin.zeroCells zz.cells (grownCap w (xs.length + ys.length) cap el - (xs.length + ys.length))) el)).os = w.os ∧ (w.drew.alloc (.cells (olds.toArray ++ news.toArray ++ Builtin.zeroCells zz.cells (grownCap w (xs.length + ys.length) cap el - (xs.length + ys.length))) el)).tape = w.tape ∧ (w.drew.alloc (.cells (olds.toArray ++ news.toArray ++ Builtin.zeroCells zz.cells (grownCap w (xs.length + ys.length) cap el - (xs.length + ys.length))) el)).output = w.output := ⟨rfl, rfl, rfl⟩
    have hcs : (olds.toArray ++ news.toArray ++ Builtin.zeroCells zz.cells (grownCap w (xs.length + ys.length) cap el - (xs.length + ys.length))).size = grownCap w (xs.length + ys.length) cap el * i.size := by
      simp only [Array.size_append, List.size_toArray, size_zeroCells, hzc, holen, hnl, ← Nat.add_mul]
      congr 1
      omega
    have htk : ((olds.toArray ++ news.toArray ++ Builtin.zeroCells zz.cells (grownCap w (xs.length + ys.length) cap el - (xs.length + ys.length))).toList.drop 0).take ((xs ++ ys).length * E.size) = olds ++ news := by
      rw [List.drop_zero]
      simp only [Array.toList_append]
      rw [List.take_left' (by rw [List.length_append, holen, hnl, List.length_append, hesz, Nat.add_mul])]
    generalize hw' : (w.drew.alloc (.cells (olds.toArray ++ news.toArray ++ Builtin.zeroCells zz.cells (grownCap w (xs.length + ys.length) cap el - (xs.length + ys.length))) el)) = w' at *
    generalize hcu : (olds.toArray ++ news.toArray ++ Builtin.zeroCells zz.cells (grownCap w (xs.length + ys.length) cap el - (xs.length + ys.length))) = cu at *
    have le : Le (· ∈ [tg, J]) (· ∈ ([] : List Nat)) w M w' (fun b2 => if b2 = w.heap.size then some J else M b2) :=
      ⟨by omega, hos.1, hos.2.1, hos.2.2, fun b2 hb2 hm => ⟨by rw [if_neg (by omega)]; exact hm, hold b2 hb2⟩, fun b2 u hm _ => by
        have := wf.lt b2 u hm
        exact ⟨by rw [if_neg (by omega)]; exact hm, fun _ => hold b2 this⟩⟩
    have le0 : Le (· ∈ ([] : List Nat)) (· ∈ ([] : List Nat)) w M w' (fun b2 => if b2 = w.heap.size then some J else M b2) :=
      ⟨by omega, hos.1, hos.2.1, hos.2.2, fun b2 hb2 hm => ⟨by rw [if_neg (by omega)]; exact hm, hold b2 hb2⟩, fun b2 u hm _ => by
        have := wf.lt b2 u hm
        exact ⟨by rw [if_neg (by omega)]; exact hm, fun _ => hold b2 this⟩⟩
    have wf' : Wf w' (fun b2 => if b2 = w.heap.size then some J else M b2) := by
      refine ⟨fun b2 u hm => ?_, fun b2 b3 u ht1 hm hm' => ?_⟩
      · split at hm
        · omega
        · have := wf.lt b2 u hm; omega
      · split at hm
        · injection hm with hm; omega
        · split at hm'
          · injection hm' with hm'; omega
          · exact wf.inj b2 b3 u ht1 hm hm'
    have hblt := wf.lt b tg hb
    refine ⟨.slice (some ⟨w.heap.size, 0, none⟩) (xs.length + ys.length) (grownCap w (xs.length + ys.length) cap el), w', by simp [execOp, resolve, invoke, builtin, hrun], _, wf', le, ⟨.inr ⟨w.heap.size, 0, grownCap w (xs.length + ys.length) cap el, cu, by rw [List.length_append], by simp, hnew, by rw [List.length_append]; exact hge, hcm, by rw [hcs, hesz]; omega, ?_⟩, fun g e0 he => ?_⟩, fun y hy => ?_⟩
    · rw [htk, List.flatMap_append]
      exact iW (bQ le0 (by rw [E.cO]; intro _ h; cases h) (by rw [E.cD]; intro _ h; cases h) hdo) (bQ le0 (by rw [E.cO]; intro _ h; cases h) (by rw [E.cD]; intro _ h; cases h) hn2)
    · simp only [ff, Option.some.injEq, Prod.mk.injEq] at he
      obtain ⟨rfl, _⟩ := he
      refine ⟨b, es, clock, (if_neg (by omega)).trans hb, (hold b hblt).trans hhb, fun j u e1 hj hju => ?_⟩
      have := wf.lt _ _ (HV hvals hj hju)
      omega
    · rw [List.mem_singleton.1 hy]
      refine ⟨hn, b, es, clock, (if_neg (by omega)).trans hb, (hold b hblt).trans hhb, hkeys, ?_, hap⟩
      exact bQ le0 (fun _ _ h => by cases h) (fun _ _ h => by cases h) hvals
  rcases hrow with ⟨hxe, ex⟩ | ⟨g, off, cap, cur, ex, hg, hh, hxc, hcm, hfit, hdx⟩
  · have hrn := run_append_nil (P := P) w st t el i zz hD hi hiz ⟨b', off', none⟩ ys.length c' news hnl hnews hpos (by omega) (by rw [hby]; have := hlen; rw [Nat.add_mul] at this; omega)
    subst hxe
    refine grown [] 0 trivial (by simpa using hpos) ?_
    rw [ex, ey]
    simpa using hrn
  · by_cases hroom : xs.length + ys.length ≤ cap
    · -- in place
      have hm : (xs.length + ys.length) * E.size ≤ cap * E.size := Nat.mul_le_mul_right _ hroom
      rw [Nat.add_mul] at hm
      have hcf : off + xs.length * i.size + news.length ≤ cur.size := by rw [hnl, ← hesz]; omega
      have hf := run_firstCells_some (P := P) w i.size ys.length ⟨b', off', none⟩ ys.length c' news hnl hnews
      have hst := run_storeCells_at (P := P) g (off + xs.length * i.size) el news 0 cur w hh (by simpa using hcf) hones
      rw [nY _ hh] at hst
      simp only [Nat.add_zero] at hst
      obtain ⟨h1', h2', h3'⟩ := iF (cs' := (cur.toList.take (off + xs.length * i.size) ++ news ++ cur.toList.drop (off + xs.length * i.size + news.length)).toArray) (Tb := el) wf hg _ rfl
      have hrun : (Builtin.append_ #[st, st] t #[a.eval x, a.eval y]).run P w = .ok (.slice (some ⟨g, off, none⟩) (xs.length + ys.length) cap) { w with heap := w.heap.setIfInBounds g (.cells (cur.toList.take (off + xs.length * i.size) ++ news ++ cur.toList.drop (off + xs.length * i.size + news.length)).toArray el (0, 0)) } := by
        rw [ex, ey]
        simp [Builtin.append_, run_underlying hD, sizeOf, typeInfo, hi, Builtin.lenOf, hroom, hf, Addr.add_lit, hst]
      have le : Le (· ∈ [tg, J]) (· ∈ ([] : List Nat)) w M { w with heap := w.heap.setIfInBounds g (.cells (cur.toList.take (off + xs.length * i.size) ++ news ++ cur.toList.drop (off + xs.length * i.size + news.length)).toArray el (0, 0)) } M :=
        h2'.weaken (fun u hu => by simp only [List.mem_singleton] at hu; subst hu; simp) (fun _ h => by cases h)
      have hgb : g ≠ b := fun e => by rw [e, hhb] at hh; cases hh
      have hroomy : roomy (a.eval x) = true := by rw [ex]; simp [roomy]; omega
      have hb' : ({ w with heap := w.heap.setIfInBounds g (.cells (cur.toList.take (off + xs.length * i.size) ++ news ++ cur.toList.drop (off + xs.length * i.size + news.length)).toArray el (0, 0)) } : World).heap[b]? = some (.map es clock) := by
        show (w.heap.setIfInBounds g _)[b]? = _
        rw [Array.getElem?_setIfInBounds_ne hgb]; exact hhb
      refine ⟨.slice (some ⟨g, off, none⟩) (xs.length + ys.length) cap, _, by simp [execOp, resolve, invoke, builtin, hrun], M, h1', le, ⟨.inr ⟨g, off, cap, _, by rw [List.length_append], hg, h3', by rw [List.length_append]; exact hroom, hcm, ?_, ?_⟩, fun g' e0 he => ?_⟩, fun y hy => ?_⟩
      · simp only [List.size_toArray, List.length_append, List.length_take, List.length_drop, Array.length_toList]
        omega
      · rw [List.length_append, Nat.add_mul, hesz, ← hnl, List.toList_toArray, wP _ _ _ _ (by simpa using hcf), List.flatMap_append]
        refine bQ h2' (by rw [← List.flatMap_append, E.cO]; intro _ h; cases h) (by rw [← List.flatMap_append, E.cD]; intro _ h; cases h) (iW ?_ hn2)
        rw [← hesz]; exact hdx
      · simp only [ff, Option.some.injEq, Prod.mk.injEq] at he
        obtain ⟨rfl, rfl⟩ := he
        refine ⟨b, es, clock, hb, hb', fun j u e1 hj hju => ?_⟩
        have := ownb g (off + xs.length * E.size) (by rw [ex]; rfl) j u e1 hj hju
        refine ⟨this.1, fun _ => ?_⟩
        have := this.2 hroomy
        rw [Nat.add_mul]; omega
      · rw [List.mem_singleton.1 hy]
        refine ⟨hn, b, es, clock, hb, hb', hkeys, ?_, hap⟩
        refine gB (by rw [cL hvals]) fun j ty hj => ?_
        obtain ⟨u, hu, hdu⟩ := dG hvals j ty hj
        refine ⟨u, hu, ?_⟩
        rw [List.getElem?_map] at hj
        obtain ⟨qe, _, rfl⟩ := Option.map_eq_some_iff.1 hj
        rcases hdu with h | ⟨g2, off2, c2, cur2, e2, hg2, hh2, k1, k2, k3, k4⟩
        · exact .inl h
        · by_cases hgg : g = g2
          · subst hgg
            rw [hh] at hh2
            injection hh2 with hh2
            injection hh2 with ha _
            subst ha
            have hend := (ownb g (off + xs.length * E.size) (by rw [ex]; rfl) j u _ hu (by rw [e2]; rfl)).2 hroomy
            refine .inr ⟨g, off2, c2, _, e2, hg, h3', k1, k2, ?_, ?_⟩
            · simp only [List.size_toArray, List.length_append, List.length_take, List.length_drop, Array.length_toList]
              omega
            · rw [List.toList_toArray, BR _ _ _ _ 0 _ (by rw [← hesz]; exact hend) (by simpa using hcf)]
              exact bQ h2' (by rw [E.cO]; intro _ h; cases h) (by rw [E.cD]; intro _ h; cases h) k4
          · refine .inr ⟨g2, off2, c2, cur2, e2, hg2, ?_, k1, k2, k3, bQ h2' (by rw [E.cO]; intro _ h; cases h) (by rw [E.cD]; intro _ h; cases h) k4⟩
            show (w.heap.setIfInBounds g _)[g2]? = _
            rw [Array.getElem?_setIfInBounds_ne hgg]; exact hh2
    · have holds : ∀ j u, ((cur.toList.drop off).take (xs.length * E.size))[j]? = some u → w.cell? ((⟨g, off, none⟩ : Addr).add j) = some u := fun j u hj => by
        rw [List.getElem?_take] at hj
        split at hj
        · rw [List.getElem?_drop] at hj
          rw [Addr.add_lit]
          simpa [World.cell?, hh] using hj
        · cases hj
      have hol : ((cur.toList.drop off).take (xs.length * E.size)).length = xs.length * i.size := by rw [cL hdx, cq, hesz]
      have hrn := run_append_grow (P := P) w st t el i zz hD hi hiz ⟨g, off, none⟩ xs.length cap _ hol holds ⟨b', off', none⟩ ys.length c' news hnl hnews (by omega) (by omega) (growslice_fits (by omega) (by rw [hby]; exact hlen))
      refine grown _ cap hdx (by omega) ?_
      rw [ex, ey]
      exact hrn
end
end Go.T
namespace Go.T
open Go Go.RowKit
end Go.T
namespace Go.T
open Go Go.RowKit Go.Lib
section
variable {P : Program} {fr : Fr} {ops : Array Oper} {A : As} {rest : List Oper} {K : As → List (As × Fx) → Prop} {d : Nat} {t ty' ty2 : TypeId} {p : String} {e : Array Edge} [T : kf P]
end
end Go.T
namespace Go.T
open Go Go.RowKit
section
variable {P : Program} {fr : Fr} {ops : Array Oper} {A : As} {rest : List Oper} {K : As → List (As × Fx) → Prop} {t mt : TypeId} {p : String} {e : Array Edge} {d : Option Nat} {x y z : Operand}
end
section
variable {P : Program} {fr : Fr} {ops : Array Oper} {A : As} {rest : List Oper} {K : As → List (As × Fx) → Prop} {d : Nat} {t mt kt et : TypeId} {p : String} {e : Array Edge}
variable {κ β : Type} [DecidableEq κ]
end
section
variable {A : As} {κ β : Type} [DecidableEq κ]
end
section
variable {P : Program} {fr : Fr} {ops : Array Oper} {A : As} {rest : List Oper} {K : As → List (As × Fx) → Prop} {t ty' : TypeId} {p : String} {e : Array Edge} [T : kf P]
end
section
variable {P : Program} {fr : Fr} {ops : Array Oper} {A : As} {rest : List Oper} {K : As → List (As × Fx) → Prop} {d : Nat} {t ty' : TypeId} {p : String} {e : Array Edge} [T : kf P]
theorem ou {α : Type} [Inhabited α] {E : El α} {xs : List α} {x : Operand} {tg off Tb : Nat} {ti : TI} (i : Nat) (hx : A.op fr x = .ptr tg off) (he : off = i * E.size) (hc : A.tag tg = some (.vec E Tb xs)) (h1 : fN tg) (hT : T.eE[ty']? = some ti) (ha : ti.k.agg = true) (hsz : ti.size = E.size) (hi : i < xs.length)
 (h : av P fr ops rest (A.set d (.agg (E.tys (nth xs i)))) fun A' l => K A' ((A, { d := some d, ty := .agg (E.tys (nth xs i)), rs := bw x, rt := [tg] }) :: l)) : av P fr ops (⟨some d, .load ty' x, t, p, e, none⟩ :: rest) A K :=
 bE (bL rfl rfl fun a w M wf hr ht => by
  have := cE (x := x) (fun _ h => h) hr
  rw [hx] at this
  obtain ⟨b, hb, e⟩ := this
  obtain ⟨cs, g1, g2, g3⟩ := nX (l := E.tys (nth xs i)) (b := b) (q := off) (off := 0) (n := ti.size) (m := E.tys (nth xs i)) (fun j t hj => lz wf h1 hb (nx hc w M ht) (by
   rw [he]; exact lO E xs hi j t hj)) (by rw [List.drop_zero, hsz, ← E.len (nth xs i), List.take_length]) (by rw [E.len, hsz])
  exact ⟨.agg cs.toArray, by simp only [execOp, e]; rw [Sem.run_bind, fu (off := off) hT ha g1 (by simpa using g3)]; rfl, cs.toArray, rfl, by simpa using g2⟩) h
end
section
variable {P : Program} {A : As} {fn : Func} {n : Nat} {w0 : World} {M0 : bB} [T : kf P]
end
section
variable {P : Program} {fr : Fr} {A : As} {c : Code} {Q : Exit → Act → World → Prop}
theorem g8 {tg : Nat} {C D : Cont} (hc : A.tag tg = some C) (h : C.Sub D) (h' : fU P fr c ⟨A.slots, (tg, D) :: A.tags⟩ Q) : fU P fr c A Q := fun a w ⟨M, ok, hsl, ht⟩ =>
 h' a w ⟨M, ok, hsl, fun x hx => by
  rcases List.mem_cons.1 hx with rfl | hx
  ·exact h _ _ _ (ht _ (cW hc))
  exact ht x hx⟩
end
section
variable {P : Program} {fr : Fr} {ops : Array Oper} {A : As} {rest : List Oper} {K : As → List (As × Fx) → Prop} {d : Nat} {t mt kt et : TypeId} {p : String} {e : Array Edge} {κ β : Type} [DecidableEq κ]
end
end Go.T
namespace Go.T
open Go Go.RowKit
def Mj (J : World → bB → Prop) (w : World) (M : bB) : Prop :=
  ∃ Mc, Wf w Mc ∧ Fc Mc ∧ J w Mc ∧ (∀ b, M b = none → Mc b = none) ∧ ∀ b u, b < w.heap.size → M b = some u → u ≠ 7000 → Mc b = some (Zt + b)
theorem wk {J : World → bB → Prop} (hJ : Cb J) {S K : Nat → Prop} {w w' : World} {M M' : bB} (le : Le S K w M w' M') (hs : ¬ S 7000) (hk : ¬ K 7000) (h : Mj J w M) : Mj J w' M' := by
  obtain ⟨Mc, wf, z, hj, h1, h2⟩ := h
  have own : ∀ b, M b = some 7000 → M' b = some 7000 ∧ w'.heap[b]? = w.heap[b]? := fun b h => let ⟨a, c⟩ := le.own b _ h hk; ⟨a, c hs⟩
  have mb : ∀ b t, Mc b = some t → t < Zt → M b = some 7000 := fun b t h ht => by
    cases hm : M b with
    | none => rw [h1 b hm] at h; cases h
    | some u =>
      by_cases e : u = 7000
      · rw [e]
      · have := h2 b u (wf.lt b t h) hm e
        rw [this] at h; injection h with h; omega
  let N : bB := fun b => if b < w'.heap.size then (match M' b with | none => none | some u => if u = 7000 then (if b < w.heap.size ∧ M b = some 7000 then Mc b else some (Zt + b)) else some (Zt + b)) else none
  have hN : ∀ b, N b = if b < w'.heap.size then (match M' b with | none => none | some u => if u = 7000 then (if b < w.heap.size ∧ M b = some 7000 then Mc b else some (Zt + b)) else some (Zt + b)) else none := fun _ => rfl
  have zok : Fc N := by
    intro b u h hu
    rw [hN] at h
    split at h
    · split at h
      · cases h
      · split at h
        · split at h
          · exact z b u h hu
          · injection h with h; exact h.symm
        · injection h with h; exact h.symm
    · cases h
  have wf' : Wf w' N := by
    refine ⟨fun b t h => ?_, fun b b' t ht1 h h' => ?_⟩
    · rw [hN] at h
      split at h
      · assumption
      · cases h
    · have part : ∀ b, N b = some (t + 1) → Mc b = some (t + 1) := fun b h => by
        have hz : t + 1 < Zt := by unfold Zt; omega
        rw [hN] at h
        split at h
        · split at h
          · cases h
          · split at h
            · split at h
              · exact h
              · injection h with h; omega
            · injection h with h; omega
        · cases h
      exact wf.inj b b' t ht1 (part b h) (part b' h')
  have lez : Le (fun t => Zt ≤ t) (fun t => Zt ≤ t) w Mc w' N := by
    refine ⟨le.size, le.os, le.tape, le.out, fun b hb hm => ?_, fun b t hm ht => ?_⟩
    · have hb' : b < w'.heap.size := Nat.lt_of_lt_of_le hb le.size
      cases hmb : M b with
      | none =>
        obtain ⟨a, c⟩ := le.oM b hb hmb
        exact ⟨by rw [hN, if_pos hb', a], c⟩
      | some u =>
        by_cases e : u = 7000
        · subst e
          obtain ⟨a, c⟩ := own b hmb
          exact ⟨by rw [hN, if_pos hb', a]; show (if (7000 : Nat) = 7000 then _ else _) = _; rw [if_pos rfl, if_pos ⟨hb, hmb⟩]; exact hm, c⟩
        · rw [h2 b u hb hmb e] at hm; cases hm
    · have hlt := wf.lt b t hm
      have h0 := mb b t hm (Nat.lt_of_not_le ht)
      obtain ⟨a, c⟩ := own b h0
      refine ⟨?_, fun _ => c⟩
      rw [hN, if_pos (Nat.lt_of_lt_of_le hlt le.size), a]
      show (if (7000 : Nat) = 7000 then _ else _) = _
      rw [if_pos rfl, if_pos ⟨hlt, h0⟩]; exact hm
  refine ⟨N, wf', zok, hJ _ _ _ _ wf' lez hj, fun b h => ?_, fun b u hb h hu => ?_⟩
  · rw [hN, h]; split <;> rfl
  · rw [hN, if_pos hb, h]; show (if u = 7000 then _ else _) = _; rw [if_neg hu]
def Cont.ck {J : World → bB → Prop} (hJ : Cb J) : Cont :=
  { den := fun w M t => t = 7000 ∧ Mj J w M
    mono := fun le _ _ hs hk ⟨e, h⟩ => ⟨e, wk hJ le (e ▸ hs) (e ▸ hk) h⟩ }
theorem Cont.L8 {J : Nat → World → bB → Prop} (hJ : ∀ k, Cb (J k)) {a b : Nat} (e : a = b) : (Cont.ck (hJ a)).Sub (Cont.ck (hJ b)) := by subst e; exact Cont.aF _
def Oa (b1 : Bool) (J1 Jx : World → bB → Prop) (w : World) (M : bB) (v : Value) : Prop := (v = .bool b1 ∧ Mj J1 w M) ∨ (v = .bool (!b1) ∧ Mj Jx w M)
def Ty.yb {J1 Jx : World → bB → Prop} (b1 : Bool) (h1 : Cb J1) (hx : Cb Jx) : Ty :=
  ⟨Oa b1 J1 Jx, [7000], [7000], fun le hk hs h => h.imp (fun ⟨e, h⟩ => ⟨e, wk h1 le (hs _ (by simp)) (hk _ (by simp)) h⟩) (fun ⟨e, h⟩ => ⟨e, wk hx le (hs _ (by simp)) (hk _ (by simp)) h⟩), true, fun _ h => h.elim (fun ⟨e, _⟩ => e ▸ rfl) (fun ⟨e, _⟩ => e ▸ rfl)⟩
def Cont.me (g T : Nat) (v : Value) (tys : List Ty) (cs : List Value) (h1 : cC tys = []) (h2 : bX tys = []) : Cont :=
  { den := fun w M _ => M g = some 1000 ∧ w.heap[g]? = some (.cells #[v] T (0, 0)) ∧ cB w M tys cs
    deps := [1000], cdeps := [1000]
    mono := fun le hk hs _ _ ⟨e1, e2, e3⟩ => let ⟨a, c⟩ := le.own g _ e1 (hk 1000 (by simp)); ⟨a, (c (hs 1000 (by simp))).trans e2, bQ le (by rw [h1]; intro _ h; cases h) (by rw [h2]; intro _ h; cases h) e3⟩ }
def Bo (w : World) (M1 Mc' : bB) : bB := fun b => if b < w.heap.size then M1 b else (Mc' b).map fun _ => 7000
theorem ID {w w' : World} {M1 Mc Mc' : bB} (wf1 : Wf w M1) (wf' : Wf w' Mc') (h1 : ∀ b, M1 b = none → Mc b = none) (h2 : ∀ b u, b < w.heap.size → M1 b = some u → u ≠ 7000 → Mc b = some (Zt + b)) (le : Le (fun t => t < Zt) (fun t => t < Zt) w Mc w' Mc') :
 Wf w' (Bo w M1 Mc') ∧ Le (· ∈ [7000]) (· ∈ ([] : List Nat)) w M1 w' (Bo w M1 Mc') ∧ (∀ b, Bo w M1 Mc' b = none → Mc' b = none) ∧ ∀ b u, b < w'.heap.size → Bo w M1 Mc' b = some u → u ≠ 7000 → Mc' b = some (Zt + b) := by
 unfold Bo
 refine ⟨⟨fun b u h => ?_, fun b b' u ht1 h h' => ?_⟩, ⟨le.size, le.os, le.tape, le.out, fun b hb hm => ⟨by simp [hb, hm], (le.oM b hb (h1 b hm)).2⟩, fun b u hm _ => ⟨by simp [wf1.lt b u hm, hm], fun hs => ?_⟩⟩, fun b h => ?_, fun b u _ h hu => ?_⟩
 ·split at h
  ·exact Nat.lt_of_lt_of_le ‹_› le.size
  obtain ⟨v, hv, _⟩ := Option.map_eq_some_iff.1 h
  exact wf'.lt b v hv
 ·have part : ∀ b, (if b < w.heap.size then M1 b else (Mc' b).map fun _ => 7000) = some (u + 1) → M1 b = some (u + 1) := fun b h => by
   split at h
   ·exact h
   obtain ⟨v, _, hv⟩ := Option.map_eq_some_iff.1 h
   omega
  exact wf1.inj b b' u ht1 (part b h) (part b' h')
 ·have hu : u ≠ 7000 := fun e => hs (by simp [e])
  exact (le.own b _ (h2 b u (wf1.lt b _ hm) hm hu) (by omega)).2 (by omega)
 ·split at h
  ·exact (le.oM b ‹_› (h1 b h)).1
  simpa using h
 split at h
 ·exact (le.own b _ (h2 b u ‹_› h hu) (by omega)).1
 obtain ⟨v, _, hv⟩ := Option.map_eq_some_iff.1 h
 exact absurd hv.symm hu
section
variable {P : Program} {fr : Fr} {ops : Array Oper} {A : As} {rest : List Oper} {K : As → List (As × Fx) → Prop} {d : Nat} {t ty' : TypeId} {p : String} {e : Array Edge}
theorem AR {c l k : Nat} {encs : List (List Ty)} {J : Nat → World → bB → Prop} {Jx : World → bB → Prop} (hJ : ∀ k, Cb (J k)) (hJx : Cb Jx) (hY : Mh P l encs J Jx) {xs : List Operand} {ats : Array TypeId} {tys : List Ty}
 (hkd : fr.kd = .plain) (hc : A.op fr (.tmp c) = .ex (yv l)) (hx : mw A fr xs = tys) (hd : cC tys = []) (hdc : bX tys = []) (hk : encs[k]? = some tys) (ht : A.tag 7000 = some (.ck (hJ k)))
 (h : av P fr ops rest (A.after { d := some d, ty := .yb true (hJ (k + 1)) hJx, S := [7000], rs := c :: xs.flatMap bw, rt := [7000] }) fun A' l' => K A' ((A, { d := some d, ty := .yb true (hJ (k + 1)) hJx, S := [7000], rs := c :: xs.flatMap bw, rt := [7000] }) :: l')) :
 av P fr ops (⟨some d, .call ⟨.value (.tmp c), xs.toArray, ats⟩, t, p, e, none⟩ :: rest) A K := by
 refine ⟨{ d := some d, ty := .yb true (hJ (k + 1)) hJx, S := [7000], rs := c :: xs.flatMap bw, rt := [7000] }, ⟨rfl, by simp, by simp, by simp, fun a w M wf hsz hrd htg => ?_⟩, h⟩
 rw [if_pos (by simp [Region.wanted])]
 have hcv := cE (x := .tmp c) (rs := c :: xs.flatMap bw) (fun u hu => by exact (List.mem_singleton.1 hu) ▸ List.mem_cons_self) hrd
 rw [hc] at hcv
 have hcv : a.eval (.tmp c) = yv l := hcv
 obtain ⟨_, Mc, wfc, z, hj, h1, h2⟩ := htg _ (cW ht) (by simp)
 have hv : cB w Mc tys (xs.map a.eval) := iI h1 hd hdc (hx ▸ gF (rs := c :: xs.flatMap bw) hrd fun x hx c hc => List.mem_cons_of_mem _ (List.mem_flatMap.2 ⟨x, hx, hc⟩))
 obtain ⟨fn, tmps, assign, body, hy, hR⟩ := hY k tys hk w Mc _ wfc z hj hv
 refine ⟨fun f _ => fr.kd.vA f, ?_⟩
 have hrun : (execOp a.eval ⟨some d, .call ⟨.value (.tmp c), xs.toArray, ats⟩, t, p, e, none⟩).run P w = .ok (.round l fn tmps assign body) w := by
  simp [execOp, resolve, hcv, yv, Deferred.ofValue, invoke, hy]
 rw [Oper.semAt_eq _ _ _ (by intro c h; cases h), hrun, Oper.uponIn_round]
 refine ⟨fun h => (by rw [fr.kd.xC] at h; cases h), ?_⟩
 have hfe : fr.kd.iq = Fence.wide := by rw [hkd]; rfl
 rw [hfe]
 refine RoundIn.mono hR fun en w' ⟨Mc', wf', z', le, hor⟩ => ?_
 obtain ⟨g1, g2, g3, g4⟩ := ID wf wf' h1 h2 le
 rcases hor with ⟨rfl, hj'⟩ | ⟨rfl, hj'⟩
 ·exact ⟨.bool true, rfl, _, g1, g2, .inl ⟨rfl, Mc', wf', z', hj', g3, g4⟩, by simp⟩
 exact ⟨.bool false, rfl, _, g1, g2, .inr ⟨rfl, Mc', wf', z', hj', g3, g4⟩, by simp⟩
theorem F5 {x : Operand} {J1 Jx : World → bB → Prop} {h1 : Cb J1} {hx : Cb Jx} {b1 : Bool} (hop : A.op fr x = .yb b1 h1 hx)
 (h : av P fr ops rest (A.set d (.yb (!b1) h1 hx)) fun A' l' => K A' ((A, { d := some d, ty := .yb (!b1) h1 hx, rs := bw x }) :: l')) : av P fr ops (⟨some d, .unOp .not ty' x, t, p, e, none⟩ :: rest) A K :=
 bE (bL rfl rfl fun a w M _ hrd _ => by
  have hdx := cE (x := x) (fun _ h => h) hrd
  rw [hop] at hdx
  rcases hdx with ⟨ex, hj⟩ | ⟨ex, hj⟩
  ·exact ⟨.bool (!b1), by simp [execOp, ex, Op.unary], .inl ⟨rfl, hj⟩⟩
  exact ⟨.bool (!!b1), by simp [execOp, ex, Op.unary], .inr ⟨rfl, hj⟩⟩) h
end
section
variable {P : Program} {fr : Fr} {A : As} {Q : Exit → Act → World → Prop} {x y : Code}
theorem De {c : Operand} {J1 Jx : World → bB → Prop} {h1 : Cb J1} {hx : Cb Jx} (hc : A.op fr c = .yb false h1 hx) (hth : fU P fr x ⟨A.slots, (7000, .ck hx) :: A.tags⟩ Q) (hel : fU P fr y ⟨A.slots, (7000, .ck h1) :: A.tags⟩ Q) : fU P fr (.cond c x y) A Q := fun a w ha => by
 obtain ⟨M, ok, hs, ht⟩ := ha
 have hd := cE (x := c) (rs := bw c) (fun _ h => h) (fun c _ hn => hs c hn)
 rw [hc] at hd
 rcases hd with ⟨ev, hj⟩ | ⟨ev, hj⟩
 ·exact wpIn_cond_false ev (hel a w ⟨M, ok, hs, fun x hx => by
   rcases List.mem_cons.1 hx with rfl | hx
   ·exact ⟨rfl, hj⟩
   exact ht x hx⟩)
 ·exact wpIn_cond_true ev (hth a w ⟨M, ok, hs, fun x hx => by
   rcases List.mem_cons.1 hx with rfl | hx
   ·exact ⟨rfl, hj⟩
   exact ht x hx⟩)
end
def kY (Mc : bB) (g : Option Nat) : bB := fun b => match Mc b with | none => none | some u => if u < Zt then some 7000 else if some b = g then some 1000 else some 5000
theorem Bh {Mc : bB} {g : Option Nat} {b : Nat} (h : kY Mc g b = none) : Mc b = none := by
 unfold kY at h
 split at h
 ·assumption
 split at h
 ·cases h
 split at h <;> cases h
theorem nQ {Mc : bB} {g : Option Nat} {b : Nat} (h : Mc b = none) : kY Mc g b = none := by simp [kY, h]
theorem E6 {w : World} {Mc : bB} {g : Option Nat} (wf : Wf w Mc) : Wf w (kY Mc g) := by
  refine ⟨fun b t h => ?_, fun b b' t ht h h' => ?_⟩
  · cases hm : Mc b with
    | none => rw [nQ hm] at h; cases h
    | some u => exact wf.lt b u hm
  · have key : ∀ b, kY Mc g b = some (t + 1) → some b = g := fun b h => by
      unfold kY at h
      split at h
      · cases h
      · split at h
        · injection h with h; omega
        · split at h
          · assumption
          · injection h with h; omega
    have e1 := key b h
    have e2 := key b' h'
    rw [← e2] at e1; injection e1
theorem E1 {w : World} {Mc : bB} {g : Option Nat} {J : World → bB → Prop} (wf : Wf w Mc) (z : Fc Mc) (hj : J w Mc) : Mj J w (kY Mc g) := by
 refine ⟨Mc, wf, z, hj, fun b h => Bh h, fun b u _ h hu => ?_⟩
 unfold kY at h
 split at h
 ·cases h
 rename_i v hv
 split at h
 ·injection h with h; exact absurd h.symm hu
 rw [hv]; congr 1; exact z b v hv (by omega)
section
variable {P : Program}
variable {A : As} {fn : Func} {n : Nat} {J1 Jx : World → bB → Prop}
end
end Go.T
namespace Go.T
open Go Go.RowKit
section
variable {P : Program} {fr : Fr} {ops : Array Oper} {A : As} {rest : List Oper} {K : As → List (As × Fx) → Prop} {d : Nat} {t ty' : TypeId} {p : String} {e : Array Edge} [T : kf P]
variable {α : Type} {E : El α} {Tb J : Nat} {xs ys : List α}
theorem MA {x : Operand} {ti : TI} {el : Nat} (hx : A.op fr x = .eL E Tb J xs) (hT : T.eE[ty']? = some ti) (hk : ti.k = .slice el)
 (h : av P fr ops rest (A.set d (.int .i64 (xs.length : Nat))) fun A' l => K A' ((A, { d := some d, ty := .int .i64 (xs.length : Nat), rs := bw x }) :: l)) :
 av P fr ops (⟨some d, .call ⟨.builtin .len, #[x], #[ty']⟩, t, p, e, none⟩ :: rest) A K :=
 bE (bL rfl rfl fun a w M _ hr _ => by
  have := cE (x := x) (fun _ h => h) hr
  rw [hx] at this
  have h1 := this
  obtain ⟨_, D, _, hD, hkd, _⟩ := ct hT
  rw [hk] at hkd
  cases D <;> simp only [TK.of, reduceCtorEq, TK.slice.injEq] at hkd
  refine ⟨.int .i64 xs.length, ?_, rfl⟩
  rcases h1 with ⟨hn, ex⟩ | ⟨g, off, c, cur, ex, _⟩
  ·simp [execOp, ex, resolve, invoke, builtin, Builtin.len_, run_underlying hD, hn, goInt]
  simp [execOp, ex, resolve, invoke, builtin, Builtin.len_, run_underlying hD, goInt]) h
theorem GS [Inhabited α] {x y : Operand} {kd : IntKind} {i : Nat} {ti te : TI} {el : Nat} (hx : A.op fr x = .eL E Tb J xs) (hy : A.op fr y = .int kd i) (hT : T.eE[ty']? = some ti) (hk : ti.k = .slice el) (hE : T.eE[el]? = some te) (hs : te.size = E.size) (hi : i < xs.length)
 (h : av P fr ops rest (A.set d (.op J (E.tys (nth xs i)))) fun A' l' => K A' ((A, { d := some d, ty := .op J (E.tys (nth xs i)), rs := bw x ++ bw y }) :: l')) : av P fr ops (⟨some d, .indexAddr ty' x y, t, p, e, none⟩ :: rest) A K :=
 bE (bL rfl rfl fun a w M _ hr _ => by
  obtain ⟨hdx, hdy⟩ := op2 hr
  rw [hx] at hdx; rw [hy] at hdy
  have h1 := hdx
  have ey : a.eval y = .int kd i := hdy
  rcases h1 with ⟨h0, _⟩ | ⟨g, off, c, cur, ex, hg, hh, hn, _, _, hd⟩
  ·subst h0; simp at hi
  refine ⟨_, by simp only [execOp, ex, ey, Sem.run_bind, gq hT hk hE (Int.natCast_nonneg i) (show (i : Int).toNat < xs.length from hi)]; rfl, g, off + i * te.size, by simp, hg, fun j ty hj => ?_⟩
  rw [hs]
  exact yz hh hd hi hj) h
theorem Lw {x y : Operand} {kd : IntKind} {lo : Nat} {ti te : TI} {el : Nat} (hx : A.op fr x = .eL E Tb J xs) (hy : A.op fr y = .int kd lo) (hT : T.eE[ty']? = some ti) (hk : ti.k = .slice el) (hE : T.eE[el]? = some te) (hs : te.size = E.size) (hlo : lo ≤ xs.length) (h0 : 0 < xs.length)
 (h : av P fr ops rest (A.set d (.eL E Tb J (xs.drop lo))) fun A' l' => K A' ((A, { d := some d, ty := .eL E Tb J (xs.drop lo), rs := bw x ++ bw y }) :: l')) : av P fr ops (⟨some d, .slice ty' x (some y) none none, t, p, e, none⟩ :: rest) A K :=
 bE (bL rfl rfl fun a w M _ hr _ => by
  obtain ⟨hdx, hdy⟩ := op2 hr
  rw [hx] at hdx; rw [hy] at hdy
  have h1 := hdx
  have ey : a.eval y = .int kd lo := hdy
  obtain ⟨_, D, _, hD, hkd, _⟩ := ct hT
  rw [hk] at hkd
  cases D <;> simp only [TK.of, reduceCtorEq, TK.slice.injEq] at hkd
  subst hkd
  have hsz := fun w => dH (P := P) hE w
  rcases h1 with ⟨hn, _⟩ | ⟨g, off, c, cur, ex, hg, hh, hn, hc, hsz2, hd⟩
  ·subst hn; simp at h0
  have hlc : lo ≤ c := by omega
  have hrun : ∃ ad, (execOp a.eval ⟨some d, .slice ty' x (some y) none none, t, p, e, none⟩).run P w = .ok (.value (.slice (some ad) (xs.length - lo) (c - lo))) w ∧ ad = (if c = lo then (⟨g, off, none⟩ : Addr) else ⟨g, off + lo * E.size, none⟩) := by
   refine ⟨_, ?_, rfl⟩
   simp [execOp, ex, ey, Instr.sliceAt, Instr.slice, run_underlying hD, Instr.sliceBounds, Instr.sliceBound, asIntOf, hsz, hs, hn, hlo]
   by_cases hcl : c = lo
   ·simp [hcl]
   simp [hcl]; exact Addr.add_lit _ _ _
  obtain ⟨ad, hrun, had⟩ := hrun
  have hlen : (xs.drop lo).length = xs.length - lo := List.length_drop
  have key : cB w M ((xs.drop lo).flatMap E.tys) ((cur.toList.drop (off + lo * E.size)).take ((xs.drop lo).length * E.size)) := by
   have := mj (lo * E.size) hd
   rw [List.drop_take, List.drop_drop, ← Nat.sub_mul] at this
   have e1 : (xs.flatMap E.tys).drop (lo * E.size) = (xs.drop lo).flatMap E.tys := by
    have : xs.flatMap E.tys = (xs.take lo).flatMap E.tys ++ (xs.drop lo).flatMap E.tys := by rw [← List.flatMap_append, List.take_append_drop]
    rw [this, List.drop_left' (by rw [cq, List.length_take, Nat.min_eq_left hlo])]
   rw [e1] at this
   rw [hlen]; exact this
  by_cases hcl : c = lo
  ·rw [if_pos hcl] at had
   subst had
   refine ⟨_, hrun, .inr ⟨g, off, c - lo, cur, by rw [hlen], hg, hh, by rw [hlen]; omega, by omega, ?_, ?_⟩⟩
   ·have : c - lo = 0 := by omega
    rw [this]; omega
   have h0' : xs.drop lo = [] := List.eq_nil_of_length_eq_zero (by rw [hlen]; omega)
   rw [h0']; simp [cB]
  rw [if_neg hcl] at had
  subst had
  refine ⟨_, hrun, .inr ⟨g, off + lo * E.size, c - lo, cur, by rw [hlen], hg, hh, by rw [hlen]; omega, by omega, ?_, key⟩⟩
  rw [Nat.add_assoc, ← Nat.add_mul, show lo + (c - lo) = c by omega]; exact hsz2) h
theorem FJ {x y : Operand} {st el : Nat} {ti te : TI} (hx : A.op fr x = .eL E el J xs) (hy : A.op fr y = .sl E ys) (hJ : 4096 ≤ J) (hp : fr.pass.contains J = false) (hpos : 0 < ys.length) (hT : T.eE[st]? = some ti) (hk : ti.k = .slice el) (hE : T.eE[el]? = some te) (hs : te.size = E.size) (hz : te.zero.length = te.size) (h0 : 0 < te.size)
    (hlen : (xs.length + ys.length) * te.bytes ≤ 140737488355328) (hlen' : xs.length + ys.length ≤ 9223372036854775807)
    (h : av P fr ops rest (A.after { d := some d, ty := .eL E el J (xs ++ ys), S := [J], rs := bw x ++ bw y }) fun A' l' => K A' ((A, { d := some d, ty := .eL E el J (xs ++ ys), S := [J], rs := bw x ++ bw y }) :: l')) :
    av P fr ops (⟨some d, .call ⟨.builtin .append, #[x, y], #[st, st]⟩, t, p, e, none⟩ :: rest) A K := by
  refine ⟨_, gC rfl rfl (by simp) (by simp; omega) (by simp) fun a w M wf hr htg => ?_, h⟩
  obtain ⟨hdx, hdy⟩ := op2 hr
  rw [hx] at hdx; rw [hy] at hdy
  have hrow := hdx
  obtain ⟨_, D, _, hD, hkd, _⟩ := ct hT
  rw [hk] at hkd
  cases D <;> simp only [TK.of, reduceCtorEq, TK.slice.injEq] at hkd
  subst hkd
  rename_i el
  obtain ⟨i, _, hi, _, _, hsz, hby, hze⟩ := ct hE
  obtain ⟨zz, hiz, hzc⟩ : ∃ z, i.zero = some z ∧ z.cells.size = i.size := by
    cases hiz : i.zero with
    | none => rw [hiz] at hze; rw [← hze] at hz; simp at hz; omega
    | some z => rw [hiz] at hze; exact ⟨z, rfl, by simp at hze; rw [hsz, ← hz, ← hze]; simp⟩
  obtain ⟨ad, c', ey, hc1, hc2, hpp⟩ := hdy
  obtain ⟨b', off', rfl, hp'⟩ := hpp hpos
  obtain ⟨news, hn1, hn2, hn3⟩ := mm hp' _ (Nat.le_refl _)
  rw [List.take_length] at hn2
  have hnl : news.length = ys.length * i.size := by rw [hn1, cq, hsz, hs]
  have hnews : ∀ j u, news[j]? = some u → w.cell? ((⟨b', off', none⟩ : Addr).add j) = some u := fun j u hj => by rw [Addr.add_lit]; exact hn3 j u hj
  have hones := lK hn2 (lH E ys)
  have hesz : E.size = i.size := by rw [hsz, hs]
  -- behind a growth
  have grown : ∀ (olds : List Value) (cap : Nat), cB w M (xs.flatMap E.tys) olds → cap < xs.length + ys.length →
      (Builtin.append_ #[st, st] t #[a.eval x, a.eval y]).run P w = .ok (.slice (some ⟨w.heap.size, 0, none⟩) (xs.length + ys.length) (grownCap w (xs.length + ys.length) cap el)) (w.drew.alloc (.cells (olds.toArray ++ news.toArray ++ Builtin.zeroCells zz.cells (grownCap w (xs.length + ys.length) cap el - (xs.length + ys.length))) el)) →
      ∃ v w', (execOp a.eval ⟨some d, .call ⟨.builtin .append, #[x, y], #[st, st]⟩, t, p, e, none⟩).run P w = .ok (.value v) w' ∧ Fx.left { d := some d, ty := .eL E el J (xs ++ ys), S := [J], rs := bw x ++ bw y } w M w' v := by
    intro olds cap hdo hcap hrun
    have holen : olds.length = xs.length * i.size := by rw [cL hdo, cq, hesz]
    have hge := grownCap_ge w (xs.length + ys.length) cap el
    have hcm : grownCap w (xs.length + ys.length) cap el ≤ maxLen := grownCap_le_maxLen w (xs.length + ys.length) cap el (by simp only [maxLen]; omega)
    have hsize : (w.drew.alloc (.cells (olds.toArray ++ news.toArray ++ Builtin.zeroCells zz.cells (grownCap w (xs.length + ys.length) cap el - (xs.length + ys.length))) el)).heap.size = w.heap.size + 1 := by simp
    have hold : ∀ b2, b2 < w.heap.size → (w.drew.alloc (.cells (olds.toArray ++ news.toArray ++ Builtin.zeroCells zz.cells (grownCap w (xs.length + ys.length) cap el - (xs.length + ys.length))) el)).heap[b2]? = w.heap[b2]? := fun b2 h => Below.heap_alloc w.drew _ b2 h
    have hnew : (w.drew.alloc (.cells (olds.toArray ++ news.toArray ++ Builtin.zeroCells zz.cells (grownCap w (xs.length + ys.length) cap el - (xs.length + ys.length))) el)).heap[w.heap.size]? = some (.cells (olds.toArray ++ news.toArray ++ Builtin.zeroCells zz.cells (grownCap w (xs.length + ys.length) cap el - (xs.length + ys.length))) el (0, 0)) := gO w.drew _
    have hos : (w.drew.alloc (.cells (olds.toArray ++ news.toArray ++ Builtin.zeroCells zz.cells (grownCap w (xs.length + ys.length) cap el - (xs.length + ys.length))) el)).os = w.os ∧ (w.drew.alloc (.cells (olds.toArray ++ news.toArray ++ Builtin.zeroCells zz.cells (grownCap w (xs.length + ys.length) cap el - (xs.length + ys.length))) el)).tape = w.tape ∧ (w.drew.alloc (.cells (olds.toArray ++ news.toArray ++ Builtin.zeroCells zz.cells (grownCap w (xs.length + ys.length) cap el - (xs.length + ys.length))) el)).output = w.output := ⟨rfl, rfl, rfl⟩
    have hcs : (olds.toArray ++ news.toArray ++ Builtin.zeroCells zz.cells (grownCap w (xs.length + ys.length) cap el - (xs.length + ys.length))).size = grownCap w (xs.length + ys.length) cap el * i.size := by
      simp only [Array.size_append, List.size_toArray, size_zeroCells, hzc, holen, hnl, ← Nat.add_mul]
      congr 1
      omega
    have htk : ((olds.toArray ++ news.toArray ++ Builtin.zeroCells zz.cells (grownCap w (xs.length + ys.length) cap el - (xs.length + ys.length))).toList.drop 0).take ((xs ++ ys).length * E.size) = olds ++ news := by
      rw [List.drop_zero]
      simp only [Array.toList_append]
      rw [List.take_left' (by rw [List.length_append, holen, hnl, List.length_append, hesz, Nat.add_mul])]
    generalize hw' : (w.drew.alloc (.cells (olds.toArray ++ news.toArray ++ Builtin.zeroCells zz.cells (grownCap w (xs.length + ys.length) cap el - (xs.length + ys.length))) el)) = w' at *
    generalize hcu : (olds.toArray ++ news.toArray ++ Builtin.zeroCells zz.cells (grownCap w (xs.length + ys.length) cap el - (xs.length + ys.length))) = cu at *
    have le : Le (· ∈ [J]) (· ∈ ([] : List Nat)) w M w' (fun b2 => if b2 = w.heap.size then some J else M b2) :=
      ⟨by omega, hos.1, hos.2.1, hos.2.2, fun b2 hb2 hm => ⟨by rw [if_neg (by omega)]; exact hm, hold b2 hb2⟩, fun b2 u hm _ => by
        have := wf.lt b2 u hm
        exact ⟨by rw [if_neg (by omega)]; exact hm, fun _ => hold b2 this⟩⟩
    have le0 : Le (· ∈ ([] : List Nat)) (· ∈ ([] : List Nat)) w M w' (fun b2 => if b2 = w.heap.size then some J else M b2) :=
      ⟨by omega, hos.1, hos.2.1, hos.2.2, fun b2 hb2 hm => ⟨by rw [if_neg (by omega)]; exact hm, hold b2 hb2⟩, fun b2 u hm _ => by
        have := wf.lt b2 u hm
        exact ⟨by rw [if_neg (by omega)]; exact hm, fun _ => hold b2 this⟩⟩
    have wf' : Wf w' (fun b2 => if b2 = w.heap.size then some J else M b2) := by
      refine ⟨fun b2 u hm => ?_, fun b2 b3 u ht1 hm hm' => ?_⟩
      · split at hm
        · omega
        · have := wf.lt b2 u hm; omega
      · split at hm
        · injection hm with hm; omega
        · split at hm'
          · injection hm' with hm'; omega
          · exact wf.inj b2 b3 u ht1 hm hm'
    refine ⟨.slice (some ⟨w.heap.size, 0, none⟩) (xs.length + ys.length) (grownCap w (xs.length + ys.length) cap el), w', by simp [execOp, resolve, invoke, builtin, hrun], _, wf', le, .inr ⟨w.heap.size, 0, grownCap w (xs.length + ys.length) cap el, cu, by rw [List.length_append], by simp, hnew, by rw [List.length_append]; exact hge, hcm, by rw [hcs, hesz]; omega, ?_⟩, by simp⟩
    rw [htk, List.flatMap_append]
    exact iW (bQ le0 (by rw [E.cO]; intro _ h; cases h) (by rw [E.cD]; intro _ h; cases h) hdo) (bQ le0 (by rw [E.cO]; intro _ h; cases h) (by rw [E.cD]; intro _ h; cases h) hn2)
  rcases hrow with ⟨hxe, ex⟩ | ⟨g, off, cap, cur, ex, hg, hh, hxc, hcm, hfit, hdx⟩
  · have hrn := run_append_nil (P := P) w st t el i zz hD hi hiz ⟨b', off', none⟩ ys.length c' news hnl hnews hpos (by omega) (by rw [hby]; have := hlen; rw [Nat.add_mul] at this; omega)
    subst hxe
    refine grown [] 0 trivial (by simpa using hpos) ?_
    rw [ex, ey]
    simpa using hrn
  · by_cases hroom : xs.length + ys.length ≤ cap
    · -- in place
      have hm : (xs.length + ys.length) * E.size ≤ cap * E.size := Nat.mul_le_mul_right _ hroom
      rw [Nat.add_mul] at hm
      have hcf : off + xs.length * i.size + news.length ≤ cur.size := by rw [hnl, ← hesz]; omega
      have hf := run_firstCells_some (P := P) w i.size ys.length ⟨b', off', none⟩ ys.length c' news hnl hnews
      have hst := run_storeCells_at (P := P) g (off + xs.length * i.size) el news 0 cur w hh (by simpa using hcf) hones
      rw [nY _ hh] at hst
      simp only [Nat.add_zero] at hst
      obtain ⟨h1', h2', h3'⟩ := iF (cs' := (cur.toList.take (off + xs.length * i.size) ++ news ++ cur.toList.drop (off + xs.length * i.size + news.length)).toArray) (Tb := el) wf hg _ rfl
      have hrun : (Builtin.append_ #[st, st] t #[a.eval x, a.eval y]).run P w = .ok (.slice (some ⟨g, off, none⟩) (xs.length + ys.length) cap) { w with heap := w.heap.setIfInBounds g (.cells (cur.toList.take (off + xs.length * i.size) ++ news ++ cur.toList.drop (off + xs.length * i.size + news.length)).toArray el (0, 0)) } := by
        rw [ex, ey]
        simp [Builtin.append_, run_underlying hD, sizeOf, typeInfo, hi, Builtin.lenOf, hroom, hf, Addr.add_lit, hst]
      have le : Le (· ∈ [J]) (· ∈ ([] : List Nat)) w M { w with heap := w.heap.setIfInBounds g (.cells (cur.toList.take (off + xs.length * i.size) ++ news ++ cur.toList.drop (off + xs.length * i.size + news.length)).toArray el (0, 0)) } M :=
        h2'.weaken (fun u hu => by simp only [List.mem_singleton] at hu; subst hu; simp) (fun _ h => by cases h)
      refine ⟨.slice (some ⟨g, off, none⟩) (xs.length + ys.length) cap, _, by simp [execOp, resolve, invoke, builtin, hrun], M, h1', le, .inr ⟨g, off, cap, _, by rw [List.length_append], hg, h3', by rw [List.length_append]; exact hroom, hcm, ?_, ?_⟩, by simp⟩
      · simp only [List.size_toArray, List.length_append, List.length_take, List.length_drop, Array.length_toList]
        omega
      · rw [List.length_append, Nat.add_mul, hesz, ← hnl, List.toList_toArray, wP _ _ _ _ (by simpa using hcf), List.flatMap_append]
        refine bQ h2' (by rw [← List.flatMap_append, E.cO]; intro _ h; cases h) (by rw [← List.flatMap_append, E.cD]; intro _ h; cases h) (iW ?_ hn2)
        rw [← hesz]; exact hdx
    · have holds : ∀ j u, ((cur.toList.drop off).take (xs.length * E.size))[j]? = some u → w.cell? ((⟨g, off, none⟩ : Addr).add j) = some u := fun j u hj => by
        rw [List.getElem?_take] at hj
        split at hj
        · rw [List.getElem?_drop] at hj
          rw [Addr.add_lit]
          simpa [World.cell?, hh] using hj
        · cases hj
      have hol : ((cur.toList.drop off).take (xs.length * E.size)).length = xs.length * i.size := by rw [cL hdx, cq, hesz]
      have hrn := run_append_grow (P := P) w st t el i zz hD hi hiz ⟨g, off, none⟩ xs.length cap _ hol holds ⟨b', off', none⟩ ys.length c' news hnl hnews (by omega) (by omega) (growslice_fits (by omega) (by rw [hby]; exact hlen))
      refine grown _ cap hdx (by omega) ?_
      rw [ex, ey]
      exact hrn
end
section
variable {P : Program} {fr : Fr} {A : As} {c : Code} {Q : Exit → Act → World → Prop}
end
end Go.T
namespace Go.T
open Go Go.RowKit
section
variable {P : Program} {fr : Fr} {ops : Array Oper} {A : As} {rest : List Oper} {K : As → List (As × Fx) → Prop} {d : Nat} {t : TypeId} {p : String} {e : Array Edge}
end
end Go.T
namespace Go.T
open Go Go.RowKit
theorem Ty.AB {α : Type} {E : El α} {T tg n : Nat} {xs : List α} (hn : xs.length = n) : (Ty.row E T tg xs).Sub (Ty.vs tg n) := fun w M v ⟨cs, h1, h2, h3⟩ => by
 subst hn
 rcases h1.2 with ⟨e, h0⟩ | ⟨g, cap, cur, ex, _, hh, hn1, hcap, _, htk⟩
 ·exact .inl ⟨h0, e⟩
 exact .inr ⟨g, cap, h3 g (by rw [ex]; rfl), ex, hn1, hcap⟩
theorem Cont.j3 {T : Nat} {l l' : List Ty} (h : JS l l') : (Cont.cells T l).Sub (Cont.cells T l') := fun w M v ⟨b, cs, h1, h2, h3⟩ => ⟨b, cs, h1, h2, tM h h3⟩
end Go.T
namespace Go.T
open Go Go.RowKit
end Go.T
namespace Go.T
open Go Go.RowKit
section
variable {P : Program} {fr : Fr} {A : As} {c : Code} {Q : Exit → Act → World → Prop}
theorem pT {α : Type} {E : El α} {T Tc tg c0 : Nat} {l : List Ty} {xs : List α} (i : Nat) (hc : A.tag c0 = some (.cells Tc l)) (hi : l[i]? = some (.row E T tg xs))
 (h : fU P fr c ⟨A.slots, (tg, .vec E T xs) :: A.tags⟩ Q) : fU P fr c A Q := fun a w ⟨M, ok, hsl, ht⟩ => by
 refine h a w ⟨M, ok, hsl, fun x hx => ?_⟩
 rcases List.mem_cons.1 hx with rfl | hx
 ·obtain ⟨b, cs, hb, hh, hd⟩ := ht _ (cW hc)
  obtain ⟨v, _, ⟨ds, h1, h2, h3⟩⟩ := dG hd i _ hi
  rcases h1.2 with ⟨e, h0⟩ | ⟨g, cap, cur, ex, _, hh, hn1, hcap, _, htk⟩
  ·exact .inl (List.length_eq_zero_iff.1 h0)
  have hg : M g = some tg := h3 g (by rw [ex]; rfl)
  exact .inr ⟨g, cur, hg, hh, by rw [cq, htk]; exact h2⟩
 exact ht x hx
end
end Go.T
namespace Go.T
open Go Go.RowKit
section
variable {P : Program} {A : As} {fn : Func} {n : Nat} {w0 : World} {M0 : bB}
end
end Go.T
namespace Go.T
open Go Go.RowKit
section
variable {P : Program} {fr : Fr} {A : As} {c : Code} {Q : Exit → Act → World → Prop}
end
section
variable {P : Program} {A : As} {fn : Func} {n : Nat} {w0 : World} {M0 : bB}
end
end Go.T
namespace Go.T
open Go Go.RowKit
section
variable {P : Program} {fr : Fr} {ops : Array Oper} {A : As} {rest : List Oper} {K : As → List (As × Fx) → Prop} {d : Nat} {t : TypeId} {p : String} {e : Array Edge} {y : Operand}
theorem zJ {c : Operand} {b : Bool} (hc : A.op fr c = .bool false) (hy : A.op fr y = .bool b)
 (h : av P fr ops rest (A.set d (.bool b)) fun A' l' => K A' ((A, { d := some d, ty := .bool b, rs := bw c ++ bw y }) :: l')) : av P fr ops (⟨some d, .pick c (.const (.bool true)) y, t, p, e, none⟩ :: rest) A K :=
 bE (bL rfl rfl fun a w M _ hrd _ => by
  obtain ⟨hdc, hdy⟩ := op2 hrd
  rw [hc] at hdc; rw [hy] at hdy
  have ec : a.eval c = .bool false := hdc
  have ey : a.eval y = .bool b := hdy
  exact ⟨.bool b, by simp only [execOp, ec, ey]; simp [asBool], rfl⟩) h
theorem JX {c : Operand} (hc : A.op fr c = .bool true)
 (h : av P fr ops rest (A.set d (.bool true)) fun A' l' => K A' ((A, { d := some d, ty := .bool true, rs := bw c ++ bw y }) :: l')) : av P fr ops (⟨some d, .pick c (.const (.bool true)) y, t, p, e, none⟩ :: rest) A K :=
 bE (bL rfl rfl fun a w M _ hrd _ => by
  obtain ⟨hdc, _⟩ := op2 hrd
  rw [hc] at hdc
  have ec : a.eval c = .bool true := hdc
  exact ⟨.bool true, by simp only [execOp, ec]; simp [asBool, Act.eval], rfl⟩) h
theorem zg {op : Op} {j s : Nat} {want : Bool} (hs : ot ops j = some s) (hn : Nat.blt s fr.n = true) (hc : A.slots s = .ex undef)
 (h : av P fr ops rest (A.set d (.ex undef)) fun A' l' => K A' ((A, { d := some d, ty := .ex undef, rs := [s] }) :: l')) : av P fr ops (⟨some d, op, t, p, e, some (j, want)⟩ :: rest) A K := by
 refine ⟨{ d := some d, ty := .ex undef, rs := [s] }, ⟨rfl, (by simp), (by simp), (by simp), fun a w M wf hsz hrd htg => ?_⟩, h⟩
 have hv := hrd s List.mem_cons_self (by simpa using hn)
 rw [hc] at hv
 have hy := qN (ops := ops) hs (by rw [hsz]; simpa using hn) hv
 have hw : Region.wanted ⟨some d, op, t, p, e, some (j, want)⟩ (yielded ops a.tmps) = false := by
  simp only [Region.wanted, hy]
  cases want <;> simp_all
 rw [if_neg (by rw [hw]; simp)]
 exact ⟨M, wf, Le.refl _ _ _ _, rfl, by simp⟩
end
section
variable {P : Program} {fr : Fr} {A : As} {Q : Exit → Act → World → Prop} {code : Code}
end
end Go.T
namespace Go.T
open Go Go.RowKit
section
variable {P : Program} {fr : Fr} {A : As} {Q : Exit → Act → World → Prop}
end
end Go.T
namespace Go.T
open Go Go.RowKit
section
variable {P : Program} {fr : Fr} {ops : Array Oper} {A : As} {rest : List Oper} {K : As → List (As × Fx) → Prop} {d : Nat} {t ty' : TypeId} {p : String} {e : Array Edge} [T : kf P]
end
section
open Go.RowKit
variable {P : Program} {A : As} {fn : Func} {n : Nat} {w0 : World} {M0 : bB} {F : List Nat} {post : List (Nat × Cont)} [T : kf P]
end
section
variable {P : Program} {fr : Fr} {A : As}
end
end Go.T
namespace Go.T
open Go Go.RowKit
section
variable {P : Program} {fr : Fr} {A : As}
theorem Cd {R : Act → World → Prop} {tg : Nat} (l : List (Nat × Ty)) (lt : List (Nat × Cont)) (h1 : 1 ≤ tg) (hp : fr.pass.contains tg = false) (hl : z7 A tg l) (hlt : JL A tg lt) (h : dR fr ⟨(A.oM tg l).slots, lt ++ (A.oM tg l).tags⟩ R) : dR fr A R := fun a w ⟨M, ok, hsl, ht⟩ => by
  have le : Le (· ∈ ([] : List Nat)) (· ∈ [tg]) w M w (dV M tg) := iN
  refine h a w ⟨dV M tg, ⟨tG ok.wf, Fr.iK ok.base (by intro _ h; cases h) (fun t ht => by simp only [List.mem_singleton] at ht; subst ht; exact ⟨h1, by simpa using hp⟩) le, ok.size, ok.defers.step (by intro _ h; cases h) (fun t ht => by simp only [List.mem_singleton] at ht; subst ht; exact h1) le⟩, fun i hi => ?_, fun x hx => ?_⟩
  · have base : (fW [] [tg] A.slots i).den w (dV M tg) (a.tmps.getD i undef) := by
      rcases fH [] [tg] A.slots i with ⟨e, hdj⟩ | ⟨_, e⟩
      · rw [e]; exact (A.slots i).mono le (eR hdj).1 (eR hdj).2 (hsl i hi)
      · rw [e]; trivial
    show (nS l (fW [] [tg] A.slots) i).den _ _ _
    clear h
    induction l with
    | nil => exact base
    | cons x l ih =>
      obtain ⟨d, t⟩ := x
      unfold nS
      cases hb : Nat.beq i d with
      | false => simp only [cond_false]; exact ih hl.2
      | true =>
        have : i = d := Nat.eq_of_beq_eq_true hb
        subst this
        simp only [cond_true]
        exact hl.1 w M _ ok.wf ht (hsl i hi)
  · rcases List.mem_append.1 (show x ∈ lt ++ (A.oM tg l).tags from hx) with hx | hx
    · exact xD ok.wf ht hlt hx
    · exact gj le hx fun y hy _ => ht y hy
end
end Go.T
namespace Go.T
open Go Go.RowKit
end Go.T
namespace Go.T
open Go Go.RowKit
def Nt (tys : List Ty) (vs : List Value) (w : World) (M : bB) (_ : Nat) : Prop := cB w M tys vs
def Cont.fact (tys : List Ty) (vs : List Value) (h1 : cC tys = []) (h2 : bX tys = []) : Cont :=
  { den := Nt tys vs, deps := [], cdeps := [], mono := fun le _ _ _ _ h => bQ le (by rw [h1]; intro _ h; cases h) (by rw [h2]; intro _ h; cases h) h }
def XB (b D Tb : Nat) (vs : List Value) (J : Nat → World → bB → Prop) : Prop :=
  ∀ k w M, Wf w M → J k w M → M b = some D ∧ ∃ cs : Array Value, w.heap[b]? = some (.cells cs Tb (0, 0)) ∧ cs.toList.take vs.length = vs
def Gn (P : Program) (f : FuncId) (b D Tb : Nat) (vs : List Value) (tys : List Ty) (args : Nat → List Ty) (encs : List (List Ty)) (resD resS : Ty) : Prop :=
  (∃ fn, P.funcs[f]? = some fn ∧ (fn.name == "runtime.NumGoroutine") = false ∧ fn.body.isNone = false) ∧
  ∀ l J Jx, (∀ k, Cb (J k)) → Cb Jx → XB b D Tb vs J → Mh P l encs J Jx → ∀ w M us, Wf w M → Fc M → cB w M (args l) us → cB w M tys vs → J 0 w M →
    Calls P f us.toArray w (cU encs.length J Jx resD resS)
section
variable {P : Program}
theorem C7 {f b D Tb : Nat} {us : List Value} {tys : List Ty} {fn : Func} {c : Code} {args : Nat → List Ty} {encs : List (List Ty)} {n : Nat} (h1 : cC tys = []) (h2 : bX tys = []) (hf : P.funcs[f]? = some fn) (hb : fn.body = some c) (hn : (fn.name == "runtime.NumGoroutine") = false) (hnt : fn.ntmps = n) (hl : ∀ l, (args l).length ≤ n) (hdd : ∀ l, cC (args l) = [] ∧ bX (args l) = [])
    (h : ∀ l J Jx (hJ : ∀ k, Cb (J k)) (hJx : Cb Jx), XB b D Tb us J → Mh P l encs J Jx → ∀ w0 M0, fU P ⟨n, w0, M0, [7000, 5000], .plain⟩ c (so (args l) [(7000, .ck (hJ 0)), (4000, Cont.fact tys us h1 h2)]) (bodyPost P fn (cU encs.length J Jx (Ty.kD []) (Ty.kD [])))) : Gn P f b D Tb us tys args encs (Ty.kD []) (Ty.kD []) := by
  refine ⟨⟨fn, hf, hn, by rw [hb]; rfl⟩, fun l J Jx hJ hJx hX hY w Mc vs wf z hd hus hj => calls_of_wp hf hb (wpIn_wide.1 (h l J Jx hJ hJx hX hY w (kY Mc none) _ _ ?_))⟩
  have hall : cB w (kY Mc none) (args l) vs := iI (fun b hb => nQ hb) (hdd l).1 (hdd l).2 hd
  have hlen := cL hall
  have hl := hl l
  refine ⟨kY Mc none, ⟨E6 wf, Le.refl _ _ _ _, by simp [hnt, hlen]; omega, Defs.nil⟩, fun c hc => ?_, fun x hx => ?_⟩
  · simp only [so]
    cases ha : (args l)[c]? with
    | none => trivial
    | some ty =>
      obtain ⟨v, hv, hdv⟩ := dG hall c ty ha
      have : (vs.toArray ++ Array.replicate (fn.ntmps - vs.toArray.size) undef).getD c undef = v := by
        have hlt : c < vs.length := (List.getElem?_eq_some_iff.1 hv).1
        rw [Array.getD_eq_getD_getElem?, Array.getElem?_append_left (by simpa using hlt)]
        simp [hv]
      rw [this]; exact hdv
  · rcases List.mem_cons.1 hx with rfl | hx
    · exact ⟨rfl, E1 wf z hj⟩
    · rw [List.mem_singleton.1 hx]
      exact iI (fun b hb => nQ hb) h1 h2 hus
theorem KV {fn : Func} {n : Nat} {A : As} {w0 : World} {M0 : bB} {J : Nat → World → bB → Prop} {Jx : World → bB → Prop} {m : Nat} {h1 : Cb (J m)} (hr : fn.results = #[]) (ht : A.tag 7000 = some (.ck h1)) : dR ⟨n, w0, M0, [7000, 5000], .plain⟩ A (bodyPost P fn (cU m J Jx (Ty.kD []) (Ty.kD [])) .normal) := by
 intro a w' ⟨M, ok, hsl, htg⟩
 obtain ⟨_, Mc', wf', z', hj, k1, k2⟩ := htg _ (cW ht)
 exact ⟨ok.gw (by simp), _, results_none hr _ _ _, _, Mc', rfl, wf', z', .inl ⟨⟨_, rfl, trivial⟩, hj⟩⟩
theorem IF {fn : Func} {n : Nat} {A : As} {w0 : World} {M0 : bB} {J : Nat → World → bB → Prop} {Jx : World → bB → Prop} {m k : Nat} {hJ : ∀ k, Cb (J k)} (e : k = m) (hr : fn.results = #[]) (ht : A.tag 7000 = some (.ck (hJ k))) : dR ⟨n, w0, M0, [7000, 5000], .plain⟩ A (bodyPost P fn (cU m J Jx (Ty.kD []) (Ty.kD [])) .normal) := by
 subst e; exact KV hr ht
theorem DI {fn : Func} {n : Nat} {A : As} {w0 : World} {M0 : bB} {J : Nat → World → bB → Prop} {Jx : World → bB → Prop} {m : Nat} {hx : Cb Jx} (hr : fn.results = #[]) (ht : A.tag 7000 = some (.ck hx)) : dR ⟨n, w0, M0, [7000, 5000], .plain⟩ A (bodyPost P fn (cU m J Jx (Ty.kD []) (Ty.kD [])) .ret) := by
 intro a w' ⟨M, ok, hsl, htg⟩
 obtain ⟨_, Mc', wf', z', hj, k1, k2⟩ := htg _ (cW ht)
 exact ⟨ok.gw (by simp), _, results_none hr _ _ _, _, Mc', rfl, wf', z', .inr ⟨⟨_, rfl, trivial⟩, hj⟩⟩
variable {fr : Fr} {ops : Array Oper} {A : As} {rest : List Oper} {K : As → List (As × Fx) → Prop} {d : Nat} {t ty' : TypeId} {p : String} {e : Array Edge} [T : kf P]
omit T in
theorem kJ {x : Operand} {b off : Nat} (hx : A.op fr x = .ex (.pointer (some ⟨b, off, none⟩)))
 (h : av P fr ops rest (A.set d (.ex (.pointer (some ⟨b, off, none⟩)))) fun A' l' => K A' ((A, { d := some d, ty := .ex (.pointer (some ⟨b, off, none⟩)), rs := bw x }) :: l')) : av P fr ops (⟨some d, .nilCheck x, t, p, e, none⟩ :: rest) A K :=
 bE (bL rfl rfl fun a w M _ hrd _ => by
  have hdx := cE (x := x) (fun _ h => h) hrd
  rw [hx] at hdx
  have ex : a.eval x = .pointer (some ⟨b, off, none⟩) := hdx
  exact ⟨_, by simp [execOp, ex], rfl⟩) h
theorem eH {x : Operand} {b off f : Nat} {ti tf : TI} {fs : List (Nat × Nat)} {o ft : Nat} (hx : A.op fr x = .ex (.pointer (some ⟨b, off, none⟩))) (hT : T.eE[ty']? = some ti) (hk : ti.k = .struct fs) (hf : fs[f]? = some (o, ft)) (hF : T.eE[ft]? = some tf) (h0 : tf.size ≠ 0)
 (h : av P fr ops rest (A.set d (.ex (.pointer (some ⟨b, off + o, none⟩)))) fun A' l' => K A' ((A, { d := some d, ty := .ex (.pointer (some ⟨b, off + o, none⟩)), rs := bw x }) :: l')) : av P fr ops (⟨some d, .fieldAddr ty' x f, t, p, e, none⟩ :: rest) A K :=
 bE (bL rfl rfl fun a w M _ hrd _ => by
  have hdx := cE (x := x) (fun _ h => h) hrd
  rw [hx] at hdx
  have ex : a.eval x = .pointer (some ⟨b, off, none⟩) := hdx
  exact ⟨_, by simp [execOp, ex, nA hT hk hf hF h0], rfl⟩) h
def OR {α : Type} (v : Value) (E : El α) (T tg : Nat) (xs : List α) (w : World) (M : bB) (_ : Nat) : Prop := (Ty.row E T tg xs).den w M v
def Cont.rv {α : Type} (v : Value) (E : El α) (T tg : Nat) (xs : List α) : Cont :=
  { den := OR v E T tg xs, deps := (Ty.row E T tg xs).deps, cdeps := (Ty.row E T tg xs).cdeps, mono := fun le hk hs _ _ h => (Ty.row E T tg xs).mono le hk hs h }
theorem qC {α : Type} {E : El α} {c : Nat} {y : Operand} {st el tg : Nat} {v : Value} {ti te : TI} {xs ys : List α} (hx : A.op fr (.tmp c) = .ex v) (hc : A.tag tg = some (.rv v E el tg xs)) (hy : A.op fr y = .sl E ys) (hcy : (bw y).contains c = false) (h1 : 1 ≤ tg) (hp : fr.pass.contains tg = false) (hT : T.eE[st]? = some ti) (hk : ti.k = .slice el) (hE : T.eE[el]? = some te) (hs : te.size = E.size) (hz : te.zero.length = te.size) (h0 : 0 < te.size)
 (hlen : (xs.length + ys.length) * te.bytes ≤ 140737488355328) (hlen' : xs.length + ys.length ≤ 9223372036854775807) (hyA : (A.set c (.row E el tg xs)).op fr y = A.op fr y) (hxA : (A.set c (.row E el tg xs)).op fr (.tmp c) = .row E el tg xs)
 (h : av P fr ops rest (A.after { d := some d, ty := .row E el tg (xs ++ ys), K := [tg], rs := bw (.tmp c) ++ bw y, rt := [tg] }) fun A' l' => K A' ((A, { d := some d, ty := .row E el tg (xs ++ ys), K := [tg], rs := bw (.tmp c) ++ bw y, rt := [tg] }) :: l')) :
 av P fr ops (⟨some d, .call ⟨.builtin .append, #[.tmp c, y], #[st, st]⟩, t, p, e, none⟩ :: rest) A K := by
 refine ⟨_, ?_, h⟩
 obtain ⟨a1, a2, a3, a4, a5⟩ := q4 (P := P) (fr := fr) (ops := ops) (A := A.set c (.row E el tg xs)) (d := d) (t := t) (p := p) (e := e) (x := .tmp c) (y := y) (E := E) (xs := xs) (ys := ys) (st := st) (by rw [hxA]; exact Ty.aF _) (hyA.trans hy) h1 hp hT hk hE hs hz h0 hlen hlen'
 refine ⟨a1, a2, a3, a4, fun a w M wf hsz hr ht => a5 a w M wf hsz (fun c' hc' hn => ?_) (fun x _ hx => by cases hx)⟩
 by_cases e : c' = c
 ·subst e
  have h1 : (A.slots c').den w M (a.tmps.getD c' undef) := hr c' hc' hn
  have h2 : OR v E el tg xs w M tg := ht _ (cW hc) (by simp)
  have h3 : A.slots c' = .ex v := by
   have h5 : (bif Nat.blt c' fr.n then A.slots c' else Ty.any) = .ex v := hx
   have h6 : Nat.blt c' fr.n = true := by rw [Nat.blt_eq]; exact hn
   rw [h6, cond_true] at h5
   exact h5
  rw [h3] at h1
  have h4 : a.tmps.getD c' undef = v := h1
  show ((A.set c' (.row E el tg xs)).slots c').den w M _
  simp only [As.set, Nat.beq_refl, cond_true]
  rw [h4]; exact h2
 show ((A.set c (.row E el tg xs)).slots c').den w M _
 have : Nat.beq c' c = false := by cases hb : Nat.beq c' c with | false => rfl | true => exact absurd (Nat.eq_of_beq_eq_true hb) e
 simp only [As.set, this, cond_false]
 exact hr c' hc' hn
theorem B8 {vs l : List Value} {i : Nat} {v : Value} (h : l.take vs.length = vs) (hv : vs[i]? = some v) : l[i]? = some v := by
 have hi : i < vs.length := (List.getElem?_eq_some_iff.1 hv).1
 rw [← h, List.getElem?_take, if_pos hi] at hv
 exact hv
theorem sM {x : Operand} {b D Tb off k : Nat} {vs : List Value} {tys : List Ty} {J : Nat → World → bB → Prop} {hJ : ∀ k, Cb (J k)} {ti : TI} {ty : Ty} {h1 : cC tys = []} {h2 : bX tys = []} (hX : XB b D Tb vs J) (hx : A.op fr x = .ex (.pointer (some ⟨b, off, none⟩))) (ht : A.tag 7000 = some (.ck (hJ k))) (htf : A.tag 4000 = some (Cont.fact tys vs h1 h2)) (hT : T.eE[ty']? = some ti) (ha : ti.k.agg = false) (hl : tys[off]? = some ty)
 (h : av P fr ops rest (A.set d ty) fun A' l => K A' ((A, { d := some d, ty := ty, rs := bw x, rt := [7000, 4000] }) :: l)) : av P fr ops (⟨some d, .load ty' x, t, p, e, none⟩ :: rest) A K :=
 bE (bL rfl rfl fun a w M wf hr htg => by
  have hdx := cE (x := x) (fun _ h => h) hr
  rw [hx] at hdx
  have ex : a.eval x = .pointer (some ⟨b, off, none⟩) := hdx
  obtain ⟨_, Mc, wfc, z, hj, g1, g2⟩ := htg _ (cW ht) (by simp)
  have hf : cB w M tys vs := htg _ (cW htf) (by simp)
  obtain ⟨_, cs, hh, hcs⟩ := hX k w Mc wfc hj
  obtain ⟨v, hv, hd⟩ := dG hf off ty hl
  have hv' : w.cell? ⟨b, off, none⟩ = some v := by
   have := B8 hcs hv
   simpa [World.cell?, hh] using this
  exact ⟨v, by simp [execOp, ex, gz hT ha hv'], hd⟩) h
theorem qF {b D Tb k : Nat} {vs : List Value} {tys : List Ty} {J : Nat → World → bB → Prop} {hJ : ∀ k, Cb (J k)} {h1 : cC tys = []} {h2 : bX tys = []} {L : List Nat} (hX : XB b D Tb vs J) (hD : D < 4096) (ht : A.tag 7000 = some (.ck (hJ k))) (htf : A.tag 4000 = some (Cont.fact tys vs h1 h2)) (hL0 : L.contains 7000 = true) (hL1 : L.contains 4000 = true) :
    uU A L (.ex (.pointer (some ⟨b, 0, none⟩))) (.pp tys) := fun w M v wf htg hv => by
  have hv : v = .pointer (some ⟨b, 0, none⟩) := hv
  have hL0 : 7000 ∈ L := by simpa using hL0
  have hL1 : 4000 ∈ L := by simpa using hL1
  obtain ⟨_, Mc, wfc, z, hj, g1, g2⟩ := htg _ (cW ht) hL0
  have hf : cB w M tys vs := htg _ (cW htf) hL1
  obtain ⟨hb, cs, hh, hcs⟩ := hX k w Mc wfc hj
  have hlt : b < w.heap.size := wfc.lt b _ hb
  have hm : pI M L b = none := by
    cases hm : M b with
    | none => exact jJ hm
    | some u =>
      by_cases e : u = 7000
      · subst e; exact zP hm hL0
      · have := g2 b u hlt hm e
        rw [this] at hb
        injection hb with hb
        have : Zt = 1000000 := rfl
        omega
  have hf2 : cB w (pI M L) tys vs := bQ (S := fun _ => True) (K := fun _ => True) (w' := w) ⟨Nat.le_refl _, rfl, rfl, rfl, fun b _ hm => ⟨jJ hm, rfl⟩, fun b t _ h => absurd trivial h⟩ (by rw [h1]; intro _ h; cases h) (by rw [h2]; intro _ h; cases h) hf
  refine ⟨b, 0, hv, hm, hlt, fun i t hi => ?_⟩
  obtain ⟨x, hx, hdx⟩ := dG hf2 i t hi
  refine ⟨x, ?_, hdx⟩
  have := B8 hcs hx
  simpa [World.cell?, hh] using this
end
theorem vB {l : List Nat} (h : l.all (fun t => Nat.blt t 1000000) = true) : ∀ t ∈ l, t < Zt := fun t ht => by
 have := List.all_eq_true.1 h t ht
 rw [Nat.blt_eq] at this; exact this
section
variable {P : Program} {fr : Fr} {A : As} {Q : Exit → Act → World → Prop} {c : Code}
theorem qG {w : World} {M : bB} {l1 l2 : List Ty} {vs : List Value} (h : cB w M (l1 ++ l2) vs) : ∃ v1 v2, vs = v1 ++ v2 ∧ cB w M l1 v1 ∧ cB w M l2 v2 := by
  induction l1 generalizing vs with
  | nil => exact ⟨[], vs, rfl, trivial, h⟩
  | cons t l1 ih =>
    cases vs with
    | nil => cases h
    | cons v vs =>
      obtain ⟨v1, v2, e, h1, h2⟩ := ih h.2
      exact ⟨v :: v1, v2, by rw [e]; rfl, ⟨h.1, h1⟩, h2⟩
theorem DO {w : World} {M : bB} : ∀ (vs : List Value), cB w M (vs.map Ty.ex) vs
  | [] => trivial
  | _ :: vs => ⟨rfl, DO vs⟩
theorem rC {w : World} {M : bB} : ∀ {vs us : List Value}, cB w M (vs.map Ty.ex) us → us = vs
  | [], [], _ => rfl
  | [], _ :: _, h => by cases h
  | _ :: _, [], h => by cases h
  | v :: vs, u :: us, h => by rw [show u = v from h.1, rC h.2]
theorem I4 {D Tb : Nat} {tys r : List Ty} (h1 : cC tys = []) (h2 : bX tys = []) (hc : A.tag D = some (.cells Tb (tys ++ r))) (hD : fN D)
 (h : ∀ vs, vs.length = tys.length → fU P fr c ⟨A.slots, (D, .cells Tb (vs.map Ty.ex ++ r)) :: (4000, Cont.fact tys vs h1 h2) :: A.tags.filter fun x => !(x.1 == D)⟩ Q) : fU P fr c A Q := by
 intro a w ⟨M, ok, hsl, htg⟩
 obtain ⟨b, cs, hb, hh, hd⟩ := htg _ (cW hc)
 obtain ⟨v1, v2, e, d1, d2⟩ := qG hd
 refine h v1 (cL d1) a w ⟨M, ok, hsl, fun x hx => ?_⟩
 rcases List.mem_cons.1 hx with rfl | hx
 ·exact ⟨b, cs, hb, hh, by rw [e]; exact eT (DO v1) d2⟩
 rcases List.mem_cons.1 hx with rfl | hx
 ·exact d1
 exact htg x (List.mem_filter.1 hx).1
theorem AO {D Tb : Nat} {vs : List Value} {tys r : List Ty} {h1 : cC tys = []} {h2 : bX tys = []} (hc : A.tag D = some (.cells Tb (vs.map Ty.ex ++ r))) (hf : A.tag 4000 = some (Cont.fact tys vs h1 h2))
 (h : fU P fr c ⟨A.slots, (D, .cells Tb (tys ++ r)) :: A.tags.filter fun x => !(x.1 == D)⟩ Q) : fU P fr c A Q := by
 intro a w ⟨M, ok, hsl, htg⟩
 obtain ⟨b, cs, hb, hh, hd⟩ := htg _ (cW hc)
 have hfd : cB w M tys vs := htg _ (cW hf)
 refine h a w ⟨M, ok, hsl, fun x hx => ?_⟩
 rcases List.mem_cons.1 hx with rfl | hx
 ·obtain ⟨v1, v2, e, d1, d2⟩ := qG hd
  rw [rC d1] at e
  exact ⟨b, cs, hb, hh, by rw [e]; exact eT hfd d2⟩
 exact htg x (List.mem_filter.1 hx).1
theorem uy {D Tb tg : Nat} {α : Type} {E : El α} {T : Nat} {xs : List α} (l1 : List Ty) {l2 : List Ty} (hc : A.tag D = some (.cells Tb (l1 ++ Ty.row E T tg xs :: l2)))
    (h : ∀ v, fU P fr c ⟨A.slots, (D, .cells Tb (l1 ++ Ty.ex v :: l2)) :: (tg, Cont.rv v E T tg xs) :: A.tags.filter fun x => !(x.1 == D)⟩ Q) : fU P fr c A Q := by
  intro a w ⟨M, ok, hsl, htg⟩
  obtain ⟨b, cs, hb, hh, hd⟩ := htg _ (cW hc)
  obtain ⟨v1, v2, e, d1, d2⟩ := qG hd
  match v2, d2 with
  | v :: v2, d2 =>
    refine h v a w ⟨M, ok, hsl, fun x hx => ?_⟩
    rcases List.mem_cons.1 hx with rfl | hx
    · exact ⟨b, cs, hb, hh, by rw [e]; exact eT d1 ⟨rfl, d2.2⟩⟩
    · rcases List.mem_cons.1 hx with rfl | hx
      · exact d2.1
      · exact htg x (List.mem_filter.1 hx).1
theorem yC {T tg off : Nat} {l : List Ty} (hc : A.tag tg = some (.cells T l)) (hd : lS (cC l) [tg] = true) (h1 : fN tg) : uC A tg (.ptr tg off) (.pp (l.drop off)) := fun w M v wf ht hv =>
 kC (A := A.set 0 (.ptr tg off)) (s := 0) rfl hc hd h1 w M v wf ht hv
theorem GU {tg i : Nat} {t : Ty} : ∀ {l l' : List Ty}, yt A tg l l' → l'[i]? = some t → ∃ i', i' = i ∧ ∃ s, l[i']? = some s ∧ uC A tg s t := by
  induction i with
  | zero =>
    intro l l' h e
    match l, l', h with
    | [], [], _ => cases e
    | s :: _, t' :: _, h => injection e with e; subst e; exact ⟨0, rfl, s, rfl, h.1⟩
  | succ i ih =>
    intro l l' h e
    match l, l', h with
    | [], [], _ => cases e
    | _ :: l, _ :: l', h =>
      obtain ⟨i', rfl, s, h1, h2⟩ := ih (l := l) (l' := l') h.2 e
      exact ⟨i' + 1, rfl, s, h1, h2⟩
theorem Az {tg : Nat} {l l' : List Ty} (h : yt A tg l l') : uC A tg (.pp l) (.pp l') := fun w M v wf ht ⟨b, off, e, m1, m2, m3⟩ => by
 refine ⟨b, off, e, by simp [dV, m1], m2, fun i t hi => ?_⟩
 obtain ⟨_, rfl, s, h1, h2⟩ := GU h hi
 obtain ⟨x, hx, hdx⟩ := m3 _ s h1
 exact ⟨x, hx, h2 w M x wf ht hdx⟩
theorem AD {tg s : Nat} {l l' : List Ty} (hx : A.slots s = .pp l) (h : yt A tg l l') : ya A tg s (.pp l') := fun w M v wf ht hv => Az h w M v wf ht (hx ▸ hv)
theorem Bm {f D Tb n sd : Nat} {tys : List Ty} {vs : List Value} {h1 : cC tys = []} {h2 : bX tys = []} {nO : List Ty} {encs : List (List Ty)} {resD resS : Ty} {s : Nat → Ty} {tg : Nat → List (Nat × Cont)} {r : Nat → List Ty}
    (hI : ∀ b, Gn P f b D Tb vs tys (fun l => Ty.ex (yv l) :: Ty.pp [Ty.ex (.pointer (some ⟨b, 0, none⟩))] :: nO) encs resD resS)
    (hD : fN D) (hsn : sd < n) (hsd : s sd = Ty.ptr D 0) (htD : ∀ k, (D, Cont.cells Tb (vs.map Ty.ex ++ r k)) ∈ tg k) (htf : (4000, Cont.fact tys vs h1 h2) ∈ tg 0) :
    ∀ (l : Nat) (J : Nat → World → bB → Prop) (Jx : World → bB → Prop) (tm : Array Value), (∀ k, Cb (J k)) → Cb Jx → Mh P l encs J Jx → (∀ k w M, J k w M → (∀ c, c < n → (s c).den w M (tm.getD c undef)) ∧ ∀ x ∈ tg k, x.2.den w M x.1) → ∀ w M us, Wf w M → Fc M → cB w M (Ty.ex (yv l) :: Ty.pp [Ty.ptr D 0] :: nO) us → J 0 w M → Calls P f us.toArray w (cU encs.length J Jx resD resS) := by
  intro l J Jx tm hJ hJx hY hS w M us wf z hd hj
  obtain ⟨u, rfl⟩ : ∃ u, D = u + 1 := ⟨D - 1, by have := hD.1; omega⟩
  have hat : ∀ k w M, Wf w M → J k w M → ∃ b, M b = some (u + 1) ∧ tm.getD sd undef = .pointer (some ⟨b, 0, none⟩) ∧ ∃ cs : Array Value, w.heap[b]? = some (.cells cs Tb (0, 0)) ∧ cs.toList.take vs.length = vs := fun k w M wf hj => by
    obtain ⟨g1, g2⟩ := hS k w M hj
    have g3 := g1 sd hsn
    rw [hsd] at g3
    obtain ⟨b, hb, e⟩ := g3
    obtain ⟨b', cs, hb', hh, hds⟩ := g2 _ (htD k)
    have := wf.inj b b' u hD.2 hb hb'
    subst this
    obtain ⟨v1, v2, e2, d1, d2⟩ := qG hds
    rw [rC d1] at e2
    exact ⟨b, hb, e, cs, hh, by rw [e2, List.take_left']; rfl⟩
  obtain ⟨b, hb, eb, _⟩ := hat 0 w M wf hj
  have hX : XB b (u + 1) Tb vs J := fun k w' M' wf' hj' => by
    obtain ⟨b', hb', eb', cs, hh, hcs⟩ := hat k w' M' wf' hj'
    rw [eb] at eb'
    injection eb' with eb'
    injection eb' with eb'
    injection eb' with eb' _ _
    subst eb'
    exact ⟨hb', cs, hh, hcs⟩
  refine (hI b).2 l J Jx hJ hJx hX hY w M us wf z ?_ ((hS 0 w M hj).2 _ htf) hj
  match us, hd with
  | u1 :: u2 :: us, ⟨d1, ⟨q, off, e, m1, m2, m3⟩, d3⟩ =>
    refine ⟨d1, ⟨q, off, e, m1, m2, fun i t hi => ?_⟩, d3⟩
    cases i with
    | succ i => cases hi
    | zero =>
      obtain ⟨x, hx, b', hb', ex⟩ := m3 0 _ rfl
      have := wf.inj b b' u hD.2 hb hb'
      subst this
      injection hi with hi
      subst hi
      exact ⟨x, hx, ex⟩
end
end Go.T
namespace Go.Proofs.YtelbollidfdcjaaGreat
open Go Go.T
set_option maxHeartbeats 4000000
section
variable {y : bA}
theorem Er (hr : y.cZ) : (y.bins.length : Int) * y.days = (y.cells : Nat) := by
 rw [← D_eq hr]; unfold bA.cells; simp
theorem nE (hr : y.cZ) : y.cells ≤ 20 := by
 have h1 := hr.bins; have h2 := hr.days; have h3 := D_eq hr
 have := Nat.mul_le_mul (show y.bins.length ≤ 4 by omega) (show y.D ≤ 5 by omega)
 unfold bA.cells; omega
theorem BF {s d : Int} (hs : 0 ≤ s ∧ s ≤ 4) (hd : 0 ≤ d ∧ d ≤ 6) : 0 ≤ s * d ∧ s * d ≤ 24 := by
 have : s = 0 ∨ s = 1 ∨ s = 2 ∨ s = 3 ∨ s = 4 := by omega
 rcases this with e | e | e | e | e <;> subst e <;> omega
def fm (n : Int) (l : List Int) : Int := l.foldl min n
theorem CN (n : Int) (l : List Int) : fm n (l.take 0) = n := rfl
theorem DC {n : Int} {l : List Int} {k : Nat} (h : k < l.length) : min (fm n (l.take k)) (nth l k) = fm n (l.take (k + 1)) := by
 unfold fm; rw [cS h, List.foldl_append]; rfl
def wM (k : Nat) : List Bool := List.replicate k true ++ List.replicate (8 - k) false
def bZ : List Bool := List.replicate 8 true
theorem yO {k : Nat} (h : k ≤ 8) : (wM k).length = 8 := by unfold wM; rw [List.length_append, List.length_replicate, List.length_replicate]; omega
theorem CH {k : Nat} (h : k < 8) : (wM k).set k true = wM (k + 1) := by
 unfold wM
 rw [List.set_append_right _ _ (by simp), List.length_replicate, Nat.sub_self, show 8 - k = (8 - (k + 1)) + 1 by omega, List.replicate_succ, List.set_cons_zero, List.replicate_succ', List.append_assoc]; rfl
theorem LU (hr : y.cZ) {s d : Int} (h : s = -1) : ((y.cells : Nat) : Int) = y.cell s d := by rw [h, ry hr]
theorem Li {s d : Int} (h : ¬ s = -1) : s * y.days + d = y.cell s d := (if_neg h).symm
theorem Gk (hr : y.cZ) {b t : Nat} : (b : Int) * (y.days + 1) + t = (y.kept b t : Nat) := by
 rw [← D_eq hr]; unfold bA.kept; simp
end
attribute [local irreducible] bA.cell bA.kept bA.cells fm
attribute [local irreducible] g6 fS m8 qg iZ iT ij ia ig qM iS qR dY gb qd gV qV nth fU dR av dK bodyPost Exit.then Exit.inBlock Code.wp Code.wpIn fR qb qX qT iw qW qc iY fC cT cU bodyPostM dr
set_option maxRecDepth 100000 in
theorem rz (n : Int) (l : List Int) : dK Tryz.prog 180 [Ty.int .i64 n, Ty.sl dD l] (Ty.int .i64 (fm n l)) := by
 refine aa Tryz.func180 rfl (by decide) Tryz.ntmps180 (by exact Nat.le_of_ble_eq_true rfl) fun w0 M0 => ?_
 refine gH (s := 1) rfl rfl gD fun hln => ?_
 refine aE (aA (bk rfl (aD (aB (aE (aE (aA (ej rfl (b9 rfl rfl rfl ?_)))))))))
 refine bI rfl (aD (aB (af ?_)))
 refine cK (fun (k : {k : Nat // k ≤ l.length}) => live [(0, Ty.int .i64 (fm n (l.take k.1))), (7, Ty.sl dD l), (8, Ty.int .i64 l.length), (9, Ty.int .i64 (k.1 : Nat))] []) (fun k => l.length - k.1) (⟨0, by omega⟩) ?_ fun k => ?_
 ·(refine cv.mk' ?_ ?_ <;> (repeat' (first | exact aM | exact aL | refine aC ?_ (Ty.aV _) | refine aC ?_ (Ty.aF _) | refine aC ?_ ?_)))
  all_goals exact Ty.bU (CN n l).symm
 refine aE (aA (bC rfl rfl rfl (aD (aB (aE ?_)))))
 refine az rfl (fun hc1 => ?_) (fun hc1 => ?_)
 ·
  refine aq (aB (aE (af (aE (aA ?_)))))
  refine ak rfl rfl rfl rfl rfl rfl (by omega) ?_
  refine aG rfl rfl rfl rfl (bk rfl (aD (aB (aA (bI rfl (bI rfl (Km rfl rfl (bk rfl (aD ?_)))))))))
  refine bM (aB (aA ?_))
  refine b8 rfl rfl (by omega) (by omega) ?_
  refine bI rfl (aD ?_)
  refine bO (⟨k.1 + 1, by omega⟩) ?_ (by show l.length - (k.1 + 1) < l.length - k.1; omega)
  (refine cv.mk' ?_ ?_ <;> (repeat' (first | exact aM | exact aL | refine aC ?_ (Ty.aV _) | refine aC ?_ (Ty.aF _) | refine aC ?_ ?_)))
  all_goals skip
  all_goals exact Ty.bU (DC (by omega))
 refine cI (aP (aP (aj rfl (aB (aE (aA (bI rfl (bk rfl (aD ?_)))))))))
 refine aB (ay (bJ rfl rfl ?_))
 all_goals skip
 all_goals exact ah rfl rfl (congrArg (Ty.int .i64) (by rw [List.take_of_length_le (by have := k.2; omega)]))
set_option maxRecDepth 100000 in
theorem ru : dK Tryz.prog 118 [] (Ty.arr iy bZ) := by
 refine aa Tryz.func118 rfl (by decide) Tryz.ntmps118 (by exact Nat.le_of_ble_eq_true rfl) fun w0 M0 => ?_
 refine aE (aA ?_)
 refine bu rfl (by exact List.cons_ne_nil _ _) rfl ?_
 refine aD (aB (aE (aA ?_)))
 refine BQ (E := iy) (xs := List.replicate 8 false) rfl (by exact List.cons_ne_nil _ _) rfl rfl ?_
 refine aD (aB (aE (aE (aA (bI rfl (aD (aB (af ?_))))))))
 refine cK (fun (k : {k : Nat // k ≤ 8}) => live [(0, Ty.ptr 1 0), (1, Ty.ptr 2 0), (3, Ty.int .i64 (k.1 : Nat))] [(1, Cont.cells 180 [Ty.bool false, Ty.bool false, Ty.bool false, Ty.bool false, Ty.bool false, Ty.bool false, Ty.bool false, Ty.bool false]), (2, Cont.vec iy 180 (wM k.1))]) (fun k => 8 - k.1) (⟨0, by omega⟩) ?_ fun k => ?_
 ·(refine cv.mk' ?_ ?_ <;> (repeat' (first | exact aM | exact aL | refine aC ?_ (Ty.aV _) | refine aC ?_ (Ty.aF _) | refine aK rfl (Cont.aF _) ?_)))
 have hkl := yO k.2
 refine aE (aA (bC rfl rfl rfl (aD (aB (aE ?_)))))
 refine az rfl (fun hc1 => ?_) (fun hc1 => ?_)
 ·
  refine aq (aB (aE (af (aE (aA (bI rfl (bk rfl (aD (aB ?_)))))))))
  refine aA (bI rfl ?_)
  refine sB (n := 8) rfl rfl rfl rfl rfl (by omega) (by omega) ?_
  refine sA rfl rfl rfl (by decide) rfl rfl (by exact (rfl : _ = Ty.bool _)) rfl (by omega) (by decide) rfl rfl ?_
  refine aD (bM (aB (aA ?_)))
  refine b8 rfl rfl (by omega) (by omega) ?_
  refine bI rfl (aD ?_)
  refine bO (⟨k.1 + 1, by omega⟩) ?_ (by show 8 - (k.1 + 1) < 8 - k.1; omega)
  (refine cv.mk' ?_ ?_ <;> (repeat' (first | exact aM | exact aL | refine aC ?_ (Ty.aV _) | refine aC ?_ (Ty.aF _) | refine aK rfl (Cont.aF _) ?_ | refine aK rfl ?_ ?_)))
  all_goals skip
  all_goals exact Cont.fF (CH (by omega))
 refine cI (aP (aP (aj rfl (aB (aE ?_)))))
 obtain ⟨k, hk⟩ := k
 obtain rfl : k = 8 := by have h1 : ¬ (k : Int) < 8 := hc1; have h2 : k ≤ 8 := hk; omega
 have hkl := yO hk
 refine aA ?_
 refine hO rfl rfl (by decide) rfl rfl (by rw [hkl]; rfl) (fun e => by rw [e] at hkl; cases hkl) ?_
 refine Bi rfl rfl (by decide) rfl rfl (by rw [hkl]; rfl) rfl ?_
 refine aD (aB (ay ?_))
 refine BA (show wM 8 = bZ from rfl) rfl rfl rfl rfl (by decide) rfl rfl (by rw [hkl]; rfl) (fun e => by rw [e] at hkl; cases hkl)
set_option maxRecDepth 100000 in
theorem sP (y : bA) (hr : y.cZ) : dK Tryz.prog 131 [Ty.pp (bS y)] (Ty.int .i64 (y.cells : Nat)) := by
 refine aa Tryz.func131 rfl (by decide) Tryz.ntmps131 (by exact Nat.le_of_ble_eq_true rfl) fun w0 M0 => ?_
 have hcm := Er hr
 have hcl := nE hr
 refine aE (aA (bk rfl (aD (aB (aE (cN mixed rfl (ji rfl (bh rfl ?_))))))))
 refine aI rfl rfl rfl rfl rfl (by decide) ?_
 refine aI rfl rfl rfl rfl rfl (by decide) ?_
 refine aG rfl rfl rfl rfl (b9 rfl rfl rfl (ji rfl (bh rfl ?_)))
 refine aI rfl rfl rfl rfl rfl (by decide) ?_
 refine aI rfl rfl rfl rfl rfl (by decide) ?_
 refine aG rfl rfl rfl rfl ?_
 refine AN rfl rfl (by rw [hcm]; omega) (by rw [hcm]; omega) ?_
 refine bk rfl (aD ?_)
 refine ⟨by kernel_rfl, ?_⟩
 refine aB (ay (bJ rfl rfl ?_))
 all_goals skip
 all_goals exact ah rfl rfl (congrArg (Ty.int .i64) hcm)
set_option maxRecDepth 100000 in
theorem wS (y : bA) (hr : y.cZ) (s d : Int) (hs : -1 ≤ s ∧ s < y.bins.length) (hd : 0 ≤ d ∧ d ≤ y.days) : dK Tryz.prog 132 [Ty.pp (bS y), Ty.int .i64 s, Ty.int .i64 d] (Ty.int .i64 (y.cell s d)) := by
 refine aa Tryz.func132 rfl (by decide) Tryz.ntmps132 (by exact Nat.le_of_ble_eq_true rfl) fun w0 M0 => ?_
 have h1 := hr.bins
 have h2 := hr.days
 refine aE (aA (bk rfl (aD (aB (aE (aE (aA (bI rfl (bC rfl rfl rfl ?_)))))))))
 refine aD (aB ?_)
 refine az rfl (fun hc1 => ?_) (fun hc1 => ?_)
 ·
  refine aE (aA (ji rfl (aZ (sP y hr) rfl rfl rfl rfl rfl (bk rfl (aD (aB (ay (aQ (bJ rfl rfl ?_)))))))))
  all_goals skip
  all_goals exact ah rfl rfl (congrArg (Ty.int .i64) (LU hr hc1))
 refine aq (aB (aE ?_))
 have hb := BF (s := s) (d := y.days) (by omega) (by omega)
 refine aA (bI rfl (ji rfl (bh rfl ?_)))
 refine aI rfl rfl rfl rfl rfl (by decide) ?_
 refine aI rfl rfl rfl rfl rfl (by decide) ?_
 refine aG rfl rfl rfl rfl ?_
 refine AN rfl rfl (by omega) (by omega) ?_
 refine bI rfl ?_
 refine b8 rfl rfl (by omega) (by omega) ?_
 refine bk rfl (aD (aB (ay (bJ rfl rfl ?_))))
 all_goals skip
 all_goals exact ah rfl rfl (congrArg (Ty.int .i64) (Li hc1))
set_option maxRecDepth 100000 in
theorem Cs (y : bA) (hr : y.cZ) (b t : Nat) (hb : b < y.bins.length) (ht : t ≤ y.D) : dK Tryz.prog 89 [Ty.pp (bS y), Ty.int .i64 (b : Nat), Ty.int .i64 (t : Nat)] (Ty.int .i64 (y.kept b t : Nat)) := by
 refine aa Tryz.func89 rfl (by decide) Tryz.ntmps89 (by exact Nat.le_of_ble_eq_true rfl) fun w0 M0 => ?_
 have h1 := hr.bins
 have h2 := hr.days
 have h3 := D_eq hr
 have h4 := BF (s := (b : Nat)) (d := y.days + 1) (by omega) (by omega)
 refine aE (aA (bk rfl (aD (aB (aE (aA (bI rfl (ji rfl (bh rfl ?_)))))))))
 refine aI rfl rfl rfl rfl rfl (by decide) ?_
 refine aI rfl rfl rfl rfl rfl (by decide) ?_
 refine aG rfl rfl rfl rfl ?_
 refine b8 rfl rfl (by omega) (by omega) ?_
 refine AN rfl rfl (by omega) (by omega) ?_
 refine bI rfl ?_
 refine b8 rfl rfl (by omega) (by omega) ?_
 refine bk rfl (aD (aB (ay (bJ rfl rfl ?_))))
 all_goals skip
 all_goals exact ah rfl rfl (congrArg (Ty.int .i64) (Gk hr))
end Go.Proofs.YtelbollidfdcjaaGreat
namespace Go.Proofs.YtelbollidfdcjaaGreat
open Go Go.T
set_option maxHeartbeats 8000000
def jS (f : bp) : List Ty := [Ty.agg (dW.tys f)]
section
variable {y : bA} {c : Nat → Bool} {b t : Nat}
def Cu (y : bA) (b t : Nat) : Int := if 0 < t then y.cell b ((t : Int) - 1) else (y.cells : Nat)
def Ex (y : bA) (b t : Nat) : Int := if t < y.D then y.cell b t else (y.cells : Nat)
def uo (s d : Int) (k : Span) : List Ty := [Ty.int .i64 s, Ty.int .i64 d, Ty.int .i64 k.lo, Ty.int .i64 k.hi]
theorem KO (h : (t : Int) > 0) : y.cell b ((t : Int) - 1) = Cu y b t := (if_pos (by omega)).symm
theorem LW (h : ¬ (t : Int) > 0) : ((y.cells : Nat) : Int) = Cu y b t := (if_neg (by omega)).symm
theorem Jz (hr : y.cZ) (h : (t : Int) < y.days) : y.cell b t = Ex y b t := (if_pos (by have := D_eq hr; omega)).symm
theorem L9 (hr : y.cZ) (h : ¬ (t : Int) < y.days) : ((y.cells : Nat) : Int) = Ex y b t := (if_neg (by have := D_eq hr; omega)).symm
theorem Gz (h : (t : Int) > 0) : 0 = (g9 y b t).lo ∧ (nth y.bins b).holds = (g9 y b t).hi := by unfold g9; rw [if_pos (by omega)]; exact ⟨rfl, rfl⟩
theorem K2 (h : ¬ (t : Int) > 0) : max 0 (nth y.bins b).first.lo = (g9 y b t).lo ∧ fm (nth y.bins b).holds [(nth y.bins b).first.hi] = (g9 y b t).hi := by unfold g9; rw [if_neg (by omega)]; exact ⟨rfl, rfl⟩
theorem Dy {s : Span} {k : Nat} (h : ((c k && decide ((nth y.levels k).bin = b)) && decide ((nth y.levels k).day = t)) = true) : max (gK y c b t s k).lo (nth y.levels k).sacks.lo = (gK y c b t s (k + 1)).lo ∧ fm (gK y c b t s k).hi [(nth y.levels k).sacks.hi] = (gK y c b t s (k + 1)).hi := by
 show _ = (if _ then _ else _ : Span).lo ∧ _ = (if _ then _ else _ : Span).hi
 rw [if_pos h]; exact ⟨rfl, rfl⟩
theorem HL {s : Span} {k : Nat} (h : ((c k && decide ((nth y.levels k).bin = b)) && decide ((nth y.levels k).day = t)) = false) : (gK y c b t s k).lo = (gK y c b t s (k + 1)).lo ∧ (gK y c b t s k).hi = (gK y c b t s (k + 1)).hi := by
 show _ = (if _ then _ else _ : Span).lo ∧ _ = (if _ then _ else _ : Span).hi
 rw [if_neg (by rw [h]; decide)]; exact ⟨rfl, rfl⟩
theorem Bs (s : Span) : s.lo = (gK y c b t s 0).lo ∧ s.hi = (gK y c b t s 0).hi := ⟨rfl, rfl⟩
theorem KC {s : Span} {k : Nat} (hk : k ≤ y.levels.length) (h : ¬ (k : Int) < (y.levels.length : Int)) : gK y c b t s k = gK y c b t s y.levels.length := by rw [show k = y.levels.length by omega]
theorem J3 (hb : b < y.bins.length) (ht : t ≤ y.D) : jS (nth (aR y c) (b * (y.D + 1) + t)) = [Ty.agg (uo (Cu y b t) (Ex y b t) (gK y c b t (g9 y b t) y.levels.length))] := congrArg jS (iM (c := c) hb ht)
theorem KY {i : Nat} (hi : i < y.moves.length) : jS (nth (aR y c) (y.bins.length * (y.D + 1) + i)) = [Ty.agg [Ty.int .i64 (y.cell (nth y.moves i).src (nth y.moves i).day), Ty.int .i64 (y.cell (nth y.moves i).dst (nth y.moves i).day), Ty.int .i64 (nth y.moves i).sacks.lo, Ty.int .i64 (nth y.moves i).sacks.hi]] := congrArg jS (iL (c := c) hi)
theorem DJ (hb : b < y.bins.length) (ht : t ≤ y.D) : b * (y.D + 1) + t < (aR y c).length := by
 rw [fA]; have h := pW hb ht; unfold bA.kept at h; omega
theorem Ht {J : Nat → World → bB → Prop} (hJ : ∀ k, Cb (J k)) {m k : Nat} (e : m = k) : (Cont.ck (hJ m)).Sub (Cont.ck (hJ k)) := Cont.L8 hJ e
end
attribute [local irreducible] bA.cell bA.cells fm Cu Ex g9 gK aR
attribute [local irreducible] g6 fS m8 qg iZ iT ij ia ig qM iS qR dY gb qd gV qV nth fU dR av dK bodyPost Exit.then Exit.inBlock Code.wp Code.wpIn fR qb qX qT iw qW qc iY fC cT cU bodyPostM dr
set_option maxRecDepth 100000 in
theorem vG (y : bA) (hr : y.cZ) (c8 : List Bool) (hc8 : c8.length = 8) (b D : Nat) (hD : D < 4096) (vs : List Value) : Gn Tryz.prog 196 b D 185 vs (bS y) (fun l => [Ty.ex (yv l), Ty.pp [Ty.ex (.pointer (some ⟨b, 0, none⟩))], Ty.pa iy c8 0]) ((aR y (nth c8)).map jS) (Ty.kD []) (Ty.kD []) := by
 refine C7 rfl rfl Tryz.func196 rfl (by decide) Tryz.ntmps196 (fun _ => by exact Nat.le_of_ble_eq_true rfl) (fun _ => ⟨rfl, rfl⟩) fun l J Jx hJ hJx hX hY w0 M0 => ?_
 have h1 := hr.bins
 have h2 := hr.days
 have h3 := D_eq hr
 have h4 := hr.moves
 have h5 := hr.levels
 refine aE (aE (aA (aG rfl rfl rfl rfl (kJ rfl ?_))))
 refine eH rfl rfl rfl rfl rfl (by decide) ?_
 refine eH rfl rfl rfl rfl rfl (by decide) ?_
 refine sM hX rfl rfl rfl rfl rfl rfl (b9 rfl rfl rfl (bI rfl (aD (aB (af ?_)))))
 refine cK (fun (k : {k : Nat // k ≤ y.bins.length}) => live [(0, Ty.ex (yv l)), (1, Ty.pp [Ty.ex (.pointer (some ⟨b, 0, none⟩))]), (2, Ty.pa iy c8 0), (16, Ty.sl fJ y.bins), (17, Ty.int .i64 y.bins.length), (18, Ty.int .i64 (k.1 : Nat))] [(7000, Cont.ck (hJ (k.1 * (y.D + 1)))), (4000, Cont.fact (bS y) vs rfl rfl)]) (fun k => y.bins.length - k.1) (⟨0, by omega⟩) ?_ fun k => ?_
 ·(refine cv.mk' ?_ ?_ <;> (repeat' (first | exact aM | exact aL | refine aC ?_ (Ty.aV _) | refine aC ?_ (Ty.aF _) | refine aK rfl (Cont.aF _) ?_ | refine aK rfl ?_ ?_)))
  all_goals exact Ht hJ (Nat.zero_mul _).symm
 refine aE (aA (bC rfl rfl rfl (aD (aB (aE ?_)))))
 refine az rfl (fun hc1 => ?_) (fun hc1 => ?_)
 ·
  refine aq (aB (aE (af (aE (aA (bI rfl ?_))))))
  refine ak rfl rfl rfl rfl rfl rfl (by omega) ?_
  refine aU rfl rfl rfl (by exact Nat.le_of_ble_eq_true rfl) ?_
  refine bu rfl (by exact List.cons_ne_nil _ _) rfl ?_
  refine bk rfl ?_
  refine bq rfl rfl (by decide) rfl rfl rfl rfl rfl rfl ?_
  refine aD (aB (aE (aA (aG rfl rfl rfl rfl (kJ rfl ?_)))))
  refine eH rfl rfl rfl rfl rfl (by decide) ?_
  refine eH rfl rfl rfl rfl rfl (by decide) ?_
  refine sM hX rfl rfl rfl rfl rfl rfl ?_
  refine b8 rfl rfl (by omega) (by omega) ?_
  refine bI rfl (aD (aB (af ?_)))
  refine cK (fun (t : {t : Nat // t ≤ y.D + 1}) => live [(0, Ty.ex (yv l)), (1, Ty.pp [Ty.ex (.pointer (some ⟨b, 0, none⟩))]), (2, Ty.pa iy c8 0), (4, Ty.int .i64 (k.1 : Nat)), (5, Ty.ptr 6 0), (16, Ty.sl fJ y.bins), (17, Ty.int .i64 y.bins.length), (18, Ty.int .i64 (k.1 : Nat)), (28, Ty.int .i64 (y.days + 1)), (29, Ty.int .i64 (t.1 : Nat))] [(6, Cont.cells 39 (fJ.tys (nth y.bins k.1))), (7000, Cont.ck (hJ (k.1 * (y.D + 1) + t.1))), (4000, Cont.fact (bS y) vs rfl rfl)]) (fun t => y.D + 1 - t.1) (⟨0, by omega⟩) ?_ fun t => ?_
  ·(refine cv.mk' ?_ ?_ <;> (repeat' (first | exact aM | exact aL | refine aC ?_ (Ty.aV _) | refine aC ?_ (Ty.aF _) | refine aK rfl (Cont.aF _) ?_)))
  refine aE (aA (bC rfl rfl rfl (aD (aB (aE ?_)))))
  refine az rfl (fun hc2 => ?_) (fun hc2 => ?_)
  ·
   refine aq (aB (aE (af (aE (aA (bI rfl (bk rfl (aD (aB ?_)))))))))
   refine aE (cN mixed rfl (aG rfl rfl rfl rfl ?_))
   refine eM [7000, 4000] (sP y hr) rfl (aY (qF hX hD rfl rfl rfl rfl) cY) (by exact c6 _ _) ?_
   refine aG rfl rfl rfl rfl ?_
   refine eM [7000, 4000] (sP y hr) rfl (aY (qF hX hD rfl rfl rfl rfl) cY) (by exact c6 _ _) ?_
   refine aS rfl rfl rfl rfl rfl (by decide) ?_
   refine aX rfl rfl (by decide) rfl rfl rfl ?_
   refine dJ rfl rfl (by exact List.cons_ne_nil _ _) rfl (by repeat (first | exact (aW.nil : aW _ _ [] _) | (show aW _ _ ((_, _) :: _) _; apply aW.one; (· exact (rfl : _ = Ty.int _ _)); (· exact rfl)))) (by exact (rfl : _ = some [_, _, _, _])) ?_
   refine bu rfl (by exact List.cons_ne_nil _ _) rfl ?_
   refine bq rfl rfl (by decide) rfl rfl rfl rfl rfl rfl ?_
   refine aD ?_
   refine ⟨by kernel_rfl, ?_⟩
   refine aB ?_
   refine oq (J := live [(0, Ty.ex (yv l)), (1, Ty.pp [Ty.ex (.pointer (some ⟨b, 0, none⟩))]), (2, Ty.pa iy c8 0), (4, Ty.int .i64 (k.1 : Nat)), (5, Ty.ptr 6 0), (6, Ty.int .i64 (t.1 : Nat)), (7, Ty.ptr 8 0), (16, Ty.sl fJ y.bins), (17, Ty.int .i64 y.bins.length), (18, Ty.int .i64 (k.1 : Nat)), (28, Ty.int .i64 (y.days + 1)), (29, Ty.int .i64 (t.1 : Nat))] [(6, Cont.cells 39 (fJ.tys (nth y.bins k.1))), (8, Cont.cells 187 [Ty.int .i64 (Cu y k.1 t.1), Ty.int .i64 (y.cells : Nat), Ty.int .i64 (g9 y k.1 t.1).lo, Ty.int .i64 (g9 y k.1 t.1).hi]), (7000, Cont.ck (hJ (k.1 * (y.D + 1) + t.1))), (4000, Cont.fact (bS y) vs rfl rfl)]) ?_ ?_
   ·
    refine aE (aA (bI rfl (bC rfl rfl rfl (aD (aB ?_)))))
    refine az rfl (fun hc3 => ?_) (fun hc3 => ?_)
    ·
     refine aA (aG rfl rfl rfl rfl (bI rfl (bI rfl ?_)))
     refine iA rfl rfl (by omega) (by omega) ?_
     refine eM [7000, 4000] (wS y hr (k.1 : Nat) ((t.1 : Int) - 1) (by omega) (by omega)) rfl (aY (qF hX hD rfl rfl rfl rfl) (aY (bV (bR rfl rfl)) (aY (bV (bR rfl rfl)) cY))) (by exact c6 _ _) ?_
     refine aS rfl rfl rfl rfl rfl (by decide) ?_
     refine dF rfl rfl (by decide) rfl rfl (by exact (rfl : _ = Ty.int _ _)) rfl (by exact Nat.le_of_ble_eq_true rfl) rfl rfl (by exact rfl) ?_
     refine aD (gl ?_)
     (refine cv.mk' ?_ ?_ <;> (repeat' (first | exact aM | exact aL | exact c7 | refine aC ?_ (Ty.aV _) | refine aC ?_ (Ty.aF _) | refine aK rfl (Cont.aF _) ?_ | refine aK rfl (Cont.dB ?_) ?_ | refine bG ?_ (Ty.aF _) | refine bG ?_ ?_)))
     all_goals first | exact Ty.bU (KO hc3) | exact Ty.bU (Gz hc3).1 | exact Ty.bU (Gz hc3).2
    refine cN mixed rfl ?_
    refine aS rfl rfl rfl rfl rfl (by decide) ?_
    refine aS rfl rfl rfl rfl rfl (by decide) ?_
    refine aX rfl rfl (by decide) rfl rfl rfl ?_
    refine EB rfl rfl ?_
    refine aS rfl rfl rfl rfl rfl (by decide) ?_
    refine aX rfl rfl (by decide) rfl rfl rfl ?_
    refine aS rfl rfl rfl rfl rfl (by decide) ?_
    refine aS rfl rfl rfl rfl rfl (by decide) ?_
    refine aX rfl rfl (by decide) rfl rfl rfl ?_
    refine bg (E := dD) (xs := [_]) rfl rfl rfl rfl rfl (by decide) (by decide) (by repeat (first | exact (aW.nil : aW _ _ [] _) | (show aW _ _ ((_, _) :: _) _; apply aW.one; (· exact (rfl : _ = Ty.int _ _)); (· exact rfl)))) (by exact rfl) rfl ?_
    refine aZ (rz _ _) rfl rfl rfl rfl rfl ?_
    refine aS rfl rfl rfl rfl rfl (by decide) ?_
    refine dF rfl rfl (by decide) rfl rfl (by exact (rfl : _ = Ty.int _ _)) rfl (by exact Nat.le_of_ble_eq_true rfl) rfl rfl (by exact rfl) ?_
    refine aS rfl rfl rfl rfl rfl (by decide) ?_
    refine dF rfl rfl (by decide) rfl rfl (by exact (rfl : _ = Ty.int _ _)) rfl (by exact Nat.le_of_ble_eq_true rfl) rfl rfl (by exact rfl) ?_
    refine aD ?_
    refine ⟨by kernel_rfl, ?_⟩
    refine gl ?_
    (refine cv.mk' ?_ ?_ <;> (repeat' (first | exact aM | exact aL | exact c7 | refine aC ?_ (Ty.aV _) | refine aC ?_ (Ty.aF _) | refine aK rfl (Cont.aF _) ?_ | refine aK rfl (Cont.dB ?_) ?_ | refine bG ?_ (Ty.aF _) | refine bG ?_ ?_)))
    all_goals first | exact Ty.bU (LW hc3) | exact Ty.bU (K2 hc3).1 | exact Ty.bU (K2 hc3).2
   refine oq (J := live [(0, Ty.ex (yv l)), (1, Ty.pp [Ty.ex (.pointer (some ⟨b, 0, none⟩))]), (2, Ty.pa iy c8 0), (4, Ty.int .i64 (k.1 : Nat)), (5, Ty.ptr 6 0), (6, Ty.int .i64 (t.1 : Nat)), (7, Ty.ptr 8 0), (16, Ty.sl fJ y.bins), (17, Ty.int .i64 y.bins.length), (18, Ty.int .i64 (k.1 : Nat)), (28, Ty.int .i64 (y.days + 1)), (29, Ty.int .i64 (t.1 : Nat))] [(6, Cont.cells 39 (fJ.tys (nth y.bins k.1))), (8, Cont.cells 187 (uo (Cu y k.1 t.1) (Ex y k.1 t.1) (g9 y k.1 t.1))), (7000, Cont.ck (hJ (k.1 * (y.D + 1) + t.1))), (4000, Cont.fact (bS y) vs rfl rfl)]) ?_ ?_
   ·
    refine aE (aA (bI rfl (aG rfl rfl rfl rfl (kJ rfl ?_))))
    refine eH rfl rfl rfl rfl rfl (by decide) ?_
    refine eH rfl rfl rfl rfl rfl (by decide) ?_
    refine sM hX rfl rfl rfl rfl rfl rfl (bC rfl rfl rfl (aD (aB ?_)))
    refine az rfl (fun hc4 => ?_) (fun hc4 => ?_)
    ·
     refine aA (aG rfl rfl rfl rfl (bI rfl (bI rfl ?_)))
     refine eM [7000, 4000] (wS y hr (k.1 : Nat) (t.1 : Nat) (by omega) (by omega)) rfl (aY (qF hX hD rfl rfl rfl rfl) (aY (bV (bR rfl rfl)) (aY (bV (bR rfl rfl)) cY))) (by exact c6 _ _) ?_
     refine aS rfl rfl rfl rfl rfl (by decide) ?_
     refine dF rfl rfl (by decide) rfl rfl (by exact (rfl : _ = Ty.int _ _)) rfl (by exact Nat.le_of_ble_eq_true rfl) rfl rfl (by exact rfl) ?_
     refine aD (gl ?_)
     (refine cv.mk' ?_ ?_ <;> (repeat' (first | exact aM | exact aL | exact c7 | refine aC ?_ (Ty.aV _) | refine aC ?_ (Ty.aF _) | refine aK rfl (Cont.aF _) ?_ | refine aK rfl (Cont.dB ?_) ?_ | refine bG ?_ (Ty.aF _) | refine bG ?_ ?_)))
     all_goals exact Ty.bU (Jz hr hc4)
    refine aq (gl ?_)
    (refine cv.mk' ?_ ?_ <;> (repeat' (first | exact aM | exact aL | exact c7 | refine aC ?_ (Ty.aV _) | refine aC ?_ (Ty.aF _) | refine aK rfl (Cont.aF _) ?_ | refine aK rfl (Cont.dB ?_) ?_ | refine bG ?_ (Ty.aF _) | refine bG ?_ ?_)))
    all_goals exact Ty.bU (L9 hr hc4)
   refine aE (aE (aA (aG rfl rfl rfl rfl (kJ rfl ?_))))
   refine eH rfl rfl rfl rfl rfl (by decide) ?_
   refine eH rfl rfl rfl rfl rfl (by decide) ?_
   refine sM hX rfl rfl rfl rfl rfl rfl (b9 rfl rfl rfl (bI rfl (aD (aB (af ?_)))))
   refine cK (fun (i : {i : Nat // i ≤ y.levels.length}) => live [(0, Ty.ex (yv l)), (1, Ty.pp [Ty.ex (.pointer (some ⟨b, 0, none⟩))]), (2, Ty.pa iy c8 0), (4, Ty.int .i64 (k.1 : Nat)), (5, Ty.ptr 6 0), (6, Ty.int .i64 (t.1 : Nat)), (7, Ty.ptr 8 0), (16, Ty.sl fJ y.bins), (17, Ty.int .i64 y.bins.length), (18, Ty.int .i64 (k.1 : Nat)), (28, Ty.int .i64 (y.days + 1)), (29, Ty.int .i64 (t.1 : Nat)), (76, Ty.sl dU y.levels), (77, Ty.int .i64 y.levels.length), (78, Ty.int .i64 (i.1 : Nat))] [(6, Cont.cells 39 (fJ.tys (nth y.bins k.1))), (8, Cont.cells 187 (uo (Cu y k.1 t.1) (Ex y k.1 t.1) (gK y (nth c8) k.1 t.1 (g9 y k.1 t.1) i.1))), (7000, Cont.ck (hJ (k.1 * (y.D + 1) + t.1))), (4000, Cont.fact (bS y) vs rfl rfl)]) (fun i => y.levels.length - i.1) (⟨0, by omega⟩) ?_ fun i => ?_
   ·(refine cv.mk' ?_ ?_ <;> (repeat' (first | exact aM | exact aL | exact c7 | refine aC ?_ (Ty.aV _) | refine aC ?_ (Ty.aF _) | refine aK rfl (Cont.aF _) ?_ | refine aK rfl (Cont.dB ?_) ?_ | refine bG ?_ (Ty.aF _) | refine bG ?_ ?_)))
    all_goals first | exact Ty.bU (Bs _).1 | exact Ty.bU (Bs _).2
   have hi := i.2
   refine aE (aA (bC rfl rfl rfl (aD (aB (aE ?_)))))
   refine az rfl (fun hc5 => ?_) (fun hc5 => ?_)
   ·
    refine aq (aB (aE (af (aE (aA (bI rfl ?_))))))
    refine ak rfl rfl rfl rfl rfl rfl (by omega) ?_
    refine aU rfl rfl rfl (by exact Nat.le_of_ble_eq_true rfl) ?_
    refine bu rfl (by exact List.cons_ne_nil _ _) rfl ?_
    refine bk rfl ?_
    refine bq rfl rfl (by decide) rfl rfl rfl rfl rfl rfl ?_
    refine aD (aB (aE (aA (bI rfl ?_))))
    refine Cx (n := 8) rfl rfl rfl rfl rfl (by omega) ?_
    refine fX rfl rfl rfl (Nat.zero_add _) (by omega) rfl ?_
    refine e8 rfl ?_
    apply aJ (s := 86) rfl rfl rfl
    ·intro hg; apply aO; (refine aS rfl rfl rfl rfl rfl (by decide) ?_); refine aD ?_; exact rfl
    ·exact rfl
    ·exact rfl
    apply aJ (s := 86) rfl rfl rfl
    ·intro hg; apply aH (s := 87) rfl (by (rw [hg]; rfl)); apply aO; (refine aX rfl rfl (by decide) rfl rfl rfl ?_); refine aD ?_; exact rfl
    ·exact rfl
    ·exact rfl
    apply aJ (s := 86) rfl rfl rfl
    ·intro hg; apply aO; (refine bI rfl ?_); refine aD ?_; exact rfl
    ·exact rfl
    ·exact rfl
    apply aJ (s := 86) rfl rfl rfl
    ·intro hg; apply aH (s := 88) rfl (by (rw [hg]; rfl)); apply aH (s := 89) rfl (by (rw [hg]; rfl)); apply aO; (refine bC rfl rfl rfl ?_); refine aD ?_; exact rfl
    ·exact rfl
    ·exact rfl
    refine eC rfl rfl (e8 rfl ?_)
    apply aJ (s := 92) rfl rfl rfl
    ·intro hg; apply aO; (refine aS rfl rfl rfl rfl rfl (by decide) ?_); refine aD ?_; exact rfl
    ·exact rfl
    ·exact rfl
    apply aJ (s := 92) rfl rfl rfl
    ·intro hg; apply aH (s := 93) rfl (by (rw [hg]; rfl)); apply aO; (refine aX rfl rfl (by decide) rfl rfl rfl ?_); refine aD ?_; exact rfl
    ·exact rfl
    ·exact rfl
    apply aJ (s := 92) rfl rfl rfl
    ·intro hg; apply aO; (refine bI rfl ?_); refine aD ?_; exact rfl
    ·exact rfl
    ·exact rfl
    apply aJ (s := 92) rfl rfl rfl
    ·intro hg; apply aH (s := 94) rfl (by (rw [hg]; rfl)); apply aH (s := 95) rfl (by (rw [hg]; rfl)); apply aO; (refine bC rfl rfl rfl ?_); refine aD ?_; exact rfl
    ·exact rfl
    ·exact rfl
    refine eC rfl rfl (aD (aB ?_))
    refine bt rfl (fun hc6 => ?_) (fun hc6 => ?_)
    ·
     refine cN mixed rfl ?_
     refine aS rfl rfl rfl rfl rfl (by decide) ?_
     refine aX rfl rfl (by decide) rfl rfl rfl ?_
     refine aS rfl rfl rfl rfl rfl (by decide) ?_
     refine aS rfl rfl rfl rfl rfl (by decide) ?_
     refine aX rfl rfl (by decide) rfl rfl rfl ?_
     refine EB rfl rfl ?_
     refine aS rfl rfl rfl rfl rfl (by decide) ?_
     refine aX rfl rfl (by decide) rfl rfl rfl ?_
     refine aS rfl rfl rfl rfl rfl (by decide) ?_
     refine aS rfl rfl rfl rfl rfl (by decide) ?_
     refine aX rfl rfl (by decide) rfl rfl rfl ?_
     refine bg (E := dD) (xs := [_]) rfl rfl rfl rfl rfl (by decide) (by decide) (by repeat (first | exact (aW.nil : aW _ _ [] _) | (show aW _ _ ((_, _) :: _) _; apply aW.one; (· exact (rfl : _ = Ty.int _ _)); (· exact rfl)))) (by exact rfl) rfl ?_
     refine aZ (rz _ _) rfl rfl rfl rfl rfl ?_
     refine aS rfl rfl rfl rfl rfl (by decide) ?_
     refine dF rfl rfl (by decide) rfl rfl (by exact (rfl : _ = Ty.int _ _)) rfl (by exact Nat.le_of_ble_eq_true rfl) rfl rfl (by exact rfl) ?_
     refine aS rfl rfl rfl rfl rfl (by decide) ?_
     refine dF rfl rfl (by decide) rfl rfl (by exact (rfl : _ = Ty.int _ _)) rfl (by exact Nat.le_of_ble_eq_true rfl) rfl rfl (by exact rfl) ?_
     refine aD ?_
     refine ⟨by kernel_rfl, ?_⟩
     refine bM (aB (aA ?_))
     refine b8 rfl rfl (by omega) (by omega) ?_
     refine bI rfl (aD ?_)
     refine bO (⟨i.1 + 1, by omega⟩) ?_ (by show y.levels.length - (i.1 + 1) < y.levels.length - i.1; omega)
     (refine cv.mk' ?_ ?_ <;> (repeat' (first | exact aM | exact aL | exact c7 | refine aC ?_ (Ty.aV _) | refine aC ?_ (Ty.aF _) | refine aK rfl (Cont.aF _) ?_ | refine aK rfl (Cont.dB ?_) ?_ | refine bG ?_ (Ty.aF _) | refine bG ?_ ?_)))
     all_goals skip
     all_goals first | exact Ty.bU (Dy hc6).1 | exact Ty.bU (Dy hc6).2
    refine aq (bM (aB (aA ?_)))
    refine b8 rfl rfl (by omega) (by omega) ?_
    refine bI rfl (aD ?_)
    refine bO (⟨i.1 + 1, by omega⟩) ?_ (by show y.levels.length - (i.1 + 1) < y.levels.length - i.1; omega)
    (refine cv.mk' ?_ ?_ <;> (repeat' (first | exact aM | exact aL | exact c7 | refine aC ?_ (Ty.aV _) | refine aC ?_ (Ty.aF _) | refine aK rfl (Cont.aF _) ?_ | refine aK rfl (Cont.dB ?_) ?_ | refine bG ?_ (Ty.aF _) | refine bG ?_ ?_)))
    all_goals skip
    all_goals first | exact Ty.bU (HL hc6).1 | exact Ty.bU (HL hc6).2
   refine cI (aP (aP (aj rfl (aB (aE ?_)))))
   refine g8 (tg := 8) rfl (Cont.m7 (congrArg (uo _ _) (KC i.2 hc5))) ?_
   refine aA (Fv rfl ?_)
   refine bf rfl rfl (by decide) rfl rfl (by exact Nat.le_of_ble_eq_true rfl) ?_
   refine AR hJ hJx hY rfl rfl rfl rfl rfl (D0 (DJ (by omega) (by omega)) (J3 (by omega) (by omega))) rfl ?_
   refine F5 (h1 := hJ _) (hx := hJx) rfl ?_
   refine aD (aB ?_)
   refine De (h1 := hJ _) (hx := hJx) rfl ?_ ?_
   ·
    refine ay (au (aQ (aQ (au (au (aQ (aQ (au (aQ ?_)))))))))
    exact DI rfl rfl
   refine aq (bM (aB (aA ?_)))
   refine b8 rfl rfl (by omega) (by omega) ?_
   refine bI rfl (aD ?_)
   refine bO (⟨t.1 + 1, by omega⟩) ?_ (by show y.D + 1 - (t.1 + 1) < y.D + 1 - t.1; omega)
   (refine cv.mk' ?_ ?_ <;> (repeat' (first | exact aM | exact aL | refine aC ?_ (Ty.aV _) | refine aC ?_ (Ty.aF _) | refine aK rfl (Cont.aF _) ?_)))
   all_goals skip
  refine cI (aP (aP (aj rfl (bM (aB (aA ?_))))))
  refine b8 rfl rfl (by omega) (by omega) ?_
  refine bI rfl (aD ?_)
  refine bO (⟨k.1 + 1, by omega⟩) ?_ (by show y.bins.length - (k.1 + 1) < y.bins.length - k.1; omega)
  (refine cv.mk' ?_ ?_ <;> (repeat' (first | exact aM | exact aL | refine aC ?_ (Ty.aV _) | refine aC ?_ (Ty.aF _) | refine aK rfl (Cont.aF _) ?_ | refine aK rfl ?_ ?_)))
  all_goals skip
  all_goals exact Ht hJ (show k.1 * (y.D + 1) + t.1 = (k.1 + 1) * (y.D + 1) by rw [Nat.succ_mul]; have := t.2; omega)
 refine cI (aP (aP (aj rfl (aB (aE (aA (aG rfl rfl rfl rfl (kJ rfl ?_))))))))
 refine eH rfl rfl rfl rfl rfl (by decide) ?_
 refine eH rfl rfl rfl rfl rfl (by decide) ?_
 refine sM hX rfl rfl rfl rfl rfl rfl (b9 rfl rfl rfl (bI rfl (aD (aB (af ?_)))))
 refine cK (fun (i : {i : Nat // i ≤ y.moves.length}) => live [(0, Ty.ex (yv l)), (1, Ty.pp [Ty.ex (.pointer (some ⟨b, 0, none⟩))]), (124, Ty.sl eF y.moves), (125, Ty.int .i64 y.moves.length), (126, Ty.int .i64 (i.1 : Nat))] [(7000, Cont.ck (hJ (y.bins.length * (y.D + 1) + i.1))), (4000, Cont.fact (bS y) vs rfl rfl)]) (fun i => y.moves.length - i.1) (⟨0, by omega⟩) ?_ fun i => ?_
 ·(refine cv.mk' ?_ ?_ <;> (repeat' (first | exact aM | exact aL | refine aC ?_ (Ty.aV _) | refine aC ?_ (Ty.aF _) | refine aK rfl (Cont.aF _) ?_ | refine aK rfl ?_ ?_)))
  all_goals exact Ht hJ (show k.1 * (y.D + 1) = y.bins.length * (y.D + 1) + 0 by rw [show k.1 = y.bins.length by have := k.2; omega]; rfl)
 refine aE (aA (bC rfl rfl rfl (aD (aB (aE ?_)))))
 refine az rfl (fun hc8 => ?_) (fun hc8 => ?_)
 ·
  refine aq (aB (aE (af (aE (aA ?_)))))
  refine ak rfl rfl rfl rfl rfl rfl (by omega) ?_
  refine aU rfl rfl rfl (by exact Nat.le_of_ble_eq_true rfl) ?_
  refine bu rfl (by exact List.cons_ne_nil _ _) rfl ?_
  refine bq rfl rfl (by decide) rfl rfl rfl rfl rfl rfl ?_
  refine aD (aB (aE ?_))
  have hm := hr.move _ (cR (xs := y.moves) (k := i.1) (by omega))
  refine cN mixed rfl (Fv rfl (aG rfl rfl rfl rfl ?_))
  refine aS rfl rfl rfl rfl rfl (by decide) ?_
  refine aX rfl rfl (by decide) rfl rfl rfl ?_
  refine aS rfl rfl rfl rfl rfl (by decide) ?_
  refine aX rfl rfl (by decide) rfl rfl rfl ?_
  refine eM [7000, 4000] (wS y hr (nth y.moves i.1).src (nth y.moves i.1).day hm.2.1 (by omega)) rfl (aY (qF hX hD rfl rfl rfl rfl) (aY (bV (bR rfl rfl)) (aY (bV (bR rfl rfl)) cY))) (by exact c6 _ _) ?_
  refine aG rfl rfl rfl rfl ?_
  refine aS rfl rfl rfl rfl rfl (by decide) ?_
  refine aX rfl rfl (by decide) rfl rfl rfl ?_
  refine aS rfl rfl rfl rfl rfl (by decide) ?_
  refine aX rfl rfl (by decide) rfl rfl rfl ?_
  refine eM [7000, 4000] (wS y hr (nth y.moves i.1).dst (nth y.moves i.1).day hm.2.2.1 (by omega)) rfl (aY (qF hX hD rfl rfl rfl rfl) (aY (bV (bR rfl rfl)) (aY (bV (bR rfl rfl)) cY))) (by exact c6 _ _) ?_
  refine aS rfl rfl rfl rfl rfl (by decide) ?_
  refine aS rfl rfl rfl rfl rfl (by decide) ?_
  refine aX rfl rfl (by decide) rfl rfl rfl ?_
  refine aS rfl rfl rfl rfl rfl (by decide) ?_
  refine aS rfl rfl rfl rfl rfl (by decide) ?_
  refine aX rfl rfl (by decide) rfl rfl rfl ?_
  refine dJ rfl rfl (by exact List.cons_ne_nil _ _) rfl (by repeat (first | exact (aW.nil : aW _ _ [] _) | (show aW _ _ ((_, _) :: _) _; apply aW.one; (· exact (rfl : _ = Ty.int _ _)); (· exact rfl)))) (by exact (rfl : _ = some [_, _, _, _])) ?_
  refine AR hJ hJx hY rfl rfl rfl rfl rfl (D0 (by rw [fA]; omega) (KY (by omega))) rfl ?_
  refine F5 (h1 := hJ _) (hx := hJx) rfl ?_
  refine aD ?_
  refine ⟨by kernel_rfl, ?_⟩
  refine aB ?_
  refine De (h1 := hJ _) (hx := hJx) rfl ?_ ?_
  ·
   refine ay (au (aQ (aQ (au ?_))))
   exact DI rfl rfl
  refine aq (bM (aB (aA ?_)))
  refine b8 rfl rfl (by omega) (by omega) ?_
  refine bI rfl (aD ?_)
  refine bO (⟨i.1 + 1, by omega⟩) ?_ (by show y.moves.length - (i.1 + 1) < y.moves.length - i.1; omega)
  (refine cv.mk' ?_ ?_ <;> (repeat' (first | exact aM | exact aL | refine aC ?_ (Ty.aV _) | refine aC ?_ (Ty.aF _) | refine aK rfl (Cont.aF _) ?_)))
  all_goals skip
 refine cI (aP (aP (aj rfl ?_)))
 exact IF (hJ := hJ) (by rw [List.length_map, fA, show i.1 = y.moves.length by have := i.2; omega]) rfl rfl
end Go.Proofs.YtelbollidfdcjaaGreat
namespace Go.T
open Go Go.RowKit
theorem K7 {ρ : List (Nat × Nat)} {a b : Nat} (h : (a, b) ∈ ρ) : Conv ρ (.mp a) (.mp b) := fun _ _ _ _ _ _ hre ⟨k, e, hk⟩ => ⟨k, e, hre.some _ h k hk⟩
def F8 {α : Type} (E : El α) : VT (List α) := ⟨fun xs => Ty.sl E xs, fun _ => ⟨rfl, rfl⟩⟩
section
variable {A : As}
theorem D8 {α : Type} {E : El α} {T J : Nat} {xs : List α} {w : World} {M : bB} {v : Value} (wf : Wf w M) (h : xA E T J xs w M v) : m8 E xs w (dV M J) v := by
 rcases h with ⟨rfl, rfl⟩ | ⟨g, off, c, cur, rfl, hg, hh, h1, h2, h3, h4⟩
 ·exact ⟨none, 0, rfl, Nat.le_refl _, by simp [maxLen], fun h => absurd h (by simp)⟩
 refine ⟨_, c, rfl, h1, h2, fun h0 => ⟨g, off, rfl, by simp [dV, hg], wf.lt g _ hg, fun i t hi => ?_⟩⟩
 obtain ⟨u, hu, hdu⟩ := dG h4 i t hi
 refine ⟨u, ?_, t.mono (iN (w := w)) ?_ (fun _ _ h => by cases h) hdu⟩
 ·have hlt : i < xs.length * E.size := by
   have := (List.getElem?_eq_some_iff.1 hu).1
   rw [List.length_take] at this; omega
  rw [List.getElem?_take, if_pos hlt, List.getElem?_drop] at hu
  simpa [World.cell?, hh] using hu
 intro u hu
 have : u ∈ cC (xs.flatMap E.tys) := List.mem_flatMap.2 ⟨t, List.mem_of_getElem? hi, hu⟩
 rw [E.cO] at this; cases this
theorem Kg {κ α : Type} [DecidableEq κ] {enc : κ → Value} {E : El α} {T J m : Nat} {q : List (κ × List α)} (hc : A.tag m = some (.mr enc E T J q)) (hne : Nat.beq m J = false) : J2 A J (m, .mp enc (F8 E) q) := fun w M wf ht => by
  obtain ⟨_, b, es, clock, h1, h2, h3, h4, _⟩ := ht _ (cW hc)
  have hmj : m ≠ J := fun h => by subst h; simp at hne
  refine ⟨b, by simp [dV, h1, hmj], es, clock, h2, h3, ?_⟩
  have key : ∀ (l : List (κ × List α)) (vs : List Value), cB w M (l.map fun x => Ty.eL E T J x.2) vs → cB w (dV M J) (l.map fun x => (F8 E).ty x.2) vs := by
    intro l
    induction l with
    | nil => intro vs h; cases vs with | nil => trivial | cons => cases h
    | cons x l ih =>
      intro vs h
      cases vs with
      | nil => cases h
      | cons v vs => exact ⟨D8 wf h.1, ih vs h.2⟩
  exact key q _ h4
theorem nK {L : List Nat} {l1 l2 : List Ty} (h1 : cC l1 = []) (h2 : bX l1 = []) : uU A L (.pp (l1 ++ l2)) (.pp l1) := fun w M v _ _ ⟨b, off, e, m1, m2, m3⟩ => by
 refine ⟨b, off, e, jJ m1, m2, fun i t hi => ?_⟩
 have hl : i < l1.length := (List.getElem?_eq_some_iff.1 hi).1
 obtain ⟨x, hx, hd⟩ := m3 i t (by rw [List.getElem?_append_left hl]; exact hi)
 refine ⟨x, hx, t.mono (S := fun _ => True) (K := fun _ => True) ⟨Nat.le_refl _, rfl, rfl, rfl, fun b _ hm => ⟨jJ hm, rfl⟩, fun b t _ h => absurd trivial h⟩ ?_ ?_ hd⟩
 ·intro u hu
  have : u ∈ cC l1 := List.mem_flatMap.2 ⟨t, List.mem_of_getElem? hi, hu⟩
  rw [h1] at this; cases this
 intro u hu
 have : u ∈ bX l1 := List.mem_flatMap.2 ⟨t, List.mem_of_getElem? hi, hu⟩
 rw [h2] at this; cases this
theorem Fa {L : List Nat} {i : Nat} {t : Ty} : ∀ {l l' : List Ty}, pE A L l l' → l'[i]? = some t → ∃ s, l[i]? = some s ∧ uU A L s t := by
  induction i with
  | zero =>
    intro l l' h e
    match l, l', h with
    | [], [], _ => cases e
    | s :: _, t' :: _, h => injection e with e; subst e; exact ⟨s, rfl, h.1⟩
  | succ i ih =>
    intro l l' h e
    match l, l', h with
    | [], [], _ => cases e
    | _ :: l, _ :: l', h => exact ih (l := l) (l' := l') h.2 e
theorem kO {L : List Nat} {l l' : List Ty} (h : pE A L l l') : uU A L (.pp l) (.pp l') := fun w M v wf ht ⟨b, off, e, m1, m2, m3⟩ => by
 refine ⟨b, off, e, jJ m1, m2, fun i t hi => ?_⟩
 obtain ⟨s, h1, h2⟩ := Fa h hi
 obtain ⟨x, hx, hd⟩ := m3 i s h1
 exact ⟨x, hx, h2 w M x wf ht hd⟩
end
section
variable {P : Program} {fr : Fr} {A : As} {c : Code} {Q : Exit → Act → World → Prop}
theorem MR {α : Type} {E : El α} {T J tg s : Nat} {xs : List α} (hs : Nat.blt s fr.n = true) (hc : A.slots s = .row E T tg xs) (h1 : fN tg) (hJ : 4096 ≤ J) (hp : fr.pass.contains tg = false)
    (h : fU P fr c ⟨fun i => bif Nat.beq i s then .eL E T J xs else fW [] [tg] A.slots i, mo [] [tg] A.tags⟩ Q) : fU P fr c A Q := fun a w ⟨M, ok, hsl, ht⟩ => by
  have le : Le (· ∈ ([] : List Nat)) (· ∈ [tg]) w M w (kj M tg J) := oS
  refine h a w ⟨kj M tg J, ⟨Bg hJ ok.wf, Fr.iK ok.base (by intro _ h; cases h) (fun t ht => by simp only [List.mem_singleton] at ht; subst ht; exact ⟨h1.1, by simpa using hp⟩) le, ok.size, ok.defers.step (by intro _ h; cases h) (fun t ht => by simp only [List.mem_singleton] at ht; subst ht; exact h1.1) le⟩, fun i hi => ?_, fun x hx => ?_⟩
  · cases hb : Nat.beq i s with
    | false =>
      simp only [hb, cond_false]
      rcases fH [] [tg] A.slots i with ⟨e, hdj⟩ | ⟨_, e⟩
      · rw [e]; exact (A.slots i).mono le (eR hdj).1 (eR hdj).2 (hsl i hi)
      · rw [e]; trivial
    | true =>
      have his : i = s := Nat.eq_of_beq_eq_true hb
      subst his
      simp only [hb, cond_true]
      have hd := hsl i hi
      rw [hc] at hd
      obtain ⟨vs, hown, hcs, hM⟩ := hd
      rcases hown.2 with ⟨ez, h0⟩ | ⟨g, cap, cur, ez, _, hh, hnc, hcap, hsz, htk⟩
      · exact .inl ⟨List.length_eq_zero_iff.1 h0, ez⟩
      · have hg : M g = some tg := hM g (by rw [ez]; rfl)
        refine .inr ⟨g, 0, cap, cur, ez, by simp [kj, hg], hh, hnc, hcap, by omega, ?_⟩
        rw [List.drop_zero, htk]
        exact bQ (oS (w := w)) (by rw [E.cO]; intro _ h; cases h) (by rw [E.cD]; intro _ h; cases h) hcs
  · exact gj le hx fun y hy _ => ht y hy
end
end Go.T
namespace Go.Proofs.YtelbollidfdcjaaGreat
open Go Go.T
set_option maxHeartbeats 8000000
theorem four {vs : List Value} {n : Nat} (h : vs.length = n) (e : n = 4) : ∃ a b c d, vs = [a, b, c, d] := by
  subst e
  match vs, h with
  | [a, b, c, d], _ => exact ⟨a, b, c, d, rfl⟩
def Dw (y : bA) : List Ty := [Ty.int .i64 y.days, Ty.sl fJ y.bins, Ty.sl eF y.moves, Ty.sl dU y.levels, Ty.ex (.slice none 0 0), Ty.ex (.slice none 0 0)]
def NU (y : bA) (F A : Nat) (fl : List bp) (a : List Int) : List Ty := [Ty.int .i64 y.days, Ty.sl fJ y.bins, Ty.sl eF y.moves, Ty.sl dU y.levels, Ty.row dW 187 F fl, Ty.row dD 3 A a]
theorem DQ {fl : List bp} {k : Nat} (h : k < fl.length) : (gm fl).take k ++ [(nth fl k).lo] = (gm fl).take (k + 1) := by
 unfold gm; rw [← List.map_take, ← List.map_take, cS h, List.map_append]; rfl
theorem A8 {y : bA} {fl : List bp} {α : Type} {f : bp → α} : [Ty.int .i64 y.days, Ty.sl fJ y.bins, Ty.sl eF y.moves, Ty.sl dU y.levels, Ty.row dW 187 23 (fl.take (fl.map f).length), Ty.row dD 3 31 ((gm fl).take (fl.map f).length)] = NU y 23 31 fl (gm fl) := by
 rw [List.length_map, List.take_of_length_le (Nat.le_refl _), List.take_of_length_le (by unfold gm; rw [List.length_map]; exact Nat.le_refl _)]; rfl
def sK (y : bA) (F A m n : Nat) : List Ty := [Ty.int .i64 y.days, Ty.sl fJ y.bins, Ty.sl eF y.moves, Ty.sl dU y.levels, Ty.vs F m, Ty.vs A n]
def dx (y : bA) (fl : List bp) (A n : Nat) : List Ty := [Ty.int .i64 y.days, Ty.sl fJ y.bins, Ty.sl eF y.moves, Ty.sl dU y.levels, Ty.sl dW fl, Ty.vs A n]
def l9 (y : bA) (fl : List bp) (a : List Int) : List Ty := [Ty.int .i64 y.days, Ty.sl fJ y.bins, Ty.sl eF y.moves, Ty.sl dU y.levels, Ty.sl dW fl, Ty.sl dD a]
theorem Cv (fl : List bp) : (gm fl).length = fl.length := by unfold gm; rw [List.length_map]
theorem j4 {y : bA} (hr : y.cZ) {c : Nat → Bool} : (aR y c).length ≤ 34 := by
 have h1 := hr.bins; have h2 := hr.days; have h3 := D_eq hr; have h4 := hr.moves
 have := Nat.mul_le_mul (show y.bins.length ≤ 4 by omega) (show y.D + 1 ≤ 6 by omega)
 rw [fA]; omega
attribute [local irreducible] aR gm
attribute [local irreducible] g6 fS m8 qg iZ iT ij ia ig qM iS qR dY gb qd gV qV nth fU dR av dK bodyPost Exit.then Exit.inBlock Code.wp Code.wpIn fR qb qX qT iw qW qc iY fC cT cU bodyPostM dr
set_option maxRecDepth 100000 in
theorem Gl (y : bA) (c8 : List Bool) (hc8 : c8.length = 8) : fC Tryz.prog 173 [1000] [(1000, Cont.cells 185 (Dw y))] [Ty.ptr 1000 0, Ty.arr iy c8] [(1000, Cont.cells 185 (Dw y))] (Ty.jD 196 [Ty.pp [Ty.ptr 1000 0], Ty.pa iy c8 0]) := by
 refine fV Tryz.func173 rfl (by decide) Tryz.ntmps173 (by exact Nat.le_of_ble_eq_true rfl) fun w0 M0 => ?_
 refine aE (aA ?_)
 refine gA (ty := Ty.ptr 1000 0) rfl rfl ?_
 refine nN rfl (kE rfl (aD (aB (aE (aA (cw rfl (OB rfl (aD (aB ?_)))))))))
 refine ay ?_
 refine iQ [1000] rfl rfl (by decide) (by repeat (first | exact gR | refine fM rfl (kL (by decide) rfl rfl rfl) ?_)) ?_
 all_goals skip
 all_goals exact hU (tI (aN (aN bW (aT rfl rfl)) (ep (aN bW (j6 (by decide))))))
set_option maxRecDepth 100000 in
theorem rY (y : bA) (hr : y.cZ) (c8 : List Bool) (hc8 : c8.length = 8) : fC Tryz.prog 117 [] [] [eB y, Ty.arr iy c8] [(23, Cont.vec dW 187 (aR y (nth c8))), (31, Cont.vec dD 3 (gm (aR y (nth c8))))] (Ty.pp (sK y 23 31 (aR y (nth c8)).length (aR y (nth c8)).length)) := by
 refine qq Tryz.func117 rfl (by decide) Tryz.ntmps117 (by exact Nat.le_of_ble_eq_true rfl) fun w0 M0 => ?_
 have hfl := j4 (c := nth c8) hr
 refine aE (aA (bD rfl (nN rfl (kE rfl (aD (aB (aE (aA ?_))))))))
 refine aU rfl rfl rfl (by exact Nat.le_of_ble_eq_true rfl) ?_
 refine dJ rfl rfl (by exact List.cons_ne_nil _ _) rfl (by repeat (first | exact (aW.nil : aW _ _ [] _) | (show aW _ _ ((_, _) :: _) _; apply aW.agg; (· exact (rfl : _ = Ty.agg _))))) (by exact rfl) ?_
 refine yJ rfl rfl rfl ?_
 refine bu rfl (by exact List.cons_ne_nil _ _) rfl ?_
 refine dF rfl rfl (by decide) rfl rfl (by exact (rfl : _ = Ty.ptr _ _)) rfl (by exact Nat.le_of_ble_eq_true rfl) rfl rfl (by exact (rfl : _ = [_])) ?_
 refine aD (aB (aE (aE (aA ?_))))
 refine aX rfl rfl (by decide) rfl rfl rfl ?_
 refine w9 rfl rfl rfl (by rw [hc8]; rfl) ?_
 refine dI (res' := Ty.jD 196 [Ty.pp [Ty.ptr 10 0], Ty.pa iy c8 0]) [(10, 1000)] [] [(10, Cont.cells 185 (Dw y))] (Gl y c8 hc8) rfl rfl (aN (aN bW (aT rfl rfl)) (j6 (by exact List.mem_cons_self))) (dN (a := 10) (b := 1000) (by exact List.mem_cons_self) rfl (kL (by exact List.mem_cons_self) rfl rfl rfl) pre_nil) (cA (a := 10) (b := 1000) (by exact List.mem_cons_self) rfl (kL (by exact List.mem_cons_self) rfl rfl rfl) post_nil) (tI (aN (aN bW (aT rfl rfl)) (ep (aN bW (j6 (by exact List.mem_cons_self)))))) ?_
 refine aD (aB ?_)
 refine I4 (D := 10) (Tb := 185) (tys := bS y) (r := [Ty.ex (.slice none 0 0), Ty.ex (.slice none 0 0)]) rfl rfl rfl (by decide) fun vs hvs => ?_
 obtain ⟨v0, v1, v2, v3, rfl⟩ := four hvs rfl
 refine af ?_
 refine rj (ps := [13]) (lk [(5, Ty.ptr 6 0), (9, Ty.ptr 10 0)]) (fun k => [(6, Cont.cells 152 [Ty.ptr 10 0]), (10, Cont.cells 185 [Ty.ex v0, Ty.ex v1, Ty.ex v2, Ty.ex v3, Ty.row dW 187 23 ((aR y (nth c8)).take k), Ty.row dD 3 31 ((gm (aR y (nth c8))).take k)]), (4000, Cont.fact (bS y) [v0, v1, v2, v3] rfl rfl)]) false [] [6, 10, 4000] rfl rfl ((vG y hr c8 hc8 0 10 (by decide) [v0, v1, v2, v3]).1) (Bm (D := 10) (n := 36) (sd := 9) (r := fun k => [Ty.row dW 187 23 ((aR y (nth c8)).take k), Ty.row dD 3 31 ((gm (aR y (nth c8))).take k)]) (fun b => vG y hr c8 hc8 b 10 (by decide) [v0, v1, v2, v3]) (by decide) (by decide) rfl (fun k => List.mem_cons_of_mem _ List.mem_cons_self) (List.mem_cons_of_mem _ (List.mem_cons_of_mem _ List.mem_cons_self))) (vB rfl) (vB rfl) (by decide) (by intro t ht; obtain ⟨x, _, rfl⟩ := List.mem_map.1 ht; exact ⟨rfl, rfl, rfl⟩) rfl rfl (fun _ => rfl) rfl ?_ ?_ ?_ (by intro h; cases h)
 ·(refine cv.mk' ?_ ?_ <;> (repeat' (first | exact aM | exact aL | exact c7 | refine aC ?_ (Ty.aV _) | refine aC ?_ (Ty.aF _) | refine aK rfl (Cont.aF _) ?_ | refine aK rfl (Cont.dB ?_) ?_ | refine bG ?_ (Ty.aF _) | refine bG ?_ Ty.dQ)))
  all_goals trace_state
 ·intro k tys hk
  obtain ⟨hk1, rfl⟩ := Dd hk
  refine ⟨live [(5, Ty.ptr 6 0), (6, Ty.ptr 7 0), (9, Ty.ptr 10 0)] [(6, Cont.cells 152 [Ty.ptr 10 0]), (7, Cont.cells 187 (dW.tys (nth (aR y (nth c8)) k))), (10, Cont.cells 185 [Ty.ex v0, Ty.ex v1, Ty.ex v2, Ty.ex v3, Ty.row dW 187 23 ((aR y (nth c8)).take k), Ty.row dD 3 31 ((gm (aR y (nth c8))).take k)]), (4000, Cont.fact (bS y) [v0, v1, v2, v3] rfl rfl)], fun l w M => ?_, fun l w M => ?_⟩
  ·
   refine aA ?_
   refine bu rfl (by exact List.cons_ne_nil _ _) rfl ?_
   refine bq rfl rfl (by decide) rfl rfl rfl rfl rfl rfl ?_
   refine aD (gl ?_)
   (refine cv.mk' ?_ ?_ <;> (repeat' (first | exact aM | exact aL | refine aC ?_ (Ty.aV _) | refine aC ?_ (Ty.aF _) | refine aK rfl (Cont.aF _) ?_)))
  refine af ?_
  refine uy (D := 10) (Tb := 185) (tg := 23) [Ty.ex v0, Ty.ex v1, Ty.ex v2, Ty.ex v3] rfl fun v4 => ?_
  refine uy (D := 10) (Tb := 185) (tg := 31) [Ty.ex v0, Ty.ex v1, Ty.ex v2, Ty.ex v3, Ty.ex v4] rfl fun v5 => ?_
  refine cN mixed rfl ?_
  refine aX rfl rfl (by decide) rfl rfl rfl ?_
  refine aX rfl rfl (by decide) rfl rfl rfl ?_
  refine aX rfl rfl (by decide) rfl rfl rfl ?_
  refine fG rfl ?_
  refine aS rfl rfl rfl rfl rfl (by decide) ?_
  refine aX rfl rfl (by decide) rfl rfl rfl ?_
  refine bf rfl rfl (by decide) rfl rfl (by exact Nat.le_of_ble_eq_true rfl) ?_
  refine bg (E := dW) (xs := [_]) rfl rfl rfl rfl rfl (by decide) (by decide) (by repeat (first | exact (aW.nil : aW _ _ [] _) | (show aW _ _ ((_, _) :: _) _; apply aW.agg; (· exact (rfl : _ = Ty.agg _))))) (by exact rfl) rfl ?_
  refine qC (tg := 23) rfl rfl rfl rfl (by decide) rfl rfl rfl rfl rfl rfl (by decide) (by (simp <;> omega)) (by (simp <;> omega)) rfl rfl ?_
  refine aX rfl rfl (by decide) rfl rfl rfl ?_
  refine fG rfl ?_
  refine aS rfl rfl rfl rfl rfl (by decide) ?_
  refine aX rfl rfl (by decide) rfl rfl rfl ?_
  refine aS rfl rfl rfl rfl rfl (by decide) ?_
  refine aX rfl rfl (by decide) rfl rfl rfl ?_
  refine bg (E := dD) (xs := [_]) rfl rfl rfl rfl rfl (by decide) (by decide) (by repeat (first | exact (aW.nil : aW _ _ [] _) | (show aW _ _ ((_, _) :: _) _; apply aW.one; (· exact (rfl : _ = Ty.int _ _)); (· exact rfl)))) (by exact rfl) rfl ?_
  refine qC (tg := 31) rfl rfl rfl rfl (by decide) rfl rfl rfl rfl rfl rfl (by decide) (by (simp <;> omega)) (by (simp <;> omega)) rfl rfl ?_
  refine fG rfl ?_
  refine aS rfl rfl rfl rfl rfl (by decide) ?_
  refine dF rfl rfl (by decide) rfl rfl (by exact (rfl : _ = Ty.row _ _ _ _)) rfl (by exact Nat.le_of_ble_eq_true rfl) rfl rfl (by exact rfl) ?_
  refine fG rfl ?_
  refine aS rfl rfl rfl rfl rfl (by decide) ?_
  refine dF rfl rfl (by decide) rfl rfl (by exact (rfl : _ = Ty.row _ _ _ _)) rfl (by exact Nat.le_of_ble_eq_true rfl) rfl rfl (by exact rfl) ?_
  refine aD ?_
  refine ⟨by kernel_rfl, ?_⟩
  refine bM (Br ?_)
  (refine cv.mk' ?_ ?_ <;> (repeat' (first | exact aM | exact aL | exact c7 | refine aC ?_ (Ty.aV _) | refine aK rfl (Cont.aF _) ?_ | refine aK rfl (Cont.dB ?_) ?_ | refine bG ?_ (Ty.aF _) | refine bG ?_ ?_)))
  all_goals first | exact Ty.gY (cS hk1).symm | exact Ty.gY (DQ hk1)
 refine bM (aB (aE ?_))
 refine AO (D := 10) (Tb := 185) (vs := [v0, v1, v2, v3]) (tys := bS y) (r := [Ty.row dW 187 23 ((aR y (nth c8)).take ((aR y (nth c8)).map jS).length), Ty.row dD 3 31 ((gm (aR y (nth c8))).take ((aR y (nth c8)).map jS).length)]) rfl rfl ?_
 refine g8 (tg := 10) rfl (Cont.m7 (T := 185) (A8 (y := y) (fl := aR y (nth c8)) (f := jS))) ?_
 refine pT (c0 := 10) (tg := 23) 4 rfl rfl ?_
 refine pT (c0 := 10) (tg := 31) 5 rfl rfl ?_
 refine g8 (tg := 10) rfl (Cont.j3 (l' := sK y 23 31 (aR y (nth c8)).length (aR y (nth c8)).length) ⟨Ty.aF _, Ty.aF _, Ty.aF _, Ty.aF _, Ty.AB rfl, Ty.AB (Cv _), trivial⟩) ?_
 refine pJ (tg := 10) [] [(6, Cont.cells 152 [Ty.pp (sK y 23 31 (aR y (nth c8)).length (aR y (nth c8)).length)])] (by decide) rfl trivial ⟨jr rfl rfl ⟨yC rfl rfl (by decide), trivial⟩, trivial⟩ ?_
 refine aA ?_
 refine aX rfl rfl (by decide) rfl rfl rfl ?_
 refine Jo rfl (aD (aB (ay (GQ rfl ?_))))
 refine iQ [23, 31] rfl rfl (by decide) (by repeat (first | exact gR | refine fM rfl (cG (by decide) rfl) ?_)) ?_
 all_goals skip
 all_goals exact hU (ep (aN (aN (aN (aN (aN (aN bW (eW (by decide))) (eW (by decide))) (aT rfl rfl)) (aT rfl rfl)) (aT rfl rfl)) (aT rfl rfl)))
end Go.Proofs.YtelbollidfdcjaaGreat
namespace Go.Proofs.YtelbollidfdcjaaGreat
open Go Go.T
section
variable {fl : List bp} {a : List Int} {n k : Nat} {c : Int} {w : Way}
abbrev WQ : Type := List (Int × List Way)
def oI (q : WQ) (c : Int) : List Way := (eS q c).getD []
def Eo (q : WQ) (c : Int) (w : Way) : WQ := gZ q c (oI q c ++ [w])
theorem CG (q : WQ) (c c' : Int) (w : Way) : oI (Eo q c w) c' = oI q c' ++ (if c = c' then [w] else []) := by
 unfold Eo
 show (eS (gZ _ _ _) c').getD [] = _
 rw [yQ]
 by_cases e : c = c'
 ·subst e; rw [if_pos rfl, if_pos rfl]; rfl
 rw [if_neg e, if_neg e, List.append_nil]; rfl
def mg (fl : List bp) (a : List Int) (q : WQ) (k : Nat) : WQ := if nth a k < (nth fl k).hi then Eo q (nth fl k).src ⟨k, true⟩ else q
def eK (fl : List bp) (a : List Int) : Nat → WQ
  | 0 => []
  | k + 1 => if nth a k > (nth fl k).lo then Eo (mg fl a (eK fl a k) k) (nth fl k).dst ⟨k, false⟩ else mg fl a (eK fl a k) k
theorem Fl (fl : List bp) (a : List Int) : ([] : WQ) = eK fl a 0 := rfl
theorem Hx {q : WQ} (h : ¬ nth a k < (nth fl k).hi) : q = mg fl a q k := (if_neg h).symm
theorem Gw (h : ¬ nth a k > (nth fl k).lo) : mg fl a (eK fl a k) k = eK fl a (k + 1) := (if_neg h).symm
theorem sv {q : WQ} : oI (mg fl a q k) c = oI q c ++ (if nth a k < (nth fl k).hi ∧ (nth fl k).src = c then [⟨k, true⟩] else []) := by
 unfold mg
 by_cases h : nth a k < (nth fl k).hi
 ·rw [if_pos h, CG]
  by_cases e : (nth fl k).src = c
  ·rw [if_pos e, if_pos ⟨h, e⟩]
  rw [if_neg e, if_neg fun h => e h.2]
 rw [if_neg h, if_neg fun h' => h h'.1, List.append_nil]
theorem tD : ∀ k, oI (eK fl a k) c = (List.range k).flatMap (AP fl a c)
  | 0 => rfl
  | k + 1 => by
    rw [List.range_succ, List.flatMap_append, List.flatMap_singleton, ← tD k]
    show oI (if _ then _ else _) c = _
    unfold AP
    by_cases h : nth a k > (nth fl k).lo
    · rw [if_pos h, CG, sv, List.append_assoc]
      congr 2
      by_cases e : (nth fl k).dst = c
      · rw [if_pos e, if_pos ⟨h, e⟩]
      · rw [if_neg e, if_neg fun h => e h.2]
    · rw [if_neg h, sv, if_neg (c := _ ∧ (nth fl k).dst = c) (fun h' => h h'.1), List.append_nil]
theorem r5 : oI (eK fl a fl.length) c = bH fl a c := tD _
theorem yD (k : Nat) : (oI (eK fl a k) c).length ≤ 2 * k := by
  rw [tD]
  have key : ∀ n, ((List.range n).flatMap (AP fl a c)).length ≤ 2 * n := by
    intro n
    induction n with
    | zero => simp
    | succ n ih => rw [List.range_succ, List.flatMap_append, List.length_append, List.flatMap_singleton]; have := Aa (fl := fl) (a := a) (c := c) n; omega
  exact key k
theorem FP : (oI (mg fl a (eK fl a k) k) c).length ≤ 2 * k + 1 := by
 rw [sv, List.length_append]
 have := yD (fl := fl) (a := a) (c := c) k
 split <;> simp <;> omega
def oy (fl : List bp) (a : List Int) (k : Nat) (c : Int) : Int := cg (fun i => (ind ((nth fl i).dst = c) - ind ((nth fl i).src = c)) * nth a i) k
def eY (fl : List bp) (a : List Int) (n k : Nat) : List Int := (List.range n).map fun c => oy fl a k (c : Nat)
theorem jz : (eY fl a n k).length = n := by unfold eY; rw [List.length_map, List.length_range]
theorem jA {c : Nat} (h : c < n) : nth (eY fl a n k) c = oy fl a k c := fL _ h
theorem C5 : eY fl a n fl.length = gT fl a n := rfl
theorem A6 {l l' : List Int} (h : l.length = l'.length) (h' : ∀ i, i < l.length → nth l i = nth l' i) : l = l' := by
 refine List.ext_getElem h fun i h1 h2 => ?_
 have := h' i h1
 unfold nth at this
 rw [List.getD_eq_getElem?_getD, List.getD_eq_getElem?_getD, List.getElem?_eq_getElem h1, List.getElem?_eq_getElem h2] at this
 exact this
def oB (fl : List bp) (a : List Int) (l : List Int) (k : Nat) : List Int := l.set (nth fl k).src.toNat (nth l (nth fl k).src.toNat - nth a k)
theorem B0 (hs : 0 ≤ (nth fl k).src ∧ (nth fl k).src < n) (hd : 0 ≤ (nth fl k).dst ∧ (nth fl k).dst < n) :
 (oB fl a (eY fl a n k) k).set (nth fl k).dst.toNat (nth (oB fl a (eY fl a n k) k) (nth fl k).dst.toNat + nth a k) = eY fl a n (k + 1) := by
 have hS : ∀ c, c < n → nth (oB fl a (eY fl a n k) k) c = oy fl a k c - ind ((nth fl k).src = (c : Int)) * nth a k := fun c hc => by
  unfold oB
  rw [jd (by rw [jz]; exact hc)]
  by_cases e : (nth fl k).src.toNat = c
  ·rw [if_pos e, e, jA hc, eZ (by omega), Int.one_mul]
  rw [if_neg e, jA hc, dm (by omega), Int.zero_mul, Int.sub_zero]
 have hl : (oB fl a (eY fl a n k) k).length = n := by unfold oB; rw [List.length_set, jz]
 refine A6 (by rw [List.length_set, hl, jz]) fun c hc => ?_
 rw [List.length_set, hl] at hc
 rw [jd (by rw [hl]; exact hc), jA hc]
 show _ = oy fl a k c + (ind ((nth fl k).dst = (c : Int)) - ind ((nth fl k).src = (c : Int))) * nth a k
 rw [Int.sub_mul]
 by_cases e : (nth fl k).dst.toNat = c
 ·rw [if_pos e, e, hS c hc, eZ (p := (nth fl k).dst = (c : Int)) (by omega), Int.one_mul]; omega
 rw [if_neg e, hS c hc, dm (p := (nth fl k).dst = (c : Int)) (by omega), Int.zero_mul]; omega
theorem Eh (fl : List bp) (a l : List Int) (k : Nat) : (oB fl a l k).length = l.length := List.length_set
theorem Fo (fl : List bp) (a : List Int) (n : Nat) : List.replicate (((n : Nat) : Int)).toNat 0 = eY fl a n 0 := by
 rw [Int.toNat_natCast]
 refine A6 (by rw [List.length_replicate, jz]) fun i hi => ?_
 rw [List.length_replicate] at hi
 rw [jA hi, z8 _ _ _ hi]; rfl
theorem Et {c : Nat} (h : ∀ c : Int, -(300 * (k : Int)) ≤ oy fl a k c ∧ oy fl a k c ≤ 300 * k) (ha : 0 ≤ nth a k ∧ nth a k ≤ 300) (hc : c < n) (hs : (nth fl k).src.toNat < n) : -(300 * (k : Int) + 300) ≤ nth (oB fl a (eY fl a n k) k) c ∧ nth (oB fl a (eY fl a n k) k) c ≤ 300 * k := by
 unfold oB
 rw [jd (by rw [jz]; exact hc)]
 split
 ·rw [jA hs]; have := h ((nth fl k).src.toNat : Nat); omega
 rw [jA hc]; have := h (c : Nat); omega
theorem xZ (ha : ∀ i, i < k → 0 ≤ nth a i ∧ nth a i ≤ 300) : -(300 * (k : Int)) ≤ oy fl a k c ∧ oy fl a k c ≤ 300 * k := by
 refine nH (b := 300) fun i hi => ?_
 have := ha i hi
 unfold ind
 split <;> split <;> simp <;> omega
end
end Go.Proofs.YtelbollidfdcjaaGreat
namespace Go.Proofs.YtelbollidfdcjaaGreat
open Go Go.T
set_option maxHeartbeats 8000000
section
variable {fl : List bp} {a : List Int} {n : Nat} {w : Way}
theorem Jr (h : w.more = true) : (nth fl w.ix).src = w.gp fl := (if_pos h).symm
theorem MS (h : w.more = false) : (nth fl w.ix).dst = w.gp fl := (if_neg (by rw [h]; decide)).symm
theorem EF (h : w.more = true) : (nth fl w.ix).dst = w.fin fl ∧ (nth fl w.ix).hi - nth a w.ix = w.room fl a := ⟨(if_pos h).symm, (if_pos h).symm⟩
theorem Gc (h : w.more = false) : (nth fl w.ix).src = w.fin fl ∧ nth a w.ix - (nth fl w.ix).lo = w.room fl a := ⟨(if_neg (by rw [h]; decide)).symm, (if_neg (by rw [h]; decide)).symm⟩
structure lV (y : bA) (fl : List bp) (a : List Int) : Prop where
  right : y.cZ
  net : Net fl (y.cells + 1)
  bd : Bd fl
  inb : xP fl a
  qL : fl.length ≤ 34
theorem lV.MG {y : bA} (h : lV y fl a) {i : Nat} (hi : i < fl.length) : (0 ≤ nth a i ∧ nth a i ≤ 300) ∧ (0 ≤ (nth fl i).lo ∧ (nth fl i).lo ≤ 300) ∧ 0 ≤ (nth fl i).hi ∧ (nth fl i).hi ≤ 300 := by
 have h1 := h.bd i hi
 have h2 := h.inb.2 i hi
 omega
theorem Ml {l : List Way} {k : Nat} {d : Int} (hk : k < l.length) (hm : (nth l k).more = true) : (dZ a (l.take k) d).set (nth l k).ix (nth (dZ a (l.take k) d) (nth l k).ix + d) = dZ a (l.take (k + 1)) d := by
 rw [cS hk, q5]; unfold k6 xK; rw [hm]; rfl
theorem Nc {l : List Way} {k : Nat} {d : Int} (hk : k < l.length) (hm : (nth l k).more = false) : (dZ a (l.take k) d).set (nth l k).ix (nth (dZ a (l.take k) d) (nth l k).ix - d) = dZ a (l.take (k + 1)) d := by
 rw [cS hk, q5]; unfold k6 xK; rw [hm]; rfl
theorem yH {l : List Way} {d : Int} (hd : 0 ≤ d ∧ d ≤ 20000) (ha : ∀ i, -300 ≤ nth a i ∧ nth a i ≤ 300) (hw : ∀ w ∈ l, w.ix < a.length) : ∀ k, k ≤ l.length → ∀ i, -(20000 * ((k : Int) + 1)) ≤ nth (dZ a (l.take k) d) i ∧ nth (dZ a (l.take k) d) i ≤ 20000 * ((k : Int) + 1)
  | 0, _, i => by rw [List.take_zero]; have := ha i; show _ ≤ nth a i ∧ nth a i ≤ _; omega
  | k + 1, hk, i => by
    have ih := yH hd ha hw k (by omega) i
    rw [cS (by omega), q5, j0 (by rw [tJ]; exact hw _ (cR (by omega)))]
    split
    · unfold xK; split <;> omega
    · omega
theorem CL (a : List Int) (l : List Way) (d : Int) : a = dZ a (l.take 0) d := rfl
theorem Jq {l : List Int} {i : Nat} (h : l.length ≤ i) : nth l i = 0 := by
 unfold nth; rw [List.getD_eq_getElem?_getD, List.getElem?_eq_none h]; rfl
theorem lV.abs {y : bA} (h : lV y fl a) (i : Nat) : -300 ≤ nth a i ∧ nth a i ≤ 300 := by
 by_cases c : i < fl.length
 ·have := (h.MG c).1; omega
 rw [Jq (by rw [h.inb.1]; omega)]; omega
end
theorem n9 : mapOf Tryz.prog 227 = some (3, 222) := by kernel_rfl
theorem uw : zeroOf Tryz.prog 222 = some (.slice none 0 0) := by kernel_rfl
def KI : xV Tryz.prog 3 Int := MF Tryz.prog 3 .i64 Tryz.underlying3
theorem ue (n : Int) : tj (Ty.int .i64 n) (KI.enc n) := J6
attribute [local irreducible] aR gm Way.gp Way.fin Way.room eK mg Eo dZ eY oy
attribute [local irreducible] g6 fS m8 qg iZ iT ij ia ig qM iS qR dY gb qd gV qV nth fU dR av dK bodyPost Exit.then Exit.inBlock Code.wp Code.wpIn fR qb qX qT iw qW qc iY fC cT cU bodyPostM dr
set_option maxRecDepth 100000 in
theorem zW (y : bA) (fl : List bp) (a : List Int) (w : Way) (hw : w.ix < fl.length) : dK Tryz.prog 181 [Ty.pp (l9 y fl a), Ty.agg (fk.tys w)] (Ty.int .i64 (w.gp fl)) := by
 refine aa Tryz.func181 rfl (by decide) Tryz.ntmps181 (by exact Nat.le_of_ble_eq_true rfl) fun w0 M0 => ?_
 refine aE (aA (bD rfl (bk rfl (aD (aB (aE (aE (aA ?_))))))))
 refine aI rfl rfl rfl rfl rfl (by decide) ?_
 refine aG rfl rfl rfl rfl (aD (aB ?_))
 refine bt rfl (fun hc1 => ?_) (fun hc1 => ?_)
 ·
  refine aE (cN mixed rfl (ji rfl (bh rfl ?_)))
  refine aI rfl rfl rfl rfl rfl (by decide) ?_
  refine aG rfl rfl rfl rfl ?_
  refine aI rfl rfl rfl rfl rfl (by decide) ?_
  refine aG rfl rfl rfl rfl ?_
  refine ak rfl rfl rfl rfl rfl rfl (by omega) ?_
  refine aI rfl rfl rfl rfl rfl (by decide) ?_
  refine aG rfl rfl rfl rfl (bk rfl (aD ?_))
  refine ⟨by kernel_rfl, ?_⟩
  refine aB (ay (aQ (bJ rfl rfl ?_)))
  all_goals skip
  all_goals exact ah rfl rfl (congrArg (Ty.int .i64) (Jr hc1))
 refine aq (aB (aE (cN mixed rfl (ji rfl (bh rfl ?_)))))
 refine aI rfl rfl rfl rfl rfl (by decide) ?_
 refine aG rfl rfl rfl rfl ?_
 refine aI rfl rfl rfl rfl rfl (by decide) ?_
 refine aG rfl rfl rfl rfl ?_
 refine ak rfl rfl rfl rfl rfl rfl (by omega) ?_
 refine aI rfl rfl rfl rfl rfl (by decide) ?_
 refine aG rfl rfl rfl rfl (bk rfl (aD ?_))
 refine ⟨by kernel_rfl, ?_⟩
 refine aB (ay (bJ rfl rfl ?_))
 all_goals skip
 all_goals exact ah rfl rfl (congrArg (Ty.int .i64) (MS hc1))
set_option maxRecDepth 100000 in
theorem Dx (y : bA) (fl : List bp) (a : List Int) (h : lV y fl a) (w : Way) (hw : w.ix < fl.length) : dK Tryz.prog 182 [Ty.pp (l9 y fl a), Ty.agg (fk.tys w)] (Ty.kD [Ty.int .i64 (w.fin fl), Ty.int .i64 (w.room fl a)]) := by
 refine aa Tryz.func182 rfl (by decide) Tryz.ntmps182 (by exact Nat.le_of_ble_eq_true rfl) fun w0 M0 => ?_
 have hl := h.inb.1
 have hb := h.MG hw
 refine aE (aA (bD rfl (bk rfl (bk rfl (aD (aB (aE (cN mixed rfl (ji rfl ?_)))))))))
 refine bh rfl ?_
 refine aI rfl rfl rfl rfl rfl (by decide) ?_
 refine aG rfl rfl rfl rfl ?_
 refine aI rfl rfl rfl rfl rfl (by decide) ?_
 refine aG rfl rfl rfl rfl ?_
 refine ak rfl rfl rfl rfl rfl rfl (by omega) ?_
 refine aU rfl rfl rfl (by exact Nat.le_of_ble_eq_true rfl) ?_
 refine bu rfl (by exact List.cons_ne_nil _ _) rfl ?_
 refine bq rfl rfl (by decide) rfl rfl rfl rfl rfl rfl ?_
 refine aD ?_
 refine ⟨by kernel_rfl, ?_⟩
 refine aB (aE (aE (aA ?_)))
 refine aI rfl rfl rfl rfl rfl (by decide) ?_
 refine aG rfl rfl rfl rfl (aD (aB ?_))
 refine bt rfl (fun hc1 => ?_) (fun hc1 => ?_)
 ·
  refine aE (cN mixed rfl ?_)
  refine aS rfl rfl rfl rfl rfl (by decide) ?_
  refine aX rfl rfl (by decide) rfl rfl rfl ?_
  refine aS rfl rfl rfl rfl rfl (by decide) ?_
  refine aX rfl rfl (by decide) rfl rfl rfl ?_
  refine ji rfl (bh rfl ?_)
  refine aI rfl rfl rfl rfl rfl (by decide) ?_
  refine aG rfl rfl rfl rfl ?_
  refine aI rfl rfl rfl rfl rfl (by decide) ?_
  refine aG rfl rfl rfl rfl ?_
  refine ak rfl rfl rfl rfl rfl rfl (by omega) ?_
  refine aG rfl rfl rfl rfl ?_
  refine iA rfl rfl (by omega) (by omega) ?_
  refine bk rfl (bk rfl (aD ?_))
  refine ⟨by kernel_rfl, ?_⟩
  refine aB (ay (aQ ?_))
  refine eX rfl rfl rfl ?_ ?_
  all_goals skip
  all_goals first | exact ah rfl rfl (congrArg (Ty.int .i64) (EF (a := a) hc1).1) | exact ah rfl rfl (congrArg (Ty.int .i64) (EF (a := a) hc1).2)
 refine aq (aB (aE (cN mixed rfl ?_)))
 refine aS rfl rfl rfl rfl rfl (by decide) ?_
 refine aX rfl rfl (by decide) rfl rfl rfl ?_
 refine ji rfl (bh rfl ?_)
 refine aI rfl rfl rfl rfl rfl (by decide) ?_
 refine aG rfl rfl rfl rfl ?_
 refine aI rfl rfl rfl rfl rfl (by decide) ?_
 refine aG rfl rfl rfl rfl ?_
 refine ak rfl rfl rfl rfl rfl rfl (by omega) ?_
 refine aG rfl rfl rfl rfl ?_
 refine aS rfl rfl rfl rfl rfl (by decide) ?_
 refine aX rfl rfl (by decide) rfl rfl rfl ?_
 refine iA rfl rfl (by omega) (by omega) ?_
 refine bk rfl (bk rfl (aD ?_))
 refine ⟨by kernel_rfl, ?_⟩
 refine aB (ay ?_)
 refine eX rfl rfl rfl ?_ ?_
 all_goals skip
 all_goals first | exact ah rfl rfl (congrArg (Ty.int .i64) (Gc (a := a) hc1).1) | exact ah rfl rfl (congrArg (Ty.int .i64) (Gc (a := a) hc1).2)
set_option maxRecDepth 100000 in
theorem Ie (y : bA) (fl : List bp) (a : List Int) (h : lV y fl a) (l : List Way) (hl : l.length ≤ 100) (hw : ∀ w ∈ l, w.ix < fl.length) (d : Int) (hd : 0 ≤ d ∧ d ≤ 20000) : fC Tryz.prog 183 [1000] [(1000, Cont.vec dD 3 a)] [Ty.pp (dx y fl 1000 fl.length), Ty.sl fk l, Ty.int .i64 d] [(1000, Cont.vec dD 3 (dZ a l d))] (Ty.kD []) := by
 refine fV Tryz.func183 rfl (by decide) Tryz.ntmps183 (by exact Nat.le_of_ble_eq_true rfl) fun w0 M0 => ?_
 have hal := h.inb.1
 refine aE (aA (ej rfl (b9 rfl rfl rfl (bI rfl (aD (aB (af ?_)))))))
 refine cK (fun (k : {k : Nat // k ≤ l.length}) => live [(0, Ty.pp (dx y fl 1000 fl.length)), (2, Ty.int .i64 d), (8, Ty.sl fk l), (9, Ty.int .i64 l.length), (10, Ty.int .i64 (k.1 : Nat))] [(1000, Cont.vec dD 3 (dZ a (l.take k.1) d))]) (fun k => l.length - k.1) (⟨0, by omega⟩) ?_ fun k => ?_
 ·(refine cv.mk' ?_ ?_ <;> (repeat' (first | exact aM | exact aL | refine aC ?_ (Ty.aV _) | refine aC ?_ (Ty.aF _) | refine aK rfl ?_ ?_)))
  all_goals exact Cont.fF (CL _ _ _)
 have hsl := tJ d (l.take k.1) a
 have hk := k.2
 have hsa := yH hd h.abs (fun w hw' => by rw [hal]; exact hw w hw') k.1 k.2
 refine aE (aA (bC rfl rfl rfl (aD (aB (aE ?_)))))
 refine az rfl (fun hc1 => ?_) (fun hc1 => ?_)
 ·
  refine aq (aB (aE (af (aE ?_))))
  have hwk := hw _ (cR (xs := l) (k := k.1) (by omega))
  have hsk := hsa (nth l k.1).ix
  refine aA ?_
  refine ak rfl rfl rfl rfl rfl rfl (by omega) ?_
  refine aU rfl rfl rfl (by exact Nat.le_of_ble_eq_true rfl) ?_
  refine bu rfl (by exact List.cons_ne_nil _ _) rfl ?_
  refine bq rfl rfl (by decide) rfl rfl rfl rfl rfl rfl ?_
  refine aD (aB (aE (aA ?_)))
  refine aS rfl rfl rfl rfl rfl (by decide) ?_
  refine aX rfl rfl (by decide) rfl rfl rfl ?_
  refine aD (aB ?_)
  refine bt rfl (fun hc2 => ?_) (fun hc2 => ?_)
  ·
   refine cN mixed rfl (ji rfl (bh rfl ?_))
   refine aI rfl rfl rfl rfl rfl (by decide) ?_
   refine aG rfl rfl rfl rfl ?_
   refine aS rfl rfl rfl rfl rfl (by decide) ?_
   refine aX rfl rfl (by decide) rfl rfl rfl ?_
   refine cx rfl rfl rfl rfl rfl (by omega) ?_
   refine cX rfl rfl rfl (by decide) rfl rfl (by omega) rfl ?_
   refine bI rfl ?_
   refine b8 rfl rfl (by omega) (by omega) ?_
   refine cx rfl rfl rfl rfl rfl (by omega) ?_
   refine jg rfl rfl rfl (by decide) rfl rfl (by exact (rfl : _ = Ty.int _ _)) rfl (by omega) (by decide) rfl rfl ?_
   refine aD ?_
   refine ⟨by kernel_rfl, ?_⟩
   refine bM (aB (aA ?_))
   refine b8 rfl rfl (by omega) (by omega) ?_
   refine bI rfl (aD ?_)
   refine bO (⟨k.1 + 1, by omega⟩) ?_ (by show l.length - (k.1 + 1) < l.length - k.1; omega)
   (refine cv.mk' ?_ ?_ <;> (repeat' (first | exact aM | exact aL | refine aC ?_ (Ty.aV _) | refine aC ?_ (Ty.aF _) | refine aK rfl ?_ ?_)))
   all_goals skip
   all_goals exact Cont.fF (Ml (by omega) hc2)
  refine cN mixed rfl (ji rfl (bh rfl ?_))
  refine aI rfl rfl rfl rfl rfl (by decide) ?_
  refine aG rfl rfl rfl rfl ?_
  refine aS rfl rfl rfl rfl rfl (by decide) ?_
  refine aX rfl rfl (by decide) rfl rfl rfl ?_
  refine cx rfl rfl rfl rfl rfl (by omega) ?_
  refine cX rfl rfl rfl (by decide) rfl rfl (by omega) rfl ?_
  refine bI rfl ?_
  refine iA rfl rfl (by omega) (by omega) ?_
  refine cx rfl rfl rfl rfl rfl (by omega) ?_
  refine jg rfl rfl rfl (by decide) rfl rfl (by exact (rfl : _ = Ty.int _ _)) rfl (by omega) (by decide) rfl rfl ?_
  refine aD ?_
  refine ⟨by kernel_rfl, ?_⟩
  refine bM (aB (aA ?_))
  refine b8 rfl rfl (by omega) (by omega) ?_
  refine bI rfl (aD ?_)
  refine bO (⟨k.1 + 1, by omega⟩) ?_ (by show l.length - (k.1 + 1) < l.length - k.1; omega)
  (refine cv.mk' ?_ ?_ <;> (repeat' (first | exact aM | exact aL | refine aC ?_ (Ty.aV _) | refine aC ?_ (Ty.aF _) | refine aK rfl ?_ ?_)))
  all_goals skip
  all_goals exact Cont.fF (Nc (by omega) hc2)
 refine cI (aP (aP (aj rfl (Nm ?_))))
 refine L7 [1000] rfl (by decide) ?_
 ·exact fM rfl (cG (by decide) (by rw [List.take_of_length_le (by have := k.2; omega)])) gR
set_option maxRecDepth 100000 in
theorem Lo (y : bA) (fl : List bp) (a : List Int) (h : lV y fl a) : fC Tryz.prog 178 [1000] [(1000, Cont.vec dD 3 a)] [Ty.pp (dx y fl 1000 fl.length)] [(1000, Cont.vec dD 3 a)] (Ty.sl dD (gT fl a (y.cells + 1))) := by
 refine fV Tryz.func178 rfl (by decide) Tryz.ntmps178 (by exact Nat.le_of_ble_eq_true rfl) fun w0 M0 => ?_
 have hal := h.inb.1
 have hcl := nE h.right
 have hfl := h.qL
 refine aE (aA (kE rfl (aD (aB (aE (aA (ji rfl ?_)))))))
 refine eM [] (sP y h.right) rfl (aY (nK (l1 := bS y) (l2 := [Ty.sl dW fl, Ty.vs 1000 fl.length]) rfl rfl) cY) (by exact c6 _ _) ?_
 refine b8 rfl rfl (by omega) (by omega) ?_
 refine ur (E := dD) (x0 := 0) rfl rfl rfl rfl rfl rfl rfl (by decide) rfl (by omega) (by (dsimp only; omega)) (by omega) ?_
 refine Kt rfl (aD (aB (aE (aE (aA (ji rfl (bh rfl ?_)))))))
 refine aI rfl rfl rfl rfl rfl (by decide) ?_
 refine aG rfl rfl rfl rfl (b9 rfl rfl rfl (bI rfl (aD (aB (af ?_)))))
 refine cK (fun (k : {k : Nat // k ≤ fl.length}) => live [(0, Ty.pp (dx y fl 1000 fl.length)), (3, Ty.vs 10 (y.cells + 1)), (13, Ty.sl dW fl), (14, Ty.int .i64 fl.length), (15, Ty.int .i64 (k.1 : Nat))] [(1000, Cont.vec dD 3 a), (10, Cont.vec dD 3 (eY fl a (y.cells + 1) k.1))]) (fun k => fl.length - k.1) (⟨0, by omega⟩) ?_ fun k => ?_
 ·(refine cv.mk' ?_ ?_ <;> (repeat' (first | exact aM | exact aL | refine aC ?_ (Ty.aV _) | refine aC ?_ (Ty.aF _) | refine aK rfl (Cont.aF _) ?_ | refine aK rfl ?_ ?_)))
  all_goals exact Cont.fF (Fo _ _ _)
 have hk := k.2
 have hul := jz (fl := fl) (a := a) (n := y.cells + 1) (k := k.1)
 refine aE (aA (bC rfl rfl rfl (aD (aB (aE ?_)))))
 refine az rfl (fun hc1 => ?_) (fun hc1 => ?_)
 ·
  refine aq (aB (aE (af (aE (aA (bI rfl ?_))))))
  refine ak rfl rfl rfl rfl rfl rfl (by omega) ?_
  refine aU rfl rfl rfl (by exact Nat.le_of_ble_eq_true rfl) ?_
  refine bu rfl (by exact List.cons_ne_nil _ _) rfl ?_
  refine bk rfl ?_
  refine bq rfl rfl (by decide) rfl rfl rfl rfl rfl rfl ?_
  refine aD (aB (aE ?_))
  have hs := h.net.src k.1 (by omega)
  have hd := h.net.dst k.1 (by omega)
  have hamt := (h.MG (show k.1 < fl.length by omega)).1
  have habs := fun c => xZ (fl := fl) (a := a) (c := c) (k := k.1) fun i hi => (h.MG (show i < fl.length by omega)).1
  have hn1 := jA (fl := fl) (a := a) (n := y.cells + 1) (k := k.1) (c := (nth fl k.1).src.toNat) (by omega)
  have hb1 := habs ((nth fl k.1).src.toNat : Nat)
  refine cN mixed rfl (sV rfl ?_)
  refine aS rfl rfl rfl rfl rfl (by decide) ?_
  refine aX rfl rfl (by decide) rfl rfl rfl ?_
  refine fQ rfl rfl rfl rfl rfl hs.1 (by omega) ?_
  refine cX rfl rfl rfl (by decide) rfl rfl (by omega) rfl ?_
  refine ji rfl (bh rfl ?_)
  refine aI rfl rfl rfl rfl rfl (by decide) ?_
  refine aG rfl rfl rfl rfl (bI rfl ?_)
  refine cx rfl rfl rfl rfl rfl (by omega) ?_
  refine cX rfl rfl rfl (by decide) rfl rfl (by omega) rfl ?_
  refine iA rfl rfl (by omega) (by omega) ?_
  refine fQ rfl rfl rfl rfl rfl hs.1 (by omega) ?_
  refine jg rfl rfl rfl (by decide) rfl rfl (by exact (rfl : _ = Ty.int _ _)) rfl (by omega) (by decide) rfl rfl ?_
  refine aD ?_
  refine ⟨by kernel_rfl, ?_⟩
  refine aB ?_
  have hsl : (oB fl a (eY fl a (y.cells + 1) k.1) k.1).length = y.cells + 1 := (Eh _ _ _ _).trans hul
  have hb2 := Et (fl := fl) (a := a) (n := y.cells + 1) (k := k.1) (c := (nth fl k.1).dst.toNat) habs hamt (by omega) (by omega)
  unfold oB at hb2 hsl
  refine cN mixed rfl (sV rfl ?_)
  refine aS rfl rfl rfl rfl rfl (by decide) ?_
  refine aX rfl rfl (by decide) rfl rfl rfl ?_
  refine fQ rfl rfl rfl rfl rfl hd.1 (by omega) ?_
  refine cX rfl rfl rfl (by decide) rfl rfl (by omega) rfl ?_
  refine ji rfl (bh rfl ?_)
  refine aI rfl rfl rfl rfl rfl (by decide) ?_
  refine aG rfl rfl rfl rfl (bI rfl ?_)
  refine cx rfl rfl rfl rfl rfl (by omega) ?_
  refine cX rfl rfl rfl (by decide) rfl rfl (by omega) rfl ?_
  refine b8 rfl rfl (by omega) (by omega) ?_
  refine fQ rfl rfl rfl rfl rfl hd.1 (by omega) ?_
  refine jg rfl rfl rfl (by decide) rfl rfl (by exact (rfl : _ = Ty.int _ _)) rfl (by omega) (by decide) rfl rfl ?_
  refine aD ?_
  refine ⟨by kernel_rfl, ?_⟩
  refine bM (aB (aA ?_))
  refine b8 rfl rfl (by omega) (by omega) ?_
  refine bI rfl (aD ?_)
  refine bO (⟨k.1 + 1, by omega⟩) ?_ (by show fl.length - (k.1 + 1) < fl.length - k.1; omega)
  (refine cv.mk' ?_ ?_ <;> (repeat' (first | exact aM | exact aL | refine aC ?_ (Ty.aV _) | refine aC ?_ (Ty.aF _) | refine aK rfl (Cont.aF _) ?_ | refine aK rfl ?_ ?_)))
  all_goals skip
  all_goals exact Cont.fF (B0 hs hd)
 refine cI (aP (aP (aj rfl (aB (aE ?_)))))
 refine jO (tg := 10) [(3, Ty.sl dD (eY fl a (y.cells + 1) k.1))] (by decide) rfl ⟨IA rfl rfl hul (by decide), trivial⟩ ?_
 refine iU (s := 3) rfl (Ty.qt (show eY fl a (y.cells + 1) k.1 = gT fl a (y.cells + 1) by rw [show k.1 = fl.length by have := k.2; omega]; exact C5)) ?_
 refine aA (ej rfl (xX rfl (aD (aB (ay ?_)))))
 refine iQ [1000] rfl rfl (by decide) (by repeat (first | exact gR | refine fM rfl (cG (by decide) rfl) ?_)) ?_
 all_goals exact hU (aT rfl rfl)
end Go.Proofs.YtelbollidfdcjaaGreat
namespace Go.Proofs.YtelbollidfdcjaaGreat
open Go Go.T
section
variable {fl : List bp} {a : List Int} {n : Nat} {s t : Int} {x : qn}
def dc (x : qn) : Int := nth x.queue 0
def jk (x : qn) : qn := ⟨x.by_, x.queue.drop 1⟩
theorem queue_eq (h : 0 < x.queue.length) : x.queue = dc x :: x.queue.drop 1 := by
  unfold dc
  cases hq : x.queue with
  | nil => rw [hq] at h; exact absurd h (by simp)
  | cons c r => rfl
structure Ke (fl : List bp) (a : List Int) (n : Nat) (s : Int) (x : qn) : Prop where
  inv : lZ fl a n s x none
  same : m9 (w6 fl a s) x = cM fl a s
  short : x.queue.length ≤ x.by_.length + 1
theorem N9 (hs : 0 ≤ s ∧ s < n) : Ke fl a n s ⟨[], [s]⟩ := ⟨K6 hs, rfl, Nat.le_refl _⟩
theorem H6 (h : 0 < x.queue.length) : w6 fl a s x = .inl (ew fl a s (dc x) (jk x) (bH fl a (dc x)).length) := by
 have e := queue_eq h
 unfold w6
 rw [e]; rfl
theorem Ke.fold (hN : Net fl n) (h : Ke fl a n s x) (hq : 0 < x.queue.length) {k : Nat} (hk : k ≤ (bH fl a (dc x)).length) :
 (ew fl a s (dc x) (jk x) k).queue.length ≤ n ∧ (ew fl a s (dc x) (jk x) k).by_.length ≤ n ∧ (ew fl a s (dc x) (jk x) k).queue.length ≤ (ew fl a s (dc x) (jk x) k).by_.length := by
 have h1 := (h.inv.pop (queue_eq hq)).fold hN k hk
 have h2 := h1.qL
 have h3 := wZ (fl := fl) (a := a) (s := s) (c := dc x) (x := jk x) k hk
 have h4 := h.short
 have e1 : (jk x).queue.length + 1 = x.queue.length := by show (x.queue.drop 1).length + 1 = _; rw [List.length_drop]; omega
 have e2 : (jk x).by_ = x.by_ := rfl
 rw [e2] at h3
 change (ew fl a s (dc x) (jk x) k).by_.length ≤ n at h2
 omega
theorem Ke.next (hN : Net fl n) (h : Ke fl a n s x) (hq : 0 < x.queue.length) : Ke fl a n s (ew fl a s (dc x) (jk x) (bH fl a (dc x)).length) ∧ MM n (ew fl a s (dc x) (jk x) (bH fl a (dc x)).length) < MM n x := by
 obtain ⟨h1, h2⟩ := vU hN h.inv (queue_eq hq)
 exact ⟨⟨h1, by rw [← gy (H6 hq)]; exact h.same, by have := (h.fold hN hq (Nat.le_refl _)).2.2; omega⟩, h2⟩
theorem Ke.end (h : Ke fl a n s x) (hq : ¬ 0 < x.queue.length) : x.by_ = cM fl a s := by
 rw [← h.same]
 refine (iJ ?_).symm
 unfold w6
 rw [List.length_eq_zero_iff.1 (show x.queue.length = 0 by omega)]
theorem y8 {c : Int} {z : qn} {k : Nat} (hk : k < (bH fl a c).length) (h : uh fl s (ew fl a s c z k).by_ (nth (bH fl a c) k) = true) :
 gZ (ew fl a s c z k).by_ ((nth (bH fl a c) k).fin fl) (nth (bH fl a c) k) = (ew fl a s c z (k + 1)).by_ ∧ (ew fl a s c z k).queue ++ [(nth (bH fl a c) k).fin fl] = (ew fl a s c z (k + 1)).queue := by
 rw [nv hk, tX h]; exact ⟨rfl, rfl⟩
theorem CE {c : Int} {z : qn} {k : Nat} (hk : k < (bH fl a c).length) (h : uh fl s (ew fl a s c z k).by_ (nth (bH fl a c) k) = false) :
 (ew fl a s c z k).by_ = (ew fl a s c z (k + 1)).by_ ∧ (ew fl a s c z k).queue = (ew fl a s c z (k + 1)).queue := by
 rw [nv hk, wN h]; exact ⟨rfl, rfl⟩
theorem wQ {c : Int} {z : qn} : ew fl a s c z 0 = z := rfl
structure I8 (fl : List bp) (n : Nat) (a0 a : List Int) : Prop where
  inb : xP fl a
  same : m9 (D2 fl n) a = gM fl n a0
theorem I8.done {a0 : List Int} (h : I8 fl n a0 a) (e : dP fl a n < 0) : gM fl n a0 = (0, false, a) := by
 rw [← h.same]; exact iJ (if_pos e)
theorem I8.stuck {a0 : List Int} (h : I8 fl n a0 a) (e : ¬ dP fl a n < 0) (e2 : eJ fl a n (cM fl a (dP fl a n)) < 0) : gM fl n a0 = (dP fl a n, true, a) := by
 rw [← h.same]; exact iJ ((if_neg e).trans (if_pos e2))
theorem I8.next {a0 : List Int} (hN : Net fl n) (h : I8 fl n a0 a) (e : ¬ dP fl a n < 0) (e2 : ¬ eJ fl a n (cM fl a (dP fl a n)) < 0) :
 I8 fl n a0 (kI fl a (dP fl a n) (eJ fl a n (cM fl a (dP fl a n)))) ∧ Ni fl a n (dP fl a n) (eJ fl a n (cM fl a (dP fl a n))) := by
 obtain ⟨s, s1, s2, s3⟩ := vq e
 obtain ⟨t, t1, t2, t3, t4⟩ := s7 e2
 rw [s2] at t2 t3 ⊢
 rw [t2]
 have hS := sent hN h.inb s1 t1 s3 t3 t4
 refine ⟨⟨hS.inb, ?_⟩, hS⟩
 rw [← h.same]
 refine (gy ?_).symm
 unfold D2
 rw [if_neg e, s2, if_neg (by rw [t2]; omega), t2]
structure Jn (fl : List bp) (a : List Int) (q : List (Int × Way)) (s t : Int) (dep : Int → Nat) (x : Int × List Way) : Prop where
  inv : GJ fl a q s t dep x
  same : m9 (DP fl q s) x = gu fl q s t
theorem N5 {dep : Int → Nat} {q : List (Int × Way)} (ht : xM q s t) : Jn fl a q s t dep (t, []) :=
 ⟨⟨rfl, (fun w h => by cases h), (fun w h => by cases h), List.nodup_nil, ht, by simp⟩, rfl⟩
theorem Co {q : List (Int × Way)} {x : Int × List Way} (hx : x.1 = s) : DP fl q s x = .inr x.2 := if_pos hx
theorem CJ {q : List (Int × Way)} {x : Int × List Way} (hx : ¬ x.1 = s) : DP fl q s x = .inl ((jj q x.1).gp fl, x.2 ++ [jj q x.1]) := if_neg hx
theorem Jn.next {dep : Int → Nat} {q : List (Int × Way)} (hd : ∀ c w, eS q c = some w → Open fl a w ∧ w.fin fl = c ∧ xM q s (w.gp fl) ∧ dep (w.gp fl) < dep c ∧ dep c ≤ q.length) {x : Int × List Way} (h : Jn fl a q s t dep x) (hx : ¬ x.1 = s) :
 Jn fl a q s t dep ((jj q x.1).gp fl, x.2 ++ [jj q x.1]) ∧ dep ((jj q x.1).gp fl) < dep x.1 ∧ Open fl a (jj q x.1) := by
 obtain ⟨h1, h2⟩ := h.inv.next hd hx
 refine ⟨⟨h1, ?_⟩, h2, h1.ways _ (List.mem_append.2 (.inr (List.mem_singleton.2 rfl)))⟩
 rw [← h.same]
 exact (gy (CJ hx)).symm
theorem Jn.end {dep : Int → Nat} {q : List (Int × Way)} {x : Int × List Way} (h : Jn fl a q s t dep x) (hx : x.1 = s) : x.2 = gu fl q s t := by
 rw [← h.same]; exact (iJ (Co hx)).symm
theorem Jn.qL {dep : Int → Nat} {q : List (Int × Way)} {x : Int × List Way} (h : Jn fl a q s t dep x) : x.2.length ≤ dep t := by
 have := h.inv.qL; omega
end
end Go.Proofs.YtelbollidfdcjaaGreat
namespace Go.Proofs.YtelbollidfdcjaaGreat
open Go Go.T
set_option maxHeartbeats 8000000
def zE : VT Way := ⟨fun w => Ty.agg (fk.tys w), fun _ => ⟨rfl, rfl⟩⟩
theorem nh : mapOf Tryz.prog 196 = some (3, 199) := by kernel_rfl
theorem rS : zeroOf Tryz.prog 199 = some (.agg #[.int .i64 0, .bool false]) := by kernel_rfl
theorem oQ : ∀ w M, (zE.ty (default : Way)).den w M (.agg #[.int .i64 0, .bool false]) := fun _ _ => ⟨_, rfl, rfl, rfl, trivial⟩
theorem A9 : ∀ w M, ((F8 fk).ty []).den w M (.slice none 0 0) := fun w M => Ty.tQ w M _ rfl
section
variable {fl : List bp} {a : List Int} {s : Int} {q : List (Int × Way)} {w : Way}
theorem EY {q : WQ} {k : Nat} (h : nth a k < (nth fl k).hi) : gZ q (nth fl k).src ((eS q (nth fl k).src).getD [] ++ [⟨k, true⟩]) = mg fl a q k := (if_pos h).symm
theorem FV {k : Nat} (h : nth a k > (nth fl k).lo) : gZ (mg fl a (eK fl a k) k) (nth fl k).dst ((eS (mg fl a (eK fl a k) k) (nth fl k).dst).getD [] ++ [⟨k, false⟩]) = eK fl a (k + 1) := (if_pos h).symm
theorem new_eq : (!(eS q (w.fin fl)).isSome && !decide (w.fin fl = s)) = uh fl s q w := rfl
end
theorem KH {α : Type} {E : El α} {T J : Nat} {l l' : List α} (e : l = l') : (Ty.eL E T J l).Sub (Ty.eL E T J l') := Ty.sub_eq (congrArg (Ty.eL E T J) e)
attribute [local irreducible] aR gm Way.gp Way.fin Way.room eK mg Eo dZ eY oy bH ew cM uh dc
attribute [local irreducible] g6 fS m8 qg iZ iT ij ia ig qM iS qR dY gb qd gV qV nth fU dR av dK bodyPost Exit.then Exit.inBlock Code.wp Code.wpIn fR qb qX qT iw qW qc iY fC cT cU bodyPostM dr
set_option maxRecDepth 100000 in
theorem IX (y : bA) (fl : List bp) (a : List Int) (h : lV y fl a) : fC Tryz.prog 184 [1000] [(1000, Cont.vec dD 3 a)] [Ty.pp (dx y fl 1000 fl.length)] [(1000, Cont.vec dD 3 a)] (Ty.pm KI.enc (F8 fk) (eK fl a fl.length)) := by
 refine fV Tryz.func184 rfl (by decide) Tryz.ntmps184 (by exact Nat.le_of_ble_eq_true rfl) fun w0 M0 => ?_
 have hal := h.inb.1
 have hfl := h.qL
 refine aE (aA (kE rfl (aD (aB (aE (aA (Cz KI.enc fk 199 6000 n9 rfl (Nw rfl (aD ?_)))))))))
 refine aB (aE (aE (aA (ji rfl (bh rfl ?_)))))
 refine aI rfl rfl rfl rfl rfl (by decide) ?_
 refine aG rfl rfl rfl rfl (b9 rfl rfl rfl (bI rfl (aD (aB (af ?_)))))
 refine cK (fun (k : {k : Nat // k ≤ fl.length}) => live [(0, Ty.pp (dx y fl 1000 fl.length)), (3, Ty.mp 7), (10, Ty.sl dW fl), (11, Ty.int .i64 fl.length), (12, Ty.int .i64 (k.1 : Nat))] [(1000, Cont.vec dD 3 a), (7, Cont.mr KI.enc fk 199 6000 (eK fl a k.1))]) (fun k => fl.length - k.1) (⟨0, by omega⟩) ?_ fun k => ?_
 ·(refine cv.mk' ?_ ?_ <;> (repeat' (first | exact aM | exact aL | refine aC ?_ (Ty.aV _) | refine aC ?_ (Ty.aF _) | refine aK rfl (Cont.aF _) ?_ | refine aK rfl ?_ ?_)))
  all_goals exact Cont.tC (Fl fl a)
 have hk := k.2
 refine aE (aA (bC rfl rfl rfl (aD (aB (aE ?_)))))
 refine az rfl (fun hc1 => ?_) (fun hc1 => ?_)
 ·
  refine aq (aB (aE (af (aE (aA (bI rfl ?_))))))
  refine ak rfl rfl rfl rfl rfl rfl (by omega) ?_
  refine aU rfl rfl rfl (by exact Nat.le_of_ble_eq_true rfl) ?_
  refine bu rfl (by exact List.cons_ne_nil _ _) rfl ?_
  refine bk rfl ?_
  refine bq rfl rfl (by decide) rfl rfl rfl rfl rfl rfl ?_
  refine aD (aB ?_)
  refine oq (J := live [(0, Ty.pp (dx y fl 1000 fl.length)), (3, Ty.mp 7), (4, Ty.int .i64 (k.1 : Nat)), (5, Ty.ptr 6 0), (10, Ty.sl dW fl), (11, Ty.int .i64 fl.length), (12, Ty.int .i64 (k.1 : Nat))] [(1000, Cont.vec dD 3 a), (7, Cont.mr KI.enc fk 199 6000 (mg fl a (eK fl a k.1) k.1)), (6, Cont.cells 187 (dW.tys (nth fl k.1)))]) ?_ ?_
  ·
   refine aE (cN mixed rfl (ji rfl (bh rfl ?_)))
   refine aI rfl rfl rfl rfl rfl (by decide) ?_
   refine aG rfl rfl rfl rfl (bI rfl ?_)
   refine cx rfl rfl rfl rfl rfl (by omega) ?_
   refine cX rfl rfl rfl (by decide) rfl rfl (by omega) rfl ?_
   refine aS rfl rfl rfl rfl rfl (by decide) ?_
   refine aX rfl rfl (by decide) rfl rfl rfl ?_
   refine bC rfl rfl rfl (aD ?_)
   refine ⟨by kernel_rfl, ?_⟩
   refine aB ?_
   refine az rfl (fun hc2 => ?_) (fun hc2 => ?_)
   ·
    have hq := fun c => yD (fl := fl) (a := a) (c := c) k.1
    have hq1 := hq (nth fl k.1).src
    refine cN mixed rfl (IQ rfl ?_)
    refine aS rfl rfl rfl rfl rfl (by decide) ?_
    refine aX rfl rfl (by decide) rfl rfl rfl ?_
    refine IQ rfl ?_
    refine aS rfl rfl rfl rfl rfl (by decide) ?_
    refine aX rfl rfl (by decide) rfl rfl rfl ?_
    refine yR KI rfl rfl (by decide) rfl (ue _) n9 uw ?_
    refine bI rfl ?_
    refine dJ rfl rfl (by exact List.cons_ne_nil _ _) rfl (by repeat (first | exact (aW.nil : aW _ _ [] _) | (show aW _ _ ((_, _) :: _) _; apply aW.one; (· first | exact (rfl : _ = Ty.int _ _) | exact (rfl : _ = Ty.bool _)); (· exact rfl)))) (by exact (rfl : _ = some [_, _])) ?_
    refine bg (E := fk) (xs := [⟨k.1, true⟩]) rfl rfl rfl rfl rfl (by decide) (by decide) (by repeat (first | exact (aW.nil : aW _ _ [] _) | (show aW _ _ ((_, _) :: _) _; apply aW.agg; (· exact (rfl : _ = Ty.agg _))))) (by exact rfl) rfl ?_
    refine yp rfl rfl rfl (by decide) (by decide) rfl (by show 0 < 1; decide) rfl rfl rfl rfl rfl (by decide) (by show (((eS _ _).getD []).length + 1) * 16 ≤ _; unfold oI at hq1; omega) (by show ((eS _ _).getD []).length + 1 ≤ _; unfold oI at hq1; omega) ?_
    refine yy KI rfl rfl (by decide) rfl (ue _) rfl n9 rfl ?_
    refine aD ?_
    refine ⟨by kernel_rfl, ?_⟩
    refine gl ?_
    (refine cv.mk' ?_ ?_ <;> (repeat' (first | exact aM | exact aL | refine aC ?_ (Ty.aV _) | refine aC ?_ (Ty.aF _) | refine aK rfl (Cont.aF _) ?_ | refine aK rfl ?_ ?_)))
    all_goals exact Cont.tC (EY hc2)
   refine aq (gl ?_)
   (refine cv.mk' ?_ ?_ <;> (repeat' (first | exact aM | exact aL | refine aC ?_ (Ty.aV _) | refine aC ?_ (Ty.aF _) | refine aK rfl (Cont.aF _) ?_ | refine aK rfl ?_ ?_)))
   all_goals exact Cont.tC (Hx hc2)
  refine aE (cN mixed rfl (ji rfl (bh rfl ?_)))
  refine aI rfl rfl rfl rfl rfl (by decide) ?_
  refine aG rfl rfl rfl rfl (bI rfl ?_)
  refine cx rfl rfl rfl rfl rfl (by omega) ?_
  refine cX rfl rfl rfl (by decide) rfl rfl (by omega) rfl ?_
  refine aS rfl rfl rfl rfl rfl (by decide) ?_
  refine aX rfl rfl (by decide) rfl rfl rfl ?_
  refine bC rfl rfl rfl (aD ?_)
  refine ⟨by kernel_rfl, ?_⟩
  refine aB ?_
  refine az rfl (fun hc3 => ?_) (fun hc3 => ?_)
  ·
   have hq2 := FP (fl := fl) (a := a) (c := (nth fl k.1).dst) (k := k.1)
   refine cN mixed rfl (IQ rfl ?_)
   refine aS rfl rfl rfl rfl rfl (by decide) ?_
   refine aX rfl rfl (by decide) rfl rfl rfl ?_
   refine IQ rfl ?_
   refine aS rfl rfl rfl rfl rfl (by decide) ?_
   refine aX rfl rfl (by decide) rfl rfl rfl ?_
   refine yR KI rfl rfl (by decide) rfl (ue _) n9 uw ?_
   refine bI rfl ?_
   refine dJ rfl rfl (by exact List.cons_ne_nil _ _) rfl (by repeat (first | exact (aW.nil : aW _ _ [] _) | (show aW _ _ ((_, _) :: _) _; apply aW.one; (· first | exact (rfl : _ = Ty.int _ _) | exact (rfl : _ = Ty.bool _)); (· exact rfl)))) (by exact (rfl : _ = some [_, _])) ?_
   refine bg (E := fk) (xs := [⟨k.1, false⟩]) rfl rfl rfl rfl rfl (by decide) (by decide) (by repeat (first | exact (aW.nil : aW _ _ [] _) | (show aW _ _ ((_, _) :: _) _; apply aW.agg; (· exact (rfl : _ = Ty.agg _))))) (by exact rfl) rfl ?_
   refine yp rfl rfl rfl (by decide) (by decide) rfl (by show 0 < 1; decide) rfl rfl rfl rfl rfl (by decide) (by show (((eS _ _).getD []).length + 1) * 16 ≤ _; unfold oI at hq2; omega) (by show ((eS _ _).getD []).length + 1 ≤ _; unfold oI at hq2; omega) ?_
   refine yy KI rfl rfl (by decide) rfl (ue _) rfl n9 rfl ?_
   refine aD ?_
   refine ⟨by kernel_rfl, ?_⟩
   refine bM (aB (aA ?_))
   refine b8 rfl rfl (by omega) (by omega) ?_
   refine bI rfl (aD ?_)
   refine bO (⟨k.1 + 1, by omega⟩) ?_ (by show fl.length - (k.1 + 1) < fl.length - k.1; omega)
   (refine cv.mk' ?_ ?_ <;> (repeat' (first | exact aM | exact aL | refine aC ?_ (Ty.aV _) | refine aC ?_ (Ty.aF _) | refine aK rfl (Cont.aF _) ?_ | refine aK rfl ?_ ?_)))
   all_goals skip
   all_goals exact Cont.tC (FV hc3)
  refine aq (bM (aB (aA ?_)))
  refine b8 rfl rfl (by omega) (by omega) ?_
  refine bI rfl (aD ?_)
  refine bO (⟨k.1 + 1, by omega⟩) ?_ (by show fl.length - (k.1 + 1) < fl.length - k.1; omega)
  (refine cv.mk' ?_ ?_ <;> (repeat' (first | exact aM | exact aL | refine aC ?_ (Ty.aV _) | refine aC ?_ (Ty.aF _) | refine aK rfl (Cont.aF _) ?_ | refine aK rfl ?_ ?_)))
  all_goals skip
  all_goals exact Cont.tC (Gw hc3)
 refine cI (aP (aP (aj rfl (aB (aE ?_)))))
 refine g8 (tg := 7) rfl (Cont.tC (show eK fl a k.1 = eK fl a fl.length by rw [show k.1 = fl.length by have := k.2; omega])) ?_
 refine pJ (tg := 6000) [] [(7, Cont.mp KI.enc (F8 fk) (eK fl a fl.length))] (by decide) rfl trivial ⟨Kg rfl rfl, trivial⟩ ?_
 refine jO (tg := 7) [(3, Ty.pm KI.enc (F8 fk) (eK fl a fl.length))] (by decide) rfl ⟨Lq rfl rfl (by decide), trivial⟩ ?_
 refine aA (Lt rfl (MU rfl (aD (aB (ay ?_)))))
 refine iQ [1000] rfl rfl (by decide) (by repeat (first | exact gR | refine fM rfl (cG (by decide) rfl) ?_)) ?_
 all_goals exact hU (aT rfl rfl)
set_option maxRecDepth 100000 in
theorem Jc (y : bA) (fl : List bp) (a : List Int) (h : lV y fl a) (s : Int) (hs : 0 ≤ s ∧ s < (y.cells + 1 : Nat)) : fC Tryz.prog 130 [1000] [(1000, Cont.vec dD 3 a)] [Ty.pp (dx y fl 1000 fl.length), Ty.int .i64 s] [(1000, Cont.vec dD 3 a), (16, Cont.mp KI.enc zE (cM fl a s))] (Ty.mp 16) := by
 refine fV Tryz.func130 rfl (by decide) Tryz.ntmps130 (by exact Nat.le_of_ble_eq_true rfl) fun w0 M0 => ?_
 have hal := h.inb.1
 have hN := h.net
 have hcl := nE h.right
 refine aE (aA (kE rfl (aD (aB (aE (aA (E4 KI.enc zE nh rfl (Nw rfl (aD ?_)))))))))
 refine aB (aE (aA (ji rfl ?_)))
 refine dI [(1000, 1000)] [] [(1000, Cont.vec dD 3 a)] (IX y fl a h) rfl rfl (aN bW (ep (aN (aN (aN (aN (aN (aN bW (eW (by exact List.mem_cons_self))) (aT rfl rfl)) (aT rfl rfl)) (aT rfl rfl)) (aT rfl rfl)) (aT rfl rfl)))) (dN (a := 1000) (b := 1000) (by exact List.mem_cons_self) rfl (cG (by exact List.mem_cons_self) rfl) pre_nil) (cA (a := 1000) (b := 1000) (by exact List.mem_cons_self) rfl (cG (by exact List.mem_cons_self) rfl) post_nil) (aT rfl rfl) ?_
 refine MU rfl (aD (aB (aE (aA (bI rfl ?_)))))
 refine uD (E := dD) (xs := [s]) rfl rfl rfl rfl rfl (by decide) (by decide) (by repeat (first | exact (aW.nil : aW _ _ [] _) | (show aW _ _ ((_, _) :: _) _; apply aW.one; (· exact (rfl : _ = Ty.int _ _)); (· exact rfl)))) (by exact rfl) rfl rfl ?_
 refine AK rfl (aD (aB (aE ?_)))
 refine MR (s := 7) (J := 4100) (tg := 20) rfl rfl (by decide) (by decide) rfl ?_
 refine af ?_
 refine cK (fun (x : {x : qn // Ke fl a (y.cells + 1) s x}) => live [(0, Ty.pp (dx y fl 1000 fl.length)), (1, Ty.int .i64 s), (5, Ty.mp 16), (6, Ty.pm KI.enc (F8 fk) (eK fl a fl.length)), (7, Ty.eL dD 3 4100 x.1.queue)] [(1000, Cont.vec dD 3 a), (16, Cont.mp KI.enc zE x.1.by_)]) (fun x => MM (y.cells + 1) x.1) (⟨⟨[], [s]⟩, N9 hs⟩) ?_ fun x => ?_
 ·(refine cv.mk' ?_ ?_ <;> (repeat' (first | exact aM | exact aL | refine aC ?_ (Ty.aV _) | refine aC ?_ (Ty.aF _) | refine aK rfl (Cont.aF _) ?_)))
 refine aE (aE (aA ?_))
 refine eA (rfl : _ = Ty.eL _ _ _ _) ?_
 refine MA rfl rfl rfl (bC rfl rfl rfl (aD (aB ?_)))
 refine az rfl (fun hc1 => ?_) (fun hc1 => ?_)
 ·
  refine aq (aB (af (aE ?_)))
  have hlen : 0 < x.1.queue.length := by omega
  refine aA ?_
  refine eA (rfl : _ = Ty.eL _ _ _ _) ?_
  refine GS (i := 0) rfl rfl rfl rfl rfl rfl hlen ?_
  refine fT rfl rfl rfl rfl (bk rfl (aD (aB (aE (aA ?_)))))
  refine eA (rfl : _ = Ty.eL _ _ _ _) ?_
  refine Lw (lo := 1) rfl rfl rfl rfl rfl rfl hlen hlen ?_
  refine gQ (rfl : _ = Ty.eL _ _ _ _) ?_
  refine aD (aB (aE ?_))
  refine iU (s := 8) rfl (Ty.bU (show nth x.1.queue 0 = dc x.1 by unfold dc; rfl)) ?_
  refine aA (Lt rfl (bI rfl ?_))
  refine y4 KI (z0 := []) rfl rfl (ue _) n9 uw A9 ?_
  refine b9 (E := fk) (xs := oI (eK fl a fl.length) (dc x.1)) rfl rfl rfl ?_
  refine bI rfl (aD (aB ?_))
  refine iU (s := 30) rfl (show (Ty.sl fk (oI (eK fl a fl.length) (dc x.1))).Sub (Ty.sl fk (bH fl a (dc x.1))) from Ty.qt r5) ?_
  refine iU (s := 31) rfl (Ty.bU (congrArg (fun l : List Way => ((l.length : Nat) : Int)) (r5 (c := dc x.1)))) ?_
  refine af ?_
  refine cK (fun (j : {j : Nat // j ≤ (bH fl a (dc x.1)).length}) => live [(0, Ty.pp (dx y fl 1000 fl.length)), (1, Ty.int .i64 s), (5, Ty.mp 16), (6, Ty.pm KI.enc (F8 fk) (eK fl a fl.length)), (7, Ty.eL dD 3 4100 (ew fl a s (dc x.1) (jk x.1) j.1).queue), (8, Ty.int .i64 (dc x.1)), (30, Ty.sl fk (bH fl a (dc x.1))), (31, Ty.int .i64 (bH fl a (dc x.1)).length), (32, Ty.int .i64 (j.1 : Nat))] [(1000, Cont.vec dD 3 a), (16, Cont.mp KI.enc zE (ew fl a s (dc x.1) (jk x.1) j.1).by_)]) (fun j => (bH fl a (dc x.1)).length - j.1) (⟨0, by omega⟩) ?_ fun j => ?_
  ·(refine cv.mk' ?_ ?_ <;> (repeat' (first | exact aM | exact aL | refine aC ?_ (Ty.aV _) | refine aC ?_ (Ty.aF _) | refine aK rfl (Cont.aF _) ?_ | refine aK rfl ?_ ?_ | refine aC ?_ ?_)))
   all_goals first | exact KH (congrArg qn.queue (wQ (fl := fl) (a := a) (s := s) (c := dc x.1) (z := jk x.1)).symm) | exact Cont.vg (show x.1.by_ = (ew fl a s (dc x.1) (jk x.1) 0).by_ by rw [wQ]; rfl)
  have hj := j.2
  have hwl := pF (fl := fl) (a := a) (c := dc x.1)
  have hfl := h.qL
  have hff := x.2.fold hN hlen hj
  refine aE (aA (bC rfl rfl rfl (aD (aB (aE ?_)))))
  refine az rfl (fun hc2 => ?_) (fun hc2 => ?_)
  ·
   refine aq (aB (aE (af (aE (aA ?_)))))
   refine ak rfl rfl rfl rfl rfl rfl (by omega) ?_
   refine aU rfl rfl rfl (by exact Nat.le_of_ble_eq_true rfl) ?_
   refine bu rfl (by exact List.cons_ne_nil _ _) rfl ?_
   refine bq rfl rfl (by decide) rfl rfl rfl rfl rfl rfl ?_
   refine aD (aB (aE ?_))
   have hwj := (mZ.1 (cR (xs := bH fl a (dc x.1)) (k := j.1) (by omega))).1
   refine aA (ji rfl ?_)
   refine bf rfl rfl (by decide) rfl rfl (by exact Nat.le_of_ble_eq_true rfl) ?_
   refine eM [1000] (Dx y fl a h (nth (bH fl a (dc x.1)) j.1) hwj.1) rfl (aY (kO (aY (bV (bR rfl rfl)) (aY (bV (bR rfl rfl)) (aY (bV (bR rfl rfl)) (aY (bV (bR rfl rfl)) (aY (bV (bR rfl rfl)) (aY (jY rfl hal (by decide) rfl) cY))))))) (aY (bV (bR rfl rfl)) cY)) (by exact j9 (by repeat (first | exact jw | refine jB (by exact c6 _ _) ?_))) ?_
   refine sn rfl (bP rfl rfl (bP rfl rfl (bk rfl (bk rfl (aD (aB (aE (aA (IQ rfl ?_)))))))))
   refine bI rfl ?_
   refine x7 KI (k := (nth (bH fl a (dc x.1)) j.1).fin fl) (z0 := (default : Way)) rfl rfl (by decide) rfl (ue _) nh rS oQ ?_
   refine sn rfl (bP rfl rfl (bP rfl rfl ?_))
   refine bu rfl (by exact List.cons_ne_nil _ _) rfl ?_
   refine bq rfl rfl (by decide) rfl rfl rfl rfl rfl rfl ?_
   refine cj rfl (aD (aB (aE (aA (e8 rfl (dX rfl (e8 rfl ?_)))))))
   apply aJ (s := 50) rfl rfl rfl
   ·intro hg; apply aO; (refine bI rfl ?_); refine aD ?_; exact rfl
   ·exact rfl
   ·exact rfl
   apply aJ (s := 50) rfl rfl rfl
   ·intro hg; apply aO; (refine bI rfl ?_); refine aD ?_; exact rfl
   ·exact rfl
   ·exact rfl
   apply aJ (s := 50) rfl rfl rfl
   ·intro hg; apply aH (s := 51) rfl (by (rw [hg]; rfl)); apply aH (s := 52) rfl (by (rw [hg]; rfl)); apply aO; (refine bC rfl rfl rfl ?_); refine aD ?_; exact rfl
   ·exact rfl
   ·exact rfl
   refine eC rfl rfl (aD (aB ?_))
   refine bt rfl (fun hc3 => ?_) (fun hc3 => ?_)
   ·
    refine aE (aA (IQ rfl (bI rfl ?_)))
    refine bf rfl rfl (by decide) rfl rfl (by exact Nat.le_of_ble_eq_true rfl) ?_
    refine BL KI (k := (nth (bH fl a (dc x.1)) j.1).fin fl) (v := nth (bH fl a (dc x.1)) j.1) rfl rfl (by decide) rfl (ue _) rfl rfl nh ?_
    refine aD (aB (aA ?_))
    refine eA (rfl : _ = Ty.eL _ _ _ _) ?_
    refine bI rfl ?_
    refine bg (E := dD) (xs := [_]) rfl rfl rfl rfl rfl (by decide) (by decide) (by repeat (first | exact (aW.nil : aW _ _ [] _) | (show aW _ _ ((_, _) :: _) _; apply aW.one; (· exact (rfl : _ = Ty.int _ _)); (· exact rfl)))) (by exact rfl) rfl ?_
    refine FJ rfl rfl (by decide) rfl (by show 0 < 1; decide) rfl rfl rfl rfl rfl (by decide) (by show (_ + 1) * 8 ≤ _; omega) (by show _ + 1 ≤ _; omega) ?_
    refine gQ (rfl : _ = Ty.eL _ _ _ _) ?_
    refine aD (bM (aB (aA ?_)))
    refine b8 rfl rfl (by omega) (by omega) ?_
    refine bI rfl (aD ?_)
    refine bO (⟨j.1 + 1, by omega⟩) ?_ (by show (bH fl a (dc x.1)).length - (j.1 + 1) < (bH fl a (dc x.1)).length - j.1; omega)
    (refine cv.mk' ?_ ?_ <;> (repeat' (first | exact aM | exact aL | refine aC ?_ (Ty.aV _) | refine aC ?_ (Ty.aF _) | refine aK rfl (Cont.aF _) ?_ | refine aK rfl ?_ ?_ | refine aC ?_ ?_)))
    all_goals skip
    all_goals first | exact KH (y8 (by omega) (by rw [← new_eq]; exact hc3)).2 | exact Cont.vg (y8 (by omega) (by rw [← new_eq]; exact hc3)).1
   refine aq (bM (aB (aA ?_)))
   refine b8 rfl rfl (by omega) (by omega) ?_
   refine bI rfl (aD ?_)
   refine bO (⟨j.1 + 1, by omega⟩) ?_ (by show (bH fl a (dc x.1)).length - (j.1 + 1) < (bH fl a (dc x.1)).length - j.1; omega)
   (refine cv.mk' ?_ ?_ <;> (repeat' (first | exact aM | exact aL | refine aC ?_ (Ty.aV _) | refine aC ?_ (Ty.aF _) | refine aK rfl (Cont.aF _) ?_ | refine aK rfl ?_ ?_ | refine aC ?_ ?_)))
   all_goals skip
   all_goals first | exact KH (CE (by omega) (by rw [← new_eq]; exact hc3)).2 | exact Cont.vg (CE (by omega) (by rw [← new_eq]; exact hc3)).1
  refine cI (aP (aP (aj rfl (bM ?_))))
  refine bO (⟨ew fl a s (dc x.1) (jk x.1) (bH fl a (dc x.1)).length, (x.2.next hN hlen).1⟩) ?_ (by exact (x.2.next hN hlen).2)
  (refine cv.mk' ?_ ?_ <;> (repeat' (first | exact aM | exact aL | refine aC ?_ (Ty.aV _) | refine aC ?_ (Ty.aF _) | refine aK rfl (Cont.aF _) ?_ | refine aK rfl ?_ ?_ | refine aC ?_ ?_)))
  all_goals skip
  all_goals first | exact KH (congrArg (fun n => (ew fl a s (dc x.1) (jk x.1) n).queue) (show j.1 = _ by have := j.2; omega)) | exact Cont.vg (congrArg (fun n => (ew fl a s (dc x.1) (jk x.1) n).by_) (show j.1 = _ by have := j.2; omega))
 refine cI (aP (aP (aj rfl (aB (aE ?_)))))
 refine g8 (tg := 16) rfl (Cont.vg (x.2.end (by omega))) ?_
 refine aA (IQ rfl (Nw rfl (aD (aB (ay ?_)))))
 refine iQ [1000, 16] rfl rfl (by decide) (by repeat (first | exact gR | refine fM rfl (cG (by decide) rfl) ?_ | refine fM rfl (LA (by decide) rfl) ?_)) ?_
 all_goals skip
 all_goals exact hU (K7 (by decide))
end Go.Proofs.YtelbollidfdcjaaGreat
namespace Go.Proofs.YtelbollidfdcjaaGreat
open Go Go.T
section
variable {fl : List bp} {a : List Int} {n : Nat} {q : List (Int × Way)}
theorem Cr {n k : Nat} (h : k ≤ n) : (List.range n).take k = List.range k := by
 rw [List.take_range, Nat.min_eq_left h]
theorem Js {j : Nat} (hj : j < n) (h : ∀ i, i < j → jN fl a q i = false) (hc : jN fl a q j = true) : (j : Int) = eJ fl a n q := by
 unfold eJ
 refine (gk (by rw [List.length_range]; exact hj) (fun x hx => ?_) ?_).symm
 ·rw [Cr (by omega)] at hx
  exact h x (List.mem_range.1 hx)
 rw [List.getElem_range]; exact hc
theorem HD {j : Nat} (hj : n ≤ j) (h : ∀ i, i < j → jN fl a q i = false) : -1 = eJ fl a n q := by
 unfold eJ
 refine (iP fun x hx => ?_).symm
 exact h x (by have := List.mem_range.1 hx; omega)
theorem By {j : Nat} (hj : j < n) : ((eS q (j : Int)).isSome && decide (nth (gT fl a n) j < 0)) = jN fl a q j := by
 unfold jN; rw [tL hj]
theorem I2 (hl : fl.length ≤ 34) (ha : ∀ i, i < fl.length → 0 ≤ nth a i ∧ nth a i ≤ 300) (c : Int) : -10200 ≤ over fl a c ∧ over fl a c ≤ 10200 := by
 have h := xZ (fl := fl) (a := a) (c := c) (k := fl.length) ha
 have e : oy fl a fl.length c = over fl a c := rfl
 rw [e] at h; omega
theorem vL (m : Int) (fl : List bp) (a : List Int) : m = ef fl a m [] := rfl
theorem F1 {s t : Int} {l : List Way} (e : l = gu fl (cM fl a s) s t) : dZ a l (ef fl a (min (over fl a s) (-over fl a t)) l) = kI fl a s t := by subst e; rfl
end
end Go.Proofs.YtelbollidfdcjaaGreat
namespace Go.Proofs.YtelbollidfdcjaaGreat
open Go Go.T
set_option maxHeartbeats 16000000
structure Gd (y : bA) (fl : List bp) (a : List Int) : Prop where
  right : y.cZ
  net : Net fl (y.cells + 1)
  bd : Bd fl
  inb : g5 fl = true → xP fl a
  qL : fl.length ≤ 34
section
variable {y : bA} {fl : List bp} {a : List Int} {n : Nat}
theorem zX (h : (!fl.all fun f => decide (f.lo ≤ f.hi)) = true) : g5 fl = false := mq h
theorem ni (h : (!fl.all fun f => decide (f.lo ≤ f.hi)) = false) : g5 fl = true := e9 h
theorem Mg (h : g5 fl = false) : 0 = (cP fl n a).1 ∧ true = (cP fl n a).2.1 ∧ a = (cP fl n a).2.2 := by rw [yK h]; exact ⟨rfl, rfl, rfl⟩
theorem MW {b : List Int} (h : g5 fl = true) (hx : I8 fl n a b) (e : dP fl b n < 0) : 0 = (cP fl n a).1 ∧ false = (cP fl n a).2.1 ∧ b = (cP fl n a).2.2 := by rw [nW h, hx.done e]; exact ⟨rfl, rfl, rfl⟩
theorem Ma {b : List Int} (h : g5 fl = true) (hx : I8 fl n a b) (e : ¬ dP fl b n < 0) (e2 : eJ fl b n (cM fl b (dP fl b n)) < 0) : dP fl b n = (cP fl n a).1 ∧ true = (cP fl n a).2.1 ∧ b = (cP fl n a).2.2 := by rw [nW h, hx.stuck e e2]; exact ⟨rfl, rfl, rfl⟩
theorem OI (h : xP fl a) : I8 fl n a a := ⟨h, rfl⟩
theorem KB {x z : Int} (h1 : 0 < x) (h2 : z < 0) : 0 < min x (-z) := by omega
theorem has_eq : fidx (fun v : Int => decide (v > 0)) (gT fl a n) = dP fl a n := rfl
theorem H7 (m x : Int) : fm m [x] = min m x := rfl
theorem vK {m : Int} {l : List Way} {w : Way} : fm (ef fl a m l) [w.room fl a] = ef fl a m (l ++ [w]) := (H7 _ _).trans (qz m l).symm
theorem Dc {k : Int} (h : 0 ≤ k ∧ k < n) : nth (gT fl a n) k.toNat = over fl a k := by rw [tL (by omega)]; congr 1; omega
theorem Gb {x : Int} (h : -20000 ≤ x ∧ x ≤ 20000) : IntKind.i64.wrap (0 - x) = -x := by rw [show (0 : Int) - x = -x by omega]; exact IntWalk.i64_in _ (by omega)
end
attribute [local irreducible] aR gm Way.gp Way.fin Way.room eK dZ eY gT over bH cM dP eJ jN ef gu kI cP gM fm
attribute [local irreducible] g6 fS m8 qg iZ iT ij ia ig qM iS qR dY gb qd gV qV nth fU dR av dK bodyPost Exit.then Exit.inBlock Code.wp Code.wpIn fR qb qX qT iw qW qc iY fC cT cU bodyPostM dr
set_option maxRecDepth 100000 in
theorem F3 (f : bp) : dK Tryz.prog 177 [Ty.agg (dW.tys f)] (Ty.bool (decide (f.lo ≤ f.hi))) := by
 refine aa Tryz.func177 rfl (by decide) Tryz.ntmps177 (by exact Nat.le_of_ble_eq_true rfl) fun w0 M0 => ?_
 refine aE (aA (bD rfl (cj rfl (aD (aB (aE (aA ?_)))))))
 refine aI rfl rfl rfl rfl rfl (by decide) ?_
 refine aG rfl rfl rfl rfl ?_
 refine aI rfl rfl rfl rfl rfl (by decide) ?_
 refine aG rfl rfl rfl rfl (bC rfl rfl rfl (cj rfl (aD (aB (ay (bJ rfl rfl ?_))))))
 all_goals exact bY rfl rfl
set_option maxRecDepth 100000 in
theorem Gq (v : Int) : dK Tryz.prog 179 [Ty.int .i64 v] (Ty.bool (decide (v > 0))) := by
 refine aa Tryz.func179 rfl (by decide) Tryz.ntmps179 (by exact Nat.le_of_ble_eq_true rfl) fun w0 M0 => ?_
 refine aE (aA (cj rfl (aD (aB (aE (aA (bI rfl (bC rfl rfl rfl (cj rfl ?_)))))))))
 refine aD (aB (ay (bJ rfl rfl ?_)))
 all_goals exact bY rfl rfl
set_option maxRecDepth 100000 in
theorem J0 (y : bA) (fl : List bp) (a : List Int) (h : Gd y fl a) : fC Tryz.prog 129 [1000] [(1000, Cont.vec dD 3 a)] [Ty.pp (dx y fl 1000 fl.length)] [(1000, Cont.vec dD 3 (cP fl (y.cells + 1) a).2.2)] (Ty.kD [Ty.int .i64 (cP fl (y.cells + 1) a).1, Ty.bool (cP fl (y.cells + 1) a).2.1]) := by
 refine fV Tryz.func129 rfl (by decide) Tryz.ntmps129 (by exact Nat.le_of_ble_eq_true rfl) fun w0 M0 => ?_
 have hcl := nE h.right
 have hfl := h.qL
 have hN := h.net
 refine aE (aA (bk rfl (cj rfl (aD (aB (aE (aE (aA (ji rfl ?_)))))))))
 refine bh rfl ?_
 refine aI rfl rfl rfl rfl rfl (by decide) ?_
 refine aG rfl rfl rfl rfl ?_
 refine aZ (AX fl (Ty.jD _ []) rfl (fun f => decide (f.lo ≤ f.hi)) rfl rfl fun f _ => c9 (F3 f) rfl rfl rfl rfl rfl rfl) rfl rfl rfl rfl rfl ?_
 refine dX rfl (aD (aB ?_))
 refine bt rfl (fun hc1 => ?_) (fun hc1 => ?_)
 ·
  refine aE (aA (bk rfl (cj rfl (aD (aB (ay (aQ ?_)))))))
  refine zy [1000] rfl rfl rfl (by decide) ?_ ?_ ?_
  ·exact fM rfl (cG (by decide) (Mg (zX hc1)).2.2) gR
  all_goals skip
  all_goals first | exact hU (oP rfl rfl (congrArg (Ty.int .i64) (Mg (zX hc1)).1)) | exact hU (oP rfl rfl (congrArg Ty.bool (Mg (zX hc1)).2.1))
 refine aq (aB (af ?_))
 refine cK (fun (x : {b : List Int // I8 fl (y.cells + 1) a b}) => live [(0, Ty.pp (dx y fl 1000 fl.length))] [(1000, Cont.vec dD 3 x.1)]) (fun x => NM fl (y.cells + 1) x.1) (⟨a, OI (h.inb (ni hc1))⟩) ?_ fun x => ?_
 ·(refine cv.mk' ?_ ?_ <;> (repeat' (first | exact aM | exact aL | refine aC ?_ (Ty.aV _) | refine aC ?_ (Ty.aF _) | refine aK rfl (Cont.aF _) ?_)))
 have hF : lV y fl x.1 := ⟨h.right, h.net, h.bd, x.2.inb, h.qL⟩
 have hal := hF.inb.1
 have hov := I2 h.qL fun i hi => (hF.MG hi).1
 have hol : (gT fl x.1 (y.cells + 1)).length = (y.cells + 1) := xj
 refine af (aE (aA (ji rfl ?_)))
 refine dI [(1000, 1000)] [] [(1000, Cont.vec dD 3 x.1)] (Lo y fl x.1 hF) rfl rfl (aN bW (ep (aN (aN (aN (aN (aN (aN bW (eW (by exact List.mem_cons_self))) (aT rfl rfl)) (aT rfl rfl)) (aT rfl rfl)) (aT rfl rfl)) (aT rfl rfl)))) (dN (a := 1000) (b := 1000) (by exact List.mem_cons_self) rfl (cG (by exact List.mem_cons_self) rfl) pre_nil) (cA (a := 1000) (b := 1000) (by decide) rfl (cG (by decide) rfl) post_nil) (aT rfl rfl) ?_
 refine xX rfl (aD (aB (aE (aA (ej rfl ?_)))))
 refine aZ (oH (gT fl x.1 (y.cells + 1)) (Ty.jD _ []) rfl (fun v => decide (v > 0)) rfl rfl fun v _ => c9 (Gq v) rfl rfl rfl rfl rfl rfl) rfl rfl rfl rfl rfl ?_
 refine bk rfl (aD (aB (aE (aE ?_))))
 refine iU (s := 5) rfl (Ty.bU (has_eq (fl := fl) (a := x.1) (n := (y.cells + 1)))) ?_
 refine aA (bI rfl (bC rfl rfl rfl (aD (aB ?_))))
 refine az rfl (fun hc2 => ?_) (fun hc2 => ?_)
 ·
  refine aE (aA (bk rfl (cj rfl (aD (aB (ay (aQ (au (aQ ?_)))))))))
  refine au ?_
  refine zy [1000] rfl rfl rfl (by decide) ?_ ?_ ?_
  ·exact fM rfl (cG (by decide) (MW (ni hc1) x.2 hc2).2.2) gR
  all_goals skip
  all_goals first | exact hU (oP rfl rfl (congrArg (Ty.int .i64) (MW (ni hc1) x.2 hc2).1)) | exact hU (oP rfl rfl (congrArg Ty.bool (MW (ni hc1) x.2 hc2).2.1))
 refine aq (aB (aE ?_))
 obtain ⟨s, s1, s2, s3⟩ := vq hc2
 have hs : 0 ≤ (dP fl x.1 (y.cells + 1)) ∧ (dP fl x.1 (y.cells + 1)) < ((y.cells + 1) : Nat) := by omega
 refine aA (ji rfl (bI rfl ?_))
 refine dI (res' := Ty.mp 32) [(1000, 1000), (32, 16)] [32] [(1000, Cont.vec dD 3 x.1), (32, Cont.mp KI.enc zE (cM fl x.1 (dP fl x.1 (y.cells + 1))))] (Jc y fl x.1 hF (dP fl x.1 (y.cells + 1)) hs) rfl rfl (aN (aN bW (aT rfl rfl)) (ep (aN (aN (aN (aN (aN (aN bW (eW (by exact List.mem_cons_self))) (aT rfl rfl)) (aT rfl rfl)) (aT rfl rfl)) (aT rfl rfl)) (aT rfl rfl)))) (dN (a := 1000) (b := 1000) (by exact List.mem_cons_self) rfl (cG (by exact List.mem_cons_self) rfl) pre_nil) (cA (a := 1000) (b := 1000) (by decide) rfl (cG (by decide) rfl) (cA (a := 32) (b := 16) (by decide) rfl (LA (by decide) rfl) post_nil)) (K7 (by decide)) ?_
 refine Nw rfl (aD (aB (aE (aA (bk rfl (aD (aB ?_)))))))
 refine oq (J := live [(0, Ty.pp (dx y fl 1000 fl.length)), (4, Ty.sl dD (gT fl x.1 (y.cells + 1))), (5, Ty.int .i64 (dP fl x.1 (y.cells + 1))), (6, Ty.mp 32), (7, Ty.int .i64 (eJ fl x.1 (y.cells + 1) (cM fl x.1 (dP fl x.1 (y.cells + 1)))))] [(1000, Cont.vec dD 3 x.1), (32, Cont.mp KI.enc zE (cM fl x.1 (dP fl x.1 (y.cells + 1))))]) ?_ ?_
 ·
  refine aE (aA (ej rfl (b9 rfl rfl rfl (bI rfl (aD (aB (af ?_)))))))
  refine cK (fun (j : {j : Nat // j ≤ (y.cells + 1) ∧ ∀ i, i < j → jN fl x.1 (cM fl x.1 (dP fl x.1 (y.cells + 1))) i = false}) => live [(0, Ty.pp (dx y fl 1000 fl.length)), (4, Ty.sl dD (gT fl x.1 (y.cells + 1))), (5, Ty.int .i64 (dP fl x.1 (y.cells + 1))), (6, Ty.mp 32), (7, Ty.int .i64 (-1)), (32, Ty.sl dD (gT fl x.1 (y.cells + 1))), (33, Ty.int .i64 (gT fl x.1 (y.cells + 1)).length), (34, Ty.int .i64 (j.1 : Nat))] [(1000, Cont.vec dD 3 x.1), (32, Cont.mp KI.enc zE (cM fl x.1 (dP fl x.1 (y.cells + 1))))]) (fun j => (y.cells + 1) - j.1) (⟨0, Nat.zero_le _, fun i hi => absurd hi (Nat.not_lt_zero i)⟩) ?_ fun j => ?_
  ·(refine cv.mk' ?_ ?_ <;> (repeat' (first | exact aM | exact aL | refine aC ?_ (Ty.aV _) | refine aC ?_ (Ty.aF _) | refine aK rfl (Cont.aF _) ?_)))
  have hj := j.2.1
  refine aE (aA (bC rfl rfl rfl (aD (aB (aE ?_)))))
  refine az rfl (fun hc3 => ?_) (fun hc3 => ?_)
  ·
   refine aq (aB (aE (af (aE (aA (bI rfl ?_))))))
   refine ak rfl rfl rfl rfl rfl rfl (by omega) ?_
   refine aG rfl rfl rfl rfl (bk rfl (bk rfl (aD (aB (aE (aA (IQ rfl (bI rfl ?_))))))))
   refine x7 KI (k := ((j.1 : Nat) : Int)) (z0 := (default : Way)) rfl rfl (by decide) rfl (ue _) nh rS oQ ?_
   refine sn rfl (bP rfl rfl (bP rfl rfl ?_))
   refine bu rfl (by exact List.cons_ne_nil _ _) rfl ?_
   refine bq rfl rfl (by decide) rfl rfl rfl rfl rfl rfl ?_
   refine cj rfl (aD (aB (aE (aA (e8 rfl (e8 rfl ?_))))))
   apply aJ (s := 46) rfl rfl rfl
   ·intro hg; apply aO; (refine bI rfl ?_); refine aD ?_; exact rfl
   ·exact rfl
   ·exact rfl
   apply aJ (s := 46) rfl rfl rfl
   ·intro hg; apply aH (s := 47) rfl (by (rw [hg]; rfl)); apply aO; (refine bC rfl rfl rfl ?_); refine aD ?_; exact rfl
   ·exact rfl
   ·exact rfl
   refine eC rfl rfl (aD (aB ?_))
   refine bt rfl (fun hc4 => ?_) (fun hc4 => ?_)
   ·
    refine aE (aA (bI rfl (bk rfl (aD (aB (cI (gG rfl (aP (aP ?_)))))))))
    refine aj rfl (gl ?_)
    (refine cv.mk' ?_ ?_ <;> (repeat' (first | exact aM | exact aL | refine aC ?_ (Ty.aV _) | refine aC ?_ (Ty.aF _) | refine aK rfl (Cont.aF _) ?_ | refine aC ?_ ?_)))
    all_goals exact Ty.bU (Js (by omega) j.2.2 (by rw [← By (n := (y.cells + 1)) (by omega)]; exact hc4))
   refine aq (bM (aB (aA ?_)))
   refine b8 rfl rfl (by omega) (by omega) ?_
   refine bI rfl (aD ?_)
   refine bO (⟨j.1 + 1, by omega, fun i hi => by by_cases e : i = j.1; (subst e; rw [← By (n := (y.cells + 1)) (by omega)]; exact hc4); exact j.2.2 i (by omega)⟩) ?_ (by show (y.cells + 1) - (j.1 + 1) < (y.cells + 1) - j.1; omega)
   (refine cv.mk' ?_ ?_ <;> (repeat' (first | exact aM | exact aL | refine aC ?_ (Ty.aV _) | refine aC ?_ (Ty.aF _) | refine aK rfl (Cont.aF _) ?_)))
   all_goals skip
  refine cI (aP (aP (aj rfl (gl ?_))))
  (refine cv.mk' ?_ ?_ <;> (repeat' (first | exact aM | exact aL | refine aC ?_ (Ty.aV _) | refine aC ?_ (Ty.aF _) | refine aK rfl (Cont.aF _) ?_ | refine aC ?_ ?_)))
  all_goals exact Ty.bU (HD (by omega) j.2.2)
 refine aE (aE (aA (bI rfl (bC rfl rfl rfl (aD (aB ?_))))))
 refine az rfl (fun hc5 => ?_) (fun hc5 => ?_)
 ·
  refine aE (aA (bI rfl (bk rfl (cj rfl (aD (aB (ay (aQ (au ?_)))))))))
  refine aQ (au ?_)
  refine zy [1000] rfl rfl rfl (by decide) ?_ ?_ ?_
  ·exact fM rfl (cG (by decide) (Ma (ni hc1) x.2 hc2 hc5).2.2) gR
  all_goals skip
  all_goals first | exact hU (oP rfl rfl (congrArg (Ty.int .i64) (Ma (ni hc1) x.2 hc2 hc5).1)) | exact hU (oP rfl rfl (congrArg Ty.bool (Ma (ni hc1) x.2 hc2 hc5).2.1))
 refine aq (aB (aE ?_))
 obtain ⟨t, t1, t2, t3, t4⟩ := s7 hc5
 have hnx := x.2.next hN hc2 hc5
 have hR := qw (a := x.1) hN hs
 obtain ⟨dep, d0, hd⟩ := hR.arc
 have hmet : xM (cM fl x.1 (dP fl x.1 (y.cells + 1))) (dP fl x.1 (y.cells + 1)) (eJ fl x.1 (y.cells + 1) (cM fl x.1 (dP fl x.1 (y.cells + 1)))) := by rw [t2]; obtain ⟨v, hv⟩ := Option.isSome_iff_exists.1 t3; exact .inr (mP hv)
 have ht : 0 ≤ (eJ fl x.1 (y.cells + 1) (cM fl x.1 (dP fl x.1 (y.cells + 1)))) ∧ (eJ fl x.1 (y.cells + 1) (cM fl x.1 (dP fl x.1 (y.cells + 1)))) < ((y.cells + 1) : Nat) := by omega
 have ho1 := hov (dP fl x.1 (y.cells + 1))
 have ho2 := hov (eJ fl x.1 (y.cells + 1) (cM fl x.1 (dP fl x.1 (y.cells + 1))))
 have hdq : dep (eJ fl x.1 (y.cells + 1) (cM fl x.1 (dP fl x.1 (y.cells + 1)))) ≤ 21 := by
  obtain ⟨v, hv⟩ := Option.isSome_iff_exists.1 t3
  have h1 := (hd _ _ hv).2.2.2.2
  have h2 := hR.qL
  rw [t2]; omega
 refine aA (kE rfl (aD (aB (aE ?_))))
 have hoa := Dc (fl := fl) (a := x.1) (n := (y.cells + 1)) hs
 have hob := Dc (fl := fl) (a := x.1) (n := (y.cells + 1)) ht
 refine cN mixed rfl (ej rfl (bI rfl ?_))
 refine jm rfl rfl rfl rfl rfl rfl (by omega) (by omega) ?_
 refine aG rfl rfl rfl rfl (ej rfl (bI rfl ?_))
 refine jm rfl rfl rfl rfl rfl rfl (by omega) (by omega) ?_
 refine aG rfl rfl rfl rfl (Np rfl ?_)
 refine bg (E := dD) (xs := [_]) rfl rfl rfl rfl rfl (by decide) (by decide) (by repeat (first | exact (aW.nil : aW _ _ [] _) | (show aW _ _ ((_, _) :: _) _; apply aW.one; (· exact (rfl : _ = Ty.int _ _)); (· exact rfl)))) (by exact rfl) rfl ?_
 refine aZ (rz _ _) rfl rfl rfl rfl rfl (bk rfl (aD ?_))
 refine ⟨by kernel_rfl, ?_⟩
 refine aB (aE (aE ?_))
 refine iU (s := 13) rfl (Ty.bU (by rw [hoa, hob, Gb (by omega), H7] : _ = (min (over fl x.1 (dP fl x.1 (y.cells + 1))) (-over fl x.1 (eJ fl x.1 (y.cells + 1) (cM fl x.1 (dP fl x.1 (y.cells + 1)))))))) ?_
 refine aA (bI rfl (bk rfl (aD (aB (af ?_)))))
 refine cK (fun (p : {p : Int × List Way // Jn fl x.1 (cM fl x.1 (dP fl x.1 (y.cells + 1))) (dP fl x.1 (y.cells + 1)) (eJ fl x.1 (y.cells + 1) (cM fl x.1 (dP fl x.1 (y.cells + 1)))) dep p}) => live [(0, Ty.pp (dx y fl 1000 fl.length)), (5, Ty.int .i64 (dP fl x.1 (y.cells + 1))), (6, Ty.mp 32), (12, Ty.row fk 199 81 p.1.2), (13, Ty.int .i64 (ef fl x.1 (min (over fl x.1 (dP fl x.1 (y.cells + 1))) (-over fl x.1 (eJ fl x.1 (y.cells + 1) (cM fl x.1 (dP fl x.1 (y.cells + 1)))))) p.1.2)), (14, Ty.int .i64 p.1.1)] [(1000, Cont.vec dD 3 x.1), (32, Cont.mp KI.enc zE (cM fl x.1 (dP fl x.1 (y.cells + 1))))]) (fun p => dep p.1.1) (⟨((eJ fl x.1 (y.cells + 1) (cM fl x.1 (dP fl x.1 (y.cells + 1)))), []), N5 hmet⟩) ?_ fun p => ?_
 ·(refine cv.mk' ?_ ?_ <;> (repeat' (first | exact aM | exact aL | refine aC ?_ (Ty.aV _) | refine aC ?_ (Ty.aF _) | refine aC ?_ Ty.dQ | refine aK rfl (Cont.aF _) ?_ | refine aC ?_ ?_)))
  all_goals exact Ty.bU (vL _ _ _)
 have hpf := p.2.qL
 refine aE (aE (aA (bI rfl (bI rfl (bC rfl rfl rfl (aD (aB ?_)))))))
 refine bz rfl (fun hc6 => ?_) (fun hc6 => ?_)
 ·
  refine aq (aB (aE (af (aE ?_))))
  have hpx := p.2.next hd hc6
  have hpo := hpx.2.2
  refine aA (AL rfl (IQ rfl (bI rfl ?_)))
  refine vw KI (k := p.1.1) (z0 := (default : Way)) rfl rfl (by decide) rfl (ue _) nh rS oQ ?_
  refine bg (E := fk) (xs := [jj (cM fl x.1 (dP fl x.1 (y.cells + 1))) p.1.1]) rfl rfl rfl rfl rfl (by decide) (by decide) (by repeat (first | exact (aW.nil : aW _ _ [] _) | (show aW _ _ ((_, _) :: _) _; apply aW.agg; (· exact (rfl : _ = Ty.agg _))))) (by exact rfl) rfl ?_
  refine fI rfl rfl (by decide) rfl rfl rfl rfl rfl rfl (by decide) (by (simp <;> omega)) (by (simp <;> omega)) ?_
  refine AK rfl (aD (aB (aE (aA (ji rfl (IQ rfl (bI rfl ?_)))))))
  refine vw KI (k := p.1.1) (z0 := (default : Way)) rfl rfl (by decide) rfl (ue _) nh rS oQ ?_
  refine eM [1000] (Dx y fl x.1 hF (jj (cM fl x.1 (dP fl x.1 (y.cells + 1))) p.1.1) hpo.1) rfl (aY (kO (aY (bV (bR rfl rfl)) (aY (bV (bR rfl rfl)) (aY (bV (bR rfl rfl)) (aY (bV (bR rfl rfl)) (aY (bV (bR rfl rfl)) (aY (jY rfl hal (by decide) rfl) cY))))))) (aY (bV (bR rfl rfl)) cY)) (by exact j9 (by repeat (first | exact jw | refine jB (by exact c6 _ _) ?_))) ?_
  refine sn rfl (bP rfl rfl (bP rfl rfl (bk rfl (bk rfl (aD (aB (aA (bI rfl (bI rfl ?_)))))))))
  refine bg (E := dD) (xs := [_]) rfl rfl rfl rfl rfl (by decide) (by decide) (by repeat (first | exact (aW.nil : aW _ _ [] _) | (show aW _ _ ((_, _) :: _) _; apply aW.one; (· exact (rfl : _ = Ty.int _ _)); (· exact rfl)))) (by exact rfl) rfl ?_
  refine aZ (rz _ _) rfl rfl rfl rfl rfl (bk rfl (aD (bM (aB (aA (ji rfl (IQ rfl (bI rfl ?_))))))))
  refine vw KI (k := p.1.1) (z0 := (default : Way)) rfl rfl (by decide) rfl (ue _) nh rS oQ ?_
  refine eM [1000] (zW y fl x.1 (jj (cM fl x.1 (dP fl x.1 (y.cells + 1))) p.1.1) hpo.1) rfl (aY (kO (aY (bV (bR rfl rfl)) (aY (bV (bR rfl rfl)) (aY (bV (bR rfl rfl)) (aY (bV (bR rfl rfl)) (aY (bV (bR rfl rfl)) (aY (jY rfl hal (by decide) rfl) cY))))))) (aY (bV (bR rfl rfl)) cY)) (by exact c6 _ _) ?_
  refine bk rfl (aD ?_)
  refine bO (⟨((jj (cM fl x.1 (dP fl x.1 (y.cells + 1))) p.1.1).gp fl, p.1.2 ++ [jj (cM fl x.1 (dP fl x.1 (y.cells + 1))) p.1.1]), (p.2.next hd hc6).1⟩) ?_ (by exact (p.2.next hd hc6).2.1)
  (refine cv.mk' ?_ ?_ <;> (repeat' (first | exact aM | exact aL | refine aC ?_ (Ty.aV _) | refine aC ?_ (Ty.aF _) | refine aK rfl (Cont.aF _) ?_ | refine aC ?_ ?_)))
  all_goals skip
  all_goals exact Ty.bU vK
 refine cI (aP (aP (aj rfl (aB ?_))))
 have hmp := qB (fl := fl) (a := x.1) (m := (min (over fl x.1 (dP fl x.1 (y.cells + 1))) (-over fl x.1 (eJ fl x.1 (y.cells + 1) (cM fl x.1 (dP fl x.1 (y.cells + 1))))))) (KB (by rw [s2]; exact s3) (by rw [t2]; exact t4)) p.1.2 p.2.inv.ways
 have hml := (rQ (fl := fl) (a := x.1) (min (over fl x.1 (dP fl x.1 (y.cells + 1))) (-over fl x.1 (eJ fl x.1 (y.cells + 1) (cM fl x.1 (dP fl x.1 (y.cells + 1)))))) p.1.2).1
 refine jO (tg := 81) [(12, Ty.sl fk p.1.2)] (by decide) rfl ⟨pZ rfl, trivial⟩ ?_
 refine aA (ji rfl (ej rfl (bI rfl ?_)))
 refine dI [(1000, 1000)] [] [(1000, Cont.vec dD 3 (dZ x.1 p.1.2 (ef fl x.1 (min (over fl x.1 (dP fl x.1 (y.cells + 1))) (-over fl x.1 (eJ fl x.1 (y.cells + 1) (cM fl x.1 (dP fl x.1 (y.cells + 1)))))) p.1.2)))] (Ie y fl x.1 hF p.1.2 (by omega) (fun w hw => (p.2.inv.ways w hw).1) (ef fl x.1 (min (over fl x.1 (dP fl x.1 (y.cells + 1))) (-over fl x.1 (eJ fl x.1 (y.cells + 1) (cM fl x.1 (dP fl x.1 (y.cells + 1)))))) p.1.2) (by omega)) rfl rfl (aN (aN (aN bW (aT rfl rfl)) (aT rfl rfl)) (ep (aN (aN (aN (aN (aN (aN bW (eW (by exact List.mem_cons_self))) (aT rfl rfl)) (aT rfl rfl)) (aT rfl rfl)) (aT rfl rfl)) (aT rfl rfl)))) (dN (a := 1000) (b := 1000) (by exact List.mem_cons_self) rfl (cG (by exact List.mem_cons_self) rfl) pre_nil) (cA (a := 1000) (b := 1000) (by decide) rfl (cG (by decide) rfl) post_nil) (aT rfl rfl) ?_
 refine aD (bM ?_)
 refine bO (⟨kI fl x.1 (dP fl x.1 (y.cells + 1)) (eJ fl x.1 (y.cells + 1) (cM fl x.1 (dP fl x.1 (y.cells + 1)))), hnx.1⟩) ?_ (by exact hnx.2.less)
 (refine cv.mk' ?_ ?_ <;> (repeat' (first | exact aM | exact aL | refine aC ?_ (Ty.aV _) | refine aC ?_ (Ty.aF _) | refine aK rfl ?_ ?_)))
 all_goals skip
 all_goals exact Cont.fF (F1 (p.2.end hc6))
end Go.Proofs.YtelbollidfdcjaaGreat
namespace Go.Proofs.YtelbollidfdcjaaGreat
open Go Go.T
section
variable {fl : List bp} {a : List Int} {n : Nat} {G : Nat → Int} {x : Jb}
structure rI (fl : List bp) (a : List Int) (n : Nat) (G : Nat → Int) (x : Jb) : Prop where
  inv : l8 fl a n G x
  same : m9 (mG fl a n G) x = iR fl a n G
theorem OA (hn : 0 < n) : rI fl a n G ⟨0, 0, 0, MO n⟩ := ⟨K4 hn, rfl⟩
theorem rI.r (h : rI fl a n G x) : ¬ n ≤ x.r := by have := h.inv.r; omega
theorem rI.round (h : rI fl a n G x) (hc : n ≤ x.c) (ha : ¬ x.st.at_ < 0) : rI fl a n G ⟨x.r + 1, 0, 0, ⟨x.st.worth, x.st.by_, -1⟩⟩ :=
 ⟨h.inv.round hc (fun e => ha (by rw [h.inv.last e]; decide)), by rw [← gy (uG h.r hc ha)]; exact h.same⟩
theorem rI.stop (h : rI fl a n G x) (hc : n ≤ x.c) (ha : x.st.at_ < 0) : cJ fl a n G = [] := by
 refine uR ?_
 rw [← h.same]; exact iJ (vf h.r hc ha)
theorem rI.cell (h : rI fl a n G x) (hc : ¬ n ≤ x.c) (hj : (bH fl a x.c).length ≤ x.j) : rI fl a n G ⟨x.r, x.c + 1, 0, x.st⟩ :=
 ⟨h.inv.cell hc hj, by rw [← gy (vr h.r hc hj)]; exact h.same⟩
theorem rI.no (h : rI fl a n G x) (hc : ¬ n ≤ x.c) (hj : ¬ (bH fl a x.c).length ≤ x.j) (hg : k5 fl G x.st x.c (nth (bH fl a x.c) x.j) = false) : rI fl a n G ⟨x.r, x.c, x.j + 1, x.st⟩ :=
 ⟨h.inv.no hc hj hg, by rw [← gy (BC h.r hc hj hg)]; exact h.same⟩
theorem rI.yes (hN : Net fl n) (hG : ∀ i, -1 ≤ G i ∧ G i ≤ 1) (h : rI fl a n G x) (hc : ¬ n ≤ x.c) (hj : ¬ (bH fl a x.c).length ≤ x.j) (hg : k5 fl G x.st x.c (nth (bH fl a x.c) x.j) = true) (hr : ¬ x.r + 1 = n) : rI fl a n G ⟨x.r, x.c, x.j + 1, l6 fl G x.st x.c (nth (bH fl a x.c) x.j)⟩ :=
 ⟨h.inv.yes hN hG hc hj hg hr, by rw [← gy (yc h.r hc hj hg hr)]; exact h.same⟩
structure Found (fl : List bp) (a : List Int) (n : Nat) (G : Nat → Int) (st : sI) (v : Nat) : Prop where
  found : ∃ R T τ, Gh fl a n G (n - 1) st R T τ ∧ v < n ∧ R v = n
  at_ : st.at_ = v
  same : cJ fl a n G = pK fl st (fP (cF fl st) n v)
  len : st.by_.length = n
theorem rI.last (hN : Net fl n) (hG : ∀ i, -1 ≤ G i ∧ G i ≤ 1) (h : rI fl a n G x) (hc : ¬ n ≤ x.c) (hj : ¬ (bH fl a x.c).length ≤ x.j) (hg : k5 fl G x.st x.c (nth (bH fl a x.c) x.j) = true) (hr : x.r + 1 = n) :
    ∃ v : Nat, Found fl a n G (l6 fl G x.st x.c (nth (bH fl a x.c) x.j)) v := by
  have h1 := h.inv.found hN hG hc hj hg hr
  have h2 : iR fl a n G = some (l6 fl G x.st x.c (nth (bH fl a x.c) x.j)) := by
    rw [← h.same]; exact iJ (vc h.r hc hj hg hr)
  cases h1 with
  | some _ R T τ v h3 hv e hR =>
    refine ⟨v, ⟨R, T, τ, h3, hv, hR⟩, e, ?_, h3.len.2⟩
    rw [uX h2, e, Int.toNat_natCast]
theorem l8.small (h : l8 fl a n G x) (hn : n ≤ 21) (hl : fl.length ≤ 34) : x.st.worth.length = n ∧ x.st.by_.length = n ∧ ∀ v, v < n → 0 ≤ nth x.st.worth v ∧ nth x.st.worth v ≤ 40000 := by
 obtain ⟨R, T, τ, h1, h2, _⟩ := h.gh
 refine ⟨h1.len.1, h1.len.2, fun v hv => ?_⟩
 have h3 := h1.le v hv
 have h4 := h.r
 have h5 := h.c
 have h6 := h.j.1
 have e1 : x.r * (n * (2 * fl.length)) ≤ 21 * (21 * 68) := Nat.mul_le_mul (by omega) (Nat.mul_le_mul hn (by omega))
 have e2 : x.c * (2 * fl.length) ≤ 21 * 68 := Nat.mul_le_mul (by omega) (by omega)
 omega
variable {st : sI} {v s p : Nat}
theorem Found.chain (hN : Net fl n) (h : Found fl a n G st v) {k : Nat} (hk : k < n) : fP (cF fl st) k v < n ∧ Open fl a (nth st.by_ (fP (cF fl st) k v)) ∧ (nth st.by_ (fP (cF fl st) k v)).gp fl = (fP (cF fl st) (k + 1) v : Nat) := by
 obtain ⟨R, T, τ, h1, h2, h3⟩ := h.found
 obtain ⟨a1, a2⟩ := zj hN h1 h2 h3 k (by omega)
 obtain ⟨b1, _⟩ := h1.way _ a1 (by omega)
 refine ⟨a1, b1, ?_⟩
 have := (hN.way b1.1).1
 show _ = ((((nth st.by_ (fP (cF fl st) k v)).gp fl).toNat : Nat) : Int)
 omega
structure Ky (fl : List bp) (a : List Int) (n : Nat) (st : sI) (s p : Nat) (x : Nat × List Way) : Prop where
  at_ : x.1 < n ∧ Open fl a (nth st.by_ x.1) ∧ (nth st.by_ x.1).gp fl = (cF fl st x.1 : Nat)
  ix : ∃ i, i ≤ p ∧ x.1 = fP (cF fl st) i s ∧ x.2.length = i
  same : m9 (A5 fl st s) x = pK fl st s
theorem Mi.gp {T : Nat → Nat} (hN : Net fl n) (h : Mi fl a n G st T s) (t : Nat) : fP (cF fl st) t s < n ∧ Open fl a (nth st.by_ (fP (cF fl st) t s)) ∧ (nth st.by_ (fP (cF fl st) t s)).gp fl = (cF fl st (fP (cF fl st) t s) : Nat) := by
 refine ⟨h.at_ t, (h.way t).1, ?_⟩
 have := (hN.way (h.way t).1.1).1
 show _ = ((((nth st.by_ (fP (cF fl st) t s)).gp fl).toNat : Nat) : Int)
 omega
theorem Cq {x : Nat × List Way} (h : ¬ (¬ x.2 = [] ∧ x.1 = s)) : A5 fl st s x = .inl (cF fl st x.1, x.2 ++ [nth st.by_ x.1]) := if_neg h
theorem Cm {x : Nat × List Way} (h : ¬ x.2 = [] ∧ x.1 = s) : A5 fl st s x = .inr x.2 := if_pos h
theorem Ky.next {T : Nat → Nat} (hN : Net fl n) (hC : Mi fl a n G st T s) (hp : fP (cF fl st) p s = s) (hp1 : 1 ≤ p) {x : Nat × List Way} (h : Ky fl a n st s p x) (hc : ¬ (¬ x.2 = [] ∧ x.1 = s)) :
 Ky fl a n st s p (cF fl st x.1, x.2 ++ [nth st.by_ x.1]) ∧ x.2.length < p := by
 obtain ⟨i, h1, h2, h3⟩ := h.ix
 have hi : i < p := by
  by_cases e : i = p
  ·exfalso; apply hc
   subst e
   exact ⟨fun e => by rw [e] at h3; simp at h3; omega, h2.trans hp⟩
  omega
 have e : cF fl st x.1 = fP (cF fl st) (i + 1) s := by rw [h2]; rfl
 refine ⟨⟨?_, ⟨i + 1, hi, e, by rw [List.length_append, h3]; rfl⟩, ?_⟩, by omega⟩
 ·show cF fl st x.1 < n ∧ Open fl a (nth st.by_ (cF fl st x.1)) ∧ _ = ((cF fl st (cF fl st x.1) : Nat) : Int)
  rw [e]; exact hC.gp hN (i + 1)
 rw [← gy (Cq hc)]; exact h.same
theorem Ky.end {x : Nat × List Way} (h : Ky fl a n st s p x) (hc : ¬ x.2 = [] ∧ x.1 = s) : x.2 = pK fl st s := by
 rw [← h.same]; exact (iJ (Cm hc)).symm
theorem Found.Ob (hN : Net fl n) (h : Found fl a n G st v) : ∃ T p, Mi fl a n G st T (fP (cF fl st) n v) ∧ 1 ≤ p ∧ p ≤ n ∧ fP (cF fl st) p (fP (cF fl st) n v) = fP (cF fl st) n v ∧ Ky fl a n st (fP (cF fl st) n v) p (fP (cF fl st) n v, []) := by
 obtain ⟨R, T, τ, h1, h2, h3⟩ := h.found
 have hC := HN hN h1 h2 h3
 obtain ⟨p, p1, p2, p3⟩ := hC.back
 exact ⟨T, p, hC, p1, p2, p3, ⟨hC.gp hN 0, ⟨0, Nat.zero_le _, rfl, rfl⟩, rfl⟩⟩
structure Lf (fl : List bp) (n : Nat) (G : Nat → Int) (a b : List Int) : Prop where
  feas : gW fl n b
  same : m9 (stepG fl n G) b = gS fl n G a
theorem C1 {b : List Int} (e : cJ fl b n G = []) : stepG fl n G b = .inr b := if_pos e
theorem C9 {b : List Int} (e : ¬ cJ fl b n G = []) : stepG fl n G b = .inl (dZ b (cJ fl b n G) (ef fl b 300 (cJ fl b n G))) := if_neg e
theorem Lf.done {b : List Int} (h : Lf fl n G a b) (e : cJ fl b n G = []) : b = gS fl n G a := by
 rw [← h.same]; exact (iJ (C1 e)).symm
theorem Lf.next {b : List Int} (hN : Net fl n) (hn : 0 < n) (hB : Bd fl) (hG : ∀ i, -1 ≤ G i ∧ G i ≤ 1) (h : Lf fl n G a b) (e : ¬ cJ fl b n G = []) :
 Lf fl n G a (dZ b (cJ fl b n G) (ef fl b 300 (cJ fl b n G))) ∧ (300 * fl.length - k7 fl G (dZ b (cJ fl b n G) (ef fl b 300 (cJ fl b n G)))).toNat < (300 * fl.length - k7 fl G b).toNat ∧ DF fl b n G (cJ fl b n G) := by
 rcases uV (a := b) hN hn hG with ⟨e', _⟩ | hc
 ·exact absurd e' e
 have hb := tw h.feas hc
 refine ⟨⟨hb.feas, ?_⟩, ?_, hc⟩
 ·rw [← h.same]; exact (gy (C9 e)).symm
 have h1 := hb.more
 have h2 := Dv hB hb.feas.1 hG
 omega
end
def ir (has : Nat → Bool) (x : List Int) (k : Nat) : Int := cg (fun i => if has i = true then nth x i else 0) k
theorem Fh {has : Nat → Bool} {x : List Int} {k : Nat} (h : has k = true) : ir has x k + nth x k = ir has x (k + 1) := by
 show _ = ir has x k + (if _ then _ else _); rw [if_pos h]
theorem Gj {has : Nat → Bool} {x : List Int} {k : Nat} (h : has k = false) : ir has x k = ir has x (k + 1) := by
 show _ = ir has x k + (if _ then _ else _); rw [if_neg (by rw [h]; decide)]; omega
theorem FT {has : Nat → Bool} {x : List Int} {k : Nat} (h : ∀ i, i < k → 0 ≤ nth x i ∧ nth x i ≤ 300) : -(300 * (k : Int)) ≤ ir has x k ∧ ir has x k ≤ 300 * k := by
 refine nH (b := 300) fun i hi => ?_
 have := h i hi
 split <;> omega
theorem Ir {has : Nat → Bool} {less : Bool} {i : Nat} (h : has i = false) : cm has less i = 0 := by unfold cm; rw [h]; cases less <;> rfl
theorem yA {has : Nat → Bool} {less : Bool} {i : Nat} (h : has i = true) : cm has less i = if less = true then -1 else 1 := by unfold cm; rw [h]; cases less <;> rfl
theorem KJ {has : Nat → Bool} {less : Bool} {w : Way} (h : has w.ix = false) : 0 = fj (cm has less) w := by
 unfold fj xK; rw [Ir h]; cases w.more <;> rfl
theorem JG {has : Nat → Bool} {less : Bool} {w : Way} (h : has w.ix = true) (e : w.more ≠ less) : 1 = fj (cm has less) w := by
 unfold fj xK; rw [yA h]
 cases hm : w.more <;> cases hl : less <;> first | rfl | exact absurd (hm.trans hl.symm) e
theorem Jy {has : Nat → Bool} {less : Bool} {w : Way} (h : has w.ix = true) (e : w.more = less) : -1 = fj (cm has less) w := by
 unfold fj xK; rw [yA h, e]
 cases less <;> rfl
end Go.Proofs.YtelbollidfdcjaaGreat
namespace Go.Proofs.YtelbollidfdcjaaGreat
open Go Go.T
set_option maxHeartbeats 16000000
theorem MC : Tryz.prog.underlying 4 = some .bool := Tryz.underlying4
section
variable {fl : List bp} {a : List Int} {n : Nat} {G : Nat → Int} {st : sI} {r c j : Nat} {w : Way}
def nD (fl : List bp) (G : Nat → Int) (st : sI) (c : Nat) (w : Way) : sI := if k5 fl G st c w = true then l6 fl G st c w else st
theorem p5 (h : nth st.worth c + fj G w > nth st.worth (w.fin fl).toNat) : nD fl G st c w = l6 fl G st c w := if_pos (decide_eq_true h)
theorem rV (h : ¬ nth st.worth c + fj G w > nth st.worth (w.fin fl).toNat) : nD fl G st c w = st := if_neg (by rw [show k5 fl G st c w = false from decide_eq_false h]; decide)
theorem rI.MB (hN : Net fl n) (hG : ∀ i, -1 ≤ G i ∧ G i ≤ 1) (h : rI fl a n G ⟨r, c, j, st⟩) (hc : c < n) (hj : j < (bH fl a c).length) (hg : nth st.worth c + fj G (nth (bH fl a c) j) > nth st.worth ((nth (bH fl a c) j).fin fl).toNat) (hr : ¬ (r : Int) = n - 1) : rI fl a n G ⟨r, c, j + 1, nD fl G st c (nth (bH fl a c) j)⟩ := by
 rw [p5 hg]; exact h.yes hN hG (Nat.not_le.2 hc) (Nat.not_le.2 hj) (decide_eq_true hg) (by show ¬ r + 1 = n; intro e; apply hr; rw [← e]; show (r : Int) = ((r + 1 : Nat) : Int) - 1; omega)
theorem rI.Nb (h : rI fl a n G ⟨r, c, j, st⟩) (hc : c < n) (hj : j < (bH fl a c).length) (hg : ¬ nth st.worth c + fj G (nth (bH fl a c) j) > nth st.worth ((nth (bH fl a c) j).fin fl).toNat) : rI fl a n G ⟨r, c, j + 1, nD fl G st c (nth (bH fl a c) j)⟩ := by
 rw [rV hg]; exact h.no (Nat.not_le.2 hc) (Nat.not_le.2 hj) (decide_eq_false hg)
theorem Mm (h : nth st.worth c + fj G w > nth st.worth (w.fin fl).toNat) : st.worth.set (w.fin fl).toNat (nth st.worth c + fj G w) = (nD fl G st c w).worth := by rw [p5 h]; rfl
theorem NB (h : nth st.worth c + fj G w > nth st.worth (w.fin fl).toNat) : st.by_.set (w.fin fl).toNat w = (nD fl G st c w).by_ := by rw [p5 h]; rfl
theorem NC (h : nth st.worth c + fj G w > nth st.worth (w.fin fl).toNat) : w.fin fl = (nD fl G st c w).at_ := by rw [p5 h]; rfl
theorem Mx (h : ¬ nth st.worth c + fj G w > nth st.worth (w.fin fl).toNat) : st.worth = (nD fl G st c w).worth := by rw [rV h]
theorem ND (h : ¬ nth st.worth c + fj G w > nth st.worth (w.fin fl).toNat) : st.by_ = (nD fl G st c w).by_ := by rw [rV h]
theorem NO (h : ¬ nth st.worth c + fj G w > nth st.worth (w.fin fl).toNat) : st.at_ = (nD fl G st c w).at_ := by rw [rV h]
theorem rI.hit (hN : Net fl n) (hG : ∀ i, -1 ≤ G i ∧ G i ≤ 1) (h : rI fl a n G ⟨r, c, j, st⟩) (hc : c < n) (hj : j < (bH fl a c).length) (hg : nth st.worth c + fj G (nth (bH fl a c) j) > nth st.worth ((nth (bH fl a c) j).fin fl).toNat) (hr : (r : Int) = n - 1) :
 ∃ (v : Nat) (s' : sI), st.worth.set ((nth (bH fl a c) j).fin fl).toNat (nth st.worth c + fj G (nth (bH fl a c) j)) = s'.worth ∧ st.by_.set ((nth (bH fl a c) j).fin fl).toNat (nth (bH fl a c) j) = s'.by_ ∧ (nth (bH fl a c) j).fin fl = ((v : Nat) : Int) ∧ Found fl a n G s' v := by
 obtain ⟨v, hv⟩ := h.last hN hG (Nat.not_le.2 hc) (Nat.not_le.2 hj) (decide_eq_true hg) (by show r + 1 = n; have := h.inv.r; omega)
 exact ⟨v, _, rfl, rfl, hv.at_, hv⟩
theorem LC {e : List Way} {s : Nat} (h : (decide ((e.length : Int) = 0) || !decide ((c : Int) = (s : Int))) = true) : ¬ (¬ e = [] ∧ c = s) := by
 rintro ⟨h1, h2⟩
 have h3 : (e.length : Int) ≠ 0 := fun h => h1 (List.length_eq_zero_iff.1 (by omega))
 rw [decide_eq_false h3, decide_eq_true (by omega)] at h; cases h
theorem Nn {e : List Way} {s : Nat} (h : (decide ((e.length : Int) = 0) || !decide ((c : Int) = (s : Int))) = false) : ¬ e = [] ∧ c = s := by
 rw [Bool.or_eq_false_iff] at h
 refine ⟨fun e0 => ?_, ?_⟩
 ·subst e0; exact absurd h.1 (by decide)
 have := of_decide_eq_true (e9 h.2 : decide ((c : Int) = (s : Int)) = true); omega
theorem NP {e : List Way} {p : Nat} (h : e.length < p) : p - (e ++ [w]).length < p - e.length := by rw [List.length_append]; show p - (e.length + 1) < _; omega
theorem OV {s p : Nat} {x : Nat × List Way} (h : Ky fl a n st s p x) (hc : ¬ x.2 = [] ∧ x.1 = s) : pK fl st s ≠ [] := by rw [← h.end hc]; exact hc.1
end
attribute [local irreducible] aR gm Way.gp Way.fin Way.room eK dZ eY gT over bH cM dP eJ jN ef gu kI cP gM fm fj cm cJ gS pK iR nD l6
attribute [local irreducible] g6 fS m8 qg iZ iT ij ia ig qM iS qR dY gb qd gV qV nth fU dR av dK bodyPost Exit.then Exit.inBlock Code.wp Code.wpIn fR qb qX qT iw qW qc iY fC cT cU bodyPostM dr
set_option maxRecDepth 100000 in
theorem nB (y : bA) (fl : List bp) (a : List Int) (h : Gd y fl a) : fC Tryz.prog 119 [1000] [(1000, Cont.vec dD 3 a)] [Ty.pp (dx y fl 1000 fl.length)] [(1000, Cont.vec dD 3 (cP fl (y.cells + 1) a).2.2)] (Ty.bool (!(cP fl (y.cells + 1) a).2.1)) := by
 refine fV Tryz.func119 rfl (by decide) Tryz.ntmps119 (by exact Nat.le_of_ble_eq_true rfl) fun w0 M0 => ?_
 refine aE (aA (cj rfl (aD (aB (aE (aA (ji rfl ?_)))))))
 refine dI [(1000, 1000)] [] [(1000, Cont.vec dD 3 (cP fl (y.cells + 1) a).2.2)] (J0 y fl a h) rfl rfl (aN bW (ep (aN (aN (aN (aN (aN (aN bW (eW (by exact List.mem_cons_self))) (aT rfl rfl)) (aT rfl rfl)) (aT rfl rfl)) (aT rfl rfl)) (aT rfl rfl)))) (dN (a := 1000) (b := 1000) (by exact List.mem_cons_self) rfl (cG (by exact List.mem_cons_self) rfl) pre_nil) (cA (a := 1000) (b := 1000) (by decide) rfl (cG (by decide) rfl) post_nil) (aT rfl rfl) ?_
 refine sn rfl (bP rfl rfl (bP rfl rfl (bk rfl (cj rfl (aD (aB (aE (aA (e8 rfl ?_)))))))))
 refine dX rfl (cj rfl (aD (aB (ay ?_))))
 refine iQ [1000] rfl rfl (by decide) (by repeat (first | exact gR | refine fM rfl (cG (by decide) rfl) ?_)) ?_
 all_goals exact hU (aT rfl rfl)
set_option maxRecDepth 100000 in
theorem DY (th : Ty) (h1 : th.deps = []) (h2 : th.cdeps = []) (has : Nat → Bool) (less : Bool) (w : Way) (hf : nT Tryz.prog (Ty.nd th h1 h2) [Ty.int .i64 ((w.ix : Nat) : Int)] (Ty.bool (has w.ix))) : dK Tryz.prog 202 [Ty.agg [Ty.nd th h1 h2, Ty.bool less], Ty.agg (fk.tys w)] (Ty.int .i64 (fj (cm has less) w)) := by
 refine aa Tryz.func202 rfl (by decide) Tryz.ntmps202 (by exact Nat.le_of_ble_eq_true rfl) fun w0 M0 => ?_
 refine aE (aA (bD rfl (bD rfl (bk rfl (aD (aB (aE (aE (aA ?_)))))))))
 refine aI rfl rfl rfl rfl rfl (by decide) ?_
 refine aG rfl rfl rfl rfl ?_
 refine aI rfl rfl rfl rfl rfl (by decide) ?_
 refine aG rfl rfl rfl rfl (eI rfl hf rfl (dX rfl (aD (aB ?_))))
 refine bt rfl (fun hc1 => ?_) (fun hc1 => ?_)
 ·
  refine aE (aA (bk rfl (aD (aB (ay (aQ (bJ rfl rfl ?_)))))))
  all_goals skip
  all_goals exact ah rfl rfl (congrArg (Ty.int .i64) (KJ (mq hc1)))
 refine aq (aB (aE (aE (aA ?_))))
 refine aI rfl rfl rfl rfl rfl (by decide) ?_
 refine aG rfl rfl rfl rfl ?_
 refine aI rfl rfl rfl rfl rfl (by decide) ?_
 refine aG rfl rfl rfl rfl (ES MC rfl rfl (aD (aB ?_)))
 refine bz rfl (fun hc2 => ?_) (fun hc2 => ?_)
 ·
  refine aE (aA (bk rfl (aD (aB (ay (aQ (bJ rfl rfl ?_)))))))
  all_goals skip
  all_goals exact ah rfl rfl (congrArg (Ty.int .i64) (JG (e9 hc1) hc2))
 refine aq (aB (aE (aA (bk rfl (aD (aB (ay (bJ rfl rfl ?_))))))))
 all_goals skip
 all_goals exact ah rfl rfl (congrArg (Ty.int .i64) (Jy (e9 hc1) hc2))
set_option maxRecDepth 100000 in
theorem F2 (y : bA) (fl : List bp) (a : List Int) (h : lV y fl a) (th : Ty) (h1 : th.deps = []) (h2 : th.cdeps = []) (has : Nat → Bool) (hf : ∀ i, i < fl.length → nT Tryz.prog (Ty.nd th h1 h2) [Ty.int .i64 ((i : Nat) : Int)] (Ty.bool (has i))) (less : Bool) : fC Tryz.prog 195 [1000] [(1000, Cont.vec dD 3 a)] [Ty.pp (dx y fl 1000 fl.length), Ty.agg [Ty.nd th h1 h2, Ty.bool less]] [(1000, Cont.vec dD 3 a)] (Ty.Fy fk (cJ fl a (y.cells + 1) (cm has less))) := by
 refine fV Tryz.func195 rfl (by decide) Tryz.ntmps195 (by exact Nat.le_of_ble_eq_true rfl) fun w0 M0 => ?_
 have hal := h.inb.1
 have hN := h.net
 have hfl := h.qL
 have hcl := nE h.right
 have hG := sF (has := has) less
 refine aE (aA (bD rfl (kE rfl (aD (aB (Kb (aE (aA (ji rfl ?_)))))))))
 refine eM [] (sP y h.right) rfl (aY (nK (l1 := bS y) (l2 := [Ty.sl dW fl, Ty.vs 1000 fl.length]) rfl rfl) cY) (by exact c6 _ _) ?_
 refine b8 rfl rfl (by omega) (by omega) ?_
 refine bk rfl (aD (aB (aE (cN mixed rfl (bI rfl ?_)))))
 refine ur (E := dD) (x0 := 0) rfl rfl rfl rfl rfl rfl rfl (by decide) rfl (by omega) (by (dsimp only; omega)) (by omega) ?_
 refine bI rfl ?_
 refine ur (E := fk) (x0 := default) rfl rfl rfl rfl rfl rfl rfl (by decide) rfl (by omega) (by (dsimp only; omega)) (by omega) ?_
 refine Kt rfl (Kt rfl (aD ?_))
 refine ⟨by kernel_rfl, ?_⟩
 refine aB (aE (aA (ji rfl ?_)))
 refine dI [(1000, 1000)] [] [(1000, Cont.vec dD 3 a)] (IX y fl a h) rfl rfl (aN bW (ep (aN (aN (aN (aN (aN (aN bW (eW (by exact List.mem_cons_self))) (aT rfl rfl)) (aT rfl rfl)) (aT rfl rfl)) (aT rfl rfl)) (aT rfl rfl)))) (dN (a := 1000) (b := 1000) (by exact List.mem_cons_self) rfl (cG (by exact List.mem_cons_self) rfl) pre_nil) (cA (a := 1000) (b := 1000) (by decide) rfl (cG (by decide) rfl) post_nil) (aT rfl rfl) ?_
 refine MU rfl (aD (aB (aE (aA (bk rfl (aD (aB (aE (KE ?_)))))))))
 refine aB (aE (aE (aA (bI rfl (bI rfl (aD (aB (af ?_))))))))
 refine cK (fun (x : {x : Nat × sI // rI fl a (y.cells + 1) (cm has less) ⟨x.1, 0, 0, x.2⟩ ∧ x.2.at_ = -1}) => live [(0, Ty.pp (dx y fl 1000 fl.length)), (3, Ty.pp [Ty.nd th h1 h2, Ty.bool less]), (5, Ty.int .i64 ((y.cells + 1) : Nat)), (6, Ty.vs 23 (y.cells + 1)), (7, Ty.vs 25 (y.cells + 1)), (8, Ty.pm KI.enc (F8 fk) (eK fl a fl.length)), (27, Ty.int .i64 ((y.cells + 1) : Nat)), (28, Ty.int .i64 ((x.1.1 : Nat) : Int))] [(1000, Cont.vec dD 3 a), (23, Cont.vec dD 3 x.1.2.worth), (25, Cont.vec fk 199 x.1.2.by_)]) (fun x => (y.cells + 1) - x.1.1) (⟨(0, MO (y.cells + 1)), OA (by omega), rfl⟩) ?_ fun x => ?_
 ·(refine cv.mk' ?_ ?_ <;> (repeat' (first | exact aM | exact aL | refine aC ?_ (Ty.aV _) | refine aC ?_ (Ty.aF _) | refine aK rfl (Cont.aF _) ?_)))
 have hxr : x.1.1 < (y.cells + 1) := x.2.1.inv.r
 have hxs : x.1.2.worth.length = (y.cells + 1) ∧ x.1.2.by_.length = (y.cells + 1) := ⟨(x.2.1.inv.small (by omega) hfl).1, (x.2.1.inv.small (by omega) hfl).2.1⟩
 refine aE (aA (bC rfl rfl rfl (aD (aB (aE ?_)))))
 refine p8 rfl (decide_eq_true (by show ((x.1.1 : Nat) : Int) < ((y.cells + 1) : Nat); have : x.1.1 < (y.cells + 1) := hxr; omega)) ?_
 refine aq (aB (aE (af (aE (aA (bI rfl (bk rfl (aD (aB ?_)))))))))
 refine aE (aA (bk rfl (aD (aB (aE (aE (aA (bI rfl (bI rfl ?_)))))))))
 refine aD (aB (af ?_))
 refine cK (fun (z : {z : Nat × sI // rI fl a (y.cells + 1) (cm has less) ⟨x.1.1, z.1, 0, z.2⟩}) => live [(0, Ty.pp (dx y fl 1000 fl.length)), (3, Ty.pp [Ty.nd th h1 h2, Ty.bool less]), (5, Ty.int .i64 ((y.cells + 1) : Nat)), (6, Ty.vs 23 (y.cells + 1)), (7, Ty.vs 25 (y.cells + 1)), (8, Ty.pm KI.enc (F8 fk) (eK fl a fl.length)), (9, Ty.int .i64 z.1.2.at_), (10, Ty.int .i64 ((x.1.1 : Nat) : Int)), (27, Ty.int .i64 ((y.cells + 1) : Nat)), (28, Ty.int .i64 ((x.1.1 : Nat) : Int)), (31, Ty.int .i64 ((y.cells + 1) : Nat)), (32, Ty.int .i64 ((z.1.1 : Nat) : Int))] [(1000, Cont.vec dD 3 a), (23, Cont.vec dD 3 z.1.2.worth), (25, Cont.vec fk 199 z.1.2.by_)]) (fun z => (y.cells + 1) - z.1.1) (⟨(0, x.1.2), x.2.1⟩) ?_ fun z => ?_
 ·(refine cv.mk' ?_ ?_ <;> (repeat' (first | exact aM | exact aL | refine aC ?_ (Ty.aV _) | refine aC ?_ (Ty.aF _) | refine aK rfl (Cont.aF _) ?_ | refine aC ?_ ?_)))
  all_goals exact Ty.bU x.2.2.symm
 have hzc : z.1.1 ≤ (y.cells + 1) := z.2.inv.c
 have hzs : z.1.2.worth.length = (y.cells + 1) ∧ z.1.2.by_.length = (y.cells + 1) := ⟨(z.2.inv.small (by omega) hfl).1, (z.2.inv.small (by omega) hfl).2.1⟩
 refine aE (aA (bC rfl rfl rfl (aD (aB (aE ?_)))))
 refine az rfl (fun hc2 => ?_) (fun hc2 => ?_)
 ·
  refine aq (aB (aE (af (aE (aA (bI rfl (bk rfl (aD (aB ?_)))))))))
  refine aE (aA (Lt rfl (bI rfl ?_)))
  refine y4 KI (z0 := []) rfl rfl (ue _) n9 uw A9 ?_
  refine b9 (E := fk) (xs := oI (eK fl a fl.length) ((z.1.1 : Nat) : Int)) rfl rfl rfl ?_
  refine bI rfl (aD (aB ?_))
  refine iU (s := 37) rfl (show (Ty.sl fk (oI (eK fl a fl.length) ((z.1.1 : Nat) : Int))).Sub (Ty.sl fk (bH fl a z.1.1)) from Ty.qt r5) ?_
  refine iU (s := 38) rfl (Ty.bU (congrArg (fun l : List Way => ((l.length : Nat) : Int)) (r5 (c := ((z.1.1 : Nat) : Int))))) ?_
  refine af ?_
  refine cK (fun (u : {u : Nat × sI // rI fl a (y.cells + 1) (cm has less) ⟨x.1.1, z.1.1, u.1, u.2⟩}) => live [(0, Ty.pp (dx y fl 1000 fl.length)), (3, Ty.pp [Ty.nd th h1 h2, Ty.bool less]), (5, Ty.int .i64 ((y.cells + 1) : Nat)), (6, Ty.vs 23 (y.cells + 1)), (7, Ty.vs 25 (y.cells + 1)), (8, Ty.pm KI.enc (F8 fk) (eK fl a fl.length)), (9, Ty.int .i64 u.1.2.at_), (10, Ty.int .i64 ((x.1.1 : Nat) : Int)), (11, Ty.int .i64 ((z.1.1 : Nat) : Int)), (27, Ty.int .i64 ((y.cells + 1) : Nat)), (28, Ty.int .i64 ((x.1.1 : Nat) : Int)), (31, Ty.int .i64 ((y.cells + 1) : Nat)), (32, Ty.int .i64 ((z.1.1 : Nat) : Int)), (37, Ty.sl fk (bH fl a z.1.1)), (38, Ty.int .i64 (bH fl a z.1.1).length), (39, Ty.int .i64 ((u.1.1 : Nat) : Int))] [(1000, Cont.vec dD 3 a), (23, Cont.vec dD 3 u.1.2.worth), (25, Cont.vec fk 199 u.1.2.by_)]) (fun u => (bH fl a z.1.1).length - u.1.1) (⟨(0, z.1.2), z.2⟩) ?_ fun u => ?_
  ·(refine cv.mk' ?_ ?_ <;> (repeat' (first | exact aM | exact aL | refine aC ?_ (Ty.aV _) | refine aC ?_ (Ty.aF _) | refine aK rfl (Cont.aF _) ?_)))
  have hus : u.1.2.worth.length = (y.cells + 1) ∧ u.1.2.by_.length = (y.cells + 1) ∧ ∀ v, v < (y.cells + 1) → 0 ≤ nth u.1.2.worth v ∧ nth u.1.2.worth v ≤ 40000 := u.2.inv.small (by omega) hfl
  have hwl := pF (fl := fl) (a := a) (c := ((z.1.1 : Nat) : Int))
  refine aE (aA (bC rfl rfl rfl (aD (aB (aE ?_)))))
  refine az rfl (fun hc3 => ?_) (fun hc3 => ?_)
  ·
   refine aq (aB (aE (af (aE ?_))))
   have hzn : z.1.1 < (y.cells + 1) := by omega
   have hun : u.1.1 < (bH fl a z.1.1).length := by omega
   have hwo := (mZ.1 (cR (xs := bH fl a z.1.1) (k := u.1.1) hun)).1
   have hwj := hwo
   have hwf := (hN.way hwo.1).2
   have haw := DU hG (nth (bH fl a z.1.1) u.1.1)
   have hu1 := hus.2.2 z.1.1 hzn
   have hu2 := hus.2.2 ((nth (bH fl a z.1.1) u.1.1).fin fl).toNat (by omega)
   refine aA ?_
   refine ak rfl rfl rfl rfl rfl rfl (by omega) ?_
   refine aU rfl rfl rfl (by exact Nat.le_of_ble_eq_true rfl) ?_
   refine bu rfl (by exact List.cons_ne_nil _ _) rfl ?_
   refine bq rfl rfl (by decide) rfl rfl rfl rfl rfl rfl ?_
   refine aD (aB (aE (aA (ji rfl ?_))))
   refine bf rfl rfl (by decide) rfl rfl (by exact Nat.le_of_ble_eq_true rfl) ?_
   refine eM [1000] (Dx y fl a h (nth (bH fl a z.1.1) u.1.1) hwj.1) rfl (aY (kO (aY (bV (bR rfl rfl)) (aY (bV (bR rfl rfl)) (aY (bV (bR rfl rfl)) (aY (bV (bR rfl rfl)) (aY (bV (bR rfl rfl)) (aY (jY rfl hal (by decide) rfl) cY))))))) (aY (bV (bR rfl rfl)) cY)) (by exact j9 (by repeat (first | exact jw | refine jB (by exact c6 _ _) ?_))) ?_
   refine sn rfl (bP rfl rfl (bP rfl rfl (bk rfl (bk rfl (aD (aB (aE (cN mixed rfl (sV rfl ?_)))))))))
   refine bI rfl ?_
   refine cx rfl rfl rfl rfl rfl (by omega) ?_
   refine cX rfl rfl rfl (by decide) rfl rfl (by omega) rfl ?_
   refine aU rfl rfl rfl (by exact Nat.le_of_ble_eq_true rfl) ?_
   refine bf rfl rfl (by decide) rfl rfl (by exact Nat.le_of_ble_eq_true rfl) ?_
   refine aZ (DY th h1 h2 has less (nth (bH fl a z.1.1) u.1.1) (hf _ hwj.1)) rfl rfl rfl rfl rfl ?_
   refine b8 rfl rfl (by omega) (by omega) ?_
   refine sV rfl (bI rfl ?_)
   refine fQ rfl rfl rfl rfl rfl (by omega) (by omega) ?_
   refine cX rfl rfl rfl (by decide) rfl rfl (by omega) rfl ?_
   refine bC rfl rfl rfl (aD ?_)
   refine ⟨by kernel_rfl, ?_⟩
   refine aB ?_
   refine az rfl (fun hc4 => ?_) (fun hc4 => ?_)
   ·
    refine aE (cN mixed rfl (sV rfl (bI rfl (sV rfl (bI rfl (sV rfl (bI rfl ?_)))))))
    refine cx rfl rfl rfl rfl rfl (by omega) ?_
    refine cX rfl rfl rfl (by decide) rfl rfl (by omega) rfl ?_
    refine aU rfl rfl rfl (by exact Nat.le_of_ble_eq_true rfl) ?_
    refine bf rfl rfl (by decide) rfl rfl (by exact Nat.le_of_ble_eq_true rfl) ?_
    refine aZ (DY th h1 h2 has less (nth (bH fl a z.1.1) u.1.1) (hf _ hwj.1)) rfl rfl rfl rfl rfl ?_
    refine b8 rfl rfl (by omega) (by omega) ?_
    refine bf rfl rfl (by decide) rfl rfl (by exact Nat.le_of_ble_eq_true rfl) ?_
    refine bI rfl ?_
    refine fQ rfl rfl rfl rfl rfl (by omega) (by omega) ?_
    refine jg rfl rfl rfl (by decide) rfl rfl (by exact (rfl : _ = Ty.int _ _)) rfl (by omega) (by decide) rfl rfl ?_
    refine fQ rfl rfl rfl rfl rfl (by omega) (by omega) ?_
    refine za (E := fk) (z := (nth (bH fl a z.1.1) u.1.1)) ((nth (bH fl a z.1.1) u.1.1).fin fl).toNat rfl rfl rfl (by decide) rfl rfl rfl (by omega) ?_
    refine bk rfl (aD ?_)
    refine ⟨by kernel_rfl, ?_⟩
    refine aB (aE (aA (bI rfl (bI rfl ?_))))
    refine iA rfl rfl (by omega) (by omega) ?_
    refine bC rfl rfl rfl (aD (aB ?_))
    refine az rfl (fun hc5 => ?_) (fun hc5 => ?_)
    ·
     refine cI (gG rfl (aP (aP (gG rfl (gG rfl (aP (aP (gG rfl (aP ?_)))))))))
     refine gG rfl (aP (aP (aj rfl (aB (aE (aE ?_))))))
     obtain ⟨v, st, e1, e2, e3, hFd⟩ := u.2.hit hN hG hzn hun hc4 hc5
     obtain ⟨T, p, hC, p1, p2, p3, hX⟩ := hFd.Ob hN
     refine g8 (tg := 25) rfl (Cont.fF e2) ?_
     refine iU (s := 9) rfl (Ty.bU e3) ?_
     refine aA (bI rfl (bI rfl (aD (aB (af ?_)))))
     refine cK (fun (i : {i : Nat // i ≤ (y.cells + 1)}) => live [(0, Ty.pp (dx y fl 1000 fl.length)), (5, Ty.int .i64 ((y.cells + 1) : Nat)), (7, Ty.vs 25 (y.cells + 1)), (9, Ty.int .i64 ((fP (cF fl st) i.1 v : Nat) : Int)), (87, Ty.int .i64 ((y.cells + 1) : Nat)), (88, Ty.int .i64 ((i.1 : Nat) : Int))] [(1000, Cont.vec dD 3 a), (25, Cont.vec fk 199 st.by_)]) (fun i => (y.cells + 1) - i.1) (⟨0, by omega⟩) ?_ fun i => ?_
     ·(refine cv.mk' ?_ ?_ <;> (repeat' (first | exact aM | exact aL | refine aC ?_ (Ty.aV _) | refine aC ?_ (Ty.aF _) | refine aK rfl (Cont.aF _) ?_)))
     refine aE (aA (bC rfl rfl rfl (aD (aB (aE ?_)))))
     refine az rfl (fun hc6 => ?_) (fun hc6 => ?_)
     ·
      refine aq (aB (aE (af ?_)))
      have hch := hFd.chain hN (k := i.1) (by omega)
      have hbl := hFd.len
      refine aA (ji rfl (sV rfl (bI rfl ?_)))
      refine cx rfl rfl rfl rfl rfl (by omega) ?_
      refine ou (fP (cF fl st) i.1 v) rfl rfl rfl (by decide) rfl rfl rfl (by omega) ?_
      refine eM [1000] (zW y fl a (nth st.by_ (fP (cF fl st) i.1 v)) hch.2.1.1) rfl (aY (kO (aY (bV (bR rfl rfl)) (aY (bV (bR rfl rfl)) (aY (bV (bR rfl rfl)) (aY (bV (bR rfl rfl)) (aY (bV (bR rfl rfl)) (aY (jY rfl hal (by decide) rfl) cY))))))) (aY (bV (bR rfl rfl)) cY)) (by exact c6 _ _) ?_
      refine bk rfl (aD (bM (aB (aA ?_))))
      refine b8 rfl rfl (by omega) (by omega) ?_
      refine bI rfl (aD ?_)
      refine bO (⟨i.1 + 1, by omega⟩) ?_ (by show (y.cells + 1) - (i.1 + 1) < (y.cells + 1) - i.1; omega)
      (refine cv.mk' ?_ ?_ <;> (repeat' (first | exact aM | exact aL | refine aC ?_ (Ty.aV _) | refine aC ?_ (Ty.aF _) | refine aK rfl (Cont.aF _) ?_ | refine aC ?_ ?_)))
      all_goals skip
      all_goals exact Ty.bU hch.2.2
     refine cI (aP (aP (aj rfl (aB (aE ?_)))))
     have hbl := hFd.len
     have hin : i.1 = (y.cells + 1) := by have := i.2; omega
     refine iU (s := 9) rfl (Ty.bU (by rw [hin] : _ = ((fP (cF fl st) (y.cells + 1) v : Nat) : Int))) ?_
     refine aA (kE rfl (aD (aB (aE (aE (aA (bI rfl (bk rfl (aD ?_)))))))))
     refine aB (af ?_)
     refine cK (fun (c : {c : Nat × List Way // Ky fl a (y.cells + 1) st (fP (cF fl st) (y.cells + 1) v) p c}) => live [(0, Ty.pp (dx y fl 1000 fl.length)), (7, Ty.vs 25 (y.cells + 1)), (9, Ty.int .i64 ((fP (cF fl st) (y.cells + 1) v : Nat) : Int)), (16, Ty.row fk 199 118 c.1.2), (17, Ty.int .i64 ((c.1.1 : Nat) : Int))] [(1000, Cont.vec dD 3 a), (25, Cont.vec fk 199 st.by_)]) (fun c => p - c.1.2.length) (⟨(fP (cF fl st) (y.cells + 1) v, []), hX⟩) ?_ fun c => ?_
     ·(refine cv.mk' ?_ ?_ <;> (repeat' (first | exact aM | exact aL | refine aC ?_ (Ty.aV _) | refine aC ?_ (Ty.aF _) | refine aC ?_ Ty.dQ | refine aK rfl (Cont.aF _) ?_)))
      all_goals trace_state
     have hcx := c.2.at_
     have hci : c.1.2.length ≤ p := by obtain ⟨i, i1, _, i3⟩ := c.2.ix; omega
     refine aE (aE (aA (AL rfl (ju rfl rfl rfl (bC rfl rfl rfl (e8 rfl ?_))))))
     apply aJ (s := 101) rfl rfl rfl
     ·intro hg; apply aO; (refine bI rfl ?_); refine aD ?_; exact rfl
     ·exact rfl
     ·exact rfl
     apply aJ (s := 101) rfl rfl rfl
     ·intro hg; apply aO; (refine bI rfl ?_); refine aD ?_; exact rfl
     ·exact rfl
     ·exact rfl
     apply aJ (s := 101) rfl rfl rfl
     ·intro hg; apply aH (s := 102) rfl (by (rw [hg]; rfl)); apply aH (s := 103) rfl (by (rw [hg]; rfl)); apply aO; (refine bC rfl rfl rfl ?_); refine aD ?_; exact rfl
     ·exact rfl
     ·exact rfl
     refine iC rfl rfl (aD (aB ?_))
     refine bt rfl (fun hc7 => ?_) (fun hc7 => ?_)
     ·
      refine aq (aB (aE (af (aA (AL rfl (sV rfl (bI rfl ?_)))))))
      refine cx rfl rfl rfl rfl rfl (by omega) ?_
      refine ou c.1.1 rfl rfl rfl (by decide) rfl rfl rfl (by omega) ?_
      refine bg (E := fk) (xs := [_]) rfl rfl rfl rfl rfl (by decide) (by decide) (by repeat (first | exact (aW.nil : aW _ _ [] _) | (show aW _ _ ((_, _) :: _) _; apply aW.agg; (· exact (rfl : _ = Ty.agg _))))) (by exact rfl) rfl ?_
      refine fI rfl rfl (by decide) rfl rfl rfl rfl rfl rfl (by decide) (by (simp <;> omega)) (by (simp <;> omega)) ?_
      refine AK rfl (aD (bM (aB (aA (ji rfl (sV rfl (bI rfl ?_)))))))
      refine cx rfl rfl rfl rfl rfl (by omega) ?_
      refine ou c.1.1 rfl rfl rfl (by decide) rfl rfl rfl (by omega) ?_
      refine eM [1000] (zW y fl a (nth st.by_ c.1.1) hcx.2.1.1) rfl (aY (kO (aY (bV (bR rfl rfl)) (aY (bV (bR rfl rfl)) (aY (bV (bR rfl rfl)) (aY (bV (bR rfl rfl)) (aY (bV (bR rfl rfl)) (aY (jY rfl hal (by decide) rfl) cY))))))) (aY (bV (bR rfl rfl)) cY)) (by exact c6 _ _) ?_
      refine bk rfl (aD ?_)
      refine bO (⟨(cF fl st c.1.1, c.1.2 ++ [nth st.by_ c.1.1]), (c.2.next hN hC p3 p1 (LC hc7)).1⟩) ?_ (by exact NP (c.2.next hN hC p3 p1 (LC hc7)).2)
      (refine cv.mk' ?_ ?_ <;> (repeat' (first | exact aM | exact aL | refine aC ?_ (Ty.aV _) | refine aC ?_ (Ty.aF _) | refine aK rfl (Cont.aF _) ?_ | refine aC ?_ ?_)))
      all_goals skip
      all_goals exact Ty.bU hcx.2.2
     refine cI (aP (aP (aj rfl (aB (aE (aA (AL rfl (AK rfl (aD ?_)))))))))
     refine aB (ay (uJ ?_))
     refine iQ [1000] rfl rfl (by decide) (by repeat (first | exact gR | refine fM rfl (cG (by decide) rfl) ?_)) ?_
     all_goals skip
     all_goals exact Cy (by decide) rfl (by rw [hFd.same]; exact c.2.end (Nn hc7)) (by rw [hFd.same]; exact OV c.2 (Nn hc7))
    refine aq (bM (aB (aA ?_)))
    refine b8 rfl rfl (by omega) (by omega) ?_
    refine bI rfl (aD ?_)
    refine bO (⟨(u.1.1 + 1, nD fl (cm has less) u.1.2 z.1.1 (nth (bH fl a z.1.1) u.1.1)), by exact u.2.MB hN hG hzn hun hc4 hc5⟩) ?_ (by show (bH fl a z.1.1).length - (u.1.1 + 1) < (bH fl a z.1.1).length - u.1.1; omega)
    (refine cv.mk' ?_ ?_ <;> (repeat' (first | exact aM | exact aL | refine aC ?_ (Ty.aV _) | refine aC ?_ (Ty.aF _) | refine aK rfl (Cont.aF _) ?_ | refine aK rfl ?_ ?_ | refine aC ?_ ?_)))
    all_goals skip
    all_goals first | exact Cont.fF (Mm hc4) | exact Cont.fF (NB hc4) | exact Ty.bU (NC hc4)
   refine aq (bM (aB (aA ?_)))
   refine b8 rfl rfl (by omega) (by omega) ?_
   refine bI rfl (aD ?_)
   refine bO (⟨(u.1.1 + 1, nD fl (cm has less) u.1.2 z.1.1 (nth (bH fl a z.1.1) u.1.1)), by exact u.2.Nb hzn hun hc4⟩) ?_ (by show (bH fl a z.1.1).length - (u.1.1 + 1) < (bH fl a z.1.1).length - u.1.1; omega)
   (refine cv.mk' ?_ ?_ <;> (repeat' (first | exact aM | exact aL | refine aC ?_ (Ty.aV _) | refine aC ?_ (Ty.aF _) | refine aK rfl (Cont.aF _) ?_ | refine aK rfl ?_ ?_ | refine aC ?_ ?_)))
   all_goals skip
   all_goals first | exact Cont.fF (Mx hc4) | exact Cont.fF (ND hc4) | exact Ty.bU (NO hc4)
  refine cI (aP (aP (aj rfl (bM (aB (aA ?_))))))
  refine b8 rfl rfl (by omega) (by omega) ?_
  refine bI rfl (aD ?_)
  refine bO (⟨(z.1.1 + 1, u.1.2), u.2.cell (by show ¬ (y.cells + 1) ≤ z.1.1; omega) (by show (bH fl a z.1.1).length ≤ u.1.1; omega)⟩) ?_ (by show (y.cells + 1) - (z.1.1 + 1) < (y.cells + 1) - z.1.1; omega)
  (refine cv.mk' ?_ ?_ <;> (repeat' (first | exact aM | exact aL | refine aC ?_ (Ty.aV _) | refine aC ?_ (Ty.aF _) | refine aK rfl (Cont.aF _) ?_)))
  all_goals skip
 refine cI (aP (aP (aj rfl (aB (aE (aA (bI rfl (bC rfl rfl rfl (aD ?_)))))))))
 refine aB ?_
 refine az rfl (fun hc8 => ?_) (fun hc8 => ?_)
 ·
  refine aE (aA (kE rfl (aD (aB (ay (au (aQ (aQ (au ?_)))))))))
  refine aQ (uJ ?_)
  refine iQ [1000] rfl rfl (by decide) (by repeat (first | exact gR | refine fM rfl (cG (by decide) rfl) ?_)) ?_
  all_goals skip
  all_goals exact CU (z.2.stop (by show (y.cells + 1) ≤ z.1.1; omega) (by assumption))
 refine aq (bM (aB (aA ?_)))
 refine b8 rfl rfl (by omega) (by omega) ?_
 refine bI rfl (aD ?_)
 refine bO (⟨(x.1.1 + 1, ⟨z.1.2.worth, z.1.2.by_, -1⟩), z.2.round (by show (y.cells + 1) ≤ z.1.1; omega) (by assumption), rfl⟩) ?_ (by show (y.cells + 1) - (x.1.1 + 1) < (y.cells + 1) - x.1.1; omega)
 (refine cv.mk' ?_ ?_ <;> (repeat' (first | exact aM | exact aL | refine aC ?_ (Ty.aV _) | refine aC ?_ (Ty.aF _) | refine aK rfl (Cont.aF _) ?_)))
 all_goals skip
end Go.Proofs.YtelbollidfdcjaaGreat
