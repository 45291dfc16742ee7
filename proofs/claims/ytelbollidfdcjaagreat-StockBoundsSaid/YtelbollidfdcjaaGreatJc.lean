/- Lemmas: the program and the reference walked, plain laws. -/
import Derived.Test.YtelbollidfdcjaaGreatJb
namespace Go.Proofs.YtelbollidfdcjaaGreat
open Go Go.T
set_option maxHeartbeats 2000000
structure aj.Small (y : aj) : Prop where
  bins : y.bins.length ≤ 1000
  moves : y.moves.length ≤ 1000
  levels : y.levels.length ≤ 1000
def yt (y : aj) : Ty := Ty.Qr 135 [eB y]
def Hi (y : aj) : Ty := Ty.pp [Ty.kT 142 [Ty.pp [yt y]]]
theorem HU {y : aj} (h : k8 y = false) : 1 ≤ y.days ∧ y.days ≤ 5 := by
 unfold k8 at h
 simp only [Bool.or_eq_false_iff, Bool.not_eq_false', dL] at h
 exact h.1.1.1
def c7 (y : aj) (k : Int) : Int := if bH y = 0 then if y.bin k = true then 0 else 1 else bH y
theorem Hu {y : aj} {k : Int} (h : (decide (bH y = 0) && !y.bin k) = true) : 1 = c7 y k := by
 rw [Bool.and_eq_true, decide_eq_true_eq, Bool.not_eq_true'] at h
 unfold c7; rw [if_pos h.1, if_neg (by rw [h.2]; decide)]
theorem Hv {y : aj} {k : Int} (h : (decide (bH y = 0) && !y.bin k) = false) : bH y = c7 y k := by
 unfold c7
 by_cases e : bH y = 0
 ·rw [decide_eq_true e, Bool.true_and, Bool.not_eq_false'] at h
  rw [if_pos e, if_pos h, e]
 rw [if_neg e]
attribute [local irreducible] gP e9 mA oA iG iE iK g9 iL oc iA oM dV fo n6 gC oW nth fS dY ay dP bodyPost Exit.then Exit.inBlock Code.wp Code.wpIn n7 hU oX oR iB eW cM cN bodyPostM dX
set_option maxRecDepth 100000 in
theorem uL (n lo hi : Int) : dP Tryz.prog 111 [Ty.int .i64 n, Ty.int .i64 lo, Ty.int .i64 hi] (Ty.bool (yY n lo hi)) := by
 refine ak Tryz.func111 rfl (by decide) Tryz.ntmps111 (by exact Nat.le_of_ble_eq_true rfl) fun w0 M0 => ?_
 refine aE (aA (dK rfl (aD (aC (aE (aA (bG rfl (bG rfl (bB rfl rfl rfl ?_)))))))))
 refine eY rfl ?_
 apply aM (s := 10) rfl rfl rfl
 ·intro hg; apply aO; (refine bG rfl ?_); refine aD ?_; exact rfl
 ·exact rfl
 ·exact rfl
 apply aM (s := 10) rfl rfl rfl
 ·intro hg; apply aO; (refine bG rfl ?_); refine aD ?_; exact rfl
 ·exact rfl
 ·exact rfl
 apply aM (s := 10) rfl rfl rfl
 ·intro hg; apply aH (s := 11) rfl (by (rw [hg]; rfl)); apply aH (s := 12) rfl (by (rw [hg]; rfl)); apply aO; (refine bB rfl rfl rfl ?_); refine aD ?_; exact rfl
 ·exact rfl
 ·exact rfl
 refine eA rfl rfl (dK rfl (aD (aC (az (bU rfl rfl ?_)))))
 all_goals exact cE rfl rfl
set_option maxRecDepth 100000 in
theorem FI (y : aj) (hs : y.Small) (n : Int) : dP Tryz.prog 135 [eB y, Ty.int .i64 n] (Ty.bool (y.bin n)) := by
 refine ak Tryz.func135 rfl (by decide) Tryz.ntmps135 (by exact Nat.le_of_ble_eq_true rfl) fun w0 M0 => ?_
 have hs1 := hs.bins
 refine aE (aA (bF rfl (dK rfl (aD (aC (aE (aA (bG rfl ?_))))))))
 refine aI rfl rfl rfl rfl rfl (by decide) ?_
 refine aJ rfl rfl rfl rfl (b9 rfl rfl rfl ?_)
 refine gZ rfl rfl (by omega) (by omega) ?_
 refine aZ (uL _ _ _) rfl rfl rfl rfl rfl (dK rfl (aD (aC (az (bU rfl rfl ?_)))))
 all_goals exact cE rfl rfl
set_option maxRecDepth 100000 in
theorem JL (y : aj) (n : Int) : dP Tryz.prog 122 [eB y, Ty.int .i64 n] (Ty.bool (y.time n)) := by
 refine ak Tryz.func122 rfl (by decide) Tryz.ntmps122 (by exact Nat.le_of_ble_eq_true rfl) fun w0 M0 => ?_
 refine aE (aA (bF rfl (dK rfl (aD (aC (aE (aA (bG rfl ?_))))))))
 refine aI rfl rfl rfl rfl rfl (by decide) ?_
 refine aJ rfl rfl rfl rfl (aZ (uL _ _ _) rfl rfl rfl rfl rfl (dK rfl (aD (aC (az (bU rfl rfl ?_))))))
 all_goals exact cE rfl rfl
set_option maxRecDepth 100000 in
theorem uA (s : Span) : dP Tryz.prog 145 [Ty.agg (bX.tys s)] (Ty.bool (fI s)) := by
 refine ak Tryz.func145 rfl (by decide) Tryz.ntmps145 (by exact Nat.le_of_ble_eq_true rfl) fun w0 M0 => ?_
 refine aE (aA (bF rfl (dK rfl (aD (aC (aE (aA ?_)))))))
 refine aI rfl rfl rfl rfl rfl (by decide) ?_
 refine aJ rfl rfl rfl rfl (aZ (uL _ _ _) rfl rfl rfl rfl rfl (eY rfl ?_))
 apply aM (s := 6) rfl rfl rfl
 ·intro hg; apply aO; (refine aI rfl rfl rfl rfl rfl (by decide) ?_); refine aD ?_; exact rfl
 ·exact rfl
 ·exact rfl
 apply aM (s := 6) rfl rfl rfl
 ·intro hg; apply aH (s := 7) rfl (by (rw [hg]; rfl)); apply aO; (refine aJ rfl rfl rfl rfl ?_); refine aD ?_; exact rfl
 ·exact rfl
 ·exact rfl
 apply aM (s := 6) rfl rfl rfl
 ·intro hg; apply aH (s := 8) rfl (by (rw [hg]; rfl)); apply aO; (refine aZ (uL _ _ _) rfl rfl rfl rfl rfl ?_); refine aD ?_; exact rfl
 ·exact rfl
 ·exact rfl
 refine eA rfl rfl (dK rfl (aD (aC (az (bU rfl rfl ?_)))))
 all_goals exact cE rfl rfl
set_option maxRecDepth 100000 in
theorem xY (s : Span) : dP Tryz.prog 154 [Ty.agg (bX.tys s)] (Ty.bool (ff s)) := by
 refine ak Tryz.func154 rfl (by decide) Tryz.ntmps154 (by exact Nat.le_of_ble_eq_true rfl) fun w0 M0 => ?_
 refine aE (aA (bF rfl (dK rfl (aD (aC (aE (aA ?_)))))))
 refine aI rfl rfl rfl rfl rfl (by decide) ?_
 refine aJ rfl rfl rfl rfl ?_
 refine aI rfl rfl rfl rfl rfl (by decide) ?_
 refine aJ rfl rfl rfl rfl (bB rfl rfl rfl (dK rfl (aD (aC (az (bU rfl rfl ?_))))))
 all_goals exact cE rfl rfl
set_option maxRecDepth 100000 in
theorem Cp (y : aj) (hs : y.Small) (n : Int) : dP Tryz.prog 142 [Ty.int .i64 n, Ty.pp [yt y]] (Ty.bool (y.fin n)) := by
 refine ak Tryz.func142 rfl (by decide) Tryz.ntmps142 (by exact Nat.le_of_ble_eq_true rfl) fun w0 M0 => ?_
 refine aE (aA (dK rfl (aD (aC (aE (aA (bG rfl (bB rfl rfl rfl (eY rfl ?_)))))))))
 apply aM (s := 6) rfl rfl rfl
 ·intro hg; apply aO; (refine aJ rfl rfl rfl rfl ?_); refine aD ?_; exact rfl
 ·exact rfl
 ·exact rfl
 apply aM (s := 6) rfl rfl rfl
 ·intro hg; apply aO; (refine bG rfl ?_); refine aD ?_; exact rfl
 ·exact rfl
 ·exact rfl
 apply aM (s := 6) rfl rfl rfl
 ·intro hg; apply aH (s := 7) rfl (by (rw [hg]; rfl)); apply aH (s := 8) rfl (by (rw [hg]; rfl)); apply aO; (refine fA rfl (FG (FI y hs n) rfl rfl rfl rfl rfl rfl) rfl ?_); refine aD ?_; exact rfl
 ·exact rfl
 ·exact rfl
 refine gN rfl rfl (dK rfl (aD (aC (az (bU rfl rfl ?_)))))
 all_goals exact cE rfl rfl
set_option maxRecDepth 100000 in
theorem IY (b : tR) : dP Tryz.prog 144 [Ty.agg (fL.tys b)] (Ty.bool (yY b.holds 0 300 && fI b.first)) := by
 refine ak Tryz.func144 rfl (by decide) Tryz.ntmps144 (by exact Nat.le_of_ble_eq_true rfl) fun w0 M0 => ?_
 refine aE (aA (bF rfl (dK rfl (aD (aC (aE (aA ?_)))))))
 refine aI rfl rfl rfl rfl rfl (by decide) ?_
 refine aJ rfl rfl rfl rfl (aZ (uL _ _ _) rfl rfl rfl rfl rfl (eY rfl ?_))
 apply aM (s := 6) rfl rfl rfl
 ·intro hg; apply aO; (refine aI rfl rfl rfl rfl rfl (by decide) ?_); refine aD ?_; exact rfl
 ·exact rfl
 ·exact rfl
 apply aM (s := 6) rfl rfl rfl
 ·intro hg; apply aH (s := 7) rfl (by (rw [hg]; rfl)); apply aO; (refine aX rfl rfl rfl (by exact Nat.le_of_ble_eq_true rfl) ?_); refine aD ?_; exact rfl
 ·exact rfl
 ·exact rfl
 apply aM (s := 6) rfl rfl rfl
 ·intro hg; apply aH (s := 8) rfl (by (rw [hg]; rfl)); apply aO; (refine aZ (uA _) rfl rfl rfl rfl rfl ?_); refine aD ?_; exact rfl
 ·exact rfl
 ·exact rfl
 refine eA rfl rfl (dK rfl (aD (aC (az (bU rfl rfl ?_)))))
 all_goals exact cE rfl rfl
set_option maxRecDepth 100000 in
theorem LU (m : Move) : dP Tryz.prog 147 [Ty.agg (eS.tys m)] (Ty.bool (fI m.sacks)) := by
 refine ak Tryz.func147 rfl (by decide) Tryz.ntmps147 (by exact Nat.le_of_ble_eq_true rfl) fun w0 M0 => ?_
 refine aE (aA (bF rfl (dK rfl (aD (aC (aE (aA ?_)))))))
 refine aI rfl rfl rfl rfl rfl (by decide) ?_
 refine aX rfl rfl rfl (by exact Nat.le_of_ble_eq_true rfl) ?_
 refine aZ (uA _) rfl rfl rfl rfl rfl (dK rfl (aD (aC (az (bU rfl rfl ?_)))))
 all_goals exact cE rfl rfl
set_option maxRecDepth 100000 in
theorem LS (l : Level) : dP Tryz.prog 149 [Ty.agg (dg.tys l)] (Ty.bool (fI l.sacks)) := by
 refine ak Tryz.func149 rfl (by decide) Tryz.ntmps149 (by exact Nat.le_of_ble_eq_true rfl) fun w0 M0 => ?_
 refine aE (aA (bF rfl (dK rfl (aD (aC (aE (aA ?_)))))))
 refine aI rfl rfl rfl rfl rfl (by decide) ?_
 refine aX rfl rfl rfl (by exact Nat.le_of_ble_eq_true rfl) ?_
 refine aZ (uA _) rfl rfl rfl rfl rfl (dK rfl (aD (aC (az (bU rfl rfl ?_)))))
 all_goals exact cE rfl rfl
set_option maxRecDepth 100000 in
theorem Km (y : aj) (hs : y.Small) (hd : 1 ≤ y.days ∧ y.days ≤ 5) (m : Move) : dP Tryz.prog 150 [Ty.agg (eS.tys m), Ty.pp (bA y), Hi y] (Ty.bool ((yY m.day 0 (y.days - 1) && y.fin m.src) && y.fin m.dst)) := by
 refine ak Tryz.func150 rfl (by decide) Tryz.ntmps150 (by exact Nat.le_of_ble_eq_true rfl) fun w0 M0 => ?_
 refine aE (aA (bF rfl (dK rfl (aD (aC (aE (aA ?_)))))))
 refine aI rfl rfl rfl rfl rfl (by decide) ?_
 refine aJ rfl rfl rfl rfl ?_
 refine aI rfl rfl rfl rfl rfl (by decide) ?_
 refine aJ rfl rfl rfl rfl ?_
 refine gZ rfl rfl (by omega) (by omega) ?_
 refine aZ (uL _ _ _) rfl rfl rfl rfl rfl (eY rfl ?_)
 apply aM (s := 11) rfl rfl rfl
 ·intro hg; apply aO; (refine aJ rfl rfl rfl rfl ?_); refine aD ?_; exact rfl
 ·exact rfl
 ·exact rfl
 apply aM (s := 11) rfl rfl rfl
 ·intro hg; apply aO; (refine aI rfl rfl rfl rfl rfl (by decide) ?_); refine aD ?_; exact rfl
 ·exact rfl
 ·exact rfl
 apply aM (s := 11) rfl rfl rfl
 ·intro hg; apply aH (s := 13) rfl (by (rw [hg]; rfl)); apply aO; (refine aJ rfl rfl rfl rfl ?_); refine aD ?_; exact rfl
 ·exact rfl
 ·exact rfl
 apply aM (s := 11) rfl rfl rfl
 ·intro hg; apply aH (s := 12) rfl (by (rw [hg]; rfl)); apply aH (s := 14) rfl (by (rw [hg]; rfl)); apply aO; (refine fA rfl (dn (Cp y hs m.src) rfl rfl rfl rfl rfl rfl) rfl ?_); refine aD ?_; exact rfl
 ·exact rfl
 ·exact rfl
 refine eA rfl rfl (eY rfl ?_)
 apply aM (s := 17) rfl rfl rfl
 ·intro hg; apply aO; (refine aJ rfl rfl rfl rfl ?_); refine aD ?_; exact rfl
 ·exact rfl
 ·exact rfl
 apply aM (s := 17) rfl rfl rfl
 ·intro hg; apply aO; (refine aI rfl rfl rfl rfl rfl (by decide) ?_); refine aD ?_; exact rfl
 ·exact rfl
 ·exact rfl
 apply aM (s := 17) rfl rfl rfl
 ·intro hg; apply aH (s := 19) rfl (by (rw [hg]; rfl)); apply aO; (refine aJ rfl rfl rfl rfl ?_); refine aD ?_; exact rfl
 ·exact rfl
 ·exact rfl
 apply aM (s := 17) rfl rfl rfl
 ·intro hg; apply aH (s := 18) rfl (by (rw [hg]; rfl)); apply aH (s := 20) rfl (by (rw [hg]; rfl)); apply aO; (refine fA rfl (dn (Cp y hs m.dst) rfl rfl rfl rfl rfl rfl) rfl ?_); refine aD ?_; exact rfl
 ·exact rfl
 ·exact rfl
 refine eA rfl rfl (dK rfl (aD (aC (az (bU rfl rfl ?_)))))
 all_goals exact cE rfl rfl
set_option maxRecDepth 100000 in
theorem IU (y : aj) (hs : y.Small) (l : Level) : dP Tryz.prog 151 [Ty.agg (dg.tys l), Ty.pp (bA y), Ty.pp [yt y]] (Ty.bool (y.time l.day && y.bin l.bin)) := by
 refine ak Tryz.func151 rfl (by decide) Tryz.ntmps151 (by exact Nat.le_of_ble_eq_true rfl) fun w0 M0 => ?_
 refine aE (aA (bF rfl (dK rfl (aD (aC (aE (aA ?_)))))))
 refine aX rfl rfl rfl (by exact Nat.le_of_ble_eq_true rfl) ?_
 refine aI rfl rfl rfl rfl rfl (by decide) ?_
 refine aJ rfl rfl rfl rfl (aZ (JL y _) rfl rfl rfl rfl rfl (eY rfl ?_))
 apply aM (s := 9) rfl rfl rfl
 ·intro hg; apply aO; (refine aJ rfl rfl rfl rfl ?_); refine aD ?_; exact rfl
 ·exact rfl
 ·exact rfl
 apply aM (s := 9) rfl rfl rfl
 ·intro hg; apply aO; (refine aI rfl rfl rfl rfl rfl (by decide) ?_); refine aD ?_; exact rfl
 ·exact rfl
 ·exact rfl
 apply aM (s := 9) rfl rfl rfl
 ·intro hg; apply aH (s := 11) rfl (by (rw [hg]; rfl)); apply aO; (refine aJ rfl rfl rfl rfl ?_); refine aD ?_; exact rfl
 ·exact rfl
 ·exact rfl
 apply aM (s := 9) rfl rfl rfl
 ·intro hg; apply aH (s := 10) rfl (by (rw [hg]; rfl)); apply aH (s := 12) rfl (by (rw [hg]; rfl)); apply aO; (refine fA rfl (FG (FI y hs l.bin) rfl rfl rfl rfl rfl rfl) rfl ?_); refine aD ?_; exact rfl
 ·exact rfl
 ·exact rfl
 refine eA rfl rfl (dK rfl (aD (aC (az (bU rfl rfl ?_)))))
 all_goals exact cE rfl rfl
set_option maxRecDepth 100000 in
theorem Iu (m : Move) : dP Tryz.prog 152 [Ty.agg (eS.tys m)] (Ty.bool (!decide (m.src = m.dst))) := by
 refine ak Tryz.func152 rfl (by decide) Tryz.ntmps152 (by exact Nat.le_of_ble_eq_true rfl) fun w0 M0 => ?_
 refine aE (aA (bF rfl (dK rfl (aD (aC (aE (aA ?_)))))))
 refine aI rfl rfl rfl rfl rfl (by decide) ?_
 refine aJ rfl rfl rfl rfl ?_
 refine aI rfl rfl rfl rfl rfl (by decide) ?_
 refine aJ rfl rfl rfl rfl (bB rfl rfl rfl (dK rfl (aD (aC (az (bU rfl rfl ?_))))))
 all_goals exact cE rfl rfl
set_option maxRecDepth 100000 in
theorem Iy (b : tR) : dP Tryz.prog 153 [Ty.agg (fL.tys b)] (Ty.bool (ff b.first)) := by
 refine ak Tryz.func153 rfl (by decide) Tryz.ntmps153 (by exact Nat.le_of_ble_eq_true rfl) fun w0 M0 => ?_
 refine aE (aA (bF rfl (dK rfl (aD (aC (aE (aA ?_)))))))
 refine aI rfl rfl rfl rfl rfl (by decide) ?_
 refine aX rfl rfl rfl (by exact Nat.le_of_ble_eq_true rfl) ?_
 refine aZ (xY _) rfl rfl rfl rfl rfl (dK rfl (aD (aC (az (bU rfl rfl ?_)))))
 all_goals exact cE rfl rfl
set_option maxRecDepth 100000 in
theorem Ij (m : Move) : dP Tryz.prog 155 [Ty.agg (eS.tys m)] (Ty.bool (ff m.sacks)) := by
 refine ak Tryz.func155 rfl (by decide) Tryz.ntmps155 (by exact Nat.le_of_ble_eq_true rfl) fun w0 M0 => ?_
 refine aE (aA (bF rfl (dK rfl (aD (aC (aE (aA ?_)))))))
 refine aI rfl rfl rfl rfl rfl (by decide) ?_
 refine aX rfl rfl rfl (by exact Nat.le_of_ble_eq_true rfl) ?_
 refine aZ (xY _) rfl rfl rfl rfl rfl (dK rfl (aD (aC (az (bU rfl rfl ?_)))))
 all_goals exact cE rfl rfl
set_option maxRecDepth 100000 in
theorem He (l : Level) : dP Tryz.prog 156 [Ty.agg (dg.tys l)] (Ty.bool (ff l.sacks)) := by
 refine ak Tryz.func156 rfl (by decide) Tryz.ntmps156 (by exact Nat.le_of_ble_eq_true rfl) fun w0 M0 => ?_
 refine aE (aA (bF rfl (dK rfl (aD (aC (aE (aA ?_)))))))
 refine aI rfl rfl rfl rfl rfl (by decide) ?_
 refine aX rfl rfl rfl (by exact Nat.le_of_ble_eq_true rfl) ?_
 refine aZ (xY _) rfl rfl rfl rfl rfl (dK rfl (aD (aC (az (bU rfl rfl ?_)))))
 all_goals exact cE rfl rfl
set_option maxRecDepth 100000 in
theorem ld (y : aj) (hs : y.Small) : dP Tryz.prog 70 [eB y] (Ty.int .i64 (bH y)) := by
 refine ak Tryz.func70 rfl (by decide) Tryz.ntmps70 (by exact Nat.le_of_ble_eq_true rfl) fun w0 M0 => ?_
 have hs1 := hs.bins
 have hs2 := hs.moves
 have hs3 := hs.levels
 refine aE (aA (bF rfl (bu rfl (aD (aC (aE (aA ?_)))))))
 refine aX rfl rfl rfl (by exact Nat.le_of_ble_eq_true rfl) ?_
 refine GZ (l := [eB y]) rfl ?_
 refine bh rfl (by exact List.cons_ne_nil _ _) rfl ?_
 refine cr rfl rfl (by decide) rfl rfl (by exact (rfl : _ = Ty.Qr _ _)) rfl (by exact Nat.le_of_ble_eq_true rfl) rfl rfl (by exact (rfl : _ = [_])) ?_
 refine aD (aC (aE ?_))
 refine kD (tg := 4) [(3, Ty.pp [yt y])] (by decide) rfl ⟨mW (T := 118) (tg := 4) (off := 0) (l := [yt y]) rfl rfl rfl (by decide), trivial⟩ ?_
 refine aA (dh rfl ?_)
 refine bh rfl (by exact List.cons_ne_nil _ _) rfl ?_
 refine cr rfl rfl (by decide) rfl rfl (by exact (rfl : _ = Ty.kT _ _)) rfl (by exact Nat.le_of_ble_eq_true rfl) rfl rfl (by exact (rfl : _ = [_])) ?_
 refine aD (aC (aE (aa (aE ?_))))
 refine kD (tg := 5) [(4, Hi y)] (by decide) rfl ⟨mW (T := 118) (tg := 5) (off := 0) (l := [Ty.kT 142 [Ty.pp [yt y]]]) rfl rfl rfl (by decide), trivial⟩ ?_
 refine aA ?_
 refine aI rfl rfl rfl rfl rfl (by decide) ?_
 refine aJ rfl rfl rfl rfl (aZ (uL _ _ _) rfl rfl rfl rfl rfl (dr rfl (eY rfl ?_)))
 apply aM (s := 13) rfl rfl rfl
 ·intro hg; apply aO; (refine aI rfl rfl rfl rfl rfl (by decide) ?_); refine aD ?_; exact rfl
 ·exact rfl
 ·exact rfl
 apply aM (s := 13) rfl rfl rfl
 ·intro hg; apply aH (s := 14) rfl (by (rw [hg]; rfl)); apply aO; (refine aJ rfl rfl rfl rfl ?_); refine aD ?_; exact rfl
 ·exact rfl
 ·exact rfl
 apply aM (s := 13) rfl rfl rfl
 ·intro hg; apply aH (s := 15) rfl (by (rw [hg]; rfl)); apply aO; (refine b9 rfl rfl rfl ?_); refine aD ?_; exact rfl
 ·exact rfl
 ·exact rfl
 apply aM (s := 13) rfl rfl rfl
 ·intro hg; apply aH (s := 16) rfl (by (rw [hg]; rfl)); apply aO; (refine aZ (uL _ _ _) rfl rfl rfl rfl rfl ?_); refine aD ?_; exact rfl
 ·exact rfl
 ·exact rfl
 apply aM (s := 13) rfl rfl rfl
 ·intro hg; apply aH (s := 17) rfl (by (rw [hg]; rfl)); apply aO; (refine dr rfl ?_); refine aD ?_; exact rfl
 ·exact rfl
 ·exact rfl
 refine gN rfl rfl (eY rfl ?_)
 apply aM (s := 20) rfl rfl rfl
 ·intro hg; apply aO; (refine aI rfl rfl rfl rfl rfl (by decide) ?_); refine aD ?_; exact rfl
 ·exact rfl
 ·exact rfl
 apply aM (s := 20) rfl rfl rfl
 ·intro hg; apply aH (s := 21) rfl (by (rw [hg]; rfl)); apply aO; (refine aJ rfl rfl rfl rfl ?_); refine aD ?_; exact rfl
 ·exact rfl
 ·exact rfl
 apply aM (s := 20) rfl rfl rfl
 ·intro hg; apply aH (s := 22) rfl (by (rw [hg]; rfl)); apply aO; (refine b9 rfl rfl rfl ?_); refine aD ?_; exact rfl
 ·exact rfl
 ·exact rfl
 apply aM (s := 20) rfl rfl rfl
 ·intro hg; apply aH (s := 23) rfl (by (rw [hg]; rfl)); apply aO; (refine bB rfl rfl rfl ?_); refine aD ?_; exact rfl
 ·exact rfl
 ·exact rfl
 refine gN rfl rfl (eY rfl ?_)
 apply aM (s := 26) rfl rfl rfl
 ·intro hg; apply aO; (refine aI rfl rfl rfl rfl rfl (by decide) ?_); refine aD ?_; exact rfl
 ·exact rfl
 ·exact rfl
 apply aM (s := 26) rfl rfl rfl
 ·intro hg; apply aH (s := 27) rfl (by (rw [hg]; rfl)); apply aO; (refine aJ rfl rfl rfl rfl ?_); refine aD ?_; exact rfl
 ·exact rfl
 ·exact rfl
 apply aM (s := 26) rfl rfl rfl
 ·intro hg; apply aH (s := 28) rfl (by (rw [hg]; rfl)); apply aO; (refine b9 rfl rfl rfl ?_); refine aD ?_; exact rfl
 ·exact rfl
 ·exact rfl
 apply aM (s := 26) rfl rfl rfl
 ·intro hg; apply aH (s := 29) rfl (by (rw [hg]; rfl)); apply aO; (refine bB rfl rfl rfl ?_); refine aD ?_; exact rfl
 ·exact rfl
 ·exact rfl
 refine gN rfl rfl (dK rfl (aD (aC ?_)))
 refine cC rfl (fun hc1 => ?_) (fun hc1 => ?_)
 ·
  refine aE (aA (bu rfl (aD (aC (az (bC (aS (bU rfl rfl ?_))))))))
  all_goals skip
  exact av rfl rfl (congrArg (Ty.int .i64) (by rw [bH, if_pos (show k8 y = true from hc1)]))
 refine aE ?_
 refine eJ (B := live [(1, Ty.pp (bA y)), (3, Ty.pp [yt y]), (4, Hi y)] []) ?_ ?_
 ·(refine cg.mk' ?_ ?_ <;> (repeat' (first | exact aL | exact aK | refine aB ?_ (Ty.aT _) | refine aB ?_ (Ty.aF _))))
 refine aA ?_
 refine aI rfl rfl rfl rfl rfl (by decide) ?_
 refine aJ rfl rfl rfl rfl ?_
 refine aZ (uo y.bins (Ty.kT _ []) rfl (fun b => yY b.holds 0 300 && fI b.first) rfl rfl fun b _ => dn (IY b) rfl rfl rfl rfl rfl rfl) rfl rfl rfl rfl rfl ?_
 refine dr rfl (dK rfl (aD (aC ?_)))
 refine cC rfl (fun hc2 => ?_) (fun hc2 => ?_)
 ·
  refine aE (aA (bu rfl (aD (aC (az (bC (aS (bU rfl rfl ?_))))))))
  all_goals skip
  exact av rfl rfl (congrArg (Ty.int .i64) (by rw [bH, if_neg (ng (show k8 y = false from hc1)), if_pos (show kP y = true from hc2)]))
 refine aE (aA ?_)
 refine aI rfl rfl rfl rfl rfl (by decide) ?_
 refine aJ rfl rfl rfl rfl ?_
 refine aZ (m6 y.moves (Ty.kT _ []) rfl (fun m => fI m.sacks) rfl rfl fun m _ => dn (LU m) rfl rfl rfl rfl rfl rfl) rfl rfl rfl rfl rfl ?_
 refine dr rfl (eY rfl ?_)
 apply aM (s := 42) rfl rfl rfl
 ·intro hg; apply aO; (refine aI rfl rfl rfl rfl rfl (by decide) ?_); refine aD ?_; exact rfl
 ·exact rfl
 ·exact rfl
 apply aM (s := 42) rfl rfl rfl
 ·intro hg; apply aH (s := 43) rfl (by (rw [hg]; rfl)); apply aO; (refine aJ rfl rfl rfl rfl ?_); refine aD ?_; exact rfl
 ·exact rfl
 ·exact rfl
 apply aM (s := 42) rfl rfl rfl
 ·intro hg; apply aH (s := 44) rfl (by (rw [hg]; rfl)); apply aO; (refine aZ (qB y.levels (Ty.kT _ []) rfl (fun l => fI l.sacks) rfl rfl fun l _ => dn (LS l) rfl rfl rfl rfl rfl rfl) rfl rfl rfl rfl rfl ?_); refine aD ?_; exact rfl
 ·exact rfl
 ·exact rfl
 apply aM (s := 42) rfl rfl rfl
 ·intro hg; apply aH (s := 45) rfl (by (rw [hg]; rfl)); apply aO; (refine dr rfl ?_); refine aD ?_; exact rfl
 ·exact rfl
 ·exact rfl
 refine gN rfl rfl (dK rfl (aD (aC ?_)))
 refine cC rfl (fun hc3 => ?_) (fun hc3 => ?_)
 ·
  refine aE (aA (bu rfl (aD (aC (az (bC (aS (bU rfl rfl ?_))))))))
  all_goals skip
  exact av rfl rfl (congrArg (Ty.int .i64) (by rw [bH, if_neg (ng (show k8 y = false from hc1)), if_neg (ng (show kP y = false from hc2)), if_pos (show iz y = true from hc3)]))
 refine aE ?_
 refine eJ (B := live [(1, Ty.pp (bA y)), (3, Ty.pp [yt y]), (4, Hi y)] []) ?_ ?_
 ·(refine cg.mk' ?_ ?_ <;> (repeat' (first | exact aL | exact aK | refine aB ?_ (Ty.aT _) | refine aB ?_ (Ty.aF _))))
 have hd := HU hc1
 refine aA ?_
 refine aI rfl rfl rfl rfl rfl (by decide) ?_
 refine aJ rfl rfl rfl rfl (dh rfl ?_)
 refine aZ (m6 y.moves (Ty.kT _ [Ty.pp (bA y), Hi y]) rfl (fun m => (yY m.day 0 (y.days - 1) && y.fin m.src) && y.fin m.dst) rfl rfl fun m _ => dn (Km y hs hd m) rfl rfl rfl rfl rfl rfl) rfl rfl rfl rfl rfl ?_
 refine dr rfl (dK rfl (aD (aC ?_)))
 refine cC rfl (fun hc4 => ?_) (fun hc4 => ?_)
 ·
  refine aE (aA (bu rfl (aD (aC (az (bC (aS (bU rfl rfl ?_))))))))
  all_goals skip
  exact av rfl rfl (congrArg (Ty.int .i64) (by rw [bH, if_neg (ng (show k8 y = false from hc1)), if_neg (ng (show kP y = false from hc2)), if_neg (ng (show iz y = false from hc3)), if_pos (show wg y = true from hc4)]))
 refine aE (aA ?_)
 refine aI rfl rfl rfl rfl rfl (by decide) ?_
 refine aJ rfl rfl rfl rfl (dh rfl ?_)
 refine aZ (qB y.levels (Ty.kT _ [Ty.pp (bA y), Ty.pp [yt y]]) rfl (fun l => y.time l.day && y.bin l.bin) rfl rfl fun l _ => dn (IU y hs l) rfl rfl rfl rfl rfl rfl) rfl rfl rfl rfl rfl ?_
 refine dr rfl (dK rfl (aD (aC ?_)))
 refine cC rfl (fun hc5 => ?_) (fun hc5 => ?_)
 ·
  refine aE (aA (bu rfl (aD (aC (az (bC (aS (bU rfl rfl ?_))))))))
  all_goals skip
  exact av rfl rfl (congrArg (Ty.int .i64) (by rw [bH, if_neg (ng (show k8 y = false from hc1)), if_neg (ng (show kP y = false from hc2)), if_neg (ng (show iz y = false from hc3)), if_neg (ng (show wg y = false from hc4)), if_pos (show rG y = true from hc5)]))
 refine aE ?_
 refine eJ (B := live [(1, Ty.pp (bA y)), (3, Ty.pp [yt y]), (4, Hi y)] []) ?_ ?_
 ·(refine cg.mk' ?_ ?_ <;> (repeat' (first | exact aL | exact aK | refine aB ?_ (Ty.aT _) | refine aB ?_ (Ty.aF _))))
 refine aA ?_
 refine aI rfl rfl rfl rfl rfl (by decide) ?_
 refine aJ rfl rfl rfl rfl ?_
 refine aZ (m6 y.moves (Ty.kT _ []) rfl (fun m => !decide (m.src = m.dst)) rfl rfl fun m _ => dn (Iu m) rfl rfl rfl rfl rfl rfl) rfl rfl rfl rfl rfl ?_
 refine dr rfl (dK rfl (aD (aC ?_)))
 refine cC rfl (fun hc6 => ?_) (fun hc6 => ?_)
 ·
  refine aE (aA (bu rfl (aD (aC (az (bC (aS (bU rfl rfl ?_))))))))
  all_goals skip
  exact av rfl rfl (congrArg (Ty.int .i64) (by rw [bH, if_neg (ng (show k8 y = false from hc1)), if_neg (ng (show kP y = false from hc2)), if_neg (ng (show iz y = false from hc3)), if_neg (ng (show wg y = false from hc4)), if_neg (ng (show rG y = false from hc5)), if_pos (show pK y = true from hc6)]))
 refine aE (aA ?_)
 refine aI rfl rfl rfl rfl rfl (by decide) ?_
 refine aJ rfl rfl rfl rfl ?_
 refine aZ (uo y.bins (Ty.kT _ []) rfl (fun b => ff b.first) rfl rfl fun b _ => dn (Iy b) rfl rfl rfl rfl rfl rfl) rfl rfl rfl rfl rfl ?_
 refine dr rfl (eY rfl ?_)
 apply aM (s := 70) rfl rfl rfl
 ·intro hg; apply aO; (refine aI rfl rfl rfl rfl rfl (by decide) ?_); refine aD ?_; exact rfl
 ·exact rfl
 ·exact rfl
 apply aM (s := 70) rfl rfl rfl
 ·intro hg; apply aH (s := 71) rfl (by (rw [hg]; rfl)); apply aO; (refine aJ rfl rfl rfl rfl ?_); refine aD ?_; exact rfl
 ·exact rfl
 ·exact rfl
 apply aM (s := 70) rfl rfl rfl
 ·intro hg; apply aH (s := 72) rfl (by (rw [hg]; rfl)); apply aO; (refine aZ (m6 y.moves (Ty.kT _ []) rfl (fun m => ff m.sacks) rfl rfl fun m _ => dn (Ij m) rfl rfl rfl rfl rfl rfl) rfl rfl rfl rfl rfl ?_); refine aD ?_; exact rfl
 ·exact rfl
 ·exact rfl
 apply aM (s := 70) rfl rfl rfl
 ·intro hg; apply aH (s := 73) rfl (by (rw [hg]; rfl)); apply aO; (refine dr rfl ?_); refine aD ?_; exact rfl
 ·exact rfl
 ·exact rfl
 refine gN rfl rfl (eY rfl ?_)
 apply aM (s := 76) rfl rfl rfl
 ·intro hg; apply aO; (refine aI rfl rfl rfl rfl rfl (by decide) ?_); refine aD ?_; exact rfl
 ·exact rfl
 ·exact rfl
 apply aM (s := 76) rfl rfl rfl
 ·intro hg; apply aH (s := 77) rfl (by (rw [hg]; rfl)); apply aO; (refine aJ rfl rfl rfl rfl ?_); refine aD ?_; exact rfl
 ·exact rfl
 ·exact rfl
 apply aM (s := 76) rfl rfl rfl
 ·intro hg; apply aH (s := 78) rfl (by (rw [hg]; rfl)); apply aO; (refine aZ (qB y.levels (Ty.kT _ []) rfl (fun l => ff l.sacks) rfl rfl fun l _ => dn (He l) rfl rfl rfl rfl rfl rfl) rfl rfl rfl rfl rfl ?_); refine aD ?_; exact rfl
 ·exact rfl
 ·exact rfl
 apply aM (s := 76) rfl rfl rfl
 ·intro hg; apply aH (s := 79) rfl (by (rw [hg]; rfl)); apply aO; (refine dr rfl ?_); refine aD ?_; exact rfl
 ·exact rfl
 ·exact rfl
 refine gN rfl rfl (dK rfl (aD (aC ?_)))
 refine cC rfl (fun hc7 => ?_) (fun hc7 => ?_)
 ·
  refine aE (aA (bu rfl (aD (aC (az (bC (aS (bU rfl rfl ?_))))))))
  all_goals skip
  exact av rfl rfl (congrArg (Ty.int .i64) (by rw [bH, if_neg (ng (show k8 y = false from hc1)), if_neg (ng (show kP y = false from hc2)), if_neg (ng (show iz y = false from hc3)), if_neg (ng (show wg y = false from hc4)), if_neg (ng (show rG y = false from hc5)), if_neg (ng (show pK y = false from hc6)), if_pos (show pO y = true from hc7)]))
 refine af (bM (aC (aE (aA (bu rfl (aD (aC (az (bU rfl rfl ?_)))))))))
 all_goals skip
 exact av rfl rfl (congrArg (Ty.int .i64) (by rw [bH, if_neg (ng (show k8 y = false from hc1)), if_neg (ng (show kP y = false from hc2)), if_neg (ng (show iz y = false from hc3)), if_neg (ng (show wg y = false from hc4)), if_neg (ng (show rG y = false from hc5)), if_neg (ng (show pK y = false from hc6)), if_neg (ng (show pO y = false from hc7))]))
set_option maxRecDepth 100000 in
theorem wE (y : aj) (hs : y.Small) (k : Int) : dP Tryz.prog 90 [eB y, Ty.int .i64 k] (Ty.int .i64 (c7 y k)) := by
 refine ak Tryz.func90 rfl (by decide) Tryz.ntmps90 (by exact Nat.le_of_ble_eq_true rfl) fun w0 M0 => ?_
 refine aE (aA (bF rfl (bu rfl (aD (aC (aE (aA ?_)))))))
 refine aX rfl rfl rfl (by exact Nat.le_of_ble_eq_true rfl) ?_
 refine aZ (ld y hs) rfl rfl rfl rfl rfl (bu rfl (aD (aC (aE (aE (aA (bG rfl (bB rfl rfl rfl (eY rfl ?_)))))))))
 apply aM (s := 10) rfl rfl rfl
 ·intro hg; apply aO; (refine aX rfl rfl rfl (by exact Nat.le_of_ble_eq_true rfl) ?_); refine aD ?_; exact rfl
 ·exact rfl
 ·exact rfl
 apply aM (s := 10) rfl rfl rfl
 ·intro hg; apply aO; (refine bG rfl ?_); refine aD ?_; exact rfl
 ·exact rfl
 ·exact rfl
 apply aM (s := 10) rfl rfl rfl
 ·intro hg; apply aH (s := 11) rfl (by (rw [hg]; rfl)); apply aH (s := 12) rfl (by (rw [hg]; rfl)); apply aO; (refine aZ (FI y hs _) rfl rfl rfl rfl rfl ?_); refine aD ?_; exact rfl
 ·exact rfl
 ·exact rfl
 apply aM (s := 10) rfl rfl rfl
 ·intro hg; apply aH (s := 13) rfl (by (rw [hg]; rfl)); apply aO; (refine dr rfl ?_); refine aD ?_; exact rfl
 ·exact rfl
 ·exact rfl
 refine eA rfl rfl (aD (aC ?_))
 refine cC rfl (fun hc1 => ?_) (fun hc1 => ?_)
 ·
  refine aA (bu rfl (aD (aC (aE (aA (bG rfl (bu rfl (aD (aC ?_)))))))))
  refine az (bU rfl rfl ?_)
  all_goals skip
  all_goals exact av rfl rfl (congrArg (Ty.int .i64) (Hu hc1))
 refine af (aC (aE (aA (bG rfl (bu rfl (aD (aC (az (bU rfl rfl ?_)))))))))
 all_goals skip
 all_goals exact av rfl rfl (congrArg (Ty.int .i64) (Hv hc1))
end Go.Proofs.YtelbollidfdcjaaGreat
namespace Go.T
open Go Go.RowKit
def rM (A : As) (L : List Nat) (s t : Ty) : Prop := ∀ w M v, Wf w M → (∀ x ∈ A.tags, x.1 ∈ L → x.2.den w M x.1) → s.den w M v → t.den w (rA M L) v
def ow (A : As) (L : List Nat) : List Ty → List Ty → Prop
  | [], [] => True
  | s :: ss, t :: ts => rM A L s t ∧ ow A L ss ts
  | _, _ => False
theorem cP {A : As} {L : List Nat} : ow A L [] [] := trivial
theorem aW {A : As} {L : List Nat} {s t : Ty} {ss ts : List Ty} (h : rM A L s t) (h' : ow A L ss ts) : ow A L (s :: ss) (t :: ts) := ⟨h, h'⟩
theorem qI {A : As} {L : List Nat} {w : World} {M : bD} (wf : Wf w M) (ht : ∀ x ∈ A.tags, x.1 ∈ L → x.2.den w M x.1) : ∀ {ss ts : List Ty} {vs : List Value}, ow A L ss ts → cF w M ss vs → cF w (rA M L) ts vs
  | [], [], [], _, _ => trivial
  | _ :: _, _ :: _, _ :: _, ⟨h, h'⟩, ⟨h1, h2⟩ => ⟨h _ _ _ wf ht h1, qI wf ht h' h2⟩
theorem bV {A : As} {L : List Nat} {s t : Ty} (h : Pg L s t) : rM A L s t := fun w M v wf _ hd => h w M v wf hd
theorem AQ {A : As} {L : List Nat} {ss ts : List Ty} (h : ow A L ss ts) : rM A L (Ty.agg ss) (Ty.agg ts) := fun _ _ _ wf ht ⟨cs, e, hd⟩ => ⟨cs, e, qI wf ht h hd⟩
theorem j0 {A : As} {L : List Nat} {α : Type} {E : El α} {T tg n : Nat} {xs : List α} (hc : A.tag tg = some (.vec E T xs)) (hn : xs.length = n) (h1 : fu tg) (hL : L.contains tg = true) : rM A L (.vs tg n) (.sl E xs) := fun w M v wf ht hd => by
 have hL' : tg ∈ L := by simpa using hL
 have hv : fo E T xs w M tg := ht _ (cj hc) hL'
 subst hn
 rcases hd with ⟨h0, rfl⟩ | ⟨b, cc, hb, e, hn1, hn2⟩
 ·exact ⟨none, 0, by rw [h0], by omega, by simp [maxLen], fun h => absurd h (by omega)⟩
 refine ⟨_, cc, e, hn1, hn2, fun _ => ⟨b, 0, rfl, A3 hb hL', wf.lt b _ hb, fun i t hi => ?_⟩⟩
 obtain ⟨u, hu, hdu⟩ := nk wf h1 hb hv hi
 refine ⟨u, by rw [Nat.zero_add]; exact hu, t.mono (S := fun _ => True) (K := fun _ => True) (w := w) ⟨Nat.le_refl _, rfl, rfl, rfl, fun b _ hm => ⟨jj hm, rfl⟩, fun b t _ h => absurd trivial h⟩ ?_ ?_ hdu⟩
 ·intro u hu
  have : u ∈ cD (xs.flatMap E.tys) := List.mem_flatMap.2 ⟨t, List.mem_of_getElem? hi, hu⟩
  rw [E.cY] at this; cases this
 intro u hu
 have : u ∈ bl (xs.flatMap E.tys) := List.mem_flatMap.2 ⟨t, List.mem_of_getElem? hi, hu⟩
 rw [E.cS] at this; cases this
section
variable {P : Program} {fr : Fr} {ops : Array Oper} {A : As} {rest : List Oper} {K : As → List (As × Fx) → Prop} {d : Nat} {t ty' : TypeId} {p : String} {e : Array Edge} {Q : Exit → Act → World → Prop} {c : Code}
theorem eC (L : List Nat) {f : FuncId} {args : List Ty} {res : Ty} (hF : dP P f args res) {xs : List Operand} {ats : Array TypeId} {ss : List Ty} (hx : pE A fr xs = ss) (hl : ow A L ss args) (hp : res.Plain)
 (h : ay P fr ops rest (A.set d res) fun A' l => K A' ((A, { d := some d, ty := res, rs := xs.flatMap cI, rt := L }) :: l)) : ay P fr ops (⟨some d, .call ⟨.value (.func f), xs.toArray, ats⟩, t, p, e, none⟩ :: rest) A K := by
 refine ⟨{ d := some d, ty := res, rs := xs.flatMap cI, rt := L }, ⟨rfl, by simp, by simp, by simp, fun a w M wf _ hrd htg => ?_⟩, h⟩
 rw [if_pos (by simp [Region.wanted])]
 have hv : cF w M ss (xs.map a.eval) := hx ▸ hH hrd fun x hx c hc => List.mem_flatMap.2 ⟨x, hx, hc⟩
 have hc := hF.2 w _ _ (MG (L := L) wf) uR (qI wf htg hl hv)
 have hrun : (execOp a.eval ⟨some d, .call ⟨.value (.func f), xs.toArray, ats⟩, t, p, e, none⟩).run P w = .ok (.enter f (xs.map a.eval).toArray) w := by
  simp [execOp, resolve, Act.eval, Deferred.ofValue, invoke, oH hF]
 refine mg hrun ?_
 refine hc.mono fun en w' ⟨r, M', he, wf', le, hden⟩ => ?_
 obtain ⟨h1, h2, h3⟩ := D7 wf le hp hden
 exact ⟨r, he, r, rfl, _, h1, h2, h3, by simp⟩
end
section
open Go.RowKit
variable {P : Program} {A : As} {fn : Func} {n : Nat} {w0 : World} {M0 : bD} {F : List Nat} {post : List (Nat × Cont)} [T : lM P]
end
section
variable {P : Program} {fr : Fr} {ops : Array Oper} {A : As} {rest : List Oper} {K : As → List (As × Fx) → Prop} {d : Nat} {t ty' : TypeId} {p : String} {e : Array Edge} [T : lM P]
def RJ (w : World) (M : bD) (J : Nat) (v : Value) : Prop := v = .slice none 0 0 ∨ ∃ g n c cur T, v = .slice (some ⟨g, 0, none⟩) n c ∧ M g = some J ∧ w.heap[g]? = some (.cells cur T (0, 0)) ∧ n ≤ cur.size
def Cont.fit (vs : List Value) : Cont :=
  { den := fun w M J => ∀ v ∈ vs, RJ w M J v
    mono := fun le _ _ hs hk h v hv => (h v hv).imp id fun ⟨g, n, c, cur, T, e, hg, hh, hn⟩ => let ⟨h1, h2⟩ := le.own g _ hg hk
      ⟨g, n, c, cur, T, e, h1, (h2 hs).trans hh, hn⟩ }
end
instance : Inhabited {v : Value // v.oneCell' = true} := ⟨⟨.bool true, rfl⟩⟩
section
variable {P : Program} {fr : Fr} {A : As} {Q : Exit → Act → World → Prop} {code : Code}
end
end Go.T
namespace Go.T
open Go Go.RowKit
def ug {α : Type} (E : El α) (T J : Nat) (xs : List α) (w : World) (M : bD) (v : Value) : Prop :=
  (xs = [] ∧ v = .slice none 0 0) ∨ ∃ g off c cur, v = .slice (some ⟨g, off, none⟩) xs.length c ∧ M g = some J ∧ w.heap[g]? = some (.cells cur T (0, 0)) ∧ xs.length ≤ c ∧ c ≤ maxLen ∧ off + c * E.size ≤ cur.size ∧ cF w M (xs.flatMap E.tys) ((cur.toList.drop off).take (xs.length * E.size))
def Ty.fj {α : Type} (E : El α) (T J : Nat) (xs : List α) : Ty :=
  ⟨ug E T J xs, [J], [J], fun le hk hs h => h.imp id fun ⟨g, off, c, cur, e, hg, hh, h1, h2, h3, h4⟩ =>
    let ⟨a, b⟩ := le.own g J hg (hk J (by simp))
    ⟨g, off, c, cur, e, a, (b (hs J (by simp))).trans hh, h1, h2, h3, bz le (by rw [E.cY]; intro _ h; cases h) (by rw [E.cS]; intro _ h; cases h) h4⟩, true, fun _ h => by
      rcases h with ⟨_, rfl⟩ | ⟨_, _, _, _, rfl, _⟩ <;> rfl⟩
def jt (size : Nat) : Value → Option (Nat × Nat)
  | .slice (some a) n _ => some (a.block, a.off + n * size)
  | _ => none
def roomy : Value → Bool
  | .slice _ n c => Nat.blt n c
  | _ => false
section
variable {κ α : Type} [DecidableEq κ]
def zy (size : Nat) (vs : List Value) : Prop := ∀ (i j : Nat) (v u : Value) (g e e' : Nat), vs[i]? = some v → vs[j]? = some u → jt size v = some (g, e) → jt size u = some (g, e') → i = j
def Ro (enc : κ → Value) (E : El α) (T J : Nat) (q : List (κ × List α)) (w : World) (M : bD) (t : Nat) : Prop :=
  (q.map Prod.fst).Nodup ∧ ∃ b es clock, M b = some t ∧ w.heap[b]? = some (.map es clock) ∧ es.toList.map (·.key) = q.map (fun x => enc x.1) ∧ cF w M (q.map fun x => Ty.fj E T J x.2) (es.toList.map (·.val)) ∧ zy E.size (es.toList.map (·.val))
omit [DecidableEq κ] in
theorem tX {E : El α} {T J : Nat} {q : List (κ × List α)} : (∀ u ∈ cD (q.map fun x => Ty.fj E T J x.2), u = J) ∧ ∀ u ∈ bl (q.map fun x => Ty.fj E T J x.2), u = J := by
 constructor <;>
 ·intro u hu
  simp only [cD, bl, List.mem_flatMap, List.mem_map] at hu
  obtain ⟨t, ⟨x, _, rfl⟩, hu⟩ := hu
  simpa [Ty.fj] using hu
def Cont.mr (enc : κ → Value) (E : El α) (T J : Nat) (q : List (κ × List α)) : Cont :=
  { den := Ro enc E T J q, deps := [J], cdeps := [J]
    mono := fun le hk hs hst hkt ⟨hn, b, es, clock, h1, h2, h3, h4, h5⟩ => let ⟨a, c⟩ := le.own b _ h1 hkt
      ⟨hn, b, es, clock, a, (c hst).trans h2, h3, bz le (fun u hu => by rw [tX.1 u hu]; exact hk J (by simp)) (fun u hu => by rw [tX.2 u hu]; exact hs J (by simp)) h4, h5⟩ }
omit [DecidableEq κ] in
theorem Cont.ue {enc : κ → Value} {E : El α} {T J : Nat} {q q' : List (κ × List α)} (h : q = q') : (Cont.mr enc E T J q).Sub (Cont.mr enc E T J q') := h ▸ Cont.aF _
def Q8 (size t : Nat) (q : List (κ × List α)) (k : κ) (w : World) (M : bD) (v : Value) : Prop :=
  ∀ (g e0 : Nat), jt size v = some (g, e0) → ∃ (b : Nat) (es : Array MapEntry) (clock : Nat), M b = some t ∧ w.heap[b]? = some (.map es clock) ∧ ∀ (j : Nat) (u : Value) (e1 : Nat), (es.toList.map (·.val))[j]? = some u → jt size u = some (g, e1) → (q[j]?).map Prod.fst = some k ∧ (roomy v = true → e1 ≤ e0)
def RZ (E : El α) (T t J : Nat) (q : List (κ × List α)) (k : κ) (xs : List α) (w : World) (M : bD) (v : Value) : Prop := ug E T J xs w M v ∧ Q8 E.size t q k w M v
def Ty.qv (E : El α) (T t J : Nat) (q : List (κ × List α)) (k : κ) (xs : List α) : Ty :=
  ⟨RZ E T t J q k xs, [t, J], [t, J], fun le hk hs ⟨h, h'⟩ => ⟨(Ty.fj E T J xs).mono le (fun u hu => hk u (by simp [Ty.fj] at hu ⊢; exact .inr hu)) (fun u hu => hs u (by simp [Ty.fj] at hu ⊢; exact .inr hu)) h, fun g e0 he =>
    let ⟨b, es, clock, h1, h2, h3⟩ := h' g e0 he
    let ⟨a, c⟩ := le.own b t h1 (hk t (by simp))
    ⟨b, es, clock, a, (c (hs t (by simp))).trans h2, h3⟩⟩, true, fun ho h => (Ty.fj E T J xs).isOne ho h.1⟩
omit [DecidableEq κ] in
theorem Cy (q : List (κ × List α)) (hn : (q.map Prod.fst).Nodup) {i j : Nat} {k : κ} (hi : (q[i]?).map Prod.fst = some k) (hj : (q[j]?).map Prod.fst = some k) : i = j := by
 rw [← List.getElem?_map] at hi hj
 obtain ⟨h1, e1⟩ := List.getElem?_eq_some_iff.1 hi
 obtain ⟨h2, e2⟩ := List.getElem?_eq_some_iff.1 hj
 exact (List.getElem_inj hn).1 (e1.trans e2.symm)
theorem At {q : List (κ × List α)} {k : κ} {i : Nat} (h : (q.map Prod.fst).findIdx? (fun x => decide (x = k)) = some i) : (q[i]?).map Prod.fst = some k := by
 obtain ⟨v, hv, _⟩ := qO q k i h
 rw [hv]; rfl
theorem Ga (q : List (κ × List α)) (k : κ) (v : List α) (hn : (q.map Prod.fst).Nodup) : ((iC q k v).map Prod.fst).Nodup := by
  cases hi : (q.map Prod.fst).findIdx? (fun x => decide (x = k)) with
  | some i =>
    obtain ⟨u, hu, _, hp⟩ := qO q k i hi
    rw [hp, List.map_set]
    have : (q.map Prod.fst).set i k = q.map Prod.fst := by
      apply List.ext_getElem?
      intro j
      rw [List.getElem?_set]
      by_cases e : i = j
      · subst e
        have hlt := (List.getElem?_eq_some_iff.1 hu).1
        rw [if_pos rfl, if_pos (by simpa using hlt), List.getElem?_map, hu]; rfl
      · rw [if_neg e]
    rw [this]; exact hn
  | none =>
    obtain ⟨_, hp⟩ := qx q k hi
    rw [hp, List.map_append, List.nodup_append]
    refine ⟨hn, by simp, fun a ha b hb => ?_⟩
    simp only [List.map_cons, List.map_nil, List.mem_singleton] at hb
    subst hb
    intro e
    subst e
    rw [List.findIdx?_eq_none_iff] at hi
    have := hi a ha
    simp at this
end
section
variable {P : Program} {fr : Fr} {ops : Array Oper} {A : As} {rest : List Oper} {K : As → List (As × Fx) → Prop} {d : Nat} {t ty' mt kt et : TypeId} {p : String} {e : Array Edge}
variable {κ α : Type} [DecidableEq κ] {E : El α} {Tb J tg : Nat} {q : List (κ × List α)} {k : κ} {xs ys : List α}
omit [DecidableEq κ] in
theorem N9 {x : Operand} {enc : κ → Value} (hx : A.op fr x = .mp tg) (hc : A.tag tg = some (.mr enc E Tb J q)) (h1 : fu tg) {a : Act} {w : World} {M : bD} {rs : List Nat} (wf : Wf w M) (hr : ∀ c ∈ cI x, c ∈ rs) (hrd : ∀ c ∈ rs, c < fr.n → (A.slots c).den w M (a.tmps.getD c undef)) (htg : ∀ y ∈ A.tags, y.1 ∈ [tg] → y.2.den w M y.1) :
 (q.map Prod.fst).Nodup ∧ ∃ b es clock, a.eval x = .map (some b) ∧ M b = some tg ∧ w.heap[b]? = some (.map es clock) ∧ es.toList.map (·.key) = q.map (fun x => enc x.1) ∧ cF w M (q.map fun x => Ty.fj E Tb J x.2) (es.toList.map (·.val)) ∧ zy E.size (es.toList.map (·.val)) := by
 have hxd := cU hr hrd
 rw [hx] at hxd
 obtain ⟨b, e1, e2⟩ := hxd
 obtain ⟨hn, b', es, clock, h2, h3⟩ := htg _ (cj hc) (by simp)
 obtain ⟨u, rfl⟩ : ∃ u, tg = u + 1 := ⟨tg - 1, by omega⟩
 have : b = b' := wf.inj b b' u (by omega) e2 h2
 subst this
 exact ⟨hn, b, es, clock, e1, e2, h3⟩
theorem CM {es : Array MapEntry} {i : Nat} {en : MapEntry} (h : es[i]? = some en) : (es.toList.map (·.val))[i]? = some en.val := by
 rw [List.getElem?_map, Array.getElem?_toList, h]; rfl
omit [DecidableEq κ] in
theorem Ed (enc : κ → Value) (E : El α) (Tb J : Nat) (hm : mapOf P mt = some (kt, et)) (hp : fr.pass.contains (d + 1) = false)
 (h : ay P fr ops rest (A.after { d := some d, ty := .mp (d + 1), K := [d + 1], sets := [(d + 1, .mr enc E Tb J [])] }) fun A' l' => K A' ((A, { d := some d, ty := .mp (d + 1), K := [d + 1], sets := [(d + 1, .mr enc E Tb J [])] }) :: l')) :
 ay P fr ops (⟨some d, .makeMap mt none, t, p, e, none⟩ :: rest) A K := by
 refine ⟨_, gB rfl rfl (by simp) (by simp) (by simp at hp ⊢; exact hp) fun a w M wf _ _ => ?_, h⟩
 have hrun : (execOp a.eval ⟨some d, .makeMap mt none, t, p, e, none⟩).run P w = .ok (.value (.map (some w.heap.size))) (w.alloc (.map #[] 0)) := by
  simp [execOp, Instr.makeMap, newObj, Sem.run]
 obtain ⟨h1, h2, h3⟩ := j9 wf (.map #[] 0) (d + 1)
 refine ⟨_, _, hrun, _, h1, h2, ⟨_, rfl, h3⟩, fun x hx => ?_⟩
 rw [List.mem_singleton.1 hx]
 exact ⟨by simp, w.heap.size, #[], 0, h3, gq _ _, rfl, trivial, fun i j v u g e e' hi => by simp at hi⟩
theorem z7 {x y : Operand} {kty : Ty} (KK : yu P kt κ) (hx : A.op fr x = .mp tg) (hc : A.tag tg = some (.mr KK.enc E Tb J q)) (h1 : fu tg) (hy : A.op fr y = kty) (hk : vQ kty (KK.enc k)) (hm : mapOf P mt = some (kt, et)) (hz : zeroOf P et = some (.slice none 0 0))
 (h : ay P fr ops rest (A.set d (.qv E Tb tg J q k ((fD q k).getD []))) fun A' l' => K A' ((A, { d := some d, ty := .qv E Tb tg J q k ((fD q k).getD []), rs := cI x ++ cI y, rt := [tg] }) :: l')) :
 ay P fr ops (⟨some d, .lookup mt x y false, t, p, e, none⟩ :: rest) A K :=
 bK (bZ rfl rfl fun a w M wf hrd htg => by
  obtain ⟨hn, b, es, clock, e1, e2, h3, h4, h5, h6⟩ := N9 hx hc h1 wf (fun c hc => List.mem_append_left _ hc) hrd htg
  have hyd := cU (fun c hc => List.mem_append_right (cI x) hc) hrd
  rw [hy] at hyd
  have hu := qX hm
  rcases sn KK h4 h5 k with ⟨i, v, en, hi, hg, hen, _, hd, hf⟩ | ⟨_, hg, hf⟩
  ·refine ⟨en.val, ?_, by rw [hg]; exact hd, fun g e0 he => ⟨b, es, clock, e2, h3, fun j u e1 hj hju => ?_⟩⟩
   ·simp only [execOp, e1, hk _ _ _ hyd]
    simp [Instr.lookup, underlying, hu, getObj, Sem.run, h3, KK.check, hf]
   have hij := h6 i j en.val u g e0 e1 (CM hen) hj he hju
   subst hij
   rw [CM hen] at hj
   injection hj with hj
   subst hj
   rw [he] at hju
   injection hju with hju
   injection hju with _ hju
   exact ⟨At hi, fun _ => by omega⟩
  refine ⟨.slice none 0 0, ?_, by rw [hg]; exact .inl ⟨rfl, rfl⟩, fun g e0 he => by simp [jt] at he⟩
  simp only [execOp, e1, hk _ _ _ hyd]
  simp [Instr.lookup, underlying, hu, getObj, Sem.run, h3, KK.check, hf, wQ hz]) h
theorem AD {x y z : Operand} {kty : Ty} (KK : yu P kt κ) (hx : A.op fr x = .mp tg) (hc : A.tag tg = some (.mr KK.enc E Tb J q)) (h1 : fu tg) (hy : A.op fr y = kty) (hk : vQ kty (KK.enc k)) (hz : A.op fr z = .qv E Tb tg J q k xs) (hm : mapOf P mt = some (kt, et)) (hJ : Nat.beq J tg = false)
 (h : ay P fr ops rest (A.after { d := none, S := [tg], sets := [(tg, .mr KK.enc E Tb J (iC q k xs))], rs := cI x ++ (cI y ++ cI z), rt := [tg] }) fun A' l' => K A' ((A, { d := none, S := [tg], sets := [(tg, .mr KK.enc E Tb J (iC q k xs))], rs := cI x ++ (cI y ++ cI z), rt := [tg] }) :: l')) :
 ay P fr ops (⟨none, .mapUpdate mt x y z, t, p, e, none⟩ :: rest) A K := by
 have hJ' : J ≠ tg := fun h => by subst h; simp at hJ
 refine ⟨_, mP rfl rfl rfl (by simp) (by simpa using h1.1) (by simp) fun a w M wf hrd htg => ?_, h⟩
 obtain ⟨hn, b, es, clock, e1, e2, h3, h4, h5, h6⟩ := N9 hx hc h1 wf (fun c hc => List.mem_append_left _ hc) hrd htg
 have hyd := cU (fun c hc => List.mem_append_right (cI x) (List.mem_append_left (cI z) hc)) hrd
 have hzd := cU (fun c hc => List.mem_append_right (cI x) (List.mem_append_right (cI y) hc)) hrd
 rw [hy] at hyd
 rw [hz] at hzd
 obtain ⟨hrow, hown⟩ := hzd
 have hu := qX hm
 have hblt : b < w.heap.size := wf.lt b _ e2
 have own' : ∀ (g e0 : Nat), jt E.size (a.eval z) = some (g, e0) → ∀ (j : Nat) (u : Value) (e' : Nat), (es.toList.map (·.val))[j]? = some u → jt E.size u = some (g, e') → (q[j]?).map Prod.fst = some k := fun g e0 he j u e' hj hju => by
  obtain ⟨b', es', c', g1, g2, g3⟩ := hown g e0 he
  obtain ⟨u', rfl⟩ : ∃ u, tg = u + 1 := ⟨tg - 1, by omega⟩
  have : b = b' := wf.inj b b' u' (by omega) e2 g1
  subst this
  rw [h3] at g2
  injection g2 with g2
  injection g2 with g2 g4
  subst g2
  exact (g3 j u e' hj hju).1
 have fin : ∀ (es' : Array MapEntry) (clock' : Nat), es'.toList.map (·.key) = (iC q k xs).map (fun x => KK.enc x.1) → cF w M ((iC q k xs).map fun x => Ty.fj E Tb J x.2) (es'.toList.map (·.val)) → zy E.size (es'.toList.map (·.val)) →
  (Instr.mapUpdate mt (.map (some b)) (KK.enc k) (a.eval z)).run P w = .ok () { w with heap := w.heap.setIfInBounds b (.map es' clock') } →
  ∃ w', (execOp a.eval ⟨none, .mapUpdate mt x y z, t, p, e, none⟩).run P w = .ok .skip w' ∧ Fx.left { d := none, S := [tg], sets := [(tg, .mr KK.enc E Tb J (iC q k xs))], rs := cI x ++ (cI y ++ cI z), rt := [tg] } w M w' undef := by
  intro es' clock' hk' hd' hap hrun
  have hr : (execOp a.eval ⟨none, .mapUpdate mt x y z, t, p, e, none⟩).run P w = .ok .skip { w with heap := w.heap.setIfInBounds b (.map es' clock') } := by
   simp only [execOp, e1, hk _ _ _ hyd]
   simp [hrun]
  have le : Le (· ∈ [tg]) (· ∈ ([] : List Nat)) w M { w with heap := w.heap.setIfInBounds b (.map es' clock') } M := by
   refine ⟨by simp, rfl, rfl, rfl, fun b2 hlt hm2 => ⟨hm2, ?_⟩, fun b2 u hm2 _ => ⟨hm2, fun hs => ?_⟩⟩
   ·have : b ≠ b2 := fun h => by subst h; rw [e2] at hm2; cases hm2
    simp [Array.getElem?_setIfInBounds, this]
   have : b ≠ b2 := fun h => by subst h; rw [e2] at hm2; injection hm2 with hm2; exact hs (by simp [hm2])
   simp [Array.getElem?_setIfInBounds, this]
  refine ⟨_, hr, M, ⟨fun b2 u h => by simpa using wf.lt b2 u h, wf.inj⟩, le, trivial, fun x hx => ?_⟩
  rw [List.mem_singleton.1 hx]
  refine ⟨Ga q k xs hn, b, es', clock', e2, by simp [hblt], hk', ?_, hap⟩
  exact bz le (fun _ _ => by simp) (fun u hu => by rw [tX.2 u hu]; simpa using hJ') hd'
 rcases sn KK h4 h5 k with ⟨i, v0, en, hi, hg, hen, hkey, hd, hf⟩ | ⟨hi, hg, hf⟩
 ·obtain ⟨v1, hv1, _, hput⟩ := qO q k i hi
  have hil : i < es.size := (Array.getElem?_eq_some_iff.1 hen).1
  have hes : (es.modify i fun e => { e with key := KK.enc k, val := a.eval z }).toList = es.toList.set i { en with key := KK.enc k, val := a.eval z } := by
   rw [Array.toList_modify, List.modify_eq_set, Array.getElem?_toList, hen]; rfl
  refine fin (es.modify i fun e => { e with key := KK.enc k, val := a.eval z }) clock ?_ ?_ ?_ ?_
  ·rw [hput, List.map_set, hes, List.map_set, h4]
  ·rw [hput, List.map_set, hes, List.map_set]
   exact tN h5 hrow
  ·rw [hes, List.map_set]
   intro i1 j1 v u g e' e'' hi1 hj1 hv hu
   rw [List.getElem?_set] at hi1 hj1
   by_cases c1 : i = i1 <;> by_cases c2 : i = j1
   ·omega
   ·rw [if_pos c1] at hi1; rw [if_neg c2] at hj1
    split at hi1
    ·injection hi1 with hi1
     have hi1 : a.eval z = v := hi1
     subst hi1
     have := Cy q hn (own' g e' hv j1 u e'' hj1 hu) (At hi)
     omega
    cases hi1
   ·rw [if_neg c1] at hi1; rw [if_pos c2] at hj1
    split at hj1
    ·injection hj1 with hj1
     have hj1 : a.eval z = u := hj1
     subst hj1
     have := Cy q hn (own' g e'' hu i1 v e' hi1 hv) (At hi)
     omega
    cases hj1
   rw [if_neg c1] at hi1; rw [if_neg c2] at hj1
   exact h6 i1 j1 v u g e' e'' hi1 hj1 hv hu
  simp [Instr.mapUpdate, underlying, hu, getObj, setObj, Sem.run, h3, KK.check, hf, hen, hkey, Instr.keyThatStays, KK.same]
 obtain ⟨_, hput⟩ := qx q k hi
 have hlen : (es.toList.map (·.val)).length = q.length := by have := congrArg List.length h4; simpa using this
 have hno : ∀ j, (q[j]?).map Prod.fst ≠ some k := fun j hj => by
  rw [List.findIdx?_eq_none_iff] at hi
  rw [← List.getElem?_map] at hj
  have := hi k (List.mem_of_getElem? hj)
  simp at this
 refine fin (es.push { key := KK.enc k, val := a.eval z, born := clock }) (clock + 1) ?_ ?_ ?_ ?_
 ·rw [hput]; simp [h4]
 ·rw [hput]; simp only [Array.toList_push, List.map_append, List.map_cons, List.map_nil]
  exact fE h5 ⟨hrow, trivial⟩
 ·simp only [Array.toList_push, List.map_append, List.map_cons, List.map_nil]
  intro i1 j1 v u g e' e'' hi1 hj1 hv hu
  rw [List.getElem?_append] at hi1 hj1
  split at hi1 <;> split at hj1
  ·exact h6 i1 j1 v u g e' e'' hi1 hj1 hv hu
  ·rw [List.getElem?_singleton] at hj1
   split at hj1
   ·injection hj1 with hj1
    subst hj1
    exact absurd (own' g e'' hu i1 v e' hi1 hv) (hno i1)
   cases hj1
  ·rw [List.getElem?_singleton] at hi1
   split at hi1
   ·injection hi1 with hi1
    subst hi1
    exact absurd (own' g e' hv j1 u e'' hj1 hu) (hno j1)
   cases hi1
  rw [List.getElem?_singleton] at hi1 hj1
  split at hi1 <;> split at hj1 <;> first | omega | (exfalso; simp at hj1; done) | (exfalso; simp at hi1; done)
 simp [Instr.mapUpdate, underlying, hu, getObj, setObj, Sem.run, h3, KK.check, hf]
end
section
variable {P : Program} {fr : Fr} {ops : Array Oper} {A : As} {rest : List Oper} {K : As → List (As × Fx) → Prop} {d : Nat} {t ty' mt kt et : TypeId} {p : String} {e : Array Edge} [T : lM P]
variable {κ α : Type} [DecidableEq κ] {E : El α} {Tb J tg : Nat} {q : List (κ × List α)} {k : κ} {xs ys : List α}
theorem zT [Inhabited α] {w : World} {M : bD} {g off i j : Nat} {cur : Array Value} {ty : Ty} (hh : w.heap[g]? = some (.cells cur Tb (0, 0))) (hd : cF w M (xs.flatMap E.tys) ((cur.toList.drop off).take (xs.length * E.size))) (hi : i < xs.length) (hl : (E.tys (nth xs i))[j]? = some ty) :
 ∃ u, w.cell? ⟨g, off + i * E.size + j, none⟩ = some u ∧ ty.den w M u := by
 obtain ⟨u, hu, hdu⟩ := dc hd _ ty (n4 E xs hi j ty hl)
 rw [List.getElem?_take] at hu
 split at hu
 ·rw [List.getElem?_drop] at hu
  exact ⟨u, by rw [Nat.add_assoc]; simpa [World.cell?, hh] using hu, hdu⟩
 cases hu
end
end Go.T
namespace Go.T
open Go Go.RowKit
section
variable {P : Program} {fr : Fr} {ops : Array Oper} {A : As} {rest : List Oper} {K : As → List (As × Fx) → Prop} {d : Nat} {t ty' mt kt et : TypeId} {p : String} {e : Array Edge} [T : lM P]
variable {κ α : Type} [DecidableEq κ] {E : El α} {Tb J tg : Nat} {q : List (κ × List α)} {k : κ} {xs ys : List α}
theorem Kn (l news : List Value) (o n m e : Nat) (he : o + n ≤ e) (hl : e + news.length ≤ l.length) : (((l.take e ++ news ++ l.drop (e + news.length)).drop o).take n) = (l.drop o).take n := by
 apply List.ext_getElem?
 intro i
 rw [List.getElem?_take, List.getElem?_take]
 split
 ·rename_i hi
  rw [List.getElem?_drop, List.getElem?_drop, List.append_assoc, List.getElem?_append_left (by rw [List.length_take]; omega), List.getElem?_take, if_pos (by omega)]
 rfl
theorem DZ (l news : List Value) (o n : Nat) (hl : o + n + news.length ≤ l.length) : (((l.take (o + n) ++ news ++ l.drop (o + n + news.length)).drop o).take (n + news.length)) = (l.drop o).take n ++ news := by
 have h1 : (l.take (o + n) ++ news ++ l.drop (o + n + news.length)).drop o = (l.drop o).take n ++ news ++ l.drop (o + n + news.length) := by
  rw [List.append_assoc, List.drop_append_of_le_length (by rw [List.length_take]; omega), List.drop_take, show o + n - o = n by omega, List.append_assoc]
 have h2 : ((l.drop o).take n ++ news).length = n + news.length := by rw [List.length_append, List.length_take, List.length_drop, Nat.min_eq_left (by omega)]
 rw [h1, List.take_left' h2]
omit [DecidableEq κ] in
theorem Jh {w : World} {M : bD} {vs : List Value} (hd : cF w M (q.map fun x => Ty.fj E Tb J x.2) vs) {j : Nat} {u : Value} {g e1 : Nat} (hj : vs[j]? = some u) (hu : jt E.size u = some (g, e1)) : M g = some J := by
 have hlen := cX hd
 have hlt := (List.getElem?_eq_some_iff.1 hj).1
 obtain ⟨x, hx, hdx⟩ := dc hd j (Ty.fj E Tb J (q[j]'(by simpa [hlen] using hlt)).2) (by rw [List.getElem?_map, List.getElem?_eq_getElem (by simpa [hlen] using hlt)]; rfl)
 rw [hj] at hx
 injection hx with hx
 subst hx
 rcases hdx with ⟨_, e⟩ | ⟨g', off, c, cur, e, hg, _⟩
 ·rw [e] at hu; simp [jt] at hu
 rw [e] at hu
 simp only [jt, Option.some.injEq, Prod.mk.injEq] at hu
 rw [← hu.1]; exact hg
theorem zZ {x y : Operand} {enc : κ → Value} {st el : Nat} {ti te : TI} (hx : A.op fr x = .qv E el tg J q k xs) (hy : A.op fr y = .sl E ys) (hc : A.tag tg = some (.mr enc E el J q)) (h1 : fu tg) (hJ : 4096 ≤ J) (hp : fr.pass.contains J = false) (hpos : 0 < ys.length) (hT : T.eV[st]? = some ti) (hk : ti.k = .slice el) (hE : T.eV[el]? = some te) (hs : te.size = E.size) (hz : te.zero.length = te.size) (h0 : 0 < te.size)
    (hlen : (xs.length + ys.length) * te.bytes ≤ 140737488355328) (hlen' : xs.length + ys.length ≤ 9223372036854775807)
    (h : ay P fr ops rest (A.after { d := some d, ty := .qv E el tg J q k (xs ++ ys), S := [tg, J], sets := [(tg, .mr enc E el J q)], rs := cI x ++ cI y, rt := [tg] }) fun A' l' => K A' ((A, { d := some d, ty := .qv E el tg J q k (xs ++ ys), S := [tg, J], sets := [(tg, .mr enc E el J q)], rs := cI x ++ cI y, rt := [tg] }) :: l')) :
    ay P fr ops (⟨some d, .call ⟨.builtin .append, #[x, y], #[st, st]⟩, t, p, e, none⟩ :: rest) A K := by
  refine ⟨_, gB rfl rfl (by simp) (by simp; exact ⟨h1.1, by omega⟩) (by simp) fun a w M wf hr htg => ?_, h⟩
  obtain ⟨hdx, hdy⟩ := op2 hr
  rw [hx] at hdx; rw [hy] at hdy
  obtain ⟨hrow, hown⟩ := hdx
  obtain ⟨hn, b, es, clock, hb, hhb, hkeys, hvals, hap⟩ := htg _ (cj hc) (by simp)
  have ownb : ∀ (g e0 : Nat), jt E.size (a.eval x) = some (g, e0) → ∀ (j : Nat) (u : Value) (e1 : Nat), (es.toList.map (·.val))[j]? = some u → jt E.size u = some (g, e1) → (q[j]?).map Prod.fst = some k ∧ (roomy (a.eval x) = true → e1 ≤ e0) := fun g e0 he => by
    obtain ⟨b', es', c', g1, g2, g3⟩ := hown g e0 he
    obtain ⟨u', hu'⟩ : ∃ u, tg = u + 1 := ⟨tg - 1, by omega⟩
    have : b = b' := by
      have hb' : M b = some (u' + 1) := hu' ▸ hb
      have g1' : M b' = some (u' + 1) := hu' ▸ g1
      exact wf.inj b b' u' (by omega) hb' g1'
    subst this
    rw [hhb] at g2
    injection g2 with g2
    injection g2 with g2 _
    subst g2
    exact g3
  obtain ⟨_, D, _, hD, hkd, _⟩ := dB hT
  rw [hk] at hkd
  cases D <;> simp only [TK.of, reduceCtorEq, TK.slice.injEq] at hkd
  subst hkd
  rename_i el
  obtain ⟨i, _, hi, _, _, hsz, hby, hze⟩ := dB hE
  obtain ⟨zz, hiz, hzc⟩ : ∃ z, i.zero = some z ∧ z.cells.size = i.size := by
    cases hiz : i.zero with
    | none => rw [hiz] at hze; rw [← hze] at hz; simp at hz; omega
    | some z => rw [hiz] at hze; exact ⟨z, rfl, by simp at hze; rw [hsz, ← hz, ← hze]; simp⟩
  obtain ⟨ad, c', ey, hc1, hc2, hpp⟩ := hdy
  obtain ⟨b', off', rfl, hp'⟩ := hpp hpos
  obtain ⟨news, hn1, hn2, hn3⟩ := ni hp' _ (Nat.le_refl _)
  rw [List.take_length] at hn2
  have hnl : news.length = ys.length * i.size := by rw [hn1, dA, hsz, hs]
  have hnews : ∀ j u, news[j]? = some u → w.cell? ((⟨b', off', none⟩ : Addr).add j) = some u := fun j u hj => by rw [Addr.add_lit]; exact hn3 j u hj
  have hones := kU hn2 (mE E ys)
  have hesz : E.size = i.size := by rw [hsz, hs]
  -- behind a growth
  have grown : ∀ (olds : List Value) (cap : Nat), cF w M (xs.flatMap E.tys) olds → cap < xs.length + ys.length →
      (Builtin.append_ #[st, st] t #[a.eval x, a.eval y]).run P w = .ok (.slice (some ⟨w.heap.size, 0, none⟩) (xs.length + ys.length) (grownCap w (xs.length + ys.length) cap el)) (w.drew.alloc (.cells (olds.toArray ++ news.toArray ++ Builtin.zeroCells zz.cells (grownCap w (xs.length + ys.length) cap el - (xs.length + ys.length))) el)) →
      ∃ v w', (execOp a.eval ⟨some d, .call ⟨.builtin .append, #[x, y], #[st, st]⟩, t, p, e, none⟩).run P w = .ok (.value v) w' ∧ Fx.left { d := some d, ty := .qv E el tg J q k (xs ++ ys), S := [tg, J], sets := [(tg, .mr enc E el J q)], rs := cI x ++ cI y, rt := [tg] } w M w' v := by
    intro olds cap hdo hcap hrun
    have holen : olds.length = xs.length * i.size := by rw [cX hdo, dA, hesz]
    have hge := grownCap_ge w (xs.length + ys.length) cap el
    have hcm : grownCap w (xs.length + ys.length) cap el ≤ maxLen := grownCap_le_maxLen w (xs.length + ys.length) cap el (by simp only [maxLen]; omega)
    have hsize : (w.drew.alloc (.cells (olds.toArray ++ news.toArray ++ Builtin.zeroCells zz.cells (grownCap w (xs.length + ys.length) cap el - (xs.length + ys.length))) el)).heap.size = w.heap.size + 1 := by simp
    have hold : ∀ b2, b2 < w.heap.size → (w.drew.alloc (.cells (olds.toArray ++ news.toArray ++ Builtin.zeroCells zz.cells (grownCap w (xs.length + ys.length) cap el - (xs.length + ys.length))) el)).heap[b2]? = w.heap[b2]? := fun b2 h => Below.heap_alloc w.drew _ b2 h
    have hnew : (w.drew.alloc (.cells (olds.toArray ++ news.toArray ++ Builtin.zeroCells zz.cells (grownCap w (xs.length + ys.length) cap el - (xs.length + ys.length))) el)).heap[w.heap.size]? = some (.cells (olds.toArray ++ news.toArray ++ Builtin.zeroCells zz.cells (grownCap w (xs.length + ys.length) cap el - (xs.length + ys.length))) el (0, 0)) := gq w.drew _
    have hos : (w.drew.alloc (.cells (olds.toArray ++ news.toArray ++ Builtin.zeroCells zz.cells (grownCap w (xs.length + ys.length) cap el - (xs.length + ys.length))) el)).os = w.os ∧ (w.drew.alloc (.cells (olds.toArray ++ news.toArray ++ Builtin.zeroCells zz.cells (grownCap w (xs.length + ys.length) cap el - (xs.length + ys.length))) el)).tape = w.tape ∧ (w.drew.alloc (.cells (olds.toArray ++ news.toArray ++ Builtin.zeroCells zz.cells (grownCap w (xs.length + ys.length) cap el - (xs.length + ys.length))) el)).output = w.output := ⟨rfl, rfl, rfl⟩
    have hcs : (olds.toArray ++ news.toArray ++ Builtin.zeroCells zz.cells (grownCap w (xs.length + ys.length) cap el - (xs.length + ys.length))).size = grownCap w (xs.length + ys.length) cap el * i.size := by
      simp only [Array.size_append, List.size_toArray, size_zeroCells, hzc, holen, hnl, ← Nat.add_mul]
      congr 1
      omega
    have htk : ((olds.toArray ++ news.toArray ++ Builtin.zeroCells zz.cells (grownCap w (xs.length + ys.length) cap el - (xs.length + ys.length))).toList.drop 0).take ((xs ++ ys).length * E.size) = olds ++ news := by
      rw [List.drop_zero]
      simp only [Array.toList_append]
      rw [List.take_left' (by rw [List.length_append, holen, hnl, List.length_append, hesz, Nat.add_mul])]
    generalize hw' : (w.drew.alloc (.cells (olds.toArray ++ news.toArray ++ Builtin.zeroCells zz.cells (grownCap w (xs.length + ys.length) cap el - (xs.length + ys.length))) el)) = w' at *
    generalize hcu : (olds.toArray ++ news.toArray ++ Builtin.zeroCells zz.cells (grownCap w (xs.length + ys.length) cap el - (xs.length + ys.length))) = cu at *
    have le : Le (· ∈ [tg, J]) (· ∈ ([] : List Nat)) w M w' (fun b2 => if b2 = w.heap.size then some J else M b2) :=
      ⟨by omega, hos.1, hos.2.1, hos.2.2, fun b2 hb2 hm => ⟨by rw [if_neg (by omega)]; exact hm, hold b2 hb2⟩, fun b2 u hm _ => by
        have := wf.lt b2 u hm
        exact ⟨by rw [if_neg (by omega)]; exact hm, fun _ => hold b2 this⟩⟩
    have le0 : Le (· ∈ ([] : List Nat)) (· ∈ ([] : List Nat)) w M w' (fun b2 => if b2 = w.heap.size then some J else M b2) :=
      ⟨by omega, hos.1, hos.2.1, hos.2.2, fun b2 hb2 hm => ⟨by rw [if_neg (by omega)]; exact hm, hold b2 hb2⟩, fun b2 u hm _ => by
        have := wf.lt b2 u hm
        exact ⟨by rw [if_neg (by omega)]; exact hm, fun _ => hold b2 this⟩⟩
    have wf' : Wf w' (fun b2 => if b2 = w.heap.size then some J else M b2) := by
      refine ⟨fun b2 u hm => ?_, fun b2 b3 u ht1 hm hm' => ?_⟩
      · split at hm
        · omega
        · have := wf.lt b2 u hm; omega
      · split at hm
        · injection hm with hm; omega
        · split at hm'
          · injection hm' with hm'; omega
          · exact wf.inj b2 b3 u ht1 hm hm'
    have hblt := wf.lt b tg hb
    refine ⟨.slice (some ⟨w.heap.size, 0, none⟩) (xs.length + ys.length) (grownCap w (xs.length + ys.length) cap el), w', by simp [execOp, resolve, invoke, builtin, hrun], _, wf', le, ⟨.inr ⟨w.heap.size, 0, grownCap w (xs.length + ys.length) cap el, cu, by rw [List.length_append], by simp, hnew, by rw [List.length_append]; exact hge, hcm, by rw [hcs, hesz]; omega, ?_⟩, fun g e0 he => ?_⟩, fun y hy => ?_⟩
    · rw [htk, List.flatMap_append]
      exact jz (bz le0 (by rw [E.cY]; intro _ h; cases h) (by rw [E.cS]; intro _ h; cases h) hdo) (bz le0 (by rw [E.cY]; intro _ h; cases h) (by rw [E.cS]; intro _ h; cases h) hn2)
    · simp only [jt, Option.some.injEq, Prod.mk.injEq] at he
      obtain ⟨rfl, _⟩ := he
      refine ⟨b, es, clock, (if_neg (by omega)).trans hb, (hold b hblt).trans hhb, fun j u e1 hj hju => ?_⟩
      have := wf.lt _ _ (Jh hvals hj hju)
      omega
    · rw [List.mem_singleton.1 hy]
      refine ⟨hn, b, es, clock, (if_neg (by omega)).trans hb, (hold b hblt).trans hhb, hkeys, ?_, hap⟩
      exact bz le0 (fun _ _ h => by cases h) (fun _ _ h => by cases h) hvals
  rcases hrow with ⟨hxe, ex⟩ | ⟨g, off, cap, cur, ex, hg, hh, hxc, hcm, hfit, hdx⟩
  · have hrn := run_append_nil (P := P) w st t el i zz hD hi hiz ⟨b', off', none⟩ ys.length c' news hnl hnews hpos (by omega) (by rw [hby]; have := hlen; rw [Nat.add_mul] at this; omega)
    subst hxe
    refine grown [] 0 trivial (by simpa using hpos) ?_
    rw [ex, ey]
    simpa using hrn
  · by_cases hroom : xs.length + ys.length ≤ cap
    · -- in place
      have hm : (xs.length + ys.length) * E.size ≤ cap * E.size := Nat.mul_le_mul_right _ hroom
      rw [Nat.add_mul] at hm
      have hcf : off + xs.length * i.size + news.length ≤ cur.size := by rw [hnl, ← hesz]; omega
      have hf := run_firstCells_some (P := P) w i.size ys.length ⟨b', off', none⟩ ys.length c' news hnl hnews
      have hst := run_storeCells_at (P := P) g (off + xs.length * i.size) el news 0 cur w hh (by simpa using hcf) hones
      rw [oo _ hh] at hst
      simp only [Nat.add_zero] at hst
      obtain ⟨h1', h2', h3'⟩ := lI (cs' := (cur.toList.take (off + xs.length * i.size) ++ news ++ cur.toList.drop (off + xs.length * i.size + news.length)).toArray) (Tb := el) wf hg _ rfl
      have hrun : (Builtin.append_ #[st, st] t #[a.eval x, a.eval y]).run P w = .ok (.slice (some ⟨g, off, none⟩) (xs.length + ys.length) cap) { w with heap := w.heap.setIfInBounds g (.cells (cur.toList.take (off + xs.length * i.size) ++ news ++ cur.toList.drop (off + xs.length * i.size + news.length)).toArray el (0, 0)) } := by
        rw [ex, ey]
        simp [Builtin.append_, run_underlying hD, sizeOf, typeInfo, hi, Builtin.lenOf, hroom, hf, Addr.add_lit, hst]
      have le : Le (· ∈ [tg, J]) (· ∈ ([] : List Nat)) w M { w with heap := w.heap.setIfInBounds g (.cells (cur.toList.take (off + xs.length * i.size) ++ news ++ cur.toList.drop (off + xs.length * i.size + news.length)).toArray el (0, 0)) } M :=
        h2'.weaken (fun u hu => by simp only [List.mem_singleton] at hu; subst hu; simp) (fun _ h => by cases h)
      have hgb : g ≠ b := fun e => by rw [e, hhb] at hh; cases hh
      have hroomy : roomy (a.eval x) = true := by rw [ex]; simp [roomy]; omega
      have hb' : ({ w with heap := w.heap.setIfInBounds g (.cells (cur.toList.take (off + xs.length * i.size) ++ news ++ cur.toList.drop (off + xs.length * i.size + news.length)).toArray el (0, 0)) } : World).heap[b]? = some (.map es clock) := by
        show (w.heap.setIfInBounds g _)[b]? = _
        rw [Array.getElem?_setIfInBounds_ne hgb]; exact hhb
      refine ⟨.slice (some ⟨g, off, none⟩) (xs.length + ys.length) cap, _, by simp [execOp, resolve, invoke, builtin, hrun], M, h1', le, ⟨.inr ⟨g, off, cap, _, by rw [List.length_append], hg, h3', by rw [List.length_append]; exact hroom, hcm, ?_, ?_⟩, fun g' e0 he => ?_⟩, fun y hy => ?_⟩
      · simp only [List.size_toArray, List.length_append, List.length_take, List.length_drop, Array.length_toList]
        omega
      · rw [List.length_append, Nat.add_mul, hesz, ← hnl, List.toList_toArray, DZ _ _ _ _ (by simpa using hcf), List.flatMap_append]
        refine bz h2' (by rw [← List.flatMap_append, E.cY]; intro _ h; cases h) (by rw [← List.flatMap_append, E.cS]; intro _ h; cases h) (jz ?_ hn2)
        rw [← hesz]; exact hdx
      · simp only [jt, Option.some.injEq, Prod.mk.injEq] at he
        obtain ⟨rfl, rfl⟩ := he
        refine ⟨b, es, clock, hb, hb', fun j u e1 hj hju => ?_⟩
        have := ownb g (off + xs.length * E.size) (by rw [ex]; rfl) j u e1 hj hju
        refine ⟨this.1, fun _ => ?_⟩
        have := this.2 hroomy
        rw [Nat.add_mul]; omega
      · rw [List.mem_singleton.1 hy]
        refine ⟨hn, b, es, clock, hb, hb', hkeys, ?_, hap⟩
        refine fm (by rw [cX hvals]) fun j ty hj => ?_
        obtain ⟨u, hu, hdu⟩ := dc hvals j ty hj
        refine ⟨u, hu, ?_⟩
        rw [List.getElem?_map] at hj
        obtain ⟨qe, _, rfl⟩ := Option.map_eq_some_iff.1 hj
        rcases hdu with h | ⟨g2, off2, c2, cur2, e2, hg2, hh2, k1, k2, k3, k4⟩
        · exact .inl h
        · by_cases hgg : g = g2
          · subst hgg
            rw [hh] at hh2
            injection hh2 with hh2
            injection hh2 with ha _
            subst ha
            have hend := (ownb g (off + xs.length * E.size) (by rw [ex]; rfl) j u _ hu (by rw [e2]; rfl)).2 hroomy
            refine .inr ⟨g, off2, c2, _, e2, hg, h3', k1, k2, ?_, ?_⟩
            · simp only [List.size_toArray, List.length_append, List.length_take, List.length_drop, Array.length_toList]
              omega
            · rw [List.toList_toArray, Kn _ _ _ _ 0 _ (by rw [← hesz]; exact hend) (by simpa using hcf)]
              exact bz h2' (by rw [E.cY]; intro _ h; cases h) (by rw [E.cS]; intro _ h; cases h) k4
          · refine .inr ⟨g2, off2, c2, cur2, e2, hg2, ?_, k1, k2, k3, bz h2' (by rw [E.cY]; intro _ h; cases h) (by rw [E.cS]; intro _ h; cases h) k4⟩
            show (w.heap.setIfInBounds g _)[g2]? = _
            rw [Array.getElem?_setIfInBounds_ne hgg]; exact hh2
    · have holds : ∀ j u, ((cur.toList.drop off).take (xs.length * E.size))[j]? = some u → w.cell? ((⟨g, off, none⟩ : Addr).add j) = some u := fun j u hj => by
        rw [List.getElem?_take] at hj
        split at hj
        · rw [List.getElem?_drop] at hj
          rw [Addr.add_lit]
          simpa [World.cell?, hh] using hj
        · cases hj
      have hol : ((cur.toList.drop off).take (xs.length * E.size)).length = xs.length * i.size := by rw [cX hdx, dA, hesz]
      have hrn := run_append_grow (P := P) w st t el i zz hD hi hiz ⟨g, off, none⟩ xs.length cap _ hol holds ⟨b', off', none⟩ ys.length c' news hnl hnews (by omega) (by omega) (growslice_fits (by omega) (by rw [hby]; exact hlen))
      refine grown _ cap hdx (by omega) ?_
      rw [ex, ey]
      exact hrn
end
end Go.T
namespace Go.T
open Go Go.RowKit
end Go.T
namespace Go.T
open Go Go.RowKit Go.Lib
section
variable {P : Program} {fr : Fr} {ops : Array Oper} {A : As} {rest : List Oper} {K : As → List (As × Fx) → Prop} {d : Nat} {t ty' ty2 : TypeId} {p : String} {e : Array Edge} [T : lM P]
end
end Go.T
namespace Go.T
open Go Go.RowKit
section
variable {P : Program} {fr : Fr} {ops : Array Oper} {A : As} {rest : List Oper} {K : As → List (As × Fx) → Prop} {t mt : TypeId} {p : String} {e : Array Edge} {d : Option Nat} {x y z : Operand}
end
section
variable {P : Program} {fr : Fr} {ops : Array Oper} {A : As} {rest : List Oper} {K : As → List (As × Fx) → Prop} {d : Nat} {t mt kt et : TypeId} {p : String} {e : Array Edge}
variable {κ β : Type} [DecidableEq κ]
end
section
variable {A : As} {κ β : Type} [DecidableEq κ]
end
section
variable {P : Program} {fr : Fr} {ops : Array Oper} {A : As} {rest : List Oper} {K : As → List (As × Fx) → Prop} {t ty' : TypeId} {p : String} {e : Array Edge} [T : lM P]
end
section
variable {P : Program} {fr : Fr} {ops : Array Oper} {A : As} {rest : List Oper} {K : As → List (As × Fx) → Prop} {d : Nat} {t ty' : TypeId} {p : String} {e : Array Edge} [T : lM P]
theorem jr {α : Type} [Inhabited α] {E : El α} {xs : List α} {x : Operand} {tg off Tb : Nat} {ti : TI} (i : Nat) (hx : A.op fr x = .ptr tg off) (he : off = i * E.size) (hc : A.tag tg = some (.vec E Tb xs)) (h1 : fu tg) (hT : T.eV[ty']? = some ti) (ha : ti.k.agg = true) (hsz : ti.size = E.size) (hi : i < xs.length)
 (h : ay P fr ops rest (A.set d (.agg (E.tys (nth xs i)))) fun A' l => K A' ((A, { d := some d, ty := .agg (E.tys (nth xs i)), rs := cI x, rt := [tg] }) :: l)) : ay P fr ops (⟨some d, .load ty' x, t, p, e, none⟩ :: rest) A K :=
 bK (bZ rfl rfl fun a w M wf hr ht => by
  have := cU (x := x) (fun _ h => h) hr
  rw [hx] at this
  obtain ⟨b, hb, e⟩ := this
  obtain ⟨cs, g1, g2, g3⟩ := rN (l := E.tys (nth xs i)) (b := b) (q := off) (off := 0) (n := ti.size) (m := E.tys (nth xs i)) (fun j t hj => nk wf h1 hb (tK hc w M ht) (by
   rw [he]; exact n4 E xs hi j t hj)) (by rw [List.drop_zero, hsz, ← E.len (nth xs i), List.take_length]) (by rw [E.len, hsz])
  exact ⟨.agg cs.toArray, by simp only [execOp, e]; rw [Sem.run_bind, iQ (off := off) hT ha g1 (by simpa using g3)]; rfl, cs.toArray, rfl, by simpa using g2⟩) h
end
section
variable {P : Program} {A : As} {fn : Func} {n : Nat} {w0 : World} {M0 : bD} [T : lM P]
end
section
variable {P : Program} {fr : Fr} {A : As} {c : Code} {Q : Exit → Act → World → Prop}
theorem jS {tg : Nat} {C D : Cont} (hc : A.tag tg = some C) (h : C.Sub D) (h' : fS P fr c ⟨A.slots, (tg, D) :: A.tags⟩ Q) : fS P fr c A Q := fun a w ⟨M, ok, hsl, ht⟩ =>
 h' a w ⟨M, ok, hsl, fun x hx => by
  rcases List.mem_cons.1 hx with rfl | hx
  ·exact h _ _ _ (ht _ (cj hc))
  exact ht x hx⟩
end
section
variable {P : Program} {fr : Fr} {ops : Array Oper} {A : As} {rest : List Oper} {K : As → List (As × Fx) → Prop} {d : Nat} {t mt kt et : TypeId} {p : String} {e : Array Edge} {κ β : Type} [DecidableEq κ]
end
end Go.T
namespace Go.T
open Go Go.RowKit
def Pb (J : World → bD → Prop) (w : World) (M : bD) : Prop :=
  ∃ Mc, Wf w Mc ∧ Gu Mc ∧ J w Mc ∧ (∀ b, M b = none → Mc b = none) ∧ ∀ b u, b < w.heap.size → M b = some u → u ≠ 7000 → Mc b = some (Zt + b)
theorem wO {J : World → bD → Prop} (hJ : Cb J) {S K : Nat → Prop} {w w' : World} {M M' : bD} (le : Le S K w M w' M') (hs : ¬ S 7000) (hk : ¬ K 7000) (h : Pb J w M) : Pb J w' M' := by
  obtain ⟨Mc, wf, z, hj, h1, h2⟩ := h
  have own : ∀ b, M b = some 7000 → M' b = some 7000 ∧ w'.heap[b]? = w.heap[b]? := fun b h => let ⟨a, c⟩ := le.own b _ h hk; ⟨a, c hs⟩
  have mb : ∀ b t, Mc b = some t → t < Zt → M b = some 7000 := fun b t h ht => by
    cases hm : M b with
    | none => rw [h1 b hm] at h; cases h
    | some u =>
      by_cases e : u = 7000
      · rw [e]
      · have := h2 b u (wf.lt b t h) hm e
        rw [this] at h; injection h with h; omega
  let N : bD := fun b => if b < w'.heap.size then (match M' b with | none => none | some u => if u = 7000 then (if b < w.heap.size ∧ M b = some 7000 then Mc b else some (Zt + b)) else some (Zt + b)) else none
  have hN : ∀ b, N b = if b < w'.heap.size then (match M' b with | none => none | some u => if u = 7000 then (if b < w.heap.size ∧ M b = some 7000 then Mc b else some (Zt + b)) else some (Zt + b)) else none := fun _ => rfl
  have zok : Gu N := by
    intro b u h hu
    rw [hN] at h
    split at h
    · split at h
      · cases h
      · split at h
        · split at h
          · exact z b u h hu
          · injection h with h; exact h.symm
        · injection h with h; exact h.symm
    · cases h
  have wf' : Wf w' N := by
    refine ⟨fun b t h => ?_, fun b b' t ht1 h h' => ?_⟩
    · rw [hN] at h
      split at h
      · assumption
      · cases h
    · have part : ∀ b, N b = some (t + 1) → Mc b = some (t + 1) := fun b h => by
        have hz : t + 1 < Zt := by unfold Zt; omega
        rw [hN] at h
        split at h
        · split at h
          · cases h
          · split at h
            · split at h
              · exact h
              · injection h with h; omega
            · injection h with h; omega
        · cases h
      exact wf.inj b b' t ht1 (part b h) (part b' h')
  have lez : Le (fun t => Zt ≤ t) (fun t => Zt ≤ t) w Mc w' N := by
    refine ⟨le.size, le.os, le.tape, le.out, fun b hb hm => ?_, fun b t hm ht => ?_⟩
    · have hb' : b < w'.heap.size := Nat.lt_of_lt_of_le hb le.size
      cases hmb : M b with
      | none =>
        obtain ⟨a, c⟩ := le.qz b hb hmb
        exact ⟨by rw [hN, if_pos hb', a], c⟩
      | some u =>
        by_cases e : u = 7000
        · subst e
          obtain ⟨a, c⟩ := own b hmb
          exact ⟨by rw [hN, if_pos hb', a]; show (if (7000 : Nat) = 7000 then _ else _) = _; rw [if_pos rfl, if_pos ⟨hb, hmb⟩]; exact hm, c⟩
        · rw [h2 b u hb hmb e] at hm; cases hm
    · have hlt := wf.lt b t hm
      have h0 := mb b t hm (Nat.lt_of_not_le ht)
      obtain ⟨a, c⟩ := own b h0
      refine ⟨?_, fun _ => c⟩
      rw [hN, if_pos (Nat.lt_of_lt_of_le hlt le.size), a]
      show (if (7000 : Nat) = 7000 then _ else _) = _
      rw [if_pos rfl, if_pos ⟨hlt, h0⟩]; exact hm
  refine ⟨N, wf', zok, hJ _ _ _ _ wf' lez hj, fun b h => ?_, fun b u hb h hu => ?_⟩
  · rw [hN, h]; split <;> rfl
  · rw [hN, if_pos hb, h]; show (if u = 7000 then _ else _) = _; rw [if_neg hu]
def Cont.ck {J : World → bD → Prop} (hJ : Cb J) : Cont :=
  { den := fun w M t => t = 7000 ∧ Pb J w M
    mono := fun le _ _ hs hk ⟨e, h⟩ => ⟨e, wO hJ le (e ▸ hs) (e ▸ hk) h⟩ }
theorem Cont.O8 {J : Nat → World → bD → Prop} (hJ : ∀ k, Cb (J k)) {a b : Nat} (e : a = b) : (Cont.ck (hJ a)).Sub (Cont.ck (hJ b)) := by subst e; exact Cont.aF _
def Rf (b1 : Bool) (J1 Jx : World → bD → Prop) (w : World) (M : bD) (v : Value) : Prop := (v = .bool b1 ∧ Pb J1 w M) ∨ (v = .bool (!b1) ∧ Pb Jx w M)
def Ty.yb {J1 Jx : World → bD → Prop} (b1 : Bool) (h1 : Cb J1) (hx : Cb Jx) : Ty :=
  ⟨Rf b1 J1 Jx, [7000], [7000], fun le hk hs h => h.imp (fun ⟨e, h⟩ => ⟨e, wO h1 le (hs _ (by simp)) (hk _ (by simp)) h⟩) (fun ⟨e, h⟩ => ⟨e, wO hx le (hs _ (by simp)) (hk _ (by simp)) h⟩), true, fun _ h => h.elim (fun ⟨e, _⟩ => e ▸ rfl) (fun ⟨e, _⟩ => e ▸ rfl)⟩
def Cont.me (g T : Nat) (v : Value) (tys : List Ty) (cs : List Value) (h1 : cD tys = []) (h2 : bl tys = []) : Cont :=
  { den := fun w M _ => M g = some 1000 ∧ w.heap[g]? = some (.cells #[v] T (0, 0)) ∧ cF w M tys cs
    deps := [1000], cdeps := [1000]
    mono := fun le hk hs _ _ ⟨e1, e2, e3⟩ => let ⟨a, c⟩ := le.own g _ e1 (hk 1000 (by simp)); ⟨a, (c (hs 1000 (by simp))).trans e2, bz le (by rw [h1]; intro _ h; cases h) (by rw [h2]; intro _ h; cases h) e3⟩ }
def C4 (w : World) (M1 Mc' : bD) : bD := fun b => if b < w.heap.size then M1 b else (Mc' b).map fun _ => 7000
theorem JC {w w' : World} {M1 Mc Mc' : bD} (wf1 : Wf w M1) (wf' : Wf w' Mc') (h1 : ∀ b, M1 b = none → Mc b = none) (h2 : ∀ b u, b < w.heap.size → M1 b = some u → u ≠ 7000 → Mc b = some (Zt + b)) (le : Le (fun t => t < Zt) (fun t => t < Zt) w Mc w' Mc') :
 Wf w' (C4 w M1 Mc') ∧ Le (· ∈ [7000]) (· ∈ ([] : List Nat)) w M1 w' (C4 w M1 Mc') ∧ (∀ b, C4 w M1 Mc' b = none → Mc' b = none) ∧ ∀ b u, b < w'.heap.size → C4 w M1 Mc' b = some u → u ≠ 7000 → Mc' b = some (Zt + b) := by
 unfold C4
 refine ⟨⟨fun b u h => ?_, fun b b' u ht1 h h' => ?_⟩, ⟨le.size, le.os, le.tape, le.out, fun b hb hm => ⟨by simp [hb, hm], (le.qz b hb (h1 b hm)).2⟩, fun b u hm _ => ⟨by simp [wf1.lt b u hm, hm], fun hs => ?_⟩⟩, fun b h => ?_, fun b u _ h hu => ?_⟩
 ·split at h
  ·exact Nat.lt_of_lt_of_le ‹_› le.size
  obtain ⟨v, hv, _⟩ := Option.map_eq_some_iff.1 h
  exact wf'.lt b v hv
 ·have part : ∀ b, (if b < w.heap.size then M1 b else (Mc' b).map fun _ => 7000) = some (u + 1) → M1 b = some (u + 1) := fun b h => by
   split at h
   ·exact h
   obtain ⟨v, _, hv⟩ := Option.map_eq_some_iff.1 h
   omega
  exact wf1.inj b b' u ht1 (part b h) (part b' h')
 ·have hu : u ≠ 7000 := fun e => hs (by simp [e])
  exact (le.own b _ (h2 b u (wf1.lt b _ hm) hm hu) (by omega)).2 (by omega)
 ·split at h
  ·exact (le.qz b ‹_› (h1 b h)).1
  simpa using h
 split at h
 ·exact (le.own b _ (h2 b u ‹_› h hu) (by omega)).1
 obtain ⟨v, _, hv⟩ := Option.map_eq_some_iff.1 h
 exact absurd hv.symm hu
section
variable {P : Program} {fr : Fr} {ops : Array Oper} {A : As} {rest : List Oper} {K : As → List (As × Fx) → Prop} {d : Nat} {t ty' : TypeId} {p : String} {e : Array Edge}
theorem DN {c l k : Nat} {encs : List (List Ty)} {J : Nat → World → bD → Prop} {Jx : World → bD → Prop} (hJ : ∀ k, Cb (J k)) (hJx : Cb Jx) (hY : Pc P l encs J Jx) {xs : List Operand} {ats : Array TypeId} {tys : List Ty}
 (hkd : fr.kd = .plain) (hc : A.op fr (.tmp c) = .ex (yv l)) (hx : pE A fr xs = tys) (hd : cD tys = []) (hdc : bl tys = []) (hk : encs[k]? = some tys) (ht : A.tag 7000 = some (.ck (hJ k)))
 (h : ay P fr ops rest (A.after { d := some d, ty := .yb true (hJ (k + 1)) hJx, S := [7000], rs := c :: xs.flatMap cI, rt := [7000] }) fun A' l' => K A' ((A, { d := some d, ty := .yb true (hJ (k + 1)) hJx, S := [7000], rs := c :: xs.flatMap cI, rt := [7000] }) :: l')) :
 ay P fr ops (⟨some d, .call ⟨.value (.tmp c), xs.toArray, ats⟩, t, p, e, none⟩ :: rest) A K := by
 refine ⟨{ d := some d, ty := .yb true (hJ (k + 1)) hJx, S := [7000], rs := c :: xs.flatMap cI, rt := [7000] }, ⟨rfl, by simp, by simp, by simp, fun a w M wf hsz hrd htg => ?_⟩, h⟩
 rw [if_pos (by simp [Region.wanted])]
 have hcv := cU (x := .tmp c) (rs := c :: xs.flatMap cI) (fun u hu => by exact (List.mem_singleton.1 hu) ▸ List.mem_cons_self) hrd
 rw [hc] at hcv
 have hcv : a.eval (.tmp c) = yv l := hcv
 obtain ⟨_, Mc, wfc, z, hj, h1, h2⟩ := htg _ (cj ht) (by simp)
 have hv : cF w Mc tys (xs.map a.eval) := g8 h1 hd hdc (hx ▸ hH (rs := c :: xs.flatMap cI) hrd fun x hx c hc => List.mem_cons_of_mem _ (List.mem_flatMap.2 ⟨x, hx, hc⟩))
 obtain ⟨fn, tmps, assign, body, hy, hR⟩ := hY k tys hk w Mc _ wfc z hj hv
 refine ⟨fun f _ => fr.kd.wC f, ?_⟩
 have hrun : (execOp a.eval ⟨some d, .call ⟨.value (.tmp c), xs.toArray, ats⟩, t, p, e, none⟩).run P w = .ok (.round l fn tmps assign body) w := by
  simp [execOp, resolve, hcv, yv, Deferred.ofValue, invoke, hy]
 rw [Oper.semAt_eq _ _ _ (by intro c h; cases h), hrun, Oper.uponIn_round]
 refine ⟨fun h => (by rw [fr.kd.xy] at h; cases h), ?_⟩
 have hfe : fr.kd.jO = Fence.wide := by rw [hkd]; rfl
 rw [hfe]
 refine RoundIn.mono hR fun en w' ⟨Mc', wf', z', le, hor⟩ => ?_
 obtain ⟨g1, g2, g3, g4⟩ := JC wf wf' h1 h2 le
 rcases hor with ⟨rfl, hj'⟩ | ⟨rfl, hj'⟩
 ·exact ⟨.bool true, rfl, _, g1, g2, .inl ⟨rfl, Mc', wf', z', hj', g3, g4⟩, by simp⟩
 exact ⟨.bool false, rfl, _, g1, g2, .inr ⟨rfl, Mc', wf', z', hj', g3, g4⟩, by simp⟩
theorem J8 {x : Operand} {J1 Jx : World → bD → Prop} {h1 : Cb J1} {hx : Cb Jx} {b1 : Bool} (hop : A.op fr x = .yb b1 h1 hx)
 (h : ay P fr ops rest (A.set d (.yb (!b1) h1 hx)) fun A' l' => K A' ((A, { d := some d, ty := .yb (!b1) h1 hx, rs := cI x }) :: l')) : ay P fr ops (⟨some d, .unOp .not ty' x, t, p, e, none⟩ :: rest) A K :=
 bK (bZ rfl rfl fun a w M _ hrd _ => by
  have hdx := cU (x := x) (fun _ h => h) hrd
  rw [hop] at hdx
  rcases hdx with ⟨ex, hj⟩ | ⟨ex, hj⟩
  ·exact ⟨.bool (!b1), by simp [execOp, ex, Op.unary], .inl ⟨rfl, hj⟩⟩
  exact ⟨.bool (!!b1), by simp [execOp, ex, Op.unary], .inr ⟨rfl, hj⟩⟩) h
end
section
variable {P : Program} {fr : Fr} {A : As} {Q : Exit → Act → World → Prop} {x y : Code}
theorem Ex {c : Operand} {J1 Jx : World → bD → Prop} {h1 : Cb J1} {hx : Cb Jx} (hc : A.op fr c = .yb false h1 hx) (hth : fS P fr x ⟨A.slots, (7000, .ck hx) :: A.tags⟩ Q) (hel : fS P fr y ⟨A.slots, (7000, .ck h1) :: A.tags⟩ Q) : fS P fr (.cond c x y) A Q := fun a w ha => by
 obtain ⟨M, ok, hs, ht⟩ := ha
 have hd := cU (x := c) (rs := cI c) (fun _ h => h) (fun c _ hn => hs c hn)
 rw [hc] at hd
 rcases hd with ⟨ev, hj⟩ | ⟨ev, hj⟩
 ·exact wpIn_cond_false ev (hel a w ⟨M, ok, hs, fun x hx => by
   rcases List.mem_cons.1 hx with rfl | hx
   ·exact ⟨rfl, hj⟩
   exact ht x hx⟩)
 ·exact wpIn_cond_true ev (hth a w ⟨M, ok, hs, fun x hx => by
   rcases List.mem_cons.1 hx with rfl | hx
   ·exact ⟨rfl, hj⟩
   exact ht x hx⟩)
end
def lR (Mc : bD) (g : Option Nat) : bD := fun b => match Mc b with | none => none | some u => if u < Zt then some 7000 else if some b = g then some 1000 else some 5000
theorem C8 {Mc : bD} {g : Option Nat} {b : Nat} (h : lR Mc g b = none) : Mc b = none := by
 unfold lR at h
 split at h
 ·assumption
 split at h
 ·cases h
 split at h <;> cases h
theorem oq {Mc : bD} {g : Option Nat} {b : Nat} (h : Mc b = none) : lR Mc g b = none := by simp [lR, h]
theorem Gg {w : World} {Mc : bD} {g : Option Nat} (wf : Wf w Mc) : Wf w (lR Mc g) := by
  refine ⟨fun b t h => ?_, fun b b' t ht h h' => ?_⟩
  · cases hm : Mc b with
    | none => rw [oq hm] at h; cases h
    | some u => exact wf.lt b u hm
  · have key : ∀ b, lR Mc g b = some (t + 1) → some b = g := fun b h => by
      unfold lR at h
      split at h
      · cases h
      · split at h
        · injection h with h; omega
        · split at h
          · assumption
          · injection h with h; omega
    have e1 := key b h
    have e2 := key b' h'
    rw [← e2] at e1; injection e1
theorem IA {w : World} {Mc : bD} {g : Option Nat} {J : World → bD → Prop} (wf : Wf w Mc) (z : Gu Mc) (hj : J w Mc) : Pb J w (lR Mc g) := by
 refine ⟨Mc, wf, z, hj, fun b h => C8 h, fun b u _ h hu => ?_⟩
 unfold lR at h
 split at h
 ·cases h
 rename_i v hv
 split at h
 ·injection h with h; exact absurd h.symm hu
 rw [hv]; congr 1; exact z b v hv (by omega)
section
variable {P : Program}
variable {A : As} {fn : Func} {n : Nat} {J1 Jx : World → bD → Prop}
end
end Go.T
namespace Go.T
open Go Go.RowKit
section
variable {P : Program} {fr : Fr} {ops : Array Oper} {A : As} {rest : List Oper} {K : As → List (As × Fx) → Prop} {d : Nat} {t ty' : TypeId} {p : String} {e : Array Edge} [T : lM P]
variable {α : Type} {E : El α} {Tb J : Nat} {xs ys : List α}
theorem OX {x : Operand} {ti : TI} {el : Nat} (hx : A.op fr x = .fj E Tb J xs) (hT : T.eV[ty']? = some ti) (hk : ti.k = .slice el)
 (h : ay P fr ops rest (A.set d (.int .i64 (xs.length : Nat))) fun A' l => K A' ((A, { d := some d, ty := .int .i64 (xs.length : Nat), rs := cI x }) :: l)) :
 ay P fr ops (⟨some d, .call ⟨.builtin .len, #[x], #[ty']⟩, t, p, e, none⟩ :: rest) A K :=
 bK (bZ rfl rfl fun a w M _ hr _ => by
  have := cU (x := x) (fun _ h => h) hr
  rw [hx] at this
  have h1 := this
  obtain ⟨_, D, _, hD, hkd, _⟩ := dB hT
  rw [hk] at hkd
  cases D <;> simp only [TK.of, reduceCtorEq, TK.slice.injEq] at hkd
  refine ⟨.int .i64 xs.length, ?_, rfl⟩
  rcases h1 with ⟨hn, ex⟩ | ⟨g, off, c, cur, ex, _⟩
  ·simp [execOp, ex, resolve, invoke, builtin, Builtin.len_, run_underlying hD, hn, goInt]
  simp [execOp, ex, resolve, invoke, builtin, Builtin.len_, run_underlying hD, goInt]) h
theorem J9 [Inhabited α] {x y : Operand} {kd : IntKind} {i : Nat} {ti te : TI} {el : Nat} (hx : A.op fr x = .fj E Tb J xs) (hy : A.op fr y = .int kd i) (hT : T.eV[ty']? = some ti) (hk : ti.k = .slice el) (hE : T.eV[el]? = some te) (hs : te.size = E.size) (hi : i < xs.length)
 (h : ay P fr ops rest (A.set d (.op J (E.tys (nth xs i)))) fun A' l' => K A' ((A, { d := some d, ty := .op J (E.tys (nth xs i)), rs := cI x ++ cI y }) :: l')) : ay P fr ops (⟨some d, .indexAddr ty' x y, t, p, e, none⟩ :: rest) A K :=
 bK (bZ rfl rfl fun a w M _ hr _ => by
  obtain ⟨hdx, hdy⟩ := op2 hr
  rw [hx] at hdx; rw [hy] at hdy
  have h1 := hdx
  have ey : a.eval y = .int kd i := hdy
  rcases h1 with ⟨h0, _⟩ | ⟨g, off, c, cur, ex, hg, hh, hn, _, _, hd⟩
  ·subst h0; simp at hi
  refine ⟨_, by simp only [execOp, ex, ey, Sem.run_bind, iP hT hk hE (Int.natCast_nonneg i) (show (i : Int).toNat < xs.length from hi)]; rfl, g, off + i * te.size, by simp, hg, fun j ty hj => ?_⟩
  rw [hs]
  exact zT hh hd hi hj) h
theorem Oe {x y : Operand} {kd : IntKind} {lo : Nat} {ti te : TI} {el : Nat} (hx : A.op fr x = .fj E Tb J xs) (hy : A.op fr y = .int kd lo) (hT : T.eV[ty']? = some ti) (hk : ti.k = .slice el) (hE : T.eV[el]? = some te) (hs : te.size = E.size) (hlo : lo ≤ xs.length) (h0 : 0 < xs.length)
 (h : ay P fr ops rest (A.set d (.fj E Tb J (xs.drop lo))) fun A' l' => K A' ((A, { d := some d, ty := .fj E Tb J (xs.drop lo), rs := cI x ++ cI y }) :: l')) : ay P fr ops (⟨some d, .slice ty' x (some y) none none, t, p, e, none⟩ :: rest) A K :=
 bK (bZ rfl rfl fun a w M _ hr _ => by
  obtain ⟨hdx, hdy⟩ := op2 hr
  rw [hx] at hdx; rw [hy] at hdy
  have h1 := hdx
  have ey : a.eval y = .int kd lo := hdy
  obtain ⟨_, D, _, hD, hkd, _⟩ := dB hT
  rw [hk] at hkd
  cases D <;> simp only [TK.of, reduceCtorEq, TK.slice.injEq] at hkd
  subst hkd
  have hsz := fun w => dQ (P := P) hE w
  rcases h1 with ⟨hn, _⟩ | ⟨g, off, c, cur, ex, hg, hh, hn, hc, hsz2, hd⟩
  ·subst hn; simp at h0
  have hlc : lo ≤ c := by omega
  have hrun : ∃ ad, (execOp a.eval ⟨some d, .slice ty' x (some y) none none, t, p, e, none⟩).run P w = .ok (.value (.slice (some ad) (xs.length - lo) (c - lo))) w ∧ ad = (if c = lo then (⟨g, off, none⟩ : Addr) else ⟨g, off + lo * E.size, none⟩) := by
   refine ⟨_, ?_, rfl⟩
   simp [execOp, ex, ey, Instr.sliceAt, Instr.slice, run_underlying hD, Instr.sliceBounds, Instr.sliceBound, asIntOf, hsz, hs, hn, hlo]
   by_cases hcl : c = lo
   ·simp [hcl]
   simp [hcl]; exact Addr.add_lit _ _ _
  obtain ⟨ad, hrun, had⟩ := hrun
  have hlen : (xs.drop lo).length = xs.length - lo := List.length_drop
  have key : cF w M ((xs.drop lo).flatMap E.tys) ((cur.toList.drop (off + lo * E.size)).take ((xs.drop lo).length * E.size)) := by
   have := nM (lo * E.size) hd
   rw [List.drop_take, List.drop_drop, ← Nat.sub_mul] at this
   have e1 : (xs.flatMap E.tys).drop (lo * E.size) = (xs.drop lo).flatMap E.tys := by
    have : xs.flatMap E.tys = (xs.take lo).flatMap E.tys ++ (xs.drop lo).flatMap E.tys := by rw [← List.flatMap_append, List.take_append_drop]
    rw [this, List.drop_left' (by rw [dA, List.length_take, Nat.min_eq_left hlo])]
   rw [e1] at this
   rw [hlen]; exact this
  by_cases hcl : c = lo
  ·rw [if_pos hcl] at had
   subst had
   refine ⟨_, hrun, .inr ⟨g, off, c - lo, cur, by rw [hlen], hg, hh, by rw [hlen]; omega, by omega, ?_, ?_⟩⟩
   ·have : c - lo = 0 := by omega
    rw [this]; omega
   have h0' : xs.drop lo = [] := List.eq_nil_of_length_eq_zero (by rw [hlen]; omega)
   rw [h0']; simp [cF]
  rw [if_neg hcl] at had
  subst had
  refine ⟨_, hrun, .inr ⟨g, off + lo * E.size, c - lo, cur, by rw [hlen], hg, hh, by rw [hlen]; omega, by omega, ?_, key⟩⟩
  rw [Nat.add_assoc, ← Nat.add_mul, show lo + (c - lo) = c by omega]; exact hsz2) h
theorem Gw {x y : Operand} {st el : Nat} {ti te : TI} (hx : A.op fr x = .fj E el J xs) (hy : A.op fr y = .sl E ys) (hJ : 4096 ≤ J) (hp : fr.pass.contains J = false) (hpos : 0 < ys.length) (hT : T.eV[st]? = some ti) (hk : ti.k = .slice el) (hE : T.eV[el]? = some te) (hs : te.size = E.size) (hz : te.zero.length = te.size) (h0 : 0 < te.size)
    (hlen : (xs.length + ys.length) * te.bytes ≤ 140737488355328) (hlen' : xs.length + ys.length ≤ 9223372036854775807)
    (h : ay P fr ops rest (A.after { d := some d, ty := .fj E el J (xs ++ ys), S := [J], rs := cI x ++ cI y }) fun A' l' => K A' ((A, { d := some d, ty := .fj E el J (xs ++ ys), S := [J], rs := cI x ++ cI y }) :: l')) :
    ay P fr ops (⟨some d, .call ⟨.builtin .append, #[x, y], #[st, st]⟩, t, p, e, none⟩ :: rest) A K := by
  refine ⟨_, gB rfl rfl (by simp) (by simp; omega) (by simp) fun a w M wf hr htg => ?_, h⟩
  obtain ⟨hdx, hdy⟩ := op2 hr
  rw [hx] at hdx; rw [hy] at hdy
  have hrow := hdx
  obtain ⟨_, D, _, hD, hkd, _⟩ := dB hT
  rw [hk] at hkd
  cases D <;> simp only [TK.of, reduceCtorEq, TK.slice.injEq] at hkd
  subst hkd
  rename_i el
  obtain ⟨i, _, hi, _, _, hsz, hby, hze⟩ := dB hE
  obtain ⟨zz, hiz, hzc⟩ : ∃ z, i.zero = some z ∧ z.cells.size = i.size := by
    cases hiz : i.zero with
    | none => rw [hiz] at hze; rw [← hze] at hz; simp at hz; omega
    | some z => rw [hiz] at hze; exact ⟨z, rfl, by simp at hze; rw [hsz, ← hz, ← hze]; simp⟩
  obtain ⟨ad, c', ey, hc1, hc2, hpp⟩ := hdy
  obtain ⟨b', off', rfl, hp'⟩ := hpp hpos
  obtain ⟨news, hn1, hn2, hn3⟩ := ni hp' _ (Nat.le_refl _)
  rw [List.take_length] at hn2
  have hnl : news.length = ys.length * i.size := by rw [hn1, dA, hsz, hs]
  have hnews : ∀ j u, news[j]? = some u → w.cell? ((⟨b', off', none⟩ : Addr).add j) = some u := fun j u hj => by rw [Addr.add_lit]; exact hn3 j u hj
  have hones := kU hn2 (mE E ys)
  have hesz : E.size = i.size := by rw [hsz, hs]
  -- behind a growth
  have grown : ∀ (olds : List Value) (cap : Nat), cF w M (xs.flatMap E.tys) olds → cap < xs.length + ys.length →
      (Builtin.append_ #[st, st] t #[a.eval x, a.eval y]).run P w = .ok (.slice (some ⟨w.heap.size, 0, none⟩) (xs.length + ys.length) (grownCap w (xs.length + ys.length) cap el)) (w.drew.alloc (.cells (olds.toArray ++ news.toArray ++ Builtin.zeroCells zz.cells (grownCap w (xs.length + ys.length) cap el - (xs.length + ys.length))) el)) →
      ∃ v w', (execOp a.eval ⟨some d, .call ⟨.builtin .append, #[x, y], #[st, st]⟩, t, p, e, none⟩).run P w = .ok (.value v) w' ∧ Fx.left { d := some d, ty := .fj E el J (xs ++ ys), S := [J], rs := cI x ++ cI y } w M w' v := by
    intro olds cap hdo hcap hrun
    have holen : olds.length = xs.length * i.size := by rw [cX hdo, dA, hesz]
    have hge := grownCap_ge w (xs.length + ys.length) cap el
    have hcm : grownCap w (xs.length + ys.length) cap el ≤ maxLen := grownCap_le_maxLen w (xs.length + ys.length) cap el (by simp only [maxLen]; omega)
    have hsize : (w.drew.alloc (.cells (olds.toArray ++ news.toArray ++ Builtin.zeroCells zz.cells (grownCap w (xs.length + ys.length) cap el - (xs.length + ys.length))) el)).heap.size = w.heap.size + 1 := by simp
    have hold : ∀ b2, b2 < w.heap.size → (w.drew.alloc (.cells (olds.toArray ++ news.toArray ++ Builtin.zeroCells zz.cells (grownCap w (xs.length + ys.length) cap el - (xs.length + ys.length))) el)).heap[b2]? = w.heap[b2]? := fun b2 h => Below.heap_alloc w.drew _ b2 h
    have hnew : (w.drew.alloc (.cells (olds.toArray ++ news.toArray ++ Builtin.zeroCells zz.cells (grownCap w (xs.length + ys.length) cap el - (xs.length + ys.length))) el)).heap[w.heap.size]? = some (.cells (olds.toArray ++ news.toArray ++ Builtin.zeroCells zz.cells (grownCap w (xs.length + ys.length) cap el - (xs.length + ys.length))) el (0, 0)) := gq w.drew _
    have hos : (w.drew.alloc (.cells (olds.toArray ++ news.toArray ++ Builtin.zeroCells zz.cells (grownCap w (xs.length + ys.length) cap el - (xs.length + ys.length))) el)).os = w.os ∧ (w.drew.alloc (.cells (olds.toArray ++ news.toArray ++ Builtin.zeroCells zz.cells (grownCap w (xs.length + ys.length) cap el - (xs.length + ys.length))) el)).tape = w.tape ∧ (w.drew.alloc (.cells (olds.toArray ++ news.toArray ++ Builtin.zeroCells zz.cells (grownCap w (xs.length + ys.length) cap el - (xs.length + ys.length))) el)).output = w.output := ⟨rfl, rfl, rfl⟩
    have hcs : (olds.toArray ++ news.toArray ++ Builtin.zeroCells zz.cells (grownCap w (xs.length + ys.length) cap el - (xs.length + ys.length))).size = grownCap w (xs.length + ys.length) cap el * i.size := by
      simp only [Array.size_append, List.size_toArray, size_zeroCells, hzc, holen, hnl, ← Nat.add_mul]
      congr 1
      omega
    have htk : ((olds.toArray ++ news.toArray ++ Builtin.zeroCells zz.cells (grownCap w (xs.length + ys.length) cap el - (xs.length + ys.length))).toList.drop 0).take ((xs ++ ys).length * E.size) = olds ++ news := by
      rw [List.drop_zero]
      simp only [Array.toList_append]
      rw [List.take_left' (by rw [List.length_append, holen, hnl, List.length_append, hesz, Nat.add_mul])]
    generalize hw' : (w.drew.alloc (.cells (olds.toArray ++ news.toArray ++ Builtin.zeroCells zz.cells (grownCap w (xs.length + ys.length) cap el - (xs.length + ys.length))) el)) = w' at *
    generalize hcu : (olds.toArray ++ news.toArray ++ Builtin.zeroCells zz.cells (grownCap w (xs.length + ys.length) cap el - (xs.length + ys.length))) = cu at *
    have le : Le (· ∈ [J]) (· ∈ ([] : List Nat)) w M w' (fun b2 => if b2 = w.heap.size then some J else M b2) :=
      ⟨by omega, hos.1, hos.2.1, hos.2.2, fun b2 hb2 hm => ⟨by rw [if_neg (by omega)]; exact hm, hold b2 hb2⟩, fun b2 u hm _ => by
        have := wf.lt b2 u hm
        exact ⟨by rw [if_neg (by omega)]; exact hm, fun _ => hold b2 this⟩⟩
    have le0 : Le (· ∈ ([] : List Nat)) (· ∈ ([] : List Nat)) w M w' (fun b2 => if b2 = w.heap.size then some J else M b2) :=
      ⟨by omega, hos.1, hos.2.1, hos.2.2, fun b2 hb2 hm => ⟨by rw [if_neg (by omega)]; exact hm, hold b2 hb2⟩, fun b2 u hm _ => by
        have := wf.lt b2 u hm
        exact ⟨by rw [if_neg (by omega)]; exact hm, fun _ => hold b2 this⟩⟩
    have wf' : Wf w' (fun b2 => if b2 = w.heap.size then some J else M b2) := by
      refine ⟨fun b2 u hm => ?_, fun b2 b3 u ht1 hm hm' => ?_⟩
      · split at hm
        · omega
        · have := wf.lt b2 u hm; omega
      · split at hm
        · injection hm with hm; omega
        · split at hm'
          · injection hm' with hm'; omega
          · exact wf.inj b2 b3 u ht1 hm hm'
    refine ⟨.slice (some ⟨w.heap.size, 0, none⟩) (xs.length + ys.length) (grownCap w (xs.length + ys.length) cap el), w', by simp [execOp, resolve, invoke, builtin, hrun], _, wf', le, .inr ⟨w.heap.size, 0, grownCap w (xs.length + ys.length) cap el, cu, by rw [List.length_append], by simp, hnew, by rw [List.length_append]; exact hge, hcm, by rw [hcs, hesz]; omega, ?_⟩, by simp⟩
    rw [htk, List.flatMap_append]
    exact jz (bz le0 (by rw [E.cY]; intro _ h; cases h) (by rw [E.cS]; intro _ h; cases h) hdo) (bz le0 (by rw [E.cY]; intro _ h; cases h) (by rw [E.cS]; intro _ h; cases h) hn2)
  rcases hrow with ⟨hxe, ex⟩ | ⟨g, off, cap, cur, ex, hg, hh, hxc, hcm, hfit, hdx⟩
  · have hrn := run_append_nil (P := P) w st t el i zz hD hi hiz ⟨b', off', none⟩ ys.length c' news hnl hnews hpos (by omega) (by rw [hby]; have := hlen; rw [Nat.add_mul] at this; omega)
    subst hxe
    refine grown [] 0 trivial (by simpa using hpos) ?_
    rw [ex, ey]
    simpa using hrn
  · by_cases hroom : xs.length + ys.length ≤ cap
    · -- in place
      have hm : (xs.length + ys.length) * E.size ≤ cap * E.size := Nat.mul_le_mul_right _ hroom
      rw [Nat.add_mul] at hm
      have hcf : off + xs.length * i.size + news.length ≤ cur.size := by rw [hnl, ← hesz]; omega
      have hf := run_firstCells_some (P := P) w i.size ys.length ⟨b', off', none⟩ ys.length c' news hnl hnews
      have hst := run_storeCells_at (P := P) g (off + xs.length * i.size) el news 0 cur w hh (by simpa using hcf) hones
      rw [oo _ hh] at hst
      simp only [Nat.add_zero] at hst
      obtain ⟨h1', h2', h3'⟩ := lI (cs' := (cur.toList.take (off + xs.length * i.size) ++ news ++ cur.toList.drop (off + xs.length * i.size + news.length)).toArray) (Tb := el) wf hg _ rfl
      have hrun : (Builtin.append_ #[st, st] t #[a.eval x, a.eval y]).run P w = .ok (.slice (some ⟨g, off, none⟩) (xs.length + ys.length) cap) { w with heap := w.heap.setIfInBounds g (.cells (cur.toList.take (off + xs.length * i.size) ++ news ++ cur.toList.drop (off + xs.length * i.size + news.length)).toArray el (0, 0)) } := by
        rw [ex, ey]
        simp [Builtin.append_, run_underlying hD, sizeOf, typeInfo, hi, Builtin.lenOf, hroom, hf, Addr.add_lit, hst]
      have le : Le (· ∈ [J]) (· ∈ ([] : List Nat)) w M { w with heap := w.heap.setIfInBounds g (.cells (cur.toList.take (off + xs.length * i.size) ++ news ++ cur.toList.drop (off + xs.length * i.size + news.length)).toArray el (0, 0)) } M :=
        h2'.weaken (fun u hu => by simp only [List.mem_singleton] at hu; subst hu; simp) (fun _ h => by cases h)
      refine ⟨.slice (some ⟨g, off, none⟩) (xs.length + ys.length) cap, _, by simp [execOp, resolve, invoke, builtin, hrun], M, h1', le, .inr ⟨g, off, cap, _, by rw [List.length_append], hg, h3', by rw [List.length_append]; exact hroom, hcm, ?_, ?_⟩, by simp⟩
      · simp only [List.size_toArray, List.length_append, List.length_take, List.length_drop, Array.length_toList]
        omega
      · rw [List.length_append, Nat.add_mul, hesz, ← hnl, List.toList_toArray, DZ _ _ _ _ (by simpa using hcf), List.flatMap_append]
        refine bz h2' (by rw [← List.flatMap_append, E.cY]; intro _ h; cases h) (by rw [← List.flatMap_append, E.cS]; intro _ h; cases h) (jz ?_ hn2)
        rw [← hesz]; exact hdx
    · have holds : ∀ j u, ((cur.toList.drop off).take (xs.length * E.size))[j]? = some u → w.cell? ((⟨g, off, none⟩ : Addr).add j) = some u := fun j u hj => by
        rw [List.getElem?_take] at hj
        split at hj
        · rw [List.getElem?_drop] at hj
          rw [Addr.add_lit]
          simpa [World.cell?, hh] using hj
        · cases hj
      have hol : ((cur.toList.drop off).take (xs.length * E.size)).length = xs.length * i.size := by rw [cX hdx, dA, hesz]
      have hrn := run_append_grow (P := P) w st t el i zz hD hi hiz ⟨g, off, none⟩ xs.length cap _ hol holds ⟨b', off', none⟩ ys.length c' news hnl hnews (by omega) (by omega) (growslice_fits (by omega) (by rw [hby]; exact hlen))
      refine grown _ cap hdx (by omega) ?_
      rw [ex, ey]
      exact hrn
end
section
variable {P : Program} {fr : Fr} {A : As} {c : Code} {Q : Exit → Act → World → Prop}
end
end Go.T
namespace Go.T
open Go Go.RowKit
section
variable {P : Program} {fr : Fr} {ops : Array Oper} {A : As} {rest : List Oper} {K : As → List (As × Fx) → Prop} {d : Nat} {t : TypeId} {p : String} {e : Array Edge}
end
end Go.T
namespace Go.T
open Go Go.RowKit
theorem Ty.BQ {α : Type} {E : El α} {T tg n : Nat} {xs : List α} (hn : xs.length = n) : (Ty.row E T tg xs).Sub (Ty.vs tg n) := fun w M v ⟨cs, h1, h2, h3⟩ => by
 subst hn
 rcases h1.2 with ⟨e, h0⟩ | ⟨g, cap, cur, ex, _, hh, hn1, hcap, _, htk⟩
 ·exact .inl ⟨h0, e⟩
 exact .inr ⟨g, cap, h3 g (by rw [ex]; rfl), ex, hn1, hcap⟩
theorem Cont.kW {T : Nat} {l l' : List Ty} (h : MI l l') : (Cont.cells T l).Sub (Cont.cells T l') := fun w M v ⟨b, cs, h1, h2, h3⟩ => ⟨b, cs, h1, h2, uO h h3⟩
end Go.T
namespace Go.T
open Go Go.RowKit
end Go.T
namespace Go.T
open Go Go.RowKit
section
variable {P : Program} {fr : Fr} {A : As} {c : Code} {Q : Exit → Act → World → Prop}
theorem q5 {α : Type} {E : El α} {T Tc tg c0 : Nat} {l : List Ty} {xs : List α} (i : Nat) (hc : A.tag c0 = some (.cells Tc l)) (hi : l[i]? = some (.row E T tg xs))
 (h : fS P fr c ⟨A.slots, (tg, .vec E T xs) :: A.tags⟩ Q) : fS P fr c A Q := fun a w ⟨M, ok, hsl, ht⟩ => by
 refine h a w ⟨M, ok, hsl, fun x hx => ?_⟩
 rcases List.mem_cons.1 hx with rfl | hx
 ·obtain ⟨b, cs, hb, hh, hd⟩ := ht _ (cj hc)
  obtain ⟨v, _, ⟨ds, h1, h2, h3⟩⟩ := dc hd i _ hi
  rcases h1.2 with ⟨e, h0⟩ | ⟨g, cap, cur, ex, _, hh, hn1, hcap, _, htk⟩
  ·exact .inl (List.length_eq_zero_iff.1 h0)
  have hg : M g = some tg := h3 g (by rw [ex]; rfl)
  exact .inr ⟨g, cur, hg, hh, by rw [dA, htk]; exact h2⟩
 exact ht x hx
end
end Go.T
namespace Go.T
open Go Go.RowKit
section
variable {P : Program} {A : As} {fn : Func} {n : Nat} {w0 : World} {M0 : bD}
end
end Go.T
namespace Go.T
open Go Go.RowKit
section
variable {P : Program} {fr : Fr} {A : As} {c : Code} {Q : Exit → Act → World → Prop}
end
section
variable {P : Program} {A : As} {fn : Func} {n : Nat} {w0 : World} {M0 : bD}
end
end Go.T
namespace Go.T
open Go Go.RowKit
section
variable {P : Program} {fr : Fr} {ops : Array Oper} {A : As} {rest : List Oper} {K : As → List (As × Fx) → Prop} {d : Nat} {t : TypeId} {p : String} {e : Array Edge} {y : Operand}
theorem BB {c : Operand} {b : Bool} (hc : A.op fr c = .bool false) (hy : A.op fr y = .bool b)
 (h : ay P fr ops rest (A.set d (.bool b)) fun A' l' => K A' ((A, { d := some d, ty := .bool b, rs := cI c ++ cI y }) :: l')) : ay P fr ops (⟨some d, .pick c (.const (.bool true)) y, t, p, e, none⟩ :: rest) A K :=
 bK (bZ rfl rfl fun a w M _ hrd _ => by
  obtain ⟨hdc, hdy⟩ := op2 hrd
  rw [hc] at hdc; rw [hy] at hdy
  have ec : a.eval c = .bool false := hdc
  have ey : a.eval y = .bool b := hdy
  exact ⟨.bool b, by simp only [execOp, ec, ey]; simp [asBool], rfl⟩) h
theorem NL {c : Operand} (hc : A.op fr c = .bool true)
 (h : ay P fr ops rest (A.set d (.bool true)) fun A' l' => K A' ((A, { d := some d, ty := .bool true, rs := cI c ++ cI y }) :: l')) : ay P fr ops (⟨some d, .pick c (.const (.bool true)) y, t, p, e, none⟩ :: rest) A K :=
 bK (bZ rfl rfl fun a w M _ hrd _ => by
  obtain ⟨hdc, _⟩ := op2 hrd
  rw [hc] at hdc
  have ec : a.eval c = .bool true := hdc
  exact ⟨.bool true, by simp only [execOp, ec]; simp [asBool, Act.eval], rfl⟩) h
theorem BD {op : Op} {j s : Nat} {want : Bool} (hs : qN ops j = some s) (hn : Nat.blt s fr.n = true) (hc : A.slots s = .ex undef)
 (h : ay P fr ops rest (A.set d (.ex undef)) fun A' l' => K A' ((A, { d := some d, ty := .ex undef, rs := [s] }) :: l')) : ay P fr ops (⟨some d, op, t, p, e, some (j, want)⟩ :: rest) A K := by
 refine ⟨{ d := some d, ty := .ex undef, rs := [s] }, ⟨rfl, (by simp), (by simp), (by simp), fun a w M wf hsz hrd htg => ?_⟩, h⟩
 have hv := hrd s List.mem_cons_self (by simpa using hn)
 rw [hc] at hv
 have hy := rI (ops := ops) hs (by rw [hsz]; simpa using hn) hv
 have hw : Region.wanted ⟨some d, op, t, p, e, some (j, want)⟩ (yielded ops a.tmps) = false := by
  simp only [Region.wanted, hy]
  cases want <;> simp_all
 rw [if_neg (by rw [hw]; simp)]
 exact ⟨M, wf, Le.refl _ _ _ _, rfl, by simp⟩
end
section
variable {P : Program} {fr : Fr} {A : As} {Q : Exit → Act → World → Prop} {code : Code}
end
end Go.T
namespace Go.T
open Go Go.RowKit
section
variable {P : Program} {fr : Fr} {A : As} {Q : Exit → Act → World → Prop}
end
end Go.T
namespace Go.T
open Go Go.RowKit
section
variable {P : Program} {fr : Fr} {ops : Array Oper} {A : As} {rest : List Oper} {K : As → List (As × Fx) → Prop} {d : Nat} {t ty' : TypeId} {p : String} {e : Array Edge} [T : lM P]
end
section
open Go.RowKit
variable {P : Program} {A : As} {fn : Func} {n : Nat} {w0 : World} {M0 : bD} {F : List Nat} {post : List (Nat × Cont)} [T : lM P]
end
section
variable {P : Program} {fr : Fr} {A : As}
end
end Go.T
namespace Go.T
open Go Go.RowKit
section
variable {P : Program} {fr : Fr} {A : As}
end
end Go.T
namespace Go.T
open Go Go.RowKit
end Go.T
namespace Go.T
open Go Go.RowKit
def QY (tys : List Ty) (vs : List Value) (w : World) (M : bD) (_ : Nat) : Prop := cF w M tys vs
def Cont.fact (tys : List Ty) (vs : List Value) (h1 : cD tys = []) (h2 : bl tys = []) : Cont :=
  { den := QY tys vs, deps := [], cdeps := [], mono := fun le _ _ _ _ h => bz le (by rw [h1]; intro _ h; cases h) (by rw [h2]; intro _ h; cases h) h }
def XB (b D Tb : Nat) (vs : List Value) (J : Nat → World → bD → Prop) : Prop :=
  ∀ k w M, Wf w M → J k w M → M b = some D ∧ ∃ cs : Array Value, w.heap[b]? = some (.cells cs Tb (0, 0)) ∧ cs.toList.take vs.length = vs
def KX (P : Program) (f : FuncId) (b D Tb : Nat) (vs : List Value) (tys : List Ty) (args : Nat → List Ty) (encs : List (List Ty)) (resD resS : Ty) : Prop :=
  (∃ fn, P.funcs[f]? = some fn ∧ (fn.name == "runtime.NumGoroutine") = false ∧ fn.body.isNone = false) ∧
  ∀ l J Jx, (∀ k, Cb (J k)) → Cb Jx → XB b D Tb vs J → Pc P l encs J Jx → ∀ w M us, Wf w M → Gu M → cF w M (args l) us → cF w M tys vs → J 0 w M →
    Calls P f us.toArray w (cN encs.length J Jx resD resS)
section
variable {P : Program}
theorem EP {f b D Tb : Nat} {us : List Value} {tys : List Ty} {fn : Func} {c : Code} {args : Nat → List Ty} {encs : List (List Ty)} {n : Nat} (h1 : cD tys = []) (h2 : bl tys = []) (hf : P.funcs[f]? = some fn) (hb : fn.body = some c) (hn : (fn.name == "runtime.NumGoroutine") = false) (hnt : fn.ntmps = n) (hl : ∀ l, (args l).length ≤ n) (hdd : ∀ l, cD (args l) = [] ∧ bl (args l) = [])
    (h : ∀ l J Jx (hJ : ∀ k, Cb (J k)) (hJx : Cb Jx), XB b D Tb us J → Pc P l encs J Jx → ∀ w0 M0, fS P ⟨n, w0, M0, [7000, 5000], .plain⟩ c (tj (args l) [(7000, .ck (hJ 0)), (4000, Cont.fact tys us h1 h2)]) (bodyPost P fn (cN encs.length J Jx (Ty.lN []) (Ty.lN [])))) : KX P f b D Tb us tys args encs (Ty.lN []) (Ty.lN []) := by
  refine ⟨⟨fn, hf, hn, by rw [hb]; rfl⟩, fun l J Jx hJ hJx hX hY w Mc vs wf z hd hus hj => calls_of_wp hf hb (wpIn_wide.1 (h l J Jx hJ hJx hX hY w (lR Mc none) _ _ ?_))⟩
  have hall : cF w (lR Mc none) (args l) vs := g8 (fun b hb => oq hb) (hdd l).1 (hdd l).2 hd
  have hlen := cX hall
  have hl := hl l
  refine ⟨lR Mc none, ⟨Gg wf, Le.refl _ _ _ _, by simp [hnt, hlen]; omega, Defs.nil⟩, fun c hc => ?_, fun x hx => ?_⟩
  · simp only [tj]
    cases ha : (args l)[c]? with
    | none => trivial
    | some ty =>
      obtain ⟨v, hv, hdv⟩ := dc hall c ty ha
      have : (vs.toArray ++ Array.replicate (fn.ntmps - vs.toArray.size) undef).getD c undef = v := by
        have hlt : c < vs.length := (List.getElem?_eq_some_iff.1 hv).1
        rw [Array.getD_eq_getD_getElem?, Array.getElem?_append_left (by simpa using hlt)]
        simp [hv]
      rw [this]; exact hdv
  · rcases List.mem_cons.1 hx with rfl | hx
    · exact ⟨rfl, IA wf z hj⟩
    · rw [List.mem_singleton.1 hx]
      exact g8 (fun b hb => oq hb) h1 h2 hus
theorem NG {fn : Func} {n : Nat} {A : As} {w0 : World} {M0 : bD} {J : Nat → World → bD → Prop} {Jx : World → bD → Prop} {m : Nat} {h1 : Cb (J m)} (hr : fn.results = #[]) (ht : A.tag 7000 = some (.ck h1)) : dY ⟨n, w0, M0, [7000, 5000], .plain⟩ A (bodyPost P fn (cN m J Jx (Ty.lN []) (Ty.lN [])) .normal) := by
 intro a w' ⟨M, ok, hsl, htg⟩
 obtain ⟨_, Mc', wf', z', hj, k1, k2⟩ := htg _ (cj ht)
 exact ⟨ok.iM (by simp), _, results_none hr _ _ _, _, Mc', rfl, wf', z', .inl ⟨⟨_, rfl, trivial⟩, hj⟩⟩
theorem Li {fn : Func} {n : Nat} {A : As} {w0 : World} {M0 : bD} {J : Nat → World → bD → Prop} {Jx : World → bD → Prop} {m k : Nat} {hJ : ∀ k, Cb (J k)} (e : k = m) (hr : fn.results = #[]) (ht : A.tag 7000 = some (.ck (hJ k))) : dY ⟨n, w0, M0, [7000, 5000], .plain⟩ A (bodyPost P fn (cN m J Jx (Ty.lN []) (Ty.lN [])) .normal) := by
 subst e; exact NG hr ht
theorem GA {fn : Func} {n : Nat} {A : As} {w0 : World} {M0 : bD} {J : Nat → World → bD → Prop} {Jx : World → bD → Prop} {m : Nat} {hx : Cb Jx} (hr : fn.results = #[]) (ht : A.tag 7000 = some (.ck hx)) : dY ⟨n, w0, M0, [7000, 5000], .plain⟩ A (bodyPost P fn (cN m J Jx (Ty.lN []) (Ty.lN [])) .ret) := by
 intro a w' ⟨M, ok, hsl, htg⟩
 obtain ⟨_, Mc', wf', z', hj, k1, k2⟩ := htg _ (cj ht)
 exact ⟨ok.iM (by simp), _, results_none hr _ _ _, _, Mc', rfl, wf', z', .inr ⟨⟨_, rfl, trivial⟩, hj⟩⟩
variable {fr : Fr} {ops : Array Oper} {A : As} {rest : List Oper} {K : As → List (As × Fx) → Prop} {d : Nat} {t ty' : TypeId} {p : String} {e : Array Edge} [T : lM P]
omit T in
theorem k9 {x : Operand} {b off : Nat} (hx : A.op fr x = .ex (.pointer (some ⟨b, off, none⟩)))
 (h : ay P fr ops rest (A.set d (.ex (.pointer (some ⟨b, off, none⟩)))) fun A' l' => K A' ((A, { d := some d, ty := .ex (.pointer (some ⟨b, off, none⟩)), rs := cI x }) :: l')) : ay P fr ops (⟨some d, .nilCheck x, t, p, e, none⟩ :: rest) A K :=
 bK (bZ rfl rfl fun a w M _ hrd _ => by
  have hdx := cU (x := x) (fun _ h => h) hrd
  rw [hx] at hdx
  have ex : a.eval x = .pointer (some ⟨b, off, none⟩) := hdx
  exact ⟨_, by simp [execOp, ex], rfl⟩) h
theorem jN {x : Operand} {b off f : Nat} {ti tf : TI} {fs : List (Nat × Nat)} {o ft : Nat} (hx : A.op fr x = .ex (.pointer (some ⟨b, off, none⟩))) (hT : T.eV[ty']? = some ti) (hk : ti.k = .struct fs) (hf : fs[f]? = some (o, ft)) (hF : T.eV[ft]? = some tf) (h0 : tf.size ≠ 0)
 (h : ay P fr ops rest (A.set d (.ex (.pointer (some ⟨b, off + o, none⟩)))) fun A' l' => K A' ((A, { d := some d, ty := .ex (.pointer (some ⟨b, off + o, none⟩)), rs := cI x }) :: l')) : ay P fr ops (⟨some d, .fieldAddr ty' x f, t, p, e, none⟩ :: rest) A K :=
 bK (bZ rfl rfl fun a w M _ hrd _ => by
  have hdx := cU (x := x) (fun _ h => h) hrd
  rw [hx] at hdx
  have ex : a.eval x = .pointer (some ⟨b, off, none⟩) := hdx
  exact ⟨_, by simp [execOp, ex, uI hT hk hf hF h0], rfl⟩) h
def RW {α : Type} (v : Value) (E : El α) (T tg : Nat) (xs : List α) (w : World) (M : bD) (_ : Nat) : Prop := (Ty.row E T tg xs).den w M v
def Cont.rv {α : Type} (v : Value) (E : El α) (T tg : Nat) (xs : List α) : Cont :=
  { den := RW v E T tg xs, deps := (Ty.row E T tg xs).deps, cdeps := (Ty.row E T tg xs).cdeps, mono := fun le hk hs _ _ h => (Ty.row E T tg xs).mono le hk hs h }
theorem qR {α : Type} {E : El α} {c : Nat} {y : Operand} {st el tg : Nat} {v : Value} {ti te : TI} {xs ys : List α} (hx : A.op fr (.tmp c) = .ex v) (hc : A.tag tg = some (.rv v E el tg xs)) (hy : A.op fr y = .sl E ys) (hcy : (cI y).contains c = false) (h1 : 1 ≤ tg) (hp : fr.pass.contains tg = false) (hT : T.eV[st]? = some ti) (hk : ti.k = .slice el) (hE : T.eV[el]? = some te) (hs : te.size = E.size) (hz : te.zero.length = te.size) (h0 : 0 < te.size)
 (hlen : (xs.length + ys.length) * te.bytes ≤ 140737488355328) (hlen' : xs.length + ys.length ≤ 9223372036854775807) (hyA : (A.set c (.row E el tg xs)).op fr y = A.op fr y) (hxA : (A.set c (.row E el tg xs)).op fr (.tmp c) = .row E el tg xs)
 (h : ay P fr ops rest (A.after { d := some d, ty := .row E el tg (xs ++ ys), K := [tg], rs := cI (.tmp c) ++ cI y, rt := [tg] }) fun A' l' => K A' ((A, { d := some d, ty := .row E el tg (xs ++ ys), K := [tg], rs := cI (.tmp c) ++ cI y, rt := [tg] }) :: l')) :
 ay P fr ops (⟨some d, .call ⟨.builtin .append, #[.tmp c, y], #[st, st]⟩, t, p, e, none⟩ :: rest) A K := by
 refine ⟨_, ?_, h⟩
 obtain ⟨a1, a2, a3, a4, a5⟩ := wR (P := P) (fr := fr) (ops := ops) (A := A.set c (.row E el tg xs)) (d := d) (t := t) (p := p) (e := e) (x := .tmp c) (y := y) (E := E) (xs := xs) (ys := ys) (st := st) (by rw [hxA]; exact Ty.aF _) (hyA.trans hy) h1 hp hT hk hE hs hz h0 hlen hlen'
 refine ⟨a1, a2, a3, a4, fun a w M wf hsz hr ht => a5 a w M wf hsz (fun c' hc' hn => ?_) (fun x _ hx => by cases hx)⟩
 by_cases e : c' = c
 ·subst e
  have h1 : (A.slots c').den w M (a.tmps.getD c' undef) := hr c' hc' hn
  have h2 : RW v E el tg xs w M tg := ht _ (cj hc) (by simp)
  have h3 : A.slots c' = .ex v := by
   have h5 : (bif Nat.blt c' fr.n then A.slots c' else Ty.any) = .ex v := hx
   have h6 : Nat.blt c' fr.n = true := by rw [Nat.blt_eq]; exact hn
   rw [h6, cond_true] at h5
   exact h5
  rw [h3] at h1
  have h4 : a.tmps.getD c' undef = v := h1
  show ((A.set c' (.row E el tg xs)).slots c').den w M _
  simp only [As.set, Nat.beq_refl, cond_true]
  rw [h4]; exact h2
 show ((A.set c (.row E el tg xs)).slots c').den w M _
 have : Nat.beq c' c = false := by cases hb : Nat.beq c' c with | false => rfl | true => exact absurd (Nat.eq_of_beq_eq_true hb) e
 simp only [As.set, this, cond_false]
 exact hr c' hc' hn
theorem Ct {vs l : List Value} {i : Nat} {v : Value} (h : l.take vs.length = vs) (hv : vs[i]? = some v) : l[i]? = some v := by
 have hi : i < vs.length := (List.getElem?_eq_some_iff.1 hv).1
 rw [← h, List.getElem?_take, if_pos hi] at hv
 exact hv
theorem tE {x : Operand} {b D Tb off k : Nat} {vs : List Value} {tys : List Ty} {J : Nat → World → bD → Prop} {hJ : ∀ k, Cb (J k)} {ti : TI} {ty : Ty} {h1 : cD tys = []} {h2 : bl tys = []} (hX : XB b D Tb vs J) (hx : A.op fr x = .ex (.pointer (some ⟨b, off, none⟩))) (ht : A.tag 7000 = some (.ck (hJ k))) (htf : A.tag 4000 = some (Cont.fact tys vs h1 h2)) (hT : T.eV[ty']? = some ti) (ha : ti.k.agg = false) (hl : tys[off]? = some ty)
 (h : ay P fr ops rest (A.set d ty) fun A' l => K A' ((A, { d := some d, ty := ty, rs := cI x, rt := [7000, 4000] }) :: l)) : ay P fr ops (⟨some d, .load ty' x, t, p, e, none⟩ :: rest) A K :=
 bK (bZ rfl rfl fun a w M wf hr htg => by
  have hdx := cU (x := x) (fun _ h => h) hr
  rw [hx] at hdx
  have ex : a.eval x = .pointer (some ⟨b, off, none⟩) := hdx
  obtain ⟨_, Mc, wfc, z, hj, g1, g2⟩ := htg _ (cj ht) (by simp)
  have hf : cF w M tys vs := htg _ (cj htf) (by simp)
  obtain ⟨_, cs, hh, hcs⟩ := hX k w Mc wfc hj
  obtain ⟨v, hv, hd⟩ := dc hf off ty hl
  have hv' : w.cell? ⟨b, off, none⟩ = some v := by
   have := Ct hcs hv
   simpa [World.cell?, hh] using this
  exact ⟨v, by simp [execOp, ex, kN hT ha hv'], hd⟩) h
theorem ql {b D Tb k : Nat} {vs : List Value} {tys : List Ty} {J : Nat → World → bD → Prop} {hJ : ∀ k, Cb (J k)} {h1 : cD tys = []} {h2 : bl tys = []} {L : List Nat} (hX : XB b D Tb vs J) (hD : D < 4096) (ht : A.tag 7000 = some (.ck (hJ k))) (htf : A.tag 4000 = some (Cont.fact tys vs h1 h2)) (hL0 : L.contains 7000 = true) (hL1 : L.contains 4000 = true) :
    rM A L (.ex (.pointer (some ⟨b, 0, none⟩))) (.pp tys) := fun w M v wf htg hv => by
  have hv : v = .pointer (some ⟨b, 0, none⟩) := hv
  have hL0 : 7000 ∈ L := by simpa using hL0
  have hL1 : 4000 ∈ L := by simpa using hL1
  obtain ⟨_, Mc, wfc, z, hj, g1, g2⟩ := htg _ (cj ht) hL0
  have hf : cF w M tys vs := htg _ (cj htf) hL1
  obtain ⟨hb, cs, hh, hcs⟩ := hX k w Mc wfc hj
  have hlt : b < w.heap.size := wfc.lt b _ hb
  have hm : rA M L b = none := by
    cases hm : M b with
    | none => exact jj hm
    | some u =>
      by_cases e : u = 7000
      · subst e; exact A3 hm hL0
      · have := g2 b u hlt hm e
        rw [this] at hb
        injection hb with hb
        have : Zt = 1000000 := rfl
        omega
  have hf2 : cF w (rA M L) tys vs := bz (S := fun _ => True) (K := fun _ => True) (w' := w) ⟨Nat.le_refl _, rfl, rfl, rfl, fun b _ hm => ⟨jj hm, rfl⟩, fun b t _ h => absurd trivial h⟩ (by rw [h1]; intro _ h; cases h) (by rw [h2]; intro _ h; cases h) hf
  refine ⟨b, 0, hv, hm, hlt, fun i t hi => ?_⟩
  obtain ⟨x, hx, hdx⟩ := dc hf2 i t hi
  refine ⟨x, ?_, hdx⟩
  have := Ct hcs hx
  simpa [World.cell?, hh] using this
end
theorem vn {l : List Nat} (h : l.all (fun t => Nat.blt t 1000000) = true) : ∀ t ∈ l, t < Zt := fun t ht => by
 have := List.all_eq_true.1 h t ht
 rw [Nat.blt_eq] at this; exact this
section
variable {P : Program} {fr : Fr} {A : As} {Q : Exit → Act → World → Prop} {c : Code}
theorem qc {w : World} {M : bD} {l1 l2 : List Ty} {vs : List Value} (h : cF w M (l1 ++ l2) vs) : ∃ v1 v2, vs = v1 ++ v2 ∧ cF w M l1 v1 ∧ cF w M l2 v2 := by
  induction l1 generalizing vs with
  | nil => exact ⟨[], vs, rfl, trivial, h⟩
  | cons t l1 ih =>
    cases vs with
    | nil => cases h
    | cons v vs =>
      obtain ⟨v1, v2, e, h1, h2⟩ := ih h.2
      exact ⟨v :: v1, v2, by rw [e]; rfl, ⟨h.1, h1⟩, h2⟩
theorem FY {w : World} {M : bD} : ∀ (vs : List Value), cF w M (vs.map Ty.ex) vs
  | [] => trivial
  | _ :: vs => ⟨rfl, FY vs⟩
theorem rW {w : World} {M : bD} : ∀ {vs us : List Value}, cF w M (vs.map Ty.ex) us → us = vs
  | [], [], _ => rfl
  | [], _ :: _, h => by cases h
  | _ :: _, [], h => by cases h
  | v :: vs, u :: us, h => by rw [show u = v from h.1, rW h.2]
theorem Lf {D Tb : Nat} {tys r : List Ty} (h1 : cD tys = []) (h2 : bl tys = []) (hc : A.tag D = some (.cells Tb (tys ++ r))) (hD : fu D)
 (h : ∀ vs, vs.length = tys.length → fS P fr c ⟨A.slots, (D, .cells Tb (vs.map Ty.ex ++ r)) :: (4000, Cont.fact tys vs h1 h2) :: A.tags.filter fun x => !(x.1 == D)⟩ Q) : fS P fr c A Q := by
 intro a w ⟨M, ok, hsl, htg⟩
 obtain ⟨b, cs, hb, hh, hd⟩ := htg _ (cj hc)
 obtain ⟨v1, v2, e, d1, d2⟩ := qc hd
 refine h v1 (cX d1) a w ⟨M, ok, hsl, fun x hx => ?_⟩
 rcases List.mem_cons.1 hx with rfl | hx
 ·exact ⟨b, cs, hb, hh, by rw [e]; exact fE (FY v1) d2⟩
 rcases List.mem_cons.1 hx with rfl | hx
 ·exact d1
 exact htg x (List.mem_filter.1 hx).1
theorem Di {D Tb : Nat} {vs : List Value} {tys r : List Ty} {h1 : cD tys = []} {h2 : bl tys = []} (hc : A.tag D = some (.cells Tb (vs.map Ty.ex ++ r))) (hf : A.tag 4000 = some (Cont.fact tys vs h1 h2))
 (h : fS P fr c ⟨A.slots, (D, .cells Tb (tys ++ r)) :: A.tags.filter fun x => !(x.1 == D)⟩ Q) : fS P fr c A Q := by
 intro a w ⟨M, ok, hsl, htg⟩
 obtain ⟨b, cs, hb, hh, hd⟩ := htg _ (cj hc)
 have hfd : cF w M tys vs := htg _ (cj hf)
 refine h a w ⟨M, ok, hsl, fun x hx => ?_⟩
 rcases List.mem_cons.1 hx with rfl | hx
 ·obtain ⟨v1, v2, e, d1, d2⟩ := qc hd
  rw [rW d1] at e
  exact ⟨b, cs, hb, hh, by rw [e]; exact fE hfd d2⟩
 exact htg x (List.mem_filter.1 hx).1
theorem vu {D Tb tg : Nat} {α : Type} {E : El α} {T : Nat} {xs : List α} (l1 : List Ty) {l2 : List Ty} (hc : A.tag D = some (.cells Tb (l1 ++ Ty.row E T tg xs :: l2)))
    (h : ∀ v, fS P fr c ⟨A.slots, (D, .cells Tb (l1 ++ Ty.ex v :: l2)) :: (tg, Cont.rv v E T tg xs) :: A.tags.filter fun x => !(x.1 == D)⟩ Q) : fS P fr c A Q := by
  intro a w ⟨M, ok, hsl, htg⟩
  obtain ⟨b, cs, hb, hh, hd⟩ := htg _ (cj hc)
  obtain ⟨v1, v2, e, d1, d2⟩ := qc hd
  match v2, d2 with
  | v :: v2, d2 =>
    refine h v a w ⟨M, ok, hsl, fun x hx => ?_⟩
    rcases List.mem_cons.1 hx with rfl | hx
    · exact ⟨b, cs, hb, hh, by rw [e]; exact fE d1 ⟨rfl, d2.2⟩⟩
    · rcases List.mem_cons.1 hx with rfl | hx
      · exact d2.1
      · exact htg x (List.mem_filter.1 hx).1
theorem z6 {T tg off : Nat} {l : List Ty} (hc : A.tag tg = some (.cells T l)) (hd : kL (cD l) [tg] = true) (h1 : fu tg) : uy A tg (.ptr tg off) (.pp (l.drop off)) := fun w M v wf ht hv =>
 mW (A := A.set 0 (.ptr tg off)) (s := 0) rfl hc hd h1 w M v wf ht hv
theorem Ib {tg i : Nat} {t : Ty} : ∀ {l l' : List Ty}, AE A tg l l' → l'[i]? = some t → ∃ i', i' = i ∧ ∃ s, l[i']? = some s ∧ uy A tg s t := by
  induction i with
  | zero =>
    intro l l' h e
    match l, l', h with
    | [], [], _ => cases e
    | s :: _, t' :: _, h => injection e with e; subst e; exact ⟨0, rfl, s, rfl, h.1⟩
  | succ i ih =>
    intro l l' h e
    match l, l', h with
    | [], [], _ => cases e
    | _ :: l, _ :: l', h =>
      obtain ⟨i', rfl, s, h1, h2⟩ := ih (l := l) (l' := l') h.2 e
      exact ⟨i' + 1, rfl, s, h1, h2⟩
theorem By {tg : Nat} {l l' : List Ty} (h : AE A tg l l') : uy A tg (.pp l) (.pp l') := fun w M v wf ht ⟨b, off, e, m1, m2, m3⟩ => by
 refine ⟨b, off, e, by simp [eL, m1], m2, fun i t hi => ?_⟩
 obtain ⟨_, rfl, s, h1, h2⟩ := Ib h hi
 obtain ⟨x, hx, hdx⟩ := m3 _ s h1
 exact ⟨x, hx, h2 w M x wf ht hdx⟩
theorem uS {tg s : Nat} {l l' : List Ty} (hx : A.slots s = .pp l) (h : AE A tg l l') : zx A tg s (.pp l') := fun w M v wf ht hv => By h w M v wf ht (hx ▸ hv)
theorem CZ {f D Tb n sd : Nat} {tys : List Ty} {vs : List Value} {h1 : cD tys = []} {h2 : bl tys = []} {nr : List Ty} {encs : List (List Ty)} {resD resS : Ty} {s : Nat → Ty} {tg : Nat → List (Nat × Cont)} {r : Nat → List Ty}
    (hI : ∀ b, KX P f b D Tb vs tys (fun l => Ty.ex (yv l) :: Ty.pp [Ty.ex (.pointer (some ⟨b, 0, none⟩))] :: nr) encs resD resS)
    (hD : fu D) (hsn : sd < n) (hsd : s sd = Ty.ptr D 0) (htD : ∀ k, (D, Cont.cells Tb (vs.map Ty.ex ++ r k)) ∈ tg k) (htf : (4000, Cont.fact tys vs h1 h2) ∈ tg 0) :
    ∀ (l : Nat) (J : Nat → World → bD → Prop) (Jx : World → bD → Prop) (tm : Array Value), (∀ k, Cb (J k)) → Cb Jx → Pc P l encs J Jx → (∀ k w M, J k w M → (∀ c, c < n → (s c).den w M (tm.getD c undef)) ∧ ∀ x ∈ tg k, x.2.den w M x.1) → ∀ w M us, Wf w M → Gu M → cF w M (Ty.ex (yv l) :: Ty.pp [Ty.ptr D 0] :: nr) us → J 0 w M → Calls P f us.toArray w (cN encs.length J Jx resD resS) := by
  intro l J Jx tm hJ hJx hY hS w M us wf z hd hj
  obtain ⟨u, rfl⟩ : ∃ u, D = u + 1 := ⟨D - 1, by have := hD.1; omega⟩
  have hat : ∀ k w M, Wf w M → J k w M → ∃ b, M b = some (u + 1) ∧ tm.getD sd undef = .pointer (some ⟨b, 0, none⟩) ∧ ∃ cs : Array Value, w.heap[b]? = some (.cells cs Tb (0, 0)) ∧ cs.toList.take vs.length = vs := fun k w M wf hj => by
    obtain ⟨g1, g2⟩ := hS k w M hj
    have g3 := g1 sd hsn
    rw [hsd] at g3
    obtain ⟨b, hb, e⟩ := g3
    obtain ⟨b', cs, hb', hh, hds⟩ := g2 _ (htD k)
    have := wf.inj b b' u hD.2 hb hb'
    subst this
    obtain ⟨v1, v2, e2, d1, d2⟩ := qc hds
    rw [rW d1] at e2
    exact ⟨b, hb, e, cs, hh, by rw [e2, List.take_left']; rfl⟩
  obtain ⟨b, hb, eb, _⟩ := hat 0 w M wf hj
  have hX : XB b (u + 1) Tb vs J := fun k w' M' wf' hj' => by
    obtain ⟨b', hb', eb', cs, hh, hcs⟩ := hat k w' M' wf' hj'
    rw [eb] at eb'
    injection eb' with eb'
    injection eb' with eb'
    injection eb' with eb' _ _
    subst eb'
    exact ⟨hb', cs, hh, hcs⟩
  refine (hI b).2 l J Jx hJ hJx hX hY w M us wf z ?_ ((hS 0 w M hj).2 _ htf) hj
  match us, hd with
  | u1 :: u2 :: us, ⟨d1, ⟨q, off, e, m1, m2, m3⟩, d3⟩ =>
    refine ⟨d1, ⟨q, off, e, m1, m2, fun i t hi => ?_⟩, d3⟩
    cases i with
    | succ i => cases hi
    | zero =>
      obtain ⟨x, hx, b', hb', ex⟩ := m3 0 _ rfl
      have := wf.inj b b' u hD.2 hb hb'
      subst this
      injection hi with hi
      subst hi
      exact ⟨x, hx, ex⟩
end
end Go.T
namespace Go.Proofs.YtelbollidfdcjaaGreat
open Go Go.T
set_option maxHeartbeats 4000000
section
variable {y : aj}
theorem Gl (hr : y.bw) : (y.bins.length : Int) * y.days = (y.cells : Nat) := by
 rw [← D_eq hr]; unfold aj.cells; simp
theorem ny (hr : y.bw) : y.cells ≤ 20 := by
 have h1 := hr.bins; have h2 := hr.days; have h3 := D_eq hr
 have := Nat.mul_le_mul (show y.bins.length ≤ 4 by omega) (show y.D ≤ 5 by omega)
 unfold aj.cells; omega
theorem B2 {s d : Int} (hs : 0 ≤ s ∧ s ≤ 4) (hd : 0 ≤ d ∧ d ≤ 6) : 0 ≤ s * d ∧ s * d ≤ 24 := by
 have : s = 0 ∨ s = 1 ∨ s = 2 ∨ s = 3 ∨ s = 4 := by omega
 rcases this with e | e | e | e | e <;> subst e <;> omega
def gG (n : Int) (l : List Int) : Int := l.foldl min n
theorem EG (n : Int) (l : List Int) : gG n (l.take 0) = n := rfl
theorem Dy {n : Int} {l : List Int} {k : Nat} (h : k < l.length) : min (gG n (l.take k)) (nth l k) = gG n (l.take (k + 1)) := by
 unfold gG; rw [cV h, List.foldl_append]; rfl
def xG (k : Nat) : List Bool := List.replicate k true ++ List.replicate (8 - k) false
def bL : List Bool := List.replicate 8 true
theorem y7 {k : Nat} (h : k ≤ 8) : (xG k).length = 8 := by unfold xG; rw [List.length_append, List.length_replicate, List.length_replicate]; omega
theorem D2 {k : Nat} (h : k < 8) : (xG k).set k true = xG (k + 1) := by
 unfold xG
 rw [List.set_append_right _ _ (by simp), List.length_replicate, Nat.sub_self, show 8 - k = (8 - (k + 1)) + 1 by omega, List.replicate_succ, List.set_cons_zero, List.replicate_succ', List.append_assoc]; rfl
theorem Om (hr : y.bw) {s d : Int} (h : s = -1) : ((y.cells : Nat) : Int) = y.cell s d := by rw [h, so hr]
theorem Oq {s d : Int} (h : ¬ s = -1) : s * y.days + d = y.cell s d := (if_neg h).symm
theorem KP (hr : y.bw) {b t : Nat} : (b : Int) * (y.days + 1) + t = (y.kept b t : Nat) := by
 rw [← D_eq hr]; unfold aj.kept; simp
end
attribute [local irreducible] aj.cell aj.kept aj.cells gG
attribute [local irreducible] gP e9 mA oA iG iE iK g9 iL oc iA oM dV fo n6 gC oW nth fS dY ay dP bodyPost Exit.then Exit.inBlock Code.wp Code.wpIn n7 hU oX oR iB eW cM cN bodyPostM dX
set_option maxRecDepth 100000 in
theorem sK (n : Int) (l : List Int) : dP Tryz.prog 180 [Ty.int .i64 n, Ty.sl cz l] (Ty.int .i64 (gG n l)) := by
 refine ak Tryz.func180 rfl (by decide) Tryz.ntmps180 (by exact Nat.le_of_ble_eq_true rfl) fun w0 M0 => ?_
 refine hO (s := 1) rfl rfl iI fun hln => ?_
 refine aE (aA (bu rfl (aD (aC (aE (aE (aA (fT rfl (b9 rfl rfl rfl ?_)))))))))
 refine bG rfl (aD (aC (aa ?_)))
 refine cG (fun (k : {k : Nat // k ≤ l.length}) => live [(0, Ty.int .i64 (gG n (l.take k.1))), (7, Ty.sl cz l), (8, Ty.int .i64 l.length), (9, Ty.int .i64 (k.1 : Nat))] []) (fun k => l.length - k.1) (⟨0, by omega⟩) ?_ fun k => ?_
 ·(refine cg.mk' ?_ ?_ <;> (repeat' (first | exact aL | exact aK | refine aB ?_ (Ty.aT _) | refine aB ?_ (Ty.aF _) | refine aB ?_ ?_)))
  all_goals exact Ty.bI (EG n l).symm
 refine aE (aA (bB rfl rfl rfl (aD (aC (aE ?_)))))
 refine aq rfl (fun hc1 => ?_) (fun hc1 => ?_)
 ·
  refine af (aC (aE (aa (aE (aA ?_)))))
  refine au rfl rfl rfl rfl rfl rfl (by omega) ?_
  refine aJ rfl rfl rfl rfl (bu rfl (aD (aC (aA (bG rfl (bG rfl (I5 rfl rfl (bu rfl (aD ?_)))))))))
  refine bM (aC (aA ?_))
  refine cB rfl rfl (by omega) (by omega) ?_
  refine bG rfl (aD ?_)
  refine bR (⟨k.1 + 1, by omega⟩) ?_ (by show l.length - (k.1 + 1) < l.length - k.1; omega)
  (refine cg.mk' ?_ ?_ <;> (repeat' (first | exact aL | exact aK | refine aB ?_ (Ty.aT _) | refine aB ?_ (Ty.aF _) | refine aB ?_ ?_)))
  all_goals skip
  all_goals exact Ty.bI (Dy (by omega))
 refine cH (aP (aP (ah rfl (aC (aE (aA (bG rfl (bu rfl (aD ?_)))))))))
 refine aC (az (bU rfl rfl ?_))
 all_goals skip
 all_goals exact av rfl rfl (congrArg (Ty.int .i64) (by rw [List.take_of_length_le (by have := k.2; omega)]))
set_option maxRecDepth 100000 in
theorem rF : dP Tryz.prog 118 [] (Ty.arr ew bL) := by
 refine ak Tryz.func118 rfl (by decide) Tryz.ntmps118 (by exact Nat.le_of_ble_eq_true rfl) fun w0 M0 => ?_
 refine aE (aA ?_)
 refine bh rfl (by exact List.cons_ne_nil _ _) rfl ?_
 refine aD (aC (aE (aA ?_)))
 refine Bv (E := ew) (xs := List.replicate 8 false) rfl (by exact List.cons_ne_nil _ _) rfl rfl ?_
 refine aD (aC (aE (aE (aA (bG rfl (aD (aC (aa ?_))))))))
 refine cG (fun (k : {k : Nat // k ≤ 8}) => live [(0, Ty.ptr 1 0), (1, Ty.ptr 2 0), (3, Ty.int .i64 (k.1 : Nat))] [(1, Cont.cells 180 [Ty.bool false, Ty.bool false, Ty.bool false, Ty.bool false, Ty.bool false, Ty.bool false, Ty.bool false, Ty.bool false]), (2, Cont.vec ew 180 (xG k.1))]) (fun k => 8 - k.1) (⟨0, by omega⟩) ?_ fun k => ?_
 ·(refine cg.mk' ?_ ?_ <;> (repeat' (first | exact aL | exact aK | refine aB ?_ (Ty.aT _) | refine aB ?_ (Ty.aF _) | refine aG rfl (Cont.aF _) ?_)))
 have hkl := y7 k.2
 refine aE (aA (bB rfl rfl rfl (aD (aC (aE ?_)))))
 refine aq rfl (fun hc1 => ?_) (fun hc1 => ?_)
 ·
  refine af (aC (aE (aa (aE (aA (bG rfl (bu rfl (aD (aC ?_)))))))))
  refine aA (bG rfl ?_)
  refine sQ (n := 8) rfl rfl rfl rfl rfl (by omega) (by omega) ?_
  refine sL rfl rfl rfl (by decide) rfl rfl (by exact (rfl : _ = Ty.bool _)) rfl (by omega) (by decide) rfl rfl ?_
  refine aD (bM (aC (aA ?_)))
  refine cB rfl rfl (by omega) (by omega) ?_
  refine bG rfl (aD ?_)
  refine bR (⟨k.1 + 1, by omega⟩) ?_ (by show 8 - (k.1 + 1) < 8 - k.1; omega)
  (refine cg.mk' ?_ ?_ <;> (repeat' (first | exact aL | exact aK | refine aB ?_ (Ty.aT _) | refine aB ?_ (Ty.aF _) | refine aG rfl (Cont.aF _) ?_ | refine aG rfl ?_ ?_)))
  all_goals skip
  all_goals exact Cont.cy (D2 (by omega))
 refine cH (aP (aP (ah rfl (aC (aE ?_)))))
 obtain ⟨k, hk⟩ := k
 obtain rfl : k = 8 := by have h1 : ¬ (k : Int) < 8 := hc1; have h2 : k ≤ 8 := hk; omega
 have hkl := y7 hk
 refine aA ?_
 refine ij rfl rfl (by decide) rfl rfl (by rw [hkl]; rfl) (fun e => by rw [e] at hkl; cases hkl) ?_
 refine Bw rfl rfl (by decide) rfl rfl (by rw [hkl]; rfl) rfl ?_
 refine aD (aC (az ?_))
 refine Ce (show xG 8 = bL from rfl) rfl rfl rfl rfl (by decide) rfl rfl (by rw [hkl]; rfl) (fun e => by rw [e] at hkl; cases hkl)
set_option maxRecDepth 100000 in
theorem sq (y : aj) (hr : y.bw) : dP Tryz.prog 131 [Ty.pp (bA y)] (Ty.int .i64 (y.cells : Nat)) := by
 refine ak Tryz.func131 rfl (by decide) Tryz.ntmps131 (by exact Nat.le_of_ble_eq_true rfl) fun w0 M0 => ?_
 have hcm := Gl hr
 have hcl := ny hr
 refine aE (aA (bu rfl (aD (aC (aE (cL mixed rfl (iq rfl (bW rfl ?_))))))))
 refine aI rfl rfl rfl rfl rfl (by decide) ?_
 refine aI rfl rfl rfl rfl rfl (by decide) ?_
 refine aJ rfl rfl rfl rfl (b9 rfl rfl rfl (iq rfl (bW rfl ?_)))
 refine aI rfl rfl rfl rfl rfl (by decide) ?_
 refine aI rfl rfl rfl rfl rfl (by decide) ?_
 refine aJ rfl rfl rfl rfl ?_
 refine xH rfl rfl (by rw [hcm]; omega) (by rw [hcm]; omega) ?_
 refine bu rfl (aD ?_)
 refine ⟨by kernel_rfl, ?_⟩
 refine aC (az (bU rfl rfl ?_))
 all_goals skip
 all_goals exact av rfl rfl (congrArg (Ty.int .i64) hcm)
set_option maxRecDepth 100000 in
theorem xZ (y : aj) (hr : y.bw) (s d : Int) (hs : -1 ≤ s ∧ s < y.bins.length) (hd : 0 ≤ d ∧ d ≤ y.days) : dP Tryz.prog 132 [Ty.pp (bA y), Ty.int .i64 s, Ty.int .i64 d] (Ty.int .i64 (y.cell s d)) := by
 refine ak Tryz.func132 rfl (by decide) Tryz.ntmps132 (by exact Nat.le_of_ble_eq_true rfl) fun w0 M0 => ?_
 have h1 := hr.bins
 have h2 := hr.days
 refine aE (aA (bu rfl (aD (aC (aE (aE (aA (bG rfl (bB rfl rfl rfl ?_)))))))))
 refine aD (aC ?_)
 refine aq rfl (fun hc1 => ?_) (fun hc1 => ?_)
 ·
  refine aE (aA (iq rfl (aZ (sq y hr) rfl rfl rfl rfl rfl (bu rfl (aD (aC (az (aS (bU rfl rfl ?_)))))))))
  all_goals skip
  all_goals exact av rfl rfl (congrArg (Ty.int .i64) (Om hr hc1))
 refine af (aC (aE ?_))
 have hb := B2 (s := s) (d := y.days) (by omega) (by omega)
 refine aA (bG rfl (iq rfl (bW rfl ?_)))
 refine aI rfl rfl rfl rfl rfl (by decide) ?_
 refine aI rfl rfl rfl rfl rfl (by decide) ?_
 refine aJ rfl rfl rfl rfl ?_
 refine xH rfl rfl (by omega) (by omega) ?_
 refine bG rfl ?_
 refine cB rfl rfl (by omega) (by omega) ?_
 refine bu rfl (aD (aC (az (bU rfl rfl ?_))))
 all_goals skip
 all_goals exact av rfl rfl (congrArg (Ty.int .i64) (Oq hc1))
set_option maxRecDepth 100000 in
theorem wm (y : aj) (hr : y.bw) (b t : Nat) (hb : b < y.bins.length) (ht : t ≤ y.D) : dP Tryz.prog 89 [Ty.pp (bA y), Ty.int .i64 (b : Nat), Ty.int .i64 (t : Nat)] (Ty.int .i64 (y.kept b t : Nat)) := by
 refine ak Tryz.func89 rfl (by decide) Tryz.ntmps89 (by exact Nat.le_of_ble_eq_true rfl) fun w0 M0 => ?_
 have h1 := hr.bins
 have h2 := hr.days
 have h3 := D_eq hr
 have h4 := B2 (s := (b : Nat)) (d := y.days + 1) (by omega) (by omega)
 refine aE (aA (bu rfl (aD (aC (aE (aA (bG rfl (iq rfl (bW rfl ?_)))))))))
 refine aI rfl rfl rfl rfl rfl (by decide) ?_
 refine aI rfl rfl rfl rfl rfl (by decide) ?_
 refine aJ rfl rfl rfl rfl ?_
 refine cB rfl rfl (by omega) (by omega) ?_
 refine xH rfl rfl (by omega) (by omega) ?_
 refine bG rfl ?_
 refine cB rfl rfl (by omega) (by omega) ?_
 refine bu rfl (aD (aC (az (bU rfl rfl ?_))))
 all_goals skip
 all_goals exact av rfl rfl (congrArg (Ty.int .i64) (KP hr))
end Go.Proofs.YtelbollidfdcjaaGreat
namespace Go.Proofs.YtelbollidfdcjaaGreat
open Go Go.T
set_option maxHeartbeats 8000000
def j5 (f : b8) : List Ty := [Ty.agg (dS.tys f)]
section
variable {y : aj} {c : Nat → Bool} {b t : Nat}
def EN (y : aj) (b t : Nat) : Int := if 0 < t then y.cell b ((t : Int) - 1) else (y.cells : Nat)
def H7 (y : aj) (b t : Nat) : Int := if t < y.D then y.cell b t else (y.cells : Nat)
def v8 (s d : Int) (k : Span) : List Ty := [Ty.int .i64 s, Ty.int .i64 d, Ty.int .i64 k.lo, Ty.int .i64 k.hi]
theorem MN (h : (t : Int) > 0) : y.cell b ((t : Int) - 1) = EN y b t := (if_pos (by omega)).symm
theorem Od (h : ¬ (t : Int) > 0) : ((y.cells : Nat) : Int) = EN y b t := (if_neg (by omega)).symm
theorem MA (hr : y.bw) (h : (t : Int) < y.days) : y.cell b t = H7 y b t := (if_pos (by have := D_eq hr; omega)).symm
theorem Ol (hr : y.bw) (h : ¬ (t : Int) < y.days) : ((y.cells : Nat) : Int) = H7 y b t := (if_neg (by have := D_eq hr; omega)).symm
theorem Jk (h : (t : Int) > 0) : 0 = (iU y b t).lo ∧ (nth y.bins b).holds = (iU y b t).hi := by unfold iU; rw [if_pos (by omega)]; exact ⟨rfl, rfl⟩
theorem Nz (h : ¬ (t : Int) > 0) : max 0 (nth y.bins b).first.lo = (iU y b t).lo ∧ gG (nth y.bins b).holds [(nth y.bins b).first.hi] = (iU y b t).hi := by unfold iU; rw [if_neg (by omega)]; exact ⟨rfl, rfl⟩
theorem Fu {s : Span} {k : Nat} (h : ((c k && decide ((nth y.levels k).bin = b)) && decide ((nth y.levels k).day = t)) = true) : max (gV y c b t s k).lo (nth y.levels k).sacks.lo = (gV y c b t s (k + 1)).lo ∧ gG (gV y c b t s k).hi [(nth y.levels k).sacks.hi] = (gV y c b t s (k + 1)).hi := by
 show _ = (if _ then _ else _ : Span).lo ∧ _ = (if _ then _ else _ : Span).hi
 rw [if_pos h]; exact ⟨rfl, rfl⟩
theorem JW {s : Span} {k : Nat} (h : ((c k && decide ((nth y.levels k).bin = b)) && decide ((nth y.levels k).day = t)) = false) : (gV y c b t s k).lo = (gV y c b t s (k + 1)).lo ∧ (gV y c b t s k).hi = (gV y c b t s (k + 1)).hi := by
 show _ = (if _ then _ else _ : Span).lo ∧ _ = (if _ then _ else _ : Span).hi
 rw [if_neg (by rw [h]; decide)]; exact ⟨rfl, rfl⟩
theorem C3 (s : Span) : s.lo = (gV y c b t s 0).lo ∧ s.hi = (gV y c b t s 0).hi := ⟨rfl, rfl⟩
theorem Mv {s : Span} {k : Nat} (hk : k ≤ y.levels.length) (h : ¬ (k : Int) < (y.levels.length : Int)) : gV y c b t s k = gV y c b t s y.levels.length := by rw [show k = y.levels.length by omega]
theorem Mz (hb : b < y.bins.length) (ht : t ≤ y.D) : j5 (nth (aQ y c) (b * (y.D + 1) + t)) = [Ty.agg (v8 (EN y b t) (H7 y b t) (gV y c b t (iU y b t) y.levels.length))] := congrArg j5 (jD (c := c) hb ht)
theorem MV {i : Nat} (hi : i < y.moves.length) : j5 (nth (aQ y c) (y.bins.length * (y.D + 1) + i)) = [Ty.agg [Ty.int .i64 (y.cell (nth y.moves i).src (nth y.moves i).day), Ty.int .i64 (y.cell (nth y.moves i).dst (nth y.moves i).day), Ty.int .i64 (nth y.moves i).sacks.lo, Ty.int .i64 (nth y.moves i).sacks.hi]] := congrArg j5 (jB (c := c) hi)
theorem E5 (hb : b < y.bins.length) (ht : t ≤ y.D) : b * (y.D + 1) + t < (aQ y c).length := by
 rw [ef]; have h := mz hb ht; unfold aj.kept at h; omega
theorem Kx {J : Nat → World → bD → Prop} (hJ : ∀ k, Cb (J k)) {m k : Nat} (e : m = k) : (Cont.ck (hJ m)).Sub (Cont.ck (hJ k)) := Cont.O8 hJ e
end
attribute [local irreducible] aj.cell aj.cells gG EN H7 iU gV aQ
attribute [local irreducible] gP e9 mA oA iG iE iK g9 iL oc iA oM dV fo n6 gC oW nth fS dY ay dP bodyPost Exit.then Exit.inBlock Code.wp Code.wpIn n7 hU oX oR iB eW cM cN bodyPostM dX
set_option maxRecDepth 100000 in
theorem wB (y : aj) (hr : y.bw) (c8 : List Bool) (hc8 : c8.length = 8) (b D : Nat) (hD : D < 4096) (vs : List Value) : KX Tryz.prog 196 b D 185 vs (bA y) (fun l => [Ty.ex (yv l), Ty.pp [Ty.ex (.pointer (some ⟨b, 0, none⟩))], Ty.pa ew c8 0]) ((aQ y (nth c8)).map j5) (Ty.lN []) (Ty.lN []) := by
 refine EP rfl rfl Tryz.func196 rfl (by decide) Tryz.ntmps196 (fun _ => by exact Nat.le_of_ble_eq_true rfl) (fun _ => ⟨rfl, rfl⟩) fun l J Jx hJ hJx hX hY w0 M0 => ?_
 have h1 := hr.bins
 have h2 := hr.days
 have h3 := D_eq hr
 have h4 := hr.moves
 have h5 := hr.levels
 refine aE (aE (aA (aJ rfl rfl rfl rfl (k9 rfl ?_))))
 refine jN rfl rfl rfl rfl rfl (by decide) ?_
 refine jN rfl rfl rfl rfl rfl (by decide) ?_
 refine tE hX rfl rfl rfl rfl rfl rfl (b9 rfl rfl rfl (bG rfl (aD (aC (aa ?_)))))
 refine cG (fun (k : {k : Nat // k ≤ y.bins.length}) => live [(0, Ty.ex (yv l)), (1, Ty.pp [Ty.ex (.pointer (some ⟨b, 0, none⟩))]), (2, Ty.pa ew c8 0), (16, Ty.sl fL y.bins), (17, Ty.int .i64 y.bins.length), (18, Ty.int .i64 (k.1 : Nat))] [(7000, Cont.ck (hJ (k.1 * (y.D + 1)))), (4000, Cont.fact (bA y) vs rfl rfl)]) (fun k => y.bins.length - k.1) (⟨0, by omega⟩) ?_ fun k => ?_
 ·(refine cg.mk' ?_ ?_ <;> (repeat' (first | exact aL | exact aK | refine aB ?_ (Ty.aT _) | refine aB ?_ (Ty.aF _) | refine aG rfl (Cont.aF _) ?_ | refine aG rfl ?_ ?_)))
  all_goals exact Kx hJ (Nat.zero_mul _).symm
 refine aE (aA (bB rfl rfl rfl (aD (aC (aE ?_)))))
 refine aq rfl (fun hc1 => ?_) (fun hc1 => ?_)
 ·
  refine af (aC (aE (aa (aE (aA (bG rfl ?_))))))
  refine au rfl rfl rfl rfl rfl rfl (by omega) ?_
  refine aX rfl rfl rfl (by exact Nat.le_of_ble_eq_true rfl) ?_
  refine bh rfl (by exact List.cons_ne_nil _ _) rfl ?_
  refine bu rfl ?_
  refine bO rfl rfl (by decide) rfl rfl rfl rfl rfl rfl ?_
  refine aD (aC (aE (aA (aJ rfl rfl rfl rfl (k9 rfl ?_)))))
  refine jN rfl rfl rfl rfl rfl (by decide) ?_
  refine jN rfl rfl rfl rfl rfl (by decide) ?_
  refine tE hX rfl rfl rfl rfl rfl rfl ?_
  refine cB rfl rfl (by omega) (by omega) ?_
  refine bG rfl (aD (aC (aa ?_)))
  refine cG (fun (t : {t : Nat // t ≤ y.D + 1}) => live [(0, Ty.ex (yv l)), (1, Ty.pp [Ty.ex (.pointer (some ⟨b, 0, none⟩))]), (2, Ty.pa ew c8 0), (4, Ty.int .i64 (k.1 : Nat)), (5, Ty.ptr 6 0), (16, Ty.sl fL y.bins), (17, Ty.int .i64 y.bins.length), (18, Ty.int .i64 (k.1 : Nat)), (28, Ty.int .i64 (y.days + 1)), (29, Ty.int .i64 (t.1 : Nat))] [(6, Cont.cells 39 (fL.tys (nth y.bins k.1))), (7000, Cont.ck (hJ (k.1 * (y.D + 1) + t.1))), (4000, Cont.fact (bA y) vs rfl rfl)]) (fun t => y.D + 1 - t.1) (⟨0, by omega⟩) ?_ fun t => ?_
  ·(refine cg.mk' ?_ ?_ <;> (repeat' (first | exact aL | exact aK | refine aB ?_ (Ty.aT _) | refine aB ?_ (Ty.aF _) | refine aG rfl (Cont.aF _) ?_)))
  refine aE (aA (bB rfl rfl rfl (aD (aC (aE ?_)))))
  refine aq rfl (fun hc2 => ?_) (fun hc2 => ?_)
  ·
   refine af (aC (aE (aa (aE (aA (bG rfl (bu rfl (aD (aC ?_)))))))))
   refine aE (cL mixed rfl (aJ rfl rfl rfl rfl ?_))
   refine eC [7000, 4000] (sq y hr) rfl (aW (ql hX hD rfl rfl rfl rfl) cP) (by exact dU _ _) ?_
   refine aJ rfl rfl rfl rfl ?_
   refine eC [7000, 4000] (sq y hr) rfl (aW (ql hX hD rfl rfl rfl rfl) cP) (by exact dU _ _) ?_
   refine aR rfl rfl rfl rfl rfl (by decide) ?_
   refine aY rfl rfl (by decide) rfl rfl rfl ?_
   refine c6 rfl rfl (by exact List.cons_ne_nil _ _) rfl (by repeat (first | exact (aV.nil : aV _ _ [] _) | (show aV _ _ ((_, _) :: _) _; apply aV.one; (· exact (rfl : _ = Ty.int _ _)); (· exact rfl)))) (by exact (rfl : _ = some [_, _, _, _])) ?_
   refine bh rfl (by exact List.cons_ne_nil _ _) rfl ?_
   refine bO rfl rfl (by decide) rfl rfl rfl rfl rfl rfl ?_
   refine aD ?_
   refine ⟨by kernel_rfl, ?_⟩
   refine aC ?_
   refine kV (J := live [(0, Ty.ex (yv l)), (1, Ty.pp [Ty.ex (.pointer (some ⟨b, 0, none⟩))]), (2, Ty.pa ew c8 0), (4, Ty.int .i64 (k.1 : Nat)), (5, Ty.ptr 6 0), (6, Ty.int .i64 (t.1 : Nat)), (7, Ty.ptr 8 0), (16, Ty.sl fL y.bins), (17, Ty.int .i64 y.bins.length), (18, Ty.int .i64 (k.1 : Nat)), (28, Ty.int .i64 (y.days + 1)), (29, Ty.int .i64 (t.1 : Nat))] [(6, Cont.cells 39 (fL.tys (nth y.bins k.1))), (8, Cont.cells 187 [Ty.int .i64 (EN y k.1 t.1), Ty.int .i64 (y.cells : Nat), Ty.int .i64 (iU y k.1 t.1).lo, Ty.int .i64 (iU y k.1 t.1).hi]), (7000, Cont.ck (hJ (k.1 * (y.D + 1) + t.1))), (4000, Cont.fact (bA y) vs rfl rfl)]) ?_ ?_
   ·
    refine aE (aA (bG rfl (bB rfl rfl rfl (aD (aC ?_)))))
    refine aq rfl (fun hc3 => ?_) (fun hc3 => ?_)
    ·
     refine aA (aJ rfl rfl rfl rfl (bG rfl (bG rfl ?_)))
     refine gZ rfl rfl (by omega) (by omega) ?_
     refine eC [7000, 4000] (xZ y hr (k.1 : Nat) ((t.1 : Int) - 1) (by omega) (by omega)) rfl (aW (ql hX hD rfl rfl rfl rfl) (aW (bV (bT rfl rfl)) (aW (bV (bT rfl rfl)) cP))) (by exact dU _ _) ?_
     refine aR rfl rfl rfl rfl rfl (by decide) ?_
     refine cr rfl rfl (by decide) rfl rfl (by exact (rfl : _ = Ty.int _ _)) rfl (by exact Nat.le_of_ble_eq_true rfl) rfl rfl (by exact rfl) ?_
     refine aD (eT ?_)
     (refine cg.mk' ?_ ?_ <;> (repeat' (first | exact aL | exact aK | exact cv | refine aB ?_ (Ty.aT _) | refine aB ?_ (Ty.aF _) | refine aG rfl (Cont.aF _) ?_ | refine aG rfl (Cont.ct ?_) ?_ | refine bJ ?_ (Ty.aF _) | refine bJ ?_ ?_)))
     all_goals first | exact Ty.bI (MN hc3) | exact Ty.bI (Jk hc3).1 | exact Ty.bI (Jk hc3).2
    refine cL mixed rfl ?_
    refine aR rfl rfl rfl rfl rfl (by decide) ?_
    refine aR rfl rfl rfl rfl rfl (by decide) ?_
    refine aY rfl rfl (by decide) rfl rfl rfl ?_
    refine DG rfl rfl ?_
    refine aR rfl rfl rfl rfl rfl (by decide) ?_
    refine aY rfl rfl (by decide) rfl rfl rfl ?_
    refine aR rfl rfl rfl rfl rfl (by decide) ?_
    refine aR rfl rfl rfl rfl rfl (by decide) ?_
    refine aY rfl rfl (by decide) rfl rfl rfl ?_
    refine bg (E := cz) (xs := [_]) rfl rfl rfl rfl rfl (by decide) (by decide) (by repeat (first | exact (aV.nil : aV _ _ [] _) | (show aV _ _ ((_, _) :: _) _; apply aV.one; (· exact (rfl : _ = Ty.int _ _)); (· exact rfl)))) (by exact rfl) rfl ?_
    refine aZ (sK _ _) rfl rfl rfl rfl rfl ?_
    refine aR rfl rfl rfl rfl rfl (by decide) ?_
    refine cr rfl rfl (by decide) rfl rfl (by exact (rfl : _ = Ty.int _ _)) rfl (by exact Nat.le_of_ble_eq_true rfl) rfl rfl (by exact rfl) ?_
    refine aR rfl rfl rfl rfl rfl (by decide) ?_
    refine cr rfl rfl (by decide) rfl rfl (by exact (rfl : _ = Ty.int _ _)) rfl (by exact Nat.le_of_ble_eq_true rfl) rfl rfl (by exact rfl) ?_
    refine aD ?_
    refine ⟨by kernel_rfl, ?_⟩
    refine eT ?_
    (refine cg.mk' ?_ ?_ <;> (repeat' (first | exact aL | exact aK | exact cv | refine aB ?_ (Ty.aT _) | refine aB ?_ (Ty.aF _) | refine aG rfl (Cont.aF _) ?_ | refine aG rfl (Cont.ct ?_) ?_ | refine bJ ?_ (Ty.aF _) | refine bJ ?_ ?_)))
    all_goals first | exact Ty.bI (Od hc3) | exact Ty.bI (Nz hc3).1 | exact Ty.bI (Nz hc3).2
   refine kV (J := live [(0, Ty.ex (yv l)), (1, Ty.pp [Ty.ex (.pointer (some ⟨b, 0, none⟩))]), (2, Ty.pa ew c8 0), (4, Ty.int .i64 (k.1 : Nat)), (5, Ty.ptr 6 0), (6, Ty.int .i64 (t.1 : Nat)), (7, Ty.ptr 8 0), (16, Ty.sl fL y.bins), (17, Ty.int .i64 y.bins.length), (18, Ty.int .i64 (k.1 : Nat)), (28, Ty.int .i64 (y.days + 1)), (29, Ty.int .i64 (t.1 : Nat))] [(6, Cont.cells 39 (fL.tys (nth y.bins k.1))), (8, Cont.cells 187 (v8 (EN y k.1 t.1) (H7 y k.1 t.1) (iU y k.1 t.1))), (7000, Cont.ck (hJ (k.1 * (y.D + 1) + t.1))), (4000, Cont.fact (bA y) vs rfl rfl)]) ?_ ?_
   ·
    refine aE (aA (bG rfl (aJ rfl rfl rfl rfl (k9 rfl ?_))))
    refine jN rfl rfl rfl rfl rfl (by decide) ?_
    refine jN rfl rfl rfl rfl rfl (by decide) ?_
    refine tE hX rfl rfl rfl rfl rfl rfl (bB rfl rfl rfl (aD (aC ?_)))
    refine aq rfl (fun hc4 => ?_) (fun hc4 => ?_)
    ·
     refine aA (aJ rfl rfl rfl rfl (bG rfl (bG rfl ?_)))
     refine eC [7000, 4000] (xZ y hr (k.1 : Nat) (t.1 : Nat) (by omega) (by omega)) rfl (aW (ql hX hD rfl rfl rfl rfl) (aW (bV (bT rfl rfl)) (aW (bV (bT rfl rfl)) cP))) (by exact dU _ _) ?_
     refine aR rfl rfl rfl rfl rfl (by decide) ?_
     refine cr rfl rfl (by decide) rfl rfl (by exact (rfl : _ = Ty.int _ _)) rfl (by exact Nat.le_of_ble_eq_true rfl) rfl rfl (by exact rfl) ?_
     refine aD (eT ?_)
     (refine cg.mk' ?_ ?_ <;> (repeat' (first | exact aL | exact aK | exact cv | refine aB ?_ (Ty.aT _) | refine aB ?_ (Ty.aF _) | refine aG rfl (Cont.aF _) ?_ | refine aG rfl (Cont.ct ?_) ?_ | refine bJ ?_ (Ty.aF _) | refine bJ ?_ ?_)))
     all_goals exact Ty.bI (MA hr hc4)
    refine af (eT ?_)
    (refine cg.mk' ?_ ?_ <;> (repeat' (first | exact aL | exact aK | exact cv | refine aB ?_ (Ty.aT _) | refine aB ?_ (Ty.aF _) | refine aG rfl (Cont.aF _) ?_ | refine aG rfl (Cont.ct ?_) ?_ | refine bJ ?_ (Ty.aF _) | refine bJ ?_ ?_)))
    all_goals exact Ty.bI (Ol hr hc4)
   refine aE (aE (aA (aJ rfl rfl rfl rfl (k9 rfl ?_))))
   refine jN rfl rfl rfl rfl rfl (by decide) ?_
   refine jN rfl rfl rfl rfl rfl (by decide) ?_
   refine tE hX rfl rfl rfl rfl rfl rfl (b9 rfl rfl rfl (bG rfl (aD (aC (aa ?_)))))
   refine cG (fun (i : {i : Nat // i ≤ y.levels.length}) => live [(0, Ty.ex (yv l)), (1, Ty.pp [Ty.ex (.pointer (some ⟨b, 0, none⟩))]), (2, Ty.pa ew c8 0), (4, Ty.int .i64 (k.1 : Nat)), (5, Ty.ptr 6 0), (6, Ty.int .i64 (t.1 : Nat)), (7, Ty.ptr 8 0), (16, Ty.sl fL y.bins), (17, Ty.int .i64 y.bins.length), (18, Ty.int .i64 (k.1 : Nat)), (28, Ty.int .i64 (y.days + 1)), (29, Ty.int .i64 (t.1 : Nat)), (76, Ty.sl dg y.levels), (77, Ty.int .i64 y.levels.length), (78, Ty.int .i64 (i.1 : Nat))] [(6, Cont.cells 39 (fL.tys (nth y.bins k.1))), (8, Cont.cells 187 (v8 (EN y k.1 t.1) (H7 y k.1 t.1) (gV y (nth c8) k.1 t.1 (iU y k.1 t.1) i.1))), (7000, Cont.ck (hJ (k.1 * (y.D + 1) + t.1))), (4000, Cont.fact (bA y) vs rfl rfl)]) (fun i => y.levels.length - i.1) (⟨0, by omega⟩) ?_ fun i => ?_
   ·(refine cg.mk' ?_ ?_ <;> (repeat' (first | exact aL | exact aK | exact cv | refine aB ?_ (Ty.aT _) | refine aB ?_ (Ty.aF _) | refine aG rfl (Cont.aF _) ?_ | refine aG rfl (Cont.ct ?_) ?_ | refine bJ ?_ (Ty.aF _) | refine bJ ?_ ?_)))
    all_goals first | exact Ty.bI (C3 _).1 | exact Ty.bI (C3 _).2
   have hi := i.2
   refine aE (aA (bB rfl rfl rfl (aD (aC (aE ?_)))))
   refine aq rfl (fun hc5 => ?_) (fun hc5 => ?_)
   ·
    refine af (aC (aE (aa (aE (aA (bG rfl ?_))))))
    refine au rfl rfl rfl rfl rfl rfl (by omega) ?_
    refine aX rfl rfl rfl (by exact Nat.le_of_ble_eq_true rfl) ?_
    refine bh rfl (by exact List.cons_ne_nil _ _) rfl ?_
    refine bu rfl ?_
    refine bO rfl rfl (by decide) rfl rfl rfl rfl rfl rfl ?_
    refine aD (aC (aE (aA (bG rfl ?_))))
    refine Em (n := 8) rfl rfl rfl rfl rfl (by omega) ?_
    refine Gj rfl rfl rfl (Nat.zero_add _) (by omega) rfl ?_
    refine eY rfl ?_
    apply aM (s := 86) rfl rfl rfl
    ·intro hg; apply aO; (refine aR rfl rfl rfl rfl rfl (by decide) ?_); refine aD ?_; exact rfl
    ·exact rfl
    ·exact rfl
    apply aM (s := 86) rfl rfl rfl
    ·intro hg; apply aH (s := 87) rfl (by (rw [hg]; rfl)); apply aO; (refine aY rfl rfl (by decide) rfl rfl rfl ?_); refine aD ?_; exact rfl
    ·exact rfl
    ·exact rfl
    apply aM (s := 86) rfl rfl rfl
    ·intro hg; apply aO; (refine bG rfl ?_); refine aD ?_; exact rfl
    ·exact rfl
    ·exact rfl
    apply aM (s := 86) rfl rfl rfl
    ·intro hg; apply aH (s := 88) rfl (by (rw [hg]; rfl)); apply aH (s := 89) rfl (by (rw [hg]; rfl)); apply aO; (refine bB rfl rfl rfl ?_); refine aD ?_; exact rfl
    ·exact rfl
    ·exact rfl
    refine eA rfl rfl (eY rfl ?_)
    apply aM (s := 92) rfl rfl rfl
    ·intro hg; apply aO; (refine aR rfl rfl rfl rfl rfl (by decide) ?_); refine aD ?_; exact rfl
    ·exact rfl
    ·exact rfl
    apply aM (s := 92) rfl rfl rfl
    ·intro hg; apply aH (s := 93) rfl (by (rw [hg]; rfl)); apply aO; (refine aY rfl rfl (by decide) rfl rfl rfl ?_); refine aD ?_; exact rfl
    ·exact rfl
    ·exact rfl
    apply aM (s := 92) rfl rfl rfl
    ·intro hg; apply aO; (refine bG rfl ?_); refine aD ?_; exact rfl
    ·exact rfl
    ·exact rfl
    apply aM (s := 92) rfl rfl rfl
    ·intro hg; apply aH (s := 94) rfl (by (rw [hg]; rfl)); apply aH (s := 95) rfl (by (rw [hg]; rfl)); apply aO; (refine bB rfl rfl rfl ?_); refine aD ?_; exact rfl
    ·exact rfl
    ·exact rfl
    refine eA rfl rfl (aD (aC ?_))
    refine cC rfl (fun hc6 => ?_) (fun hc6 => ?_)
    ·
     refine cL mixed rfl ?_
     refine aR rfl rfl rfl rfl rfl (by decide) ?_
     refine aY rfl rfl (by decide) rfl rfl rfl ?_
     refine aR rfl rfl rfl rfl rfl (by decide) ?_
     refine aR rfl rfl rfl rfl rfl (by decide) ?_
     refine aY rfl rfl (by decide) rfl rfl rfl ?_
     refine DG rfl rfl ?_
     refine aR rfl rfl rfl rfl rfl (by decide) ?_
     refine aY rfl rfl (by decide) rfl rfl rfl ?_
     refine aR rfl rfl rfl rfl rfl (by decide) ?_
     refine aR rfl rfl rfl rfl rfl (by decide) ?_
     refine aY rfl rfl (by decide) rfl rfl rfl ?_
     refine bg (E := cz) (xs := [_]) rfl rfl rfl rfl rfl (by decide) (by decide) (by repeat (first | exact (aV.nil : aV _ _ [] _) | (show aV _ _ ((_, _) :: _) _; apply aV.one; (· exact (rfl : _ = Ty.int _ _)); (· exact rfl)))) (by exact rfl) rfl ?_
     refine aZ (sK _ _) rfl rfl rfl rfl rfl ?_
     refine aR rfl rfl rfl rfl rfl (by decide) ?_
     refine cr rfl rfl (by decide) rfl rfl (by exact (rfl : _ = Ty.int _ _)) rfl (by exact Nat.le_of_ble_eq_true rfl) rfl rfl (by exact rfl) ?_
     refine aR rfl rfl rfl rfl rfl (by decide) ?_
     refine cr rfl rfl (by decide) rfl rfl (by exact (rfl : _ = Ty.int _ _)) rfl (by exact Nat.le_of_ble_eq_true rfl) rfl rfl (by exact rfl) ?_
     refine aD ?_
     refine ⟨by kernel_rfl, ?_⟩
     refine bM (aC (aA ?_))
     refine cB rfl rfl (by omega) (by omega) ?_
     refine bG rfl (aD ?_)
     refine bR (⟨i.1 + 1, by omega⟩) ?_ (by show y.levels.length - (i.1 + 1) < y.levels.length - i.1; omega)
     (refine cg.mk' ?_ ?_ <;> (repeat' (first | exact aL | exact aK | exact cv | refine aB ?_ (Ty.aT _) | refine aB ?_ (Ty.aF _) | refine aG rfl (Cont.aF _) ?_ | refine aG rfl (Cont.ct ?_) ?_ | refine bJ ?_ (Ty.aF _) | refine bJ ?_ ?_)))
     all_goals skip
     all_goals first | exact Ty.bI (Fu hc6).1 | exact Ty.bI (Fu hc6).2
    refine af (bM (aC (aA ?_)))
    refine cB rfl rfl (by omega) (by omega) ?_
    refine bG rfl (aD ?_)
    refine bR (⟨i.1 + 1, by omega⟩) ?_ (by show y.levels.length - (i.1 + 1) < y.levels.length - i.1; omega)
    (refine cg.mk' ?_ ?_ <;> (repeat' (first | exact aL | exact aK | exact cv | refine aB ?_ (Ty.aT _) | refine aB ?_ (Ty.aF _) | refine aG rfl (Cont.aF _) ?_ | refine aG rfl (Cont.ct ?_) ?_ | refine bJ ?_ (Ty.aF _) | refine bJ ?_ ?_)))
    all_goals skip
    all_goals first | exact Ty.bI (JW hc6).1 | exact Ty.bI (JW hc6).2
   refine cH (aP (aP (ah rfl (aC (aE ?_)))))
   refine jS (tg := 8) rfl (Cont.nV (congrArg (v8 _ _) (Mv i.2 hc5))) ?_
   refine aA (RX rfl ?_)
   refine bP rfl rfl (by decide) rfl rfl (by exact Nat.le_of_ble_eq_true rfl) ?_
   refine DN hJ hJx hY rfl rfl rfl rfl rfl (FH (E5 (by omega) (by omega)) (Mz (by omega) (by omega))) rfl ?_
   refine J8 (h1 := hJ _) (hx := hJx) rfl ?_
   refine aD (aC ?_)
   refine Ex (h1 := hJ _) (hx := hJx) rfl ?_ ?_
   ·
    refine az (bC (aS (aS (bC (bC (aS (aS (bC (aS ?_)))))))))
    exact GA rfl rfl
   refine af (bM (aC (aA ?_)))
   refine cB rfl rfl (by omega) (by omega) ?_
   refine bG rfl (aD ?_)
   refine bR (⟨t.1 + 1, by omega⟩) ?_ (by show y.D + 1 - (t.1 + 1) < y.D + 1 - t.1; omega)
   (refine cg.mk' ?_ ?_ <;> (repeat' (first | exact aL | exact aK | refine aB ?_ (Ty.aT _) | refine aB ?_ (Ty.aF _) | refine aG rfl (Cont.aF _) ?_)))
   all_goals skip
  refine cH (aP (aP (ah rfl (bM (aC (aA ?_))))))
  refine cB rfl rfl (by omega) (by omega) ?_
  refine bG rfl (aD ?_)
  refine bR (⟨k.1 + 1, by omega⟩) ?_ (by show y.bins.length - (k.1 + 1) < y.bins.length - k.1; omega)
  (refine cg.mk' ?_ ?_ <;> (repeat' (first | exact aL | exact aK | refine aB ?_ (Ty.aT _) | refine aB ?_ (Ty.aF _) | refine aG rfl (Cont.aF _) ?_ | refine aG rfl ?_ ?_)))
  all_goals skip
  all_goals exact Kx hJ (show k.1 * (y.D + 1) + t.1 = (k.1 + 1) * (y.D + 1) by rw [Nat.succ_mul]; have := t.2; omega)
 refine cH (aP (aP (ah rfl (aC (aE (aA (aJ rfl rfl rfl rfl (k9 rfl ?_))))))))
 refine jN rfl rfl rfl rfl rfl (by decide) ?_
 refine jN rfl rfl rfl rfl rfl (by decide) ?_
 refine tE hX rfl rfl rfl rfl rfl rfl (b9 rfl rfl rfl (bG rfl (aD (aC (aa ?_)))))
 refine cG (fun (i : {i : Nat // i ≤ y.moves.length}) => live [(0, Ty.ex (yv l)), (1, Ty.pp [Ty.ex (.pointer (some ⟨b, 0, none⟩))]), (124, Ty.sl eS y.moves), (125, Ty.int .i64 y.moves.length), (126, Ty.int .i64 (i.1 : Nat))] [(7000, Cont.ck (hJ (y.bins.length * (y.D + 1) + i.1))), (4000, Cont.fact (bA y) vs rfl rfl)]) (fun i => y.moves.length - i.1) (⟨0, by omega⟩) ?_ fun i => ?_
 ·(refine cg.mk' ?_ ?_ <;> (repeat' (first | exact aL | exact aK | refine aB ?_ (Ty.aT _) | refine aB ?_ (Ty.aF _) | refine aG rfl (Cont.aF _) ?_ | refine aG rfl ?_ ?_)))
  all_goals exact Kx hJ (show k.1 * (y.D + 1) = y.bins.length * (y.D + 1) + 0 by rw [show k.1 = y.bins.length by have := k.2; omega]; rfl)
 refine aE (aA (bB rfl rfl rfl (aD (aC (aE ?_)))))
 refine aq rfl (fun hc8 => ?_) (fun hc8 => ?_)
 ·
  refine af (aC (aE (aa (aE (aA ?_)))))
  refine au rfl rfl rfl rfl rfl rfl (by omega) ?_
  refine aX rfl rfl rfl (by exact Nat.le_of_ble_eq_true rfl) ?_
  refine bh rfl (by exact List.cons_ne_nil _ _) rfl ?_
  refine bO rfl rfl (by decide) rfl rfl rfl rfl rfl rfl ?_
  refine aD (aC (aE ?_))
  have hm := hr.move _ (cT (xs := y.moves) (k := i.1) (by omega))
  refine cL mixed rfl (RX rfl (aJ rfl rfl rfl rfl ?_))
  refine aR rfl rfl rfl rfl rfl (by decide) ?_
  refine aY rfl rfl (by decide) rfl rfl rfl ?_
  refine aR rfl rfl rfl rfl rfl (by decide) ?_
  refine aY rfl rfl (by decide) rfl rfl rfl ?_
  refine eC [7000, 4000] (xZ y hr (nth y.moves i.1).src (nth y.moves i.1).day hm.2.1 (by omega)) rfl (aW (ql hX hD rfl rfl rfl rfl) (aW (bV (bT rfl rfl)) (aW (bV (bT rfl rfl)) cP))) (by exact dU _ _) ?_
  refine aJ rfl rfl rfl rfl ?_
  refine aR rfl rfl rfl rfl rfl (by decide) ?_
  refine aY rfl rfl (by decide) rfl rfl rfl ?_
  refine aR rfl rfl rfl rfl rfl (by decide) ?_
  refine aY rfl rfl (by decide) rfl rfl rfl ?_
  refine eC [7000, 4000] (xZ y hr (nth y.moves i.1).dst (nth y.moves i.1).day hm.2.2.1 (by omega)) rfl (aW (ql hX hD rfl rfl rfl rfl) (aW (bV (bT rfl rfl)) (aW (bV (bT rfl rfl)) cP))) (by exact dU _ _) ?_
  refine aR rfl rfl rfl rfl rfl (by decide) ?_
  refine aR rfl rfl rfl rfl rfl (by decide) ?_
  refine aY rfl rfl (by decide) rfl rfl rfl ?_
  refine aR rfl rfl rfl rfl rfl (by decide) ?_
  refine aR rfl rfl rfl rfl rfl (by decide) ?_
  refine aY rfl rfl (by decide) rfl rfl rfl ?_
  refine c6 rfl rfl (by exact List.cons_ne_nil _ _) rfl (by repeat (first | exact (aV.nil : aV _ _ [] _) | (show aV _ _ ((_, _) :: _) _; apply aV.one; (· exact (rfl : _ = Ty.int _ _)); (· exact rfl)))) (by exact (rfl : _ = some [_, _, _, _])) ?_
  refine DN hJ hJx hY rfl rfl rfl rfl rfl (FH (by rw [ef]; omega) (MV (by omega))) rfl ?_
  refine J8 (h1 := hJ _) (hx := hJx) rfl ?_
  refine aD ?_
  refine ⟨by kernel_rfl, ?_⟩
  refine aC ?_
  refine Ex (h1 := hJ _) (hx := hJx) rfl ?_ ?_
  ·
   refine az (bC (aS (aS (bC ?_))))
   exact GA rfl rfl
  refine af (bM (aC (aA ?_)))
  refine cB rfl rfl (by omega) (by omega) ?_
  refine bG rfl (aD ?_)
  refine bR (⟨i.1 + 1, by omega⟩) ?_ (by show y.moves.length - (i.1 + 1) < y.moves.length - i.1; omega)
  (refine cg.mk' ?_ ?_ <;> (repeat' (first | exact aL | exact aK | refine aB ?_ (Ty.aT _) | refine aB ?_ (Ty.aF _) | refine aG rfl (Cont.aF _) ?_)))
  all_goals skip
 refine cH (aP (aP (ah rfl ?_)))
 exact Li (hJ := hJ) (by rw [List.length_map, ef, show i.1 = y.moves.length by have := i.2; omega]) rfl rfl
end Go.Proofs.YtelbollidfdcjaaGreat
namespace Go.T
open Go Go.RowKit
theorem Nt {ρ : List (Nat × Nat)} {a b : Nat} (h : (a, b) ∈ ρ) : Conv ρ (.mp a) (.mp b) := fun _ _ _ _ _ _ hre ⟨k, e, hk⟩ => ⟨k, e, hre.some _ h k hk⟩
def Jp {α : Type} (E : El α) : VT (List α) := ⟨fun xs => Ty.sl E xs, fun _ => ⟨rfl, rfl⟩⟩
section
variable {A : As}
theorem E6 {α : Type} {E : El α} {T J : Nat} {xs : List α} {w : World} {M : bD} {v : Value} (wf : Wf w M) (h : ug E T J xs w M v) : mA E xs w (eL M J) v := by
 rcases h with ⟨rfl, rfl⟩ | ⟨g, off, c, cur, rfl, hg, hh, h1, h2, h3, h4⟩
 ·exact ⟨none, 0, rfl, Nat.le_refl _, by simp [maxLen], fun h => absurd h (by simp)⟩
 refine ⟨_, c, rfl, h1, h2, fun h0 => ⟨g, off, rfl, by simp [eL, hg], wf.lt g _ hg, fun i t hi => ?_⟩⟩
 obtain ⟨u, hu, hdu⟩ := dc h4 i t hi
 refine ⟨u, ?_, t.mono (jf (w := w)) ?_ (fun _ _ h => by cases h) hdu⟩
 ·have hlt : i < xs.length * E.size := by
   have := (List.getElem?_eq_some_iff.1 hu).1
   rw [List.length_take] at this; omega
  rw [List.getElem?_take, if_pos hlt, List.getElem?_drop] at hu
  simpa [World.cell?, hh] using hu
 intro u hu
 have : u ∈ cD (xs.flatMap E.tys) := List.mem_flatMap.2 ⟨t, List.mem_of_getElem? hi, hu⟩
 rw [E.cY] at this; cases this
theorem NR {κ α : Type} [DecidableEq κ] {enc : κ → Value} {E : El α} {T J m : Nat} {q : List (κ × List α)} (hc : A.tag m = some (.mr enc E T J q)) (hne : Nat.beq m J = false) : MR A J (m, .mp enc (Jp E) q) := fun w M wf ht => by
  obtain ⟨_, b, es, clock, h1, h2, h3, h4, _⟩ := ht _ (cj hc)
  have hmj : m ≠ J := fun h => by subst h; simp at hne
  refine ⟨b, by simp [eL, h1, hmj], es, clock, h2, h3, ?_⟩
  have key : ∀ (l : List (κ × List α)) (vs : List Value), cF w M (l.map fun x => Ty.fj E T J x.2) vs → cF w (eL M J) (l.map fun x => (Jp E).ty x.2) vs := by
    intro l
    induction l with
    | nil => intro vs h; cases vs with | nil => trivial | cons => cases h
    | cons x l ih =>
      intro vs h
      cases vs with
      | nil => cases h
      | cons v vs => exact ⟨E6 wf h.1, ih vs h.2⟩
  exact key q _ h4
theorem kX {L : List Nat} {l1 l2 : List Ty} (h1 : cD l1 = []) (h2 : bl l1 = []) : rM A L (.pp (l1 ++ l2)) (.pp l1) := fun w M v _ _ ⟨b, off, e, m1, m2, m3⟩ => by
 refine ⟨b, off, e, jj m1, m2, fun i t hi => ?_⟩
 have hl : i < l1.length := (List.getElem?_eq_some_iff.1 hi).1
 obtain ⟨x, hx, hd⟩ := m3 i t (by rw [List.getElem?_append_left hl]; exact hi)
 refine ⟨x, hx, t.mono (S := fun _ => True) (K := fun _ => True) ⟨Nat.le_refl _, rfl, rfl, rfl, fun b _ hm => ⟨jj hm, rfl⟩, fun b t _ h => absurd trivial h⟩ ?_ ?_ hd⟩
 ·intro u hu
  have : u ∈ cD l1 := List.mem_flatMap.2 ⟨t, List.mem_of_getElem? hi, hu⟩
  rw [h1] at this; cases this
 intro u hu
 have : u ∈ bl l1 := List.mem_flatMap.2 ⟨t, List.mem_of_getElem? hi, hu⟩
 rw [h2] at this; cases this
theorem G4 {L : List Nat} {i : Nat} {t : Ty} : ∀ {l l' : List Ty}, ow A L l l' → l'[i]? = some t → ∃ s, l[i]? = some s ∧ rM A L s t := by
  induction i with
  | zero =>
    intro l l' h e
    match l, l', h with
    | [], [], _ => cases e
    | s :: _, t' :: _, h => injection e with e; subst e; exact ⟨s, rfl, h.1⟩
  | succ i ih =>
    intro l l' h e
    match l, l', h with
    | [], [], _ => cases e
    | _ :: l, _ :: l', h => exact ih (l := l) (l' := l') h.2 e
theorem lE {L : List Nat} {l l' : List Ty} (h : ow A L l l') : rM A L (.pp l) (.pp l') := fun w M v wf ht ⟨b, off, e, m1, m2, m3⟩ => by
 refine ⟨b, off, e, jj m1, m2, fun i t hi => ?_⟩
 obtain ⟨s, h1, h2⟩ := G4 h hi
 obtain ⟨x, hx, hd⟩ := m3 i s h1
 exact ⟨x, hx, h2 w M x wf ht hd⟩
end
section
variable {P : Program} {fr : Fr} {A : As} {c : Code} {Q : Exit → Act → World → Prop}
theorem OS {α : Type} {E : El α} {T J tg s : Nat} {xs : List α} (hs : Nat.blt s fr.n = true) (hc : A.slots s = .row E T tg xs) (h1 : fu tg) (hJ : 4096 ≤ J) (hp : fr.pass.contains tg = false)
    (h : fS P fr c ⟨fun i => bif Nat.beq i s then .fj E T J xs else gl [] [tg] A.slots i, nR [] [tg] A.tags⟩ Q) : fS P fr c A Q := fun a w ⟨M, ok, hsl, ht⟩ => by
  have le : Le (· ∈ ([] : List Nat)) (· ∈ [tg]) w M w (mV M tg J) := xF
  refine h a w ⟨mV M tg J, ⟨Cd hJ ok.wf, Fr.ju ok.base (by intro _ h; cases h) (fun t ht => by simp only [List.mem_singleton] at ht; subst ht; exact ⟨h1.1, by simpa using hp⟩) le, ok.size, ok.defers.step (by intro _ h; cases h) (fun t ht => by simp only [List.mem_singleton] at ht; subst ht; exact h1.1) le⟩, fun i hi => ?_, fun x hx => ?_⟩
  · cases hb : Nat.beq i s with
    | false =>
      simp only [hb, cond_false]
      rcases fy [] [tg] A.slots i with ⟨e, hdj⟩ | ⟨_, e⟩
      · rw [e]; exact (A.slots i).mono le (fW hdj).1 (fW hdj).2 (hsl i hi)
      · rw [e]; trivial
    | true =>
      have his : i = s := Nat.eq_of_beq_eq_true hb
      subst his
      simp only [hb, cond_true]
      have hd := hsl i hi
      rw [hc] at hd
      obtain ⟨vs, hown, hcs, hM⟩ := hd
      rcases hown.2 with ⟨ez, h0⟩ | ⟨g, cap, cur, ez, _, hh, hnc, hcap, hsz, htk⟩
      · exact .inl ⟨List.length_eq_zero_iff.1 h0, ez⟩
      · have hg : M g = some tg := hM g (by rw [ez]; rfl)
        refine .inr ⟨g, 0, cap, cur, ez, by simp [mV, hg], hh, hnc, hcap, by omega, ?_⟩
        rw [List.drop_zero, htk]
        exact bz (xF (w := w)) (by rw [E.cY]; intro _ h; cases h) (by rw [E.cS]; intro _ h; cases h) hcs
  · exact iy le hx fun y hy _ => ht y hy
end
end Go.T
namespace Go.Proofs.YtelbollidfdcjaaGreat
open Go Go.T
set_option maxHeartbeats 8000000
theorem four {vs : List Value} {n : Nat} (h : vs.length = n) (e : n = 4) : ∃ a b c d, vs = [a, b, c, d] := by
  subst e
  match vs, h with
  | [a, b, c, d], _ => exact ⟨a, b, c, d, rfl⟩
def FJ (y : aj) : List Ty := [Ty.int .i64 y.days, Ty.sl fL y.bins, Ty.sl eS y.moves, Ty.sl dg y.levels, Ty.ex (.slice none 0 0), Ty.ex (.slice none 0 0)]
def Ql (y : aj) (F A : Nat) (fl : List b8) (a : List Int) : List Ty := [Ty.int .i64 y.days, Ty.sl fL y.bins, Ty.sl eS y.moves, Ty.sl dg y.levels, Ty.row dS 187 F fl, Ty.row cz 3 A a]
theorem FO {fl : List b8} {k : Nat} (h : k < fl.length) : (fY fl).take k ++ [(nth fl k).lo] = (fY fl).take (k + 1) := by
 unfold fY; rw [← List.map_take, ← List.map_take, cV h, List.map_append]; rfl
theorem DF {y : aj} {fl : List b8} {α : Type} {f : b8 → α} : [Ty.int .i64 y.days, Ty.sl fL y.bins, Ty.sl eS y.moves, Ty.sl dg y.levels, Ty.row dS 187 23 (fl.take (fl.map f).length), Ty.row cz 3 31 ((fY fl).take (fl.map f).length)] = Ql y 23 31 fl (fY fl) := by
 rw [List.length_map, List.take_of_length_le (Nat.le_refl _), List.take_of_length_le (by unfold fY; rw [List.length_map]; exact Nat.le_refl _)]; rfl
def mM (y : aj) (F A m n : Nat) : List Ty := [Ty.int .i64 y.days, Ty.sl fL y.bins, Ty.sl eS y.moves, Ty.sl dg y.levels, Ty.vs F m, Ty.vs A n]
def eG (y : aj) (fl : List b8) (A n : Nat) : List Ty := [Ty.int .i64 y.days, Ty.sl fL y.bins, Ty.sl eS y.moves, Ty.sl dg y.levels, Ty.sl dS fl, Ty.vs A n]
def lB (y : aj) (fl : List b8) (a : List Int) : List Ty := [Ty.int .i64 y.days, Ty.sl fL y.bins, Ty.sl eS y.moves, Ty.sl dg y.levels, Ty.sl dS fl, Ty.sl cz a]
theorem Du (fl : List b8) : (fY fl).length = fl.length := by unfold fY; rw [List.length_map]
theorem jC {y : aj} (hr : y.bw) {c : Nat → Bool} : (aQ y c).length ≤ 34 := by
 have h1 := hr.bins; have h2 := hr.days; have h3 := D_eq hr; have h4 := hr.moves
 have := Nat.mul_le_mul (show y.bins.length ≤ 4 by omega) (show y.D + 1 ≤ 6 by omega)
 rw [ef]; omega
attribute [local irreducible] aQ fY
attribute [local irreducible] gP e9 mA oA iG iE iK g9 iL oc iA oM dV fo n6 gC oW nth fS dY ay dP bodyPost Exit.then Exit.inBlock Code.wp Code.wpIn n7 hU oX oR iB eW cM cN bodyPostM dX
set_option maxRecDepth 100000 in
theorem LM (y : aj) (c8 : List Bool) (hc8 : c8.length = 8) : eW Tryz.prog 173 [1000] [(1000, Cont.cells 185 (FJ y))] [Ty.ptr 1000 0, Ty.arr ew c8] [(1000, Cont.cells 185 (FJ y))] (Ty.kT 196 [Ty.pp [Ty.ptr 1000 0], Ty.pa ew c8 0]) := by
 refine fV Tryz.func173 rfl (by decide) Tryz.ntmps173 (by exact Nat.le_of_ble_eq_true rfl) fun w0 M0 => ?_
 refine aE (aA ?_)
 refine gY (ty := Ty.ptr 1000 0) rfl rfl ?_
 refine uc rfl (mB rfl (aD (aC (aE (aA (dh rfl (RU rfl (aD (aC ?_)))))))))
 refine az ?_
 refine jK [1000] rfl rfl (by decide) (by repeat (first | exact gT | refine eP rfl (lA (by decide) rfl rfl rfl) ?_)) ?_
 all_goals skip
 all_goals exact ir (tV (aN (aN bf (aU rfl rfl)) (fB (aN bf (kE (by decide))))))
set_option maxRecDepth 100000 in
theorem pL (y : aj) (hr : y.bw) (c8 : List Bool) (hc8 : c8.length = 8) : eW Tryz.prog 117 [] [] [eB y, Ty.arr ew c8] [(23, Cont.vec dS 187 (aQ y (nth c8))), (31, Cont.vec cz 3 (fY (aQ y (nth c8))))] (Ty.pp (mM y 23 31 (aQ y (nth c8)).length (aQ y (nth c8)).length)) := by
 refine sA Tryz.func117 rfl (by decide) Tryz.ntmps117 (by exact Nat.le_of_ble_eq_true rfl) fun w0 M0 => ?_
 have hfl := jC (c := nth c8) hr
 refine aE (aA (bF rfl (uc rfl (mB rfl (aD (aC (aE (aA ?_))))))))
 refine aX rfl rfl rfl (by exact Nat.le_of_ble_eq_true rfl) ?_
 refine c6 rfl rfl (by exact List.cons_ne_nil _ _) rfl (by repeat (first | exact (aV.nil : aV _ _ [] _) | (show aV _ _ ((_, _) :: _) _; apply aV.agg; (· exact (rfl : _ = Ty.agg _))))) (by exact rfl) ?_
 refine AG rfl rfl rfl ?_
 refine bh rfl (by exact List.cons_ne_nil _ _) rfl ?_
 refine cr rfl rfl (by decide) rfl rfl (by exact (rfl : _ = Ty.ptr _ _)) rfl (by exact Nat.le_of_ble_eq_true rfl) rfl rfl (by exact (rfl : _ = [_])) ?_
 refine aD (aC (aE (aE (aA ?_))))
 refine aY rfl rfl (by decide) rfl rfl rfl ?_
 refine yB rfl rfl rfl (by rw [hc8]; rfl) ?_
 refine dM (res' := Ty.kT 196 [Ty.pp [Ty.ptr 10 0], Ty.pa ew c8 0]) [(10, 1000)] [] [(10, Cont.cells 185 (FJ y))] (LM y c8 hc8) rfl rfl (aN (aN bf (aU rfl rfl)) (kE (by exact List.mem_cons_self))) (dD (a := 10) (b := 1000) (by exact List.mem_cons_self) rfl (lA (by exact List.mem_cons_self) rfl rfl rfl) pre_nil) (bp (a := 10) (b := 1000) (by exact List.mem_cons_self) rfl (lA (by exact List.mem_cons_self) rfl rfl rfl) post_nil) (tV (aN (aN bf (aU rfl rfl)) (fB (aN bf (kE (by exact List.mem_cons_self)))))) ?_
 refine aD (aC ?_)
 refine Lf (D := 10) (Tb := 185) (tys := bA y) (r := [Ty.ex (.slice none 0 0), Ty.ex (.slice none 0 0)]) rfl rfl rfl (by decide) fun vs hvs => ?_
 obtain ⟨v0, v1, v2, v3, rfl⟩ := four hvs rfl
 refine aa ?_
 refine sS (ps := [13]) (lk [(5, Ty.ptr 6 0), (9, Ty.ptr 10 0)]) (fun k => [(6, Cont.cells 152 [Ty.ptr 10 0]), (10, Cont.cells 185 [Ty.ex v0, Ty.ex v1, Ty.ex v2, Ty.ex v3, Ty.row dS 187 23 ((aQ y (nth c8)).take k), Ty.row cz 3 31 ((fY (aQ y (nth c8))).take k)]), (4000, Cont.fact (bA y) [v0, v1, v2, v3] rfl rfl)]) false [] [6, 10, 4000] rfl rfl ((wB y hr c8 hc8 0 10 (by decide) [v0, v1, v2, v3]).1) (CZ (D := 10) (n := 36) (sd := 9) (r := fun k => [Ty.row dS 187 23 ((aQ y (nth c8)).take k), Ty.row cz 3 31 ((fY (aQ y (nth c8))).take k)]) (fun b => wB y hr c8 hc8 b 10 (by decide) [v0, v1, v2, v3]) (by decide) (by decide) rfl (fun k => List.mem_cons_of_mem _ List.mem_cons_self) (List.mem_cons_of_mem _ (List.mem_cons_of_mem _ List.mem_cons_self))) (vn rfl) (vn rfl) (by decide) (by intro t ht; obtain ⟨x, _, rfl⟩ := List.mem_map.1 ht; exact ⟨rfl, rfl, rfl⟩) rfl rfl (fun _ => rfl) rfl ?_ ?_ ?_ (by intro h; cases h)
 ·(refine cg.mk' ?_ ?_ <;> (repeat' (first | exact aL | exact aK | exact cv | refine aB ?_ (Ty.aT _) | refine aB ?_ (Ty.aF _) | refine aG rfl (Cont.aF _) ?_ | refine aG rfl (Cont.ct ?_) ?_ | refine bJ ?_ (Ty.aF _) | refine bJ ?_ Ty.iF)))
  all_goals trace_state
 ·intro k tys hk
  obtain ⟨hk1, rfl⟩ := Ft hk
  refine ⟨live [(5, Ty.ptr 6 0), (6, Ty.ptr 7 0), (9, Ty.ptr 10 0)] [(6, Cont.cells 152 [Ty.ptr 10 0]), (7, Cont.cells 187 (dS.tys (nth (aQ y (nth c8)) k))), (10, Cont.cells 185 [Ty.ex v0, Ty.ex v1, Ty.ex v2, Ty.ex v3, Ty.row dS 187 23 ((aQ y (nth c8)).take k), Ty.row cz 3 31 ((fY (aQ y (nth c8))).take k)]), (4000, Cont.fact (bA y) [v0, v1, v2, v3] rfl rfl)], fun l w M => ?_, fun l w M => ?_⟩
  ·
   refine aA ?_
   refine bh rfl (by exact List.cons_ne_nil _ _) rfl ?_
   refine bO rfl rfl (by decide) rfl rfl rfl rfl rfl rfl ?_
   refine aD (eT ?_)
   (refine cg.mk' ?_ ?_ <;> (repeat' (first | exact aL | exact aK | refine aB ?_ (Ty.aT _) | refine aB ?_ (Ty.aF _) | refine aG rfl (Cont.aF _) ?_)))
  refine aa ?_
  refine vu (D := 10) (Tb := 185) (tg := 23) [Ty.ex v0, Ty.ex v1, Ty.ex v2, Ty.ex v3] rfl fun v4 => ?_
  refine vu (D := 10) (Tb := 185) (tg := 31) [Ty.ex v0, Ty.ex v1, Ty.ex v2, Ty.ex v3, Ty.ex v4] rfl fun v5 => ?_
  refine cL mixed rfl ?_
  refine aY rfl rfl (by decide) rfl rfl rfl ?_
  refine aY rfl rfl (by decide) rfl rfl rfl ?_
  refine aY rfl rfl (by decide) rfl rfl rfl ?_
  refine cZ rfl ?_
  refine aR rfl rfl rfl rfl rfl (by decide) ?_
  refine aY rfl rfl (by decide) rfl rfl rfl ?_
  refine bP rfl rfl (by decide) rfl rfl (by exact Nat.le_of_ble_eq_true rfl) ?_
  refine bg (E := dS) (xs := [_]) rfl rfl rfl rfl rfl (by decide) (by decide) (by repeat (first | exact (aV.nil : aV _ _ [] _) | (show aV _ _ ((_, _) :: _) _; apply aV.agg; (· exact (rfl : _ = Ty.agg _))))) (by exact rfl) rfl ?_
  refine qR (tg := 23) rfl rfl rfl rfl (by decide) rfl rfl rfl rfl rfl rfl (by decide) (by (simp <;> omega)) (by (simp <;> omega)) rfl rfl ?_
  refine aY rfl rfl (by decide) rfl rfl rfl ?_
  refine cZ rfl ?_
  refine aR rfl rfl rfl rfl rfl (by decide) ?_
  refine aY rfl rfl (by decide) rfl rfl rfl ?_
  refine aR rfl rfl rfl rfl rfl (by decide) ?_
  refine aY rfl rfl (by decide) rfl rfl rfl ?_
  refine bg (E := cz) (xs := [_]) rfl rfl rfl rfl rfl (by decide) (by decide) (by repeat (first | exact (aV.nil : aV _ _ [] _) | (show aV _ _ ((_, _) :: _) _; apply aV.one; (· exact (rfl : _ = Ty.int _ _)); (· exact rfl)))) (by exact rfl) rfl ?_
  refine qR (tg := 31) rfl rfl rfl rfl (by decide) rfl rfl rfl rfl rfl rfl (by decide) (by (simp <;> omega)) (by (simp <;> omega)) rfl rfl ?_
  refine cZ rfl ?_
  refine aR rfl rfl rfl rfl rfl (by decide) ?_
  refine cr rfl rfl (by decide) rfl rfl (by exact (rfl : _ = Ty.row _ _ _ _)) rfl (by exact Nat.le_of_ble_eq_true rfl) rfl rfl (by exact rfl) ?_
  refine cZ rfl ?_
  refine aR rfl rfl rfl rfl rfl (by decide) ?_
  refine cr rfl rfl (by decide) rfl rfl (by exact (rfl : _ = Ty.row _ _ _ _)) rfl (by exact Nat.le_of_ble_eq_true rfl) rfl rfl (by exact rfl) ?_
  refine aD ?_
  refine ⟨by kernel_rfl, ?_⟩
  refine bM (CT ?_)
  (refine cg.mk' ?_ ?_ <;> (repeat' (first | exact aL | exact aK | exact cv | refine aB ?_ (Ty.aT _) | refine aG rfl (Cont.aF _) ?_ | refine aG rfl (Cont.ct ?_) ?_ | refine bJ ?_ (Ty.aF _) | refine bJ ?_ ?_)))
  all_goals first | exact Ty.fH (cV hk1).symm | exact Ty.fH (FO hk1)
 refine bM (aC (aE ?_))
 refine Di (D := 10) (Tb := 185) (vs := [v0, v1, v2, v3]) (tys := bA y) (r := [Ty.row dS 187 23 ((aQ y (nth c8)).take ((aQ y (nth c8)).map j5).length), Ty.row cz 3 31 ((fY (aQ y (nth c8))).take ((aQ y (nth c8)).map j5).length)]) rfl rfl ?_
 refine jS (tg := 10) rfl (Cont.nV (T := 185) (DF (y := y) (fl := aQ y (nth c8)) (f := j5))) ?_
 refine q5 (c0 := 10) (tg := 23) 4 rfl rfl ?_
 refine q5 (c0 := 10) (tg := 31) 5 rfl rfl ?_
 refine jS (tg := 10) rfl (Cont.kW (l' := mM y 23 31 (aQ y (nth c8)).length (aQ y (nth c8)).length) ⟨Ty.aF _, Ty.aF _, Ty.aF _, Ty.aF _, Ty.BQ rfl, Ty.BQ (Du _), trivial⟩) ?_
 refine jZ (tg := 10) [] [(6, Cont.cells 152 [Ty.pp (mM y 23 31 (aQ y (nth c8)).length (aQ y (nth c8)).length)])] (by decide) rfl trivial ⟨fP rfl rfl ⟨z6 rfl rfl (by decide), trivial⟩, trivial⟩ ?_
 refine aA ?_
 refine aY rfl rfl (by decide) rfl rfl rfl ?_
 refine Ly rfl (aD (aC (az (Ik rfl ?_))))
 refine jK [23, 31] rfl rfl (by decide) (by repeat (first | exact gT | refine eP rfl (bt (by decide) rfl) ?_)) ?_
 all_goals skip
 all_goals exact ir (fB (aN (aN (aN (aN (aN (aN bf (dZ (by decide))) (dZ (by decide))) (aU rfl rfl)) (aU rfl rfl)) (aU rfl rfl)) (aU rfl rfl)))
end Go.Proofs.YtelbollidfdcjaaGreat
namespace Go.Proofs.YtelbollidfdcjaaGreat
open Go Go.T
section
variable {fl : List b8} {a : List Int} {n k : Nat} {c : Int} {w : Way}
abbrev WQ : Type := List (Int × List Way)
def pG (q : WQ) (c : Int) : List Way := (fD q c).getD []
def HC (q : WQ) (c : Int) (w : Way) : WQ := iC q c (pG q c ++ [w])
theorem DI (q : WQ) (c c' : Int) (w : Way) : pG (HC q c w) c' = pG q c' ++ (if c = c' then [w] else []) := by
 unfold HC
 show (fD (iC _ _ _) c').getD [] = _
 rw [AM]
 by_cases e : c = c'
 ·subst e; rw [if_pos rfl, if_pos rfl]; rfl
 rw [if_neg e, if_neg e, List.append_nil]; rfl
def nN (fl : List b8) (a : List Int) (q : WQ) (k : Nat) : WQ := if nth a k < (nth fl k).hi then HC q (nth fl k).src ⟨k, true⟩ else q
def eo (fl : List b8) (a : List Int) : Nat → WQ
  | 0 => []
  | k + 1 => if nth a k > (nth fl k).lo then HC (nN fl a (eo fl a k) k) (nth fl k).dst ⟨k, false⟩ else nN fl a (eo fl a k) k
theorem G1 (fl : List b8) (a : List Int) : ([] : WQ) = eo fl a 0 := rfl
theorem Jv {q : WQ} (h : ¬ nth a k < (nth fl k).hi) : q = nN fl a q k := (if_neg h).symm
theorem Kl (h : ¬ nth a k > (nth fl k).lo) : nN fl a (eo fl a k) k = eo fl a (k + 1) := (if_neg h).symm
theorem td {q : WQ} : pG (nN fl a q k) c = pG q c ++ (if nth a k < (nth fl k).hi ∧ (nth fl k).src = c then [⟨k, true⟩] else []) := by
 unfold nN
 by_cases h : nth a k < (nth fl k).hi
 ·rw [if_pos h, DI]
  by_cases e : (nth fl k).src = c
  ·rw [if_pos e, if_pos ⟨h, e⟩]
  rw [if_neg e, if_neg fun h => e h.2]
 rw [if_neg h, if_neg fun h' => h h'.1, List.append_nil]
theorem uG : ∀ k, pG (eo fl a k) c = (List.range k).flatMap (Bi fl a c)
  | 0 => rfl
  | k + 1 => by
    rw [List.range_succ, List.flatMap_append, List.flatMap_singleton, ← uG k]
    show pG (if _ then _ else _) c = _
    unfold Bi
    by_cases h : nth a k > (nth fl k).lo
    · rw [if_pos h, DI, td, List.append_assoc]
      congr 2
      by_cases e : (nth fl k).dst = c
      · rw [if_pos e, if_pos ⟨h, e⟩]
      · rw [if_neg e, if_neg fun h => e h.2]
    · rw [if_neg h, td, if_neg (c := _ ∧ (nth fl k).dst = c) (fun h' => h h'.1), List.append_nil]
theorem tB : pG (eo fl a fl.length) c = bN fl a c := uG _
theorem za (k : Nat) : (pG (eo fl a k) c).length ≤ 2 * k := by
  rw [uG]
  have key : ∀ n, ((List.range n).flatMap (Bi fl a c)).length ≤ 2 * n := by
    intro n
    induction n with
    | zero => simp
    | succ n ih => rw [List.range_succ, List.flatMap_append, List.length_append, List.flatMap_singleton]; have := De (fl := fl) (a := a) (c := c) n; omega
  exact key k
theorem Hl : (pG (nN fl a (eo fl a k) k) c).length ≤ 2 * k + 1 := by
 rw [td, List.length_append]
 have := za (fl := fl) (a := a) (c := c) k
 split <;> simp <;> omega
def pU (fl : List b8) (a : List Int) (k : Nat) (c : Int) : Int := cw (fun i => (ind ((nth fl i).dst = c) - ind ((nth fl i).src = c)) * nth a i) k
def fG (fl : List b8) (a : List Int) (n k : Nat) : List Int := (List.range n).map fun c => pU fl a k (c : Nat)
theorem kQ : (fG fl a n k).length = n := by unfold fG; rw [List.length_map, List.length_range]
theorem jY {c : Nat} (h : c < n) : nth (fG fl a n k) c = pU fl a k c := eH _ h
theorem EC : fG fl a n fl.length = gm fl a n := rfl
theorem Df {l l' : List Int} (h : l.length = l'.length) (h' : ∀ i, i < l.length → nth l i = nth l' i) : l = l' := by
 refine List.ext_getElem h fun i h1 h2 => ?_
 have := h' i h1
 unfold nth at this
 rw [List.getD_eq_getElem?_getD, List.getD_eq_getElem?_getD, List.getElem?_eq_getElem h1, List.getElem?_eq_getElem h2] at this
 exact this
def o8 (fl : List b8) (a : List Int) (l : List Int) (k : Nat) : List Int := l.set (nth fl k).src.toNat (nth l (nth fl k).src.toNat - nth a k)
theorem CB (hs : 0 ≤ (nth fl k).src ∧ (nth fl k).src < n) (hd : 0 ≤ (nth fl k).dst ∧ (nth fl k).dst < n) :
 (o8 fl a (fG fl a n k) k).set (nth fl k).dst.toNat (nth (o8 fl a (fG fl a n k) k) (nth fl k).dst.toNat + nth a k) = fG fl a n (k + 1) := by
 have hS : ∀ c, c < n → nth (o8 fl a (fG fl a n k) k) c = pU fl a k c - ind ((nth fl k).src = (c : Int)) * nth a k := fun c hc => by
  unfold o8
  rw [iw (by rw [kQ]; exact hc)]
  by_cases e : (nth fl k).src.toNat = c
  ·rw [if_pos e, e, jY hc, dx (by omega), Int.one_mul]
  rw [if_neg e, jY hc, dw (by omega), Int.zero_mul, Int.sub_zero]
 have hl : (o8 fl a (fG fl a n k) k).length = n := by unfold o8; rw [List.length_set, kQ]
 refine Df (by rw [List.length_set, hl, kQ]) fun c hc => ?_
 rw [List.length_set, hl] at hc
 rw [iw (by rw [hl]; exact hc), jY hc]
 show _ = pU fl a k c + (ind ((nth fl k).dst = (c : Int)) - ind ((nth fl k).src = (c : Int))) * nth a k
 rw [Int.sub_mul]
 by_cases e : (nth fl k).dst.toNat = c
 ·rw [if_pos e, e, hS c hc, dx (p := (nth fl k).dst = (c : Int)) (by omega), Int.one_mul]; omega
 rw [if_neg e, hS c hc, dw (p := (nth fl k).dst = (c : Int)) (by omega), Int.zero_mul]; omega
theorem G7 (fl : List b8) (a l : List Int) (k : Nat) : (o8 fl a l k).length = l.length := List.length_set
theorem HS (fl : List b8) (a : List Int) (n : Nat) : List.replicate (((n : Nat) : Int)).toNat 0 = fG fl a n 0 := by
 rw [Int.toNat_natCast]
 refine Df (by rw [List.length_replicate, kQ]) fun i hi => ?_
 rw [List.length_replicate] at hi
 rw [jY hi, A4 _ _ _ hi]; rfl
theorem GW {c : Nat} (h : ∀ c : Int, -(300 * (k : Int)) ≤ pU fl a k c ∧ pU fl a k c ≤ 300 * k) (ha : 0 ≤ nth a k ∧ nth a k ≤ 300) (hc : c < n) (hs : (nth fl k).src.toNat < n) : -(300 * (k : Int) + 300) ≤ nth (o8 fl a (fG fl a n k) k) c ∧ nth (o8 fl a (fG fl a n k) k) c ≤ 300 * k := by
 unfold o8
 rw [iw (by rw [kQ]; exact hc)]
 split
 ·rw [jY hs]; have := h ((nth fl k).src.toNat : Nat); omega
 rw [jY hc]; have := h (c : Nat); omega
theorem zQ (ha : ∀ i, i < k → 0 ≤ nth a i ∧ nth a i ≤ 300) : -(300 * (k : Int)) ≤ pU fl a k c ∧ pU fl a k c ≤ 300 * k := by
 refine pY (b := 300) fun i hi => ?_
 have := ha i hi
 unfold ind
 split <;> split <;> simp <;> omega
end
end Go.Proofs.YtelbollidfdcjaaGreat
namespace Go.Proofs.YtelbollidfdcjaaGreat
open Go Go.T
set_option maxHeartbeats 8000000
section
variable {fl : List b8} {a : List Int} {n : Nat} {w : Way}
theorem L5 (h : w.more = true) : (nth fl w.ix).src = w.g6 fl := (if_pos h).symm
theorem OM (h : w.more = false) : (nth fl w.ix).dst = w.g6 fl := (if_neg (by rw [h]; decide)).symm
theorem FV (h : w.more = true) : (nth fl w.ix).dst = w.fin fl ∧ (nth fl w.ix).hi - nth a w.ix = w.room fl a := ⟨(if_pos h).symm, (if_pos h).symm⟩
theorem LO (h : w.more = false) : (nth fl w.ix).src = w.fin fl ∧ nth a w.ix - (nth fl w.ix).lo = w.room fl a := ⟨(if_neg (by rw [h]; decide)).symm, (if_neg (by rw [h]; decide)).symm⟩
structure mO (y : aj) (fl : List b8) (a : List Int) : Prop where
  right : y.bw
  net : Net fl (y.cells + 1)
  bd : Bd fl
  inb : yw fl a
  q7 : fl.length ≤ 34
theorem mO.PX {y : aj} (h : mO y fl a) {i : Nat} (hi : i < fl.length) : (0 ≤ nth a i ∧ nth a i ≤ 300) ∧ (0 ≤ (nth fl i).lo ∧ (nth fl i).lo ≤ 300) ∧ 0 ≤ (nth fl i).hi ∧ (nth fl i).hi ≤ 300 := by
 have h1 := h.bd i hi
 have h2 := h.inb.2 i hi
 omega
theorem QS {l : List Way} {k : Nat} {d : Int} (hk : k < l.length) (hm : (nth l k).more = true) : (eK a (l.take k) d).set (nth l k).ix (nth (eK a (l.take k) d) (nth l k).ix + d) = eK a (l.take (k + 1)) d := by
 rw [cV hk, sD]; unfold lX yZ; rw [hm]; rfl
theorem P0 {l : List Way} {k : Nat} {d : Int} (hk : k < l.length) (hm : (nth l k).more = false) : (eK a (l.take k) d).set (nth l k).ix (nth (eK a (l.take k) d) (nth l k).ix - d) = eK a (l.take (k + 1)) d := by
 rw [cV hk, sD]; unfold lX yZ; rw [hm]; rfl
theorem AX {l : List Way} {d : Int} (hd : 0 ≤ d ∧ d ≤ 20000) (ha : ∀ i, -300 ≤ nth a i ∧ nth a i ≤ 300) (hw : ∀ w ∈ l, w.ix < a.length) : ∀ k, k ≤ l.length → ∀ i, -(20000 * ((k : Int) + 1)) ≤ nth (eK a (l.take k) d) i ∧ nth (eK a (l.take k) d) i ≤ 20000 * ((k : Int) + 1)
  | 0, _, i => by rw [List.take_zero]; have := ha i; show _ ≤ nth a i ∧ nth a i ≤ _; omega
  | k + 1, hk, i => by
    have ih := AX hd ha hw k (by omega) i
    rw [cV (by omega), sD, kZ (by rw [uJ]; exact hw _ (cT (by omega)))]
    split
    · unfold yZ; split <;> omega
    · omega
theorem Dl (a : List Int) (l : List Way) (d : Int) : a = eK a (l.take 0) d := rfl
theorem Mu {l : List Int} {i : Nat} (h : l.length ≤ i) : nth l i = 0 := by
 unfold nth; rw [List.getD_eq_getElem?_getD, List.getElem?_eq_none h]; rfl
theorem mO.abs {y : aj} (h : mO y fl a) (i : Nat) : -300 ≤ nth a i ∧ nth a i ≤ 300 := by
 by_cases c : i < fl.length
 ·have := (h.PX c).1; omega
 rw [Mu (by rw [h.inb.1]; omega)]; omega
end
theorem ox : mapOf Tryz.prog 227 = some (3, 222) := by kernel_rfl
theorem vq : zeroOf Tryz.prog 222 = some (.slice none 0 0) := by kernel_rfl
def KI : yu Tryz.prog 3 Int := OY Tryz.prog 3 .i64 Tryz.underlying3
theorem vc (n : Int) : vQ (Ty.int .i64 n) (KI.enc n) := L7
attribute [local irreducible] aQ fY Way.g6 Way.fin Way.room eo nN HC eK fG pU
attribute [local irreducible] gP e9 mA oA iG iE iK g9 iL oc iA oM dV fo n6 gC oW nth fS dY ay dP bodyPost Exit.then Exit.inBlock Code.wp Code.wpIn n7 hU oX oR iB eW cM cN bodyPostM dX
set_option maxRecDepth 100000 in
theorem Ag (y : aj) (fl : List b8) (a : List Int) (w : Way) (hw : w.ix < fl.length) : dP Tryz.prog 181 [Ty.pp (lB y fl a), Ty.agg (gF.tys w)] (Ty.int .i64 (w.g6 fl)) := by
 refine ak Tryz.func181 rfl (by decide) Tryz.ntmps181 (by exact Nat.le_of_ble_eq_true rfl) fun w0 M0 => ?_
 refine aE (aA (bF rfl (bu rfl (aD (aC (aE (aE (aA ?_))))))))
 refine aI rfl rfl rfl rfl rfl (by decide) ?_
 refine aJ rfl rfl rfl rfl (aD (aC ?_))
 refine cC rfl (fun hc1 => ?_) (fun hc1 => ?_)
 ·
  refine aE (cL mixed rfl (iq rfl (bW rfl ?_)))
  refine aI rfl rfl rfl rfl rfl (by decide) ?_
  refine aJ rfl rfl rfl rfl ?_
  refine aI rfl rfl rfl rfl rfl (by decide) ?_
  refine aJ rfl rfl rfl rfl ?_
  refine au rfl rfl rfl rfl rfl rfl (by omega) ?_
  refine aI rfl rfl rfl rfl rfl (by decide) ?_
  refine aJ rfl rfl rfl rfl (bu rfl (aD ?_))
  refine ⟨by kernel_rfl, ?_⟩
  refine aC (az (aS (bU rfl rfl ?_)))
  all_goals skip
  all_goals exact av rfl rfl (congrArg (Ty.int .i64) (L5 hc1))
 refine af (aC (aE (cL mixed rfl (iq rfl (bW rfl ?_)))))
 refine aI rfl rfl rfl rfl rfl (by decide) ?_
 refine aJ rfl rfl rfl rfl ?_
 refine aI rfl rfl rfl rfl rfl (by decide) ?_
 refine aJ rfl rfl rfl rfl ?_
 refine au rfl rfl rfl rfl rfl rfl (by omega) ?_
 refine aI rfl rfl rfl rfl rfl (by decide) ?_
 refine aJ rfl rfl rfl rfl (bu rfl (aD ?_))
 refine ⟨by kernel_rfl, ?_⟩
 refine aC (az (bU rfl rfl ?_))
 all_goals skip
 all_goals exact av rfl rfl (congrArg (Ty.int .i64) (OM hc1))
set_option maxRecDepth 100000 in
theorem FL (y : aj) (fl : List b8) (a : List Int) (h : mO y fl a) (w : Way) (hw : w.ix < fl.length) : dP Tryz.prog 182 [Ty.pp (lB y fl a), Ty.agg (gF.tys w)] (Ty.lN [Ty.int .i64 (w.fin fl), Ty.int .i64 (w.room fl a)]) := by
 refine ak Tryz.func182 rfl (by decide) Tryz.ntmps182 (by exact Nat.le_of_ble_eq_true rfl) fun w0 M0 => ?_
 have hl := h.inb.1
 have hb := h.PX hw
 refine aE (aA (bF rfl (bu rfl (bu rfl (aD (aC (aE (cL mixed rfl (iq rfl ?_)))))))))
 refine bW rfl ?_
 refine aI rfl rfl rfl rfl rfl (by decide) ?_
 refine aJ rfl rfl rfl rfl ?_
 refine aI rfl rfl rfl rfl rfl (by decide) ?_
 refine aJ rfl rfl rfl rfl ?_
 refine au rfl rfl rfl rfl rfl rfl (by omega) ?_
 refine aX rfl rfl rfl (by exact Nat.le_of_ble_eq_true rfl) ?_
 refine bh rfl (by exact List.cons_ne_nil _ _) rfl ?_
 refine bO rfl rfl (by decide) rfl rfl rfl rfl rfl rfl ?_
 refine aD ?_
 refine ⟨by kernel_rfl, ?_⟩
 refine aC (aE (aE (aA ?_)))
 refine aI rfl rfl rfl rfl rfl (by decide) ?_
 refine aJ rfl rfl rfl rfl (aD (aC ?_))
 refine cC rfl (fun hc1 => ?_) (fun hc1 => ?_)
 ·
  refine aE (cL mixed rfl ?_)
  refine aR rfl rfl rfl rfl rfl (by decide) ?_
  refine aY rfl rfl (by decide) rfl rfl rfl ?_
  refine aR rfl rfl rfl rfl rfl (by decide) ?_
  refine aY rfl rfl (by decide) rfl rfl rfl ?_
  refine iq rfl (bW rfl ?_)
  refine aI rfl rfl rfl rfl rfl (by decide) ?_
  refine aJ rfl rfl rfl rfl ?_
  refine aI rfl rfl rfl rfl rfl (by decide) ?_
  refine aJ rfl rfl rfl rfl ?_
  refine au rfl rfl rfl rfl rfl rfl (by omega) ?_
  refine aJ rfl rfl rfl rfl ?_
  refine gZ rfl rfl (by omega) (by omega) ?_
  refine bu rfl (bu rfl (aD ?_))
  refine ⟨by kernel_rfl, ?_⟩
  refine aC (az (aS ?_))
  refine gD rfl rfl rfl ?_ ?_
  all_goals skip
  all_goals first | exact av rfl rfl (congrArg (Ty.int .i64) (FV (a := a) hc1).1) | exact av rfl rfl (congrArg (Ty.int .i64) (FV (a := a) hc1).2)
 refine af (aC (aE (cL mixed rfl ?_)))
 refine aR rfl rfl rfl rfl rfl (by decide) ?_
 refine aY rfl rfl (by decide) rfl rfl rfl ?_
 refine iq rfl (bW rfl ?_)
 refine aI rfl rfl rfl rfl rfl (by decide) ?_
 refine aJ rfl rfl rfl rfl ?_
 refine aI rfl rfl rfl rfl rfl (by decide) ?_
 refine aJ rfl rfl rfl rfl ?_
 refine au rfl rfl rfl rfl rfl rfl (by omega) ?_
 refine aJ rfl rfl rfl rfl ?_
 refine aR rfl rfl rfl rfl rfl (by decide) ?_
 refine aY rfl rfl (by decide) rfl rfl rfl ?_
 refine gZ rfl rfl (by omega) (by omega) ?_
 refine bu rfl (bu rfl (aD ?_))
 refine ⟨by kernel_rfl, ?_⟩
 refine aC (az ?_)
 refine gD rfl rfl rfl ?_ ?_
 all_goals skip
 all_goals first | exact av rfl rfl (congrArg (Ty.int .i64) (LO (a := a) hc1).1) | exact av rfl rfl (congrArg (Ty.int .i64) (LO (a := a) hc1).2)
set_option maxRecDepth 100000 in
theorem JO (y : aj) (fl : List b8) (a : List Int) (h : mO y fl a) (l : List Way) (hl : l.length ≤ 100) (hw : ∀ w ∈ l, w.ix < fl.length) (d : Int) (hd : 0 ≤ d ∧ d ≤ 20000) : eW Tryz.prog 183 [1000] [(1000, Cont.vec cz 3 a)] [Ty.pp (eG y fl 1000 fl.length), Ty.sl gF l, Ty.int .i64 d] [(1000, Cont.vec cz 3 (eK a l d))] (Ty.lN []) := by
 refine fV Tryz.func183 rfl (by decide) Tryz.ntmps183 (by exact Nat.le_of_ble_eq_true rfl) fun w0 M0 => ?_
 have hal := h.inb.1
 refine aE (aA (fT rfl (b9 rfl rfl rfl (bG rfl (aD (aC (aa ?_)))))))
 refine cG (fun (k : {k : Nat // k ≤ l.length}) => live [(0, Ty.pp (eG y fl 1000 fl.length)), (2, Ty.int .i64 d), (8, Ty.sl gF l), (9, Ty.int .i64 l.length), (10, Ty.int .i64 (k.1 : Nat))] [(1000, Cont.vec cz 3 (eK a (l.take k.1) d))]) (fun k => l.length - k.1) (⟨0, by omega⟩) ?_ fun k => ?_
 ·(refine cg.mk' ?_ ?_ <;> (repeat' (first | exact aL | exact aK | refine aB ?_ (Ty.aT _) | refine aB ?_ (Ty.aF _) | refine aG rfl ?_ ?_)))
  all_goals exact Cont.cy (Dl _ _ _)
 have hsl := uJ d (l.take k.1) a
 have hk := k.2
 have hsa := AX hd h.abs (fun w hw' => by rw [hal]; exact hw w hw') k.1 k.2
 refine aE (aA (bB rfl rfl rfl (aD (aC (aE ?_)))))
 refine aq rfl (fun hc1 => ?_) (fun hc1 => ?_)
 ·
  refine af (aC (aE (aa (aE ?_))))
  have hwk := hw _ (cT (xs := l) (k := k.1) (by omega))
  have hsk := hsa (nth l k.1).ix
  refine aA ?_
  refine au rfl rfl rfl rfl rfl rfl (by omega) ?_
  refine aX rfl rfl rfl (by exact Nat.le_of_ble_eq_true rfl) ?_
  refine bh rfl (by exact List.cons_ne_nil _ _) rfl ?_
  refine bO rfl rfl (by decide) rfl rfl rfl rfl rfl rfl ?_
  refine aD (aC (aE (aA ?_)))
  refine aR rfl rfl rfl rfl rfl (by decide) ?_
  refine aY rfl rfl (by decide) rfl rfl rfl ?_
  refine aD (aC ?_)
  refine cC rfl (fun hc2 => ?_) (fun hc2 => ?_)
  ·
   refine cL mixed rfl (iq rfl (bW rfl ?_))
   refine aI rfl rfl rfl rfl rfl (by decide) ?_
   refine aJ rfl rfl rfl rfl ?_
   refine aR rfl rfl rfl rfl rfl (by decide) ?_
   refine aY rfl rfl (by decide) rfl rfl rfl ?_
   refine dG rfl rfl rfl rfl rfl (by omega) ?_
   refine fF rfl rfl rfl (by decide) rfl rfl (by omega) rfl ?_
   refine bG rfl ?_
   refine cB rfl rfl (by omega) (by omega) ?_
   refine dG rfl rfl rfl rfl rfl (by omega) ?_
   refine jG rfl rfl rfl (by decide) rfl rfl (by exact (rfl : _ = Ty.int _ _)) rfl (by omega) (by decide) rfl rfl ?_
   refine aD ?_
   refine ⟨by kernel_rfl, ?_⟩
   refine bM (aC (aA ?_))
   refine cB rfl rfl (by omega) (by omega) ?_
   refine bG rfl (aD ?_)
   refine bR (⟨k.1 + 1, by omega⟩) ?_ (by show l.length - (k.1 + 1) < l.length - k.1; omega)
   (refine cg.mk' ?_ ?_ <;> (repeat' (first | exact aL | exact aK | refine aB ?_ (Ty.aT _) | refine aB ?_ (Ty.aF _) | refine aG rfl ?_ ?_)))
   all_goals skip
   all_goals exact Cont.cy (QS (by omega) hc2)
  refine cL mixed rfl (iq rfl (bW rfl ?_))
  refine aI rfl rfl rfl rfl rfl (by decide) ?_
  refine aJ rfl rfl rfl rfl ?_
  refine aR rfl rfl rfl rfl rfl (by decide) ?_
  refine aY rfl rfl (by decide) rfl rfl rfl ?_
  refine dG rfl rfl rfl rfl rfl (by omega) ?_
  refine fF rfl rfl rfl (by decide) rfl rfl (by omega) rfl ?_
  refine bG rfl ?_
  refine gZ rfl rfl (by omega) (by omega) ?_
  refine dG rfl rfl rfl rfl rfl (by omega) ?_
  refine jG rfl rfl rfl (by decide) rfl rfl (by exact (rfl : _ = Ty.int _ _)) rfl (by omega) (by decide) rfl rfl ?_
  refine aD ?_
  refine ⟨by kernel_rfl, ?_⟩
  refine bM (aC (aA ?_))
  refine cB rfl rfl (by omega) (by omega) ?_
  refine bG rfl (aD ?_)
  refine bR (⟨k.1 + 1, by omega⟩) ?_ (by show l.length - (k.1 + 1) < l.length - k.1; omega)
  (refine cg.mk' ?_ ?_ <;> (repeat' (first | exact aL | exact aK | refine aB ?_ (Ty.aT _) | refine aB ?_ (Ty.aF _) | refine aG rfl ?_ ?_)))
  all_goals skip
  all_goals exact Cont.cy (P0 (by omega) hc2)
 refine cH (aP (aP (ah rfl (N4 ?_))))
 refine Kw [1000] rfl (by decide) ?_
 ·exact eP rfl (bt (by decide) (by rw [List.take_of_length_le (by have := k.2; omega)])) gT
set_option maxRecDepth 100000 in
theorem PE (y : aj) (fl : List b8) (a : List Int) (h : mO y fl a) : eW Tryz.prog 178 [1000] [(1000, Cont.vec cz 3 a)] [Ty.pp (eG y fl 1000 fl.length)] [(1000, Cont.vec cz 3 a)] (Ty.sl cz (gm fl a (y.cells + 1))) := by
 refine fV Tryz.func178 rfl (by decide) Tryz.ntmps178 (by exact Nat.le_of_ble_eq_true rfl) fun w0 M0 => ?_
 have hal := h.inb.1
 have hcl := ny h.right
 have hfl := h.q7
 refine aE (aA (mB rfl (aD (aC (aE (aA (iq rfl ?_)))))))
 refine eC [] (sq y h.right) rfl (aW (kX (l1 := bA y) (l2 := [Ty.sl dS fl, Ty.vs 1000 fl.length]) rfl rfl) cP) (by exact dU _ _) ?_
 refine cB rfl rfl (by omega) (by omega) ?_
 refine qZ (E := cz) (x0 := 0) rfl rfl rfl rfl rfl rfl rfl (by decide) rfl (by omega) (by (dsimp only; omega)) (by omega) ?_
 refine RL rfl (aD (aC (aE (aE (aA (iq rfl (bW rfl ?_)))))))
 refine aI rfl rfl rfl rfl rfl (by decide) ?_
 refine aJ rfl rfl rfl rfl (b9 rfl rfl rfl (bG rfl (aD (aC (aa ?_)))))
 refine cG (fun (k : {k : Nat // k ≤ fl.length}) => live [(0, Ty.pp (eG y fl 1000 fl.length)), (3, Ty.vs 10 (y.cells + 1)), (13, Ty.sl dS fl), (14, Ty.int .i64 fl.length), (15, Ty.int .i64 (k.1 : Nat))] [(1000, Cont.vec cz 3 a), (10, Cont.vec cz 3 (fG fl a (y.cells + 1) k.1))]) (fun k => fl.length - k.1) (⟨0, by omega⟩) ?_ fun k => ?_
 ·(refine cg.mk' ?_ ?_ <;> (repeat' (first | exact aL | exact aK | refine aB ?_ (Ty.aT _) | refine aB ?_ (Ty.aF _) | refine aG rfl (Cont.aF _) ?_ | refine aG rfl ?_ ?_)))
  all_goals exact Cont.cy (HS _ _ _)
 have hk := k.2
 have hul := kQ (fl := fl) (a := a) (n := y.cells + 1) (k := k.1)
 refine aE (aA (bB rfl rfl rfl (aD (aC (aE ?_)))))
 refine aq rfl (fun hc1 => ?_) (fun hc1 => ?_)
 ·
  refine af (aC (aE (aa (aE (aA (bG rfl ?_))))))
  refine au rfl rfl rfl rfl rfl rfl (by omega) ?_
  refine aX rfl rfl rfl (by exact Nat.le_of_ble_eq_true rfl) ?_
  refine bh rfl (by exact List.cons_ne_nil _ _) rfl ?_
  refine bu rfl ?_
  refine bO rfl rfl (by decide) rfl rfl rfl rfl rfl rfl ?_
  refine aD (aC (aE ?_))
  have hs := h.net.src k.1 (by omega)
  have hd := h.net.dst k.1 (by omega)
  have hamt := (h.PX (show k.1 < fl.length by omega)).1
  have habs := fun c => zQ (fl := fl) (a := a) (c := c) (k := k.1) fun i hi => (h.PX (show i < fl.length by omega)).1
  have hn1 := jY (fl := fl) (a := a) (n := y.cells + 1) (k := k.1) (c := (nth fl k.1).src.toNat) (by omega)
  have hb1 := habs ((nth fl k.1).src.toNat : Nat)
  refine cL mixed rfl (Lx rfl ?_)
  refine aR rfl rfl rfl rfl rfl (by decide) ?_
  refine aY rfl rfl (by decide) rfl rfl rfl ?_
  refine gM rfl rfl rfl rfl rfl hs.1 (by omega) ?_
  refine fF rfl rfl rfl (by decide) rfl rfl (by omega) rfl ?_
  refine iq rfl (bW rfl ?_)
  refine aI rfl rfl rfl rfl rfl (by decide) ?_
  refine aJ rfl rfl rfl rfl (bG rfl ?_)
  refine dG rfl rfl rfl rfl rfl (by omega) ?_
  refine fF rfl rfl rfl (by decide) rfl rfl (by omega) rfl ?_
  refine gZ rfl rfl (by omega) (by omega) ?_
  refine gM rfl rfl rfl rfl rfl hs.1 (by omega) ?_
  refine jG rfl rfl rfl (by decide) rfl rfl (by exact (rfl : _ = Ty.int _ _)) rfl (by omega) (by decide) rfl rfl ?_
  refine aD ?_
  refine ⟨by kernel_rfl, ?_⟩
  refine aC ?_
  have hsl : (o8 fl a (fG fl a (y.cells + 1) k.1) k.1).length = y.cells + 1 := (G7 _ _ _ _).trans hul
  have hb2 := GW (fl := fl) (a := a) (n := y.cells + 1) (k := k.1) (c := (nth fl k.1).dst.toNat) habs hamt (by omega) (by omega)
  unfold o8 at hb2 hsl
  refine cL mixed rfl (Lx rfl ?_)
  refine aR rfl rfl rfl rfl rfl (by decide) ?_
  refine aY rfl rfl (by decide) rfl rfl rfl ?_
  refine gM rfl rfl rfl rfl rfl hd.1 (by omega) ?_
  refine fF rfl rfl rfl (by decide) rfl rfl (by omega) rfl ?_
  refine iq rfl (bW rfl ?_)
  refine aI rfl rfl rfl rfl rfl (by decide) ?_
  refine aJ rfl rfl rfl rfl (bG rfl ?_)
  refine dG rfl rfl rfl rfl rfl (by omega) ?_
  refine fF rfl rfl rfl (by decide) rfl rfl (by omega) rfl ?_
  refine cB rfl rfl (by omega) (by omega) ?_
  refine gM rfl rfl rfl rfl rfl hd.1 (by omega) ?_
  refine jG rfl rfl rfl (by decide) rfl rfl (by exact (rfl : _ = Ty.int _ _)) rfl (by omega) (by decide) rfl rfl ?_
  refine aD ?_
  refine ⟨by kernel_rfl, ?_⟩
  refine bM (aC (aA ?_))
  refine cB rfl rfl (by omega) (by omega) ?_
  refine bG rfl (aD ?_)
  refine bR (⟨k.1 + 1, by omega⟩) ?_ (by show fl.length - (k.1 + 1) < fl.length - k.1; omega)
  (refine cg.mk' ?_ ?_ <;> (repeat' (first | exact aL | exact aK | refine aB ?_ (Ty.aT _) | refine aB ?_ (Ty.aF _) | refine aG rfl (Cont.aF _) ?_ | refine aG rfl ?_ ?_)))
  all_goals skip
  all_goals exact Cont.cy (CB hs hd)
 refine cH (aP (aP (ah rfl (aC (aE ?_)))))
 refine kD (tg := 10) [(3, Ty.sl cz (fG fl a (y.cells + 1) k.1))] (by decide) rfl ⟨OU rfl rfl hul (by decide), trivial⟩ ?_
 refine ig (s := 3) rfl (Ty.yG (show fG fl a (y.cells + 1) k.1 = gm fl a (y.cells + 1) by rw [show k.1 = fl.length by have := k.2; omega]; exact EC)) ?_
 refine aA (fT rfl (Bh rfl (aD (aC (az ?_)))))
 refine jK [1000] rfl rfl (by decide) (by repeat (first | exact gT | refine eP rfl (bt (by decide) rfl) ?_)) ?_
 all_goals exact ir (aU rfl rfl)
end Go.Proofs.YtelbollidfdcjaaGreat
namespace Go.Proofs.YtelbollidfdcjaaGreat
open Go Go.T
section
variable {fl : List b8} {a : List Int} {n : Nat} {s t : Int} {x : rm}
def eI (x : rm) : Int := nth x.queue 0
def kJ (x : rm) : rm := ⟨x.by_, x.queue.drop 1⟩
theorem queue_eq (h : 0 < x.queue.length) : x.queue = eI x :: x.queue.drop 1 := by
  unfold eI
  cases hq : x.queue with
  | nil => rw [hq] at h; exact absurd h (by simp)
  | cons c r => rfl
structure Nd (fl : List b8) (a : List Int) (n : Nat) (s : Int) (x : rm) : Prop where
  inv : mS fl a n s x none
  same : nj (wk fl a s) x = cR fl a s
  short : x.queue.length ≤ x.by_.length + 1
theorem RO (hs : 0 ≤ s ∧ s < n) : Nd fl a n s ⟨[], [s]⟩ := ⟨OI hs, rfl, Nat.le_refl _⟩
theorem J4 (h : 0 < x.queue.length) : wk fl a s x = .inl (fK fl a s (eI x) (kJ x) (bN fl a (eI x)).length) := by
 have e := queue_eq h
 unfold wk
 rw [e]; rfl
theorem Nd.fold (hN : Net fl n) (h : Nd fl a n s x) (hq : 0 < x.queue.length) {k : Nat} (hk : k ≤ (bN fl a (eI x)).length) :
 (fK fl a s (eI x) (kJ x) k).queue.length ≤ n ∧ (fK fl a s (eI x) (kJ x) k).by_.length ≤ n ∧ (fK fl a s (eI x) (kJ x) k).queue.length ≤ (fK fl a s (eI x) (kJ x) k).by_.length := by
 have h1 := (h.inv.pop (queue_eq hq)).fold hN k hk
 have h2 := h1.q7
 have h3 := xP (fl := fl) (a := a) (s := s) (c := eI x) (x := kJ x) k hk
 have h4 := h.short
 have e1 : (kJ x).queue.length + 1 = x.queue.length := by show (x.queue.drop 1).length + 1 = _; rw [List.length_drop]; omega
 have e2 : (kJ x).by_ = x.by_ := rfl
 rw [e2] at h3
 change (fK fl a s (eI x) (kJ x) k).by_.length ≤ n at h2
 omega
theorem Nd.next (hN : Net fl n) (h : Nd fl a n s x) (hq : 0 < x.queue.length) : Nd fl a n s (fK fl a s (eI x) (kJ x) (bN fl a (eI x)).length) ∧ OO n (fK fl a s (eI x) (kJ x) (bN fl a (eI x)).length) < OO n x := by
 obtain ⟨h1, h2⟩ := xN hN h.inv (queue_eq hq)
 exact ⟨⟨h1, by rw [← iS (J4 hq)]; exact h.same, by have := (h.fold hN hq (Nat.le_refl _)).2.2; omega⟩, h2⟩
theorem Nd.end (h : Nd fl a n s x) (hq : ¬ 0 < x.queue.length) : x.by_ = cR fl a s := by
 rw [← h.same]
 refine (jF ?_).symm
 unfold wk
 rw [List.length_eq_zero_iff.1 (show x.queue.length = 0 by omega)]
theorem zE {c : Int} {z : rm} {k : Nat} (hk : k < (bN fl a c).length) (h : vg fl s (fK fl a s c z k).by_ (nth (bN fl a c) k) = true) :
 iC (fK fl a s c z k).by_ ((nth (bN fl a c) k).fin fl) (nth (bN fl a c) k) = (fK fl a s c z (k + 1)).by_ ∧ (fK fl a s c z k).queue ++ [(nth (bN fl a c) k).fin fl] = (fK fl a s c z (k + 1)).queue := by
 rw [oa hk, tY h]; exact ⟨rfl, rfl⟩
theorem Da {c : Int} {z : rm} {k : Nat} (hk : k < (bN fl a c).length) (h : vg fl s (fK fl a s c z k).by_ (nth (bN fl a c) k) = false) :
 (fK fl a s c z k).by_ = (fK fl a s c z (k + 1)).by_ ∧ (fK fl a s c z k).queue = (fK fl a s c z (k + 1)).queue := by
 rw [oa hk, wP h]; exact ⟨rfl, rfl⟩
theorem wN {c : Int} {z : rm} : fK fl a s c z 0 = z := rfl
structure IT (fl : List b8) (n : Nat) (a0 a : List Int) : Prop where
  inb : yw fl a
  same : nj (FM fl n) a = fX fl n a0
theorem IT.done {a0 : List Int} (h : IT fl n a0 a) (e : dj fl a n < 0) : fX fl n a0 = (0, false, a) := by
 rw [← h.same]; exact jF (if_pos e)
theorem IT.stuck {a0 : List Int} (h : IT fl n a0 a) (e : ¬ dj fl a n < 0) (e2 : ep fl a n (cR fl a (dj fl a n)) < 0) : fX fl n a0 = (dj fl a n, true, a) := by
 rw [← h.same]; exact jF ((if_neg e).trans (if_pos e2))
theorem IT.next {a0 : List Int} (hN : Net fl n) (h : IT fl n a0 a) (e : ¬ dj fl a n < 0) (e2 : ¬ ep fl a n (cR fl a (dj fl a n)) < 0) :
 IT fl n a0 (lD fl a (dj fl a n) (ep fl a n (cR fl a (dj fl a n)))) ∧ QG fl a n (dj fl a n) (ep fl a n (cR fl a (dj fl a n))) := by
 obtain ⟨s, s1, s2, s3⟩ := xX e
 obtain ⟨t, t1, t2, t3, t4⟩ := uE e2
 rw [s2] at t2 t3 ⊢
 rw [t2]
 have hS := sent hN h.inb s1 t1 s3 t3 t4
 refine ⟨⟨hS.inb, ?_⟩, hS⟩
 rw [← h.same]
 refine (iS ?_).symm
 unfold FM
 rw [if_neg e, s2, if_neg (by rw [t2]; omega), t2]
structure NO (fl : List b8) (a : List Int) (q : List (Int × Way)) (s t : Int) (dep : Int → Nat) (x : Int × List Way) : Prop where
  inv : Ky fl a q s t dep x
  same : nj (GD fl q s) x = iO fl q s t
theorem RE {dep : Int → Nat} {q : List (Int × Way)} (ht : xK q s t) : NO fl a q s t dep (t, []) :=
 ⟨⟨rfl, (fun w h => by cases h), (fun w h => by cases h), List.nodup_nil, ht, by simp⟩, rfl⟩
theorem Ea {q : List (Int × Way)} {x : Int × List Way} (hx : x.1 = s) : GD fl q s x = .inr x.2 := if_pos hx
theorem EB {q : List (Int × Way)} {x : Int × List Way} (hx : ¬ x.1 = s) : GD fl q s x = .inl ((kI q x.1).g6 fl, x.2 ++ [kI q x.1]) := if_neg hx
theorem NO.next {dep : Int → Nat} {q : List (Int × Way)} (hd : ∀ c w, fD q c = some w → Open fl a w ∧ w.fin fl = c ∧ xK q s (w.g6 fl) ∧ dep (w.g6 fl) < dep c ∧ dep c ≤ q.length) {x : Int × List Way} (h : NO fl a q s t dep x) (hx : ¬ x.1 = s) :
 NO fl a q s t dep ((kI q x.1).g6 fl, x.2 ++ [kI q x.1]) ∧ dep ((kI q x.1).g6 fl) < dep x.1 ∧ Open fl a (kI q x.1) := by
 obtain ⟨h1, h2⟩ := h.inv.next hd hx
 refine ⟨⟨h1, ?_⟩, h2, h1.ways _ (List.mem_append.2 (.inr (List.mem_singleton.2 rfl)))⟩
 rw [← h.same]
 exact (iS (EB hx)).symm
theorem NO.end {dep : Int → Nat} {q : List (Int × Way)} {x : Int × List Way} (h : NO fl a q s t dep x) (hx : x.1 = s) : x.2 = iO fl q s t := by
 rw [← h.same]; exact (jF (Ea hx)).symm
theorem NO.q7 {dep : Int → Nat} {q : List (Int × Way)} {x : Int × List Way} (h : NO fl a q s t dep x) : x.2.length ≤ dep t := by
 have := h.inv.q7; omega
end
end Go.Proofs.YtelbollidfdcjaaGreat
namespace Go.Proofs.YtelbollidfdcjaaGreat
open Go Go.T
set_option maxHeartbeats 8000000
def BL : VT Way := ⟨fun w => Ty.agg (gF.tys w), fun _ => ⟨rfl, rfl⟩⟩
theorem oS : mapOf Tryz.prog 196 = some (3, 199) := by kernel_rfl
theorem tO : zeroOf Tryz.prog 199 = some (.agg #[.int .i64 0, .bool false]) := by kernel_rfl
theorem pR : ∀ w M, (BL.ty (default : Way)).den w M (.agg #[.int .i64 0, .bool false]) := fun _ _ => ⟨_, rfl, rfl, rfl, trivial⟩
theorem C7 : ∀ w M, ((Jp gF).ty []).den w M (.slice none 0 0) := fun w M => Ty.xU w M _ rfl
section
variable {fl : List b8} {a : List Int} {s : Int} {q : List (Int × Way)} {w : Way}
theorem GU {q : WQ} {k : Nat} (h : nth a k < (nth fl k).hi) : iC q (nth fl k).src ((fD q (nth fl k).src).getD [] ++ [⟨k, true⟩]) = nN fl a q k := (if_pos h).symm
theorem Hz {k : Nat} (h : nth a k > (nth fl k).lo) : iC (nN fl a (eo fl a k) k) (nth fl k).dst ((fD (nN fl a (eo fl a k) k) (nth fl k).dst).getD [] ++ [⟨k, false⟩]) = eo fl a (k + 1) := (if_pos h).symm
theorem new_eq : (!(fD q (w.fin fl)).isSome && !decide (w.fin fl = s)) = vg fl s q w := rfl
end
theorem Mn {α : Type} {E : El α} {T J : Nat} {l l' : List α} (e : l = l') : (Ty.fj E T J l).Sub (Ty.fj E T J l') := Ty.sub_eq (congrArg (Ty.fj E T J) e)
attribute [local irreducible] aQ fY Way.g6 Way.fin Way.room eo nN HC eK fG pU bN fK cR vg eI
attribute [local irreducible] gP e9 mA oA iG iE iK g9 iL oc iA oM dV fo n6 gC oW nth fS dY ay dP bodyPost Exit.then Exit.inBlock Code.wp Code.wpIn n7 hU oX oR iB eW cM cN bodyPostM dX
set_option maxRecDepth 100000 in
theorem Lj (y : aj) (fl : List b8) (a : List Int) (h : mO y fl a) : eW Tryz.prog 184 [1000] [(1000, Cont.vec cz 3 a)] [Ty.pp (eG y fl 1000 fl.length)] [(1000, Cont.vec cz 3 a)] (Ty.pm KI.enc (Jp gF) (eo fl a fl.length)) := by
 refine fV Tryz.func184 rfl (by decide) Tryz.ntmps184 (by exact Nat.le_of_ble_eq_true rfl) fun w0 M0 => ?_
 have hal := h.inb.1
 have hfl := h.q7
 refine aE (aA (mB rfl (aD (aC (aE (aA (Ed KI.enc gF 199 6000 ox rfl (Qx rfl (aD ?_)))))))))
 refine aC (aE (aE (aA (iq rfl (bW rfl ?_)))))
 refine aI rfl rfl rfl rfl rfl (by decide) ?_
 refine aJ rfl rfl rfl rfl (b9 rfl rfl rfl (bG rfl (aD (aC (aa ?_)))))
 refine cG (fun (k : {k : Nat // k ≤ fl.length}) => live [(0, Ty.pp (eG y fl 1000 fl.length)), (3, Ty.mp 7), (10, Ty.sl dS fl), (11, Ty.int .i64 fl.length), (12, Ty.int .i64 (k.1 : Nat))] [(1000, Cont.vec cz 3 a), (7, Cont.mr KI.enc gF 199 6000 (eo fl a k.1))]) (fun k => fl.length - k.1) (⟨0, by omega⟩) ?_ fun k => ?_
 ·(refine cg.mk' ?_ ?_ <;> (repeat' (first | exact aL | exact aK | refine aB ?_ (Ty.aT _) | refine aB ?_ (Ty.aF _) | refine aG rfl (Cont.aF _) ?_ | refine aG rfl ?_ ?_)))
  all_goals exact Cont.ue (G1 fl a)
 have hk := k.2
 refine aE (aA (bB rfl rfl rfl (aD (aC (aE ?_)))))
 refine aq rfl (fun hc1 => ?_) (fun hc1 => ?_)
 ·
  refine af (aC (aE (aa (aE (aA (bG rfl ?_))))))
  refine au rfl rfl rfl rfl rfl rfl (by omega) ?_
  refine aX rfl rfl rfl (by exact Nat.le_of_ble_eq_true rfl) ?_
  refine bh rfl (by exact List.cons_ne_nil _ _) rfl ?_
  refine bu rfl ?_
  refine bO rfl rfl (by decide) rfl rfl rfl rfl rfl rfl ?_
  refine aD (aC ?_)
  refine kV (J := live [(0, Ty.pp (eG y fl 1000 fl.length)), (3, Ty.mp 7), (4, Ty.int .i64 (k.1 : Nat)), (5, Ty.ptr 6 0), (10, Ty.sl dS fl), (11, Ty.int .i64 fl.length), (12, Ty.int .i64 (k.1 : Nat))] [(1000, Cont.vec cz 3 a), (7, Cont.mr KI.enc gF 199 6000 (nN fl a (eo fl a k.1) k.1)), (6, Cont.cells 187 (dS.tys (nth fl k.1)))]) ?_ ?_
  ·
   refine aE (cL mixed rfl (iq rfl (bW rfl ?_)))
   refine aI rfl rfl rfl rfl rfl (by decide) ?_
   refine aJ rfl rfl rfl rfl (bG rfl ?_)
   refine dG rfl rfl rfl rfl rfl (by omega) ?_
   refine fF rfl rfl rfl (by decide) rfl rfl (by omega) rfl ?_
   refine aR rfl rfl rfl rfl rfl (by decide) ?_
   refine aY rfl rfl (by decide) rfl rfl rfl ?_
   refine bB rfl rfl rfl (aD ?_)
   refine ⟨by kernel_rfl, ?_⟩
   refine aC ?_
   refine aq rfl (fun hc2 => ?_) (fun hc2 => ?_)
   ·
    have hq := fun c => za (fl := fl) (a := a) (c := c) k.1
    have hq1 := hq (nth fl k.1).src
    refine cL mixed rfl (KE rfl ?_)
    refine aR rfl rfl rfl rfl rfl (by decide) ?_
    refine aY rfl rfl (by decide) rfl rfl rfl ?_
    refine KE rfl ?_
    refine aR rfl rfl rfl rfl rfl (by decide) ?_
    refine aY rfl rfl (by decide) rfl rfl rfl ?_
    refine z7 KI rfl rfl (by decide) rfl (vc _) ox vq ?_
    refine bG rfl ?_
    refine c6 rfl rfl (by exact List.cons_ne_nil _ _) rfl (by repeat (first | exact (aV.nil : aV _ _ [] _) | (show aV _ _ ((_, _) :: _) _; apply aV.one; (· first | exact (rfl : _ = Ty.int _ _) | exact (rfl : _ = Ty.bool _)); (· exact rfl)))) (by exact (rfl : _ = some [_, _])) ?_
    refine bg (E := gF) (xs := [⟨k.1, true⟩]) rfl rfl rfl rfl rfl (by decide) (by decide) (by repeat (first | exact (aV.nil : aV _ _ [] _) | (show aV _ _ ((_, _) :: _) _; apply aV.agg; (· exact (rfl : _ = Ty.agg _))))) (by exact rfl) rfl ?_
    refine zZ rfl rfl rfl (by decide) (by decide) rfl (by show 0 < 1; decide) rfl rfl rfl rfl rfl (by decide) (by show (((fD _ _).getD []).length + 1) * 16 ≤ _; unfold pG at hq1; omega) (by show ((fD _ _).getD []).length + 1 ≤ _; unfold pG at hq1; omega) ?_
    refine AD KI rfl rfl (by decide) rfl (vc _) rfl ox rfl ?_
    refine aD ?_
    refine ⟨by kernel_rfl, ?_⟩
    refine eT ?_
    (refine cg.mk' ?_ ?_ <;> (repeat' (first | exact aL | exact aK | refine aB ?_ (Ty.aT _) | refine aB ?_ (Ty.aF _) | refine aG rfl (Cont.aF _) ?_ | refine aG rfl ?_ ?_)))
    all_goals exact Cont.ue (GU hc2)
   refine af (eT ?_)
   (refine cg.mk' ?_ ?_ <;> (repeat' (first | exact aL | exact aK | refine aB ?_ (Ty.aT _) | refine aB ?_ (Ty.aF _) | refine aG rfl (Cont.aF _) ?_ | refine aG rfl ?_ ?_)))
   all_goals exact Cont.ue (Jv hc2)
  refine aE (cL mixed rfl (iq rfl (bW rfl ?_)))
  refine aI rfl rfl rfl rfl rfl (by decide) ?_
  refine aJ rfl rfl rfl rfl (bG rfl ?_)
  refine dG rfl rfl rfl rfl rfl (by omega) ?_
  refine fF rfl rfl rfl (by decide) rfl rfl (by omega) rfl ?_
  refine aR rfl rfl rfl rfl rfl (by decide) ?_
  refine aY rfl rfl (by decide) rfl rfl rfl ?_
  refine bB rfl rfl rfl (aD ?_)
  refine ⟨by kernel_rfl, ?_⟩
  refine aC ?_
  refine aq rfl (fun hc3 => ?_) (fun hc3 => ?_)
  ·
   have hq2 := Hl (fl := fl) (a := a) (c := (nth fl k.1).dst) (k := k.1)
   refine cL mixed rfl (KE rfl ?_)
   refine aR rfl rfl rfl rfl rfl (by decide) ?_
   refine aY rfl rfl (by decide) rfl rfl rfl ?_
   refine KE rfl ?_
   refine aR rfl rfl rfl rfl rfl (by decide) ?_
   refine aY rfl rfl (by decide) rfl rfl rfl ?_
   refine z7 KI rfl rfl (by decide) rfl (vc _) ox vq ?_
   refine bG rfl ?_
   refine c6 rfl rfl (by exact List.cons_ne_nil _ _) rfl (by repeat (first | exact (aV.nil : aV _ _ [] _) | (show aV _ _ ((_, _) :: _) _; apply aV.one; (· first | exact (rfl : _ = Ty.int _ _) | exact (rfl : _ = Ty.bool _)); (· exact rfl)))) (by exact (rfl : _ = some [_, _])) ?_
   refine bg (E := gF) (xs := [⟨k.1, false⟩]) rfl rfl rfl rfl rfl (by decide) (by decide) (by repeat (first | exact (aV.nil : aV _ _ [] _) | (show aV _ _ ((_, _) :: _) _; apply aV.agg; (· exact (rfl : _ = Ty.agg _))))) (by exact rfl) rfl ?_
   refine zZ rfl rfl rfl (by decide) (by decide) rfl (by show 0 < 1; decide) rfl rfl rfl rfl rfl (by decide) (by show (((fD _ _).getD []).length + 1) * 16 ≤ _; unfold pG at hq2; omega) (by show ((fD _ _).getD []).length + 1 ≤ _; unfold pG at hq2; omega) ?_
   refine AD KI rfl rfl (by decide) rfl (vc _) rfl ox rfl ?_
   refine aD ?_
   refine ⟨by kernel_rfl, ?_⟩
   refine bM (aC (aA ?_))
   refine cB rfl rfl (by omega) (by omega) ?_
   refine bG rfl (aD ?_)
   refine bR (⟨k.1 + 1, by omega⟩) ?_ (by show fl.length - (k.1 + 1) < fl.length - k.1; omega)
   (refine cg.mk' ?_ ?_ <;> (repeat' (first | exact aL | exact aK | refine aB ?_ (Ty.aT _) | refine aB ?_ (Ty.aF _) | refine aG rfl (Cont.aF _) ?_ | refine aG rfl ?_ ?_)))
   all_goals skip
   all_goals exact Cont.ue (Hz hc3)
  refine af (bM (aC (aA ?_)))
  refine cB rfl rfl (by omega) (by omega) ?_
  refine bG rfl (aD ?_)
  refine bR (⟨k.1 + 1, by omega⟩) ?_ (by show fl.length - (k.1 + 1) < fl.length - k.1; omega)
  (refine cg.mk' ?_ ?_ <;> (repeat' (first | exact aL | exact aK | refine aB ?_ (Ty.aT _) | refine aB ?_ (Ty.aF _) | refine aG rfl (Cont.aF _) ?_ | refine aG rfl ?_ ?_)))
  all_goals skip
  all_goals exact Cont.ue (Kl hc3)
 refine cH (aP (aP (ah rfl (aC (aE ?_)))))
 refine jS (tg := 7) rfl (Cont.ue (show eo fl a k.1 = eo fl a fl.length by rw [show k.1 = fl.length by have := k.2; omega])) ?_
 refine jZ (tg := 6000) [] [(7, Cont.mp KI.enc (Jp gF) (eo fl a fl.length))] (by decide) rfl trivial ⟨NR rfl rfl, trivial⟩ ?_
 refine kD (tg := 7) [(3, Ty.pm KI.enc (Jp gF) (eo fl a fl.length))] (by decide) rfl ⟨Of rfl rfl (by decide), trivial⟩ ?_
 refine aA (PM rfl (PL rfl (aD (aC (az ?_)))))
 refine jK [1000] rfl rfl (by decide) (by repeat (first | exact gT | refine eP rfl (bt (by decide) rfl) ?_)) ?_
 all_goals exact ir (aU rfl rfl)
set_option maxRecDepth 100000 in
theorem NV (y : aj) (fl : List b8) (a : List Int) (h : mO y fl a) (s : Int) (hs : 0 ≤ s ∧ s < (y.cells + 1 : Nat)) : eW Tryz.prog 130 [1000] [(1000, Cont.vec cz 3 a)] [Ty.pp (eG y fl 1000 fl.length), Ty.int .i64 s] [(1000, Cont.vec cz 3 a), (16, Cont.mp KI.enc BL (cR fl a s))] (Ty.mp 16) := by
 refine fV Tryz.func130 rfl (by decide) Tryz.ntmps130 (by exact Nat.le_of_ble_eq_true rfl) fun w0 M0 => ?_
 have hal := h.inb.1
 have hN := h.net
 have hcl := ny h.right
 refine aE (aA (mB rfl (aD (aC (aE (aA (Hy KI.enc BL oS rfl (Qx rfl (aD ?_)))))))))
 refine aC (aE (aA (iq rfl ?_)))
 refine dM [(1000, 1000)] [] [(1000, Cont.vec cz 3 a)] (Lj y fl a h) rfl rfl (aN bf (fB (aN (aN (aN (aN (aN (aN bf (dZ (by exact List.mem_cons_self))) (aU rfl rfl)) (aU rfl rfl)) (aU rfl rfl)) (aU rfl rfl)) (aU rfl rfl)))) (dD (a := 1000) (b := 1000) (by exact List.mem_cons_self) rfl (bt (by exact List.mem_cons_self) rfl) pre_nil) (bp (a := 1000) (b := 1000) (by exact List.mem_cons_self) rfl (bt (by exact List.mem_cons_self) rfl) post_nil) (aU rfl rfl) ?_
 refine PL rfl (aD (aC (aE (aA (bG rfl ?_)))))
 refine DL (E := cz) (xs := [s]) rfl rfl rfl rfl rfl (by decide) (by decide) (by repeat (first | exact (aV.nil : aV _ _ [] _) | (show aV _ _ ((_, _) :: _) _; apply aV.one; (· exact (rfl : _ = Ty.int _ _)); (· exact rfl)))) (by exact rfl) rfl rfl ?_
 refine A2 rfl (aD (aC (aE ?_)))
 refine OS (s := 7) (J := 4100) (tg := 20) rfl rfl (by decide) (by decide) rfl ?_
 refine aa ?_
 refine cG (fun (x : {x : rm // Nd fl a (y.cells + 1) s x}) => live [(0, Ty.pp (eG y fl 1000 fl.length)), (1, Ty.int .i64 s), (5, Ty.mp 16), (6, Ty.pm KI.enc (Jp gF) (eo fl a fl.length)), (7, Ty.fj cz 3 4100 x.1.queue)] [(1000, Cont.vec cz 3 a), (16, Cont.mp KI.enc BL x.1.by_)]) (fun x => OO (y.cells + 1) x.1) (⟨⟨[], [s]⟩, RO hs⟩) ?_ fun x => ?_
 ·(refine cg.mk' ?_ ?_ <;> (repeat' (first | exact aL | exact aK | refine aB ?_ (Ty.aT _) | refine aB ?_ (Ty.aF _) | refine aG rfl (Cont.aF _) ?_)))
 refine aE (aE (aA ?_))
 refine eN (rfl : _ = Ty.fj _ _ _ _) ?_
 refine OX rfl rfl rfl (bB rfl rfl rfl (aD (aC ?_)))
 refine aq rfl (fun hc1 => ?_) (fun hc1 => ?_)
 ·
  refine af (aC (aa (aE ?_)))
  have hlen : 0 < x.1.queue.length := by omega
  refine aA ?_
  refine eN (rfl : _ = Ty.fj _ _ _ _) ?_
  refine J9 (i := 0) rfl rfl rfl rfl rfl rfl hlen ?_
  refine HT rfl rfl rfl rfl (bu rfl (aD (aC (aE (aA ?_)))))
  refine eN (rfl : _ = Ty.fj _ _ _ _) ?_
  refine Oe (lo := 1) rfl rfl rfl rfl rfl rfl hlen hlen ?_
  refine gX (rfl : _ = Ty.fj _ _ _ _) ?_
  refine aD (aC (aE ?_))
  refine ig (s := 8) rfl (Ty.bI (show nth x.1.queue 0 = eI x.1 by unfold eI; rfl)) ?_
  refine aA (PM rfl (bG rfl ?_))
  refine AH KI (z0 := []) rfl rfl (vc _) ox vq C7 ?_
  refine b9 (E := gF) (xs := pG (eo fl a fl.length) (eI x.1)) rfl rfl rfl ?_
  refine bG rfl (aD (aC ?_))
  refine ig (s := 30) rfl (show (Ty.sl gF (pG (eo fl a fl.length) (eI x.1))).Sub (Ty.sl gF (bN fl a (eI x.1))) from Ty.yG tB) ?_
  refine ig (s := 31) rfl (Ty.bI (congrArg (fun l : List Way => ((l.length : Nat) : Int)) (tB (c := eI x.1)))) ?_
  refine aa ?_
  refine cG (fun (j : {j : Nat // j ≤ (bN fl a (eI x.1)).length}) => live [(0, Ty.pp (eG y fl 1000 fl.length)), (1, Ty.int .i64 s), (5, Ty.mp 16), (6, Ty.pm KI.enc (Jp gF) (eo fl a fl.length)), (7, Ty.fj cz 3 4100 (fK fl a s (eI x.1) (kJ x.1) j.1).queue), (8, Ty.int .i64 (eI x.1)), (30, Ty.sl gF (bN fl a (eI x.1))), (31, Ty.int .i64 (bN fl a (eI x.1)).length), (32, Ty.int .i64 (j.1 : Nat))] [(1000, Cont.vec cz 3 a), (16, Cont.mp KI.enc BL (fK fl a s (eI x.1) (kJ x.1) j.1).by_)]) (fun j => (bN fl a (eI x.1)).length - j.1) (⟨0, by omega⟩) ?_ fun j => ?_
  ·(refine cg.mk' ?_ ?_ <;> (repeat' (first | exact aL | exact aK | refine aB ?_ (Ty.aT _) | refine aB ?_ (Ty.aF _) | refine aG rfl (Cont.aF _) ?_ | refine aG rfl ?_ ?_ | refine aB ?_ ?_)))
   all_goals first | exact Mn (congrArg rm.queue (wN (fl := fl) (a := a) (s := s) (c := eI x.1) (z := kJ x.1)).symm) | exact Cont.wv (show x.1.by_ = (fK fl a s (eI x.1) (kJ x.1) 0).by_ by rw [wN]; rfl)
  have hj := j.2
  have hwl := pX (fl := fl) (a := a) (c := eI x.1)
  have hfl := h.q7
  have hff := x.2.fold hN hlen hj
  refine aE (aA (bB rfl rfl rfl (aD (aC (aE ?_)))))
  refine aq rfl (fun hc2 => ?_) (fun hc2 => ?_)
  ·
   refine af (aC (aE (aa (aE (aA ?_)))))
   refine au rfl rfl rfl rfl rfl rfl (by omega) ?_
   refine aX rfl rfl rfl (by exact Nat.le_of_ble_eq_true rfl) ?_
   refine bh rfl (by exact List.cons_ne_nil _ _) rfl ?_
   refine bO rfl rfl (by decide) rfl rfl rfl rfl rfl rfl ?_
   refine aD (aC (aE ?_))
   have hwj := (nJ.1 (cT (xs := bN fl a (eI x.1)) (k := j.1) (by omega))).1
   refine aA (iq rfl ?_)
   refine bP rfl rfl (by decide) rfl rfl (by exact Nat.le_of_ble_eq_true rfl) ?_
   refine eC [1000] (FL y fl a h (nth (bN fl a (eI x.1)) j.1) hwj.1) rfl (aW (lE (aW (bV (bT rfl rfl)) (aW (bV (bT rfl rfl)) (aW (bV (bT rfl rfl)) (aW (bV (bT rfl rfl)) (aW (bV (bT rfl rfl)) (aW (j0 rfl hal (by decide) rfl) cP))))))) (aW (bV (bT rfl rfl)) cP)) (by exact qS (by repeat (first | exact qb | refine ot (by exact dU _ _) ?_))) ?_
   refine tL rfl (bQ rfl rfl (bQ rfl rfl (bu rfl (bu rfl (aD (aC (aE (aA (KE rfl ?_)))))))))
   refine bG rfl ?_
   refine zF KI (k := (nth (bN fl a (eI x.1)) j.1).fin fl) (z0 := (default : Way)) rfl rfl (by decide) rfl (vc _) oS tO pR ?_
   refine tL rfl (bQ rfl rfl (bQ rfl rfl ?_))
   refine bh rfl (by exact List.cons_ne_nil _ _) rfl ?_
   refine bO rfl rfl (by decide) rfl rfl rfl rfl rfl rfl ?_
   refine dK rfl (aD (aC (aE (aA (eY rfl (dr rfl (eY rfl ?_)))))))
   apply aM (s := 50) rfl rfl rfl
   ·intro hg; apply aO; (refine bG rfl ?_); refine aD ?_; exact rfl
   ·exact rfl
   ·exact rfl
   apply aM (s := 50) rfl rfl rfl
   ·intro hg; apply aO; (refine bG rfl ?_); refine aD ?_; exact rfl
   ·exact rfl
   ·exact rfl
   apply aM (s := 50) rfl rfl rfl
   ·intro hg; apply aH (s := 51) rfl (by (rw [hg]; rfl)); apply aH (s := 52) rfl (by (rw [hg]; rfl)); apply aO; (refine bB rfl rfl rfl ?_); refine aD ?_; exact rfl
   ·exact rfl
   ·exact rfl
   refine eA rfl rfl (aD (aC ?_))
   refine cC rfl (fun hc3 => ?_) (fun hc3 => ?_)
   ·
    refine aE (aA (KE rfl (bG rfl ?_)))
    refine bP rfl rfl (by decide) rfl rfl (by exact Nat.le_of_ble_eq_true rfl) ?_
    refine Ch KI (k := (nth (bN fl a (eI x.1)) j.1).fin fl) (v := nth (bN fl a (eI x.1)) j.1) rfl rfl (by decide) rfl (vc _) rfl rfl oS ?_
    refine aD (aC (aA ?_))
    refine eN (rfl : _ = Ty.fj _ _ _ _) ?_
    refine bG rfl ?_
    refine bg (E := cz) (xs := [_]) rfl rfl rfl rfl rfl (by decide) (by decide) (by repeat (first | exact (aV.nil : aV _ _ [] _) | (show aV _ _ ((_, _) :: _) _; apply aV.one; (· exact (rfl : _ = Ty.int _ _)); (· exact rfl)))) (by exact rfl) rfl ?_
    refine Gw rfl rfl (by decide) rfl (by show 0 < 1; decide) rfl rfl rfl rfl rfl (by decide) (by show (_ + 1) * 8 ≤ _; omega) (by show _ + 1 ≤ _; omega) ?_
    refine gX (rfl : _ = Ty.fj _ _ _ _) ?_
    refine aD (bM (aC (aA ?_)))
    refine cB rfl rfl (by omega) (by omega) ?_
    refine bG rfl (aD ?_)
    refine bR (⟨j.1 + 1, by omega⟩) ?_ (by show (bN fl a (eI x.1)).length - (j.1 + 1) < (bN fl a (eI x.1)).length - j.1; omega)
    (refine cg.mk' ?_ ?_ <;> (repeat' (first | exact aL | exact aK | refine aB ?_ (Ty.aT _) | refine aB ?_ (Ty.aF _) | refine aG rfl (Cont.aF _) ?_ | refine aG rfl ?_ ?_ | refine aB ?_ ?_)))
    all_goals skip
    all_goals first | exact Mn (zE (by omega) (by rw [← new_eq]; exact hc3)).2 | exact Cont.wv (zE (by omega) (by rw [← new_eq]; exact hc3)).1
   refine af (bM (aC (aA ?_)))
   refine cB rfl rfl (by omega) (by omega) ?_
   refine bG rfl (aD ?_)
   refine bR (⟨j.1 + 1, by omega⟩) ?_ (by show (bN fl a (eI x.1)).length - (j.1 + 1) < (bN fl a (eI x.1)).length - j.1; omega)
   (refine cg.mk' ?_ ?_ <;> (repeat' (first | exact aL | exact aK | refine aB ?_ (Ty.aT _) | refine aB ?_ (Ty.aF _) | refine aG rfl (Cont.aF _) ?_ | refine aG rfl ?_ ?_ | refine aB ?_ ?_)))
   all_goals skip
   all_goals first | exact Mn (Da (by omega) (by rw [← new_eq]; exact hc3)).2 | exact Cont.wv (Da (by omega) (by rw [← new_eq]; exact hc3)).1
  refine cH (aP (aP (ah rfl (bM ?_))))
  refine bR (⟨fK fl a s (eI x.1) (kJ x.1) (bN fl a (eI x.1)).length, (x.2.next hN hlen).1⟩) ?_ (by exact (x.2.next hN hlen).2)
  (refine cg.mk' ?_ ?_ <;> (repeat' (first | exact aL | exact aK | refine aB ?_ (Ty.aT _) | refine aB ?_ (Ty.aF _) | refine aG rfl (Cont.aF _) ?_ | refine aG rfl ?_ ?_ | refine aB ?_ ?_)))
  all_goals skip
  all_goals first | exact Mn (congrArg (fun n => (fK fl a s (eI x.1) (kJ x.1) n).queue) (show j.1 = _ by have := j.2; omega)) | exact Cont.wv (congrArg (fun n => (fK fl a s (eI x.1) (kJ x.1) n).by_) (show j.1 = _ by have := j.2; omega))
 refine cH (aP (aP (ah rfl (aC (aE ?_)))))
 refine jS (tg := 16) rfl (Cont.wv (x.2.end (by omega))) ?_
 refine aA (KE rfl (Qx rfl (aD (aC (az ?_)))))
 refine jK [1000, 16] rfl rfl (by decide) (by repeat (first | exact gT | refine eP rfl (bt (by decide) rfl) ?_ | refine eP rfl (OH (by decide) rfl) ?_)) ?_
 all_goals skip
 all_goals exact ir (Nt (by decide))
end Go.Proofs.YtelbollidfdcjaaGreat
namespace Go.Proofs.YtelbollidfdcjaaGreat
open Go Go.T
section
variable {fl : List b8} {a : List Int} {n : Nat} {q : List (Int × Way)}
theorem Dx {n k : Nat} (h : k ≤ n) : (List.range n).take k = List.range k := by
 rw [List.take_range, Nat.min_eq_left h]
theorem MY {j : Nat} (hj : j < n) (h : ∀ i, i < j → j8 fl a q i = false) (hc : j8 fl a q j = true) : (j : Int) = ep fl a n q := by
 unfold ep
 refine (iJ (by rw [List.length_range]; exact hj) (fun x hx => ?_) ?_).symm
 ·rw [Dx (by omega)] at hx
  exact h x (List.mem_range.1 hx)
 rw [List.getElem_range]; exact hc
theorem KU {j : Nat} (hj : n ≤ j) (h : ∀ i, i < j → j8 fl a q i = false) : -1 = ep fl a n q := by
 unfold ep
 refine (jE fun x hx => ?_).symm
 exact h x (by have := List.mem_range.1 hx; omega)
theorem Bj {j : Nat} (hj : j < n) : ((fD q (j : Int)).isSome && decide (nth (gm fl a n) j < 0)) = j8 fl a q j := by
 unfold j8; rw [tT hj]
theorem I8 (hl : fl.length ≤ 34) (ha : ∀ i, i < fl.length → 0 ≤ nth a i ∧ nth a i ≤ 300) (c : Int) : -10200 ≤ over fl a c ∧ over fl a c ≤ 10200 := by
 have h := zQ (fl := fl) (a := a) (c := c) (k := fl.length) ha
 have e : pU fl a fl.length c = over fl a c := rfl
 rw [e] at h; omega
theorem yJ (m : Int) (fl : List b8) (a : List Int) : m = fJ fl a m [] := rfl
theorem Lq {s t : Int} {l : List Way} (e : l = iO fl (cR fl a s) s t) : eK a l (fJ fl a (min (over fl a s) (-over fl a t)) l) = lD fl a s t := by subst e; rfl
end
end Go.Proofs.YtelbollidfdcjaaGreat
namespace Go.Proofs.YtelbollidfdcjaaGreat
open Go Go.T
set_option maxHeartbeats 16000000
structure FR (y : aj) (fl : List b8) (a : List Int) : Prop where
  right : y.bw
  net : Net fl (y.cells + 1)
  bd : Bd fl
  inb : iT fl = true → yw fl a
  q7 : fl.length ≤ 34
section
variable {y : aj} {fl : List b8} {a : List Int} {n : Nat}
theorem A5 (h : (!fl.all fun f => decide (f.lo ≤ f.hi)) = true) : iT fl = false := nK h
theorem oE (h : (!fl.all fun f => decide (f.lo ≤ f.hi)) = false) : iT fl = true := eZ h
theorem O1 (h : iT fl = false) : 0 = (cQ fl n a).1 ∧ true = (cQ fl n a).2.1 ∧ a = (cQ fl n a).2.2 := by rw [y9 h]; exact ⟨rfl, rfl, rfl⟩
theorem OV {b : List Int} (h : iT fl = true) (hx : IT fl n a b) (e : dj fl b n < 0) : 0 = (cQ fl n a).1 ∧ false = (cQ fl n a).2.1 ∧ b = (cQ fl n a).2.2 := by rw [oY h, hx.done e]; exact ⟨rfl, rfl, rfl⟩
theorem PY {b : List Int} (h : iT fl = true) (hx : IT fl n a b) (e : ¬ dj fl b n < 0) (e2 : ep fl b n (cR fl b (dj fl b n)) < 0) : dj fl b n = (cQ fl n a).1 ∧ true = (cQ fl n a).2.1 ∧ b = (cQ fl n a).2.2 := by rw [oY h, hx.stuck e e2]; exact ⟨rfl, rfl, rfl⟩
theorem Q3 (h : yw fl a) : IT fl n a a := ⟨h, rfl⟩
theorem NB {x z : Int} (h1 : 0 < x) (h2 : z < 0) : 0 < min x (-z) := by omega
theorem has_eq : fidx (fun v : Int => decide (v > 0)) (gm fl a n) = dj fl a n := rfl
theorem Lc (m x : Int) : gG m [x] = min m x := rfl
theorem yI {m : Int} {l : List Way} {w : Way} : gG (fJ fl a m l) [w.room fl a] = fJ fl a m (l ++ [w]) := (Lc _ _).trans (rV m l).symm
theorem FA {k : Int} (h : 0 ≤ k ∧ k < n) : nth (gm fl a n) k.toNat = over fl a k := by rw [tT (by omega)]; congr 1; omega
theorem K3 {x : Int} (h : -20000 ≤ x ∧ x ≤ 20000) : IntKind.i64.wrap (0 - x) = -x := by rw [show (0 : Int) - x = -x by omega]; exact IntWalk.i64_in _ (by omega)
end
attribute [local irreducible] aQ fY Way.g6 Way.fin Way.room eo eK fG gm over bN cR dj ep j8 fJ iO lD cQ fX gG
attribute [local irreducible] gP e9 mA oA iG iE iK g9 iL oc iA oM dV fo n6 gC oW nth fS dY ay dP bodyPost Exit.then Exit.inBlock Code.wp Code.wpIn n7 hU oX oR iB eW cM cN bodyPostM dX
set_option maxRecDepth 100000 in
theorem LX (f : b8) : dP Tryz.prog 177 [Ty.agg (dS.tys f)] (Ty.bool (decide (f.lo ≤ f.hi))) := by
 refine ak Tryz.func177 rfl (by decide) Tryz.ntmps177 (by exact Nat.le_of_ble_eq_true rfl) fun w0 M0 => ?_
 refine aE (aA (bF rfl (dK rfl (aD (aC (aE (aA ?_)))))))
 refine aI rfl rfl rfl rfl rfl (by decide) ?_
 refine aJ rfl rfl rfl rfl ?_
 refine aI rfl rfl rfl rfl rfl (by decide) ?_
 refine aJ rfl rfl rfl rfl (bB rfl rfl rfl (dK rfl (aD (aC (az (bU rfl rfl ?_))))))
 all_goals exact cE rfl rfl
set_option maxRecDepth 100000 in
theorem Ke (v : Int) : dP Tryz.prog 179 [Ty.int .i64 v] (Ty.bool (decide (v > 0))) := by
 refine ak Tryz.func179 rfl (by decide) Tryz.ntmps179 (by exact Nat.le_of_ble_eq_true rfl) fun w0 M0 => ?_
 refine aE (aA (dK rfl (aD (aC (aE (aA (bG rfl (bB rfl rfl rfl (dK rfl ?_)))))))))
 refine aD (aC (az (bU rfl rfl ?_)))
 all_goals exact cE rfl rfl
set_option maxRecDepth 100000 in
theorem Mq (y : aj) (fl : List b8) (a : List Int) (h : FR y fl a) : eW Tryz.prog 129 [1000] [(1000, Cont.vec cz 3 a)] [Ty.pp (eG y fl 1000 fl.length)] [(1000, Cont.vec cz 3 (cQ fl (y.cells + 1) a).2.2)] (Ty.lN [Ty.int .i64 (cQ fl (y.cells + 1) a).1, Ty.bool (cQ fl (y.cells + 1) a).2.1]) := by
 refine fV Tryz.func129 rfl (by decide) Tryz.ntmps129 (by exact Nat.le_of_ble_eq_true rfl) fun w0 M0 => ?_
 have hcl := ny h.right
 have hfl := h.q7
 have hN := h.net
 refine aE (aA (bu rfl (dK rfl (aD (aC (aE (aE (aA (iq rfl ?_)))))))))
 refine bW rfl ?_
 refine aI rfl rfl rfl rfl rfl (by decide) ?_
 refine aJ rfl rfl rfl rfl ?_
 refine aZ (Ck fl (Ty.kT _ []) rfl (fun f => decide (f.lo ≤ f.hi)) rfl rfl fun f _ => dn (LX f) rfl rfl rfl rfl rfl rfl) rfl rfl rfl rfl rfl ?_
 refine dr rfl (aD (aC ?_))
 refine cC rfl (fun hc1 => ?_) (fun hc1 => ?_)
 ·
  refine aE (aA (bu rfl (dK rfl (aD (aC (az (aS ?_)))))))
  refine An [1000] rfl rfl rfl (by decide) ?_ ?_ ?_
  ·exact eP rfl (bt (by decide) (O1 (A5 hc1)).2.2) gT
  all_goals skip
  all_goals first | exact ir (pQ rfl rfl (congrArg (Ty.int .i64) (O1 (A5 hc1)).1)) | exact ir (pQ rfl rfl (congrArg Ty.bool (O1 (A5 hc1)).2.1))
 refine af (aC (aa ?_))
 refine cG (fun (x : {b : List Int // IT fl (y.cells + 1) a b}) => live [(0, Ty.pp (eG y fl 1000 fl.length))] [(1000, Cont.vec cz 3 x.1)]) (fun x => Qq fl (y.cells + 1) x.1) (⟨a, Q3 (h.inb (oE hc1))⟩) ?_ fun x => ?_
 ·(refine cg.mk' ?_ ?_ <;> (repeat' (first | exact aL | exact aK | refine aB ?_ (Ty.aT _) | refine aB ?_ (Ty.aF _) | refine aG rfl (Cont.aF _) ?_)))
 have hF : mO y fl x.1 := ⟨h.right, h.net, h.bd, x.2.inb, h.q7⟩
 have hal := hF.inb.1
 have hov := I8 h.q7 fun i hi => (hF.PX hi).1
 have hol : (gm fl x.1 (y.cells + 1)).length = (y.cells + 1) := zh
 refine aa (aE (aA (iq rfl ?_)))
 refine dM [(1000, 1000)] [] [(1000, Cont.vec cz 3 x.1)] (PE y fl x.1 hF) rfl rfl (aN bf (fB (aN (aN (aN (aN (aN (aN bf (dZ (by exact List.mem_cons_self))) (aU rfl rfl)) (aU rfl rfl)) (aU rfl rfl)) (aU rfl rfl)) (aU rfl rfl)))) (dD (a := 1000) (b := 1000) (by exact List.mem_cons_self) rfl (bt (by exact List.mem_cons_self) rfl) pre_nil) (bp (a := 1000) (b := 1000) (by decide) rfl (bt (by decide) rfl) post_nil) (aU rfl rfl) ?_
 refine Bh rfl (aD (aC (aE (aA (fT rfl ?_)))))
 refine aZ (vZ (gm fl x.1 (y.cells + 1)) (Ty.kT _ []) rfl (fun v => decide (v > 0)) rfl rfl fun v _ => dn (Ke v) rfl rfl rfl rfl rfl rfl) rfl rfl rfl rfl rfl ?_
 refine bu rfl (aD (aC (aE (aE ?_))))
 refine ig (s := 5) rfl (Ty.bI (has_eq (fl := fl) (a := x.1) (n := (y.cells + 1)))) ?_
 refine aA (bG rfl (bB rfl rfl rfl (aD (aC ?_))))
 refine aq rfl (fun hc2 => ?_) (fun hc2 => ?_)
 ·
  refine aE (aA (bu rfl (dK rfl (aD (aC (az (aS (bC (aS ?_)))))))))
  refine bC ?_
  refine An [1000] rfl rfl rfl (by decide) ?_ ?_ ?_
  ·exact eP rfl (bt (by decide) (OV (oE hc1) x.2 hc2).2.2) gT
  all_goals skip
  all_goals first | exact ir (pQ rfl rfl (congrArg (Ty.int .i64) (OV (oE hc1) x.2 hc2).1)) | exact ir (pQ rfl rfl (congrArg Ty.bool (OV (oE hc1) x.2 hc2).2.1))
 refine af (aC (aE ?_))
 obtain ⟨s, s1, s2, s3⟩ := xX hc2
 have hs : 0 ≤ (dj fl x.1 (y.cells + 1)) ∧ (dj fl x.1 (y.cells + 1)) < ((y.cells + 1) : Nat) := by omega
 refine aA (iq rfl (bG rfl ?_))
 refine dM (res' := Ty.mp 32) [(1000, 1000), (32, 16)] [32] [(1000, Cont.vec cz 3 x.1), (32, Cont.mp KI.enc BL (cR fl x.1 (dj fl x.1 (y.cells + 1))))] (NV y fl x.1 hF (dj fl x.1 (y.cells + 1)) hs) rfl rfl (aN (aN bf (aU rfl rfl)) (fB (aN (aN (aN (aN (aN (aN bf (dZ (by exact List.mem_cons_self))) (aU rfl rfl)) (aU rfl rfl)) (aU rfl rfl)) (aU rfl rfl)) (aU rfl rfl)))) (dD (a := 1000) (b := 1000) (by exact List.mem_cons_self) rfl (bt (by exact List.mem_cons_self) rfl) pre_nil) (bp (a := 1000) (b := 1000) (by decide) rfl (bt (by decide) rfl) (bp (a := 32) (b := 16) (by decide) rfl (OH (by decide) rfl) post_nil)) (Nt (by decide)) ?_
 refine Qx rfl (aD (aC (aE (aA (bu rfl (aD (aC ?_)))))))
 refine kV (J := live [(0, Ty.pp (eG y fl 1000 fl.length)), (4, Ty.sl cz (gm fl x.1 (y.cells + 1))), (5, Ty.int .i64 (dj fl x.1 (y.cells + 1))), (6, Ty.mp 32), (7, Ty.int .i64 (ep fl x.1 (y.cells + 1) (cR fl x.1 (dj fl x.1 (y.cells + 1)))))] [(1000, Cont.vec cz 3 x.1), (32, Cont.mp KI.enc BL (cR fl x.1 (dj fl x.1 (y.cells + 1))))]) ?_ ?_
 ·
  refine aE (aA (fT rfl (b9 rfl rfl rfl (bG rfl (aD (aC (aa ?_)))))))
  refine cG (fun (j : {j : Nat // j ≤ (y.cells + 1) ∧ ∀ i, i < j → j8 fl x.1 (cR fl x.1 (dj fl x.1 (y.cells + 1))) i = false}) => live [(0, Ty.pp (eG y fl 1000 fl.length)), (4, Ty.sl cz (gm fl x.1 (y.cells + 1))), (5, Ty.int .i64 (dj fl x.1 (y.cells + 1))), (6, Ty.mp 32), (7, Ty.int .i64 (-1)), (32, Ty.sl cz (gm fl x.1 (y.cells + 1))), (33, Ty.int .i64 (gm fl x.1 (y.cells + 1)).length), (34, Ty.int .i64 (j.1 : Nat))] [(1000, Cont.vec cz 3 x.1), (32, Cont.mp KI.enc BL (cR fl x.1 (dj fl x.1 (y.cells + 1))))]) (fun j => (y.cells + 1) - j.1) (⟨0, Nat.zero_le _, fun i hi => absurd hi (Nat.not_lt_zero i)⟩) ?_ fun j => ?_
  ·(refine cg.mk' ?_ ?_ <;> (repeat' (first | exact aL | exact aK | refine aB ?_ (Ty.aT _) | refine aB ?_ (Ty.aF _) | refine aG rfl (Cont.aF _) ?_)))
  have hj := j.2.1
  refine aE (aA (bB rfl rfl rfl (aD (aC (aE ?_)))))
  refine aq rfl (fun hc3 => ?_) (fun hc3 => ?_)
  ·
   refine af (aC (aE (aa (aE (aA (bG rfl ?_))))))
   refine au rfl rfl rfl rfl rfl rfl (by omega) ?_
   refine aJ rfl rfl rfl rfl (bu rfl (bu rfl (aD (aC (aE (aA (KE rfl (bG rfl ?_))))))))
   refine zF KI (k := ((j.1 : Nat) : Int)) (z0 := (default : Way)) rfl rfl (by decide) rfl (vc _) oS tO pR ?_
   refine tL rfl (bQ rfl rfl (bQ rfl rfl ?_))
   refine bh rfl (by exact List.cons_ne_nil _ _) rfl ?_
   refine bO rfl rfl (by decide) rfl rfl rfl rfl rfl rfl ?_
   refine dK rfl (aD (aC (aE (aA (eY rfl (eY rfl ?_))))))
   apply aM (s := 46) rfl rfl rfl
   ·intro hg; apply aO; (refine bG rfl ?_); refine aD ?_; exact rfl
   ·exact rfl
   ·exact rfl
   apply aM (s := 46) rfl rfl rfl
   ·intro hg; apply aH (s := 47) rfl (by (rw [hg]; rfl)); apply aO; (refine bB rfl rfl rfl ?_); refine aD ?_; exact rfl
   ·exact rfl
   ·exact rfl
   refine eA rfl rfl (aD (aC ?_))
   refine cC rfl (fun hc4 => ?_) (fun hc4 => ?_)
   ·
    refine aE (aA (bG rfl (bu rfl (aD (aC (cH (gU rfl (aP (aP ?_)))))))))
    refine ah rfl (eT ?_)
    (refine cg.mk' ?_ ?_ <;> (repeat' (first | exact aL | exact aK | refine aB ?_ (Ty.aT _) | refine aB ?_ (Ty.aF _) | refine aG rfl (Cont.aF _) ?_ | refine aB ?_ ?_)))
    all_goals exact Ty.bI (MY (by omega) j.2.2 (by rw [← Bj (n := (y.cells + 1)) (by omega)]; exact hc4))
   refine af (bM (aC (aA ?_)))
   refine cB rfl rfl (by omega) (by omega) ?_
   refine bG rfl (aD ?_)
   refine bR (⟨j.1 + 1, by omega, fun i hi => by by_cases e : i = j.1; (subst e; rw [← Bj (n := (y.cells + 1)) (by omega)]; exact hc4); exact j.2.2 i (by omega)⟩) ?_ (by show (y.cells + 1) - (j.1 + 1) < (y.cells + 1) - j.1; omega)
   (refine cg.mk' ?_ ?_ <;> (repeat' (first | exact aL | exact aK | refine aB ?_ (Ty.aT _) | refine aB ?_ (Ty.aF _) | refine aG rfl (Cont.aF _) ?_)))
   all_goals skip
  refine cH (aP (aP (ah rfl (eT ?_))))
  (refine cg.mk' ?_ ?_ <;> (repeat' (first | exact aL | exact aK | refine aB ?_ (Ty.aT _) | refine aB ?_ (Ty.aF _) | refine aG rfl (Cont.aF _) ?_ | refine aB ?_ ?_)))
  all_goals exact Ty.bI (KU (by omega) j.2.2)
 refine aE (aE (aA (bG rfl (bB rfl rfl rfl (aD (aC ?_))))))
 refine aq rfl (fun hc5 => ?_) (fun hc5 => ?_)
 ·
  refine aE (aA (bG rfl (bu rfl (dK rfl (aD (aC (az (aS (bC ?_)))))))))
  refine aS (bC ?_)
  refine An [1000] rfl rfl rfl (by decide) ?_ ?_ ?_
  ·exact eP rfl (bt (by decide) (PY (oE hc1) x.2 hc2 hc5).2.2) gT
  all_goals skip
  all_goals first | exact ir (pQ rfl rfl (congrArg (Ty.int .i64) (PY (oE hc1) x.2 hc2 hc5).1)) | exact ir (pQ rfl rfl (congrArg Ty.bool (PY (oE hc1) x.2 hc2 hc5).2.1))
 refine af (aC (aE ?_))
 obtain ⟨t, t1, t2, t3, t4⟩ := uE hc5
 have hnx := x.2.next hN hc2 hc5
 have hR := oJ (a := x.1) hN hs
 obtain ⟨dep, d0, hd⟩ := hR.arc
 have hmet : xK (cR fl x.1 (dj fl x.1 (y.cells + 1))) (dj fl x.1 (y.cells + 1)) (ep fl x.1 (y.cells + 1) (cR fl x.1 (dj fl x.1 (y.cells + 1)))) := by rw [t2]; obtain ⟨v, hv⟩ := Option.isSome_iff_exists.1 t3; exact .inr (nH hv)
 have ht : 0 ≤ (ep fl x.1 (y.cells + 1) (cR fl x.1 (dj fl x.1 (y.cells + 1)))) ∧ (ep fl x.1 (y.cells + 1) (cR fl x.1 (dj fl x.1 (y.cells + 1)))) < ((y.cells + 1) : Nat) := by omega
 have ho1 := hov (dj fl x.1 (y.cells + 1))
 have ho2 := hov (ep fl x.1 (y.cells + 1) (cR fl x.1 (dj fl x.1 (y.cells + 1))))
 have hdq : dep (ep fl x.1 (y.cells + 1) (cR fl x.1 (dj fl x.1 (y.cells + 1)))) ≤ 21 := by
  obtain ⟨v, hv⟩ := Option.isSome_iff_exists.1 t3
  have h1 := (hd _ _ hv).2.2.2.2
  have h2 := hR.q7
  rw [t2]; omega
 refine aA (mB rfl (aD (aC (aE ?_))))
 have hoa := FA (fl := fl) (a := x.1) (n := (y.cells + 1)) hs
 have hob := FA (fl := fl) (a := x.1) (n := (y.cells + 1)) ht
 refine cL mixed rfl (fT rfl (bG rfl ?_))
 refine gQ rfl rfl rfl rfl rfl rfl (by omega) (by omega) ?_
 refine aJ rfl rfl rfl rfl (fT rfl (bG rfl ?_))
 refine gQ rfl rfl rfl rfl rfl rfl (by omega) (by omega) ?_
 refine aJ rfl rfl rfl rfl (Qv rfl ?_)
 refine bg (E := cz) (xs := [_]) rfl rfl rfl rfl rfl (by decide) (by decide) (by repeat (first | exact (aV.nil : aV _ _ [] _) | (show aV _ _ ((_, _) :: _) _; apply aV.one; (· exact (rfl : _ = Ty.int _ _)); (· exact rfl)))) (by exact rfl) rfl ?_
 refine aZ (sK _ _) rfl rfl rfl rfl rfl (bu rfl (aD ?_))
 refine ⟨by kernel_rfl, ?_⟩
 refine aC (aE (aE ?_))
 refine ig (s := 13) rfl (Ty.bI (by rw [hoa, hob, K3 (by omega), Lc] : _ = (min (over fl x.1 (dj fl x.1 (y.cells + 1))) (-over fl x.1 (ep fl x.1 (y.cells + 1) (cR fl x.1 (dj fl x.1 (y.cells + 1)))))))) ?_
 refine aA (bG rfl (bu rfl (aD (aC (aa ?_)))))
 refine cG (fun (p : {p : Int × List Way // NO fl x.1 (cR fl x.1 (dj fl x.1 (y.cells + 1))) (dj fl x.1 (y.cells + 1)) (ep fl x.1 (y.cells + 1) (cR fl x.1 (dj fl x.1 (y.cells + 1)))) dep p}) => live [(0, Ty.pp (eG y fl 1000 fl.length)), (5, Ty.int .i64 (dj fl x.1 (y.cells + 1))), (6, Ty.mp 32), (12, Ty.row gF 199 81 p.1.2), (13, Ty.int .i64 (fJ fl x.1 (min (over fl x.1 (dj fl x.1 (y.cells + 1))) (-over fl x.1 (ep fl x.1 (y.cells + 1) (cR fl x.1 (dj fl x.1 (y.cells + 1)))))) p.1.2)), (14, Ty.int .i64 p.1.1)] [(1000, Cont.vec cz 3 x.1), (32, Cont.mp KI.enc BL (cR fl x.1 (dj fl x.1 (y.cells + 1))))]) (fun p => dep p.1.1) (⟨((ep fl x.1 (y.cells + 1) (cR fl x.1 (dj fl x.1 (y.cells + 1)))), []), RE hmet⟩) ?_ fun p => ?_
 ·(refine cg.mk' ?_ ?_ <;> (repeat' (first | exact aL | exact aK | refine aB ?_ (Ty.aT _) | refine aB ?_ (Ty.aF _) | refine aB ?_ Ty.iF | refine aG rfl (Cont.aF _) ?_ | refine aB ?_ ?_)))
  all_goals exact Ty.bI (yJ _ _ _)
 have hpf := p.2.q7
 refine aE (aE (aA (bG rfl (bG rfl (bB rfl rfl rfl (aD (aC ?_)))))))
 refine dJ rfl (fun hc6 => ?_) (fun hc6 => ?_)
 ·
  refine af (aC (aE (aa (aE ?_))))
  have hpx := p.2.next hd hc6
  have hpo := hpx.2.2
  refine aA (G8 rfl (KE rfl (bG rfl ?_)))
  refine xW KI (k := p.1.1) (z0 := (default : Way)) rfl rfl (by decide) rfl (vc _) oS tO pR ?_
  refine bg (E := gF) (xs := [kI (cR fl x.1 (dj fl x.1 (y.cells + 1))) p.1.1]) rfl rfl rfl rfl rfl (by decide) (by decide) (by repeat (first | exact (aV.nil : aV _ _ [] _) | (show aV _ _ ((_, _) :: _) _; apply aV.agg; (· exact (rfl : _ = Ty.agg _))))) (by exact rfl) rfl ?_
  refine dy rfl rfl (by decide) rfl rfl rfl rfl rfl rfl (by decide) (by (simp <;> omega)) (by (simp <;> omega)) ?_
  refine A2 rfl (aD (aC (aE (aA (iq rfl (KE rfl (bG rfl ?_)))))))
  refine xW KI (k := p.1.1) (z0 := (default : Way)) rfl rfl (by decide) rfl (vc _) oS tO pR ?_
  refine eC [1000] (FL y fl x.1 hF (kI (cR fl x.1 (dj fl x.1 (y.cells + 1))) p.1.1) hpo.1) rfl (aW (lE (aW (bV (bT rfl rfl)) (aW (bV (bT rfl rfl)) (aW (bV (bT rfl rfl)) (aW (bV (bT rfl rfl)) (aW (bV (bT rfl rfl)) (aW (j0 rfl hal (by decide) rfl) cP))))))) (aW (bV (bT rfl rfl)) cP)) (by exact qS (by repeat (first | exact qb | refine ot (by exact dU _ _) ?_))) ?_
  refine tL rfl (bQ rfl rfl (bQ rfl rfl (bu rfl (bu rfl (aD (aC (aA (bG rfl (bG rfl ?_)))))))))
  refine bg (E := cz) (xs := [_]) rfl rfl rfl rfl rfl (by decide) (by decide) (by repeat (first | exact (aV.nil : aV _ _ [] _) | (show aV _ _ ((_, _) :: _) _; apply aV.one; (· exact (rfl : _ = Ty.int _ _)); (· exact rfl)))) (by exact rfl) rfl ?_
  refine aZ (sK _ _) rfl rfl rfl rfl rfl (bu rfl (aD (bM (aC (aA (iq rfl (KE rfl (bG rfl ?_))))))))
  refine xW KI (k := p.1.1) (z0 := (default : Way)) rfl rfl (by decide) rfl (vc _) oS tO pR ?_
  refine eC [1000] (Ag y fl x.1 (kI (cR fl x.1 (dj fl x.1 (y.cells + 1))) p.1.1) hpo.1) rfl (aW (lE (aW (bV (bT rfl rfl)) (aW (bV (bT rfl rfl)) (aW (bV (bT rfl rfl)) (aW (bV (bT rfl rfl)) (aW (bV (bT rfl rfl)) (aW (j0 rfl hal (by decide) rfl) cP))))))) (aW (bV (bT rfl rfl)) cP)) (by exact dU _ _) ?_
  refine bu rfl (aD ?_)
  refine bR (⟨((kI (cR fl x.1 (dj fl x.1 (y.cells + 1))) p.1.1).g6 fl, p.1.2 ++ [kI (cR fl x.1 (dj fl x.1 (y.cells + 1))) p.1.1]), (p.2.next hd hc6).1⟩) ?_ (by exact (p.2.next hd hc6).2.1)
  (refine cg.mk' ?_ ?_ <;> (repeat' (first | exact aL | exact aK | refine aB ?_ (Ty.aT _) | refine aB ?_ (Ty.aF _) | refine aG rfl (Cont.aF _) ?_ | refine aB ?_ ?_)))
  all_goals skip
  all_goals exact Ty.bI yI
 refine cH (aP (aP (ah rfl (aC ?_))))
 have hmp := qy (fl := fl) (a := x.1) (m := (min (over fl x.1 (dj fl x.1 (y.cells + 1))) (-over fl x.1 (ep fl x.1 (y.cells + 1) (cR fl x.1 (dj fl x.1 (y.cells + 1))))))) (NB (by rw [s2]; exact s3) (by rw [t2]; exact t4)) p.1.2 p.2.inv.ways
 have hml := (sX (fl := fl) (a := x.1) (min (over fl x.1 (dj fl x.1 (y.cells + 1))) (-over fl x.1 (ep fl x.1 (y.cells + 1) (cR fl x.1 (dj fl x.1 (y.cells + 1)))))) p.1.2).1
 refine kD (tg := 81) [(12, Ty.sl gF p.1.2)] (by decide) rfl ⟨vp rfl, trivial⟩ ?_
 refine aA (iq rfl (fT rfl (bG rfl ?_)))
 refine dM [(1000, 1000)] [] [(1000, Cont.vec cz 3 (eK x.1 p.1.2 (fJ fl x.1 (min (over fl x.1 (dj fl x.1 (y.cells + 1))) (-over fl x.1 (ep fl x.1 (y.cells + 1) (cR fl x.1 (dj fl x.1 (y.cells + 1)))))) p.1.2)))] (JO y fl x.1 hF p.1.2 (by omega) (fun w hw => (p.2.inv.ways w hw).1) (fJ fl x.1 (min (over fl x.1 (dj fl x.1 (y.cells + 1))) (-over fl x.1 (ep fl x.1 (y.cells + 1) (cR fl x.1 (dj fl x.1 (y.cells + 1)))))) p.1.2) (by omega)) rfl rfl (aN (aN (aN bf (aU rfl rfl)) (aU rfl rfl)) (fB (aN (aN (aN (aN (aN (aN bf (dZ (by exact List.mem_cons_self))) (aU rfl rfl)) (aU rfl rfl)) (aU rfl rfl)) (aU rfl rfl)) (aU rfl rfl)))) (dD (a := 1000) (b := 1000) (by exact List.mem_cons_self) rfl (bt (by exact List.mem_cons_self) rfl) pre_nil) (bp (a := 1000) (b := 1000) (by decide) rfl (bt (by decide) rfl) post_nil) (aU rfl rfl) ?_
 refine aD (bM ?_)
 refine bR (⟨lD fl x.1 (dj fl x.1 (y.cells + 1)) (ep fl x.1 (y.cells + 1) (cR fl x.1 (dj fl x.1 (y.cells + 1)))), hnx.1⟩) ?_ (by exact hnx.2.less)
 (refine cg.mk' ?_ ?_ <;> (repeat' (first | exact aL | exact aK | refine aB ?_ (Ty.aT _) | refine aB ?_ (Ty.aF _) | refine aG rfl ?_ ?_)))
 all_goals skip
 all_goals exact Cont.cy (Lq (p.2.end hc6))
end Go.Proofs.YtelbollidfdcjaaGreat
namespace Go.Proofs.YtelbollidfdcjaaGreat
open Go Go.T
section
variable {fl : List b8} {a : List Int} {n : Nat} {G : Nat → Int} {x : NF}
structure sF (fl : List b8) (a : List Int) (n : Nat) (G : Nat → Int) (x : NF) : Prop where
  inv : mT fl a n G x
  same : nj (mh fl a n G) x = jL fl a n G
theorem RT (hn : 0 < n) : sF fl a n G ⟨0, 0, 0, OL n⟩ := ⟨N0 hn, rfl⟩
theorem sF.r (h : sF fl a n G x) : ¬ n ≤ x.r := by have := h.inv.r; omega
theorem sF.round (h : sF fl a n G x) (hc : n ≤ x.c) (ha : ¬ x.st.at_ < 0) : sF fl a n G ⟨x.r + 1, 0, 0, ⟨x.st.worth, x.st.by_, -1⟩⟩ :=
 ⟨h.inv.round hc (fun e => ha (by rw [h.inv.last e]; decide)), by rw [← iS (vJ h.r hc ha)]; exact h.same⟩
theorem sF.stop (h : sF fl a n G x) (hc : n ≤ x.c) (ha : x.st.at_ < 0) : cO fl a n G = [] := by
 refine vI ?_
 rw [← h.same]; exact jF (xw h.r hc ha)
theorem sF.cell (h : sF fl a n G x) (hc : ¬ n ≤ x.c) (hj : (bN fl a x.c).length ≤ x.j) : sF fl a n G ⟨x.r, x.c + 1, 0, x.st⟩ :=
 ⟨h.inv.cell hc hj, by rw [← iS (xC h.r hc hj)]; exact h.same⟩
theorem sF.no (h : sF fl a n G x) (hc : ¬ n ≤ x.c) (hj : ¬ (bN fl a x.c).length ≤ x.j) (hg : lW fl G x.st x.c (nth (bN fl a x.c) x.j) = false) : sF fl a n G ⟨x.r, x.c, x.j + 1, x.st⟩ :=
 ⟨h.inv.no hc hj hg, by rw [← iS (Bx h.r hc hj hg)]; exact h.same⟩
theorem sF.yes (hN : Net fl n) (hG : ∀ i, -1 ≤ G i ∧ G i ≤ 1) (h : sF fl a n G x) (hc : ¬ n ≤ x.c) (hj : ¬ (bN fl a x.c).length ≤ x.j) (hg : lW fl G x.st x.c (nth (bN fl a x.c) x.j) = true) (hr : ¬ x.r + 1 = n) : sF fl a n G ⟨x.r, x.c, x.j + 1, mU fl G x.st x.c (nth (bN fl a x.c) x.j)⟩ :=
 ⟨h.inv.yes hN hG hc hj hg hr, by rw [← iS (zR h.r hc hj hg hr)]; exact h.same⟩
structure Found (fl : List b8) (a : List Int) (n : Nat) (G : Nat → Int) (st : sG) (v : Nat) : Prop where
  found : ∃ R T τ, Gh fl a n G (n - 1) st R T τ ∧ v < n ∧ R v = n
  at_ : st.at_ = v
  same : cO fl a n G = qH fl st (fk (cJ fl st) n v)
  len : st.by_.length = n
theorem sF.last (hN : Net fl n) (hG : ∀ i, -1 ≤ G i ∧ G i ≤ 1) (h : sF fl a n G x) (hc : ¬ n ≤ x.c) (hj : ¬ (bN fl a x.c).length ≤ x.j) (hg : lW fl G x.st x.c (nth (bN fl a x.c) x.j) = true) (hr : x.r + 1 = n) :
    ∃ v : Nat, Found fl a n G (mU fl G x.st x.c (nth (bN fl a x.c) x.j)) v := by
  have h1 := h.inv.found hN hG hc hj hg hr
  have h2 : jL fl a n G = some (mU fl G x.st x.c (nth (bN fl a x.c) x.j)) := by
    rw [← h.same]; exact jF (x9 h.r hc hj hg hr)
  cases h1 with
  | some _ R T τ v h3 hv e hR =>
    refine ⟨v, ⟨R, T, τ, h3, hv, hR⟩, e, ?_, h3.len.2⟩
    rw [uf h2, e, Int.toNat_natCast]
theorem mT.small (h : mT fl a n G x) (hn : n ≤ 21) (hl : fl.length ≤ 34) : x.st.worth.length = n ∧ x.st.by_.length = n ∧ ∀ v, v < n → 0 ≤ nth x.st.worth v ∧ nth x.st.worth v ≤ 40000 := by
 obtain ⟨R, T, τ, h1, h2, _⟩ := h.gh
 refine ⟨h1.len.1, h1.len.2, fun v hv => ?_⟩
 have h3 := h1.le v hv
 have h4 := h.r
 have h5 := h.c
 have h6 := h.j.1
 have e1 : x.r * (n * (2 * fl.length)) ≤ 21 * (21 * 68) := Nat.mul_le_mul (by omega) (Nat.mul_le_mul hn (by omega))
 have e2 : x.c * (2 * fl.length) ≤ 21 * 68 := Nat.mul_le_mul (by omega) (by omega)
 omega
variable {st : sG} {v s p : Nat}
theorem Found.chain (hN : Net fl n) (h : Found fl a n G st v) {k : Nat} (hk : k < n) : fk (cJ fl st) k v < n ∧ Open fl a (nth st.by_ (fk (cJ fl st) k v)) ∧ (nth st.by_ (fk (cJ fl st) k v)).g6 fl = (fk (cJ fl st) (k + 1) v : Nat) := by
 obtain ⟨R, T, τ, h1, h2, h3⟩ := h.found
 obtain ⟨a1, a2⟩ := Ab hN h1 h2 h3 k (by omega)
 obtain ⟨b1, _⟩ := h1.way _ a1 (by omega)
 refine ⟨a1, b1, ?_⟩
 have := (hN.way b1.1).1
 show _ = ((((nth st.by_ (fk (cJ fl st) k v)).g6 fl).toNat : Nat) : Int)
 omega
structure OG (fl : List b8) (a : List Int) (n : Nat) (st : sG) (s p : Nat) (x : Nat × List Way) : Prop where
  at_ : x.1 < n ∧ Open fl a (nth st.by_ x.1) ∧ (nth st.by_ x.1).g6 fl = (cJ fl st x.1 : Nat)
  ix : ∃ i, i ≤ p ∧ x.1 = fk (cJ fl st) i s ∧ x.2.length = i
  same : nj (DP fl st s) x = qH fl st s
theorem Pa.g6 {T : Nat → Nat} (hN : Net fl n) (h : Pa fl a n G st T s) (t : Nat) : fk (cJ fl st) t s < n ∧ Open fl a (nth st.by_ (fk (cJ fl st) t s)) ∧ (nth st.by_ (fk (cJ fl st) t s)).g6 fl = (cJ fl st (fk (cJ fl st) t s) : Nat) := by
 refine ⟨h.at_ t, (h.way t).1, ?_⟩
 have := (hN.way (h.way t).1.1).1
 show _ = ((((nth st.by_ (fk (cJ fl st) t s)).g6 fl).toNat : Nat) : Int)
 omega
theorem Ep {x : Nat × List Way} (h : ¬ (¬ x.2 = [] ∧ x.1 = s)) : DP fl st s x = .inl (cJ fl st x.1, x.2 ++ [nth st.by_ x.1]) := if_neg h
theorem Dt {x : Nat × List Way} (h : ¬ x.2 = [] ∧ x.1 = s) : DP fl st s x = .inr x.2 := if_pos h
theorem OG.next {T : Nat → Nat} (hN : Net fl n) (hC : Pa fl a n G st T s) (hp : fk (cJ fl st) p s = s) (hp1 : 1 ≤ p) {x : Nat × List Way} (h : OG fl a n st s p x) (hc : ¬ (¬ x.2 = [] ∧ x.1 = s)) :
 OG fl a n st s p (cJ fl st x.1, x.2 ++ [nth st.by_ x.1]) ∧ x.2.length < p := by
 obtain ⟨i, h1, h2, h3⟩ := h.ix
 have hi : i < p := by
  by_cases e : i = p
  ·exfalso; apply hc
   subst e
   exact ⟨fun e => by rw [e] at h3; simp at h3; omega, h2.trans hp⟩
  omega
 have e : cJ fl st x.1 = fk (cJ fl st) (i + 1) s := by rw [h2]; rfl
 refine ⟨⟨?_, ⟨i + 1, hi, e, by rw [List.length_append, h3]; rfl⟩, ?_⟩, by omega⟩
 ·show cJ fl st x.1 < n ∧ Open fl a (nth st.by_ (cJ fl st x.1)) ∧ _ = ((cJ fl st (cJ fl st x.1) : Nat) : Int)
  rw [e]; exact hC.g6 hN (i + 1)
 rw [← iS (Ep hc)]; exact h.same
theorem OG.end {x : Nat × List Way} (h : OG fl a n st s p x) (hc : ¬ x.2 = [] ∧ x.1 = s) : x.2 = qH fl st s := by
 rw [← h.same]; exact (jF (Dt hc)).symm
theorem Found.Rn (hN : Net fl n) (h : Found fl a n G st v) : ∃ T p, Pa fl a n G st T (fk (cJ fl st) n v) ∧ 1 ≤ p ∧ p ≤ n ∧ fk (cJ fl st) p (fk (cJ fl st) n v) = fk (cJ fl st) n v ∧ OG fl a n st (fk (cJ fl st) n v) p (fk (cJ fl st) n v, []) := by
 obtain ⟨R, T, τ, h1, h2, h3⟩ := h.found
 have hC := Kh hN h1 h2 h3
 obtain ⟨p, p1, p2, p3⟩ := hC.back
 exact ⟨T, p, hC, p1, p2, p3, ⟨hC.g6 hN 0, ⟨0, Nat.zero_le _, rfl, rfl⟩, rfl⟩⟩
structure On (fl : List b8) (n : Nat) (G : Nat → Int) (a b : List Int) : Prop where
  feas : fZ fl n b
  same : nj (stepG fl n G) b = gx fl n G a
theorem Dv {b : List Int} (e : cO fl b n G = []) : stepG fl n G b = .inr b := if_pos e
theorem Es {b : List Int} (e : ¬ cO fl b n G = []) : stepG fl n G b = .inl (eK b (cO fl b n G) (fJ fl b 300 (cO fl b n G))) := if_neg e
theorem On.done {b : List Int} (h : On fl n G a b) (e : cO fl b n G = []) : b = gx fl n G a := by
 rw [← h.same]; exact (jF (Dv e)).symm
theorem On.next {b : List Int} (hN : Net fl n) (hn : 0 < n) (hB : Bd fl) (hG : ∀ i, -1 ≤ G i ∧ G i ≤ 1) (h : On fl n G a b) (e : ¬ cO fl b n G = []) :
 On fl n G a (eK b (cO fl b n G) (fJ fl b 300 (cO fl b n G))) ∧ (300 * fl.length - lV fl G (eK b (cO fl b n G) (fJ fl b 300 (cO fl b n G)))).toNat < (300 * fl.length - lV fl G b).toNat ∧ E8 fl b n G (cO fl b n G) := by
 rcases vN (a := b) hN hn hG with ⟨e', _⟩ | hc
 ·exact absurd e' e
 have hb := vR h.feas hc
 refine ⟨⟨hb.feas, ?_⟩, ?_, hc⟩
 ·rw [← h.same]; exact (iS (Es e)).symm
 have h1 := hb.more
 have h2 := E2 hB hb.feas.1 hG
 omega
end
def jR (has : Nat → Bool) (x : List Int) (k : Nat) : Int := cw (fun i => if has i = true then nth x i else 0) k
theorem GX {has : Nat → Bool} {x : List Int} {k : Nat} (h : has k = true) : jR has x k + nth x k = jR has x (k + 1) := by
 show _ = jR has x k + (if _ then _ else _); rw [if_pos h]
theorem Lm {has : Nat → Bool} {x : List Int} {k : Nat} (h : has k = false) : jR has x k = jR has x (k + 1) := by
 show _ = jR has x k + (if _ then _ else _); rw [if_neg (by rw [h]; decide)]; omega
theorem HD {has : Nat → Bool} {x : List Int} {k : Nat} (h : ∀ i, i < k → 0 ≤ nth x i ∧ nth x i ≤ 300) : -(300 * (k : Int)) ≤ jR has x k ∧ jR has x k ≤ 300 * k := by
 refine pY (b := 300) fun i hi => ?_
 have := h i hi
 split <;> omega
theorem JU {has : Nat → Bool} {less : Bool} {i : Nat} (h : has i = false) : c9 has less i = 0 := by unfold c9; rw [h]; cases less <;> rfl
theorem zw {has : Nat → Bool} {less : Bool} {i : Nat} (h : has i = true) : c9 has less i = if less = true then -1 else 1 := by unfold c9; rw [h]; cases less <;> rfl
theorem MM {has : Nat → Bool} {less : Bool} {w : Way} (h : has w.ix = false) : 0 = gH (c9 has less) w := by
 unfold gH yZ; rw [JU h]; cases w.more <;> rfl
theorem NJ {has : Nat → Bool} {less : Bool} {w : Way} (h : has w.ix = true) (e : w.more ≠ less) : 1 = gH (c9 has less) w := by
 unfold gH yZ; rw [zw h]
 cases hm : w.more <;> cases hl : less <;> first | rfl | exact absurd (hm.trans hl.symm) e
theorem L4 {has : Nat → Bool} {less : Bool} {w : Way} (h : has w.ix = true) (e : w.more = less) : -1 = gH (c9 has less) w := by
 unfold gH yZ; rw [zw h, e]
 cases less <;> rfl
end Go.Proofs.YtelbollidfdcjaaGreat
namespace Go.Proofs.YtelbollidfdcjaaGreat
open Go Go.T
set_option maxHeartbeats 16000000
theorem QT : Tryz.prog.underlying 4 = some .bool := Tryz.underlying4
section
variable {fl : List b8} {a : List Int} {n : Nat} {G : Nat → Int} {st : sG} {r c j : Nat} {w : Way}
def nI (fl : List b8) (G : Nat → Int) (st : sG) (c : Nat) (w : Way) : sG := if lW fl G st c w = true then mU fl G st c w else st
theorem q6 (h : nth st.worth c + gH G w > nth st.worth (w.fin fl).toNat) : nI fl G st c w = mU fl G st c w := if_pos (decide_eq_true h)
theorem s8 (h : ¬ nth st.worth c + gH G w > nth st.worth (w.fin fl).toNat) : nI fl G st c w = st := if_neg (by rw [show lW fl G st c w = false from decide_eq_false h]; decide)
theorem sF.PT (hN : Net fl n) (hG : ∀ i, -1 ≤ G i ∧ G i ≤ 1) (h : sF fl a n G ⟨r, c, j, st⟩) (hc : c < n) (hj : j < (bN fl a c).length) (hg : nth st.worth c + gH G (nth (bN fl a c) j) > nth st.worth ((nth (bN fl a c) j).fin fl).toNat) (hr : ¬ (r : Int) = n - 1) : sF fl a n G ⟨r, c, j + 1, nI fl G st c (nth (bN fl a c) j)⟩ := by
 rw [q6 hg]; exact h.yes hN hG (Nat.not_le.2 hc) (Nat.not_le.2 hj) (decide_eq_true hg) (by show ¬ r + 1 = n; intro e; apply hr; rw [← e]; show (r : Int) = ((r + 1 : Nat) : Int) - 1; omega)
theorem sF.Qs (h : sF fl a n G ⟨r, c, j, st⟩) (hc : c < n) (hj : j < (bN fl a c).length) (hg : ¬ nth st.worth c + gH G (nth (bN fl a c) j) > nth st.worth ((nth (bN fl a c) j).fin fl).toNat) : sF fl a n G ⟨r, c, j + 1, nI fl G st c (nth (bN fl a c) j)⟩ := by
 rw [s8 hg]; exact h.no (Nat.not_le.2 hc) (Nat.not_le.2 hj) (decide_eq_false hg)
theorem Pp (h : nth st.worth c + gH G w > nth st.worth (w.fin fl).toNat) : st.worth.set (w.fin fl).toNat (nth st.worth c + gH G w) = (nI fl G st c w).worth := by rw [q6 h]; rfl
theorem QD (h : nth st.worth c + gH G w > nth st.worth (w.fin fl).toNat) : st.by_.set (w.fin fl).toNat w = (nI fl G st c w).by_ := by rw [q6 h]; rfl
theorem Pm (h : nth st.worth c + gH G w > nth st.worth (w.fin fl).toNat) : w.fin fl = (nI fl G st c w).at_ := by rw [q6 h]; rfl
theorem QL (h : ¬ nth st.worth c + gH G w > nth st.worth (w.fin fl).toNat) : st.worth = (nI fl G st c w).worth := by rw [s8 h]
theorem QV (h : ¬ nth st.worth c + gH G w > nth st.worth (w.fin fl).toNat) : st.by_ = (nI fl G st c w).by_ := by rw [s8 h]
theorem Qj (h : ¬ nth st.worth c + gH G w > nth st.worth (w.fin fl).toNat) : st.at_ = (nI fl G st c w).at_ := by rw [s8 h]
theorem sF.hit (hN : Net fl n) (hG : ∀ i, -1 ≤ G i ∧ G i ≤ 1) (h : sF fl a n G ⟨r, c, j, st⟩) (hc : c < n) (hj : j < (bN fl a c).length) (hg : nth st.worth c + gH G (nth (bN fl a c) j) > nth st.worth ((nth (bN fl a c) j).fin fl).toNat) (hr : (r : Int) = n - 1) :
 ∃ (v : Nat) (s' : sG), st.worth.set ((nth (bN fl a c) j).fin fl).toNat (nth st.worth c + gH G (nth (bN fl a c) j)) = s'.worth ∧ st.by_.set ((nth (bN fl a c) j).fin fl).toNat (nth (bN fl a c) j) = s'.by_ ∧ (nth (bN fl a c) j).fin fl = ((v : Nat) : Int) ∧ Found fl a n G s' v := by
 obtain ⟨v, hv⟩ := h.last hN hG (Nat.not_le.2 hc) (Nat.not_le.2 hj) (decide_eq_true hg) (by show r + 1 = n; have := h.inv.r; omega)
 exact ⟨v, _, rfl, rfl, hv.at_, hv⟩
theorem Np {e : List Way} {s : Nat} (h : (decide ((e.length : Int) = 0) || !decide ((c : Int) = (s : Int))) = true) : ¬ (¬ e = [] ∧ c = s) := by
 rintro ⟨h1, h2⟩
 have h3 : (e.length : Int) ≠ 0 := fun h => h1 (List.length_eq_zero_iff.1 (by omega))
 rw [decide_eq_false h3, decide_eq_true (by omega)] at h; cases h
theorem Pk {e : List Way} {s : Nat} (h : (decide ((e.length : Int) = 0) || !decide ((c : Int) = (s : Int))) = false) : ¬ e = [] ∧ c = s := by
 rw [Bool.or_eq_false_iff] at h
 refine ⟨fun e0 => ?_, ?_⟩
 ·subst e0; exact absurd h.1 (by decide)
 have := of_decide_eq_true (eZ h.2 : decide ((c : Int) = (s : Int)) = true); omega
theorem Qd {e : List Way} {p : Nat} (h : e.length < p) : p - (e ++ [w]).length < p - e.length := by rw [List.length_append]; show p - (e.length + 1) < _; omega
theorem Rk {s p : Nat} {x : Nat × List Way} (h : OG fl a n st s p x) (hc : ¬ x.2 = [] ∧ x.1 = s) : qH fl st s ≠ [] := by rw [← h.end hc]; exact hc.1
end
attribute [local irreducible] aQ fY Way.g6 Way.fin Way.room eo eK fG gm over bN cR dj ep j8 fJ iO lD cQ fX gG gH c9 cO gx qH jL nI mU
attribute [local irreducible] gP e9 mA oA iG iE iK g9 iL oc iA oM dV fo n6 gC oW nth fS dY ay dP bodyPost Exit.then Exit.inBlock Code.wp Code.wpIn n7 hU oX oR iB eW cM cN bodyPostM dX
set_option maxRecDepth 100000 in
theorem mH (y : aj) (fl : List b8) (a : List Int) (h : FR y fl a) : eW Tryz.prog 119 [1000] [(1000, Cont.vec cz 3 a)] [Ty.pp (eG y fl 1000 fl.length)] [(1000, Cont.vec cz 3 (cQ fl (y.cells + 1) a).2.2)] (Ty.bool (!(cQ fl (y.cells + 1) a).2.1)) := by
 refine fV Tryz.func119 rfl (by decide) Tryz.ntmps119 (by exact Nat.le_of_ble_eq_true rfl) fun w0 M0 => ?_
 refine aE (aA (dK rfl (aD (aC (aE (aA (iq rfl ?_)))))))
 refine dM [(1000, 1000)] [] [(1000, Cont.vec cz 3 (cQ fl (y.cells + 1) a).2.2)] (Mq y fl a h) rfl rfl (aN bf (fB (aN (aN (aN (aN (aN (aN bf (dZ (by exact List.mem_cons_self))) (aU rfl rfl)) (aU rfl rfl)) (aU rfl rfl)) (aU rfl rfl)) (aU rfl rfl)))) (dD (a := 1000) (b := 1000) (by exact List.mem_cons_self) rfl (bt (by exact List.mem_cons_self) rfl) pre_nil) (bp (a := 1000) (b := 1000) (by decide) rfl (bt (by decide) rfl) post_nil) (aU rfl rfl) ?_
 refine tL rfl (bQ rfl rfl (bQ rfl rfl (bu rfl (dK rfl (aD (aC (aE (aA (eY rfl ?_)))))))))
 refine dr rfl (dK rfl (aD (aC (az ?_))))
 refine jK [1000] rfl rfl (by decide) (by repeat (first | exact gT | refine eP rfl (bt (by decide) rfl) ?_)) ?_
 all_goals exact ir (aU rfl rfl)
set_option maxRecDepth 100000 in
theorem FF (th : Ty) (h1 : th.deps = []) (h2 : th.cdeps = []) (has : Nat → Bool) (less : Bool) (w : Way) (hf : pH Tryz.prog (Ty.nd th h1 h2) [Ty.int .i64 ((w.ix : Nat) : Int)] (Ty.bool (has w.ix))) : dP Tryz.prog 202 [Ty.agg [Ty.nd th h1 h2, Ty.bool less], Ty.agg (gF.tys w)] (Ty.int .i64 (gH (c9 has less) w)) := by
 refine ak Tryz.func202 rfl (by decide) Tryz.ntmps202 (by exact Nat.le_of_ble_eq_true rfl) fun w0 M0 => ?_
 refine aE (aA (bF rfl (bF rfl (bu rfl (aD (aC (aE (aE (aA ?_)))))))))
 refine aI rfl rfl rfl rfl rfl (by decide) ?_
 refine aJ rfl rfl rfl rfl ?_
 refine aI rfl rfl rfl rfl rfl (by decide) ?_
 refine aJ rfl rfl rfl rfl (fA rfl hf rfl (dr rfl (aD (aC ?_))))
 refine cC rfl (fun hc1 => ?_) (fun hc1 => ?_)
 ·
  refine aE (aA (bu rfl (aD (aC (az (aS (bU rfl rfl ?_)))))))
  all_goals skip
  all_goals exact av rfl rfl (congrArg (Ty.int .i64) (MM (nK hc1)))
 refine af (aC (aE (aE (aA ?_))))
 refine aI rfl rfl rfl rfl rfl (by decide) ?_
 refine aJ rfl rfl rfl rfl ?_
 refine aI rfl rfl rfl rfl rfl (by decide) ?_
 refine aJ rfl rfl rfl rfl (FX QT rfl rfl (aD (aC ?_)))
 refine dJ rfl (fun hc2 => ?_) (fun hc2 => ?_)
 ·
  refine aE (aA (bu rfl (aD (aC (az (aS (bU rfl rfl ?_)))))))
  all_goals skip
  all_goals exact av rfl rfl (congrArg (Ty.int .i64) (NJ (eZ hc1) hc2))
 refine af (aC (aE (aA (bu rfl (aD (aC (az (bU rfl rfl ?_))))))))
 all_goals skip
 all_goals exact av rfl rfl (congrArg (Ty.int .i64) (L4 (eZ hc1) hc2))
set_option maxRecDepth 100000 in
theorem KL (y : aj) (fl : List b8) (a : List Int) (h : mO y fl a) (th : Ty) (h1 : th.deps = []) (h2 : th.cdeps = []) (has : Nat → Bool) (hf : ∀ i, i < fl.length → pH Tryz.prog (Ty.nd th h1 h2) [Ty.int .i64 ((i : Nat) : Int)] (Ty.bool (has i))) (less : Bool) : eW Tryz.prog 195 [1000] [(1000, Cont.vec cz 3 a)] [Ty.pp (eG y fl 1000 fl.length), Ty.agg [Ty.nd th h1 h2, Ty.bool less]] [(1000, Cont.vec cz 3 a)] (Ty.IS gF (cO fl a (y.cells + 1) (c9 has less))) := by
 refine fV Tryz.func195 rfl (by decide) Tryz.ntmps195 (by exact Nat.le_of_ble_eq_true rfl) fun w0 M0 => ?_
 have hal := h.inb.1
 have hN := h.net
 have hfl := h.q7
 have hcl := ny h.right
 have hG := sZ (has := has) less
 refine aE (aA (bF rfl (mB rfl (aD (aC (Mh (aE (aA (iq rfl ?_)))))))))
 refine eC [] (sq y h.right) rfl (aW (kX (l1 := bA y) (l2 := [Ty.sl dS fl, Ty.vs 1000 fl.length]) rfl rfl) cP) (by exact dU _ _) ?_
 refine cB rfl rfl (by omega) (by omega) ?_
 refine bu rfl (aD (aC (aE (cL mixed rfl (bG rfl ?_)))))
 refine qZ (E := cz) (x0 := 0) rfl rfl rfl rfl rfl rfl rfl (by decide) rfl (by omega) (by (dsimp only; omega)) (by omega) ?_
 refine bG rfl ?_
 refine qZ (E := gF) (x0 := default) rfl rfl rfl rfl rfl rfl rfl (by decide) rfl (by omega) (by (dsimp only; omega)) (by omega) ?_
 refine RL rfl (RL rfl (aD ?_))
 refine ⟨by kernel_rfl, ?_⟩
 refine aC (aE (aA (iq rfl ?_)))
 refine dM [(1000, 1000)] [] [(1000, Cont.vec cz 3 a)] (Lj y fl a h) rfl rfl (aN bf (fB (aN (aN (aN (aN (aN (aN bf (dZ (by exact List.mem_cons_self))) (aU rfl rfl)) (aU rfl rfl)) (aU rfl rfl)) (aU rfl rfl)) (aU rfl rfl)))) (dD (a := 1000) (b := 1000) (by exact List.mem_cons_self) rfl (bt (by exact List.mem_cons_self) rfl) pre_nil) (bp (a := 1000) (b := 1000) (by decide) rfl (bt (by decide) rfl) post_nil) (aU rfl rfl) ?_
 refine PL rfl (aD (aC (aE (aA (bu rfl (aD (aC (aE (MB ?_)))))))))
 refine aC (aE (aE (aA (bG rfl (bG rfl (aD (aC (aa ?_))))))))
 refine cG (fun (x : {x : Nat × sG // sF fl a (y.cells + 1) (c9 has less) ⟨x.1, 0, 0, x.2⟩ ∧ x.2.at_ = -1}) => live [(0, Ty.pp (eG y fl 1000 fl.length)), (3, Ty.pp [Ty.nd th h1 h2, Ty.bool less]), (5, Ty.int .i64 ((y.cells + 1) : Nat)), (6, Ty.vs 23 (y.cells + 1)), (7, Ty.vs 25 (y.cells + 1)), (8, Ty.pm KI.enc (Jp gF) (eo fl a fl.length)), (27, Ty.int .i64 ((y.cells + 1) : Nat)), (28, Ty.int .i64 ((x.1.1 : Nat) : Int))] [(1000, Cont.vec cz 3 a), (23, Cont.vec cz 3 x.1.2.worth), (25, Cont.vec gF 199 x.1.2.by_)]) (fun x => (y.cells + 1) - x.1.1) (⟨(0, OL (y.cells + 1)), RT (by omega), rfl⟩) ?_ fun x => ?_
 ·(refine cg.mk' ?_ ?_ <;> (repeat' (first | exact aL | exact aK | refine aB ?_ (Ty.aT _) | refine aB ?_ (Ty.aF _) | refine aG rfl (Cont.aF _) ?_)))
 have hxr : x.1.1 < (y.cells + 1) := x.2.1.inv.r
 have hxs : x.1.2.worth.length = (y.cells + 1) ∧ x.1.2.by_.length = (y.cells + 1) := ⟨(x.2.1.inv.small (by omega) hfl).1, (x.2.1.inv.small (by omega) hfl).2.1⟩
 refine aE (aA (bB rfl rfl rfl (aD (aC (aE ?_)))))
 refine qp rfl (decide_eq_true (by show ((x.1.1 : Nat) : Int) < ((y.cells + 1) : Nat); have : x.1.1 < (y.cells + 1) := hxr; omega)) ?_
 refine af (aC (aE (aa (aE (aA (bG rfl (bu rfl (aD (aC ?_)))))))))
 refine aE (aA (bu rfl (aD (aC (aE (aE (aA (bG rfl (bG rfl ?_)))))))))
 refine aD (aC (aa ?_))
 refine cG (fun (z : {z : Nat × sG // sF fl a (y.cells + 1) (c9 has less) ⟨x.1.1, z.1, 0, z.2⟩}) => live [(0, Ty.pp (eG y fl 1000 fl.length)), (3, Ty.pp [Ty.nd th h1 h2, Ty.bool less]), (5, Ty.int .i64 ((y.cells + 1) : Nat)), (6, Ty.vs 23 (y.cells + 1)), (7, Ty.vs 25 (y.cells + 1)), (8, Ty.pm KI.enc (Jp gF) (eo fl a fl.length)), (9, Ty.int .i64 z.1.2.at_), (10, Ty.int .i64 ((x.1.1 : Nat) : Int)), (27, Ty.int .i64 ((y.cells + 1) : Nat)), (28, Ty.int .i64 ((x.1.1 : Nat) : Int)), (31, Ty.int .i64 ((y.cells + 1) : Nat)), (32, Ty.int .i64 ((z.1.1 : Nat) : Int))] [(1000, Cont.vec cz 3 a), (23, Cont.vec cz 3 z.1.2.worth), (25, Cont.vec gF 199 z.1.2.by_)]) (fun z => (y.cells + 1) - z.1.1) (⟨(0, x.1.2), x.2.1⟩) ?_ fun z => ?_
 ·(refine cg.mk' ?_ ?_ <;> (repeat' (first | exact aL | exact aK | refine aB ?_ (Ty.aT _) | refine aB ?_ (Ty.aF _) | refine aG rfl (Cont.aF _) ?_ | refine aB ?_ ?_)))
  all_goals exact Ty.bI x.2.2.symm
 have hzc : z.1.1 ≤ (y.cells + 1) := z.2.inv.c
 have hzs : z.1.2.worth.length = (y.cells + 1) ∧ z.1.2.by_.length = (y.cells + 1) := ⟨(z.2.inv.small (by omega) hfl).1, (z.2.inv.small (by omega) hfl).2.1⟩
 refine aE (aA (bB rfl rfl rfl (aD (aC (aE ?_)))))
 refine aq rfl (fun hc2 => ?_) (fun hc2 => ?_)
 ·
  refine af (aC (aE (aa (aE (aA (bG rfl (bu rfl (aD (aC ?_)))))))))
  refine aE (aA (PM rfl (bG rfl ?_)))
  refine AH KI (z0 := []) rfl rfl (vc _) ox vq C7 ?_
  refine b9 (E := gF) (xs := pG (eo fl a fl.length) ((z.1.1 : Nat) : Int)) rfl rfl rfl ?_
  refine bG rfl (aD (aC ?_))
  refine ig (s := 37) rfl (show (Ty.sl gF (pG (eo fl a fl.length) ((z.1.1 : Nat) : Int))).Sub (Ty.sl gF (bN fl a z.1.1)) from Ty.yG tB) ?_
  refine ig (s := 38) rfl (Ty.bI (congrArg (fun l : List Way => ((l.length : Nat) : Int)) (tB (c := ((z.1.1 : Nat) : Int))))) ?_
  refine aa ?_
  refine cG (fun (u : {u : Nat × sG // sF fl a (y.cells + 1) (c9 has less) ⟨x.1.1, z.1.1, u.1, u.2⟩}) => live [(0, Ty.pp (eG y fl 1000 fl.length)), (3, Ty.pp [Ty.nd th h1 h2, Ty.bool less]), (5, Ty.int .i64 ((y.cells + 1) : Nat)), (6, Ty.vs 23 (y.cells + 1)), (7, Ty.vs 25 (y.cells + 1)), (8, Ty.pm KI.enc (Jp gF) (eo fl a fl.length)), (9, Ty.int .i64 u.1.2.at_), (10, Ty.int .i64 ((x.1.1 : Nat) : Int)), (11, Ty.int .i64 ((z.1.1 : Nat) : Int)), (27, Ty.int .i64 ((y.cells + 1) : Nat)), (28, Ty.int .i64 ((x.1.1 : Nat) : Int)), (31, Ty.int .i64 ((y.cells + 1) : Nat)), (32, Ty.int .i64 ((z.1.1 : Nat) : Int)), (37, Ty.sl gF (bN fl a z.1.1)), (38, Ty.int .i64 (bN fl a z.1.1).length), (39, Ty.int .i64 ((u.1.1 : Nat) : Int))] [(1000, Cont.vec cz 3 a), (23, Cont.vec cz 3 u.1.2.worth), (25, Cont.vec gF 199 u.1.2.by_)]) (fun u => (bN fl a z.1.1).length - u.1.1) (⟨(0, z.1.2), z.2⟩) ?_ fun u => ?_
  ·(refine cg.mk' ?_ ?_ <;> (repeat' (first | exact aL | exact aK | refine aB ?_ (Ty.aT _) | refine aB ?_ (Ty.aF _) | refine aG rfl (Cont.aF _) ?_)))
  have hus : u.1.2.worth.length = (y.cells + 1) ∧ u.1.2.by_.length = (y.cells + 1) ∧ ∀ v, v < (y.cells + 1) → 0 ≤ nth u.1.2.worth v ∧ nth u.1.2.worth v ≤ 40000 := u.2.inv.small (by omega) hfl
  have hwl := pX (fl := fl) (a := a) (c := ((z.1.1 : Nat) : Int))
  refine aE (aA (bB rfl rfl rfl (aD (aC (aE ?_)))))
  refine aq rfl (fun hc3 => ?_) (fun hc3 => ?_)
  ·
   refine af (aC (aE (aa (aE ?_))))
   have hzn : z.1.1 < (y.cells + 1) := by omega
   have hun : u.1.1 < (bN fl a z.1.1).length := by omega
   have hwo := (nJ.1 (cT (xs := bN fl a z.1.1) (k := u.1.1) hun)).1
   have hwj := hwo
   have hwf := (hN.way hwo.1).2
   have haw := Fp hG (nth (bN fl a z.1.1) u.1.1)
   have hu1 := hus.2.2 z.1.1 hzn
   have hu2 := hus.2.2 ((nth (bN fl a z.1.1) u.1.1).fin fl).toNat (by omega)
   refine aA ?_
   refine au rfl rfl rfl rfl rfl rfl (by omega) ?_
   refine aX rfl rfl rfl (by exact Nat.le_of_ble_eq_true rfl) ?_
   refine bh rfl (by exact List.cons_ne_nil _ _) rfl ?_
   refine bO rfl rfl (by decide) rfl rfl rfl rfl rfl rfl ?_
   refine aD (aC (aE (aA (iq rfl ?_))))
   refine bP rfl rfl (by decide) rfl rfl (by exact Nat.le_of_ble_eq_true rfl) ?_
   refine eC [1000] (FL y fl a h (nth (bN fl a z.1.1) u.1.1) hwj.1) rfl (aW (lE (aW (bV (bT rfl rfl)) (aW (bV (bT rfl rfl)) (aW (bV (bT rfl rfl)) (aW (bV (bT rfl rfl)) (aW (bV (bT rfl rfl)) (aW (j0 rfl hal (by decide) rfl) cP))))))) (aW (bV (bT rfl rfl)) cP)) (by exact qS (by repeat (first | exact qb | refine ot (by exact dU _ _) ?_))) ?_
   refine tL rfl (bQ rfl rfl (bQ rfl rfl (bu rfl (bu rfl (aD (aC (aE (cL mixed rfl (Lx rfl ?_)))))))))
   refine bG rfl ?_
   refine dG rfl rfl rfl rfl rfl (by omega) ?_
   refine fF rfl rfl rfl (by decide) rfl rfl (by omega) rfl ?_
   refine aX rfl rfl rfl (by exact Nat.le_of_ble_eq_true rfl) ?_
   refine bP rfl rfl (by decide) rfl rfl (by exact Nat.le_of_ble_eq_true rfl) ?_
   refine aZ (FF th h1 h2 has less (nth (bN fl a z.1.1) u.1.1) (hf _ hwj.1)) rfl rfl rfl rfl rfl ?_
   refine cB rfl rfl (by omega) (by omega) ?_
   refine Lx rfl (bG rfl ?_)
   refine gM rfl rfl rfl rfl rfl (by omega) (by omega) ?_
   refine fF rfl rfl rfl (by decide) rfl rfl (by omega) rfl ?_
   refine bB rfl rfl rfl (aD ?_)
   refine ⟨by kernel_rfl, ?_⟩
   refine aC ?_
   refine aq rfl (fun hc4 => ?_) (fun hc4 => ?_)
   ·
    refine aE (cL mixed rfl (Lx rfl (bG rfl (Lx rfl (bG rfl (Lx rfl (bG rfl ?_)))))))
    refine dG rfl rfl rfl rfl rfl (by omega) ?_
    refine fF rfl rfl rfl (by decide) rfl rfl (by omega) rfl ?_
    refine aX rfl rfl rfl (by exact Nat.le_of_ble_eq_true rfl) ?_
    refine bP rfl rfl (by decide) rfl rfl (by exact Nat.le_of_ble_eq_true rfl) ?_
    refine aZ (FF th h1 h2 has less (nth (bN fl a z.1.1) u.1.1) (hf _ hwj.1)) rfl rfl rfl rfl rfl ?_
    refine cB rfl rfl (by omega) (by omega) ?_
    refine bP rfl rfl (by decide) rfl rfl (by exact Nat.le_of_ble_eq_true rfl) ?_
    refine bG rfl ?_
    refine gM rfl rfl rfl rfl rfl (by omega) (by omega) ?_
    refine jG rfl rfl rfl (by decide) rfl rfl (by exact (rfl : _ = Ty.int _ _)) rfl (by omega) (by decide) rfl rfl ?_
    refine gM rfl rfl rfl rfl rfl (by omega) (by omega) ?_
    refine oU (E := gF) (z := (nth (bN fl a z.1.1) u.1.1)) ((nth (bN fl a z.1.1) u.1.1).fin fl).toNat rfl rfl rfl (by decide) rfl rfl rfl (by omega) ?_
    refine bu rfl (aD ?_)
    refine ⟨by kernel_rfl, ?_⟩
    refine aC (aE (aA (bG rfl (bG rfl ?_))))
    refine gZ rfl rfl (by omega) (by omega) ?_
    refine bB rfl rfl rfl (aD (aC ?_))
    refine aq rfl (fun hc5 => ?_) (fun hc5 => ?_)
    ·
     refine cH (gU rfl (aP (aP (gU rfl (gU rfl (aP (aP (gU rfl (aP ?_)))))))))
     refine gU rfl (aP (aP (ah rfl (aC (aE (aE ?_))))))
     obtain ⟨v, st, e1, e2, e3, hFd⟩ := u.2.hit hN hG hzn hun hc4 hc5
     obtain ⟨T, p, hC, p1, p2, p3, hX⟩ := hFd.Rn hN
     refine jS (tg := 25) rfl (Cont.cy e2) ?_
     refine ig (s := 9) rfl (Ty.bI e3) ?_
     refine aA (bG rfl (bG rfl (aD (aC (aa ?_)))))
     refine cG (fun (i : {i : Nat // i ≤ (y.cells + 1)}) => live [(0, Ty.pp (eG y fl 1000 fl.length)), (5, Ty.int .i64 ((y.cells + 1) : Nat)), (7, Ty.vs 25 (y.cells + 1)), (9, Ty.int .i64 ((fk (cJ fl st) i.1 v : Nat) : Int)), (87, Ty.int .i64 ((y.cells + 1) : Nat)), (88, Ty.int .i64 ((i.1 : Nat) : Int))] [(1000, Cont.vec cz 3 a), (25, Cont.vec gF 199 st.by_)]) (fun i => (y.cells + 1) - i.1) (⟨0, by omega⟩) ?_ fun i => ?_
     ·(refine cg.mk' ?_ ?_ <;> (repeat' (first | exact aL | exact aK | refine aB ?_ (Ty.aT _) | refine aB ?_ (Ty.aF _) | refine aG rfl (Cont.aF _) ?_)))
     refine aE (aA (bB rfl rfl rfl (aD (aC (aE ?_)))))
     refine aq rfl (fun hc6 => ?_) (fun hc6 => ?_)
     ·
      refine af (aC (aE (aa ?_)))
      have hch := hFd.chain hN (k := i.1) (by omega)
      have hbl := hFd.len
      refine aA (iq rfl (Lx rfl (bG rfl ?_)))
      refine dG rfl rfl rfl rfl rfl (by omega) ?_
      refine jr (fk (cJ fl st) i.1 v) rfl rfl rfl (by decide) rfl rfl rfl (by omega) ?_
      refine eC [1000] (Ag y fl a (nth st.by_ (fk (cJ fl st) i.1 v)) hch.2.1.1) rfl (aW (lE (aW (bV (bT rfl rfl)) (aW (bV (bT rfl rfl)) (aW (bV (bT rfl rfl)) (aW (bV (bT rfl rfl)) (aW (bV (bT rfl rfl)) (aW (j0 rfl hal (by decide) rfl) cP))))))) (aW (bV (bT rfl rfl)) cP)) (by exact dU _ _) ?_
      refine bu rfl (aD (bM (aC (aA ?_))))
      refine cB rfl rfl (by omega) (by omega) ?_
      refine bG rfl (aD ?_)
      refine bR (⟨i.1 + 1, by omega⟩) ?_ (by show (y.cells + 1) - (i.1 + 1) < (y.cells + 1) - i.1; omega)
      (refine cg.mk' ?_ ?_ <;> (repeat' (first | exact aL | exact aK | refine aB ?_ (Ty.aT _) | refine aB ?_ (Ty.aF _) | refine aG rfl (Cont.aF _) ?_ | refine aB ?_ ?_)))
      all_goals skip
      all_goals exact Ty.bI hch.2.2
     refine cH (aP (aP (ah rfl (aC (aE ?_)))))
     have hbl := hFd.len
     have hin : i.1 = (y.cells + 1) := by have := i.2; omega
     refine ig (s := 9) rfl (Ty.bI (by rw [hin] : _ = ((fk (cJ fl st) (y.cells + 1) v : Nat) : Int))) ?_
     refine aA (mB rfl (aD (aC (aE (aE (aA (bG rfl (bu rfl (aD ?_)))))))))
     refine aC (aa ?_)
     refine cG (fun (c : {c : Nat × List Way // OG fl a (y.cells + 1) st (fk (cJ fl st) (y.cells + 1) v) p c}) => live [(0, Ty.pp (eG y fl 1000 fl.length)), (7, Ty.vs 25 (y.cells + 1)), (9, Ty.int .i64 ((fk (cJ fl st) (y.cells + 1) v : Nat) : Int)), (16, Ty.row gF 199 118 c.1.2), (17, Ty.int .i64 ((c.1.1 : Nat) : Int))] [(1000, Cont.vec cz 3 a), (25, Cont.vec gF 199 st.by_)]) (fun c => p - c.1.2.length) (⟨(fk (cJ fl st) (y.cells + 1) v, []), hX⟩) ?_ fun c => ?_
     ·(refine cg.mk' ?_ ?_ <;> (repeat' (first | exact aL | exact aK | refine aB ?_ (Ty.aT _) | refine aB ?_ (Ty.aF _) | refine aB ?_ Ty.iF | refine aG rfl (Cont.aF _) ?_)))
      all_goals trace_state
     have hcx := c.2.at_
     have hci : c.1.2.length ≤ p := by obtain ⟨i, i1, _, i3⟩ := c.2.ix; omega
     refine aE (aE (aA (G8 rfl (G3 rfl rfl rfl (bB rfl rfl rfl (eY rfl ?_))))))
     apply aM (s := 101) rfl rfl rfl
     ·intro hg; apply aO; (refine bG rfl ?_); refine aD ?_; exact rfl
     ·exact rfl
     ·exact rfl
     apply aM (s := 101) rfl rfl rfl
     ·intro hg; apply aO; (refine bG rfl ?_); refine aD ?_; exact rfl
     ·exact rfl
     ·exact rfl
     apply aM (s := 101) rfl rfl rfl
     ·intro hg; apply aH (s := 102) rfl (by (rw [hg]; rfl)); apply aH (s := 103) rfl (by (rw [hg]; rfl)); apply aO; (refine bB rfl rfl rfl ?_); refine aD ?_; exact rfl
     ·exact rfl
     ·exact rfl
     refine gN rfl rfl (aD (aC ?_))
     refine cC rfl (fun hc7 => ?_) (fun hc7 => ?_)
     ·
      refine af (aC (aE (aa (aA (G8 rfl (Lx rfl (bG rfl ?_)))))))
      refine dG rfl rfl rfl rfl rfl (by omega) ?_
      refine jr c.1.1 rfl rfl rfl (by decide) rfl rfl rfl (by omega) ?_
      refine bg (E := gF) (xs := [_]) rfl rfl rfl rfl rfl (by decide) (by decide) (by repeat (first | exact (aV.nil : aV _ _ [] _) | (show aV _ _ ((_, _) :: _) _; apply aV.agg; (· exact (rfl : _ = Ty.agg _))))) (by exact rfl) rfl ?_
      refine dy rfl rfl (by decide) rfl rfl rfl rfl rfl rfl (by decide) (by (simp <;> omega)) (by (simp <;> omega)) ?_
      refine A2 rfl (aD (bM (aC (aA (iq rfl (Lx rfl (bG rfl ?_)))))))
      refine dG rfl rfl rfl rfl rfl (by omega) ?_
      refine jr c.1.1 rfl rfl rfl (by decide) rfl rfl rfl (by omega) ?_
      refine eC [1000] (Ag y fl a (nth st.by_ c.1.1) hcx.2.1.1) rfl (aW (lE (aW (bV (bT rfl rfl)) (aW (bV (bT rfl rfl)) (aW (bV (bT rfl rfl)) (aW (bV (bT rfl rfl)) (aW (bV (bT rfl rfl)) (aW (j0 rfl hal (by decide) rfl) cP))))))) (aW (bV (bT rfl rfl)) cP)) (by exact dU _ _) ?_
      refine bu rfl (aD ?_)
      refine bR (⟨(cJ fl st c.1.1, c.1.2 ++ [nth st.by_ c.1.1]), (c.2.next hN hC p3 p1 (Np hc7)).1⟩) ?_ (by exact Qd (c.2.next hN hC p3 p1 (Np hc7)).2)
      (refine cg.mk' ?_ ?_ <;> (repeat' (first | exact aL | exact aK | refine aB ?_ (Ty.aT _) | refine aB ?_ (Ty.aF _) | refine aG rfl (Cont.aF _) ?_ | refine aB ?_ ?_)))
      all_goals skip
      all_goals exact Ty.bI hcx.2.2
     refine cH (aP (aP (ah rfl (aC (aE (aA (G8 rfl (A2 rfl (aD ?_)))))))))
     refine aC (az (vH ?_))
     refine jK [1000] rfl rfl (by decide) (by repeat (first | exact gT | refine eP rfl (bt (by decide) rfl) ?_)) ?_
     all_goals skip
     all_goals exact EZ (by decide) rfl (by rw [hFd.same]; exact c.2.end (Pk hc7)) (by rw [hFd.same]; exact Rk c.2 (Pk hc7))
    refine af (bM (aC (aA ?_)))
    refine cB rfl rfl (by omega) (by omega) ?_
    refine bG rfl (aD ?_)
    refine bR (⟨(u.1.1 + 1, nI fl (c9 has less) u.1.2 z.1.1 (nth (bN fl a z.1.1) u.1.1)), by exact u.2.PT hN hG hzn hun hc4 hc5⟩) ?_ (by show (bN fl a z.1.1).length - (u.1.1 + 1) < (bN fl a z.1.1).length - u.1.1; omega)
    (refine cg.mk' ?_ ?_ <;> (repeat' (first | exact aL | exact aK | refine aB ?_ (Ty.aT _) | refine aB ?_ (Ty.aF _) | refine aG rfl (Cont.aF _) ?_ | refine aG rfl ?_ ?_ | refine aB ?_ ?_)))
    all_goals skip
    all_goals first | exact Cont.cy (Pp hc4) | exact Cont.cy (QD hc4) | exact Ty.bI (Pm hc4)
   refine af (bM (aC (aA ?_)))
   refine cB rfl rfl (by omega) (by omega) ?_
   refine bG rfl (aD ?_)
   refine bR (⟨(u.1.1 + 1, nI fl (c9 has less) u.1.2 z.1.1 (nth (bN fl a z.1.1) u.1.1)), by exact u.2.Qs hzn hun hc4⟩) ?_ (by show (bN fl a z.1.1).length - (u.1.1 + 1) < (bN fl a z.1.1).length - u.1.1; omega)
   (refine cg.mk' ?_ ?_ <;> (repeat' (first | exact aL | exact aK | refine aB ?_ (Ty.aT _) | refine aB ?_ (Ty.aF _) | refine aG rfl (Cont.aF _) ?_ | refine aG rfl ?_ ?_ | refine aB ?_ ?_)))
   all_goals skip
   all_goals first | exact Cont.cy (QL hc4) | exact Cont.cy (QV hc4) | exact Ty.bI (Qj hc4)
  refine cH (aP (aP (ah rfl (bM (aC (aA ?_))))))
  refine cB rfl rfl (by omega) (by omega) ?_
  refine bG rfl (aD ?_)
  refine bR (⟨(z.1.1 + 1, u.1.2), u.2.cell (by show ¬ (y.cells + 1) ≤ z.1.1; omega) (by show (bN fl a z.1.1).length ≤ u.1.1; omega)⟩) ?_ (by show (y.cells + 1) - (z.1.1 + 1) < (y.cells + 1) - z.1.1; omega)
  (refine cg.mk' ?_ ?_ <;> (repeat' (first | exact aL | exact aK | refine aB ?_ (Ty.aT _) | refine aB ?_ (Ty.aF _) | refine aG rfl (Cont.aF _) ?_)))
  all_goals skip
 refine cH (aP (aP (ah rfl (aC (aE (aA (bG rfl (bB rfl rfl rfl (aD ?_)))))))))
 refine aC ?_
 refine aq rfl (fun hc8 => ?_) (fun hc8 => ?_)
 ·
  refine aE (aA (mB rfl (aD (aC (az (bC (aS (aS (bC ?_)))))))))
  refine aS (vH ?_)
  refine jK [1000] rfl rfl (by decide) (by repeat (first | exact gT | refine eP rfl (bt (by decide) rfl) ?_)) ?_
  all_goals skip
  all_goals exact ET (z.2.stop (by show (y.cells + 1) ≤ z.1.1; omega) (by assumption))
 refine af (bM (aC (aA ?_)))
 refine cB rfl rfl (by omega) (by omega) ?_
 refine bG rfl (aD ?_)
 refine bR (⟨(x.1.1 + 1, ⟨z.1.2.worth, z.1.2.by_, -1⟩), z.2.round (by show (y.cells + 1) ≤ z.1.1; omega) (by assumption), rfl⟩) ?_ (by show (y.cells + 1) - (x.1.1 + 1) < (y.cells + 1) - x.1.1; omega)
 (refine cg.mk' ?_ ?_ <;> (repeat' (first | exact aL | exact aK | refine aB ?_ (Ty.aT _) | refine aB ?_ (Ty.aF _) | refine aG rfl (Cont.aF _) ?_)))
 all_goals skip
end Go.Proofs.YtelbollidfdcjaaGreat
namespace Go.Proofs.YtelbollidfdcjaaGreat
open Go Go.T
set_option maxHeartbeats 16000000
theorem OJ : Tryz.prog.underlying 28 = some (.slice 3) := by kernel_rfl
theorem O0 : Tryz.prog.underlying 222 = some (.slice 199) := by kernel_rfl
section
variable {y : aj} {fl : List b8} {a : List Int} {n : Nat} {has : Nat → Bool} {xs : List Int}
theorem RQ {G : Nat → Int} (h : fZ fl n a) : On fl n G a a := ⟨h, rfl⟩
theorem JA {c : Nat → Bool} {b : Nat} (hl : a.length = (aQ y c).length) (hb : b < y.bins.length) : y.kept b 0 < a.length := by rw [hl]; exact E5 hb (Nat.zero_le _)
theorem Mr {x : List Int} {i k : Nat} (h : i = k) : jR has x i = jR has x k := by rw [h]
theorem Me (fl : List b8) (has : Nat → Bool) (x : List Int) : jR has x fl.length = jW fl has x := rfl
theorem Nj (hN : Net fl n) (hn : 0 < n) (hB : Bd fl) (h : fZ fl n a) : (⟨jW fl has (gx fl n (c9 has true) a), jW fl has (gx fl n (c9 has false) (DB fl n has a))⟩ : Span) = g7 fl n has := (sJ hN hn hB h).2.2.eq.symm
def gy (y : aj) (a : List Int) (k : Nat) : List Int := (List.range k).map fun b => nth a (y.kept b 0)
theorem uj (k : Nat) : gy y a k ++ [nth a (y.kept k 0)] = gy y a (k + 1) := by unfold gy; rw [List.range_succ, List.map_append]; rfl
theorem vD : gy y a 0 = [] := rfl
theorem wh (k : Nat) : (gy y a k).length = k := by unfold gy; rw [List.length_map, List.length_range]
theorem told_eq (y : aj) (a : List Int) : (⟨gy y a y.bins.length, a.drop (y.bins.length * (y.D + 1))⟩ : dF) = fQ y a := rfl
theorem DK (h : xs = []) : (Ty.jk (.slice none 0 0)).Sub (Ty.row cz 3 26 xs) := by subst h; exact Ty.iF
theorem lo_eq (fl : List b8) (n : Nat) (has : Nat → Bool) (a : List Int) : gx fl n (c9 has true) a = DB fl n has a := rfl
theorem hi_eq (fl : List b8) (n : Nat) (has : Nat → Bool) (a : List Int) : gx fl n (c9 has false) (DB fl n has a) = AO fl n has a := rfl
end
attribute [local irreducible] aQ fY Way.g6 Way.fin Way.room eo eK fG gm over bN cR dj ep j8 fJ iO lD cQ fX gG gH c9 cO gx qH jL jR jW g7 DB AO gy aj.kept
attribute [local irreducible] gP e9 mA oA iG iE iK g9 iL oc iA oM dV fo n6 gC oW nth fS dY ay dP bodyPost Exit.then Exit.inBlock Code.wp Code.wpIn n7 hU oX oR iB eW cM cN bodyPostM dX
set_option maxRecDepth 100000 in
theorem um (l : List Int) (h : l.length ≤ 1000) : dP Tryz.prog 172 [Ty.sl cz l] (Ty.sl cz l) := by
 refine ak Tryz.func172 rfl (by decide) Tryz.ntmps172 (by exact Nat.le_of_ble_eq_true rfl) fun w0 M0 => ?_
 refine aE (aA (mB rfl (aD (aC (aE (aE (aA (fT rfl (GC OJ rfl ?_)))))))))
 refine aD (aC ?_)
 refine AL rfl (fun hc1 => ?_) (fun hc1 => ?_)
 ·
  refine aE (aA (mB rfl (aD (aC (az (aS (bU rfl rfl ?_)))))))
  all_goals skip
  exact gS hc1
 refine af (aC (aE (aA ?_)))
 refine wZ (E := cz) rfl rfl rfl rfl ?_
 refine fT rfl ?_
 refine dy rfl rfl (by decide) rfl rfl rfl rfl rfl rfl (by decide) (by (simp <;> omega)) (by (simp <;> omega)) ?_
 refine A2 rfl (aD (aC (az (bU rfl rfl ?_))))
 all_goals exact qi (by decide)
 skip
set_option maxRecDepth 100000 in
theorem LV (y : aj) (fl : List b8) (a : List Int) (h : mO y fl a) (hfe : fZ fl (y.cells + 1) a) (th : Ty) (h1 : th.deps = []) (h2 : th.cdeps = []) (has : Nat → Bool) (hf : ∀ i, i < fl.length → pH Tryz.prog (Ty.nd th h1 h2) [Ty.int .i64 ((i : Nat) : Int)] (Ty.bool (has i))) (less : Bool) : eW Tryz.prog 164 [1000] [(1000, Cont.vec cz 3 a)] [Ty.pp (eG y fl 1000 fl.length), Ty.agg [Ty.nd th h1 h2, Ty.bool less]] [(1000, Cont.vec cz 3 (gx fl (y.cells + 1) (c9 has less) a))] (Ty.int .i64 (jW fl has (gx fl (y.cells + 1) (c9 has less) a))) := by
 refine fV Tryz.func164 rfl (by decide) Tryz.ntmps164 (by exact Nat.le_of_ble_eq_true rfl) fun w0 M0 => ?_
 have hN := h.net
 have hfl := h.q7
 have hcl := ny h.right
 have hG := sZ (has := has) less
 have hn : 0 < (y.cells + 1) := Nat.succ_pos _
 refine aE (aA (bF rfl (bu rfl (aD (aC (aE (aa ?_)))))))
 refine cG (fun (b : {b : List Int // On fl (y.cells + 1) (c9 has less) a b}) => live [(0, Ty.pp (eG y fl 1000 fl.length)), (3, Ty.pp [Ty.nd th h1 h2, Ty.bool less])] [(1000, Cont.vec cz 3 b.1)]) (fun b => (300 * fl.length - lV fl (c9 has less) b.1).toNat) (⟨a, RQ hfe⟩) ?_ fun b => ?_
 ·(refine cg.mk' ?_ ?_ <;> (repeat' (first | exact aL | exact aK | refine aB ?_ (Ty.aT _) | refine aB ?_ (Ty.aF _) | refine aG rfl (Cont.aF _) ?_)))
 have hF : mO y fl b.1 := ⟨h.right, h.net, h.bd, b.2.feas.1, h.q7⟩
 have hal := hF.inb.1
 refine aa (aE (aA (iq rfl ?_)))
 refine aX rfl rfl rfl (by exact Nat.le_of_ble_eq_true rfl) ?_
 refine dM [(1000, 1000)] [] [(1000, Cont.vec cz 3 b.1)] (KL y fl b.1 hF th h1 h2 has hf less) rfl rfl (aN (aN bf (aU rfl rfl)) (fB (aN (aN (aN (aN (aN (aN bf (dZ (by exact List.mem_cons_self))) (aU rfl rfl)) (aU rfl rfl)) (aU rfl rfl)) (aU rfl rfl)) (aU rfl rfl)))) (dD (a := 1000) (b := 1000) (by exact List.mem_cons_self) rfl (bt (by exact List.mem_cons_self) rfl) pre_nil) (bp (a := 1000) (b := 1000) (by decide) rfl (bt (by decide) rfl) post_nil) (aU rfl rfl) ?_
 refine Rl rfl (aD (aC (aE (aE (aA (Ra rfl (Lt O0 rfl (aD (aC ?_)))))))))
 refine cC rfl (fun hc1 => ?_) (fun hc1 => ?_)
 ·
  refine cH (aP (gU rfl (aP (ah rfl (aC (aE ?_))))))
  have hb : b.1 = (gx fl (y.cells + 1) (c9 has less) a) := b.2.done (List.isEmpty_iff.1 hc1)
  have hF2 : mO y fl (gx fl (y.cells + 1) (c9 has less) a) := by rw [← hb]; exact hF
  have hal2 := hF2.inb.1
  refine jS (tg := 1000) rfl (Cont.cy hb) ?_
  refine aA (bu rfl (aD (aC (aE (aE (aA (iq rfl (bW rfl ?_))))))))
  refine aI rfl rfl rfl rfl rfl (by decide) ?_
  refine aJ rfl rfl rfl rfl (Ja rfl rfl rfl (bG rfl (aD (aC (aa ?_)))))
  refine cG (fun (i : {i : Nat // i ≤ fl.length}) => live [(0, Ty.pp (eG y fl 1000 fl.length)), (3, Ty.pp [Ty.nd th h1 h2, Ty.bool less]), (11, Ty.int .i64 (jR has (gx fl (y.cells + 1) (c9 has less) a) i.1)), (43, Ty.vs 1000 fl.length), (44, Ty.int .i64 fl.length), (45, Ty.int .i64 (i.1 : Nat))] [(1000, Cont.vec cz 3 (gx fl (y.cells + 1) (c9 has less) a))]) (fun i => fl.length - i.1) (⟨0, by omega⟩) ?_ fun i => ?_
  ·(refine cg.mk' ?_ ?_ <;> (repeat' (first | exact aL | exact aK | refine aB ?_ (Ty.aT _) | refine aB ?_ (Ty.aF _) | refine aG rfl (Cont.aF _) ?_ | refine aB ?_ ?_)))
   all_goals exact Ty.bI (by unfold jR; rfl)
  have hi := i.2
  have hup := HD (has := has) (x := (gx fl (y.cells + 1) (c9 has less) a)) (k := i.1) fun q hq => (hF2.PX (by omega)).1
  refine aE (aA (bB rfl rfl rfl (aD (aC (aE ?_)))))
  refine aq rfl (fun hc2 => ?_) (fun hc2 => ?_)
  ·
   refine af (aC (aE (aa (aE (aA (bG rfl ?_))))))
   refine dG rfl rfl rfl rfl rfl (by omega) ?_
   refine fF rfl rfl rfl (by decide) rfl rfl (by omega) rfl ?_
   refine bu rfl (bu rfl (aD (aC (aE ?_))))
   have hai := (hF2.PX (show i.1 < fl.length by omega)).1
   refine aA ?_
   refine aI rfl rfl rfl rfl rfl (by decide) ?_
   refine aJ rfl rfl rfl rfl (bG rfl ?_)
   refine fA rfl (hf i.1 (by omega)) rfl ?_
   refine aD (aC ?_)
   refine cC rfl (fun hc3 => ?_) (fun hc3 => ?_)
   ·
    refine aA (bG rfl (bG rfl ?_))
    refine cB rfl rfl (by omega) (by omega) ?_
    refine bu rfl (aD (bM (aC (aA ?_))))
    refine cB rfl rfl (by omega) (by omega) ?_
    refine bG rfl (aD ?_)
    refine bR (⟨i.1 + 1, by omega⟩) ?_ (by show fl.length - (i.1 + 1) < fl.length - i.1; omega)
    (refine cg.mk' ?_ ?_ <;> (repeat' (first | exact aL | exact aK | refine aB ?_ (Ty.aT _) | refine aB ?_ (Ty.aF _) | refine aG rfl (Cont.aF _) ?_ | refine aB ?_ ?_)))
    all_goals skip
    all_goals exact Ty.bI (GX hc3)
   refine af (bM (aC (aA ?_)))
   refine cB rfl rfl (by omega) (by omega) ?_
   refine bG rfl (aD ?_)
   refine bR (⟨i.1 + 1, by omega⟩) ?_ (by show fl.length - (i.1 + 1) < fl.length - i.1; omega)
   (refine cg.mk' ?_ ?_ <;> (repeat' (first | exact aL | exact aK | refine aB ?_ (Ty.aT _) | refine aB ?_ (Ty.aF _) | refine aG rfl (Cont.aF _) ?_ | refine aB ?_ ?_)))
   all_goals skip
   all_goals exact Ty.bI (Lm hc3)
  refine cH (aP (aP (ah rfl (aC (aE (aA (bG rfl (bu rfl (aD ?_)))))))))
  refine aC (az ?_)
  refine jK [1000] rfl rfl (by decide) (by repeat (first | exact gT | refine eP rfl (bt (by decide) rfl) ?_)) ?_
  all_goals skip
  all_goals exact ir (pQ rfl rfl (congrArg (Ty.int .i64) ((Mr (by have := i.2; omega)).trans (Me fl has _))))
 refine af (aC (aE ?_))
 refine ig (s := 5) rfl (show (Ty.IS gF (cO fl b.1 (y.cells + 1) (c9 has less))).Sub (Ty.sl gF (cO fl b.1 (y.cells + 1) (c9 has less))) from Ty.Ox) ?_
 have hne : ¬ (cO fl b.1 (y.cells + 1) (c9 has less)) = [] := fun e => by rw [e] at hc1; cases hc1
 have hnx := b.2.next hN hn h.bd hG hne
 have hC := hnx.2.2
 have hlen := hC.q7
 refine aA (bu rfl (aD (aC (aE (aE (aA (fT rfl (b9 rfl rfl rfl (bG rfl ?_)))))))))
 refine aD (aC (aa ?_))
 refine cG (fun (j : {j : Nat // j ≤ (cO fl b.1 (y.cells + 1) (c9 has less)).length}) => live [(0, Ty.pp (eG y fl 1000 fl.length)), (3, Ty.pp [Ty.nd th h1 h2, Ty.bool less]), (5, Ty.sl gF (cO fl b.1 (y.cells + 1) (c9 has less))), (6, Ty.int .i64 (fJ fl b.1 300 ((cO fl b.1 (y.cells + 1) (c9 has less)).take j.1))), (19, Ty.sl gF (cO fl b.1 (y.cells + 1) (c9 has less))), (20, Ty.int .i64 (cO fl b.1 (y.cells + 1) (c9 has less)).length), (21, Ty.int .i64 (j.1 : Nat))] [(1000, Cont.vec cz 3 b.1)]) (fun j => (cO fl b.1 (y.cells + 1) (c9 has less)).length - j.1) (⟨0, by omega⟩) ?_ fun j => ?_
 ·(refine cg.mk' ?_ ?_ <;> (repeat' (first | exact aL | exact aK | refine aB ?_ (Ty.aT _) | refine aB ?_ (Ty.aF _) | refine aG rfl (Cont.aF _) ?_ | refine aB ?_ ?_)))
  all_goals exact Ty.bI (yJ _ _ _)
 have hj := j.2
 refine aE (aA (bB rfl rfl rfl (aD (aC (aE ?_)))))
 refine aq rfl (fun hc4 => ?_) (fun hc4 => ?_)
 ·
  refine af (aC (aE (aa (aE (aA ?_)))))
  refine au rfl rfl rfl rfl rfl rfl (by omega) ?_
  refine aX rfl rfl rfl (by exact Nat.le_of_ble_eq_true rfl) ?_
  refine bh rfl (by exact List.cons_ne_nil _ _) rfl ?_
  refine bO rfl rfl (by decide) rfl rfl rfl rfl rfl rfl ?_
  refine aD (aC (aE ?_))
  have hwj := hC.ways _ (cT (xs := (cO fl b.1 (y.cells + 1) (c9 has less))) (k := j.1) (by omega))
  refine aA (iq rfl ?_)
  refine bP rfl rfl (by decide) rfl rfl (by exact Nat.le_of_ble_eq_true rfl) ?_
  refine eC [1000] (FL y fl b.1 hF (nth (cO fl b.1 (y.cells + 1) (c9 has less)) j.1) hwj.1) rfl (aW (lE (aW (bV (bT rfl rfl)) (aW (bV (bT rfl rfl)) (aW (bV (bT rfl rfl)) (aW (bV (bT rfl rfl)) (aW (bV (bT rfl rfl)) (aW (j0 rfl hal (by decide) rfl) cP))))))) (aW (bV (bT rfl rfl)) cP)) (by exact qS (by repeat (first | exact qb | refine ot (by exact dU _ _) ?_))) ?_
  refine tL rfl (bQ rfl rfl (bQ rfl rfl (bu rfl (bu rfl (aD (aC (aA (bG rfl (bG rfl ?_)))))))))
  refine bg (E := cz) (xs := [_]) rfl rfl rfl rfl rfl (by decide) (by decide) (by repeat (first | exact (aV.nil : aV _ _ [] _) | (show aV _ _ ((_, _) :: _) _; apply aV.one; (· exact (rfl : _ = Ty.int _ _)); (· exact rfl)))) (by exact rfl) rfl ?_
  refine aZ (sK _ _) rfl rfl rfl rfl rfl (bu rfl (aD (bM (aC (aA ?_)))))
  refine cB rfl rfl (by omega) (by omega) ?_
  refine bG rfl (aD ?_)
  refine bR (⟨j.1 + 1, by omega⟩) ?_ (by show (cO fl b.1 (y.cells + 1) (c9 has less)).length - (j.1 + 1) < (cO fl b.1 (y.cells + 1) (c9 has less)).length - j.1; omega)
  (refine cg.mk' ?_ ?_ <;> (repeat' (first | exact aL | exact aK | refine aB ?_ (Ty.aT _) | refine aB ?_ (Ty.aF _) | refine aG rfl (Cont.aF _) ?_ | refine aB ?_ ?_)))
  all_goals skip
  all_goals exact Ty.bI (by rw [cV (by omega)]; exact yI)
 refine cH (aP (aP (ah rfl (aC ?_))))
 have hmp := qy (fl := fl) (a := b.1) (m := 300) (by decide) (cO fl b.1 (y.cells + 1) (c9 has less)) hC.ways
 have hml := (sX (fl := fl) (a := b.1) 300 (cO fl b.1 (y.cells + 1) (c9 has less))).1
 refine ig (s := 6) rfl (Ty.bI (by rw [List.take_of_length_le (by omega)] : _ = fJ fl b.1 300 (cO fl b.1 (y.cells + 1) (c9 has less)))) ?_
 refine aA (iq rfl (fT rfl (bG rfl ?_)))
 refine dM [(1000, 1000)] [] [(1000, Cont.vec cz 3 (eK b.1 (cO fl b.1 (y.cells + 1) (c9 has less)) (fJ fl b.1 300 (cO fl b.1 (y.cells + 1) (c9 has less)))))] (JO y fl b.1 hF (cO fl b.1 (y.cells + 1) (c9 has less)) (by omega) (fun w hw => (hC.ways w hw).1) (fJ fl b.1 300 (cO fl b.1 (y.cells + 1) (c9 has less))) (by omega)) rfl rfl (aN (aN (aN bf (aU rfl rfl)) (aU rfl rfl)) (fB (aN (aN (aN (aN (aN (aN bf (dZ (by exact List.mem_cons_self))) (aU rfl rfl)) (aU rfl rfl)) (aU rfl rfl)) (aU rfl rfl)) (aU rfl rfl)))) (dD (a := 1000) (b := 1000) (by exact List.mem_cons_self) rfl (bt (by exact List.mem_cons_self) rfl) pre_nil) (bp (a := 1000) (b := 1000) (by decide) rfl (bt (by decide) rfl) post_nil) (aU rfl rfl) ?_
 refine aD (bM ?_)
 refine bR (⟨eK b.1 (cO fl b.1 (y.cells + 1) (c9 has less)) (fJ fl b.1 300 (cO fl b.1 (y.cells + 1) (c9 has less))), hnx.1⟩) ?_ (by exact hnx.2.1)
 (refine cg.mk' ?_ ?_ <;> (repeat' (first | exact aL | exact aK | refine aB ?_ (Ty.aT _) | refine aB ?_ (Ty.aF _) | refine aG rfl (Cont.aF _) ?_)))
 all_goals skip
set_option maxRecDepth 100000 in
theorem Eo (y : aj) (fl : List b8) (a : List Int) (h : mO y fl a) (hfe : fZ fl (y.cells + 1) a) (th : Ty) (h1 : th.deps = []) (h2 : th.cdeps = []) (has : Nat → Bool) (hf : ∀ i, i < fl.length → pH Tryz.prog (Ty.nd th h1 h2) [Ty.int .i64 ((i : Nat) : Int)] (Ty.bool (has i))) (ho : th.one = true) : eW Tryz.prog 87 [1000] [(1000, Cont.vec cz 3 a)] [Ty.pp (eG y fl 1000 fl.length), Ty.nd th h1 h2] [(1000, Cont.vec cz 3 (AO fl (y.cells + 1) has a))] (Ty.agg (bX.tys (g7 fl (y.cells + 1) has))) := by
 refine fV Tryz.func87 rfl (by decide) Tryz.ntmps87 (by exact Nat.le_of_ble_eq_true rfl) fun w0 M0 => ?_
 have hsp := sJ (has := has) h.net (Nat.succ_pos _) h.bd hfe
 have hF : mO y fl (DB fl (y.cells + 1) has a) := ⟨h.right, h.net, h.bd, hsp.1.1, h.q7⟩
 refine aE (aA ?_)
 refine bh rfl (by exact List.cons_ne_nil _ _) rfl ?_
 refine aD (aC (aE (aA (iq rfl ?_))))
 refine eN (ty := Ty.nd th h1 h2) rfl ?_
 refine c6 rfl rfl (by exact List.cons_ne_nil _ _) rfl (aV.one (ty := Ty.nd th h1 h2) rfl ho (aV.one (ty := Ty.bool true) rfl rfl aV.nil)) (by exact (rfl : _ = some [_, _])) ?_
 refine dM [(1000, 1000)] [] [(1000, Cont.vec cz 3 (DB fl (y.cells + 1) has a))] (LV y fl a h hfe th h1 h2 has hf true) rfl rfl (aN (aN bf (aU rfl rfl)) (fB (aN (aN (aN (aN (aN (aN bf (dZ (by exact List.mem_cons_self))) (aU rfl rfl)) (aU rfl rfl)) (aU rfl rfl)) (aU rfl rfl)) (aU rfl rfl)))) (dD (a := 1000) (b := 1000) (by exact List.mem_cons_self) rfl (bt (by exact List.mem_cons_self) rfl) pre_nil) (bp (a := 1000) (b := 1000) (by decide) rfl (bt (by decide) (lo_eq _ _ _ _)) post_nil) (aU rfl rfl) ?_
 refine bu rfl (aD (aC (aE (aA (bG rfl (iq rfl ?_))))))
 refine eN (ty := Ty.nd th h1 h2) rfl ?_
 refine c6 rfl rfl (by exact List.cons_ne_nil _ _) rfl (aV.one (ty := Ty.nd th h1 h2) rfl ho (aV.one (ty := Ty.bool false) rfl rfl aV.nil)) (by exact (rfl : _ = some [_, _])) ?_
 refine dM [(1000, 1000)] [] [(1000, Cont.vec cz 3 (AO fl (y.cells + 1) has a))] (LV y fl (DB fl (y.cells + 1) has a) hF hsp.1 th h1 h2 has hf false) rfl rfl (aN (aN bf (aU rfl rfl)) (fB (aN (aN (aN (aN (aN (aN bf (dZ (by exact List.mem_cons_self))) (aU rfl rfl)) (aU rfl rfl)) (aU rfl rfl)) (aU rfl rfl)) (aU rfl rfl)))) (dD (a := 1000) (b := 1000) (by exact List.mem_cons_self) rfl (bt (by exact List.mem_cons_self) rfl) pre_nil) (bp (a := 1000) (b := 1000) (by decide) rfl (bt (by decide) (hi_eq _ _ _ _)) post_nil) (aU rfl rfl) ?_
 refine c6 rfl rfl (by exact List.cons_ne_nil _ _) rfl (by repeat (first | exact (aV.nil : aV _ _ [] _) | (show aV _ _ ((_, _) :: _) _; apply aV.one; (· exact (rfl : _ = Ty.int _ _)); (· exact rfl)))) (by exact (rfl : _ = some [_, _])) ?_
 refine bO rfl rfl (by decide) rfl rfl rfl rfl rfl rfl ?_
 refine aD (aC (az ?_))
 refine MK [1000] rfl rfl rfl rfl (by decide) rfl rfl rfl (by decide) (by repeat (first | exact gT | refine eP rfl (bt (by decide) rfl) ?_)) ?_
 all_goals skip
 all_goals exact ir (pQ rfl rfl (congrArg (fun s => Ty.agg (bX.tys s)) (Nj h.net (Nat.succ_pos _) h.bd hfe)))
set_option maxRecDepth 100000 in
theorem OT (y : aj) (c : Nat → Bool) (a : List Int) (hr : y.bw) (hl : a.length = (aQ y c).length) : dP Tryz.prog 120 [Ty.pp (lB y (aQ y c) a)] (mm (fQ y a)) := by
 refine ak Tryz.func120 rfl (by decide) Tryz.ntmps120 (by exact Nat.le_of_ble_eq_true rfl) fun w0 M0 => ?_
 have hfl := ef (y := y) (c := c)
 have h1 := hr.bins
 have h2 := hr.days
 have h3 := D_eq hr
 have h4 := hr.moves
 have hf34 : (aQ y c).length ≤ 34 := jC hr
 refine aE (aA ?_)
 refine bh rfl (by exact List.cons_ne_nil _ _) rfl ?_
 refine aD (aC (aE (aA ?_)))
 refine bh rfl (by exact List.cons_ne_nil _ _) rfl ?_
 refine aD (aC (aE (aE (aA (iq rfl (bW rfl ?_))))))
 refine aI rfl rfl rfl rfl rfl (by decide) ?_
 refine aI rfl rfl rfl rfl rfl (by decide) ?_
 refine aJ rfl rfl rfl rfl (b9 rfl rfl rfl (bG rfl (aD (aC (aa ?_)))))
 refine cG (fun (k : {k : Nat // k ≤ y.bins.length}) => live [(0, Ty.pp (lB y (aQ y c) a)), (2, Ty.ptr 3 0), (3, Ty.ptr 4 0), (9, Ty.sl fL y.bins), (10, Ty.int .i64 y.bins.length), (11, Ty.int .i64 (k.1 : Nat))] [(3, Cont.cells 30 [Ty.ex (.slice none 0 0), Ty.ex (.slice none 0 0)]), (4, Cont.cells 30 [Ty.row cz 3 26 (gy y a k.1), Ty.ex (.slice none 0 0)])]) (fun k => y.bins.length - k.1) (⟨0, by omega⟩) ?_ fun k => ?_
 ·(refine cg.mk' ?_ ?_ <;> (repeat' (first | exact aL | exact aK | exact cv | refine aB ?_ (Ty.aT _) | refine aB ?_ (Ty.aF _) | refine aG rfl (Cont.aF _) ?_ | refine aG rfl (Cont.ct ?_) ?_ | refine bJ ?_ (Ty.aF _) | refine bJ ?_ ?_)))
  all_goals exact DK vD
 have hk := k.2
 have hfk := wh (y := y) (a := a) k.1
 refine aE (aA (bB rfl rfl rfl (aD (aC (aE ?_)))))
 refine aq rfl (fun hc1 => ?_) (fun hc1 => ?_)
 ·
  refine af (aC (aE (aa (aE (aA (bG rfl (bu rfl (aD (aC ?_)))))))))
  have hkl := JA hl (show k.1 < y.bins.length by omega)
  refine cL mixed rfl ?_
  refine aR rfl rfl rfl rfl rfl (by decide) ?_
  refine aY rfl rfl (by decide) rfl rfl rfl ?_
  refine iq rfl (bW rfl ?_)
  refine aI rfl rfl rfl rfl rfl (by decide) ?_
  refine aJ rfl rfl rfl rfl (iq rfl (bG rfl ?_))
  refine eC [] (wm y hr k.1 0 (by omega) (Nat.zero_le _)) rfl (aW (kX (l1 := bA y) (l2 := [Ty.sl dS (aQ y c), Ty.sl cz a]) rfl rfl) (aW (bV (bT rfl rfl)) (aW (bV (bT rfl rfl)) cP))) (by exact dU _ _) ?_
  refine au rfl rfl rfl rfl rfl rfl (by omega) ?_
  refine aJ rfl rfl rfl rfl ?_
  refine bg (E := cz) (xs := [_]) rfl rfl rfl rfl rfl (by decide) (by decide) (by repeat (first | exact (aV.nil : aV _ _ [] _) | (show aV _ _ ((_, _) :: _) _; apply aV.one; (· exact (rfl : _ = Ty.int _ _)); (· exact rfl)))) (by exact rfl) rfl ?_
  refine dy rfl rfl (by decide) rfl rfl rfl rfl rfl rfl (by decide) (by (simp <;> omega)) (by (simp <;> omega)) ?_
  refine aR rfl rfl rfl rfl rfl (by decide) ?_
  refine cr rfl rfl (by decide) rfl rfl (by exact (rfl : _ = Ty.row _ _ _ _)) rfl (by exact Nat.le_of_ble_eq_true rfl) rfl rfl (by exact rfl) ?_
  refine aD ?_
  refine ⟨by kernel_rfl, ?_⟩
  refine bM (aC (aA ?_))
  refine cB rfl rfl (by omega) (by omega) ?_
  refine bG rfl (aD ?_)
  refine bR (⟨k.1 + 1, by omega⟩) ?_ (by show y.bins.length - (k.1 + 1) < y.bins.length - k.1; omega)
  (refine cg.mk' ?_ ?_ <;> (repeat' (first | exact aL | exact aK | exact cv | refine aB ?_ (Ty.aT _) | refine aB ?_ (Ty.aF _) | refine aG rfl (Cont.aF _) ?_ | refine aG rfl (Cont.ct ?_) ?_ | refine bJ ?_ (Ty.aF _) | refine bJ ?_ ?_)))
  all_goals skip
  all_goals exact Ty.fH (uj _)
 refine cH (aP (aP (ah rfl (aC (aE (cL mixed rfl (iq rfl (bW rfl ?_))))))))
 refine aI rfl rfl rfl rfl rfl (by decide) ?_
 refine aJ rfl rfl rfl rfl (iq rfl (bW rfl ?_))
 refine aI rfl rfl rfl rfl rfl (by decide) ?_
 refine aJ rfl rfl rfl rfl (b9 rfl rfl rfl (iq rfl (bW rfl ?_)))
 refine aI rfl rfl rfl rfl rfl (by decide) ?_
 refine aI rfl rfl rfl rfl rfl (by decide) ?_
 refine aJ rfl rfl rfl rfl (b9 rfl rfl rfl ?_)
 refine gZ rfl rfl (by omega) (by omega) ?_
 refine B0 (lo := y.bins.length * (y.D + 1)) rfl (by exact congrArg (Ty.int .i64) (by rw [hfl]; omega : ((aQ y c).length : Int) - (y.moves.length : Int) = ((y.bins.length * (y.D + 1) : Nat) : Int))) rfl rfl rfl rfl (by rw [hl]; omega) ?_
 refine aZ (um _ (by rw [List.length_drop]; omega)) rfl rfl rfl rfl rfl ?_
 refine aR rfl rfl rfl rfl rfl (by decide) ?_
 refine cr rfl rfl (by decide) rfl rfl (by exact (rfl : _ = Ty.sl _ _)) rfl (by exact Nat.le_of_ble_eq_true rfl) rfl rfl (by exact rfl) ?_
 refine aD ?_
 refine ⟨by kernel_rfl, ?_⟩
 refine aC (aE (aA ?_))
 refine bP rfl rfl (by decide) rfl rfl (by exact Nat.le_of_ble_eq_true rfl) ?_
 refine bO rfl rfl (by decide) rfl rfl rfl rfl rfl rfl ?_
 refine aD (aC (az ?_))
 refine jx rfl rfl rfl rfl (by decide) rfl rfl rfl ?_
 exact A9 (ts := fR (fQ y a)) (mC (rO (by decide) (show gy y a k.1 = (fQ y a).first by rw [show k.1 = y.bins.length by have := k.2; omega]; exact congrArg dF.first (told_eq y a))) (mC (cE rfl rfl) x6))
end Go.Proofs.YtelbollidfdcjaaGreat
