/- Lemmas: the program and the reference walked, plain laws. -/
import Derived.Test.YtelbollidfdcjaaGreatLe
namespace Go.Proofs.YtelbollidfdcjaaGreat
open Go Go.T
set_option maxHeartbeats 8000000
section
variable {y : aj} {p : rm}
theorem PR (h0 : bO y = 0) (h : (A6 y).fits = true) : 6 = j9 y := (C6 (cZ h0) ((Bp h0).1 h)).symm
theorem RA (h0 : bO y = 0) (h : (A6 y).fits = false) : 0 = j9 y := (F3 (cZ h0) fun ho => by rw [(Bp h0).2 ho] at h; cases h).2.1.symm
theorem L7 : (jw y).cells.length ≤ 20 := by
 by_cases h0 : bO y = 0
 ·exact KM (cZ h0)
 rw [← (zE h0).2]; exact Nat.zero_le _
theorem OL (h : ¬ j9 y = 0) : jw y = ⟨[], false⟩ := by
  by_cases h0 : bO y = 0
  · by_cases h1 : e8 (aO y (nth bE)) > 0
    · exact absurd (FW h0 h1).1.symm h
    · cases e : (bh (aO y (nth bE)) (y.cells + 1) (fN (aO y (nth bE)))).2.1 with
      | false => exact (GU h0 h1 e).2.symm
      | true => exact absurd (FO h0 h1 e).1.symm h
  · exact (zE h0).2.symm
theorem LF (h : j9 y = 0) : y.bY ∧ iz y (jw y) = 0 := by
 have h0 : bO y = 0 := by
  by_cases h0 : bO y = 0
  ·exact h0
  rw [← (zE h0).1] at h; exact h
 have hr := cZ h0
 refine ⟨hr, (F3 hr fun ho => ?_).2.2.1⟩
 rw [C6 hr ho] at h; cases h
theorem Kh : (((!decide (j9 y = j9 y) || !decide (iz y p = iz y p)) || !decide (kQ y p = kQ y p)) || decide (((jw y).cells.length : Int) > 20)) = false := by
 have := L7 (y := y)
 rw [decide_eq_false (show ¬ ((jw y).cells.length : Int) > 20 by omega)]; simp
theorem Lo : (!decide (j9 y = 0) && (decide (((jw y).cells.length : Int) > 0) || (jw y).out)) = false := by
 by_cases h : j9 y = 0
 ·simp [h]
 rw [OL h]; simp
end
attribute [local irreducible] cX A6 CN qP bO j9 jw iz kQ
attribute [local irreducible] gF eX lq nY g7 gx g9 g5 g8 nW gz nT dM fj nM gC oB nth fW dR ay dK bodyPost Exit.then Exit.inBlock Code.wp Code.wpIn n9 hO nO ni gy eU cM cN bodyPostM dO
set_option maxRecDepth 100000 in
theorem yy (y : aj) (p : rm) (hf : y.Fit) : dK Tryz.prog 9 [eA y, Ty.agg (dn p)] (Ty.bool true) := by
 refine au Tryz.func9 rfl (by decide) Tryz.ntmps9 (by exact Nat.le_of_ble_eq_true rfl) fun w0 M0 => ?_
 refine aE (aB (bH rfl (bH rfl (dF rfl (aD (aC (aE (aE (aB ?_)))))))))
 refine aY rfl rfl rfl (by exact Nat.le_of_ble_eq_true rfl) ?_
 refine ak (O9 y hf) rfl rfl rfl rfl rfl (eF rfl ?_)
 apply aM (s := 19) rfl rfl rfl
 ·intro hg; apply aP; (refine aJ rfl rfl rfl rfl rfl (by decide) ?_); refine aD ?_; exact rfl
 ·exact rfl
 ·exact rfl
 apply aM (s := 19) rfl rfl rfl
 ·intro hg; apply aK (s := 20) rfl (by (rw [hg]; rfl)); apply aP; (refine aL rfl rfl rfl rfl ?_); refine aD ?_; exact rfl
 ·exact rfl
 ·exact rfl
 apply aM (s := 19) rfl rfl rfl
 ·intro hg; apply aK (s := 21) rfl (by (rw [hg]; rfl)); apply aP; (refine b9 rfl rfl rfl ?_); refine aD ?_; exact rfl
 ·exact rfl
 ·exact rfl
 apply aM (s := 19) rfl rfl rfl
 ·intro hg; apply aK (s := 22) rfl (by (rw [hg]; rfl)); apply aP; (refine bA rfl rfl rfl ?_); refine aD ?_; exact rfl
 ·exact rfl
 ·exact rfl
 refine iK rfl rfl (aD (aC ?_))
 refine cF rfl (fun hc1 => ?_) (fun hc1 => ?_)
 ·
  refine aE (aB (ak (F7) rfl rfl rfl rfl rfl (dF rfl (aD (aC (az (aS (bU rfl rfl ?_))))))))
  all_goals exact cI rfl rfl
  all_goals trace_state
 refine af (aC (aE ?_))
 have hgr := hc1
 rw [Bool.or_eq_false_iff, decide_eq_false_iff_not] at hgr
 have hs := uk (EK hgr.1)
 have hpl : p.cells.length ≤ 1000 := by have := hgr.2; omega
 refine cH mixed rfl ?_
 refine aY rfl rfl rfl (by exact Nat.le_of_ble_eq_true rfl) ?_
 refine ak (Qx y hs) rfl rfl rfl rfl rfl ?_
 refine aY rfl rfl rfl (by exact Nat.le_of_ble_eq_true rfl) ?_
 refine ak (JG y hs) rfl rfl rfl rfl rfl ?_
 refine bf rfl (by exact List.cons_ne_nil _ _) rfl ?_
 refine bf rfl (by exact List.cons_ne_nil _ _) rfl ?_
 refine bS rfl rfl (by decide) rfl rfl rfl rfl rfl rfl ?_
 refine bS rfl rfl (by decide) rfl rfl rfl rfl rfl rfl ?_
 refine aD ?_
 refine ⟨by kernel_rfl, ?_⟩
 refine aC (aE (cH mixed rfl ?_))
 refine aJ rfl rfl rfl rfl rfl (by decide) ?_
 refine aL rfl rfl rfl rfl (ak (Ia p.cells hpl) rfl rfl rfl rfl rfl ?_)
 refine aJ rfl rfl rfl rfl rfl (by decide) ?_
 refine aL rfl rfl rfl rfl ?_
 refine cq rfl rfl (by exact List.cons_ne_nil _ _) rfl (by repeat (first | exact (aV.nil : aV _ _ [] _) | (show aV _ _ ((_, _) :: _) _; apply aV.one; (· first | exact (rfl : _ = Ty.sl _ _) | exact (rfl : _ = Ty.bool _)); (· exact rfl)))) (by exact (rfl : _ = some [_, _])) ?_
 refine bf rfl (by exact List.cons_ne_nil _ _) rfl ?_
 refine bS rfl rfl (by decide) rfl rfl rfl rfl rfl rfl ?_
 refine aD ?_
 refine ⟨by kernel_rfl, ?_⟩
 refine aC (aE (aB ?_))
 refine bu rfl rfl (by decide) rfl rfl (by exact Nat.le_of_ble_eq_true rfl) ?_
 refine ak (C4 y hs) rfl rfl rfl rfl rfl (bZ rfl (aD (aC (aE ?_))))
 refine gl (s := 8) rfl (Ty.bD (check_eq y)) ?_
 refine aB (bG rfl (bZ rfl (aD (aC (aE (aB (bZ rfl (aD (aC ?_)))))))))
 refine iZ (J := live [(2, Ty.pp (bC y)), (3, Ty.pp (dn p)), (5, Ty.ptr 6 0), (6, Ty.ptr 7 0), (7, Ty.ptr 8 0), (8, Ty.int .i64 (j9 y)), (9, Ty.int .i64 (iz y p)), (10, Ty.int .i64 (kQ y p))] [(6, Cont.cells 27 (bC y)), (7, Cont.cells 60 (bC y)), (8, Cont.cells 106 (dn p))]) ?_ ?_
 ·
  refine aE ?_
  refine fR (B := live [(2, Ty.pp (bC y)), (3, Ty.pp (dn p)), (5, Ty.ptr 6 0), (6, Ty.ptr 7 0), (7, Ty.ptr 8 0), (8, Ty.int .i64 (bO y)), (9, Ty.int .i64 (bO y)), (10, Ty.int .i64 (0))] [(6, Cont.cells 27 (bC y)), (7, Cont.cells 60 (bC y)), (8, Cont.cells 106 (dn p))]) ?_ ?_
  ·refine cV.mk' ?_ ?_
   ·(repeat (first | refine aA ?_ (Ty.aT _) | refine aA ?_ (Ty.aF _))); exact aH
   refine aG rfl (Cont.aF _) ?_; refine aG rfl (Cont.aF _) ?_; refine aG rfl (Cont.aF _) ?_; exact aI
  refine aB (bG rfl (bA rfl rfl rfl (aD (aC ?_))))
  refine ah rfl (fun hc2 => ?_) (fun hc2 => ?_)
  ·
   refine iZ (J := live [(2, Ty.pp (bC y)), (3, Ty.pp (dn p)), (5, Ty.ptr 6 0), (6, Ty.ptr 7 0), (7, Ty.ptr 8 0), (8, Ty.int .i64 (j9 y))] [(6, Cont.cells 27 (bC y)), (7, Cont.cells 60 (bC y)), (8, Cont.cells 106 (dn p))]) ?_ ?_
   ·
    refine aE ?_
    have h0 : bO y = 0 := hc2
    have hr := cZ h0
    refine aB ?_
    refine bu rfl rfl (by decide) rfl rfl (by exact Nat.le_of_ble_eq_true rfl) ?_
    refine ak (RT y hr) rfl rfl rfl rfl rfl (It rfl rfl rfl rfl rfl rfl rfl (aD (aC ?_)))
    refine cF rfl (fun hc3 => ?_) (fun hc3 => ?_)
    ·
     refine aB (bZ rfl (aD (dX ?_)))
     (refine cV.mk' ?_ ?_ <;> (repeat' (first | exact aH | exact aI | refine aA ?_ (Ty.aT _) | refine aA ?_ (Ty.aF _) | refine aG rfl (Cont.aF _) ?_ | refine aA ?_ ?_)))
     all_goals exact Ty.bD (PR h0 hc3)
    refine af (dX ?_)
    (refine cV.mk' ?_ ?_ <;> (repeat' (first | exact aH | exact aI | refine aA ?_ (Ty.aT _) | refine aA ?_ (Ty.aF _) | refine aG rfl (Cont.aF _) ?_ | refine aA ?_ ?_)))
    all_goals exact Ty.bD (h0.trans (RA h0 hc3))
   have h0 : bO y = 0 := hc2
   have hr := cZ h0
   refine cH mixed rfl ?_
   refine bu rfl rfl (by decide) rfl rfl (by exact Nat.le_of_ble_eq_true rfl) ?_
   refine aJ rfl rfl rfl rfl rfl (by decide) ?_
   refine aL rfl rfl rfl rfl (ak (wN p.cells hpl) rfl rfl rfl rfl rfl ?_)
   refine aJ rfl rfl rfl rfl rfl (by decide) ?_
   refine aL rfl rfl rfl rfl (ak (Gq y hr p.cells p.out hpl) rfl rfl rfl rfl rfl (rH rfl (bN rfl rfl (bN rfl rfl (bZ rfl (bZ rfl (aD ?_)))))))
   refine ⟨by kernel_rfl, ?_⟩
   refine dX ?_
   (refine cV.mk' ?_ ?_ <;> (repeat' (first | exact aH | exact aI | refine aA ?_ (Ty.aT _) | refine aA ?_ (Ty.aF _) | refine aG rfl (Cont.aF _) ?_)))
   all_goals trace_state
  refine af (dX ?_)
  (refine cV.mk' ?_ ?_ <;> (repeat' (first | exact aH | exact aI | refine aA ?_ (Ty.aT _) | refine aA ?_ (Ty.aF _) | refine aG rfl (Cont.aF _) ?_ | refine aA ?_ ?_)))
  all_goals first | exact Ty.bD (zE hc2).1 | exact Ty.bD (Fe hc2).1 | exact Ty.bD (Fe hc2).2
 refine aE (aB ?_)
 refine bu rfl rfl (by decide) rfl rfl (by exact Nat.le_of_ble_eq_true rfl) ?_
 refine ak (Mg y hs) rfl rfl rfl rfl rfl (rH rfl (bN rfl rfl (bN rfl rfl ?_)))
 refine bf rfl (by exact List.cons_ne_nil _ _) rfl ?_
 refine bS rfl rfl (by decide) rfl rfl rfl rfl rfl rfl ?_
 refine bZ rfl (aD (aC (aE ?_)))
 refine fR (B := live [(2, Ty.pp (bC y)), (3, Ty.pp (dn p)), (5, Ty.ptr 6 0), (6, Ty.ptr 7 0), (7, Ty.ptr 8 0), (8, Ty.int .i64 (j9 y)), (9, Ty.int .i64 (iz y p)), (10, Ty.int .i64 (kQ y p)), (11, Ty.ptr 12 0), (12, Ty.int .i64 (j9 y))] [(6, Cont.cells 27 (bC y)), (7, Cont.cells 60 (bC y)), (8, Cont.cells 106 (dn p)), (12, Cont.cells 106 (dn (jw y)))]) ?_ ?_
 ·refine cV.mk' ?_ ?_
  ·(repeat (first | refine aA ?_ (Ty.aT _) | refine aA ?_ (Ty.aF _))); exact aH
  refine aG rfl (Cont.aF _) ?_; refine aG rfl (Cont.aF _) ?_; refine aG rfl (Cont.aF _) ?_; refine aG rfl (Cont.aF _) ?_; exact aI
 refine aB ?_
 refine bu rfl rfl (by decide) rfl rfl (by exact Nat.le_of_ble_eq_true rfl) ?_
 refine bu rfl rfl (by decide) rfl rfl (by exact Nat.le_of_ble_eq_true rfl) ?_
 refine ak (B6 y hs p hpl) rfl rfl rfl rfl rfl (rH rfl (bN rfl rfl (bN rfl rfl (bZ rfl (bZ rfl (aD (aC (aE (aE ?_)))))))))
 refine fR (B := live [(2, Ty.pp (bC y)), (3, Ty.pp (dn p)), (5, Ty.ptr 6 0), (6, Ty.ptr 7 0), (7, Ty.ptr 8 0), (8, Ty.int .i64 (j9 y)), (9, Ty.int .i64 (iz y p)), (10, Ty.int .i64 (kQ y p)), (11, Ty.ptr 12 0), (12, Ty.int .i64 (j9 y)), (13, Ty.int .i64 (kQ y p)), (14, Ty.int .i64 (iz y p))] [(6, Cont.cells 27 (bC y)), (7, Cont.cells 60 (bC y)), (8, Cont.cells 106 (dn p)), (12, Cont.cells 106 (dn (jw y)))]) ?_ ?_
 ·refine cV.mk' ?_ ?_
  ·(repeat (first | refine aA ?_ (Ty.aT _) | refine aA ?_ (Ty.aF _))); exact aH
  refine aG rfl (Cont.aF _) ?_; refine aG rfl (Cont.aF _) ?_; refine aG rfl (Cont.aF _) ?_; refine aG rfl (Cont.aF _) ?_; exact aI
 refine aB (bG rfl (bG rfl (bA rfl rfl rfl (eF rfl ?_))))
 apply aM (s := 68) rfl rfl rfl
 ·intro hg; apply aP; (refine bG rfl ?_); refine aD ?_; exact rfl
 ·exact rfl
 ·exact rfl
 apply aM (s := 68) rfl rfl rfl
 ·intro hg; apply aP; (refine bG rfl ?_); refine aD ?_; exact rfl
 ·exact rfl
 ·exact rfl
 apply aM (s := 68) rfl rfl rfl
 ·intro hg; apply aK (s := 69) rfl (by (rw [hg]; rfl)); apply aK (s := 70) rfl (by (rw [hg]; rfl)); apply aP; (refine bA rfl rfl rfl ?_); refine aD ?_; exact rfl
 ·exact rfl
 ·exact rfl
 refine iK rfl rfl (eF rfl ?_)
 apply aM (s := 73) rfl rfl rfl
 ·intro hg; apply aP; (refine bG rfl ?_); refine aD ?_; exact rfl
 ·exact rfl
 ·exact rfl
 apply aM (s := 73) rfl rfl rfl
 ·intro hg; apply aP; (refine bG rfl ?_); refine aD ?_; exact rfl
 ·exact rfl
 ·exact rfl
 apply aM (s := 73) rfl rfl rfl
 ·intro hg; apply aK (s := 74) rfl (by (rw [hg]; rfl)); apply aK (s := 75) rfl (by (rw [hg]; rfl)); apply aP; (refine bA rfl rfl rfl ?_); refine aD ?_; exact rfl
 ·exact rfl
 ·exact rfl
 refine iK rfl rfl (eF rfl ?_)
 apply aM (s := 78) rfl rfl rfl
 ·intro hg; apply aP; (refine aR rfl rfl rfl rfl rfl (by decide) ?_); refine aD ?_; exact rfl
 ·exact rfl
 ·exact rfl
 apply aM (s := 78) rfl rfl rfl
 ·intro hg; apply aK (s := 79) rfl (by (rw [hg]; rfl)); apply aP; (refine aX rfl rfl (by decide) rfl rfl rfl ?_); refine aD ?_; exact rfl
 ·exact rfl
 ·exact rfl
 apply aM (s := 78) rfl rfl rfl
 ·intro hg; apply aK (s := 80) rfl (by (rw [hg]; rfl)); apply aP; (refine b9 rfl rfl rfl ?_); refine aD ?_; exact rfl
 ·exact rfl
 ·exact rfl
 apply aM (s := 78) rfl rfl rfl
 ·intro hg; apply aK (s := 81) rfl (by (rw [hg]; rfl)); apply aP; (refine bA rfl rfl rfl ?_); refine aD ?_; exact rfl
 ·exact rfl
 ·exact rfl
 refine iK rfl rfl (aD (aC (jm rfl (Kh) (af (aC (aE (aE ?_)))))))
 refine fR (B := live [(2, Ty.pp (bC y)), (3, Ty.pp (dn p)), (5, Ty.ptr 6 0), (6, Ty.ptr 7 0), (7, Ty.ptr 8 0), (11, Ty.ptr 12 0), (8, Ty.int .i64 (j9 y))] [(6, Cont.cells 27 (bC y)), (7, Cont.cells 60 (bC y)), (8, Cont.cells 106 (dn p)), (12, Cont.cells 106 (dn (jw y)))]) ?_ ?_
 ·refine cV.mk' ?_ ?_
  ·(repeat (first | refine aA ?_ (Ty.aT _) | refine aA ?_ (Ty.aF _))); exact aH
  refine aG rfl (Cont.aF _) ?_; refine aG rfl (Cont.aF _) ?_; refine aG rfl (Cont.aF _) ?_; refine aG rfl (Cont.aF _) ?_; exact aI
 refine aB (bG rfl (bA rfl rfl rfl (eF rfl ?_)))
 apply aM (s := 86) rfl rfl rfl
 ·intro hg; apply aP; (refine aR rfl rfl rfl rfl rfl (by decide) ?_); refine aD ?_; exact rfl
 ·exact rfl
 ·exact rfl
 apply aM (s := 86) rfl rfl rfl
 ·intro hg; apply aK (s := 87) rfl (by (rw [hg]; rfl)); apply aP; (refine aX rfl rfl (by decide) rfl rfl rfl ?_); refine aD ?_; exact rfl
 ·exact rfl
 ·exact rfl
 apply aM (s := 86) rfl rfl rfl
 ·intro hg; apply aK (s := 88) rfl (by (rw [hg]; rfl)); apply aP; (refine b9 rfl rfl rfl ?_); refine aD ?_; exact rfl
 ·exact rfl
 ·exact rfl
 apply aM (s := 86) rfl rfl rfl
 ·intro hg; apply aK (s := 89) rfl (by (rw [hg]; rfl)); apply aP; (refine bA rfl rfl rfl ?_); refine aD ?_; exact rfl
 ·exact rfl
 ·exact rfl
 apply aM (s := 86) rfl rfl rfl
 ·intro hg; apply aK (s := 90) rfl (by (rw [hg]; rfl)); apply aP; (refine eF rfl ?_); refine aD ?_; exact rfl
 ·exact rfl
 ·exact rfl
 apply eI (s := 91) rfl rfl rfl
 ·intro hg1 hg2; apply aP; (refine aR rfl rfl rfl rfl rfl (by decide) ?_); refine aD ?_; exact rfl
 ·exact rfl
 ·exact rfl
 apply eI (s := 91) rfl rfl rfl
 ·intro hg1 hg2; apply aK (s := 92) rfl (by (rw [hg1, hg2]; rfl)); apply aP; (refine aX rfl rfl (by decide) rfl rfl rfl ?_); refine aD ?_; exact rfl
 ·exact rfl
 ·exact rfl
 apply aM (s := 86) rfl rfl rfl
 ·intro hg; apply aK (s := 91) rfl (by (rw [hg]; rfl)); apply mZ (s := 93) rfl (by (rw [hg]; rfl)); apply aP; (refine iK rfl rfl ?_); refine aD ?_; exact rfl
 ·exact rfl
 ·exact rfl
 refine dm rfl rfl (aD (aC (jm rfl (Lo) (af (aC ?_)))))
 refine iZ (J := live [(2, Ty.pp (bC y)), (3, Ty.pp (dn p)), (5, Ty.ptr 6 0), (6, Ty.ptr 7 0), (7, Ty.ptr 8 0), (11, Ty.ptr 12 0)] [(6, Cont.cells 27 (bC y)), (7, Cont.cells 60 (bC y)), (8, Cont.cells 106 (dn p)), (12, Cont.cells 106 (dn (jw y)))]) ?_ ?_
 ·
  refine aE ?_
  refine fR (B := live [(2, Ty.pp (bC y)), (3, Ty.pp (dn p)), (5, Ty.ptr 6 0), (6, Ty.ptr 7 0), (7, Ty.ptr 8 0), (11, Ty.ptr 12 0), (8, Ty.int .i64 (j9 y))] [(6, Cont.cells 27 (bC y)), (7, Cont.cells 60 (bC y)), (8, Cont.cells 106 (dn p)), (12, Cont.cells 106 (dn (jw y)))]) ?_ ?_
  ·refine cV.mk' ?_ ?_
   ·(repeat (first | refine aA ?_ (Ty.aT _) | refine aA ?_ (Ty.aF _))); exact aH
   refine aG rfl (Cont.aF _) ?_; refine aG rfl (Cont.aF _) ?_; refine aG rfl (Cont.aF _) ?_; refine aG rfl (Cont.aF _) ?_; exact aI
  refine aB (bG rfl (bA rfl rfl rfl (aD (aC ?_))))
  refine ah rfl (fun hc6 => ?_) (fun hc6 => ?_)
  ·
   refine aE ?_
   have hpr := LF hc6
   have hql := L7 (y := y)
   refine cH mixed rfl ?_
   refine bu rfl rfl (by decide) rfl rfl (by exact Nat.le_of_ble_eq_true rfl) ?_
   refine aR rfl rfl rfl rfl rfl (by decide) ?_
   refine aX rfl rfl (by decide) rfl rfl rfl ?_
   refine ak (wN (jw y).cells (by omega)) rfl rfl rfl rfl rfl ?_
   refine aR rfl rfl rfl rfl rfl (by decide) ?_
   refine aX rfl rfl (by decide) rfl rfl rfl ?_
   refine ak (Gq y hpr.1 (jw y).cells (jw y).out (by omega)) rfl rfl rfl rfl rfl ?_
   refine rH rfl (bN rfl rfl (bN rfl rfl (bZ rfl (bZ rfl (aD ?_)))))
   refine ⟨by kernel_rfl, ?_⟩
   refine aC (aE (aB (bG rfl (bA rfl rfl rfl (aD (aC ?_))))))
   refine jm rfl ((by have := hpr.2; simpa using this)) ?_
   refine af (dX ?_)
   (refine cV.mk' ?_ ?_ <;> (repeat' (first | exact aH | exact aI | refine aA ?_ (Ty.aT _) | refine aA ?_ (Ty.aF _) | refine aG rfl (Cont.aF _) ?_)))
   all_goals trace_state
  refine af (dX ?_)
  (refine cV.mk' ?_ ?_ <;> (repeat' (first | exact aH | exact aI | refine aA ?_ (Ty.aT _) | refine aA ?_ (Ty.aF _) | refine aG rfl (Cont.aF _) ?_)))
  all_goals trace_state
 refine aE (aB ?_)
 refine bu rfl rfl (by decide) rfl rfl (by exact Nat.le_of_ble_eq_true rfl) ?_
 refine aY rfl rfl rfl (by exact Nat.le_of_ble_eq_true rfl) ?_
 refine ak (PL _ _) rfl rfl rfl rfl rfl (eF rfl ?_)
 apply aM (s := 113) rfl rfl rfl
 ·intro hg; apply aP; (refine aR rfl rfl rfl rfl rfl (by decide) ?_); refine aD ?_; exact rfl
 ·exact rfl
 ·exact rfl
 apply aM (s := 113) rfl rfl rfl
 ·intro hg; apply aK (s := 114) rfl (by (rw [hg]; rfl)); apply aP; (refine aX rfl rfl (by decide) rfl rfl rfl ?_); refine aD ?_; exact rfl
 ·exact rfl
 ·exact rfl
 apply aM (s := 113) rfl rfl rfl
 ·intro hg; apply aP; (refine aJ rfl rfl rfl rfl rfl (by decide) ?_); refine aD ?_; exact rfl
 ·exact rfl
 ·exact rfl
 apply aM (s := 113) rfl rfl rfl
 ·intro hg; apply aK (s := 116) rfl (by (rw [hg]; rfl)); apply aP; (refine aL rfl rfl rfl rfl ?_); refine aD ?_; exact rfl
 ·exact rfl
 ·exact rfl
 apply aM (s := 113) rfl rfl rfl
 ·intro hg; apply aK (s := 115) rfl (by (rw [hg]; rfl)); apply aK (s := 117) rfl (by (rw [hg]; rfl)); apply aP; (refine ak (L0 _ _) rfl rfl rfl rfl rfl ?_); refine aD ?_; exact rfl
 ·exact rfl
 ·exact rfl
 refine dm rfl rfl (eF rfl ?_)
 apply aM (s := 120) rfl rfl rfl
 ·intro hg; apply aP; (refine ak (F7) rfl rfl rfl rfl rfl ?_); refine aD ?_; exact rfl
 ·exact rfl
 ·exact rfl
 refine dm rfl rfl (dF rfl (aD (aC (az (bU rfl rfl ?_)))))
 all_goals skip
 all_goals exact av rfl rfl (congrArg Ty.bool (by simp [Eh]))
end Go.Proofs.YtelbollidfdcjaaGreat
namespace Go.T
open Go Go.RowKit Go.ChangeShapes Go.WideShapes Go.ChangeAt
def oA : bF := fun _ => none
theorem Ny (w : World) : Wf w oA := ⟨fun _ _ h => (by cases h), fun _ _ _ _ h => (by cases h)⟩
theorem IN : ∀ b t, oA b = some t → t = 0 := fun _ _ h => by cases h
structure Rd {α : Type} (P : Program) (e : TypeId) (E : El α) : Prop where
  size : P.cellsOf e = E.size
  pos : 0 < E.size
  rd : ∀ {H : Type} {enc : TypeId × Value → H} {w : World} {base : Nat} {held : Bool} {n : Nat} {cs : List Value} {y : DataW H × List MemPlace}, DataW.trod enc P w base (fun _ => true) held n e cs = some y → ∃ x, cK w oA (E.tys x) cs
section
variable {H : Type} {enc : TypeId × Value → H} {P : Program} {w : World} {base : Nat} {held : Bool} {α : Type} {E : El α} {t e : TypeId} {n : Nat} {cs : List Value} {y : DataW H × List MemPlace}
theorem Qz (hR : Rd P e E) (ht : P.underlying t = some (.slice e)) (h : DataW.trod enc P w base (fun _ => true) held n t cs = some y) : ∃ v xs, cs = [v] ∧ (Ty.sl E xs).den w oA v := by
 rcases Go.Deep.open_slice ht h with ⟨rfl, _⟩ | ⟨a, len, cap, m, k, D, Pl, rfl, _, hl, hm, hmm, _, hel⟩
 ·exact ⟨_, [], rfl, none, 0, rfl, Nat.le_refl _, Nat.zero_le _, fun h => absurd h (Nat.lt_irrefl _)⟩
 have hlm : len ≤ m := by rw [hmm]; simpa using hl
 have hX : ∀ i : Fin len, ∃ x : α, ∃ cs', w.cells? base (a.add (i.1 * P.cellsOf e)) (P.cellsOf e) = some cs' ∧ cK w oA (E.tys x) cs' := fun i => by
  obtain ⟨cs', h1, h2⟩ := hel i.1 (Nat.lt_of_lt_of_le i.2 hlm)
  obtain ⟨x, hx⟩ := hR.rd h2
  exact ⟨x, cs', h1, hx⟩
 let X : Fin len → α := fun i => (hX i).choose
 have hXs : ∀ i : Fin len, ∃ cs', w.cells? base (a.add (i.1 * P.cellsOf e)) (P.cellsOf e) = some cs' ∧ cK w oA (E.tys (X i)) cs' := fun i => (hX i).choose_spec
 have hlen : (List.ofFn X).length = len := by simp
 refine ⟨_, List.ofFn X, rfl, some a, cap, by rw [hlen], by rw [hlen]; exact hl, hm, fun h0 => ?_⟩
 rw [hlen] at h0
 have hcell : ∀ (i : Fin len) (j : Nat) (u : Ty), (E.tys (X i))[j]? = some u → ∃ v, w.cell? (a.add (i.1 * E.size + j)) = some v ∧ u.den w oA v := fun i j u hu => by
  obtain ⟨cs', h1, h2⟩ := hXs i
  obtain ⟨v, hv, hd⟩ := dQ h2 j u hu
  obtain ⟨_, g1, g2⟩ := World.cells?_some h1
  have hj : j < P.cellsOf e := by
   rw [hR.size, ← E.len (X i)]
   exact (List.getElem?_eq_some_iff.1 hu).1
  refine ⟨v, ?_, hd⟩
  have := g2 j hj
  rw [Go.Deep.add_add, hv, hR.size] at this
  exact this
 have hsz := hR.pos
 have hfirst : ∃ v, w.cell? (a.add 0) = some v := by
  obtain ⟨u, hu⟩ : ∃ u, (E.tys (X ⟨0, h0⟩))[0]? = some u := ⟨_, List.getElem?_eq_getElem (by rw [E.len]; exact hsz)⟩
  obtain ⟨v, hv, _⟩ := hcell ⟨0, h0⟩ 0 u hu
  exact ⟨v, by simpa using hv⟩
 obtain ⟨b, off, sp⟩ := a
 obtain ⟨v0, hv0⟩ := hfirst
 have hsp : sp = none := by simpa [Addr.add] using World.cell?_spot hv0
 subst hsp
 have hb : b < w.heap.size := by
  obtain ⟨cs', h1, _⟩ := hXs ⟨0, h0⟩
  have := World.cells?_block h1 (by rw [hR.size]; exact hsz)
  simpa [Addr.add] using this
 refine ⟨b, off, rfl, rfl, hb, fun i u hu => ?_⟩
 have hi : i < len * E.size := by
  have := (List.getElem?_eq_some_iff.1 hu).1
  rw [dB, hlen] at this; exact this
 have hk : i / E.size < len := Nat.div_lt_of_lt_mul (by rw [Nat.mul_comm]; exact hi)
 have hj : i % E.size < E.size := Nat.mod_lt _ hsz
 have hij : i / E.size * E.size + i % E.size = i := by rw [Nat.mul_comm]; exact Nat.div_add_mod i E.size
 have hu2 := hu
 rw [← hij, pQ E _ _ _ (by rw [hlen]; exact hk) hj, List.getElem?_ofFn, dif_pos hk] at hu2
 obtain ⟨v, hv, hd⟩ := hcell ⟨i / E.size, hk⟩ (i % E.size) u hu2
 refine ⟨v, ?_, hd⟩
 rw [← Go.WideShapes.add_plain]
 rw [hij] at hv
 exact hv
theorem rq {f0 f1 : Field} (hs : P.underlying t = some (.struct #[f0, f1])) (hC : P.cellsOf t = 2) (h0 : f0.offset = 0 ∧ P.cellsOf f0.type = 1) (h1 : f1.offset = 1 ∧ P.cellsOf f1.type = 1) (h : DataW.trod enc P w base (fun _ => true) held n t cs = some y) :
    ∃ c0 c1 y0 y1 m, cs = [c0, c1] ∧ DataW.trod enc P w base (fun _ => true) held m f0.type [c0] = some y0 ∧ DataW.trod enc P w base (fun _ => true) held m f1.type [c1] = some y1 := by
  obtain ⟨y0, y1, m, _, hl, g0, g1⟩ := Go.ChangeShapes.trod_struct2 hs h
  rw [hC] at hl
  match cs, hl with
  | [c0, c1], _ =>
    rw [h0.1, h0.2] at g0
    rw [h1.1, h1.2] at g1
    exact ⟨c0, c1, y0, y1, m, rfl, g0, g1⟩
theorem mV {k : IntKind} {c : Value} (ht : P.underlying t = some (.int k)) (h : DataW.trod enc P w base (fun _ => true) held n t [c] = some y) : ∃ i, c = .int k i := by
 obtain ⟨i, e, _⟩ := DataW.trod_int ht h
 exact ⟨i, by simpa using e⟩
theorem Lz {c : Value} (hR : Rd P e E) (ht : P.underlying t = some (.slice e)) (h : DataW.trod enc P w base (fun _ => true) held n t [c] = some y) : ∃ xs, (Ty.sl E xs).den w oA c := by
 obtain ⟨v, xs, e, hd⟩ := Qz hR ht h
 exact ⟨xs, by rw [show c = v by simpa using e]; exact hd⟩
end
section
variable {w w' : World} {S K : Nat → Prop} {M' : bF}
theorem tZ (le : Le S K w oA w' M') {b : Nat} (hb : b < w.heap.size) : w'.heap[b]? = w.heap[b]? := (le.qj b hb rfl).2
theorem NW (le : Le S K w oA w' M') {p : MemPlace} (hp : p.block < w.heap.size) : w.sameAt w' p := by
  cases p with
  | cell b o => exact World.cell?_of_block (w := w) (tZ le hp)
  | map b => exact tZ le hp
theorem OM (le : Le S K w oA w' M') (may : MemPlace → Prop) : w.keptBut w' may := by
 refine ⟨le.os, le.out, fun i hi => ?_⟩
 have e := tZ le hi
 rw [e]
 split
 ·rename_i h1 h2
  rw [h1] at h2
  simp only [Option.some.injEq, Obj.cells.injEq] at h2
  obtain ⟨rfl, rfl, rfl⟩ := h2
  exact ⟨rfl, rfl, rfl, fun _ _ => rfl⟩
 ·rename_i h1 h2
  rw [h1] at h2
  simp only [Option.some.injEq, Obj.map.injEq] at h2
  exact Or.inr ⟨h2.1.symm, h2.2.symm⟩
 rfl
theorem HH (le : Le S K w oA w' M') {a : Addr} (ha : a.block < w.heap.size) : w'.frozen? a = w.frozen? a := by
 unfold World.frozen?
 rw [tZ le ha]
end
section
variable {H : Type} {enc : TypeId × Value → H} {P : Program}
theorem rK (hl : laidOutB P = true) {w w' : World} {sp : Nat → Bool} : ∀ {ts : List TypeId} {vs : List Value} {ds : List (DataW H)} {ps : List MemPlace}, (∀ t ∈ ts, P.readableRec t = true ∧ t < P.types.size) →
    DataW.TrodAll enc P w 0 (fun _ => true) true ts vs ds ps → (∀ p ∈ ps, w.sameAt w' p) → (∀ p ∈ ps, sp p.block = true) → DataW.TrodAll enc P w' 0 sp true ts vs ds ps
  | [], [], [], _, _, h, _, _ => h
  | t :: ts, v :: vs, d :: ds, _, ht, ⟨p, q, h1, h2, e⟩, hs, hsp => by
    subst e
    have h0 := ht t List.mem_cons_self
    exact ⟨p, q, Go.WideElems.Trod_stays hl h0.1 h0.2 h1 (fun x hx => hs x (List.mem_append_left _ hx)) (fun x hx => hsp x (List.mem_append_left _ hx)),
      rK hl (fun t h => ht t (List.mem_cons_of_mem _ h)) h2 (fun x hx => hs x (List.mem_append_right _ hx)) (fun x hx => hsp x (List.mem_append_right _ hx)), rfl⟩
theorem Hp {f : Func} {s : ChangeSpec} {apart fresh handsOn again : Bool} {W W' : World} {args : Array Value} {ds : List (DataW H)} {before : List MemPlace} {S K : Nat → Prop} {M' : bF}
 (hl : laidOutB P = true) (hv : s.vars = []) (hrd : ∀ t ∈ f.params.toList, P.readableRec t = true ∧ t < P.types.size) {tb : TypeId} (htb : P.underlying tb = some .bool) (hrt : f.resultTypes = #[tb])
 (hW : DataW.Whole enc P f.params.toList s.vars apart W args.toList ds [] before) (hres : (s.fn H (ds ++ [])).results = [.lit (.bool true)]) (hargs : (s.fn H (ds ++ [])).args = ds) (hvars : (s.fn H (ds ++ [])).vars = [])
 (le : Le S K W oA W' M') : s.post enc P f apart fresh handsOn again W args (.bool true) W' := by
 have hW0 := hW
 obtain ⟨p, q, hA, hV, hb, hfz, hn⟩ := hW0
 have hlt := DataW.TrodAll.lt hA
 have hq : q = [] := by rw [hv] at hV; exact (trodVars_none hV).2
 subst hq
 have hbp : before = p := by rw [hb]; simp
 have hre : ∀ (b : Nat) (sp : Nat → Bool) (hd : Bool), DataW.TrodAll enc P W' b sp hd f.resultTypes.toList ((Value.bool true).resultList f.resultTypes.size) (s.fn H (ds ++ [])).results [] := fun b sp hd => by
  rw [hrt, hres]; exact trodAll_mk1 (shut_bool htb true)
 have har : ∀ sp : Nat → Bool, (∀ x ∈ p, sp x.block = true) → DataW.TrodAll enc P W' 0 sp true f.params.toList args.toList (s.fn H (ds ++ [])).args p := fun sp hsp => by
  rw [hargs]; exact rK hl hrd hA (fun x hx => NW le (hlt x hx)) hsp
 have hva : ∀ sp : Nat → Bool, DataW.TrodVars enc P W' sp s.vars (s.fn H (ds ++ [])).vars [] := fun sp => by
  rw [hvars, hv]; exact rfl
 have hok : ∀ (j : Nat) (t : TypeId) (r : Value), f.resultTypes[j]? = some t → ((Value.bool true).resultList f.resultTypes.size)[j]? = some r → Value.okWide P W' .any 0 t r := by
  exact ok_one (by rw [hrt]) rfl (okWide_bool_mk htb true)
 refine ⟨ds, [], before, [], p, [], hW, hre _ _ _, har _ (fun x hx => by simpa using hlt x hx), hva _, World.keptBut_mono (fun x hx => hx) (OM le _), fun _ => ?_⟩
 refine ⟨hok, _, _, ([] ++ p) ++ [], ⟨[] ++ p, [], trodAll_append (har _ (fun _ _ => rfl)) (hre _ _ _), hva _, rfl, ?_, ?_⟩, ?_⟩
 ·intro b off hp
  have hp' : MemPlace.cell b off ∈ p := by simpa using hp
  rw [HH le (hlt _ hp')]
  exact hfz b off (by rw [hbp]; exact hp')
 ·intro ha
  have := hn ha
  rw [hbp] at this
  simpa using this
 intro x hx _
 rw [hbp]
 simpa using hx
end
end Go.T
namespace Go.Proofs.YtelbollidfdcjaaGreat
open Go Go.T Go.RowKit Go.ChangeShapes Go.WideShapes Go.ChangeAt
theorem Rw : Tryz.prog.cellsOf 3 = 1 := by kernel_rfl
theorem Ju : Tryz.prog.cellsOf 37 = 2 := by kernel_rfl
theorem Qa : Tryz.prog.cellsOf 39 = 3 := by kernel_rfl
theorem RK : Tryz.prog.cellsOf 41 = 5 := by kernel_rfl
theorem Oa : Tryz.prog.cellsOf 102 = 4 := by kernel_rfl
set_option maxRecDepth 100000 in
theorem J8 : Rd Tryz.prog 37 cA := ⟨Ju, by decide, fun h => by
 obtain ⟨c0, c1, y0, y1, m, rfl, h0, h1⟩ := rq Tryz.underlying37 Ju ⟨rfl, by kernel_rfl⟩ ⟨rfl, by kernel_rfl⟩ h
 obtain ⟨a, rfl⟩ := mV Tryz.underlying3 h0
 obtain ⟨b, rfl⟩ := mV Tryz.underlying3 h1
 exact ⟨⟨a, b⟩, rfl, rfl, trivial⟩⟩
set_option maxRecDepth 100000 in
theorem Q6 : Rd Tryz.prog 39 fO := ⟨Qa, by decide, fun {_ _ _ _ _ _ cs _} h => by
  obtain ⟨y0, y1, m, _, hl, g0, g1⟩ := Go.ChangeShapes.trod_struct2 Tryz.underlying39 h
  rw [Qa] at hl
  match cs, hl with
  | [c0, c1, c2], _ =>
    simp only [Rw, Ju] at g0 g1
    obtain ⟨a, rfl⟩ := mV (c := c0) Tryz.underlying3 g0
    obtain ⟨s, hs⟩ := J8.rd (cs := [c1, c2]) g1
    exact ⟨⟨a, s⟩, rfl, hs⟩⟩
set_option maxRecDepth 100000 in
theorem RH : Rd Tryz.prog 41 eH := ⟨RK, by decide, fun {_ _ _ _ _ _ cs _} h => by
  obtain ⟨y0, y1, y2, y3, m, _, hl, g0, g1, g2, g3⟩ := Go.Joins.trod_struct4 Tryz.underlying41 h
  rw [RK] at hl
  match cs, hl with
  | [c0, c1, c2, c3, c4], _ =>
    simp only [Rw, Ju] at g0 g1 g2 g3
    obtain ⟨a, rfl⟩ := mV (c := c0) Tryz.underlying3 g0
    obtain ⟨b, rfl⟩ := mV (c := c1) Tryz.underlying3 g1
    obtain ⟨c, rfl⟩ := mV (c := c2) Tryz.underlying3 g2
    obtain ⟨s, hs⟩ := J8.rd (cs := [c3, c4]) g3
    exact ⟨⟨a, b, c, s⟩, rfl, rfl, rfl, hs⟩⟩
set_option maxRecDepth 100000 in
theorem RS : Rd Tryz.prog 102 dY := ⟨Oa, by decide, fun {_ _ _ _ _ _ cs _} h => by
  obtain ⟨y0, y1, y2, m, _, hl, g0, g1, g2⟩ := Go.Deep.trod_struct3 Tryz.underlying102 h
  rw [Oa] at hl
  match cs, hl with
  | [c0, c1, c2, c3], _ =>
    simp only [Rw, Ju] at g0 g1 g2
    obtain ⟨a, rfl⟩ := mV (c := c0) Tryz.underlying3 g0
    obtain ⟨b, rfl⟩ := mV (c := c1) Tryz.underlying3 g1
    obtain ⟨s, hs⟩ := J8.rd (cs := [c2, c3]) g2
    exact ⟨⟨a, b, s⟩, rfl, rfl, hs⟩⟩
section
variable {H : Type} {enc : TypeId × Value → H} {W : World} {base : Nat} {held : Bool} {v : Value} {d : DataW H} {p : List MemPlace}
end
end Go.Proofs.YtelbollidfdcjaaGreat
namespace Go.Proofs.YtelbollidfdcjaaGreat
open Go Go.T Go.RowKit Go.ChangeShapes Go.WideShapes Go.ChangeAt
theorem O0 : Tryz.prog.cellsOf 109 = 2 := by kernel_rfl
set_option maxRecDepth 100000 in
theorem Qu : Rd Tryz.prog 109 fq := ⟨O0, by decide, fun h => by
 obtain ⟨c0, c1, y0, y1, m, rfl, h0, h1⟩ := rq Tryz.underlying109 O0 ⟨rfl, by kernel_rfl⟩ ⟨rfl, by kernel_rfl⟩ h
 obtain ⟨a, rfl⟩ := mV Tryz.underlying3 h0
 obtain ⟨b, rfl⟩ := mV Tryz.underlying3 h1
 exact ⟨⟨a, b⟩, rfl, rfl, trivial⟩⟩
section
variable {H : Type} {enc : TypeId × Value → H} {W : World} {base : Nat} {held : Bool} {v : Value} {d : DataW H} {p : List MemPlace}
set_option maxRecDepth 100000 in
theorem QS (hv : Value.okWide Tryz.prog W .any base 106 v) (h : DataW.Trod enc Tryz.prog W 0 (fun _ => true) held 106 v d p) : ∃ q : rm, (Ty.agg (dn q)).den W oA v := by
 obtain ⟨cs, rfl, hsz⟩ := okWide_struct Tryz.underlying106 hv
 obtain ⟨fuel, hf⟩ := h
 obtain ⟨c0, c1, y0, y1, m, e, h0, h1⟩ := rq (cs := cs.toList) Tryz.underlying106 (by kernel_rfl) ⟨rfl, by kernel_rfl⟩ ⟨rfl, by kernel_rfl⟩ (by simpa [Value.cells] using hf)
 obtain ⟨l0, e0⟩ := Lz Qu Tryz.underlying104 h0
 obtain ⟨b, e1, _⟩ := DataW.trod_bool Tryz.underlying4 h1
 have e1 : c1 = .bool b := by simpa using e1
 exact ⟨⟨l0, b⟩, cs, rfl, by rw [e]; exact ⟨e0, e1, trivial⟩⟩
end
end Go.Proofs.YtelbollidfdcjaaGreat
namespace Go.Proofs.YtelbollidfdcjaaGreat
open Go Go.T Go.RowKit Go.ChangeShapes Go.WideShapes Go.ChangeAt
section
variable {H : Type} {enc : TypeId × Value → H} {P : Program} {w : World} {base : Nat} {held : Bool} {α : Type} {E : El α} {t e : TypeId} {n : Nat} {c : Value} {y : DataW H × List MemPlace}
theorem Em (hR : Rd P e E) (ht : P.underlying t = some (.slice e)) (h : DataW.trod enc P w base (fun _ => true) held n t [c] = some y) (hw : ∀ m ∈ y.1.weights P t, m ≤ reachBytes) : ∃ xs, (Ty.sl E xs).den w oA c ∧ xs.length * P.bytesOf e ≤ reachBytes := by
 obtain ⟨xs, hd⟩ := Lz hR ht h
 refine ⟨xs, hd, ?_⟩
 obtain ⟨ad, cap, ec, hcap, _, _⟩ := hd
 rcases Go.Deep.open_slice ht h with ⟨e1, _⟩ | ⟨a, len, cap', m, k, D, Pl, e1, _, hl, _, hm, hy, _⟩
 ·have e2 : c = .slice none 0 0 := by simpa using e1
  rw [ec] at e2
  injection e2 with _ e3 _
  rw [e3, Nat.zero_mul]; exact Nat.zero_le _
 have e2 : c = .slice (some a) len cap' := by simpa using e1
 rw [ec] at e2
 injection e2 with _ e3 _
 rw [hy] at hw
 have := hw ((((List.range len).map D).length + ((List.range (m - len)).map fun j => D (len + j)).length) * P.bytesOf e) (by simp [DataW.weights, ht])
 rw [List.length_map, List.length_range] at this
 have h2 : xs.length * P.bytesOf e ≤ (len + ((List.range (m - len)).map fun j => D (len + j)).length) * P.bytesOf e := Nat.mul_le_mul_right _ (by omega)
 omega
end
section
variable {H : Type} {enc : TypeId × Value → H} {W : World} {base : Nat} {held : Bool} {v : Value} {d : DataW H} {p : List MemPlace}
theorem Rv : Tryz.prog.bytesOf 39 = 24 := by kernel_rfl
theorem R7 : Tryz.prog.bytesOf 41 = 40 := by kernel_rfl
theorem Rj : Tryz.prog.bytesOf 102 = 32 := by kernel_rfl
set_option maxRecDepth 100000 in
theorem JY {ts : List TypeId} {ds : List (DataW H)} {j : Nat} (hsz : (DataW.weightsEach Tryz.prog ts ds).all (· ≤ reachBytes) = true) (ht : ts[j]? = some 27) (hd : ds[j]? = some d) (hv : Value.okWide Tryz.prog W .any base 27 v) (h : DataW.Trod enc Tryz.prog W 0 (fun _ => true) held 27 v d p) : ∃ y : aj, y.Fit ∧ (eA y).den W oA v := by
 obtain ⟨c0, c1, c2, c3, y0, y1, y2, y3, n, rfl, ed, _, h0, h1, h2, h3⟩ := Go.Joins.open_agg4 Tryz.underlying27 (by kernel_rfl) (by kernel_rfl) hv h
 have hw : ∀ m ∈ d.weights Tryz.prog 27, m ≤ reachBytes := fun m hm => by
  have := List.all_eq_true.1 hsz _ (DataW.weights_mem_each ht hd m hm)
  simpa using this
 rw [ed] at hw
 have hw' : ∀ m ∈ DataW.weightsEach Tryz.prog [3, 23, 24, 25] [y0.1, y1.1, y2.1, y3.1], m ≤ reachBytes := fun m hm => hw m (by
  unfold DataW.weights
  rw [Tryz.underlying27]
  exact hm)
 obtain ⟨a, rfl⟩ := mV Tryz.underlying3 h0
 obtain ⟨bs, e1, l1⟩ := Em Q6 Tryz.underlying23 h1 fun m hm => hw' m (DataW.weights_mem_each (j := 1) (t := 23) rfl rfl m hm)
 obtain ⟨ms, e2, l2⟩ := Em RH Tryz.underlying24 h2 fun m hm => hw' m (DataW.weights_mem_each (j := 2) (t := 24) rfl rfl m hm)
 obtain ⟨ls, e3, l3⟩ := Em RS Tryz.underlying25 h3 fun m hm => hw' m (DataW.weights_mem_each (j := 3) (t := 25) rfl rfl m hm)
 rw [Rv] at l1
 rw [R7] at l2
 rw [Rj] at l3
 exact ⟨⟨a, bs, ms, ls⟩, ⟨l1, l2, l3⟩, _, rfl, rfl, e1, e2, e3, trivial⟩
end
end Go.Proofs.YtelbollidfdcjaaGreat
