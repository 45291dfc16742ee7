/- Lemmas: the program and the reference walked, plain laws. -/
import Derived.Test.YtmmcenjknimhbaaGreatZd
namespace Go.Proofs.YtmmcenjknimhbaaGreat
open Go Go.T
attribute [local irreducible] eH cZ jR j7 eP eO eK eS eJ j8 eN j4 b8 dc j0 dZ j5 nth eZ cU aV cX bodyPost Exit.then Exit.inBlock Code.wp Code.wpIn dU m7 mo m6 fT mw m0 fV mY eB fO lu bW bV bodyPostM cV
theorem tM : Tryz.prog.underlying 3 = some (.int .i64) := by kernel_rfl
theorem rI : zeroOf Tryz.prog 3 = some (.int .i64 0) := by kernel_rfl
theorem fX : mapOf Tryz.prog 163 = some (3, 3) := by kernel_rfl
theorem qA (f : bS) (hs : f.Small) (b : Bool) : cX Tryz.prog 54 [iS f, Ty.bool b] (Ty.s8 [Ty.when (decide (e9 f b = 0)) (Ty.pe fF (aX f) 0), Ty.int .i64 (e9 f b)]) := by
  by_cases h0 : bk f = 0
  · cases b with
    | true =>
      have e : e9 f true = 1 := by rw [e9, if_neg (fun h => h h0), if_pos rfl]
      rw [e]
      exact (Jc f hs h0).mono (Ty.zq (Ty.rM rfl fun h => by simp at h) (Ty.aG _))
    | false =>
      have e : e9 f false = 0 := by rw [e9, if_neg (fun h => h h0), if_neg (by simp)]
      rw [e, l9 h0]
      exact (Oy f hs h0).mono (Ty.zq (Ty.rM rfl fun _ => Ty.aG _) (Ty.aG _))
  · have e : e9 f b = bk f := by rw [e9, if_pos h0]
    rw [e]
    exact (Hw f hs b h0).mono (Ty.zq (Ty.rM rfl fun h => by simp [h0] at h) (Ty.aG _))
set_option maxRecDepth 100000 in
theorem Sw (b : SB) (hb : kN b) (q : Nat → Bool) (t : Ty) (h1 : t.deps = []) (h2 : t.cdeps = []) (hq : ∀ s : Nat, s < 256 → oK Tryz.prog t [Ty.int .i64 (s : Nat)] (Ty.bool (q s))) : cX Tryz.prog 103 [Ty.pe fF b 0, Ty.agg [Ty.nd t h1 h2]] (Ty.pm (Value.int .i64) qC (iJ b q)) := by
 refine aY Tryz.func103 rfl (by decide) Tryz.ntmps103 (by exact Nat.le_of_ble_eq_true rfl) fun w0 M0 => ?_
 have hnt := hb.nt
 have hsl := rH hnt
 obtain ⟨N, hN⟩ : ∃ N, N = 1 <<< b.1.f.turnings.length := ⟨_, rfl⟩
 refine aF (aA (bC rfl (mP rfl (aD (aC (aF (aA (xE (Value.int .i64) qC fX rfl (VC rfl (aD (aC (aF (aF (aA (mF rfl ?_)))))))))))))))
 refine dR rfl ?_
 refine dP rfl rfl rfl rfl rfl (by decide) ?_
 refine dP rfl rfl rfl rfl rfl (by decide) ?_
 refine gJ rfl rfl rfl rfl (cC rfl rfl rfl ?_)
 refine nx (a := 1) rfl rfl (by omega) (by omega) ?_
 refine iZ rfl rfl (by omega) (by omega) ?_
 refine b9 rfl (aD (aC (af ?_)))
 refine cK (fun (k : {k : Nat // k ≤ N}) => live [(0, Ty.pe fF b 0), (3, Ty.pp [Ty.nd t h1 h2]), (5, Ty.mp 9), (6, Ty.int .i64 ((N : Int) - (k.1 + 1)))] [(9, Cont.mp (Value.int .i64) qC (fu b q N k.1))]) (fun k => N - k.1) (⟨0, by omega⟩) ?_ fun k => ?_
 ·(refine c8.mk' ?_ ?_ <;> (repeat' (first | exact aI | exact aH | refine aB ?_ (Ty.aR _) | refine aB ?_ (Ty.aG _) | refine aJ rfl (Cont.aG _) ?_ | refine aB ?_ ?_)))
  exact Ty.bJ (by show ((1 <<< b.1.f.turnings.length : Nat) : Int) - 1 = (N : Int) - (((0 : Nat) : Int) + 1); rw [← hN]; simp)
 refine aF (aF (aA (bF rfl (ak rfl rfl rfl (aD (aC ?_))))))
 refine aa rfl (fun hc1 => ?_) (fun hc1 => ?_)
 ·refine bA (aC (aF (af (aF (aF ?_)))))
  obtain ⟨s, hs⟩ : ∃ s : Nat, s + (k.1 + 1) = N := ⟨N - (k.1 + 1), by omega⟩
  have hs256 : s < 256 := by omega
  have hcl := tG hb q hN k.1 (by omega)
  refine mq (s := 6) rfl (Ty.bJ (show (N : Int) - (k.1 + 1) = (s : Nat) by omega)) ?_
  refine aA (mF rfl (bF rfl (aq (vm b s hs256 hb.before) rfl rfl rfl rfl rfl (ct rfl (kV rfl ?_)))))
  apply aN (s := 25) rfl rfl rfl
  ·intro hg; apply aQ; (refine aP rfl rfl rfl rfl rfl (by decide) ?_); refine aD ?_; exact rfl
  ·exact rfl
  ·exact rfl
  apply aN (s := 25) rfl rfl rfl
  ·intro hg; apply aM (s := 26) rfl (by (rw [hg]; rfl)); apply aQ; (refine aK rfl rfl rfl rfl ?_); refine aD ?_; exact rfl
  ·exact rfl
  ·exact rfl
  apply aN (s := 25) rfl rfl rfl
  ·intro hg; apply aQ; (refine bF rfl ?_); refine aD ?_; exact rfl
  ·exact rfl
  ·exact rfl
  apply aN (s := 25) rfl rfl rfl
  ·intro hg; apply aM (s := 27) rfl (by (rw [hg]; rfl)); apply aM (s := 28) rfl (by (rw [hg]; rfl)); apply aQ; (refine eA rfl (NH h1 h2 (hq s hs256)) rfl ?_); refine aD ?_; exact rfl
  ·exact rfl
  ·exact rfl
  apply aN (s := 25) rfl rfl rfl
  ·intro hg; apply aM (s := 29) rfl (by (rw [hg]; rfl)); apply aQ; (refine ct rfl ?_); refine aD ?_; exact rfl
  ·exact rfl
  ·exact rfl
  refine oB rfl rfl (aD (aC ?_))
  refine c9 rfl (fun hc2 => ?_) (fun hc2 => ?_)
  ·refine cF (aL (ah rfl (aC (aA (bF rfl ?_)))))
   refine iZ rfl rfl (by omega) (by omega) ?_
   refine b9 rfl (aD ?_)
   refine bO (⟨k.1 + 1, by omega⟩) ?_ (by exact Nat.sub_lt_sub_left (by omega) (Nat.lt_succ_self _))
   (refine c8.mk' ?_ ?_ <;> (repeat' (first | exact aI | exact aH | refine aB ?_ (Ty.aR _) | refine aB ?_ (Ty.aG _) | refine aJ rfl ?_ ?_ | refine aB ?_ ?_)))
   all_goals skip
   all_goals first | exact Ty.bJ (by show (s : Int) - 1 = (N : Int) - (((k.1 + 1 : Nat) : Int) + 1); omega) | exact Cont.iR (by show fu b q N k.1 = fu b q N (k.1 + 1); rw [fu, show N - (k.1 + 1) = s by omega, Ga, if_pos hc2])
  refine bA (aC ?_)
  refine qh (J := live [(0, Ty.pe fF b 0), (3, Ty.pp [Ty.nd t h1 h2]), (5, Ty.mp 9), (6, Ty.int .i64 (s : Nat))] [(9, Cont.mp (Value.int .i64) qC (ji b s (fu b q N k.1)))]) ?_ ?_
  ·refine aF (aA (bF rfl (mF rfl (dR rfl ?_))))
   refine dP rfl rfl rfl rfl rfl (by decide) ?_
   refine dP rfl rfl rfl rfl rfl (by decide) ?_
   refine gJ rfl rfl rfl rfl (cC rfl rfl rfl ?_)
   refine nx (a := 1) rfl rfl (by omega) (by omega) ?_
   refine iZ rfl rfl (by omega) (by omega) ?_
   refine ak rfl rfl rfl (aD (aC ?_))
   refine aa rfl (fun hc3 => ?_) (fun hc3 => ?_)
   ·refine aA (P7 rfl (bF rfl ?_))
    refine mC (jV Tryz.prog 3 .i64 tM) rfl rfl (by decide) rfl gj rfl rfl fX ?_
    refine aD (iC ?_)
    (refine c8.mk' ?_ ?_ <;> (repeat' (first | exact aI | exact aH | refine aB ?_ (Ty.aR _) | refine aB ?_ (Ty.aG _) | refine aJ rfl ?_ ?_)))
    exact Cont.iR (by rw [ji, if_pos (by omega)])
   refine bA (iC ?_)
   (refine c8.mk' ?_ ?_ <;> (repeat' (first | exact aI | exact aH | refine aB ?_ (Ty.aR _) | refine aB ?_ (Ty.aG _) | refine aJ rfl ?_ ?_)))
   exact Cont.iR (by rw [ji, if_neg (by omega)])
  refine aF (aA (mF rfl (dR rfl ?_)))
  refine dP rfl rfl rfl rfl rfl (by decide) ?_
  refine dP rfl rfl rfl rfl rfl (by decide) ?_
  refine gJ rfl rfl rfl rfl (cC rfl rfl rfl (bF rfl (aD (aC (af ?_)))))
  refine cK (fun (j : {j : Nat // j ≤ b.1.f.turnings.length}) => live [(0, Ty.pe fF b 0), (3, Ty.pp [Ty.nd t h1 h2]), (5, Ty.mp 9), (6, Ty.int .i64 (s : Nat)), (49, Ty.int .i64 b.1.f.turnings.length), (50, Ty.int .i64 (j.1 : Nat))] [(9, Cont.mp (Value.int .i64) qC (qn b s (ji b s (fu b q N k.1)) j.1))]) (fun j => b.1.f.turnings.length - j.1) (⟨0, by omega⟩) ?_ fun j => ?_
  ·(refine c8.mk' ?_ ?_ <;> (repeat' (first | exact aI | exact aH | refine aB ?_ (Ty.aR _) | refine aB ?_ (Ty.aG _) | refine aJ rfl (Cont.aG _) ?_)))
  refine aF (aA (ak rfl rfl rfl (aD (aC (aF ?_)))))
  refine aa rfl (fun hc4 => ?_) (fun hc4 => ?_)
  ·refine bA (aC (aF (af (aF (aA (bF rfl (b9 rfl (aD (aC (aF ?_))))))))))
   have hsh := Nat.shiftRight_le s j.1
   refine aA (bF rfl (bF rfl ?_))
   refine uy rfl rfl (by omega) ?_
   refine wq (b := 1) rfl rfl (by omega) (by omega) ?_
   refine ak rfl rfl rfl (aD (aC ?_))
   refine aa rfl (fun hc5 => ?_) (fun hc5 => ?_)
   ·have hbit : s.testBit j.1 = false := Bool.eq_false_iff.2 fun h => by have := (iQ s j.1).2 h; omega
    have hwb := Lb hb hN hs hcl (j := j.1) (by omega) hbit
    simp only [mg] at hwb
    have hpo := (A8 hs256 (show j.1 < 8 by omega) hbit).2
    refine cg mixed rfl (P7 rfl (bF rfl ?_))
    refine pI (jV Tryz.prog 3 .i64 tM) (z0 := (0 : Int)) rfl rfl (by decide) rfl gj fX rI gq ?_
    refine P7 rfl (bF rfl (bF rfl ?_))
    refine nx (a := 1) rfl rfl (by omega) (lQ (by omega)) ?_
    refine wG rfl rfl (by omega) (lQ (by omega)) ?_
    refine pI (jV Tryz.prog 3 .i64 tM) (z0 := (0 : Int)) rfl rfl (by decide) rfl gj fX rI gq ?_
    refine bz rfl rfl (by omega) (by omega) ?_
    refine mC (jV Tryz.prog 3 .i64 tM) rfl rfl (by decide) rfl gj rfl rfl fX ?_
    refine aD ?_
    refine ⟨by kernel_rfl, ?_⟩
    refine bH (aC (aA ?_))
    refine bz rfl rfl (by omega) (by omega) ?_
    refine bF rfl (aD ?_)
    refine bO (⟨j.1 + 1, by omega⟩) ?_ (by show b.1.f.turnings.length - (j.1 + 1) < b.1.f.turnings.length - j.1; omega)
    (refine c8.mk' ?_ ?_ <;> (repeat' (first | exact aI | exact aH | refine aB ?_ (Ty.aR _) | refine aB ?_ (Ty.aG _) | refine aJ rfl ?_ ?_)))
    all_goals skip
    all_goals exact Cont.iR (by rw [lF, th, if_neg (by simp [hbit])]; rfl)
   refine bA (bH (aC (aA ?_)))
   refine bz rfl rfl (by omega) (by omega) ?_
   refine bF rfl (aD ?_)
   refine bO (⟨j.1 + 1, by omega⟩) ?_ (by show b.1.f.turnings.length - (j.1 + 1) < b.1.f.turnings.length - j.1; omega)
   (refine c8.mk' ?_ ?_ <;> (repeat' (first | exact aI | exact aH | refine aB ?_ (Ty.aR _) | refine aB ?_ (Ty.aG _) | refine aJ rfl ?_ ?_)))
   all_goals skip
   all_goals exact Cont.iR (by rw [lF, th, if_pos (by refine (iQ s j.1).1 ?_; have := Nat.mod_two_eq_zero_or_one (s >>> j.1); rw [Nat.and_one_is_mod] at *; omega)])
  refine cF (aL (aL (ah rfl (bH (aC (aA (bF rfl ?_)))))))
  refine iZ rfl rfl (by omega) (by omega) ?_
  refine b9 rfl (aD ?_)
  refine bO (⟨k.1 + 1, by omega⟩) ?_ (by exact Nat.sub_lt_sub_left (by omega) (Nat.lt_succ_self _))
  (refine c8.mk' ?_ ?_ <;> (repeat' (first | exact aI | exact aH | refine aB ?_ (Ty.aR _) | refine aB ?_ (Ty.aG _) | refine aJ rfl ?_ ?_ | refine aB ?_ ?_)))
  all_goals skip
  all_goals first | exact Ty.bJ (by show (s : Int) - 1 = (N : Int) - (((k.1 + 1 : Nat) : Int) + 1); omega) | exact Cont.iR (by show qn b s (ji b s (fu b q N k.1)) j.1 = fu b q N (k.1 + 1); rw [fu, show N - (k.1 + 1) = s by omega, Ga, if_neg (fun h => by rw [hc2] at h; cases h), show j.1 = b.1.f.turnings.length by have := j.2; omega])
 refine cF (aL (aL (ah rfl (aC (aF ?_)))))
 refine tW (tg := 9) [(5, Ty.pm (Value.int .i64) qC (fu b q N k.1))] (by decide) rfl ⟨Se rfl rfl (by decide), trivial⟩ ?_
 refine aA (NY rfl (TV rfl (aD (aC (av (bK rfl rfl ?_))))))
 all_goals skip
 exact bE rfl rfl (by rw [show k.1 = N by have := k.2; omega, hN]; rfl)
theorem Eg (b : SB) (hb : kN b) : cX Tryz.prog 103 [Ty.pe fF b 0, Ty.agg [Ty.j9 149 [Ty.pp [Ty.pe fF b 0]]]] (Ty.pm (Value.int .i64) qC (iJ b (u7 b))) :=
 (Sw b hb (u7 b) (Ty.j9 149 [Ty.pp [Ty.pe fF b 0]]) rfl rfl fun s hs => cY (PA b hb s hs) rfl rfl rfl rfl rfl rfl).args ⟨Ty.aG _, fun _ _ _ h => h, trivial⟩
set_option maxRecDepth 100000 in
theorem Nq (f : bS) (hs : f.Small) (bay : Int) : cX Tryz.prog 21 [iS f, Ty.int .i64 bay] (Ty.s8 [Ty.int .i64 (DC f bay).1, Ty.int .i64 (DC f bay).2]) := by
 refine aY Tryz.func21 rfl (by decide) Tryz.ntmps21 (by exact Nat.le_of_ble_eq_true rfl) fun w0 M0 => ?_
 have hs1 := hs.bears; have hs2 := hs.bins; have hs3 := hs.turnings; have hs4 := hs.rules
 refine aF (aA (bC rfl (b9 rfl (b9 rfl (aD (aC (aF (cg mixed rfl ?_))))))))
 refine ay rfl rfl rfl (by exact Nat.le_of_ble_eq_true rfl) ?_
 refine ay rfl rfl rfl (by exact Nat.le_of_ble_eq_true rfl) ?_
 refine bF rfl (aq (R5 f hs _) rfl rfl rfl rfl rfl (ct rfl (aq (qA f hs _) rfl rfl rfl rfl rfl (FQ rfl (bt rfl rfl (bt rfl rfl (S6 rfl (b9 rfl (aD ?_)))))))))
 refine ⟨by kernel_rfl, ?_⟩
 refine aC (aF (aF (aA (bF rfl (ak rfl rfl rfl (aD (aC ?_)))))))
 refine ck rfl (fun hc1 => ?_) (fun hc1 => ?_)
 ·refine aF (aA (bF rfl (b9 rfl (b9 rfl (aD (aC (av (aW ?_))))))))
  refine iB rfl rfl rfl ?_ ?_
  all_goals skip
  all_goals exact bE rfl rfl (congrArg (Ty.int .i64) (by rw [DC, if_pos hc1]))
 refine bA (aC (aF ?_))
 have h0 := jg hc1
 have hin := fH (n := bay) (lo := 0) (hi := (f.bears.length : Int) - 1) (by have := h0.2; simpa using this)
 obtain ⟨n, rfl⟩ := Int.eq_ofNat_of_zero_le hin.1
 have hr := (cB h0.1).ranged
 have hb4 := hr.bears
 have hfi := fj h0.1
 refine mq (s := 6) rfl (Ty.lg (decide_eq_true hc1)) ?_
 refine aA (mF rfl (bF rfl ?_))
 refine aq (IS (aX f) hfi n (by omega)) rfl rfl rfl rfl rfl ?_
 refine FQ rfl (bt rfl rfl (bt rfl rfl (b9 rfl (b9 rfl (aD (aC (aF (aA (bF rfl (b9 rfl (b9 rfl (aD (aC (av ?_))))))))))))))
 refine iB rfl rfl rfl ?_ ?_
 all_goals skip
 all_goals exact bE rfl rfl (congrArg (Ty.int .i64) (by rw [DC, if_neg (fun h => h hc1)]; try rfl))
set_option maxRecDepth 100000 in
theorem RC (f : bS) (hs : f.Small) : cX Tryz.prog 46 [iS f] (Ty.s8 [Ty.int .i64 (countP f).1, Ty.int .i64 (countP f).2]) := by
 refine aY Tryz.func46 rfl (by decide) Tryz.ntmps46 (by exact Nat.le_of_ble_eq_true rfl) fun w0 M0 => ?_
 have hs1 := hs.bears; have hs2 := hs.bins; have hs3 := hs.turnings; have hs4 := hs.rules
 refine aF (aA (bC rfl (b9 rfl (b9 rfl (aD (aC (aF (aA ?_))))))))
 refine ay rfl rfl rfl (by exact Nat.le_of_ble_eq_true rfl) ?_
 refine aq (qA f hs _) rfl rfl rfl rfl rfl (FQ rfl (bt rfl rfl (bt rfl rfl (S6 rfl (b9 rfl (aD (aC (aF (aF (aA (bF rfl (ak rfl rfl rfl (aD (aC ?_))))))))))))))
 refine ck rfl (fun hc1 => ?_) (fun hc1 => ?_)
 ·refine aF (aA (bF rfl (b9 rfl (b9 rfl (aD (aC (av (aW ?_))))))))
  refine iB rfl rfl rfl ?_ ?_
  all_goals skip
  all_goals exact bE rfl rfl (congrArg (Ty.int .i64) (by rw [countP, if_pos hc1]))
 refine bA (aC (aF ?_))
 have h0 := jg hc1
 have hfi := fj h0.1
 refine mq (s := 4) rfl (Ty.lg (decide_eq_true hc1)) ?_
 refine aA (mF rfl (mF rfl (aq (ET (aX f)) rfl rfl rfl rfl rfl (aq (Eg (aX f) hfi) rfl rfl rfl rfl rfl ?_))))
 refine pY (jV Tryz.prog 3 .i64 tM) (z0 := (0 : Int)) rfl rfl gj fX rI gq ?_
 refine b9 rfl (b9 rfl (aD (aC (av ?_))))
 refine iB rfl rfl rfl ?_ ?_
 all_goals skip
 all_goals exact bE rfl rfl (congrArg (Ty.int .i64) (by rw [countP, if_neg (fun h => h hc1)]; try rfl))
set_option maxRecDepth 100000 in
theorem Nl (f : bS) (hs : f.Small) : cX Tryz.prog 48 [iS f] (Ty.s8 [Ty.sl dN (mU f).1, Ty.int .i64 (mU f).2]) := by
 refine aY Tryz.func48 rfl (by decide) Tryz.ntmps48 (by exact Nat.le_of_ble_eq_true rfl) fun w0 M0 => ?_
 have hs1 := hs.bears; have hs2 := hs.bins; have hs3 := hs.turnings; have hs4 := hs.rules
 refine aF (aA (bC rfl (mP rfl (b9 rfl (aD (aC (aF (aA ?_))))))))
 refine ay rfl rfl rfl (by exact Nat.le_of_ble_eq_true rfl) ?_
 refine aq (qA f hs _) rfl rfl rfl rfl rfl (FQ rfl (bt rfl rfl (bt rfl rfl (S6 rfl (b9 rfl (aD (aC (aF (aF (aA (bF rfl (ak rfl rfl rfl (aD (aC ?_))))))))))))))
 refine ck rfl (fun hc1 => ?_) (fun hc1 => ?_)
 ·refine aF (aA (bF rfl (mP rfl (b9 rfl (aD (aC (av (aW ?_))))))))
  refine iB rfl rfl rfl ?_ ?_
  all_goals skip
  all_goals first | exact bE rfl rfl (congrArg (Ty.int .i64) (by rw [mU, if_pos hc1])) | exact gD (by rw [mU, if_pos hc1])
 refine bA (aC (aF ?_))
 have h0 := jg hc1
 have hfi := fj h0.1
 have hnt := (cB h0.1).ranged.turnings
 refine mq (s := 4) rfl (Ty.lg (decide_eq_true hc1)) ?_
 refine aA (mF rfl (mF rfl (aq (ET (aX f)) rfl rfl rfl rfl rfl (aq (Eg (aX f) hfi) rfl rfl rfl rfl rfl (TV rfl (aD (aC (aF (aF (aA (NY rfl ?_)))))))))))
 refine pY (jV Tryz.prog 3 .i64 tM) (z0 := (0 : Int)) rfl rfl gj fX rI gq ?_
 refine ak rfl rfl rfl (aD (aC ?_))
 refine aa rfl (fun hc2 => ?_) (fun hc2 => ?_)
 ·refine aF (aA (mP rfl (b9 rfl (aD (aC (av (aW ?_)))))))
  refine iB rfl rfl rfl ?_ ?_
  all_goals skip
  all_goals first | exact bE rfl rfl (congrArg (Ty.int .i64) (by rw [mU, if_neg (fun h => h hc1), if_pos (show mg (dV f) 0 = 0 from hc2)])) | exact gD (by rw [mU, if_neg (fun h => h hc1), if_pos (show mg (dV f) 0 = 0 from hc2)])
 refine bA (aC (aF (aA (mP rfl (aD (aC (aF (aF (aA ?_)))))))))
 refine aP rfl rfl rfl rfl rfl (by decide) ?_
 refine aK rfl rfl rfl rfl (cC rfl rfl rfl (bF rfl (aD (aC (af ?_)))))
 refine cK (fun (k : {k : Nat // k ≤ f.turnings.length}) => live [(6, Ty.pm (Value.int .i64) qC (dV f)), (7, Ty.row dN 3 39 (nM f k.1)), (25, Ty.sl gL f.turnings), (26, Ty.int .i64 f.turnings.length), (27, Ty.int .i64 (k.1 : Nat))] []) (fun k => f.turnings.length - k.1) (⟨0, by omega⟩) ?_ fun k => ?_
 ·(refine c8.mk' ?_ ?_ <;> (repeat' (first | exact aI | exact aH | refine aB ?_ (Ty.aR _) | refine aB ?_ (Ty.aG _) | refine aB ?_ Ty.lS)))
 have hfl := D2 f k.1
 refine aF (aA (ak rfl rfl rfl (aD (aC (aF ?_)))))
 refine aa rfl (fun hc3 => ?_) (fun hc3 => ?_)
 ·refine bA (aC (aF (af (aF (aA (bF rfl (b9 rfl (aD (aC (aF (aA (NY rfl (bF rfl ?_)))))))))))))
  refine nx (a := 1) rfl rfl (by omega) (lQ (by omega)) ?_
  refine pY (jV Tryz.prog 3 .i64 tM) (z0 := (0 : Int)) rfl rfl gj fX rI gq ?_
  refine ak rfl rfl rfl (aD (aC ?_))
  refine aa rfl (fun hc4 => ?_) (fun hc4 => ?_)
  ·refine aA (Ad rfl (bF rfl ?_))
   refine bT (E := dN) (xs := [_]) rfl rfl rfl rfl rfl (by decide) (by decide) (by repeat (first | exact (aT.nil : aT _ _ [] _) | (show aT _ _ ((_, _) :: _) _; apply aT.one; (· exact (rfl : _ = Ty.int _ _)); (· exact rfl)))) (by exact rfl) rfl ?_
   refine fB rfl rfl (by decide) rfl rfl rfl rfl rfl rfl (by decide) (by (simp <;> omega)) (by (simp <;> omega)) ?_
   refine Ec rfl (aD (bH (aC (aA ?_))))
   refine bz rfl rfl (by omega) (by omega) ?_
   refine bF rfl (aD ?_)
   refine bO (⟨k.1 + 1, by omega⟩) ?_ (by show f.turnings.length - (k.1 + 1) < f.turnings.length - k.1; omega)
   (refine c8.mk' ?_ ?_ <;> (repeat' (first | exact aI | exact aH | refine aB ?_ (Ty.aR _) | refine aB ?_ (Ty.aG _) | refine aB ?_ ?_)))
   all_goals skip
   all_goals exact Ty.ej (by rw [tu, if_pos (by show (bf (dV f) _).getD 0 > 0; omega)])
  refine bA (bH (aC (aA ?_)))
  refine bz rfl rfl (by omega) (by omega) ?_
  refine bF rfl (aD ?_)
  refine bO (⟨k.1 + 1, by omega⟩) ?_ (by show f.turnings.length - (k.1 + 1) < f.turnings.length - k.1; omega)
  (refine c8.mk' ?_ ?_ <;> (repeat' (first | exact aI | exact aH | refine aB ?_ (Ty.aR _) | refine aB ?_ (Ty.aG _) | refine aB ?_ ?_)))
  all_goals skip
  all_goals exact Ty.ej (by rw [tu, if_neg (by show ¬ (bf (dV f) _).getD 0 > 0; omega), List.append_nil])
 refine cF (aL (aL (ah rfl (aC (aF (aA (Ad rfl (Ec rfl (b9 rfl (aD (aC (av ?_))))))))))))
 refine iB rfl rfl rfl ?_ ?_
 all_goals skip
 all_goals first | exact bE rfl rfl (congrArg (Ty.int .i64) (by rw [mU, if_neg (fun h => h hc1), if_neg (show ¬ mg (dV f) 0 = 0 from hc2)])) | exact nU (by decide) (by rw [mU, if_neg (fun h => h hc1), if_neg (show ¬ mg (dV f) 0 = 0 from hc2), show k.1 = f.turnings.length by have := k.2; omega])
end Go.Proofs.YtmmcenjknimhbaaGreat
namespace Go.Proofs.YtmmcenjknimhbaaGreat
open Go Go.T
set_option maxHeartbeats 2000000
attribute [local irreducible] eH cZ jR j7 eP eO eK eS eJ j8 eN j4 b8 dc j0 dZ j5 nth eZ cU aV cX bodyPost Exit.then Exit.inBlock Code.wp Code.wpIn dU m7 mo m6 fT mw m0 fV mY eB fO lu bW bV bodyPostM cV
set_option maxRecDepth 100000 in
theorem L6 (f : bS) (hs : f.Small) (p : vO) : cX Tryz.prog 100 [Ty.agg (rO.tys p), Ty.pp (cv f)] (Ty.bool (Af f p)) := by
 refine aY Tryz.func100 rfl (by decide) Tryz.ntmps100 (by exact Nat.le_of_ble_eq_true rfl) fun w0 M0 => ?_
 have hs1 := hs.bears; have hs2 := hs.bins; have hs3 := hs.turnings; have hs4 := hs.rules
 refine aF (aA (bC rfl (dG rfl (aD (aC (aF (aA ?_)))))))
 refine ay rfl rfl rfl (by exact Nat.le_of_ble_eq_true rfl) ?_
 refine aP rfl rfl rfl rfl rfl (by decide) ?_
 refine aK rfl rfl rfl rfl (aq (pW f hs _) rfl rfl rfl rfl rfl (kV rfl ?_))
 apply aN (s := 8) rfl rfl rfl
 ·intro hg; apply aQ; (refine ay rfl rfl rfl (by exact Nat.le_of_ble_eq_true rfl) ?_); refine aD ?_; exact rfl
 ·exact rfl
 ·exact rfl
 apply aN (s := 8) rfl rfl rfl
 ·intro hg; apply aQ; (refine aP rfl rfl rfl rfl rfl (by decide) ?_); refine aD ?_; exact rfl
 ·exact rfl
 ·exact rfl
 apply aN (s := 8) rfl rfl rfl
 ·intro hg; apply aM (s := 10) rfl (by (rw [hg]; rfl)); apply aQ; (refine aK rfl rfl rfl rfl ?_); refine aD ?_; exact rfl
 ·exact rfl
 ·exact rfl
 apply aN (s := 8) rfl rfl rfl
 ·intro hg; apply aM (s := 9) rfl (by (rw [hg]; rfl)); apply aM (s := 11) rfl (by (rw [hg]; rfl)); apply aQ; (refine aq (pW f hs _) rfl rfl rfl rfl rfl ?_); refine aD ?_; exact rfl
 ·exact rfl
 ·exact rfl
 refine gP rfl rfl (dG rfl (aD (aC (av (bK rfl rfl ?_)))))
 all_goals exact bN rfl rfl
set_option maxRecDepth 100000 in
theorem K9 (p : vO) : cX Tryz.prog 101 [Ty.agg (rO.tys p)] (Ty.bool (decide (p.much ≥ 1))) := by
 refine aY Tryz.func101 rfl (by decide) Tryz.ntmps101 (by exact Nat.le_of_ble_eq_true rfl) fun w0 M0 => ?_
 refine aF (aA (bC rfl (dG rfl (aD (aC (aF (aA ?_)))))))
 refine aP rfl rfl rfl rfl rfl (by decide) ?_
 refine aK rfl rfl rfl rfl (ak rfl rfl rfl (dG rfl (aD (aC (av (bK rfl rfl ?_))))))
 all_goals exact bN rfl rfl
set_option maxRecDepth 100000 in
theorem LW (b : SB) (hb : kN b) (p : vO) (h1 : 0 ≤ p.src ∧ p.src < 8) (h2 : 0 ≤ p.dst ∧ p.dst < 8) : cX Tryz.prog 102 [Ty.agg (rO.tys p), Ty.pp [Ty.pe fF b 0]] (Ty.bool (Ea b p)) := by
 refine aY Tryz.func102 rfl (by decide) Tryz.ntmps102 (by exact Nat.le_of_ble_eq_true rfl) fun w0 M0 => ?_
 have hbt := hb.before p.src.toNat
 have hsh := Nat.shiftRight_le (nth b.1.before p.src.toNat) p.dst.toNat
 refine aF (aA (bC rfl (dG rfl (aD (aC (aF (cg mixed rfl (aK rfl rfl rfl rfl ?_))))))))
 refine aP rfl rfl rfl rfl rfl (by decide) ?_
 refine aK rfl rfl rfl rfl (dR rfl ?_)
 refine dP rfl rfl rfl rfl rfl (by decide) ?_
 refine yl (n := 8) rfl rfl rfl rfl rfl (by omega) (by omega) ?_
 refine gJ (ty := Ty.int .i64 (nth b.1.before p.src.toNat : Nat)) rfl rfl rfl (by rw [show 0 + 4 + p.src.toNat * 1 = 4 + p.src.toNat by omega]; exact AQ b.2 (by omega)) ?_
 refine aP rfl rfl rfl rfl rfl (by decide) ?_
 refine aK rfl rfl rfl rfl ?_
 refine S9 rfl rfl (by omega) (by omega) ?_
 refine wq (b := 1) rfl rfl (by omega) (by omega) ?_
 refine ak rfl rfl rfl (dG rfl (aD ?_))
 refine ⟨by kernel_rfl, ?_⟩
 refine aC (av (bK rfl rfl ?_))
 all_goals exact bN rfl rfl
theorem we {f : bS} {p : vO} (hn : f.turnings.length ≤ 8) (h : Af f p = true) : (0 ≤ p.src ∧ p.src < 8) ∧ 0 ≤ p.dst ∧ p.dst < 8 := by
 simp only [Af, Bool.and_eq_true] at h
 have h1 := fH h.1
 have h2 := fH h.2
 omega
theorem HW {α : Type} [Inhabited α] {l : List α} {q : α → Bool} (h : (!l.all q) = false) {k : Nat} (hk : k < l.length) : q (nth l k) = true :=
 List.all_eq_true.1 (by simpa using h) _ (bL hk)
set_option maxRecDepth 100000 in
theorem OZ (f : bS) (hs : f.Small) (bay : Int) (pays : List vO) (hp : pays.length ≤ 1000) : cX Tryz.prog 44 [iS f, Ty.int .i64 bay, Ty.sl rO pays] (Ty.s8 [Ty.int .i64 (mW f bay pays).1, Ty.int .i64 (mW f bay pays).2]) := by
 refine aY Tryz.func44 rfl (by decide) Tryz.ntmps44 (by exact Nat.le_of_ble_eq_true rfl) fun w0 M0 => ?_
 have hs1 := hs.bears; have hs2 := hs.bins; have hs3 := hs.turnings; have hs4 := hs.rules
 refine aF (aA (bC rfl (b9 rfl (b9 rfl (aD (aC (aF (cg mixed rfl ?_))))))))
 refine ay rfl rfl rfl (by exact Nat.le_of_ble_eq_true rfl) ?_
 refine ay rfl rfl rfl (by exact Nat.le_of_ble_eq_true rfl) ?_
 refine bF rfl (aq (R5 f hs _) rfl rfl rfl rfl rfl (ct rfl (aq (qA f hs _) rfl rfl rfl rfl rfl (FQ rfl (bt rfl rfl (bt rfl rfl ?_))))))
 refine dB rfl (by exact List.cons_ne_nil _ _) rfl ?_
 refine dm rfl rfl (by decide) rfl rfl (by exact (rfl : _ = Ty.when _ _)) rfl (by exact Nat.le_of_ble_eq_true rfl) rfl rfl (by exact (rfl : _ = [_])) ?_
 refine b9 rfl (aD ?_)
 refine ⟨by kernel_rfl, ?_⟩
 refine aC (aF (af (aF (aA (bF rfl (ak rfl rfl rfl (dG rfl (aD (aC ?_)))))))))
 refine ck rfl (fun hc1 => ?_) (fun hc1 => ?_)
 ·refine aF (aA (bF rfl (b9 rfl (b9 rfl (aD (aC (av (au (aW ?_)))))))))
  refine iB rfl rfl rfl ?_ ?_
  all_goals skip
  all_goals exact bE rfl rfl (congrArg (Ty.int .i64) (by rw [mW, if_pos hc1]))
 refine aF ?_
 have h0 := jg hc1
 have hin := fH (n := bay) (lo := 0) (hi := (f.bears.length : Int) - 1) (by have := h0.2; simpa using this)
 obtain ⟨n, rfl⟩ := Int.eq_ofNat_of_zero_le hin.1
 have hr := (cB h0.1).ranged
 have hb4 := hr.bears
 have hfi := fj h0.1
 have hff := n7 f
 have hnt : f.turnings.length ≤ 8 := by have := hfi.nt; rw [hff] at this; exact this
 refine tW (tg := 9) [(8, Ty.pp [Ty.when (decide (e9 f (!fE (n : Int) 0 (f.bears.length - 1)) = 0)) (Ty.pe fF (aX f) 0)])] (by decide) rfl ⟨v7 (T := 102) (tg := 9) (off := 0) (l := [Ty.when (decide (e9 f (!fE (n : Int) 0 (f.bears.length - 1)) = 0)) (Ty.pe fF (aX f) 0)]) rfl rfl rfl (by decide), trivial⟩ ?_
 refine mq (s := 8) rfl (Ty.Qn (Ty.lg (decide_eq_true hc1))) ?_
 refine aA (gy rfl (cw rfl ?_))
 refine aq (q3 pays (Ty.j9 _ [Ty.pp (cv f)]) rfl (Af f) rfl rfl fun p _ => cY (L6 f hs p) rfl rfl rfl rfl rfl rfl) rfl rfl rfl rfl rfl ?_
 refine ct rfl (dG rfl (aD (aC ?_)))
 refine c9 rfl (fun hc2 => ?_) (fun hc2 => ?_)
 ·refine aF (aA (b9 rfl (b9 rfl (aD (aC (av (au (aW ?_))))))))
  refine iB rfl rfl rfl ?_ ?_
  all_goals skip
  all_goals exact bE rfl rfl (congrArg (Ty.int .i64) (by rw [mW, if_neg (fun h => h hc1), if_pos hc2]))
 refine aF (aA (gy rfl ?_))
 refine aq (q3 pays (Ty.j9 _ []) rfl (fun p => decide (p.much ≥ 1)) rfl rfl fun p _ => cY (K9 p) rfl rfl rfl rfl rfl rfl) rfl rfl rfl rfl rfl ?_
 refine ct rfl (dG rfl (aD (aC ?_)))
 refine c9 rfl (fun hc3 => ?_) (fun hc3 => ?_)
 ·refine aF (aA (b9 rfl (b9 rfl (aD (aC (av (au (aW ?_))))))))
  refine iB rfl rfl rfl ?_ ?_
  all_goals skip
  all_goals exact bE rfl rfl (congrArg (Ty.int .i64) (by rw [mW, if_neg (fun h => h hc1), if_neg (Bool.eq_false_iff.1 hc2), if_pos hc3]))
 refine aF (aA (gy rfl (cw rfl ?_)))
 refine aq (q3 pays (Ty.j9 _ [Ty.pp [Ty.pe fF (aX f) 0]]) rfl (Ea (aX f)) rfl rfl fun p hpm => cY (LW (aX f) hfi p (we hnt (List.all_eq_true.1 (by simpa using hc2) p hpm)).1 (we hnt (List.all_eq_true.1 (by simpa using hc2) p hpm)).2) rfl rfl rfl rfl rfl rfl) rfl rfl rfl rfl rfl ?_
 refine ct rfl (dG rfl (aD (aC ?_)))
 refine c9 rfl (fun hc4 => ?_) (fun hc4 => ?_)
 ·refine aF (aA (b9 rfl (b9 rfl (aD (aC (av (au (aW ?_))))))))
  refine iB rfl rfl rfl ?_ ?_
  all_goals skip
  all_goals exact bE rfl rfl (congrArg (Ty.int .i64) (by rw [mW, if_neg (fun h => h hc1), if_neg (Bool.eq_false_iff.1 hc2), if_neg (Bool.eq_false_iff.1 hc3), if_pos hc4]))
 refine bA (bH (aC (aF (aA ?_))))
 refine Br (E := dN) (xs := List.replicate 8 0) rfl (by exact List.cons_ne_nil _ _) rfl rfl ?_
 refine Br (E := dN) (xs := List.replicate 8 0) rfl (by exact List.cons_ne_nil _ _) rfl rfl ?_
 refine aD (aC (aF (aA (aK rfl rfl rfl rfl (bF rfl (dR rfl ?_))))))
 refine dP rfl rfl rfl rfl rfl (by decide) ?_
 refine lA rfl rfl rfl rfl rfl (by omega) ?_
 refine gJ (ty := Ty.int .i64 (nth (aX f).1.first n)) rfl rfl rfl (by rw [show 0 + 44 + n * 1 = 44 + n by omega]; exact xG (aX f).2 (by omega)) ?_
 refine b9 rfl (aD (aC (aF (aF (aA ?_)))))
 refine aP rfl rfl rfl rfl rfl (by decide) ?_
 refine aK rfl rfl rfl rfl (cC rfl rfl rfl (bF rfl (aD (aC (af ?_)))))
 refine cK (fun (k : {k : Nat // k ≤ f.turnings.length}) => live [(1, Ty.int .i64 (n : Nat)), (2, Ty.sl rO pays), (3, Ty.pp (cv f)), (8, Ty.pp [Ty.pe fF (aX f) 0]), (10, Ty.ptr 11 0), (11, Ty.ptr 12 0), (12, Ty.int .i64 (jC (aX f) n k.1)), (52, Ty.int .i64 f.turnings.length), (53, Ty.int .i64 (k.1 : Nat))] [(11, Cont.vec dN 157 (mI (aX f) n k.1)), (12, Cont.vec dN 157 (ow (aX f) n k.1))]) (fun k => f.turnings.length - k.1) (⟨0, by omega⟩) ?_ fun k => ?_
 ·(refine c8.mk' ?_ ?_ <;> (repeat' (first | exact aI | exact aH | refine aB ?_ (Ty.aR _) | refine aB ?_ (Ty.aG _) | refine aJ rfl (Cont.aG _) ?_ | refine aB ?_ ?_)))
  all_goals exact Ty.bJ (by simp [jC])
 have hab := qP hfi n k.1
 have hbu := nT hfi n k.1
 have hau : (mI (aX f) n k.1).length = 8 := by simp [mI]
 have hlu : (ow (aX f) n k.1).length = 8 := by simp [ow]
 refine aF (aA (ak rfl rfl rfl (aD (aC (aF ?_)))))
 refine aa rfl (fun hc5 => ?_) (fun hc5 => ?_)
 ·refine bA (aC (aF (af (aF (aA (bF rfl (b9 rfl (aD (aC (aF (aA (aK rfl rfl rfl rfl (bF rfl (bF rfl (dR rfl ?_)))))))))))))))
  refine dP rfl rfl rfl rfl rfl (by decide) ?_
  refine lA rfl rfl rfl rfl rfl (by omega) ?_
  refine lA rfl rfl rfl rfl rfl (by omega) ?_
  refine gJ (ty := Ty.int .i64 (mJ (aX f) n k.1)) rfl rfl rfl (by rw [show 0 + 12 + k.1 * 4 + n * 1 = 12 + (k.1 * 4 + n) by omega]; exact F4 (aX f).2 (by omega)) ?_
  refine b9 rfl (aD (aC (aF (aA (bF rfl (bF rfl (bF rfl (Ff rfl rfl (bF rfl (Uk rfl (Ff rfl rfl ?_)))))))))))
  refine fD rfl rfl rfl rfl rfl (by omega) ?_
  refine jH (z := max 0 (mJ (aX f) n k.1)) rfl rfl rfl (by decide) rfl rfl (by exact (rfl : _ = Ty.int _ _)) rfl (by omega) (by decide) rfl rfl ?_
  refine fD rfl rfl rfl rfl rfl (by omega) ?_
  refine jH (z := max 0 (-(mJ (aX f) n k.1))) rfl rfl rfl (by decide) rfl rfl (by exact (rfl : _ = Ty.int _ _)) rfl (by omega) (by decide) rfl (by rw [IntWalk.i64_in _ (by omega), Int.zero_sub]; rfl) ?_
  refine aD (aC (aA (bF rfl (bF rfl ?_))))
  refine fD rfl rfl rfl rfl rfl (by omega) ?_
  refine fZ rfl rfl rfl (by decide) rfl rfl (by (simp <;> omega)) rfl ?_
  refine ak rfl rfl rfl (b9 rfl (aD (bH (aC (aA ?_)))))
  refine bz rfl rfl (by omega) (by omega) ?_
  refine bF rfl (aD ?_)
  refine bO (⟨k.1 + 1, by omega⟩) ?_ (by show f.turnings.length - (k.1 + 1) < f.turnings.length - k.1; omega)
  (refine c8.mk' ?_ ?_ <;> (repeat' (first | exact aI | exact aH | refine aB ?_ (Ty.aR _) | refine aB ?_ (Ty.aG _) | refine aJ rfl ?_ ?_ | refine aB ?_ ?_)))
  all_goals skip
  all_goals first | exact Ty.bJ (by rw [td, AR _ _ (by omega), IT _ _ (by omega), IntWalk.i64_in _ (by omega)]) | exact Cont.dF (AR _ _ (by omega)) | exact Cont.dF (IG _ _ (by omega))
 refine cF (aL (aL (ah rfl (aC (aF (aF (aA (gy rfl (cC rfl rfl rfl (bF rfl (aD (aC (af ?_)))))))))))))
 refine cK (fun (x : {x : Nat × Hj // x.1 ≤ pays.length ∧ tq (FP (aX f) n) (pays.take x.1) = some x.2 ∧ x.2.kN x.1}) => live [(10, Ty.ptr 11 0), (11, Ty.ptr 12 0), (12, Ty.int .i64 x.1.2.bound), (79, Ty.sl rO pays), (80, Ty.int .i64 pays.length), (81, Ty.int .i64 (x.1.1 : Nat))] [(11, Cont.vec dN 157 x.1.2.adds), (12, Cont.vec dN 157 x.1.2.less)]) (fun x => pays.length - x.1.1) (⟨(0, FP (aX f) n), by omega, rfl, Kx hfi n⟩) ?_ fun x => ?_
 ·(refine c8.mk' ?_ ?_ <;> (repeat' (first | exact aI | exact aH | refine aB ?_ (Ty.aR _) | refine aB ?_ (Ty.aG _) | refine aJ rfl ?_ ?_ | refine aB ?_ ?_)))
  all_goals first | exact Ty.bJ (by show jC _ n k.1 = jC _ n _; rw [hff, show k.1 = f.turnings.length by have := k.2; omega]) | exact Cont.dF (by show mI _ n k.1 = mI _ n _; rw [hff, show k.1 = f.turnings.length by have := k.2; omega]) | exact Cont.dF (by show ow _ n k.1 = ow _ n _; rw [hff, show k.1 = f.turnings.length by have := k.2; omega])
 obtain ⟨hx1, hx2, hx3⟩ := x.2
 have hla := hx3.la
 have hll := hx3.ll
 refine aF (aA (ak rfl rfl rfl (aD (aC (aF ?_)))))
 refine aa rfl (fun hc6 => ?_) (fun hc6 => ?_)
 ·refine bA (aC (aF (af (aF (aA ?_)))))
  refine bG rfl rfl rfl rfl rfl rfl (by omega) ?_
  refine ay rfl rfl rfl (by exact Nat.le_of_ble_eq_true rfl) ?_
  refine dB rfl (by exact List.cons_ne_nil _ _) rfl ?_
  refine eG rfl rfl (by decide) rfl rfl rfl rfl rfl rfl ?_
  refine aD (aC (aF (aF ?_)))
  have hto := we hnt (HW hc2 (k := x.1.1) (by omega))
  have hmu := of_decide_eq_true (HW hc3 (k := x.1.1) (by omega))
  have hax := hx3.adds (nth pays x.1.1).src.toNat
  have hlx := hx3.less (nth pays x.1.1).dst.toNat
  have hbx := hx3.bound
  refine cg mixed rfl ?_
  refine aS rfl rfl rfl rfl rfl (by decide) ?_
  refine aj rfl rfl (by decide) rfl rfl rfl ?_
  refine aS rfl rfl rfl rfl rfl (by decide) ?_
  refine aj rfl rfl (by decide) rfl rfl rfl ?_
  refine fU (n := 8) rfl rfl rfl rfl rfl (by omega) (by omega) ?_
  refine fZ rfl rfl rfl (by decide) rfl rfl (by omega) rfl ?_
  refine ak rfl rfl rfl (kV rfl ?_)
  apply aN (s := 92) rfl rfl rfl
  ·intro hg; apply aQ; (refine aS rfl rfl rfl rfl rfl (by decide) ?_); refine aD ?_; exact rfl
  ·exact rfl
  ·exact rfl
  apply aN (s := 92) rfl rfl rfl
  ·intro hg; apply aM (s := 93) rfl (by (rw [hg]; rfl)); apply aQ; (refine aj rfl rfl (by decide) rfl rfl rfl ?_); refine aD ?_; exact rfl
  ·exact rfl
  ·exact rfl
  apply aN (s := 92) rfl rfl rfl
  ·intro hg; apply aQ; (refine aS rfl rfl rfl rfl rfl (by decide) ?_); refine aD ?_; exact rfl
  ·exact rfl
  ·exact rfl
  apply aN (s := 92) rfl rfl rfl
  ·intro hg; apply aM (s := 95) rfl (by (rw [hg]; rfl)); apply aQ; (refine aj rfl rfl (by decide) rfl rfl rfl ?_); refine aD ?_; exact rfl
  ·exact rfl
  ·exact rfl
  apply aN (s := 92) rfl rfl rfl
  ·intro hg; apply aM (s := 96) rfl (by (rw [hg]; rfl)); apply aQ; (refine fU (n := 8) rfl rfl rfl rfl rfl (by omega) (by omega) ?_); refine aD ?_; exact rfl
  ·exact rfl
  ·exact rfl
  apply aN (s := 92) rfl rfl rfl
  ·intro hg; apply aM (s := 97) rfl (by (rw [hg]; rfl)); apply aQ; (refine fZ rfl rfl rfl (by decide) rfl rfl (by omega) rfl ?_); refine aD ?_; exact rfl
  ·exact rfl
  ·exact rfl
  apply aN (s := 92) rfl rfl rfl
  ·intro hg; apply aM (s := 94) rfl (by (rw [hg]; rfl)); apply aM (s := 98) rfl (by (rw [hg]; rfl)); apply aQ; (refine ak rfl rfl rfl ?_); refine aD ?_; exact rfl
  ·exact rfl
  ·exact rfl
  refine oB rfl rfl (aD ?_)
  refine ⟨by kernel_rfl, ?_⟩
  refine aC ?_
  refine c9 rfl (fun hc7 => ?_) (fun hc7 => ?_)
  ·refine aF (aA (b9 rfl (b9 rfl (aD (aC (av (aW (au (aW (aW (au (aW ?_))))))))))))
   refine iB rfl rfl rfl ?_ ?_
   all_goals skip
   all_goals exact bE rfl rfl (congrArg (Ty.int .i64) (by rw [mW, if_neg (fun h => h hc1), if_neg (Bool.eq_false_iff.1 hc2), if_neg (Bool.eq_false_iff.1 hc3), if_neg (Bool.eq_false_iff.1 hc4), show (n : Int).toNat = n from rfl, Iq (by omega) hx2 (by rw [Ig, if_pos (show zU x.1.2 (nth pays x.1.1) = true from hc7)])]))
  refine bA (aC (aF ?_))
  have h7 := hc7
  simp only [Bool.or_eq_false_iff, decide_eq_false_iff_not] at h7
  refine cg mixed rfl ?_
  refine aS rfl rfl rfl rfl rfl (by decide) ?_
  refine aj rfl rfl (by decide) rfl rfl rfl ?_
  refine fU (n := 8) rfl rfl rfl rfl rfl (by omega) (by omega) ?_
  refine fZ rfl rfl rfl (by decide) rfl rfl (by omega) rfl ?_
  refine aS rfl rfl rfl rfl rfl (by decide) ?_
  refine aj rfl rfl (by decide) rfl rfl rfl ?_
  refine iZ rfl rfl (by omega) (by omega) ?_
  refine fU (n := 8) rfl rfl rfl rfl rfl (by omega) (by omega) ?_
  refine jH rfl rfl rfl (by decide) rfl rfl (by exact (rfl : _ = Ty.int _ _)) rfl (by omega) (by decide) rfl rfl ?_
  refine aD ?_
  refine ⟨by kernel_rfl, ?_⟩
  refine aC (aF (cg mixed rfl ?_))
  refine aS rfl rfl rfl rfl rfl (by decide) ?_
  refine aj rfl rfl (by decide) rfl rfl rfl ?_
  refine fU (n := 8) rfl rfl rfl rfl rfl (by omega) (by omega) ?_
  refine fZ rfl rfl rfl (by decide) rfl rfl (by omega) rfl ?_
  refine aS rfl rfl rfl rfl rfl (by decide) ?_
  refine aj rfl rfl (by decide) rfl rfl rfl ?_
  refine iZ rfl rfl (by omega) (by omega) ?_
  refine fU (n := 8) rfl rfl rfl rfl rfl (by omega) (by omega) ?_
  refine jH rfl rfl rfl (by decide) rfl rfl (by exact (rfl : _ = Ty.int _ _)) rfl (by omega) (by decide) rfl rfl ?_
  refine aD ?_
  refine ⟨by kernel_rfl, ?_⟩
  refine aC (aA (bF rfl ?_))
  refine aS rfl rfl rfl rfl rfl (by decide) ?_
  refine aj rfl rfl (by decide) rfl rfl rfl ?_
  refine iZ rfl rfl (by omega) (by omega) ?_
  refine b9 rfl (aD (bH (aC (aA ?_))))
  refine bz rfl rfl (by omega) (by omega) ?_
  refine bF rfl (aD ?_)
  refine bO (⟨(x.1.1 + 1, GF x.1.2 (nth pays x.1.1)), by omega, by rw [Bg (by omega) hx2, Ig, if_neg (Bool.eq_false_iff.1 (show zU x.1.2 (nth pays x.1.1) = false from hc7))], LN hx3 hmu hc7⟩) ?_ (by show pays.length - (x.1.1 + 1) < pays.length - x.1.1; omega)
  (refine c8.mk' ?_ ?_ <;> (repeat' (first | exact aI | exact aH | refine aB ?_ (Ty.aR _) | refine aB ?_ (Ty.aG _) | refine aJ rfl (Cont.aG _) ?_)))
  all_goals skip
 refine cF (aL (aL (ah rfl (aC (aF (aA (bF rfl (b9 rfl (b9 rfl (aD (aC (av ?_))))))))))))
 refine iB rfl rfl rfl ?_ ?_
 all_goals skip
 all_goals exact bE rfl rfl (congrArg (Ty.int .i64) (by rw [mW, if_neg (fun h => h hc1), if_neg (Bool.eq_false_iff.1 hc2), if_neg (Bool.eq_false_iff.1 hc3), if_neg (Bool.eq_false_iff.1 hc4), show (n : Int).toNat = n from rfl]; have h := hx2; rw [List.take_of_length_le (by omega)] at h; rw [h]))
end Go.Proofs.YtmmcenjknimhbaaGreat
namespace Go.Proofs.YtmmcenjknimhbaaGreat
open Go Go.T
set_option maxHeartbeats 2000000
attribute [local irreducible] eH cZ jR j7 eP eO eK eS eJ j8 eN j4 b8 dc j0 dZ j5 nth eZ cU aV cX bodyPost Exit.then Exit.inBlock Code.wp Code.wpIn dU m7 mo m6 fT mw m0 fV mY eB fO lu bW bV bodyPostM cV
theorem H8 {w : KV} {s j : Nat} (h1 : gQ w s j < 0) (h2 : ((s >>> j &&& 1 : Nat) : Int) = 0) (h3 : (bf w ((s ||| 1 <<< j : Nat) : Int)).getD 0 > 0) : gQ w s (j + 1) = j := by
 have hb : s.testBit j = false := Bool.eq_false_iff.2 fun h => by have := (iQ s j).2 h; omega
 have hk : lE w s j = true := by simp only [lE, hb, mg]; simpa using h3
 rw [sH, if_pos ⟨h1, hk⟩]
theorem MK {w : KV} {s j : Nat} (h : ¬ (gQ w s j < 0 ∧ ((s >>> j &&& 1 : Nat) : Int) = 0 ∧ (bf w ((s ||| 1 <<< j : Nat) : Int)).getD 0 > 0)) : gQ w s (j + 1) = gQ w s j := by
 rw [sH, if_neg]
 rintro ⟨h1, h2⟩
 obtain ⟨h3, h4⟩ := yM h2
 refine h ⟨h1, ?_, h4⟩
 have := Nat.mod_two_eq_zero_or_one (s >>> j)
 have h5 : ¬ (s >>> j &&& 1 = 1) := fun e => by rw [iQ] at e; rw [e] at h3; cases h3
 rw [Nat.and_one_is_mod] at *
 omega
set_option maxRecDepth 100000 in
theorem Si (f : bS) (hs : f.Small) : cX Tryz.prog 45 [iS f] (Ty.s8 [Ty.sl dN (vJ f).1, Ty.int .i64 (vJ f).2]) := by
 refine aY Tryz.func45 rfl (by decide) Tryz.ntmps45 (by exact Nat.le_of_ble_eq_true rfl) fun w0 M0 => ?_
 have hs1 := hs.bears; have hs2 := hs.bins; have hs3 := hs.turnings; have hs4 := hs.rules
 refine aF (aA (bC rfl (mP rfl (b9 rfl (aD (aC (aF (aA ?_))))))))
 refine ay rfl rfl rfl (by exact Nat.le_of_ble_eq_true rfl) ?_
 refine aq (qA f hs _) rfl rfl rfl rfl rfl (FQ rfl (bt rfl rfl (bt rfl rfl (S6 rfl (b9 rfl (aD (aC (aF (aF (aA (bF rfl (ak rfl rfl rfl (aD (aC ?_))))))))))))))
 refine ck rfl (fun hc1 => ?_) (fun hc1 => ?_)
 ·refine aF (aA (bF rfl (mP rfl (b9 rfl (aD (aC (av (aW ?_))))))))
  refine iB rfl rfl rfl ?_ ?_
  all_goals skip
  all_goals first | exact bE rfl rfl (congrArg (Ty.int .i64) (by rw [vJ, if_pos hc1])) | exact gD (by rw [vJ, if_pos hc1])
 refine bA (aC (aF ?_))
 have h0 := jg hc1
 have hfi := fj h0.1
 have hff := n7 f
 have hnt : f.turnings.length ≤ 8 := by have := hfi.nt; rw [hff] at this; exact this
 refine mq (s := 4) rfl (Ty.lg (decide_eq_true hc1)) ?_
 refine aA (mF rfl (mF rfl (aq (ET (aX f)) rfl rfl rfl rfl rfl (aq (Eg (aX f) hfi) rfl rfl rfl rfl rfl (TV rfl (aD (aC (aF (aF (aA (NY rfl ?_)))))))))))
 refine pY (jV Tryz.prog 3 .i64 tM) (z0 := (0 : Int)) rfl rfl gj fX rI gq ?_
 refine ak rfl rfl rfl (aD (aC ?_))
 refine aa rfl (fun hc2 => ?_) (fun hc2 => ?_)
 ·refine aF (aA (mP rfl (b9 rfl (aD (aC (av (aW ?_)))))))
  refine iB rfl rfl rfl ?_ ?_
  all_goals skip
  all_goals first | exact bE rfl rfl (congrArg (Ty.int .i64) (by rw [vJ, if_neg (fun h => h hc1), if_pos (show mg (dV f) 0 = 0 from hc2)])) | exact gD (by rw [vJ, if_neg (fun h => h hc1), if_pos (show mg (dV f) 0 = 0 from hc2)])
 refine bA (aC (aF ?_))
 have hpos : 0 < mg (dV f) 0 := by have h1 := Gz hfi (u7 (aX f)) (s := 0) (by omega); have h2 : ¬ mg (dV f) 0 = 0 := hc2; have h3 : 0 ≤ mg (dV f) 0 := h1; omega
 have hinv : ∀ i, i ≤ f.turnings.length → (iE (dV f) f.turnings.length i).2 < 2 ^ f.turnings.length ∧ (iE (dV f) f.turnings.length i).1.length = i := fun i hi => by have h := ze hfi (u7 (aX f)) hpos i (by rw [hff]; exact hi); rw [hff] at h; exact ⟨h.1, h.2.2.2⟩
 have hnxt : ∀ i, i < f.turnings.length → 0 ≤ gQ (dV f) (iE (dV f) f.turnings.length i).2 f.turnings.length := fun i hi => by have h := Mh hfi (u7 (aX f)) hpos (i := i) (by rw [hff]; exact hi); rw [hff] at h; exact h
 refine aA (mP rfl (aD (aC (aF (aA (b9 rfl (aD (aC (aF (aF (aA ?_)))))))))))
 refine aP rfl rfl rfl rfl rfl (by decide) ?_
 refine aK rfl rfl rfl rfl (cC rfl rfl rfl (bF rfl (aD (aC (af ?_)))))
 refine cK (fun (i : {k : Nat // k ≤ f.turnings.length}) => live [(1, Ty.pp (cv f)), (6, Ty.pm (Value.int .i64) qC (dV f)), (7, Ty.row dN 3 61 (iE (dV f) f.turnings.length i.1).1), (8, Ty.int .i64 ((iE (dV f) f.turnings.length i.1).2 : Nat)), (28, Ty.int .i64 f.turnings.length), (29, Ty.int .i64 (i.1 : Nat))] []) (fun i => f.turnings.length - i.1) (⟨0, by omega⟩) ?_ fun i => ?_
 ·(refine c8.mk' ?_ ?_ <;> (repeat' (first | exact aI | exact aH | refine aB ?_ (Ty.aR _) | refine aB ?_ (Ty.aG _) | refine aB ?_ Ty.lS)))
 obtain ⟨hi1, hi4⟩ := hinv i.1 i.2
 have hs256 := ug hnt hi1
 obtain ⟨s, hse⟩ : ∃ s, s = (iE (dV f) f.turnings.length i.1).2 := ⟨_, rfl⟩
 have hs2 : s < 256 := hse ▸ hs256
 refine mq (s := 8) rfl (Ty.bJ (by rw [← hse])) ?_
 refine aF (aA (ak rfl rfl rfl (aD (aC (aF ?_)))))
 refine aa rfl (fun hc3 => ?_) (fun hc3 => ?_)
 ·refine bA (aC (aF (af (aF (aA (b9 rfl (aD (aC (aF (aF (aA ?_)))))))))))
  refine aP rfl rfl rfl rfl rfl (by decide) ?_
  refine aK rfl rfl rfl rfl (cC rfl rfl rfl (bF rfl (aD (aC (af ?_)))))
  refine cK (fun (j : {k : Nat // k ≤ f.turnings.length}) => live [(1, Ty.pp (cv f)), (6, Ty.pm (Value.int .i64) qC (dV f)), (7, Ty.row dN 3 61 (iE (dV f) f.turnings.length i.1).1), (8, Ty.int .i64 (s : Nat)), (9, Ty.int .i64 (gQ (dV f) s j.1)), (28, Ty.int .i64 f.turnings.length), (29, Ty.int .i64 (i.1 : Nat)), (33, Ty.int .i64 f.turnings.length), (34, Ty.int .i64 (j.1 : Nat))] []) (fun j => f.turnings.length - j.1) (⟨0, by omega⟩) ?_ fun j => ?_
  ·(refine c8.mk' ?_ ?_ <;> (repeat' (first | exact aI | exact aH | refine aB ?_ (Ty.aR _) | refine aB ?_ (Ty.aG _))))
  refine aF (aA (ak rfl rfl rfl (aD (aC (aF ?_)))))
  refine aa rfl (fun hc4 => ?_) (fun hc4 => ?_)
  ·refine bA (aC (aF (af (aF (aA (bF rfl (b9 rfl (aD (aC (aF ?_))))))))))
   have hsh := Nat.shiftRight_le s j.1
   have hone := lQ (i := j.1) (by omega)
   refine aA (bF rfl (ak rfl rfl rfl (kV rfl ?_)))
   apply aN (s := 39) rfl rfl rfl
   ·intro hg; apply aQ; (refine bF rfl ?_); refine aD ?_; exact rfl
   ·exact rfl
   ·exact rfl
   apply aN (s := 39) rfl rfl rfl
   ·intro hg; apply aQ; (refine bF rfl ?_); refine aD ?_; exact rfl
   ·exact rfl
   ·exact rfl
   apply aN (s := 39) rfl rfl rfl
   ·intro hg; apply aM (s := 40) rfl (by (rw [hg]; rfl)); apply aM (s := 41) rfl (by (rw [hg]; rfl)); apply aQ; (refine uy rfl rfl (by omega) ?_); refine aD ?_; exact rfl
   ·exact rfl
   ·exact rfl
   apply aN (s := 39) rfl rfl rfl
   ·intro hg; apply aM (s := 42) rfl (by (rw [hg]; rfl)); apply aQ; (refine wq (b := 1) rfl rfl (by omega) (by omega) ?_); refine aD ?_; exact rfl
   ·exact rfl
   ·exact rfl
   apply aN (s := 39) rfl rfl rfl
   ·intro hg; apply aM (s := 43) rfl (by (rw [hg]; rfl)); apply aQ; (refine ak rfl rfl rfl ?_); refine aD ?_; exact rfl
   ·exact rfl
   ·exact rfl
   refine gP rfl rfl (kV rfl ?_)
   apply aN (s := 46) rfl rfl rfl
   ·intro hg; apply aQ; (refine NY rfl ?_); refine aD ?_; exact rfl
   ·exact rfl
   ·exact rfl
   apply aN (s := 46) rfl rfl rfl
   ·intro hg; apply aQ; (refine bF rfl ?_); refine aD ?_; exact rfl
   ·exact rfl
   ·exact rfl
   apply aN (s := 46) rfl rfl rfl
   ·intro hg; apply aQ; (refine bF rfl ?_); refine aD ?_; exact rfl
   ·exact rfl
   ·exact rfl
   apply aN (s := 46) rfl rfl rfl
   ·intro hg; apply aM (s := 49) rfl (by (rw [hg]; rfl)); apply aQ; (refine nx (a := 1) rfl rfl (by omega) (by omega) ?_); refine aD ?_; exact rfl
   ·exact rfl
   ·exact rfl
   apply aN (s := 46) rfl rfl rfl
   ·intro hg; apply aM (s := 48) rfl (by (rw [hg]; rfl)); apply aM (s := 50) rfl (by (rw [hg]; rfl)); apply aQ; (refine wG rfl rfl (by omega) (by omega) ?_); refine aD ?_; exact rfl
   ·exact rfl
   ·exact rfl
   apply aN (s := 46) rfl rfl rfl
   ·intro hg; apply aM (s := 47) rfl (by (rw [hg]; rfl)); apply aM (s := 51) rfl (by (rw [hg]; rfl)); apply aQ; (refine pY (jV Tryz.prog 3 .i64 tM) (z0 := (0 : Int)) rfl rfl gj fX rI gq ?_); refine aD ?_; exact rfl
   ·exact rfl
   ·exact rfl
   apply aN (s := 46) rfl rfl rfl
   ·intro hg; apply aM (s := 52) rfl (by (rw [hg]; rfl)); apply aQ; (refine ak rfl rfl rfl ?_); refine aD ?_; exact rfl
   ·exact rfl
   ·exact rfl
   refine gP rfl rfl (aD (aC ?_))
   refine c9 rfl (fun hc5 => ?_) (fun hc5 => ?_)
   ·refine aA (bF rfl (b9 rfl (aD (bH (aC (aA ?_))))))
    refine bz rfl rfl (by omega) (by omega) ?_
    refine bF rfl (aD ?_)
    refine bO (⟨j.1 + 1, by omega⟩) ?_ (by show f.turnings.length - (j.1 + 1) < f.turnings.length - j.1; omega)
    (refine c8.mk' ?_ ?_ <;> (repeat' (first | exact aI | exact aH | refine aB ?_ (Ty.aR _) | refine aB ?_ (Ty.aG _) | refine aB ?_ ?_)))
    all_goals skip
    all_goals exact Ty.bJ (H8 (by simp only [Bool.and_eq_true, decide_eq_true_eq] at hc5; exact hc5.1.1) (by simp only [Bool.and_eq_true, decide_eq_true_eq] at hc5; exact hc5.1.2) (by simp only [Bool.and_eq_true, decide_eq_true_eq] at hc5; exact hc5.2)).symm
   refine bA (bH (aC (aA ?_)))
   refine bz rfl rfl (by omega) (by omega) ?_
   refine bF rfl (aD ?_)
   refine bO (⟨j.1 + 1, by omega⟩) ?_ (by show f.turnings.length - (j.1 + 1) < f.turnings.length - j.1; omega)
   (refine c8.mk' ?_ ?_ <;> (repeat' (first | exact aI | exact aH | refine aB ?_ (Ty.aR _) | refine aB ?_ (Ty.aG _) | refine aB ?_ ?_)))
   all_goals skip
   all_goals exact Ty.bJ (MK fun h => by rw [decide_eq_true h.1, decide_eq_true h.2.1, decide_eq_true h.2.2] at hc5; cases hc5).symm
  refine cF (aL (aL (ah rfl (aC ?_))))
  have hj : j.1 = f.turnings.length := by have := j.2; omega
  have hn0 : 0 ≤ gQ (dV f) s j.1 := by rw [hj, hse]; exact hnxt i.1 (by omega)
  have hn1 := vQ (dV f) s j.1
  have hone := lQ (i := (gQ (dV f) s j.1).toNat) (by omega)
  refine cg mixed rfl (Ad rfl (bF rfl ?_))
  refine bT (E := dN) (xs := [_]) rfl rfl rfl rfl rfl (by decide) (by decide) (by repeat (first | exact (aT.nil : aT _ _ [] _) | (show aT _ _ ((_, _) :: _) _; apply aT.one; (· exact (rfl : _ = Ty.int _ _)); (· exact rfl)))) (by exact rfl) rfl ?_
  refine fB rfl rfl (by decide) rfl rfl rfl rfl rfl rfl (by decide) (by (simp <;> omega)) (by (simp <;> omega)) ?_
  refine bF rfl (bF rfl ?_)
  refine E8 (a := 1) rfl rfl (by omega) (by omega) (by omega) ?_
  refine wG rfl rfl (by omega) (by omega) ?_
  refine Ec rfl (b9 rfl (aD ?_))
  refine ⟨by kernel_rfl, ?_⟩
  refine bH (aC (aA ?_))
  refine bz rfl rfl (by omega) (by omega) ?_
  refine bF rfl (aD ?_)
  refine bO (⟨i.1 + 1, by omega⟩) ?_ (by show f.turnings.length - (i.1 + 1) < f.turnings.length - i.1; omega)
  (refine c8.mk' ?_ ?_ <;> (repeat' (first | exact aI | exact aH | refine aB ?_ (Ty.aR _) | refine aB ?_ (Ty.aG _) | refine aB ?_ ?_)))
  all_goals skip
  all_goals first | exact Ty.ej (by rw [hse, show j.1 = f.turnings.length by have := j.2; omega]; rfl) | exact Ty.bJ (by rw [hse, show j.1 = f.turnings.length by have := j.2; omega]; rfl)
 refine cF (aL (aL (ah rfl (aC (aF (aA (Ad rfl (Ec rfl (b9 rfl (aD (aC (av ?_))))))))))))
 refine iB rfl rfl rfl ?_ ?_
 all_goals skip
 all_goals first | exact bE rfl rfl (congrArg (Ty.int .i64) (by rw [vJ, if_neg (fun h => h hc1), if_neg (show ¬ mg (dV f) 0 = 0 from hc2)])) | exact nU (by decide) (by rw [vJ, if_neg (fun h => h hc1), if_neg (show ¬ mg (dV f) 0 = 0 from hc2), show i.1 = f.turnings.length by have := i.2; omega])
theorem wm {b : SB} {s j : Nat} {m n : KV} (h : (decide (((s >>> j &&& 1 : Nat) : Int) = 1) || !eF b (s ||| 1 <<< j)) = true) : fy b s m n (j + 1) = fy b s m n j := by
 rw [oR, CU, if_pos]
 rw [Bool.or_eq_true] at h ⊢
 refine h.imp (fun h => (iQ s j).1 ?_) id
 have := of_decide_eq_true h
 omega
theorem Jn {b : SB} {s j : Nat} (h : (decide (((s >>> j &&& 1 : Nat) : Int) = 1) || !eF b (s ||| 1 <<< j)) = false) : ¬ (s.testBit j || !eF b (s ||| 1 <<< j)) = true := by
 rw [Bool.or_eq_false_iff] at h
 rw [h.2, Bool.or_false, ← iQ]
 have := of_decide_eq_false h.1
 omega
theorem A3 {b : SB} {s j : Nat} {m n : KV} (h : (decide (((s >>> j &&& 1 : Nat) : Int) = 1) || !eF b (s ||| 1 <<< j)) = false)
 (h2 : (!(fy b s m n j).found || decide (mg (fy b s m n j).best s < min (mm b (iI b s)) (mg (fy b s m n j).best ((s ||| 1 <<< j : Nat) : Int)))) = true) :
 fy b s m n (j + 1) = ⟨cq (fy b s m n j).best s (min (mm b (iI b s)) (mg (fy b s m n j).best ((s ||| 1 <<< j : Nat) : Int))), cq (fy b s m n j).next s j, true⟩ := by
 rw [oR, CU, if_neg (Jn h), if_pos h2]
theorem A7 {b : SB} {s j : Nat} {m n : KV} (h : (decide (((s >>> j &&& 1 : Nat) : Int) = 1) || !eF b (s ||| 1 <<< j)) = false)
 (h2 : (!(fy b s m n j).found || decide (mg (fy b s m n j).best s < min (mm b (iI b s)) (mg (fy b s m n j).best ((s ||| 1 <<< j : Nat) : Int)))) = false) :
 fy b s m n (j + 1) = fy b s m n j := by
 rw [oR, CU, if_neg (Jn h), if_neg (Bool.eq_false_iff.1 h2)]
theorem Gl (f : bS) : yS f.turnings.length (nq (aX f)).2 := by
 have h : yS (aX f).1.f.turnings.length (nq (aX f)).2 := p8 _ _ _
 rwa [n7] at h
set_option maxRecDepth 100000 in
theorem OD (f : bS) (hs : f.Small) : cX Tryz.prog 47 [iS f] (Ty.s8 [Ty.sl dN (kI f).1, Ty.int .i64 (kI f).2.1, Ty.int .i64 (kI f).2.2]) := by
 refine aY Tryz.func47 rfl (by decide) Tryz.ntmps47 (by exact Nat.le_of_ble_eq_true rfl) fun w0 M0 => ?_
 have hs1 := hs.bears; have hs2 := hs.bins; have hs3 := hs.turnings; have hs4 := hs.rules
 refine aF (aA (bC rfl (mP rfl (b9 rfl (b9 rfl (aD (aC (aF (aA ?_)))))))))
 refine ay rfl rfl rfl (by exact Nat.le_of_ble_eq_true rfl) ?_
 refine aq (qA f hs _) rfl rfl rfl rfl rfl (FQ rfl (bt rfl rfl (bt rfl rfl (S6 rfl (b9 rfl (aD (aC (aF (aF (aA (bF rfl (ak rfl rfl rfl (aD (aC ?_))))))))))))))
 refine ck rfl (fun hc1 => ?_) (fun hc1 => ?_)
 ·refine aF (aA (bF rfl (mP rfl (b9 rfl (b9 rfl (aD (aC (av (aW ?_)))))))))
  refine yf rfl rfl rfl rfl ?_ ?_ ?_
  all_goals skip
  all_goals first | exact bE rfl rfl (congrArg (Ty.int .i64) (by rw [kI, if_pos hc1])) | exact gD (by rw [kI, if_pos hc1])
 refine bA (aC (aF ?_))
 have h0 := jg hc1
 have hfi := fj h0.1
 have hff := n7 f
 have hnt : f.turnings.length ≤ 8 := by have := hfi.nt; rw [hff] at this; exact this
 have hsl := rH hnt
 obtain ⟨N, hN⟩ : ∃ N, N = 1 <<< f.turnings.length := ⟨_, rfl⟩
 refine mq (s := 5) rfl (Ty.lg (decide_eq_true hc1)) ?_
 refine aA (xE (Value.int .i64) qC fX rfl (xE (Value.int .i64) qC fX rfl (VC rfl (VC rfl (aD (aC (aF (aF (aA ?_)))))))))
 refine aP rfl rfl rfl rfl rfl (by decide) ?_
 refine aK rfl rfl rfl rfl (cC rfl rfl rfl ?_)
 refine nx (a := 1) rfl rfl (by omega) (by omega) ?_
 refine iZ rfl rfl (by omega) (by omega) ?_
 refine b9 rfl (aD (aC (af ?_)))
 refine cK (fun (k : {k : Nat // k ≤ N}) => live [(1, Ty.pp (cv f)), (5, Ty.pe fF (aX f) 0), (7, Ty.mp 26), (8, Ty.mp 27), (9, Ty.int .i64 ((N : Int) - (k.1 + 1)))] [(26, Cont.mp (Value.int .i64) qC (gU (aX f) N k.1).1), (27, Cont.mp (Value.int .i64) qC (gU (aX f) N k.1).2)]) (fun k => N - k.1) (⟨0, by omega⟩) ?_ fun k => ?_
 ·(refine c8.mk' ?_ ?_ <;> (repeat' (first | exact aI | exact aH | refine aB ?_ (Ty.aR _) | refine aB ?_ (Ty.aG _) | refine aJ rfl (Cont.aG _) ?_ | refine aB ?_ ?_)))
  all_goals exact Ty.bJ (by show ((1 <<< f.turnings.length : Nat) : Int) - 1 = (N : Int) - (((0 : Nat) : Int) + 1); rw [← hN]; simp)
 refine aF (aF (aA (bF rfl (ak rfl rfl rfl (aD (aC ?_))))))
 refine aa rfl (fun hc2 => ?_) (fun hc2 => ?_)
 ·refine bA (aC (aF (af (aF (aF ?_)))))
  obtain ⟨s, hse⟩ : ∃ s : Nat, s + (k.1 + 1) = N := ⟨N - (k.1 + 1), by omega⟩
  have hs256 : s < 256 := by omega
  have hd : gU (aX f) N (k.1 + 1) = Bt (aX f) s (gU (aX f) N k.1) := by rw [gU, show N - (k.1 + 1) = s by omega]
  refine mq (s := 9) rfl (Ty.bJ (show (N : Int) - (k.1 + 1) = (s : Nat) by omega)) ?_
  refine aA (mF rfl (bF rfl ?_))
  refine aq (vm (aX f) _ (by omega) hfi.before) rfl rfl rfl rfl rfl ?_
  refine ct rfl (aD (aC ?_))
  refine c9 rfl (fun hc3 => ?_) (fun hc3 => ?_)
  ·refine cF (aL (ah rfl (aC (aA (bF rfl ?_)))))
   refine iZ rfl rfl (by omega) (by omega) ?_
   refine b9 rfl (aD ?_)
   refine bO (⟨k.1 + 1, by omega⟩) ?_ (by exact Nat.sub_lt_sub_left (by omega) (Nat.lt_succ_self _))
   (refine c8.mk' ?_ ?_ <;> (repeat' (first | exact aI | exact aH | refine aB ?_ (Ty.aR _) | refine aB ?_ (Ty.aG _) | refine aJ rfl ?_ ?_ | refine aB ?_ ?_)))
   all_goals skip
   all_goals first | exact Ty.bJ (by show (s : Int) - 1 = (N : Int) - (((k.1 + 1 : Nat) : Int) + 1); omega) | exact Cont.iR (by show _ = (gU _ N (k.1 + 1)).1; rw [hd, Bt, if_pos hc3]) | exact Cont.iR (by show _ = (gU _ N (k.1 + 1)).2; rw [hd, Bt, if_pos hc3])
  refine bA (aC (aF (aA (mF rfl (mF rfl (bF rfl (aq (EC (aX f) hfi s hs256) rfl rfl rfl rfl rfl ?_)))))))
  refine aq (HK (aX f) hfi _ (lO (aX f) s) (fun i => by have := yJ hfi s i; omega)) rfl rfl rfl rfl rfl ?_
  refine b9 rfl (aD (aC (aF (aA (P7 rfl (bF rfl (bF rfl ?_)))))))
  refine mC (jV Tryz.prog 3 .i64 tM) rfl rfl (by decide) rfl gj rfl rfl fX ?_
  refine aD (aC (aF (aA (dG rfl (aD (aC (aF (aA ?_))))))))
  refine aP rfl rfl rfl rfl rfl (by decide) ?_
  refine aK rfl rfl rfl rfl (cC rfl rfl rfl (bF rfl (aD (aC (af ?_)))))
  refine cK (fun (j : {k : Nat // k ≤ f.turnings.length}) => live [(1, Ty.pp (cv f)), (5, Ty.pe fF (aX f) 0), (7, Ty.mp 26), (8, Ty.mp 27), (9, Ty.int .i64 (s : Nat)), (10, Ty.int .i64 (mm (aX f) (iI (aX f) s))), (11, Ty.bool (fy (aX f) s (gU (aX f) N k.1).1 (gU (aX f) N k.1).2 j.1).found), (50, Ty.int .i64 f.turnings.length), (51, Ty.int .i64 (j.1 : Nat))] [(26, Cont.mp (Value.int .i64) qC (fy (aX f) s (gU (aX f) N k.1).1 (gU (aX f) N k.1).2 j.1).best), (27, Cont.mp (Value.int .i64) qC (fy (aX f) s (gU (aX f) N k.1).1 (gU (aX f) N k.1).2 j.1).next)]) (fun j => f.turnings.length - j.1) (⟨0, by omega⟩) ?_ fun j => ?_
  ·(refine c8.mk' ?_ ?_ <;> (repeat' (first | exact aI | exact aH | refine aB ?_ (Ty.aR _) | refine aB ?_ (Ty.aG _) | refine aJ rfl (Cont.aG _) ?_)))
  refine aF (aA (ak rfl rfl rfl (aD (aC (aF ?_)))))
  refine aa rfl (fun hc4 => ?_) (fun hc4 => ?_)
  ·refine bA (aC (aF (af (aF (aA (bF rfl (b9 rfl (aD (aC (aF (aF ?_)))))))))))
   have hsh := Nat.shiftRight_le s j.1
   have hone := lQ (i := j.1) (by omega)
   have h1k : 1 <<< j.1 < 256 := by rw [Nat.shiftLeft_eq, Nat.one_mul]; exact Nat.pow_lt_pow_right (n := 8) (by decide) (by omega)
   have hor : s ||| 1 <<< j.1 < 256 := Nat.or_lt_two_pow (n := 8) hs256 h1k
   refine aA (bF rfl (bF rfl ?_))
   refine uy rfl rfl (by omega) ?_
   refine wq (b := 1) rfl rfl (by omega) (by omega) ?_
   refine ak rfl rfl rfl (kV rfl ?_)
   apply aN (s := 59) rfl rfl rfl
   ·intro hg; apply aQ; (refine mF rfl ?_); refine aD ?_; exact rfl
   ·exact rfl
   ·exact rfl
   apply aN (s := 59) rfl rfl rfl
   ·intro hg; apply aQ; (refine bF rfl ?_); refine aD ?_; exact rfl
   ·exact rfl
   ·exact rfl
   apply aN (s := 59) rfl rfl rfl
   ·intro hg; apply aQ; (refine bF rfl ?_); refine aD ?_; exact rfl
   ·exact rfl
   ·exact rfl
   apply aN (s := 59) rfl rfl rfl
   ·intro hg; apply aM (s := 62) rfl (by (rw [hg]; rfl)); apply aQ; (refine nx (a := 1) rfl rfl (by omega) (by omega) ?_); refine aD ?_; exact rfl
   ·exact rfl
   ·exact rfl
   apply aN (s := 59) rfl rfl rfl
   ·intro hg; apply aM (s := 61) rfl (by (rw [hg]; rfl)); apply aM (s := 63) rfl (by (rw [hg]; rfl)); apply aQ; (refine wG rfl rfl (by omega) (by omega) ?_); refine aD ?_; exact rfl
   ·exact rfl
   ·exact rfl
   apply aN (s := 59) rfl rfl rfl
   ·intro hg; apply aM (s := 60) rfl (by (rw [hg]; rfl)); apply aM (s := 64) rfl (by (rw [hg]; rfl)); apply aQ; (refine aq (vm (aX f) _ (by omega) hfi.before) rfl rfl rfl rfl rfl ?_); refine aD ?_; exact rfl
   ·exact rfl
   ·exact rfl
   apply aN (s := 59) rfl rfl rfl
   ·intro hg; apply aM (s := 65) rfl (by (rw [hg]; rfl)); apply aQ; (refine ct rfl ?_); refine aD ?_; exact rfl
   ·exact rfl
   ·exact rfl
   refine oB rfl rfl (aD (aC ?_))
   refine c9 rfl (fun hc5 => ?_) (fun hc5 => ?_)
   ·refine cF (aL (ah rfl (aC (aA ?_))))
    refine bz rfl rfl (by omega) (by omega) ?_
    refine bF rfl (aD ?_)
    refine bO (⟨j.1 + 1, by omega⟩) ?_ (by show f.turnings.length - (j.1 + 1) < f.turnings.length - j.1; omega)
    (refine c8.mk' ?_ ?_ <;> (repeat' (first | exact aI | exact aH | refine aB ?_ (Ty.aR _) | refine aB ?_ (Ty.aG _) | refine aJ rfl ?_ ?_ | refine aB ?_ ?_)))
    all_goals skip
    all_goals first | exact Ty.Bc (congrArg ND.found (wm hc5).symm) | exact Cont.iR (congrArg ND.best (wm hc5).symm) | exact Cont.iR (congrArg ND.next (wm hc5).symm)
   refine bA (aC (aF (aA (bF rfl (P7 rfl (bF rfl (bF rfl ?_)))))))
   refine nx (a := 1) rfl rfl (by omega) (by omega) ?_
   refine wG rfl rfl (by omega) (by omega) ?_
   refine pI (jV Tryz.prog 3 .i64 tM) (z0 := (0 : Int)) rfl rfl (by decide) rfl gj fX rI gq ?_
   refine bT (E := dN) (xs := [_]) rfl rfl rfl rfl rfl (by decide) (by decide) (by repeat (first | exact (aT.nil : aT _ _ [] _) | (show aT _ _ ((_, _) :: _) _; apply aT.one; (· exact (rfl : _ = Ty.int _ _)); (· exact rfl)))) (by exact rfl) rfl ?_
   refine aq (HJ _ _) rfl rfl rfl rfl rfl (b9 rfl (aD (aC (aF (aA (kV rfl (ct rfl (kV rfl ?_))))))))
   apply aN (s := 79) rfl rfl rfl
   ·intro hg; apply aQ; (refine bF rfl ?_); refine aD ?_; exact rfl
   ·exact rfl
   ·exact rfl
   apply aN (s := 79) rfl rfl rfl
   ·intro hg; apply aQ; (refine P7 rfl ?_); refine aD ?_; exact rfl
   ·exact rfl
   ·exact rfl
   apply aN (s := 79) rfl rfl rfl
   ·intro hg; apply aQ; (refine bF rfl ?_); refine aD ?_; exact rfl
   ·exact rfl
   ·exact rfl
   apply aN (s := 79) rfl rfl rfl
   ·intro hg; apply aM (s := 81) rfl (by (rw [hg]; rfl)); apply aM (s := 82) rfl (by (rw [hg]; rfl)); apply aQ; (refine pI (jV Tryz.prog 3 .i64 tM) (z0 := (0 : Int)) rfl rfl (by decide) rfl gj fX rI gq ?_); refine aD ?_; exact rfl
   ·exact rfl
   ·exact rfl
   apply aN (s := 79) rfl rfl rfl
   ·intro hg; apply aM (s := 80) rfl (by (rw [hg]; rfl)); apply aM (s := 83) rfl (by (rw [hg]; rfl)); apply aQ; (refine ak rfl rfl rfl ?_); refine aD ?_; exact rfl
   ·exact rfl
   ·exact rfl
   refine oB rfl rfl (aD (aC ?_))
   refine c9 rfl (fun hc6 => ?_) (fun hc6 => ?_)
   ·refine aA (P7 rfl (bF rfl (P7 rfl (bF rfl (bF rfl (bF rfl ?_))))))
    refine mC (jV Tryz.prog 3 .i64 tM) rfl rfl (by decide) rfl gj rfl rfl fX ?_
    refine mC (jV Tryz.prog 3 .i64 tM) rfl rfl (by decide) rfl gj rfl rfl fX ?_
    refine dG rfl (aD (bH (aC (aA ?_))))
    refine bz rfl rfl (by omega) (by omega) ?_
    refine bF rfl (aD ?_)
    refine bO (⟨j.1 + 1, by omega⟩) ?_ (by show f.turnings.length - (j.1 + 1) < f.turnings.length - j.1; omega)
    (refine c8.mk' ?_ ?_ <;> (repeat' (first | exact aI | exact aH | refine aB ?_ (Ty.aR _) | refine aB ?_ (Ty.aG _) | refine aJ rfl ?_ ?_ | refine aB ?_ ?_)))
    all_goals skip
    all_goals first | exact Ty.Bc (congrArg ND.found (A3 hc5 hc6).symm) | exact Cont.iR (congrArg ND.best (A3 hc5 hc6).symm) | exact Cont.iR (congrArg ND.next (A3 hc5 hc6).symm)
   refine bA (bH (aC (aA ?_)))
   refine bz rfl rfl (by omega) (by omega) ?_
   refine bF rfl (aD ?_)
   refine bO (⟨j.1 + 1, by omega⟩) ?_ (by show f.turnings.length - (j.1 + 1) < f.turnings.length - j.1; omega)
   (refine c8.mk' ?_ ?_ <;> (repeat' (first | exact aI | exact aH | refine aB ?_ (Ty.aR _) | refine aB ?_ (Ty.aG _) | refine aJ rfl ?_ ?_ | refine aB ?_ ?_)))
   all_goals skip
   all_goals first | exact Ty.Bc (congrArg ND.found (A7 hc5 hc6).symm) | exact Cont.iR (congrArg ND.best (A7 hc5 hc6).symm) | exact Cont.iR (congrArg ND.next (A7 hc5 hc6).symm)
  refine cF (aL (aL (ah rfl (bH (aC (aA (bF rfl ?_)))))))
  refine iZ rfl rfl (by omega) (by omega) ?_
  refine b9 rfl (aD ?_)
  refine bO (⟨k.1 + 1, by omega⟩) ?_ (by exact Nat.sub_lt_sub_left (by omega) (Nat.lt_succ_self _))
  (refine c8.mk' ?_ ?_ <;> (repeat' (first | exact aI | exact aH | refine aB ?_ (Ty.aR _) | refine aB ?_ (Ty.aG _) | refine aJ rfl ?_ ?_ | refine aB ?_ ?_)))
  all_goals skip
  all_goals first | exact Ty.bJ (by show (s : Int) - 1 = (N : Int) - (((k.1 + 1 : Nat) : Int) + 1); omega) | exact Cont.iR (by show _ = (gU _ N (k.1 + 1)).1; rw [hd, Bt, if_neg (Bool.eq_false_iff.1 hc3), hff, show j.1 = f.turnings.length by have := j.2; omega]) | exact Cont.iR (by show _ = (gU _ N (k.1 + 1)).2; rw [hd, Bt, if_neg (Bool.eq_false_iff.1 hc3), hff, show j.1 = f.turnings.length by have := j.2; omega])
 refine cF (aL (aL (ah rfl (aC (aF ?_)))))
 have hnx := Gl f
 refine aA (mP rfl (aD (aC (aF (aA (b9 rfl (aD (aC (aF (aF (aA ?_)))))))))))
 refine aP rfl rfl rfl rfl rfl (by decide) ?_
 refine aK rfl rfl rfl rfl (cC rfl rfl rfl (bF rfl (aD (aC (af ?_)))))
 refine cK (fun (i : {k : Nat // k ≤ f.turnings.length}) => live [(1, Ty.pp (cv f)), (7, Ty.mp 26), (8, Ty.mp 27), (14, Ty.row dN 3 105 (qb (nq (aX f)).2 i.1).1), (15, Ty.int .i64 ((qb (nq (aX f)).2 i.1).2 : Nat)), (95, Ty.int .i64 f.turnings.length), (96, Ty.int .i64 (i.1 : Nat))] [(26, Cont.mp (Value.int .i64) qC (nq (aX f)).1), (27, Cont.mp (Value.int .i64) qC (nq (aX f)).2)]) (fun i => f.turnings.length - i.1) (⟨0, by omega⟩) ?_ fun i => ?_
 ·(refine c8.mk' ?_ ?_ <;> (repeat' (first | exact aI | exact aH | refine aB ?_ (Ty.aR _) | refine aB ?_ (Ty.aG _) | refine aB ?_ Ty.lS | refine aJ rfl ?_ ?_)))
  all_goals first | exact Cont.iR (by show (gU _ N k.1).1 = (nq (aX f)).1; rw [nq, hff, ← hN, show k.1 = N by have := k.2; omega]) | exact Cont.iR (by show (gU _ N k.1).2 = (nq (aX f)).2; rw [nq, hff, ← hN, show k.1 = N by have := k.2; omega])
 have hob := A9 hnx hnt i.1
 refine aF (aA (ak rfl rfl rfl (aD (aC (aF ?_)))))
 refine aa rfl (fun hc7 => ?_) (fun hc7 => ?_)
 ·refine bA (aC (aF (af (aF (aA (P7 rfl (bF rfl ?_)))))))
  refine pI (jV Tryz.prog 3 .i64 tM) (z0 := (0 : Int)) rfl rfl (by decide) rfl gj fX rI gq ?_
  refine b9 rfl (aD (aC ?_))
  have hv := hnx ((qb (nq (aX f)).2 i.1).2 : Nat)
  simp only [mg] at hv
  have hone := lQ (i := ((bf (nq (aX f)).2 ((qb (nq (aX f)).2 i.1).2 : Nat)).getD 0).toNat) (by omega)
  refine cg mixed rfl (Ad rfl (bF rfl ?_))
  refine bT (E := dN) (xs := [_]) rfl rfl rfl rfl rfl (by decide) (by decide) (by repeat (first | exact (aT.nil : aT _ _ [] _) | (show aT _ _ ((_, _) :: _) _; apply aT.one; (· exact (rfl : _ = Ty.int _ _)); (· exact rfl)))) (by exact rfl) rfl ?_
  refine fB rfl rfl (by decide) rfl rfl rfl rfl rfl rfl (by decide) (by (simp <;> omega)) (by (simp <;> omega)) ?_
  refine bF rfl (bF rfl ?_)
  refine E8 (a := 1) rfl rfl (by omega) (by omega) (by omega) ?_
  refine wG rfl rfl (by omega) (by omega) ?_
  refine Ec rfl (b9 rfl (aD ?_))
  refine ⟨by kernel_rfl, ?_⟩
  refine bH (aC (aA ?_))
  refine bz rfl rfl (by omega) (by omega) ?_
  refine bF rfl (aD ?_)
  refine bO (⟨i.1 + 1, by omega⟩) ?_ (by show f.turnings.length - (i.1 + 1) < f.turnings.length - i.1; omega)
  (refine c8.mk' ?_ ?_ <;> (repeat' (first | exact aI | exact aH | refine aB ?_ (Ty.aR _) | refine aB ?_ (Ty.aG _) | refine aJ rfl (Cont.aG _) ?_)))
  all_goals skip
 refine cF (aL (aL (ah rfl (aC (aF (cg mixed rfl (Ad rfl (P7 rfl ?_))))))))
 refine pI (jV Tryz.prog 3 .i64 tM) (z0 := (0 : Int)) rfl rfl (by decide) rfl gj fX rI gq ?_
 refine Ec rfl (b9 rfl (b9 rfl (aD ?_)))
 refine ⟨by kernel_rfl, ?_⟩
 refine aC (av ?_)
 refine yf rfl rfl rfl rfl ?_ ?_ ?_
 all_goals skip
 all_goals first | exact bE rfl rfl (congrArg (Ty.int .i64) (by rw [kI, if_neg (fun h => h hc1)]; try rfl)) | exact nU (by decide) (by rw [kI, if_neg (fun h => h hc1), show i.1 = f.turnings.length by have := i.2; omega])
end Go.Proofs.YtmmcenjknimhbaaGreat
namespace Go.Proofs.YtmmcenjknimhbaaGreat
open Go Go.T
set_option maxHeartbeats 2000000
attribute [local irreducible] eH cZ jR j7 eP eO eK eS eJ j8 eN j4 b8 dc j0 dZ j5 nth eZ cU aV cX bodyPost Exit.then Exit.inBlock Code.wp Code.wpIn dU m7 mo m6 fT mw m0 fV mY eB fO lu bW bV bodyPostM cV
def f0 : bS := two []
def f1 : bS := two [⟨0, 2⟩]
def f2 : bS := two [⟨2, 0⟩, ⟨2, 1⟩]
theorem EE : f0.Small := by constructor <;> decide +kernel
theorem OE : f1.Small := by constructor <;> decide +kernel
theorem TC : f2.Small := by constructor <;> decide +kernel
theorem RH : DC f0 0 = (460, 0) := by decide +kernel
theorem Qm : DC f1 0 = (380, 0) := by decide +kernel
theorem OA : mW f1 0 [⟨2, 0, 80⟩] = (380, 0) := by decide +kernel
theorem SW : vJ f0 = ([0, 1, 2], 0) := by decide +kernel
theorem QE : countP f0 = (4, 0) := by decide +kernel
theorem N3 : (kI f2).2 = (-60, 0) := by decide +kernel
theorem O1 : mU f0 = ([0, 1], 0) := by decide +kernel
theorem QB : cX Tryz.prog 21 [iS f0, Ty.int .i64 0] (Ty.s8 [Ty.int .i64 460, Ty.int .i64 0]) := by have h := Nq f0 EE 0; rw [RH] at h; exact h
theorem Q1 : cX Tryz.prog 21 [iS f1, Ty.int .i64 0] (Ty.s8 [Ty.int .i64 380, Ty.int .i64 0]) := by have h := Nq f1 OE 0; rw [Qm] at h; exact h
theorem OY : cX Tryz.prog 44 [iS f1, Ty.int .i64 0, Ty.sl rO [⟨2, 0, 80⟩]] (Ty.s8 [Ty.int .i64 380, Ty.int .i64 0]) := by have h := OZ f1 OE 0 [⟨2, 0, 80⟩] (by decide); rw [OA] at h; exact h
theorem Sd : cX Tryz.prog 45 [iS f0] (Ty.s8 [Ty.sl dN [0, 1, 2], Ty.int .i64 0]) := by have h := Si f0 EE; rw [SW] at h; exact h
theorem RX : cX Tryz.prog 46 [iS f0] (Ty.s8 [Ty.int .i64 4, Ty.int .i64 0]) := by have h := RC f0 EE; rw [QE] at h; exact h
theorem Pb : cX Tryz.prog 47 [iS f2] (Ty.s8 [Ty.sl dN (kI f2).1, Ty.int .i64 (-60), Ty.int .i64 0]) := by have h := OD f2 TC; rw [N3] at h; exact h
theorem NJ : cX Tryz.prog 48 [iS f0] (Ty.s8 [Ty.sl dN [0, 1], Ty.int .i64 0]) := by have h := Nl f0 EE; rw [O1] at h; exact h
set_option maxRecDepth 100000 in
theorem Ob : cX Tryz.prog 13 [] (Ty.bool true) := by
 refine aY Tryz.func13 rfl (by decide) Tryz.ntmps13 (by exact Nat.le_of_ble_eq_true rfl) fun w0 M0 => ?_
 refine aF (aA (dG rfl (aD (aC (aF (aA ?_))))))
 refine eX rfl rfl (by exact List.cons_ne_nil _ _) rfl (by repeat (first | exact (aT.nil : aT _ _ [] _) | (show aT _ _ ((_, _) :: _) _; apply aT.one; (· exact (rfl : _ = Ty.int _ _)); (· exact rfl)))) (by exact (rfl : _ = some [_, _])) ?_
 refine dB rfl (by exact List.cons_ne_nil _ _) rfl ?_
 refine eG rfl rfl (by decide) rfl rfl rfl rfl rfl rfl ?_
 refine aD (aC (aF (aA ?_)))
 refine oF [] (AY []) rfl (by repeat (first | exact jG | refine gT vh ?_)) rfl rfl (by intro u hu; cases hu) ?_
 refine aq QB rfl rfl rfl rfl rfl (FQ rfl (bt rfl rfl (bt rfl rfl (b9 rfl (b9 rfl (aD (aC (aF (aA ?_)))))))))
 refine gO rfl rfl (by decide) rfl rfl (by exact Nat.le_of_ble_eq_true rfl) ?_
 refine bT (E := jf) (xs := [⟨0, 2⟩]) rfl rfl rfl rfl rfl (by decide) (by decide) (by repeat (first | exact (aT.nil : aT _ _ [] _) | (show aT _ _ ((_, _) :: _) _; apply aT.agg; (· exact (rfl : _ = Ty.agg _))))) (by exact rfl) rfl ?_
 refine oF [26] (AY [⟨0, 2⟩]) rfl (by repeat (first | exact jG | refine gT (pS rfl rfl) ?_)) rfl rfl (by intro u hu; rw [List.mem_singleton.1 hu]; exact ⟨by decide, fun h => by cases h⟩) ?_
 refine aq Q1 rfl rfl rfl rfl rfl (FQ rfl (bt rfl rfl (bt rfl rfl (b9 rfl (b9 rfl (aD (aC (aF (aA ?_)))))))))
 refine gO rfl rfl (by decide) rfl rfl (by exact Nat.le_of_ble_eq_true rfl) ?_
 refine bT (E := jf) (xs := [⟨0, 2⟩]) rfl rfl rfl rfl rfl (by decide) (by decide) (by repeat (first | exact (aT.nil : aT _ _ [] _) | (show aT _ _ ((_, _) :: _) _; apply aT.agg; (· exact (rfl : _ = Ty.agg _))))) (by exact rfl) rfl ?_
 refine oF [33] (AY [⟨0, 2⟩]) rfl (by repeat (first | exact jG | refine gT (pS rfl rfl) ?_)) rfl rfl (by intro u hu; rw [List.mem_singleton.1 hu]; exact ⟨by decide, fun h => by cases h⟩) ?_
 refine eX rfl rfl (by exact List.cons_ne_nil _ _) rfl (by repeat (first | exact (aT.nil : aT _ _ [] _) | (show aT _ _ ((_, _) :: _) _; apply aT.one; (· exact (rfl : _ = Ty.int _ _)); (· exact rfl)))) (by exact (rfl : _ = some [_, _, _])) ?_
 refine bT (E := rO) (xs := [⟨2, 0, 80⟩]) rfl rfl rfl rfl rfl (by decide) (by decide) (by repeat (first | exact (aT.nil : aT _ _ [] _) | (show aT _ _ ((_, _) :: _) _; apply aT.agg; (· exact (rfl : _ = Ty.agg _))))) (by exact rfl) rfl ?_
 refine oF [36] (OY) rfl (by repeat (first | exact jG | refine gT (pS rfl rfl) ?_)) rfl rfl (by intro u hu; rw [List.mem_singleton.1 hu]; exact ⟨by decide, fun h => by cases h⟩) ?_
 refine FQ rfl (bt rfl rfl (bt rfl rfl (b9 rfl (b9 rfl (aD (aC (aF (aA ?_))))))))
 refine oF [] (AY []) rfl (by repeat (first | exact jG | refine gT vh ?_)) rfl rfl (by intro u hu; cases hu) ?_
 refine aq Sd rfl rfl rfl rfl rfl (FQ rfl (bt rfl rfl (bt rfl rfl (OU rfl (b9 rfl (aD (aC (aF (aA ?_)))))))))
 refine oF [] (AY []) rfl (by repeat (first | exact jG | refine gT vh ?_)) rfl rfl (by intro u hu; cases hu) ?_
 refine aq RX rfl rfl rfl rfl rfl (FQ rfl (bt rfl rfl (bt rfl rfl (b9 rfl (b9 rfl (aD (aC (aF (aA ?_)))))))))
 refine eX rfl rfl (by exact List.cons_ne_nil _ _) rfl (by repeat (first | exact (aT.nil : aT _ _ [] _) | (show aT _ _ ((_, _) :: _) _; apply aT.one; (· exact (rfl : _ = Ty.int _ _)); (· exact rfl)))) (by exact (rfl : _ = some [_, _])) ?_
 refine eX rfl rfl (by exact List.cons_ne_nil _ _) rfl (by repeat (first | exact (aT.nil : aT _ _ [] _) | (show aT _ _ ((_, _) :: _) _; apply aT.one; (· exact (rfl : _ = Ty.int _ _)); (· exact rfl)))) (by exact (rfl : _ = some [_, _])) ?_
 refine bT (E := jf) (xs := [⟨2, 0⟩, ⟨2, 1⟩]) rfl rfl rfl rfl rfl (by decide) (by decide) (by repeat (first | exact (aT.nil : aT _ _ [] _) | (show aT _ _ ((_, _) :: _) _; apply aT.agg; (· exact (rfl : _ = Ty.agg _))))) (by exact rfl) rfl ?_
 refine oF [53] (AY [⟨2, 0⟩, ⟨2, 1⟩]) rfl (by repeat (first | exact jG | refine gT (pS rfl rfl) ?_)) rfl rfl (by intro u hu; rw [List.mem_singleton.1 hu]; exact ⟨by decide, fun h => by cases h⟩) ?_
 refine aq Pb rfl rfl rfl rfl rfl (FQ rfl (bt rfl rfl (bt rfl rfl (bt rfl rfl (OU rfl (b9 rfl (b9 rfl (aD (aC (aF (aA ?_)))))))))))
 refine oF [] (AY []) rfl (by repeat (first | exact jG | refine gT vh ?_)) rfl rfl (by intro u hu; cases hu) ?_
 refine aq NJ rfl rfl rfl rfl rfl (FQ rfl (bt rfl rfl (bt rfl rfl (OU rfl (b9 rfl (aD (aC (aF (aA (bF rfl (ak rfl rfl rfl (kV rfl ?_))))))))))))
 apply aN (s := 65) rfl rfl rfl
 ·intro hg; apply aQ; (refine bF rfl ?_); refine aD ?_; exact rfl
 ·exact rfl
 ·exact rfl
 apply aN (s := 65) rfl rfl rfl
 ·intro hg; apply aM (s := 66) rfl (by exact hg); apply aQ; (refine ak rfl rfl rfl ?_); refine aD ?_; exact rfl
 ·exact rfl
 ·exact rfl
 refine gP rfl rfl (kV rfl ?_)
 apply aN (s := 69) rfl rfl rfl
 ·intro hg; apply aQ; (refine bF rfl ?_); refine aD ?_; exact rfl
 ·exact rfl
 ·exact rfl
 apply aN (s := 69) rfl rfl rfl
 ·intro hg; apply aM (s := 70) rfl (by exact hg); apply aQ; (refine ak rfl rfl rfl ?_); refine aD ?_; exact rfl
 ·exact rfl
 ·exact rfl
 refine gP rfl rfl (kV rfl ?_)
 apply aN (s := 73) rfl rfl rfl
 ·intro hg; apply aQ; (refine bF rfl ?_); refine aD ?_; exact rfl
 ·exact rfl
 ·exact rfl
 apply aN (s := 73) rfl rfl rfl
 ·intro hg; apply aM (s := 74) rfl (by exact hg); apply aQ; (refine ak rfl rfl rfl ?_); refine aD ?_; exact rfl
 ·exact rfl
 ·exact rfl
 refine gP rfl rfl (kV rfl ?_)
 apply aN (s := 77) rfl rfl rfl
 ·intro hg; apply aQ; (refine bF rfl ?_); refine aD ?_; exact rfl
 ·exact rfl
 ·exact rfl
 apply aN (s := 77) rfl rfl rfl
 ·intro hg; apply aM (s := 78) rfl (by exact hg); apply aQ; (refine ak rfl rfl rfl ?_); refine aD ?_; exact rfl
 ·exact rfl
 ·exact rfl
 refine gP rfl rfl (kV rfl ?_)
 apply aN (s := 81) rfl rfl rfl
 ·intro hg; apply aQ; (refine bF rfl ?_); refine aD ?_; exact rfl
 ·exact rfl
 ·exact rfl
 apply aN (s := 81) rfl rfl rfl
 ·intro hg; apply aM (s := 82) rfl (by exact hg); apply aQ; (refine ak rfl rfl rfl ?_); refine aD ?_; exact rfl
 ·exact rfl
 ·exact rfl
 refine gP rfl rfl (kV rfl ?_)
 apply aN (s := 85) rfl rfl rfl
 ·intro hg; apply aQ; (refine bF rfl ?_); refine aD ?_; exact rfl
 ·exact rfl
 ·exact rfl
 apply aN (s := 85) rfl rfl rfl
 ·intro hg; apply aM (s := 86) rfl (by exact hg); apply aQ; (refine ak rfl rfl rfl ?_); refine aD ?_; exact rfl
 ·exact rfl
 ·exact rfl
 refine gP rfl rfl (kV rfl ?_)
 apply aN (s := 89) rfl rfl rfl
 ·intro hg; apply aQ; (refine bF rfl ?_); refine aD ?_; exact rfl
 ·exact rfl
 ·exact rfl
 apply aN (s := 89) rfl rfl rfl
 ·intro hg; apply aM (s := 90) rfl (by exact hg); apply aQ; (refine ak rfl rfl rfl ?_); refine aD ?_; exact rfl
 ·exact rfl
 ·exact rfl
 refine gP rfl rfl (kV rfl ?_)
 apply aN (s := 93) rfl rfl rfl
 ·intro hg; apply aQ; (refine bF rfl ?_); refine aD ?_; exact rfl
 ·exact rfl
 ·exact rfl
 apply aN (s := 93) rfl rfl rfl
 ·intro hg; apply aM (s := 94) rfl (by exact hg); apply aQ; (refine ak rfl rfl rfl ?_); refine aD ?_; exact rfl
 ·exact rfl
 ·exact rfl
 refine gP rfl rfl (kV rfl ?_)
 apply aN (s := 97) rfl rfl rfl
 ·intro hg; apply aQ; (refine bF rfl ?_); refine aD ?_; exact rfl
 ·exact rfl
 ·exact rfl
 apply aN (s := 97) rfl rfl rfl
 ·intro hg; apply aM (s := 98) rfl (by exact hg); apply aQ; (refine ak rfl rfl rfl ?_); refine aD ?_; exact rfl
 ·exact rfl
 ·exact rfl
 refine gP rfl rfl (kV rfl ?_)
 apply aN (s := 101) rfl rfl rfl
 ·intro hg; apply aQ; (refine gy rfl ?_); refine aD ?_; exact rfl
 ·exact rfl
 ·exact rfl
 apply aN (s := 101) rfl rfl rfl
 ·intro hg; apply aQ; (refine bT (E := dN) (xs := [_, _, _]) rfl rfl rfl rfl rfl (by decide) (by decide) (by repeat (first | exact (aT.nil : aT _ _ [] _) | (show aT _ _ ((_, _) :: _) _; apply aT.one; (· exact (rfl : _ = Ty.int _ _)); (· exact rfl)))) (by exact rfl) rfl ?_); refine aD ?_; exact rfl
 ·exact rfl
 ·exact rfl
 apply aN (s := 101) rfl rfl rfl
 ·intro hg; apply aM (s := 102) rfl (by exact hg); apply aM (s := 103) rfl (by exact hg); apply aQ; (refine aq (wK _ _) rfl rfl rfl rfl rfl ?_); refine aD ?_; exact rfl
 ·exact rfl
 ·exact rfl
 refine gP rfl rfl (kV rfl ?_)
 apply aN (s := 106) rfl rfl rfl
 ·intro hg; apply aQ; (refine bF rfl ?_); refine aD ?_; exact rfl
 ·exact rfl
 ·exact rfl
 apply aN (s := 106) rfl rfl rfl
 ·intro hg; apply aM (s := 107) rfl (by exact hg); apply aQ; (refine ak rfl rfl rfl ?_); refine aD ?_; exact rfl
 ·exact rfl
 ·exact rfl
 refine gP rfl rfl (kV rfl ?_)
 apply aN (s := 110) rfl rfl rfl
 ·intro hg; apply aQ; (refine bF rfl ?_); refine aD ?_; exact rfl
 ·exact rfl
 ·exact rfl
 apply aN (s := 110) rfl rfl rfl
 ·intro hg; apply aM (s := 111) rfl (by exact hg); apply aQ; (refine ak rfl rfl rfl ?_); refine aD ?_; exact rfl
 ·exact rfl
 ·exact rfl
 refine gP rfl rfl (kV rfl ?_)
 apply aN (s := 114) rfl rfl rfl
 ·intro hg; apply aQ; (refine gy rfl ?_); refine aD ?_; exact rfl
 ·exact rfl
 ·exact rfl
 apply aN (s := 114) rfl rfl rfl
 ·intro hg; apply aQ; (refine bT (E := dN) (xs := [_, _]) rfl rfl rfl rfl rfl (by decide) (by decide) (by repeat (first | exact (aT.nil : aT _ _ [] _) | (show aT _ _ ((_, _) :: _) _; apply aT.one; (· exact (rfl : _ = Ty.int _ _)); (· exact rfl)))) (by exact rfl) rfl ?_); refine aD ?_; exact rfl
 ·exact rfl
 ·exact rfl
 apply aN (s := 114) rfl rfl rfl
 ·intro hg; apply aM (s := 115) rfl (by exact hg); apply aM (s := 116) rfl (by exact hg); apply aQ; (refine aq (wK _ _) rfl rfl rfl rfl rfl ?_); refine aD ?_; exact rfl
 ·exact rfl
 ·exact rfl
 refine gP rfl rfl (dG rfl (aD (aC (av (bK rfl rfl ?_)))))
 all_goals exact bN rfl rfl
end Go.Proofs.YtmmcenjknimhbaaGreat
namespace Go.Proofs.YtmmcenjknimhbaaGreat
open Go Go.T
set_option maxHeartbeats 2000000
attribute [local irreducible] eH cZ jR j7 eP eO eK eS eJ j8 eN j4 b8 dc j0 dZ j5 nth eZ cU aV cX bodyPost Exit.then Exit.inBlock Code.wp Code.wpIn dU m7 mo m6 fT mw m0 fV mY eB fO lu bW bV bodyPostM cV
end Go.Proofs.YtmmcenjknimhbaaGreat
namespace Go.Proofs.YtmmcenjknimhbaaGreat
open Go Go.T
set_option maxHeartbeats 2000000
attribute [local irreducible] eH cZ jR j7 eP eO eK eS eJ j8 eN j4 b8 dc j0 dZ j5 nth eZ cU aV cX bodyPost Exit.then Exit.inBlock Code.wp Code.wpIn dU m7 mo m6 fT mw m0 fV mY eB fO lu bW bV bodyPostM cV
end Go.Proofs.YtmmcenjknimhbaaGreat
namespace Go.Proofs.YtmmcenjknimhbaaGreat
open Go Go.T
set_option maxHeartbeats 2000000
attribute [local irreducible] eH cZ jR j7 eP eO eK eS eJ j8 eN j4 b8 dc j0 dZ j5 nth eZ cU aV cX bodyPost Exit.then Exit.inBlock Code.wp Code.wpIn dU m7 mo m6 fT mw m0 fV mY eB fO lu bW bV bodyPostM cV
section
variable {f : bS} {a b : Int}
end
end Go.Proofs.YtmmcenjknimhbaaGreat
namespace Go.Proofs.YtmmcenjknimhbaaGreat
open Go Go.T
set_option maxHeartbeats 2000000
attribute [local irreducible] eH cZ jR j7 eP eO eK eS eJ j8 eN j4 b8 dc j0 dZ j5 nth eZ cU aV cX bodyPost Exit.then Exit.inBlock Code.wp Code.wpIn dU m7 mo m6 fT mw m0 fV mY eB fO lu bW bV bodyPostM cV
def yL (l : List Nat) : List Int := l.map fun (n : Nat) => (n : Int)
theorem xx : ∀ l : List Nat, l.flatMap zA.tys = (yL l).flatMap dN.tys
  | [] => rfl
  | x :: l => by
    have ih := xx l
    rw [List.flatMap_cons, ih]; rfl
theorem Pq (l : List Nat) : (Ty.sl zA l).Sub (Ty.sl dN (yL l)) := Jt (xx l) (by simp [yL])
theorem I5 (l : List Nat) : (Ty.sl dN (yL l)).Sub (Ty.sl zA l) := Jt (xx l).symm (by simp [yL])
theorem all_cast (q : Nat → Bool) (l : List Nat) : (yL l).all (fun x => q x.toNat) = l.all q := by unfold yL; rw [List.all_map]; rfl
set_option maxRecDepth 100000 in
theorem Ex (l : List Int) (h : l.length ≤ 1000) : cX Tryz.prog 42 [Ty.sl dN l] (Ty.sl dN l) := by
 refine aY Tryz.func42 rfl (by decide) Tryz.ntmps42 (by exact Nat.le_of_ble_eq_true rfl) fun w0 M0 => ?_
 refine aF (aA (mP rfl (aD (aC (aF (aF (aA (gy rfl (Qc Tt rfl (aD (aC ?_)))))))))))
 refine LL rfl (fun hc1 => ?_) (fun hc1 => ?_)
 ·refine aF (aA (mP rfl (aD (aC (av (aW (bK rfl rfl ?_)))))))
  all_goals skip
  exact gD hc1
 refine bA (aC (aF (aA ?_)))
 refine I6 (E := dN) rfl rfl rfl rfl ?_
 refine gy rfl ?_
 refine fB rfl rfl (by decide) rfl rfl rfl rfl rfl rfl (by decide) (by (simp <;> omega)) (by (simp <;> omega)) ?_
 refine Ec rfl (aD (aC (av (bK rfl rfl ?_))))
 all_goals exact KO (by decide)
 skip
section
variable {f : bS} {l : List Int} {n : Int} {t : Ty}
theorem Tn (h : gA f l = n) (hn : n ≠ 0) : gS (Ty.ex (.pointer none)) (Ty.when (decide (gA f l = 0)) t) :=
 KM rfl rfl (Ty.rM rfl fun hx => absurd (of_decide_eq_true hx) (by rw [h]; exact hn))
theorem UY (h : gA f l = n) (hn : n ≠ 0) : gS (Ty.ex (.slice none 0 0)) (Ty.sl zA (if gA f l = 0 then dn l else [])) := gD (if_neg (by rw [h]; exact hn))
theorem Ti (h : gA f l = n) : gS (Ty.int .i64 n) (Ty.int .i64 (gA f l)) := bE rfl rfl (congrArg (Ty.int .i64) h.symm)
theorem o1 (h : ¬ e9 f false = 0) : gA f l = e9 f false := if_pos h
theorem o2 (h : e9 f false = 0) (h2 : ¬ (l.length : Int) = f.turnings.length) : gA f l = 2 := by unfold gA; rw [if_neg (fun x => x h), if_pos h2]
theorem o3 (h : e9 f false = 0) (h2 : (l.length : Int) = f.turnings.length) (h3 : (!l.all fun t => fE t 0 (f.turnings.length - 1)) = true) : gA f l = 1 := by unfold gA; rw [if_neg (fun x => x h), if_neg (fun x => x h2), if_pos h3]
theorem o4 (h : e9 f false = 0) (h2 : (l.length : Int) = f.turnings.length) (h3 : (!l.all fun t => fE t 0 (f.turnings.length - 1)) = false) (h4 : ¬ (((setOf l : Nat) : Int) = ((1 <<< l.length : Nat) : Int) - 1)) : gA f l = 5 := by
 unfold gA; rw [if_neg (fun x => x h), if_neg (fun x => x h2), if_neg (Bool.eq_false_iff.1 h3), if_pos h4]
theorem o5 (h : e9 f false = 0) (h2 : (l.length : Int) = f.turnings.length) (h3 : (!l.all fun t => fE t 0 (f.turnings.length - 1)) = false) (h4 : ((setOf l : Nat) : Int) = ((1 <<< l.length : Nat) : Int) - 1) (h5 : (!(dn l).all (eF (aX f))) = true) : gA f l = 4 := by
 unfold gA; rw [if_neg (fun x => x h), if_neg (fun x => x h2), if_neg (Bool.eq_false_iff.1 h3), if_neg (fun x => x h4), if_pos h5]
theorem o6 (h : e9 f false = 0) (h2 : (l.length : Int) = f.turnings.length) (h3 : (!l.all fun t => fE t 0 (f.turnings.length - 1)) = false) (h4 : ((setOf l : Nat) : Int) = ((1 <<< l.length : Nat) : Int) - 1) (h5 : (!(dn l).all (eF (aX f))) = false) : gA f l = 0 := by
 unfold gA; rw [if_neg (fun x => x h), if_neg (fun x => x h2), if_neg (Bool.eq_false_iff.1 h3), if_neg (fun x => x h4), if_neg (Bool.eq_false_iff.1 h5)]
end
theorem Mv (l : List Int) : (dn l).take 1 = [0] := by unfold dn; rw [List.range_succ_eq_map]; rfl
theorem sx (f : bS) (l : List Int) : (yW f l).length = (dn l).length := by simp [yW]
theorem Mp {f : bS} {l : List Int} {k : Nat} (h : k < (dn l).length) : nth (yW f l) k = rowP f (nth (dn l) k) := by
 rw [cE (by rw [sx]; exact h), cE h]; simp [yW]
theorem MC {l : List Int} {k : Nat} (h : k < l.length) : (dn l).take (k + 1) ++ [nth ((dn l).take (k + 1)) k ||| 1 <<< (nth l k).toNat] = (dn l).take (k + 1 + 1) := by
 have hl := nB l
 have e : nth ((dn l).take (k + 1)) k = setOf (l.take k) := by rw [cE (by rw [List.length_take]; omega), List.getElem_take, ← cE (by omega), sy (by omega)]
 rw [e, ← lC h, ← sy (by omega), ← bh (by omega)]
theorem yN {f : bS} {l : List Int} (hn : f.turnings.length ≤ 8) (hrg : ∀ x ∈ l, 0 ≤ x ∧ x < (f.turnings.length : Int)) {s : Nat} (hs : s ∈ dn l) : s < 256 := by
 obtain ⟨k, hk, rfl⟩ := List.mem_map.1 hs
 exact ug hn (o7 hrg k (by have := List.mem_range.1 hk; omega))
set_option maxRecDepth 100000 in
theorem MZ (f : bS) (hs : f.Small) (order : List Int) (hl : order.length ≤ 1000) : cX Tryz.prog 40 [iS f, Ty.sl dN order] (Ty.s8 [Ty.when (decide (gA f order = 0)) (Ty.pe fF (aX f) 0), Ty.sl zA (if gA f order = 0 then dn order else []), Ty.int .i64 (gA f order)]) := by
 refine aY Tryz.func40 rfl (by decide) Tryz.ntmps40 (by exact Nat.le_of_ble_eq_true rfl) fun w0 M0 => ?_
 have hs1 := hs.bears; have hs2 := hs.bins; have hs3 := hs.turnings; have hs4 := hs.rules
 refine aF (aA (bC rfl (mP rfl (mP rfl (b9 rfl (aD (aC (aF (aA ?_)))))))))
 refine ay rfl rfl rfl (by exact Nat.le_of_ble_eq_true rfl) ?_
 refine aq (qA f hs _) rfl rfl rfl rfl rfl (FQ rfl (bt rfl rfl (bt rfl rfl (S6 rfl (b9 rfl (aD (aC (aF (af (aF (aA (bF rfl (ak rfl rfl rfl (dG rfl (aD ?_)))))))))))))))
 refine aC ?_
 refine ck rfl (fun hc1 => ?_) (fun hc1 => ?_)
 ·refine aF (aA (bF rfl (mP rfl (mP rfl (b9 rfl (aD (aC (av (au (aW ?_))))))))))
  refine yf rfl rfl rfl rfl ?_ ?_ ?_
  all_goals skip
  all_goals first | exact Tn (o1 hc1) hc1 | exact UY (o1 hc1) hc1 | exact Ti (o1 hc1)
 refine aF (aA (gy rfl (cC rfl rfl rfl ?_)))
 refine aP rfl rfl rfl rfl rfl (by decide) ?_
 refine aK rfl rfl rfl rfl (cC rfl rfl rfl (ak rfl rfl rfl (dG rfl (aD (aC ?_)))))
 refine ck rfl (fun hc2 => ?_) (fun hc2 => ?_)
 ·refine aF (aA (mP rfl (mP rfl (b9 rfl (aD (aC (av (au (aW ?_)))))))))
  refine yf rfl rfl rfl rfl ?_ ?_ ?_
  all_goals skip
  all_goals first | exact Tn (o2 hc1 hc2) (by decide) | exact UY (o2 hc1 hc2) (by decide) | exact Ti (o2 hc1 hc2)
 refine aF (aA (gy rfl ?_))
 refine ay rfl rfl rfl (by exact Nat.le_of_ble_eq_true rfl) ?_
 refine su (l := [iS f]) rfl ?_
 refine aq (kJ order (Ty.NB 96 [iS f]) rfl (fun t => fE t 0 (f.turnings.length - 1)) rfl rfl fun x _ => tH (pW f hs x) rfl rfl rfl rfl rfl rfl) rfl rfl rfl rfl rfl ?_
 refine ct rfl (dG rfl (aD (aC ?_)))
 refine c9 rfl (fun hc3 => ?_) (fun hc3 => ?_)
 ·refine aF (aA (mP rfl (mP rfl (b9 rfl (aD (aC (av (au (aW ?_)))))))))
  refine yf rfl rfl rfl rfl ?_ ?_ ?_
  all_goals skip
  all_goals first | exact Tn (o3 hc1 hc2 hc3) (by decide) | exact UY (o3 hc1 hc2 hc3) (by decide) | exact Ti (o3 hc1 hc2 hc3)
 refine bA (bH (aC (aF ?_)))
 have h0 := jg hc1
 have hfi := fj h0.1
 have hff := n7 f
 have hnt : f.turnings.length ≤ 8 := by have := hfi.nt; rw [hff] at this; exact this
 have hrg : ∀ x ∈ order, 0 ≤ x ∧ x < (f.turnings.length : Int) := fun x hx => by have h := List.all_eq_true.1 (by simpa using hc3) x hx; have := fH h; omega
 have hlen : order.length = f.turnings.length := by omega
 refine mq (s := 7) rfl (Ty.lg (decide_eq_true hc1)) ?_
 refine aA ?_
 refine yj (E := zA) (xs := [0]) rfl rfl rfl rfl rfl (by decide) (by decide) (by repeat (first | exact (aT.nil : aT _ _ [] _) | (show aT _ _ ((_, _) :: _) _; apply aT.one; (· exact (rfl : _ = Ty.int _ _)); (· exact rfl)))) (by exact rfl) rfl rfl ?_
 refine Ec rfl (aD (aC (aF (aF (aA (gy rfl (cC rfl rfl rfl (bF rfl (aD (aC (af ?_)))))))))))
 refine cK (fun (k : {k : Nat // k ≤ order.length}) => live [(1, Ty.sl dN order), (2, Ty.pp (cv f)), (7, Ty.pe fF (aX f) 0), (9, Ty.row zA 3 35 ((dn order).take (k.1 + 1))), (35, Ty.sl dN order), (36, Ty.int .i64 order.length), (37, Ty.int .i64 (k.1 : Nat))] []) (fun k => order.length - k.1) (⟨0, by omega⟩) ?_ fun k => ?_
 ·(refine c8.mk' ?_ ?_ <;> (repeat' (first | exact aI | exact aH | refine aB ?_ (Ty.aR _) | refine aB ?_ (Ty.aG _) | refine aB ?_ ?_)))
  all_goals exact Ty.ej (Mv order).symm
 have hk1 : ((dn order).take (k.1 + 1)).length = k.1 + 1 := by rw [List.length_take, nB]; omega
 refine aF (aA (ak rfl rfl rfl (aD (aC (aF ?_)))))
 refine aa rfl (fun hc4 => ?_) (fun hc4 => ?_)
 ·refine bA (aC (aF (af (aF (aA (bF rfl ?_))))))
  refine bG rfl rfl rfl rfl rfl rfl (by omega) ?_
  refine aK rfl rfl rfl rfl (b9 rfl (b9 rfl (aD (aC ?_))))
  have hnk : nth ((dn order).take (k.1 + 1)) k.1 = setOf (order.take k.1) := by rw [cE (by omega), List.getElem_take, ← cE (by rw [nB]; omega), sy (by omega)]
  have hsm := ug hnt (o7 hrg k.1 k.2)
  have ht := hrg _ (bL (xs := order) (k := k.1) (by omega))
  have hone := lQ (i := (nth order k.1).toNat) (by omega)
  refine cg mixed rfl (Ad rfl (Ad rfl (bF rfl ?_)))
  refine Ez rfl rfl rfl rfl rfl rfl (by omega) ?_
  refine DY rfl rfl rfl rfl (bF rfl ?_)
  refine E8 (a := 1) rfl rfl (by omega) (by omega) (by omega) ?_
  refine wG rfl rfl (by omega) (by omega) ?_
  refine bT (E := zA) (xs := [nth ((dn order).take (k.1 + 1)) k.1 ||| 1 <<< (nth order k.1).toNat]) rfl rfl rfl rfl rfl (by decide) (by decide) (by repeat (first | exact (aT.nil : aT _ _ [] _) | (show aT _ _ ((_, _) :: _) _; apply aT.one; (· exact (rfl : _ = Ty.int _ _)); (· exact rfl)))) (by exact rfl) rfl ?_
  refine fB rfl rfl (by decide) rfl rfl rfl rfl rfl rfl (by decide) (by (simp <;> omega)) (by (simp <;> omega)) ?_
  refine Ec rfl (aD ?_)
  refine ⟨by kernel_rfl, ?_⟩
  refine bH (aC (aA ?_))
  refine bz rfl rfl (by omega) (by omega) ?_
  refine bF rfl (aD ?_)
  refine bO (⟨k.1 + 1, by omega⟩) ?_ (by show order.length - (k.1 + 1) < order.length - k.1; omega)
  (refine c8.mk' ?_ ?_ <;> (repeat' (first | exact aI | exact aH | refine aB ?_ (Ty.aR _) | refine aB ?_ (Ty.aG _) | refine aB ?_ ?_)))
  all_goals skip
  all_goals exact Ty.ej (MC (by omega))
 refine cF (aL (aL (ah rfl (aC (aF (af (aF ?_)))))))
 have hko : k.1 = order.length := by have := k.2; omega
 have hall : (dn order).take (k.1 + 1) = dn order := List.take_of_length_le (by rw [nB]; omega)
 have hnl : nth (dn order) order.length = setOf order := by rw [sy (Nat.le_refl _), List.take_length]
 have hone := lQ (i := order.length) (by omega)
 have hone1 := (rH (n := order.length) (by omega)).2
 have hsl := nB order
 refine tW (tg := 35) [(9, Ty.sl zA ((dn order).take (k.1 + 1)))] (by decide) rfl ⟨Rb rfl, trivial⟩ ?_
 refine mq (s := 9) rfl (Ty.gl hall) ?_
 refine cg mixed rfl (gy rfl (gy rfl (cC rfl rfl rfl ?_)))
 refine bG rfl rfl rfl rfl rfl rfl (by omega) ?_
 refine aK rfl rfl rfl rfl (gy rfl (cC rfl rfl rfl ?_))
 refine nx (a := 1) rfl rfl (by omega) (by omega) ?_
 refine iZ rfl rfl (by omega) (by omega) ?_
 refine ak rfl rfl rfl (dG rfl (aD ?_))
 refine ⟨by kernel_rfl, ?_⟩
 refine aC ?_
 refine ck rfl (fun hc5 => ?_) (fun hc5 => ?_)
 ·refine aF (aA (mP rfl (mP rfl (b9 rfl (aD (aC (av (au (aW ?_)))))))))
  refine yf rfl rfl rfl rfl ?_ ?_ ?_
  all_goals skip
  all_goals first | exact Tn (o4 hc1 hc2 hc3 (fun h => hc5 (by rw [hnl]; exact h))) (by decide) | exact UY (o4 hc1 hc2 hc3 (fun h => hc5 (by rw [hnl]; exact h))) (by decide) | exact Ti (o4 hc1 hc2 hc3 (fun h => hc5 (by rw [hnl]; exact h)))
 refine aF ?_
 have hfull : ((setOf order : Nat) : Int) = ((1 <<< order.length : Nat) : Int) - 1 := by have h := hc5; rw [hnl] at h; exact h
 refine mq (s := 9) rfl (Pq (dn order)) ?_
 refine aA (gy rfl (mF rfl ?_))
 refine su (l := [Ty.pe fF (aX f) 0]) rfl ?_
 refine aq (kJ (yL (dn order)) (Ty.NB 97 [Ty.pe fF (aX f) 0]) rfl (fun x => eF (aX f) x.toNat) rfl rfl fun x hx => by obtain ⟨n, hn, rfl⟩ := List.mem_map.1 hx; exact tH (vm (aX f) n (yN hnt hrg hn) hfi.before) rfl rfl rfl rfl rfl rfl) rfl rfl rfl rfl rfl ?_
 refine ct rfl (dG rfl (aD (aC ?_)))
 refine c9 rfl (fun hc6 => ?_) (fun hc6 => ?_)
 ·refine aF (aA (mP rfl (mP rfl (b9 rfl (aD (aC (av (au (aW ?_)))))))))
  refine yf rfl rfl rfl rfl ?_ ?_ ?_
  all_goals skip
  all_goals first | exact Tn (o5 hc1 hc2 hc3 hfull (by have h := hc6; rw [all_cast] at h; exact h)) (by decide) | exact UY (o5 hc1 hc2 hc3 hfull (by have h := hc6; rw [all_cast] at h; exact h)) (by decide) | exact Ti (o5 hc1 hc2 hc3 hfull (by have h := hc6; rw [all_cast] at h; exact h))
 refine bA (bH (aC (aF ?_)))
 have hall5 : (!(dn order).all (eF (aX f))) = false := by have h := hc6; rw [all_cast] at h; exact h
 refine mq (s := 9) rfl (I5 (dn order)) ?_
 refine aA (mF rfl (gy rfl (Tw rfl (OU rfl (b9 rfl (aD (aC (av ?_))))))))
 refine yf rfl rfl rfl rfl ?_ ?_ ?_
 all_goals skip
 all_goals first | exact KM rfl rfl (Ty.rM rfl fun _ => Ty.aG _) | exact bE rfl rfl (congrArg (Ty.sl zA) (if_pos (o6 hc1 hc2 hc3 hfull hall5)).symm) | exact Ti (o6 hc1 hc2 hc3 hfull hall5)
set_option maxRecDepth 100000 in
theorem QG (f : bS) (hs : f.Small) (order : List Int) (hl : order.length ≤ 1000) : cX Tryz.prog 12 [iS f, Ty.sl dN order] (Ty.s8 [Ty.sl zY (rq f order), Ty.int .i64 (gw f order)]) := by
 refine aY Tryz.func12 rfl (by decide) Tryz.ntmps12 (by exact Nat.le_of_ble_eq_true rfl) fun w0 M0 => ?_
 have hs1 := hs.bears; have hs2 := hs.bins; have hs3 := hs.turnings; have hs4 := hs.rules
 refine aF (aA (bC rfl (mP rfl (b9 rfl (aD (aC (aF (aA ?_))))))))
 refine ay rfl rfl rfl (by exact Nat.le_of_ble_eq_true rfl) ?_
 refine gy rfl (aq (MZ f hs order hl) rfl rfl rfl rfl rfl (FQ rfl (bt rfl rfl (bt rfl rfl (bt rfl rfl (S6 rfl (OU rfl (b9 rfl (aD (aC (aF (aF (aA (bF rfl (ak rfl rfl rfl ?_)))))))))))))))
 refine aD (aC ?_)
 refine ck rfl (fun hc1 => ?_) (fun hc1 => ?_)
 ·refine aF (aA (bF rfl (mP rfl (b9 rfl (aD (aC (av (aW ?_))))))))
  refine iB rfl rfl rfl ?_ ?_
  all_goals skip
  all_goals first | exact gD (if_pos (by rw [← uJ]; exact hc1)) | exact bE rfl rfl (congrArg (Ty.int .i64) (uJ f order))
 refine bA (aC (aF ?_))
 have hoP : gA f order = 0 := hc1
 have hoE : gw f order = 0 := by rw [← uJ]; exact hoP
 obtain ⟨hck, hcp, hoM⟩ := GI hoE
 have hfi := fj hcp
 have hnt := P9 hcp
 have hsp := lJ hoM
 have hb4 := (cB hcp).ranged.bears
 refine mq (s := 6) rfl (Ty.lg (decide_eq_true hc1)) ?_
 refine mq (s := 7) rfl (Ty.sub_eq (congrArg (Ty.sl zA) (if_pos hoP))) ?_
 refine aA (mP rfl (aD (aC (aF (aF (aA (gy rfl (cC rfl rfl rfl (bF rfl (aD (aC (af ?_))))))))))))
 refine cK (fun (k : {k : Nat // k ≤ (dn order).length}) => live [(2, Ty.pp (cv f)), (6, Ty.pe fF (aX f) 0), (9, Ty.row zY 23 40 ((yW f order).take k.1)), (23, Ty.sl zA (dn order)), (24, Ty.int .i64 (dn order).length), (25, Ty.int .i64 (k.1 : Nat))] []) (fun k => (dn order).length - k.1) (⟨0, by omega⟩) ?_ fun k => ?_
 ·(refine c8.mk' ?_ ?_ <;> (repeat' (first | exact aI | exact aH | refine aB ?_ (Ty.aR _) | refine aB ?_ (Ty.aG _) | refine aB ?_ Ty.lS)))
 have hsl := nB order
 have hrk : ((yW f order).take k.1).length = k.1 := by rw [List.length_take, sx]; omega
 refine aF (aA (ak rfl rfl rfl (aD (aC (aF ?_)))))
 refine aa rfl (fun hc2 => ?_) (fun hc2 => ?_)
 ·refine bA (aC (aF (af (aF (aA ?_)))))
  refine bG rfl rfl rfl rfl rfl rfl (by omega) ?_
  refine aK rfl rfl rfl rfl (b9 rfl (aD (aC (aF ?_))))
  have hsm : nth (dn order) k.1 < 256 := yN hnt hsp.2.1 (bL (by omega))
  refine aA (mF rfl (bF rfl (aq (EC (aX f) hfi _ hsm) rfl rfl rfl rfl rfl ?_)))
  refine dB rfl (by exact List.cons_ne_nil _ _) rfl ?_
  refine jr rfl rfl (by decide) rfl rfl (by rw [lO]; rfl) (by rfl) ?_
  refine aD (aC ?_)
  have hl4 := lO (aX f) (nth (dn order) k.1)
  refine tW (tg := 13) [(12, Ty.pa dN (iI (aX f) (nth (dn order) k.1)) 0)] (by decide) rfl ⟨TP rfl rfl (by decide), trivial⟩ ?_
  refine aA (Ad rfl ?_)
  refine aP rfl rfl rfl rfl rfl (by decide) ?_
  refine aK rfl rfl rfl rfl (cC rfl rfl rfl ?_)
  refine PD rfl rfl rfl rfl rfl (by exact Nat.le_of_ble_eq_true rfl) (by omega) (by omega) ?_
  refine aq (Ex _ (by rw [List.length_take]; omega)) rfl rfl rfl rfl rfl ?_
  refine bT (E := zY) (xs := [rowP f (nth (dn order) k.1)]) rfl rfl rfl rfl rfl (by decide) (by decide) (by repeat (first | exact (aT.nil : aT _ _ [] _) | (show aT _ _ ((_, _) :: _) _; apply aT.one; (· exact (rfl : _ = Ty.sl _ _)); (· exact rfl)))) (by exact rfl) rfl ?_
  refine fB rfl rfl (by decide) rfl rfl rfl rfl rfl rfl (by decide) (by (simp <;> omega)) (by (simp <;> omega)) ?_
  refine Ec rfl (aD (bH (aC (aA ?_))))
  refine bz rfl rfl (by omega) (by omega) ?_
  refine bF rfl (aD ?_)
  refine bO (⟨k.1 + 1, by omega⟩) ?_ (by show (dn order).length - (k.1 + 1) < (dn order).length - k.1; omega)
  (refine c8.mk' ?_ ?_ <;> (repeat' (first | exact aI | exact aH | refine aB ?_ (Ty.aR _) | refine aB ?_ (Ty.aG _) | refine aB ?_ ?_)))
  all_goals skip
  all_goals exact Ty.ej (by rw [bh (by rw [sx]; omega), Mp (by omega)])
 refine cF (aL (aL (ah rfl (aC (aF (aA (Ad rfl (Ec rfl (b9 rfl (aD (aC (av ?_))))))))))))
 refine iB rfl rfl rfl ?_ ?_
 all_goals skip
 all_goals first | exact nU (by decide) (by rw [rq, if_neg (fun h => h hoE), ← Px hcp hoM, show k.1 = (dn order).length by have := k.2; omega, List.take_of_length_le (by rw [sx]; exact Nat.le_refl _)]) | exact bE rfl rfl (congrArg (Ty.int .i64) hoE.symm)
section
variable {f : bS} {l : List Int}
end
end Go.Proofs.YtmmcenjknimhbaaGreat
namespace Go.Proofs.YtmmcenjknimhbaaGreat
open Go Go.T
set_option maxHeartbeats 2000000
attribute [local irreducible] eH cZ jR j7 eP eO eK eS eJ j8 eN j4 b8 dc j0 dZ j5 nth eZ cU aV cX bodyPost Exit.then Exit.inBlock Code.wp Code.wpIn dU m7 mo m6 fT mw m0 fV mY eB fO lu bW bV bodyPostM cV
set_option maxRecDepth 100000 in
theorem Hq (s : fR) (h : s.Ok 1) : eB Tryz.prog 71 [1000] [(1000, Cont.cells 95 (cN s))] [Ty.ptr 1000 0] [(1000, Cont.cells 95 (cN (aO s)))] (Ty.int .i64 (kH (aO s))) := by
 refine jI Tryz.func71 rfl (by decide) Tryz.ntmps71 (by exact Nat.le_of_ble_eq_true rfl) fun w0 M0 => ?_
 have h0 : 0 ≤ s.taken ∧ s.taken + 1 ≤ 4611686018427387904 := h
 refine aF (aA (b9 rfl (aD (aC ?_))))
 refine qh (J := live [(0, Ty.ptr 1000 0)] [(1000, Cont.cells 95 (cN (gM s)))]) ?_ ?_
 ·refine aF (aA (tN rfl (cW rfl ?_)))
  refine aS rfl rfl rfl rfl rfl (by decide) ?_
  refine aj rfl rfl (by decide) rfl rfl rfl ?_
  refine cC rfl rfl rfl (b9 rfl (aD (aC (aF (aA (bF rfl (ak rfl rfl rfl (aD (aC ?_)))))))))
  refine aa rfl (fun hc1 => ?_) (fun hc1 => ?_)
  ·have hm := Fo (a := s.taken) (b := s.grain.length) h0.1 (by omega)
   refine cg mixed rfl (tN rfl (tN rfl (cW rfl ?_)))
   refine aS rfl rfl rfl rfl rfl (by decide) ?_
   refine aj rfl rfl (by decide) rfl rfl rfl ?_
   refine tN rfl (cW rfl ?_)
   refine aS rfl rfl rfl rfl rfl (by decide) ?_
   refine aj rfl rfl (by decide) rfl rfl rfl ?_
   refine tN rfl (cW rfl ?_)
   refine aS rfl rfl rfl rfl rfl (by decide) ?_
   refine aj rfl rfl (by decide) rfl rfl rfl ?_
   refine bF rfl ?_
   refine Jk rfl rfl (by omega) ?_
   refine nN rfl rfl rfl rfl rfl rfl (by omega) (by omega) ?_
   refine aK rfl rfl rfl rfl (I1 rfl rfl rfl rfl (ak rfl rfl rfl (ak rfl rfl rfl (cW rfl ?_))))
   refine aS rfl rfl rfl rfl rfl (by decide) ?_
   refine dm rfl rfl (by decide) rfl rfl (by exact (rfl : _ = Ty.int _ _)) rfl (by exact Nat.le_of_ble_eq_true rfl) rfl rfl (by exact rfl) ?_
   refine aD ?_
   refine ⟨by kernel_rfl, ?_⟩
   refine iC ?_
   (refine c8.mk' ?_ ?_ <;> (repeat' (first | exact aI | exact aH | exact dI | refine aB ?_ (Ty.aR _) | refine aB ?_ (Ty.aG _) | refine aJ rfl (Cont.dJ ?_) ?_ | refine bX ?_ ?_)))
   all_goals first | exact Ty.bJ (congrArg fR.mixed (Fw hc1).symm) | exact Ty.bJ (lY s).symm | exact Ty.gl (tV s).symm
  refine bA (iC ?_)
  (refine c8.mk' ?_ ?_ <;> (repeat' (first | exact aI | exact aH | exact dI | refine aB ?_ (Ty.aR _) | refine aB ?_ (Ty.aG _) | refine aJ rfl (Cont.dJ ?_) ?_ | refine bX ?_ ?_)))
  all_goals first | exact Ty.bJ (congrArg fR.mixed (Gx hc1).symm) | exact Ty.bJ (lY s).symm | exact Ty.gl (tV s).symm
 refine aF ?_
 have h1 := lY s
 refine aA (tN rfl (cW rfl ?_))
 refine aS rfl rfl rfl rfl rfl (by decide) ?_
 refine aj rfl rfl (by decide) rfl rfl rfl ?_
 refine bz rfl rfl (by omega) (by omega) ?_
 refine cW rfl ?_
 refine aS rfl rfl rfl rfl rfl (by decide) ?_
 refine dm rfl rfl (by decide) rfl rfl (by exact (rfl : _ = Ty.int _ _)) rfl (by exact Nat.le_of_ble_eq_true rfl) rfl rfl (by exact rfl) ?_
 refine aD (aC ?_)
 refine qh (J := live [(0, Ty.ptr 1000 0)] [(1000, Cont.cells 95 (cN (aO s)))]) ?_ ?_
 ·refine aF (cg mixed rfl (tN rfl (cW rfl ?_)))
  refine aS rfl rfl rfl rfl rfl (by decide) ?_
  refine aj rfl rfl (by decide) rfl rfl rfl ?_
  refine tN rfl (cW rfl ?_)
  refine aS rfl rfl rfl rfl rfl (by decide) ?_
  refine aj rfl rfl (by decide) rfl rfl rfl ?_
  refine cC rfl rfl rfl (ak rfl rfl rfl (aD ?_))
  refine ⟨by kernel_rfl, ?_⟩
  refine aC ?_
  refine aa rfl (fun hc2 => ?_) (fun hc2 => ?_)
  ·refine aA (tN rfl (tN rfl (cW rfl ?_)))
   refine aS rfl rfl rfl rfl rfl (by decide) ?_
   refine aj rfl rfl (by decide) rfl rfl rfl ?_
   refine ak rfl rfl rfl (ak rfl rfl rfl (cW rfl ?_))
   refine aS rfl rfl rfl rfl rfl (by decide) ?_
   refine dm rfl rfl (by decide) rfl rfl (by exact (rfl : _ = Ty.int _ _)) rfl (by exact Nat.le_of_ble_eq_true rfl) rfl rfl (by exact rfl) ?_
   refine aD (iC ?_)
   (refine c8.mk' ?_ ?_ <;> (repeat' (first | exact aI | exact aH | exact dI | refine aB ?_ (Ty.aR _) | refine aB ?_ (Ty.aG _) | refine aJ rfl (Cont.dJ ?_) ?_ | refine bX ?_ ?_)))
   all_goals first | exact Ty.bJ (congrArg fR.mixed (Fi (s := oV (gM s)) hc2).symm) | exact Ty.bJ (oc (oV (gM s))).symm | exact Ty.gl (tw (oV (gM s))).symm
  refine bA (iC ?_)
  (refine c8.mk' ?_ ?_ <;> (repeat' (first | exact aI | exact aH | exact dI | refine aB ?_ (Ty.aR _) | refine aB ?_ (Ty.aG _) | refine aJ rfl (Cont.dJ ?_) ?_ | refine bX ?_ ?_)))
  all_goals first | exact Ty.bJ (Fe hc2) | exact Ty.bJ (oc (oV (gM s))).symm | exact Ty.gl (tw (oV (gM s))).symm
 refine aF (cg mixed rfl (tN rfl (cW rfl ?_)))
 refine aS rfl rfl rfl rfl rfl (by decide) ?_
 refine aj rfl rfl (by decide) rfl rfl rfl ?_
 refine tN rfl (cW rfl ?_)
 refine aS rfl rfl rfl rfl rfl (by decide) ?_
 refine aj rfl rfl (by decide) rfl rfl rfl ?_
 refine PX rfl rfl (by omega) (by decide) ?_
 refine ak rfl rfl rfl ?_
 refine PX rfl rfl (by omega) (by decide) ?_
 refine ak rfl rfl rfl (I1 rfl rfl rfl rfl (b9 rfl (aD ?_)))
 refine ⟨by kernel_rfl, ?_⟩
 refine aC (av ?_)
 refine qN [1000] rfl rfl (by decide) (by repeat (first | exact og | refine kL rfl (bB (by decide) rfl rfl rfl) ?_)) ?_
 all_goals exact vX (cP rfl rfl)
 all_goals exact vX (Ub rfl rfl rfl)
set_option maxRecDepth 100000 in
theorem jB (s : fR) (h : s.Ok 1) (n : Int) : eB Tryz.prog 29 [1000] [(1000, Cont.cells 95 (cN s))] [Ty.ptr 1000 0, Ty.int .i64 n] [(1000, Cont.cells 95 (cN (aO s)))] (Ty.int .i64 (bP s n)) := by
 refine jI Tryz.func29 rfl (by decide) Tryz.ntmps29 (by exact Nat.le_of_ble_eq_true rfl) fun w0 M0 => ?_
 refine aF (aA (b9 rfl (aD (aC (aF (aA (tN rfl ?_)))))))
 refine eI [(1000, 1000)] [] [(1000, Cont.cells 95 (cN (aO s)))] (Hq s h) rfl rfl (by repeat (first | exact fC | refine dD ?_ ?_ | exact fS List.mem_cons_self)) (dj (a := 1000) (b := 1000) (by exact List.mem_cons_self) rfl (bB (by exact List.mem_cons_self) rfl rfl rfl) pre_nil) (cj (a := 1000) (b := 1000) (by exact List.mem_cons_self) rfl (bB (by exact List.mem_cons_self) rfl rfl rfl) post_nil) (cP rfl rfl) ?_
 refine bF rfl (Ff rfl rfl ?_)
 refine Jk rfl rfl (by omega) ?_
 refine b9 rfl (aD (aC (av ?_)))
 refine qN [1000] rfl rfl (by decide) (by repeat (first | exact og | refine kL rfl (bB (by decide) rfl rfl rfl) ?_)) ?_
 all_goals exact vX (cP rfl rfl)
set_option maxRecDepth 100000 in
theorem qv (s : fR) (h : s.Ok 1) (lo hi : Int) (hlo : -1000000 ≤ lo ∧ lo ≤ 1000000) (hhi : -1000000 ≤ hi ∧ hi ≤ 1000000) : eB Tryz.prog 28 [1000] [(1000, Cont.cells 95 (cN s))] [Ty.ptr 1000 0, Ty.int .i64 lo, Ty.int .i64 hi] [(1000, Cont.cells 95 (cN (aO s)))] (Ty.int .i64 (dH s lo hi)) := by
 refine jI Tryz.func28 rfl (by decide) Tryz.ntmps28 (by exact Nat.le_of_ble_eq_true rfl) fun w0 M0 => ?_
 have hb := cQ s (hi - lo + 1)
 refine aF (aA (b9 rfl (aD (aC (aF (aA (bF rfl (tN rfl (bF rfl (bF rfl ?_))))))))))
 refine iZ rfl rfl (by omega) (by omega) ?_
 refine bz rfl rfl (by omega) (by omega) ?_
 refine eI [(1000, 1000)] [] [(1000, Cont.cells 95 (cN (aO s)))] (jB s h _) rfl rfl (by repeat (first | exact fC | refine dD ?_ ?_ | exact fS List.mem_cons_self | exact cP rfl rfl)) (dj (a := 1000) (b := 1000) (by exact List.mem_cons_self) rfl (bB (by exact List.mem_cons_self) rfl rfl rfl) pre_nil) (cj (a := 1000) (b := 1000) (by exact List.mem_cons_self) rfl (bB (by exact List.mem_cons_self) rfl rfl rfl) post_nil) (cP rfl rfl) ?_
 refine bz rfl rfl (by omega) (by omega) ?_
 refine b9 rfl (aD (aC (av ?_)))
 refine qN [1000] rfl rfl (by decide) (by repeat (first | exact og | refine kL rfl (bB (by decide) rfl rfl rfl) ?_)) ?_
 all_goals exact vX (cP rfl rfl)
set_option maxRecDepth 100000 in
theorem Qg (s : fR) (h : s.Ok 1) (n : Int) : eB Tryz.prog 30 [1000] [(1000, Cont.cells 95 (cN s))] [Ty.ptr 1000 0, Ty.int .i64 n] [(1000, Cont.cells 95 (cN (aO s)))] (Ty.bool (qI s n)) := by
 refine jI Tryz.func30 rfl (by decide) Tryz.ntmps30 (by exact Nat.le_of_ble_eq_true rfl) fun w0 M0 => ?_
 refine aF (aA (dG rfl (aD (aC (aF (aA (tN rfl (bF rfl ?_))))))))
 refine eI [(1000, 1000)] [] [(1000, Cont.cells 95 (cN (aO s)))] (jB s h n) rfl rfl (by repeat (first | exact fC | refine dD ?_ ?_ | exact fS List.mem_cons_self | exact cP rfl rfl)) (dj (a := 1000) (b := 1000) (by exact List.mem_cons_self) rfl (bB (by exact List.mem_cons_self) rfl rfl rfl) pre_nil) (cj (a := 1000) (b := 1000) (by exact List.mem_cons_self) rfl (bB (by exact List.mem_cons_self) rfl rfl rfl) post_nil) (cP rfl rfl) ?_
 refine ak rfl rfl rfl (dG rfl (aD (aC (av ?_))))
 refine qN [1000] rfl rfl (by decide) (by repeat (first | exact og | refine kL rfl (bB (by decide) rfl rfl rfl) ?_)) ?_
 all_goals exact vX (cP rfl rfl)
set_option maxRecDepth 100000 in
theorem KI (g : List Int) : eB Tryz.prog 7 [] [] [Ty.sl J9 g] [(10, Cont.cells 95 (cN (jc g)))] (Ty.ptr 10 0) := by
 refine jI Tryz.func7 rfl (by decide) Tryz.ntmps7 (by exact Nat.le_of_ble_eq_true rfl) fun w0 M0 => ?_
 refine aF (aA (mP rfl (aD (aC (aF ?_)))))
 skip
 refine aA (gy rfl (gy rfl (cC rfl rfl rfl (I1 rfl rfl rfl rfl (ak rfl rfl rfl ?_)))))
 refine eX rfl rfl (by exact List.cons_ne_nil _ _) rfl (by repeat (first | exact (aT.nil : aT _ _ [] _) | (show aT _ _ ((_, _) :: _) _; apply aT.one; (· first | exact (rfl : _ = Ty.int _ _) | exact (rfl : _ = Ty.sl _ _)); (· exact rfl)))) (by exact (rfl : _ = some [_, _, _])) ?_
 refine Li rfl rfl rfl (Vd rfl (aD (aC (av ?_))))
 refine qN [10] rfl rfl (by decide) (by repeat (first | exact og | refine kL rfl (bB (by decide) rfl rfl rfl) ?_)) ?_
 all_goals skip
 exact vX (fS (by exact List.mem_cons_self))
set_option maxRecDepth 100000 in
theorem Tq (v n : Int) (hv : -1000000 ≤ v ∧ v ≤ 1000000) (hn : n ≤ 1000000) : cX Tryz.prog 31 [Ty.int .i64 v, Ty.int .i64 n] (Ty.int .i64 (BC v n)) := by
 refine aY Tryz.func31 rfl (by decide) Tryz.ntmps31 (by exact Nat.le_of_ble_eq_true rfl) fun w0 M0 => ?_
 refine aF (aA (b9 rfl (aD (aC (aF (aF (aA (bF rfl (ak rfl rfl rfl (aD (aC ?_)))))))))))
 refine aa rfl (fun hc1 => ?_) (fun hc1 => ?_)
 ·refine aF (aA (b9 rfl (aD (aC (av (aW (bK rfl rfl ?_)))))))
  all_goals skip
  exact bE rfl rfl (congrArg (Ty.int .i64) (if_pos hc1).symm)
 refine bA (aC (aF ?_))
 have hmm := Ms v n (by omega)
 have hm2 := Fo (a := v.tmod n + n) (b := n) (by omega) (by omega)
 refine aA (bF rfl (bF rfl ?_))
 refine Jk rfl rfl (by omega) ?_
 refine bF rfl ?_
 refine bz rfl rfl (by omega) (by omega) ?_
 refine bF rfl ?_
 refine Jk rfl rfl (by omega) ?_
 refine b9 rfl (aD (aC (av (bK rfl rfl ?_))))
 all_goals skip
 exact bE rfl rfl (congrArg (Ty.int .i64) (if_neg hc1).symm)
end Go.Proofs.YtmmcenjknimhbaaGreat
namespace Go.Proofs.YtmmcenjknimhbaaGreat
open Go Go.T Go.RowKit Go.Shelf
def Aw : Ren := ⟨fun n => if n = 21 then 72 else if n = 27 then 134 else if n = 28 then 135 else if n = 35 then 178 else if n = 39 then 220 else n, fun n => if n = 22 then 23 else n, fun n => n⟩
theorem Km {t : Nat} {D : TypeDesc} (h : Tryz.prog.underlying t = some D) (hd : (match D with | .struct _ => false | .array _ _ => false | _ => true) = true) : ∀ w, (isAgg t).run Tryz.prog w = .ok false w := fun w => by
 cases D <;> simp_all [isAgg, run_underlying h]
set_option maxRecDepth 100000 in
theorem Eo : Lays2.n21 Tryz.prog Aw where
 mixed := by kernel_rfl
 f21 := by kernel_rfl
 f27 := by kernel_rfl
 f28 := by kernel_rfl
 f35 := by kernel_rfl
 f39 := by kernel_rfl
 t0 := by kernel_rfl
 a0 := Km (D := TypeDesc.tuple #[]) (by kernel_rfl) rfl
 z0 := fun w => cJ (P := Tryz.prog) (t := 0) rfl w
 v0 := fun w => lB (by kernel_rfl) w
 t3 := by kernel_rfl
 a3 := Km (D := TypeDesc.int IntKind.i64) (by kernel_rfl) rfl
 z3 := fun w => cJ (P := Tryz.prog) (t := 3) rfl w
 v3 := fun w => lB (by kernel_rfl) w
 t4 := by kernel_rfl
 a4 := Km (D := TypeDesc.bool) (by kernel_rfl) rfl
 z4 := fun w => cJ (P := Tryz.prog) (t := 4) rfl w
 v4 := fun w => lB (by kernel_rfl) w
 t22 := by kernel_rfl
 a22 := Km (D := TypeDesc.slice 3) (by kernel_rfl) rfl
 z22 := fun w => cJ (P := Tryz.prog) (t := 23) rfl w
 v22 := fun w => lB (by kernel_rfl) w
 i3 := by kernel_rfl
def rA (l : List Value) (o : Nat) (vs : List Value) : List Value := l.take o ++ vs ++ l.drop (o + vs.length)
theorem MJ {l : List Value} {o : Nat} {vs : List Value} (h : o + vs.length ≤ l.length) : (rA l o vs).length = l.length := by
 simp [rA]; omega
theorem IZ {l : List Value} {o : Nat} {v : Value} {vs : List Value} (h : o < l.length) : rA (l.set o v) (o + 1) vs = rA l o (v :: vs) := by
 have e : l.set o v = l.take o ++ v :: l.drop (o + 1) := by rw [List.set_eq_take_append_cons_drop, if_pos h]
 have h1 : (l.take o).length = o := by simp; omega
 unfold rA
 rw [e]
 have t1 : (l.take o ++ v :: l.drop (o + 1)).take (o + 1) = l.take o ++ [v] := by
  rw [List.take_append, h1, show o + 1 - o = 1 by omega, List.take_of_length_le (by omega)]; rfl
 have t2 : (l.take o ++ v :: l.drop (o + 1)).drop (o + 1 + vs.length) = l.drop (o + (v :: vs).length) := by
  rw [List.drop_append, h1, List.drop_eq_nil_of_le (by omega), List.nil_append, show o + 1 + vs.length - o = vs.length + 1 by omega, List.drop_succ_cons, List.drop_drop, List.length_cons]
  congr 1; omega
 rw [t1, t2]; simp
theorem pM {c d : Array Value} {o : Nat} {vs : List Value} (h : d.toList = rA c.toList o vs) (hb : o + vs.length ≤ c.size) : d.size = c.size := by
 have := congrArg List.length h
 rw [MJ (by simpa using hb)] at this
 simpa using this
theorem lN {b T : Nat} : ∀ (vs : List Value) (o : Nat) (w : World) (cs : Array Value), w.heap[b]? = some (.cells cs T (0, 0)) → o + vs.length ≤ cs.size →
    ∃ cs' : Array Value, (w.setCells b o vs).heap[b]? = some (.cells cs' T (0, 0)) ∧ cs'.toList = rA cs.toList o vs ∧ (w.setCells b o vs).heap.size = w.heap.size ∧
      (w.setCells b o vs).os = w.os ∧ (w.setCells b o vs).tape = w.tape ∧ (w.setCells b o vs).output = w.output ∧ ∀ k, k ≠ b → (w.setCells b o vs).heap[k]? = w.heap[k]?
  | [], o, w, cs, h, _ => ⟨cs, h, by simp [rA], rfl, rfl, rfl, rfl, fun _ _ => rfl⟩
  | v :: vs, o, w, cs, h, hl => by
    have hl : o + (vs.length + 1) ≤ cs.size := hl
    have hb : b < w.heap.size := (Array.getElem?_eq_some_iff.1 h).1
    have e := fY (off := o) h v
    have h1 : (w.setCell ⟨b, o, none⟩ v).heap[b]? = some (.cells (cs.setIfInBounds o v) T (0, 0)) := by rw [e]; simp [hb]
    obtain ⟨cs', g1, g2, g3, g4, g5, g6, g7⟩ := lN vs (o + 1) (w.setCell ⟨b, o, none⟩ v) (cs.setIfInBounds o v) h1 (by simp; omega)
    refine ⟨cs', g1, ?_, g3.trans (by rw [e]; simp), g4.trans (by rw [e]), g5.trans (by rw [e]), g6.trans (by rw [e]), fun k hk => (g7 k hk).trans ?_⟩
    · rw [g2, Array.toList_setIfInBounds, IZ (by simp; omega)]
    · rw [e]; exact Array.getElem?_setIfInBounds_ne (Ne.symm hk)
def UE (T : Nat) (cs : Array Value) (w : World) (M : az) (v : Value) : Prop := ∃ b, v = .slice (some ⟨b, 0, none⟩) cs.size cs.size ∧ M b = none ∧ w.heap[b]? = some (.cells cs T (0, 0))
def Jl (T : Nat) (cs : Array Value) : Ty := { den := UE T cs, mono := fun le _ _ ⟨b, e, h1, h2⟩ => let ⟨h3, h4⟩ := le.qz b (Array.getElem?_eq_some_iff.1 h2).1 h1; ⟨b, e, h3, h4.trans h2⟩ }
def eD (l : List Int) : List Value := l.map fun n => .int .i64 n
theorem AU {w : World} {M : az} : ∀ {xs : List Int} {cs : List Value}, cD w M (xs.flatMap dN.tys) cs → cs = eD xs
  | [], [], _ => rfl
  | x :: xs, c :: cs, ⟨h, h'⟩ => by
    have h : c = .int .i64 x := h
    rw [AU h', h]; rfl
theorem Bm {w : World} {M : az} : ∀ xs : List Int, cD w M (xs.flatMap dN.tys) (eD xs)
  | [] => trivial
  | _ :: xs => ⟨rfl, Bm xs⟩
def wQ (w w' : World) (v v' : Value) (l : List Value) : Prop :=
  w'.ownsRow 0 3 1 v' l.length l ∧ w.grownBy w' v.ownBlock ∧ (v'.ownBlock = v.ownBlock ∨ v'.ownBlock = some w.heap.size)
theorem DE (l : List Int) : ∀ v ∈ eD l, v.oneCell' = true := fun v hv => by obtain ⟨n, _, rfl⟩ := List.mem_map.1 hv; rfl
theorem EL {w : World} {g c : Nat} {cs : Array Value} {l : List Value} (h : w.heap[g]? = some (.cells cs 3 (0, 0))) (hs : cs.size = c) (hl : cs.toList.take l.length = l) (hc : l.length ≤ c) (hm : c ≤ maxLen) : w.ownsRow 0 3 1 (.slice (some ⟨g, 0, none⟩) l.length c) l.length l :=
 ⟨(Nat.mul_one _).symm, .inr ⟨g, c, cs, rfl, Nat.zero_le _, h, hc, hm, by rw [hs, Nat.mul_one], by rw [Nat.mul_one]; exact hl⟩⟩
theorem Gv {w : World} {b T : Nat} {cs : Array Value} (h : w.heap[b]? = some (.cells cs T (0, 0))) {j : Nat} {v : Value} (hj : cs.toList[j]? = some v) : w.cell? ⟨b, j, none⟩ = some v := by
 simpa [World.cell?, h] using hj
theorem wH {w : World} {b T : Nat} {cs : Array Value} (h : w.heap[b]? = some (.cells cs T (0, 0))) (j : Nat) : w.frozen? ⟨b, j, none⟩ = false := by simp [World.frozen?, h]
theorem C0 {w : World} {b T : Nat} {cs : Array Value} (h : w.heap[b]? = some (.cells cs T (0, 0))) : w.shape? b = some (T, cs.size) := by simp [World.shape?, h]
theorem Om {w : World} {v : Value} {l : List Value} {cs : Array Value} {c : Nat} (hs : cs.size = c) (hl : cs.toList.take l.length = l) (hc : l.length ≤ c) (hm : c ≤ maxLen) : wQ w (w.drew.alloc (.cells cs 3)) v (.slice (some ⟨w.heap.size, 0, none⟩) l.length c) l :=
 ⟨EL (gx w.drew _) hs hl hc hm, ⟨rfl, rfl, rfl, by show w.heap.size ≤ (w.heap.push _).size; simp, fun k hk _ => Below.heap_alloc w.drew _ k hk⟩, .inr rfl⟩
theorem s6 (xs : List Int) (i : Nat) (k : Int) : eD (jo xs i k) = (eD xs).take i ++ .int .i64 k :: (eD xs).drop i := by simp [eD, jo]
theorem gK (l : List Int) : (eD l).length = l.length := by simp [eD]
set_option maxRecDepth 100000 in
theorem OF {w : World} {M : az} {tg : Nat} {xs : List Int} {v u : Value} {i : Nat} {k : Int} (h1 : 1 ≤ tg) (hrow : dZ dN 3 tg xs w M v) (hu : UE 3 #[.int .i64 k] w M u) (hi : i ≤ xs.length) (hlen : xs.length ≤ 1000000) :
 Calls Tryz.prog 72 #[v, .int .i64 i, u] w fun e w' => ∃ v', e = .returned v' ∧ wQ w w' v v' (eD (jo xs i k)) := by
 obtain ⟨vb, rfl, hM, hvb⟩ := hu
 obtain ⟨cs, ⟨hcl, hown⟩, hd, hg⟩ := hrow
 obtain rfl := AU hd
 have hil := Cw hi k
 have hiL : (eD (jo xs i k)).length = xs.length + 1 := by rw [gK, hil]
 have hmax : (1000001 : Nat) ≤ maxLen := by simp [maxLen]
 have hvs : ∀ j x, [Value.int .i64 k][j]? = some x → w.cell? ⟨vb, 0 + j, none⟩ = some x := fun j x hj => by rw [Nat.zero_add]; exact Gv hvb (by simpa using hj)
 have h1v : ∀ x ∈ [Value.int .i64 k], x.oneCell' = true := fun x hx => by rw [List.mem_singleton.1 hx]; rfl
 have hgrow : ∀ (base : Option Addr) (c : Nat), xs.length ≤ c → c < xs.length + 1 → i = xs.length → (base = none → xs.length = 0) → (∀ a, base = some a → ∀ j x, (eD xs)[j]? = some x → w.cell? (a.add j) = some x) →
  Calls Tryz.prog 72 #[.slice base xs.length c, .int .i64 i, .slice (some ⟨vb, 0, none⟩) 1 1] w fun e w' => ∃ v', e = .returned v' ∧ wQ w w' (.slice base xs.length c) v' (eD (jo xs i k)) := by
  intro base c hnc hroom hin hnil hcs
  subst hin
  refine (Any2.slices_Insert_int_end_grow Eo base xs.length c vb 0 1 1 (eD xs) [.int .i64 k] w (by omega) hnc hroom (by omega) (gK xs) rfl hnil hcs hvs h1v).mono fun e w' ⟨he, hw⟩ => ?_
  refine ⟨_, he, ?_⟩
  have hge := grownCap_ge w (xs.length + 1) c (Aw.t 3)
  have hle := grownCap_le_maxLen w (xs.length + 1) c (Aw.t 3) (by omega)
  generalize grownCap w (xs.length + 1) c (Aw.t 3) = C at *
  have hz : ∀ n, (Builtin.zeroCells (Value.int .i64 0).cells n).size = n := fun n => by rw [size_zeroCells]; simp [Value.cells]
  have hsz : ((eD xs ++ [Value.int .i64 k]).toArray ++ Builtin.zeroCells (Value.int .i64 0).cells (C - (xs.length + 1))).size = C := by
   rw [Array.size_append, hz, List.size_toArray, List.length_append, gK, List.length_singleton]; omega
  have l2 := gK xs
  have hnr := Om (w := w) (v := .slice base xs.length c) (l := eD (jo xs xs.length k)) hsz (by rw [hiL, s6, Array.toList_append, List.take_append_of_le_length (by simp [l2]), List.take_of_length_le (by simp [l2]), List.take_of_length_le (l := eD xs) (by omega), List.drop_of_length_le (l := eD xs) (by omega)]) (by omega) hle
  rw [hiL] at hnr
  rw [hw]; exact hnr
 rcases hown with ⟨rfl, hn⟩ | ⟨g, c, cur, rfl, _, hh, hnc, hcm, hsz, htk⟩
 ·have := hgrow none 0 (by omega) (by omega) (by omega) (fun _ => hn) (fun a ha => by cases ha)
  rw [hn] at this; exact this
 have h64 : dN.size = 1 := rfl
 rw [h64, Nat.mul_one] at hsz htk
 have hMg : M g = some tg := hg g rfl
 have hne : vb ≠ g := fun e => by rw [e, hMg] at hM; cases hM
 have hcell : ∀ j x, (eD xs)[j]? = some x → w.cell? ⟨g, 0 + j, none⟩ = some x := fun j x hj => by
  rw [Nat.zero_add]
  refine Gv hh ?_
  rw [← htk, List.getElem?_take] at hj
  split at hj
  ·exact hj
  cases hj
 by_cases hroom : xs.length + 1 ≤ c
 ·have hspare : ∀ j, j < c → (w.cell? ⟨g, 0 + j, none⟩).isSome = true := fun j hj => by simp [World.cell?, hh, hsz, hj]
  have hdone : ∀ (w' : World) (cur' : Array Value), w'.heap[g]? = some (.cells cur' 3 (0, 0)) → cur'.size = c → cur'.toList.take (xs.length + 1) = eD (jo xs i k) → w.grownBy w' (some g) → wQ w w' (.slice (some ⟨g, 0, none⟩) xs.length c) (.slice (some ⟨g, 0, none⟩) (xs.length + 1) c) (eD (jo xs i k)) := fun w' cur' e1 e2 e3 e4 => by
   rw [← hiL] at e3 ⊢
   exact ⟨EL e1 e2 e3 (by omega) hcm, e4, .inl rfl⟩
  have hc63 : c ≤ 9223372036854775807 := by simpa [maxLen] using hcm
  by_cases hlt : i < xs.length
  ·refine (Any2.slices_Insert_int_shift Eo g 0 xs.length c i vb 0 1 1 (eD xs) [.int .i64 k] w hlt (by omega) hroom hc63 hne (gK xs) rfl hcell (fun j hj => hspare j (by omega)) (fun j _ => wH hh _) hvs (DE xs) h1v 3 3 1 c (C0 hvb) (by rw [C0 hh, hsz]) (by omega) (wH hvb _) (wH hvb _)).mono fun e w' ⟨he, hw⟩ => ?_
   refine ⟨_, he, ?_⟩
   have hdl : (List.drop i (eD xs)).length = xs.length - i := by rw [List.length_drop, gK]
   obtain ⟨c1, a1, a2, a3, a4, a5, a6, a7⟩ := lN (b := g) (T := 3) ((eD xs).drop i) (0 + (i + 1)) w.drew cur hh (by rw [hdl]; omega)
   have hs1 : c1.size = c := by rw [pM a2 (by rw [hdl]; omega), hsz]
   obtain ⟨c2, b1, b2, b3, b4, b5, b6, b7⟩ := lN (b := g) (T := 3) [.int .i64 k] (0 + i) (w.drew.setCells g (0 + (i + 1)) ((eD xs).drop i)) c1 a1 (by rw [hs1]; simp; omega)
   rw [hw]
   refine hdone _ c2 b1 (by rw [pM b2 (by rw [hs1]; simp; omega), hs1]) ?_ ⟨b4.trans a4, b5.trans a5, b6.trans a6, by rw [b3, a3]; exact Nat.le_refl _, fun j hj hne' => ?_⟩
   ·have hcu : cur.toList.length = c := by rw [Array.length_toList, hsz]
    have ht : cur.toList.take i = (eD xs).take i := by rw [← htk, List.take_take, Nat.min_eq_left (by omega)]
    rw [b2, a2, s6]
    unfold rA
    simp only [Nat.zero_add, hdl, List.length_singleton]
    have l1 : (cur.toList.take (i + 1)).length = i + 1 := by rw [List.length_take, hcu]; omega
    have e1 : ((cur.toList.take (i + 1) ++ (eD xs).drop i ++ cur.toList.drop (i + 1 + (xs.length - i)))).take i = (eD xs).take i := by
     rw [List.append_assoc, List.take_append_of_le_length (by omega), List.take_take, Nat.min_eq_left (by omega), ht]
    have e2 : ((cur.toList.take (i + 1) ++ (eD xs).drop i ++ cur.toList.drop (i + 1 + (xs.length - i)))).drop (i + 1) = (eD xs).drop i ++ cur.toList.drop (i + 1 + (xs.length - i)) := by
     rw [List.append_assoc, List.drop_append_of_le_length (by omega), List.drop_of_length_le (by omega), List.nil_append]
    rw [e1, e2]
    have l2 : ((eD xs).take i).length = i := by rw [List.length_take, gK]; omega
    rw [← List.append_assoc, List.take_append_of_le_length (by simp only [List.length_append, l2, hdl, List.length_singleton]; omega), List.take_of_length_le (by simp only [List.length_append, l2, hdl, List.length_singleton]; omega), List.append_assoc]; rfl
   have hj' : j ≠ g := fun e => hne' (by rw [e])
   rw [b7 j hj', a7 j hj']; rfl
  obtain rfl : i = xs.length := by omega
  refine (Any2.slices_Insert_int_end_room Eo g 0 xs.length c vb 0 1 1 [.int .i64 k] w (by omega) hroom hc63 rfl (fun j hj => by rw [Nat.add_assoc]; exact hspare _ (by omega)) (fun j _ => wH hh _) hvs h1v).mono fun e w' ⟨he, hw⟩ => ?_
  refine ⟨_, he, ?_⟩
  obtain ⟨c1, a1, a2, a3, a4, a5, a6, a7⟩ := lN (b := g) (T := 3) [.int .i64 k] (0 + xs.length) w cur hh (by simp; omega)
  rw [hw]
  refine hdone _ c1 a1 (by rw [pM a2 (by simp; omega), hsz]) ?_ ⟨a4, a5, a6, by rw [a3]; exact Nat.le_refl _, fun j hj hne' => a7 j fun e => hne' (by rw [e])⟩
  have l2 : (eD xs).length = xs.length := gK xs
  rw [a2, s6]
  unfold rA
  simp only [Nat.zero_add, List.length_singleton]
  rw [htk, List.take_of_length_le (l := eD xs) (by omega), List.drop_of_length_le (l := eD xs) (by omega), List.take_append_of_le_length (by simp; omega), List.take_of_length_le (by simp; omega)]
 by_cases hlt : i < xs.length
 ·refine (Any2.slices_Insert_int_grow Eo g 0 xs.length c i vb 0 1 1 (eD xs) [.int .i64 k] w hlt (by omega) hnc (by omega) (by omega) (gK xs) rfl hcell hvs (DE xs) h1v).mono fun e w' ⟨he, hw⟩ => ?_
  refine ⟨_, he, ?_⟩
  have hge := grownCap_ge w (xs.length + 1) c (Aw.t 3)
  have hle := grownCap_le_maxLen w (xs.length + 1) c (Aw.t 3) (by omega)
  generalize grownCap w (xs.length + 1) c (Aw.t 3) = C at *
  have hz : ∀ n, (Builtin.zeroCells (Value.int .i64 0).cells n).size = n := fun n => by rw [size_zeroCells]; simp [Value.cells]
  have hdl : (List.drop i (eD xs)).length = xs.length - i := by rw [List.length_drop, gK]
  have htl : (List.take i (eD xs)).length = i := by rw [List.length_take, gK]; omega
  obtain ⟨nb, hnb⟩ : ∃ nb, nb = ((eD xs).take i).toArray ++ Builtin.zeroCells (Value.int .i64 0).cells (xs.length + 1 - i) ++ Builtin.zeroCells (Value.int .i64 0).cells (C - (xs.length + 1)) := ⟨_, rfl⟩
  have hns : nb.size = C := by rw [hnb]; simp only [Array.size_append, hz]; simp only [List.size_toArray, htl]; omega
  have hnt : nb.toList.take i = (eD xs).take i := by rw [hnb]; simp only [Array.toList_append, List.append_assoc]; rw [List.take_append_of_le_length (by simp only [htl]; exact Nat.le_refl _), List.take_of_length_le (by simp only [htl]; exact Nat.le_refl _)]
  rw [← hnb] at hw
  have h0 : (w.alloc (.cells nb 3)).drew.heap[w.heap.size]? = some (.cells nb 3 (0, 0)) := gx w _
  obtain ⟨c1, a1, a2, a3, a4, a5, a6, a7⟩ := lN (b := w.heap.size) (T := 3) [.int .i64 k] i (w.alloc (.cells nb 3)).drew nb h0 (by rw [hns]; simp; omega)
  have hs1 : c1.size = C := by rw [pM a2 (by rw [hns]; simp; omega), hns]
  obtain ⟨c2, b1, b2, b3, b4, b5, b6, b7⟩ := lN (b := w.heap.size) (T := 3) ((eD xs).drop i) (i + 1) ((w.alloc (.cells nb 3)).drew.setCells w.heap.size i [.int .i64 k]).drew c1 a1 (by rw [hs1, hdl]; omega)
  rw [hw, ← hiL]
  rw [← hiL] at hge
  have hal : (w.alloc (.cells nb 3)).drew.heap.size = w.heap.size + 1 := by show (w.heap.push _).size = _; simp
  refine ⟨EL b1 (by rw [pM b2 (by rw [hs1, hdl]; omega), hs1]) ?_ hge hle, ⟨b4.trans a4, b5.trans a5, b6.trans a6, ?_, fun j hj _ => ?_⟩, .inr rfl⟩
  ·have hcu : nb.toList.length = C := by rw [Array.length_toList, hns]
   rw [hiL, b2, a2, s6]
   unfold rA
   simp only [hdl, List.length_singleton]
   have l1 : (nb.toList.take i).length = i := by rw [List.length_take, hcu]; omega
   have e1 : ((nb.toList.take i ++ [Value.int .i64 k] ++ nb.toList.drop (i + 1))).take (i + 1) = (eD xs).take i ++ [.int .i64 k] := by
    rw [List.take_append_of_le_length (by simp; omega), List.take_of_length_le (by simp; omega), hnt]
   rw [e1]
   rw [List.take_append_of_le_length (by simp only [List.length_append, htl, hdl, List.length_singleton]; omega), List.take_of_length_le (by simp only [List.length_append, htl, hdl, List.length_singleton]; omega), List.append_assoc]; rfl
  ·exact Nat.le_trans (Nat.le_succ _) (Nat.le_of_eq (b3.trans (a3.trans hal)).symm)
  have hjn : j ≠ w.heap.size := by omega
  exact (b7 j hjn).trans ((a7 j hjn).trans (Below.heap_alloc w _ j hj))
 refine hgrow (some ⟨g, 0, none⟩) c hnc (by omega) (by omega) (fun h => by cases h) (fun a ha j x hj => ?_)
 obtain rfl := Option.some.inj ha
 rw [Addr.add_lit]
 exact hcell j x hj
end Go.Proofs.YtmmcenjknimhbaaGreat
namespace Go.Proofs.YtmmcenjknimhbaaGreat
open Go Go.T Go.RowKit
theorem Na {w : World} {v : Value} {n m : Nat} {l : List Value} (e : n = m) (h1 : l.length = n * 1) (h2 : (v = .slice none 0 0 ∧ n = 0) ∨ ∃ g cap cur, v = .slice (some ⟨g, 0, none⟩) n cap ∧ 0 ≤ g ∧ w.heap[g]? = some (.cells cur 3 (0, 0)) ∧ n ≤ cap ∧ cap ≤ maxLen ∧ cur.size = cap * 1 ∧ cur.toList.take (n * 1) = l) : w.ownsRow 0 3 1 v m l := e ▸ ⟨h1, h2⟩
section
variable {fr : Fr} {ops : Array Oper} {A : As} {rest : List Oper} {K : As → List (As × Fx) → Prop} {d : Nat} {t ty' : TypeId} {p : String} {e : Array Edge} {x y z : Operand}
theorem EG (vs : Array Value) (w : World) : (callFunc 72 vs).run Tryz.prog w = .ok (.enter 72 vs) w := by
 have hn' : Tryz.f72.name ≠ "runtime.NumGoroutine" := by
  have h : (Tryz.f72.name == "runtime.NumGoroutine") = false := by kernel_rfl
  simpa using h
 have hb' : Tryz.f72.body ≠ none := fun h => by
  have hb : Tryz.f72.body.isNone = false := by kernel_rfl
  rw [h] at hb; cases hb
 simp [callFunc, Tryz.func72, hn', hb']
theorem Lo (tg : Nat) {xs : List Int} {i : Nat} {k : Int} {ats : Array TypeId} (hx : (A.op fr x).Sub (.row dN 3 tg xs)) (hy : A.op fr y = .int .i64 (i : Nat)) (hz : A.op fr z = Jl 3 #[.int .i64 k]) (hi : i ≤ xs.length) (hl : xs.length ≤ 1000000) (h1 : 1 ≤ tg) (hp : fr.pass.contains tg = false)
 (h : aV Tryz.prog fr ops rest (A.after { d := some d, ty := .row dN 3 tg (jo xs i k), K := [tg], rs := bq x ++ (bq y ++ bq z) }) fun A' l => K A' ((A, { d := some d, ty := .row dN 3 tg (jo xs i k), K := [tg], rs := bq x ++ (bq y ++ bq z) }) :: l)) :
 aV Tryz.prog fr ops (⟨some d, .call ⟨.value (.func 72), #[x, y, z], ats⟩, t, p, e, none⟩ :: rest) A K := by
 refine ⟨_, ⟨rfl, by simp, by simp, by simp only [List.mem_singleton]; intro u hu; subst hu; exact ⟨h1, by simpa using hp⟩, fun a w M wf _ hrd _ => ?_⟩, h⟩
 rw [if_pos (by simp [Region.wanted])]
 have hdx := cA (x := x) (fun _ h => List.mem_append_left _ h) hrd
 have hdy := cA (x := y) (fun _ h => List.mem_append_right _ (List.mem_append_left _ h)) hrd
 have hdz := cA (x := z) (fun _ h => List.mem_append_right _ (List.mem_append_right _ h)) hrd
 rw [hy] at hdy
 rw [hz] at hdz
 have ey : a.eval y = .int .i64 (i : Nat) := hdy
 have hrow : dZ dN 3 tg xs w M (a.eval x) := hx _ _ _ hdx
 have hc := OF h1 hrow hdz hi hl
 have hrun : (execOp a.eval ⟨some d, .call ⟨.value (.func 72), #[x, y, z], ats⟩, t, p, e, none⟩).run Tryz.prog w = .ok (.enter 72 #[a.eval x, .int .i64 i, a.eval z]) w := by
  rw [← ey]
  simp [execOp, resolve, Act.eval, Deferred.ofValue, invoke, EG]
 refine g9 hrun ?_
 refine hc.mono fun en w' ⟨v', he, hown, hgr, hob⟩ => ?_
 obtain ⟨cs0, _, _, hM⟩ := hrow
 have hb : ∀ b, v'.ownBlock = some b → b < w'.heap.size := by
  intro b hb
  rcases hown.2 with ⟨rfl, _⟩ | ⟨g, cap, cur, rfl, _, hh, _⟩
  ·simp [Value.ownBlock] at hb
  simp [Value.ownBlock] at hb; subst hb; exact (Array.getElem?_eq_some_iff.1 hh).1
 have hle := zh (t := tg) (g := v'.ownBlock) hgr.size hgr.os hgr.tape hgr.output (fun b hb hlt => by
  rcases hob with e | e
  ·exact hM b (e ▸ hb)
  exact absurd hlt (by rw [← Option.some.inj (e.symm.trans hb)]; exact Nat.lt_irrefl _)) (fun b hlt hne => hgr.block b hlt (fun e => hne (hM b e.symm))) wf
 refine ⟨v', he, v', rfl, nk M tg v'.ownBlock, BM wf hgr.size hb, hle, ⟨eD (jo xs i k), ?_, Bm _, fun g hg => by simp [nk, hg]⟩, by simp⟩
 exact Na (gK _) hown.1 hown.2
theorem Ii {k : Int} (hx : A.op fr x = .int .i64 k)
 (h : aV Tryz.prog fr ops rest (A.set d (Jl 3 #[.int .i64 k])) fun A' l' => K A' ((A, { d := some d, ty := Jl 3 #[.int .i64 k], rs := bq x }) :: l')) : aV Tryz.prog fr ops (⟨some d, .buildSlice 23 1 #[(0, x)], t, p, e, none⟩ :: rest) A K := by
 refine ⟨_, iD (f := { d := some d, ty := Jl 3 #[.int .i64 k], rs := bq x }) rfl rfl (by simp) (by simp) (by simp) fun a w M wf hr _ => ?_, h⟩
 have hd := cA (x := x) (fun _ h => h) hr
 rw [hx] at hd
 have ex : a.eval x = .int .i64 k := hd
 obtain ⟨h3, h4, h5⟩ := wg wf (.cells #[.int .i64 k] 3)
 refine ⟨.slice (some ⟨w.heap.size, 0, none⟩) 1 1, w.alloc (.cells #[.int .i64 k] 3), ?_, M, h3, h4, ⟨w.heap.size, rfl, h5, gx _ _⟩, by simp⟩
 have hu : Tryz.prog.underlying 23 = some (.slice 3) := by kernel_rfl
 have hz : ∀ w, (zeroValue 3).run Tryz.prog w = .ok (.int .i64 0) w := fun w => lB (by kernel_rfl) w
 have hs : ∀ w, (sizeOf 3).run Tryz.prog w = .ok 1 w := fun w => cJ (P := Tryz.prog) (t := 3) rfl w
 simp [execOp, Instr.buildSlice, run_underlying hu, hs, hz, ex, newRow, newObj, Sem.run, Value.cells, Instr.fill, Sem.new, show Array.range 1 = #[0] from rfl]
end
end Go.Proofs.YtmmcenjknimhbaaGreat
namespace Go.Proofs.YtmmcenjknimhbaaGreat
open Go Go.T
set_option maxHeartbeats 2000000
attribute [local irreducible] eH cZ jR j7 eP eO eK eS eJ j8 eN j4 b8 dc j0 dZ j5 nth eZ cU aV cX bodyPost Exit.then Exit.inBlock Code.wp Code.wpIn dU m7 mo m6 fT mw m0 fV mY eB fO lu bW bV bodyPostM cV
set_option maxRecDepth 100000 in
theorem JT (s : fR) (n : Nat) (hn : n ≤ 1000) (h : s.Ok (n + 1)) : eB Tryz.prog 32 [1000] [(1000, Cont.cells 95 (cN s))] [Ty.ptr 1000 0, Ty.int .i64 (n : Nat)] [(1000, Cont.cells 95 (cN (eV s n).2))] (Ty.sl dN (eV s n).1) := by
 refine jI Tryz.func32 rfl (by decide) Tryz.ntmps32 (by exact Nat.le_of_ble_eq_true rfl) fun w0 M0 => ?_
 have h0 : 0 ≤ s.taken ∧ s.taken + (n + 1) ≤ 4611686018427387904 := h
 refine aF (aA (mP rfl (aD (aC (aF (aA (mP rfl (aD (aC (aF (aF (aA (bF rfl (bF rfl (aD ?_)))))))))))))))
 refine aC (af ?_)
 refine cK (fun (k : {k : Nat // k ≤ n}) => live [(0, Ty.ptr 1000 0), (5, Ty.row dN 3 19 (eV s k.1).1), (7, Ty.int .i64 (n : Nat)), (8, Ty.int .i64 (k.1 : Nat))] [(1000, Cont.cells 95 (cN (eV s k.1).2))]) (fun k => n - k.1) (⟨0, by omega⟩) ?_ fun k => ?_
 ·(refine c8.mk' ?_ ?_ <;> (repeat' (first | exact aI | exact aH | refine aB ?_ (Ty.aR _) | refine aB ?_ (Ty.aG _) | refine aB ?_ Ty.lS | refine aJ rfl (Cont.aG _) ?_)))
 obtain ⟨hs1, _, _, hs4⟩ := uM s k.1
 have hk2 := k.2
 refine aF (aA (ak rfl rfl rfl (aD (aC (aF ?_)))))
 refine aa rfl (fun hc1 => ?_) (fun hc1 => ?_)
 ·refine bA (aC (aF (af (aF (aA (bF rfl (b9 rfl (aD (aC ?_)))))))))
  have hok : (eV s k.1).2.Ok 1 := ⟨by omega, by omega⟩
  have hb := cQ (eV s k.1).2 ((k.1 : Int) + 1)
  refine aA (Ad rfl (tN rfl (bF rfl ?_)))
  refine bz rfl rfl (by omega) (by omega) ?_
  refine eI [(1000, 1000)] [] [(1000, Cont.cells 95 (cN (aO (eV s k.1).2)))] (jB (eV s k.1).2 hok _) rfl rfl (by repeat (first | exact fC | refine dD ?_ ?_ | exact fS List.mem_cons_self | exact cP rfl rfl)) (dj (a := 1000) (b := 1000) (by exact List.mem_cons_self) rfl (bB (by exact List.mem_cons_self) rfl rfl rfl) pre_nil) (cj (a := 1000) (b := 1000) (by exact List.mem_cons_self) rfl (bB (by exact List.mem_cons_self) rfl rfl rfl) post_nil) (cP rfl rfl) ?_
  refine bF rfl (Ii rfl ?_)
  refine Lo 19 (i := (bP (eV s k.1).2 ((k.1 : Int) + 1)).toNat) (k := (k.1 : Nat)) (Ty.aG _) (congrArg (Ty.int .i64) (Int.toNat_of_nonneg hb.1).symm) rfl (by omega) (by omega) (by decide) rfl ?_
  refine Ec rfl (aD (bH (aC (aA ?_))))
  refine bz rfl rfl (by omega) (by omega) ?_
  refine bF rfl (aD ?_)
  refine bO (⟨k.1 + 1, by omega⟩) ?_ (by show n - (k.1 + 1) < n - k.1; omega)
  (refine c8.mk' ?_ ?_ <;> (repeat' (first | exact aI | exact aH | refine aB ?_ (Ty.aR _) | refine aB ?_ (Ty.aG _) | refine aJ rfl (Cont.aG _) ?_)))
  all_goals skip
 refine cF (aL (aL (ah rfl (aC (aF ?_)))))
 obtain ⟨k, hk⟩ := k
 obtain rfl : k = n := by have h1 : ¬ (k : Int) < (n : Int) := hc1; have h2 : k ≤ n := hk; omega
 refine aA (Ad rfl (Ec rfl (aD (aC (av ?_)))))
 refine qN [1000] rfl rfl (by decide) (by repeat (first | exact og | refine kL rfl (bB (by decide) rfl rfl rfl) ?_)) ?_
 all_goals exact Ev (by decide) rfl rfl
 all_goals exact Ev (by decide) rfl rfl
end Go.Proofs.YtmmcenjknimhbaaGreat
namespace Go.Proofs.YtmmcenjknimhbaaGreat
open Go Go.T
set_option maxHeartbeats 2000000
attribute [local irreducible] eH cZ jR j7 eP eO eK eS eJ j8 eN j4 b8 dc j0 dZ j5 nth eZ cU aV cX bodyPost Exit.then Exit.inBlock Code.wp Code.wpIn dU m7 mo m6 fT mw m0 fV mY eB fO lu bW bV bodyPostM cV
set_option maxRecDepth 100000 in
theorem FC (l : List Int) (x : Int) : cX Tryz.prog 143 [Ty.sl dN l, Ty.int .i64 x] (Ty.int .i64 (Ox l x)) := by
 refine aY Tryz.func143 rfl (by decide) Tryz.ntmps143 (by exact Nat.le_of_ble_eq_true rfl) fun w0 M0 => ?_
 refine k9 (s := 0) rfl rfl lM fun hl => ?_
 refine aF (aA (b9 rfl (aD (aC (aF (aF (aA (gy rfl (cC rfl rfl rfl (bF rfl (aD (aC (af ?_)))))))))))))
 refine cK (fun (k : {k : Nat // ∀ y ∈ l.take k, decide (x = y) = false}) => live [(0, Ty.sl dN l), (1, Ty.int .i64 x), (7, Ty.int .i64 l.length), (8, Ty.int .i64 (k.1 : Nat))] []) (fun k => l.length - k.1) (⟨0, by simp⟩) ?_ fun k => ?_
 ·(refine c8.mk' ?_ ?_ <;> (repeat' (first | exact aI | exact aH | refine aB ?_ (Ty.aR _) | refine aB ?_ (Ty.aG _))))
 refine aF (aA (ak rfl rfl rfl (aD (aC (aF ?_)))))
 refine aa rfl (fun hc1 => ?_) (fun hc1 => ?_)
 ·refine bA (aC (aF (af (aF (aA (bF rfl (b9 rfl (aD (aC (aF (aA (bF rfl (gy rfl (bF rfl ?_))))))))))))))
  refine bG rfl rfl rfl rfl rfl rfl (by omega) ?_
  refine aK rfl rfl rfl rfl (ak rfl rfl rfl (aD (aC ?_)))
  refine aa rfl (fun hc2 => ?_) (fun hc2 => ?_)
  ·refine aF (aA (bF rfl (b9 rfl (aD (aC (av (au (aW (aW (au (aW (bK rfl rfl ?_))))))))))))
   all_goals skip
   exact bE rfl rfl (congrArg (Ty.int .i64) (by unfold Ox; rw [lG (k := k.1) (by omega) k.2 (by rw [← cE]; exact decide_eq_true hc2)]))
  refine bA (bH (aC (aA ?_)))
  refine bz rfl rfl (by omega) (by omega) ?_
  refine bF rfl (aD ?_)
  refine bO (⟨k.1 + 1, by rw [bh (by omega)]; intro y hy; rcases List.mem_append.1 hy with h | h; exact k.2 y h; rw [List.mem_singleton.1 h]; exact decide_eq_false hc2⟩) ?_ (by show l.length - (k.1 + 1) < l.length - k.1; omega)
  (refine c8.mk' ?_ ?_ <;> (repeat' (first | exact aI | exact aH | refine aB ?_ (Ty.aR _) | refine aB ?_ (Ty.aG _))))
  all_goals skip
 refine cF (aL (aL (ah rfl (aC (aF (aA (b9 rfl (aD (aC (av (bK rfl rfl ?_)))))))))))
 all_goals skip
 exact bE rfl rfl (congrArg (Ty.int .i64) (by unfold Ox; rw [m9 (by have := k.2; rwa [List.take_of_length_le (by omega)] at this)]))
set_option maxRecDepth 100000 in
theorem qi (l : List Int) (x : Int) : cX Tryz.prog 92 [Ty.sl dN l, Ty.int .i64 x] (Ty.bool (decide (x ∈ l))) := by
 refine aY Tryz.func92 rfl (by decide) Tryz.ntmps92 (by exact Nat.le_of_ble_eq_true rfl) fun w0 M0 => ?_
 refine aF (aA (dG rfl (aD (aC (aF (aA (gy rfl (bF rfl (aq (FC l x) rfl rfl rfl rfl rfl (ak rfl rfl rfl (dG rfl (aD (aC (av (bK rfl rfl ?_)))))))))))))))
 all_goals skip
 exact bE rfl rfl (congrArg Ty.bool (CK l x))
end Go.Proofs.YtmmcenjknimhbaaGreat
namespace Go.Proofs.YtmmcenjknimhbaaGreat
open Go Go.T
set_option maxHeartbeats 2000000
attribute [local irreducible] eH cZ jR j7 eP eO eK eS eJ j8 eN j4 b8 dc j0 dZ j5 nth eZ cU aV cX bodyPost Exit.then Exit.inBlock Code.wp Code.wpIn dU m7 mo m6 fT mw m0 fV mY eB fO lu bW bV bodyPostM cV
set_option maxRecDepth 100000 in
theorem Lq (r : kT) (done : List Int) (t : Int) : cX Tryz.prog 94 [Ty.agg (jf.tys r), Ty.pp [Ty.int .i64 t], Ty.pp [Ty.sl dN done]] (Ty.bool (decide (r.nxt = t) && !decide (r.fst ∈ done))) := by
 refine aY Tryz.func94 rfl (by decide) Tryz.ntmps94 (by exact Nat.le_of_ble_eq_true rfl) fun w0 M0 => ?_
 refine aF (aA (bC rfl (dG rfl (aD (aC (aF (aA ?_)))))))
 refine aP rfl rfl rfl rfl rfl (by decide) ?_
 refine aK rfl rfl rfl rfl (aK rfl rfl rfl rfl (ak rfl rfl rfl (kV rfl ?_)))
 apply aN (s := 9) rfl rfl rfl
 ·intro hg; apply aQ; (refine aK rfl rfl rfl rfl ?_); refine aD ?_; exact rfl
 ·exact rfl
 ·exact rfl
 apply aN (s := 9) rfl rfl rfl
 ·intro hg; apply aQ; (refine aP rfl rfl rfl rfl rfl (by decide) ?_); refine aD ?_; exact rfl
 ·exact rfl
 ·exact rfl
 apply aN (s := 9) rfl rfl rfl
 ·intro hg; apply aM (s := 11) rfl (by (rw [hg]; rfl)); apply aQ; (refine aK rfl rfl rfl rfl ?_); refine aD ?_; exact rfl
 ·exact rfl
 ·exact rfl
 apply aN (s := 9) rfl rfl rfl
 ·intro hg; apply aM (s := 10) rfl (by (rw [hg]; rfl)); apply aM (s := 12) rfl (by (rw [hg]; rfl)); apply aQ; (refine aq (qi _ _) rfl rfl rfl rfl rfl ?_); refine aD ?_; exact rfl
 ·exact rfl
 ·exact rfl
 apply aN (s := 9) rfl rfl rfl
 ·intro hg; apply aM (s := 13) rfl (by (rw [hg]; rfl)); apply aQ; (refine ct rfl ?_); refine aD ?_; exact rfl
 ·exact rfl
 ·exact rfl
 refine gP rfl rfl (dG rfl (aD (aC (av (bK rfl rfl ?_)))))
 all_goals exact bN rfl rfl
set_option maxRecDepth 100000 in
theorem OX (f : bS) (done : List Int) (t : Int) : cX Tryz.prog 39 [iS f, Ty.sl dN done, Ty.int .i64 t] (Ty.bool (q5 f done t)) := by
 refine aY Tryz.func39 rfl (by decide) Tryz.ntmps39 (by exact Nat.le_of_ble_eq_true rfl) fun w0 M0 => ?_
 refine aF (aA (bC rfl ?_))
 refine eY (by exact (rfl : _ = Ty.sl _ _)) rfl ?_
 refine eY (by exact (rfl : _ = Ty.int _ _)) rfl ?_
 refine dG rfl (aD (aC (aF (aA (aK rfl rfl rfl rfl (aK rfl rfl rfl rfl (aq (qi _ _) rfl rfl rfl rfl rfl (ct rfl (kV rfl ?_)))))))))
 apply aN (s := 11) rfl rfl rfl
 ·intro hg; apply aQ; (refine aP rfl rfl rfl rfl rfl (by decide) ?_); refine aD ?_; exact rfl
 ·exact rfl
 ·exact rfl
 apply aN (s := 11) rfl rfl rfl
 ·intro hg; apply aM (s := 12) rfl (by (rw [hg]; rfl)); apply aQ; (refine aK rfl rfl rfl rfl ?_); refine aD ?_; exact rfl
 ·exact rfl
 ·exact rfl
 apply aN (s := 11) rfl rfl rfl
 ·intro hg; apply aQ; (refine cw rfl ?_); refine aD ?_; exact rfl
 ·exact rfl
 ·exact rfl
 apply aN (s := 11) rfl rfl rfl
 ·intro hg; apply aM (s := 13) rfl (by (rw [hg]; rfl)); apply aM (s := 14) rfl (by (rw [hg]; rfl)); apply aQ; (refine aq (nj f.rules (Ty.j9 _ [Ty.pp [Ty.int .i64 t], Ty.pp [Ty.sl dN done]]) rfl (fun r => decide (r.nxt = t) && !decide (r.fst ∈ done)) rfl rfl fun r _ => cY (Lq r done t) rfl rfl rfl rfl rfl rfl) rfl rfl rfl rfl rfl ?_); refine aD ?_; exact rfl
 ·exact rfl
 ·exact rfl
 apply aN (s := 11) rfl rfl rfl
 ·intro hg; apply aM (s := 15) rfl (by (rw [hg]; rfl)); apply aQ; (refine ct rfl ?_); refine aD ?_; exact rfl
 ·exact rfl
 ·exact rfl
 refine gP rfl rfl (dG rfl (aD (aC (av (bK rfl rfl ?_)))))
 all_goals exact bN rfl rfl
set_option maxRecDepth 100000 in
theorem Pk (f : bS) (hp : bk f = 0) (s : fR) (h : s.Ok 100) : eB Tryz.prog 11 [1000] [(1000, Cont.cells 95 (cN s))] [Ty.ptr 1000 0, iS f] [(1000, Cont.cells 95 (cN (cM f s f.turnings.length).2))] (Ty.sl dN (cM f s f.turnings.length).1) := by
 refine jI Tryz.func11 rfl (by decide) Tryz.ntmps11 (by exact Nat.le_of_ble_eq_true rfl) fun w0 M0 => ?_
 have h0 : 0 ≤ s.taken ∧ s.taken + 100 ≤ 4611686018427387904 := h
 have h8 := P9 hp
 refine aF (aA (bC rfl (mP rfl (aD (aC (aF (aA (mP rfl (aD (aC (aF (af ?_))))))))))))
 refine cK (fun (k : {k : Nat // k ≤ f.turnings.length}) => live [(0, Ty.ptr 1000 0), (3, Ty.pp (cv f)), (5, Ty.row dN 3 42 (cM f s k.1).1)] [(1000, Cont.cells 95 (cN (cM f s k.1).2))]) (fun k => f.turnings.length - k.1) (⟨0, by omega⟩) ?_ fun k => ?_
 ·(refine c8.mk' ?_ ?_ <;> (repeat' (first | exact aI | exact aH | refine aB ?_ (Ty.aR _) | refine aB ?_ (Ty.aG _) | refine aB ?_ Ty.lS | refine aJ rfl (Cont.aG _) ?_)))
 have hk := k.2
 obtain ⟨hs1, hs2, ⟨x, hrep⟩, _⟩ := uh hp s k.1 k.2
 refine aF (aF (aA (Ad rfl (ku rfl rfl rfl ?_))))
 refine aP rfl rfl rfl rfl rfl (by decide) ?_
 refine aK rfl rfl rfl rfl (cC rfl rfl rfl (ak rfl rfl rfl (aD (aC ?_))))
 refine aa rfl (fun hc1 => ?_) (fun hc1 => ?_)
 ·refine bA (aC (af (aF (aA (mP rfl (aD (aC (aF (aF (aA ?_))))))))))
  refine aP rfl rfl rfl rfl rfl (by decide) ?_
  refine aK rfl rfl rfl rfl (cC rfl rfl rfl (bF rfl (aD (aC (af ?_)))))
  refine cK (fun (j : {j : Nat // j ≤ f.turnings.length}) => live [(0, Ty.ptr 1000 0), (3, Ty.pp (cv f)), (5, Ty.row dN 3 42 (cM f s k.1).1), (6, Ty.row dN 3 28 (jD f (cM f s k.1).1 j.1)), (16, Ty.int .i64 f.turnings.length), (17, Ty.int .i64 (j.1 : Nat))] [(1000, Cont.cells 95 (cN (cM f s k.1).2))]) (fun j => f.turnings.length - j.1) (⟨0, by omega⟩) ?_ fun j => ?_
  ·(refine c8.mk' ?_ ?_ <;> (repeat' (first | exact aI | exact aH | refine aB ?_ (Ty.aR _) | refine aB ?_ (Ty.aG _) | refine aB ?_ Ty.lS | refine aJ rfl (Cont.aG _) ?_)))
  have hj := j.2
  have hll : (jD f (cM f s k.1).1 j.1).length ≤ j.1 := by have := List.length_filter_le (q5 f (cM f s k.1).1) (tD j.1); rw [Qk] at this; exact this
  refine aF (aA (ak rfl rfl rfl (aD (aC (aF ?_)))))
  refine aa rfl (fun hc2 => ?_) (fun hc2 => ?_)
  ·refine bA (aC (aF (af (aF (aA (bF rfl (b9 rfl (aD (aC (aF (aA ?_)))))))))))
   refine ay rfl rfl rfl (by exact Nat.le_of_ble_eq_true rfl) ?_
   refine Ad rfl (bF rfl ?_)
   refine Q9 [42] (OX f _ _) rfl (by repeat (first | exact jG | refine gT (pS rfl rfl) ?_ | refine gT (OP rfl) ?_)) (by exact JW _) ?_
   refine aD (aC ?_)
   refine c9 rfl (fun hc3 => ?_) (fun hc3 => ?_)
   ·refine aA (Ad rfl (bF rfl ?_))
    refine bT (E := dN) (xs := [_]) rfl rfl rfl rfl rfl (by decide) (by decide) (by repeat (first | exact (aT.nil : aT _ _ [] _) | (show aT _ _ ((_, _) :: _) _; apply aT.one; (· exact (rfl : _ = Ty.int _ _)); (· exact rfl)))) (by exact rfl) rfl ?_
    refine fB rfl rfl (by decide) rfl rfl rfl rfl rfl rfl (by decide) (by (simp <;> omega)) (by (simp <;> omega)) ?_
    refine Ec rfl (aD (bH (aC (aA ?_))))
    refine bz rfl rfl (by omega) (by omega) ?_
    refine bF rfl (aD ?_)
    refine bO (⟨j.1 + 1, by omega⟩) ?_ (by show f.turnings.length - (j.1 + 1) < f.turnings.length - j.1; omega)
    (refine c8.mk' ?_ ?_ <;> (repeat' (first | exact aI | exact aH | refine aB ?_ (Ty.aR _) | refine aB ?_ (Ty.aG _) | refine aJ rfl (Cont.aG _) ?_ | refine aB ?_ ?_)))
    all_goals skip
    all_goals exact Ty.ej (by rw [vH, if_pos hc3])
   refine bA (bH (aC (aA ?_)))
   refine bz rfl rfl (by omega) (by omega) ?_
   refine bF rfl (aD ?_)
   refine bO (⟨j.1 + 1, by omega⟩) ?_ (by show f.turnings.length - (j.1 + 1) < f.turnings.length - j.1; omega)
   (refine c8.mk' ?_ ?_ <;> (repeat' (first | exact aI | exact aH | refine aB ?_ (Ty.aR _) | refine aB ?_ (Ty.aG _) | refine aJ rfl (Cont.aG _) ?_ | refine aB ?_ ?_)))
   all_goals skip
   all_goals exact Ty.ej (by rw [vH, if_neg (Bool.eq_false_iff.1 hc3), List.append_nil])
  refine cF (aL (aL (ah rfl (aC (aF (aF ?_))))))
  have hjn : j.1 = f.turnings.length := by omega
  have hpos := vw hp hrep (by omega)
  refine mq (s := 6) rfl (Ty.ej (congrArg (jD f (cM f s k.1).1) hjn)) ?_
  refine aA (Ad rfl (ku rfl rfl rfl (ak rfl rfl rfl (aD (aC ?_)))))
  refine iP rfl (decide_eq_false (by omega)) ?_
  refine bA (aC ?_)
  have hok : (cM f s k.1).2.Ok 1 := ⟨by omega, by omega⟩
  have hb := cQ (cM f s k.1).2 (jD f (cM f s k.1).1 f.turnings.length).length
  refine aA (Ad rfl (Ad rfl (tN rfl (Ad rfl (ku rfl rfl rfl ?_)))))
  refine eI [(1000, 1000)] [] [(1000, Cont.cells 95 (cN (aO (cM f s k.1).2)))] (jB (cM f s k.1).2 hok _) rfl rfl (by repeat (first | exact fC | refine dD ?_ ?_ | exact fS List.mem_cons_self | exact cP rfl rfl)) (dj (a := 1000) (b := 1000) (by exact List.mem_cons_self) rfl (bB (by exact List.mem_cons_self) rfl rfl rfl) pre_nil) (cj (a := 1000) (b := 1000) (by exact List.mem_cons_self) rfl (bB (by exact List.mem_cons_self) rfl rfl rfl) post_nil) (cP rfl rfl) ?_
  refine E9 rfl rfl rfl rfl rfl rfl (by omega) (by omega) ?_
  refine DY rfl rfl rfl rfl ?_
  refine bT (E := dN) (xs := [_]) rfl rfl rfl rfl rfl (by decide) (by decide) (by repeat (first | exact (aT.nil : aT _ _ [] _) | (show aT _ _ ((_, _) :: _) _; apply aT.one; (· exact (rfl : _ = Ty.int _ _)); (· exact rfl)))) (by exact rfl) rfl ?_
  refine fB rfl rfl (by decide) rfl rfl rfl rfl rfl rfl (by decide) (by (simp <;> omega)) (by (simp <;> omega)) ?_
  refine Ec rfl (aD (bH ?_))
  refine bO (⟨k.1 + 1, by omega⟩) ?_ (by show f.turnings.length - (k.1 + 1) < f.turnings.length - k.1; omega)
  (refine c8.mk' ?_ ?_ <;> (repeat' (first | exact aI | exact aH | refine aB ?_ (Ty.aR _) | refine aB ?_ (Ty.aG _) | refine aJ rfl (Cont.aG _) ?_)))
  all_goals skip
 refine cF (aL (aL (ah rfl (aC (aF ?_)))))
 obtain ⟨k, hk⟩ := k
 obtain rfl : k = f.turnings.length := by have h1 : ¬ ((cM f s k).1.length : Int) < (f.turnings.length : Int) := hc1; have h2 : k ≤ f.turnings.length := hk; have h3 : (cM f s k).1.length = k := hs1; omega
 refine aA (Ad rfl (Ec rfl (aD (aC (av ?_)))))
 refine qN [1000] rfl rfl (by decide) (by repeat (first | exact og | refine kL rfl (bB (by decide) rfl rfl rfl) ?_)) ?_
 all_goals exact Ev (by decide) rfl rfl
 all_goals exact Ev (by decide) rfl rfl
end Go.Proofs.YtmmcenjknimhbaaGreat
namespace Go.Proofs.YtmmcenjknimhbaaGreat
open Go Go.T
set_option maxHeartbeats 2000000
attribute [local irreducible] eH cZ jR j7 eP eO eK eS eJ j8 eN j4 b8 dc j0 dZ j5 nth eZ cU aV cX bodyPost Exit.then Exit.inBlock Code.wp Code.wpIn dU m7 mo m6 fT mw m0 fV mY eB fO lu bW bV bodyPostM cV
end Go.Proofs.YtmmcenjknimhbaaGreat
namespace Go.Proofs.YtmmcenjknimhbaaGreat
open Go Go.T
set_option maxHeartbeats 2000000
attribute [local irreducible] eH cZ jR j7 eP eO eK eS eJ j8 eN j4 b8 dc j0 dZ j5 nth eZ cU aV cX bodyPost Exit.then Exit.inBlock Code.wp Code.wpIn dU m7 mo m6 fT mw m0 fV mY eB fO lu bW bV bodyPostM cV
theorem Fu (n : Nat) (s : fR) (k : Nat) : dr n s (k + 1) = ⟨gH (mkBin n (dr n s k)).shares (mkBin n (dr n s k)).has (dr n s k).bears n, (dr n s k).bins ++ [mkBin n (dr n s k)], (dr n s k).left ++ [(mkBin n (dr n s k)).has], (fP n (aO (dr n s k).sk) 4).2⟩ := rfl
theorem uo (xs : List Int) (s : fR) (k : Nat) : gZ xs s (k + 1) = (if qI (aO (gZ xs s k).2) 9 then sj (nW (gZ xs s k).1 (gZ xs s k).2 k) k else nW (gZ xs s k).1 (gZ xs s k).2 k, aO (aO (gZ xs s k).2)) := rfl
theorem G9 (m : Nat) (l : List Int) (s : fR) (k : Nat) : dg m l s (k + 1) = ⟨leftOf (dg m l s k).left (eU m (dg m l s k)) (fI m (dg m l s k)), (dg m l s k).trn ++ [Hh m (dg m l s k)], aO (aO (aO (dg m l s k).sk))⟩ := rfl
theorem B7 (o : List Int) (T : Nat) (s : fR) (k : Nat) : (dS o T s (k + 1)).2 = aO (aO (dS o T s k).2) := rfl
theorem Fb (o : List Int) (T : Nat) (s : fR) (k : Nat) (h : bP (dS o T s k).2 T < bP (aO (dS o T s k).2) T) : (dS o T s (k + 1)).1 = (dS o T s k).1 ++ [⟨nth o (bP (dS o T s k).2 T).toNat, nth o (bP (aO (dS o T s k).2) T).toNat⟩] := if_pos h
theorem I7 (o : List Int) (T : Nat) (s : fR) (k : Nat) (h : ¬ bP (dS o T s k).2 T < bP (aO (dS o T s k).2) T) : (dS o T s (k + 1)).1 = (dS o T s k).1 := if_neg h
attribute [local irreducible] aO bP dH qI gH fP mkBin
theorem sO (d : gE) : d.bn 0 = ⟨List.replicate d.n 0, [], [], aO (aO d.s)⟩ := by unfold gE.bn dr; rfl
theorem sW (d : gE) (k : Nat) : d.bn (k + 1) = ⟨gH (mkBin d.n (d.bn k)).shares (mkBin d.n (d.bn k)).has (d.bn k).bears d.n, (d.bn k).bins ++ [mkBin d.n (d.bn k)], (d.bn k).left ++ [(mkBin d.n (d.bn k)).has], (fP d.n (aO (d.bn k).sk) 4).2⟩ := by unfold gE.bn; exact Fu _ _ _
theorem zP (n : Nat) (s : fR) : fP n s 0 = (List.replicate n 0, s) := by unfold fP; rfl
theorem zJ (n : Nat) (s : fR) (k : Nat) : fP n s (k + 1) = ((fP n s k).1.set (bP (fP n s k).2 n).toNat (nth (fP n s k).1 (bP (fP n s k).2 n).toNat + 1), aO (fP n s k).2) := by rw [fP]
theorem MT (sh : List Int) (has : Int) (b : List Int) : gH sh has b 0 = b := by rw [gH]
theorem Ly (sh : List Int) (has : Int) (b : List Int) (k : Nat) : gH sh has b (k + 1) = (gH sh has b k).set k (nth (gH sh has b k) k + nth sh k * has) := by rw [gH]
theorem wS (d : gE) : d.up 0 = ((d.bn d.m).bears, (d.bn d.m).sk) := by unfold gE.up gZ; rfl
theorem Dc (d : gE) (k : Nat) : (d.up (k + 1)).2 = aO (aO (d.up k).2) := by unfold gE.up; rw [uo]
theorem TO (d : gE) (k : Nat) (h : qI (aO (d.up k).2) 9 = true) : (d.up (k + 1)).1 = sj (nW (d.up k).1 (d.up k).2 k) k := by unfold gE.up at *; rw [uo]; exact if_pos h
theorem UK (d : gE) (k : Nat) (h : qI (aO (d.up k).2) 9 = false) : (d.up (k + 1)).1 = nW (d.up k).1 (d.up k).2 k := by unfold gE.up at *; rw [uo]; exact if_neg (Bool.eq_false_iff.1 h)
theorem vN (d : gE) : d.tk 0 = ⟨(d.bn d.m).left, [], aO (d.up d.n).2⟩ := by unfold gE.tk dg; rfl
theorem vi (d : gE) (k : Nat) : d.tk (k + 1) = ⟨leftOf (d.tk k).left (eU d.m (d.tk k)) (fI d.m (d.tk k)), (d.tk k).trn ++ [Hh d.m (d.tk k)], aO (aO (aO (d.tk k).sk))⟩ := by unfold gE.tk; rw [G9]
theorem zQ (d : gE) : d.ru 0 = ([], aO d.order.2) := by unfold gE.ru dS; rfl
theorem DP (d : gE) (k : Nat) : (d.ru (k + 1)).2 = aO (aO (d.ru k).2) := by unfold gE.ru; rw [B7]
theorem SJ (d : gE) (k : Nat) (h : bP (d.ru k).2 d.T < bP (aO (d.ru k).2) d.T) : (d.ru (k + 1)).1 = (d.ru k).1 ++ [⟨nth d.order.1 (bP (d.ru k).2 d.T).toNat, nth d.order.1 (bP (aO (d.ru k).2) d.T).toNat⟩] := by unfold gE.ru at *; exact Fb _ _ _ _ h
theorem T0 (d : gE) (k : Nat) (h : ¬ bP (d.ru k).2 d.T < bP (aO (d.ru k).2) d.T) : (d.ru (k + 1)).1 = (d.ru k).1 := by unfold gE.ru at *; exact I7 _ _ _ _ h
theorem MI (n : Nat) (p : Mk) : (mkBin n p).has = bP p.sk 60 := by unfold mkBin; rfl
theorem Ej (n : Nat) (p : Mk) : (mkBin n p).shares = (fP n (aO p.sk) 4).1 := by unfold mkBin; rfl
theorem G2 {a b : Int} (h : (!decide (a = b)) = true) : a ≠ b := by simpa using h
theorem SU (s : fR) (n m : Nat) (e : m = n) (hn : n ≤ 1000) (h : s.Ok (n + 1)) : eB Tryz.prog 32 [1000] [(1000, Cont.cells 95 (cN s))] [Ty.ptr 1000 0, Ty.int .i64 (m : Nat)] [(1000, Cont.cells 95 (cN (eV s n).2))] (Ty.sl dN (eV s n).1) := by
 subst e; exact JT s m hn h
theorem jv {α : Type} {E : El α} {T tg : Nat} {xs : List α} (e : [] = xs) : (Ty.ex (.slice none 0 0)).Sub (Ty.row E T tg xs) := by subst e; exact Ty.lS
theorem Um {n : Nat} (hn : 1 ≤ n) (s : fR) (k : Nat) {j : Nat} (hj : j < n) : 0 ≤ nth (fP n s k).1 j ∧ nth (fP n s k).1 j ≤ k := by
 obtain ⟨h1, h2, h3, _⟩ := vf hn s k
 have h5 : ∀ x ∈ (fP n s k).1, 0 ≤ x := p6 fun j hj => h3 j (by omega)
 have h6 := (ux h5).2 _ (bL (show j < (fP n s k).1.length by omega))
 rw [h2] at h6
 exact ⟨h3 j hj, h6⟩
theorem tC {n : Int} (h : -9223372036854775808 ≤ n ∧ n ≤ 9223372036854775807) : IntKind.i64.wrap n = n := IntWalk.i64_in _ (by omega)
theorem S0 {n : Nat} (hn : 1 ≤ n) (s : fR) {k : Nat} (hk : k ≤ 4) : (fP n s k).1.set (bP (fP n s k).2 n).toNat (IntKind.i64.wrap (nth (fP n s k).1 (bP (fP n s k).2 n).toNat + 1)) = (fP n s (k + 1)).1 := by
 have hb := BN (s := (fP n s k).2) hn
 have := Um hn s k (show (bP (fP n s k).2 n).toNat < n by omega)
 rw [zJ, tC (by omega)]
theorem Py {n k i : Nat} {s : fR} {p : Mk} (hp : SE n k s p) (hk : k ≤ 5) (hi : i < n) {b : p9} (hb : N7 n b) : (gH b.shares b.has p.bears i).set i (IntKind.i64.wrap (nth (gH b.shares b.has p.bears i) i + IntKind.i64.wrap (nth b.shares i * b.has))) = gH b.shares b.has p.bears (i + 1) := by
 have h1 := hp.bearsR i hi
 have h2 := hb.rng i hi
 have h3 := hb.has
 have h4 : 0 ≤ nth b.shares i * b.has := Int.mul_nonneg h2.1 h3.1
 have h5 : nth b.shares i * b.has ≤ 4 * 59 := Int.mul_le_mul h2.2 h3.2 h3.1 (by omega)
 have h6 := (sX b.shares b.has p.bears i).2 i (by rw [hp.bears]; exact hi)
 rw [if_neg (by omega)] at h6
 rw [Ly, tC (n := nth b.shares i * b.has) (by omega), tC (by omega)]
theorem C4 {d : gE} {i : Nat} (hi : i < d.n) : 0 ≤ nth (d.up i).1 i ∧ nth (d.up i).1 i ≤ 2000 ∧ (d.up i).1.length = d.n := by
 obtain ⟨h1, h2, _⟩ := d.PE i
 have h3 := (d.FZ d.m).bearsR i hi
 have h4 := h2 i hi
 have h5 := d.E5
 rw [if_neg (by omega)] at h4
 omega
theorem PK {d : gE} {i : Nat} (hi : i < d.n) : (d.up i).1.set i (IntKind.i64.wrap (nth (d.up i).1 i + bP (d.up i).2 90)) = nW (d.up i).1 (d.up i).2 i := by
 have h := C4 hi
 have hb := cQ (d.up i).2 90
 rw [tC (by omega)]; rfl
theorem QZ {d : gE} {i : Nat} (hi : i < d.n) : ((d.up i).1.set i (IntKind.i64.wrap (nth (d.up i).1 i + bP (d.up i).2 90))).set i (max 0 (IntKind.i64.wrap (nth ((d.up i).1.set i (IntKind.i64.wrap (nth (d.up i).1 i + bP (d.up i).2 90))) i - 60))) = sj (nW (d.up i).1 (d.up i).2 i) i := by
 have h := C4 hi
 have hb := cQ (d.up i).2 90
 rw [PK hi]
 have e : nth (nW (d.up i).1 (d.up i).2 i) i = nth (d.up i).1 i + bP (d.up i).2 90 := by
  unfold nW; rw [gN, if_pos ⟨rfl, by omega⟩]
 rw [tC (by rw [e]; omega)]; rfl
section
variable {m L : Nat} (e : L = m) (p : Tk)
include e
theorem Qw (h : (!decide (dH p.sk (-1) ((L : Int) - 1) = -1) && decide (nth p.left (dH p.sk (-1) ((L : Int) - 1)).toNat = 0)) = true) : -1 = eU m p := by
 subst e; unfold eU J4; rw [if_pos (by simpa using h)]
theorem Ss (h : (!decide (dH p.sk (-1) ((L : Int) - 1) = -1) && decide (nth p.left (dH p.sk (-1) ((L : Int) - 1)).toNat = 0)) = false) : dH p.sk (-1) ((L : Int) - 1) = eU m p := by
 subst e; unfold eU J4; rw [if_neg (by intro hx; simp [hx.1, hx.2] at h)]
theorem Qy (h : eU m p = dH (aO p.sk) (-1) ((L : Int) - 1)) : BC (eU m p + 1) L = rK m p := by
 subst e; unfold rK nL; rw [if_pos h]
theorem Sz (h : ¬ eU m p = dH (aO p.sk) (-1) ((L : Int) - 1)) : dH (aO p.sk) (-1) ((L : Int) - 1) = rK m p := by
 subst e; unfold rK nL; rw [if_neg h]
end
section
variable {m : Nat} {p : Tk}
theorem Ds (h : ¬ eU m p = -1) : min (dH (aO (aO p.sk)) 1 20) (nth p.left (eU m p).toNat) = fI m p := by
 unfold fI wP; rw [if_pos h]
theorem P4 (h : eU m p = -1) : dH (aO (aO p.sk)) 1 20 = fI m p := by
 unfold fI wP; rw [if_neg (fun x => x h)]
theorem QA (h : eU m p = -1) : p.left = leftOf p.left (eU m p) (fI m p) := by
 unfold leftOf; rw [if_neg (fun x => x h)]
theorem Nf (h : ¬ eU m p = -1) (hb : 0 ≤ nth p.left (eU m p).toNat ∧ nth p.left (eU m p).toNat ≤ 1000) : p.left.set (eU m p).toNat (IntKind.i64.wrap (nth p.left (eU m p).toNat - min (dH (aO (aO p.sk)) 1 20) (nth p.left (eU m p).toNat))) = leftOf p.left (eU m p) (fI m p) := by
 have ha := n6 (s := aO (aO p.sk)) (show (1 : Int) ≤ 20 by omega)
 have hs := Ds h
 rw [tC (by omega), hs]
 unfold leftOf; rw [if_pos h]
end
theorem JI {d : gE} {k j : Nat} (hj : j < d.m) : 0 ≤ nth (d.tk k).left j ∧ nth (d.tk k).left j ≤ 1000 := by
 have h := d.Of k
 have h1 := h.pos j hj
 have h2 := h.took j hj
 have h3 := d.pO.2 j hj
 have h4 : 0 ≤ rj (d.tk k).trn j := by
  unfold rj
  refine (ux fun x hx => ?_).1
  obtain ⟨t, ht, rfl⟩ := List.mem_map.1 hx
  have := (h.trnOk t ht).sacks
  split <;> omega
 omega
theorem Ut {d : gE} {k : Nat} (h : bP (d.ru k).2 (d.order.1.length : Nat) < bP (aO (d.ru k).2) (d.order.1.length : Nat)) : (d.ru k).1 ++ [⟨nth d.order.1 (bP (d.ru k).2 (d.order.1.length : Nat)).toNat, nth d.order.1 (bP (aO (d.ru k).2) (d.order.1.length : Nat)).toNat⟩] = (d.ru (k + 1)).1 := by
 have e := d.lX.1
 rw [e] at h ⊢
 exact (SJ d k h).symm
theorem SG {d : gE} {k : Nat} (h : ¬ bP (d.ru k).2 (d.order.1.length : Nat) < bP (aO (d.ru k).2) (d.order.1.length : Nat)) : (d.ru k).1 = (d.ru (k + 1)).1 := by
 have e := d.lX.1
 rw [e] at h
 exact (T0 d k h).symm
attribute [local irreducible] gE.bn gE.up gE.tk gE.ru eV
end Go.Proofs.YtmmcenjknimhbaaGreat
namespace Go.T
open Go Go.RowKit
section
variable {P : Program} {fr : Fr} {ops : Array Oper} {A : As} {rest : List Oper} {K : As → List (As × Fx) → Prop} {d : Nat} {t ty' : TypeId} {p : String} {e : Array Edge} [T : lV P]
theorem GJ {w : World} {st el b n c lo hi : Nat} {ti te : TI} {ol oh om : Option Value} (hT : T.tab[st]? = some ti) (hk : ti.k = .slice el) (hE : T.tab[el]? = some te)
 (hlo : (ol = none ∧ lo = 0) ∨ ∃ k : IntKind, ol = some (.int k lo)) (hhi : (oh = none ∧ hi = n) ∨ ∃ k : IntKind, oh = some (.int k hi)) (hm : om = none) (h1 : lo ≤ hi) (h2 : hi ≤ c) :
 (Instr.sliceAt st (.slice (some ⟨b, 0, none⟩) n c) ol oh om).run P w = .ok (.slice (if c = lo then some ⟨b, 0, none⟩ else some ⟨b, lo * te.size, none⟩) (hi - lo) (c - lo)) w := by
 subst hm
 obtain ⟨_, D, _, hD, hkd, _⟩ := dM hT
 rw [hk] at hkd
 cases D <;> simp only [TK.of, reduceCtorEq, TK.slice.injEq] at hkd
 subst hkd
 have hsz := fun w => cJ (P := P) hE w
 rcases hlo with ⟨rfl, rfl⟩ | ⟨k, rfl⟩ <;> rcases hhi with ⟨rfl, rfl⟩ | ⟨k', rfl⟩ <;>
  simp [Instr.sliceAt, Instr.slice, run_underlying hD, Instr.sliceBounds, Instr.sliceBound, asIntOf, hsz, h2, h1, Addr.add_lit]
theorem Ra {x y : Operand} {k : IntKind} {el tg n lo : Nat} {ti te : TI} (hx : A.op fr x = .vs tg n) (hy : A.op fr y = .int k lo) (hT : T.tab[ty']? = some ti) (hk : ti.k = .slice el) (hE : T.tab[el]? = some te) (h2 : lo < n)
 (h : aV P fr ops rest (A.set d (.win tg (lo * te.size) (n - lo) 0)) fun A' l' => K A' ((A, { d := some d, ty := .win tg (lo * te.size) (n - lo) 0, rs := bq x ++ bq y }) :: l')) : aV P fr ops (⟨some d, .slice ty' x (some y) none none, t, p, e, none⟩ :: rest) A K :=
 bD (bQ rfl rfl fun a w M _ hr _ => by
  obtain ⟨hdx, hdy⟩ := op2 hr
  rw [hx] at hdx; rw [hy] at hdy
  have ey : a.eval y = .int k lo := hdy
  rcases hdx with ⟨h0, _⟩ | ⟨b, c, hb, ex, g1, g2⟩
  ·omega
  have h3 := GJ (P := P) (w := w) (b := b) (n := n) (c := c) hT hk hE (lo := lo) (hi := n) (ol := some (.int k lo)) (oh := none) (om := none) (.inr ⟨k, rfl⟩) (.inl ⟨rfl, rfl⟩) rfl (by omega) (by omega)
  rw [if_neg (by omega)] at h3
  exact ⟨_, by simp only [execOp, ey, ex, Option.map_none, Option.map_some, Sem.run_bind, h3, Result.andThen_ok]; rfl, ⟨b, lo * te.size, c - lo, hb, rfl, by omega, by omega, fun _ => rfl⟩⟩) h
theorem RY {x y : Operand} {k : IntKind} {el tg n hi : Nat} {ti te : TI} (hx : A.op fr x = .vs tg n) (hy : A.op fr y = .int k hi) (hT : T.tab[ty']? = some ti) (hk : ti.k = .slice el) (hE : T.tab[el]? = some te) (h2 : hi ≤ n) (h0 : 0 < n)
 (h : aV P fr ops rest (A.set d (.vs tg hi)) fun A' l' => K A' ((A, { d := some d, ty := .vs tg hi, rs := bq x ++ bq y }) :: l')) : aV P fr ops (⟨some d, .slice ty' x none (some y) none, t, p, e, none⟩ :: rest) A K :=
 bD (bQ rfl rfl fun a w M _ hr _ => by
  obtain ⟨hdx, hdy⟩ := op2 hr
  rw [hx] at hdx; rw [hy] at hdy
  have ey : a.eval y = .int k hi := hdy
  rcases hdx with ⟨h1, _⟩ | ⟨b, c, hb, ex, g1, g2⟩
  ·omega
  have h3 := GJ (P := P) (w := w) (b := b) (n := n) (c := c) hT hk hE (lo := 0) (hi := hi) (ol := none) (oh := some (.int k hi)) (om := none) (.inl ⟨rfl, rfl⟩) (.inr ⟨k, rfl⟩) rfl (Nat.zero_le _) (by omega)
  rw [if_neg (by omega), Nat.zero_mul] at h3
  exact ⟨_, by simp only [execOp, ey, ex, Option.map_none, Option.map_some, Sem.run_bind, h3, Result.andThen_ok]; rfl, .inr ⟨b, c - 0, hb, rfl, by omega, by omega⟩⟩) h
theorem EM {α : Type} {E : El α} {x : Operand} {st el tg m o Tb k : Nat} {ti te : TI} {xs : List α} (hx : A.op fr x = .win tg o m 0) (ho' : o = k * E.size) (hm : 0 < m) (hc : A.tag tg = some (.vec E Tb xs)) (h2 : k + m ≤ xs.length) (h1 : ga tg) (hT : T.tab[st]? = some ti) (hk : ti.k = .slice el) (hE : T.tab[el]? = some te) (hs : te.size = E.size) (hz : te.zero.length = te.size) (h0 : 0 < te.size) (ho : te.zero.all (fun v => v.oneCell') = true)
 (h : aV P fr ops rest (A.after { d := none, S := [tg], sets := [(tg, .vec E Tb (xs.take k))], rs := bq x, rt := [tg] }) fun A' l' => K A' ((A, { d := none, S := [tg], sets := [(tg, .vec E Tb (xs.take k))], rs := bq x, rt := [tg] }) :: l')) :
 aV P fr ops (⟨none, .call ⟨.builtin .clear, #[x], #[st]⟩, t, p, e, none⟩ :: rest) A K := by
 refine ⟨_, iD rfl rfl (by simp) (by simpa using h1.1) (by simp) fun a w M wf hr ht => ?_, h⟩
 have hdx := cA (x := x) (fun _ h => h) hr
 rw [hx] at hdx
 obtain ⟨b, o1, c, hb, ex, g1, g2, g3⟩ := hdx
 obtain ⟨u, rfl⟩ : ∃ u, tg = u + 1 := ⟨tg - 1, by omega⟩
 rcases qF hc w M ht with rfl | ⟨b', cs, hb', hh, hd⟩
 ·simp at h2; omega
 have e3 := wf.inj b b' u (by omega) hb hb'
 subst e3
 obtain rfl := g3 (by omega)
 obtain ⟨_, D, _, hD, hkd, _⟩ := dM hT
 rw [hk] at hkd
 cases D <;> simp only [TK.of, reduceCtorEq, TK.slice.injEq] at hkd
 subst hkd
 rename_i el
 obtain ⟨z, hz1, hz2⟩ := pR hE (by intro hn; rw [hn] at hz; simp at hz; omega) w
 have hzs : z.cells.size = te.size := by rw [← hz, ← hz2]; simp
 have hlen : (Builtin.zeroCells z.cells m).toList.length = m * te.size := by simp [Builtin.zeroCells, hzs]
 have hone : ∀ v ∈ (Builtin.zeroCells z.cells m).toList, v.oneCell' = true := by
  intro v hv
  simp only [Builtin.zeroCells, Array.toList_map, List.mem_map] at hv
  obtain ⟨i, _, rfl⟩ := hv
  have hm : i % z.cells.size < z.cells.size := Nat.mod_lt _ (by omega)
  rw [getElem!_pos z.cells _ hm]
  exact List.all_eq_true.1 ho _ (by rw [← hz2]; exact Array.getElem_mem_toList _)
 have hL := cI hd
 have h2' : cs.toList.length = cs.size := Array.length_toList
 have hcs : xs.length * E.size ≤ cs.size := by
  rw [List.length_take, c6, h2'] at hL; omega
 have hfit : (k + m) * E.size ≤ xs.length * E.size := Nat.mul_le_mul_right _ h2
 rw [Nat.add_mul] at hfit
 have hst := run_storeCells_at (P := P) b o1 Tb (Builtin.zeroCells z.cells m).toList 0 cs w hh (by rw [hlen, hs]; omega) hone
 rw [uj _ hh] at hst
 obtain ⟨w1, w2, w3⟩ := jZ (cs' := (cs.toList.take (o1 + 0) ++ (Builtin.zeroCells z.cells m).toList ++ cs.toList.drop (o1 + 0 + (Builtin.zeroCells z.cells m).toList.length)).toArray) (Tb := Tb) wf hb _ rfl
 obtain ⟨m', rfl⟩ : ∃ m', m = m' + 1 := ⟨m - 1, by omega⟩
 have hrun : (Builtin.clear_ #[st] t #[a.eval x]).run P w = .ok (.tuple #[]) { w with heap := w.heap.setIfInBounds b (.cells (cs.toList.take (o1 + 0) ++ (Builtin.zeroCells z.cells (m' + 1)).toList ++ cs.toList.drop (o1 + 0 + (Builtin.zeroCells z.cells (m' + 1)).toList.length)).toArray Tb (0, 0)) } := by
  rw [ex]
  simp only [Builtin.clear_]
  simp [run_underlying hD, hz1]
  simp at hst
  rw [hst]
  simp
 refine ⟨.tuple #[], _, by simp [execOp, resolve, invoke, builtin, hrun], M, w1, w2, trivial, fun x hx => ?_⟩
 rw [List.mem_singleton.1 hx]
 refine .inr ⟨b, _, hb, w3, bY w2 (by rw [E.cT]; intro _ h; cases h) (by rw [E.cL]; intro _ h; cases h) ?_⟩
 have hfl : ((xs.take k).flatMap E.tys).length = o1 := by rw [c6, List.length_take, Nat.min_eq_left (by omega), ho']
 have e : xs.flatMap E.tys = (xs.take k).flatMap E.tys ++ (xs.drop k).flatMap E.tys := by rw [← List.flatMap_append, List.take_append_drop]
 have h4 := IC ((xs.take k).flatMap E.tys).length hd
 rw [List.take_take, e, List.take_append_of_le_length (Nat.le_refl _), List.take_length, List.length_append, Nat.min_eq_left (Nat.le_add_right _ _), hfl] at h4
 rw [hfl]
 show cD w M _ (List.take o1 (cs.toList.take o1 ++ (Builtin.zeroCells z.cells (m' + 1)).toList ++ cs.toList.drop _))
 rw [List.append_assoc, List.take_append_of_le_length (by rw [List.length_take, h2']; omega), List.take_take, Nat.min_self]
 exact h4
end
end Go.T
namespace Go.T
open Go Go.RowKit
section
variable {P : Program} {fr : Fr} {A : As} {c : Code} {Q : Exit → Act → World → Prop}
end
section
variable {P : Program} {fr : Fr} {ops : Array Oper} {A : As} {rest : List Oper} {K : As → List (As × Fx) → Prop} {d : Nat} {t ty' : TypeId} {p : String} {e : Array Edge} [T : lV P]
variable {α : Type} {E : El α} {Tb J tg i : Nat} {q : List (List α)} {xs : List α}
end
end Go.T
namespace Go.Proofs.YtmmcenjknimhbaaGreat
open Go Go.T
set_option maxHeartbeats 16000000
def HY (t : Nat) (f : bS) : List Ty := [Ty.sl dN f.bears, Ty.sl jX f.bins, Ty.vs t f.turnings.length, Ty.sl jf f.rules]
theorem Q3 {α : Type} {E : El α} {T tg n : Nat} {xs : List α} (h : xs.length = n) : (Ty.row E T tg xs).Sub (Ty.vs tg n) := Ty.TT h
def kE (t : mQ) : Bool := decide (max t.src t.dst ≥ 4)
theorem rY (t : mQ) : kE t = !jk t := by
 unfold kE jk
 by_cases h : max t.src t.dst < 4
 ·rw [decide_eq_true h, decide_eq_false (by omega)]; rfl
 rw [decide_eq_false h, decide_eq_true (by omega)]; rfl
theorem Qz {l : List mQ} (h : fidx kE l = -1) : l.filter jk = l := by
  rw [List.filter_eq_self]
  intro t ht
  cases e : jk t with
  | true => rfl
  | false =>
    have hh : kE t = true := by rw [rY, e]; rfl
    obtain ⟨k, hk, rfl⟩ := E4 ht
    have := (qJ kE l).symm
    rw [h] at this
    have ha : l.any kE = true := List.any_eq_true.2 ⟨_, bL hk, hh⟩
    rw [ha] at this; cases this
theorem P1 {l : List mQ} (h : ¬ fidx kE l = -1) : ∃ i : Nat, fidx kE l = i ∧ i < l.length ∧ (∀ t ∈ l.take i, kE t = false) ∧ kE (nth l i) = true := by
  unfold fidx at h ⊢
  cases e : l.findIdx? kE with
  | none => rw [e] at h; exact absurd rfl h
  | some i =>
    rw [List.findIdx?_eq_some_iff_getElem] at e
    obtain ⟨hi, h1, h2⟩ := e
    refine ⟨i, rfl, hi, fun t ht => ?_, by rw [cE hi]; exact h1⟩
    rw [List.mem_take_iff_getElem] at ht
    obtain ⟨j, hj, rfl⟩ := ht
    have := h2 j (by omega)
    simpa using this
def q8 (x : Nat × Nat × List mQ) : Nat × Nat × List mQ := if kE (nth x.2.2 x.2.1) = true then (x.1, x.2.1 + 1, x.2.2) else (x.1 + 1, x.2.1 + 1, x.2.2.set x.1 (nth x.2.2 x.2.1))
structure HF (l : List mQ) (x : Nat × Nat × List mQ) : Prop where
  lt : x.1 < x.2.1
  le : x.2.1 ≤ l.length
  len : x.2.2.length = l.length
  done : x.2.2.take x.1 = (l.take x.2.1).filter jk
  rest : ∀ j, x.2.1 ≤ j → j < l.length → nth x.2.2 j = nth l j
theorem LC {l : List mQ} {i : Nat} (hi : i < l.length) (h1 : ∀ t ∈ l.take i, kE t = false) (h2 : kE (nth l i) = true) : HF l (i, i + 1, l) := by
 refine ⟨Nat.lt_succ_self i, hi, rfl, ?_, fun j _ _ => rfl⟩
 show l.take i = (l.take (i + 1)).filter jk
 rw [bh hi, List.filter_append, List.filter_eq_self.2 fun t ht => by
  have := h1 t ht
  rw [rY] at this
  simpa using this]
 have : jk (nth l i) = false := by rw [rY] at h2; simpa using h2
 rw [List.filter_cons, this]; simp
theorem HF.step {l : List mQ} {x : Nat × Nat × List mQ} (h : HF l x) (hj : x.2.1 < l.length) : HF l (q8 x) := by
 have hr := h.rest _ (Nat.le_refl _) hj
 have hlt := h.lt
 unfold q8
 by_cases c : kE (nth x.2.2 x.2.1) = true
 ·rw [if_pos c]
  refine ⟨by show x.1 < x.2.1 + 1; omega, hj, h.len, ?_, fun j hj' hl => h.rest j (by have : x.2.1 + 1 ≤ j := hj'; omega) hl⟩
  show x.2.2.take x.1 = (l.take (x.2.1 + 1)).filter jk
  rw [bh hj, List.filter_append, ← h.done]
  have : jk (nth l x.2.1) = false := by rw [← hr]; rw [rY] at c; simpa using c
  rw [List.filter_cons, this]; simp
 rw [if_neg c]
 refine ⟨by show x.1 + 1 < x.2.1 + 1; omega, hj, by show (x.2.2.set _ _).length = _; rw [List.length_set]; exact h.len, ?_, fun j hj' hl => ?_⟩
 ·show (x.2.2.set x.1 _).take (x.1 + 1) = (l.take (x.2.1 + 1)).filter jk
  rw [bh (xs := x.2.2.set x.1 (nth x.2.2 x.2.1)) (by rw [List.length_set, h.len]; omega), bh hj, List.filter_append, ← h.done, List.take_set_of_le (Nat.le_refl _)]
  have hl' : jk (nth l x.2.1) = true := by rw [← hr]; rw [rY] at c; simpa using c
  have e : nth (x.2.2.set x.1 (nth x.2.2 x.2.1)) x.1 = nth l x.2.1 := by
   rw [cE (by rw [List.length_set, h.len]; omega), List.getElem_set_self, hr]
  rw [e, List.filter_cons, hl']; simp
 have hj'' : x.2.1 + 1 ≤ j := hj'
 show nth (x.2.2.set x.1 _) j = _
 rw [cE (by rw [List.length_set, h.len]; exact hl), List.getElem_set_ne (by omega), ← cE (by rw [h.len]; exact hl)]
 exact h.rest j (by omega) hl
theorem Cr {x : Nat × Nat × List mQ} (h : kE (nth x.2.2 x.2.1) = true) : q8 x = (x.1, x.2.1 + 1, x.2.2) := if_pos h
theorem Fc {x : Nat × Nat × List mQ} (h : kE (nth x.2.2 x.2.1) = false) : q8 x = (x.1 + 1, x.2.1 + 1, x.2.2.set x.1 (nth x.2.2 x.2.1)) := if_neg (by rw [h]; decide)
theorem GV {x : Nat × Nat × List mQ} : (q8 x).2.1 = x.2.1 + 1 := by unfold q8; split <;> rfl
def tQ (g : List Int) : gE := ⟨jc g, 8⟩
theorem OB (g : List Int) : bk (tQ g).CQ = 0 ∧ 2 ≤ (tQ g).CQ.bins.length ∧ (tQ g).CQ.bins.length ≤ 5 := by
 have h := (tQ g).FZ (tQ g).m
 have h1 := (tQ g).E5
 have e : (tQ g).CQ.bins.length = (tQ g).m := h.bins
 exact ⟨gE.right _ (Nat.le_refl 8), by omega, by omega⟩
theorem F8 (g : List Int) : (jc g).Ok 100 := by have h := Hu g; unfold fR.Ok at *; omega
theorem EU {f : bS} (h : bk f = 0) : f.turnings.length ≤ 8 := P9 h
attribute [local irreducible] q8 gE.bn gE.up gE.tk gE.ru eV aO bP dH qI gH fP mkBin
attribute [local irreducible] eH cZ jR j7 eP eO eK eS eJ j8 eN j4 b8 dc j0 dZ j5 nth eZ cU aV cX bodyPost Exit.then Exit.inBlock Code.wp Code.wpIn dU m7 mo m6 fT mw m0 fV mY eB fO lu bW bV bodyPostM cV
attribute [local irreducible] UL
set_option maxRecDepth 100000 in
theorem OK (t : mQ) : cX Tryz.prog 9 [Ty.agg (gL.tys t)] (Ty.bool (kE t)) := by
 refine aY Tryz.func9 rfl (by decide) Tryz.ntmps9 (by exact Nat.le_of_ble_eq_true rfl) fun w0 M0 => ?_
 refine aF (aA (bC rfl (dG rfl (aD (aC (aF (aA ?_)))))))
 refine aP rfl rfl rfl rfl rfl (by decide) ?_
 refine aK rfl rfl rfl rfl ?_
 refine aP rfl rfl rfl rfl rfl (by decide) ?_
 refine aK rfl rfl rfl rfl (Ff rfl rfl (ak rfl rfl rfl (dG rfl (aD (aC (av (bK rfl rfl ?_)))))))
 all_goals exact bN rfl rfl
 all_goals trace_state
set_option maxRecDepth 100000 in
theorem Sf (l : List mQ) (hl : l.length ≤ 100) : eB Tryz.prog 8 [1000] [(1000, Cont.vec gL 34 l)] [Ty.vs 1000 l.length, Ty.j9 9 []] [(1000, Cont.vec gL 34 (l.filter jk))] (Ty.vs 1000 (l.filter jk).length) := by
 refine jI Tryz.func8 rfl (by decide) Tryz.ntmps8 (by exact Nat.le_of_ble_eq_true rfl) fun w0 M0 => ?_
 refine aF (aA (mP rfl (aD (aC (aF (aA (FR rfl (U2 rfl ?_))))))))
 refine PI [1000] (qo l (Ty.j9 9 []) rfl kE rfl rfl fun x _ => cY (OK x) rfl rfl rfl rfl rfl rfl) rfl (by repeat (first | exact IB | refine yX (NZ (pS rfl rfl)) ?_ | refine yX (PL rfl (by exact rfl) (by decide) rfl) ?_)) (by exact Mf _ _) ?_
 refine b9 rfl (aD (aC (aF (aF (aA (bF rfl (ak rfl rfl rfl (aD (aC ?_)))))))))
 refine aa rfl (fun hc1 => ?_) (fun hc1 => ?_)
 ·refine aF ?_
  have hf := Qz hc1
  refine ju (tg := 1000) rfl (Cont.dF hf.symm) ?_
  refine mq (s := 0) rfl (Ty.sub_eq (congrArg (fun z : List mQ => Ty.vs 1000 z.length) hf.symm)) ?_
  refine aA (FR rfl (VE rfl (aD (aC (av (aW ?_))))))
  refine qN [1000] rfl rfl (by decide) (by repeat (first | exact og | refine kL rfl (xC (by decide) rfl) ?_)) ?_
  all_goals skip
  all_goals exact vX (Ct (by decide))
 refine bA (aC (aF (aF ?_)))
 obtain ⟨i, ei, hi, hb, ha⟩ := P1 hc1
 refine mq (s := 5) rfl (Ty.bJ ei) ?_
 refine aA (bF rfl ?_)
 refine bz rfl rfl (by omega) (by omega) ?_
 refine b9 rfl (aD (aC (af ?_)))
 refine cK (fun (x : {x : Nat × Nat × List mQ // HF l x}) => live [(0, Ty.vs 1000 l.length), (1, Ty.j9 9 []), (5, Ty.int .i64 (x.1.1 : Nat)), (6, Ty.int .i64 (x.1.2.1 : Nat))] [(1000, Cont.vec gL 34 x.1.2.2)]) (fun x => l.length - x.1.2.1) (⟨(i, i + 1, l), LC hi hb ha⟩) ?_ fun x => ?_
 ·(refine c8.mk' ?_ ?_ <;> (repeat' (first | exact aI | exact aH | refine aB ?_ (Ty.aR _) | refine aB ?_ (Ty.aG _) | refine aJ rfl (Cont.aG _) ?_)))
  all_goals trace_state
 have hx1 := x.2.lt
 have hx2 := x.2.le
 have hx3 := x.2.len
 refine aF (aF (aA (bF rfl (FR rfl (nY rfl rfl rfl (ak rfl rfl rfl (aD (aC ?_))))))))
 refine aa rfl (fun hc2 => ?_) (fun hc2 => ?_)
 ·refine bA (aC ?_)
  refine qh (J := live [(0, Ty.vs 1000 l.length), (1, Ty.j9 9 []), (5, Ty.int .i64 ((q8 x.1).1 : Nat)), (6, Ty.int .i64 (x.1.2.1 : Nat))] [(1000, Cont.vec gL 34 (q8 x.1).2.2)]) ?_ ?_
  ·refine af (aF (aA (FR rfl (bF rfl ?_))))
   refine eE rfl rfl rfl rfl rfl (by omega) ?_
   refine GN x.1.2.1 rfl rfl rfl (by decide) rfl rfl rfl (by omega) ?_
   refine dB rfl (by exact List.cons_ne_nil _ _) rfl ?_
   refine eG rfl rfl (by decide) rfl rfl rfl rfl rfl rfl ?_
   refine aD (aC (aF (aA (U2 rfl ?_))))
   refine gO rfl rfl (by decide) rfl rfl (by exact Nat.le_of_ble_eq_true rfl) ?_
   refine RA rfl (OK (nth x.1.2.2 x.1.2.1)) rfl rfl rfl rfl rfl (ct rfl (aD (aC ?_)))
   refine ck rfl (fun hc3 => ?_) (fun hc3 => ?_)
   ·refine aF (aA (FR rfl (bF rfl ?_)))
    refine gO rfl rfl (by decide) rfl rfl (by exact Nat.le_of_ble_eq_true rfl) ?_
    refine eE rfl rfl rfl rfl rfl (by omega) ?_
    refine EB (E := gL) (z := nth x.1.2.2 x.1.2.1) x.1.1 rfl rfl rfl (by decide) rfl rfl rfl (by omega) ?_
    refine aD (aC (aA (bF rfl ?_)))
    refine bz rfl rfl (by omega) (by omega) ?_
    refine b9 rfl (aD (bH (iC ?_)))
    (refine c8.mk' ?_ ?_ <;> (repeat' (first | exact aI | exact aH | refine aB ?_ (Ty.aR _) | refine aB ?_ (Ty.aG _) | refine aJ rfl ?_ ?_ | refine aB ?_ ?_)))
    all_goals first | exact Ty.bJ (by rw [Fc (decide_eq_false hc3)]; show _ = ((x.1.1 + 1 : Nat) : Int); omega) | exact Cont.dF (by rw [Fc (decide_eq_false hc3)])
   refine bA (bH (iC ?_))
   (refine c8.mk' ?_ ?_ <;> (repeat' (first | exact aI | exact aH | refine aB ?_ (Ty.aR _) | refine aB ?_ (Ty.aG _) | refine aJ rfl ?_ ?_ | refine aB ?_ ?_)))
   all_goals first | exact Ty.bJ (by rw [Cr (decide_eq_true hc3)]) | exact Cont.dF (by rw [Cr (decide_eq_true hc3)])
  refine aA (bF rfl ?_)
  refine bz rfl rfl (by omega) (by omega) ?_
  refine b9 rfl (aD ?_)
  refine bO (⟨q8 x.1, x.2.step (by omega)⟩) ?_ (by show l.length - (q8 x.1).2.1 < l.length - x.1.2.1; rw [GV]; omega)
  (refine c8.mk' ?_ ?_ <;> (repeat' (first | exact aI | exact aH | refine aB ?_ (Ty.aR _) | refine aB ?_ (Ty.aG _) | refine aJ rfl (Cont.aG _) ?_ | refine aB ?_ ?_)))
  all_goals skip
  all_goals exact Ty.bJ (by rw [GV]; omega)
 refine cF (aL (aL (ah rfl (aC (aF (aA (FR rfl (bF rfl ?_))))))))
 refine Ra rfl rfl rfl rfl rfl (by omega) ?_
 refine EM (E := gL) (k := x.1.1) (xs := x.1.2.2) rfl rfl (by omega) rfl (by omega) (by decide) rfl rfl rfl rfl rfl (by decide) rfl ?_
 refine aD (aC (aF ?_))
 have hxe : x.1.2.1 = l.length := by omega
 have hend : x.1.2.2.take x.1.1 = l.filter jk := by rw [x.2.done, hxe, List.take_length]
 have hlen : ((x.1.1 : Nat) : Int) = ((l.filter jk).length : Nat) := by rw [← hend, List.length_take]; omega
 have hle : (l.filter jk).length ≤ l.length := List.length_filter_le _ _
 refine ju (tg := 1000) rfl (Cont.dF hend) ?_
 refine mq (s := 5) rfl (Ty.bJ hlen) ?_
 refine aA (FR rfl (bF rfl ?_))
 refine RY rfl rfl rfl rfl rfl hle (by omega) ?_
 refine VE rfl (aD (aC (av ?_)))
 refine qN [1000] rfl rfl (by decide) (by repeat (first | exact og | refine kL rfl (xC (by decide) rfl) ?_)) ?_
 all_goals skip
 all_goals exact vX (Ct (by decide))
set_option maxRecDepth 100000 in
theorem QX (d : gE) (ht : d.t ≤ 8) (h : d.s.Ok 100) : eB Tryz.prog 6 [1000] [(1000, Cont.cells 95 (cN d.s))] [Ty.ptr 1000 0, Ty.int .i64 (d.t : Nat)] [(1000, Cont.cells 95 (cN d.sk)), (171, Cont.vec gL 34 d.CQ.turnings)] (Ty.agg (HY 171 d.CQ)) := by
 refine jI Tryz.func6 rfl (by decide) Tryz.ntmps6 (by exact Nat.le_of_ble_eq_true rfl) fun w0 M0 => ?_
 have h0 : 0 ≤ d.s.taken ∧ d.s.taken + 100 ≤ 4611686018427387904 := h
 have hn := d.CH
 have hm := d.E5
 have hs1 := bw d.s
 have hT := d.Qe
 have hR := d.Qj
 have htk1 : (aO (aO d.s)).taken = d.s.taken + 2 := by rw [bw, bw]; omega
 have hbm := d.FZ d.m
 have hun := d.PE d.n
 have htT := d.Of d.T
 have hor := d.lX
 have hlp := d.pO
 have hbmt := hbm.taken
 have hbmb := hbm.bins
 have htTl := htT.trn
 have hunt := hun.2.2
 have htTt := htT.taken
 have hort := hor.2.2.2
 have hq1 := bw (d.up d.n).2
 have hq2 := bw d.order.2
 refine aF (aA ?_)
 refine dB rfl (by exact List.cons_ne_nil _ _) rfl ?_
 refine aD (aC (aF (aA (tN rfl ?_))))
 refine eI [(1000, 1000)] [] [(1000, Cont.cells 95 (cN (aO d.s)))] (qv d.s ⟨by omega, by omega⟩ 1 4 (by omega) (by omega)) rfl rfl (by repeat (first | exact fC | refine dD ?_ ?_ | exact fS List.mem_cons_self | exact cP rfl rfl)) (dj (a := 1000) (b := 1000) (by exact List.mem_cons_self) rfl (bB (by exact List.mem_cons_self) rfl rfl rfl) pre_nil) (cj (a := 1000) (b := 1000) (by exact List.mem_cons_self) rfl (bB (by exact List.mem_cons_self) rfl rfl rfl) post_nil) (cP rfl rfl) ?_
 refine EP (E := dN) rfl rfl rfl rfl rfl rfl rfl (by decide) rfl (by omega) (by (dsimp only; omega)) (by omega) ?_
 refine eX rfl rfl (by exact List.cons_ne_nil _ _) rfl (by repeat (first | exact (aT.nil : aT _ _ [] _) | (show aT _ _ ((_, _) :: _) _; apply aT.one; (· exact (rfl : _ = Ty.vs _ _)); (· exact rfl)))) (by exact (rfl : _ = some [_, _, _, _])) ?_
 refine dB rfl (by exact List.cons_ne_nil _ _) rfl ?_
 refine eG rfl rfl (by decide) rfl rfl rfl rfl rfl rfl ?_
 refine aD (aC (aF (aA (mP rfl (aD (aC (aF (aF (aA (tN rfl ?_))))))))))
 refine eI [(1000, 1000)] [] [(1000, Cont.cells 95 (cN (aO (aO d.s))))] (qv (aO d.s) ⟨by omega, by omega⟩ 2 5 (by omega) (by omega)) rfl rfl (by repeat (first | exact fC | refine dD ?_ ?_ | exact fS List.mem_cons_self | exact cP rfl rfl)) (dj (a := 1000) (b := 1000) (by exact List.mem_cons_self) rfl (bB (by exact List.mem_cons_self) rfl rfl rfl) pre_nil) (cj (a := 1000) (b := 1000) (by exact List.mem_cons_self) rfl (bB (by exact List.mem_cons_self) rfl rfl rfl) post_nil) (cP rfl rfl) ?_
 refine bF rfl (aD (aC (af ?_)))
 refine cK (fun (k : {k : Nat // k ≤ d.m}) => live [(0, Ty.ptr 1000 0), (1, Ty.int .i64 (d.t : Nat)), (4, Ty.ptr 5 0), (5, Ty.ptr 6 0), (6, Ty.row dN 3 76 (d.bn k.1).left), (22, Ty.int .i64 (d.m : Nat)), (23, Ty.int .i64 (k.1 : Nat))] [(1000, Cont.cells 95 (cN (d.bn k.1).sk)), (5, Cont.cells 28 [Ty.ex (.slice none 0 0), Ty.ex (.slice none 0 0), Ty.ex (.slice none 0 0), Ty.ex (.slice none 0 0)]), (6, Cont.cells 28 [Ty.vs 20 d.n, Ty.row jX 44 71 (d.bn k.1).bins, Ty.row gL 34 171 [], Ty.row jf 92 206 []]), (20, Cont.vec dN 3 (d.bn k.1).bears)]) (fun k => d.m - k.1) (⟨0, by omega⟩) ?_ fun k => ?_
 ·(refine c8.mk' ?_ ?_ <;> (repeat' (first | exact aI | exact aH | exact dI | refine aB ?_ (Ty.aR _) | refine aB ?_ (Ty.aG _) | refine aJ rfl (Cont.aG _) ?_ | refine aJ rfl (Cont.dJ ?_) ?_ | refine bX ?_ (Ty.aG _) | refine bX ?_ Ty.lS | refine bX ?_ ?_ | refine aJ rfl ?_ ?_ | refine aB ?_ ?_)))
  all_goals first | exact Ty.bJ d.E5.2.2.symm | exact Ty.bJ (congrArg (fun p => p.sk.mixed) (sO d).symm) | exact Ty.bJ (congrArg (fun p => p.sk.taken) (sO d).symm) | exact Ty.gl (congrArg (fun p => p.sk.grain) (sO d).symm) | exact jv (congrArg Mk.left (sO d)).symm | exact jv (congrArg Mk.bins (sO d)).symm | exact Cont.dF (congrArg Mk.bears (sO d)).symm
 have hk := k.2
 have hbk := d.FZ k.1
 have hbt := hbk.taken
 have hbk1 := hbk.bins
 have hbk2 : (d.bn k.1).left.length = k.1 := by rw [hbk.left, List.length_map, hbk.bins]
 have hmb := HL d.CH.1 (d.bn k.1)
 refine aF (aA (ak rfl rfl rfl (aD (aC (aF ?_)))))
 refine aa rfl (fun hc1 => ?_) (fun hc1 => ?_)
 ·refine bA (aC (aF (af (aF ?_))))
  have hok : (d.bn k.1).sk.Ok 1 := ⟨by omega, by omega⟩
  refine cg mixed rfl (tN rfl ?_)
  refine eI [(1000, 1000)] [] [(1000, Cont.cells 95 (cN (aO (d.bn k.1).sk)))] (jB (d.bn k.1).sk hok _) rfl rfl (by repeat (first | exact fC | refine dD ?_ ?_ | exact fS List.mem_cons_self | exact cP rfl rfl)) (dj (a := 1000) (b := 1000) (by exact List.mem_cons_self) rfl (bB (by exact List.mem_cons_self) rfl rfl rfl) pre_nil) (cj (a := 1000) (b := 1000) (by exact List.mem_cons_self) rfl (bB (by exact List.mem_cons_self) rfl rfl rfl) post_nil) (cP rfl rfl) ?_
  refine aS rfl rfl rfl rfl rfl (by decide) ?_
  refine aj rfl rfl (by decide) rfl rfl rfl ?_
  refine nY rfl rfl rfl ?_
  refine EP (E := dN) rfl rfl rfl rfl rfl rfl rfl (by decide) rfl (by omega) (by (dsimp only; omega)) (by omega) ?_
  refine eX rfl rfl (by exact List.cons_ne_nil _ _) rfl (by repeat (first | exact (aT.nil : aT _ _ [] _) | (show aT _ _ ((_, _) :: _) _; apply aT.one; (· first | exact (rfl : _ = Ty.int _ _) | exact (rfl : _ = Ty.vs _ _)); (· exact rfl)))) (by exact (rfl : _ = some [_, _])) ?_
  refine dB rfl (by exact List.cons_ne_nil _ _) rfl ?_
  refine eG rfl rfl (by decide) rfl rfl rfl rfl rfl rfl ?_
  refine aD ?_
  refine ⟨by kernel_rfl, ?_⟩
  refine aC (aF (aF (aA (bF rfl (aD (aC (af ?_)))))))
  refine cK (fun (j : {j : Nat // j ≤ 4}) => live [(0, Ty.ptr 1000 0), (1, Ty.int .i64 (d.t : Nat)), (4, Ty.ptr 5 0), (5, Ty.ptr 6 0), (6, Ty.row dN 3 76 (d.bn k.1).left), (7, Ty.ptr 8 0), (22, Ty.int .i64 (d.m : Nat)), (23, Ty.int .i64 (k.1 : Nat)), (32, Ty.int .i64 (j.1 : Nat))] [(1000, Cont.cells 95 (cN (fP d.n (aO (d.bn k.1).sk) j.1).2)), (5, Cont.cells 28 [Ty.ex (.slice none 0 0), Ty.ex (.slice none 0 0), Ty.ex (.slice none 0 0), Ty.ex (.slice none 0 0)]), (6, Cont.cells 28 [Ty.vs 20 d.n, Ty.row jX 44 71 (d.bn k.1).bins, Ty.row gL 34 171 [], Ty.row jf 92 206 []]), (20, Cont.vec dN 3 (d.bn k.1).bears), (8, Cont.cells 44 [Ty.int .i64 (mkBin d.n (d.bn k.1)).has, Ty.vs 31 d.n]), (31, Cont.vec dN 3 (fP d.n (aO (d.bn k.1).sk) j.1).1)]) (fun j => 4 - j.1) (⟨0, by omega⟩) ?_ fun j => ?_
  ·(refine c8.mk' ?_ ?_ <;> (repeat' (first | exact aI | exact aH | exact dI | refine aB ?_ (Ty.aR _) | refine aB ?_ (Ty.aG _) | refine aJ rfl (Cont.aG _) ?_ | refine aJ rfl (Cont.dJ ?_) ?_ | refine bX ?_ (Ty.aG _) | refine bX ?_ ?_ | refine aJ rfl ?_ ?_)))
   all_goals first | exact Ty.bJ (congrArg (fun p => p.2.mixed) (zP d.n (aO (d.bn k.1).sk)).symm) | exact Ty.bJ (congrArg (fun p => p.2.taken) (zP d.n (aO (d.bn k.1).sk)).symm) | exact Ty.gl (congrArg (fun p => p.2.grain) (zP d.n (aO (d.bn k.1).sk)).symm) | exact Ty.bJ (MI _ _).symm | exact Cont.dF (congrArg Prod.fst (zP d.n (aO (d.bn k.1).sk))).symm
  have hj := j.2
  have hsh := vf d.CH.1 (aO (d.bn k.1).sk) j.1
  have hst := bw (d.bn k.1).sk
  refine aF (aA (ak rfl rfl rfl (aD (aC (aF ?_)))))
  refine aa rfl (fun hc2 => ?_) (fun hc2 => ?_)
  ·refine bA (aC (aF (af ?_)))
   have hok : (fP d.n (aO (d.bn k.1).sk) j.1).2.Ok 1 := ⟨by omega, by omega⟩
   have hbi := BN (s := (fP d.n (aO (d.bn k.1).sk) j.1).2) d.CH.1
   refine cg mixed rfl ?_
   refine aS rfl rfl rfl rfl rfl (by decide) ?_
   refine aj rfl rfl (by decide) rfl rfl rfl ?_
   refine tN rfl ?_
   refine aS rfl rfl rfl rfl rfl (by decide) ?_
   refine aj rfl rfl (by decide) rfl rfl rfl ?_
   refine nY rfl rfl rfl ?_
   refine eI [(1000, 1000)] [] [(1000, Cont.cells 95 (cN (aO (fP d.n (aO (d.bn k.1).sk) j.1).2)))] (jB (fP d.n (aO (d.bn k.1).sk) j.1).2 hok _) rfl rfl (by repeat (first | exact fC | refine dD ?_ ?_ | exact fS List.mem_cons_self | exact cP rfl rfl)) (dj (a := 1000) (b := 1000) (by exact List.mem_cons_self) rfl (bB (by exact List.mem_cons_self) rfl rfl rfl) pre_nil) (cj (a := 1000) (b := 1000) (by exact List.mem_cons_self) rfl (bB (by exact List.mem_cons_self) rfl rfl rfl) post_nil) (cP rfl rfl) ?_
   refine iq rfl rfl rfl rfl rfl (by omega) (by omega) ?_
   refine hO rfl rfl rfl (by decide) rfl rfl (by omega) rfl ?_
   refine ak rfl rfl rfl ?_
   refine iq rfl rfl rfl rfl rfl (by omega) (by omega) ?_
   refine kR rfl rfl rfl (by decide) rfl rfl (by exact (rfl : _ = Ty.int _ _)) rfl (by omega) (by decide) rfl rfl ?_
   refine aD ?_
   refine ⟨by kernel_rfl, ?_⟩
   refine bH (aC (aA ?_))
   refine bz rfl rfl (by omega) (by omega) ?_
   refine bF rfl (aD ?_)
   refine bO (⟨j.1 + 1, by omega⟩) ?_ (by show 4 - (j.1 + 1) < 4 - j.1; omega)
   (refine c8.mk' ?_ ?_ <;> (repeat' (first | exact aI | exact aH | exact dI | refine aB ?_ (Ty.aR _) | refine aB ?_ (Ty.aG _) | refine aJ rfl (Cont.aG _) ?_ | refine aJ rfl (Cont.dJ ?_) ?_ | refine bX ?_ ?_ | refine aJ rfl ?_ ?_)))
   all_goals skip
   all_goals first | exact Ty.bJ (congrArg (fun p => p.2.mixed) (zJ d.n (aO (d.bn k.1).sk) j.1).symm) | exact Ty.bJ (congrArg (fun p => p.2.taken) (zJ d.n (aO (d.bn k.1).sk) j.1).symm) | exact Ty.gl (congrArg (fun p => p.2.grain) (zJ d.n (aO (d.bn k.1).sk) j.1).symm) | exact Cont.dF (S0 d.CH.1 (aO (d.bn k.1).sk) j.2)
  refine cF (aL (aL (ah rfl (aC (aF (aF ?_))))))
  have hx : ¬ (j.1 : Int) < 4 := hc2
  obtain ⟨j, hx2⟩ := j
  obtain rfl : j = 4 := by simp only at hx; omega
  refine aA ?_
  refine aS rfl rfl rfl rfl rfl (by decide) ?_
  refine aj rfl rfl (by decide) rfl rfl rfl ?_
  refine nY rfl rfl rfl (bF rfl (aD (aC (af ?_))))
  refine cK (fun (i : {i : Nat // i ≤ d.n}) => live [(0, Ty.ptr 1000 0), (1, Ty.int .i64 (d.t : Nat)), (4, Ty.ptr 5 0), (5, Ty.ptr 6 0), (6, Ty.row dN 3 76 (d.bn k.1).left), (7, Ty.ptr 8 0), (22, Ty.int .i64 (d.m : Nat)), (23, Ty.int .i64 (k.1 : Nat)), (47, Ty.vs 31 d.n), (48, Ty.int .i64 (d.n : Nat)), (49, Ty.int .i64 (i.1 : Nat))] [(1000, Cont.cells 95 (cN (fP d.n (aO (d.bn k.1).sk) 4).2)), (5, Cont.cells 28 [Ty.ex (.slice none 0 0), Ty.ex (.slice none 0 0), Ty.ex (.slice none 0 0), Ty.ex (.slice none 0 0)]), (6, Cont.cells 28 [Ty.vs 20 d.n, Ty.row jX 44 71 (d.bn k.1).bins, Ty.row gL 34 171 [], Ty.row jf 92 206 []]), (20, Cont.vec dN 3 (gH (mkBin d.n (d.bn k.1)).shares (mkBin d.n (d.bn k.1)).has (d.bn k.1).bears i.1)), (8, Cont.cells 44 [Ty.int .i64 (mkBin d.n (d.bn k.1)).has, Ty.vs 31 d.n]), (31, Cont.vec dN 3 (mkBin d.n (d.bn k.1)).shares)]) (fun i => d.n - i.1) (⟨0, by omega⟩) ?_ fun i => ?_
  ·(refine c8.mk' ?_ ?_ <;> (repeat' (first | exact aI | exact aH | refine aB ?_ (Ty.aR _) | refine aB ?_ (Ty.aG _) | refine aJ rfl (Cont.aG _) ?_ | refine aJ rfl ?_ ?_)))
   all_goals first | exact Cont.dF (MT _ _ _).symm | exact Cont.dF (Ej _ _).symm
  have hi := i.2
  have hbe := sX (mkBin d.n (d.bn k.1)).shares (mkBin d.n (d.bn k.1)).has (d.bn k.1).bears i.1
  have hbe1 := hbe.1
  have hbkb := hbk.bears
  have hmbl := hmb.len
  refine aF (aA (ak rfl rfl rfl (aD (aC (aF ?_)))))
  refine aa rfl (fun hc3 => ?_) (fun hc3 => ?_)
  ·refine bA (aC (aF (af (aF (aA (bF rfl ?_))))))
   refine eE rfl rfl rfl rfl rfl (by omega) ?_
   refine hO rfl rfl rfl (by decide) rfl rfl (by omega) rfl ?_
   refine b9 rfl (b9 rfl (aD (aC (cg mixed rfl ?_))))
   refine aS rfl rfl rfl rfl rfl (by decide) ?_
   refine aj rfl rfl (by decide) rfl rfl rfl ?_
   refine bF rfl ?_
   refine eE rfl rfl rfl rfl rfl (by omega) ?_
   refine hO rfl rfl rfl (by decide) rfl rfl (by omega) rfl ?_
   refine bF rfl ?_
   refine aS rfl rfl rfl rfl rfl (by decide) ?_
   refine aj rfl rfl (by decide) rfl rfl rfl ?_
   refine ak rfl rfl rfl (ak rfl rfl rfl ?_)
   refine eE rfl rfl rfl rfl rfl (by omega) ?_
   refine kR rfl rfl rfl (by decide) rfl rfl (by exact (rfl : _ = Ty.int _ _)) rfl (by omega) (by decide) rfl rfl ?_
   refine aD ?_
   refine ⟨by kernel_rfl, ?_⟩
   refine bH (aC (aA ?_))
   refine bz rfl rfl (by omega) (by omega) ?_
   refine bF rfl (aD ?_)
   refine bO (⟨i.1 + 1, by omega⟩) ?_ (by show d.n - (i.1 + 1) < d.n - i.1; omega)
   (refine c8.mk' ?_ ?_ <;> (repeat' (first | exact aI | exact aH | refine aB ?_ (Ty.aR _) | refine aB ?_ (Ty.aG _) | refine aJ rfl (Cont.aG _) ?_ | refine aJ rfl ?_ ?_)))
   all_goals skip
   all_goals exact Cont.dF (Py hbk (by omega) (by omega) hmb)
  refine cF (aL (aL (ah rfl (aC ?_))))
  have hx : ¬ (i.1 : Int) < (d.n : Nat) := hc3
  obtain ⟨i, hx2⟩ := i
  obtain rfl : i = d.n := by simp only at hx; omega
  refine ou (tg := 31) [] [(8, Cont.cells 44 [Ty.int .i64 (mkBin d.n (d.bn k.1)).has, Ty.sl dN (mkBin d.n (d.bn k.1)).shares])] (by decide) rfl trivial ⟨iG rfl rfl ⟨cx rfl, BA rfl hmb.len (by decide), trivial⟩, trivial⟩ ?_
  refine cg mixed rfl ?_
  refine aS rfl rfl rfl rfl rfl (by decide) ?_
  refine aj rfl rfl (by decide) rfl rfl rfl ?_
  refine gO rfl rfl (by decide) rfl rfl (by exact Nat.le_of_ble_eq_true rfl) ?_
  refine bT (E := jX) (xs := [mkBin d.n (d.bn k.1)]) rfl rfl rfl rfl rfl (by decide) (by decide) (by repeat (first | exact (aT.nil : aT _ _ [] _) | (show aT _ _ ((_, _) :: _) _; apply aT.agg; (· exact (rfl : _ = Ty.agg _))))) (by exact rfl) rfl ?_
  refine fB rfl rfl (by decide) rfl rfl rfl rfl rfl rfl (by decide) (by (simp <;> omega)) (by (simp <;> omega)) ?_
  refine Ad rfl ?_
  refine aS rfl rfl rfl rfl rfl (by decide) ?_
  refine aj rfl rfl (by decide) rfl rfl rfl ?_
  refine bT (E := dN) (xs := [_]) rfl rfl rfl rfl rfl (by decide) (by decide) (by repeat (first | exact (aT.nil : aT _ _ [] _) | (show aT _ _ ((_, _) :: _) _; apply aT.one; (· exact (rfl : _ = Ty.int _ _)); (· exact rfl)))) (by exact rfl) rfl ?_
  refine fB rfl rfl (by decide) rfl rfl rfl rfl rfl rfl (by decide) (by (simp <;> omega)) (by (simp <;> omega)) ?_
  refine aS rfl rfl rfl rfl rfl (by decide) ?_
  refine dm rfl rfl (by decide) rfl rfl (by exact (rfl : _ = Ty.row _ _ _ _)) rfl (by exact Nat.le_of_ble_eq_true rfl) rfl rfl (by exact rfl) ?_
  refine Ec rfl (aD ?_)
  refine ⟨by kernel_rfl, ?_⟩
  refine bH (aC (aA ?_))
  refine bz rfl rfl (by omega) (by omega) ?_
  refine bF rfl (aD ?_)
  refine bO (⟨k.1 + 1, by omega⟩) ?_ (by show d.m - (k.1 + 1) < d.m - k.1; omega)
  (refine c8.mk' ?_ ?_ <;> (repeat' (first | exact aI | exact aH | exact dI | refine aB ?_ (Ty.aR _) | refine aB ?_ (Ty.aG _) | refine aJ rfl (Cont.aG _) ?_ | refine aJ rfl (Cont.dJ ?_) ?_ | refine bX ?_ (Ty.aG _) | refine bX ?_ ?_ | refine aJ rfl ?_ ?_ | refine aB ?_ ?_)))
  all_goals skip
  all_goals first | exact Ty.bJ (congrArg (fun p => p.sk.mixed) (sW d k.1).symm) | exact Ty.bJ (congrArg (fun p => p.sk.taken) (sW d k.1).symm) | exact Ty.gl (congrArg (fun p => p.sk.grain) (sW d k.1).symm) | exact Ty.ej (congrArg Mk.bins (sW d k.1)).symm | exact Cont.dF (congrArg Mk.bears (sW d k.1)).symm | exact Ty.ej (congrArg Mk.left (sW d k.1)).symm
 refine cF (aL (aL (ah rfl (aC (aF (aF ?_))))))
 have hx : ¬ (k.1 : Int) < (d.m : Nat) := hc1
 obtain ⟨k, hx2⟩ := k
 obtain rfl : k = d.m := by simp only at hx; omega
 refine aA ?_
 refine aS rfl rfl rfl rfl rfl (by decide) ?_
 refine aj rfl rfl (by decide) rfl rfl rfl ?_
 refine nY rfl rfl rfl (bF rfl (aD (aC (af ?_))))
 refine cK (fun (i : {i : Nat // i ≤ d.n}) => live [(0, Ty.ptr 1000 0), (1, Ty.int .i64 (d.t : Nat)), (4, Ty.ptr 5 0), (5, Ty.ptr 6 0), (6, Ty.row dN 3 76 (d.bn d.m).left), (80, Ty.int .i64 (d.n : Nat)), (81, Ty.int .i64 (i.1 : Nat))] [(1000, Cont.cells 95 (cN (d.up i.1).2)), (5, Cont.cells 28 [Ty.ex (.slice none 0 0), Ty.ex (.slice none 0 0), Ty.ex (.slice none 0 0), Ty.ex (.slice none 0 0)]), (6, Cont.cells 28 [Ty.vs 20 d.n, Ty.row jX 44 71 (d.bn d.m).bins, Ty.row gL 34 171 [], Ty.row jf 92 206 []]), (20, Cont.vec dN 3 (d.up i.1).1)]) (fun i => d.n - i.1) (⟨0, by omega⟩) ?_ fun i => ?_
 ·(refine c8.mk' ?_ ?_ <;> (repeat' (first | exact aI | exact aH | exact dI | refine aB ?_ (Ty.aR _) | refine aB ?_ (Ty.aG _) | refine aJ rfl (Cont.aG _) ?_ | refine aJ rfl (Cont.dJ ?_) ?_ | refine bX ?_ ?_ | refine aJ rfl ?_ ?_)))
  all_goals first | exact Ty.bJ (congrArg (fun p => p.2.mixed) (wS d).symm) | exact Ty.bJ (congrArg (fun p => p.2.taken) (wS d).symm) | exact Ty.gl (congrArg (fun p => p.2.grain) (wS d).symm) | exact Cont.dF (congrArg Prod.fst (wS d)).symm
 have hi := i.2
 have hup := d.PE i.1
 have hupt := hup.2.2
 have hun1 := bw (d.up i.1).2
 refine aF (aA (ak rfl rfl rfl (aD (aC (aF ?_)))))
 refine aa rfl (fun hc4 => ?_) (fun hc4 => ?_)
 ·refine bA (aC (aF (af (aF (aA (bF rfl (b9 rfl (aD (aC (aF (cg mixed rfl ?_)))))))))))
  refine aS rfl rfl rfl rfl rfl (by decide) ?_
  refine aj rfl rfl (by decide) rfl rfl rfl ?_
  refine bF rfl ?_
  refine eE rfl rfl rfl rfl rfl (by omega) ?_
  refine hO rfl rfl rfl (by decide) rfl rfl (by omega) rfl ?_
  refine tN rfl ?_
  refine eI [(1000, 1000)] [] [(1000, Cont.cells 95 (cN (aO (d.up i.1).2)))] (jB (d.up i.1).2 ⟨by omega, by omega⟩ _) rfl rfl (by repeat (first | exact fC | refine dD ?_ ?_ | exact fS List.mem_cons_self | exact cP rfl rfl)) (dj (a := 1000) (b := 1000) (by exact List.mem_cons_self) rfl (bB (by exact List.mem_cons_self) rfl rfl rfl) pre_nil) (cj (a := 1000) (b := 1000) (by exact List.mem_cons_self) rfl (bB (by exact List.mem_cons_self) rfl rfl rfl) post_nil) (cP rfl rfl) ?_
  refine ak rfl rfl rfl ?_
  refine eE rfl rfl rfl rfl rfl (by omega) ?_
  refine kR rfl rfl rfl (by decide) rfl rfl (by exact (rfl : _ = Ty.int _ _)) rfl (by omega) (by decide) rfl rfl ?_
  refine aD ?_
  refine ⟨by kernel_rfl, ?_⟩
  refine aC (aF (aA (tN rfl ?_)))
  refine eI [(1000, 1000)] [] [(1000, Cont.cells 95 (cN (aO (aO (d.up i.1).2))))] (Qg (aO (d.up i.1).2) ⟨by omega, by omega⟩ _) rfl rfl (by repeat (first | exact fC | refine dD ?_ ?_ | exact fS List.mem_cons_self | exact cP rfl rfl)) (dj (a := 1000) (b := 1000) (by exact List.mem_cons_self) rfl (bB (by exact List.mem_cons_self) rfl rfl rfl) pre_nil) (cj (a := 1000) (b := 1000) (by exact List.mem_cons_self) rfl (bB (by exact List.mem_cons_self) rfl rfl rfl) post_nil) (cP rfl rfl) ?_
  refine aD (aC ?_)
  refine c9 rfl (fun hc5 => ?_) (fun hc5 => ?_)
  ·refine cg mixed rfl ?_
   refine aS rfl rfl rfl rfl rfl (by decide) ?_
   refine aj rfl rfl (by decide) rfl rfl rfl ?_
   refine bF rfl ?_
   refine aS rfl rfl rfl rfl rfl (by decide) ?_
   refine aj rfl rfl (by decide) rfl rfl rfl ?_
   refine bF rfl ?_
   refine eE rfl rfl rfl rfl rfl (by omega) ?_
   refine hO rfl rfl rfl (by decide) rfl rfl (by (simp <;> omega)) rfl ?_
   refine ak rfl rfl rfl (Ff rfl rfl ?_)
   refine eE rfl rfl rfl rfl rfl (by omega) ?_
   refine kR rfl rfl rfl (by decide) rfl rfl (by exact (rfl : _ = Ty.int _ _)) rfl (by (simp <;> omega)) (by decide) rfl rfl ?_
   refine aD ?_
   refine ⟨by kernel_rfl, ?_⟩
   refine bH (aC (aA ?_))
   refine bz rfl rfl (by omega) (by omega) ?_
   refine bF rfl (aD ?_)
   refine bO (⟨i.1 + 1, by omega⟩) ?_ (by show d.n - (i.1 + 1) < d.n - i.1; omega)
   (refine c8.mk' ?_ ?_ <;> (repeat' (first | exact aI | exact aH | exact dI | refine aB ?_ (Ty.aR _) | refine aB ?_ (Ty.aG _) | refine aJ rfl (Cont.aG _) ?_ | refine aJ rfl (Cont.dJ ?_) ?_ | refine bX ?_ ?_ | refine aJ rfl ?_ ?_)))
   all_goals skip
   all_goals first | exact Ty.bJ (congrArg fR.mixed (Dc d i.1)).symm | exact Ty.bJ (congrArg fR.taken (Dc d i.1)).symm | exact Ty.gl (congrArg fR.grain (Dc d i.1)).symm | exact Cont.dF ((QZ (by omega)).trans (TO d i.1 hc5).symm)
  refine bA (bH (aC (aA ?_)))
  refine bz rfl rfl (by omega) (by omega) ?_
  refine bF rfl (aD ?_)
  refine bO (⟨i.1 + 1, by omega⟩) ?_ (by show d.n - (i.1 + 1) < d.n - i.1; omega)
  (refine c8.mk' ?_ ?_ <;> (repeat' (first | exact aI | exact aH | exact dI | refine aB ?_ (Ty.aR _) | refine aB ?_ (Ty.aG _) | refine aJ rfl (Cont.aG _) ?_ | refine aJ rfl (Cont.dJ ?_) ?_ | refine bX ?_ ?_ | refine aJ rfl ?_ ?_)))
  all_goals skip
  all_goals first | exact Ty.bJ (congrArg fR.mixed (Dc d i.1)).symm | exact Ty.bJ (congrArg fR.taken (Dc d i.1)).symm | exact Ty.gl (congrArg fR.grain (Dc d i.1)).symm | exact Cont.dF ((PK (by omega)).trans (UK d i.1 hc5).symm)
 refine cF (aL (aL (ah rfl (aC (aF (aF ?_))))))
 have hx : ¬ (i.1 : Int) < (d.n : Nat) := hc4
 obtain ⟨i, hx2⟩ := i
 obtain rfl : i = d.n := by simp only at hx; omega
 refine UP (s := 6) rfl rfl ?_
 refine aA (tN rfl (bF rfl ?_))
 refine bz rfl rfl (by omega) (by omega) ?_
 refine eI [(1000, 1000)] [] [(1000, Cont.cells 95 (cN (aO (d.up d.n).2)))] (jB (d.up d.n).2 ⟨by omega, by omega⟩ _) rfl rfl (by repeat (first | exact fC | refine dD ?_ ?_ | exact fS List.mem_cons_self | exact cP rfl rfl)) (dj (a := 1000) (b := 1000) (by exact List.mem_cons_self) rfl (bB (by exact List.mem_cons_self) rfl rfl rfl) pre_nil) (cj (a := 1000) (b := 1000) (by exact List.mem_cons_self) rfl (bB (by exact List.mem_cons_self) rfl rfl rfl) post_nil) (cP rfl rfl) ?_
 refine bF rfl (aD (aC (af ?_)))
 refine cK (fun (k : {k : Nat // k ≤ d.T}) => live [(0, Ty.ptr 1000 0), (1, Ty.int .i64 (d.t : Nat)), (4, Ty.ptr 5 0), (5, Ty.ptr 6 0), (6, Ty.vs 76 d.m), (110, Ty.int .i64 (d.T : Nat)), (111, Ty.int .i64 (k.1 : Nat))] [(1000, Cont.cells 95 (cN (d.tk k.1).sk)), (5, Cont.cells 28 [Ty.ex (.slice none 0 0), Ty.ex (.slice none 0 0), Ty.ex (.slice none 0 0), Ty.ex (.slice none 0 0)]), (6, Cont.cells 28 [Ty.vs 20 d.n, Ty.row jX 44 71 (d.bn d.m).bins, Ty.row gL 34 171 (d.tk k.1).trn, Ty.row jf 92 206 []]), (20, Cont.vec dN 3 (d.up d.n).1), (76, Cont.vec dN 3 (d.tk k.1).left)]) (fun k => d.T - k.1) (⟨0, by omega⟩) ?_ fun k => ?_
 ·(refine c8.mk' ?_ ?_ <;> (repeat' (first | exact aI | exact aH | exact dI | refine aB ?_ (Ty.aR _) | refine aB ?_ (Ty.aG _) | refine aJ rfl (Cont.aG _) ?_ | refine aJ rfl (Cont.dJ ?_) ?_ | refine bX ?_ (Ty.aG _) | refine bX ?_ ?_ | refine aJ rfl ?_ ?_ | refine aB ?_ ?_)))
  all_goals first | exact Ty.sub_eq (congrArg (Ty.vs 76) d.pO.1) | exact Ty.bJ d.Qe.2.symm | exact Ty.bJ (congrArg (fun p => p.sk.mixed) (vN d).symm) | exact Ty.bJ (congrArg (fun p => p.sk.taken) (vN d).symm) | exact Ty.gl (congrArg (fun p => p.sk.grain) (vN d).symm) | exact Ty.ej (congrArg Tk.trn (vN d)).symm | exact Cont.dF (congrArg Tk.left (vN d)).symm
 have hk := k.2
 have htk := d.Of k.1
 have htt := htk.taken
 have hsi := JY d.E5.1 (d.tk k.1)
 have htl := htk.left
 have htl2 := htk.trn
 have ham := n6 (s := (d.tk k.1).sk) (show (-1 : Int) ≤ (((d.bn d.m).bins.length : Nat) : Int) - 1 by omega)
 have hti := G3 d.E5.1 htk.pos
 have hn1 := bw (d.tk k.1).sk
 have hn2 := bw (aO (d.tk k.1).sk)
 refine aF (aA (ak rfl rfl rfl (aD (aC (aF ?_)))))
 refine aa rfl (fun hc6 => ?_) (fun hc6 => ?_)
 ·refine bA (aC (aF (af (aF (cg mixed rfl (tN rfl ?_))))))
  refine aS rfl rfl rfl rfl rfl (by decide) ?_
  refine aj rfl rfl (by decide) rfl rfl rfl ?_
  refine ku rfl rfl rfl ?_
  refine iZ rfl rfl (by omega) (by omega) ?_
  refine eI [(1000, 1000)] [] [(1000, Cont.cells 95 (cN (aO (d.tk k.1).sk)))] (qv (d.tk k.1).sk ⟨by omega, by omega⟩ (-1) ((((d.bn d.m).bins.length : Nat) : Int) - 1) (by omega) (by omega)) rfl rfl (by repeat (first | exact fC | refine dD ?_ ?_ | exact fS List.mem_cons_self | exact cP rfl rfl)) (dj (a := 1000) (b := 1000) (by exact List.mem_cons_self) rfl (bB (by exact List.mem_cons_self) rfl rfl rfl) pre_nil) (cj (a := 1000) (b := 1000) (by exact List.mem_cons_self) rfl (bB (by exact List.mem_cons_self) rfl rfl rfl) post_nil) (cP rfl rfl) ?_
  refine tN rfl ?_
  refine aS rfl rfl rfl rfl rfl (by decide) ?_
  refine aj rfl rfl (by decide) rfl rfl rfl ?_
  refine ku rfl rfl rfl ?_
  refine iZ rfl rfl (by omega) (by omega) ?_
  refine eI [(1000, 1000)] [] [(1000, Cont.cells 95 (cN (aO (aO (d.tk k.1).sk))))] (qv (aO (d.tk k.1).sk) ⟨by omega, by omega⟩ (-1) ((((d.bn d.m).bins.length : Nat) : Int) - 1) (by omega) (by omega)) rfl rfl (by repeat (first | exact fC | refine dD ?_ ?_ | exact fS List.mem_cons_self | exact cP rfl rfl)) (dj (a := 1000) (b := 1000) (by exact List.mem_cons_self) rfl (bB (by exact List.mem_cons_self) rfl rfl rfl) pre_nil) (cj (a := 1000) (b := 1000) (by exact List.mem_cons_self) rfl (bB (by exact List.mem_cons_self) rfl rfl rfl) post_nil) (cP rfl rfl) ?_
  refine b9 rfl (b9 rfl (aD ?_))
  refine ⟨by kernel_rfl, ?_⟩
  refine aC ?_
  refine qh (J := live [(0, Ty.ptr 1000 0), (1, Ty.int .i64 (d.t : Nat)), (4, Ty.ptr 5 0), (5, Ty.ptr 6 0), (6, Ty.vs 76 d.m), (110, Ty.int .i64 (d.T : Nat)), (111, Ty.int .i64 (k.1 : Nat)), (11, Ty.int .i64 (eU d.m (d.tk k.1))), (12, Ty.int .i64 (dH (aO (d.tk k.1).sk) (-1) ((((d.bn d.m).bins.length : Nat) : Int) - 1)))] [(1000, Cont.cells 95 (cN (aO (aO (d.tk k.1).sk)))), (5, Cont.cells 28 [Ty.ex (.slice none 0 0), Ty.ex (.slice none 0 0), Ty.ex (.slice none 0 0), Ty.ex (.slice none 0 0)]), (6, Cont.cells 28 [Ty.vs 20 d.n, Ty.row jX 44 71 (d.bn d.m).bins, Ty.row gL 34 171 (d.tk k.1).trn, Ty.row jf 92 206 []]), (20, Cont.vec dN 3 (d.up d.n).1), (76, Cont.vec dN 3 (d.tk k.1).left)]) ?_ ?_
  ·refine aF (aA (bF rfl (ak rfl rfl rfl (kV rfl ?_))))
   apply aN (s := 127) rfl rfl rfl
   ·intro hg; apply aQ; (refine FR rfl ?_); refine aD ?_; exact rfl
   ·exact rfl
   ·exact rfl
   apply aN (s := 127) rfl rfl rfl
   ·intro hg; apply aQ; (refine bF rfl ?_); refine aD ?_; exact rfl
   ·exact rfl
   ·exact rfl
   apply aN (s := 127) rfl rfl rfl
   ·intro hg; apply aM (s := 128) rfl (by (rw [hg]; rfl)); apply aM (s := 129) rfl (by (rw [hg]; rfl)); apply aQ; (refine iq rfl rfl rfl rfl rfl (by have := G2 hg; omega) (by have := G2 hg; omega) ?_); refine aD ?_; exact rfl
   ·exact rfl
   ·exact rfl
   apply aN (s := 127) rfl rfl rfl
   ·intro hg; apply aM (s := 130) rfl (by (rw [hg]; rfl)); apply aQ; (refine hO rfl rfl rfl (by decide) rfl rfl (by omega) rfl ?_); refine aD ?_; exact rfl
   ·exact rfl
   ·exact rfl
   apply aN (s := 127) rfl rfl rfl
   ·intro hg; apply aM (s := 131) rfl (by (rw [hg]; rfl)); apply aQ; (refine ak rfl rfl rfl ?_); refine aD ?_; exact rfl
   ·exact rfl
   ·exact rfl
   refine gP rfl rfl (aD (aC ?_))
   refine c9 rfl (fun hc7 => ?_) (fun hc7 => ?_)
   ·refine aA (b9 rfl (aD (iC ?_)))
    (refine c8.mk' ?_ ?_ <;> (repeat' (first | exact aI | exact aH | refine aB ?_ (Ty.aR _) | refine aB ?_ (Ty.aG _) | refine aJ rfl (Cont.aG _) ?_ | refine aB ?_ ?_)))
    all_goals exact Ty.bJ (Qw hbm.bins _ hc7)
   refine bA (iC ?_)
   (refine c8.mk' ?_ ?_ <;> (repeat' (first | exact aI | exact aH | refine aB ?_ (Ty.aR _) | refine aB ?_ (Ty.aG _) | refine aJ rfl (Cont.aG _) ?_ | refine aB ?_ ?_)))
   all_goals exact Ty.bJ (Ss hbm.bins _ hc7)
  refine qh (J := live [(0, Ty.ptr 1000 0), (1, Ty.int .i64 (d.t : Nat)), (4, Ty.ptr 5 0), (5, Ty.ptr 6 0), (6, Ty.vs 76 d.m), (110, Ty.int .i64 (d.T : Nat)), (111, Ty.int .i64 (k.1 : Nat)), (11, Ty.int .i64 (eU d.m (d.tk k.1))), (12, Ty.int .i64 (rK d.m (d.tk k.1)))] [(1000, Cont.cells 95 (cN (aO (aO (d.tk k.1).sk)))), (5, Cont.cells 28 [Ty.ex (.slice none 0 0), Ty.ex (.slice none 0 0), Ty.ex (.slice none 0 0), Ty.ex (.slice none 0 0)]), (6, Cont.cells 28 [Ty.vs 20 d.n, Ty.row jX 44 71 (d.bn d.m).bins, Ty.row gL 34 171 (d.tk k.1).trn, Ty.row jf 92 206 []]), (20, Cont.vec dN 3 (d.up d.n).1), (76, Cont.vec dN 3 (d.tk k.1).left)]) ?_ ?_
  ·refine aF (aA (bF rfl (bF rfl (ak rfl rfl rfl (aD (aC ?_))))))
   refine aa rfl (fun hc8 => ?_) (fun hc8 => ?_)
   ·refine aA (bF rfl ?_)
    refine bz rfl rfl (by omega) (by omega) ?_
    refine aS rfl rfl rfl rfl rfl (by decide) ?_
    refine aj rfl rfl (by decide) rfl rfl rfl ?_
    refine ku rfl rfl rfl ?_
    refine aq (Tq _ _ (by omega) (by omega)) rfl rfl rfl rfl rfl ?_
    refine b9 rfl (aD (iC ?_))
    (refine c8.mk' ?_ ?_ <;> (repeat' (first | exact aI | exact aH | refine aB ?_ (Ty.aR _) | refine aB ?_ (Ty.aG _) | refine aJ rfl (Cont.aG _) ?_ | refine aB ?_ ?_)))
    all_goals exact Ty.bJ (Qy hbm.bins _ hc8)
   refine bA (iC ?_)
   (refine c8.mk' ?_ ?_ <;> (repeat' (first | exact aI | exact aH | refine aB ?_ (Ty.aR _) | refine aB ?_ (Ty.aG _) | refine aJ rfl (Cont.aG _) ?_ | refine aB ?_ ?_)))
   all_goals exact Ty.bJ (Sz hbm.bins _ hc8)
  refine aF (aA (bF rfl (bF rfl (tN rfl ?_))))
  refine eI [(1000, 1000)] [] [(1000, Cont.cells 95 (cN (aO (aO (aO (d.tk k.1).sk)))))] (qv (aO (aO (d.tk k.1).sk)) ⟨by omega, by omega⟩ 1 20 (by omega) (by omega)) rfl rfl (by repeat (first | exact fC | refine dD ?_ ?_ | exact fS List.mem_cons_self | exact cP rfl rfl)) (dj (a := 1000) (b := 1000) (by exact List.mem_cons_self) rfl (bB (by exact List.mem_cons_self) rfl rfl rfl) pre_nil) (cj (a := 1000) (b := 1000) (by exact List.mem_cons_self) rfl (bB (by exact List.mem_cons_self) rfl rfl rfl) post_nil) (cP rfl rfl) ?_
  refine eX rfl rfl (by exact List.cons_ne_nil _ _) rfl (by repeat (first | exact (aT.nil : aT _ _ [] _) | (show aT _ _ ((_, _) :: _) _; apply aT.one; (· exact (rfl : _ = Ty.int _ _)); (· exact rfl)))) (by exact (rfl : _ = some [_, _, _])) ?_
  refine dB rfl (by exact List.cons_ne_nil _ _) rfl ?_
  refine eG rfl rfl (by decide) rfl rfl rfl rfl rfl rfl ?_
  refine aD (aC ?_)
  refine qh (J := live [(0, Ty.ptr 1000 0), (1, Ty.int .i64 (d.t : Nat)), (4, Ty.ptr 5 0), (5, Ty.ptr 6 0), (6, Ty.vs 76 d.m), (110, Ty.int .i64 (d.T : Nat)), (111, Ty.int .i64 (k.1 : Nat)), (13, Ty.ptr 14 0)] [(1000, Cont.cells 95 (cN (aO (aO (aO (d.tk k.1).sk))))), (5, Cont.cells 28 [Ty.ex (.slice none 0 0), Ty.ex (.slice none 0 0), Ty.ex (.slice none 0 0), Ty.ex (.slice none 0 0)]), (6, Cont.cells 28 [Ty.vs 20 d.n, Ty.row jX 44 71 (d.bn d.m).bins, Ty.row gL 34 171 (d.tk k.1).trn, Ty.row jf 92 206 []]), (20, Cont.vec dN 3 (d.up d.n).1), (76, Cont.vec dN 3 (leftOf (d.tk k.1).left (eU d.m (d.tk k.1)) (fI d.m (d.tk k.1)))), (14, Cont.cells 34 [Ty.int .i64 (eU d.m (d.tk k.1)), Ty.int .i64 (rK d.m (d.tk k.1)), Ty.int .i64 (fI d.m (d.tk k.1))])]) ?_ ?_
  ·refine aF (aA (bF rfl (ak rfl rfl rfl (aD (aC ?_)))))
   refine ck rfl (fun hc9 => ?_) (fun hc9 => ?_)
   ·refine aF (cg mixed rfl ?_)
    refine aS rfl rfl rfl rfl rfl (by decide) ?_
    refine aj rfl rfl (by decide) rfl rfl rfl ?_
    refine FR rfl (bF rfl ?_)
    refine iq rfl rfl rfl rfl rfl (by omega) (by omega) ?_
    refine hO rfl rfl rfl (by decide) rfl rfl (by omega) rfl ?_
    refine R3 rfl rfl ?_
    refine aS rfl rfl rfl rfl rfl (by decide) ?_
    refine dm rfl rfl (by decide) rfl rfl (by exact (rfl : _ = Ty.int _ _)) rfl (by exact Nat.le_of_ble_eq_true rfl) rfl rfl (by exact rfl) ?_
    refine aD ?_
    refine ⟨by kernel_rfl, ?_⟩
    refine aC (cg mixed rfl (FR rfl (bF rfl ?_)))
    refine iq rfl rfl rfl rfl rfl (by omega) (by omega) ?_
    refine hO rfl rfl rfl (by decide) rfl rfl (by omega) rfl ?_
    refine aS rfl rfl rfl rfl rfl (by decide) ?_
    refine aj rfl rfl (by decide) rfl rfl rfl ?_
    refine ak rfl rfl rfl ?_
    refine iq rfl rfl rfl rfl rfl (by omega) (by omega) ?_
    refine kR rfl rfl rfl (by decide) rfl rfl (by exact (rfl : _ = Ty.int _ _)) rfl (by omega) (by decide) rfl rfl ?_
    refine aD ?_
    refine ⟨by kernel_rfl, ?_⟩
    refine iC ?_
    (refine c8.mk' ?_ ?_ <;> (repeat' (first | exact aI | exact aH | exact dI | refine aB ?_ (Ty.aR _) | refine aB ?_ (Ty.aG _) | refine aJ rfl (Cont.aG _) ?_ | refine aJ rfl (Cont.dJ ?_) ?_ | refine bX ?_ (Ty.aG _) | refine bX ?_ ?_ | refine aJ rfl ?_ ?_)))
    all_goals first | exact Cont.dF (Nf hc9 (JI (by omega))) | exact Ty.bJ (Ds hc9)
   refine bA (iC ?_)
   (refine c8.mk' ?_ ?_ <;> (repeat' (first | exact aI | exact aH | exact dI | refine aB ?_ (Ty.aR _) | refine aB ?_ (Ty.aG _) | refine aJ rfl (Cont.aG _) ?_ | refine aJ rfl (Cont.dJ ?_) ?_ | refine bX ?_ (Ty.aG _) | refine bX ?_ ?_ | refine aJ rfl ?_ ?_)))
   all_goals first | exact Cont.dF (QA hc9) | exact Ty.bJ (P4 hc9)
  refine aA ?_
  refine aS rfl rfl rfl rfl rfl (by decide) ?_
  refine aj rfl rfl (by decide) rfl rfl rfl ?_
  refine gO rfl rfl (by decide) rfl rfl (by exact Nat.le_of_ble_eq_true rfl) ?_
  refine bT (E := gL) (xs := [Hh d.m (d.tk k.1)]) rfl rfl rfl rfl rfl (by decide) (by decide) (by repeat (first | exact (aT.nil : aT _ _ [] _) | (show aT _ _ ((_, _) :: _) _; apply aT.agg; (· exact (rfl : _ = Ty.agg _))))) (by exact rfl) rfl ?_
  refine fB rfl rfl (by decide) rfl rfl rfl rfl rfl rfl (by decide) (by (simp <;> omega)) (by (simp <;> omega)) ?_
  refine aS rfl rfl rfl rfl rfl (by decide) ?_
  refine dm rfl rfl (by decide) rfl rfl (by exact (rfl : _ = Ty.row _ _ _ _)) rfl (by exact Nat.le_of_ble_eq_true rfl) rfl rfl (by exact rfl) ?_
  refine aD (bH (aC (aA ?_)))
  refine bz rfl rfl (by omega) (by omega) ?_
  refine bF rfl (aD ?_)
  refine bO (⟨k.1 + 1, by omega⟩) ?_ (by show d.T - (k.1 + 1) < d.T - k.1; omega)
  (refine c8.mk' ?_ ?_ <;> (repeat' (first | exact aI | exact aH | exact dI | refine aB ?_ (Ty.aR _) | refine aB ?_ (Ty.aG _) | refine aJ rfl (Cont.aG _) ?_ | refine aJ rfl (Cont.dJ ?_) ?_ | refine bX ?_ (Ty.aG _) | refine bX ?_ ?_ | refine aJ rfl ?_ ?_)))
  all_goals skip
  all_goals first | exact Ty.bJ (congrArg (fun p => p.sk.mixed) (vi d k.1).symm) | exact Ty.bJ (congrArg (fun p => p.sk.taken) (vi d k.1).symm) | exact Ty.gl (congrArg (fun p => p.sk.grain) (vi d k.1).symm) | exact Ty.ej (congrArg Tk.trn (vi d k.1)).symm | exact Cont.dF (congrArg Tk.left (vi d k.1)).symm
 refine cF (aL (aL (ah rfl (aC (aF ?_)))))
 have hx : ¬ (k.1 : Int) < (d.T : Nat) := hc6
 obtain ⟨k, hx2⟩ := k
 obtain rfl : k = d.T := by simp only at hx; omega
 refine aA (tN rfl ?_)
 refine aS rfl rfl rfl rfl rfl (by decide) ?_
 refine aj rfl rfl (by decide) rfl rfl rfl ?_
 refine ku rfl rfl rfl ?_
 refine eI [(1000, 1000)] [] [(1000, Cont.cells 95 (cN (d.order.2)))] (SU (d.tk d.T).sk d.T (d.tk d.T).trn.length htTl (by omega) ⟨by omega, by omega⟩) rfl rfl (by repeat (first | exact fC | refine dD ?_ ?_ | exact fS List.mem_cons_self | exact cP rfl rfl)) (dj (a := 1000) (b := 1000) (by exact List.mem_cons_self) rfl (bB (by exact List.mem_cons_self) rfl rfl rfl) pre_nil) (cj (a := 1000) (b := 1000) (by exact List.mem_cons_self) rfl (bB (by exact List.mem_cons_self) rfl rfl rfl) post_nil) (cP rfl rfl) ?_
 refine OU rfl (aD (aC (aF (aF (aA (tN rfl ?_))))))
 refine eI [(1000, 1000)] [] [(1000, Cont.cells 95 (cN (aO d.order.2)))] (jB d.order.2 ⟨by omega, by omega⟩ _) rfl rfl (by repeat (first | exact fC | refine dD ?_ ?_ | exact fS List.mem_cons_self | exact cP rfl rfl)) (dj (a := 1000) (b := 1000) (by exact List.mem_cons_self) rfl (bB (by exact List.mem_cons_self) rfl rfl rfl) pre_nil) (cj (a := 1000) (b := 1000) (by exact List.mem_cons_self) rfl (bB (by exact List.mem_cons_self) rfl rfl rfl) post_nil) (cP rfl rfl) ?_
 refine bF rfl (aD (aC (af ?_)))
 refine cK (fun (k : {k : Nat // k ≤ d.R}) => live [(0, Ty.ptr 1000 0), (1, Ty.int .i64 (d.t : Nat)), (4, Ty.ptr 5 0), (5, Ty.ptr 6 0), (14, Ty.sl dN d.order.1), (179, Ty.int .i64 (d.R : Nat)), (180, Ty.int .i64 (k.1 : Nat))] [(1000, Cont.cells 95 (cN (d.ru k.1).2)), (5, Cont.cells 28 [Ty.ex (.slice none 0 0), Ty.ex (.slice none 0 0), Ty.ex (.slice none 0 0), Ty.ex (.slice none 0 0)]), (6, Cont.cells 28 [Ty.vs 20 d.n, Ty.row jX 44 71 (d.bn d.m).bins, Ty.row gL 34 171 (d.tk d.T).trn, Ty.row jf 92 206 (d.ru k.1).1]), (20, Cont.vec dN 3 (d.up d.n).1)]) (fun k => d.R - k.1) (⟨0, by omega⟩) ?_ fun k => ?_
 ·(refine c8.mk' ?_ ?_ <;> (repeat' (first | exact aI | exact aH | exact dI | refine aB ?_ (Ty.aR _) | refine aB ?_ (Ty.aG _) | refine aJ rfl (Cont.aG _) ?_ | refine aJ rfl (Cont.dJ ?_) ?_ | refine bX ?_ (Ty.aG _) | refine bX ?_ ?_ | refine aB ?_ ?_)))
  all_goals first | exact Ty.bJ d.Qj.2.symm | exact Ty.bJ (congrArg (fun p => p.2.mixed) (zQ d).symm) | exact Ty.bJ (congrArg (fun p => p.2.taken) (zQ d).symm) | exact Ty.gl (congrArg (fun p => p.2.grain) (zQ d).symm) | exact Ty.ej (congrArg Prod.fst (zQ d)).symm
 have hk := k.2
 have hru := d.TZ k.1
 have hrt := hru.2.2
 have hru1 := bw (d.ru k.1).2
 have hb1 := cQ (d.ru k.1).2 (d.order.1.length : Nat)
 have hb2 := cQ (aO (d.ru k.1).2) (d.order.1.length : Nat)
 refine aF (aA (ak rfl rfl rfl (aD (aC (aF ?_)))))
 refine aa rfl (fun hc10 => ?_) (fun hc10 => ?_)
 ·refine bA (aC (aF (af (aF (aA (tN rfl (gy rfl (cC rfl rfl rfl ?_))))))))
  refine eI [(1000, 1000)] [] [(1000, Cont.cells 95 (cN (aO (d.ru k.1).2)))] (jB (d.ru k.1).2 ⟨by omega, by omega⟩ _) rfl rfl (by repeat (first | exact fC | refine dD ?_ ?_ | exact fS List.mem_cons_self | exact cP rfl rfl)) (dj (a := 1000) (b := 1000) (by exact List.mem_cons_self) rfl (bB (by exact List.mem_cons_self) rfl rfl rfl) pre_nil) (cj (a := 1000) (b := 1000) (by exact List.mem_cons_self) rfl (bB (by exact List.mem_cons_self) rfl rfl rfl) post_nil) (cP rfl rfl) ?_
  refine tN rfl (gy rfl (cC rfl rfl rfl ?_))
  refine eI [(1000, 1000)] [] [(1000, Cont.cells 95 (cN (aO (aO (d.ru k.1).2))))] (jB (aO (d.ru k.1).2) ⟨by omega, by omega⟩ _) rfl rfl (by repeat (first | exact fC | refine dD ?_ ?_ | exact fS List.mem_cons_self | exact cP rfl rfl)) (dj (a := 1000) (b := 1000) (by exact List.mem_cons_self) rfl (bB (by exact List.mem_cons_self) rfl rfl rfl) pre_nil) (cj (a := 1000) (b := 1000) (by exact List.mem_cons_self) rfl (bB (by exact List.mem_cons_self) rfl rfl rfl) post_nil) (cP rfl rfl) ?_
  refine b9 rfl (b9 rfl (aD (aC (aF (aA (bF rfl (bF rfl (ak rfl rfl rfl (aD (aC ?_))))))))))
  refine aa rfl (fun hc11 => ?_) (fun hc11 => ?_)
  ·refine cg mixed rfl ?_
   refine aS rfl rfl rfl rfl rfl (by decide) ?_
   refine aj rfl rfl (by decide) rfl rfl rfl ?_
   refine gy rfl (bF rfl ?_)
   refine nN rfl rfl rfl rfl rfl rfl (by omega) (by omega) ?_
   refine aK rfl rfl rfl rfl (gy rfl (bF rfl ?_))
   refine nN rfl rfl rfl rfl rfl rfl (by omega) (by omega) ?_
   refine aK rfl rfl rfl rfl ?_
   refine eX rfl rfl (by exact List.cons_ne_nil _ _) rfl (by repeat (first | exact (aT.nil : aT _ _ [] _) | (show aT _ _ ((_, _) :: _) _; apply aT.one; (· exact (rfl : _ = Ty.int _ _)); (· exact rfl)))) (by exact (rfl : _ = some [_, _])) ?_
   refine bT (E := jf) (xs := [⟨nth d.order.1 (bP (d.ru k.1).2 (d.order.1.length : Nat)).toNat, nth d.order.1 (bP (aO (d.ru k.1).2) (d.order.1.length : Nat)).toNat⟩]) rfl rfl rfl rfl rfl (by decide) (by decide) (by repeat (first | exact (aT.nil : aT _ _ [] _) | (show aT _ _ ((_, _) :: _) _; apply aT.agg; (· exact (rfl : _ = Ty.agg _))))) (by exact rfl) rfl ?_
   refine fB rfl rfl (by decide) rfl rfl rfl rfl rfl rfl (by decide) (by (simp <;> omega)) (by (simp <;> omega)) ?_
   refine aS rfl rfl rfl rfl rfl (by decide) ?_
   refine dm rfl rfl (by decide) rfl rfl (by exact (rfl : _ = Ty.row _ _ _ _)) rfl (by exact Nat.le_of_ble_eq_true rfl) rfl rfl (by exact rfl) ?_
   refine aD ?_
   refine ⟨by kernel_rfl, ?_⟩
   refine bH (aC (aA ?_))
   refine bz rfl rfl (by omega) (by omega) ?_
   refine bF rfl (aD ?_)
   refine bO (⟨k.1 + 1, by omega⟩) ?_ (by show d.R - (k.1 + 1) < d.R - k.1; omega)
   (refine c8.mk' ?_ ?_ <;> (repeat' (first | exact aI | exact aH | exact dI | refine aB ?_ (Ty.aR _) | refine aB ?_ (Ty.aG _) | refine aJ rfl (Cont.aG _) ?_ | refine aJ rfl (Cont.dJ ?_) ?_ | refine bX ?_ (Ty.aG _) | refine bX ?_ ?_)))
   all_goals skip
   all_goals first | exact Ty.bJ (congrArg fR.mixed (DP d k.1)).symm | exact Ty.bJ (congrArg fR.taken (DP d k.1)).symm | exact Ty.gl (congrArg fR.grain (DP d k.1)).symm | exact Ty.ej (Ut hc11)
  refine bA (bH (aC (aA ?_)))
  refine bz rfl rfl (by omega) (by omega) ?_
  refine bF rfl (aD ?_)
  refine bO (⟨k.1 + 1, by omega⟩) ?_ (by show d.R - (k.1 + 1) < d.R - k.1; omega)
  (refine c8.mk' ?_ ?_ <;> (repeat' (first | exact aI | exact aH | exact dI | refine aB ?_ (Ty.aR _) | refine aB ?_ (Ty.aG _) | refine aJ rfl (Cont.aG _) ?_ | refine aJ rfl (Cont.dJ ?_) ?_ | refine bX ?_ (Ty.aG _) | refine bX ?_ ?_)))
  all_goals skip
  all_goals first | exact Ty.bJ (congrArg fR.mixed (DP d k.1)).symm | exact Ty.bJ (congrArg fR.taken (DP d k.1)).symm | exact Ty.gl (congrArg fR.grain (DP d k.1)).symm | exact Ty.ej (SG hc11)
 refine cF (aL (aL (ah rfl (aC (aF ?_)))))
 have hx : ¬ (k.1 : Int) < (d.R : Nat) := hc10
 obtain ⟨k, hx2⟩ := k
 obtain rfl : k = d.R := by simp only at hx; omega
 refine ou (tg := 20) [] [(6, Cont.cells 28 [Ty.sl dN (d.up d.n).1, Ty.row jX 44 71 (d.bn d.m).bins, Ty.row gL 34 171 (d.tk d.T).trn, Ty.row jf 92 206 (d.ru d.R).1])] (by decide) rfl trivial ⟨iG rfl rfl ⟨BA rfl hun.1 (by decide), cx rfl, cx rfl, cx rfl, trivial⟩, trivial⟩ ?_
 refine ou (tg := 71) [] [(6, Cont.cells 28 [Ty.sl dN (d.up d.n).1, Ty.sl jX (d.bn d.m).bins, Ty.row gL 34 171 (d.tk d.T).trn, Ty.row jf 92 206 (d.ru d.R).1])] (by decide) rfl trivial ⟨iG rfl rfl ⟨cx rfl, nF, cx rfl, cx rfl, trivial⟩, trivial⟩ ?_
 refine ou (tg := 206) [] [(6, Cont.cells 28 [Ty.sl dN (d.up d.n).1, Ty.sl jX (d.bn d.m).bins, Ty.row gL 34 171 (d.tk d.T).trn, Ty.sl jf (d.ru d.R).1])] (by decide) rfl trivial ⟨iG rfl rfl ⟨cx rfl, cx rfl, cx rfl, nF, trivial⟩, trivial⟩ ?_
 refine MV (c0 := 6) 2 rfl rfl ?_
 refine ju (tg := 6) rfl (Cont.qL (l' := HY 171 d.CQ) ⟨Ty.aG _, Ty.aG _, Q3 rfl, Ty.aG _, trivial⟩) ?_
 refine aA ?_
 refine gO rfl rfl (by decide) rfl rfl (by exact Nat.le_of_ble_eq_true rfl) ?_
 refine eG rfl rfl (by decide) rfl rfl rfl rfl rfl rfl ?_
 refine aD (aC (av ?_))
 refine QN [1000, 171] rfl rfl rfl rfl (by decide) rfl rfl rfl (by decide) (by repeat (first | exact og | refine kL rfl (xC (by decide) rfl) ?_ | refine kL rfl (bB (by decide) rfl rfl rfl) ?_)) ?_
 all_goals skip
 all_goals exact vX (Nm (dD (dD (dD (dD fC (cP rfl rfl)) (Ct (by decide))) (cP rfl rfl)) (cP rfl rfl)))
end Go.Proofs.YtmmcenjknimhbaaGreat
namespace Go.Proofs.YtmmcenjknimhbaaGreat
open Go Go.T
set_option maxHeartbeats 16000000
theorem QF (g : List Int) : eB Tryz.prog 6 [1000] [(1000, Cont.cells 95 (cN (jc g)))] [Ty.ptr 1000 0, Ty.int .i64 8] [(1000, Cont.cells 95 (cN (tQ g).sk)), (171, Cont.vec gL 34 (tQ g).CQ.turnings)] (Ty.agg (HY 171 (tQ g).CQ)) := QX (tQ g) (Nat.le_refl 8) (F8 g)
def JS (f : bS) (k : Nat) : List oo := (f.bins.take k).map fun b => ⟨300, ⟨b.has, b.has⟩⟩
def KZ (f : bS) (k : Nat) : List Move := (f.turnings.take k).map fun t => ⟨0, t.src, t.dst, ⟨t.sacks, t.sacks⟩⟩
def KL (f : bS) (k : Nat) : List Int := (f.bins.take k).map p9.has
def MQ (f : bS) (k : Nat) : List Int := (f.turnings.take k).map mQ.sacks
theorem Uu {f : bS} {k : Nat} (h : k < f.bins.length) : JS f k ++ [⟨300, ⟨(nth f.bins k).has, (nth f.bins k).has⟩⟩] = JS f (k + 1) := by unfold JS; rw [bh h, List.map_append]; rfl
theorem Ud {f : bS} {k : Nat} (h : k < f.bins.length) : KL f k ++ [(nth f.bins k).has] = KL f (k + 1) := by unfold KL; rw [bh h, List.map_append]; rfl
theorem UI {f : bS} {k : Nat} (h : k < f.turnings.length) : KZ f k ++ [⟨0, (nth f.turnings k).src, (nth f.turnings k).dst, ⟨(nth f.turnings k).sacks, (nth f.turnings k).sacks⟩⟩] = KZ f (k + 1) := by unfold KZ; rw [bh h, List.map_append]; rfl
theorem UQ {f : bS} {k : Nat} (h : k < f.turnings.length) : MQ f k ++ [(nth f.turnings k).sacks] = MQ f (k + 1) := by unfold MQ; rw [bh h, List.map_append]; rfl
theorem Ue {f : bS} : [] = JS f 0 := rfl
theorem T4 {f : bS} : [] = KL f 0 := rfl
theorem Uf {f : bS} : [] = KZ f 0 := rfl
theorem UR {f : bS} : [] = MQ f 0 := rfl
theorem F6 (f : bS) (k : Nat) : (JS f k).length ≤ k ∧ (KZ f k).length ≤ k ∧ (KL f k).length ≤ k ∧ (MQ f k).length ≤ k := by
 unfold JS KZ KL MQ
 simp only [List.length_map, List.length_take]
 omega
theorem Q7 (f : bS) : [Ty.int .i64 1, Ty.sl jt (JS f f.bins.length), Ty.sl iY (KZ f f.turnings.length), Ty.sl jh []] = iF (jU f) := by
 unfold JS KZ; rw [List.take_length, List.take_length]; rfl
theorem Q0 (f : bS) : [Ty.sl dN (KL f f.bins.length), Ty.sl dN (MQ f f.turnings.length)] = oX (lz f) := by
 unfold KL MQ; rw [List.take_length, List.take_length]; rfl
theorem L0 (f : bS) (h : bk f = 0) (h4 : f.bins.length ≤ 4) : (jU f).Small ∧ (lz f).first.length ≤ 1000 ∧ (lz f).bM.length ≤ 1000 := by
 have h8 := EU h
 refine ⟨⟨?_, ?_, Nat.zero_le _⟩, ?_, ?_⟩
 ·show (f.bins.map _).length ≤ 1000; rw [List.length_map]; omega
 ·show (f.turnings.map _).length ≤ 1000; rw [List.length_map]; omega
 ·show (f.bins.map _).length ≤ 1000; rw [List.length_map]; omega
 show (f.turnings.map _).length ≤ 1000; rw [List.length_map]; omega
theorem UM {x y : Int} : nth [x, y] 0 = x := rfl
theorem UH {x y : Int} : nth [x, y] 1 = y := rfl
attribute [local irreducible] JS KZ KL MQ jU lz g8 xI p4 rq gw bk cM y6 u5 aO bP
attribute [local irreducible] eH cZ jR j7 eP eO eK eS eJ j8 eN j4 b8 dc j0 dZ j5 nth eZ cU aV cX bodyPost Exit.then Exit.inBlock Code.wp Code.wpIn dU m7 mo m6 fT mw m0 fV mY eB fO lu bW bV bodyPostM cV
set_option maxRecDepth 100000 in
theorem zi (g u : List Int) : cX Tryz.prog 3 [Ty.sl J9 g, Ty.sl J9 u] (Ty.bool true) := by
 refine aY Tryz.func3 rfl (by decide) Tryz.ntmps3 (by exact Nat.le_of_ble_eq_true rfl) fun w0 M0 => ?_
 obtain ⟨hp0, hb2, hb5⟩ := OB g
 have ht8 := EU hp0
 obtain ⟨f0, e0⟩ : ∃ f, (tQ g).CQ = f := ⟨_, rfl⟩
 rw [e0] at hp0 hb2 hb5 ht8
 refine aF (aA (dG rfl (aD (aC (aF (aA (gy rfl ?_)))))))
 refine eI [(26, 10)] [26] [(26, Cont.cells 95 (cN (jc g)))] (KI g) rfl rfl (by repeat (first | exact fC | refine dD ?_ ?_ | exact cP rfl rfl)) pre_nil (cj (a := 26) (b := 10) (by exact List.mem_cons_self) rfl (bB (by exact List.mem_cons_self) rfl rfl rfl) post_nil) (fS (by exact List.mem_cons_self)) ?_
 refine eI (res' := Ty.agg (HY 771 (tQ g).CQ)) [(26, 1000), (771, 171)] [771] [(26, Cont.cells 95 (cN (tQ g).sk)), (771, Cont.vec gL 34 (tQ g).CQ.turnings)] (QF g) rfl rfl (by repeat (first | exact fC | refine dD ?_ ?_ | exact fS List.mem_cons_self | exact cP rfl rfl)) (dj (a := 26) (b := 1000) (by decide) rfl (bB (by decide) rfl rfl rfl) pre_nil) (cj (a := 26) (b := 1000) (by decide) rfl (bB (by decide) rfl rfl rfl) (cj (a := 771) (b := 171) (by decide) rfl (xC (by decide) rfl) post_nil)) (Nm (dD (dD (dD (dD fC (cP rfl rfl)) (Ct (by decide))) (cP rfl rfl)) (cP rfl rfl))) ?_
 refine dB rfl (by exact List.cons_ne_nil _ _) rfl ?_
 refine eG rfl rfl (by decide) rfl rfl rfl rfl rfl rfl ?_
 refine aD (aC ?_)
 refine qh (J := live [(1, Ty.sl J9 u), (5, Ty.ptr 6 0)] [(6, Cont.cells 28 (HY 771 (y6 f0))), (771, Cont.vec gL 34 (y6 f0).turnings)]) ?_ ?_
 ·refine aF ?_
  refine ju (tg := 6) rfl (Cont.sN (congrArg (HY 771) e0)) ?_
  refine ju (tg := 771) rfl (Cont.dF (congrArg bS.turnings e0)) ?_
  refine kK (B := live [(1, Ty.sl J9 u), (5, Ty.ptr 6 0)] [(6, Cont.cells 28 (HY 771 f0)), (771, Cont.vec gL 34 f0.turnings)]) ?_ ?_
  ·refine c8.mk' ?_ ?_
   ·(repeat (first | refine aB ?_ (Ty.aR _) | refine aB ?_ (Ty.aG _))); exact aI
   refine aJ rfl (Cont.aG _) ?_; refine aJ rfl (Cont.aG _) ?_; exact aH
  refine aA ?_
  refine aS rfl rfl rfl rfl rfl (by decide) ?_
  refine aj rfl rfl (by decide) rfl rfl rfl ?_
  refine cC rfl rfl rfl (ak rfl rfl rfl (aD (aC ?_)))
  refine aa rfl (fun hc1 => ?_) (fun hc1 => ?_)
  ·refine aF (aA ?_)
   refine aS rfl rfl rfl rfl rfl (by decide) ?_
   refine aj rfl rfl (by decide) rfl rfl rfl ?_
   refine Nz rfl rfl rfl rfl rfl rfl (by (dsimp only; omega)) ?_
   refine aS rfl rfl rfl rfl rfl (by decide) ?_
   refine dm rfl rfl (by decide) rfl rfl (by exact (rfl : _ = Ty.sl _ _)) rfl (by exact Nat.le_of_ble_eq_true rfl) rfl rfl (by exact rfl) ?_
   refine aD (aC (aF (aA ?_)))
   refine aS rfl rfl rfl rfl rfl (by decide) ?_
   refine aj rfl rfl (by decide) rfl rfl rfl ?_
   refine eI (res' := Ty.vs 771 (f0.turnings.filter jk).length) [(771, 1000)] [] [(771, Cont.vec gL 34 (f0.turnings.filter jk))] (Sf f0.turnings (by omega)) rfl rfl (dD (dD fC (cP rfl rfl)) (Ct (by exact List.mem_cons_self))) (dj (a := 771) (b := 1000) (by exact List.mem_cons_self) rfl (xC (by exact List.mem_cons_self) rfl) pre_nil) (cj (a := 771) (b := 1000) (by exact List.mem_cons_self) rfl (xC (by exact List.mem_cons_self) rfl) post_nil) (Ct (by exact List.mem_cons_self)) ?_
   refine aS rfl rfl rfl rfl rfl (by decide) ?_
   refine dm rfl rfl (by decide) rfl rfl (by exact (rfl : _ = Ty.vs _ _)) rfl (by exact Nat.le_of_ble_eq_true rfl) rfl rfl (by exact rfl) ?_
   refine aD (aC (aA ?_))
   refine aS rfl rfl rfl rfl rfl (by decide) ?_
   refine dm rfl rfl (by decide) rfl rfl (by exact (rfl : _ = Ty.ex _)) rfl (by exact Nat.le_of_ble_eq_true rfl) rfl rfl (by exact rfl) ?_
   refine aD (iC ?_)
   (refine c8.mk' ?_ ?_ <;> (repeat' (first | exact aI | exact aH | exact dI | refine aB ?_ (Ty.aR _) | refine aB ?_ (Ty.aG _) | refine aJ rfl (Cont.dJ ?_) ?_ | refine bX ?_ ?_ | refine aJ rfl ?_ ?_)))
   all_goals first | (refine Ty.sub_eq ?_; rw [EV hc1]; done) | (refine Cont.dF ?_; rw [EV hc1]; done) | (rw [EV hc1]; exact Ty.FJ)
  refine bA (iC ?_)
  (refine c8.mk' ?_ ?_ <;> (repeat' (first | exact aI | exact aH | exact dI | refine aB ?_ (Ty.aR _) | refine aB ?_ (Ty.aG _) | refine aJ rfl (Cont.dJ ?_) ?_ | refine bX ?_ ?_ | refine aJ rfl ?_ ?_)))
  all_goals first | (refine Ty.sub_eq ?_; rw [Ji hc1]; done) | (refine Cont.dF ?_; rw [Ji hc1]; done)
 refine aF ?_
 have hp := SL hp0
 obtain ⟨h1, h4, _⟩ := Pr hb2
 obtain ⟨f, ef⟩ : ∃ f, y6 f0 = f := ⟨_, rfl⟩
 rw [ef] at hp h1 h4
 have ht8 := EU hp
 refine ju (tg := 6) rfl (Cont.sN (congrArg (HY 771) ef)) ?_
 refine ju (tg := 771) rfl (Cont.dF (congrArg bS.turnings ef)) ?_
 refine ou (tg := 771) [] [(6, Cont.cells 28 (cv f))] (by decide) rfl trivial ⟨iG rfl rfl ⟨cx rfl, cx rfl, BA rfl rfl (by decide), cx rfl, trivial⟩, trivial⟩ ?_
 refine tW (tg := 6) [(5, Ty.pp (cv f))] (by decide) rfl ⟨v7 (T := 28) (tg := 6) (off := 0) (l := cv f) rfl rfl rfl (by decide), trivial⟩ ?_
 have hk := uc hp
 have hct := Jr hp h1 h4
 have hbr := (Ck hp).bears
 obtain ⟨hsm, hs1, hs2⟩ := L0 f hp h4
 refine kK (B := live [(1, Ty.sl J9 u), (5, Ty.pp (cv f))] []) ?_ ?_
 ·refine c8.mk' ?_ ?_
  ·(repeat (first | refine aB ?_ (Ty.aR _) | refine aB ?_ (Ty.aG _))); exact aI
  exact aH
 refine aA ?_
 refine eX rfl rfl (by exact List.cons_ne_nil _ _) rfl (by repeat (first | exact (aT.nil : aT _ _ [] _) | (show aT _ _ ((_, _) :: _) _; apply aT.one; (· exact (rfl : _ = Ty.int _ _)); (· exact rfl)))) (by exact (rfl : _ = some [_, _, _, _])) ?_
 refine dB rfl (by exact List.cons_ne_nil _ _) rfl ?_
 refine eG rfl rfl (by decide) rfl rfl rfl rfl rfl rfl ?_
 refine aD (aC (aF (aA ?_)))
 refine dB rfl (by exact List.cons_ne_nil _ _) rfl ?_
 refine aD (aC (aF (aF (aA ?_))))
 refine aP rfl rfl rfl rfl rfl (by decide) ?_
 refine aK rfl rfl rfl rfl (cC rfl rfl rfl (bF rfl (aD (aC (af ?_)))))
 refine cK (fun (k : {k : Nat // k ≤ f.bins.length}) => live [(1, Ty.sl J9 u), (5, Ty.pp (cv f)), (6, Ty.ptr 7 0), (7, Ty.ptr 8 0), (42, Ty.sl jX f.bins), (43, Ty.int .i64 f.bins.length), (44, Ty.int .i64 (k.1 : Nat))] [(7, Cont.cells 40 [Ty.int .i64 1, Ty.row jt 48 58 (JS f k.1), Ty.ex (.slice none 0 0), Ty.ex (.slice none 0 0)]), (8, Cont.cells 42 [Ty.row dN 3 65 (KL f k.1), Ty.ex (.slice none 0 0)])]) (fun k => f.bins.length - k.1) (⟨0, by omega⟩) ?_ fun k => ?_
 ·(refine c8.mk' ?_ ?_ <;> (repeat' (first | exact aI | exact aH | exact dI | refine aB ?_ (Ty.aR _) | refine aB ?_ (Ty.aG _) | refine aJ rfl (Cont.dJ ?_) ?_ | refine bX ?_ (Ty.aG _) | refine bX ?_ ?_)))
  all_goals first | exact jv Ue | exact jv T4
 have hk2 := k.2
 have hsl := F6 f k.1
 refine aF (aA (ak rfl rfl rfl (aD (aC (aF ?_)))))
 refine aa rfl (fun hc2 => ?_) (fun hc2 => ?_)
 ·refine bA (aC (aF (af (aF (aA ?_)))))
  refine bG rfl rfl rfl rfl rfl rfl (by omega) ?_
  refine ay rfl rfl rfl (by exact Nat.le_of_ble_eq_true rfl) ?_
  refine dB rfl (by exact List.cons_ne_nil _ _) rfl ?_
  refine eG rfl rfl (by decide) rfl rfl rfl rfl rfl rfl ?_
  refine aD (aC (aF (aA ?_)))
  refine aS rfl rfl rfl rfl rfl (by decide) ?_
  refine aj rfl rfl (by decide) rfl rfl rfl ?_
  refine aS rfl rfl rfl rfl rfl (by decide) ?_
  refine aj rfl rfl (by decide) rfl rfl rfl ?_
  refine aS rfl rfl rfl rfl rfl (by decide) ?_
  refine aj rfl rfl (by decide) rfl rfl rfl ?_
  refine eX rfl rfl (by exact List.cons_ne_nil _ _) rfl (by repeat (first | exact (aT.nil : aT _ _ [] _) | (show aT _ _ ((_, _) :: _) _; apply aT.one; (· exact (rfl : _ = Ty.int _ _)); (· exact rfl)))) (by exact (rfl : _ = some [_, _])) ?_
  refine eX rfl rfl (by exact List.cons_ne_nil _ _) rfl (by repeat (first | exact (aT.nil : aT _ _ [] _) | (show aT _ _ ((_, _) :: _) _; apply aT.one; (· exact (rfl : _ = Ty.int _ _)); (· exact rfl)) | (show aT _ _ ((_, _) :: _) _; apply aT.agg; (· exact (rfl : _ = Ty.agg _))))) (by exact (rfl : _ = some [_, _, _])) ?_
  refine bT (E := jt) (xs := [⟨300, ⟨(nth f.bins k.1).has, (nth f.bins k.1).has⟩⟩]) rfl rfl rfl rfl rfl (by decide) (by decide) (by repeat (first | exact (aT.nil : aT _ _ [] _) | (show aT _ _ ((_, _) :: _) _; apply aT.agg; (· exact (rfl : _ = Ty.agg _))))) (by exact rfl) rfl ?_
  refine fB rfl rfl (by decide) rfl rfl rfl rfl rfl rfl (by decide) (by (simp <;> omega)) (by (simp <;> omega)) ?_
  refine aS rfl rfl rfl rfl rfl (by decide) ?_
  refine dm rfl rfl (by decide) rfl rfl (by exact (rfl : _ = Ty.row _ _ _ _)) rfl (by exact Nat.le_of_ble_eq_true rfl) rfl rfl (by exact rfl) ?_
  refine aD (aC (aA ?_))
  refine aS rfl rfl rfl rfl rfl (by decide) ?_
  refine aj rfl rfl (by decide) rfl rfl rfl ?_
  refine aS rfl rfl rfl rfl rfl (by decide) ?_
  refine aj rfl rfl (by decide) rfl rfl rfl ?_
  refine bT (E := dN) (xs := [(nth f.bins k.1).has]) rfl rfl rfl rfl rfl (by decide) (by decide) (by repeat (first | exact (aT.nil : aT _ _ [] _) | (show aT _ _ ((_, _) :: _) _; apply aT.one; (· exact (rfl : _ = Ty.int _ _)); (· exact rfl)))) (by exact rfl) rfl ?_
  refine fB rfl rfl (by decide) rfl rfl rfl rfl rfl rfl (by decide) (by (simp <;> omega)) (by (simp <;> omega)) ?_
  refine aS rfl rfl rfl rfl rfl (by decide) ?_
  refine dm rfl rfl (by decide) rfl rfl (by exact (rfl : _ = Ty.row _ _ _ _)) rfl (by exact Nat.le_of_ble_eq_true rfl) rfl rfl (by exact rfl) ?_
  refine aD (bH (aC (aA ?_)))
  refine bz rfl rfl (by omega) (by omega) ?_
  refine bF rfl (aD ?_)
  refine bO (⟨k.1 + 1, by omega⟩) ?_ (by show f.bins.length - (k.1 + 1) < f.bins.length - k.1; omega)
  (refine c8.mk' ?_ ?_ <;> (repeat' (first | exact aI | exact aH | exact dI | refine aB ?_ (Ty.aR _) | refine aB ?_ (Ty.aG _) | refine aJ rfl (Cont.dJ ?_) ?_ | refine bX ?_ (Ty.aG _) | refine bX ?_ ?_)))
  all_goals skip
  all_goals first | exact Ty.ej (Uu (by omega)) | exact Ty.ej (Ud (by omega))
 refine cF (aL (aL (ah rfl (aC (aF (aF ?_))))))
 obtain ⟨k, hk2⟩ := k
 obtain rfl : k = f.bins.length := by have h1 : ¬ (k : Int) < (f.bins.length : Int) := hc2; have h2 : k ≤ f.bins.length := hk2; omega
 refine aA ?_
 refine aP rfl rfl rfl rfl rfl (by decide) ?_
 refine aK rfl rfl rfl rfl (cC rfl rfl rfl (bF rfl (aD (aC (af ?_)))))
 refine cK (fun (m : {m : Nat // m ≤ f.turnings.length}) => live [(1, Ty.sl J9 u), (5, Ty.pp (cv f)), (6, Ty.ptr 7 0), (7, Ty.ptr 8 0), (68, Ty.sl gL f.turnings), (69, Ty.int .i64 f.turnings.length), (70, Ty.int .i64 (m.1 : Nat))] [(7, Cont.cells 40 [Ty.int .i64 1, Ty.row jt 48 58 (JS f f.bins.length), Ty.row iY 50 88 (KZ f m.1), Ty.ex (.slice none 0 0)]), (8, Cont.cells 42 [Ty.row dN 3 65 (KL f f.bins.length), Ty.row dN 3 95 (MQ f m.1)])]) (fun m => f.turnings.length - m.1) (⟨0, by omega⟩) ?_ fun m => ?_
 ·(refine c8.mk' ?_ ?_ <;> (repeat' (first | exact aI | exact aH | exact dI | refine aB ?_ (Ty.aR _) | refine aB ?_ (Ty.aG _) | refine aJ rfl (Cont.dJ ?_) ?_ | refine bX ?_ (Ty.aG _) | refine bX ?_ ?_)))
  all_goals first | exact jv Uf | exact jv UR
 have hm := m.2
 have hsl := F6 f m.1
 refine aF (aA (ak rfl rfl rfl (aD (aC (aF ?_)))))
 refine aa rfl (fun hc3 => ?_) (fun hc3 => ?_)
 ·refine bA (aC (aF (af (aF (aA ?_)))))
  refine bG rfl rfl rfl rfl rfl rfl (by omega) ?_
  refine ay rfl rfl rfl (by exact Nat.le_of_ble_eq_true rfl) ?_
  refine dB rfl (by exact List.cons_ne_nil _ _) rfl ?_
  refine eG rfl rfl (by decide) rfl rfl rfl rfl rfl rfl ?_
  refine aD (aC (aF (aA ?_)))
  refine aS rfl rfl rfl rfl rfl (by decide) ?_
  refine aj rfl rfl (by decide) rfl rfl rfl ?_
  refine aS rfl rfl rfl rfl rfl (by decide) ?_
  refine aj rfl rfl (by decide) rfl rfl rfl ?_
  refine aS rfl rfl rfl rfl rfl (by decide) ?_
  refine aj rfl rfl (by decide) rfl rfl rfl ?_
  refine aS rfl rfl rfl rfl rfl (by decide) ?_
  refine aj rfl rfl (by decide) rfl rfl rfl ?_
  refine aS rfl rfl rfl rfl rfl (by decide) ?_
  refine aj rfl rfl (by decide) rfl rfl rfl ?_
  refine eX rfl rfl (by exact List.cons_ne_nil _ _) rfl (by repeat (first | exact (aT.nil : aT _ _ [] _) | (show aT _ _ ((_, _) :: _) _; apply aT.one; (· exact (rfl : _ = Ty.int _ _)); (· exact rfl)))) (by exact (rfl : _ = some [_, _])) ?_
  refine eX rfl rfl (by exact List.cons_ne_nil _ _) rfl (by repeat (first | exact (aT.nil : aT _ _ [] _) | (show aT _ _ ((_, _) :: _) _; apply aT.one; (· exact (rfl : _ = Ty.int _ _)); (· exact rfl)) | (show aT _ _ ((_, _) :: _) _; apply aT.agg; (· exact (rfl : _ = Ty.agg _))))) (by exact rfl) ?_
  refine bT (E := iY) (xs := [⟨0, (nth f.turnings m.1).src, (nth f.turnings m.1).dst, ⟨(nth f.turnings m.1).sacks, (nth f.turnings m.1).sacks⟩⟩]) rfl rfl rfl rfl rfl (by decide) (by decide) (by repeat (first | exact (aT.nil : aT _ _ [] _) | (show aT _ _ ((_, _) :: _) _; apply aT.agg; (· exact (rfl : _ = Ty.agg _))))) (by exact rfl) rfl ?_
  refine fB rfl rfl (by decide) rfl rfl rfl rfl rfl rfl (by decide) (by (simp <;> omega)) (by (simp <;> omega)) ?_
  refine aS rfl rfl rfl rfl rfl (by decide) ?_
  refine dm rfl rfl (by decide) rfl rfl (by exact (rfl : _ = Ty.row _ _ _ _)) rfl (by exact Nat.le_of_ble_eq_true rfl) rfl rfl (by exact rfl) ?_
  refine aD (aC (aA ?_))
  refine aS rfl rfl rfl rfl rfl (by decide) ?_
  refine aj rfl rfl (by decide) rfl rfl rfl ?_
  refine aS rfl rfl rfl rfl rfl (by decide) ?_
  refine aj rfl rfl (by decide) rfl rfl rfl ?_
  refine bT (E := dN) (xs := [(nth f.turnings m.1).sacks]) rfl rfl rfl rfl rfl (by decide) (by decide) (by repeat (first | exact (aT.nil : aT _ _ [] _) | (show aT _ _ ((_, _) :: _) _; apply aT.one; (· exact (rfl : _ = Ty.int _ _)); (· exact rfl)))) (by exact rfl) rfl ?_
  refine fB rfl rfl (by decide) rfl rfl rfl rfl rfl rfl (by decide) (by (simp <;> omega)) (by (simp <;> omega)) ?_
  refine aS rfl rfl rfl rfl rfl (by decide) ?_
  refine dm rfl rfl (by decide) rfl rfl (by exact (rfl : _ = Ty.row _ _ _ _)) rfl (by exact Nat.le_of_ble_eq_true rfl) rfl rfl (by exact rfl) ?_
  refine aD (bH (aC (aA ?_)))
  refine bz rfl rfl (by omega) (by omega) ?_
  refine bF rfl (aD ?_)
  refine bO (⟨m.1 + 1, by omega⟩) ?_ (by show f.turnings.length - (m.1 + 1) < f.turnings.length - m.1; omega)
  (refine c8.mk' ?_ ?_ <;> (repeat' (first | exact aI | exact aH | exact dI | refine aB ?_ (Ty.aR _) | refine aB ?_ (Ty.aG _) | refine aJ rfl (Cont.dJ ?_) ?_ | refine bX ?_ (Ty.aG _) | refine bX ?_ ?_)))
  all_goals skip
  all_goals first | exact Ty.ej (UI (by omega)) | exact Ty.ej (UQ (by omega))
 refine cF (aL (aL (ah rfl (aC (aF ?_)))))
 obtain ⟨m, hm⟩ := m
 obtain rfl : m = f.turnings.length := by have h1 : ¬ (m : Int) < (f.turnings.length : Int) := hc3; have h2 : m ≤ f.turnings.length := hm; omega
 refine ou (tg := 58) [] [(7, Cont.cells 40 [Ty.int .i64 1, Ty.sl jt (JS f f.bins.length), Ty.row iY 50 88 (KZ f f.turnings.length), Ty.ex (.slice none 0 0)])] (by decide) rfl trivial ⟨iG rfl rfl ⟨cx rfl, nF, cx rfl, cx rfl, trivial⟩, trivial⟩ ?_
 refine ou (tg := 88) [] [(7, Cont.cells 40 [Ty.int .i64 1, Ty.sl jt (JS f f.bins.length), Ty.sl iY (KZ f f.turnings.length), Ty.ex (.slice none 0 0)])] (by decide) rfl trivial ⟨iG rfl rfl ⟨cx rfl, cx rfl, nF, cx rfl, trivial⟩, trivial⟩ ?_
 refine kK (B := live [(1, Ty.sl J9 u), (5, Ty.pp (cv f)), (6, Ty.ptr 7 0), (7, Ty.ptr 8 0)] [(7, Cont.cells 40 [Ty.int .i64 1, Ty.sl jt (JS f f.bins.length), Ty.sl iY (KZ f f.turnings.length), Ty.ex (.slice none 0 0)]), (8, Cont.cells 42 [Ty.row dN 3 65 (KL f f.bins.length), Ty.row dN 3 95 (MQ f f.turnings.length)])]) ?_ ?_
 ·refine c8.mk' ?_ ?_
  ·(repeat (first | refine aB ?_ (Ty.aR _) | refine aB ?_ (Ty.aG _))); exact aI
  (repeat (refine aJ rfl (Cont.aG _) ?_)); exact aH
 refine ou (tg := 65) [] [(8, Cont.cells 42 [Ty.sl dN (KL f f.bins.length), Ty.row dN 3 95 (MQ f f.turnings.length)])] (by decide) rfl trivial ⟨iG rfl rfl ⟨nF, cx rfl, trivial⟩, trivial⟩ ?_
 refine ou (tg := 95) [] [(8, Cont.cells 42 [Ty.sl dN (KL f f.bins.length), Ty.sl dN (MQ f f.turnings.length)])] (by decide) rfl trivial ⟨iG rfl rfl ⟨cx rfl, nF, trivial⟩, trivial⟩ ?_
 refine ju (tg := 7) rfl (Cont.qL (l' := [Ty.int .i64 1, Ty.sl jt (JS f f.bins.length), Ty.sl iY (KZ f f.turnings.length), Ty.sl jh []]) ⟨Ty.aG _, Ty.aG _, Ty.aG _, Ty.FJ, trivial⟩) ?_
 refine ju (tg := 7) rfl (Cont.sN (Q7 f)) ?_
 refine ju (tg := 8) rfl (Cont.sN (Q0 f)) ?_
 refine kK (B := live [(1, Ty.sl J9 u), (5, Ty.pp (cv f)), (6, Ty.ptr 7 0), (7, Ty.ptr 8 0)] [(7, Cont.cells 40 (iF (jU f))), (8, Cont.cells 42 (oX (lz f)))]) ?_ ?_
 ·refine c8.mk' ?_ ?_
  ·(repeat (first | refine aB ?_ (Ty.aR _) | refine aB ?_ (Ty.aG _))); exact aI
  (repeat (refine aJ rfl (Cont.aG _) ?_)); exact aH
 refine aA ?_
 refine gO rfl rfl (by decide) rfl rfl (by exact Nat.le_of_ble_eq_true rfl) ?_
 refine gO rfl rfl (by decide) rfl rfl (by exact Nat.le_of_ble_eq_true rfl) ?_
 refine aq (Jb (jU f) hsm (lz f) hs1 hs2) rfl rfl rfl rfl rfl (FQ rfl (bt rfl rfl (bt rfl rfl (OU rfl (b9 rfl (aD (aC (aF ?_))))))))
 rw [hct]
 obtain ⟨C, eC⟩ : ∃ C, xI (jU f) (lz f) = C := ⟨_, rfl⟩
 have hC : C = g8 (jU f) (lz f) := by rw [← eC]; unfold xI; rw [if_pos hct]
 refine mq (s := 12) rfl (Ty.gl eC) ?_
 refine kK (B := live [(1, Ty.sl J9 u), (5, Ty.pp (cv f)), (12, Ty.sl uC C), (13, Ty.int .i64 0)] []) ?_ ?_
 ·refine c8.mk' ?_ ?_
  ·(repeat (first | refine aB ?_ (Ty.aR _) | refine aB ?_ (Ty.aG _))); exact aI
  exact aH
 refine cg mixed rfl (gy rfl ?_)
 refine eI [(105, 10)] [105] [(105, Cont.cells 95 (cN (jc u)))] (KI u) rfl rfl (by repeat (first | exact fC | refine dD ?_ ?_ | exact cP rfl rfl)) pre_nil (cj (a := 105) (b := 10) (by exact List.mem_cons_self) rfl (bB (by exact List.mem_cons_self) rfl rfl rfl) post_nil) (fS (by exact List.mem_cons_self)) ?_
 refine ay rfl rfl rfl (by exact Nat.le_of_ble_eq_true rfl) ?_
 refine eI [(105, 1000)] [] [(105, Cont.cells 95 (cN ((cM f (jc u) f.turnings.length).2)))] (Pk f hp (jc u) (F8 u)) rfl rfl (by repeat (first | exact fC | refine dD ?_ ?_ | exact fS List.mem_cons_self | exact cP rfl rfl)) (dj (a := 105) (b := 1000) (by exact List.mem_cons_self) rfl (bB (by exact List.mem_cons_self) rfl rfl rfl) pre_nil) (cj (a := 105) (b := 1000) (by exact List.mem_cons_self) rfl (bB (by exact List.mem_cons_self) rfl rfl rfl) post_nil) (cP rfl rfl) ?_
 refine OU rfl (aD ?_)
 refine ⟨by kernel_rfl, ?_⟩
 refine aC (aF ?_)
 have hor := GH hp (jc u)
 obtain ⟨L, eL⟩ : ∃ L, (cM f (jc u) f.turnings.length).1 = L := ⟨_, rfl⟩
 rw [eL] at hor
 have hLl := (lJ hor).1
 have hoe : gw f L = 0 := by
  have hM : gX f = 0 := by rw [← jN]; exact hp
  unfold gw
  rw [if_neg (by rw [hM]; exact fun h => h rfl)]; exact hor
 refine mq (s := 14) rfl (Ty.gl eL) ?_
 have hfs := Ck hp
 refine aA ?_
 refine ay rfl rfl rfl (by exact Nat.le_of_ble_eq_true rfl) ?_
 refine gy rfl ?_
 refine aq (QG f hfs L (by omega)) rfl rfl rfl rfl rfl ?_
 refine FQ rfl (bt rfl rfl (bt rfl rfl (OU rfl (b9 rfl (aD (aC (aF (aF ?_))))))))
 rw [hoe]
 obtain ⟨R, eR⟩ : ∃ R, rq f L = R := ⟨_, rfl⟩
 have hRl : R.length = L.length + 1 := by rw [← eR]; unfold rq; rw [if_neg (by rw [hoe]; exact fun h => h rfl)]; unfold gF; simp
 have hRr : ∀ k, k ≤ L.length → (nth R k).length = f.bears.length := fun k hk => by rw [← eR]; unfold rq; rw [if_neg (by rw [hoe]; exact fun h => h rfl)]; exact Ju hk
 have hCl : C.length = f.bins.length := by rw [hC, Me]; exact SZ f
 have hCr : ∀ i, i < f.bins.length → (nth C i).length = 2 := fun i hi => by rw [hC]; exact (Ek hp h1 h4 hi).1
 have hD : ∀ b, b < f.bears.length → u5 C f 0 b f.bins.length = nth (nth R 0) b ∧ u5 C f 1 b f.bins.length = nth (nth R L.length) b := fun b hb => by rw [hC, ← eR]; exact Kw hp h1 h4 hor hb
 refine mq (s := 15) rfl (Ty.gl eR) ?_
 refine kK (B := live [(5, Ty.pp (cv f)), (12, Ty.sl uC C), (13, Ty.int .i64 0), (14, Ty.sl dN L), (15, Ty.sl zY R), (16, Ty.int .i64 0)] []) ?_ ?_
 ·refine c8.mk' ?_ ?_
  ·(repeat (first | refine aB ?_ (Ty.aR _) | refine aB ?_ (Ty.aG _))); exact aI
  exact aH
 refine aA (bF rfl (ak rfl rfl rfl (kV rfl ?_)))
 apply aN (s := 115) rfl rfl rfl
 ·intro hg; apply aQ; (refine bF rfl ?_); refine aD ?_; exact rfl
 ·exact rfl
 ·exact rfl
 apply aN (s := 115) rfl rfl rfl
 ·intro hg; apply aM (s := 116) rfl (by (rw [hg]; rfl)); apply aQ; (refine ak rfl rfl rfl ?_); refine aD ?_; exact rfl
 ·exact rfl
 ·exact rfl
 refine oB rfl rfl (kV rfl ?_)
 apply aN (s := 119) rfl rfl rfl
 ·intro hg; apply aQ; (refine gy rfl ?_); refine aD ?_; exact rfl
 ·exact rfl
 ·exact rfl
 apply aN (s := 119) rfl rfl rfl
 ·intro hg; apply aM (s := 120) rfl (by (rw [hg]; rfl)); apply aQ; (refine cC rfl rfl rfl ?_); refine aD ?_; exact rfl
 ·exact rfl
 ·exact rfl
 apply aN (s := 119) rfl rfl rfl
 ·intro hg; apply aQ; (refine aP rfl rfl rfl rfl rfl (by decide) ?_); refine aD ?_; exact rfl
 ·exact rfl
 ·exact rfl
 apply aN (s := 119) rfl rfl rfl
 ·intro hg; apply aM (s := 122) rfl (by (rw [hg]; rfl)); apply aQ; (refine aK rfl rfl rfl rfl ?_); refine aD ?_; exact rfl
 ·exact rfl
 ·exact rfl
 apply aN (s := 119) rfl rfl rfl
 ·intro hg; apply aM (s := 123) rfl (by (rw [hg]; rfl)); apply aQ; (refine cC rfl rfl rfl ?_); refine aD ?_; exact rfl
 ·exact rfl
 ·exact rfl
 apply aN (s := 119) rfl rfl rfl
 ·intro hg; apply aM (s := 121) rfl (by (rw [hg]; rfl)); apply aM (s := 124) rfl (by (rw [hg]; rfl)); apply aQ; (refine ak rfl rfl rfl ?_); refine aD ?_; exact rfl
 ·exact rfl
 ·exact rfl
 refine oB rfl rfl (kV rfl ?_)
 apply aN (s := 127) rfl rfl rfl
 ·intro hg; apply aQ; (refine gy rfl ?_); refine aD ?_; exact rfl
 ·exact rfl
 ·exact rfl
 apply aN (s := 127) rfl rfl rfl
 ·intro hg; apply aM (s := 128) rfl (by (rw [hg]; rfl)); apply aQ; (refine cC rfl rfl rfl ?_); refine aD ?_; exact rfl
 ·exact rfl
 ·exact rfl
 apply aN (s := 127) rfl rfl rfl
 ·intro hg; apply aQ; (refine gy rfl ?_); refine aD ?_; exact rfl
 ·exact rfl
 ·exact rfl
 apply aN (s := 127) rfl rfl rfl
 ·intro hg; apply aM (s := 130) rfl (by (rw [hg]; rfl)); apply aQ; (refine cC rfl rfl rfl ?_); refine aD ?_; exact rfl
 ·exact rfl
 ·exact rfl
 apply aN (s := 127) rfl rfl rfl
 ·intro hg; apply aM (s := 131) rfl (by (rw [hg]; rfl)); apply aQ; (refine bz rfl rfl (by omega) (by omega) ?_); refine aD ?_; exact rfl
 ·exact rfl
 ·exact rfl
 apply aN (s := 127) rfl rfl rfl
 ·intro hg; apply aM (s := 129) rfl (by (rw [hg]; rfl)); apply aM (s := 132) rfl (by (rw [hg]; rfl)); apply aQ; (refine ak rfl rfl rfl ?_); refine aD ?_; exact rfl
 ·exact rfl
 ·exact rfl
 refine oB rfl rfl (aD (aC ?_))
 refine iP rfl (by simp [hCl, hRl]) ?_
 refine bA (aC (aF (aF (aA (gy rfl (cC rfl rfl rfl ?_))))))
 refine bT (E := dN) (xs := [0, (L.length : Nat)]) rfl rfl rfl rfl rfl (by decide) (by decide) (by repeat (first | exact (aT.nil : aT _ _ [] _) | (show aT _ _ ((_, _) :: _) _; apply aT.one; (· exact (rfl : _ = Ty.int _ _)); (· exact rfl)))) (by exact rfl) rfl ?_
 refine cC rfl rfl rfl (bF rfl (aD (aC (af ?_))))
 refine cK (fun (a : {a : Nat // a ≤ 2}) => live [(5, Ty.pp (cv f)), (12, Ty.sl uC C), (14, Ty.sl dN L), (15, Ty.sl zY R), (137, Ty.sl dN [0, (L.length : Nat)]), (138, Ty.int .i64 2), (139, Ty.int .i64 (a.1 : Nat))] []) (fun a => 2 - a.1) (⟨0, by omega⟩) ?_ fun a => ?_
 ·(refine c8.mk' ?_ ?_ <;> (repeat' (first | exact aI | exact aH | refine aB ?_ (Ty.aR _) | refine aB ?_ (Ty.aG _))))
  all_goals trace_state
 have ha := a.2
 refine aF (aA (ak rfl rfl rfl (aD (aC (aF ?_)))))
 refine aa rfl (fun hc5 => ?_) (fun hc5 => ?_)
 ·refine bA (aC (aF (af (aF (aA (bF rfl ?_))))))
  refine bG rfl rfl rfl rfl rfl rfl (by (simp <;> omega)) ?_
  refine aK rfl rfl rfl rfl (b9 rfl (b9 rfl (aD (aC (aF (aF ?_))))))
  obtain ⟨T, hT1, hT2, hT3⟩ : ∃ T : Nat, nth [0, ((L.length : Nat) : Int)] a.1 = (T : Nat) ∧ T ≤ L.length ∧ ∀ b, b < f.bears.length → u5 C f a.1 b f.bins.length = nth (nth R T) b := by
   rcases (show a.1 = 0 ∨ a.1 = 1 by omega) with e | e <;> rw [e]
   ·exact ⟨0, UM, Nat.zero_le _, fun b hb => (hD b hb).1⟩
   exact ⟨L.length, UH, Nat.le_refl _, fun b hb => (hD b hb).2⟩
  refine mq (s := 18) rfl (Ty.bJ hT1) ?_
  have hRT := hRr T hT2
  refine cg mixed rfl (gy rfl (bF rfl ?_))
  refine bG rfl rfl rfl rfl rfl rfl (by omega) ?_
  refine aK rfl rfl rfl rfl (cC rfl rfl rfl ?_)
  refine aP rfl rfl rfl rfl rfl (by decide) ?_
  refine aK rfl rfl rfl rfl (cC rfl rfl rfl (ak rfl rfl rfl (aD ?_)))
  refine ⟨by kernel_rfl, ?_⟩
  refine aC ?_
  refine iP rfl (by simp [hRT]) ?_
  refine bA (aC (aF (aA (gy rfl (bF rfl ?_)))))
  refine bG rfl rfl rfl rfl rfl rfl (by omega) ?_
  refine aK rfl rfl rfl rfl (cC rfl rfl rfl (bF rfl (aD (aC (af ?_)))))
  refine cK (fun (y : {y : Nat // y ≤ f.bears.length}) => live [(5, Ty.pp (cv f)), (12, Ty.sl uC C), (14, Ty.sl dN L), (15, Ty.sl zY R), (137, Ty.sl dN [0, (L.length : Nat)]), (138, Ty.int .i64 2), (139, Ty.int .i64 (a.1 : Nat)), (17, Ty.int .i64 (a.1 : Nat)), (156, Ty.sl dN (nth R T)), (157, Ty.int .i64 (nth R T).length), (158, Ty.int .i64 (y.1 : Nat))] []) (fun y => f.bears.length - y.1) (⟨0, by omega⟩) ?_ fun y => ?_
  ·(refine c8.mk' ?_ ?_ <;> (repeat' (first | exact aI | exact aH | refine aB ?_ (Ty.aR _) | refine aB ?_ (Ty.aG _))))
   all_goals trace_state
  have hy := y.2
  refine aF (aA (ak rfl rfl rfl (aD (aC (aF ?_)))))
  refine aa rfl (fun hc7 => ?_) (fun hc7 => ?_)
  ·refine bA (aC (aF (af (aF (aA (bF rfl ?_))))))
   refine bG rfl rfl rfl rfl rfl rfl (by omega) ?_
   refine aK rfl rfl rfl rfl (b9 rfl (b9 rfl (aD (aC (aF (aA (b9 rfl (aD (aC (aF (aF (aA ?_))))))))))))
   refine aP rfl rfl rfl rfl rfl (by decide) ?_
   refine aK rfl rfl rfl rfl (cC rfl rfl rfl (bF rfl (aD (aC (af ?_)))))
   refine cK (fun (i : {i : Nat // i ≤ f.bins.length}) => live [(5, Ty.pp (cv f)), (12, Ty.sl uC C), (14, Ty.sl dN L), (15, Ty.sl zY R), (137, Ty.sl dN [0, (L.length : Nat)]), (138, Ty.int .i64 2), (139, Ty.int .i64 (a.1 : Nat)), (17, Ty.int .i64 (a.1 : Nat)), (156, Ty.sl dN (nth R T)), (157, Ty.int .i64 (nth R T).length), (158, Ty.int .i64 (y.1 : Nat)), (19, Ty.int .i64 (y.1 : Nat)), (20, Ty.int .i64 (nth (nth R T) y.1)), (21, Ty.int .i64 (u5 C f a.1 y.1 i.1)), (164, Ty.sl jX f.bins), (165, Ty.int .i64 f.bins.length), (166, Ty.int .i64 (i.1 : Nat))] []) (fun i => f.bins.length - i.1) (⟨0, by omega⟩) ?_ fun i => ?_
   ·(refine c8.mk' ?_ ?_ <;> (repeat' (first | exact aI | exact aH | refine aB ?_ (Ty.aR _) | refine aB ?_ (Ty.aG _) | refine aB ?_ ?_)))
    all_goals exact Ty.bJ R9
   have hi := i.2
   refine aF (aA (ak rfl rfl rfl (aD (aC (aF ?_)))))
   refine aa rfl (fun hc8 => ?_) (fun hc8 => ?_)
   ·refine bA (aC (aF (af (aF (aA (bF rfl ?_))))))
    refine bG rfl rfl rfl rfl rfl rfl (by omega) ?_
    refine ay rfl rfl rfl (by exact Nat.le_of_ble_eq_true rfl) ?_
    refine dB rfl (by exact List.cons_ne_nil _ _) rfl ?_
    refine b9 rfl ?_
    refine eG rfl rfl (by decide) rfl rfl rfl rfl rfl rfl ?_
    refine aD (aC (aF (aF ?_)))
    have hCi := hCr i.1 (by omega)
    have hsh := hk.len _ (bL (xs := f.bins) (k := i.1) (by omega))
    have hdb := PT hp h1 h4 (show a.1 < 2 by omega) y.1 i.1 (by omega)
    have hcb := vl hp h1 h4 (show a.1 < 2 by omega) (show i.1 < f.bins.length by omega)
    have hsb := GR hp (show i.1 < f.bins.length by omega) y.1
    have hms := KX hcb hsb
    rw [← hC] at hdb hcb hms
    refine aA (gy rfl (bF rfl ?_))
    refine bG rfl rfl rfl rfl rfl rfl (by omega) ?_
    refine aK rfl rfl rfl rfl (cC rfl rfl rfl (ak rfl rfl rfl (aD (aC ?_))))
    refine iP rfl (by simp [hCi]) ?_
    refine bA (aC (cg mixed rfl (bF rfl (gy rfl (bF rfl ?_)))))
    refine bG rfl rfl rfl rfl rfl rfl (by omega) ?_
    refine aK rfl rfl rfl rfl (bF rfl ?_)
    refine bG rfl rfl rfl rfl rfl rfl (by omega) ?_
    refine aK rfl rfl rfl rfl ?_
    refine aS rfl rfl rfl rfl rfl (by decide) ?_
    refine aj rfl rfl (by decide) rfl rfl rfl ?_
    refine bF rfl ?_
    refine bG rfl rfl rfl rfl rfl rfl (by omega) ?_
    refine aK rfl rfl rfl rfl ?_
    refine Oz rfl rfl (by omega) (by omega) ?_
    refine bz rfl rfl (by omega) (by omega) ?_
    refine b9 rfl (aD ?_)
    refine ⟨by kernel_rfl, ?_⟩
    refine bH (aC (aA ?_))
    refine bz rfl rfl (by omega) (by omega) ?_
    refine bF rfl (aD ?_)
    refine bO (⟨i.1 + 1, by omega⟩) ?_ (by show f.bins.length - (i.1 + 1) < f.bins.length - i.1; omega)
    (refine c8.mk' ?_ ?_ <;> (repeat' (first | exact aI | exact aH | refine aB ?_ (Ty.aR _) | refine aB ?_ (Ty.aG _) | refine aB ?_ ?_)))
    all_goals skip
    all_goals exact Ty.bJ Rq
   refine cF (aL (aL (ah rfl (aC (aF ?_)))))
   have hie : i.1 = f.bins.length := by omega
   have hfin := hT3 y.1 (by omega)
   refine aA (bF rfl (bF rfl (ak rfl rfl rfl (aD (aC ?_)))))
   refine iP rfl (by rw [hie, hfin]; simp) ?_
   refine bA (bH (aC (aA ?_)))
   refine bz rfl rfl (by omega) (by omega) ?_
   refine bF rfl (aD ?_)
   refine bO (⟨y.1 + 1, by omega⟩) ?_ (by show f.bears.length - (y.1 + 1) < f.bears.length - y.1; omega)
   (refine c8.mk' ?_ ?_ <;> (repeat' (first | exact aI | exact aH | refine aB ?_ (Ty.aR _) | refine aB ?_ (Ty.aG _))))
   all_goals skip
   all_goals trace_state
  refine cF (aL (aL (ah rfl (bH (aC (aA ?_))))))
  refine bz rfl rfl (by omega) (by omega) ?_
  refine bF rfl (aD ?_)
  refine bO (⟨a.1 + 1, by omega⟩) ?_ (by show 2 - (a.1 + 1) < 2 - a.1; omega)
  (refine c8.mk' ?_ ?_ <;> (repeat' (first | exact aI | exact aH | refine aB ?_ (Ty.aR _) | refine aB ?_ (Ty.aG _))))
  all_goals skip
  all_goals trace_state
 refine cF (aL (aL (ah rfl (aC (aF (aA (aq (Ob) rfl rfl rfl rfl rfl (dG rfl (aD (aC (av (bK rfl rfl ?_))))))))))))
 all_goals exact bN rfl rfl
 all_goals trace_state
end Go.Proofs.YtmmcenjknimhbaaGreat
namespace Go.T
open Go Go.RowKit Go.ChangeShapes Go.WideShapes Go.ChangeAt
def uE : az := fun _ => none
theorem RL (w : World) : Wf w uE := ⟨fun _ _ h => (by cases h), fun _ _ _ _ h => (by cases h)⟩
theorem MR : ∀ b t, uE b = some t → t = 0 := fun _ _ h => by cases h
structure Rd {α : Type} (P : Program) (e : TypeId) (E : El α) : Prop where
  size : P.cellsOf e = E.size
  pos : 0 < E.size
  rd : ∀ {H : Type} {enc : TypeId × Value → H} {w : World} {base : Nat} {held : Bool} {n : Nat} {cs : List Value} {y : DataW H × List MemPlace}, DataW.trod enc P w base (fun _ => true) held n e cs = some y → ∃ x, cD w uE (E.tys x) cs
section
variable {H : Type} {enc : TypeId × Value → H} {P : Program} {w : World} {base : Nat} {held : Bool} {α : Type} {E : El α} {t e : TypeId} {n : Nat} {cs : List Value} {y : DataW H × List MemPlace}
theorem UD (hR : Rd P e E) (ht : P.underlying t = some (.slice e)) (h : DataW.trod enc P w base (fun _ => true) held n t cs = some y) : ∃ v xs, cs = [v] ∧ (Ty.sl E xs).den w uE v := by
 rcases Go.Deep.open_slice ht h with ⟨rfl, _⟩ | ⟨a, len, cap, m, k, D, Pl, rfl, _, hl, hm, hmm, _, hel⟩
 ·exact ⟨_, [], rfl, none, 0, rfl, Nat.le_refl _, Nat.zero_le _, fun h => absurd h (Nat.lt_irrefl _)⟩
 have hlm : len ≤ m := by rw [hmm]; simpa using hl
 have hX : ∀ i : Fin len, ∃ x : α, ∃ cs', w.cells? base (a.add (i.1 * P.cellsOf e)) (P.cellsOf e) = some cs' ∧ cD w uE (E.tys x) cs' := fun i => by
  obtain ⟨cs', h1, h2⟩ := hel i.1 (Nat.lt_of_lt_of_le i.2 hlm)
  obtain ⟨x, hx⟩ := hR.rd h2
  exact ⟨x, cs', h1, hx⟩
 let X : Fin len → α := fun i => (hX i).choose
 have hXs : ∀ i : Fin len, ∃ cs', w.cells? base (a.add (i.1 * P.cellsOf e)) (P.cellsOf e) = some cs' ∧ cD w uE (E.tys (X i)) cs' := fun i => (hX i).choose_spec
 have hlen : (List.ofFn X).length = len := by simp
 refine ⟨_, List.ofFn X, rfl, some a, cap, by rw [hlen], by rw [hlen]; exact hl, hm, fun h0 => ?_⟩
 rw [hlen] at h0
 have hcell : ∀ (i : Fin len) (j : Nat) (u : Ty), (E.tys (X i))[j]? = some u → ∃ v, w.cell? (a.add (i.1 * E.size + j)) = some v ∧ u.den w uE v := fun i j u hu => by
  obtain ⟨cs', h1, h2⟩ := hXs i
  obtain ⟨v, hv, hd⟩ := dQ h2 j u hu
  obtain ⟨_, g1, g2⟩ := World.cells?_some h1
  have hj : j < P.cellsOf e := by
   rw [hR.size, ← E.len (X i)]
   exact (List.getElem?_eq_some_iff.1 hu).1
  refine ⟨v, ?_, hd⟩
  have := g2 j hj
  rw [Go.Deep.add_add, hv, hR.size] at this
  exact this
 have hsz := hR.pos
 have hfirst : ∃ v, w.cell? (a.add 0) = some v := by
  obtain ⟨u, hu⟩ : ∃ u, (E.tys (X ⟨0, h0⟩))[0]? = some u := ⟨_, List.getElem?_eq_getElem (by rw [E.len]; exact hsz)⟩
  obtain ⟨v, hv, _⟩ := hcell ⟨0, h0⟩ 0 u hu
  exact ⟨v, by simpa using hv⟩
 obtain ⟨b, off, sp⟩ := a
 obtain ⟨v0, hv0⟩ := hfirst
 have hsp : sp = none := by simpa [Addr.add] using World.cell?_spot hv0
 subst hsp
 have hb : b < w.heap.size := by
  obtain ⟨cs', h1, _⟩ := hXs ⟨0, h0⟩
  have := World.cells?_block h1 (by rw [hR.size]; exact hsz)
  simpa [Addr.add] using this
 refine ⟨b, off, rfl, rfl, hb, fun i u hu => ?_⟩
 have hi : i < len * E.size := by
  have := (List.getElem?_eq_some_iff.1 hu).1
  rw [c6, hlen] at this; exact this
 have hk : i / E.size < len := Nat.div_lt_of_lt_mul (by rw [Nat.mul_comm]; exact hi)
 have hj : i % E.size < E.size := Nat.mod_lt _ hsz
 have hij : i / E.size * E.size + i % E.size = i := by rw [Nat.mul_comm]; exact Nat.div_add_mod i E.size
 have hu2 := hu
 rw [← hij, vD E _ _ _ (by rw [hlen]; exact hk) hj, List.getElem?_ofFn, dif_pos hk] at hu2
 obtain ⟨v, hv, hd⟩ := hcell ⟨i / E.size, hk⟩ (i % E.size) u hu2
 refine ⟨v, ?_, hd⟩
 rw [← Go.WideShapes.add_plain]
 rw [hij] at hv
 exact hv
theorem TD {c : Value} (hR : Rd P e E) (ht : P.underlying t = some (.slice e)) (h : DataW.trod enc P w base (fun _ => true) held n t [c] = some y) : ∃ xs, (Ty.sl E xs).den w uE c := by
 obtain ⟨v, xs, e, hd⟩ := UD hR ht h
 exact ⟨xs, by rw [show c = v by simpa using e]; exact hd⟩
end
section
variable {w w' : World} {S K : Nat → Prop} {M' : az}
theorem vu (le : Le S K w uE w' M') {b : Nat} (hb : b < w.heap.size) : w'.heap[b]? = w.heap[b]? := (le.qz b hb rfl).2
theorem Qd (le : Le S K w uE w' M') {p : MemPlace} (hp : p.block < w.heap.size) : w.sameAt w' p := by
  cases p with
  | cell b o => exact World.cell?_of_block (w := w) (vu le hp)
  | map b => exact vu le hp
theorem Qo (le : Le S K w uE w' M') (may : MemPlace → Prop) : w.keptBut w' may := by
 refine ⟨le.os, le.out, fun i hi => ?_⟩
 have e := vu le hi
 rw [e]
 split
 ·rename_i h1 h2
  rw [h1] at h2
  simp only [Option.some.injEq, Obj.cells.injEq] at h2
  obtain ⟨rfl, rfl, rfl⟩ := h2
  exact ⟨rfl, rfl, rfl, fun _ _ => rfl⟩
 ·rename_i h1 h2
  rw [h1] at h2
  simp only [Option.some.injEq, Obj.map.injEq] at h2
  exact Or.inr ⟨h2.1.symm, h2.2.symm⟩
 rfl
theorem Mr (le : Le S K w uE w' M') {a : Addr} (ha : a.block < w.heap.size) : w'.frozen? a = w.frozen? a := by
 unfold World.frozen?
 rw [vu le ha]
end
section
variable {H : Type} {enc : TypeId × Value → H} {P : Program}
theorem uA (hl : laidOutB P = true) {w w' : World} {sp : Nat → Bool} : ∀ {ts : List TypeId} {vs : List Value} {ds : List (DataW H)} {ps : List MemPlace}, (∀ t ∈ ts, P.readableRec t = true ∧ t < P.types.size) →
    DataW.TrodAll enc P w 0 (fun _ => true) true ts vs ds ps → (∀ p ∈ ps, w.sameAt w' p) → (∀ p ∈ ps, sp p.block = true) → DataW.TrodAll enc P w' 0 sp true ts vs ds ps
  | [], [], [], _, _, h, _, _ => h
  | t :: ts, v :: vs, d :: ds, _, ht, ⟨p, q, h1, h2, e⟩, hs, hsp => by
    subst e
    have h0 := ht t List.mem_cons_self
    exact ⟨p, q, Go.WideElems.Trod_stays hl h0.1 h0.2 h1 (fun x hx => hs x (List.mem_append_left _ hx)) (fun x hx => hsp x (List.mem_append_left _ hx)),
      uA hl (fun t h => ht t (List.mem_cons_of_mem _ h)) h2 (fun x hx => hs x (List.mem_append_right _ hx)) (fun x hx => hsp x (List.mem_append_right _ hx)), rfl⟩
theorem K3 {f : Func} {s : ChangeSpec} {apart fresh handsOn again : Bool} {W W' : World} {args : Array Value} {ds : List (DataW H)} {before : List MemPlace} {S K : Nat → Prop} {M' : az}
 (hl : laidOutB P = true) (hv : s.vars = []) (hrd : ∀ t ∈ f.params.toList, P.readableRec t = true ∧ t < P.types.size) {tb : TypeId} (htb : P.underlying tb = some .bool) (hrt : f.resultTypes = #[tb])
 (hW : DataW.Whole enc P f.params.toList s.vars apart W args.toList ds [] before) (hres : (s.fn H (ds ++ [])).results = [.lit (.bool true)]) (hargs : (s.fn H (ds ++ [])).args = ds) (hvars : (s.fn H (ds ++ [])).vars = [])
 (le : Le S K W uE W' M') : s.post enc P f apart fresh handsOn again W args (.bool true) W' := by
 have hW0 := hW
 obtain ⟨p, q, hA, hV, hb, hfz, hn⟩ := hW0
 have hlt := DataW.TrodAll.lt hA
 have hq : q = [] := by rw [hv] at hV; exact (trodVars_none hV).2
 subst hq
 have hbp : before = p := by rw [hb]; simp
 have hre : ∀ (b : Nat) (sp : Nat → Bool) (hd : Bool), DataW.TrodAll enc P W' b sp hd f.resultTypes.toList ((Value.bool true).resultList f.resultTypes.size) (s.fn H (ds ++ [])).results [] := fun b sp hd => by
  rw [hrt, hres]; exact trodAll_mk1 (shut_bool htb true)
 have har : ∀ sp : Nat → Bool, (∀ x ∈ p, sp x.block = true) → DataW.TrodAll enc P W' 0 sp true f.params.toList args.toList (s.fn H (ds ++ [])).args p := fun sp hsp => by
  rw [hargs]; exact uA hl hrd hA (fun x hx => Qd le (hlt x hx)) hsp
 have hva : ∀ sp : Nat → Bool, DataW.TrodVars enc P W' sp s.vars (s.fn H (ds ++ [])).vars [] := fun sp => by
  rw [hvars, hv]; exact rfl
 have hok : ∀ (j : Nat) (t : TypeId) (r : Value), f.resultTypes[j]? = some t → ((Value.bool true).resultList f.resultTypes.size)[j]? = some r → Value.okWide P W' .any 0 t r := by
  exact ok_one (by rw [hrt]) rfl (okWide_bool_mk htb true)
 refine ⟨ds, [], before, [], p, [], hW, hre _ _ _, har _ (fun x hx => by simpa using hlt x hx), hva _, World.keptBut_mono (fun x hx => hx) (Qo le _), fun _ => ?_⟩
 refine ⟨hok, _, _, ([] ++ p) ++ [], ⟨[] ++ p, [], trodAll_append (har _ (fun _ _ => rfl)) (hre _ _ _), hva _, rfl, ?_, ?_⟩, ?_⟩
 ·intro b off hp
  have hp' : MemPlace.cell b off ∈ p := by simpa using hp
  rw [Mr le (hlt _ hp')]
  exact hfz b off (by rw [hbp]; exact hp')
 ·intro ha
  have := hn ha
  rw [hbp] at this
  simpa using this
 intro x hx _
 rw [hbp]
 simpa using hx
end
end Go.T
namespace Go.Proofs.YtmmcenjknimhbaaGreat
open Go Go.T Go.RowKit Go.ChangeShapes Go.WideShapes Go.ChangeAt
theorem U4 : Rd Tryz.prog 5 J9 := ⟨by kernel_rfl, by decide, fun h => by
 obtain ⟨i, rfl, _⟩ := DataW.trod_int Tryz.underlying5 h
 exact ⟨i, rfl, trivial⟩⟩
section
variable {H : Type} {enc : TypeId × Value → H} {W : World} {base : Nat} {held : Bool} {v : Value} {d : DataW H} {p : List MemPlace}
set_option maxRecDepth 100000 in
theorem Fy (hv : Value.okWide Tryz.prog W .any base 22 v) (h : DataW.Trod enc Tryz.prog W 0 (fun _ => true) held 22 v d p) : ∃ l, (Ty.sl J9 l).den W uE v := by
 obtain ⟨a, len, cap, rfl⟩ := okWide_slice Tryz.underlying22 hv
 obtain ⟨n, hn⟩ := h
 exact TD U4 Tryz.underlying22 (by simpa [Value.cells] using hn)
end
end Go.Proofs.YtmmcenjknimhbaaGreat
