/- Lemmas: the program and the reference walked, plain laws. -/
import Derived.Test.YtmmcenjknimhbaaGreatZd
namespace Go.Proofs.YtmmcenjknimhbaaGreat
open Go Go.T
attribute [local irreducible] eG cZ jR j6 eP eO eK eM eS j8 eJ j4 b8 dc jz dZ j7 nth eZ cU aV cX bodyPost Exit.then Exit.inBlock Code.wp Code.wpIn dS mz mm m5 fT mq m7 fW mW eB fO lq bW bV bodyPostM cV
theorem tI : Tryz.prog.underlying 3 = some (.int .i64) := by kernel_rfl
theorem q4 : zeroOf Tryz.prog 3 = some (.int .i64 0) := by kernel_rfl
theorem fS : mapOf Tryz.prog 163 = some (3, 3) := by kernel_rfl
theorem qZ (f : bS) (hs : f.Small) (b : Bool) : cX Tryz.prog 54 [iT f, Ty.bool b] (Ty.tE [Ty.when (decide (fA f b = 0)) (Ty.pe fF (aX f) 0), Ty.int .i64 (fA f b)]) := by
  by_cases h0 : bk f = 0
  · cases b with
    | true =>
      have e : fA f true = 1 := by rw [fA, if_neg (fun h => h h0), if_pos rfl]
      rw [e]
      exact (JT f hs h0).mono (Ty.Aq (Ty.rG rfl fun h => by simp at h) (Ty.aG _))
    | false =>
      have e : fA f false = 0 := by rw [fA, if_neg (fun h => h h0), if_neg (by simp)]
      rw [e, mC h0]
      exact (NN f hs h0).mono (Ty.Aq (Ty.rG rfl fun _ => Ty.aG _) (Ty.aG _))
  · have e : fA f b = bk f := by rw [fA, if_pos h0]
    rw [e]
    exact (I6 f hs b h0).mono (Ty.Aq (Ty.rG rfl fun h => by simp [h0] at h) (Ty.aG _))
set_option maxRecDepth 100000 in
theorem SX (b : SB) (hb : kO b) (q : Nat → Bool) (t : Ty) (h1 : t.deps = []) (h2 : t.cdeps = []) (hq : ∀ s : Nat, s < 256 → oz Tryz.prog t [Ty.int .i64 (s : Nat)] (Ty.bool (q s))) : cX Tryz.prog 103 [Ty.pe fF b 0, Ty.agg [Ty.nd t h1 h2]] (Ty.pm (Value.int .i64) qV (iJ b q)) := by
 refine aY Tryz.func103 rfl (by decide) Tryz.ntmps103 (by exact Nat.le_of_ble_eq_true rfl) fun w0 M0 => ?_
 have hnt := hb.nt
 have hsl := q7 hnt
 obtain ⟨N, hN⟩ : ∃ N, N = 1 <<< b.1.f.turnings.length := ⟨_, rfl⟩
 refine aF (aA (bD rfl (mN rfl (aD (aC (aF (aA (xD (Value.int .i64) qV fS rfl (VG rfl (aD (aC (aF (aF (aA (mJ rfl ?_)))))))))))))))
 refine dR rfl ?_
 refine dO rfl rfl rfl rfl rfl (by decide) ?_
 refine dO rfl rfl rfl rfl rfl (by decide) ?_
 refine gK rfl rfl rfl rfl (cC rfl rfl rfl ?_)
 refine nu (a := 1) rfl rfl (by omega) (by omega) ?_
 refine jB rfl rfl (by omega) (by omega) ?_
 refine b9 rfl (aD (aC (af ?_)))
 refine cK (fun (k : {k : Nat // k ≤ N}) => live [(0, Ty.pe fF b 0), (3, Ty.pp [Ty.nd t h1 h2]), (5, Ty.mp 9), (6, Ty.int .i64 ((N : Int) - (k.1 + 1)))] [(9, Cont.mp (Value.int .i64) qV (gC b q N k.1))]) (fun k => N - k.1) (⟨0, by omega⟩) ?_ fun k => ?_
 ·(refine c8.mk' ?_ ?_ <;> (repeat' (first | exact aI | exact aH | refine aB ?_ (Ty.aR _) | refine aB ?_ (Ty.aG _) | refine aJ rfl (Cont.aG _) ?_ | refine aB ?_ ?_)))
  exact Ty.bJ (by show ((1 <<< b.1.f.turnings.length : Nat) : Int) - 1 = (N : Int) - (((0 : Nat) : Int) + 1); rw [← hN]; simp)
 refine aF (aF (aA (bF rfl (ak rfl rfl rfl (aD (aC ?_))))))
 refine aa rfl (fun hc1 => ?_) (fun hc1 => ?_)
 ·refine bA (aC (aF (af (aF (aF ?_)))))
  obtain ⟨s, hs⟩ : ∃ s : Nat, s + (k.1 + 1) = N := ⟨N - (k.1 + 1), by omega⟩
  have hs256 : s < 256 := by omega
  have hcl := sx hb q hN k.1 (by omega)
  refine mY (s := 6) rfl (Ty.bJ (show (N : Int) - (k.1 + 1) = (s : Nat) by omega)) ?_
  refine aA (mJ rfl (bF rfl (aq (vE b s hs256 hb.before) rfl rfl rfl rfl rfl (ct rfl (kV rfl ?_)))))
  apply aN (s := 25) rfl rfl rfl
  ·intro hg; apply aQ; (refine aP rfl rfl rfl rfl rfl (by decide) ?_); refine aD ?_; exact rfl
  ·exact rfl
  ·exact rfl
  apply aN (s := 25) rfl rfl rfl
  ·intro hg; apply aM (s := 26) rfl (by (rw [hg]; rfl)); apply aQ; (refine aK rfl rfl rfl rfl ?_); refine aD ?_; exact rfl
  ·exact rfl
  ·exact rfl
  apply aN (s := 25) rfl rfl rfl
  ·intro hg; apply aQ; (refine bF rfl ?_); refine aD ?_; exact rfl
  ·exact rfl
  ·exact rfl
  apply aN (s := 25) rfl rfl rfl
  ·intro hg; apply aM (s := 27) rfl (by (rw [hg]; rfl)); apply aM (s := 28) rfl (by (rw [hg]; rfl)); apply aQ; (refine eA rfl (TO h1 h2 (hq s hs256)) rfl ?_); refine aD ?_; exact rfl
  ·exact rfl
  ·exact rfl
  apply aN (s := 25) rfl rfl rfl
  ·intro hg; apply aM (s := 29) rfl (by (rw [hg]; rfl)); apply aQ; (refine ct rfl ?_); refine aD ?_; exact rfl
  ·exact rfl
  ·exact rfl
  refine oB rfl rfl (aD (aC ?_))
  refine c9 rfl (fun hc2 => ?_) (fun hc2 => ?_)
  ·refine cE (aL (ah rfl (aC (aA (bF rfl ?_)))))
   refine jB rfl rfl (by omega) (by omega) ?_
   refine b9 rfl (aD ?_)
   refine bO (⟨k.1 + 1, by omega⟩) ?_ (by exact Nat.sub_lt_sub_left (by omega) (Nat.lt_succ_self _))
   (refine c8.mk' ?_ ?_ <;> (repeat' (first | exact aI | exact aH | refine aB ?_ (Ty.aR _) | refine aB ?_ (Ty.aG _) | refine aJ rfl ?_ ?_ | refine aB ?_ ?_)))
   all_goals skip
   all_goals first | exact Ty.bJ (by show (s : Int) - 1 = (N : Int) - (((k.1 + 1 : Nat) : Int) + 1); omega) | exact Cont.iR (by show gC b q N k.1 = gC b q N (k.1 + 1); rw [gC, show N - (k.1 + 1) = s by omega, Fw, if_pos hc2])
  refine bA (aC ?_)
  refine qU (J := live [(0, Ty.pe fF b 0), (3, Ty.pp [Ty.nd t h1 h2]), (5, Ty.mp 9), (6, Ty.int .i64 (s : Nat))] [(9, Cont.mp (Value.int .i64) qV (jk b s (gC b q N k.1)))]) ?_ ?_
  ·refine aF (aA (bF rfl (mJ rfl (dR rfl ?_))))
   refine dO rfl rfl rfl rfl rfl (by decide) ?_
   refine dO rfl rfl rfl rfl rfl (by decide) ?_
   refine gK rfl rfl rfl rfl (cC rfl rfl rfl ?_)
   refine nu (a := 1) rfl rfl (by omega) (by omega) ?_
   refine jB rfl rfl (by omega) (by omega) ?_
   refine ak rfl rfl rfl (aD (aC ?_))
   refine aa rfl (fun hc3 => ?_) (fun hc3 => ?_)
   ·refine aA (P8 rfl (bF rfl ?_))
    refine lz (jV Tryz.prog 3 .i64 tI) rfl rfl (by decide) rfl gi rfl rfl fS ?_
    refine aD (iC ?_)
    (refine c8.mk' ?_ ?_ <;> (repeat' (first | exact aI | exact aH | refine aB ?_ (Ty.aR _) | refine aB ?_ (Ty.aG _) | refine aJ rfl ?_ ?_)))
    exact Cont.iR (by rw [jk, if_pos (by omega)])
   refine bA (iC ?_)
   (refine c8.mk' ?_ ?_ <;> (repeat' (first | exact aI | exact aH | refine aB ?_ (Ty.aR _) | refine aB ?_ (Ty.aG _) | refine aJ rfl ?_ ?_)))
   exact Cont.iR (by rw [jk, if_neg (by omega)])
  refine aF (aA (mJ rfl (dR rfl ?_)))
  refine dO rfl rfl rfl rfl rfl (by decide) ?_
  refine dO rfl rfl rfl rfl rfl (by decide) ?_
  refine gK rfl rfl rfl rfl (cC rfl rfl rfl (bF rfl (aD (aC (af ?_)))))
  refine cK (fun (j : {j : Nat // j ≤ b.1.f.turnings.length}) => live [(0, Ty.pe fF b 0), (3, Ty.pp [Ty.nd t h1 h2]), (5, Ty.mp 9), (6, Ty.int .i64 (s : Nat)), (49, Ty.int .i64 b.1.f.turnings.length), (50, Ty.int .i64 (j.1 : Nat))] [(9, Cont.mp (Value.int .i64) qV (ql b s (jk b s (gC b q N k.1)) j.1))]) (fun j => b.1.f.turnings.length - j.1) (⟨0, by omega⟩) ?_ fun j => ?_
  ·(refine c8.mk' ?_ ?_ <;> (repeat' (first | exact aI | exact aH | refine aB ?_ (Ty.aR _) | refine aB ?_ (Ty.aG _) | refine aJ rfl (Cont.aG _) ?_)))
  refine aF (aA (ak rfl rfl rfl (aD (aC (aF ?_)))))
  refine aa rfl (fun hc4 => ?_) (fun hc4 => ?_)
  ·refine bA (aC (aF (af (aF (aA (bF rfl (b9 rfl (aD (aC (aF ?_))))))))))
   have hsh := Nat.shiftRight_le s j.1
   refine aA (bF rfl (bF rfl ?_))
   refine uO rfl rfl (by omega) ?_
   refine xw (b := 1) rfl rfl (by omega) (by omega) ?_
   refine ak rfl rfl rfl (aD (aC ?_))
   refine aa rfl (fun hc5 => ?_) (fun hc5 => ?_)
   ·have hbit : s.testBit j.1 = false := Bool.eq_false_iff.2 fun h => by have := (iQ s j.1).2 h; omega
    have hwb := Lf hb hN hs hcl (j := j.1) (by omega) hbit
    simp only [mg] at hwb
    have hpo := (Bc hs256 (show j.1 < 8 by omega) hbit).2
    refine cg mixed rfl (P8 rfl (bF rfl ?_))
    refine pN (jV Tryz.prog 3 .i64 tI) (z0 := (0 : Int)) rfl rfl (by decide) rfl gi fS q4 gr ?_
    refine P8 rfl (bF rfl (bF rfl ?_))
    refine nu (a := 1) rfl rfl (by omega) (lS (by omega)) ?_
    refine wM rfl rfl (by omega) (lS (by omega)) ?_
    refine pN (jV Tryz.prog 3 .i64 tI) (z0 := (0 : Int)) rfl rfl (by decide) rfl gi fS q4 gr ?_
    refine bz rfl rfl (by omega) (by omega) ?_
    refine lz (jV Tryz.prog 3 .i64 tI) rfl rfl (by decide) rfl gi rfl rfl fS ?_
    refine aD ?_
    refine ⟨by kernel_rfl, ?_⟩
    refine bH (aC (aA ?_))
    refine bz rfl rfl (by omega) (by omega) ?_
    refine bF rfl (aD ?_)
    refine bO (⟨j.1 + 1, by omega⟩) ?_ (by show b.1.f.turnings.length - (j.1 + 1) < b.1.f.turnings.length - j.1; omega)
    (refine c8.mk' ?_ ?_ <;> (repeat' (first | exact aI | exact aH | refine aB ?_ (Ty.aR _) | refine aB ?_ (Ty.aG _) | refine aJ rfl ?_ ?_)))
    all_goals skip
    all_goals exact Cont.iR (by rw [lD, tV, if_neg (by simp [hbit])]; rfl)
   refine bA (bH (aC (aA ?_)))
   refine bz rfl rfl (by omega) (by omega) ?_
   refine bF rfl (aD ?_)
   refine bO (⟨j.1 + 1, by omega⟩) ?_ (by show b.1.f.turnings.length - (j.1 + 1) < b.1.f.turnings.length - j.1; omega)
   (refine c8.mk' ?_ ?_ <;> (repeat' (first | exact aI | exact aH | refine aB ?_ (Ty.aR _) | refine aB ?_ (Ty.aG _) | refine aJ rfl ?_ ?_)))
   all_goals skip
   all_goals exact Cont.iR (by rw [lD, tV, if_pos (by refine (iQ s j.1).1 ?_; have := Nat.mod_two_eq_zero_or_one (s >>> j.1); rw [Nat.and_one_is_mod] at *; omega)])
  refine cE (aL (aL (ah rfl (bH (aC (aA (bF rfl ?_)))))))
  refine jB rfl rfl (by omega) (by omega) ?_
  refine b9 rfl (aD ?_)
  refine bO (⟨k.1 + 1, by omega⟩) ?_ (by exact Nat.sub_lt_sub_left (by omega) (Nat.lt_succ_self _))
  (refine c8.mk' ?_ ?_ <;> (repeat' (first | exact aI | exact aH | refine aB ?_ (Ty.aR _) | refine aB ?_ (Ty.aG _) | refine aJ rfl ?_ ?_ | refine aB ?_ ?_)))
  all_goals skip
  all_goals first | exact Ty.bJ (by show (s : Int) - 1 = (N : Int) - (((k.1 + 1 : Nat) : Int) + 1); omega) | exact Cont.iR (by show ql b s (jk b s (gC b q N k.1)) j.1 = gC b q N (k.1 + 1); rw [gC, show N - (k.1 + 1) = s by omega, Fw, if_neg (fun h => by rw [hc2] at h; cases h), show j.1 = b.1.f.turnings.length by have := j.2; omega])
 refine cE (aL (aL (ah rfl (aC (aF ?_)))))
 refine uC (tg := 9) [(5, Ty.pm (Value.int .i64) qV (gC b q N k.1))] (by decide) rfl ⟨Sf rfl rfl (by decide), trivial⟩ ?_
 refine aA (Nw rfl (TM rfl (aD (aC (au (bK rfl rfl ?_))))))
 all_goals skip
 exact bE rfl rfl (by rw [show k.1 = N by have := k.2; omega, hN]; rfl)
theorem FO (b : SB) (hb : kO b) : cX Tryz.prog 103 [Ty.pe fF b 0, Ty.agg [Ty.j9 149 [Ty.pp [Ty.pe fF b 0]]]] (Ty.pm (Value.int .i64) qV (iJ b (uI b))) :=
 (SX b hb (uI b) (Ty.j9 149 [Ty.pp [Ty.pe fF b 0]]) rfl rfl fun s hs => cY (Pv b hb s hs) rfl rfl rfl rfl rfl rfl).args ⟨Ty.aG _, fun _ _ _ h => h, trivial⟩
set_option maxRecDepth 100000 in
theorem O3 (f : bS) (hs : f.Small) (bay : Int) : cX Tryz.prog 21 [iT f, Ty.int .i64 bay] (Ty.tE [Ty.int .i64 (Cn f bay).1, Ty.int .i64 (Cn f bay).2]) := by
 refine aY Tryz.func21 rfl (by decide) Tryz.ntmps21 (by exact Nat.le_of_ble_eq_true rfl) fun w0 M0 => ?_
 have hs1 := hs.bears; have hs2 := hs.bins; have hs3 := hs.turnings; have hs4 := hs.rules
 refine aF (aA (bD rfl (b9 rfl (b9 rfl (aD (aC (aF (cg mixed rfl ?_))))))))
 refine az rfl rfl rfl (by exact Nat.le_of_ble_eq_true rfl) ?_
 refine az rfl rfl rfl (by exact Nat.le_of_ble_eq_true rfl) ?_
 refine bF rfl (aq (R8 f hs _) rfl rfl rfl rfl rfl (ct rfl (aq (qZ f hs _) rfl rfl rfl rfl rfl (FQ rfl (bt rfl rfl (bt rfl rfl (TR rfl (b9 rfl (aD ?_)))))))))
 refine ⟨by kernel_rfl, ?_⟩
 refine aC (aF (aF (aA (bF rfl (ak rfl rfl rfl (aD (aC ?_)))))))
 refine ck rfl (fun hc1 => ?_) (fun hc1 => ?_)
 ·refine aF (aA (bF rfl (b9 rfl (b9 rfl (aD (aC (au (aW ?_))))))))
  refine g9 rfl rfl rfl ?_ ?_
  all_goals skip
  all_goals exact bE rfl rfl (congrArg (Ty.int .i64) (by rw [Cn, if_pos hc1]))
 refine bA (aC (aF ?_))
 have h0 := ji hc1
 have hin := fI (n := bay) (lo := 0) (hi := (f.bears.length : Int) - 1) (by have := h0.2; simpa using this)
 obtain ⟨n, rfl⟩ := Int.eq_ofNat_of_zero_le hin.1
 have hr := (cB h0.1).ranged
 have hb4 := hr.bears
 have hfi := fY h0.1
 refine mY (s := 6) rfl (Ty.lu (decide_eq_true hc1)) ?_
 refine aA (mJ rfl (bF rfl ?_))
 refine aq (Im (aX f) hfi n (by omega)) rfl rfl rfl rfl rfl ?_
 refine FQ rfl (bt rfl rfl (bt rfl rfl (b9 rfl (b9 rfl (aD (aC (aF (aA (bF rfl (b9 rfl (b9 rfl (aD (aC (au ?_))))))))))))))
 refine g9 rfl rfl rfl ?_ ?_
 all_goals skip
 all_goals exact bE rfl rfl (congrArg (Ty.int .i64) (by rw [Cn, if_neg (fun h => h hc1)]; try rfl))
set_option maxRecDepth 100000 in
theorem Q6 (f : bS) (hs : f.Small) : cX Tryz.prog 46 [iT f] (Ty.tE [Ty.int .i64 (countP f).1, Ty.int .i64 (countP f).2]) := by
 refine aY Tryz.func46 rfl (by decide) Tryz.ntmps46 (by exact Nat.le_of_ble_eq_true rfl) fun w0 M0 => ?_
 have hs1 := hs.bears; have hs2 := hs.bins; have hs3 := hs.turnings; have hs4 := hs.rules
 refine aF (aA (bD rfl (b9 rfl (b9 rfl (aD (aC (aF (aA ?_))))))))
 refine az rfl rfl rfl (by exact Nat.le_of_ble_eq_true rfl) ?_
 refine aq (qZ f hs _) rfl rfl rfl rfl rfl (FQ rfl (bt rfl rfl (bt rfl rfl (TR rfl (b9 rfl (aD (aC (aF (aF (aA (bF rfl (ak rfl rfl rfl (aD (aC ?_))))))))))))))
 refine ck rfl (fun hc1 => ?_) (fun hc1 => ?_)
 ·refine aF (aA (bF rfl (b9 rfl (b9 rfl (aD (aC (au (aW ?_))))))))
  refine g9 rfl rfl rfl ?_ ?_
  all_goals skip
  all_goals exact bE rfl rfl (congrArg (Ty.int .i64) (by rw [countP, if_pos hc1]))
 refine bA (aC (aF ?_))
 have h0 := ji hc1
 have hfi := fY h0.1
 refine mY (s := 4) rfl (Ty.lu (decide_eq_true hc1)) ?_
 refine aA (mJ rfl (mJ rfl (aq (D1 (aX f)) rfl rfl rfl rfl rfl (aq (FO (aX f) hfi) rfl rfl rfl rfl rfl ?_))))
 refine pG (jV Tryz.prog 3 .i64 tI) (z0 := (0 : Int)) rfl rfl gi fS q4 gr ?_
 refine b9 rfl (b9 rfl (aD (aC (au ?_))))
 refine g9 rfl rfl rfl ?_ ?_
 all_goals skip
 all_goals exact bE rfl rfl (congrArg (Ty.int .i64) (by rw [countP, if_neg (fun h => h hc1)]; try rfl))
set_option maxRecDepth 100000 in
theorem N6 (f : bS) (hs : f.Small) : cX Tryz.prog 48 [iT f] (Ty.tE [Ty.sl dN (m0 f).1, Ty.int .i64 (m0 f).2]) := by
 refine aY Tryz.func48 rfl (by decide) Tryz.ntmps48 (by exact Nat.le_of_ble_eq_true rfl) fun w0 M0 => ?_
 have hs1 := hs.bears; have hs2 := hs.bins; have hs3 := hs.turnings; have hs4 := hs.rules
 refine aF (aA (bD rfl (mN rfl (b9 rfl (aD (aC (aF (aA ?_))))))))
 refine az rfl rfl rfl (by exact Nat.le_of_ble_eq_true rfl) ?_
 refine aq (qZ f hs _) rfl rfl rfl rfl rfl (FQ rfl (bt rfl rfl (bt rfl rfl (TR rfl (b9 rfl (aD (aC (aF (aF (aA (bF rfl (ak rfl rfl rfl (aD (aC ?_))))))))))))))
 refine ck rfl (fun hc1 => ?_) (fun hc1 => ?_)
 ·refine aF (aA (bF rfl (mN rfl (b9 rfl (aD (aC (au (aW ?_))))))))
  refine g9 rfl rfl rfl ?_ ?_
  all_goals skip
  all_goals first | exact bE rfl rfl (congrArg (Ty.int .i64) (by rw [m0, if_pos hc1])) | exact fy (by rw [m0, if_pos hc1])
 refine bA (aC (aF ?_))
 have h0 := ji hc1
 have hfi := fY h0.1
 have hnt := (cB h0.1).ranged.turnings
 refine mY (s := 4) rfl (Ty.lu (decide_eq_true hc1)) ?_
 refine aA (mJ rfl (mJ rfl (aq (D1 (aX f)) rfl rfl rfl rfl rfl (aq (FO (aX f) hfi) rfl rfl rfl rfl rfl (TM rfl (aD (aC (aF (aF (aA (Nw rfl ?_)))))))))))
 refine pG (jV Tryz.prog 3 .i64 tI) (z0 := (0 : Int)) rfl rfl gi fS q4 gr ?_
 refine ak rfl rfl rfl (aD (aC ?_))
 refine aa rfl (fun hc2 => ?_) (fun hc2 => ?_)
 ·refine aF (aA (mN rfl (b9 rfl (aD (aC (au (aW ?_)))))))
  refine g9 rfl rfl rfl ?_ ?_
  all_goals skip
  all_goals first | exact bE rfl rfl (congrArg (Ty.int .i64) (by rw [m0, if_neg (fun h => h hc1), if_pos (show mg (dV f) 0 = 0 from hc2)])) | exact fy (by rw [m0, if_neg (fun h => h hc1), if_pos (show mg (dV f) 0 = 0 from hc2)])
 refine bA (aC (aF (aA (mN rfl (aD (aC (aF (aF (aA ?_)))))))))
 refine aP rfl rfl rfl rfl rfl (by decide) ?_
 refine aK rfl rfl rfl rfl (cC rfl rfl rfl (bF rfl (aD (aC (af ?_)))))
 refine cK (fun (k : {k : Nat // k ≤ f.turnings.length}) => live [(6, Ty.pm (Value.int .i64) qV (dV f)), (7, Ty.row dN 3 39 (n4 f k.1)), (25, Ty.sl gM f.turnings), (26, Ty.int .i64 f.turnings.length), (27, Ty.int .i64 (k.1 : Nat))] []) (fun k => f.turnings.length - k.1) (⟨0, by omega⟩) ?_ fun k => ?_
 ·(refine c8.mk' ?_ ?_ <;> (repeat' (first | exact aI | exact aH | refine aB ?_ (Ty.aR _) | refine aB ?_ (Ty.aG _) | refine aB ?_ Ty.lX)))
 have hfl := E2 f k.1
 refine aF (aA (ak rfl rfl rfl (aD (aC (aF ?_)))))
 refine aa rfl (fun hc3 => ?_) (fun hc3 => ?_)
 ·refine bA (aC (aF (af (aF (aA (bF rfl (b9 rfl (aD (aC (aF (aA (Nw rfl (bF rfl ?_)))))))))))))
  refine nu (a := 1) rfl rfl (by omega) (lS (by omega)) ?_
  refine pG (jV Tryz.prog 3 .i64 tI) (z0 := (0 : Int)) rfl rfl gi fS q4 gr ?_
  refine ak rfl rfl rfl (aD (aC ?_))
  refine aa rfl (fun hc4 => ?_) (fun hc4 => ?_)
  ·refine aA (BU rfl (bF rfl ?_))
   refine bT (E := dN) (xs := [_]) rfl rfl rfl rfl rfl (by decide) (by decide) (by repeat (first | exact (aT.nil : aT _ _ [] _) | (show aT _ _ ((_, _) :: _) _; apply aT.one; (· exact (rfl : _ = Ty.int _ _)); (· exact rfl)))) (by exact rfl) rfl ?_
   refine fD rfl rfl (by decide) rfl rfl rfl rfl rfl rfl (by decide) (by (simp <;> omega)) (by (simp <;> omega)) ?_
   refine D8 rfl (aD (bH (aC (aA ?_))))
   refine bz rfl rfl (by omega) (by omega) ?_
   refine bF rfl (aD ?_)
   refine bO (⟨k.1 + 1, by omega⟩) ?_ (by show f.turnings.length - (k.1 + 1) < f.turnings.length - k.1; omega)
   (refine c8.mk' ?_ ?_ <;> (repeat' (first | exact aI | exact aH | refine aB ?_ (Ty.aR _) | refine aB ?_ (Ty.aG _) | refine aB ?_ ?_)))
   all_goals skip
   all_goals exact Ty.ej (by rw [tq, if_pos (by show (bf (dV f) _).getD 0 > 0; omega)])
  refine bA (bH (aC (aA ?_)))
  refine bz rfl rfl (by omega) (by omega) ?_
  refine bF rfl (aD ?_)
  refine bO (⟨k.1 + 1, by omega⟩) ?_ (by show f.turnings.length - (k.1 + 1) < f.turnings.length - k.1; omega)
  (refine c8.mk' ?_ ?_ <;> (repeat' (first | exact aI | exact aH | refine aB ?_ (Ty.aR _) | refine aB ?_ (Ty.aG _) | refine aB ?_ ?_)))
  all_goals skip
  all_goals exact Ty.ej (by rw [tq, if_neg (by show ¬ (bf (dV f) _).getD 0 > 0; omega), List.append_nil])
 refine cE (aL (aL (ah rfl (aC (aF (aA (BU rfl (D8 rfl (b9 rfl (aD (aC (au ?_))))))))))))
 refine g9 rfl rfl rfl ?_ ?_
 all_goals skip
 all_goals first | exact bE rfl rfl (congrArg (Ty.int .i64) (by rw [m0, if_neg (fun h => h hc1), if_neg (show ¬ mg (dV f) 0 = 0 from hc2)])) | exact nO (by decide) (by rw [m0, if_neg (fun h => h hc1), if_neg (show ¬ mg (dV f) 0 = 0 from hc2), show k.1 = f.turnings.length by have := k.2; omega])
end Go.Proofs.YtmmcenjknimhbaaGreat
namespace Go.Proofs.YtmmcenjknimhbaaGreat
open Go Go.T
set_option maxHeartbeats 2000000
attribute [local irreducible] eG cZ jR j6 eP eO eK eM eS j8 eJ j4 b8 dc jz dZ j7 nth eZ cU aV cX bodyPost Exit.then Exit.inBlock Code.wp Code.wpIn dS mz mm m5 fT mq m7 fW mW eB fO lq bW bV bodyPostM cV
set_option maxRecDepth 100000 in
theorem LJ (f : bS) (hs : f.Small) (p : v7) : cX Tryz.prog 100 [Ty.agg (rL.tys p), Ty.pp (cx f)] (Ty.bool (BB f p)) := by
 refine aY Tryz.func100 rfl (by decide) Tryz.ntmps100 (by exact Nat.le_of_ble_eq_true rfl) fun w0 M0 => ?_
 have hs1 := hs.bears; have hs2 := hs.bins; have hs3 := hs.turnings; have hs4 := hs.rules
 refine aF (aA (bD rfl (dG rfl (aD (aC (aF (aA ?_)))))))
 refine az rfl rfl rfl (by exact Nat.le_of_ble_eq_true rfl) ?_
 refine aP rfl rfl rfl rfl rfl (by decide) ?_
 refine aK rfl rfl rfl rfl (aq (pH f hs _) rfl rfl rfl rfl rfl (kV rfl ?_))
 apply aN (s := 8) rfl rfl rfl
 ·intro hg; apply aQ; (refine az rfl rfl rfl (by exact Nat.le_of_ble_eq_true rfl) ?_); refine aD ?_; exact rfl
 ·exact rfl
 ·exact rfl
 apply aN (s := 8) rfl rfl rfl
 ·intro hg; apply aQ; (refine aP rfl rfl rfl rfl rfl (by decide) ?_); refine aD ?_; exact rfl
 ·exact rfl
 ·exact rfl
 apply aN (s := 8) rfl rfl rfl
 ·intro hg; apply aM (s := 10) rfl (by (rw [hg]; rfl)); apply aQ; (refine aK rfl rfl rfl rfl ?_); refine aD ?_; exact rfl
 ·exact rfl
 ·exact rfl
 apply aN (s := 8) rfl rfl rfl
 ·intro hg; apply aM (s := 9) rfl (by (rw [hg]; rfl)); apply aM (s := 11) rfl (by (rw [hg]; rfl)); apply aQ; (refine aq (pH f hs _) rfl rfl rfl rfl rfl ?_); refine aD ?_; exact rfl
 ·exact rfl
 ·exact rfl
 refine gL rfl rfl (dG rfl (aD (aC (au (bK rfl rfl ?_)))))
 all_goals exact bN rfl rfl
set_option maxRecDepth 100000 in
theorem Me (p : v7) : cX Tryz.prog 101 [Ty.agg (rL.tys p)] (Ty.bool (decide (p.much ≥ 1))) := by
 refine aY Tryz.func101 rfl (by decide) Tryz.ntmps101 (by exact Nat.le_of_ble_eq_true rfl) fun w0 M0 => ?_
 refine aF (aA (bD rfl (dG rfl (aD (aC (aF (aA ?_)))))))
 refine aP rfl rfl rfl rfl rfl (by decide) ?_
 refine aK rfl rfl rfl rfl (ak rfl rfl rfl (dG rfl (aD (aC (au (bK rfl rfl ?_))))))
 all_goals exact bN rfl rfl
set_option maxRecDepth 100000 in
theorem Ld (b : SB) (hb : kO b) (p : v7) (h1 : 0 ≤ p.src ∧ p.src < 8) (h2 : 0 ≤ p.dst ∧ p.dst < 8) : cX Tryz.prog 102 [Ty.agg (rL.tys p), Ty.pp [Ty.pe fF b 0]] (Ty.bool (Ec b p)) := by
 refine aY Tryz.func102 rfl (by decide) Tryz.ntmps102 (by exact Nat.le_of_ble_eq_true rfl) fun w0 M0 => ?_
 have hbt := hb.before p.src.toNat
 have hsh := Nat.shiftRight_le (nth b.1.before p.src.toNat) p.dst.toNat
 refine aF (aA (bD rfl (dG rfl (aD (aC (aF (cg mixed rfl (aK rfl rfl rfl rfl ?_))))))))
 refine aP rfl rfl rfl rfl rfl (by decide) ?_
 refine aK rfl rfl rfl rfl (dR rfl ?_)
 refine dO rfl rfl rfl rfl rfl (by decide) ?_
 refine yU (n := 8) rfl rfl rfl rfl rfl (by omega) (by omega) ?_
 refine gK (ty := Ty.int .i64 (nth b.1.before p.src.toNat : Nat)) rfl rfl rfl (by rw [show 0 + 4 + p.src.toNat * 1 = 4 + p.src.toNat by omega]; exact Ae b.2 (by omega)) ?_
 refine aP rfl rfl rfl rfl rfl (by decide) ?_
 refine aK rfl rfl rfl rfl ?_
 refine TS rfl rfl (by omega) (by omega) ?_
 refine xw (b := 1) rfl rfl (by omega) (by omega) ?_
 refine ak rfl rfl rfl (dG rfl (aD ?_))
 refine ⟨by kernel_rfl, ?_⟩
 refine aC (au (bK rfl rfl ?_))
 all_goals exact bN rfl rfl
theorem xJ {f : bS} {p : v7} (hn : f.turnings.length ≤ 8) (h : BB f p = true) : (0 ≤ p.src ∧ p.src < 8) ∧ 0 ≤ p.dst ∧ p.dst < 8 := by
 simp only [BB, Bool.and_eq_true] at h
 have h1 := fI h.1
 have h2 := fI h.2
 omega
theorem HG {α : Type} [Inhabited α] {l : List α} {q : α → Bool} (h : (!l.all q) = false) {k : Nat} (hk : k < l.length) : q (nth l k) = true :=
 List.all_eq_true.1 (by simpa using h) _ (bL hk)
set_option maxRecDepth 100000 in
theorem Ou (f : bS) (hs : f.Small) (bay : Int) (pays : List v7) (hp : pays.length ≤ 1000) : cX Tryz.prog 44 [iT f, Ty.int .i64 bay, Ty.sl rL pays] (Ty.tE [Ty.int .i64 (m6 f bay pays).1, Ty.int .i64 (m6 f bay pays).2]) := by
 refine aY Tryz.func44 rfl (by decide) Tryz.ntmps44 (by exact Nat.le_of_ble_eq_true rfl) fun w0 M0 => ?_
 have hs1 := hs.bears; have hs2 := hs.bins; have hs3 := hs.turnings; have hs4 := hs.rules
 refine aF (aA (bD rfl (b9 rfl (b9 rfl (aD (aC (aF (cg mixed rfl ?_))))))))
 refine az rfl rfl rfl (by exact Nat.le_of_ble_eq_true rfl) ?_
 refine az rfl rfl rfl (by exact Nat.le_of_ble_eq_true rfl) ?_
 refine bF rfl (aq (R8 f hs _) rfl rfl rfl rfl rfl (ct rfl (aq (qZ f hs _) rfl rfl rfl rfl rfl (FQ rfl (bt rfl rfl (bt rfl rfl ?_))))))
 refine dA rfl (by exact List.cons_ne_nil _ _) rfl ?_
 refine dh rfl rfl (by decide) rfl rfl (by exact (rfl : _ = Ty.when _ _)) rfl (by exact Nat.le_of_ble_eq_true rfl) rfl rfl (by exact (rfl : _ = [_])) ?_
 refine b9 rfl (aD ?_)
 refine ⟨by kernel_rfl, ?_⟩
 refine aC (aF (af (aF (aA (bF rfl (ak rfl rfl rfl (dG rfl (aD (aC ?_)))))))))
 refine ck rfl (fun hc1 => ?_) (fun hc1 => ?_)
 ·refine aF (aA (bF rfl (b9 rfl (b9 rfl (aD (aC (au (av (aW ?_)))))))))
  refine g9 rfl rfl rfl ?_ ?_
  all_goals skip
  all_goals exact bE rfl rfl (congrArg (Ty.int .i64) (by rw [m6, if_pos hc1]))
 refine aF ?_
 have h0 := ji hc1
 have hin := fI (n := bay) (lo := 0) (hi := (f.bears.length : Int) - 1) (by have := h0.2; simpa using this)
 obtain ⟨n, rfl⟩ := Int.eq_ofNat_of_zero_le hin.1
 have hr := (cB h0.1).ranged
 have hb4 := hr.bears
 have hfi := fY h0.1
 have hff := ni f
 have hnt : f.turnings.length ≤ 8 := by have := hfi.nt; rw [hff] at this; exact this
 refine uC (tg := 9) [(8, Ty.pp [Ty.when (decide (fA f (!fC (n : Int) 0 (f.bears.length - 1)) = 0)) (Ty.pe fF (aX f) 0)])] (by decide) rfl ⟨vM (T := 102) (tg := 9) (off := 0) (l := [Ty.when (decide (fA f (!fC (n : Int) 0 (f.bears.length - 1)) = 0)) (Ty.pe fF (aX f) 0)]) rfl rfl rfl (by decide), trivial⟩ ?_
 refine mY (s := 8) rfl (Ty.RN (Ty.lu (decide_eq_true hc1))) ?_
 refine aA (gq rfl (cw rfl ?_))
 refine aq (q6 pays (Ty.j9 _ [Ty.pp (cx f)]) rfl (BB f) rfl rfl fun p _ => cY (LJ f hs p) rfl rfl rfl rfl rfl rfl) rfl rfl rfl rfl rfl ?_
 refine ct rfl (dG rfl (aD (aC ?_)))
 refine c9 rfl (fun hc2 => ?_) (fun hc2 => ?_)
 ·refine aF (aA (b9 rfl (b9 rfl (aD (aC (au (av (aW ?_))))))))
  refine g9 rfl rfl rfl ?_ ?_
  all_goals skip
  all_goals exact bE rfl rfl (congrArg (Ty.int .i64) (by rw [m6, if_neg (fun h => h hc1), if_pos hc2]))
 refine aF (aA (gq rfl ?_))
 refine aq (q6 pays (Ty.j9 _ []) rfl (fun p => decide (p.much ≥ 1)) rfl rfl fun p _ => cY (Me p) rfl rfl rfl rfl rfl rfl) rfl rfl rfl rfl rfl ?_
 refine ct rfl (dG rfl (aD (aC ?_)))
 refine c9 rfl (fun hc3 => ?_) (fun hc3 => ?_)
 ·refine aF (aA (b9 rfl (b9 rfl (aD (aC (au (av (aW ?_))))))))
  refine g9 rfl rfl rfl ?_ ?_
  all_goals skip
  all_goals exact bE rfl rfl (congrArg (Ty.int .i64) (by rw [m6, if_neg (fun h => h hc1), if_neg (Bool.eq_false_iff.1 hc2), if_pos hc3]))
 refine aF (aA (gq rfl (cw rfl ?_)))
 refine aq (q6 pays (Ty.j9 _ [Ty.pp [Ty.pe fF (aX f) 0]]) rfl (Ec (aX f)) rfl rfl fun p hpm => cY (Ld (aX f) hfi p (xJ hnt (List.all_eq_true.1 (by simpa using hc2) p hpm)).1 (xJ hnt (List.all_eq_true.1 (by simpa using hc2) p hpm)).2) rfl rfl rfl rfl rfl rfl) rfl rfl rfl rfl rfl ?_
 refine ct rfl (dG rfl (aD (aC ?_)))
 refine c9 rfl (fun hc4 => ?_) (fun hc4 => ?_)
 ·refine aF (aA (b9 rfl (b9 rfl (aD (aC (au (av (aW ?_))))))))
  refine g9 rfl rfl rfl ?_ ?_
  all_goals skip
  all_goals exact bE rfl rfl (congrArg (Ty.int .i64) (by rw [m6, if_neg (fun h => h hc1), if_neg (Bool.eq_false_iff.1 hc2), if_neg (Bool.eq_false_iff.1 hc3), if_pos hc4]))
 refine bA (bH (aC (aF (aA ?_))))
 refine za (E := dN) (xs := List.replicate 8 0) rfl (by exact List.cons_ne_nil _ _) rfl rfl ?_
 refine za (E := dN) (xs := List.replicate 8 0) rfl (by exact List.cons_ne_nil _ _) rfl rfl ?_
 refine aD (aC (aF (aA (aK rfl rfl rfl rfl (bF rfl (dR rfl ?_))))))
 refine dO rfl rfl rfl rfl rfl (by decide) ?_
 refine lB rfl rfl rfl rfl rfl (by omega) ?_
 refine gK (ty := Ty.int .i64 (nth (aX f).1.first n)) rfl rfl rfl (by rw [show 0 + 44 + n * 1 = 44 + n by omega]; exact xU (aX f).2 (by omega)) ?_
 refine b9 rfl (aD (aC (aF (aF (aA ?_)))))
 refine aP rfl rfl rfl rfl rfl (by decide) ?_
 refine aK rfl rfl rfl rfl (cC rfl rfl rfl (bF rfl (aD (aC (af ?_)))))
 refine cK (fun (k : {k : Nat // k ≤ f.turnings.length}) => live [(1, Ty.int .i64 (n : Nat)), (2, Ty.sl rL pays), (3, Ty.pp (cx f)), (8, Ty.pp [Ty.pe fF (aX f) 0]), (10, Ty.ptr 11 0), (11, Ty.ptr 12 0), (12, Ty.int .i64 (jA (aX f) n k.1)), (52, Ty.int .i64 f.turnings.length), (53, Ty.int .i64 (k.1 : Nat))] [(11, Cont.vec dN 157 (mH (aX f) n k.1)), (12, Cont.vec dN 157 (oa (aX f) n k.1))]) (fun k => f.turnings.length - k.1) (⟨0, by omega⟩) ?_ fun k => ?_
 ·(refine c8.mk' ?_ ?_ <;> (repeat' (first | exact aI | exact aH | refine aB ?_ (Ty.aR _) | refine aB ?_ (Ty.aG _) | refine aJ rfl (Cont.aG _) ?_ | refine aB ?_ ?_)))
  all_goals exact Ty.bJ (by simp [jA])
 have hab := qB hfi n k.1
 have hbu := nr hfi n k.1
 have hau : (mH (aX f) n k.1).length = 8 := by simp [mH]
 have hlu : (oa (aX f) n k.1).length = 8 := by simp [oa]
 refine aF (aA (ak rfl rfl rfl (aD (aC (aF ?_)))))
 refine aa rfl (fun hc5 => ?_) (fun hc5 => ?_)
 ·refine bA (aC (aF (af (aF (aA (bF rfl (b9 rfl (aD (aC (aF (aA (aK rfl rfl rfl rfl (bF rfl (bF rfl (dR rfl ?_)))))))))))))))
  refine dO rfl rfl rfl rfl rfl (by decide) ?_
  refine lB rfl rfl rfl rfl rfl (by omega) ?_
  refine lB rfl rfl rfl rfl rfl (by omega) ?_
  refine gK (ty := Ty.int .i64 (mF (aX f) n k.1)) rfl rfl rfl (by rw [show 0 + 12 + k.1 * 4 + n * 1 = 12 + (k.1 * 4 + n) by omega]; exact Fi (aX f).2 (by omega)) ?_
  refine b9 rfl (aD (aC (aF (aA (bF rfl (bF rfl (bF rfl (HD rfl rfl (bF rfl (Uh rfl (HD rfl rfl ?_)))))))))))
  refine fE rfl rfl rfl rfl rfl (by omega) ?_
  refine jM (z := max 0 (mF (aX f) n k.1)) rfl rfl rfl (by decide) rfl rfl (by exact (rfl : _ = Ty.int _ _)) rfl (by omega) (by decide) rfl rfl ?_
  refine fE rfl rfl rfl rfl rfl (by omega) ?_
  refine jM (z := max 0 (-(mF (aX f) n k.1))) rfl rfl rfl (by decide) rfl rfl (by exact (rfl : _ = Ty.int _ _)) rfl (by omega) (by decide) rfl (by rw [IntWalk.i64_in _ (by omega), Int.zero_sub]; rfl) ?_
  refine aD (aC (aA (bF rfl (bF rfl ?_))))
  refine fE rfl rfl rfl rfl rfl (by omega) ?_
  refine fZ rfl rfl rfl (by decide) rfl rfl (by (simp <;> omega)) rfl ?_
  refine ak rfl rfl rfl (b9 rfl (aD (bH (aC (aA ?_)))))
  refine bz rfl rfl (by omega) (by omega) ?_
  refine bF rfl (aD ?_)
  refine bO (⟨k.1 + 1, by omega⟩) ?_ (by show f.turnings.length - (k.1 + 1) < f.turnings.length - k.1; omega)
  (refine c8.mk' ?_ ?_ <;> (repeat' (first | exact aI | exact aH | refine aB ?_ (Ty.aR _) | refine aB ?_ (Ty.aG _) | refine aJ rfl ?_ ?_ | refine aB ?_ ?_)))
  all_goals skip
  all_goals first | exact Ty.bJ (by rw [th, BO _ _ (by omega), Hy _ _ (by omega), IntWalk.i64_in _ (by omega)]) | exact Cont.dB (BO _ _ (by omega)) | exact Cont.dB (Iu _ _ (by omega))
 refine cE (aL (aL (ah rfl (aC (aF (aF (aA (gq rfl (cC rfl rfl rfl (bF rfl (aD (aC (af ?_)))))))))))))
 refine cK (fun (x : {x : Nat × Hj // x.1 ≤ pays.length ∧ tj (FB (aX f) n) (pays.take x.1) = some x.2 ∧ x.2.kO x.1}) => live [(10, Ty.ptr 11 0), (11, Ty.ptr 12 0), (12, Ty.int .i64 x.1.2.bound), (79, Ty.sl rL pays), (80, Ty.int .i64 pays.length), (81, Ty.int .i64 (x.1.1 : Nat))] [(11, Cont.vec dN 157 x.1.2.adds), (12, Cont.vec dN 157 x.1.2.less)]) (fun x => pays.length - x.1.1) (⟨(0, FB (aX f) n), by omega, rfl, L8 hfi n⟩) ?_ fun x => ?_
 ·(refine c8.mk' ?_ ?_ <;> (repeat' (first | exact aI | exact aH | refine aB ?_ (Ty.aR _) | refine aB ?_ (Ty.aG _) | refine aJ rfl ?_ ?_ | refine aB ?_ ?_)))
  all_goals first | exact Ty.bJ (by show jA _ n k.1 = jA _ n _; rw [hff, show k.1 = f.turnings.length by have := k.2; omega]) | exact Cont.dB (by show mH _ n k.1 = mH _ n _; rw [hff, show k.1 = f.turnings.length by have := k.2; omega]) | exact Cont.dB (by show oa _ n k.1 = oa _ n _; rw [hff, show k.1 = f.turnings.length by have := k.2; omega])
 obtain ⟨hx1, hx2, hx3⟩ := x.2
 have hla := hx3.la
 have hll := hx3.ll
 refine aF (aA (ak rfl rfl rfl (aD (aC (aF ?_)))))
 refine aa rfl (fun hc6 => ?_) (fun hc6 => ?_)
 ·refine bA (aC (aF (af (aF (aA ?_)))))
  refine bG rfl rfl rfl rfl rfl rfl (by omega) ?_
  refine az rfl rfl rfl (by exact Nat.le_of_ble_eq_true rfl) ?_
  refine dA rfl (by exact List.cons_ne_nil _ _) rfl ?_
  refine eH rfl rfl (by decide) rfl rfl rfl rfl rfl rfl ?_
  refine aD (aC (aF (aF ?_)))
  have hto := xJ hnt (HG hc2 (k := x.1.1) (by omega))
  have hmu := of_decide_eq_true (HG hc3 (k := x.1.1) (by omega))
  have hax := hx3.adds (nth pays x.1.1).src.toNat
  have hlx := hx3.less (nth pays x.1.1).dst.toNat
  have hbx := hx3.bound
  refine cg mixed rfl ?_
  refine aS rfl rfl rfl rfl rfl (by decide) ?_
  refine aj rfl rfl (by decide) rfl rfl rfl ?_
  refine aS rfl rfl rfl rfl rfl (by decide) ?_
  refine aj rfl rfl (by decide) rfl rfl rfl ?_
  refine fU (n := 8) rfl rfl rfl rfl rfl (by omega) (by omega) ?_
  refine fZ rfl rfl rfl (by decide) rfl rfl (by omega) rfl ?_
  refine ak rfl rfl rfl (kV rfl ?_)
  apply aN (s := 92) rfl rfl rfl
  ·intro hg; apply aQ; (refine aS rfl rfl rfl rfl rfl (by decide) ?_); refine aD ?_; exact rfl
  ·exact rfl
  ·exact rfl
  apply aN (s := 92) rfl rfl rfl
  ·intro hg; apply aM (s := 93) rfl (by (rw [hg]; rfl)); apply aQ; (refine aj rfl rfl (by decide) rfl rfl rfl ?_); refine aD ?_; exact rfl
  ·exact rfl
  ·exact rfl
  apply aN (s := 92) rfl rfl rfl
  ·intro hg; apply aQ; (refine aS rfl rfl rfl rfl rfl (by decide) ?_); refine aD ?_; exact rfl
  ·exact rfl
  ·exact rfl
  apply aN (s := 92) rfl rfl rfl
  ·intro hg; apply aM (s := 95) rfl (by (rw [hg]; rfl)); apply aQ; (refine aj rfl rfl (by decide) rfl rfl rfl ?_); refine aD ?_; exact rfl
  ·exact rfl
  ·exact rfl
  apply aN (s := 92) rfl rfl rfl
  ·intro hg; apply aM (s := 96) rfl (by (rw [hg]; rfl)); apply aQ; (refine fU (n := 8) rfl rfl rfl rfl rfl (by omega) (by omega) ?_); refine aD ?_; exact rfl
  ·exact rfl
  ·exact rfl
  apply aN (s := 92) rfl rfl rfl
  ·intro hg; apply aM (s := 97) rfl (by (rw [hg]; rfl)); apply aQ; (refine fZ rfl rfl rfl (by decide) rfl rfl (by omega) rfl ?_); refine aD ?_; exact rfl
  ·exact rfl
  ·exact rfl
  apply aN (s := 92) rfl rfl rfl
  ·intro hg; apply aM (s := 94) rfl (by (rw [hg]; rfl)); apply aM (s := 98) rfl (by (rw [hg]; rfl)); apply aQ; (refine ak rfl rfl rfl ?_); refine aD ?_; exact rfl
  ·exact rfl
  ·exact rfl
  refine oB rfl rfl (aD ?_)
  refine ⟨by kernel_rfl, ?_⟩
  refine aC ?_
  refine c9 rfl (fun hc7 => ?_) (fun hc7 => ?_)
  ·refine aF (aA (b9 rfl (b9 rfl (aD (aC (au (aW (av (aW (aW (av (aW ?_))))))))))))
   refine g9 rfl rfl rfl ?_ ?_
   all_goals skip
   all_goals exact bE rfl rfl (congrArg (Ty.int .i64) (by rw [m6, if_neg (fun h => h hc1), if_neg (Bool.eq_false_iff.1 hc2), if_neg (Bool.eq_false_iff.1 hc3), if_neg (Bool.eq_false_iff.1 hc4), show (n : Int).toNat = n from rfl, JE (by omega) hx2 (by rw [Ih, if_pos (show Bh x.1.2 (nth pays x.1.1) = true from hc7)])]))
  refine bA (aC (aF ?_))
  have h7 := hc7
  simp only [Bool.or_eq_false_iff, decide_eq_false_iff_not] at h7
  refine cg mixed rfl ?_
  refine aS rfl rfl rfl rfl rfl (by decide) ?_
  refine aj rfl rfl (by decide) rfl rfl rfl ?_
  refine fU (n := 8) rfl rfl rfl rfl rfl (by omega) (by omega) ?_
  refine fZ rfl rfl rfl (by decide) rfl rfl (by omega) rfl ?_
  refine aS rfl rfl rfl rfl rfl (by decide) ?_
  refine aj rfl rfl (by decide) rfl rfl rfl ?_
  refine jB rfl rfl (by omega) (by omega) ?_
  refine fU (n := 8) rfl rfl rfl rfl rfl (by omega) (by omega) ?_
  refine jM rfl rfl rfl (by decide) rfl rfl (by exact (rfl : _ = Ty.int _ _)) rfl (by omega) (by decide) rfl rfl ?_
  refine aD ?_
  refine ⟨by kernel_rfl, ?_⟩
  refine aC (aF (cg mixed rfl ?_))
  refine aS rfl rfl rfl rfl rfl (by decide) ?_
  refine aj rfl rfl (by decide) rfl rfl rfl ?_
  refine fU (n := 8) rfl rfl rfl rfl rfl (by omega) (by omega) ?_
  refine fZ rfl rfl rfl (by decide) rfl rfl (by omega) rfl ?_
  refine aS rfl rfl rfl rfl rfl (by decide) ?_
  refine aj rfl rfl (by decide) rfl rfl rfl ?_
  refine jB rfl rfl (by omega) (by omega) ?_
  refine fU (n := 8) rfl rfl rfl rfl rfl (by omega) (by omega) ?_
  refine jM rfl rfl rfl (by decide) rfl rfl (by exact (rfl : _ = Ty.int _ _)) rfl (by omega) (by decide) rfl rfl ?_
  refine aD ?_
  refine ⟨by kernel_rfl, ?_⟩
  refine aC (aA (bF rfl ?_))
  refine aS rfl rfl rfl rfl rfl (by decide) ?_
  refine aj rfl rfl (by decide) rfl rfl rfl ?_
  refine jB rfl rfl (by omega) (by omega) ?_
  refine b9 rfl (aD (bH (aC (aA ?_))))
  refine bz rfl rfl (by omega) (by omega) ?_
  refine bF rfl (aD ?_)
  refine bO (⟨(x.1.1 + 1, HN x.1.2 (nth pays x.1.1)), by omega, by rw [AI (by omega) hx2, Ih, if_neg (Bool.eq_false_iff.1 (show Bh x.1.2 (nth pays x.1.1) = false from hc7))], Lt hx3 hmu hc7⟩) ?_ (by show pays.length - (x.1.1 + 1) < pays.length - x.1.1; omega)
  (refine c8.mk' ?_ ?_ <;> (repeat' (first | exact aI | exact aH | refine aB ?_ (Ty.aR _) | refine aB ?_ (Ty.aG _) | refine aJ rfl (Cont.aG _) ?_)))
  all_goals skip
 refine cE (aL (aL (ah rfl (aC (aF (aA (bF rfl (b9 rfl (b9 rfl (aD (aC (au ?_))))))))))))
 refine g9 rfl rfl rfl ?_ ?_
 all_goals skip
 all_goals exact bE rfl rfl (congrArg (Ty.int .i64) (by rw [m6, if_neg (fun h => h hc1), if_neg (Bool.eq_false_iff.1 hc2), if_neg (Bool.eq_false_iff.1 hc3), if_neg (Bool.eq_false_iff.1 hc4), show (n : Int).toNat = n from rfl]; have h := hx2; rw [List.take_of_length_le (by omega)] at h; rw [h]))
end Go.Proofs.YtmmcenjknimhbaaGreat
namespace Go.Proofs.YtmmcenjknimhbaaGreat
open Go Go.T
set_option maxHeartbeats 2000000
attribute [local irreducible] eG cZ jR j6 eP eO eK eM eS j8 eJ j4 b8 dc jz dZ j7 nth eZ cU aV cX bodyPost Exit.then Exit.inBlock Code.wp Code.wpIn dS mz mm m5 fT mq m7 fW mW eB fO lq bW bV bodyPostM cV
theorem Ia {w : KV} {s j : Nat} (h1 : gW w s j < 0) (h2 : ((s >>> j &&& 1 : Nat) : Int) = 0) (h3 : (bf w ((s ||| 1 <<< j : Nat) : Int)).getD 0 > 0) : gW w s (j + 1) = j := by
 have hb : s.testBit j = false := Bool.eq_false_iff.2 fun h => by have := (iQ s j).2 h; omega
 have hk : ku w s j = true := by simp only [ku, hb, mg]; simpa using h3
 rw [rR, if_pos ⟨h1, hk⟩]
theorem My {w : KV} {s j : Nat} (h : ¬ (gW w s j < 0 ∧ ((s >>> j &&& 1 : Nat) : Int) = 0 ∧ (bf w ((s ||| 1 <<< j : Nat) : Int)).getD 0 > 0)) : gW w s (j + 1) = gW w s j := by
 rw [rR, if_neg]
 rintro ⟨h1, h2⟩
 obtain ⟨h3, h4⟩ := yD h2
 refine h ⟨h1, ?_, h4⟩
 have := Nat.mod_two_eq_zero_or_one (s >>> j)
 have h5 : ¬ (s >>> j &&& 1 = 1) := fun e => by rw [iQ] at e; rw [e] at h3; cases h3
 rw [Nat.and_one_is_mod] at *
 omega
set_option maxRecDepth 100000 in
theorem SO (f : bS) (hs : f.Small) : cX Tryz.prog 45 [iT f] (Ty.tE [Ty.sl dN (vi f).1, Ty.int .i64 (vi f).2]) := by
 refine aY Tryz.func45 rfl (by decide) Tryz.ntmps45 (by exact Nat.le_of_ble_eq_true rfl) fun w0 M0 => ?_
 have hs1 := hs.bears; have hs2 := hs.bins; have hs3 := hs.turnings; have hs4 := hs.rules
 refine aF (aA (bD rfl (mN rfl (b9 rfl (aD (aC (aF (aA ?_))))))))
 refine az rfl rfl rfl (by exact Nat.le_of_ble_eq_true rfl) ?_
 refine aq (qZ f hs _) rfl rfl rfl rfl rfl (FQ rfl (bt rfl rfl (bt rfl rfl (TR rfl (b9 rfl (aD (aC (aF (aF (aA (bF rfl (ak rfl rfl rfl (aD (aC ?_))))))))))))))
 refine ck rfl (fun hc1 => ?_) (fun hc1 => ?_)
 ·refine aF (aA (bF rfl (mN rfl (b9 rfl (aD (aC (au (aW ?_))))))))
  refine g9 rfl rfl rfl ?_ ?_
  all_goals skip
  all_goals first | exact bE rfl rfl (congrArg (Ty.int .i64) (by rw [vi, if_pos hc1])) | exact fy (by rw [vi, if_pos hc1])
 refine bA (aC (aF ?_))
 have h0 := ji hc1
 have hfi := fY h0.1
 have hff := ni f
 have hnt : f.turnings.length ≤ 8 := by have := hfi.nt; rw [hff] at this; exact this
 refine mY (s := 4) rfl (Ty.lu (decide_eq_true hc1)) ?_
 refine aA (mJ rfl (mJ rfl (aq (D1 (aX f)) rfl rfl rfl rfl rfl (aq (FO (aX f) hfi) rfl rfl rfl rfl rfl (TM rfl (aD (aC (aF (aF (aA (Nw rfl ?_)))))))))))
 refine pG (jV Tryz.prog 3 .i64 tI) (z0 := (0 : Int)) rfl rfl gi fS q4 gr ?_
 refine ak rfl rfl rfl (aD (aC ?_))
 refine aa rfl (fun hc2 => ?_) (fun hc2 => ?_)
 ·refine aF (aA (mN rfl (b9 rfl (aD (aC (au (aW ?_)))))))
  refine g9 rfl rfl rfl ?_ ?_
  all_goals skip
  all_goals first | exact bE rfl rfl (congrArg (Ty.int .i64) (by rw [vi, if_neg (fun h => h hc1), if_pos (show mg (dV f) 0 = 0 from hc2)])) | exact fy (by rw [vi, if_neg (fun h => h hc1), if_pos (show mg (dV f) 0 = 0 from hc2)])
 refine bA (aC (aF ?_))
 have hpos : 0 < mg (dV f) 0 := by have h1 := Fv hfi (uI (aX f)) (s := 0) (by omega); have h2 : ¬ mg (dV f) 0 = 0 := hc2; have h3 : 0 ≤ mg (dV f) 0 := h1; omega
 have hinv : ∀ i, i ≤ f.turnings.length → (iF (dV f) f.turnings.length i).2 < 2 ^ f.turnings.length ∧ (iF (dV f) f.turnings.length i).1.length = i := fun i hi => by have h := zZ hfi (uI (aX f)) hpos i (by rw [hff]; exact hi); rw [hff] at h; exact ⟨h.1, h.2.2.2⟩
 have hnxt : ∀ i, i < f.turnings.length → 0 ≤ gW (dV f) (iF (dV f) f.turnings.length i).2 f.turnings.length := fun i hi => by have h := Lr hfi (uI (aX f)) hpos (i := i) (by rw [hff]; exact hi); rw [hff] at h; exact h
 refine aA (mN rfl (aD (aC (aF (aA (b9 rfl (aD (aC (aF (aF (aA ?_)))))))))))
 refine aP rfl rfl rfl rfl rfl (by decide) ?_
 refine aK rfl rfl rfl rfl (cC rfl rfl rfl (bF rfl (aD (aC (af ?_)))))
 refine cK (fun (i : {k : Nat // k ≤ f.turnings.length}) => live [(1, Ty.pp (cx f)), (6, Ty.pm (Value.int .i64) qV (dV f)), (7, Ty.row dN 3 61 (iF (dV f) f.turnings.length i.1).1), (8, Ty.int .i64 ((iF (dV f) f.turnings.length i.1).2 : Nat)), (28, Ty.int .i64 f.turnings.length), (29, Ty.int .i64 (i.1 : Nat))] []) (fun i => f.turnings.length - i.1) (⟨0, by omega⟩) ?_ fun i => ?_
 ·(refine c8.mk' ?_ ?_ <;> (repeat' (first | exact aI | exact aH | refine aB ?_ (Ty.aR _) | refine aB ?_ (Ty.aG _) | refine aB ?_ Ty.lX)))
 obtain ⟨hi1, hi4⟩ := hinv i.1 i.2
 have hs256 := u9 hnt hi1
 obtain ⟨s, hse⟩ : ∃ s, s = (iF (dV f) f.turnings.length i.1).2 := ⟨_, rfl⟩
 have hs2 : s < 256 := hse ▸ hs256
 refine mY (s := 8) rfl (Ty.bJ (by rw [← hse])) ?_
 refine aF (aA (ak rfl rfl rfl (aD (aC (aF ?_)))))
 refine aa rfl (fun hc3 => ?_) (fun hc3 => ?_)
 ·refine bA (aC (aF (af (aF (aA (b9 rfl (aD (aC (aF (aF (aA ?_)))))))))))
  refine aP rfl rfl rfl rfl rfl (by decide) ?_
  refine aK rfl rfl rfl rfl (cC rfl rfl rfl (bF rfl (aD (aC (af ?_)))))
  refine cK (fun (j : {k : Nat // k ≤ f.turnings.length}) => live [(1, Ty.pp (cx f)), (6, Ty.pm (Value.int .i64) qV (dV f)), (7, Ty.row dN 3 61 (iF (dV f) f.turnings.length i.1).1), (8, Ty.int .i64 (s : Nat)), (9, Ty.int .i64 (gW (dV f) s j.1)), (28, Ty.int .i64 f.turnings.length), (29, Ty.int .i64 (i.1 : Nat)), (33, Ty.int .i64 f.turnings.length), (34, Ty.int .i64 (j.1 : Nat))] []) (fun j => f.turnings.length - j.1) (⟨0, by omega⟩) ?_ fun j => ?_
  ·(refine c8.mk' ?_ ?_ <;> (repeat' (first | exact aI | exact aH | refine aB ?_ (Ty.aR _) | refine aB ?_ (Ty.aG _))))
  refine aF (aA (ak rfl rfl rfl (aD (aC (aF ?_)))))
  refine aa rfl (fun hc4 => ?_) (fun hc4 => ?_)
  ·refine bA (aC (aF (af (aF (aA (bF rfl (b9 rfl (aD (aC (aF ?_))))))))))
   have hsh := Nat.shiftRight_le s j.1
   have hone := lS (i := j.1) (by omega)
   refine aA (bF rfl (ak rfl rfl rfl (kV rfl ?_)))
   apply aN (s := 39) rfl rfl rfl
   ·intro hg; apply aQ; (refine bF rfl ?_); refine aD ?_; exact rfl
   ·exact rfl
   ·exact rfl
   apply aN (s := 39) rfl rfl rfl
   ·intro hg; apply aQ; (refine bF rfl ?_); refine aD ?_; exact rfl
   ·exact rfl
   ·exact rfl
   apply aN (s := 39) rfl rfl rfl
   ·intro hg; apply aM (s := 40) rfl (by (rw [hg]; rfl)); apply aM (s := 41) rfl (by (rw [hg]; rfl)); apply aQ; (refine uO rfl rfl (by omega) ?_); refine aD ?_; exact rfl
   ·exact rfl
   ·exact rfl
   apply aN (s := 39) rfl rfl rfl
   ·intro hg; apply aM (s := 42) rfl (by (rw [hg]; rfl)); apply aQ; (refine xw (b := 1) rfl rfl (by omega) (by omega) ?_); refine aD ?_; exact rfl
   ·exact rfl
   ·exact rfl
   apply aN (s := 39) rfl rfl rfl
   ·intro hg; apply aM (s := 43) rfl (by (rw [hg]; rfl)); apply aQ; (refine ak rfl rfl rfl ?_); refine aD ?_; exact rfl
   ·exact rfl
   ·exact rfl
   refine gL rfl rfl (kV rfl ?_)
   apply aN (s := 46) rfl rfl rfl
   ·intro hg; apply aQ; (refine Nw rfl ?_); refine aD ?_; exact rfl
   ·exact rfl
   ·exact rfl
   apply aN (s := 46) rfl rfl rfl
   ·intro hg; apply aQ; (refine bF rfl ?_); refine aD ?_; exact rfl
   ·exact rfl
   ·exact rfl
   apply aN (s := 46) rfl rfl rfl
   ·intro hg; apply aQ; (refine bF rfl ?_); refine aD ?_; exact rfl
   ·exact rfl
   ·exact rfl
   apply aN (s := 46) rfl rfl rfl
   ·intro hg; apply aM (s := 49) rfl (by (rw [hg]; rfl)); apply aQ; (refine nu (a := 1) rfl rfl (by omega) (by omega) ?_); refine aD ?_; exact rfl
   ·exact rfl
   ·exact rfl
   apply aN (s := 46) rfl rfl rfl
   ·intro hg; apply aM (s := 48) rfl (by (rw [hg]; rfl)); apply aM (s := 50) rfl (by (rw [hg]; rfl)); apply aQ; (refine wM rfl rfl (by omega) (by omega) ?_); refine aD ?_; exact rfl
   ·exact rfl
   ·exact rfl
   apply aN (s := 46) rfl rfl rfl
   ·intro hg; apply aM (s := 47) rfl (by (rw [hg]; rfl)); apply aM (s := 51) rfl (by (rw [hg]; rfl)); apply aQ; (refine pG (jV Tryz.prog 3 .i64 tI) (z0 := (0 : Int)) rfl rfl gi fS q4 gr ?_); refine aD ?_; exact rfl
   ·exact rfl
   ·exact rfl
   apply aN (s := 46) rfl rfl rfl
   ·intro hg; apply aM (s := 52) rfl (by (rw [hg]; rfl)); apply aQ; (refine ak rfl rfl rfl ?_); refine aD ?_; exact rfl
   ·exact rfl
   ·exact rfl
   refine gL rfl rfl (aD (aC ?_))
   refine c9 rfl (fun hc5 => ?_) (fun hc5 => ?_)
   ·refine aA (bF rfl (b9 rfl (aD (bH (aC (aA ?_))))))
    refine bz rfl rfl (by omega) (by omega) ?_
    refine bF rfl (aD ?_)
    refine bO (⟨j.1 + 1, by omega⟩) ?_ (by show f.turnings.length - (j.1 + 1) < f.turnings.length - j.1; omega)
    (refine c8.mk' ?_ ?_ <;> (repeat' (first | exact aI | exact aH | refine aB ?_ (Ty.aR _) | refine aB ?_ (Ty.aG _) | refine aB ?_ ?_)))
    all_goals skip
    all_goals exact Ty.bJ (Ia (by simp only [Bool.and_eq_true, decide_eq_true_eq] at hc5; exact hc5.1.1) (by simp only [Bool.and_eq_true, decide_eq_true_eq] at hc5; exact hc5.1.2) (by simp only [Bool.and_eq_true, decide_eq_true_eq] at hc5; exact hc5.2)).symm
   refine bA (bH (aC (aA ?_)))
   refine bz rfl rfl (by omega) (by omega) ?_
   refine bF rfl (aD ?_)
   refine bO (⟨j.1 + 1, by omega⟩) ?_ (by show f.turnings.length - (j.1 + 1) < f.turnings.length - j.1; omega)
   (refine c8.mk' ?_ ?_ <;> (repeat' (first | exact aI | exact aH | refine aB ?_ (Ty.aR _) | refine aB ?_ (Ty.aG _) | refine aB ?_ ?_)))
   all_goals skip
   all_goals exact Ty.bJ (My fun h => by rw [decide_eq_true h.1, decide_eq_true h.2.1, decide_eq_true h.2.2] at hc5; cases hc5).symm
  refine cE (aL (aL (ah rfl (aC ?_))))
  have hj : j.1 = f.turnings.length := by have := j.2; omega
  have hn0 : 0 ≤ gW (dV f) s j.1 := by rw [hj, hse]; exact hnxt i.1 (by omega)
  have hn1 := vR (dV f) s j.1
  have hone := lS (i := (gW (dV f) s j.1).toNat) (by omega)
  refine cg mixed rfl (BU rfl (bF rfl ?_))
  refine bT (E := dN) (xs := [_]) rfl rfl rfl rfl rfl (by decide) (by decide) (by repeat (first | exact (aT.nil : aT _ _ [] _) | (show aT _ _ ((_, _) :: _) _; apply aT.one; (· exact (rfl : _ = Ty.int _ _)); (· exact rfl)))) (by exact rfl) rfl ?_
  refine fD rfl rfl (by decide) rfl rfl rfl rfl rfl rfl (by decide) (by (simp <;> omega)) (by (simp <;> omega)) ?_
  refine bF rfl (bF rfl ?_)
  refine Ek (a := 1) rfl rfl (by omega) (by omega) (by omega) ?_
  refine wM rfl rfl (by omega) (by omega) ?_
  refine D8 rfl (b9 rfl (aD ?_))
  refine ⟨by kernel_rfl, ?_⟩
  refine bH (aC (aA ?_))
  refine bz rfl rfl (by omega) (by omega) ?_
  refine bF rfl (aD ?_)
  refine bO (⟨i.1 + 1, by omega⟩) ?_ (by show f.turnings.length - (i.1 + 1) < f.turnings.length - i.1; omega)
  (refine c8.mk' ?_ ?_ <;> (repeat' (first | exact aI | exact aH | refine aB ?_ (Ty.aR _) | refine aB ?_ (Ty.aG _) | refine aB ?_ ?_)))
  all_goals skip
  all_goals first | exact Ty.ej (by rw [hse, show j.1 = f.turnings.length by have := j.2; omega]; rfl) | exact Ty.bJ (by rw [hse, show j.1 = f.turnings.length by have := j.2; omega]; rfl)
 refine cE (aL (aL (ah rfl (aC (aF (aA (BU rfl (D8 rfl (b9 rfl (aD (aC (au ?_))))))))))))
 refine g9 rfl rfl rfl ?_ ?_
 all_goals skip
 all_goals first | exact bE rfl rfl (congrArg (Ty.int .i64) (by rw [vi, if_neg (fun h => h hc1), if_neg (show ¬ mg (dV f) 0 = 0 from hc2)])) | exact nO (by decide) (by rw [vi, if_neg (fun h => h hc1), if_neg (show ¬ mg (dV f) 0 = 0 from hc2), show i.1 = f.turnings.length by have := i.2; omega])
theorem w7 {b : SB} {s j : Nat} {m n : KV} (h : (decide (((s >>> j &&& 1 : Nat) : Int) = 1) || !eF b (s ||| 1 <<< j)) = true) : gD b s m n (j + 1) = gD b s m n j := by
 rw [oV, C5, if_pos]
 rw [Bool.or_eq_true] at h ⊢
 refine h.imp (fun h => (iQ s j).1 ?_) id
 have := of_decide_eq_true h
 omega
theorem KI {b : SB} {s j : Nat} (h : (decide (((s >>> j &&& 1 : Nat) : Int) = 1) || !eF b (s ||| 1 <<< j)) = false) : ¬ (s.testBit j || !eF b (s ||| 1 <<< j)) = true := by
 rw [Bool.or_eq_false_iff] at h
 rw [h.2, Bool.or_false, ← iQ]
 have := of_decide_eq_false h.1
 omega
theorem BM {b : SB} {s j : Nat} {m n : KV} (h : (decide (((s >>> j &&& 1 : Nat) : Int) = 1) || !eF b (s ||| 1 <<< j)) = false)
 (h2 : (!(gD b s m n j).found || decide (mg (gD b s m n j).best s < min (mo b (iI b s)) (mg (gD b s m n j).best ((s ||| 1 <<< j : Nat) : Int)))) = true) :
 gD b s m n (j + 1) = ⟨cq (gD b s m n j).best s (min (mo b (iI b s)) (mg (gD b s m n j).best ((s ||| 1 <<< j : Nat) : Int))), cq (gD b s m n j).next s j, true⟩ := by
 rw [oV, C5, if_neg (KI h), if_pos h2]
theorem BE {b : SB} {s j : Nat} {m n : KV} (h : (decide (((s >>> j &&& 1 : Nat) : Int) = 1) || !eF b (s ||| 1 <<< j)) = false)
 (h2 : (!(gD b s m n j).found || decide (mg (gD b s m n j).best s < min (mo b (iI b s)) (mg (gD b s m n j).best ((s ||| 1 <<< j : Nat) : Int)))) = false) :
 gD b s m n (j + 1) = gD b s m n j := by
 rw [oV, C5, if_neg (KI h), if_neg (Bool.eq_false_iff.1 h2)]
theorem Gn (f : bS) : yP f.turnings.length (n8 (aX f)).2 := by
 have h : yP (aX f).1.f.turnings.length (n8 (aX f)).2 := qX _ _ _
 rwa [ni] at h
set_option maxRecDepth 100000 in
theorem N1 (f : bS) (hs : f.Small) : cX Tryz.prog 47 [iT f] (Ty.tE [Ty.sl dN (kQ f).1, Ty.int .i64 (kQ f).2.1, Ty.int .i64 (kQ f).2.2]) := by
 refine aY Tryz.func47 rfl (by decide) Tryz.ntmps47 (by exact Nat.le_of_ble_eq_true rfl) fun w0 M0 => ?_
 have hs1 := hs.bears; have hs2 := hs.bins; have hs3 := hs.turnings; have hs4 := hs.rules
 refine aF (aA (bD rfl (mN rfl (b9 rfl (b9 rfl (aD (aC (aF (aA ?_)))))))))
 refine az rfl rfl rfl (by exact Nat.le_of_ble_eq_true rfl) ?_
 refine aq (qZ f hs _) rfl rfl rfl rfl rfl (FQ rfl (bt rfl rfl (bt rfl rfl (TR rfl (b9 rfl (aD (aC (aF (aF (aA (bF rfl (ak rfl rfl rfl (aD (aC ?_))))))))))))))
 refine ck rfl (fun hc1 => ?_) (fun hc1 => ?_)
 ·refine aF (aA (bF rfl (mN rfl (b9 rfl (b9 rfl (aD (aC (au (aW ?_)))))))))
  refine yY rfl rfl rfl rfl ?_ ?_ ?_
  all_goals skip
  all_goals first | exact bE rfl rfl (congrArg (Ty.int .i64) (by rw [kQ, if_pos hc1])) | exact fy (by rw [kQ, if_pos hc1])
 refine bA (aC (aF ?_))
 have h0 := ji hc1
 have hfi := fY h0.1
 have hff := ni f
 have hnt : f.turnings.length ≤ 8 := by have := hfi.nt; rw [hff] at this; exact this
 have hsl := q7 hnt
 obtain ⟨N, hN⟩ : ∃ N, N = 1 <<< f.turnings.length := ⟨_, rfl⟩
 refine mY (s := 5) rfl (Ty.lu (decide_eq_true hc1)) ?_
 refine aA (xD (Value.int .i64) qV fS rfl (xD (Value.int .i64) qV fS rfl (VG rfl (VG rfl (aD (aC (aF (aF (aA ?_)))))))))
 refine aP rfl rfl rfl rfl rfl (by decide) ?_
 refine aK rfl rfl rfl rfl (cC rfl rfl rfl ?_)
 refine nu (a := 1) rfl rfl (by omega) (by omega) ?_
 refine jB rfl rfl (by omega) (by omega) ?_
 refine b9 rfl (aD (aC (af ?_)))
 refine cK (fun (k : {k : Nat // k ≤ N}) => live [(1, Ty.pp (cx f)), (5, Ty.pe fF (aX f) 0), (7, Ty.mp 26), (8, Ty.mp 27), (9, Ty.int .i64 ((N : Int) - (k.1 + 1)))] [(26, Cont.mp (Value.int .i64) qV (gS (aX f) N k.1).1), (27, Cont.mp (Value.int .i64) qV (gS (aX f) N k.1).2)]) (fun k => N - k.1) (⟨0, by omega⟩) ?_ fun k => ?_
 ·(refine c8.mk' ?_ ?_ <;> (repeat' (first | exact aI | exact aH | refine aB ?_ (Ty.aR _) | refine aB ?_ (Ty.aG _) | refine aJ rfl (Cont.aG _) ?_ | refine aB ?_ ?_)))
  all_goals exact Ty.bJ (by show ((1 <<< f.turnings.length : Nat) : Int) - 1 = (N : Int) - (((0 : Nat) : Int) + 1); rw [← hN]; simp)
 refine aF (aF (aA (bF rfl (ak rfl rfl rfl (aD (aC ?_))))))
 refine aa rfl (fun hc2 => ?_) (fun hc2 => ?_)
 ·refine bA (aC (aF (af (aF (aF ?_)))))
  obtain ⟨s, hse⟩ : ∃ s : Nat, s + (k.1 + 1) = N := ⟨N - (k.1 + 1), by omega⟩
  have hs256 : s < 256 := by omega
  have hd : gS (aX f) N (k.1 + 1) = zk (aX f) s (gS (aX f) N k.1) := by rw [gS, show N - (k.1 + 1) = s by omega]
  refine mY (s := 9) rfl (Ty.bJ (show (N : Int) - (k.1 + 1) = (s : Nat) by omega)) ?_
  refine aA (mJ rfl (bF rfl ?_))
  refine aq (vE (aX f) _ (by omega) hfi.before) rfl rfl rfl rfl rfl ?_
  refine ct rfl (aD (aC ?_))
  refine c9 rfl (fun hc3 => ?_) (fun hc3 => ?_)
  ·refine cE (aL (ah rfl (aC (aA (bF rfl ?_)))))
   refine jB rfl rfl (by omega) (by omega) ?_
   refine b9 rfl (aD ?_)
   refine bO (⟨k.1 + 1, by omega⟩) ?_ (by exact Nat.sub_lt_sub_left (by omega) (Nat.lt_succ_self _))
   (refine c8.mk' ?_ ?_ <;> (repeat' (first | exact aI | exact aH | refine aB ?_ (Ty.aR _) | refine aB ?_ (Ty.aG _) | refine aJ rfl ?_ ?_ | refine aB ?_ ?_)))
   all_goals skip
   all_goals first | exact Ty.bJ (by show (s : Int) - 1 = (N : Int) - (((k.1 + 1 : Nat) : Int) + 1); omega) | exact Cont.iR (by show _ = (gS _ N (k.1 + 1)).1; rw [hd, zk, if_pos hc3]) | exact Cont.iR (by show _ = (gS _ N (k.1 + 1)).2; rw [hd, zk, if_pos hc3])
  refine bA (aC (aF (aA (mJ rfl (mJ rfl (bF rfl (aq (Ez (aX f) hfi s hs256) rfl rfl rfl rfl rfl ?_)))))))
  refine aq (HC (aX f) hfi _ (lH (aX f) s) (fun i => by have := yS hfi s i; omega)) rfl rfl rfl rfl rfl ?_
  refine b9 rfl (aD (aC (aF (aA (P8 rfl (bF rfl (bF rfl ?_)))))))
  refine lz (jV Tryz.prog 3 .i64 tI) rfl rfl (by decide) rfl gi rfl rfl fS ?_
  refine aD (aC (aF (aA (dG rfl (aD (aC (aF (aA ?_))))))))
  refine aP rfl rfl rfl rfl rfl (by decide) ?_
  refine aK rfl rfl rfl rfl (cC rfl rfl rfl (bF rfl (aD (aC (af ?_)))))
  refine cK (fun (j : {k : Nat // k ≤ f.turnings.length}) => live [(1, Ty.pp (cx f)), (5, Ty.pe fF (aX f) 0), (7, Ty.mp 26), (8, Ty.mp 27), (9, Ty.int .i64 (s : Nat)), (10, Ty.int .i64 (mo (aX f) (iI (aX f) s))), (11, Ty.bool (gD (aX f) s (gS (aX f) N k.1).1 (gS (aX f) N k.1).2 j.1).found), (50, Ty.int .i64 f.turnings.length), (51, Ty.int .i64 (j.1 : Nat))] [(26, Cont.mp (Value.int .i64) qV (gD (aX f) s (gS (aX f) N k.1).1 (gS (aX f) N k.1).2 j.1).best), (27, Cont.mp (Value.int .i64) qV (gD (aX f) s (gS (aX f) N k.1).1 (gS (aX f) N k.1).2 j.1).next)]) (fun j => f.turnings.length - j.1) (⟨0, by omega⟩) ?_ fun j => ?_
  ·(refine c8.mk' ?_ ?_ <;> (repeat' (first | exact aI | exact aH | refine aB ?_ (Ty.aR _) | refine aB ?_ (Ty.aG _) | refine aJ rfl (Cont.aG _) ?_)))
  refine aF (aA (ak rfl rfl rfl (aD (aC (aF ?_)))))
  refine aa rfl (fun hc4 => ?_) (fun hc4 => ?_)
  ·refine bA (aC (aF (af (aF (aA (bF rfl (b9 rfl (aD (aC (aF (aF ?_)))))))))))
   have hsh := Nat.shiftRight_le s j.1
   have hone := lS (i := j.1) (by omega)
   have h1k : 1 <<< j.1 < 256 := by rw [Nat.shiftLeft_eq, Nat.one_mul]; exact Nat.pow_lt_pow_right (n := 8) (by decide) (by omega)
   have hor : s ||| 1 <<< j.1 < 256 := Nat.or_lt_two_pow (n := 8) hs256 h1k
   refine aA (bF rfl (bF rfl ?_))
   refine uO rfl rfl (by omega) ?_
   refine xw (b := 1) rfl rfl (by omega) (by omega) ?_
   refine ak rfl rfl rfl (kV rfl ?_)
   apply aN (s := 59) rfl rfl rfl
   ·intro hg; apply aQ; (refine mJ rfl ?_); refine aD ?_; exact rfl
   ·exact rfl
   ·exact rfl
   apply aN (s := 59) rfl rfl rfl
   ·intro hg; apply aQ; (refine bF rfl ?_); refine aD ?_; exact rfl
   ·exact rfl
   ·exact rfl
   apply aN (s := 59) rfl rfl rfl
   ·intro hg; apply aQ; (refine bF rfl ?_); refine aD ?_; exact rfl
   ·exact rfl
   ·exact rfl
   apply aN (s := 59) rfl rfl rfl
   ·intro hg; apply aM (s := 62) rfl (by (rw [hg]; rfl)); apply aQ; (refine nu (a := 1) rfl rfl (by omega) (by omega) ?_); refine aD ?_; exact rfl
   ·exact rfl
   ·exact rfl
   apply aN (s := 59) rfl rfl rfl
   ·intro hg; apply aM (s := 61) rfl (by (rw [hg]; rfl)); apply aM (s := 63) rfl (by (rw [hg]; rfl)); apply aQ; (refine wM rfl rfl (by omega) (by omega) ?_); refine aD ?_; exact rfl
   ·exact rfl
   ·exact rfl
   apply aN (s := 59) rfl rfl rfl
   ·intro hg; apply aM (s := 60) rfl (by (rw [hg]; rfl)); apply aM (s := 64) rfl (by (rw [hg]; rfl)); apply aQ; (refine aq (vE (aX f) _ (by omega) hfi.before) rfl rfl rfl rfl rfl ?_); refine aD ?_; exact rfl
   ·exact rfl
   ·exact rfl
   apply aN (s := 59) rfl rfl rfl
   ·intro hg; apply aM (s := 65) rfl (by (rw [hg]; rfl)); apply aQ; (refine ct rfl ?_); refine aD ?_; exact rfl
   ·exact rfl
   ·exact rfl
   refine oB rfl rfl (aD (aC ?_))
   refine c9 rfl (fun hc5 => ?_) (fun hc5 => ?_)
   ·refine cE (aL (ah rfl (aC (aA ?_))))
    refine bz rfl rfl (by omega) (by omega) ?_
    refine bF rfl (aD ?_)
    refine bO (⟨j.1 + 1, by omega⟩) ?_ (by show f.turnings.length - (j.1 + 1) < f.turnings.length - j.1; omega)
    (refine c8.mk' ?_ ?_ <;> (repeat' (first | exact aI | exact aH | refine aB ?_ (Ty.aR _) | refine aB ?_ (Ty.aG _) | refine aJ rfl ?_ ?_ | refine aB ?_ ?_)))
    all_goals skip
    all_goals first | exact Ty.z6 (congrArg NC.found (w7 hc5).symm) | exact Cont.iR (congrArg NC.best (w7 hc5).symm) | exact Cont.iR (congrArg NC.next (w7 hc5).symm)
   refine bA (aC (aF (aA (bF rfl (P8 rfl (bF rfl (bF rfl ?_)))))))
   refine nu (a := 1) rfl rfl (by omega) (by omega) ?_
   refine wM rfl rfl (by omega) (by omega) ?_
   refine pN (jV Tryz.prog 3 .i64 tI) (z0 := (0 : Int)) rfl rfl (by decide) rfl gi fS q4 gr ?_
   refine bT (E := dN) (xs := [_]) rfl rfl rfl rfl rfl (by decide) (by decide) (by repeat (first | exact (aT.nil : aT _ _ [] _) | (show aT _ _ ((_, _) :: _) _; apply aT.one; (· exact (rfl : _ = Ty.int _ _)); (· exact rfl)))) (by exact rfl) rfl ?_
   refine aq (HY _ _) rfl rfl rfl rfl rfl (b9 rfl (aD (aC (aF (aA (kV rfl (ct rfl (kV rfl ?_))))))))
   apply aN (s := 79) rfl rfl rfl
   ·intro hg; apply aQ; (refine bF rfl ?_); refine aD ?_; exact rfl
   ·exact rfl
   ·exact rfl
   apply aN (s := 79) rfl rfl rfl
   ·intro hg; apply aQ; (refine P8 rfl ?_); refine aD ?_; exact rfl
   ·exact rfl
   ·exact rfl
   apply aN (s := 79) rfl rfl rfl
   ·intro hg; apply aQ; (refine bF rfl ?_); refine aD ?_; exact rfl
   ·exact rfl
   ·exact rfl
   apply aN (s := 79) rfl rfl rfl
   ·intro hg; apply aM (s := 81) rfl (by (rw [hg]; rfl)); apply aM (s := 82) rfl (by (rw [hg]; rfl)); apply aQ; (refine pN (jV Tryz.prog 3 .i64 tI) (z0 := (0 : Int)) rfl rfl (by decide) rfl gi fS q4 gr ?_); refine aD ?_; exact rfl
   ·exact rfl
   ·exact rfl
   apply aN (s := 79) rfl rfl rfl
   ·intro hg; apply aM (s := 80) rfl (by (rw [hg]; rfl)); apply aM (s := 83) rfl (by (rw [hg]; rfl)); apply aQ; (refine ak rfl rfl rfl ?_); refine aD ?_; exact rfl
   ·exact rfl
   ·exact rfl
   refine oB rfl rfl (aD (aC ?_))
   refine c9 rfl (fun hc6 => ?_) (fun hc6 => ?_)
   ·refine aA (P8 rfl (bF rfl (P8 rfl (bF rfl (bF rfl (bF rfl ?_))))))
    refine lz (jV Tryz.prog 3 .i64 tI) rfl rfl (by decide) rfl gi rfl rfl fS ?_
    refine lz (jV Tryz.prog 3 .i64 tI) rfl rfl (by decide) rfl gi rfl rfl fS ?_
    refine dG rfl (aD (bH (aC (aA ?_))))
    refine bz rfl rfl (by omega) (by omega) ?_
    refine bF rfl (aD ?_)
    refine bO (⟨j.1 + 1, by omega⟩) ?_ (by show f.turnings.length - (j.1 + 1) < f.turnings.length - j.1; omega)
    (refine c8.mk' ?_ ?_ <;> (repeat' (first | exact aI | exact aH | refine aB ?_ (Ty.aR _) | refine aB ?_ (Ty.aG _) | refine aJ rfl ?_ ?_ | refine aB ?_ ?_)))
    all_goals skip
    all_goals first | exact Ty.z6 (congrArg NC.found (BM hc5 hc6).symm) | exact Cont.iR (congrArg NC.best (BM hc5 hc6).symm) | exact Cont.iR (congrArg NC.next (BM hc5 hc6).symm)
   refine bA (bH (aC (aA ?_)))
   refine bz rfl rfl (by omega) (by omega) ?_
   refine bF rfl (aD ?_)
   refine bO (⟨j.1 + 1, by omega⟩) ?_ (by show f.turnings.length - (j.1 + 1) < f.turnings.length - j.1; omega)
   (refine c8.mk' ?_ ?_ <;> (repeat' (first | exact aI | exact aH | refine aB ?_ (Ty.aR _) | refine aB ?_ (Ty.aG _) | refine aJ rfl ?_ ?_ | refine aB ?_ ?_)))
   all_goals skip
   all_goals first | exact Ty.z6 (congrArg NC.found (BE hc5 hc6).symm) | exact Cont.iR (congrArg NC.best (BE hc5 hc6).symm) | exact Cont.iR (congrArg NC.next (BE hc5 hc6).symm)
  refine cE (aL (aL (ah rfl (bH (aC (aA (bF rfl ?_)))))))
  refine jB rfl rfl (by omega) (by omega) ?_
  refine b9 rfl (aD ?_)
  refine bO (⟨k.1 + 1, by omega⟩) ?_ (by exact Nat.sub_lt_sub_left (by omega) (Nat.lt_succ_self _))
  (refine c8.mk' ?_ ?_ <;> (repeat' (first | exact aI | exact aH | refine aB ?_ (Ty.aR _) | refine aB ?_ (Ty.aG _) | refine aJ rfl ?_ ?_ | refine aB ?_ ?_)))
  all_goals skip
  all_goals first | exact Ty.bJ (by show (s : Int) - 1 = (N : Int) - (((k.1 + 1 : Nat) : Int) + 1); omega) | exact Cont.iR (by show _ = (gS _ N (k.1 + 1)).1; rw [hd, zk, if_neg (Bool.eq_false_iff.1 hc3), hff, show j.1 = f.turnings.length by have := j.2; omega]) | exact Cont.iR (by show _ = (gS _ N (k.1 + 1)).2; rw [hd, zk, if_neg (Bool.eq_false_iff.1 hc3), hff, show j.1 = f.turnings.length by have := j.2; omega])
 refine cE (aL (aL (ah rfl (aC (aF ?_)))))
 have hnx := Gn f
 refine aA (mN rfl (aD (aC (aF (aA (b9 rfl (aD (aC (aF (aF (aA ?_)))))))))))
 refine aP rfl rfl rfl rfl rfl (by decide) ?_
 refine aK rfl rfl rfl rfl (cC rfl rfl rfl (bF rfl (aD (aC (af ?_)))))
 refine cK (fun (i : {k : Nat // k ≤ f.turnings.length}) => live [(1, Ty.pp (cx f)), (7, Ty.mp 26), (8, Ty.mp 27), (14, Ty.row dN 3 105 (qJ (n8 (aX f)).2 i.1).1), (15, Ty.int .i64 ((qJ (n8 (aX f)).2 i.1).2 : Nat)), (95, Ty.int .i64 f.turnings.length), (96, Ty.int .i64 (i.1 : Nat))] [(26, Cont.mp (Value.int .i64) qV (n8 (aX f)).1), (27, Cont.mp (Value.int .i64) qV (n8 (aX f)).2)]) (fun i => f.turnings.length - i.1) (⟨0, by omega⟩) ?_ fun i => ?_
 ·(refine c8.mk' ?_ ?_ <;> (repeat' (first | exact aI | exact aH | refine aB ?_ (Ty.aR _) | refine aB ?_ (Ty.aG _) | refine aB ?_ Ty.lX | refine aJ rfl ?_ ?_)))
  all_goals first | exact Cont.iR (by show (gS _ N k.1).1 = (n8 (aX f)).1; rw [n8, hff, ← hN, show k.1 = N by have := k.2; omega]) | exact Cont.iR (by show (gS _ N k.1).2 = (n8 (aX f)).2; rw [n8, hff, ← hN, show k.1 = N by have := k.2; omega])
 have hob := BX hnx hnt i.1
 refine aF (aA (ak rfl rfl rfl (aD (aC (aF ?_)))))
 refine aa rfl (fun hc7 => ?_) (fun hc7 => ?_)
 ·refine bA (aC (aF (af (aF (aA (P8 rfl (bF rfl ?_)))))))
  refine pN (jV Tryz.prog 3 .i64 tI) (z0 := (0 : Int)) rfl rfl (by decide) rfl gi fS q4 gr ?_
  refine b9 rfl (aD (aC ?_))
  have hv := hnx ((qJ (n8 (aX f)).2 i.1).2 : Nat)
  simp only [mg] at hv
  have hone := lS (i := ((bf (n8 (aX f)).2 ((qJ (n8 (aX f)).2 i.1).2 : Nat)).getD 0).toNat) (by omega)
  refine cg mixed rfl (BU rfl (bF rfl ?_))
  refine bT (E := dN) (xs := [_]) rfl rfl rfl rfl rfl (by decide) (by decide) (by repeat (first | exact (aT.nil : aT _ _ [] _) | (show aT _ _ ((_, _) :: _) _; apply aT.one; (· exact (rfl : _ = Ty.int _ _)); (· exact rfl)))) (by exact rfl) rfl ?_
  refine fD rfl rfl (by decide) rfl rfl rfl rfl rfl rfl (by decide) (by (simp <;> omega)) (by (simp <;> omega)) ?_
  refine bF rfl (bF rfl ?_)
  refine Ek (a := 1) rfl rfl (by omega) (by omega) (by omega) ?_
  refine wM rfl rfl (by omega) (by omega) ?_
  refine D8 rfl (b9 rfl (aD ?_))
  refine ⟨by kernel_rfl, ?_⟩
  refine bH (aC (aA ?_))
  refine bz rfl rfl (by omega) (by omega) ?_
  refine bF rfl (aD ?_)
  refine bO (⟨i.1 + 1, by omega⟩) ?_ (by show f.turnings.length - (i.1 + 1) < f.turnings.length - i.1; omega)
  (refine c8.mk' ?_ ?_ <;> (repeat' (first | exact aI | exact aH | refine aB ?_ (Ty.aR _) | refine aB ?_ (Ty.aG _) | refine aJ rfl (Cont.aG _) ?_)))
  all_goals skip
 refine cE (aL (aL (ah rfl (aC (aF (cg mixed rfl (BU rfl (P8 rfl ?_))))))))
 refine pN (jV Tryz.prog 3 .i64 tI) (z0 := (0 : Int)) rfl rfl (by decide) rfl gi fS q4 gr ?_
 refine D8 rfl (b9 rfl (b9 rfl (aD ?_)))
 refine ⟨by kernel_rfl, ?_⟩
 refine aC (au ?_)
 refine yY rfl rfl rfl rfl ?_ ?_ ?_
 all_goals skip
 all_goals first | exact bE rfl rfl (congrArg (Ty.int .i64) (by rw [kQ, if_neg (fun h => h hc1)]; try rfl)) | exact nO (by decide) (by rw [kQ, if_neg (fun h => h hc1), show i.1 = f.turnings.length by have := i.2; omega])
end Go.Proofs.YtmmcenjknimhbaaGreat
namespace Go.Proofs.YtmmcenjknimhbaaGreat
open Go Go.T
set_option maxHeartbeats 2000000
attribute [local irreducible] eG cZ jR j6 eP eO eK eM eS j8 eJ j4 b8 dc jz dZ j7 nth eZ cU aV cX bodyPost Exit.then Exit.inBlock Code.wp Code.wpIn dS mz mm m5 fT mq m7 fW mW eB fO lq bW bV bodyPostM cV
def f0 : bS := two []
def f1 : bS := two [⟨0, 2⟩]
def f2 : bS := two [⟨2, 0⟩, ⟨2, 1⟩]
theorem EU : f0.Small := by constructor <;> decide +kernel
theorem Pk : f1.Small := by constructor <;> decide +kernel
theorem TP : f2.Small := by constructor <;> decide +kernel
theorem QZ : Cn f0 0 = (460, 0) := by decide +kernel
theorem QB : Cn f1 0 = (380, 0) := by decide +kernel
theorem PV : m6 f1 0 [⟨2, 0, 80⟩] = (380, 0) := by decide +kernel
theorem SP : vi f0 = ([0, 1, 2], 0) := by decide +kernel
theorem Qv : countP f0 = (4, 0) := by decide +kernel
theorem Ov : (kQ f2).2 = (-60, 0) := by decide +kernel
theorem PL : m0 f0 = ([0, 1], 0) := by decide +kernel
theorem RK : cX Tryz.prog 21 [iT f0, Ty.int .i64 0] (Ty.tE [Ty.int .i64 460, Ty.int .i64 0]) := by have h := O3 f0 EU 0; rw [QZ] at h; exact h
theorem Qa : cX Tryz.prog 21 [iT f1, Ty.int .i64 0] (Ty.tE [Ty.int .i64 380, Ty.int .i64 0]) := by have h := O3 f1 Pk 0; rw [QB] at h; exact h
theorem N2 : cX Tryz.prog 44 [iT f1, Ty.int .i64 0, Ty.sl rL [⟨2, 0, 80⟩]] (Ty.tE [Ty.int .i64 380, Ty.int .i64 0]) := by have h := Ou f1 Pk 0 [⟨2, 0, 80⟩] (by decide); rw [PV] at h; exact h
theorem Tg : cX Tryz.prog 45 [iT f0] (Ty.tE [Ty.sl dN [0, 1, 2], Ty.int .i64 0]) := by have h := SO f0 EU; rw [SP] at h; exact h
theorem QF : cX Tryz.prog 46 [iT f0] (Ty.tE [Ty.int .i64 4, Ty.int .i64 0]) := by have h := Q6 f0 EU; rw [Qv] at h; exact h
theorem Oz : cX Tryz.prog 47 [iT f2] (Ty.tE [Ty.sl dN (kQ f2).1, Ty.int .i64 (-60), Ty.int .i64 0]) := by have h := N1 f2 TP; rw [Ov] at h; exact h
theorem N0 : cX Tryz.prog 48 [iT f0] (Ty.tE [Ty.sl dN [0, 1], Ty.int .i64 0]) := by have h := N6 f0 EU; rw [PL] at h; exact h
set_option maxRecDepth 100000 in
theorem PT : cX Tryz.prog 13 [] (Ty.bool true) := by
 refine aY Tryz.func13 rfl (by decide) Tryz.ntmps13 (by exact Nat.le_of_ble_eq_true rfl) fun w0 M0 => ?_
 refine aF (aA (dG rfl (aD (aC (aF (aA ?_))))))
 refine eX rfl rfl (by exact List.cons_ne_nil _ _) rfl (by repeat (first | exact (aT.nil : aT _ _ [] _) | (show aT _ _ ((_, _) :: _) _; apply aT.one; (· exact (rfl : _ = Ty.int _ _)); (· exact rfl)))) (by exact (rfl : _ = some [_, _])) ?_
 refine dA rfl (by exact List.cons_ne_nil _ _) rfl ?_
 refine eH rfl rfl (by decide) rfl rfl rfl rfl rfl rfl ?_
 refine aD (aC (aF (aA ?_)))
 refine oY [] (Am []) rfl (by repeat (first | exact jP | refine gV vk ?_)) rfl rfl (by intro u hu; cases hu) ?_
 refine aq RK rfl rfl rfl rfl rfl (FQ rfl (bt rfl rfl (bt rfl rfl (b9 rfl (b9 rfl (aD (aC (aF (aA ?_)))))))))
 refine gN rfl rfl (by decide) rfl rfl (by exact Nat.le_of_ble_eq_true rfl) ?_
 refine bT (E := jh) (xs := [⟨0, 2⟩]) rfl rfl rfl rfl rfl (by decide) (by decide) (by repeat (first | exact (aT.nil : aT _ _ [] _) | (show aT _ _ ((_, _) :: _) _; apply aT.agg; (· exact (rfl : _ = Ty.agg _))))) (by exact rfl) rfl ?_
 refine oY [26] (Am [⟨0, 2⟩]) rfl (by repeat (first | exact jP | refine gV (pI rfl rfl) ?_)) rfl rfl (by intro u hu; rw [List.mem_singleton.1 hu]; exact ⟨by decide, fun h => by cases h⟩) ?_
 refine aq Qa rfl rfl rfl rfl rfl (FQ rfl (bt rfl rfl (bt rfl rfl (b9 rfl (b9 rfl (aD (aC (aF (aA ?_)))))))))
 refine gN rfl rfl (by decide) rfl rfl (by exact Nat.le_of_ble_eq_true rfl) ?_
 refine bT (E := jh) (xs := [⟨0, 2⟩]) rfl rfl rfl rfl rfl (by decide) (by decide) (by repeat (first | exact (aT.nil : aT _ _ [] _) | (show aT _ _ ((_, _) :: _) _; apply aT.agg; (· exact (rfl : _ = Ty.agg _))))) (by exact rfl) rfl ?_
 refine oY [33] (Am [⟨0, 2⟩]) rfl (by repeat (first | exact jP | refine gV (pI rfl rfl) ?_)) rfl rfl (by intro u hu; rw [List.mem_singleton.1 hu]; exact ⟨by decide, fun h => by cases h⟩) ?_
 refine eX rfl rfl (by exact List.cons_ne_nil _ _) rfl (by repeat (first | exact (aT.nil : aT _ _ [] _) | (show aT _ _ ((_, _) :: _) _; apply aT.one; (· exact (rfl : _ = Ty.int _ _)); (· exact rfl)))) (by exact (rfl : _ = some [_, _, _])) ?_
 refine bT (E := rL) (xs := [⟨2, 0, 80⟩]) rfl rfl rfl rfl rfl (by decide) (by decide) (by repeat (first | exact (aT.nil : aT _ _ [] _) | (show aT _ _ ((_, _) :: _) _; apply aT.agg; (· exact (rfl : _ = Ty.agg _))))) (by exact rfl) rfl ?_
 refine oY [36] (N2) rfl (by repeat (first | exact jP | refine gV (pI rfl rfl) ?_)) rfl rfl (by intro u hu; rw [List.mem_singleton.1 hu]; exact ⟨by decide, fun h => by cases h⟩) ?_
 refine FQ rfl (bt rfl rfl (bt rfl rfl (b9 rfl (b9 rfl (aD (aC (aF (aA ?_))))))))
 refine oY [] (Am []) rfl (by repeat (first | exact jP | refine gV vk ?_)) rfl rfl (by intro u hu; cases hu) ?_
 refine aq Tg rfl rfl rfl rfl rfl (FQ rfl (bt rfl rfl (bt rfl rfl (Oa rfl (b9 rfl (aD (aC (aF (aA ?_)))))))))
 refine oY [] (Am []) rfl (by repeat (first | exact jP | refine gV vk ?_)) rfl rfl (by intro u hu; cases hu) ?_
 refine aq QF rfl rfl rfl rfl rfl (FQ rfl (bt rfl rfl (bt rfl rfl (b9 rfl (b9 rfl (aD (aC (aF (aA ?_)))))))))
 refine eX rfl rfl (by exact List.cons_ne_nil _ _) rfl (by repeat (first | exact (aT.nil : aT _ _ [] _) | (show aT _ _ ((_, _) :: _) _; apply aT.one; (· exact (rfl : _ = Ty.int _ _)); (· exact rfl)))) (by exact (rfl : _ = some [_, _])) ?_
 refine eX rfl rfl (by exact List.cons_ne_nil _ _) rfl (by repeat (first | exact (aT.nil : aT _ _ [] _) | (show aT _ _ ((_, _) :: _) _; apply aT.one; (· exact (rfl : _ = Ty.int _ _)); (· exact rfl)))) (by exact (rfl : _ = some [_, _])) ?_
 refine bT (E := jh) (xs := [⟨2, 0⟩, ⟨2, 1⟩]) rfl rfl rfl rfl rfl (by decide) (by decide) (by repeat (first | exact (aT.nil : aT _ _ [] _) | (show aT _ _ ((_, _) :: _) _; apply aT.agg; (· exact (rfl : _ = Ty.agg _))))) (by exact rfl) rfl ?_
 refine oY [53] (Am [⟨2, 0⟩, ⟨2, 1⟩]) rfl (by repeat (first | exact jP | refine gV (pI rfl rfl) ?_)) rfl rfl (by intro u hu; rw [List.mem_singleton.1 hu]; exact ⟨by decide, fun h => by cases h⟩) ?_
 refine aq Oz rfl rfl rfl rfl rfl (FQ rfl (bt rfl rfl (bt rfl rfl (bt rfl rfl (Oa rfl (b9 rfl (b9 rfl (aD (aC (aF (aA ?_)))))))))))
 refine oY [] (Am []) rfl (by repeat (first | exact jP | refine gV vk ?_)) rfl rfl (by intro u hu; cases hu) ?_
 refine aq N0 rfl rfl rfl rfl rfl (FQ rfl (bt rfl rfl (bt rfl rfl (Oa rfl (b9 rfl (aD (aC (aF (aA (bF rfl (ak rfl rfl rfl (kV rfl ?_))))))))))))
 apply aN (s := 65) rfl rfl rfl
 ·intro hg; apply aQ; (refine bF rfl ?_); refine aD ?_; exact rfl
 ·exact rfl
 ·exact rfl
 apply aN (s := 65) rfl rfl rfl
 ·intro hg; apply aM (s := 66) rfl (by exact hg); apply aQ; (refine ak rfl rfl rfl ?_); refine aD ?_; exact rfl
 ·exact rfl
 ·exact rfl
 refine gL rfl rfl (kV rfl ?_)
 apply aN (s := 69) rfl rfl rfl
 ·intro hg; apply aQ; (refine bF rfl ?_); refine aD ?_; exact rfl
 ·exact rfl
 ·exact rfl
 apply aN (s := 69) rfl rfl rfl
 ·intro hg; apply aM (s := 70) rfl (by exact hg); apply aQ; (refine ak rfl rfl rfl ?_); refine aD ?_; exact rfl
 ·exact rfl
 ·exact rfl
 refine gL rfl rfl (kV rfl ?_)
 apply aN (s := 73) rfl rfl rfl
 ·intro hg; apply aQ; (refine bF rfl ?_); refine aD ?_; exact rfl
 ·exact rfl
 ·exact rfl
 apply aN (s := 73) rfl rfl rfl
 ·intro hg; apply aM (s := 74) rfl (by exact hg); apply aQ; (refine ak rfl rfl rfl ?_); refine aD ?_; exact rfl
 ·exact rfl
 ·exact rfl
 refine gL rfl rfl (kV rfl ?_)
 apply aN (s := 77) rfl rfl rfl
 ·intro hg; apply aQ; (refine bF rfl ?_); refine aD ?_; exact rfl
 ·exact rfl
 ·exact rfl
 apply aN (s := 77) rfl rfl rfl
 ·intro hg; apply aM (s := 78) rfl (by exact hg); apply aQ; (refine ak rfl rfl rfl ?_); refine aD ?_; exact rfl
 ·exact rfl
 ·exact rfl
 refine gL rfl rfl (kV rfl ?_)
 apply aN (s := 81) rfl rfl rfl
 ·intro hg; apply aQ; (refine bF rfl ?_); refine aD ?_; exact rfl
 ·exact rfl
 ·exact rfl
 apply aN (s := 81) rfl rfl rfl
 ·intro hg; apply aM (s := 82) rfl (by exact hg); apply aQ; (refine ak rfl rfl rfl ?_); refine aD ?_; exact rfl
 ·exact rfl
 ·exact rfl
 refine gL rfl rfl (kV rfl ?_)
 apply aN (s := 85) rfl rfl rfl
 ·intro hg; apply aQ; (refine bF rfl ?_); refine aD ?_; exact rfl
 ·exact rfl
 ·exact rfl
 apply aN (s := 85) rfl rfl rfl
 ·intro hg; apply aM (s := 86) rfl (by exact hg); apply aQ; (refine ak rfl rfl rfl ?_); refine aD ?_; exact rfl
 ·exact rfl
 ·exact rfl
 refine gL rfl rfl (kV rfl ?_)
 apply aN (s := 89) rfl rfl rfl
 ·intro hg; apply aQ; (refine bF rfl ?_); refine aD ?_; exact rfl
 ·exact rfl
 ·exact rfl
 apply aN (s := 89) rfl rfl rfl
 ·intro hg; apply aM (s := 90) rfl (by exact hg); apply aQ; (refine ak rfl rfl rfl ?_); refine aD ?_; exact rfl
 ·exact rfl
 ·exact rfl
 refine gL rfl rfl (kV rfl ?_)
 apply aN (s := 93) rfl rfl rfl
 ·intro hg; apply aQ; (refine bF rfl ?_); refine aD ?_; exact rfl
 ·exact rfl
 ·exact rfl
 apply aN (s := 93) rfl rfl rfl
 ·intro hg; apply aM (s := 94) rfl (by exact hg); apply aQ; (refine ak rfl rfl rfl ?_); refine aD ?_; exact rfl
 ·exact rfl
 ·exact rfl
 refine gL rfl rfl (kV rfl ?_)
 apply aN (s := 97) rfl rfl rfl
 ·intro hg; apply aQ; (refine bF rfl ?_); refine aD ?_; exact rfl
 ·exact rfl
 ·exact rfl
 apply aN (s := 97) rfl rfl rfl
 ·intro hg; apply aM (s := 98) rfl (by exact hg); apply aQ; (refine ak rfl rfl rfl ?_); refine aD ?_; exact rfl
 ·exact rfl
 ·exact rfl
 refine gL rfl rfl (kV rfl ?_)
 apply aN (s := 101) rfl rfl rfl
 ·intro hg; apply aQ; (refine gq rfl ?_); refine aD ?_; exact rfl
 ·exact rfl
 ·exact rfl
 apply aN (s := 101) rfl rfl rfl
 ·intro hg; apply aQ; (refine bT (E := dN) (xs := [_, _, _]) rfl rfl rfl rfl rfl (by decide) (by decide) (by repeat (first | exact (aT.nil : aT _ _ [] _) | (show aT _ _ ((_, _) :: _) _; apply aT.one; (· exact (rfl : _ = Ty.int _ _)); (· exact rfl)))) (by exact rfl) rfl ?_); refine aD ?_; exact rfl
 ·exact rfl
 ·exact rfl
 apply aN (s := 101) rfl rfl rfl
 ·intro hg; apply aM (s := 102) rfl (by exact hg); apply aM (s := 103) rfl (by exact hg); apply aQ; (refine aq (vH _ _) rfl rfl rfl rfl rfl ?_); refine aD ?_; exact rfl
 ·exact rfl
 ·exact rfl
 refine gL rfl rfl (kV rfl ?_)
 apply aN (s := 106) rfl rfl rfl
 ·intro hg; apply aQ; (refine bF rfl ?_); refine aD ?_; exact rfl
 ·exact rfl
 ·exact rfl
 apply aN (s := 106) rfl rfl rfl
 ·intro hg; apply aM (s := 107) rfl (by exact hg); apply aQ; (refine ak rfl rfl rfl ?_); refine aD ?_; exact rfl
 ·exact rfl
 ·exact rfl
 refine gL rfl rfl (kV rfl ?_)
 apply aN (s := 110) rfl rfl rfl
 ·intro hg; apply aQ; (refine bF rfl ?_); refine aD ?_; exact rfl
 ·exact rfl
 ·exact rfl
 apply aN (s := 110) rfl rfl rfl
 ·intro hg; apply aM (s := 111) rfl (by exact hg); apply aQ; (refine ak rfl rfl rfl ?_); refine aD ?_; exact rfl
 ·exact rfl
 ·exact rfl
 refine gL rfl rfl (kV rfl ?_)
 apply aN (s := 114) rfl rfl rfl
 ·intro hg; apply aQ; (refine gq rfl ?_); refine aD ?_; exact rfl
 ·exact rfl
 ·exact rfl
 apply aN (s := 114) rfl rfl rfl
 ·intro hg; apply aQ; (refine bT (E := dN) (xs := [_, _]) rfl rfl rfl rfl rfl (by decide) (by decide) (by repeat (first | exact (aT.nil : aT _ _ [] _) | (show aT _ _ ((_, _) :: _) _; apply aT.one; (· exact (rfl : _ = Ty.int _ _)); (· exact rfl)))) (by exact rfl) rfl ?_); refine aD ?_; exact rfl
 ·exact rfl
 ·exact rfl
 apply aN (s := 114) rfl rfl rfl
 ·intro hg; apply aM (s := 115) rfl (by exact hg); apply aM (s := 116) rfl (by exact hg); apply aQ; (refine aq (vH _ _) rfl rfl rfl rfl rfl ?_); refine aD ?_; exact rfl
 ·exact rfl
 ·exact rfl
 refine gL rfl rfl (dG rfl (aD (aC (au (bK rfl rfl ?_)))))
 all_goals exact bN rfl rfl
end Go.Proofs.YtmmcenjknimhbaaGreat
namespace Go.Proofs.YtmmcenjknimhbaaGreat
open Go Go.T
set_option maxHeartbeats 2000000
attribute [local irreducible] eG cZ jR j6 eP eO eK eM eS j8 eJ j4 b8 dc jz dZ j7 nth eZ cU aV cX bodyPost Exit.then Exit.inBlock Code.wp Code.wpIn dS mz mm m5 fT mq m7 fW mW eB fO lq bW bV bodyPostM cV
end Go.Proofs.YtmmcenjknimhbaaGreat
namespace Go.Proofs.YtmmcenjknimhbaaGreat
open Go Go.T
set_option maxHeartbeats 2000000
attribute [local irreducible] eG cZ jR j6 eP eO eK eM eS j8 eJ j4 b8 dc jz dZ j7 nth eZ cU aV cX bodyPost Exit.then Exit.inBlock Code.wp Code.wpIn dS mz mm m5 fT mq m7 fW mW eB fO lq bW bV bodyPostM cV
end Go.Proofs.YtmmcenjknimhbaaGreat
namespace Go.Proofs.YtmmcenjknimhbaaGreat
open Go Go.T
set_option maxHeartbeats 2000000
attribute [local irreducible] eG cZ jR j6 eP eO eK eM eS j8 eJ j4 b8 dc jz dZ j7 nth eZ cU aV cX bodyPost Exit.then Exit.inBlock Code.wp Code.wpIn dS mz mm m5 fT mq m7 fW mW eB fO lq bW bV bodyPostM cV
section
variable {f : bS} {a b : Int}
end
end Go.Proofs.YtmmcenjknimhbaaGreat
namespace Go.Proofs.YtmmcenjknimhbaaGreat
open Go Go.T
set_option maxHeartbeats 2000000
attribute [local irreducible] eG cZ jR j6 eP eO eK eM eS j8 eJ j4 b8 dc jz dZ j7 nth eZ cU aV cX bodyPost Exit.then Exit.inBlock Code.wp Code.wpIn dS mz mm m5 fT mq m7 fW mW eB fO lq bW bV bodyPostM cV
def yu (l : List Nat) : List Int := l.map fun (n : Nat) => (n : Int)
theorem wj : ∀ l : List Nat, l.flatMap y6.tys = (yu l).flatMap dN.tys
  | [] => rfl
  | x :: l => by
    have ih := wj l
    rw [List.flatMap_cons, ih]; rfl
theorem Nf (l : List Nat) : (Ty.sl y6 l).Sub (Ty.sl dN (yu l)) := Kl (wj l) (by simp [yu])
theorem I7 (l : List Nat) : (Ty.sl dN (yu l)).Sub (Ty.sl y6 l) := Kl (wj l).symm (by simp [yu])
theorem all_cast (q : Nat → Bool) (l : List Nat) : (yu l).all (fun x => q x.toNat) = l.all q := by unfold yu; rw [List.all_map]; rfl
set_option maxRecDepth 100000 in
theorem EP (l : List Int) (h : l.length ≤ 1000) : cX Tryz.prog 42 [Ty.sl dN l] (Ty.sl dN l) := by
 refine aY Tryz.func42 rfl (by decide) Tryz.ntmps42 (by exact Nat.le_of_ble_eq_true rfl) fun w0 M0 => ?_
 refine aF (aA (mN rfl (aD (aC (aF (aF (aA (gq rfl (Q9 UT rfl (aD (aC ?_)))))))))))
 refine K9 rfl (fun hc1 => ?_) (fun hc1 => ?_)
 ·refine aF (aA (mN rfl (aD (aC (au (aW (bK rfl rfl ?_)))))))
  all_goals skip
  exact fy hc1
 refine bA (aC (aF (aA ?_)))
 refine Ht (E := dN) rfl rfl rfl rfl ?_
 refine gq rfl ?_
 refine fD rfl rfl (by decide) rfl rfl rfl rfl rfl rfl (by decide) (by (simp <;> omega)) (by (simp <;> omega)) ?_
 refine D8 rfl (aD (aC (au (bK rfl rfl ?_))))
 all_goals exact J7 (by decide)
 skip
section
variable {f : bS} {l : List Int} {n : Int} {t : Ty}
theorem UN (h : fq f l = n) (hn : n ≠ 0) : gU (Ty.ex (.pointer none)) (Ty.when (decide (fq f l = 0)) t) :=
 Jq rfl rfl (Ty.rG rfl fun hx => absurd (of_decide_eq_true hx) (by rw [h]; exact hn))
theorem Tr (h : fq f l = n) (hn : n ≠ 0) : gU (Ty.ex (.slice none 0 0)) (Ty.sl y6 (if fq f l = 0 then dn l else [])) := fy (if_neg (by rw [h]; exact hn))
theorem Th (h : fq f l = n) : gU (Ty.int .i64 n) (Ty.int .i64 (fq f l)) := bE rfl rfl (congrArg (Ty.int .i64) h.symm)
theorem o1 (h : ¬ fA f false = 0) : fq f l = fA f false := if_pos h
theorem o2 (h : fA f false = 0) (h2 : ¬ (l.length : Int) = f.turnings.length) : fq f l = 2 := by unfold fq; rw [if_neg (fun x => x h), if_pos h2]
theorem o3 (h : fA f false = 0) (h2 : (l.length : Int) = f.turnings.length) (h3 : (!l.all fun t => fC t 0 (f.turnings.length - 1)) = true) : fq f l = 1 := by unfold fq; rw [if_neg (fun x => x h), if_neg (fun x => x h2), if_pos h3]
theorem o4 (h : fA f false = 0) (h2 : (l.length : Int) = f.turnings.length) (h3 : (!l.all fun t => fC t 0 (f.turnings.length - 1)) = false) (h4 : ¬ (((setOf l : Nat) : Int) = ((1 <<< l.length : Nat) : Int) - 1)) : fq f l = 5 := by
 unfold fq; rw [if_neg (fun x => x h), if_neg (fun x => x h2), if_neg (Bool.eq_false_iff.1 h3), if_pos h4]
theorem o5 (h : fA f false = 0) (h2 : (l.length : Int) = f.turnings.length) (h3 : (!l.all fun t => fC t 0 (f.turnings.length - 1)) = false) (h4 : ((setOf l : Nat) : Int) = ((1 <<< l.length : Nat) : Int) - 1) (h5 : (!(dn l).all (eF (aX f))) = true) : fq f l = 4 := by
 unfold fq; rw [if_neg (fun x => x h), if_neg (fun x => x h2), if_neg (Bool.eq_false_iff.1 h3), if_neg (fun x => x h4), if_pos h5]
theorem o6 (h : fA f false = 0) (h2 : (l.length : Int) = f.turnings.length) (h3 : (!l.all fun t => fC t 0 (f.turnings.length - 1)) = false) (h4 : ((setOf l : Nat) : Int) = ((1 <<< l.length : Nat) : Int) - 1) (h5 : (!(dn l).all (eF (aX f))) = false) : fq f l = 0 := by
 unfold fq; rw [if_neg (fun x => x h), if_neg (fun x => x h2), if_neg (Bool.eq_false_iff.1 h3), if_neg (fun x => x h4), if_neg (Bool.eq_false_iff.1 h5)]
end
theorem MS (l : List Int) : (dn l).take 1 = [0] := by unfold dn; rw [List.range_succ_eq_map]; rfl
theorem sS (f : bS) (l : List Int) : (yO f l).length = (dn l).length := by simp [yO]
theorem K8 {f : bS} {l : List Int} {k : Nat} (h : k < (dn l).length) : nth (yO f l) k = rowP f (nth (dn l) k) := by
 rw [cF (by rw [sS]; exact h), cF h]; simp [yO]
theorem LL {l : List Int} {k : Nat} (h : k < l.length) : (dn l).take (k + 1) ++ [nth ((dn l).take (k + 1)) k ||| 1 <<< (nth l k).toNat] = (dn l).take (k + 1 + 1) := by
 have hl := nB l
 have e : nth ((dn l).take (k + 1)) k = setOf (l.take k) := by rw [cF (by rw [List.length_take]; omega), List.getElem_take, ← cF (by omega), sZ (by omega)]
 rw [e, ← lF h, ← sZ (by omega), ← bh (by omega)]
theorem yt {f : bS} {l : List Int} (hn : f.turnings.length ≤ 8) (hrg : ∀ x ∈ l, 0 ≤ x ∧ x < (f.turnings.length : Int)) {s : Nat} (hs : s ∈ dn l) : s < 256 := by
 obtain ⟨k, hk, rfl⟩ := List.mem_map.1 hs
 exact u9 hn (pM hrg k (by have := List.mem_range.1 hk; omega))
set_option maxRecDepth 100000 in
theorem MM (f : bS) (hs : f.Small) (order : List Int) (hl : order.length ≤ 1000) : cX Tryz.prog 40 [iT f, Ty.sl dN order] (Ty.tE [Ty.when (decide (fq f order = 0)) (Ty.pe fF (aX f) 0), Ty.sl y6 (if fq f order = 0 then dn order else []), Ty.int .i64 (fq f order)]) := by
 refine aY Tryz.func40 rfl (by decide) Tryz.ntmps40 (by exact Nat.le_of_ble_eq_true rfl) fun w0 M0 => ?_
 have hs1 := hs.bears; have hs2 := hs.bins; have hs3 := hs.turnings; have hs4 := hs.rules
 refine aF (aA (bD rfl (mN rfl (mN rfl (b9 rfl (aD (aC (aF (aA ?_)))))))))
 refine az rfl rfl rfl (by exact Nat.le_of_ble_eq_true rfl) ?_
 refine aq (qZ f hs _) rfl rfl rfl rfl rfl (FQ rfl (bt rfl rfl (bt rfl rfl (TR rfl (b9 rfl (aD (aC (aF (af (aF (aA (bF rfl (ak rfl rfl rfl (dG rfl (aD ?_)))))))))))))))
 refine aC ?_
 refine ck rfl (fun hc1 => ?_) (fun hc1 => ?_)
 ·refine aF (aA (bF rfl (mN rfl (mN rfl (b9 rfl (aD (aC (au (av (aW ?_))))))))))
  refine yY rfl rfl rfl rfl ?_ ?_ ?_
  all_goals skip
  all_goals first | exact UN (o1 hc1) hc1 | exact Tr (o1 hc1) hc1 | exact Th (o1 hc1)
 refine aF (aA (gq rfl (cC rfl rfl rfl ?_)))
 refine aP rfl rfl rfl rfl rfl (by decide) ?_
 refine aK rfl rfl rfl rfl (cC rfl rfl rfl (ak rfl rfl rfl (dG rfl (aD (aC ?_)))))
 refine ck rfl (fun hc2 => ?_) (fun hc2 => ?_)
 ·refine aF (aA (mN rfl (mN rfl (b9 rfl (aD (aC (au (av (aW ?_)))))))))
  refine yY rfl rfl rfl rfl ?_ ?_ ?_
  all_goals skip
  all_goals first | exact UN (o2 hc1 hc2) (by decide) | exact Tr (o2 hc1 hc2) (by decide) | exact Th (o2 hc1 hc2)
 refine aF (aA (gq rfl ?_))
 refine az rfl rfl rfl (by exact Nat.le_of_ble_eq_true rfl) ?_
 refine sY (l := [iT f]) rfl ?_
 refine aq (kD order (Ty.M8 96 [iT f]) rfl (fun t => fC t 0 (f.turnings.length - 1)) rfl rfl fun x _ => sq (pH f hs x) rfl rfl rfl rfl rfl rfl) rfl rfl rfl rfl rfl ?_
 refine ct rfl (dG rfl (aD (aC ?_)))
 refine c9 rfl (fun hc3 => ?_) (fun hc3 => ?_)
 ·refine aF (aA (mN rfl (mN rfl (b9 rfl (aD (aC (au (av (aW ?_)))))))))
  refine yY rfl rfl rfl rfl ?_ ?_ ?_
  all_goals skip
  all_goals first | exact UN (o3 hc1 hc2 hc3) (by decide) | exact Tr (o3 hc1 hc2 hc3) (by decide) | exact Th (o3 hc1 hc2 hc3)
 refine bA (bH (aC (aF ?_)))
 have h0 := ji hc1
 have hfi := fY h0.1
 have hff := ni f
 have hnt : f.turnings.length ≤ 8 := by have := hfi.nt; rw [hff] at this; exact this
 have hrg : ∀ x ∈ order, 0 ≤ x ∧ x < (f.turnings.length : Int) := fun x hx => by have h := List.all_eq_true.1 (by simpa using hc3) x hx; have := fI h; omega
 have hlen : order.length = f.turnings.length := by omega
 refine mY (s := 7) rfl (Ty.lu (decide_eq_true hc1)) ?_
 refine aA ?_
 refine yJ (E := y6) (xs := [0]) rfl rfl rfl rfl rfl (by decide) (by decide) (by repeat (first | exact (aT.nil : aT _ _ [] _) | (show aT _ _ ((_, _) :: _) _; apply aT.one; (· exact (rfl : _ = Ty.int _ _)); (· exact rfl)))) (by exact rfl) rfl rfl ?_
 refine D8 rfl (aD (aC (aF (aF (aA (gq rfl (cC rfl rfl rfl (bF rfl (aD (aC (af ?_)))))))))))
 refine cK (fun (k : {k : Nat // k ≤ order.length}) => live [(1, Ty.sl dN order), (2, Ty.pp (cx f)), (7, Ty.pe fF (aX f) 0), (9, Ty.row y6 3 35 ((dn order).take (k.1 + 1))), (35, Ty.sl dN order), (36, Ty.int .i64 order.length), (37, Ty.int .i64 (k.1 : Nat))] []) (fun k => order.length - k.1) (⟨0, by omega⟩) ?_ fun k => ?_
 ·(refine c8.mk' ?_ ?_ <;> (repeat' (first | exact aI | exact aH | refine aB ?_ (Ty.aR _) | refine aB ?_ (Ty.aG _) | refine aB ?_ ?_)))
  all_goals exact Ty.ej (MS order).symm
 have hk1 : ((dn order).take (k.1 + 1)).length = k.1 + 1 := by rw [List.length_take, nB]; omega
 refine aF (aA (ak rfl rfl rfl (aD (aC (aF ?_)))))
 refine aa rfl (fun hc4 => ?_) (fun hc4 => ?_)
 ·refine bA (aC (aF (af (aF (aA (bF rfl ?_))))))
  refine bG rfl rfl rfl rfl rfl rfl (by omega) ?_
  refine aK rfl rfl rfl rfl (b9 rfl (b9 rfl (aD (aC ?_))))
  have hnk : nth ((dn order).take (k.1 + 1)) k.1 = setOf (order.take k.1) := by rw [cF (by omega), List.getElem_take, ← cF (by rw [nB]; omega), sZ (by omega)]
  have hsm := u9 hnt (pM hrg k.1 k.2)
  have ht := hrg _ (bL (xs := order) (k := k.1) (by omega))
  have hone := lS (i := (nth order k.1).toNat) (by omega)
  refine cg mixed rfl (BU rfl (BU rfl (bF rfl ?_)))
  refine Et rfl rfl rfl rfl rfl rfl (by omega) ?_
  refine DM rfl rfl rfl rfl (bF rfl ?_)
  refine Ek (a := 1) rfl rfl (by omega) (by omega) (by omega) ?_
  refine wM rfl rfl (by omega) (by omega) ?_
  refine bT (E := y6) (xs := [nth ((dn order).take (k.1 + 1)) k.1 ||| 1 <<< (nth order k.1).toNat]) rfl rfl rfl rfl rfl (by decide) (by decide) (by repeat (first | exact (aT.nil : aT _ _ [] _) | (show aT _ _ ((_, _) :: _) _; apply aT.one; (· exact (rfl : _ = Ty.int _ _)); (· exact rfl)))) (by exact rfl) rfl ?_
  refine fD rfl rfl (by decide) rfl rfl rfl rfl rfl rfl (by decide) (by (simp <;> omega)) (by (simp <;> omega)) ?_
  refine D8 rfl (aD ?_)
  refine ⟨by kernel_rfl, ?_⟩
  refine bH (aC (aA ?_))
  refine bz rfl rfl (by omega) (by omega) ?_
  refine bF rfl (aD ?_)
  refine bO (⟨k.1 + 1, by omega⟩) ?_ (by show order.length - (k.1 + 1) < order.length - k.1; omega)
  (refine c8.mk' ?_ ?_ <;> (repeat' (first | exact aI | exact aH | refine aB ?_ (Ty.aR _) | refine aB ?_ (Ty.aG _) | refine aB ?_ ?_)))
  all_goals skip
  all_goals exact Ty.ej (LL (by omega))
 refine cE (aL (aL (ah rfl (aC (aF (af (aF ?_)))))))
 have hko : k.1 = order.length := by have := k.2; omega
 have hall : (dn order).take (k.1 + 1) = dn order := List.take_of_length_le (by rw [nB]; omega)
 have hnl : nth (dn order) order.length = setOf order := by rw [sZ (Nat.le_refl _), List.take_length]
 have hone := lS (i := order.length) (by omega)
 have hone1 := (q7 (n := order.length) (by omega)).2
 have hsl := nB order
 refine uC (tg := 35) [(9, Ty.sl y6 ((dn order).take (k.1 + 1)))] (by decide) rfl ⟨Qq rfl, trivial⟩ ?_
 refine mY (s := 9) rfl (Ty.gy hall) ?_
 refine cg mixed rfl (gq rfl (gq rfl (cC rfl rfl rfl ?_)))
 refine bG rfl rfl rfl rfl rfl rfl (by omega) ?_
 refine aK rfl rfl rfl rfl (gq rfl (cC rfl rfl rfl ?_))
 refine nu (a := 1) rfl rfl (by omega) (by omega) ?_
 refine jB rfl rfl (by omega) (by omega) ?_
 refine ak rfl rfl rfl (dG rfl (aD ?_))
 refine ⟨by kernel_rfl, ?_⟩
 refine aC ?_
 refine ck rfl (fun hc5 => ?_) (fun hc5 => ?_)
 ·refine aF (aA (mN rfl (mN rfl (b9 rfl (aD (aC (au (av (aW ?_)))))))))
  refine yY rfl rfl rfl rfl ?_ ?_ ?_
  all_goals skip
  all_goals first | exact UN (o4 hc1 hc2 hc3 (fun h => hc5 (by rw [hnl]; exact h))) (by decide) | exact Tr (o4 hc1 hc2 hc3 (fun h => hc5 (by rw [hnl]; exact h))) (by decide) | exact Th (o4 hc1 hc2 hc3 (fun h => hc5 (by rw [hnl]; exact h)))
 refine aF ?_
 have hfull : ((setOf order : Nat) : Int) = ((1 <<< order.length : Nat) : Int) - 1 := by have h := hc5; rw [hnl] at h; exact h
 refine mY (s := 9) rfl (Nf (dn order)) ?_
 refine aA (gq rfl (mJ rfl ?_))
 refine sY (l := [Ty.pe fF (aX f) 0]) rfl ?_
 refine aq (kD (yu (dn order)) (Ty.M8 97 [Ty.pe fF (aX f) 0]) rfl (fun x => eF (aX f) x.toNat) rfl rfl fun x hx => by obtain ⟨n, hn, rfl⟩ := List.mem_map.1 hx; exact sq (vE (aX f) n (yt hnt hrg hn) hfi.before) rfl rfl rfl rfl rfl rfl) rfl rfl rfl rfl rfl ?_
 refine ct rfl (dG rfl (aD (aC ?_)))
 refine c9 rfl (fun hc6 => ?_) (fun hc6 => ?_)
 ·refine aF (aA (mN rfl (mN rfl (b9 rfl (aD (aC (au (av (aW ?_)))))))))
  refine yY rfl rfl rfl rfl ?_ ?_ ?_
  all_goals skip
  all_goals first | exact UN (o5 hc1 hc2 hc3 hfull (by have h := hc6; rw [all_cast] at h; exact h)) (by decide) | exact Tr (o5 hc1 hc2 hc3 hfull (by have h := hc6; rw [all_cast] at h; exact h)) (by decide) | exact Th (o5 hc1 hc2 hc3 hfull (by have h := hc6; rw [all_cast] at h; exact h))
 refine bA (bH (aC (aF ?_)))
 have hall5 : (!(dn order).all (eF (aX f))) = false := by have h := hc6; rw [all_cast] at h; exact h
 refine mY (s := 9) rfl (I7 (dn order)) ?_
 refine aA (mJ rfl (gq rfl (UU rfl (Oa rfl (b9 rfl (aD (aC (au ?_))))))))
 refine yY rfl rfl rfl rfl ?_ ?_ ?_
 all_goals skip
 all_goals first | exact Jq rfl rfl (Ty.rG rfl fun _ => Ty.aG _) | exact bE rfl rfl (congrArg (Ty.sl y6) (if_pos (o6 hc1 hc2 hc3 hfull hall5)).symm) | exact Th (o6 hc1 hc2 hc3 hfull hall5)
set_option maxRecDepth 100000 in
theorem Qp (f : bS) (hs : f.Small) (order : List Int) (hl : order.length ≤ 1000) : cX Tryz.prog 12 [iT f, Ty.sl dN order] (Ty.tE [Ty.sl BJ (sI f order), Ty.int .i64 (gl f order)]) := by
 refine aY Tryz.func12 rfl (by decide) Tryz.ntmps12 (by exact Nat.le_of_ble_eq_true rfl) fun w0 M0 => ?_
 have hs1 := hs.bears; have hs2 := hs.bins; have hs3 := hs.turnings; have hs4 := hs.rules
 refine aF (aA (bD rfl (mN rfl (b9 rfl (aD (aC (aF (aA ?_))))))))
 refine az rfl rfl rfl (by exact Nat.le_of_ble_eq_true rfl) ?_
 refine gq rfl (aq (MM f hs order hl) rfl rfl rfl rfl rfl (FQ rfl (bt rfl rfl (bt rfl rfl (bt rfl rfl (TR rfl (Oa rfl (b9 rfl (aD (aC (aF (aF (aA (bF rfl (ak rfl rfl rfl ?_)))))))))))))))
 refine aD (aC ?_)
 refine ck rfl (fun hc1 => ?_) (fun hc1 => ?_)
 ·refine aF (aA (bF rfl (mN rfl (b9 rfl (aD (aC (au (aW ?_))))))))
  refine g9 rfl rfl rfl ?_ ?_
  all_goals skip
  all_goals first | exact fy (if_pos (by rw [← uX]; exact hc1)) | exact bE rfl rfl (congrArg (Ty.int .i64) (uX f order))
 refine bA (aC (aF ?_))
 have hoP : fq f order = 0 := hc1
 have hoE : gl f order = 0 := by rw [← uX]; exact hoP
 obtain ⟨hck, hcp, hoM⟩ := HT hoE
 have hfi := fY hcp
 have hnt := P7 hcp
 have hsp := kr hoM
 have hb4 := (cB hcp).ranged.bears
 refine mY (s := 6) rfl (Ty.lu (decide_eq_true hc1)) ?_
 refine mY (s := 7) rfl (Ty.sub_eq (congrArg (Ty.sl y6) (if_pos hoP))) ?_
 refine aA (mN rfl (aD (aC (aF (aF (aA (gq rfl (cC rfl rfl rfl (bF rfl (aD (aC (af ?_))))))))))))
 refine cK (fun (k : {k : Nat // k ≤ (dn order).length}) => live [(2, Ty.pp (cx f)), (6, Ty.pe fF (aX f) 0), (9, Ty.row BJ 23 40 ((yO f order).take k.1)), (23, Ty.sl y6 (dn order)), (24, Ty.int .i64 (dn order).length), (25, Ty.int .i64 (k.1 : Nat))] []) (fun k => (dn order).length - k.1) (⟨0, by omega⟩) ?_ fun k => ?_
 ·(refine c8.mk' ?_ ?_ <;> (repeat' (first | exact aI | exact aH | refine aB ?_ (Ty.aR _) | refine aB ?_ (Ty.aG _) | refine aB ?_ Ty.lX)))
 have hsl := nB order
 have hrk : ((yO f order).take k.1).length = k.1 := by rw [List.length_take, sS]; omega
 refine aF (aA (ak rfl rfl rfl (aD (aC (aF ?_)))))
 refine aa rfl (fun hc2 => ?_) (fun hc2 => ?_)
 ·refine bA (aC (aF (af (aF (aA ?_)))))
  refine bG rfl rfl rfl rfl rfl rfl (by omega) ?_
  refine aK rfl rfl rfl rfl (b9 rfl (aD (aC (aF ?_))))
  have hsm : nth (dn order) k.1 < 256 := yt hnt hsp.2.1 (bL (by omega))
  refine aA (mJ rfl (bF rfl (aq (Ez (aX f) hfi _ hsm) rfl rfl rfl rfl rfl ?_)))
  refine dA rfl (by exact List.cons_ne_nil _ _) rfl ?_
  refine jv rfl rfl (by decide) rfl rfl (by rw [lH]; rfl) (by rfl) ?_
  refine aD (aC ?_)
  have hl4 := lH (aX f) (nth (dn order) k.1)
  refine uC (tg := 13) [(12, Ty.pa dN (iI (aX f) (nth (dn order) k.1)) 0)] (by decide) rfl ⟨S2 rfl rfl (by decide), trivial⟩ ?_
  refine aA (BU rfl ?_)
  refine aP rfl rfl rfl rfl rfl (by decide) ?_
  refine aK rfl rfl rfl rfl (cC rfl rfl rfl ?_)
  refine NW rfl rfl rfl rfl rfl (by exact Nat.le_of_ble_eq_true rfl) (by omega) (by omega) ?_
  refine aq (EP _ (by rw [List.length_take]; omega)) rfl rfl rfl rfl rfl ?_
  refine bT (E := BJ) (xs := [rowP f (nth (dn order) k.1)]) rfl rfl rfl rfl rfl (by decide) (by decide) (by repeat (first | exact (aT.nil : aT _ _ [] _) | (show aT _ _ ((_, _) :: _) _; apply aT.one; (· exact (rfl : _ = Ty.sl _ _)); (· exact rfl)))) (by exact rfl) rfl ?_
  refine fD rfl rfl (by decide) rfl rfl rfl rfl rfl rfl (by decide) (by (simp <;> omega)) (by (simp <;> omega)) ?_
  refine D8 rfl (aD (bH (aC (aA ?_))))
  refine bz rfl rfl (by omega) (by omega) ?_
  refine bF rfl (aD ?_)
  refine bO (⟨k.1 + 1, by omega⟩) ?_ (by show (dn order).length - (k.1 + 1) < (dn order).length - k.1; omega)
  (refine c8.mk' ?_ ?_ <;> (repeat' (first | exact aI | exact aH | refine aB ?_ (Ty.aR _) | refine aB ?_ (Ty.aG _) | refine aB ?_ ?_)))
  all_goals skip
  all_goals exact Ty.ej (by rw [bh (by rw [sS]; omega), K8 (by omega)])
 refine cE (aL (aL (ah rfl (aC (aF (aA (BU rfl (D8 rfl (b9 rfl (aD (aC (au ?_))))))))))))
 refine g9 rfl rfl rfl ?_ ?_
 all_goals skip
 all_goals first | exact nO (by decide) (by rw [sI, if_neg (fun h => h hoE), ← Oi hcp hoM, show k.1 = (dn order).length by have := k.2; omega, List.take_of_length_le (by rw [sS]; exact Nat.le_refl _)]) | exact bE rfl rfl (congrArg (Ty.int .i64) hoE.symm)
section
variable {f : bS} {l : List Int}
end
end Go.Proofs.YtmmcenjknimhbaaGreat
namespace Go.Proofs.YtmmcenjknimhbaaGreat
open Go Go.T
set_option maxHeartbeats 2000000
attribute [local irreducible] eG cZ jR j6 eP eO eK eM eS j8 eJ j4 b8 dc jz dZ j7 nth eZ cU aV cX bodyPost Exit.then Exit.inBlock Code.wp Code.wpIn dS mz mm m5 fT mq m7 fW mW eB fO lq bW bV bodyPostM cV
set_option maxRecDepth 100000 in
theorem JQ (s : fR) (h : s.Ok 1) : eB Tryz.prog 71 [1000] [(1000, Cont.cells 95 (cN s))] [Ty.ptr 1000 0] [(1000, Cont.cells 95 (cN (aO s)))] (Ty.int .i64 (kE (aO s))) := by
 refine jE Tryz.func71 rfl (by decide) Tryz.ntmps71 (by exact Nat.le_of_ble_eq_true rfl) fun w0 M0 => ?_
 have h0 : 0 ≤ s.taken ∧ s.taken + 1 ≤ 4611686018427387904 := h
 refine aF (aA (b9 rfl (aD (aC ?_))))
 refine qU (J := live [(0, Ty.ptr 1000 0)] [(1000, Cont.cells 95 (cN (gP s)))]) ?_ ?_
 ·refine aF (aA (tU rfl (cW rfl ?_)))
  refine aS rfl rfl rfl rfl rfl (by decide) ?_
  refine aj rfl rfl (by decide) rfl rfl rfl ?_
  refine cC rfl rfl rfl (b9 rfl (aD (aC (aF (aA (bF rfl (ak rfl rfl rfl (aD (aC ?_)))))))))
  refine aa rfl (fun hc1 => ?_) (fun hc1 => ?_)
  ·have hm := GZ (a := s.taken) (b := s.grain.length) h0.1 (by omega)
   refine cg mixed rfl (tU rfl (tU rfl (cW rfl ?_)))
   refine aS rfl rfl rfl rfl rfl (by decide) ?_
   refine aj rfl rfl (by decide) rfl rfl rfl ?_
   refine tU rfl (cW rfl ?_)
   refine aS rfl rfl rfl rfl rfl (by decide) ?_
   refine aj rfl rfl (by decide) rfl rfl rfl ?_
   refine tU rfl (cW rfl ?_)
   refine aS rfl rfl rfl rfl rfl (by decide) ?_
   refine aj rfl rfl (by decide) rfl rfl rfl ?_
   refine bF rfl ?_
   refine Kk rfl rfl (by omega) ?_
   refine nX rfl rfl rfl rfl rfl rfl (by omega) (by omega) ?_
   refine aK rfl rfl rfl rfl (IV rfl rfl rfl rfl (ak rfl rfl rfl (ak rfl rfl rfl (cW rfl ?_))))
   refine aS rfl rfl rfl rfl rfl (by decide) ?_
   refine dh rfl rfl (by decide) rfl rfl (by exact (rfl : _ = Ty.int _ _)) rfl (by exact Nat.le_of_ble_eq_true rfl) rfl rfl (by exact rfl) ?_
   refine aD ?_
   refine ⟨by kernel_rfl, ?_⟩
   refine iC ?_
   (refine c8.mk' ?_ ?_ <;> (repeat' (first | exact aI | exact aH | exact dH | refine aB ?_ (Ty.aR _) | refine aB ?_ (Ty.aG _) | refine aJ rfl (Cont.dI ?_) ?_ | refine bX ?_ ?_)))
   all_goals first | exact Ty.bJ (congrArg fR.mixed (Gj hc1).symm) | exact Ty.bJ (lV s).symm | exact Ty.gy (uB s).symm
  refine bA (iC ?_)
  (refine c8.mk' ?_ ?_ <;> (repeat' (first | exact aI | exact aH | exact dH | refine aB ?_ (Ty.aR _) | refine aB ?_ (Ty.aG _) | refine aJ rfl (Cont.dI ?_) ?_ | refine bX ?_ ?_)))
  all_goals first | exact Ty.bJ (congrArg fR.mixed (GC hc1).symm) | exact Ty.bJ (lV s).symm | exact Ty.gy (uB s).symm
 refine aF ?_
 have h1 := lV s
 refine aA (tU rfl (cW rfl ?_))
 refine aS rfl rfl rfl rfl rfl (by decide) ?_
 refine aj rfl rfl (by decide) rfl rfl rfl ?_
 refine bz rfl rfl (by omega) (by omega) ?_
 refine cW rfl ?_
 refine aS rfl rfl rfl rfl rfl (by decide) ?_
 refine dh rfl rfl (by decide) rfl rfl (by exact (rfl : _ = Ty.int _ _)) rfl (by exact Nat.le_of_ble_eq_true rfl) rfl rfl (by exact rfl) ?_
 refine aD (aC ?_)
 refine qU (J := live [(0, Ty.ptr 1000 0)] [(1000, Cont.cells 95 (cN (aO s)))]) ?_ ?_
 ·refine aF (cg mixed rfl (tU rfl (cW rfl ?_)))
  refine aS rfl rfl rfl rfl rfl (by decide) ?_
  refine aj rfl rfl (by decide) rfl rfl rfl ?_
  refine tU rfl (cW rfl ?_)
  refine aS rfl rfl rfl rfl rfl (by decide) ?_
  refine aj rfl rfl (by decide) rfl rfl rfl ?_
  refine cC rfl rfl rfl (ak rfl rfl rfl (aD ?_))
  refine ⟨by kernel_rfl, ?_⟩
  refine aC ?_
  refine aa rfl (fun hc2 => ?_) (fun hc2 => ?_)
  ·refine aA (tU rfl (tU rfl (cW rfl ?_)))
   refine aS rfl rfl rfl rfl rfl (by decide) ?_
   refine aj rfl rfl (by decide) rfl rfl rfl ?_
   refine ak rfl rfl rfl (ak rfl rfl rfl (cW rfl ?_))
   refine aS rfl rfl rfl rfl rfl (by decide) ?_
   refine dh rfl rfl (by decide) rfl rfl (by exact (rfl : _ = Ty.int _ _)) rfl (by exact Nat.le_of_ble_eq_true rfl) rfl rfl (by exact rfl) ?_
   refine aD (iC ?_)
   (refine c8.mk' ?_ ?_ <;> (repeat' (first | exact aI | exact aH | exact dH | refine aB ?_ (Ty.aR _) | refine aB ?_ (Ty.aG _) | refine aJ rfl (Cont.dI ?_) ?_ | refine bX ?_ ?_)))
   all_goals first | exact Ty.bJ (congrArg fR.mixed (HV (s := oK (gP s)) hc2).symm) | exact Ty.bJ (oq (oK (gP s))).symm | exact Ty.gy (tW (oK (gP s))).symm
  refine bA (iC ?_)
  (refine c8.mk' ?_ ?_ <;> (repeat' (first | exact aI | exact aH | exact dH | refine aB ?_ (Ty.aR _) | refine aB ?_ (Ty.aG _) | refine aJ rfl (Cont.dI ?_) ?_ | refine bX ?_ ?_)))
  all_goals first | exact Ty.bJ (GS hc2) | exact Ty.bJ (oq (oK (gP s))).symm | exact Ty.gy (tW (oK (gP s))).symm
 refine aF (cg mixed rfl (tU rfl (cW rfl ?_)))
 refine aS rfl rfl rfl rfl rfl (by decide) ?_
 refine aj rfl rfl (by decide) rfl rfl rfl ?_
 refine tU rfl (cW rfl ?_)
 refine aS rfl rfl rfl rfl rfl (by decide) ?_
 refine aj rfl rfl (by decide) rfl rfl rfl ?_
 refine Oe rfl rfl (by omega) (by decide) ?_
 refine ak rfl rfl rfl ?_
 refine Oe rfl rfl (by omega) (by decide) ?_
 refine ak rfl rfl rfl (IV rfl rfl rfl rfl (b9 rfl (aD ?_)))
 refine ⟨by kernel_rfl, ?_⟩
 refine aC (au ?_)
 refine qG [1000] rfl rfl (by decide) (by repeat (first | exact og | refine kF rfl (bB (by decide) rfl rfl rfl) ?_)) ?_
 all_goals exact vG (cO rfl rfl)
 all_goals exact vG (UF rfl rfl rfl)
set_option maxRecDepth 100000 in
theorem iy (s : fR) (h : s.Ok 1) (n : Int) : eB Tryz.prog 29 [1000] [(1000, Cont.cells 95 (cN s))] [Ty.ptr 1000 0, Ty.int .i64 n] [(1000, Cont.cells 95 (cN (aO s)))] (Ty.int .i64 (bQ s n)) := by
 refine jE Tryz.func29 rfl (by decide) Tryz.ntmps29 (by exact Nat.le_of_ble_eq_true rfl) fun w0 M0 => ?_
 refine aF (aA (b9 rfl (aD (aC (aF (aA (tU rfl ?_)))))))
 refine eI [(1000, 1000)] [] [(1000, Cont.cells 95 (cN (aO s)))] (JQ s h) rfl rfl (by repeat (first | exact fB | refine dF ?_ ?_ | exact fV List.mem_cons_self)) (dm (a := 1000) (b := 1000) (by exact List.mem_cons_self) rfl (bB (by exact List.mem_cons_self) rfl rfl rfl) pre_nil) (cj (a := 1000) (b := 1000) (by exact List.mem_cons_self) rfl (bB (by exact List.mem_cons_self) rfl rfl rfl) post_nil) (cO rfl rfl) ?_
 refine bF rfl (HD rfl rfl ?_)
 refine Kk rfl rfl (by omega) ?_
 refine b9 rfl (aD (aC (au ?_)))
 refine qG [1000] rfl rfl (by decide) (by repeat (first | exact og | refine kF rfl (bB (by decide) rfl rfl rfl) ?_)) ?_
 all_goals exact vG (cO rfl rfl)
set_option maxRecDepth 100000 in
theorem sK (s : fR) (h : s.Ok 1) (lo hi : Int) (hlo : -1000000 ≤ lo ∧ lo ≤ 1000000) (hhi : -1000000 ≤ hi ∧ hi ≤ 1000000) : eB Tryz.prog 28 [1000] [(1000, Cont.cells 95 (cN s))] [Ty.ptr 1000 0, Ty.int .i64 lo, Ty.int .i64 hi] [(1000, Cont.cells 95 (cN (aO s)))] (Ty.int .i64 (dJ s lo hi)) := by
 refine jE Tryz.func28 rfl (by decide) Tryz.ntmps28 (by exact Nat.le_of_ble_eq_true rfl) fun w0 M0 => ?_
 have hb := cR s (hi - lo + 1)
 refine aF (aA (b9 rfl (aD (aC (aF (aA (bF rfl (tU rfl (bF rfl (bF rfl ?_))))))))))
 refine jB rfl rfl (by omega) (by omega) ?_
 refine bz rfl rfl (by omega) (by omega) ?_
 refine eI [(1000, 1000)] [] [(1000, Cont.cells 95 (cN (aO s)))] (iy s h _) rfl rfl (by repeat (first | exact fB | refine dF ?_ ?_ | exact fV List.mem_cons_self | exact cO rfl rfl)) (dm (a := 1000) (b := 1000) (by exact List.mem_cons_self) rfl (bB (by exact List.mem_cons_self) rfl rfl rfl) pre_nil) (cj (a := 1000) (b := 1000) (by exact List.mem_cons_self) rfl (bB (by exact List.mem_cons_self) rfl rfl rfl) post_nil) (cO rfl rfl) ?_
 refine bz rfl rfl (by omega) (by omega) ?_
 refine b9 rfl (aD (aC (au ?_)))
 refine qG [1000] rfl rfl (by decide) (by repeat (first | exact og | refine kF rfl (bB (by decide) rfl rfl rfl) ?_)) ?_
 all_goals exact vG (cO rfl rfl)
set_option maxRecDepth 100000 in
theorem Q5 (s : fR) (h : s.Ok 1) (n : Int) : eB Tryz.prog 30 [1000] [(1000, Cont.cells 95 (cN s))] [Ty.ptr 1000 0, Ty.int .i64 n] [(1000, Cont.cells 95 (cN (aO s)))] (Ty.bool (qh s n)) := by
 refine jE Tryz.func30 rfl (by decide) Tryz.ntmps30 (by exact Nat.le_of_ble_eq_true rfl) fun w0 M0 => ?_
 refine aF (aA (dG rfl (aD (aC (aF (aA (tU rfl (bF rfl ?_))))))))
 refine eI [(1000, 1000)] [] [(1000, Cont.cells 95 (cN (aO s)))] (iy s h n) rfl rfl (by repeat (first | exact fB | refine dF ?_ ?_ | exact fV List.mem_cons_self | exact cO rfl rfl)) (dm (a := 1000) (b := 1000) (by exact List.mem_cons_self) rfl (bB (by exact List.mem_cons_self) rfl rfl rfl) pre_nil) (cj (a := 1000) (b := 1000) (by exact List.mem_cons_self) rfl (bB (by exact List.mem_cons_self) rfl rfl rfl) post_nil) (cO rfl rfl) ?_
 refine ak rfl rfl rfl (dG rfl (aD (aC (au ?_))))
 refine qG [1000] rfl rfl (by decide) (by repeat (first | exact og | refine kF rfl (bB (by decide) rfl rfl rfl) ?_)) ?_
 all_goals exact vG (cO rfl rfl)
set_option maxRecDepth 100000 in
theorem Ki (g : List Int) : eB Tryz.prog 7 [] [] [Ty.sl KJ g] [(10, Cont.cells 95 (cN (je g)))] (Ty.ptr 10 0) := by
 refine jE Tryz.func7 rfl (by decide) Tryz.ntmps7 (by exact Nat.le_of_ble_eq_true rfl) fun w0 M0 => ?_
 refine aF (aA (mN rfl (aD (aC (aF ?_)))))
 skip
 refine aA (gq rfl (gq rfl (cC rfl rfl rfl (IV rfl rfl rfl rfl (ak rfl rfl rfl ?_)))))
 refine eX rfl rfl (by exact List.cons_ne_nil _ _) rfl (by repeat (first | exact (aT.nil : aT _ _ [] _) | (show aT _ _ ((_, _) :: _) _; apply aT.one; (· first | exact (rfl : _ = Ty.int _ _) | exact (rfl : _ = Ty.sl _ _)); (· exact rfl)))) (by exact (rfl : _ = some [_, _, _])) ?_
 refine Kx rfl rfl rfl (Vh rfl (aD (aC (au ?_))))
 refine qG [10] rfl rfl (by decide) (by repeat (first | exact og | refine kF rfl (bB (by decide) rfl rfl rfl) ?_)) ?_
 all_goals skip
 exact vG (fV (by exact List.mem_cons_self))
set_option maxRecDepth 100000 in
theorem UL (v n : Int) (hv : -1000000 ≤ v ∧ v ≤ 1000000) (hn : n ≤ 1000000) : cX Tryz.prog 31 [Ty.int .i64 v, Ty.int .i64 n] (Ty.int .i64 (Bj v n)) := by
 refine aY Tryz.func31 rfl (by decide) Tryz.ntmps31 (by exact Nat.le_of_ble_eq_true rfl) fun w0 M0 => ?_
 refine aF (aA (b9 rfl (aD (aC (aF (aF (aA (bF rfl (ak rfl rfl rfl (aD (aC ?_)))))))))))
 refine aa rfl (fun hc1 => ?_) (fun hc1 => ?_)
 ·refine aF (aA (b9 rfl (aD (aC (au (aW (bK rfl rfl ?_)))))))
  all_goals skip
  exact bE rfl rfl (congrArg (Ty.int .i64) (if_pos hc1).symm)
 refine bA (aC (aF ?_))
 have hmm := MU v n (by omega)
 have hm2 := GZ (a := v.tmod n + n) (b := n) (by omega) (by omega)
 refine aA (bF rfl (bF rfl ?_))
 refine Kk rfl rfl (by omega) ?_
 refine bF rfl ?_
 refine bz rfl rfl (by omega) (by omega) ?_
 refine bF rfl ?_
 refine Kk rfl rfl (by omega) ?_
 refine b9 rfl (aD (aC (au (bK rfl rfl ?_))))
 all_goals skip
 exact bE rfl rfl (congrArg (Ty.int .i64) (if_neg hc1).symm)
end Go.Proofs.YtmmcenjknimhbaaGreat
namespace Go.Proofs.YtmmcenjknimhbaaGreat
open Go Go.T Go.RowKit Go.Shelf
def A8 : Ren := ⟨fun n => if n = 21 then 72 else if n = 27 then 134 else if n = 28 then 135 else if n = 35 then 178 else if n = 39 then 220 else n, fun n => if n = 22 then 23 else n, fun n => n⟩
theorem J0 {t : Nat} {D : TypeDesc} (h : Tryz.prog.underlying t = some D) (hd : (match D with | .struct _ => false | .array _ _ => false | _ => true) = true) : ∀ w, (isAgg t).run Tryz.prog w = .ok false w := fun w => by
 cases D <;> simp_all [isAgg, run_underlying h]
set_option maxRecDepth 100000 in
theorem FN : Lays2.n21 Tryz.prog A8 where
 mixed := by kernel_rfl
 f21 := by kernel_rfl
 f27 := by kernel_rfl
 f28 := by kernel_rfl
 f35 := by kernel_rfl
 f39 := by kernel_rfl
 t0 := by kernel_rfl
 a0 := J0 (D := TypeDesc.tuple #[]) (by kernel_rfl) rfl
 z0 := fun w => cJ (P := Tryz.prog) (t := 0) rfl w
 v0 := fun w => k9 (by kernel_rfl) w
 t3 := by kernel_rfl
 a3 := J0 (D := TypeDesc.int IntKind.i64) (by kernel_rfl) rfl
 z3 := fun w => cJ (P := Tryz.prog) (t := 3) rfl w
 v3 := fun w => k9 (by kernel_rfl) w
 t4 := by kernel_rfl
 a4 := J0 (D := TypeDesc.bool) (by kernel_rfl) rfl
 z4 := fun w => cJ (P := Tryz.prog) (t := 4) rfl w
 v4 := fun w => k9 (by kernel_rfl) w
 t22 := by kernel_rfl
 a22 := J0 (D := TypeDesc.slice 3) (by kernel_rfl) rfl
 z22 := fun w => cJ (P := Tryz.prog) (t := 23) rfl w
 v22 := fun w => k9 (by kernel_rfl) w
 i3 := by kernel_rfl
def qz (l : List Value) (o : Nat) (vs : List Value) : List Value := l.take o ++ vs ++ l.drop (o + vs.length)
theorem Mg {l : List Value} {o : Nat} {vs : List Value} (h : o + vs.length ≤ l.length) : (qz l o vs).length = l.length := by
 simp [qz]; omega
theorem H6 {l : List Value} {o : Nat} {v : Value} {vs : List Value} (h : o < l.length) : qz (l.set o v) (o + 1) vs = qz l o (v :: vs) := by
 have e : l.set o v = l.take o ++ v :: l.drop (o + 1) := by rw [List.set_eq_take_append_cons_drop, if_pos h]
 have h1 : (l.take o).length = o := by simp; omega
 unfold qz
 rw [e]
 have t1 : (l.take o ++ v :: l.drop (o + 1)).take (o + 1) = l.take o ++ [v] := by
  rw [List.take_append, h1, show o + 1 - o = 1 by omega, List.take_of_length_le (by omega)]; rfl
 have t2 : (l.take o ++ v :: l.drop (o + 1)).drop (o + 1 + vs.length) = l.drop (o + (v :: vs).length) := by
  rw [List.drop_append, h1, List.drop_eq_nil_of_le (by omega), List.nil_append, show o + 1 + vs.length - o = vs.length + 1 by omega, List.drop_succ_cons, List.drop_drop, List.length_cons]
  congr 1; omega
 rw [t1, t2]; simp
theorem pS {c d : Array Value} {o : Nat} {vs : List Value} (h : d.toList = qz c.toList o vs) (hb : o + vs.length ≤ c.size) : d.size = c.size := by
 have := congrArg List.length h
 rw [Mg (by simpa using hb)] at this
 simpa using this
theorem kf {b T : Nat} : ∀ (vs : List Value) (o : Nat) (w : World) (cs : Array Value), w.heap[b]? = some (.cells cs T (0, 0)) → o + vs.length ≤ cs.size →
    ∃ cs' : Array Value, (w.setCells b o vs).heap[b]? = some (.cells cs' T (0, 0)) ∧ cs'.toList = qz cs.toList o vs ∧ (w.setCells b o vs).heap.size = w.heap.size ∧
      (w.setCells b o vs).os = w.os ∧ (w.setCells b o vs).tape = w.tape ∧ (w.setCells b o vs).output = w.output ∧ ∀ k, k ≠ b → (w.setCells b o vs).heap[k]? = w.heap[k]?
  | [], o, w, cs, h, _ => ⟨cs, h, by simp [qz], rfl, rfl, rfl, rfl, fun _ _ => rfl⟩
  | v :: vs, o, w, cs, h, hl => by
    have hl : o + (vs.length + 1) ≤ cs.size := hl
    have hb : b < w.heap.size := (Array.getElem?_eq_some_iff.1 h).1
    have e := ff (off := o) h v
    have h1 : (w.setCell ⟨b, o, none⟩ v).heap[b]? = some (.cells (cs.setIfInBounds o v) T (0, 0)) := by rw [e]; simp [hb]
    obtain ⟨cs', g1, g2, g3, g4, g5, g6, g7⟩ := kf vs (o + 1) (w.setCell ⟨b, o, none⟩ v) (cs.setIfInBounds o v) h1 (by simp; omega)
    refine ⟨cs', g1, ?_, g3.trans (by rw [e]; simp), g4.trans (by rw [e]), g5.trans (by rw [e]), g6.trans (by rw [e]), fun k hk => (g7 k hk).trans ?_⟩
    · rw [g2, Array.toList_setIfInBounds, H6 (by simp; omega)]
    · rw [e]; exact Array.getElem?_setIfInBounds_ne (Ne.symm hk)
def Tt (T : Nat) (cs : Array Value) (w : World) (M : ay) (v : Value) : Prop := ∃ b, v = .slice (some ⟨b, 0, none⟩) cs.size cs.size ∧ M b = none ∧ w.heap[b]? = some (.cells cs T (0, 0))
def KD (T : Nat) (cs : Array Value) : Ty := { den := Tt T cs, mono := fun le _ _ ⟨b, e, h1, h2⟩ => let ⟨h3, h4⟩ := le.qy b (Array.getElem?_eq_some_iff.1 h2).1 h1; ⟨b, e, h3, h4.trans h2⟩ }
def eD (l : List Int) : List Value := l.map fun n => .int .i64 n
theorem AP {w : World} {M : ay} : ∀ {xs : List Int} {cs : List Value}, cD w M (xs.flatMap dN.tys) cs → cs = eD xs
  | [], [], _ => rfl
  | x :: xs, c :: cs, ⟨h, h'⟩ => by
    have h : c = .int .i64 x := h
    rw [AP h', h]; rfl
theorem Ao {w : World} {M : ay} : ∀ xs : List Int, cD w M (xs.flatMap dN.tys) (eD xs)
  | [] => trivial
  | _ :: xs => ⟨rfl, Ao xs⟩
def v8 (w w' : World) (v v' : Value) (l : List Value) : Prop :=
  w'.ownsRow 0 3 1 v' l.length l ∧ w.grownBy w' v.ownBlock ∧ (v'.ownBlock = v.ownBlock ∨ v'.ownBlock = some w.heap.size)
theorem Dp (l : List Int) : ∀ v ∈ eD l, v.oneCell' = true := fun v hv => by obtain ⟨n, _, rfl⟩ := List.mem_map.1 hv; rfl
theorem D4 {w : World} {g c : Nat} {cs : Array Value} {l : List Value} (h : w.heap[g]? = some (.cells cs 3 (0, 0))) (hs : cs.size = c) (hl : cs.toList.take l.length = l) (hc : l.length ≤ c) (hm : c ≤ maxLen) : w.ownsRow 0 3 1 (.slice (some ⟨g, 0, none⟩) l.length c) l.length l :=
 ⟨(Nat.mul_one _).symm, .inr ⟨g, c, cs, rfl, Nat.zero_le _, h, hc, hm, by rw [hs, Nat.mul_one], by rw [Nat.mul_one]; exact hl⟩⟩
theorem HJ {w : World} {b T : Nat} {cs : Array Value} (h : w.heap[b]? = some (.cells cs T (0, 0))) {j : Nat} {v : Value} (hj : cs.toList[j]? = some v) : w.cell? ⟨b, j, none⟩ = some v := by
 simpa [World.cell?, h] using hj
theorem wC {w : World} {b T : Nat} {cs : Array Value} (h : w.heap[b]? = some (.cells cs T (0, 0))) (j : Nat) : w.frozen? ⟨b, j, none⟩ = false := by simp [World.frozen?, h]
theorem DX {w : World} {b T : Nat} {cs : Array Value} (h : w.heap[b]? = some (.cells cs T (0, 0))) : w.shape? b = some (T, cs.size) := by simp [World.shape?, h]
theorem NT {w : World} {v : Value} {l : List Value} {cs : Array Value} {c : Nat} (hs : cs.size = c) (hl : cs.toList.take l.length = l) (hc : l.length ≤ c) (hm : c ≤ maxLen) : v8 w (w.drew.alloc (.cells cs 3)) v (.slice (some ⟨w.heap.size, 0, none⟩) l.length c) l :=
 ⟨D4 (gu w.drew _) hs hl hc hm, ⟨rfl, rfl, rfl, by show w.heap.size ≤ (w.heap.push _).size; simp, fun k hk _ => Below.heap_alloc w.drew _ k hk⟩, .inr rfl⟩
theorem sw (xs : List Int) (i : Nat) (k : Int) : eD (jx xs i k) = (eD xs).take i ++ .int .i64 k :: (eD xs).drop i := by simp [eD, jx]
theorem gJ (l : List Int) : (eD l).length = l.length := by simp [eD]
set_option maxRecDepth 100000 in
theorem Pc {w : World} {M : ay} {tg : Nat} {xs : List Int} {v u : Value} {i : Nat} {k : Int} (h1 : 1 ≤ tg) (hrow : dZ dN 3 tg xs w M v) (hu : Tt 3 #[.int .i64 k] w M u) (hi : i ≤ xs.length) (hlen : xs.length ≤ 1000000) :
 Calls Tryz.prog 72 #[v, .int .i64 i, u] w fun e w' => ∃ v', e = .returned v' ∧ v8 w w' v v' (eD (jx xs i k)) := by
 obtain ⟨vb, rfl, hM, hvb⟩ := hu
 obtain ⟨cs, ⟨hcl, hown⟩, hd, hg⟩ := hrow
 obtain rfl := AP hd
 have hil := Cv hi k
 have hiL : (eD (jx xs i k)).length = xs.length + 1 := by rw [gJ, hil]
 have hmax : (1000001 : Nat) ≤ maxLen := by simp [maxLen]
 have hvs : ∀ j x, [Value.int .i64 k][j]? = some x → w.cell? ⟨vb, 0 + j, none⟩ = some x := fun j x hj => by rw [Nat.zero_add]; exact HJ hvb (by simpa using hj)
 have h1v : ∀ x ∈ [Value.int .i64 k], x.oneCell' = true := fun x hx => by rw [List.mem_singleton.1 hx]; rfl
 have hgrow : ∀ (base : Option Addr) (c : Nat), xs.length ≤ c → c < xs.length + 1 → i = xs.length → (base = none → xs.length = 0) → (∀ a, base = some a → ∀ j x, (eD xs)[j]? = some x → w.cell? (a.add j) = some x) →
  Calls Tryz.prog 72 #[.slice base xs.length c, .int .i64 i, .slice (some ⟨vb, 0, none⟩) 1 1] w fun e w' => ∃ v', e = .returned v' ∧ v8 w w' (.slice base xs.length c) v' (eD (jx xs i k)) := by
  intro base c hnc hroom hin hnil hcs
  subst hin
  refine (Any2.slices_Insert_int_end_grow FN base xs.length c vb 0 1 1 (eD xs) [.int .i64 k] w (by omega) hnc hroom (by omega) (gJ xs) rfl hnil hcs hvs h1v).mono fun e w' ⟨he, hw⟩ => ?_
  refine ⟨_, he, ?_⟩
  have hge := grownCap_ge w (xs.length + 1) c (A8.t 3)
  have hle := grownCap_le_maxLen w (xs.length + 1) c (A8.t 3) (by omega)
  generalize grownCap w (xs.length + 1) c (A8.t 3) = C at *
  have hz : ∀ n, (Builtin.zeroCells (Value.int .i64 0).cells n).size = n := fun n => by rw [size_zeroCells]; simp [Value.cells]
  have hsz : ((eD xs ++ [Value.int .i64 k]).toArray ++ Builtin.zeroCells (Value.int .i64 0).cells (C - (xs.length + 1))).size = C := by
   rw [Array.size_append, hz, List.size_toArray, List.length_append, gJ, List.length_singleton]; omega
  have l2 := gJ xs
  have hnr := NT (w := w) (v := .slice base xs.length c) (l := eD (jx xs xs.length k)) hsz (by rw [hiL, sw, Array.toList_append, List.take_append_of_le_length (by simp [l2]), List.take_of_length_le (by simp [l2]), List.take_of_length_le (l := eD xs) (by omega), List.drop_of_length_le (l := eD xs) (by omega)]) (by omega) hle
  rw [hiL] at hnr
  rw [hw]; exact hnr
 rcases hown with ⟨rfl, hn⟩ | ⟨g, c, cur, rfl, _, hh, hnc, hcm, hsz, htk⟩
 ·have := hgrow none 0 (by omega) (by omega) (by omega) (fun _ => hn) (fun a ha => by cases ha)
  rw [hn] at this; exact this
 have h64 : dN.size = 1 := rfl
 rw [h64, Nat.mul_one] at hsz htk
 have hMg : M g = some tg := hg g rfl
 have hne : vb ≠ g := fun e => by rw [e, hMg] at hM; cases hM
 have hcell : ∀ j x, (eD xs)[j]? = some x → w.cell? ⟨g, 0 + j, none⟩ = some x := fun j x hj => by
  rw [Nat.zero_add]
  refine HJ hh ?_
  rw [← htk, List.getElem?_take] at hj
  split at hj
  ·exact hj
  cases hj
 by_cases hroom : xs.length + 1 ≤ c
 ·have hspare : ∀ j, j < c → (w.cell? ⟨g, 0 + j, none⟩).isSome = true := fun j hj => by simp [World.cell?, hh, hsz, hj]
  have hdone : ∀ (w' : World) (cur' : Array Value), w'.heap[g]? = some (.cells cur' 3 (0, 0)) → cur'.size = c → cur'.toList.take (xs.length + 1) = eD (jx xs i k) → w.grownBy w' (some g) → v8 w w' (.slice (some ⟨g, 0, none⟩) xs.length c) (.slice (some ⟨g, 0, none⟩) (xs.length + 1) c) (eD (jx xs i k)) := fun w' cur' e1 e2 e3 e4 => by
   rw [← hiL] at e3 ⊢
   exact ⟨D4 e1 e2 e3 (by omega) hcm, e4, .inl rfl⟩
  have hc63 : c ≤ 9223372036854775807 := by simpa [maxLen] using hcm
  by_cases hlt : i < xs.length
  ·refine (Any2.slices_Insert_int_shift FN g 0 xs.length c i vb 0 1 1 (eD xs) [.int .i64 k] w hlt (by omega) hroom hc63 hne (gJ xs) rfl hcell (fun j hj => hspare j (by omega)) (fun j _ => wC hh _) hvs (Dp xs) h1v 3 3 1 c (DX hvb) (by rw [DX hh, hsz]) (by omega) (wC hvb _) (wC hvb _)).mono fun e w' ⟨he, hw⟩ => ?_
   refine ⟨_, he, ?_⟩
   have hdl : (List.drop i (eD xs)).length = xs.length - i := by rw [List.length_drop, gJ]
   obtain ⟨c1, a1, a2, a3, a4, a5, a6, a7⟩ := kf (b := g) (T := 3) ((eD xs).drop i) (0 + (i + 1)) w.drew cur hh (by rw [hdl]; omega)
   have hs1 : c1.size = c := by rw [pS a2 (by rw [hdl]; omega), hsz]
   obtain ⟨c2, b1, b2, b3, b4, b5, b6, b7⟩ := kf (b := g) (T := 3) [.int .i64 k] (0 + i) (w.drew.setCells g (0 + (i + 1)) ((eD xs).drop i)) c1 a1 (by rw [hs1]; simp; omega)
   rw [hw]
   refine hdone _ c2 b1 (by rw [pS b2 (by rw [hs1]; simp; omega), hs1]) ?_ ⟨b4.trans a4, b5.trans a5, b6.trans a6, by rw [b3, a3]; exact Nat.le_refl _, fun j hj hne' => ?_⟩
   ·have hcu : cur.toList.length = c := by rw [Array.length_toList, hsz]
    have ht : cur.toList.take i = (eD xs).take i := by rw [← htk, List.take_take, Nat.min_eq_left (by omega)]
    rw [b2, a2, sw]
    unfold qz
    simp only [Nat.zero_add, hdl, List.length_singleton]
    have l1 : (cur.toList.take (i + 1)).length = i + 1 := by rw [List.length_take, hcu]; omega
    have e1 : ((cur.toList.take (i + 1) ++ (eD xs).drop i ++ cur.toList.drop (i + 1 + (xs.length - i)))).take i = (eD xs).take i := by
     rw [List.append_assoc, List.take_append_of_le_length (by omega), List.take_take, Nat.min_eq_left (by omega), ht]
    have e2 : ((cur.toList.take (i + 1) ++ (eD xs).drop i ++ cur.toList.drop (i + 1 + (xs.length - i)))).drop (i + 1) = (eD xs).drop i ++ cur.toList.drop (i + 1 + (xs.length - i)) := by
     rw [List.append_assoc, List.drop_append_of_le_length (by omega), List.drop_of_length_le (by omega), List.nil_append]
    rw [e1, e2]
    have l2 : ((eD xs).take i).length = i := by rw [List.length_take, gJ]; omega
    rw [← List.append_assoc, List.take_append_of_le_length (by simp only [List.length_append, l2, hdl, List.length_singleton]; omega), List.take_of_length_le (by simp only [List.length_append, l2, hdl, List.length_singleton]; omega), List.append_assoc]; rfl
   have hj' : j ≠ g := fun e => hne' (by rw [e])
   rw [b7 j hj', a7 j hj']; rfl
  obtain rfl : i = xs.length := by omega
  refine (Any2.slices_Insert_int_end_room FN g 0 xs.length c vb 0 1 1 [.int .i64 k] w (by omega) hroom hc63 rfl (fun j hj => by rw [Nat.add_assoc]; exact hspare _ (by omega)) (fun j _ => wC hh _) hvs h1v).mono fun e w' ⟨he, hw⟩ => ?_
  refine ⟨_, he, ?_⟩
  obtain ⟨c1, a1, a2, a3, a4, a5, a6, a7⟩ := kf (b := g) (T := 3) [.int .i64 k] (0 + xs.length) w cur hh (by simp; omega)
  rw [hw]
  refine hdone _ c1 a1 (by rw [pS a2 (by simp; omega), hsz]) ?_ ⟨a4, a5, a6, by rw [a3]; exact Nat.le_refl _, fun j hj hne' => a7 j fun e => hne' (by rw [e])⟩
  have l2 : (eD xs).length = xs.length := gJ xs
  rw [a2, sw]
  unfold qz
  simp only [Nat.zero_add, List.length_singleton]
  rw [htk, List.take_of_length_le (l := eD xs) (by omega), List.drop_of_length_le (l := eD xs) (by omega), List.take_append_of_le_length (by simp; omega), List.take_of_length_le (by simp; omega)]
 by_cases hlt : i < xs.length
 ·refine (Any2.slices_Insert_int_grow FN g 0 xs.length c i vb 0 1 1 (eD xs) [.int .i64 k] w hlt (by omega) hnc (by omega) (by omega) (gJ xs) rfl hcell hvs (Dp xs) h1v).mono fun e w' ⟨he, hw⟩ => ?_
  refine ⟨_, he, ?_⟩
  have hge := grownCap_ge w (xs.length + 1) c (A8.t 3)
  have hle := grownCap_le_maxLen w (xs.length + 1) c (A8.t 3) (by omega)
  generalize grownCap w (xs.length + 1) c (A8.t 3) = C at *
  have hz : ∀ n, (Builtin.zeroCells (Value.int .i64 0).cells n).size = n := fun n => by rw [size_zeroCells]; simp [Value.cells]
  have hdl : (List.drop i (eD xs)).length = xs.length - i := by rw [List.length_drop, gJ]
  have htl : (List.take i (eD xs)).length = i := by rw [List.length_take, gJ]; omega
  obtain ⟨nb, hnb⟩ : ∃ nb, nb = ((eD xs).take i).toArray ++ Builtin.zeroCells (Value.int .i64 0).cells (xs.length + 1 - i) ++ Builtin.zeroCells (Value.int .i64 0).cells (C - (xs.length + 1)) := ⟨_, rfl⟩
  have hns : nb.size = C := by rw [hnb]; simp only [Array.size_append, hz]; simp only [List.size_toArray, htl]; omega
  have hnt : nb.toList.take i = (eD xs).take i := by rw [hnb]; simp only [Array.toList_append, List.append_assoc]; rw [List.take_append_of_le_length (by simp only [htl]; exact Nat.le_refl _), List.take_of_length_le (by simp only [htl]; exact Nat.le_refl _)]
  rw [← hnb] at hw
  have h0 : (w.alloc (.cells nb 3)).drew.heap[w.heap.size]? = some (.cells nb 3 (0, 0)) := gu w _
  obtain ⟨c1, a1, a2, a3, a4, a5, a6, a7⟩ := kf (b := w.heap.size) (T := 3) [.int .i64 k] i (w.alloc (.cells nb 3)).drew nb h0 (by rw [hns]; simp; omega)
  have hs1 : c1.size = C := by rw [pS a2 (by rw [hns]; simp; omega), hns]
  obtain ⟨c2, b1, b2, b3, b4, b5, b6, b7⟩ := kf (b := w.heap.size) (T := 3) ((eD xs).drop i) (i + 1) ((w.alloc (.cells nb 3)).drew.setCells w.heap.size i [.int .i64 k]).drew c1 a1 (by rw [hs1, hdl]; omega)
  rw [hw, ← hiL]
  rw [← hiL] at hge
  have hal : (w.alloc (.cells nb 3)).drew.heap.size = w.heap.size + 1 := by show (w.heap.push _).size = _; simp
  refine ⟨D4 b1 (by rw [pS b2 (by rw [hs1, hdl]; omega), hs1]) ?_ hge hle, ⟨b4.trans a4, b5.trans a5, b6.trans a6, ?_, fun j hj _ => ?_⟩, .inr rfl⟩
  ·have hcu : nb.toList.length = C := by rw [Array.length_toList, hns]
   rw [hiL, b2, a2, sw]
   unfold qz
   simp only [hdl, List.length_singleton]
   have l1 : (nb.toList.take i).length = i := by rw [List.length_take, hcu]; omega
   have e1 : ((nb.toList.take i ++ [Value.int .i64 k] ++ nb.toList.drop (i + 1))).take (i + 1) = (eD xs).take i ++ [.int .i64 k] := by
    rw [List.take_append_of_le_length (by simp; omega), List.take_of_length_le (by simp; omega), hnt]
   rw [e1]
   rw [List.take_append_of_le_length (by simp only [List.length_append, htl, hdl, List.length_singleton]; omega), List.take_of_length_le (by simp only [List.length_append, htl, hdl, List.length_singleton]; omega), List.append_assoc]; rfl
  ·exact Nat.le_trans (Nat.le_succ _) (Nat.le_of_eq (b3.trans (a3.trans hal)).symm)
  have hjn : j ≠ w.heap.size := by omega
  exact (b7 j hjn).trans ((a7 j hjn).trans (Below.heap_alloc w _ j hj))
 refine hgrow (some ⟨g, 0, none⟩) c hnc (by omega) (by omega) (fun h => by cases h) (fun a ha j x hj => ?_)
 obtain rfl := Option.some.inj ha
 rw [Addr.add_lit]
 exact hcell j x hj
end Go.Proofs.YtmmcenjknimhbaaGreat
namespace Go.Proofs.YtmmcenjknimhbaaGreat
open Go Go.T Go.RowKit
theorem PB {w : World} {v : Value} {n m : Nat} {l : List Value} (e : n = m) (h1 : l.length = n * 1) (h2 : (v = .slice none 0 0 ∧ n = 0) ∨ ∃ g cap cur, v = .slice (some ⟨g, 0, none⟩) n cap ∧ 0 ≤ g ∧ w.heap[g]? = some (.cells cur 3 (0, 0)) ∧ n ≤ cap ∧ cap ≤ maxLen ∧ cur.size = cap * 1 ∧ cur.toList.take (n * 1) = l) : w.ownsRow 0 3 1 v m l := e ▸ ⟨h1, h2⟩
section
variable {fr : Fr} {ops : Array Oper} {A : As} {rest : List Oper} {K : As → List (As × Fx) → Prop} {d : Nat} {t ty' : TypeId} {p : String} {e : Array Edge} {x y z : Operand}
theorem E7 (vs : Array Value) (w : World) : (callFunc 72 vs).run Tryz.prog w = .ok (.enter 72 vs) w := by
 have hn' : Tryz.f72.name ≠ "runtime.NumGoroutine" := by
  have h : (Tryz.f72.name == "runtime.NumGoroutine") = false := by kernel_rfl
  simpa using h
 have hb' : Tryz.f72.body ≠ none := fun h => by
  have hb : Tryz.f72.body.isNone = false := by kernel_rfl
  rw [h] at hb; cases hb
 simp [callFunc, Tryz.func72, hn', hb']
theorem L5 (tg : Nat) {xs : List Int} {i : Nat} {k : Int} {ats : Array TypeId} (hx : (A.op fr x).Sub (.row dN 3 tg xs)) (hy : A.op fr y = .int .i64 (i : Nat)) (hz : A.op fr z = KD 3 #[.int .i64 k]) (hi : i ≤ xs.length) (hl : xs.length ≤ 1000000) (h1 : 1 ≤ tg) (hp : fr.pass.contains tg = false)
 (h : aV Tryz.prog fr ops rest (A.after { d := some d, ty := .row dN 3 tg (jx xs i k), K := [tg], rs := bq x ++ (bq y ++ bq z) }) fun A' l => K A' ((A, { d := some d, ty := .row dN 3 tg (jx xs i k), K := [tg], rs := bq x ++ (bq y ++ bq z) }) :: l)) :
 aV Tryz.prog fr ops (⟨some d, .call ⟨.value (.func 72), #[x, y, z], ats⟩, t, p, e, none⟩ :: rest) A K := by
 refine ⟨_, ⟨rfl, by simp, by simp, by simp only [List.mem_singleton]; intro u hu; subst hu; exact ⟨h1, by simpa using hp⟩, fun a w M wf _ hrd _ => ?_⟩, h⟩
 rw [if_pos (by simp [Region.wanted])]
 have hdx := cA (x := x) (fun _ h => List.mem_append_left _ h) hrd
 have hdy := cA (x := y) (fun _ h => List.mem_append_right _ (List.mem_append_left _ h)) hrd
 have hdz := cA (x := z) (fun _ h => List.mem_append_right _ (List.mem_append_right _ h)) hrd
 rw [hy] at hdy
 rw [hz] at hdz
 have ey : a.eval y = .int .i64 (i : Nat) := hdy
 have hrow : dZ dN 3 tg xs w M (a.eval x) := hx _ _ _ hdx
 have hc := Pc h1 hrow hdz hi hl
 have hrun : (execOp a.eval ⟨some d, .call ⟨.value (.func 72), #[x, y, z], ats⟩, t, p, e, none⟩).run Tryz.prog w = .ok (.enter 72 #[a.eval x, .int .i64 i, a.eval z]) w := by
  rw [← ey]
  simp [execOp, resolve, Act.eval, Deferred.ofValue, invoke, E7]
 refine hH hrun ?_
 refine hc.mono fun en w' ⟨v', he, hown, hgr, hob⟩ => ?_
 obtain ⟨cs0, _, _, hM⟩ := hrow
 have hb : ∀ b, v'.ownBlock = some b → b < w'.heap.size := by
  intro b hb
  rcases hown.2 with ⟨rfl, _⟩ | ⟨g, cap, cur, rfl, _, hh, _⟩
  ·simp [Value.ownBlock] at hb
  simp [Value.ownBlock] at hb; subst hb; exact (Array.getElem?_eq_some_iff.1 hh).1
 have hle := zX (t := tg) (g := v'.ownBlock) hgr.size hgr.os hgr.tape hgr.output (fun b hb hlt => by
  rcases hob with e | e
  ·exact hM b (e ▸ hb)
  exact absurd hlt (by rw [← Option.some.inj (e.symm.trans hb)]; exact Nat.lt_irrefl _)) (fun b hlt hne => hgr.block b hlt (fun e => hne (hM b e.symm))) wf
 refine ⟨v', he, v', rfl, nh M tg v'.ownBlock, zf wf hgr.size hb, hle, ⟨eD (jx xs i k), ?_, Ao _, fun g hg => by simp [nh, hg]⟩, by simp⟩
 exact PB (gJ _) hown.1 hown.2
theorem JO {k : Int} (hx : A.op fr x = .int .i64 k)
 (h : aV Tryz.prog fr ops rest (A.set d (KD 3 #[.int .i64 k])) fun A' l' => K A' ((A, { d := some d, ty := KD 3 #[.int .i64 k], rs := bq x }) :: l')) : aV Tryz.prog fr ops (⟨some d, .buildSlice 23 1 #[(0, x)], t, p, e, none⟩ :: rest) A K := by
 refine ⟨_, iD (f := { d := some d, ty := KD 3 #[.int .i64 k], rs := bq x }) rfl rfl (by simp) (by simp) (by simp) fun a w M wf hr _ => ?_, h⟩
 have hd := cA (x := x) (fun _ h => h) hr
 rw [hx] at hd
 have ex : a.eval x = .int .i64 k := hd
 obtain ⟨h3, h4, h5⟩ := wk wf (.cells #[.int .i64 k] 3)
 refine ⟨.slice (some ⟨w.heap.size, 0, none⟩) 1 1, w.alloc (.cells #[.int .i64 k] 3), ?_, M, h3, h4, ⟨w.heap.size, rfl, h5, gu _ _⟩, by simp⟩
 have hu : Tryz.prog.underlying 23 = some (.slice 3) := by kernel_rfl
 have hz : ∀ w, (zeroValue 3).run Tryz.prog w = .ok (.int .i64 0) w := fun w => k9 (by kernel_rfl) w
 have hs : ∀ w, (sizeOf 3).run Tryz.prog w = .ok 1 w := fun w => cJ (P := Tryz.prog) (t := 3) rfl w
 simp [execOp, Instr.buildSlice, run_underlying hu, hs, hz, ex, newRow, newObj, Sem.run, Value.cells, Instr.fill, Sem.new, show Array.range 1 = #[0] from rfl]
end
end Go.Proofs.YtmmcenjknimhbaaGreat
namespace Go.Proofs.YtmmcenjknimhbaaGreat
open Go Go.T
set_option maxHeartbeats 2000000
attribute [local irreducible] eG cZ jR j6 eP eO eK eM eS j8 eJ j4 b8 dc jz dZ j7 nth eZ cU aV cX bodyPost Exit.then Exit.inBlock Code.wp Code.wpIn dS mz mm m5 fT mq m7 fW mW eB fO lq bW bV bodyPostM cV
set_option maxRecDepth 100000 in
theorem JD (s : fR) (n : Nat) (hn : n ≤ 1000) (h : s.Ok (n + 1)) : eB Tryz.prog 32 [1000] [(1000, Cont.cells 95 (cN s))] [Ty.ptr 1000 0, Ty.int .i64 (n : Nat)] [(1000, Cont.cells 95 (cN (eV s n).2))] (Ty.sl dN (eV s n).1) := by
 refine jE Tryz.func32 rfl (by decide) Tryz.ntmps32 (by exact Nat.le_of_ble_eq_true rfl) fun w0 M0 => ?_
 have h0 : 0 ≤ s.taken ∧ s.taken + (n + 1) ≤ 4611686018427387904 := h
 refine aF (aA (mN rfl (aD (aC (aF (aA (mN rfl (aD (aC (aF (aF (aA (bF rfl (bF rfl (aD ?_)))))))))))))))
 refine aC (af ?_)
 refine cK (fun (k : {k : Nat // k ≤ n}) => live [(0, Ty.ptr 1000 0), (5, Ty.row dN 3 19 (eV s k.1).1), (7, Ty.int .i64 (n : Nat)), (8, Ty.int .i64 (k.1 : Nat))] [(1000, Cont.cells 95 (cN (eV s k.1).2))]) (fun k => n - k.1) (⟨0, by omega⟩) ?_ fun k => ?_
 ·(refine c8.mk' ?_ ?_ <;> (repeat' (first | exact aI | exact aH | refine aB ?_ (Ty.aR _) | refine aB ?_ (Ty.aG _) | refine aB ?_ Ty.lX | refine aJ rfl (Cont.aG _) ?_)))
 obtain ⟨hs1, _, _, hs4⟩ := uJ s k.1
 have hk2 := k.2
 refine aF (aA (ak rfl rfl rfl (aD (aC (aF ?_)))))
 refine aa rfl (fun hc1 => ?_) (fun hc1 => ?_)
 ·refine bA (aC (aF (af (aF (aA (bF rfl (b9 rfl (aD (aC ?_)))))))))
  have hok : (eV s k.1).2.Ok 1 := ⟨by omega, by omega⟩
  have hb := cR (eV s k.1).2 ((k.1 : Int) + 1)
  refine aA (BU rfl (tU rfl (bF rfl ?_)))
  refine bz rfl rfl (by omega) (by omega) ?_
  refine eI [(1000, 1000)] [] [(1000, Cont.cells 95 (cN (aO (eV s k.1).2)))] (iy (eV s k.1).2 hok _) rfl rfl (by repeat (first | exact fB | refine dF ?_ ?_ | exact fV List.mem_cons_self | exact cO rfl rfl)) (dm (a := 1000) (b := 1000) (by exact List.mem_cons_self) rfl (bB (by exact List.mem_cons_self) rfl rfl rfl) pre_nil) (cj (a := 1000) (b := 1000) (by exact List.mem_cons_self) rfl (bB (by exact List.mem_cons_self) rfl rfl rfl) post_nil) (cO rfl rfl) ?_
  refine bF rfl (JO rfl ?_)
  refine L5 19 (i := (bQ (eV s k.1).2 ((k.1 : Int) + 1)).toNat) (k := (k.1 : Nat)) (Ty.aG _) (congrArg (Ty.int .i64) (Int.toNat_of_nonneg hb.1).symm) rfl (by omega) (by omega) (by decide) rfl ?_
  refine D8 rfl (aD (bH (aC (aA ?_))))
  refine bz rfl rfl (by omega) (by omega) ?_
  refine bF rfl (aD ?_)
  refine bO (⟨k.1 + 1, by omega⟩) ?_ (by show n - (k.1 + 1) < n - k.1; omega)
  (refine c8.mk' ?_ ?_ <;> (repeat' (first | exact aI | exact aH | refine aB ?_ (Ty.aR _) | refine aB ?_ (Ty.aG _) | refine aJ rfl (Cont.aG _) ?_)))
  all_goals skip
 refine cE (aL (aL (ah rfl (aC (aF ?_)))))
 obtain ⟨k, hk⟩ := k
 obtain rfl : k = n := by have h1 : ¬ (k : Int) < (n : Int) := hc1; have h2 : k ≤ n := hk; omega
 refine aA (BU rfl (D8 rfl (aD (aC (au ?_)))))
 refine qG [1000] rfl rfl (by decide) (by repeat (first | exact og | refine kF rfl (bB (by decide) rfl rfl rfl) ?_)) ?_
 all_goals exact EY (by decide) rfl rfl
 all_goals exact EY (by decide) rfl rfl
end Go.Proofs.YtmmcenjknimhbaaGreat
namespace Go.Proofs.YtmmcenjknimhbaaGreat
open Go Go.T
set_option maxHeartbeats 2000000
attribute [local irreducible] eG cZ jR j6 eP eO eK eM eS j8 eJ j4 b8 dc jz dZ j7 nth eZ cU aV cX bodyPost Exit.then Exit.inBlock Code.wp Code.wpIn dS mz mm m5 fT mq m7 fW mW eB fO lq bW bV bodyPostM cV
set_option maxRecDepth 100000 in
theorem Ew (l : List Int) (x : Int) : cX Tryz.prog 143 [Ty.sl dN l, Ty.int .i64 x] (Ty.int .i64 (Ol l x)) := by
 refine aY Tryz.func143 rfl (by decide) Tryz.ntmps143 (by exact Nat.le_of_ble_eq_true rfl) fun w0 M0 => ?_
 refine ko (s := 0) rfl rfl k8 fun hl => ?_
 refine aF (aA (b9 rfl (aD (aC (aF (aF (aA (gq rfl (cC rfl rfl rfl (bF rfl (aD (aC (af ?_)))))))))))))
 refine cK (fun (k : {k : Nat // ∀ y ∈ l.take k, decide (x = y) = false}) => live [(0, Ty.sl dN l), (1, Ty.int .i64 x), (7, Ty.int .i64 l.length), (8, Ty.int .i64 (k.1 : Nat))] []) (fun k => l.length - k.1) (⟨0, by simp⟩) ?_ fun k => ?_
 ·(refine c8.mk' ?_ ?_ <;> (repeat' (first | exact aI | exact aH | refine aB ?_ (Ty.aR _) | refine aB ?_ (Ty.aG _))))
 refine aF (aA (ak rfl rfl rfl (aD (aC (aF ?_)))))
 refine aa rfl (fun hc1 => ?_) (fun hc1 => ?_)
 ·refine bA (aC (aF (af (aF (aA (bF rfl (b9 rfl (aD (aC (aF (aA (bF rfl (gq rfl (bF rfl ?_))))))))))))))
  refine bG rfl rfl rfl rfl rfl rfl (by omega) ?_
  refine aK rfl rfl rfl rfl (ak rfl rfl rfl (aD (aC ?_)))
  refine aa rfl (fun hc2 => ?_) (fun hc2 => ?_)
  ·refine aF (aA (bF rfl (b9 rfl (aD (aC (au (av (aW (aW (av (aW (bK rfl rfl ?_))))))))))))
   all_goals skip
   exact bE rfl rfl (congrArg (Ty.int .i64) (by unfold Ol; rw [lO (k := k.1) (by omega) k.2 (by rw [← cF]; exact decide_eq_true hc2)]))
  refine bA (bH (aC (aA ?_)))
  refine bz rfl rfl (by omega) (by omega) ?_
  refine bF rfl (aD ?_)
  refine bO (⟨k.1 + 1, by rw [bh (by omega)]; intro y hy; rcases List.mem_append.1 hy with h | h; exact k.2 y h; rw [List.mem_singleton.1 h]; exact decide_eq_false hc2⟩) ?_ (by show l.length - (k.1 + 1) < l.length - k.1; omega)
  (refine c8.mk' ?_ ?_ <;> (repeat' (first | exact aI | exact aH | refine aB ?_ (Ty.aR _) | refine aB ?_ (Ty.aG _))))
  all_goals skip
 refine cE (aL (aL (ah rfl (aC (aF (aA (b9 rfl (aD (aC (au (bK rfl rfl ?_)))))))))))
 all_goals skip
 exact bE rfl rfl (congrArg (Ty.int .i64) (by unfold Ol; rw [nE (by have := k.2; rwa [List.take_of_length_le (by omega)] at this)]))
set_option maxRecDepth 100000 in
theorem qp (l : List Int) (x : Int) : cX Tryz.prog 92 [Ty.sl dN l, Ty.int .i64 x] (Ty.bool (decide (x ∈ l))) := by
 refine aY Tryz.func92 rfl (by decide) Tryz.ntmps92 (by exact Nat.le_of_ble_eq_true rfl) fun w0 M0 => ?_
 refine aF (aA (dG rfl (aD (aC (aF (aA (gq rfl (bF rfl (aq (Ew l x) rfl rfl rfl rfl rfl (ak rfl rfl rfl (dG rfl (aD (aC (au (bK rfl rfl ?_)))))))))))))))
 all_goals skip
 exact bE rfl rfl (congrArg Ty.bool (CE l x))
end Go.Proofs.YtmmcenjknimhbaaGreat
namespace Go.Proofs.YtmmcenjknimhbaaGreat
open Go Go.T
set_option maxHeartbeats 2000000
attribute [local irreducible] eG cZ jR j6 eP eO eK eM eS j8 eJ j4 b8 dc jz dZ j7 nth eZ cU aV cX bodyPost Exit.then Exit.inBlock Code.wp Code.wpIn dS mz mm m5 fT mq m7 fW mW eB fO lq bW bV bodyPostM cV
set_option maxRecDepth 100000 in
theorem Lb (r : kT) (done : List Int) (t : Int) : cX Tryz.prog 94 [Ty.agg (jh.tys r), Ty.pp [Ty.int .i64 t], Ty.pp [Ty.sl dN done]] (Ty.bool (decide (r.nxt = t) && !decide (r.fst ∈ done))) := by
 refine aY Tryz.func94 rfl (by decide) Tryz.ntmps94 (by exact Nat.le_of_ble_eq_true rfl) fun w0 M0 => ?_
 refine aF (aA (bD rfl (dG rfl (aD (aC (aF (aA ?_)))))))
 refine aP rfl rfl rfl rfl rfl (by decide) ?_
 refine aK rfl rfl rfl rfl (aK rfl rfl rfl rfl (ak rfl rfl rfl (kV rfl ?_)))
 apply aN (s := 9) rfl rfl rfl
 ·intro hg; apply aQ; (refine aK rfl rfl rfl rfl ?_); refine aD ?_; exact rfl
 ·exact rfl
 ·exact rfl
 apply aN (s := 9) rfl rfl rfl
 ·intro hg; apply aQ; (refine aP rfl rfl rfl rfl rfl (by decide) ?_); refine aD ?_; exact rfl
 ·exact rfl
 ·exact rfl
 apply aN (s := 9) rfl rfl rfl
 ·intro hg; apply aM (s := 11) rfl (by (rw [hg]; rfl)); apply aQ; (refine aK rfl rfl rfl rfl ?_); refine aD ?_; exact rfl
 ·exact rfl
 ·exact rfl
 apply aN (s := 9) rfl rfl rfl
 ·intro hg; apply aM (s := 10) rfl (by (rw [hg]; rfl)); apply aM (s := 12) rfl (by (rw [hg]; rfl)); apply aQ; (refine aq (qp _ _) rfl rfl rfl rfl rfl ?_); refine aD ?_; exact rfl
 ·exact rfl
 ·exact rfl
 apply aN (s := 9) rfl rfl rfl
 ·intro hg; apply aM (s := 13) rfl (by (rw [hg]; rfl)); apply aQ; (refine ct rfl ?_); refine aD ?_; exact rfl
 ·exact rfl
 ·exact rfl
 refine gL rfl rfl (dG rfl (aD (aC (au (bK rfl rfl ?_)))))
 all_goals exact bN rfl rfl
set_option maxRecDepth 100000 in
theorem Ob (f : bS) (done : List Int) (t : Int) : cX Tryz.prog 39 [iT f, Ty.sl dN done, Ty.int .i64 t] (Ty.bool (rY f done t)) := by
 refine aY Tryz.func39 rfl (by decide) Tryz.ntmps39 (by exact Nat.le_of_ble_eq_true rfl) fun w0 M0 => ?_
 refine aF (aA (bD rfl ?_))
 refine eY (by exact (rfl : _ = Ty.sl _ _)) rfl ?_
 refine eY (by exact (rfl : _ = Ty.int _ _)) rfl ?_
 refine dG rfl (aD (aC (aF (aA (aK rfl rfl rfl rfl (aK rfl rfl rfl rfl (aq (qp _ _) rfl rfl rfl rfl rfl (ct rfl (kV rfl ?_)))))))))
 apply aN (s := 11) rfl rfl rfl
 ·intro hg; apply aQ; (refine aP rfl rfl rfl rfl rfl (by decide) ?_); refine aD ?_; exact rfl
 ·exact rfl
 ·exact rfl
 apply aN (s := 11) rfl rfl rfl
 ·intro hg; apply aM (s := 12) rfl (by (rw [hg]; rfl)); apply aQ; (refine aK rfl rfl rfl rfl ?_); refine aD ?_; exact rfl
 ·exact rfl
 ·exact rfl
 apply aN (s := 11) rfl rfl rfl
 ·intro hg; apply aQ; (refine cw rfl ?_); refine aD ?_; exact rfl
 ·exact rfl
 ·exact rfl
 apply aN (s := 11) rfl rfl rfl
 ·intro hg; apply aM (s := 13) rfl (by (rw [hg]; rfl)); apply aM (s := 14) rfl (by (rw [hg]; rfl)); apply aQ; (refine aq (nR f.rules (Ty.j9 _ [Ty.pp [Ty.int .i64 t], Ty.pp [Ty.sl dN done]]) rfl (fun r => decide (r.nxt = t) && !decide (r.fst ∈ done)) rfl rfl fun r _ => cY (Lb r done t) rfl rfl rfl rfl rfl rfl) rfl rfl rfl rfl rfl ?_); refine aD ?_; exact rfl
 ·exact rfl
 ·exact rfl
 apply aN (s := 11) rfl rfl rfl
 ·intro hg; apply aM (s := 15) rfl (by (rw [hg]; rfl)); apply aQ; (refine ct rfl ?_); refine aD ?_; exact rfl
 ·exact rfl
 ·exact rfl
 refine gL rfl rfl (dG rfl (aD (aC (au (bK rfl rfl ?_)))))
 all_goals exact bN rfl rfl
set_option maxRecDepth 100000 in
theorem N5 (f : bS) (hp : bk f = 0) (s : fR) (h : s.Ok 100) : eB Tryz.prog 11 [1000] [(1000, Cont.cells 95 (cN s))] [Ty.ptr 1000 0, iT f] [(1000, Cont.cells 95 (cN (cM f s f.turnings.length).2))] (Ty.sl dN (cM f s f.turnings.length).1) := by
 refine jE Tryz.func11 rfl (by decide) Tryz.ntmps11 (by exact Nat.le_of_ble_eq_true rfl) fun w0 M0 => ?_
 have h0 : 0 ≤ s.taken ∧ s.taken + 100 ≤ 4611686018427387904 := h
 have h8 := P7 hp
 refine aF (aA (bD rfl (mN rfl (aD (aC (aF (aA (mN rfl (aD (aC (aF (af ?_))))))))))))
 refine cK (fun (k : {k : Nat // k ≤ f.turnings.length}) => live [(0, Ty.ptr 1000 0), (3, Ty.pp (cx f)), (5, Ty.row dN 3 42 (cM f s k.1).1)] [(1000, Cont.cells 95 (cN (cM f s k.1).2))]) (fun k => f.turnings.length - k.1) (⟨0, by omega⟩) ?_ fun k => ?_
 ·(refine c8.mk' ?_ ?_ <;> (repeat' (first | exact aI | exact aH | refine aB ?_ (Ty.aR _) | refine aB ?_ (Ty.aG _) | refine aB ?_ Ty.lX | refine aJ rfl (Cont.aG _) ?_)))
 have hk := k.2
 obtain ⟨hs1, hs2, ⟨x, hrep⟩, _⟩ := uh hp s k.1 k.2
 refine aF (aF (aA (BU rfl (lG rfl rfl rfl ?_))))
 refine aP rfl rfl rfl rfl rfl (by decide) ?_
 refine aK rfl rfl rfl rfl (cC rfl rfl rfl (ak rfl rfl rfl (aD (aC ?_))))
 refine aa rfl (fun hc1 => ?_) (fun hc1 => ?_)
 ·refine bA (aC (af (aF (aA (mN rfl (aD (aC (aF (aF (aA ?_))))))))))
  refine aP rfl rfl rfl rfl rfl (by decide) ?_
  refine aK rfl rfl rfl rfl (cC rfl rfl rfl (bF rfl (aD (aC (af ?_)))))
  refine cK (fun (j : {j : Nat // j ≤ f.turnings.length}) => live [(0, Ty.ptr 1000 0), (3, Ty.pp (cx f)), (5, Ty.row dN 3 42 (cM f s k.1).1), (6, Ty.row dN 3 28 (jL f (cM f s k.1).1 j.1)), (16, Ty.int .i64 f.turnings.length), (17, Ty.int .i64 (j.1 : Nat))] [(1000, Cont.cells 95 (cN (cM f s k.1).2))]) (fun j => f.turnings.length - j.1) (⟨0, by omega⟩) ?_ fun j => ?_
  ·(refine c8.mk' ?_ ?_ <;> (repeat' (first | exact aI | exact aH | refine aB ?_ (Ty.aR _) | refine aB ?_ (Ty.aG _) | refine aB ?_ Ty.lX | refine aJ rfl (Cont.aG _) ?_)))
  have hj := j.2
  have hll : (jL f (cM f s k.1).1 j.1).length ≤ j.1 := by have := List.length_filter_le (rY f (cM f s k.1).1) (s6 j.1); rw [QU] at this; exact this
  refine aF (aA (ak rfl rfl rfl (aD (aC (aF ?_)))))
  refine aa rfl (fun hc2 => ?_) (fun hc2 => ?_)
  ·refine bA (aC (aF (af (aF (aA (bF rfl (b9 rfl (aD (aC (aF (aA ?_)))))))))))
   refine az rfl rfl rfl (by exact Nat.le_of_ble_eq_true rfl) ?_
   refine BU rfl (bF rfl ?_)
   refine Qn [42] (Ob f _ _) rfl (by repeat (first | exact jP | refine gV (pI rfl rfl) ?_ | refine gV (O5 rfl) ?_)) (by exact Jf _) ?_
   refine aD (aC ?_)
   refine c9 rfl (fun hc3 => ?_) (fun hc3 => ?_)
   ·refine aA (BU rfl (bF rfl ?_))
    refine bT (E := dN) (xs := [_]) rfl rfl rfl rfl rfl (by decide) (by decide) (by repeat (first | exact (aT.nil : aT _ _ [] _) | (show aT _ _ ((_, _) :: _) _; apply aT.one; (· exact (rfl : _ = Ty.int _ _)); (· exact rfl)))) (by exact rfl) rfl ?_
    refine fD rfl rfl (by decide) rfl rfl rfl rfl rfl rfl (by decide) (by (simp <;> omega)) (by (simp <;> omega)) ?_
    refine D8 rfl (aD (bH (aC (aA ?_))))
    refine bz rfl rfl (by omega) (by omega) ?_
    refine bF rfl (aD ?_)
    refine bO (⟨j.1 + 1, by omega⟩) ?_ (by show f.turnings.length - (j.1 + 1) < f.turnings.length - j.1; omega)
    (refine c8.mk' ?_ ?_ <;> (repeat' (first | exact aI | exact aH | refine aB ?_ (Ty.aR _) | refine aB ?_ (Ty.aG _) | refine aJ rfl (Cont.aG _) ?_ | refine aB ?_ ?_)))
    all_goals skip
    all_goals exact Ty.ej (by rw [vU, if_pos hc3])
   refine bA (bH (aC (aA ?_)))
   refine bz rfl rfl (by omega) (by omega) ?_
   refine bF rfl (aD ?_)
   refine bO (⟨j.1 + 1, by omega⟩) ?_ (by show f.turnings.length - (j.1 + 1) < f.turnings.length - j.1; omega)
   (refine c8.mk' ?_ ?_ <;> (repeat' (first | exact aI | exact aH | refine aB ?_ (Ty.aR _) | refine aB ?_ (Ty.aG _) | refine aJ rfl (Cont.aG _) ?_ | refine aB ?_ ?_)))
   all_goals skip
   all_goals exact Ty.ej (by rw [vU, if_neg (Bool.eq_false_iff.1 hc3), List.append_nil])
  refine cE (aL (aL (ah rfl (aC (aF (aF ?_))))))
  have hjn : j.1 = f.turnings.length := by omega
  have hpos := vD hp hrep (by omega)
  refine mY (s := 6) rfl (Ty.ej (congrArg (jL f (cM f s k.1).1) hjn)) ?_
  refine aA (BU rfl (lG rfl rfl rfl (ak rfl rfl rfl (aD (aC ?_)))))
  refine iP rfl (decide_eq_false (by omega)) ?_
  refine bA (aC ?_)
  have hok : (cM f s k.1).2.Ok 1 := ⟨by omega, by omega⟩
  have hb := cR (cM f s k.1).2 (jL f (cM f s k.1).1 f.turnings.length).length
  refine aA (BU rfl (BU rfl (tU rfl (BU rfl (lG rfl rfl rfl ?_)))))
  refine eI [(1000, 1000)] [] [(1000, Cont.cells 95 (cN (aO (cM f s k.1).2)))] (iy (cM f s k.1).2 hok _) rfl rfl (by repeat (first | exact fB | refine dF ?_ ?_ | exact fV List.mem_cons_self | exact cO rfl rfl)) (dm (a := 1000) (b := 1000) (by exact List.mem_cons_self) rfl (bB (by exact List.mem_cons_self) rfl rfl rfl) pre_nil) (cj (a := 1000) (b := 1000) (by exact List.mem_cons_self) rfl (bB (by exact List.mem_cons_self) rfl rfl rfl) post_nil) (cO rfl rfl) ?_
  refine Dz rfl rfl rfl rfl rfl rfl (by omega) (by omega) ?_
  refine DM rfl rfl rfl rfl ?_
  refine bT (E := dN) (xs := [_]) rfl rfl rfl rfl rfl (by decide) (by decide) (by repeat (first | exact (aT.nil : aT _ _ [] _) | (show aT _ _ ((_, _) :: _) _; apply aT.one; (· exact (rfl : _ = Ty.int _ _)); (· exact rfl)))) (by exact rfl) rfl ?_
  refine fD rfl rfl (by decide) rfl rfl rfl rfl rfl rfl (by decide) (by (simp <;> omega)) (by (simp <;> omega)) ?_
  refine D8 rfl (aD (bH ?_))
  refine bO (⟨k.1 + 1, by omega⟩) ?_ (by show f.turnings.length - (k.1 + 1) < f.turnings.length - k.1; omega)
  (refine c8.mk' ?_ ?_ <;> (repeat' (first | exact aI | exact aH | refine aB ?_ (Ty.aR _) | refine aB ?_ (Ty.aG _) | refine aJ rfl (Cont.aG _) ?_)))
  all_goals skip
 refine cE (aL (aL (ah rfl (aC (aF ?_)))))
 obtain ⟨k, hk⟩ := k
 obtain rfl : k = f.turnings.length := by have h1 : ¬ ((cM f s k).1.length : Int) < (f.turnings.length : Int) := hc1; have h2 : k ≤ f.turnings.length := hk; have h3 : (cM f s k).1.length = k := hs1; omega
 refine aA (BU rfl (D8 rfl (aD (aC (au ?_)))))
 refine qG [1000] rfl rfl (by decide) (by repeat (first | exact og | refine kF rfl (bB (by decide) rfl rfl rfl) ?_)) ?_
 all_goals exact EY (by decide) rfl rfl
 all_goals exact EY (by decide) rfl rfl
end Go.Proofs.YtmmcenjknimhbaaGreat
namespace Go.Proofs.YtmmcenjknimhbaaGreat
open Go Go.T
set_option maxHeartbeats 2000000
attribute [local irreducible] eG cZ jR j6 eP eO eK eM eS j8 eJ j4 b8 dc jz dZ j7 nth eZ cU aV cX bodyPost Exit.then Exit.inBlock Code.wp Code.wpIn dS mz mm m5 fT mq m7 fW mW eB fO lq bW bV bodyPostM cV
end Go.Proofs.YtmmcenjknimhbaaGreat
namespace Go.Proofs.YtmmcenjknimhbaaGreat
open Go Go.T
set_option maxHeartbeats 2000000
attribute [local irreducible] eG cZ jR j6 eP eO eK eM eS j8 eJ j4 b8 dc jz dZ j7 nth eZ cU aV cX bodyPost Exit.then Exit.inBlock Code.wp Code.wpIn dS mz mm m5 fT mq m7 fW mW eB fO lq bW bV bodyPostM cV
theorem F1 (n : Nat) (s : fR) (k : Nat) : dr n s (k + 1) = ⟨gH (mkBin n (dr n s k)).shares (mkBin n (dr n s k)).has (dr n s k).bears n, (dr n s k).bins ++ [mkBin n (dr n s k)], (dr n s k).left ++ [(mkBin n (dr n s k)).has], (fN n (aO (dr n s k).sk) 4).2⟩ := rfl
theorem ud (xs : List Int) (s : fR) (k : Nat) : gY xs s (k + 1) = (if qh (aO (gY xs s k).2) 9 then sy (nT (gY xs s k).1 (gY xs s k).2 k) k else nT (gY xs s k).1 (gY xs s k).2 k, aO (aO (gY xs s k).2)) := rfl
theorem GF (m : Nat) (l : List Int) (s : fR) (k : Nat) : dg m l s (k + 1) = ⟨leftOf (dg m l s k).left (eT m (dg m l s k)) (fJ m (dg m l s k)), (dg m l s k).trn ++ [Fy m (dg m l s k)], aO (aO (aO (dg m l s k).sk))⟩ := rfl
theorem CG (o : List Int) (T : Nat) (s : fR) (k : Nat) : (dU o T s (k + 1)).2 = aO (aO (dU o T s k).2) := rfl
theorem F2 (o : List Int) (T : Nat) (s : fR) (k : Nat) (h : bQ (dU o T s k).2 T < bQ (aO (dU o T s k).2) T) : (dU o T s (k + 1)).1 = (dU o T s k).1 ++ [⟨nth o (bQ (dU o T s k).2 T).toNat, nth o (bQ (aO (dU o T s k).2) T).toNat⟩] := if_pos h
theorem I8 (o : List Int) (T : Nat) (s : fR) (k : Nat) (h : ¬ bQ (dU o T s k).2 T < bQ (aO (dU o T s k).2) T) : (dU o T s (k + 1)).1 = (dU o T s k).1 := if_neg h
attribute [local irreducible] aO bQ dJ qh gH fN mkBin
theorem so (d : gE) : d.bn 0 = ⟨List.replicate d.n 0, [], [], aO (aO d.s)⟩ := by unfold gE.bn dr; rfl
theorem sP (d : gE) (k : Nat) : d.bn (k + 1) = ⟨gH (mkBin d.n (d.bn k)).shares (mkBin d.n (d.bn k)).has (d.bn k).bears d.n, (d.bn k).bins ++ [mkBin d.n (d.bn k)], (d.bn k).left ++ [(mkBin d.n (d.bn k)).has], (fN d.n (aO (d.bn k).sk) 4).2⟩ := by unfold gE.bn; exact F1 _ _ _
theorem zQ (n : Nat) (s : fR) : fN n s 0 = (List.replicate n 0, s) := by unfold fN; rfl
theorem zS (n : Nat) (s : fR) (k : Nat) : fN n s (k + 1) = ((fN n s k).1.set (bQ (fN n s k).2 n).toNat (nth (fN n s k).1 (bQ (fN n s k).2 n).toNat + 1), aO (fN n s k).2) := by rw [fN]
theorem Lu (sh : List Int) (has : Int) (b : List Int) : gH sh has b 0 = b := by rw [gH]
theorem Lv (sh : List Int) (has : Int) (b : List Int) (k : Nat) : gH sh has b (k + 1) = (gH sh has b k).set k (nth (gH sh has b k) k + nth sh k * has) := by rw [gH]
theorem vg (d : gE) : d.up 0 = ((d.bn d.m).bears, (d.bn d.m).sk) := by unfold gE.up gY; rfl
theorem C9 (d : gE) (k : Nat) : (d.up (k + 1)).2 = aO (aO (d.up k).2) := by unfold gE.up; rw [ud]
theorem TJ (d : gE) (k : Nat) (h : qh (aO (d.up k).2) 9 = true) : (d.up (k + 1)).1 = sy (nT (d.up k).1 (d.up k).2 k) k := by unfold gE.up at *; rw [ud]; exact if_pos h
theorem UG (d : gE) (k : Nat) (h : qh (aO (d.up k).2) 9 = false) : (d.up (k + 1)).1 = nT (d.up k).1 (d.up k).2 k := by unfold gE.up at *; rw [ud]; exact if_neg (Bool.eq_false_iff.1 h)
theorem wR (d : gE) : d.tk 0 = ⟨(d.bn d.m).left, [], aO (d.up d.n).2⟩ := by unfold gE.tk dg; rfl
theorem wS (d : gE) (k : Nat) : d.tk (k + 1) = ⟨leftOf (d.tk k).left (eT d.m (d.tk k)) (fJ d.m (d.tk k)), (d.tk k).trn ++ [Fy d.m (d.tk k)], aO (aO (aO (d.tk k).sk))⟩ := by unfold gE.tk; rw [GF]
theorem zN (d : gE) : d.ru 0 = ([], aO d.order.2) := by unfold gE.ru dU; rfl
theorem CP (d : gE) (k : Nat) : (d.ru (k + 1)).2 = aO (aO (d.ru k).2) := by unfold gE.ru; rw [CG]
theorem S0 (d : gE) (k : Nat) (h : bQ (d.ru k).2 d.T < bQ (aO (d.ru k).2) d.T) : (d.ru (k + 1)).1 = (d.ru k).1 ++ [⟨nth d.order.1 (bQ (d.ru k).2 d.T).toNat, nth d.order.1 (bQ (aO (d.ru k).2) d.T).toNat⟩] := by unfold gE.ru at *; exact F2 _ _ _ _ h
theorem Uv (d : gE) (k : Nat) (h : ¬ bQ (d.ru k).2 d.T < bQ (aO (d.ru k).2) d.T) : (d.ru (k + 1)).1 = (d.ru k).1 := by unfold gE.ru at *; exact I8 _ _ _ _ h
theorem LP (n : Nat) (p : Mk) : (mkBin n p).has = bQ p.sk 60 := by unfold mkBin; rfl
theorem E8 (n : Nat) (p : Mk) : (mkBin n p).shares = (fN n (aO p.sk) 4).1 := by unfold mkBin; rfl
theorem HA {a b : Int} (h : (!decide (a = b)) = true) : a ≠ b := by simpa using h
theorem S7 (s : fR) (n m : Nat) (e : m = n) (hn : n ≤ 1000) (h : s.Ok (n + 1)) : eB Tryz.prog 32 [1000] [(1000, Cont.cells 95 (cN s))] [Ty.ptr 1000 0, Ty.int .i64 (m : Nat)] [(1000, Cont.cells 95 (cN (eV s n).2))] (Ty.sl dN (eV s n).1) := by
 subst e; exact JD s m hn h
theorem jy {α : Type} {E : El α} {T tg : Nat} {xs : List α} (e : [] = xs) : (Ty.ex (.slice none 0 0)).Sub (Ty.row E T tg xs) := by subst e; exact Ty.lX
theorem Ub {n : Nat} (hn : 1 ≤ n) (s : fR) (k : Nat) {j : Nat} (hj : j < n) : 0 ≤ nth (fN n s k).1 j ∧ nth (fN n s k).1 j ≤ k := by
 obtain ⟨h1, h2, h3, _⟩ := wN hn s k
 have h5 : ∀ x ∈ (fN n s k).1, 0 ≤ x := qF fun j hj => h3 j (by omega)
 have h6 := (uM h5).2 _ (bL (show j < (fN n s k).1.length by omega))
 rw [h2] at h6
 exact ⟨h3 j hj, h6⟩
theorem sv {n : Int} (h : -9223372036854775808 ≤ n ∧ n ≤ 9223372036854775807) : IntKind.i64.wrap n = n := IntWalk.i64_in _ (by omega)
theorem Tf {n : Nat} (hn : 1 ≤ n) (s : fR) {k : Nat} (hk : k ≤ 4) : (fN n s k).1.set (bQ (fN n s k).2 n).toNat (IntKind.i64.wrap (nth (fN n s k).1 (bQ (fN n s k).2 n).toNat + 1)) = (fN n s (k + 1)).1 := by
 have hb := BF (s := (fN n s k).2) hn
 have := Ub hn s k (show (bQ (fN n s k).2 n).toNat < n by omega)
 rw [zS, sv (by omega)]
theorem NR {n k i : Nat} {s : fR} {p : Mk} (hp : SN n k s p) (hk : k ≤ 5) (hi : i < n) {b : qP} (hb : OU n b) : (gH b.shares b.has p.bears i).set i (IntKind.i64.wrap (nth (gH b.shares b.has p.bears i) i + IntKind.i64.wrap (nth b.shares i * b.has))) = gH b.shares b.has p.bears (i + 1) := by
 have h1 := hp.bearsR i hi
 have h2 := hb.rng i hi
 have h3 := hb.has
 have h4 : 0 ≤ nth b.shares i * b.has := Int.mul_nonneg h2.1 h3.1
 have h5 : nth b.shares i * b.has ≤ 4 * 59 := Int.mul_le_mul h2.2 h3.2 h3.1 (by omega)
 have h6 := (su b.shares b.has p.bears i).2 i (by rw [hp.bears]; exact hi)
 rw [if_neg (by omega)] at h6
 rw [Lv, sv (n := nth b.shares i * b.has) (by omega), sv (by omega)]
theorem Cf {d : gE} {i : Nat} (hi : i < d.n) : 0 ≤ nth (d.up i).1 i ∧ nth (d.up i).1 i ≤ 2000 ∧ (d.up i).1.length = d.n := by
 obtain ⟨h1, h2, _⟩ := d.OH i
 have h3 := (d.HO d.m).bearsR i hi
 have h4 := h2 i hi
 have h5 := d.ET
 rw [if_neg (by omega)] at h4
 omega
theorem Pf {d : gE} {i : Nat} (hi : i < d.n) : (d.up i).1.set i (IntKind.i64.wrap (nth (d.up i).1 i + bQ (d.up i).2 90)) = nT (d.up i).1 (d.up i).2 i := by
 have h := Cf hi
 have hb := cR (d.up i).2 90
 rw [sv (by omega)]; rfl
theorem RE {d : gE} {i : Nat} (hi : i < d.n) : ((d.up i).1.set i (IntKind.i64.wrap (nth (d.up i).1 i + bQ (d.up i).2 90))).set i (max 0 (IntKind.i64.wrap (nth ((d.up i).1.set i (IntKind.i64.wrap (nth (d.up i).1 i + bQ (d.up i).2 90))) i - 60))) = sy (nT (d.up i).1 (d.up i).2 i) i := by
 have h := Cf hi
 have hb := cR (d.up i).2 90
 rw [Pf hi]
 have e : nth (nT (d.up i).1 (d.up i).2 i) i = nth (d.up i).1 i + bQ (d.up i).2 90 := by
  unfold nT; rw [gO, if_pos ⟨rfl, by omega⟩]
 rw [sv (by rw [e]; omega)]; rfl
section
variable {m L : Nat} (e : L = m) (p : Tk)
include e
theorem QT (h : (!decide (dJ p.sk (-1) ((L : Int) - 1) = -1) && decide (nth p.left (dJ p.sk (-1) ((L : Int) - 1)).toNat = 0)) = true) : -1 = eT m p := by
 subst e; unfold eT Jn; rw [if_pos (by simpa using h)]
theorem Sr (h : (!decide (dJ p.sk (-1) ((L : Int) - 1) = -1) && decide (nth p.left (dJ p.sk (-1) ((L : Int) - 1)).toNat = 0)) = false) : dJ p.sk (-1) ((L : Int) - 1) = eT m p := by
 subst e; unfold eT Jn; rw [if_neg (by intro hx; simp [hx.1, hx.2] at h)]
theorem Qb (h : eT m p = dJ (aO p.sk) (-1) ((L : Int) - 1)) : Bj (eT m p + 1) L = r5 m p := by
 subst e; unfold r5 nY; rw [if_pos h]
theorem TT (h : ¬ eT m p = dJ (aO p.sk) (-1) ((L : Int) - 1)) : dJ (aO p.sk) (-1) ((L : Int) - 1) = r5 m p := by
 subst e; unfold r5 nY; rw [if_neg h]
end
section
variable {m : Nat} {p : Tk}
theorem Dq (h : ¬ eT m p = -1) : min (dJ (aO (aO p.sk)) 1 20) (nth p.left (eT m p).toNat) = fJ m p := by
 unfold fJ vS; rw [if_pos h]
theorem Px (h : eT m p = -1) : dJ (aO (aO p.sk)) 1 20 = fJ m p := by
 unfold fJ vS; rw [if_neg (fun x => x h)]
theorem Qe (h : eT m p = -1) : p.left = leftOf p.left (eT m p) (fJ m p) := by
 unfold leftOf; rw [if_neg (fun x => x h)]
theorem OS (h : ¬ eT m p = -1) (hb : 0 ≤ nth p.left (eT m p).toNat ∧ nth p.left (eT m p).toNat ≤ 1000) : p.left.set (eT m p).toNat (IntKind.i64.wrap (nth p.left (eT m p).toNat - min (dJ (aO (aO p.sk)) 1 20) (nth p.left (eT m p).toNat))) = leftOf p.left (eT m p) (fJ m p) := by
 have ha := nN (s := aO (aO p.sk)) (show (1 : Int) ≤ 20 by omega)
 have hs := Dq h
 rw [sv (by omega), hs]
 unfold leftOf; rw [if_pos h]
end
theorem JX {d : gE} {k j : Nat} (hj : j < d.m) : 0 ≤ nth (d.tk k).left j ∧ nth (d.tk k).left j ≤ 1000 := by
 have h := d.O1 k
 have h1 := h.pos j hj
 have h2 := h.took j hj
 have h3 := d.pX.2 j hj
 have h4 : 0 ≤ q8 (d.tk k).trn j := by
  unfold q8
  refine (uM fun x hx => ?_).1
  obtain ⟨t, ht, rfl⟩ := List.mem_map.1 hx
  have := (h.trnOk t ht).sacks
  split <;> omega
 omega
theorem Um {d : gE} {k : Nat} (h : bQ (d.ru k).2 (d.order.1.length : Nat) < bQ (aO (d.ru k).2) (d.order.1.length : Nat)) : (d.ru k).1 ++ [⟨nth d.order.1 (bQ (d.ru k).2 (d.order.1.length : Nat)).toNat, nth d.order.1 (bQ (aO (d.ru k).2) (d.order.1.length : Nat)).toNat⟩] = (d.ru (k + 1)).1 := by
 have e := d.lT.1
 rw [e] at h ⊢
 exact (S0 d k h).symm
theorem Se {d : gE} {k : Nat} (h : ¬ bQ (d.ru k).2 (d.order.1.length : Nat) < bQ (aO (d.ru k).2) (d.order.1.length : Nat)) : (d.ru k).1 = (d.ru (k + 1)).1 := by
 have e := d.lT.1
 rw [e] at h
 exact (Uv d k h).symm
attribute [local irreducible] gE.bn gE.up gE.tk gE.ru eV
end Go.Proofs.YtmmcenjknimhbaaGreat
namespace Go.T
open Go Go.RowKit
section
variable {P : Program} {fr : Fr} {ops : Array Oper} {A : As} {rest : List Oper} {K : As → List (As × Fx) → Prop} {d : Nat} {t ty' : TypeId} {p : String} {e : Array Edge} [T : lQ P]
theorem G6 {w : World} {st el b n c lo hi : Nat} {ti te : TI} {ol oh om : Option Value} (hT : T.tab[st]? = some ti) (hk : ti.k = .slice el) (hE : T.tab[el]? = some te)
 (hlo : (ol = none ∧ lo = 0) ∨ ∃ k : IntKind, ol = some (.int k lo)) (hhi : (oh = none ∧ hi = n) ∨ ∃ k : IntKind, oh = some (.int k hi)) (hm : om = none) (h1 : lo ≤ hi) (h2 : hi ≤ c) :
 (Instr.sliceAt st (.slice (some ⟨b, 0, none⟩) n c) ol oh om).run P w = .ok (.slice (if c = lo then some ⟨b, 0, none⟩ else some ⟨b, lo * te.size, none⟩) (hi - lo) (c - lo)) w := by
 subst hm
 obtain ⟨_, D, _, hD, hkd, _⟩ := dM hT
 rw [hk] at hkd
 cases D <;> simp only [TK.of, reduceCtorEq, TK.slice.injEq] at hkd
 subst hkd
 have hsz := fun w => cJ (P := P) hE w
 rcases hlo with ⟨rfl, rfl⟩ | ⟨k, rfl⟩ <;> rcases hhi with ⟨rfl, rfl⟩ | ⟨k', rfl⟩ <;>
  simp [Instr.sliceAt, Instr.slice, run_underlying hD, Instr.sliceBounds, Instr.sliceBound, asIntOf, hsz, h2, h1, Addr.add_lit]
theorem QD {x y : Operand} {k : IntKind} {el tg n lo : Nat} {ti te : TI} (hx : A.op fr x = .vs tg n) (hy : A.op fr y = .int k lo) (hT : T.tab[ty']? = some ti) (hk : ti.k = .slice el) (hE : T.tab[el]? = some te) (h2 : lo < n)
 (h : aV P fr ops rest (A.set d (.win tg (lo * te.size) (n - lo) 0)) fun A' l' => K A' ((A, { d := some d, ty := .win tg (lo * te.size) (n - lo) 0, rs := bq x ++ bq y }) :: l')) : aV P fr ops (⟨some d, .slice ty' x (some y) none none, t, p, e, none⟩ :: rest) A K :=
 bC (bP rfl rfl fun a w M _ hr _ => by
  obtain ⟨hdx, hdy⟩ := op2 hr
  rw [hx] at hdx; rw [hy] at hdy
  have ey : a.eval y = .int k lo := hdy
  rcases hdx with ⟨h0, _⟩ | ⟨b, c, hb, ex, g1, g2⟩
  ·omega
  have h3 := G6 (P := P) (w := w) (b := b) (n := n) (c := c) hT hk hE (lo := lo) (hi := n) (ol := some (.int k lo)) (oh := none) (om := none) (.inr ⟨k, rfl⟩) (.inl ⟨rfl, rfl⟩) rfl (by omega) (by omega)
  rw [if_neg (by omega)] at h3
  exact ⟨_, by simp only [execOp, ey, ex, Option.map_none, Option.map_some, Sem.run_bind, h3, Result.andThen_ok]; rfl, ⟨b, lo * te.size, c - lo, hb, rfl, by omega, by omega, fun _ => rfl⟩⟩) h
theorem RV {x y : Operand} {k : IntKind} {el tg n hi : Nat} {ti te : TI} (hx : A.op fr x = .vs tg n) (hy : A.op fr y = .int k hi) (hT : T.tab[ty']? = some ti) (hk : ti.k = .slice el) (hE : T.tab[el]? = some te) (h2 : hi ≤ n) (h0 : 0 < n)
 (h : aV P fr ops rest (A.set d (.vs tg hi)) fun A' l' => K A' ((A, { d := some d, ty := .vs tg hi, rs := bq x ++ bq y }) :: l')) : aV P fr ops (⟨some d, .slice ty' x none (some y) none, t, p, e, none⟩ :: rest) A K :=
 bC (bP rfl rfl fun a w M _ hr _ => by
  obtain ⟨hdx, hdy⟩ := op2 hr
  rw [hx] at hdx; rw [hy] at hdy
  have ey : a.eval y = .int k hi := hdy
  rcases hdx with ⟨h1, _⟩ | ⟨b, c, hb, ex, g1, g2⟩
  ·omega
  have h3 := G6 (P := P) (w := w) (b := b) (n := n) (c := c) hT hk hE (lo := 0) (hi := hi) (ol := none) (oh := some (.int k hi)) (om := none) (.inl ⟨rfl, rfl⟩) (.inr ⟨k, rfl⟩) rfl (Nat.zero_le _) (by omega)
  rw [if_neg (by omega), Nat.zero_mul] at h3
  exact ⟨_, by simp only [execOp, ey, ex, Option.map_none, Option.map_some, Sem.run_bind, h3, Result.andThen_ok]; rfl, .inr ⟨b, c - 0, hb, rfl, by omega, by omega⟩⟩) h
theorem D3 {α : Type} {E : El α} {x : Operand} {st el tg m o Tb k : Nat} {ti te : TI} {xs : List α} (hx : A.op fr x = .win tg o m 0) (ho' : o = k * E.size) (hm : 0 < m) (hc : A.tag tg = some (.vec E Tb xs)) (h2 : k + m ≤ xs.length) (h1 : ga tg) (hT : T.tab[st]? = some ti) (hk : ti.k = .slice el) (hE : T.tab[el]? = some te) (hs : te.size = E.size) (hz : te.zero.length = te.size) (h0 : 0 < te.size) (ho : te.zero.all (fun v => v.oneCell') = true)
 (h : aV P fr ops rest (A.after { d := none, S := [tg], sets := [(tg, .vec E Tb (xs.take k))], rs := bq x, rt := [tg] }) fun A' l' => K A' ((A, { d := none, S := [tg], sets := [(tg, .vec E Tb (xs.take k))], rs := bq x, rt := [tg] }) :: l')) :
 aV P fr ops (⟨none, .call ⟨.builtin .clear, #[x], #[st]⟩, t, p, e, none⟩ :: rest) A K := by
 refine ⟨_, iD rfl rfl (by simp) (by simpa using h1.1) (by simp) fun a w M wf hr ht => ?_, h⟩
 have hdx := cA (x := x) (fun _ h => h) hr
 rw [hx] at hdx
 obtain ⟨b, o1, c, hb, ex, g1, g2, g3⟩ := hdx
 obtain ⟨u, rfl⟩ : ∃ u, tg = u + 1 := ⟨tg - 1, by omega⟩
 rcases qA hc w M ht with rfl | ⟨b', cs, hb', hh, hd⟩
 ·simp at h2; omega
 have e3 := wf.inj b b' u (by omega) hb hb'
 subst e3
 obtain rfl := g3 (by omega)
 obtain ⟨_, D, _, hD, hkd, _⟩ := dM hT
 rw [hk] at hkd
 cases D <;> simp only [TK.of, reduceCtorEq, TK.slice.injEq] at hkd
 subst hkd
 rename_i el
 obtain ⟨z, hz1, hz2⟩ := o7 hE (by intro hn; rw [hn] at hz; simp at hz; omega) w
 have hzs : z.cells.size = te.size := by rw [← hz, ← hz2]; simp
 have hlen : (Builtin.zeroCells z.cells m).toList.length = m * te.size := by simp [Builtin.zeroCells, hzs]
 have hone : ∀ v ∈ (Builtin.zeroCells z.cells m).toList, v.oneCell' = true := by
  intro v hv
  simp only [Builtin.zeroCells, Array.toList_map, List.mem_map] at hv
  obtain ⟨i, _, rfl⟩ := hv
  have hm : i % z.cells.size < z.cells.size := Nat.mod_lt _ (by omega)
  rw [getElem!_pos z.cells _ hm]
  exact List.all_eq_true.1 ho _ (by rw [← hz2]; exact Array.getElem_mem_toList _)
 have hL := cI hd
 have h2' : cs.toList.length = cs.size := Array.length_toList
 have hcs : xs.length * E.size ≤ cs.size := by
  rw [List.length_take, c7, h2'] at hL; omega
 have hfit : (k + m) * E.size ≤ xs.length * E.size := Nat.mul_le_mul_right _ h2
 rw [Nat.add_mul] at hfit
 have hst := run_storeCells_at (P := P) b o1 Tb (Builtin.zeroCells z.cells m).toList 0 cs w hh (by rw [hlen, hs]; omega) hone
 rw [uF _ hh] at hst
 obtain ⟨w1, w2, w3⟩ := jW (cs' := (cs.toList.take (o1 + 0) ++ (Builtin.zeroCells z.cells m).toList ++ cs.toList.drop (o1 + 0 + (Builtin.zeroCells z.cells m).toList.length)).toArray) (Tb := Tb) wf hb _ rfl
 obtain ⟨m', rfl⟩ : ∃ m', m = m' + 1 := ⟨m - 1, by omega⟩
 have hrun : (Builtin.clear_ #[st] t #[a.eval x]).run P w = .ok (.tuple #[]) { w with heap := w.heap.setIfInBounds b (.cells (cs.toList.take (o1 + 0) ++ (Builtin.zeroCells z.cells (m' + 1)).toList ++ cs.toList.drop (o1 + 0 + (Builtin.zeroCells z.cells (m' + 1)).toList.length)).toArray Tb (0, 0)) } := by
  rw [ex]
  simp only [Builtin.clear_]
  simp [run_underlying hD, hz1]
  simp at hst
  rw [hst]
  simp
 refine ⟨.tuple #[], _, by simp [execOp, resolve, invoke, builtin, hrun], M, w1, w2, trivial, fun x hx => ?_⟩
 rw [List.mem_singleton.1 hx]
 refine .inr ⟨b, _, hb, w3, bY w2 (by rw [E.cT]; intro _ h; cases h) (by rw [E.cL]; intro _ h; cases h) ?_⟩
 have hfl : ((xs.take k).flatMap E.tys).length = o1 := by rw [c7, List.length_take, Nat.min_eq_left (by omega), ho']
 have e : xs.flatMap E.tys = (xs.take k).flatMap E.tys ++ (xs.drop k).flatMap E.tys := by rw [← List.flatMap_append, List.take_append_drop]
 have h4 := IM ((xs.take k).flatMap E.tys).length hd
 rw [List.take_take, e, List.take_append_of_le_length (Nat.le_refl _), List.take_length, List.length_append, Nat.min_eq_left (Nat.le_add_right _ _), hfl] at h4
 rw [hfl]
 show cD w M _ (List.take o1 (cs.toList.take o1 ++ (Builtin.zeroCells z.cells (m' + 1)).toList ++ cs.toList.drop _))
 rw [List.append_assoc, List.take_append_of_le_length (by rw [List.length_take, h2']; omega), List.take_take, Nat.min_self]
 exact h4
end
end Go.T
namespace Go.T
open Go Go.RowKit
section
variable {P : Program} {fr : Fr} {A : As} {c : Code} {Q : Exit → Act → World → Prop}
end
section
variable {P : Program} {fr : Fr} {ops : Array Oper} {A : As} {rest : List Oper} {K : As → List (As × Fx) → Prop} {d : Nat} {t ty' : TypeId} {p : String} {e : Array Edge} [T : lQ P]
variable {α : Type} {E : El α} {Tb J tg i : Nat} {q : List (List α)} {xs : List α}
end
end Go.T
namespace Go.Proofs.YtmmcenjknimhbaaGreat
open Go Go.T
set_option maxHeartbeats 16000000
def G5 (t : Nat) (f : bS) : List Ty := [Ty.sl dN f.bears, Ty.sl jX f.bins, Ty.vs t f.turnings.length, Ty.sl jh f.rules]
theorem RS {α : Type} {E : El α} {T tg n : Nat} {xs : List α} (h : xs.length = n) : (Ty.row E T tg xs).Sub (Ty.vs tg n) := Ty.SM h
def kG (t : mO) : Bool := decide (max t.src t.dst ≥ 4)
theorem rO (t : mO) : kG t = !jg t := by
 unfold kG jg
 by_cases h : max t.src t.dst < 4
 ·rw [decide_eq_true h, decide_eq_false (by omega)]; rfl
 rw [decide_eq_false h, decide_eq_true (by omega)]; rfl
theorem Qh {l : List mO} (h : fidx kG l = -1) : l.filter jg = l := by
  rw [List.filter_eq_self]
  intro t ht
  cases e : jg t with
  | true => rfl
  | false =>
    have hh : kG t = true := by rw [rO, e]; rfl
    obtain ⟨k, hk, rfl⟩ := Eu ht
    have := (qR kG l).symm
    rw [h] at this
    have ha : l.any kG = true := List.any_eq_true.2 ⟨_, bL hk, hh⟩
    rw [ha] at this; cases this
theorem PI {l : List mO} (h : ¬ fidx kG l = -1) : ∃ i : Nat, fidx kG l = i ∧ i < l.length ∧ (∀ t ∈ l.take i, kG t = false) ∧ kG (nth l i) = true := by
  unfold fidx at h ⊢
  cases e : l.findIdx? kG with
  | none => rw [e] at h; exact absurd rfl h
  | some i =>
    rw [List.findIdx?_eq_some_iff_getElem] at e
    obtain ⟨hi, h1, h2⟩ := e
    refine ⟨i, rfl, hi, fun t ht => ?_, by rw [cF hi]; exact h1⟩
    rw [List.mem_take_iff_getElem] at ht
    obtain ⟨j, hj, rfl⟩ := ht
    have := h2 j (by omega)
    simpa using this
def ry (x : Nat × Nat × List mO) : Nat × Nat × List mO := if kG (nth x.2.2 x.2.1) = true then (x.1, x.2.1 + 1, x.2.2) else (x.1 + 1, x.2.1 + 1, x.2.2.set x.1 (nth x.2.2 x.2.1))
structure Fe (l : List mO) (x : Nat × Nat × List mO) : Prop where
  lt : x.1 < x.2.1
  le : x.2.1 ≤ l.length
  len : x.2.2.length = l.length
  done : x.2.2.take x.1 = (l.take x.2.1).filter jg
  rest : ∀ j, x.2.1 ≤ j → j < l.length → nth x.2.2 j = nth l j
theorem Ms {l : List mO} {i : Nat} (hi : i < l.length) (h1 : ∀ t ∈ l.take i, kG t = false) (h2 : kG (nth l i) = true) : Fe l (i, i + 1, l) := by
 refine ⟨Nat.lt_succ_self i, hi, rfl, ?_, fun j _ _ => rfl⟩
 show l.take i = (l.take (i + 1)).filter jg
 rw [bh hi, List.filter_append, List.filter_eq_self.2 fun t ht => by
  have := h1 t ht
  rw [rO] at this
  simpa using this]
 have : jg (nth l i) = false := by rw [rO] at h2; simpa using h2
 rw [List.filter_cons, this]; simp
theorem Fe.step {l : List mO} {x : Nat × Nat × List mO} (h : Fe l x) (hj : x.2.1 < l.length) : Fe l (ry x) := by
 have hr := h.rest _ (Nat.le_refl _) hj
 have hlt := h.lt
 unfold ry
 by_cases c : kG (nth x.2.2 x.2.1) = true
 ·rw [if_pos c]
  refine ⟨by show x.1 < x.2.1 + 1; omega, hj, h.len, ?_, fun j hj' hl => h.rest j (by have : x.2.1 + 1 ≤ j := hj'; omega) hl⟩
  show x.2.2.take x.1 = (l.take (x.2.1 + 1)).filter jg
  rw [bh hj, List.filter_append, ← h.done]
  have : jg (nth l x.2.1) = false := by rw [← hr]; rw [rO] at c; simpa using c
  rw [List.filter_cons, this]; simp
 rw [if_neg c]
 refine ⟨by show x.1 + 1 < x.2.1 + 1; omega, hj, by show (x.2.2.set _ _).length = _; rw [List.length_set]; exact h.len, ?_, fun j hj' hl => ?_⟩
 ·show (x.2.2.set x.1 _).take (x.1 + 1) = (l.take (x.2.1 + 1)).filter jg
  rw [bh (xs := x.2.2.set x.1 (nth x.2.2 x.2.1)) (by rw [List.length_set, h.len]; omega), bh hj, List.filter_append, ← h.done, List.take_set_of_le (Nat.le_refl _)]
  have hl' : jg (nth l x.2.1) = true := by rw [← hr]; rw [rO] at c; simpa using c
  have e : nth (x.2.2.set x.1 (nth x.2.2 x.2.1)) x.1 = nth l x.2.1 := by
   rw [cF (by rw [List.length_set, h.len]; omega), List.getElem_set_self, hr]
  rw [e, List.filter_cons, hl']; simp
 have hj'' : x.2.1 + 1 ≤ j := hj'
 show nth (x.2.2.set x.1 _) j = _
 rw [cF (by rw [List.length_set, h.len]; exact hl), List.getElem_set_ne (by omega), ← cF (by rw [h.len]; exact hl)]
 exact h.rest j (by omega) hl
theorem Dh {x : Nat × Nat × List mO} (h : kG (nth x.2.2 x.2.1) = true) : ry x = (x.1, x.2.1 + 1, x.2.2) := if_pos h
theorem Gy {x : Nat × Nat × List mO} (h : kG (nth x.2.2 x.2.1) = false) : ry x = (x.1 + 1, x.2.1 + 1, x.2.2.set x.1 (nth x.2.2 x.2.1)) := if_neg (by rw [h]; decide)
theorem Fq {x : Nat × Nat × List mO} : (ry x).2.1 = x.2.1 + 1 := by unfold ry; split <;> rfl
def tM (g : List Int) : gE := ⟨je g, 8⟩
theorem OA (g : List Int) : bk (tM g).DT = 0 ∧ 2 ≤ (tM g).DT.bins.length ∧ (tM g).DT.bins.length ≤ 5 := by
 have h := (tM g).HO (tM g).m
 have h1 := (tM g).ET
 have e : (tM g).DT.bins.length = (tM g).m := h.bins
 exact ⟨gE.right _ (Nat.le_refl 8), by omega, by omega⟩
theorem Hh (g : List Int) : (je g).Ok 100 := by have h := Il g; unfold fR.Ok at *; omega
theorem EN {f : bS} (h : bk f = 0) : f.turnings.length ≤ 8 := P7 h
attribute [local irreducible] ry gE.bn gE.up gE.tk gE.ru eV aO bQ dJ qh gH fN mkBin
attribute [local irreducible] eG cZ jR j6 eP eO eK eM eS j8 eJ j4 b8 dc jz dZ j7 nth eZ cU aV cX bodyPost Exit.then Exit.inBlock Code.wp Code.wpIn dS mz mm m5 fT mq m7 fW mW eB fO lq bW bV bodyPostM cV
attribute [local irreducible] T4
set_option maxRecDepth 100000 in
theorem OG (t : mO) : cX Tryz.prog 9 [Ty.agg (gM.tys t)] (Ty.bool (kG t)) := by
 refine aY Tryz.func9 rfl (by decide) Tryz.ntmps9 (by exact Nat.le_of_ble_eq_true rfl) fun w0 M0 => ?_
 refine aF (aA (bD rfl (dG rfl (aD (aC (aF (aA ?_)))))))
 refine aP rfl rfl rfl rfl rfl (by decide) ?_
 refine aK rfl rfl rfl rfl ?_
 refine aP rfl rfl rfl rfl rfl (by decide) ?_
 refine aK rfl rfl rfl rfl (HD rfl rfl (ak rfl rfl rfl (dG rfl (aD (aC (au (bK rfl rfl ?_)))))))
 all_goals exact bN rfl rfl
 all_goals trace_state
set_option maxRecDepth 100000 in
theorem Sh (l : List mO) (hl : l.length ≤ 100) : eB Tryz.prog 8 [1000] [(1000, Cont.vec gM 34 l)] [Ty.vs 1000 l.length, Ty.j9 9 []] [(1000, Cont.vec gM 34 (l.filter jg))] (Ty.vs 1000 (l.filter jg).length) := by
 refine jE Tryz.func8 rfl (by decide) Tryz.ntmps8 (by exact Nat.le_of_ble_eq_true rfl) fun w0 M0 => ?_
 refine aF (aA (mN rfl (aD (aC (aF (aA (FT rfl (Uw rfl ?_))))))))
 refine Pj [1000] (qn l (Ty.j9 9 []) rfl kG rfl rfl fun x _ => cY (OG x) rfl rfl rfl rfl rfl rfl) rfl (by repeat (first | exact I5 | refine yT (Nh (pI rfl rfl)) ?_ | refine yT (Ns rfl (by exact rfl) (by decide) rfl) ?_)) (by exact K0 _ _) ?_
 refine b9 rfl (aD (aC (aF (aF (aA (bF rfl (ak rfl rfl rfl (aD (aC ?_)))))))))
 refine aa rfl (fun hc1 => ?_) (fun hc1 => ?_)
 ·refine aF ?_
  have hf := Qh hc1
  refine jt (tg := 1000) rfl (Cont.dB hf.symm) ?_
  refine mY (s := 0) rfl (Ty.sub_eq (congrArg (fun z : List mO => Ty.vs 1000 z.length) hf.symm)) ?_
  refine aA (FT rfl (VE rfl (aD (aC (au (aW ?_))))))
  refine qG [1000] rfl rfl (by decide) (by repeat (first | exact og | refine kF rfl (wo (by decide) rfl) ?_)) ?_
  all_goals skip
  all_goals exact vG (DO (by decide))
 refine bA (aC (aF (aF ?_)))
 obtain ⟨i, ei, hi, hb, ha⟩ := PI hc1
 refine mY (s := 5) rfl (Ty.bJ ei) ?_
 refine aA (bF rfl ?_)
 refine bz rfl rfl (by omega) (by omega) ?_
 refine b9 rfl (aD (aC (af ?_)))
 refine cK (fun (x : {x : Nat × Nat × List mO // Fe l x}) => live [(0, Ty.vs 1000 l.length), (1, Ty.j9 9 []), (5, Ty.int .i64 (x.1.1 : Nat)), (6, Ty.int .i64 (x.1.2.1 : Nat))] [(1000, Cont.vec gM 34 x.1.2.2)]) (fun x => l.length - x.1.2.1) (⟨(i, i + 1, l), Ms hi hb ha⟩) ?_ fun x => ?_
 ·(refine c8.mk' ?_ ?_ <;> (repeat' (first | exact aI | exact aH | refine aB ?_ (Ty.aR _) | refine aB ?_ (Ty.aG _) | refine aJ rfl (Cont.aG _) ?_)))
  all_goals trace_state
 have hx1 := x.2.lt
 have hx2 := x.2.le
 have hx3 := x.2.len
 refine aF (aF (aA (bF rfl (FT rfl (nM rfl rfl rfl (ak rfl rfl rfl (aD (aC ?_))))))))
 refine aa rfl (fun hc2 => ?_) (fun hc2 => ?_)
 ·refine bA (aC ?_)
  refine qU (J := live [(0, Ty.vs 1000 l.length), (1, Ty.j9 9 []), (5, Ty.int .i64 ((ry x.1).1 : Nat)), (6, Ty.int .i64 (x.1.2.1 : Nat))] [(1000, Cont.vec gM 34 (ry x.1).2.2)]) ?_ ?_
  ·refine af (aF (aA (FT rfl (bF rfl ?_))))
   refine eE rfl rfl rfl rfl rfl (by omega) ?_
   refine Fl x.1.2.1 rfl rfl rfl (by decide) rfl rfl rfl (by omega) ?_
   refine dA rfl (by exact List.cons_ne_nil _ _) rfl ?_
   refine eH rfl rfl (by decide) rfl rfl rfl rfl rfl rfl ?_
   refine aD (aC (aF (aA (Uw rfl ?_))))
   refine gN rfl rfl (by decide) rfl rfl (by exact Nat.le_of_ble_eq_true rfl) ?_
   refine QV rfl (OG (nth x.1.2.2 x.1.2.1)) rfl rfl rfl rfl rfl (ct rfl (aD (aC ?_)))
   refine ck rfl (fun hc3 => ?_) (fun hc3 => ?_)
   ·refine aF (aA (FT rfl (bF rfl ?_)))
    refine gN rfl rfl (by decide) rfl rfl (by exact Nat.le_of_ble_eq_true rfl) ?_
    refine eE rfl rfl rfl rfl rfl (by omega) ?_
    refine D7 (E := gM) (z := nth x.1.2.2 x.1.2.1) x.1.1 rfl rfl rfl (by decide) rfl rfl rfl (by omega) ?_
    refine aD (aC (aA (bF rfl ?_)))
    refine bz rfl rfl (by omega) (by omega) ?_
    refine b9 rfl (aD (bH (iC ?_)))
    (refine c8.mk' ?_ ?_ <;> (repeat' (first | exact aI | exact aH | refine aB ?_ (Ty.aR _) | refine aB ?_ (Ty.aG _) | refine aJ rfl ?_ ?_ | refine aB ?_ ?_)))
    all_goals first | exact Ty.bJ (by rw [Gy (decide_eq_false hc3)]; show _ = ((x.1.1 + 1 : Nat) : Int); omega) | exact Cont.dB (by rw [Gy (decide_eq_false hc3)])
   refine bA (bH (iC ?_))
   (refine c8.mk' ?_ ?_ <;> (repeat' (first | exact aI | exact aH | refine aB ?_ (Ty.aR _) | refine aB ?_ (Ty.aG _) | refine aJ rfl ?_ ?_ | refine aB ?_ ?_)))
   all_goals first | exact Ty.bJ (by rw [Dh (decide_eq_true hc3)]) | exact Cont.dB (by rw [Dh (decide_eq_true hc3)])
  refine aA (bF rfl ?_)
  refine bz rfl rfl (by omega) (by omega) ?_
  refine b9 rfl (aD ?_)
  refine bO (⟨ry x.1, x.2.step (by omega)⟩) ?_ (by show l.length - (ry x.1).2.1 < l.length - x.1.2.1; rw [Fq]; omega)
  (refine c8.mk' ?_ ?_ <;> (repeat' (first | exact aI | exact aH | refine aB ?_ (Ty.aR _) | refine aB ?_ (Ty.aG _) | refine aJ rfl (Cont.aG _) ?_ | refine aB ?_ ?_)))
  all_goals skip
  all_goals exact Ty.bJ (by rw [Fq]; omega)
 refine cE (aL (aL (ah rfl (aC (aF (aA (FT rfl (bF rfl ?_))))))))
 refine QD rfl rfl rfl rfl rfl (by omega) ?_
 refine D3 (E := gM) (k := x.1.1) (xs := x.1.2.2) rfl rfl (by omega) rfl (by omega) (by decide) rfl rfl rfl rfl rfl (by decide) rfl ?_
 refine aD (aC (aF ?_))
 have hxe : x.1.2.1 = l.length := by omega
 have hend : x.1.2.2.take x.1.1 = l.filter jg := by rw [x.2.done, hxe, List.take_length]
 have hlen : ((x.1.1 : Nat) : Int) = ((l.filter jg).length : Nat) := by rw [← hend, List.length_take]; omega
 have hle : (l.filter jg).length ≤ l.length := List.length_filter_le _ _
 refine jt (tg := 1000) rfl (Cont.dB hend) ?_
 refine mY (s := 5) rfl (Ty.bJ hlen) ?_
 refine aA (FT rfl (bF rfl ?_))
 refine RV rfl rfl rfl rfl rfl hle (by omega) ?_
 refine VE rfl (aD (aC (au ?_)))
 refine qG [1000] rfl rfl (by decide) (by repeat (first | exact og | refine kF rfl (wo (by decide) rfl) ?_)) ?_
 all_goals skip
 all_goals exact vG (DO (by decide))
set_option maxRecDepth 100000 in
theorem QG (d : gE) (ht : d.t ≤ 8) (h : d.s.Ok 100) : eB Tryz.prog 6 [1000] [(1000, Cont.cells 95 (cN d.s))] [Ty.ptr 1000 0, Ty.int .i64 (d.t : Nat)] [(1000, Cont.cells 95 (cN d.sk)), (171, Cont.vec gM 34 d.DT.turnings)] (Ty.agg (G5 171 d.DT)) := by
 refine jE Tryz.func6 rfl (by decide) Tryz.ntmps6 (by exact Nat.le_of_ble_eq_true rfl) fun w0 M0 => ?_
 have h0 : 0 ≤ d.s.taken ∧ d.s.taken + 100 ≤ 4611686018427387904 := h
 have hn := d.Bx
 have hm := d.ET
 have hs1 := bu d.s
 have hT := d.RC
 have hR := d.Qc
 have htk1 : (aO (aO d.s)).taken = d.s.taken + 2 := by rw [bu, bu]; omega
 have hbm := d.HO d.m
 have hun := d.OH d.n
 have htT := d.O1 d.T
 have hor := d.lT
 have hlp := d.pX
 have hbmt := hbm.taken
 have hbmb := hbm.bins
 have htTl := htT.trn
 have hunt := hun.2.2
 have htTt := htT.taken
 have hort := hor.2.2.2
 have hq1 := bu (d.up d.n).2
 have hq2 := bu d.order.2
 refine aF (aA ?_)
 refine dA rfl (by exact List.cons_ne_nil _ _) rfl ?_
 refine aD (aC (aF (aA (tU rfl ?_))))
 refine eI [(1000, 1000)] [] [(1000, Cont.cells 95 (cN (aO d.s)))] (sK d.s ⟨by omega, by omega⟩ 1 4 (by omega) (by omega)) rfl rfl (by repeat (first | exact fB | refine dF ?_ ?_ | exact fV List.mem_cons_self | exact cO rfl rfl)) (dm (a := 1000) (b := 1000) (by exact List.mem_cons_self) rfl (bB (by exact List.mem_cons_self) rfl rfl rfl) pre_nil) (cj (a := 1000) (b := 1000) (by exact List.mem_cons_self) rfl (bB (by exact List.mem_cons_self) rfl rfl rfl) post_nil) (cO rfl rfl) ?_
 refine FA (E := dN) rfl rfl rfl rfl rfl rfl rfl (by decide) rfl (by omega) (by (dsimp only; omega)) (by omega) ?_
 refine eX rfl rfl (by exact List.cons_ne_nil _ _) rfl (by repeat (first | exact (aT.nil : aT _ _ [] _) | (show aT _ _ ((_, _) :: _) _; apply aT.one; (· exact (rfl : _ = Ty.vs _ _)); (· exact rfl)))) (by exact (rfl : _ = some [_, _, _, _])) ?_
 refine dA rfl (by exact List.cons_ne_nil _ _) rfl ?_
 refine eH rfl rfl (by decide) rfl rfl rfl rfl rfl rfl ?_
 refine aD (aC (aF (aA (mN rfl (aD (aC (aF (aF (aA (tU rfl ?_))))))))))
 refine eI [(1000, 1000)] [] [(1000, Cont.cells 95 (cN (aO (aO d.s))))] (sK (aO d.s) ⟨by omega, by omega⟩ 2 5 (by omega) (by omega)) rfl rfl (by repeat (first | exact fB | refine dF ?_ ?_ | exact fV List.mem_cons_self | exact cO rfl rfl)) (dm (a := 1000) (b := 1000) (by exact List.mem_cons_self) rfl (bB (by exact List.mem_cons_self) rfl rfl rfl) pre_nil) (cj (a := 1000) (b := 1000) (by exact List.mem_cons_self) rfl (bB (by exact List.mem_cons_self) rfl rfl rfl) post_nil) (cO rfl rfl) ?_
 refine bF rfl (aD (aC (af ?_)))
 refine cK (fun (k : {k : Nat // k ≤ d.m}) => live [(0, Ty.ptr 1000 0), (1, Ty.int .i64 (d.t : Nat)), (4, Ty.ptr 5 0), (5, Ty.ptr 6 0), (6, Ty.row dN 3 76 (d.bn k.1).left), (22, Ty.int .i64 (d.m : Nat)), (23, Ty.int .i64 (k.1 : Nat))] [(1000, Cont.cells 95 (cN (d.bn k.1).sk)), (5, Cont.cells 28 [Ty.ex (.slice none 0 0), Ty.ex (.slice none 0 0), Ty.ex (.slice none 0 0), Ty.ex (.slice none 0 0)]), (6, Cont.cells 28 [Ty.vs 20 d.n, Ty.row jX 44 71 (d.bn k.1).bins, Ty.row gM 34 171 [], Ty.row jh 92 206 []]), (20, Cont.vec dN 3 (d.bn k.1).bears)]) (fun k => d.m - k.1) (⟨0, by omega⟩) ?_ fun k => ?_
 ·(refine c8.mk' ?_ ?_ <;> (repeat' (first | exact aI | exact aH | exact dH | refine aB ?_ (Ty.aR _) | refine aB ?_ (Ty.aG _) | refine aJ rfl (Cont.aG _) ?_ | refine aJ rfl (Cont.dI ?_) ?_ | refine bX ?_ (Ty.aG _) | refine bX ?_ Ty.lX | refine bX ?_ ?_ | refine aJ rfl ?_ ?_ | refine aB ?_ ?_)))
  all_goals first | exact Ty.bJ d.ET.2.2.symm | exact Ty.bJ (congrArg (fun p => p.sk.mixed) (so d).symm) | exact Ty.bJ (congrArg (fun p => p.sk.taken) (so d).symm) | exact Ty.gy (congrArg (fun p => p.sk.grain) (so d).symm) | exact jy (congrArg Mk.left (so d)).symm | exact jy (congrArg Mk.bins (so d)).symm | exact Cont.dB (congrArg Mk.bears (so d)).symm
 have hk := k.2
 have hbk := d.HO k.1
 have hbt := hbk.taken
 have hbk1 := hbk.bins
 have hbk2 : (d.bn k.1).left.length = k.1 := by rw [hbk.left, List.length_map, hbk.bins]
 have hmb := Gl d.Bx.1 (d.bn k.1)
 refine aF (aA (ak rfl rfl rfl (aD (aC (aF ?_)))))
 refine aa rfl (fun hc1 => ?_) (fun hc1 => ?_)
 ·refine bA (aC (aF (af (aF ?_))))
  have hok : (d.bn k.1).sk.Ok 1 := ⟨by omega, by omega⟩
  refine cg mixed rfl (tU rfl ?_)
  refine eI [(1000, 1000)] [] [(1000, Cont.cells 95 (cN (aO (d.bn k.1).sk)))] (iy (d.bn k.1).sk hok _) rfl rfl (by repeat (first | exact fB | refine dF ?_ ?_ | exact fV List.mem_cons_self | exact cO rfl rfl)) (dm (a := 1000) (b := 1000) (by exact List.mem_cons_self) rfl (bB (by exact List.mem_cons_self) rfl rfl rfl) pre_nil) (cj (a := 1000) (b := 1000) (by exact List.mem_cons_self) rfl (bB (by exact List.mem_cons_self) rfl rfl rfl) post_nil) (cO rfl rfl) ?_
  refine aS rfl rfl rfl rfl rfl (by decide) ?_
  refine aj rfl rfl (by decide) rfl rfl rfl ?_
  refine nM rfl rfl rfl ?_
  refine FA (E := dN) rfl rfl rfl rfl rfl rfl rfl (by decide) rfl (by omega) (by (dsimp only; omega)) (by omega) ?_
  refine eX rfl rfl (by exact List.cons_ne_nil _ _) rfl (by repeat (first | exact (aT.nil : aT _ _ [] _) | (show aT _ _ ((_, _) :: _) _; apply aT.one; (· first | exact (rfl : _ = Ty.int _ _) | exact (rfl : _ = Ty.vs _ _)); (· exact rfl)))) (by exact (rfl : _ = some [_, _])) ?_
  refine dA rfl (by exact List.cons_ne_nil _ _) rfl ?_
  refine eH rfl rfl (by decide) rfl rfl rfl rfl rfl rfl ?_
  refine aD ?_
  refine ⟨by kernel_rfl, ?_⟩
  refine aC (aF (aF (aA (bF rfl (aD (aC (af ?_)))))))
  refine cK (fun (j : {j : Nat // j ≤ 4}) => live [(0, Ty.ptr 1000 0), (1, Ty.int .i64 (d.t : Nat)), (4, Ty.ptr 5 0), (5, Ty.ptr 6 0), (6, Ty.row dN 3 76 (d.bn k.1).left), (7, Ty.ptr 8 0), (22, Ty.int .i64 (d.m : Nat)), (23, Ty.int .i64 (k.1 : Nat)), (32, Ty.int .i64 (j.1 : Nat))] [(1000, Cont.cells 95 (cN (fN d.n (aO (d.bn k.1).sk) j.1).2)), (5, Cont.cells 28 [Ty.ex (.slice none 0 0), Ty.ex (.slice none 0 0), Ty.ex (.slice none 0 0), Ty.ex (.slice none 0 0)]), (6, Cont.cells 28 [Ty.vs 20 d.n, Ty.row jX 44 71 (d.bn k.1).bins, Ty.row gM 34 171 [], Ty.row jh 92 206 []]), (20, Cont.vec dN 3 (d.bn k.1).bears), (8, Cont.cells 44 [Ty.int .i64 (mkBin d.n (d.bn k.1)).has, Ty.vs 31 d.n]), (31, Cont.vec dN 3 (fN d.n (aO (d.bn k.1).sk) j.1).1)]) (fun j => 4 - j.1) (⟨0, by omega⟩) ?_ fun j => ?_
  ·(refine c8.mk' ?_ ?_ <;> (repeat' (first | exact aI | exact aH | exact dH | refine aB ?_ (Ty.aR _) | refine aB ?_ (Ty.aG _) | refine aJ rfl (Cont.aG _) ?_ | refine aJ rfl (Cont.dI ?_) ?_ | refine bX ?_ (Ty.aG _) | refine bX ?_ ?_ | refine aJ rfl ?_ ?_)))
   all_goals first | exact Ty.bJ (congrArg (fun p => p.2.mixed) (zQ d.n (aO (d.bn k.1).sk)).symm) | exact Ty.bJ (congrArg (fun p => p.2.taken) (zQ d.n (aO (d.bn k.1).sk)).symm) | exact Ty.gy (congrArg (fun p => p.2.grain) (zQ d.n (aO (d.bn k.1).sk)).symm) | exact Ty.bJ (LP _ _).symm | exact Cont.dB (congrArg Prod.fst (zQ d.n (aO (d.bn k.1).sk))).symm
  have hj := j.2
  have hsh := wN d.Bx.1 (aO (d.bn k.1).sk) j.1
  have hst := bu (d.bn k.1).sk
  refine aF (aA (ak rfl rfl rfl (aD (aC (aF ?_)))))
  refine aa rfl (fun hc2 => ?_) (fun hc2 => ?_)
  ·refine bA (aC (aF (af ?_)))
   have hok : (fN d.n (aO (d.bn k.1).sk) j.1).2.Ok 1 := ⟨by omega, by omega⟩
   have hbi := BF (s := (fN d.n (aO (d.bn k.1).sk) j.1).2) d.Bx.1
   refine cg mixed rfl ?_
   refine aS rfl rfl rfl rfl rfl (by decide) ?_
   refine aj rfl rfl (by decide) rfl rfl rfl ?_
   refine tU rfl ?_
   refine aS rfl rfl rfl rfl rfl (by decide) ?_
   refine aj rfl rfl (by decide) rfl rfl rfl ?_
   refine nM rfl rfl rfl ?_
   refine eI [(1000, 1000)] [] [(1000, Cont.cells 95 (cN (aO (fN d.n (aO (d.bn k.1).sk) j.1).2)))] (iy (fN d.n (aO (d.bn k.1).sk) j.1).2 hok _) rfl rfl (by repeat (first | exact fB | refine dF ?_ ?_ | exact fV List.mem_cons_self | exact cO rfl rfl)) (dm (a := 1000) (b := 1000) (by exact List.mem_cons_self) rfl (bB (by exact List.mem_cons_self) rfl rfl rfl) pre_nil) (cj (a := 1000) (b := 1000) (by exact List.mem_cons_self) rfl (bB (by exact List.mem_cons_self) rfl rfl rfl) post_nil) (cO rfl rfl) ?_
   refine iz rfl rfl rfl rfl rfl (by omega) (by omega) ?_
   refine iA rfl rfl rfl (by decide) rfl rfl (by omega) rfl ?_
   refine ak rfl rfl rfl ?_
   refine iz rfl rfl rfl rfl rfl (by omega) (by omega) ?_
   refine kL rfl rfl rfl (by decide) rfl rfl (by exact (rfl : _ = Ty.int _ _)) rfl (by omega) (by decide) rfl rfl ?_
   refine aD ?_
   refine ⟨by kernel_rfl, ?_⟩
   refine bH (aC (aA ?_))
   refine bz rfl rfl (by omega) (by omega) ?_
   refine bF rfl (aD ?_)
   refine bO (⟨j.1 + 1, by omega⟩) ?_ (by show 4 - (j.1 + 1) < 4 - j.1; omega)
   (refine c8.mk' ?_ ?_ <;> (repeat' (first | exact aI | exact aH | exact dH | refine aB ?_ (Ty.aR _) | refine aB ?_ (Ty.aG _) | refine aJ rfl (Cont.aG _) ?_ | refine aJ rfl (Cont.dI ?_) ?_ | refine bX ?_ ?_ | refine aJ rfl ?_ ?_)))
   all_goals skip
   all_goals first | exact Ty.bJ (congrArg (fun p => p.2.mixed) (zS d.n (aO (d.bn k.1).sk) j.1).symm) | exact Ty.bJ (congrArg (fun p => p.2.taken) (zS d.n (aO (d.bn k.1).sk) j.1).symm) | exact Ty.gy (congrArg (fun p => p.2.grain) (zS d.n (aO (d.bn k.1).sk) j.1).symm) | exact Cont.dB (Tf d.Bx.1 (aO (d.bn k.1).sk) j.2)
  refine cE (aL (aL (ah rfl (aC (aF (aF ?_))))))
  have hx : ¬ (j.1 : Int) < 4 := hc2
  obtain ⟨j, hx2⟩ := j
  obtain rfl : j = 4 := by simp only at hx; omega
  refine aA ?_
  refine aS rfl rfl rfl rfl rfl (by decide) ?_
  refine aj rfl rfl (by decide) rfl rfl rfl ?_
  refine nM rfl rfl rfl (bF rfl (aD (aC (af ?_))))
  refine cK (fun (i : {i : Nat // i ≤ d.n}) => live [(0, Ty.ptr 1000 0), (1, Ty.int .i64 (d.t : Nat)), (4, Ty.ptr 5 0), (5, Ty.ptr 6 0), (6, Ty.row dN 3 76 (d.bn k.1).left), (7, Ty.ptr 8 0), (22, Ty.int .i64 (d.m : Nat)), (23, Ty.int .i64 (k.1 : Nat)), (47, Ty.vs 31 d.n), (48, Ty.int .i64 (d.n : Nat)), (49, Ty.int .i64 (i.1 : Nat))] [(1000, Cont.cells 95 (cN (fN d.n (aO (d.bn k.1).sk) 4).2)), (5, Cont.cells 28 [Ty.ex (.slice none 0 0), Ty.ex (.slice none 0 0), Ty.ex (.slice none 0 0), Ty.ex (.slice none 0 0)]), (6, Cont.cells 28 [Ty.vs 20 d.n, Ty.row jX 44 71 (d.bn k.1).bins, Ty.row gM 34 171 [], Ty.row jh 92 206 []]), (20, Cont.vec dN 3 (gH (mkBin d.n (d.bn k.1)).shares (mkBin d.n (d.bn k.1)).has (d.bn k.1).bears i.1)), (8, Cont.cells 44 [Ty.int .i64 (mkBin d.n (d.bn k.1)).has, Ty.vs 31 d.n]), (31, Cont.vec dN 3 (mkBin d.n (d.bn k.1)).shares)]) (fun i => d.n - i.1) (⟨0, by omega⟩) ?_ fun i => ?_
  ·(refine c8.mk' ?_ ?_ <;> (repeat' (first | exact aI | exact aH | refine aB ?_ (Ty.aR _) | refine aB ?_ (Ty.aG _) | refine aJ rfl (Cont.aG _) ?_ | refine aJ rfl ?_ ?_)))
   all_goals first | exact Cont.dB (Lu _ _ _).symm | exact Cont.dB (E8 _ _).symm
  have hi := i.2
  have hbe := su (mkBin d.n (d.bn k.1)).shares (mkBin d.n (d.bn k.1)).has (d.bn k.1).bears i.1
  have hbe1 := hbe.1
  have hbkb := hbk.bears
  have hmbl := hmb.len
  refine aF (aA (ak rfl rfl rfl (aD (aC (aF ?_)))))
  refine aa rfl (fun hc3 => ?_) (fun hc3 => ?_)
  ·refine bA (aC (aF (af (aF (aA (bF rfl ?_))))))
   refine eE rfl rfl rfl rfl rfl (by omega) ?_
   refine iA rfl rfl rfl (by decide) rfl rfl (by omega) rfl ?_
   refine b9 rfl (b9 rfl (aD (aC (cg mixed rfl ?_))))
   refine aS rfl rfl rfl rfl rfl (by decide) ?_
   refine aj rfl rfl (by decide) rfl rfl rfl ?_
   refine bF rfl ?_
   refine eE rfl rfl rfl rfl rfl (by omega) ?_
   refine iA rfl rfl rfl (by decide) rfl rfl (by omega) rfl ?_
   refine bF rfl ?_
   refine aS rfl rfl rfl rfl rfl (by decide) ?_
   refine aj rfl rfl (by decide) rfl rfl rfl ?_
   refine ak rfl rfl rfl (ak rfl rfl rfl ?_)
   refine eE rfl rfl rfl rfl rfl (by omega) ?_
   refine kL rfl rfl rfl (by decide) rfl rfl (by exact (rfl : _ = Ty.int _ _)) rfl (by omega) (by decide) rfl rfl ?_
   refine aD ?_
   refine ⟨by kernel_rfl, ?_⟩
   refine bH (aC (aA ?_))
   refine bz rfl rfl (by omega) (by omega) ?_
   refine bF rfl (aD ?_)
   refine bO (⟨i.1 + 1, by omega⟩) ?_ (by show d.n - (i.1 + 1) < d.n - i.1; omega)
   (refine c8.mk' ?_ ?_ <;> (repeat' (first | exact aI | exact aH | refine aB ?_ (Ty.aR _) | refine aB ?_ (Ty.aG _) | refine aJ rfl (Cont.aG _) ?_ | refine aJ rfl ?_ ?_)))
   all_goals skip
   all_goals exact Cont.dB (NR hbk (by omega) (by omega) hmb)
  refine cE (aL (aL (ah rfl (aC ?_))))
  have hx : ¬ (i.1 : Int) < (d.n : Nat) := hc3
  obtain ⟨i, hx2⟩ := i
  obtain rfl : i = d.n := by simp only at hx; omega
  refine ox (tg := 31) [] [(8, Cont.cells 44 [Ty.int .i64 (mkBin d.n (d.bn k.1)).has, Ty.sl dN (mkBin d.n (d.bn k.1)).shares])] (by decide) rfl trivial ⟨iG rfl rfl ⟨cv rfl, zW rfl hmb.len (by decide), trivial⟩, trivial⟩ ?_
  refine cg mixed rfl ?_
  refine aS rfl rfl rfl rfl rfl (by decide) ?_
  refine aj rfl rfl (by decide) rfl rfl rfl ?_
  refine gN rfl rfl (by decide) rfl rfl (by exact Nat.le_of_ble_eq_true rfl) ?_
  refine bT (E := jX) (xs := [mkBin d.n (d.bn k.1)]) rfl rfl rfl rfl rfl (by decide) (by decide) (by repeat (first | exact (aT.nil : aT _ _ [] _) | (show aT _ _ ((_, _) :: _) _; apply aT.agg; (· exact (rfl : _ = Ty.agg _))))) (by exact rfl) rfl ?_
  refine fD rfl rfl (by decide) rfl rfl rfl rfl rfl rfl (by decide) (by (simp <;> omega)) (by (simp <;> omega)) ?_
  refine BU rfl ?_
  refine aS rfl rfl rfl rfl rfl (by decide) ?_
  refine aj rfl rfl (by decide) rfl rfl rfl ?_
  refine bT (E := dN) (xs := [_]) rfl rfl rfl rfl rfl (by decide) (by decide) (by repeat (first | exact (aT.nil : aT _ _ [] _) | (show aT _ _ ((_, _) :: _) _; apply aT.one; (· exact (rfl : _ = Ty.int _ _)); (· exact rfl)))) (by exact rfl) rfl ?_
  refine fD rfl rfl (by decide) rfl rfl rfl rfl rfl rfl (by decide) (by (simp <;> omega)) (by (simp <;> omega)) ?_
  refine aS rfl rfl rfl rfl rfl (by decide) ?_
  refine dh rfl rfl (by decide) rfl rfl (by exact (rfl : _ = Ty.row _ _ _ _)) rfl (by exact Nat.le_of_ble_eq_true rfl) rfl rfl (by exact rfl) ?_
  refine D8 rfl (aD ?_)
  refine ⟨by kernel_rfl, ?_⟩
  refine bH (aC (aA ?_))
  refine bz rfl rfl (by omega) (by omega) ?_
  refine bF rfl (aD ?_)
  refine bO (⟨k.1 + 1, by omega⟩) ?_ (by show d.m - (k.1 + 1) < d.m - k.1; omega)
  (refine c8.mk' ?_ ?_ <;> (repeat' (first | exact aI | exact aH | exact dH | refine aB ?_ (Ty.aR _) | refine aB ?_ (Ty.aG _) | refine aJ rfl (Cont.aG _) ?_ | refine aJ rfl (Cont.dI ?_) ?_ | refine bX ?_ (Ty.aG _) | refine bX ?_ ?_ | refine aJ rfl ?_ ?_ | refine aB ?_ ?_)))
  all_goals skip
  all_goals first | exact Ty.bJ (congrArg (fun p => p.sk.mixed) (sP d k.1).symm) | exact Ty.bJ (congrArg (fun p => p.sk.taken) (sP d k.1).symm) | exact Ty.gy (congrArg (fun p => p.sk.grain) (sP d k.1).symm) | exact Ty.ej (congrArg Mk.bins (sP d k.1)).symm | exact Cont.dB (congrArg Mk.bears (sP d k.1)).symm | exact Ty.ej (congrArg Mk.left (sP d k.1)).symm
 refine cE (aL (aL (ah rfl (aC (aF (aF ?_))))))
 have hx : ¬ (k.1 : Int) < (d.m : Nat) := hc1
 obtain ⟨k, hx2⟩ := k
 obtain rfl : k = d.m := by simp only at hx; omega
 refine aA ?_
 refine aS rfl rfl rfl rfl rfl (by decide) ?_
 refine aj rfl rfl (by decide) rfl rfl rfl ?_
 refine nM rfl rfl rfl (bF rfl (aD (aC (af ?_))))
 refine cK (fun (i : {i : Nat // i ≤ d.n}) => live [(0, Ty.ptr 1000 0), (1, Ty.int .i64 (d.t : Nat)), (4, Ty.ptr 5 0), (5, Ty.ptr 6 0), (6, Ty.row dN 3 76 (d.bn d.m).left), (80, Ty.int .i64 (d.n : Nat)), (81, Ty.int .i64 (i.1 : Nat))] [(1000, Cont.cells 95 (cN (d.up i.1).2)), (5, Cont.cells 28 [Ty.ex (.slice none 0 0), Ty.ex (.slice none 0 0), Ty.ex (.slice none 0 0), Ty.ex (.slice none 0 0)]), (6, Cont.cells 28 [Ty.vs 20 d.n, Ty.row jX 44 71 (d.bn d.m).bins, Ty.row gM 34 171 [], Ty.row jh 92 206 []]), (20, Cont.vec dN 3 (d.up i.1).1)]) (fun i => d.n - i.1) (⟨0, by omega⟩) ?_ fun i => ?_
 ·(refine c8.mk' ?_ ?_ <;> (repeat' (first | exact aI | exact aH | exact dH | refine aB ?_ (Ty.aR _) | refine aB ?_ (Ty.aG _) | refine aJ rfl (Cont.aG _) ?_ | refine aJ rfl (Cont.dI ?_) ?_ | refine bX ?_ ?_ | refine aJ rfl ?_ ?_)))
  all_goals first | exact Ty.bJ (congrArg (fun p => p.2.mixed) (vg d).symm) | exact Ty.bJ (congrArg (fun p => p.2.taken) (vg d).symm) | exact Ty.gy (congrArg (fun p => p.2.grain) (vg d).symm) | exact Cont.dB (congrArg Prod.fst (vg d)).symm
 have hi := i.2
 have hup := d.OH i.1
 have hupt := hup.2.2
 have hun1 := bu (d.up i.1).2
 refine aF (aA (ak rfl rfl rfl (aD (aC (aF ?_)))))
 refine aa rfl (fun hc4 => ?_) (fun hc4 => ?_)
 ·refine bA (aC (aF (af (aF (aA (bF rfl (b9 rfl (aD (aC (aF (cg mixed rfl ?_)))))))))))
  refine aS rfl rfl rfl rfl rfl (by decide) ?_
  refine aj rfl rfl (by decide) rfl rfl rfl ?_
  refine bF rfl ?_
  refine eE rfl rfl rfl rfl rfl (by omega) ?_
  refine iA rfl rfl rfl (by decide) rfl rfl (by omega) rfl ?_
  refine tU rfl ?_
  refine eI [(1000, 1000)] [] [(1000, Cont.cells 95 (cN (aO (d.up i.1).2)))] (iy (d.up i.1).2 ⟨by omega, by omega⟩ _) rfl rfl (by repeat (first | exact fB | refine dF ?_ ?_ | exact fV List.mem_cons_self | exact cO rfl rfl)) (dm (a := 1000) (b := 1000) (by exact List.mem_cons_self) rfl (bB (by exact List.mem_cons_self) rfl rfl rfl) pre_nil) (cj (a := 1000) (b := 1000) (by exact List.mem_cons_self) rfl (bB (by exact List.mem_cons_self) rfl rfl rfl) post_nil) (cO rfl rfl) ?_
  refine ak rfl rfl rfl ?_
  refine eE rfl rfl rfl rfl rfl (by omega) ?_
  refine kL rfl rfl rfl (by decide) rfl rfl (by exact (rfl : _ = Ty.int _ _)) rfl (by omega) (by decide) rfl rfl ?_
  refine aD ?_
  refine ⟨by kernel_rfl, ?_⟩
  refine aC (aF (aA (tU rfl ?_)))
  refine eI [(1000, 1000)] [] [(1000, Cont.cells 95 (cN (aO (aO (d.up i.1).2))))] (Q5 (aO (d.up i.1).2) ⟨by omega, by omega⟩ _) rfl rfl (by repeat (first | exact fB | refine dF ?_ ?_ | exact fV List.mem_cons_self | exact cO rfl rfl)) (dm (a := 1000) (b := 1000) (by exact List.mem_cons_self) rfl (bB (by exact List.mem_cons_self) rfl rfl rfl) pre_nil) (cj (a := 1000) (b := 1000) (by exact List.mem_cons_self) rfl (bB (by exact List.mem_cons_self) rfl rfl rfl) post_nil) (cO rfl rfl) ?_
  refine aD (aC ?_)
  refine c9 rfl (fun hc5 => ?_) (fun hc5 => ?_)
  ·refine cg mixed rfl ?_
   refine aS rfl rfl rfl rfl rfl (by decide) ?_
   refine aj rfl rfl (by decide) rfl rfl rfl ?_
   refine bF rfl ?_
   refine aS rfl rfl rfl rfl rfl (by decide) ?_
   refine aj rfl rfl (by decide) rfl rfl rfl ?_
   refine bF rfl ?_
   refine eE rfl rfl rfl rfl rfl (by omega) ?_
   refine iA rfl rfl rfl (by decide) rfl rfl (by (simp <;> omega)) rfl ?_
   refine ak rfl rfl rfl (HD rfl rfl ?_)
   refine eE rfl rfl rfl rfl rfl (by omega) ?_
   refine kL rfl rfl rfl (by decide) rfl rfl (by exact (rfl : _ = Ty.int _ _)) rfl (by (simp <;> omega)) (by decide) rfl rfl ?_
   refine aD ?_
   refine ⟨by kernel_rfl, ?_⟩
   refine bH (aC (aA ?_))
   refine bz rfl rfl (by omega) (by omega) ?_
   refine bF rfl (aD ?_)
   refine bO (⟨i.1 + 1, by omega⟩) ?_ (by show d.n - (i.1 + 1) < d.n - i.1; omega)
   (refine c8.mk' ?_ ?_ <;> (repeat' (first | exact aI | exact aH | exact dH | refine aB ?_ (Ty.aR _) | refine aB ?_ (Ty.aG _) | refine aJ rfl (Cont.aG _) ?_ | refine aJ rfl (Cont.dI ?_) ?_ | refine bX ?_ ?_ | refine aJ rfl ?_ ?_)))
   all_goals skip
   all_goals first | exact Ty.bJ (congrArg fR.mixed (C9 d i.1)).symm | exact Ty.bJ (congrArg fR.taken (C9 d i.1)).symm | exact Ty.gy (congrArg fR.grain (C9 d i.1)).symm | exact Cont.dB ((RE (by omega)).trans (TJ d i.1 hc5).symm)
  refine bA (bH (aC (aA ?_)))
  refine bz rfl rfl (by omega) (by omega) ?_
  refine bF rfl (aD ?_)
  refine bO (⟨i.1 + 1, by omega⟩) ?_ (by show d.n - (i.1 + 1) < d.n - i.1; omega)
  (refine c8.mk' ?_ ?_ <;> (repeat' (first | exact aI | exact aH | exact dH | refine aB ?_ (Ty.aR _) | refine aB ?_ (Ty.aG _) | refine aJ rfl (Cont.aG _) ?_ | refine aJ rfl (Cont.dI ?_) ?_ | refine bX ?_ ?_ | refine aJ rfl ?_ ?_)))
  all_goals skip
  all_goals first | exact Ty.bJ (congrArg fR.mixed (C9 d i.1)).symm | exact Ty.bJ (congrArg fR.taken (C9 d i.1)).symm | exact Ty.gy (congrArg fR.grain (C9 d i.1)).symm | exact Cont.dB ((Pf (by omega)).trans (UG d i.1 hc5).symm)
 refine cE (aL (aL (ah rfl (aC (aF (aF ?_))))))
 have hx : ¬ (i.1 : Int) < (d.n : Nat) := hc4
 obtain ⟨i, hx2⟩ := i
 obtain rfl : i = d.n := by simp only at hx; omega
 refine UM (s := 6) rfl rfl ?_
 refine aA (tU rfl (bF rfl ?_))
 refine bz rfl rfl (by omega) (by omega) ?_
 refine eI [(1000, 1000)] [] [(1000, Cont.cells 95 (cN (aO (d.up d.n).2)))] (iy (d.up d.n).2 ⟨by omega, by omega⟩ _) rfl rfl (by repeat (first | exact fB | refine dF ?_ ?_ | exact fV List.mem_cons_self | exact cO rfl rfl)) (dm (a := 1000) (b := 1000) (by exact List.mem_cons_self) rfl (bB (by exact List.mem_cons_self) rfl rfl rfl) pre_nil) (cj (a := 1000) (b := 1000) (by exact List.mem_cons_self) rfl (bB (by exact List.mem_cons_self) rfl rfl rfl) post_nil) (cO rfl rfl) ?_
 refine bF rfl (aD (aC (af ?_)))
 refine cK (fun (k : {k : Nat // k ≤ d.T}) => live [(0, Ty.ptr 1000 0), (1, Ty.int .i64 (d.t : Nat)), (4, Ty.ptr 5 0), (5, Ty.ptr 6 0), (6, Ty.vs 76 d.m), (110, Ty.int .i64 (d.T : Nat)), (111, Ty.int .i64 (k.1 : Nat))] [(1000, Cont.cells 95 (cN (d.tk k.1).sk)), (5, Cont.cells 28 [Ty.ex (.slice none 0 0), Ty.ex (.slice none 0 0), Ty.ex (.slice none 0 0), Ty.ex (.slice none 0 0)]), (6, Cont.cells 28 [Ty.vs 20 d.n, Ty.row jX 44 71 (d.bn d.m).bins, Ty.row gM 34 171 (d.tk k.1).trn, Ty.row jh 92 206 []]), (20, Cont.vec dN 3 (d.up d.n).1), (76, Cont.vec dN 3 (d.tk k.1).left)]) (fun k => d.T - k.1) (⟨0, by omega⟩) ?_ fun k => ?_
 ·(refine c8.mk' ?_ ?_ <;> (repeat' (first | exact aI | exact aH | exact dH | refine aB ?_ (Ty.aR _) | refine aB ?_ (Ty.aG _) | refine aJ rfl (Cont.aG _) ?_ | refine aJ rfl (Cont.dI ?_) ?_ | refine bX ?_ (Ty.aG _) | refine bX ?_ ?_ | refine aJ rfl ?_ ?_ | refine aB ?_ ?_)))
  all_goals first | exact Ty.sub_eq (congrArg (Ty.vs 76) d.pX.1) | exact Ty.bJ d.RC.2.symm | exact Ty.bJ (congrArg (fun p => p.sk.mixed) (wR d).symm) | exact Ty.bJ (congrArg (fun p => p.sk.taken) (wR d).symm) | exact Ty.gy (congrArg (fun p => p.sk.grain) (wR d).symm) | exact Ty.ej (congrArg Tk.trn (wR d)).symm | exact Cont.dB (congrArg Tk.left (wR d)).symm
 have hk := k.2
 have htk := d.O1 k.1
 have htt := htk.taken
 have hsi := JG d.ET.1 (d.tk k.1)
 have htl := htk.left
 have htl2 := htk.trn
 have ham := nN (s := (d.tk k.1).sk) (show (-1 : Int) ≤ (((d.bn d.m).bins.length : Nat) : Int) - 1 by omega)
 have hti := F3 d.ET.1 htk.pos
 have hn1 := bu (d.tk k.1).sk
 have hn2 := bu (aO (d.tk k.1).sk)
 refine aF (aA (ak rfl rfl rfl (aD (aC (aF ?_)))))
 refine aa rfl (fun hc6 => ?_) (fun hc6 => ?_)
 ·refine bA (aC (aF (af (aF (cg mixed rfl (tU rfl ?_))))))
  refine aS rfl rfl rfl rfl rfl (by decide) ?_
  refine aj rfl rfl (by decide) rfl rfl rfl ?_
  refine lG rfl rfl rfl ?_
  refine jB rfl rfl (by omega) (by omega) ?_
  refine eI [(1000, 1000)] [] [(1000, Cont.cells 95 (cN (aO (d.tk k.1).sk)))] (sK (d.tk k.1).sk ⟨by omega, by omega⟩ (-1) ((((d.bn d.m).bins.length : Nat) : Int) - 1) (by omega) (by omega)) rfl rfl (by repeat (first | exact fB | refine dF ?_ ?_ | exact fV List.mem_cons_self | exact cO rfl rfl)) (dm (a := 1000) (b := 1000) (by exact List.mem_cons_self) rfl (bB (by exact List.mem_cons_self) rfl rfl rfl) pre_nil) (cj (a := 1000) (b := 1000) (by exact List.mem_cons_self) rfl (bB (by exact List.mem_cons_self) rfl rfl rfl) post_nil) (cO rfl rfl) ?_
  refine tU rfl ?_
  refine aS rfl rfl rfl rfl rfl (by decide) ?_
  refine aj rfl rfl (by decide) rfl rfl rfl ?_
  refine lG rfl rfl rfl ?_
  refine jB rfl rfl (by omega) (by omega) ?_
  refine eI [(1000, 1000)] [] [(1000, Cont.cells 95 (cN (aO (aO (d.tk k.1).sk))))] (sK (aO (d.tk k.1).sk) ⟨by omega, by omega⟩ (-1) ((((d.bn d.m).bins.length : Nat) : Int) - 1) (by omega) (by omega)) rfl rfl (by repeat (first | exact fB | refine dF ?_ ?_ | exact fV List.mem_cons_self | exact cO rfl rfl)) (dm (a := 1000) (b := 1000) (by exact List.mem_cons_self) rfl (bB (by exact List.mem_cons_self) rfl rfl rfl) pre_nil) (cj (a := 1000) (b := 1000) (by exact List.mem_cons_self) rfl (bB (by exact List.mem_cons_self) rfl rfl rfl) post_nil) (cO rfl rfl) ?_
  refine b9 rfl (b9 rfl (aD ?_))
  refine ⟨by kernel_rfl, ?_⟩
  refine aC ?_
  refine qU (J := live [(0, Ty.ptr 1000 0), (1, Ty.int .i64 (d.t : Nat)), (4, Ty.ptr 5 0), (5, Ty.ptr 6 0), (6, Ty.vs 76 d.m), (110, Ty.int .i64 (d.T : Nat)), (111, Ty.int .i64 (k.1 : Nat)), (11, Ty.int .i64 (eT d.m (d.tk k.1))), (12, Ty.int .i64 (dJ (aO (d.tk k.1).sk) (-1) ((((d.bn d.m).bins.length : Nat) : Int) - 1)))] [(1000, Cont.cells 95 (cN (aO (aO (d.tk k.1).sk)))), (5, Cont.cells 28 [Ty.ex (.slice none 0 0), Ty.ex (.slice none 0 0), Ty.ex (.slice none 0 0), Ty.ex (.slice none 0 0)]), (6, Cont.cells 28 [Ty.vs 20 d.n, Ty.row jX 44 71 (d.bn d.m).bins, Ty.row gM 34 171 (d.tk k.1).trn, Ty.row jh 92 206 []]), (20, Cont.vec dN 3 (d.up d.n).1), (76, Cont.vec dN 3 (d.tk k.1).left)]) ?_ ?_
  ·refine aF (aA (bF rfl (ak rfl rfl rfl (kV rfl ?_))))
   apply aN (s := 127) rfl rfl rfl
   ·intro hg; apply aQ; (refine FT rfl ?_); refine aD ?_; exact rfl
   ·exact rfl
   ·exact rfl
   apply aN (s := 127) rfl rfl rfl
   ·intro hg; apply aQ; (refine bF rfl ?_); refine aD ?_; exact rfl
   ·exact rfl
   ·exact rfl
   apply aN (s := 127) rfl rfl rfl
   ·intro hg; apply aM (s := 128) rfl (by (rw [hg]; rfl)); apply aM (s := 129) rfl (by (rw [hg]; rfl)); apply aQ; (refine iz rfl rfl rfl rfl rfl (by have := HA hg; omega) (by have := HA hg; omega) ?_); refine aD ?_; exact rfl
   ·exact rfl
   ·exact rfl
   apply aN (s := 127) rfl rfl rfl
   ·intro hg; apply aM (s := 130) rfl (by (rw [hg]; rfl)); apply aQ; (refine iA rfl rfl rfl (by decide) rfl rfl (by omega) rfl ?_); refine aD ?_; exact rfl
   ·exact rfl
   ·exact rfl
   apply aN (s := 127) rfl rfl rfl
   ·intro hg; apply aM (s := 131) rfl (by (rw [hg]; rfl)); apply aQ; (refine ak rfl rfl rfl ?_); refine aD ?_; exact rfl
   ·exact rfl
   ·exact rfl
   refine gL rfl rfl (aD (aC ?_))
   refine c9 rfl (fun hc7 => ?_) (fun hc7 => ?_)
   ·refine aA (b9 rfl (aD (iC ?_)))
    (refine c8.mk' ?_ ?_ <;> (repeat' (first | exact aI | exact aH | refine aB ?_ (Ty.aR _) | refine aB ?_ (Ty.aG _) | refine aJ rfl (Cont.aG _) ?_ | refine aB ?_ ?_)))
    all_goals exact Ty.bJ (QT hbm.bins _ hc7)
   refine bA (iC ?_)
   (refine c8.mk' ?_ ?_ <;> (repeat' (first | exact aI | exact aH | refine aB ?_ (Ty.aR _) | refine aB ?_ (Ty.aG _) | refine aJ rfl (Cont.aG _) ?_ | refine aB ?_ ?_)))
   all_goals exact Ty.bJ (Sr hbm.bins _ hc7)
  refine qU (J := live [(0, Ty.ptr 1000 0), (1, Ty.int .i64 (d.t : Nat)), (4, Ty.ptr 5 0), (5, Ty.ptr 6 0), (6, Ty.vs 76 d.m), (110, Ty.int .i64 (d.T : Nat)), (111, Ty.int .i64 (k.1 : Nat)), (11, Ty.int .i64 (eT d.m (d.tk k.1))), (12, Ty.int .i64 (r5 d.m (d.tk k.1)))] [(1000, Cont.cells 95 (cN (aO (aO (d.tk k.1).sk)))), (5, Cont.cells 28 [Ty.ex (.slice none 0 0), Ty.ex (.slice none 0 0), Ty.ex (.slice none 0 0), Ty.ex (.slice none 0 0)]), (6, Cont.cells 28 [Ty.vs 20 d.n, Ty.row jX 44 71 (d.bn d.m).bins, Ty.row gM 34 171 (d.tk k.1).trn, Ty.row jh 92 206 []]), (20, Cont.vec dN 3 (d.up d.n).1), (76, Cont.vec dN 3 (d.tk k.1).left)]) ?_ ?_
  ·refine aF (aA (bF rfl (bF rfl (ak rfl rfl rfl (aD (aC ?_))))))
   refine aa rfl (fun hc8 => ?_) (fun hc8 => ?_)
   ·refine aA (bF rfl ?_)
    refine bz rfl rfl (by omega) (by omega) ?_
    refine aS rfl rfl rfl rfl rfl (by decide) ?_
    refine aj rfl rfl (by decide) rfl rfl rfl ?_
    refine lG rfl rfl rfl ?_
    refine aq (UL _ _ (by omega) (by omega)) rfl rfl rfl rfl rfl ?_
    refine b9 rfl (aD (iC ?_))
    (refine c8.mk' ?_ ?_ <;> (repeat' (first | exact aI | exact aH | refine aB ?_ (Ty.aR _) | refine aB ?_ (Ty.aG _) | refine aJ rfl (Cont.aG _) ?_ | refine aB ?_ ?_)))
    all_goals exact Ty.bJ (Qb hbm.bins _ hc8)
   refine bA (iC ?_)
   (refine c8.mk' ?_ ?_ <;> (repeat' (first | exact aI | exact aH | refine aB ?_ (Ty.aR _) | refine aB ?_ (Ty.aG _) | refine aJ rfl (Cont.aG _) ?_ | refine aB ?_ ?_)))
   all_goals exact Ty.bJ (TT hbm.bins _ hc8)
  refine aF (aA (bF rfl (bF rfl (tU rfl ?_))))
  refine eI [(1000, 1000)] [] [(1000, Cont.cells 95 (cN (aO (aO (aO (d.tk k.1).sk)))))] (sK (aO (aO (d.tk k.1).sk)) ⟨by omega, by omega⟩ 1 20 (by omega) (by omega)) rfl rfl (by repeat (first | exact fB | refine dF ?_ ?_ | exact fV List.mem_cons_self | exact cO rfl rfl)) (dm (a := 1000) (b := 1000) (by exact List.mem_cons_self) rfl (bB (by exact List.mem_cons_self) rfl rfl rfl) pre_nil) (cj (a := 1000) (b := 1000) (by exact List.mem_cons_self) rfl (bB (by exact List.mem_cons_self) rfl rfl rfl) post_nil) (cO rfl rfl) ?_
  refine eX rfl rfl (by exact List.cons_ne_nil _ _) rfl (by repeat (first | exact (aT.nil : aT _ _ [] _) | (show aT _ _ ((_, _) :: _) _; apply aT.one; (· exact (rfl : _ = Ty.int _ _)); (· exact rfl)))) (by exact (rfl : _ = some [_, _, _])) ?_
  refine dA rfl (by exact List.cons_ne_nil _ _) rfl ?_
  refine eH rfl rfl (by decide) rfl rfl rfl rfl rfl rfl ?_
  refine aD (aC ?_)
  refine qU (J := live [(0, Ty.ptr 1000 0), (1, Ty.int .i64 (d.t : Nat)), (4, Ty.ptr 5 0), (5, Ty.ptr 6 0), (6, Ty.vs 76 d.m), (110, Ty.int .i64 (d.T : Nat)), (111, Ty.int .i64 (k.1 : Nat)), (13, Ty.ptr 14 0)] [(1000, Cont.cells 95 (cN (aO (aO (aO (d.tk k.1).sk))))), (5, Cont.cells 28 [Ty.ex (.slice none 0 0), Ty.ex (.slice none 0 0), Ty.ex (.slice none 0 0), Ty.ex (.slice none 0 0)]), (6, Cont.cells 28 [Ty.vs 20 d.n, Ty.row jX 44 71 (d.bn d.m).bins, Ty.row gM 34 171 (d.tk k.1).trn, Ty.row jh 92 206 []]), (20, Cont.vec dN 3 (d.up d.n).1), (76, Cont.vec dN 3 (leftOf (d.tk k.1).left (eT d.m (d.tk k.1)) (fJ d.m (d.tk k.1)))), (14, Cont.cells 34 [Ty.int .i64 (eT d.m (d.tk k.1)), Ty.int .i64 (r5 d.m (d.tk k.1)), Ty.int .i64 (fJ d.m (d.tk k.1))])]) ?_ ?_
  ·refine aF (aA (bF rfl (ak rfl rfl rfl (aD (aC ?_)))))
   refine ck rfl (fun hc9 => ?_) (fun hc9 => ?_)
   ·refine aF (cg mixed rfl ?_)
    refine aS rfl rfl rfl rfl rfl (by decide) ?_
    refine aj rfl rfl (by decide) rfl rfl rfl ?_
    refine FT rfl (bF rfl ?_)
    refine iz rfl rfl rfl rfl rfl (by omega) (by omega) ?_
    refine iA rfl rfl rfl (by decide) rfl rfl (by omega) rfl ?_
    refine Rm rfl rfl ?_
    refine aS rfl rfl rfl rfl rfl (by decide) ?_
    refine dh rfl rfl (by decide) rfl rfl (by exact (rfl : _ = Ty.int _ _)) rfl (by exact Nat.le_of_ble_eq_true rfl) rfl rfl (by exact rfl) ?_
    refine aD ?_
    refine ⟨by kernel_rfl, ?_⟩
    refine aC (cg mixed rfl (FT rfl (bF rfl ?_)))
    refine iz rfl rfl rfl rfl rfl (by omega) (by omega) ?_
    refine iA rfl rfl rfl (by decide) rfl rfl (by omega) rfl ?_
    refine aS rfl rfl rfl rfl rfl (by decide) ?_
    refine aj rfl rfl (by decide) rfl rfl rfl ?_
    refine ak rfl rfl rfl ?_
    refine iz rfl rfl rfl rfl rfl (by omega) (by omega) ?_
    refine kL rfl rfl rfl (by decide) rfl rfl (by exact (rfl : _ = Ty.int _ _)) rfl (by omega) (by decide) rfl rfl ?_
    refine aD ?_
    refine ⟨by kernel_rfl, ?_⟩
    refine iC ?_
    (refine c8.mk' ?_ ?_ <;> (repeat' (first | exact aI | exact aH | exact dH | refine aB ?_ (Ty.aR _) | refine aB ?_ (Ty.aG _) | refine aJ rfl (Cont.aG _) ?_ | refine aJ rfl (Cont.dI ?_) ?_ | refine bX ?_ (Ty.aG _) | refine bX ?_ ?_ | refine aJ rfl ?_ ?_)))
    all_goals first | exact Cont.dB (OS hc9 (JX (by omega))) | exact Ty.bJ (Dq hc9)
   refine bA (iC ?_)
   (refine c8.mk' ?_ ?_ <;> (repeat' (first | exact aI | exact aH | exact dH | refine aB ?_ (Ty.aR _) | refine aB ?_ (Ty.aG _) | refine aJ rfl (Cont.aG _) ?_ | refine aJ rfl (Cont.dI ?_) ?_ | refine bX ?_ (Ty.aG _) | refine bX ?_ ?_ | refine aJ rfl ?_ ?_)))
   all_goals first | exact Cont.dB (Qe hc9) | exact Ty.bJ (Px hc9)
  refine aA ?_
  refine aS rfl rfl rfl rfl rfl (by decide) ?_
  refine aj rfl rfl (by decide) rfl rfl rfl ?_
  refine gN rfl rfl (by decide) rfl rfl (by exact Nat.le_of_ble_eq_true rfl) ?_
  refine bT (E := gM) (xs := [Fy d.m (d.tk k.1)]) rfl rfl rfl rfl rfl (by decide) (by decide) (by repeat (first | exact (aT.nil : aT _ _ [] _) | (show aT _ _ ((_, _) :: _) _; apply aT.agg; (· exact (rfl : _ = Ty.agg _))))) (by exact rfl) rfl ?_
  refine fD rfl rfl (by decide) rfl rfl rfl rfl rfl rfl (by decide) (by (simp <;> omega)) (by (simp <;> omega)) ?_
  refine aS rfl rfl rfl rfl rfl (by decide) ?_
  refine dh rfl rfl (by decide) rfl rfl (by exact (rfl : _ = Ty.row _ _ _ _)) rfl (by exact Nat.le_of_ble_eq_true rfl) rfl rfl (by exact rfl) ?_
  refine aD (bH (aC (aA ?_)))
  refine bz rfl rfl (by omega) (by omega) ?_
  refine bF rfl (aD ?_)
  refine bO (⟨k.1 + 1, by omega⟩) ?_ (by show d.T - (k.1 + 1) < d.T - k.1; omega)
  (refine c8.mk' ?_ ?_ <;> (repeat' (first | exact aI | exact aH | exact dH | refine aB ?_ (Ty.aR _) | refine aB ?_ (Ty.aG _) | refine aJ rfl (Cont.aG _) ?_ | refine aJ rfl (Cont.dI ?_) ?_ | refine bX ?_ (Ty.aG _) | refine bX ?_ ?_ | refine aJ rfl ?_ ?_)))
  all_goals skip
  all_goals first | exact Ty.bJ (congrArg (fun p => p.sk.mixed) (wS d k.1).symm) | exact Ty.bJ (congrArg (fun p => p.sk.taken) (wS d k.1).symm) | exact Ty.gy (congrArg (fun p => p.sk.grain) (wS d k.1).symm) | exact Ty.ej (congrArg Tk.trn (wS d k.1)).symm | exact Cont.dB (congrArg Tk.left (wS d k.1)).symm
 refine cE (aL (aL (ah rfl (aC (aF ?_)))))
 have hx : ¬ (k.1 : Int) < (d.T : Nat) := hc6
 obtain ⟨k, hx2⟩ := k
 obtain rfl : k = d.T := by simp only at hx; omega
 refine aA (tU rfl ?_)
 refine aS rfl rfl rfl rfl rfl (by decide) ?_
 refine aj rfl rfl (by decide) rfl rfl rfl ?_
 refine lG rfl rfl rfl ?_
 refine eI [(1000, 1000)] [] [(1000, Cont.cells 95 (cN (d.order.2)))] (S7 (d.tk d.T).sk d.T (d.tk d.T).trn.length htTl (by omega) ⟨by omega, by omega⟩) rfl rfl (by repeat (first | exact fB | refine dF ?_ ?_ | exact fV List.mem_cons_self | exact cO rfl rfl)) (dm (a := 1000) (b := 1000) (by exact List.mem_cons_self) rfl (bB (by exact List.mem_cons_self) rfl rfl rfl) pre_nil) (cj (a := 1000) (b := 1000) (by exact List.mem_cons_self) rfl (bB (by exact List.mem_cons_self) rfl rfl rfl) post_nil) (cO rfl rfl) ?_
 refine Oa rfl (aD (aC (aF (aF (aA (tU rfl ?_))))))
 refine eI [(1000, 1000)] [] [(1000, Cont.cells 95 (cN (aO d.order.2)))] (iy d.order.2 ⟨by omega, by omega⟩ _) rfl rfl (by repeat (first | exact fB | refine dF ?_ ?_ | exact fV List.mem_cons_self | exact cO rfl rfl)) (dm (a := 1000) (b := 1000) (by exact List.mem_cons_self) rfl (bB (by exact List.mem_cons_self) rfl rfl rfl) pre_nil) (cj (a := 1000) (b := 1000) (by exact List.mem_cons_self) rfl (bB (by exact List.mem_cons_self) rfl rfl rfl) post_nil) (cO rfl rfl) ?_
 refine bF rfl (aD (aC (af ?_)))
 refine cK (fun (k : {k : Nat // k ≤ d.R}) => live [(0, Ty.ptr 1000 0), (1, Ty.int .i64 (d.t : Nat)), (4, Ty.ptr 5 0), (5, Ty.ptr 6 0), (14, Ty.sl dN d.order.1), (179, Ty.int .i64 (d.R : Nat)), (180, Ty.int .i64 (k.1 : Nat))] [(1000, Cont.cells 95 (cN (d.ru k.1).2)), (5, Cont.cells 28 [Ty.ex (.slice none 0 0), Ty.ex (.slice none 0 0), Ty.ex (.slice none 0 0), Ty.ex (.slice none 0 0)]), (6, Cont.cells 28 [Ty.vs 20 d.n, Ty.row jX 44 71 (d.bn d.m).bins, Ty.row gM 34 171 (d.tk d.T).trn, Ty.row jh 92 206 (d.ru k.1).1]), (20, Cont.vec dN 3 (d.up d.n).1)]) (fun k => d.R - k.1) (⟨0, by omega⟩) ?_ fun k => ?_
 ·(refine c8.mk' ?_ ?_ <;> (repeat' (first | exact aI | exact aH | exact dH | refine aB ?_ (Ty.aR _) | refine aB ?_ (Ty.aG _) | refine aJ rfl (Cont.aG _) ?_ | refine aJ rfl (Cont.dI ?_) ?_ | refine bX ?_ (Ty.aG _) | refine bX ?_ ?_ | refine aB ?_ ?_)))
  all_goals first | exact Ty.bJ d.Qc.2.symm | exact Ty.bJ (congrArg (fun p => p.2.mixed) (zN d).symm) | exact Ty.bJ (congrArg (fun p => p.2.taken) (zN d).symm) | exact Ty.gy (congrArg (fun p => p.2.grain) (zN d).symm) | exact Ty.ej (congrArg Prod.fst (zN d)).symm
 have hk := k.2
 have hru := d.S4 k.1
 have hrt := hru.2.2
 have hru1 := bu (d.ru k.1).2
 have hb1 := cR (d.ru k.1).2 (d.order.1.length : Nat)
 have hb2 := cR (aO (d.ru k.1).2) (d.order.1.length : Nat)
 refine aF (aA (ak rfl rfl rfl (aD (aC (aF ?_)))))
 refine aa rfl (fun hc10 => ?_) (fun hc10 => ?_)
 ·refine bA (aC (aF (af (aF (aA (tU rfl (gq rfl (cC rfl rfl rfl ?_))))))))
  refine eI [(1000, 1000)] [] [(1000, Cont.cells 95 (cN (aO (d.ru k.1).2)))] (iy (d.ru k.1).2 ⟨by omega, by omega⟩ _) rfl rfl (by repeat (first | exact fB | refine dF ?_ ?_ | exact fV List.mem_cons_self | exact cO rfl rfl)) (dm (a := 1000) (b := 1000) (by exact List.mem_cons_self) rfl (bB (by exact List.mem_cons_self) rfl rfl rfl) pre_nil) (cj (a := 1000) (b := 1000) (by exact List.mem_cons_self) rfl (bB (by exact List.mem_cons_self) rfl rfl rfl) post_nil) (cO rfl rfl) ?_
  refine tU rfl (gq rfl (cC rfl rfl rfl ?_))
  refine eI [(1000, 1000)] [] [(1000, Cont.cells 95 (cN (aO (aO (d.ru k.1).2))))] (iy (aO (d.ru k.1).2) ⟨by omega, by omega⟩ _) rfl rfl (by repeat (first | exact fB | refine dF ?_ ?_ | exact fV List.mem_cons_self | exact cO rfl rfl)) (dm (a := 1000) (b := 1000) (by exact List.mem_cons_self) rfl (bB (by exact List.mem_cons_self) rfl rfl rfl) pre_nil) (cj (a := 1000) (b := 1000) (by exact List.mem_cons_self) rfl (bB (by exact List.mem_cons_self) rfl rfl rfl) post_nil) (cO rfl rfl) ?_
  refine b9 rfl (b9 rfl (aD (aC (aF (aA (bF rfl (bF rfl (ak rfl rfl rfl (aD (aC ?_))))))))))
  refine aa rfl (fun hc11 => ?_) (fun hc11 => ?_)
  ·refine cg mixed rfl ?_
   refine aS rfl rfl rfl rfl rfl (by decide) ?_
   refine aj rfl rfl (by decide) rfl rfl rfl ?_
   refine gq rfl (bF rfl ?_)
   refine nX rfl rfl rfl rfl rfl rfl (by omega) (by omega) ?_
   refine aK rfl rfl rfl rfl (gq rfl (bF rfl ?_))
   refine nX rfl rfl rfl rfl rfl rfl (by omega) (by omega) ?_
   refine aK rfl rfl rfl rfl ?_
   refine eX rfl rfl (by exact List.cons_ne_nil _ _) rfl (by repeat (first | exact (aT.nil : aT _ _ [] _) | (show aT _ _ ((_, _) :: _) _; apply aT.one; (· exact (rfl : _ = Ty.int _ _)); (· exact rfl)))) (by exact (rfl : _ = some [_, _])) ?_
   refine bT (E := jh) (xs := [⟨nth d.order.1 (bQ (d.ru k.1).2 (d.order.1.length : Nat)).toNat, nth d.order.1 (bQ (aO (d.ru k.1).2) (d.order.1.length : Nat)).toNat⟩]) rfl rfl rfl rfl rfl (by decide) (by decide) (by repeat (first | exact (aT.nil : aT _ _ [] _) | (show aT _ _ ((_, _) :: _) _; apply aT.agg; (· exact (rfl : _ = Ty.agg _))))) (by exact rfl) rfl ?_
   refine fD rfl rfl (by decide) rfl rfl rfl rfl rfl rfl (by decide) (by (simp <;> omega)) (by (simp <;> omega)) ?_
   refine aS rfl rfl rfl rfl rfl (by decide) ?_
   refine dh rfl rfl (by decide) rfl rfl (by exact (rfl : _ = Ty.row _ _ _ _)) rfl (by exact Nat.le_of_ble_eq_true rfl) rfl rfl (by exact rfl) ?_
   refine aD ?_
   refine ⟨by kernel_rfl, ?_⟩
   refine bH (aC (aA ?_))
   refine bz rfl rfl (by omega) (by omega) ?_
   refine bF rfl (aD ?_)
   refine bO (⟨k.1 + 1, by omega⟩) ?_ (by show d.R - (k.1 + 1) < d.R - k.1; omega)
   (refine c8.mk' ?_ ?_ <;> (repeat' (first | exact aI | exact aH | exact dH | refine aB ?_ (Ty.aR _) | refine aB ?_ (Ty.aG _) | refine aJ rfl (Cont.aG _) ?_ | refine aJ rfl (Cont.dI ?_) ?_ | refine bX ?_ (Ty.aG _) | refine bX ?_ ?_)))
   all_goals skip
   all_goals first | exact Ty.bJ (congrArg fR.mixed (CP d k.1)).symm | exact Ty.bJ (congrArg fR.taken (CP d k.1)).symm | exact Ty.gy (congrArg fR.grain (CP d k.1)).symm | exact Ty.ej (Um hc11)
  refine bA (bH (aC (aA ?_)))
  refine bz rfl rfl (by omega) (by omega) ?_
  refine bF rfl (aD ?_)
  refine bO (⟨k.1 + 1, by omega⟩) ?_ (by show d.R - (k.1 + 1) < d.R - k.1; omega)
  (refine c8.mk' ?_ ?_ <;> (repeat' (first | exact aI | exact aH | exact dH | refine aB ?_ (Ty.aR _) | refine aB ?_ (Ty.aG _) | refine aJ rfl (Cont.aG _) ?_ | refine aJ rfl (Cont.dI ?_) ?_ | refine bX ?_ (Ty.aG _) | refine bX ?_ ?_)))
  all_goals skip
  all_goals first | exact Ty.bJ (congrArg fR.mixed (CP d k.1)).symm | exact Ty.bJ (congrArg fR.taken (CP d k.1)).symm | exact Ty.gy (congrArg fR.grain (CP d k.1)).symm | exact Ty.ej (Se hc11)
 refine cE (aL (aL (ah rfl (aC (aF ?_)))))
 have hx : ¬ (k.1 : Int) < (d.R : Nat) := hc10
 obtain ⟨k, hx2⟩ := k
 obtain rfl : k = d.R := by simp only at hx; omega
 refine ox (tg := 20) [] [(6, Cont.cells 28 [Ty.sl dN (d.up d.n).1, Ty.row jX 44 71 (d.bn d.m).bins, Ty.row gM 34 171 (d.tk d.T).trn, Ty.row jh 92 206 (d.ru d.R).1])] (by decide) rfl trivial ⟨iG rfl rfl ⟨zW rfl hun.1 (by decide), cv rfl, cv rfl, cv rfl, trivial⟩, trivial⟩ ?_
 refine ox (tg := 71) [] [(6, Cont.cells 28 [Ty.sl dN (d.up d.n).1, Ty.sl jX (d.bn d.m).bins, Ty.row gM 34 171 (d.tk d.T).trn, Ty.row jh 92 206 (d.ru d.R).1])] (by decide) rfl trivial ⟨iG rfl rfl ⟨cv rfl, nH, cv rfl, cv rfl, trivial⟩, trivial⟩ ?_
 refine ox (tg := 206) [] [(6, Cont.cells 28 [Ty.sl dN (d.up d.n).1, Ty.sl jX (d.bn d.m).bins, Ty.row gM 34 171 (d.tk d.T).trn, Ty.sl jh (d.ru d.R).1])] (by decide) rfl trivial ⟨iG rfl rfl ⟨cv rfl, cv rfl, cv rfl, nH, trivial⟩, trivial⟩ ?_
 refine MA (c0 := 6) 2 rfl rfl ?_
 refine jt (tg := 6) rfl (Cont.qc (l' := G5 171 d.DT) ⟨Ty.aG _, Ty.aG _, RS rfl, Ty.aG _, trivial⟩) ?_
 refine aA ?_
 refine gN rfl rfl (by decide) rfl rfl (by exact Nat.le_of_ble_eq_true rfl) ?_
 refine eH rfl rfl (by decide) rfl rfl rfl rfl rfl rfl ?_
 refine aD (aC (au ?_))
 refine Qi [1000, 171] rfl rfl rfl rfl (by decide) rfl rfl rfl (by decide) (by repeat (first | exact og | refine kF rfl (wo (by decide) rfl) ?_ | refine kF rfl (bB (by decide) rfl rfl rfl) ?_)) ?_
 all_goals skip
 all_goals exact vG (P0 (dF (dF (dF (dF fB (cO rfl rfl)) (DO (by decide))) (cO rfl rfl)) (cO rfl rfl)))
end Go.Proofs.YtmmcenjknimhbaaGreat
namespace Go.Proofs.YtmmcenjknimhbaaGreat
open Go Go.T
set_option maxHeartbeats 16000000
theorem Qm (g : List Int) : eB Tryz.prog 6 [1000] [(1000, Cont.cells 95 (cN (je g)))] [Ty.ptr 1000 0, Ty.int .i64 8] [(1000, Cont.cells 95 (cN (tM g).sk)), (171, Cont.vec gM 34 (tM g).DT.turnings)] (Ty.agg (G5 171 (tM g).DT)) := QG (tM g) (Nat.le_refl 8) (Hh g)
def Hv (f : bS) (k : Nat) : List oc := (f.bins.take k).map fun b => ⟨300, ⟨b.has, b.has⟩⟩
def Kc (f : bS) (k : Nat) : List Move := (f.turnings.take k).map fun t => ⟨0, t.src, t.dst, ⟨t.sacks, t.sacks⟩⟩
def KN (f : bS) (k : Nat) : List Int := (f.bins.take k).map qP.has
def K4 (f : bS) (k : Nat) : List Int := (f.turnings.take k).map mO.sacks
theorem T6 {f : bS} {k : Nat} (h : k < f.bins.length) : Hv f k ++ [⟨300, ⟨(nth f.bins k).has, (nth f.bins k).has⟩⟩] = Hv f (k + 1) := by unfold Hv; rw [bh h, List.map_append]; rfl
theorem UW {f : bS} {k : Nat} (h : k < f.bins.length) : KN f k ++ [(nth f.bins k).has] = KN f (k + 1) := by unfold KN; rw [bh h, List.map_append]; rfl
theorem UR {f : bS} {k : Nat} (h : k < f.turnings.length) : Kc f k ++ [⟨0, (nth f.turnings k).src, (nth f.turnings k).dst, ⟨(nth f.turnings k).sacks, (nth f.turnings k).sacks⟩⟩] = Kc f (k + 1) := by unfold Kc; rw [bh h, List.map_append]; rfl
theorem Ug {f : bS} {k : Nat} (h : k < f.turnings.length) : K4 f k ++ [(nth f.turnings k).sacks] = K4 f (k + 1) := by unfold K4; rw [bh h, List.map_append]; rfl
theorem Uj {f : bS} : [] = Hv f 0 := rfl
theorem T0 {f : bS} : [] = KN f 0 := rfl
theorem Uc {f : bS} : [] = Kc f 0 := rfl
theorem UZ {f : bS} : [] = K4 f 0 := rfl
theorem HH (f : bS) (k : Nat) : (Hv f k).length ≤ k ∧ (Kc f k).length ≤ k ∧ (KN f k).length ≤ k ∧ (K4 f k).length ≤ k := by
 unfold Hv Kc KN K4
 simp only [List.length_map, List.length_take]
 omega
theorem RJ (f : bS) : [Ty.int .i64 1, Ty.sl jo (Hv f f.bins.length), Ty.sl iX (Kc f f.turnings.length), Ty.sl jf []] = iE (jU f) := by
 unfold Hv Kc; rw [List.take_length, List.take_length]; rfl
theorem Q8 (f : bS) : [Ty.sl dN (KN f f.bins.length), Ty.sl dN (K4 f f.turnings.length)] = oL (lp f) := by
 unfold KN K4; rw [List.take_length, List.take_length]; rfl
theorem MJ (f : bS) (h : bk f = 0) (h4 : f.bins.length ≤ 4) : (jU f).Small ∧ (lp f).first.length ≤ 1000 ∧ (lp f).bM.length ≤ 1000 := by
 have h8 := EN h
 refine ⟨⟨?_, ?_, Nat.zero_le _⟩, ?_, ?_⟩
 ·show (f.bins.map _).length ≤ 1000; rw [List.length_map]; omega
 ·show (f.turnings.map _).length ≤ 1000; rw [List.length_map]; omega
 ·show (f.bins.map _).length ≤ 1000; rw [List.length_map]; omega
 show (f.turnings.map _).length ≤ 1000; rw [List.length_map]; omega
theorem Uo {x y : Int} : nth [x, y] 0 = x := rfl
theorem UJ {x y : Int} : nth [x, y] 1 = y := rfl
attribute [local irreducible] Hv Kc KN K4 jU lp hU we pO sI gl bk cM zA uj aO bQ
attribute [local irreducible] eG cZ jR j6 eP eO eK eM eS j8 eJ j4 b8 dc jz dZ j7 nth eZ cU aV cX bodyPost Exit.then Exit.inBlock Code.wp Code.wpIn dS mz mm m5 fT mq m7 fW mW eB fO lq bW bV bodyPostM cV
set_option maxRecDepth 100000 in
theorem Bk (g u : List Int) : cX Tryz.prog 3 [Ty.sl KJ g, Ty.sl KJ u] (Ty.bool true) := by
 refine aY Tryz.func3 rfl (by decide) Tryz.ntmps3 (by exact Nat.le_of_ble_eq_true rfl) fun w0 M0 => ?_
 obtain ⟨hp0, hb2, hb5⟩ := OA g
 have ht8 := EN hp0
 obtain ⟨f0, e0⟩ : ∃ f, (tM g).DT = f := ⟨_, rfl⟩
 rw [e0] at hp0 hb2 hb5 ht8
 refine aF (aA (dG rfl (aD (aC (aF (aA (gq rfl ?_)))))))
 refine eI [(26, 10)] [26] [(26, Cont.cells 95 (cN (je g)))] (Ki g) rfl rfl (by repeat (first | exact fB | refine dF ?_ ?_ | exact cO rfl rfl)) pre_nil (cj (a := 26) (b := 10) (by exact List.mem_cons_self) rfl (bB (by exact List.mem_cons_self) rfl rfl rfl) post_nil) (fV (by exact List.mem_cons_self)) ?_
 refine eI (res' := Ty.agg (G5 771 (tM g).DT)) [(26, 1000), (771, 171)] [771] [(26, Cont.cells 95 (cN (tM g).sk)), (771, Cont.vec gM 34 (tM g).DT.turnings)] (Qm g) rfl rfl (by repeat (first | exact fB | refine dF ?_ ?_ | exact fV List.mem_cons_self | exact cO rfl rfl)) (dm (a := 26) (b := 1000) (by decide) rfl (bB (by decide) rfl rfl rfl) pre_nil) (cj (a := 26) (b := 1000) (by decide) rfl (bB (by decide) rfl rfl rfl) (cj (a := 771) (b := 171) (by decide) rfl (wo (by decide) rfl) post_nil)) (P0 (dF (dF (dF (dF fB (cO rfl rfl)) (DO (by decide))) (cO rfl rfl)) (cO rfl rfl))) ?_
 refine dA rfl (by exact List.cons_ne_nil _ _) rfl ?_
 refine eH rfl rfl (by decide) rfl rfl rfl rfl rfl rfl ?_
 refine aD (aC ?_)
 refine qU (J := live [(1, Ty.sl KJ u), (5, Ty.ptr 6 0)] [(6, Cont.cells 28 (G5 771 (zA f0))), (771, Cont.vec gM 34 (zA f0).turnings)]) ?_ ?_
 ·refine aF ?_
  refine jt (tg := 6) rfl (Cont.sV (congrArg (G5 771) e0)) ?_
  refine jt (tg := 771) rfl (Cont.dB (congrArg bS.turnings e0)) ?_
  refine kJ (B := live [(1, Ty.sl KJ u), (5, Ty.ptr 6 0)] [(6, Cont.cells 28 (G5 771 f0)), (771, Cont.vec gM 34 f0.turnings)]) ?_ ?_
  ·refine c8.mk' ?_ ?_
   ·(repeat (first | refine aB ?_ (Ty.aR _) | refine aB ?_ (Ty.aG _))); exact aI
   refine aJ rfl (Cont.aG _) ?_; refine aJ rfl (Cont.aG _) ?_; exact aH
  refine aA ?_
  refine aS rfl rfl rfl rfl rfl (by decide) ?_
  refine aj rfl rfl (by decide) rfl rfl rfl ?_
  refine cC rfl rfl rfl (ak rfl rfl rfl (aD (aC ?_)))
  refine aa rfl (fun hc1 => ?_) (fun hc1 => ?_)
  ·refine aF (aA ?_)
   refine aS rfl rfl rfl rfl rfl (by decide) ?_
   refine aj rfl rfl (by decide) rfl rfl rfl ?_
   refine OZ rfl rfl rfl rfl rfl rfl (by (dsimp only; omega)) ?_
   refine aS rfl rfl rfl rfl rfl (by decide) ?_
   refine dh rfl rfl (by decide) rfl rfl (by exact (rfl : _ = Ty.sl _ _)) rfl (by exact Nat.le_of_ble_eq_true rfl) rfl rfl (by exact rfl) ?_
   refine aD (aC (aF (aA ?_)))
   refine aS rfl rfl rfl rfl rfl (by decide) ?_
   refine aj rfl rfl (by decide) rfl rfl rfl ?_
   refine eI (res' := Ty.vs 771 (f0.turnings.filter jg).length) [(771, 1000)] [] [(771, Cont.vec gM 34 (f0.turnings.filter jg))] (Sh f0.turnings (by omega)) rfl rfl (dF (dF fB (cO rfl rfl)) (DO (by exact List.mem_cons_self))) (dm (a := 771) (b := 1000) (by exact List.mem_cons_self) rfl (wo (by exact List.mem_cons_self) rfl) pre_nil) (cj (a := 771) (b := 1000) (by exact List.mem_cons_self) rfl (wo (by exact List.mem_cons_self) rfl) post_nil) (DO (by exact List.mem_cons_self)) ?_
   refine aS rfl rfl rfl rfl rfl (by decide) ?_
   refine dh rfl rfl (by decide) rfl rfl (by exact (rfl : _ = Ty.vs _ _)) rfl (by exact Nat.le_of_ble_eq_true rfl) rfl rfl (by exact rfl) ?_
   refine aD (aC (aA ?_))
   refine aS rfl rfl rfl rfl rfl (by decide) ?_
   refine dh rfl rfl (by decide) rfl rfl (by exact (rfl : _ = Ty.ex _)) rfl (by exact Nat.le_of_ble_eq_true rfl) rfl rfl (by exact rfl) ?_
   refine aD (iC ?_)
   (refine c8.mk' ?_ ?_ <;> (repeat' (first | exact aI | exact aH | exact dH | refine aB ?_ (Ty.aR _) | refine aB ?_ (Ty.aG _) | refine aJ rfl (Cont.dI ?_) ?_ | refine bX ?_ ?_ | refine aJ rfl ?_ ?_)))
   all_goals first | (refine Ty.sub_eq ?_; rw [FM hc1]; done) | (refine Cont.dB ?_; rw [FM hc1]; done) | (rw [FM hc1]; exact Ty.E3)
  refine bA (iC ?_)
  (refine c8.mk' ?_ ?_ <;> (repeat' (first | exact aI | exact aH | exact dH | refine aB ?_ (Ty.aR _) | refine aB ?_ (Ty.aG _) | refine aJ rfl (Cont.dI ?_) ?_ | refine bX ?_ ?_ | refine aJ rfl ?_ ?_)))
  all_goals first | (refine Ty.sub_eq ?_; rw [J3 hc1]; done) | (refine Cont.dB ?_; rw [J3 hc1]; done)
 refine aF ?_
 have hp := Sv hp0
 obtain ⟨h1, h4, _⟩ := Nv hb2
 obtain ⟨f, ef⟩ : ∃ f, zA f0 = f := ⟨_, rfl⟩
 rw [ef] at hp h1 h4
 have ht8 := EN hp
 refine jt (tg := 6) rfl (Cont.sV (congrArg (G5 771) ef)) ?_
 refine jt (tg := 771) rfl (Cont.dB (congrArg bS.turnings ef)) ?_
 refine ox (tg := 771) [] [(6, Cont.cells 28 (cx f))] (by decide) rfl trivial ⟨iG rfl rfl ⟨cv rfl, cv rfl, zW rfl rfl (by decide), cv rfl, trivial⟩, trivial⟩ ?_
 refine uC (tg := 6) [(5, Ty.pp (cx f))] (by decide) rfl ⟨vM (T := 28) (tg := 6) (off := 0) (l := cx f) rfl rfl rfl (by decide), trivial⟩ ?_
 have hk := u7 hp
 have hct := Jo hp h1 h4
 have hbr := (De hp).bears
 obtain ⟨hsm, hs1, hs2⟩ := MJ f hp h4
 refine kJ (B := live [(1, Ty.sl KJ u), (5, Ty.pp (cx f))] []) ?_ ?_
 ·refine c8.mk' ?_ ?_
  ·(repeat (first | refine aB ?_ (Ty.aR _) | refine aB ?_ (Ty.aG _))); exact aI
  exact aH
 refine aA ?_
 refine eX rfl rfl (by exact List.cons_ne_nil _ _) rfl (by repeat (first | exact (aT.nil : aT _ _ [] _) | (show aT _ _ ((_, _) :: _) _; apply aT.one; (· exact (rfl : _ = Ty.int _ _)); (· exact rfl)))) (by exact (rfl : _ = some [_, _, _, _])) ?_
 refine dA rfl (by exact List.cons_ne_nil _ _) rfl ?_
 refine eH rfl rfl (by decide) rfl rfl rfl rfl rfl rfl ?_
 refine aD (aC (aF (aA ?_)))
 refine dA rfl (by exact List.cons_ne_nil _ _) rfl ?_
 refine aD (aC (aF (aF (aA ?_))))
 refine aP rfl rfl rfl rfl rfl (by decide) ?_
 refine aK rfl rfl rfl rfl (cC rfl rfl rfl (bF rfl (aD (aC (af ?_)))))
 refine cK (fun (k : {k : Nat // k ≤ f.bins.length}) => live [(1, Ty.sl KJ u), (5, Ty.pp (cx f)), (6, Ty.ptr 7 0), (7, Ty.ptr 8 0), (42, Ty.sl jX f.bins), (43, Ty.int .i64 f.bins.length), (44, Ty.int .i64 (k.1 : Nat))] [(7, Cont.cells 40 [Ty.int .i64 1, Ty.row jo 48 58 (Hv f k.1), Ty.ex (.slice none 0 0), Ty.ex (.slice none 0 0)]), (8, Cont.cells 42 [Ty.row dN 3 65 (KN f k.1), Ty.ex (.slice none 0 0)])]) (fun k => f.bins.length - k.1) (⟨0, by omega⟩) ?_ fun k => ?_
 ·(refine c8.mk' ?_ ?_ <;> (repeat' (first | exact aI | exact aH | exact dH | refine aB ?_ (Ty.aR _) | refine aB ?_ (Ty.aG _) | refine aJ rfl (Cont.dI ?_) ?_ | refine bX ?_ (Ty.aG _) | refine bX ?_ ?_)))
  all_goals first | exact jy Uj | exact jy T0
 have hk2 := k.2
 have hsl := HH f k.1
 refine aF (aA (ak rfl rfl rfl (aD (aC (aF ?_)))))
 refine aa rfl (fun hc2 => ?_) (fun hc2 => ?_)
 ·refine bA (aC (aF (af (aF (aA ?_)))))
  refine bG rfl rfl rfl rfl rfl rfl (by omega) ?_
  refine az rfl rfl rfl (by exact Nat.le_of_ble_eq_true rfl) ?_
  refine dA rfl (by exact List.cons_ne_nil _ _) rfl ?_
  refine eH rfl rfl (by decide) rfl rfl rfl rfl rfl rfl ?_
  refine aD (aC (aF (aA ?_)))
  refine aS rfl rfl rfl rfl rfl (by decide) ?_
  refine aj rfl rfl (by decide) rfl rfl rfl ?_
  refine aS rfl rfl rfl rfl rfl (by decide) ?_
  refine aj rfl rfl (by decide) rfl rfl rfl ?_
  refine aS rfl rfl rfl rfl rfl (by decide) ?_
  refine aj rfl rfl (by decide) rfl rfl rfl ?_
  refine eX rfl rfl (by exact List.cons_ne_nil _ _) rfl (by repeat (first | exact (aT.nil : aT _ _ [] _) | (show aT _ _ ((_, _) :: _) _; apply aT.one; (· exact (rfl : _ = Ty.int _ _)); (· exact rfl)))) (by exact (rfl : _ = some [_, _])) ?_
  refine eX rfl rfl (by exact List.cons_ne_nil _ _) rfl (by repeat (first | exact (aT.nil : aT _ _ [] _) | (show aT _ _ ((_, _) :: _) _; apply aT.one; (· exact (rfl : _ = Ty.int _ _)); (· exact rfl)) | (show aT _ _ ((_, _) :: _) _; apply aT.agg; (· exact (rfl : _ = Ty.agg _))))) (by exact (rfl : _ = some [_, _, _])) ?_
  refine bT (E := jo) (xs := [⟨300, ⟨(nth f.bins k.1).has, (nth f.bins k.1).has⟩⟩]) rfl rfl rfl rfl rfl (by decide) (by decide) (by repeat (first | exact (aT.nil : aT _ _ [] _) | (show aT _ _ ((_, _) :: _) _; apply aT.agg; (· exact (rfl : _ = Ty.agg _))))) (by exact rfl) rfl ?_
  refine fD rfl rfl (by decide) rfl rfl rfl rfl rfl rfl (by decide) (by (simp <;> omega)) (by (simp <;> omega)) ?_
  refine aS rfl rfl rfl rfl rfl (by decide) ?_
  refine dh rfl rfl (by decide) rfl rfl (by exact (rfl : _ = Ty.row _ _ _ _)) rfl (by exact Nat.le_of_ble_eq_true rfl) rfl rfl (by exact rfl) ?_
  refine aD (aC (aA ?_))
  refine aS rfl rfl rfl rfl rfl (by decide) ?_
  refine aj rfl rfl (by decide) rfl rfl rfl ?_
  refine aS rfl rfl rfl rfl rfl (by decide) ?_
  refine aj rfl rfl (by decide) rfl rfl rfl ?_
  refine bT (E := dN) (xs := [(nth f.bins k.1).has]) rfl rfl rfl rfl rfl (by decide) (by decide) (by repeat (first | exact (aT.nil : aT _ _ [] _) | (show aT _ _ ((_, _) :: _) _; apply aT.one; (· exact (rfl : _ = Ty.int _ _)); (· exact rfl)))) (by exact rfl) rfl ?_
  refine fD rfl rfl (by decide) rfl rfl rfl rfl rfl rfl (by decide) (by (simp <;> omega)) (by (simp <;> omega)) ?_
  refine aS rfl rfl rfl rfl rfl (by decide) ?_
  refine dh rfl rfl (by decide) rfl rfl (by exact (rfl : _ = Ty.row _ _ _ _)) rfl (by exact Nat.le_of_ble_eq_true rfl) rfl rfl (by exact rfl) ?_
  refine aD (bH (aC (aA ?_)))
  refine bz rfl rfl (by omega) (by omega) ?_
  refine bF rfl (aD ?_)
  refine bO (⟨k.1 + 1, by omega⟩) ?_ (by show f.bins.length - (k.1 + 1) < f.bins.length - k.1; omega)
  (refine c8.mk' ?_ ?_ <;> (repeat' (first | exact aI | exact aH | exact dH | refine aB ?_ (Ty.aR _) | refine aB ?_ (Ty.aG _) | refine aJ rfl (Cont.dI ?_) ?_ | refine bX ?_ (Ty.aG _) | refine bX ?_ ?_)))
  all_goals skip
  all_goals first | exact Ty.ej (T6 (by omega)) | exact Ty.ej (UW (by omega))
 refine cE (aL (aL (ah rfl (aC (aF (aF ?_))))))
 obtain ⟨k, hk2⟩ := k
 obtain rfl : k = f.bins.length := by have h1 : ¬ (k : Int) < (f.bins.length : Int) := hc2; have h2 : k ≤ f.bins.length := hk2; omega
 refine aA ?_
 refine aP rfl rfl rfl rfl rfl (by decide) ?_
 refine aK rfl rfl rfl rfl (cC rfl rfl rfl (bF rfl (aD (aC (af ?_)))))
 refine cK (fun (m : {m : Nat // m ≤ f.turnings.length}) => live [(1, Ty.sl KJ u), (5, Ty.pp (cx f)), (6, Ty.ptr 7 0), (7, Ty.ptr 8 0), (68, Ty.sl gM f.turnings), (69, Ty.int .i64 f.turnings.length), (70, Ty.int .i64 (m.1 : Nat))] [(7, Cont.cells 40 [Ty.int .i64 1, Ty.row jo 48 58 (Hv f f.bins.length), Ty.row iX 50 88 (Kc f m.1), Ty.ex (.slice none 0 0)]), (8, Cont.cells 42 [Ty.row dN 3 65 (KN f f.bins.length), Ty.row dN 3 95 (K4 f m.1)])]) (fun m => f.turnings.length - m.1) (⟨0, by omega⟩) ?_ fun m => ?_
 ·(refine c8.mk' ?_ ?_ <;> (repeat' (first | exact aI | exact aH | exact dH | refine aB ?_ (Ty.aR _) | refine aB ?_ (Ty.aG _) | refine aJ rfl (Cont.dI ?_) ?_ | refine bX ?_ (Ty.aG _) | refine bX ?_ ?_)))
  all_goals first | exact jy Uc | exact jy UZ
 have hm := m.2
 have hsl := HH f m.1
 refine aF (aA (ak rfl rfl rfl (aD (aC (aF ?_)))))
 refine aa rfl (fun hc3 => ?_) (fun hc3 => ?_)
 ·refine bA (aC (aF (af (aF (aA ?_)))))
  refine bG rfl rfl rfl rfl rfl rfl (by omega) ?_
  refine az rfl rfl rfl (by exact Nat.le_of_ble_eq_true rfl) ?_
  refine dA rfl (by exact List.cons_ne_nil _ _) rfl ?_
  refine eH rfl rfl (by decide) rfl rfl rfl rfl rfl rfl ?_
  refine aD (aC (aF (aA ?_)))
  refine aS rfl rfl rfl rfl rfl (by decide) ?_
  refine aj rfl rfl (by decide) rfl rfl rfl ?_
  refine aS rfl rfl rfl rfl rfl (by decide) ?_
  refine aj rfl rfl (by decide) rfl rfl rfl ?_
  refine aS rfl rfl rfl rfl rfl (by decide) ?_
  refine aj rfl rfl (by decide) rfl rfl rfl ?_
  refine aS rfl rfl rfl rfl rfl (by decide) ?_
  refine aj rfl rfl (by decide) rfl rfl rfl ?_
  refine aS rfl rfl rfl rfl rfl (by decide) ?_
  refine aj rfl rfl (by decide) rfl rfl rfl ?_
  refine eX rfl rfl (by exact List.cons_ne_nil _ _) rfl (by repeat (first | exact (aT.nil : aT _ _ [] _) | (show aT _ _ ((_, _) :: _) _; apply aT.one; (· exact (rfl : _ = Ty.int _ _)); (· exact rfl)))) (by exact (rfl : _ = some [_, _])) ?_
  refine eX rfl rfl (by exact List.cons_ne_nil _ _) rfl (by repeat (first | exact (aT.nil : aT _ _ [] _) | (show aT _ _ ((_, _) :: _) _; apply aT.one; (· exact (rfl : _ = Ty.int _ _)); (· exact rfl)) | (show aT _ _ ((_, _) :: _) _; apply aT.agg; (· exact (rfl : _ = Ty.agg _))))) (by exact rfl) ?_
  refine bT (E := iX) (xs := [⟨0, (nth f.turnings m.1).src, (nth f.turnings m.1).dst, ⟨(nth f.turnings m.1).sacks, (nth f.turnings m.1).sacks⟩⟩]) rfl rfl rfl rfl rfl (by decide) (by decide) (by repeat (first | exact (aT.nil : aT _ _ [] _) | (show aT _ _ ((_, _) :: _) _; apply aT.agg; (· exact (rfl : _ = Ty.agg _))))) (by exact rfl) rfl ?_
  refine fD rfl rfl (by decide) rfl rfl rfl rfl rfl rfl (by decide) (by (simp <;> omega)) (by (simp <;> omega)) ?_
  refine aS rfl rfl rfl rfl rfl (by decide) ?_
  refine dh rfl rfl (by decide) rfl rfl (by exact (rfl : _ = Ty.row _ _ _ _)) rfl (by exact Nat.le_of_ble_eq_true rfl) rfl rfl (by exact rfl) ?_
  refine aD (aC (aA ?_))
  refine aS rfl rfl rfl rfl rfl (by decide) ?_
  refine aj rfl rfl (by decide) rfl rfl rfl ?_
  refine aS rfl rfl rfl rfl rfl (by decide) ?_
  refine aj rfl rfl (by decide) rfl rfl rfl ?_
  refine bT (E := dN) (xs := [(nth f.turnings m.1).sacks]) rfl rfl rfl rfl rfl (by decide) (by decide) (by repeat (first | exact (aT.nil : aT _ _ [] _) | (show aT _ _ ((_, _) :: _) _; apply aT.one; (· exact (rfl : _ = Ty.int _ _)); (· exact rfl)))) (by exact rfl) rfl ?_
  refine fD rfl rfl (by decide) rfl rfl rfl rfl rfl rfl (by decide) (by (simp <;> omega)) (by (simp <;> omega)) ?_
  refine aS rfl rfl rfl rfl rfl (by decide) ?_
  refine dh rfl rfl (by decide) rfl rfl (by exact (rfl : _ = Ty.row _ _ _ _)) rfl (by exact Nat.le_of_ble_eq_true rfl) rfl rfl (by exact rfl) ?_
  refine aD (bH (aC (aA ?_)))
  refine bz rfl rfl (by omega) (by omega) ?_
  refine bF rfl (aD ?_)
  refine bO (⟨m.1 + 1, by omega⟩) ?_ (by show f.turnings.length - (m.1 + 1) < f.turnings.length - m.1; omega)
  (refine c8.mk' ?_ ?_ <;> (repeat' (first | exact aI | exact aH | exact dH | refine aB ?_ (Ty.aR _) | refine aB ?_ (Ty.aG _) | refine aJ rfl (Cont.dI ?_) ?_ | refine bX ?_ (Ty.aG _) | refine bX ?_ ?_)))
  all_goals skip
  all_goals first | exact Ty.ej (UR (by omega)) | exact Ty.ej (Ug (by omega))
 refine cE (aL (aL (ah rfl (aC (aF ?_)))))
 obtain ⟨m, hm⟩ := m
 obtain rfl : m = f.turnings.length := by have h1 : ¬ (m : Int) < (f.turnings.length : Int) := hc3; have h2 : m ≤ f.turnings.length := hm; omega
 refine ox (tg := 58) [] [(7, Cont.cells 40 [Ty.int .i64 1, Ty.sl jo (Hv f f.bins.length), Ty.row iX 50 88 (Kc f f.turnings.length), Ty.ex (.slice none 0 0)])] (by decide) rfl trivial ⟨iG rfl rfl ⟨cv rfl, nH, cv rfl, cv rfl, trivial⟩, trivial⟩ ?_
 refine ox (tg := 88) [] [(7, Cont.cells 40 [Ty.int .i64 1, Ty.sl jo (Hv f f.bins.length), Ty.sl iX (Kc f f.turnings.length), Ty.ex (.slice none 0 0)])] (by decide) rfl trivial ⟨iG rfl rfl ⟨cv rfl, cv rfl, nH, cv rfl, trivial⟩, trivial⟩ ?_
 refine kJ (B := live [(1, Ty.sl KJ u), (5, Ty.pp (cx f)), (6, Ty.ptr 7 0), (7, Ty.ptr 8 0)] [(7, Cont.cells 40 [Ty.int .i64 1, Ty.sl jo (Hv f f.bins.length), Ty.sl iX (Kc f f.turnings.length), Ty.ex (.slice none 0 0)]), (8, Cont.cells 42 [Ty.row dN 3 65 (KN f f.bins.length), Ty.row dN 3 95 (K4 f f.turnings.length)])]) ?_ ?_
 ·refine c8.mk' ?_ ?_
  ·(repeat (first | refine aB ?_ (Ty.aR _) | refine aB ?_ (Ty.aG _))); exact aI
  (repeat (refine aJ rfl (Cont.aG _) ?_)); exact aH
 refine ox (tg := 65) [] [(8, Cont.cells 42 [Ty.sl dN (KN f f.bins.length), Ty.row dN 3 95 (K4 f f.turnings.length)])] (by decide) rfl trivial ⟨iG rfl rfl ⟨nH, cv rfl, trivial⟩, trivial⟩ ?_
 refine ox (tg := 95) [] [(8, Cont.cells 42 [Ty.sl dN (KN f f.bins.length), Ty.sl dN (K4 f f.turnings.length)])] (by decide) rfl trivial ⟨iG rfl rfl ⟨cv rfl, nH, trivial⟩, trivial⟩ ?_
 refine jt (tg := 7) rfl (Cont.qc (l' := [Ty.int .i64 1, Ty.sl jo (Hv f f.bins.length), Ty.sl iX (Kc f f.turnings.length), Ty.sl jf []]) ⟨Ty.aG _, Ty.aG _, Ty.aG _, Ty.E3, trivial⟩) ?_
 refine jt (tg := 7) rfl (Cont.sV (RJ f)) ?_
 refine jt (tg := 8) rfl (Cont.sV (Q8 f)) ?_
 refine kJ (B := live [(1, Ty.sl KJ u), (5, Ty.pp (cx f)), (6, Ty.ptr 7 0), (7, Ty.ptr 8 0)] [(7, Cont.cells 40 (iE (jU f))), (8, Cont.cells 42 (oL (lp f)))]) ?_ ?_
 ·refine c8.mk' ?_ ?_
  ·(repeat (first | refine aB ?_ (Ty.aR _) | refine aB ?_ (Ty.aG _))); exact aI
  (repeat (refine aJ rfl (Cont.aG _) ?_)); exact aH
 refine aA ?_
 refine gN rfl rfl (by decide) rfl rfl (by exact Nat.le_of_ble_eq_true rfl) ?_
 refine gN rfl rfl (by decide) rfl rfl (by exact Nat.le_of_ble_eq_true rfl) ?_
 refine aq (Iw (jU f) hsm (lp f) hs1 hs2) rfl rfl rfl rfl rfl (FQ rfl (bt rfl rfl (bt rfl rfl (Oa rfl (b9 rfl (aD (aC (aF ?_))))))))
 rw [hct]
 obtain ⟨C, eC⟩ : ∃ C, we (jU f) (lp f) = C := ⟨_, rfl⟩
 have hC : C = hU (jU f) (lp f) := by rw [← eC]; unfold we; rw [if_pos hct]
 refine mY (s := 12) rfl (Ty.gy eC) ?_
 refine kJ (B := live [(1, Ty.sl KJ u), (5, Ty.pp (cx f)), (12, Ty.sl tu C), (13, Ty.int .i64 0)] []) ?_ ?_
 ·refine c8.mk' ?_ ?_
  ·(repeat (first | refine aB ?_ (Ty.aR _) | refine aB ?_ (Ty.aG _))); exact aI
  exact aH
 refine cg mixed rfl (gq rfl ?_)
 refine eI [(105, 10)] [105] [(105, Cont.cells 95 (cN (je u)))] (Ki u) rfl rfl (by repeat (first | exact fB | refine dF ?_ ?_ | exact cO rfl rfl)) pre_nil (cj (a := 105) (b := 10) (by exact List.mem_cons_self) rfl (bB (by exact List.mem_cons_self) rfl rfl rfl) post_nil) (fV (by exact List.mem_cons_self)) ?_
 refine az rfl rfl rfl (by exact Nat.le_of_ble_eq_true rfl) ?_
 refine eI [(105, 1000)] [] [(105, Cont.cells 95 (cN ((cM f (je u) f.turnings.length).2)))] (N5 f hp (je u) (Hh u)) rfl rfl (by repeat (first | exact fB | refine dF ?_ ?_ | exact fV List.mem_cons_self | exact cO rfl rfl)) (dm (a := 105) (b := 1000) (by exact List.mem_cons_self) rfl (bB (by exact List.mem_cons_self) rfl rfl rfl) pre_nil) (cj (a := 105) (b := 1000) (by exact List.mem_cons_self) rfl (bB (by exact List.mem_cons_self) rfl rfl rfl) post_nil) (cO rfl rfl) ?_
 refine Oa rfl (aD ?_)
 refine ⟨by kernel_rfl, ?_⟩
 refine aC (aF ?_)
 have hor := G4 hp (je u)
 obtain ⟨L, eL⟩ : ∃ L, (cM f (je u) f.turnings.length).1 = L := ⟨_, rfl⟩
 rw [eL] at hor
 have hLl := (kr hor).1
 have hoe : gl f L = 0 := by
  have hM : gR f = 0 := by rw [← jD]; exact hp
  unfold gl
  rw [if_neg (by rw [hM]; exact fun h => h rfl)]; exact hor
 refine mY (s := 14) rfl (Ty.gy eL) ?_
 have hfs := De hp
 refine aA ?_
 refine az rfl rfl rfl (by exact Nat.le_of_ble_eq_true rfl) ?_
 refine gq rfl ?_
 refine aq (Qp f hfs L (by omega)) rfl rfl rfl rfl rfl ?_
 refine FQ rfl (bt rfl rfl (bt rfl rfl (Oa rfl (b9 rfl (aD (aC (aF (aF ?_))))))))
 rw [hoe]
 obtain ⟨R, eR⟩ : ∃ R, sI f L = R := ⟨_, rfl⟩
 have hRl : R.length = L.length + 1 := by rw [← eR]; unfold sI; rw [if_neg (by rw [hoe]; exact fun h => h rfl)]; unfold gF; simp
 have hRr : ∀ k, k ≤ L.length → (nth R k).length = f.bears.length := fun k hk => by rw [← eR]; unfold sI; rw [if_neg (by rw [hoe]; exact fun h => h rfl)]; exact KS hk
 have hCl : C.length = f.bins.length := by rw [hC, La]; exact SU f
 have hCr : ∀ i, i < f.bins.length → (nth C i).length = 2 := fun i hi => by rw [hC]; exact (EG hp h1 h4 hi).1
 have hD : ∀ b, b < f.bears.length → uj C f 0 b f.bins.length = nth (nth R 0) b ∧ uj C f 1 b f.bins.length = nth (nth R L.length) b := fun b hb => by rw [hC, ← eR]; exact Kz hp h1 h4 hor hb
 refine mY (s := 15) rfl (Ty.gy eR) ?_
 refine kJ (B := live [(5, Ty.pp (cx f)), (12, Ty.sl tu C), (13, Ty.int .i64 0), (14, Ty.sl dN L), (15, Ty.sl BJ R), (16, Ty.int .i64 0)] []) ?_ ?_
 ·refine c8.mk' ?_ ?_
  ·(repeat (first | refine aB ?_ (Ty.aR _) | refine aB ?_ (Ty.aG _))); exact aI
  exact aH
 refine aA (bF rfl (ak rfl rfl rfl (kV rfl ?_)))
 apply aN (s := 115) rfl rfl rfl
 ·intro hg; apply aQ; (refine bF rfl ?_); refine aD ?_; exact rfl
 ·exact rfl
 ·exact rfl
 apply aN (s := 115) rfl rfl rfl
 ·intro hg; apply aM (s := 116) rfl (by (rw [hg]; rfl)); apply aQ; (refine ak rfl rfl rfl ?_); refine aD ?_; exact rfl
 ·exact rfl
 ·exact rfl
 refine oB rfl rfl (kV rfl ?_)
 apply aN (s := 119) rfl rfl rfl
 ·intro hg; apply aQ; (refine gq rfl ?_); refine aD ?_; exact rfl
 ·exact rfl
 ·exact rfl
 apply aN (s := 119) rfl rfl rfl
 ·intro hg; apply aM (s := 120) rfl (by (rw [hg]; rfl)); apply aQ; (refine cC rfl rfl rfl ?_); refine aD ?_; exact rfl
 ·exact rfl
 ·exact rfl
 apply aN (s := 119) rfl rfl rfl
 ·intro hg; apply aQ; (refine aP rfl rfl rfl rfl rfl (by decide) ?_); refine aD ?_; exact rfl
 ·exact rfl
 ·exact rfl
 apply aN (s := 119) rfl rfl rfl
 ·intro hg; apply aM (s := 122) rfl (by (rw [hg]; rfl)); apply aQ; (refine aK rfl rfl rfl rfl ?_); refine aD ?_; exact rfl
 ·exact rfl
 ·exact rfl
 apply aN (s := 119) rfl rfl rfl
 ·intro hg; apply aM (s := 123) rfl (by (rw [hg]; rfl)); apply aQ; (refine cC rfl rfl rfl ?_); refine aD ?_; exact rfl
 ·exact rfl
 ·exact rfl
 apply aN (s := 119) rfl rfl rfl
 ·intro hg; apply aM (s := 121) rfl (by (rw [hg]; rfl)); apply aM (s := 124) rfl (by (rw [hg]; rfl)); apply aQ; (refine ak rfl rfl rfl ?_); refine aD ?_; exact rfl
 ·exact rfl
 ·exact rfl
 refine oB rfl rfl (kV rfl ?_)
 apply aN (s := 127) rfl rfl rfl
 ·intro hg; apply aQ; (refine gq rfl ?_); refine aD ?_; exact rfl
 ·exact rfl
 ·exact rfl
 apply aN (s := 127) rfl rfl rfl
 ·intro hg; apply aM (s := 128) rfl (by (rw [hg]; rfl)); apply aQ; (refine cC rfl rfl rfl ?_); refine aD ?_; exact rfl
 ·exact rfl
 ·exact rfl
 apply aN (s := 127) rfl rfl rfl
 ·intro hg; apply aQ; (refine gq rfl ?_); refine aD ?_; exact rfl
 ·exact rfl
 ·exact rfl
 apply aN (s := 127) rfl rfl rfl
 ·intro hg; apply aM (s := 130) rfl (by (rw [hg]; rfl)); apply aQ; (refine cC rfl rfl rfl ?_); refine aD ?_; exact rfl
 ·exact rfl
 ·exact rfl
 apply aN (s := 127) rfl rfl rfl
 ·intro hg; apply aM (s := 131) rfl (by (rw [hg]; rfl)); apply aQ; (refine bz rfl rfl (by omega) (by omega) ?_); refine aD ?_; exact rfl
 ·exact rfl
 ·exact rfl
 apply aN (s := 127) rfl rfl rfl
 ·intro hg; apply aM (s := 129) rfl (by (rw [hg]; rfl)); apply aM (s := 132) rfl (by (rw [hg]; rfl)); apply aQ; (refine ak rfl rfl rfl ?_); refine aD ?_; exact rfl
 ·exact rfl
 ·exact rfl
 refine oB rfl rfl (aD (aC ?_))
 refine iP rfl (by simp [hCl, hRl]) ?_
 refine bA (aC (aF (aF (aA (gq rfl (cC rfl rfl rfl ?_))))))
 refine bT (E := dN) (xs := [0, (L.length : Nat)]) rfl rfl rfl rfl rfl (by decide) (by decide) (by repeat (first | exact (aT.nil : aT _ _ [] _) | (show aT _ _ ((_, _) :: _) _; apply aT.one; (· exact (rfl : _ = Ty.int _ _)); (· exact rfl)))) (by exact rfl) rfl ?_
 refine cC rfl rfl rfl (bF rfl (aD (aC (af ?_))))
 refine cK (fun (a : {a : Nat // a ≤ 2}) => live [(5, Ty.pp (cx f)), (12, Ty.sl tu C), (14, Ty.sl dN L), (15, Ty.sl BJ R), (137, Ty.sl dN [0, (L.length : Nat)]), (138, Ty.int .i64 2), (139, Ty.int .i64 (a.1 : Nat))] []) (fun a => 2 - a.1) (⟨0, by omega⟩) ?_ fun a => ?_
 ·(refine c8.mk' ?_ ?_ <;> (repeat' (first | exact aI | exact aH | refine aB ?_ (Ty.aR _) | refine aB ?_ (Ty.aG _))))
  all_goals trace_state
 have ha := a.2
 refine aF (aA (ak rfl rfl rfl (aD (aC (aF ?_)))))
 refine aa rfl (fun hc5 => ?_) (fun hc5 => ?_)
 ·refine bA (aC (aF (af (aF (aA (bF rfl ?_))))))
  refine bG rfl rfl rfl rfl rfl rfl (by (simp <;> omega)) ?_
  refine aK rfl rfl rfl rfl (b9 rfl (b9 rfl (aD (aC (aF (aF ?_))))))
  obtain ⟨T, hT1, hT2, hT3⟩ : ∃ T : Nat, nth [0, ((L.length : Nat) : Int)] a.1 = (T : Nat) ∧ T ≤ L.length ∧ ∀ b, b < f.bears.length → uj C f a.1 b f.bins.length = nth (nth R T) b := by
   rcases (show a.1 = 0 ∨ a.1 = 1 by omega) with e | e <;> rw [e]
   ·exact ⟨0, Uo, Nat.zero_le _, fun b hb => (hD b hb).1⟩
   exact ⟨L.length, UJ, Nat.le_refl _, fun b hb => (hD b hb).2⟩
  refine mY (s := 18) rfl (Ty.bJ hT1) ?_
  have hRT := hRr T hT2
  refine cg mixed rfl (gq rfl (bF rfl ?_))
  refine bG rfl rfl rfl rfl rfl rfl (by omega) ?_
  refine aK rfl rfl rfl rfl (cC rfl rfl rfl ?_)
  refine aP rfl rfl rfl rfl rfl (by decide) ?_
  refine aK rfl rfl rfl rfl (cC rfl rfl rfl (ak rfl rfl rfl (aD ?_)))
  refine ⟨by kernel_rfl, ?_⟩
  refine aC ?_
  refine iP rfl (by simp [hRT]) ?_
  refine bA (aC (aF (aA (gq rfl (bF rfl ?_)))))
  refine bG rfl rfl rfl rfl rfl rfl (by omega) ?_
  refine aK rfl rfl rfl rfl (cC rfl rfl rfl (bF rfl (aD (aC (af ?_)))))
  refine cK (fun (y : {y : Nat // y ≤ f.bears.length}) => live [(5, Ty.pp (cx f)), (12, Ty.sl tu C), (14, Ty.sl dN L), (15, Ty.sl BJ R), (137, Ty.sl dN [0, (L.length : Nat)]), (138, Ty.int .i64 2), (139, Ty.int .i64 (a.1 : Nat)), (17, Ty.int .i64 (a.1 : Nat)), (156, Ty.sl dN (nth R T)), (157, Ty.int .i64 (nth R T).length), (158, Ty.int .i64 (y.1 : Nat))] []) (fun y => f.bears.length - y.1) (⟨0, by omega⟩) ?_ fun y => ?_
  ·(refine c8.mk' ?_ ?_ <;> (repeat' (first | exact aI | exact aH | refine aB ?_ (Ty.aR _) | refine aB ?_ (Ty.aG _))))
   all_goals trace_state
  have hy := y.2
  refine aF (aA (ak rfl rfl rfl (aD (aC (aF ?_)))))
  refine aa rfl (fun hc7 => ?_) (fun hc7 => ?_)
  ·refine bA (aC (aF (af (aF (aA (bF rfl ?_))))))
   refine bG rfl rfl rfl rfl rfl rfl (by omega) ?_
   refine aK rfl rfl rfl rfl (b9 rfl (b9 rfl (aD (aC (aF (aA (b9 rfl (aD (aC (aF (aF (aA ?_))))))))))))
   refine aP rfl rfl rfl rfl rfl (by decide) ?_
   refine aK rfl rfl rfl rfl (cC rfl rfl rfl (bF rfl (aD (aC (af ?_)))))
   refine cK (fun (i : {i : Nat // i ≤ f.bins.length}) => live [(5, Ty.pp (cx f)), (12, Ty.sl tu C), (14, Ty.sl dN L), (15, Ty.sl BJ R), (137, Ty.sl dN [0, (L.length : Nat)]), (138, Ty.int .i64 2), (139, Ty.int .i64 (a.1 : Nat)), (17, Ty.int .i64 (a.1 : Nat)), (156, Ty.sl dN (nth R T)), (157, Ty.int .i64 (nth R T).length), (158, Ty.int .i64 (y.1 : Nat)), (19, Ty.int .i64 (y.1 : Nat)), (20, Ty.int .i64 (nth (nth R T) y.1)), (21, Ty.int .i64 (uj C f a.1 y.1 i.1)), (164, Ty.sl jX f.bins), (165, Ty.int .i64 f.bins.length), (166, Ty.int .i64 (i.1 : Nat))] []) (fun i => f.bins.length - i.1) (⟨0, by omega⟩) ?_ fun i => ?_
   ·(refine c8.mk' ?_ ?_ <;> (repeat' (first | exact aI | exact aH | refine aB ?_ (Ty.aR _) | refine aB ?_ (Ty.aG _) | refine aB ?_ ?_)))
    all_goals exact Ty.bJ Rw
   have hi := i.2
   refine aF (aA (ak rfl rfl rfl (aD (aC (aF ?_)))))
   refine aa rfl (fun hc8 => ?_) (fun hc8 => ?_)
   ·refine bA (aC (aF (af (aF (aA (bF rfl ?_))))))
    refine bG rfl rfl rfl rfl rfl rfl (by omega) ?_
    refine az rfl rfl rfl (by exact Nat.le_of_ble_eq_true rfl) ?_
    refine dA rfl (by exact List.cons_ne_nil _ _) rfl ?_
    refine b9 rfl ?_
    refine eH rfl rfl (by decide) rfl rfl rfl rfl rfl rfl ?_
    refine aD (aC (aF (aF ?_)))
    have hCi := hCr i.1 (by omega)
    have hsh := hk.len _ (bL (xs := f.bins) (k := i.1) (by omega))
    have hdb := Of hp h1 h4 (show a.1 < 2 by omega) y.1 i.1 (by omega)
    have hcb := vY hp h1 h4 (show a.1 < 2 by omega) (show i.1 < f.bins.length by omega)
    have hsb := Gx hp (show i.1 < f.bins.length by omega) y.1
    have hms := Jj hcb hsb
    rw [← hC] at hdb hcb hms
    refine aA (gq rfl (bF rfl ?_))
    refine bG rfl rfl rfl rfl rfl rfl (by omega) ?_
    refine aK rfl rfl rfl rfl (cC rfl rfl rfl (ak rfl rfl rfl (aD (aC ?_))))
    refine iP rfl (by simp [hCi]) ?_
    refine bA (aC (cg mixed rfl (bF rfl (gq rfl (bF rfl ?_)))))
    refine bG rfl rfl rfl rfl rfl rfl (by omega) ?_
    refine aK rfl rfl rfl rfl (bF rfl ?_)
    refine bG rfl rfl rfl rfl rfl rfl (by omega) ?_
    refine aK rfl rfl rfl rfl ?_
    refine aS rfl rfl rfl rfl rfl (by decide) ?_
    refine aj rfl rfl (by decide) rfl rfl rfl ?_
    refine bF rfl ?_
    refine bG rfl rfl rfl rfl rfl rfl (by omega) ?_
    refine aK rfl rfl rfl rfl ?_
    refine Na rfl rfl (by omega) (by omega) ?_
    refine bz rfl rfl (by omega) (by omega) ?_
    refine b9 rfl (aD ?_)
    refine ⟨by kernel_rfl, ?_⟩
    refine bH (aC (aA ?_))
    refine bz rfl rfl (by omega) (by omega) ?_
    refine bF rfl (aD ?_)
    refine bO (⟨i.1 + 1, by omega⟩) ?_ (by show f.bins.length - (i.1 + 1) < f.bins.length - i.1; omega)
    (refine c8.mk' ?_ ?_ <;> (repeat' (first | exact aI | exact aH | refine aB ?_ (Ty.aR _) | refine aB ?_ (Ty.aG _) | refine aB ?_ ?_)))
    all_goals skip
    all_goals exact Ty.bJ R5
   refine cE (aL (aL (ah rfl (aC (aF ?_)))))
   have hie : i.1 = f.bins.length := by omega
   have hfin := hT3 y.1 (by omega)
   refine aA (bF rfl (bF rfl (ak rfl rfl rfl (aD (aC ?_)))))
   refine iP rfl (by rw [hie, hfin]; simp) ?_
   refine bA (bH (aC (aA ?_)))
   refine bz rfl rfl (by omega) (by omega) ?_
   refine bF rfl (aD ?_)
   refine bO (⟨y.1 + 1, by omega⟩) ?_ (by show f.bears.length - (y.1 + 1) < f.bears.length - y.1; omega)
   (refine c8.mk' ?_ ?_ <;> (repeat' (first | exact aI | exact aH | refine aB ?_ (Ty.aR _) | refine aB ?_ (Ty.aG _))))
   all_goals skip
   all_goals trace_state
  refine cE (aL (aL (ah rfl (bH (aC (aA ?_))))))
  refine bz rfl rfl (by omega) (by omega) ?_
  refine bF rfl (aD ?_)
  refine bO (⟨a.1 + 1, by omega⟩) ?_ (by show 2 - (a.1 + 1) < 2 - a.1; omega)
  (refine c8.mk' ?_ ?_ <;> (repeat' (first | exact aI | exact aH | refine aB ?_ (Ty.aR _) | refine aB ?_ (Ty.aG _))))
  all_goals skip
  all_goals trace_state
 refine cE (aL (aL (ah rfl (aC (aF (aA (aq (PT) rfl rfl rfl rfl rfl (dG rfl (aD (aC (au (bK rfl rfl ?_))))))))))))
 all_goals exact bN rfl rfl
 all_goals trace_state
end Go.Proofs.YtmmcenjknimhbaaGreat
namespace Go.T
open Go Go.RowKit Go.ChangeShapes Go.WideShapes Go.ChangeAt
def ue : ay := fun _ => none
theorem Qw (w : World) : Wf w ue := ⟨fun _ _ h => (by cases h), fun _ _ _ _ h => (by cases h)⟩
theorem LI : ∀ b t, ue b = some t → t = 0 := fun _ _ h => by cases h
structure Rd {α : Type} (P : Program) (e : TypeId) (E : El α) : Prop where
  size : P.cellsOf e = E.size
  pos : 0 < E.size
  rd : ∀ {H : Type} {enc : TypeId × Value → H} {w : World} {base : Nat} {held : Bool} {n : Nat} {cs : List Value} {y : DataW H × List MemPlace}, DataW.trod enc P w base (fun _ => true) held n e cs = some y → ∃ x, cD w ue (E.tys x) cs
section
variable {H : Type} {enc : TypeId × Value → H} {P : Program} {w : World} {base : Nat} {held : Bool} {α : Type} {E : El α} {t e : TypeId} {n : Nat} {cs : List Value} {y : DataW H × List MemPlace}
theorem UX (hR : Rd P e E) (ht : P.underlying t = some (.slice e)) (h : DataW.trod enc P w base (fun _ => true) held n t cs = some y) : ∃ v xs, cs = [v] ∧ (Ty.sl E xs).den w ue v := by
 rcases Go.Deep.open_slice ht h with ⟨rfl, _⟩ | ⟨a, len, cap, m, k, D, Pl, rfl, _, hl, hm, hmm, _, hel⟩
 ·exact ⟨_, [], rfl, none, 0, rfl, Nat.le_refl _, Nat.zero_le _, fun h => absurd h (Nat.lt_irrefl _)⟩
 have hlm : len ≤ m := by rw [hmm]; simpa using hl
 have hX : ∀ i : Fin len, ∃ x : α, ∃ cs', w.cells? base (a.add (i.1 * P.cellsOf e)) (P.cellsOf e) = some cs' ∧ cD w ue (E.tys x) cs' := fun i => by
  obtain ⟨cs', h1, h2⟩ := hel i.1 (Nat.lt_of_lt_of_le i.2 hlm)
  obtain ⟨x, hx⟩ := hR.rd h2
  exact ⟨x, cs', h1, hx⟩
 let X : Fin len → α := fun i => (hX i).choose
 have hXs : ∀ i : Fin len, ∃ cs', w.cells? base (a.add (i.1 * P.cellsOf e)) (P.cellsOf e) = some cs' ∧ cD w ue (E.tys (X i)) cs' := fun i => (hX i).choose_spec
 have hlen : (List.ofFn X).length = len := by simp
 refine ⟨_, List.ofFn X, rfl, some a, cap, by rw [hlen], by rw [hlen]; exact hl, hm, fun h0 => ?_⟩
 rw [hlen] at h0
 have hcell : ∀ (i : Fin len) (j : Nat) (u : Ty), (E.tys (X i))[j]? = some u → ∃ v, w.cell? (a.add (i.1 * E.size + j)) = some v ∧ u.den w ue v := fun i j u hu => by
  obtain ⟨cs', h1, h2⟩ := hXs i
  obtain ⟨v, hv, hd⟩ := dQ h2 j u hu
  obtain ⟨_, g1, g2⟩ := World.cells?_some h1
  have hj : j < P.cellsOf e := by
   rw [hR.size, ← E.len (X i)]
   exact (List.getElem?_eq_some_iff.1 hu).1
  refine ⟨v, ?_, hd⟩
  have := g2 j hj
  rw [Go.Deep.add_add, hv, hR.size] at this
  exact this
 have hsz := hR.pos
 have hfirst : ∃ v, w.cell? (a.add 0) = some v := by
  obtain ⟨u, hu⟩ : ∃ u, (E.tys (X ⟨0, h0⟩))[0]? = some u := ⟨_, List.getElem?_eq_getElem (by rw [E.len]; exact hsz)⟩
  obtain ⟨v, hv, _⟩ := hcell ⟨0, h0⟩ 0 u hu
  exact ⟨v, by simpa using hv⟩
 obtain ⟨b, off, sp⟩ := a
 obtain ⟨v0, hv0⟩ := hfirst
 have hsp : sp = none := by simpa [Addr.add] using World.cell?_spot hv0
 subst hsp
 have hb : b < w.heap.size := by
  obtain ⟨cs', h1, _⟩ := hXs ⟨0, h0⟩
  have := World.cells?_block h1 (by rw [hR.size]; exact hsz)
  simpa [Addr.add] using this
 refine ⟨b, off, rfl, rfl, hb, fun i u hu => ?_⟩
 have hi : i < len * E.size := by
  have := (List.getElem?_eq_some_iff.1 hu).1
  rw [c7, hlen] at this; exact this
 have hk : i / E.size < len := Nat.div_lt_of_lt_mul (by rw [Nat.mul_comm]; exact hi)
 have hj : i % E.size < E.size := Nat.mod_lt _ hsz
 have hij : i / E.size * E.size + i % E.size = i := by rw [Nat.mul_comm]; exact Nat.div_add_mod i E.size
 have hu2 := hu
 rw [← hij, vF E _ _ _ (by rw [hlen]; exact hk) hj, List.getElem?_ofFn, dif_pos hk] at hu2
 obtain ⟨v, hv, hd⟩ := hcell ⟨i / E.size, hk⟩ (i % E.size) u hu2
 refine ⟨v, ?_, hd⟩
 rw [← Go.WideShapes.add_plain]
 rw [hij] at hv
 exact hv
theorem SW {c : Value} (hR : Rd P e E) (ht : P.underlying t = some (.slice e)) (h : DataW.trod enc P w base (fun _ => true) held n t [c] = some y) : ∃ xs, (Ty.sl E xs).den w ue c := by
 obtain ⟨v, xs, e, hd⟩ := UX hR ht h
 exact ⟨xs, by rw [show c = v by simpa using e]; exact hd⟩
end
section
variable {w w' : World} {S K : Nat → Prop} {M' : ay}
theorem wG (le : Le S K w ue w' M') {b : Nat} (hb : b < w.heap.size) : w'.heap[b]? = w.heap[b]? := (le.qy b hb rfl).2
theorem Qu (le : Le S K w ue w' M') {p : MemPlace} (hp : p.block < w.heap.size) : w.sameAt w' p := by
  cases p with
  | cell b o => exact World.cell?_of_block (w := w) (wG le hp)
  | map b => exact wG le hp
theorem QX (le : Le S K w ue w' M') (may : MemPlace → Prop) : w.keptBut w' may := by
 refine ⟨le.os, le.out, fun i hi => ?_⟩
 have e := wG le hi
 rw [e]
 split
 ·rename_i h1 h2
  rw [h1] at h2
  simp only [Option.some.injEq, Obj.cells.injEq] at h2
  obtain ⟨rfl, rfl, rfl⟩ := h2
  exact ⟨rfl, rfl, rfl, fun _ _ => rfl⟩
 ·rename_i h1 h2
  rw [h1] at h2
  simp only [Option.some.injEq, Obj.map.injEq] at h2
  exact Or.inr ⟨h2.1.symm, h2.2.symm⟩
 rfl
theorem LR (le : Le S K w ue w' M') {a : Addr} (ha : a.block < w.heap.size) : w'.frozen? a = w.frozen? a := by
 unfold World.frozen?
 rw [wG le ha]
end
section
variable {H : Type} {enc : TypeId × Value → H} {P : Program}
theorem tY (hl : laidOutB P = true) {w w' : World} {sp : Nat → Bool} : ∀ {ts : List TypeId} {vs : List Value} {ds : List (DataW H)} {ps : List MemPlace}, (∀ t ∈ ts, P.readableRec t = true ∧ t < P.types.size) →
    DataW.TrodAll enc P w 0 (fun _ => true) true ts vs ds ps → (∀ p ∈ ps, w.sameAt w' p) → (∀ p ∈ ps, sp p.block = true) → DataW.TrodAll enc P w' 0 sp true ts vs ds ps
  | [], [], [], _, _, h, _, _ => h
  | t :: ts, v :: vs, d :: ds, _, ht, ⟨p, q, h1, h2, e⟩, hs, hsp => by
    subst e
    have h0 := ht t List.mem_cons_self
    exact ⟨p, q, Go.WideElems.Trod_stays hl h0.1 h0.2 h1 (fun x hx => hs x (List.mem_append_left _ hx)) (fun x hx => hsp x (List.mem_append_left _ hx)),
      tY hl (fun t h => ht t (List.mem_cons_of_mem _ h)) h2 (fun x hx => hs x (List.mem_append_right _ hx)) (fun x hx => hsp x (List.mem_append_right _ hx)), rfl⟩
theorem K5 {f : Func} {s : ChangeSpec} {apart fresh handsOn again : Bool} {W W' : World} {args : Array Value} {ds : List (DataW H)} {before : List MemPlace} {S K : Nat → Prop} {M' : ay}
 (hl : laidOutB P = true) (hv : s.vars = []) (hrd : ∀ t ∈ f.params.toList, P.readableRec t = true ∧ t < P.types.size) {tb : TypeId} (htb : P.underlying tb = some .bool) (hrt : f.resultTypes = #[tb])
 (hW : DataW.Whole enc P f.params.toList s.vars apart W args.toList ds [] before) (hres : (s.fn H (ds ++ [])).results = [.lit (.bool true)]) (hargs : (s.fn H (ds ++ [])).args = ds) (hvars : (s.fn H (ds ++ [])).vars = [])
 (le : Le S K W ue W' M') : s.post enc P f apart fresh handsOn again W args (.bool true) W' := by
 have hW0 := hW
 obtain ⟨p, q, hA, hV, hb, hfz, hn⟩ := hW0
 have hlt := DataW.TrodAll.lt hA
 have hq : q = [] := by rw [hv] at hV; exact (trodVars_none hV).2
 subst hq
 have hbp : before = p := by rw [hb]; simp
 have hre : ∀ (b : Nat) (sp : Nat → Bool) (hd : Bool), DataW.TrodAll enc P W' b sp hd f.resultTypes.toList ((Value.bool true).resultList f.resultTypes.size) (s.fn H (ds ++ [])).results [] := fun b sp hd => by
  rw [hrt, hres]; exact trodAll_mk1 (shut_bool htb true)
 have har : ∀ sp : Nat → Bool, (∀ x ∈ p, sp x.block = true) → DataW.TrodAll enc P W' 0 sp true f.params.toList args.toList (s.fn H (ds ++ [])).args p := fun sp hsp => by
  rw [hargs]; exact tY hl hrd hA (fun x hx => Qu le (hlt x hx)) hsp
 have hva : ∀ sp : Nat → Bool, DataW.TrodVars enc P W' sp s.vars (s.fn H (ds ++ [])).vars [] := fun sp => by
  rw [hvars, hv]; exact rfl
 have hok : ∀ (j : Nat) (t : TypeId) (r : Value), f.resultTypes[j]? = some t → ((Value.bool true).resultList f.resultTypes.size)[j]? = some r → Value.okWide P W' .any 0 t r := by
  exact ok_one (by rw [hrt]) rfl (okWide_bool_mk htb true)
 refine ⟨ds, [], before, [], p, [], hW, hre _ _ _, har _ (fun x hx => by simpa using hlt x hx), hva _, World.keptBut_mono (fun x hx => hx) (QX le _), fun _ => ?_⟩
 refine ⟨hok, _, _, ([] ++ p) ++ [], ⟨[] ++ p, [], trodAll_append (har _ (fun _ _ => rfl)) (hre _ _ _), hva _, rfl, ?_, ?_⟩, ?_⟩
 ·intro b off hp
  have hp' : MemPlace.cell b off ∈ p := by simpa using hp
  rw [LR le (hlt _ hp')]
  exact hfz b off (by rw [hbp]; exact hp')
 ·intro ha
  have := hn ha
  rw [hbp] at this
  simpa using this
 intro x hx _
 rw [hbp]
 simpa using hx
end
end Go.T
namespace Go.Proofs.YtmmcenjknimhbaaGreat
open Go Go.T Go.RowKit Go.ChangeShapes Go.WideShapes Go.ChangeAt
theorem U4 : Rd Tryz.prog 5 KJ := ⟨by kernel_rfl, by decide, fun h => by
 obtain ⟨i, rfl, _⟩ := DataW.trod_int Tryz.underlying5 h
 exact ⟨i, rfl, trivial⟩⟩
section
variable {H : Type} {enc : TypeId × Value → H} {W : World} {base : Nat} {held : Bool} {v : Value} {d : DataW H} {p : List MemPlace}
set_option maxRecDepth 100000 in
theorem HU (hv : Value.okWide Tryz.prog W .any base 22 v) (h : DataW.Trod enc Tryz.prog W 0 (fun _ => true) held 22 v d p) : ∃ l, (Ty.sl KJ l).den W ue v := by
 obtain ⟨a, len, cap, rfl⟩ := okWide_slice Tryz.underlying22 hv
 obtain ⟨n, hn⟩ := h
 exact SW U4 Tryz.underlying22 (by simpa [Value.cells] using hn)
end
end Go.Proofs.YtmmcenjknimhbaaGreat
