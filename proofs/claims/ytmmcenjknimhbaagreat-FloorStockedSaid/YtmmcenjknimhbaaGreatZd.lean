/- Lemmas: the program and the reference walked, plain laws. -/
import Derived.Test.YtmmcenjknimhbaaGreatZc
namespace Go.Proofs.YtmmcenjknimhbaaGreat
open Go Go.T
set_option maxHeartbeats 8000000
def VL : El Unit := El.mk' 1 (fun _ => [Ty.ex (.slice none 0 0)]) (fun _ => rfl) (fun _ => ⟨rfl, rfl, rfl⟩)
section
variable {y : bu} {a : ew} {b d i k : Nat}
theorem Tf (hr : y.dh) (hi : i < y.moves.length) (h : ¬ (nth y.moves i).src = -1) : ∃ f : Nat, (nth y.moves i).src = f ∧ f < y.bins.length := by
 have := (hr.move _ (bL hi)).2.1
 exact ⟨(nth y.moves i).src.toNat, by omega, by omega⟩
theorem So (hr : y.dh) (hi : i < y.moves.length) (h : ¬ (nth y.moves i).dst = -1) : ∃ f : Nat, (nth y.moves i).dst = f ∧ f < y.bins.length := by
 have := (hr.move _ (bL hi)).2.2.1
 exact ⟨(nth y.moves i).dst.toNat, by omega, by omega⟩
end
attribute [local irreducible] fL qG pG jW g8 D6 BK xg n9 um
attribute [local irreducible] eH cZ jR j7 eP eO eK eS eJ j8 eN j4 b8 dc j0 dZ j5 nth eZ cU aV cX bodyPost Exit.then Exit.inBlock Code.wp Code.wpIn dU m7 mo m6 fT mw m0 fV mY eB fO lu bW bV bodyPostM cV
attribute [local irreducible] Uw VI VY Vm Du
set_option maxRecDepth 100000 in
theorem Qq (y : bu) (a : ew) (hr : y.dh) (ha : uR y a) : cX Tryz.prog 38 [z7 y, Ru a] (Ty.sl uC (g8 y a)) := by
 refine aY Tryz.func38 rfl (by decide) Tryz.ntmps38 (by exact Nat.le_of_ble_eq_true rfl) fun w0 M0 => ?_
 have h1 := hr.bins
 have h2 := hr.days
 have h3 := D_eq hr
 have h4 := hr.moves
 have hlf := ha.lens.first
 have hlm := ha.lens.bM
 refine aF (aA (bC rfl (bC rfl (mP rfl (aD (aC (aF (aA ?_))))))))
 refine aP rfl rfl rfl rfl rfl (by decide) ?_
 refine aK rfl rfl rfl rfl (cC rfl rfl rfl ?_)
 refine EP (E := VL) (x0 := ()) rfl rfl rfl rfl rfl rfl rfl (by decide) rfl (by omega) (by (dsimp only; omega)) (by omega) ?_
 refine VE rfl (aD (aC (aF (aF ?_))))
 have hDn : ((y.bins.length : Int)).toNat = y.bins.length := Int.toNat_natCast _
 refine ju (tg := 15) rfl (Cont.dF (congrArg (fun n => List.replicate n ()) hDn)) ?_
 refine ju (tg := 15) rfl (SO (E := dN) (Tb := 3) (J := 5000) (by omega) (fun _ => rfl)) ?_
 refine ju (tg := 15) rfl (Cont.kO (Mj (y := y) (a := a))) ?_
 refine mq (s := 5) rfl (Ty.sub_eq (congrArg (Ty.vs 15) hDn)) ?_
 refine aA (FR rfl (nY rfl rfl rfl (bF rfl (aD (aC (af ?_))))))
 refine cK (fun (k : {k : Nat // k ≤ y.bins.length}) => live [(2, Ty.pp (iF y)), (3, Ty.pp (oX a)), (5, Ty.vs 15 y.bins.length), (16, Ty.int .i64 y.bins.length), (17, Ty.int .i64 (k.1 : Nat))] [(15, Cont.mx dN 23 3 5000 (BK y a k.1))]) (fun k => y.bins.length - k.1) (⟨0, by omega⟩) ?_ fun k => ?_
 ·(refine c8.mk' ?_ ?_ <;> (repeat' (first | exact aI | exact aH | refine aB ?_ (Ty.aR _) | refine aB ?_ (Ty.aG _) | refine aJ rfl (Cont.aG _) ?_)))
  all_goals trace_state
 have hk := k.2
 refine aF (aA (ak rfl rfl rfl (aD (aC (aF ?_)))))
 refine aa rfl (fun hc1 => ?_) (fun hc1 => ?_)
 ·refine bA (aC (aF (af (aF (aA (bF rfl (b9 rfl (aD (aC (aA (FR rfl (bF rfl ?_))))))))))))
  refine aP rfl rfl rfl rfl rfl (by decide) ?_
  refine aK rfl rfl rfl rfl (bF rfl ?_)
  refine bG rfl rfl rfl rfl rfl rfl (by omega) ?_
  refine aK rfl rfl rfl rfl ?_
  refine yj (E := dN) (xs := [nth a.first k.1]) rfl rfl rfl rfl rfl (by decide) (by decide) (by repeat (first | exact (aT.nil : aT _ _ [] _) | (show aT _ _ ((_, _) :: _) _; apply aT.one; (· exact (rfl : _ = Ty.int _ _)); (· exact rfl)))) (by exact rfl) rfl rfl ?_
  refine eE rfl rfl rfl rfl rfl (by omega) ?_
  refine JQ (i := k.1) rfl (by exact Nat.mul_one _) rfl (by decide) rfl rfl rfl (by rw [Nw]; omega) (by decide) (by decide) rfl rfl ?_
  refine aD (bH (aC (aA ?_)))
  refine bz rfl rfl (by omega) (by omega) ?_
  refine bF rfl (aD ?_)
  refine bO (⟨k.1 + 1, by omega⟩) ?_ (by show y.bins.length - (k.1 + 1) < y.bins.length - k.1; omega)
  (refine c8.mk' ?_ ?_ <;> (repeat' (first | exact aI | exact aH | refine aB ?_ (Ty.aR _) | refine aB ?_ (Ty.aG _) | refine aJ rfl ?_ ?_)))
  all_goals skip
  all_goals exact Cont.kO (No hr (by omega))
 refine cF (aL (aL (ah rfl (aC (aF (aF ?_))))))
 obtain ⟨k, hk⟩ := k
 obtain rfl : k = y.bins.length := by have h1 : ¬ (k : Int) < (y.bins.length : Int) := hc1; have h2 : k ≤ y.bins.length := hk; omega
 refine ju (tg := 15) rfl (Cont.kO (O8 (y := y) (a := a) (Nat.le_refl _))) ?_
 refine aA ?_
 refine aP rfl rfl rfl rfl rfl (by decide) ?_
 refine aK rfl rfl rfl rfl (bF rfl (aD (aC (af ?_))))
 refine cK (fun (d : {d : Nat // d ≤ y.D}) => live [(2, Ty.pp (iF y)), (3, Ty.pp (oX a)), (5, Ty.vs 15 y.bins.length), (31, Ty.int .i64 y.days), (32, Ty.int .i64 (d.1 : Nat))] [(15, Cont.mx dN 23 3 5000 (D6 y a d.1))]) (fun d => y.D - d.1) (⟨0, by omega⟩) ?_ fun d => ?_
 ·(refine c8.mk' ?_ ?_ <;> (repeat' (first | exact aI | exact aH | refine aB ?_ (Ty.aR _) | refine aB ?_ (Ty.aG _) | refine aJ rfl (Cont.aG _) ?_)))
  all_goals trace_state
 have hd := d.2
 refine aF (aA (ak rfl rfl rfl (aD (aC (aF ?_)))))
 refine aa rfl (fun hc2 => ?_) (fun hc2 => ?_)
 ·refine bA (aC (aF (af (aF (aA (bF rfl (b9 rfl (aD (aC (aF (aF (aA (FR rfl (nY rfl rfl rfl (bF rfl ?_)))))))))))))))
  refine aD (aC (af ?_))
  refine cK (fun (b : {b : Nat // b ≤ y.bins.length}) => live [(2, Ty.pp (iF y)), (3, Ty.pp (oX a)), (5, Ty.vs 15 y.bins.length), (31, Ty.int .i64 y.days), (32, Ty.int .i64 (d.1 : Nat)), (7, Ty.int .i64 (d.1 : Nat)), (36, Ty.int .i64 y.bins.length), (37, Ty.int .i64 (b.1 : Nat))] [(15, Cont.mx dN 23 3 5000 (xg y a d.1 b.1))]) (fun b => y.bins.length - b.1) (⟨0, by omega⟩) ?_ fun b => ?_
  ·(refine c8.mk' ?_ ?_ <;> (repeat' (first | exact aI | exact aH | refine aB ?_ (Ty.aR _) | refine aB ?_ (Ty.aG _) | refine aJ rfl ?_ ?_)))
   all_goals exact Cont.kO (K1 (y := y) (a := a))
  have hb := b.2
  have hml := Ni (y := y) (a := a) (d := d.1) (k := b.1)
  refine aF (aA (ak rfl rfl rfl (aD (aC (aF ?_)))))
  refine aa rfl (fun hc3 => ?_) (fun hc3 => ?_)
  ·refine bA (aC (aF (af (aF (aA (bF rfl (b9 rfl (aD (aC ?_)))))))))
   have hb2 : b.1 < y.bins.length := by omega
   have hmn := O6 (y := y) (a := a) (d := d.1) hb2
   have hrl := l6 (y := y) (a := a) (b := b.1) (d := d.1)
   refine cg mixed rfl (FR rfl (bF rfl (FR rfl (bF rfl ?_))))
   refine eE rfl rfl rfl rfl rfl (by omega) ?_
   refine tE b.1 rfl (by exact Nat.mul_one _) rfl (by decide) rfl rfl (by omega) ?_
   refine FR rfl (bF rfl ?_)
   refine eE rfl rfl rfl rfl rfl (by omega) ?_
   refine tE b.1 rfl (by exact Nat.mul_one _) rfl (by decide) rfl rfl (by omega) ?_
   refine bF rfl ?_
   refine ng (j := d.1) rfl rfl rfl rfl rfl (by rw [hmn]; omega) ?_
   refine xh (j := d.1) (o := 0) (ty := Ty.int .i64 (fL y a b.1 d.1)) rfl rfl rfl rfl (by rw [hmn]; omega) (by rw [hmn, wR (Nat.le_refl _)]; rfl) ?_
   refine bT (E := dN) (xs := [fL y a b.1 d.1]) rfl rfl rfl rfl rfl (by decide) (by decide) (by repeat (first | exact (aT.nil : aT _ _ [] _) | (show aT _ _ ((_, _) :: _) _; apply aT.one; (· exact (rfl : _ = Ty.int _ _)); (· exact rfl)))) (by exact rfl) rfl ?_
   refine F7 (i := b.1) (by omega) rfl rfl rfl (by decide) (by decide) rfl Nat.zero_lt_one rfl rfl rfl rfl rfl (by decide) (by rw [hmn]; simp only [hrl, List.length_singleton]; show (d.1 + 1 + 1) * 8 ≤ _; omega) (by rw [hmn]; simp only [hrl, List.length_singleton]; omega) ?_
   refine eE rfl rfl rfl rfl rfl (by omega) ?_
   refine Ij (i := b.1) rfl (by exact Nat.mul_one _) rfl (by decide) rfl rfl rfl (by omega) (by decide) ?_
   refine aD ?_
   refine ⟨by kernel_rfl, ?_⟩
   refine bH (aC ?_)
   refine ju (tg := 15) rfl (Cont.kO (congrArg (fun r => (xg y a d.1 b.1).set b.1 (r ++ [fL y a b.1 d.1])) hmn)) ?_
   refine aA ?_
   refine bz rfl rfl (by omega) (by omega) ?_
   refine bF rfl (aD ?_)
   refine bO (⟨b.1 + 1, by omega⟩) ?_ (by show y.bins.length - (b.1 + 1) < y.bins.length - b.1; omega)
   (refine c8.mk' ?_ ?_ <;> (repeat' (first | exact aI | exact aH | refine aB ?_ (Ty.aR _) | refine aB ?_ (Ty.aG _) | refine aJ rfl ?_ ?_)))
   all_goals skip
   all_goals exact Cont.kO (Pv (by omega))
  refine cF (aL (aL (ah rfl (aC (aF ?_)))))
  obtain ⟨b, hb⟩ := b
  obtain rfl : b = y.bins.length := by have h1 : ¬ (b : Int) < (y.bins.length : Int) := hc3; have h2 : b ≤ y.bins.length := hb; omega
  refine ju (tg := 15) rfl (Cont.kO (PO (y := y) (a := a) (d := d.1) (Nat.le_refl _))) ?_
  refine aA ?_
  refine aP rfl rfl rfl rfl rfl (by decide) ?_
  refine aK rfl rfl rfl rfl (cC rfl rfl rfl (bF rfl (aD (aC (af ?_)))))
  refine cK (fun (i : {i : Nat // i ≤ y.moves.length}) => live [(2, Ty.pp (iF y)), (3, Ty.pp (oX a)), (5, Ty.vs 15 y.bins.length), (31, Ty.int .i64 y.days), (32, Ty.int .i64 (d.1 : Nat)), (7, Ty.int .i64 (d.1 : Nat)), (58, Ty.sl iY y.moves), (59, Ty.int .i64 y.moves.length), (60, Ty.int .i64 (i.1 : Nat))] [(15, Cont.mx dN 23 3 5000 (n9 y a d.1 i.1))]) (fun i => y.moves.length - i.1) (⟨0, by omega⟩) ?_ fun i => ?_
  ·(refine c8.mk' ?_ ?_ <;> (repeat' (first | exact aI | exact aH | refine aB ?_ (Ty.aR _) | refine aB ?_ (Ty.aG _) | refine aJ rfl (Cont.aG _) ?_)))
   all_goals trace_state
  have hi := i.2
  refine aF (aA (ak rfl rfl rfl (aD (aC (aF ?_)))))
  refine aa rfl (fun hc4 => ?_) (fun hc4 => ?_)
  ·refine bA (aC (aF (af (aF (aA (bF rfl ?_))))))
   refine bG rfl rfl rfl rfl rfl rfl (by omega) ?_
   refine ay rfl rfl rfl (by exact Nat.le_of_ble_eq_true rfl) ?_
   refine dB rfl (by exact List.cons_ne_nil _ _) rfl ?_
   refine b9 rfl ?_
   refine eG rfl rfl (by decide) rfl rfl rfl rfl rfl rfl ?_
   refine aD (aC (aF (aF (aA ?_))))
   refine aS rfl rfl rfl rfl rfl (by decide) ?_
   refine aj rfl rfl (by decide) rfl rfl rfl ?_
   refine bF rfl (ak rfl rfl rfl (aD (aC ?_)))
   refine ck rfl (fun hc5 => ?_) (fun hc5 => ?_)
   ·refine cF (aL (ah rfl (aC (aA ?_))))
    refine bz rfl rfl (by omega) (by omega) ?_
    refine bF rfl (aD ?_)
    refine bO (⟨i.1 + 1, by omega⟩) ?_ (by show y.moves.length - (i.1 + 1) < y.moves.length - i.1; omega)
    (refine c8.mk' ?_ ?_ <;> (repeat' (first | exact aI | exact aH | refine aB ?_ (Ty.aR _) | refine aB ?_ (Ty.aG _) | refine aJ rfl ?_ ?_)))
    all_goals skip
    all_goals exact Cont.kO (Nj (by simpa using hc5))
   refine bA (aC ?_)
   refine qh (J := live [(2, Ty.pp (iF y)), (3, Ty.pp (oX a)), (5, Ty.vs 15 y.bins.length), (31, Ty.int .i64 y.days), (32, Ty.int .i64 (d.1 : Nat)), (7, Ty.int .i64 (d.1 : Nat)), (58, Ty.sl iY y.moves), (59, Ty.int .i64 y.moves.length), (60, Ty.int .i64 (i.1 : Nat)), (9, Ty.int .i64 (i.1 : Nat)), (10, Ty.ptr 11 0)] [(11, Cont.cells 50 (iY.tys (nth y.moves i.1))), (15, Cont.mx dN 23 3 5000 (um y a d.1 i.1))]) ?_ ?_
   ·refine aF ?_
    have hde : (nth y.moves i.1).day = (d.1 : Nat) := by simpa using hc5
    have hi2 : i.1 < y.moves.length := by omega
    have hacl := Ph (y := y) (a := a) (d := d.1) (i := i.1)
    have hhal := F1 (y := y) (a := a) (d := d.1) (i := i.1)
    have hmv := ha.bM _ (bL (show i.1 < a.bM.length by omega))
    refine aA ?_
    refine aS rfl rfl rfl rfl rfl (by decide) ?_
    refine aj rfl rfl (by decide) rfl rfl rfl ?_
    refine ak rfl rfl rfl (aD (aC ?_))
    refine ck rfl (fun hc6 => ?_) (fun hc6 => ?_)
    ·obtain ⟨f, hfe, hf⟩ := Tf hr hi2 (by simpa using hc6)
     have hat := SM (y := y) (a := a) (d := d.1) (i := i.1) hf
     have hav := KT (d := d.1) (i := i.1) hr ha hf (by omega)
     refine ju (tg := 11) rfl (Cont.qL (l' := [Ty.int .i64 (nth y.moves i.1).day, Ty.int .i64 ((f : Nat) : Int), Ty.int .i64 (nth y.moves i.1).dst, Ty.int .i64 (nth y.moves i.1).sacks.lo, Ty.int .i64 (nth y.moves i.1).sacks.hi]) ⟨Ty.aG _, Ty.bJ hfe, Ty.aG _, Ty.aG _, Ty.aG _, trivial⟩) ?_
     refine cg mixed rfl (FR rfl ?_)
     refine aS rfl rfl rfl rfl rfl (by decide) ?_
     refine aj rfl rfl (by decide) rfl rfl rfl ?_
     refine eE rfl rfl rfl rfl rfl (by omega) ?_
     refine tE f rfl (by exact Nat.mul_one _) rfl (by decide) rfl rfl (by omega) ?_
     refine bF rfl ?_
     refine bz rfl rfl (by omega) (by omega) ?_
     refine ng (j := d.1 + 1) rfl rfl rfl rfl rfl (by omega) ?_
     refine xh (j := d.1 + 1) (o := 0) (ty := Ty.int .i64 (qG y a d.1 i.1 f)) rfl rfl rfl rfl (by omega) (by rw [hat.2]; rfl) ?_
     refine aP rfl rfl rfl rfl rfl (by decide) ?_
     refine aK rfl rfl rfl rfl (bF rfl ?_)
     refine bG rfl rfl rfl rfl rfl rfl (by omega) ?_
     refine aK rfl rfl rfl rfl ?_
     refine iZ rfl rfl (by omega) (by omega) ?_
     refine ng (j := d.1 + 1) rfl rfl rfl rfl rfl (by omega) ?_
     refine A5 (j := d.1 + 1) (o := 0) (ty := Ty.int .i64 (qG y a d.1 i.1 f - nth a.bM i.1)) (z := qG y a d.1 i.1 f - nth a.bM i.1) rfl rfl rfl (by decide) rfl rfl rfl rfl (by omega) (by omega) (by decide) rfl rfl rfl (by decide) ?_
     refine aD ?_
     refine ⟨by kernel_rfl, ?_⟩
     refine iC ?_
     (refine c8.mk' ?_ ?_ <;> (repeat' (first | exact aI | exact aH | exact dI | refine aB ?_ (Ty.aR _) | refine aB ?_ (Ty.aG _) | refine aJ rfl (Cont.dJ ?_) ?_ | refine bX ?_ (Ty.aG _) | refine bX ?_ ?_ | refine aJ rfl ?_ ?_)))
     all_goals first | exact Cont.kO (Qu hf hfe) | exact Ty.bJ hfe.symm
    refine bA (iC ?_)
    (refine c8.mk' ?_ ?_ <;> (repeat' (first | exact aI | exact aH | refine aB ?_ (Ty.aR _) | refine aB ?_ (Ty.aG _) | refine aJ rfl (Cont.aG _) ?_ | refine aJ rfl ?_ ?_)))
    all_goals exact Cont.kO (NQ (by simpa using hc6))
   refine aF ?_
   have hde : (nth y.moves i.1).day = (d.1 : Nat) := by simpa using hc5
   have hi2 : i.1 < y.moves.length := by omega
   have hhal := F1 (y := y) (a := a) (d := d.1) (i := i.1)
   have hmv := ha.bM _ (bL (show i.1 < a.bM.length by omega))
   refine aA ?_
   refine aS rfl rfl rfl rfl rfl (by decide) ?_
   refine aj rfl rfl (by decide) rfl rfl rfl ?_
   refine ak rfl rfl rfl (aD (aC ?_))
   refine ck rfl (fun hc7 => ?_) (fun hc7 => ?_)
   ·obtain ⟨f, hfe, hf⟩ := So hr hi2 (by simpa using hc7)
    have hat := Sb (y := y) (a := a) (d := d.1) (i := i.1) hf
    have hav := QH (d := d.1) (i := i.1) hr ha hf (by omega)
    refine ju (tg := 11) rfl (Cont.qL (l' := [Ty.int .i64 (nth y.moves i.1).day, Ty.int .i64 (nth y.moves i.1).src, Ty.int .i64 ((f : Nat) : Int), Ty.int .i64 (nth y.moves i.1).sacks.lo, Ty.int .i64 (nth y.moves i.1).sacks.hi]) ⟨Ty.aG _, Ty.aG _, Ty.bJ hfe, Ty.aG _, Ty.aG _, trivial⟩) ?_
    refine cg mixed rfl (FR rfl ?_)
    refine aS rfl rfl rfl rfl rfl (by decide) ?_
    refine aj rfl rfl (by decide) rfl rfl rfl ?_
    refine eE rfl rfl rfl rfl rfl (by omega) ?_
    refine tE f rfl (by exact Nat.mul_one _) rfl (by decide) rfl rfl (by omega) ?_
    refine bF rfl ?_
    refine bz rfl rfl (by omega) (by omega) ?_
    refine ng (j := d.1 + 1) rfl rfl rfl rfl rfl (by omega) ?_
    refine xh (j := d.1 + 1) (o := 0) (ty := Ty.int .i64 (pG y a d.1 i.1 f)) rfl rfl rfl rfl (by omega) (by rw [hat.2]; rfl) ?_
    refine aP rfl rfl rfl rfl rfl (by decide) ?_
    refine aK rfl rfl rfl rfl (bF rfl ?_)
    refine bG rfl rfl rfl rfl rfl rfl (by omega) ?_
    refine aK rfl rfl rfl rfl ?_
    refine bz rfl rfl (by omega) (by omega) ?_
    refine ng (j := d.1 + 1) rfl rfl rfl rfl rfl (by omega) ?_
    refine A5 (j := d.1 + 1) (o := 0) (ty := Ty.int .i64 (pG y a d.1 i.1 f + nth a.bM i.1)) (z := pG y a d.1 i.1 f + nth a.bM i.1) rfl rfl rfl (by decide) rfl rfl rfl rfl (by omega) (by omega) (by decide) rfl rfl rfl (by decide) ?_
    refine aD ?_
    refine ⟨by kernel_rfl, ?_⟩
    refine bH (aC (aA ?_))
    refine bz rfl rfl (by omega) (by omega) ?_
    refine bF rfl (aD ?_)
    refine bO (⟨i.1 + 1, by omega⟩) ?_ (by show y.moves.length - (i.1 + 1) < y.moves.length - i.1; omega)
    (refine c8.mk' ?_ ?_ <;> (repeat' (first | exact aI | exact aH | refine aB ?_ (Ty.aR _) | refine aB ?_ (Ty.aG _) | refine aJ rfl ?_ ?_)))
    all_goals skip
    all_goals exact Cont.kO (RG hde hf hfe)
   refine bA (bH (aC (aA ?_)))
   refine bz rfl rfl (by omega) (by omega) ?_
   refine bF rfl (aD ?_)
   refine bO (⟨i.1 + 1, by omega⟩) ?_ (by show y.moves.length - (i.1 + 1) < y.moves.length - i.1; omega)
   (refine c8.mk' ?_ ?_ <;> (repeat' (first | exact aI | exact aH | refine aB ?_ (Ty.aR _) | refine aB ?_ (Ty.aG _) | refine aJ rfl ?_ ?_)))
   all_goals skip
   all_goals exact Cont.kO (Pe hde (by simpa using hc7))
  refine cF (aL (aL (ah rfl (bH (aC ?_)))))
  obtain ⟨i, hi⟩ := i
  obtain rfl : i = y.moves.length := by have h1 : ¬ (i : Int) < (y.moves.length : Int) := hc4; have h2 : i ≤ y.moves.length := hi; omega
  refine ju (tg := 15) rfl (Cont.kO (QL (y := y) (a := a) (d := d.1) rfl)) ?_
  refine aA ?_
  refine bz rfl rfl (by omega) (by omega) ?_
  refine bF rfl (aD ?_)
  refine bO (⟨d.1 + 1, by omega⟩) ?_ (by show y.D - (d.1 + 1) < y.D - d.1; omega)
  (refine c8.mk' ?_ ?_ <;> (repeat' (first | exact aI | exact aH | refine aB ?_ (Ty.aR _) | refine aB ?_ (Ty.aG _) | refine aJ rfl (Cont.aG _) ?_)))
  all_goals skip
  all_goals trace_state
 refine cF (aL (aL (ah rfl (aC (aF ?_)))))
 obtain ⟨d, hd⟩ := d
 obtain rfl : d = y.D := by have h1 : ¬ (d : Int) < y.days := hc2; have h2 : d ≤ y.D := hd; omega
 refine ju (tg := 15) rfl (Cont.kO (Qa (y := y) (a := a) rfl)) ?_
 refine ou (tg := 5000) [] [(15, Cont.vec uC 23 (g8 y a))] (by decide) rfl trivial ⟨QI rfl rfl (fun _ => rfl), trivial⟩ ?_
 have hcl : (g8 y a).length = y.bins.length := by unfold g8; rw [List.length_map, List.length_range]
 refine tW (tg := 15) [(5, Ty.sl uC (g8 y a))] (by decide) rfl ⟨SK rfl rfl hcl (by decide), trivial⟩ ?_
 refine aA (gy rfl (OU rfl (aD (aC (av (bK rfl rfl ?_))))))
 all_goals exact bN rfl rfl
 all_goals trace_state
end Go.Proofs.YtmmcenjknimhbaaGreat
namespace Go.Proofs.YtmmcenjknimhbaaGreat
open Go Go.T
set_option maxHeartbeats 8000000
def UX (n : Int) : Bool := tU n 0 300
def xQ (y : bu) (a : ew) : Bool := !decide ((a.first.length : Int) = y.bins.length) || !decide ((a.bM.length : Int) = y.moves.length)
def xp (a : ew) : Bool := !a.first.all UX || !a.bM.all UX
def p4 (y : bu) (a : ew) : Int := if dw y = 0 then (if xQ y a = true then 2 else if xp a = true then 3 else 0) else dw y
def xI (y : bu) (a : ew) : List (List Int) := if p4 y a = 0 then g8 y a else []
section
variable {y : bu} {a : ew} {b t k : Nat} {n : Int}
theorem Rj (h : ¬ dw y = 0) : dw y = p4 y a ∧ [] = xI y a := by
 have e : dw y = p4 y a := by unfold p4; rw [if_neg h]
 exact ⟨e, by unfold xI; rw [← e, if_neg h]⟩
theorem R8 (h : dw y = 0) (h2 : xQ y a = true) : 2 = p4 y a ∧ [] = xI y a := by
 have e : 2 = p4 y a := by unfold p4; rw [if_pos h, if_pos h2]
 exact ⟨e, by unfold xI; rw [← e, if_neg (by decide)]⟩
theorem R6 (h : dw y = 0) (h2 : xQ y a = false) (h3 : xp a = true) : 3 = p4 y a ∧ [] = xI y a := by
 have e : 3 = p4 y a := by unfold p4; rw [if_pos h, if_neg (by rw [h2]; decide), if_pos h3]
 exact ⟨e, by unfold xI; rw [← e, if_neg (by decide)]⟩
theorem R2 (h : dw y = 0) (h2 : xQ y a = false) (h3 : xp a = false) : 0 = p4 y a ∧ g8 y a = xI y a := by
 have e : 0 = p4 y a := by unfold p4; rw [if_pos h, if_neg (by rw [h2]; decide), if_neg (by rw [h3]; decide)]
 exact ⟨e, by unfold xI; rw [← e, if_pos rfl]⟩
theorem Ci (h2 : xQ y a = false) (h3 : xp a = false) : uR y a := by
 refine ⟨Oa h2, ?_, ?_⟩ <;>
 ·unfold xp at h3
  rw [Bool.or_eq_false_iff, Bool.not_eq_false', Bool.not_eq_false'] at h3
  intro x hx
  first | exact fG.1 (List.all_eq_true.1 h3.1 x hx) | exact fG.1 (List.all_eq_true.1 h3.2 x hx)
theorem Sl (h : p4 y a = 0) : y.dh ∧ uR y a := by
  unfold p4 at h
  by_cases h0 : dw y = 0
  · rw [if_pos h0] at h
    cases h2 : xQ y a with
    | true => rw [h2, if_pos rfl] at h; cases h
    | false =>
      rw [h2, if_neg (by decide)] at h
      cases h3 : xp a with
      | true => rw [h3, if_pos rfl] at h; cases h
      | false => exact ⟨Cg h0, Ci h2 h3⟩
  · rw [if_neg h0] at h; exact absurd h h0
theorem Me : (g8 y a).length = y.bins.length := by unfold g8; rw [List.length_map, List.length_range]
theorem CS (h : b < y.bins.length) : nth (g8 y a) b = jW y a b y.D := by unfold g8; exact jM _ h
def Dw (y : bu) (a : ew) (b : Nat) : Prop := ((nth y.bins b).first.lo ≤ nth a.first b ∧ nth a.first b ≤ (nth y.bins b).first.hi) ∧ ∀ t : Nat, t ≤ y.D → 0 ≤ fL y a b t ∧ fL y a b t ≤ (nth y.bins b).holds
end
attribute [local irreducible] fL jW g8 xQ xp p4 xI dw
attribute [local irreducible] eH cZ jR j7 eP eO eK eS eJ j8 eN j4 b8 dc j0 dZ j5 nth eZ cU aV cX bodyPost Exit.then Exit.inBlock Code.wp Code.wpIn dU m7 mo m6 fT mw m0 fV mY eB fO lu bW bV bodyPostM cV
set_option maxRecDepth 100000 in
theorem N6 (n : Int) : cX Tryz.prog 34 [Ty.int .i64 n] (Ty.bool (UX n)) := by
 refine aY Tryz.func34 rfl (by decide) Tryz.ntmps34 (by exact Nat.le_of_ble_eq_true rfl) fun w0 M0 => ?_
 refine aF (aA (dG rfl (aD (aC (aF (aA (bF rfl (aq (vk _ _ _) rfl rfl rfl rfl rfl (dG rfl (aD (aC (av (bK rfl rfl ?_)))))))))))))
 all_goals exact bN rfl rfl
 all_goals trace_state
set_option maxRecDepth 100000 in
theorem Jb (y : bu) (hs : y.Small) (a : ew) (h1 : a.first.length ≤ 1000) (h2 : a.bM.length ≤ 1000) : cX Tryz.prog 10 [z7 y, Ru a] (Ty.s8 [Ty.sl uC (xI y a), Ty.int .i64 (p4 y a)]) := by
 refine aY Tryz.func10 rfl (by decide) Tryz.ntmps10 (by exact Nat.le_of_ble_eq_true rfl) fun w0 M0 => ?_
 have g1 := hs.bins
 have g2 := hs.moves
 refine aF (aA (bC rfl (bC rfl (mP rfl (b9 rfl (aD (aC (aF (aA (Vl rfl (aD (aC (aF (aA ?_))))))))))))))
 refine ay rfl rfl rfl (by exact Nat.le_of_ble_eq_true rfl) ?_
 refine aq (Og y hs) rfl rfl rfl rfl rfl (b9 rfl (aD (aC (aF (af (aF (aA (bF rfl (ak rfl rfl rfl (dG rfl (aD (aC ?_))))))))))))
 refine ck rfl (fun hc1 => ?_) (fun hc1 => ?_)
 ·refine aF (aA (bF rfl (mP rfl (b9 rfl (aD (aC (av (au (aW ?_)))))))))
  refine iB rfl rfl rfl ?_ ?_
  all_goals skip
  all_goals first | exact gD (Rj hc1).2.symm | exact bE rfl rfl (congrArg (Ty.int .i64) (Rj hc1).1)
 refine aF (aA ?_)
 refine aP rfl rfl rfl rfl rfl (by decide) ?_
 refine aK rfl rfl rfl rfl (cC rfl rfl rfl ?_)
 refine aP rfl rfl rfl rfl rfl (by decide) ?_
 refine aK rfl rfl rfl rfl (cC rfl rfl rfl (ak rfl rfl rfl (kV rfl ?_)))
 apply aN (s := 22) rfl rfl rfl
 ·intro hg; apply aQ; (refine aP rfl rfl rfl rfl rfl (by decide) ?_); refine aD ?_; exact rfl
 ·exact rfl
 ·exact rfl
 apply aN (s := 22) rfl rfl rfl
 ·intro hg; apply aM (s := 23) rfl (by (rw [hg]; rfl)); apply aQ; (refine aK rfl rfl rfl rfl ?_); refine aD ?_; exact rfl
 ·exact rfl
 ·exact rfl
 apply aN (s := 22) rfl rfl rfl
 ·intro hg; apply aM (s := 24) rfl (by (rw [hg]; rfl)); apply aQ; (refine cC rfl rfl rfl ?_); refine aD ?_; exact rfl
 ·exact rfl
 ·exact rfl
 apply aN (s := 22) rfl rfl rfl
 ·intro hg; apply aQ; (refine aP rfl rfl rfl rfl rfl (by decide) ?_); refine aD ?_; exact rfl
 ·exact rfl
 ·exact rfl
 apply aN (s := 22) rfl rfl rfl
 ·intro hg; apply aM (s := 26) rfl (by (rw [hg]; rfl)); apply aQ; (refine aK rfl rfl rfl rfl ?_); refine aD ?_; exact rfl
 ·exact rfl
 ·exact rfl
 apply aN (s := 22) rfl rfl rfl
 ·intro hg; apply aM (s := 27) rfl (by (rw [hg]; rfl)); apply aQ; (refine cC rfl rfl rfl ?_); refine aD ?_; exact rfl
 ·exact rfl
 ·exact rfl
 apply aN (s := 22) rfl rfl rfl
 ·intro hg; apply aM (s := 25) rfl (by (rw [hg]; rfl)); apply aM (s := 28) rfl (by (rw [hg]; rfl)); apply aQ; (refine ak rfl rfl rfl ?_); refine aD ?_; exact rfl
 ·exact rfl
 ·exact rfl
 refine oB rfl rfl (dG rfl (aD (aC ?_)))
 refine c9 rfl (fun hc2 => ?_) (fun hc2 => ?_)
 ·refine aF ?_
  have hl2 : xQ y a = true := by unfold xQ; exact hc2
  refine aA (mP rfl (b9 rfl (aD (aC (av (au (aW ?_)))))))
  refine iB rfl rfl rfl ?_ ?_
  all_goals skip
  all_goals first | exact gD (R8 hc1 hl2).2.symm | exact bE rfl rfl (congrArg (Ty.int .i64) (R8 hc1 hl2).1)
 refine aF ?_
 have hl2 : xQ y a = false := by unfold xQ; exact hc2
 refine aA ?_
 refine aP rfl rfl rfl rfl rfl (by decide) ?_
 refine aK rfl rfl rfl rfl (U2 rfl ?_)
 refine aq (vM a.first (Ty.j9 34 []) rfl UX rfl rfl fun n _ => cY (N6 n) rfl rfl rfl rfl rfl rfl) rfl rfl rfl rfl rfl ?_
 refine ct rfl (kV rfl ?_)
 apply aN (s := 37) rfl rfl rfl
 ·intro hg; apply aQ; (refine aP rfl rfl rfl rfl rfl (by decide) ?_); refine aD ?_; exact rfl
 ·exact rfl
 ·exact rfl
 apply aN (s := 37) rfl rfl rfl
 ·intro hg; apply aM (s := 38) rfl (by (rw [hg]; rfl)); apply aQ; (refine aK rfl rfl rfl rfl ?_); refine aD ?_; exact rfl
 ·exact rfl
 ·exact rfl
 apply aN (s := 37) rfl rfl rfl
 ·intro hg; apply aQ; (refine U2 rfl ?_); refine aD ?_; exact rfl
 ·exact rfl
 ·exact rfl
 apply aN (s := 37) rfl rfl rfl
 ·intro hg; apply aM (s := 39) rfl (by (rw [hg]; rfl)); apply aM (s := 40) rfl (by (rw [hg]; rfl)); apply aQ; (refine aq (vM a.bM (Ty.j9 34 []) rfl UX rfl rfl fun n _ => cY (N6 n) rfl rfl rfl rfl rfl rfl) rfl rfl rfl rfl rfl ?_); refine aD ?_; exact rfl
 ·exact rfl
 ·exact rfl
 apply aN (s := 37) rfl rfl rfl
 ·intro hg; apply aM (s := 41) rfl (by (rw [hg]; rfl)); apply aQ; (refine ct rfl ?_); refine aD ?_; exact rfl
 ·exact rfl
 ·exact rfl
 refine oB rfl rfl (dG rfl (aD (aC ?_)))
 refine c9 rfl (fun hc3 => ?_) (fun hc3 => ?_)
 ·refine aF ?_
  have hr3 : xp a = true := by unfold xp; exact hc3
  refine aA (mP rfl (b9 rfl (aD (aC (av (au (aW ?_)))))))
  refine iB rfl rfl rfl ?_ ?_
  all_goals skip
  all_goals first | exact gD (R6 hc1 hl2 hr3).2.symm | exact bE rfl rfl (congrArg (Ty.int .i64) (R6 hc1 hl2 hr3).1)
 refine bA (bH (aC (aF ?_)))
 have hr3 : xp a = false := by unfold xp; exact hc3
 have hr := Cg hc1
 have ha := Ci hl2 hr3
 refine aA ?_
 refine ay rfl rfl rfl (by exact Nat.le_of_ble_eq_true rfl) ?_
 refine ay rfl rfl rfl (by exact Nat.le_of_ble_eq_true rfl) ?_
 refine aq (Qq y a hr ha) rfl rfl rfl rfl rfl (OU rfl (b9 rfl (aD (aC (av ?_)))))
 refine iB rfl rfl rfl ?_ ?_
 all_goals skip
 all_goals first | exact bE rfl rfl (congrArg (Ty.sl uC) (R2 hc1 hl2 hr3).2) | exact bE rfl rfl (congrArg (Ty.int .i64) (R2 hc1 hl2 hr3).1)
end Go.Proofs.YtmmcenjknimhbaaGreat
namespace Go.Proofs.YtmmcenjknimhbaaGreat
open Go Go.T
structure Sk where
  grain : List Int
  taken : Int
  mixed : Int
def U6 (s : Sk) : Int := IntKind.u32.wrap (bits .xor .u32 s.mixed (IntKind.u32.wrap (nth s.grain (s.taken.tmod s.grain.length).toNat)) * 16777619)
def JO (s : Sk) : Sk := if (s.grain.length : Int) > 0 then { s with mixed := U6 s } else s
def Nx (s : Sk) : Sk := { s with taken := s.taken + 1 }
def VH (s : Sk) : Int := IntKind.u32.wrap (IntKind.u32.wrap (s.mixed * 1664525) + 1013904223)
def Is (s : Sk) : Sk := if s.taken > (s.grain.length : Int) then { s with mixed := VH s } else s
def eo (s : Sk) : Sk := Is (Nx (JO s))
def pH (s : Sk) : Int := IntKind.i64.wrap (bits .and .u32 (bits .xor .u32 s.mixed (s.mixed / 2 ^ (15 : Int).toNat) / 2 ^ (8 : Int).toNat) 65535)
def Sk.Ok (s : Sk) (n : Int) : Prop := 0 ≤ s.taken ∧ s.taken + n ≤ 4611686018427387904
theorem D1 (s : Sk) : (JO s).taken = s.taken := by unfold JO; split <;> rfl
theorem EI (s : Sk) : (Is s).taken = s.taken := by unfold Is; split <;> rfl
theorem jF (s : Sk) : (eo s).taken = s.taken + 1 := by unfold eo; rw [EI, Nx, D1]
theorem B0 (a : Int) : 0 ≤ bits .and .u32 a 65535 ∧ bits .and .u32 a 65535 ≤ 65535 := by
 have e : bits .and .u32 a 65535 = IntKind.u32.wrap (((BitVec.ofInt 32 a &&& BitVec.ofInt 32 65535).toNat : Nat) : Int) := rfl
 have h1 : (BitVec.ofInt 32 a &&& BitVec.ofInt 32 65535).toNat ≤ 65535 := by
  rw [BitVec.toNat_and]
  exact Nat.and_le_right
 rw [e]
 generalize (BitVec.ofInt 32 a &&& BitVec.ofInt 32 65535).toNat = n at h1
 have : IntKind.u32.wrap (n : Int) = (n : Int) % 4294967296 := rfl
 rw [this]; omega
theorem Fm (s : Sk) : 0 ≤ pH s ∧ pH s ≤ 65535 := by
 have h := B0 (bits .xor .u32 s.mixed (s.mixed / 2 ^ (15 : Int).toNat) / 2 ^ (8 : Int).toNat)
 unfold pH
 rw [IntWalk.i64_in _ (by omega)]; exact h
def mh (s : Sk) (n : Int) : Int := (pH (eo s)).tmod (max 1 n)
theorem oa (s : Sk) (n : Int) : 0 ≤ mh s n ∧ mh s n < max 1 n ∧ mh s n ≤ 65535 := by
 have h := Fm (eo s)
 unfold mh
 have h1 : (pH (eo s)).tmod (max 1 n) = pH (eo s) % max 1 n := Int.tmod_eq_emod_of_nonneg h.1
 have h2 := Int.emod_lt_of_pos (pH (eo s)) (show 0 < max 1 n by omega)
 have h3 := Int.emod_nonneg (pH (eo s)) (show max 1 n ≠ 0 by omega)
 have h4 : pH (eo s) % max 1 n ≤ pH (eo s) := by
  have := Int.mul_ediv_add_emod (pH (eo s)) (max 1 n)
  have hq : 0 ≤ pH (eo s) / max 1 n := Int.ediv_nonneg h.1 (by omega)
  have : 0 ≤ max 1 n * (pH (eo s) / max 1 n) := Int.mul_nonneg (by omega) hq
  omega
 omega
def oO (s : Sk) (lo hi : Int) : Int := lo + mh s (hi - lo + 1)
def P6 (s : Sk) (n : Int) : Bool := decide (mh s n = 0)
def EW (xs : List Int) (i : Nat) (k : Int) : List Int := xs.take i ++ k :: xs.drop i
theorem PV {xs : List Int} {i : Nat} (h : i ≤ xs.length) (k : Int) : (EW xs i k).length = xs.length + 1 := by simp [EW]; omega
theorem PR {xs : List Int} {i : Nat} {k x : Int} : x ∈ EW xs i k ↔ x = k ∨ x ∈ xs := by
 unfold EW
 rw [List.mem_append, List.mem_cons]
 constructor
 ·rintro (h | rfl | h)
  ·exact .inr (List.mem_of_mem_take h)
  ·exact .inl rfl
  exact .inr (List.mem_of_mem_drop h)
 rintro (rfl | h)
 ·exact .inr (.inl rfl)
 rw [← List.take_append_drop i xs, List.mem_append] at h
 exact h.imp id .inr
theorem JD {xs : List Int} {i : Nat} {k : Int} (h : xs.Nodup) (hk : k ∉ xs) : (EW xs i k).Nodup := by
 unfold EW
 have h2 : (xs.take i ++ xs.drop i).Nodup := by rw [List.take_append_drop]; exact h
 rw [List.nodup_append] at h2 ⊢
 obtain ⟨a, b, c⟩ := h2
 refine ⟨a, List.nodup_cons.2 ⟨fun h => hk (List.mem_of_mem_drop h), b⟩, fun x hx y hy => ?_⟩
 rcases List.mem_cons.1 hy with rfl | hy
 ·rintro rfl; exact hk (List.mem_of_mem_take hx)
 exact c x hx y hy
def kZ (s : Sk) : Nat → List Int × Sk
  | 0 => ([], s)
  | k + 1 => (EW (kZ s k).1 (mh (kZ s k).2 ((k : Int) + 1)).toNat k, eo (kZ s k).2)
theorem xu (s : Sk) : ∀ k, (kZ s k).1.length = k ∧ (kZ s k).1.Nodup ∧ (∀ x, x ∈ (kZ s k).1 ↔ 0 ≤ x ∧ x < (k : Int)) ∧ (kZ s k).2.taken = s.taken + k
  | 0 => ⟨rfl, List.nodup_nil, fun x => ⟨fun h => (by cases h), fun h => by omega⟩, by simp [kZ]⟩
  | k + 1 => by
    obtain ⟨h1, h2, h3, h4⟩ := xu s k
    have hb := oa (kZ s k).2 ((k : Int) + 1)
    refine ⟨?_, JD h2 (fun h => by have := (h3 _).1 h; omega), fun x => ?_, ?_⟩
    · show (EW _ _ _).length = _
      rw [PV (by omega), h1]
    · show x ∈ EW _ _ _ ↔ _
      rw [PR, h3]; omega
    · show (eo _).taken = _
      rw [jF, h4]; omega
end Go.Proofs.YtmmcenjknimhbaaGreat
namespace Go.Proofs.YtmmcenjknimhbaaGreat
open Go Go.T
def bR.free (b : bR) (k : Int) : Bool := b.lots.all fun l => !decide (l.inn = k)
def bR.wanted (b : bR) (k : Int) : Bool := b.lots.any fun l => decide (l.aim = k)
def follows (b : bR) (i : Int) : Int := fidx (fun l => decide (l.inn = (nth b.lots i.toNat).aim)) b.lots
theorem I3 {α : Type} (p : α → Bool) (l : List α) : -1 ≤ fidx p l ∧ fidx p l < l.length := by
  unfold fidx
  cases h : l.findIdx? p with
  | none => exact ⟨Int.le_refl _, by show (-1 : Int) < l.length; omega⟩
  | some i =>
    have := (List.findIdx?_eq_some_iff_getElem.1 h).1
    exact ⟨by show (-1 : Int) ≤ (i : Int); omega, by show (i : Int) < l.length; omega⟩
theorem tv (b : bR) (i : Int) : -1 ≤ follows b i ∧ follows b i < b.lots.length := I3 _ _
def BF (b : bR) (i : Int) : Nat → List Int → Option (List Int)
  | 0, _ => none
  | f + 1, l => if follows b (nth l (l.length - 1)) = i ∧ 1 < l.length then some l else if follows b (nth l (l.length - 1)) ≤ i then none else
    if l.length + 1 > b.lots.length then none else BF b i f (l ++ [follows b (nth l (l.length - 1))])
def uP (b : bR) (i : Nat) : Option (List Int) := BF b i (b.lots.length + 1) [(i : Int)]
structure Rw (b : bR) (i : Nat) (l : List Int) : Prop where
  pos : 1 ≤ l.length
  len : l.length ≤ b.lots.length
  rng : ∀ x ∈ l, 0 ≤ x ∧ x < b.lots.length
  same : uP b i = BF b i (b.lots.length + 2 - l.length) l
section
variable {b : bR} {i : Nat} {l : List Int} (x : Rw b i l)
include x
theorem Rw.last : 0 ≤ nth l (l.length - 1) ∧ nth l (l.length - 1) < b.lots.length := x.rng _ (bL (by have := x.pos; omega))
theorem Rw.step : uP b i = if follows b (nth l (l.length - 1)) = i ∧ 1 < l.length then some l else if follows b (nth l (l.length - 1)) ≤ i then none else
 if l.length + 1 > b.lots.length then none else BF b i (b.lots.length + 1 - l.length) (l ++ [follows b (nth l (l.length - 1))]) := by
 have h1 := x.pos
 have h2 := x.len
 rw [x.same, show b.lots.length + 2 - l.length = (b.lots.length + 1 - l.length) + 1 by omega]; rfl
theorem Rw.found (h1 : follows b (nth l (l.length - 1)) = i) (h2 : 1 < l.length) : uP b i = some l := by rw [x.step, if_pos ⟨h1, h2⟩]
theorem Rw.stop (h1 : ¬ (follows b (nth l (l.length - 1)) = i ∧ 1 < l.length)) (h2 : follows b (nth l (l.length - 1)) ≤ i) : uP b i = none := by rw [x.step, if_neg h1, if_pos h2]
theorem Rw.Ui (h1 : ¬ (follows b (nth l (l.length - 1)) = i ∧ 1 < l.length)) (h2 : ¬ follows b (nth l (l.length - 1)) ≤ i) (h3 : b.lots.length < l.length + 1) : uP b i = none := by rw [x.step, if_neg h1, if_neg h2, if_pos h3]
theorem Rw.next (h1 : ¬ (follows b (nth l (l.length - 1)) = i ∧ 1 < l.length)) (h2 : ¬ follows b (nth l (l.length - 1)) ≤ i) (h3 : ¬ b.lots.length < l.length + 1) : Rw b i (l ++ [follows b (nth l (l.length - 1))]) := by
 refine ⟨by simp, by simp; omega, fun y hy => ?_, ?_⟩
 ·rcases List.mem_append.1 hy with h | h
  ·exact x.rng y h
  rw [List.mem_singleton.1 h]
  have := tv b (nth l (l.length - 1)); omega
 rw [x.step, if_neg h1, if_neg h2, if_neg h3, List.length_append, List.length_singleton]
 congr 1
 omega
end
end Go.Proofs.YtmmcenjknimhbaaGreat
namespace Go.Proofs.YtmmcenjknimhbaaGreat
open Go Go.T
section
variable {κ β : Type} [DecidableEq κ]
theorem B2 (q : List (κ × β)) (k : κ) (v : β) (x : κ) : x ∈ (cq q k v).map Prod.fst ↔ x = k ∨ x ∈ q.map Prod.fst := by
  induction q with
  | nil => simp [cq]
  | cons y l ih =>
    simp only [cq]
    by_cases h : y.1 = k
    · subst h; simp
    · rw [if_neg h]; simp only [List.map_cons, List.mem_cons, ih]
      constructor
      · rintro (h | h | h)
        · exact .inr (.inl h)
        · exact .inl h
        · exact .inr (.inr h)
      · rintro (h | h | h)
        · exact .inr (.inl h)
        · exact .inl h
        · exact .inr (.inr h)
theorem k7 (q : List (κ × β)) (k : κ) (v : β) (hn : (q.map Prod.fst).Nodup) : ((cq q k v).map Prod.fst).Nodup := by
  induction q with
  | nil => simp [cq]
  | cons y l ih =>
    rw [List.map_cons, List.nodup_cons] at hn
    simp only [cq]
    by_cases h : y.1 = k
    · subst h; rw [if_pos rfl, List.map_cons, List.nodup_cons]; exact hn
    · rw [if_neg h, List.map_cons, List.nodup_cons]
      refine ⟨fun hm => ?_, ih hn.2⟩
      rcases (B2 l k v y.1).1 hm with e | e
      · exact h e
      · exact hn.1 e
theorem Fj {q : List (κ × β)} {k : κ} (h : k ∈ q.map Prod.fst) : ∃ v, bf q k = some v := by
  induction q with
  | nil => cases h
  | cons y l ih =>
    simp only [bf]
    by_cases e : y.1 = k
    · exact ⟨_, if_pos e⟩
    · rw [if_neg e]; rw [List.map_cons, List.mem_cons] at h
      exact ih (h.resolve_left fun h => e h.symm)
theorem vq (q : List (κ × β)) (k : κ) (v : β) (h : bf q k = none) : (cq q k v).length = q.length + 1 := by
  induction q with
  | nil => rfl
  | cons y l ih =>
    simp only [bf] at h
    by_cases e : y.1 = k
    · rw [if_pos e] at h; cases h
    · rw [if_neg e] at h; simp only [cq, if_neg e, List.length_cons, ih h]
theorem MH {α : Type} (y : κ × List α) (l : List (κ × List α)) (k : κ) : IM (y :: l) k = if y.1 = k then l else y :: IM l k := by
  unfold IM
  rw [List.map_cons, List.findIdx?_cons]
  by_cases e : y.1 = k
  · rw [if_pos e, decide_eq_true e]; rfl
  · rw [if_neg e, decide_eq_false e]
    cases h : (l.map Prod.fst).findIdx? fun x => decide (x = k) with
    | none => simp
    | some i => simp
end
def rowAt {α : Type} (q : List (Int × List α)) (m : Int) : List α := (bf q m).getD []
theorem nH {α : Type} (q : List (Int × List α)) (n : Int) (r : List α) (m : Int) : rowAt (cq q n r) m = if n = m then r else rowAt q m := by
 unfold rowAt; rw [nJ]; split <;> rfl
def qu {α : Type} : List (Int × List α) → Int
  | [] => 0
  | x :: l => x.2.length + qu l
theorem BZ {α : Type} (q : List (Int × List α)) (n : Int) (r : List α) : qu (cq q n r) = qu q - (rowAt q n).length + r.length := by
  induction q with
  | nil => simp [cq, qu, rowAt, bf]
  | cons y l ih =>
    simp only [cq]
    by_cases e : y.1 = n
    · rw [if_pos e]; simp only [qu, rowAt, bf, if_pos e, Option.getD_some]; omega
    · rw [if_neg e]; simp only [qu, ih]
      have : rowAt (y :: l) n = rowAt l n := by simp only [rowAt, bf, if_neg e]
      rw [this]; omega
theorem NO {α : Type} (q : List (Int × List α)) (n : Int) : qu (IM q n) = qu q - (rowAt q n).length := by
  induction q with
  | nil => simp [IM, qu, rowAt, bf]
  | cons y l ih =>
    rw [MH]
    by_cases e : y.1 = n
    · rw [if_pos e]; simp only [qu, rowAt, bf, if_pos e, Option.getD_some]; omega
    · rw [if_neg e]; simp only [qu, ih]
      have : rowAt (y :: l) n = rowAt l n := by simp only [rowAt, bf, if_neg e]
      rw [this]; omega
theorem yY {α : Type} : ∀ (q : List (Int × List α)), 0 ≤ qu q
  | [] => Int.le_refl _
  | x :: l => by have := yY l; simp only [qu]; omega
theorem HN {α : Type} (q : List (Int × List α)) (n : Int) : (rowAt q n).length ≤ qu q := by
 have h1 := NO q n
 have h2 := yY (IM q n)
 omega
theorem xS {α : Type} [DecidableEq α] : ∀ {l L : List α}, l.Nodup → (∀ x ∈ l, x ∈ L) → l.length ≤ L.length
  | [], _, _, _ => Nat.zero_le _
  | x :: l, L, hn, h => by
    rw [List.nodup_cons] at hn
    have h1 := List.length_erase_of_mem (h x List.mem_cons_self)
    have h2 := xS (l := l) (L := L.erase x) hn.2 fun y hy => (List.mem_erase_of_ne (fun (e : y = x) => hn.1 (by rw [← e]; exact hy))).2 (h y (List.mem_cons_of_mem _ hy))
    have h3 := List.length_pos_of_mem (h x List.mem_cons_self)
    simp only [List.length_cons]; omega
def Rc : Nat → List (List Int)
  | 0 => [[]]
  | n + 1 => (List.range 7).flatMap fun (k : Nat) => (Rc n).map fun l => (k : Int) :: l
theorem Gr : ∀ {n : Nat} {l : List Int}, l.length = n → (∀ x ∈ l, 0 ≤ x ∧ x < 7) → l ∈ Rc n
  | 0, l, h, _ => by rw [List.length_eq_zero_iff.1 h]; exact List.mem_singleton.2 rfl
  | n + 1, [], h, _ => by cases h
  | n + 1, x :: l, h, hr => by
    have hx := hr x List.mem_cons_self
    exact List.mem_flatMap.2 ⟨x.toNat, List.mem_range.2 (by omega), List.mem_map.2 ⟨l, Gr (by simpa using h) fun y hy => hr y (List.mem_cons_of_mem _ hy), by rw [show ((x.toNat : Nat) : Int) = x by omega]⟩⟩
def gk : Nat := (Rc 6).length
abbrev Pl := VS 6
instance : Inhabited Pl := ⟨⟨[0, 0, 0, 0, 0, 0], rfl⟩⟩
def bM (p : Pl) (t : cr) : Pl := ⟨p.1.set t.dz.toNat t.aim, by rw [List.length_set]; exact p.2⟩
def mL (b : bR) (p : Pl) (k : Int) : Bool := (p.1.take b.lots.length).any fun n => decide (n = k)
def sU (b : bR) (p : Pl) (k : Nat) : List cr := if mL b p k = true then [] else ((List.range b.lots.length).filter fun (i : Nat) => b.hold k i).map fun (i : Nat) => ⟨i, k⟩
def cH (b : bR) (p : Pl) : List cr := (List.range b.sizes.length).flatMap (sU b p)
theorem yT {b : bR} {p : Pl} {k : Nat} {t : cr} : t ∈ sU b p k ↔ t.aim = k ∧ 0 ≤ t.dz ∧ t.dz < b.lots.length ∧ mL b p k = false ∧ b.hold k t.dz = true := by
  unfold sU
  cases h : mL b p k with
  | true => simp
  | false =>
    rw [if_neg (by decide), List.mem_map]
    simp only [List.mem_filter, List.mem_range]
    constructor
    · rintro ⟨i, ⟨h1, h2⟩, rfl⟩
      exact ⟨rfl, by show 0 ≤ (i : Int); omega, by show (i : Int) < _; omega, by first | rfl | trivial, h2⟩
    · rintro ⟨h1, h2, h3, _, h4⟩
      refine ⟨t.dz.toNat, ⟨by omega, by rw [show ((t.dz.toNat : Nat) : Int) = t.dz by omega]; exact h4⟩, ?_⟩
      cases t; simp only [cr.mk.injEq] at *; exact ⟨by omega, h1.symm⟩
theorem ij {b : bR} {p : Pl} {t : cr} : t ∈ cH b p ↔ 0 ≤ t.dz ∧ t.dz < b.lots.length ∧ 0 ≤ t.aim ∧ t.aim < b.sizes.length ∧ mL b p t.aim = false ∧ b.hold t.aim t.dz = true := by
 unfold cH
 rw [List.mem_flatMap]
 constructor
 ·rintro ⟨k, hk, h⟩
  rw [List.mem_range] at hk
  obtain ⟨h1, h2, h3, h4, h5⟩ := yT.1 h
  rw [h1]
  exact ⟨h2, h3, by omega, by omega, h4, h5⟩
 rintro ⟨h1, h2, h3, h4, h5, h6⟩
 have e : ((t.aim.toNat : Nat) : Int) = t.aim := by omega
 exact ⟨t.aim.toNat, List.mem_range.2 (by omega), yT.2 ⟨e.symm, h1, h2, by rw [e]; exact h5, by rw [e]; exact h6⟩⟩
def ff (b : bR) (p : Pl) : Bool := (List.range b.lots.length).all fun i => decide ((nth b.lots i).aim = -1) || decide ((nth b.lots i).aim = nth p.1 i)
def cO (b : bR) : Pl := ⟨((b.lots.map fun (l : Rv) => l.inn) ++ List.replicate 6 (0 : Int)).take 6, by rw [List.length_take, List.length_append, List.length_replicate]; omega⟩
def oz (b : bR) : Pl → List cr → Option Pl
  | p, [] => some p
  | p, t :: l => if t ∈ cH b p then oz b (bM p t) l else none
theorem qX (b : bR) : ∀ (l : List cr) (p : Pl) (l' : List cr), oz b p (l ++ l') = (oz b p l).bind fun q => oz b q l'
  | [], p, l' => rfl
  | t :: l, p, l' => by
    show (if t ∈ cH b p then oz b (bM p t) (l ++ l') else none) = Option.bind (if t ∈ cH b p then oz b (bM p t) l else none) _
    by_cases h : t ∈ cH b p
    · rw [if_pos h, if_pos h, qX b l (bM p t) l']
    · rw [if_neg h, if_neg h]; rfl
theorem RQ {b : bR} {p : Pl} {t : cr} (h : t ∈ cH b p) : oz b p [t] = some (bM p t) := if_pos h
theorem AP {b : bR} {p q : Pl} {l : List cr} {t : cr} (h1 : oz b p l = some q) (h2 : t ∈ cH b q) : oz b p (l ++ [t]) = some (bM q t) := by
 rw [qX, h1]; exact RQ h2
theorem Ei {b : bR} {p r : Pl} {l : List cr} {t : cr} (h : oz b p (l ++ [t]) = some r) : ∃ q, oz b p l = some q ∧ t ∈ cH b q ∧ r = bM q t := by
  rw [qX] at h
  cases h1 : oz b p l with
  | none => rw [h1] at h; cases h
  | some q =>
    rw [h1] at h
    have h : (if t ∈ cH b q then some (bM q t) else none) = some r := h
    by_cases h2 : t ∈ cH b q
    · rw [if_pos h2] at h; injection h with h; exact ⟨q, rfl, h2, h.symm⟩
    · rw [if_neg h2] at h; cases h
def jq (c : cr → Int) (l : List cr) : Int := (l.map c).sum
theorem qg (c : cr → Int) (l l' : List cr) : jq c (l ++ l') = jq c l + jq c l' := by
 unfold jq; rw [List.map_append, List.sum_append]
theorem xk (c : cr → Int) (t : cr) : jq c [t] = c t := by simp [jq]
theorem C9 {α : Type} : ∀ (l : List α), l = [] ∨ ∃ l' x, l = l' ++ [x]
  | [] => .inl rfl
  | x :: l => by
    rcases C9 l with h | ⟨l', y, h⟩
    · subst h; exact .inr ⟨[], x, rfl⟩
    · subst h; exact .inr ⟨x :: l', y, rfl⟩
theorem z8 {α : Type} {C : List α → Prop} (h0 : C []) (h1 : ∀ l x, C l → C (l ++ [x])) : ∀ l, C l := by
  intro l
  have key : ∀ n (l : List α), l.length = n → C l := by
    intro n
    induction n with
    | zero => intro l h; rw [List.length_eq_zero_iff.1 h]; exact h0
    | succ n ih =>
      intro l h
      rcases C9 l with e | ⟨l', x, e⟩
      · subst e; cases h
      · subst e; exact h1 l' x (ih l' (by simpa using h))
  exact key _ l rfl
def u0 (p : Pl) : Prop := ∀ x ∈ p.1, 0 ≤ x ∧ x < 7
theorem JR {b : bR} (h : b.dh) : u0 (cO b) := fun x hx => by
 have hx : x ∈ ((b.lots.map fun (l : Rv) => l.inn) ++ List.replicate 6 (0 : Int)).take 6 := hx
 rcases List.mem_append.1 (List.mem_of_mem_take hx) with hx | hx
 ·obtain ⟨l, hl, rfl⟩ := List.mem_map.1 hx
  have h1 := h.inn l hl; have h2 := h.bins; omega
 rw [List.eq_of_mem_replicate hx]; omega
theorem H9 {b : bR} (h : b.dh) {p : Pl} {t : cr} (hp : u0 p) (ht : t ∈ cH b p) : u0 (bM p t) := fun x hx => by
 rcases List.mem_or_eq_of_mem_set hx with hx | hx
 ·exact hp x hx
 have h1 := ij.1 ht; have h2 := h.bins; omega
theorem BJ {b : bR} (h : b.dh) : ∀ (l : List cr) {p q : Pl}, u0 p → oz b p l = some q → u0 q
  | [], p, q, hp, e => by injection e with e; exact e ▸ hp
  | t :: l, p, q, hp, e => by
    have e : (if t ∈ cH b p then oz b (bM p t) l else none) = some q := e
    by_cases ht : t ∈ cH b p
    · rw [if_pos ht] at e; exact BJ h l (H9 h hp ht) e
    · rw [if_neg ht] at e; cases e
theorem Ae {l : List Pl} (hn : l.Nodup) (h : ∀ p ∈ l, u0 p) : l.length ≤ gk := by
 have := xS (l := l.map Subtype.val) (L := Rc 6) (by
  rw [List.nodup_iff_pairwise_ne, List.pairwise_map]
  exact hn.imp fun hab e => hab (Subtype.ext e)) fun x hx => by
   obtain ⟨p, hp, rfl⟩ := List.mem_map.1 hx
   exact Gr p.2 (h p hp)
 rwa [List.length_map] at this
theorem Fl (b : bR) (p : Pl) (k : Nat) : (sU b p k).length ≤ b.lots.length := by
 unfold sU
 split
 ·exact Nat.zero_le _
 rw [List.length_map]; exact Nat.le_trans (List.length_filter_le _ _) (by simp)
theorem c6 {α β : Type} (f : α → List β) (m : Nat) (h : ∀ x, (f x).length ≤ m) : ∀ l : List α, (l.flatMap f).length ≤ l.length * m
  | [] => Nat.zero_le _
  | x :: l => by
    have h1 := c6 f m h l
    have h2 := h x
    rw [List.flatMap_cons, List.length_append, List.length_cons, Nat.succ_mul]; omega
theorem BP {b : bR} (h : b.dh) (p : Pl) : (cH b p).length ≤ 42 := by
 have h1 := c6 (sU b p) b.lots.length (Fl b p) (List.range b.sizes.length)
 rw [List.length_range] at h1
 have h2 : b.sizes.length * b.lots.length ≤ 7 * 6 := Nat.mul_le_mul h.bins.2 h.lots
 exact Nat.le_trans h1 h2
attribute [irreducible] gk
end Go.Proofs.YtmmcenjknimhbaaGreat
namespace Go.Proofs.YtmmcenjknimhbaaGreat
open Go Go.T
structure Way where
  frm : Pl
  byT : List cr
  all : Int
  deriving Inhabited
structure Found where
  ways : List (Pl × Way)
  last : Pl
  is : Bool
  deriving Inhabited
def VA : Pl := ⟨[0, 0, 0, 0, 0, 0], rfl⟩
def CE : Way := ⟨VA, [], 0⟩
structure St where
  ways : List (Pl × Way)
  queue : List (Int × List Pl)
  left : Int
  done : List (Pl × Bool)
  now : Int
def FA (ways : List (Pl × Way)) (q : Pl) (n : Int) : Bool := (bf ways q).isSome && decide (min n ((bf ways q).getD CE).all = ((bf ways q).getD CE).all)
theorem LG {ways : List (Pl × Way)} {q : Pl} {n : Int} (h : FA ways q n = true) : ∃ w, bf ways q = some w ∧ w.all ≤ n := by
  unfold FA at h
  rw [Bool.and_eq_true] at h
  cases e : bf ways q with
  | none => rw [e] at h; exact absurd h.1 (by decide)
  | some w => rw [e] at h; have := of_decide_eq_true h.2; simp only [Option.getD_some] at this; exact ⟨w, rfl, by omega⟩
theorem uI {ways : List (Pl × Way)} {q : Pl} {n : Int} (h : FA ways q n = false) {w : Way} (e : bf ways q = some w) : n < w.all := by
 unfold FA at h
 rw [e] at h
 simp only [Option.isSome_some, Bool.true_and, Option.getD_some, decide_eq_false_iff_not] at h; omega
def nv (c : cr → Int) (p : Pl) (x : St) (t : cr) : St :=
  if FA x.ways (bM p t) (x.now + c t) = true then x else
    { x with ways := cq x.ways (bM p t) ⟨p, [t], x.now + c t⟩, queue := cq x.queue (x.now + c t) (rowAt x.queue (x.now + c t) ++ [bM p t]), left := x.left + 1 }
theorem Mm {c : cr → Int} {p : Pl} {x : St} {t : cr} (h : FA x.ways (bM p t) (x.now + c t) = true) : nv c p x t = x := if_pos h
theorem Ou {c : cr → Int} {p : Pl} {x : St} {t : cr} (h : FA x.ways (bM p t) (x.now + c t) = false) : nv c p x t = { x with ways := cq x.ways (bM p t) ⟨p, [t], x.now + c t⟩, queue := cq x.queue (x.now + c t) (rowAt x.queue (x.now + c t) ++ [bM p t]), left := x.left + 1 } := if_neg (by rw [h]; decide)
theorem I4 (c : cr → Int) (p : Pl) (x : St) (t : cr) : (nv c p x t).done = x.done := by unfold nv; split <;> rfl
theorem M6 (c : cr → Int) (p : Pl) (x : St) (t : cr) : (nv c p x t).now = x.now := by unfold nv; split <;> rfl
structure Inv (b : bR) (c : cr → Int) (all : Bool) (F : Pl → List cr) (R : Int) (x : St) : Prop where
  now0 : 0 ≤ x.now
  start : bf x.ways (cO b) = some CE
  keys : (x.ways.map Prod.fst).Nodup
  qkeys : (x.queue.map Prod.fst).Nodup
  dkeys : (x.done.map Prod.fst).Nodup
  dval : ∀ p v, bf x.done p = some v → v = true
  via : ∀ q w, bf x.ways q = some w → q = cO b ∨ ∃ t w', w.byT = [t] ∧ t ∈ cH b w.frm ∧ q = bM w.frm t ∧ bf x.done w.frm = some true ∧ bf x.ways w.frm = some w' ∧ w.all = w'.all + c t
  walk : ∀ q w, bf x.ways q = some w → ∃ l, oz b (cO b) l = some q ∧ jq c l = w.all
  fin : ∀ p, bf x.done p = some true → ∃ w, bf x.ways p = some w ∧ w.all ≤ x.now ∧ ∀ t ∈ F p, ∃ w', bf x.ways (bM p t) = some w' ∧ w'.all ≤ w.all + c t
  wait : ∀ q w, bf x.ways q = some w → bf x.done q = none → x.now ≤ w.all ∧ q ∈ rowAt x.queue w.all
  que : ∀ m q, q ∈ rowAt x.queue m → x.now ≤ m ∧ m ≤ 300 * x.done.length ∧ ∃ w, bf x.ways q = some w ∧ w.all ≤ m
  left : x.left = qu x.queue
  lim : x.left + R ≤ 1 + 42 * x.done.length
  no : all = false → ∀ p, bf x.done p = some true → ff b p = false
  cap : ∀ q w, bf x.ways q = some w → w.all ≤ 300 * x.done.length
structure At (b : bR) (p : Pl) (x : St) : Prop where
  done : bf x.done p = some true
  way : ∃ w, bf x.ways p = some w ∧ w.all = x.now
  cap : x.now + 300 ≤ 300 * x.done.length
variable {b : bR} {c : cr → Int} {all : Bool} {F : Pl → List cr} {R : Int} {x : St} {p : Pl} {t : cr}
theorem Inv.weaken {R' : Int} (h : Inv b c all F R x) (hR : R' ≤ R) : Inv b c all F R' x := { h with lim := by have := h.lim; omega }
theorem Inv.T7 {F' : Pl → List cr} (h : Inv b c all F R x) (hF : ∀ p, bf x.done p = some true → ∀ t ∈ F' p, t ∈ F p) : Inv b c all F' R x :=
 { h with fin := fun p hp => let ⟨w, h1, h2, h3⟩ := h.fin p hp; ⟨w, h1, h2, fun t ht => h3 t (hF p hp t ht)⟩ }
theorem HP (h : Inv b c all F R x) (hp : At b p x) (hct : 1 ≤ c t) (hm : FA x.ways (bM p t) (x.now + c t) = false) {r : Pl} {w : Way} (hw : bf x.ways r = some w) (hle : w.all ≤ x.now) : bM p t ≠ r := fun e => by
 subst e
 have := uI hm hw
 omega
theorem Lv (h : Inv b c all F R x) (hp : At b p x) (ht : t ∈ cH b p) (hct : 1 ≤ c t ∧ c t ≤ 300) : Inv b c all (fun r => if r = p then F r ++ [t] else F r) (R - 1) (nv c p x t) ∧ At b p (nv c p x t) := by
  obtain ⟨hpd, ⟨wp, hwp, hwn⟩, hcap⟩ := hp
  have hp : At b p x := ⟨hpd, ⟨wp, hwp, hwn⟩, hcap⟩
  have h0 := h.now0
  cases hm : FA x.ways (bM p t) (x.now + c t) with
  | true =>
    rw [Mm hm]
    refine ⟨{ h with fin := fun r hr => ?_, lim := by have := h.lim; omega }, hp⟩
    obtain ⟨w, h1, h2, h3⟩ := h.fin r hr
    refine ⟨w, h1, h2, fun u hu => ?_⟩
    by_cases e : r = p
    · subst e
      rw [if_pos rfl, List.mem_append, List.mem_singleton] at hu
      rcases hu with hu | hu
      · exact h3 u hu
      · subst hu
        obtain ⟨w', e1, e2⟩ := LG hm
        rw [hwp] at h1; injection h1 with h1
        exact ⟨w', e1, by rw [← h1, hwn]; exact e2⟩
    · rw [if_neg e] at hu; exact h3 u hu
  | false =>
    rw [Ou hm]
    have hnf : bM p t ≠ cO b := HP h hp hct.1 hm h.start h0
    have hnd : ∀ r, bf x.done r = some true → bM p t ≠ r := fun r hr => by
      obtain ⟨w, h1, h2, _⟩ := h.fin r hr
      exact HP h hp hct.1 hm h1 h2
    have hget : ∀ r, bf (cq x.ways (bM p t) ⟨p, [t], x.now + c t⟩) r = if bM p t = r then some ⟨p, [t], x.now + c t⟩ else bf x.ways r := fun r => nJ _ _ _ _
    refine ⟨⟨h0, by rw [hget, if_neg hnf]; exact h.start, k7 _ _ _ h.keys, k7 _ _ _ h.qkeys, h.dkeys, h.dval, fun q w hq => ?_, fun q w hq => ?_, fun r hr => ?_, fun q w hq hqd => ?_, fun m q hq => ?_, ?_, ?_, h.no, fun q w hq => ?_⟩, hpd, ⟨wp, by rw [hget, if_neg (hnd p hpd)]; exact hwp, hwn⟩, hcap⟩
    · rw [hget] at hq
      by_cases e : bM p t = q
      · rw [if_pos e] at hq; injection hq with hq; subst hq
        exact .inr ⟨t, wp, rfl, ht, e.symm, hpd, by rw [hget, if_neg (hnd p hpd)]; exact hwp, by show x.now + c t = wp.all + c t; omega⟩
      · rw [if_neg e] at hq
        rcases h.via q w hq with h1 | ⟨u, w', h1, h2, h3, h4, h5, h6⟩
        · exact .inl h1
        · exact .inr ⟨u, w', h1, h2, h3, h4, by rw [hget, if_neg (hnd _ h4)]; exact h5, h6⟩
    · rw [hget] at hq
      by_cases e : bM p t = q
      · rw [if_pos e] at hq; injection hq with hq; subst hq
        obtain ⟨l, h1, h2⟩ := h.walk p wp hwp
        exact ⟨l ++ [t], by rw [← e]; exact AP h1 ht, by rw [qg, xk, h2, hwn]⟩
      · rw [if_neg e] at hq; exact h.walk q w hq
    · obtain ⟨w, h1, h2, h3⟩ := h.fin r hr
      refine ⟨w, by rw [hget, if_neg (hnd r hr)]; exact h1, h2, fun u hu => ?_⟩
      have old : (∃ w', bf x.ways (bM r u) = some w' ∧ w'.all ≤ w.all + c u) → ∃ w', bf (cq x.ways (bM p t) ⟨p, [t], x.now + c t⟩) (bM r u) = some w' ∧ w'.all ≤ w.all + c u := fun ⟨w', g1, g2⟩ => by
        rw [hget]
        by_cases e : bM p t = bM r u
        · rw [if_pos e]; refine ⟨_, rfl, ?_⟩
          have := uI hm (by rw [e]; exact g1)
          show x.now + c t ≤ _; omega
        · rw [if_neg e]; exact ⟨w', g1, g2⟩
      by_cases e : r = p
      · subst e
        rw [if_pos rfl, List.mem_append, List.mem_singleton] at hu
        rcases hu with hu | hu
        · exact old (h3 u hu)
        · subst hu
          rw [hwp] at h1; injection h1 with h1
          exact ⟨_, by rw [hget, if_pos rfl], by show x.now + c u ≤ _; rw [← h1, hwn]; omega⟩
      · rw [if_neg e] at hu; exact old (h3 u hu)
    · rw [hget] at hq
      show x.now ≤ w.all ∧ q ∈ rowAt (cq x.queue (x.now + c t) (rowAt x.queue (x.now + c t) ++ [bM p t])) w.all
      rw [nH]
      by_cases e : bM p t = q
      · rw [if_pos e] at hq; injection hq with hq; subst hq
        rw [if_pos rfl]
        exact ⟨by show x.now ≤ x.now + c t; omega, List.mem_append.2 (.inr (List.mem_singleton.2 e.symm))⟩
      · rw [if_neg e] at hq
        obtain ⟨h1, h2⟩ := h.wait q w hq hqd
        refine ⟨h1, ?_⟩
        by_cases e2 : x.now + c t = w.all
        · rw [if_pos e2, e2]; exact List.mem_append.2 (.inl h2)
        · rw [if_neg e2]; exact h2
    · have hq : q ∈ rowAt (cq x.queue (x.now + c t) (rowAt x.queue (x.now + c t) ++ [bM p t])) m := hq
      rw [nH] at hq
      show x.now ≤ m ∧ m ≤ 300 * x.done.length ∧ ∃ w, bf (cq x.ways (bM p t) ⟨p, [t], x.now + c t⟩) q = some w ∧ w.all ≤ m
      rw [hget]
      have old : q ∈ rowAt x.queue m → x.now ≤ m ∧ m ≤ 300 * x.done.length ∧ ∃ w, (if bM p t = q then some ⟨p, [t], x.now + c t⟩ else bf x.ways q) = some w ∧ w.all ≤ m := fun hq => by
        obtain ⟨h1, h2, w, h3, h4⟩ := h.que m q hq
        refine ⟨h1, h2, ?_⟩
        by_cases e : bM p t = q
        · rw [if_pos e]
          have := uI hm (by rw [e]; exact h3)
          exact ⟨_, rfl, by show x.now + c t ≤ m; omega⟩
        · rw [if_neg e]; exact ⟨w, h3, h4⟩
      by_cases e2 : x.now + c t = m
      · rw [if_pos e2, List.mem_append, List.mem_singleton] at hq
        rcases hq with hq | hq
        · exact old (by rw [← e2]; exact hq)
        · subst hq
          rw [if_pos rfl]
          exact ⟨by omega, by omega, _, rfl, by show x.now + c t ≤ m; omega⟩
      · rw [if_neg e2] at hq; exact old hq
    · show x.left + 1 = qu (cq _ _ _)
      rw [BZ, List.length_append, List.length_singleton, h.left]; omega
    · show x.left + 1 + (R - 1) ≤ 1 + 42 * x.done.length
      have := h.lim; omega
    · rw [hget] at hq
      show w.all ≤ 300 * x.done.length
      by_cases e : bM p t = q
      · rw [if_pos e] at hq; injection hq with hq; subst hq
        show x.now + c t ≤ _; omega
      · rw [if_neg e] at hq; exact h.cap q w hq
def upTo (b : bR) (p : Pl) (k : Nat) (r : Pl) : List cr := if r = p then (cH b p).take k else cH b r
def kG (b : bR) (c : cr → Int) (p : Pl) (z : St) (k : Nat) : St := ((cH b p).take k).foldl (nv c p) z
theorem Iz {z : St} {k : Nat} (hk : k < (cH b p).length) : kG b c p z (k + 1) = nv c p (kG b c p z k) (nth (cH b p) k) := by
 unfold kG; rw [bh hk, List.foldl_append]; rfl
theorem I2 (z : St) (k : Nat) : (kG b c p z k).done = z.done := by
  unfold kG
  generalize (cH b p).take k = l
  induction l generalizing z with
  | nil => rfl
  | cons t l ih => rw [List.foldl_cons, ih, I4]
theorem DF (z : St) (k : Nat) : (kG b c p z k).now = z.now := by
  unfold kG
  generalize (cH b p).take k = l
  induction l generalizing z with
  | nil => rfl
  | cons t l ih => rw [List.foldl_cons, ih, M6]
def uD (b : bR) (c : cr → Int) : Prop := ∀ t : cr, 0 ≤ t.dz → t.dz < b.lots.length → 1 ≤ c t ∧ c t ≤ 300
theorem uD.at (hc : uD b c) (ht : t ∈ cH b p) : 1 ≤ c t ∧ c t ≤ 300 := hc t (ij.1 ht).1 (ij.1 ht).2.1
theorem GY (hc : uD b c) {z : St} (h : Inv b c all (upTo b p 0) 42 z) (hp : At b p z) : ∀ k, k ≤ (cH b p).length → Inv b c all (upTo b p k) (42 - k) (kG b c p z k) ∧ At b p (kG b c p z k)
  | 0, _ => ⟨h, hp⟩
  | k + 1, hk => by
    obtain ⟨h1, h2⟩ := GY hc h hp k (by omega)
    have hm : nth (cH b p) k ∈ cH b p := bL (by omega)
    obtain ⟨h3, h4⟩ := Lv h1 h2 hm (hc.at hm)
    rw [Iz (by omega)]
    refine ⟨?_, h4⟩
    have h5 : Inv b c all (fun r => if r = p then upTo b p k r ++ [nth (cH b p) k] else upTo b p k r) (42 - (k + 1 : Nat)) (nv c p (kG b c p z k) (nth (cH b p) k)) := h3.weaken (by omega)
    refine h5.T7 fun r _ u hu => ?_
    unfold upTo at hu ⊢
    by_cases e : r = p
    · rw [if_pos e] at hu; rw [if_pos e, if_pos e, ← bh (by omega)]; exact hu
    · rw [if_neg e] at hu; rw [if_neg e, if_neg e]; exact hu
def fN (x : St) (rest : List Pl) : St := { x with queue := cq x.queue x.now rest, left := x.left - 1 }
def marked (x : St) (p : Pl) : St := { x with done := cq x.done p true }
def later (x : St) : St := { x with queue := IM x.queue x.now, now := x.now + 1 }
def l7 (x : St) (p : Pl) : Bool := (bf x.done p).getD false
theorem Inv.za (h : Inv b c all F R x) (p : Pl) : (l7 x p = true ↔ bf x.done p = some true) ∧ (l7 x p = false ↔ bf x.done p = none) := by
  unfold l7
  cases e : bf x.done p with
  | none => simp
  | some v => rw [h.dval p v e]; simp
theorem RP {rest : List Pl} (h : Inv b c all F R x) (hq : rowAt x.queue x.now = p :: rest) (hd : ∀ w, bf x.ways p = some w → bf x.done p = none → False) : Inv b c all F R (fN x rest) where
 now0 := h.now0
 start := h.start
 keys := h.keys
 qkeys := k7 _ _ _ h.qkeys
 dkeys := h.dkeys
 dval := h.dval
 via := h.via
 walk := h.walk
 fin := h.fin
 wait := fun q w hw hn => by
  obtain ⟨h1, h2⟩ := h.wait q w hw hn
  refine ⟨h1, ?_⟩
  show q ∈ rowAt (cq x.queue x.now rest) w.all
  rw [nH]
  by_cases e : x.now = w.all
  ·rw [if_pos e]
   rw [← e, hq, List.mem_cons] at h2
   rcases h2 with h2 | h2
   ·subst h2; exact (hd w hw hn).elim
   exact h2
  rw [if_neg e]; exact h2
 que := fun m q hq' => by
  have hq' : q ∈ rowAt (cq x.queue x.now rest) m := hq'
  rw [nH] at hq'
  refine h.que m q ?_
  by_cases e : x.now = m
  ·rw [if_pos e] at hq'; rw [← e, hq]; exact List.mem_cons_of_mem _ hq'
  rw [if_neg e] at hq'; exact hq'
 left := by
  show x.left - 1 = qu (cq x.queue x.now rest)
  rw [BZ, hq, List.length_cons, h.left]; omega
 lim := by show x.left - 1 + R ≤ 1 + 42 * x.done.length; have := h.lim; omega
 no := h.no
 cap := h.cap
theorem Pd {rest : List Pl} (h : Inv b c all F R x) (hq : rowAt x.queue x.now = p :: rest) (hd : l7 (fN x rest) p = true) : Inv b c all F R (fN x rest) :=
 RP h hq fun w _ hn => by rw [((h.za p).1.1 hd)] at hn; cases hn
theorem Gc {rest : List Pl} (h : Inv b c all (cH b) 0 x) (hq : rowAt x.queue x.now = p :: rest) (hd : l7 (fN x rest) p = false) (hm : all = false → ff b p = false) :
 Inv b c all (upTo b p 0) 42 (marked (fN x rest) p) ∧ At b p (marked (fN x rest) p) := by
 have hn : bf x.done p = none := (h.za p).2.1 hd
 obtain ⟨g1, g2, w, hw, g3⟩ := h.que x.now p (by rw [hq]; exact List.mem_cons_self)
 obtain ⟨g4, g5⟩ := h.wait p w hw hn
 have hlen : (cq x.done p true).length = x.done.length + 1 := vq _ _ _ hn
 have hget : ∀ r, bf (cq x.done p true) r = if p = r then some true else bf x.done r := fun r => nJ _ _ _ _
 refine ⟨{ now0 := h.now0, start := h.start, keys := h.keys, qkeys := k7 _ _ _ h.qkeys, dkeys := k7 _ _ _ h.dkeys, dval := fun r v hv => ?_, via := fun q w' hq' => ?_, walk := h.walk, fin := fun r hr => ?_, wait := fun q w' hw' hn' => ?_, que := fun m q hq' => ?_, left := ?_, lim := ?_, no := fun ha r hr => ?_, cap := fun q w' hq' => ?_ }, ⟨?_, ⟨w, hw, by show w.all = x.now; omega⟩, ?_⟩⟩
 ·have hv : bf (cq x.done p true) r = some v := hv
  rw [hget] at hv
  by_cases e : p = r
  ·rw [if_pos e] at hv; injection hv with hv; exact hv.symm
  rw [if_neg e] at hv; exact h.dval r v hv
 ·rcases h.via q w' hq' with h1 | ⟨u, w2, h1, h2, h3, h4, h5, h6⟩
  ·exact .inl h1
  exact .inr ⟨u, w2, h1, h2, h3, by show bf (cq x.done p true) w'.frm = some true; rw [hget]; split <;> first | rfl | exact h4, h5, h6⟩
 ·have hr : bf (cq x.done p true) r = some true := hr
  rw [hget] at hr
  by_cases e : p = r
  ·subst e; exact ⟨w, hw, g3, fun u hu => by unfold upTo at hu; rw [if_pos rfl] at hu; cases hu⟩
  rw [if_neg e] at hr
  obtain ⟨w', e1, e2, e3⟩ := h.fin r hr
  exact ⟨w', e1, e2, fun u hu => by unfold upTo at hu; rw [if_neg (fun e' => e e'.symm)] at hu; exact e3 u hu⟩
 ·have hn' : bf (cq x.done p true) q = none := hn'
  rw [hget] at hn'
  by_cases e : p = q
  ·rw [if_pos e] at hn'; cases hn'
  rw [if_neg e] at hn'
  obtain ⟨h1, h2⟩ := h.wait q w' hw' hn'
  refine ⟨h1, ?_⟩
  show q ∈ rowAt (cq x.queue x.now rest) w'.all
  rw [nH]
  by_cases e2 : x.now = w'.all
  ·rw [if_pos e2]; rw [← e2, hq, List.mem_cons] at h2
   exact h2.resolve_left fun h => e h.symm
  rw [if_neg e2]; exact h2
 ·have hq' : q ∈ rowAt (cq x.queue x.now rest) m := hq'
  rw [nH] at hq'
  have : q ∈ rowAt x.queue m := by
   by_cases e : x.now = m
   ·rw [if_pos e] at hq'; rw [← e, hq]; exact List.mem_cons_of_mem _ hq'
   rw [if_neg e] at hq'; exact hq'
  obtain ⟨h1, h2, h3⟩ := h.que m q this
  exact ⟨h1, by show m ≤ 300 * ((cq x.done p true).length : Int); rw [hlen]; omega, h3⟩
 ·show x.left - 1 = qu (cq x.queue x.now rest)
  rw [BZ, hq, List.length_cons, h.left]; omega
 ·show x.left - 1 + 42 ≤ 1 + 42 * ((cq x.done p true).length : Int)
  rw [hlen]; have := h.lim; omega
 ·have hr : bf (cq x.done p true) r = some true := hr
  rw [hget] at hr
  by_cases e : p = r
  ·subst e; exact hm ha
  rw [if_neg e] at hr; exact h.no ha r hr
 ·show w'.all ≤ 300 * ((cq x.done p true).length : Int)
  rw [hlen]; have := h.cap q w' hq'; omega
 ·show bf (cq x.done p true) p = some true
  rw [hget, if_pos rfl]
 show x.now + 300 ≤ 300 * ((cq x.done p true).length : Int)
 rw [hlen]; omega
def Vr (b : bR) : St := ⟨[(cO b, CE)], [(0, [cO b])], 1, [], 0⟩
def q6 (b : bR) (c : cr → Int) (all : Bool) (x : St) : St ⊕ Found :=
  if x.left ≤ 0 then .inr ⟨x.ways, VA, false⟩ else
  match rowAt x.queue x.now with
  | [] => .inl (later x)
  | p :: rest =>
    if l7 (fN x rest) p = true then .inl (fN x rest) else
    if (!all && ff b p) = true then .inr ⟨x.ways, p, true⟩ else .inl (kG b c p (marked (fN x rest) p) (cH b p).length)
def runN (b : bR) (c : cr → Int) (all : Bool) : Nat → St → Option Found
  | 0, _ => none
  | n + 1, x => match q6 b c all x with
    | .inr f => some f
    | .inl y => runN b c all n y
def Ends (b : bR) (c : cr → Int) (all : Bool) (x : St) (f : Found) : Prop := ∃ n, runN b c all n x = some f
theorem Ends.step {y : St} {f : Found} (e : q6 b c all x = .inl y) (h : Ends b c all y f) : Ends b c all x f := by
 obtain ⟨n, h⟩ := h
 exact ⟨n + 1, by unfold runN; rw [e]; exact h⟩
theorem Ends.stop {f : Found} (e : q6 b c all x = .inr f) : Ends b c all x f := ⟨1, by unfold runN; rw [e]⟩
open Classical in
noncomputable def gb (b : bR) (c : cr → Int) (all : Bool) : Found := if h : ∃ f, Ends b c all (Vr b) f then h.choose else default
theorem N8 {rest : List Pl} (h : 0 < x.left) (hq : rowAt x.queue x.now = p :: rest) (hd : l7 (fN x rest) p = true) : q6 b c all x = .inl (fN x rest) := by
 unfold q6; rw [if_neg (by omega), hq]; exact if_pos hd
theorem Ir {rest : List Pl} (h : 0 < x.left) (hq : rowAt x.queue x.now = p :: rest) (hd : l7 (fN x rest) p = false) (hm : (!all && ff b p) = true) : q6 b c all x = .inr ⟨x.ways, p, true⟩ := by
 unfold q6; rw [if_neg (by omega), hq]
 show (if l7 (fN x rest) p = true then _ else _) = _
 rw [if_neg (by rw [hd]; decide), if_pos hm]
theorem N0 {rest : List Pl} (h : 0 < x.left) (hq : rowAt x.queue x.now = p :: rest) (hd : l7 (fN x rest) p = false) (hm : (!all && ff b p) = false) : q6 b c all x = .inl (kG b c p (marked (fN x rest) p) (cH b p).length) := by
 unfold q6; rw [if_neg (by omega), hq]
 show (if l7 (fN x rest) p = true then _ else _) = _
 rw [if_neg (by rw [hd]; decide), if_neg (by rw [hm]; decide)]
theorem uW {rest : List Pl} (h : Inv b c all F R x) (hq : rowAt x.queue x.now = p :: rest) : 0 < x.left := by
 have := HN x.queue x.now
 rw [hq, List.length_cons, ← h.left] at this; omega
noncomputable def MF (x : St) : Nat := (gk - x.done.length) * 43 + (300 * gk - x.now).toNat + x.left.toNat
theorem Inv.zK (h : Inv b c all F R x) (hr : b.dh) : x.done.length ≤ gk := by
 have := Ae h.dkeys fun p hp => by
  obtain ⟨v, hv⟩ := Fj hp
  rw [h.dval p v hv] at hv
  obtain ⟨w, hw, _⟩ := h.fin p hv
  obtain ⟨l, hl, _⟩ := h.walk p w hw
  exact BJ hr l (JR hr) hl
 rwa [List.length_map] at this
theorem TG {rest : List Pl} (h : Inv b c all F R x) (hq : rowAt x.queue x.now = p :: rest) : MF (fN x rest) < MF x := by
 have := uW h hq
 show (gk - x.done.length) * 43 + (300 * gk - x.now).toNat + (x.left - 1).toNat < (gk - x.done.length) * 43 + (300 * gk - x.now).toNat + x.left.toNat
 omega
theorem JP (c : cr → Int) (p : Pl) (x : St) (t : cr) : (nv c p x t).left ≤ x.left + 1 := by
 unfold nv; split
 ·omega
 exact Int.le_refl _
theorem Ik (z : St) : ∀ k, (kG b c p z k).left ≤ z.left + k := by
  intro k
  have : ∀ (l : List cr) (z : St), (l.foldl (nv c p) z).left ≤ z.left + l.length := by
    intro l
    induction l with
    | nil => intro z; simp
    | cons t l ih =>
      intro z
      have h1 := ih (nv c p z t)
      have h2 := JP c p z t
      rw [List.foldl_cons, List.length_cons]; omega
  have h1 := this ((cH b p).take k) z
  have h2 := List.length_take_le k (cH b p)
  unfold kG; omega
theorem TA {rest : List Pl} (h : Inv b c all (cH b) 0 x) (hr : b.dh) (hq : rowAt x.queue x.now = p :: rest) (hd : l7 (fN x rest) p = false) (hi : Inv b c all (upTo b p 0) 42 (marked (fN x rest) p)) : MF (kG b c p (marked (fN x rest) p) (cH b p).length) < MF x := by
 have h1 := uW h hq
 have h2 := Ik (b := b) (c := c) (p := p) (marked (fN x rest) p) (cH b p).length
 have h3 := BP hr p
 have h4 := hi.zK hr
 have h5 : (cq x.done p true).length = x.done.length + 1 := vq _ _ _ ((h.za p).2.1 hd)
 unfold MF
 rw [I2, DF]
 have h4 : (cq x.done p true).length ≤ gk := h4
 have h2 : (kG b c p (marked (fN x rest) p) (cH b p).length).left ≤ x.left - 1 + (cH b p).length := h2
 show (gk - (cq x.done p true).length) * 43 + (300 * gk - x.now).toNat + _ < _
 rw [h5] at h4 ⊢
 omega
theorem RB {rest : List Pl} (hr : b.dh) (hc : uD b c) (h : Inv b c all (cH b) 0 x) (hq : rowAt x.queue x.now = p :: rest) (hd : l7 (fN x rest) p = false) (hm : (!all && ff b p) = false) : Inv b c all (cH b) 0 (kG b c p (marked (fN x rest) p) (cH b p).length) := by
 obtain ⟨h1, h2⟩ := Gc h hq hd (fun ha => by rw [ha] at hm; simpa using hm)
 obtain ⟨h3, _⟩ := GY hc h1 h2 _ (Nat.le_refl _)
 have := BP hr p
 refine (h3.weaken (R' := 0) (by omega)).T7 fun r _ u hu => ?_
 unfold upTo
 by_cases e : r = p
 ·rw [if_pos e, List.take_length, ← e]; exact hu
 rw [if_neg e]; exact hu
structure Found.Spec (b : bR) (c : cr → Int) (all : Bool) (f : Found) : Prop where
  start : bf f.ways (cO b) = some CE
  keys : (f.ways.map Prod.fst).Nodup
  via : ∀ q w, bf f.ways q = some w → q = cO b ∨ ∃ t w', w.byT = [t] ∧ t ∈ cH b w.frm ∧ q = bM w.frm t ∧ bf f.ways w.frm = some w' ∧ w.all = w'.all + c t
  walk : ∀ q w, bf f.ways q = some w → ∃ l, oz b (cO b) l = some q ∧ jq c l = w.all
  yes : f.is = true → ff b f.last = true ∧ ∃ w, bf f.ways f.last = some w ∧ ∀ l q, oz b (cO b) l = some q → ff b q = true → w.all ≤ jq c l
  no : f.is = false → all = false → ∀ l q, oz b (cO b) l = some q → ff b q = false
  cap : ∀ q w, bf f.ways q = some w → w.all ≤ 300 * gk
  whole : all = true → f.is = false ∧ ∀ l q, oz b (cO b) l = some q → ∃ w, bf f.ways q = some w
theorem An (hc : uD b c) : ∀ (l : List cr) {p q : Pl}, oz b p l = some q → 0 ≤ jq c l
  | [], _, _, _ => Int.le_refl _
  | t :: l, p, q, h => by
    have h : (if t ∈ cH b p then oz b (bM p t) l else none) = some q := h
    by_cases ht : t ∈ cH b p
    · rw [if_pos ht] at h
      have h1 := An hc l h
      have h2 := hc.at ht
      show 0 ≤ jq c ([t] ++ l)
      rw [qg, xk]; omega
    · rw [if_neg ht] at h; cases h
theorem Inv.closed (h : Inv b c all (cH b) 0 x) (hl : x.left ≤ 0) : ∀ (l : List cr) (q : Pl), oz b (cO b) l = some q → bf x.done q = some true := by
  have hz : ∀ m, rowAt x.queue m = [] := fun m => by
    have := HN x.queue m
    rw [← h.left] at this
    exact List.length_eq_zero_iff.1 (by omega)
  have key : ∀ q w, bf x.ways q = some w → bf x.done q = some true := fun q w hw => by
    cases e : bf x.done q with
    | none => have := (h.wait q w hw e).2; rw [hz] at this; cases this
    | some v => rw [h.dval q v e]
  refine z8 (fun q e => ?_) fun l t ih q e => ?_
  · injection e with e; subst e; exact key _ _ h.start
  · obtain ⟨r, e1, e2, e3⟩ := Ei e
    obtain ⟨w, h1, h2, h3⟩ := h.fin r (ih r e1)
    obtain ⟨w', h4, _⟩ := h3 t e2
    subst e3; exact key _ _ h4
def Dp (b : bR) (c : cr → Int) (all : Bool) (x : St) : Prop := ∀ f, Ends b c all x f → gb b c all = f
theorem Dp.step {y : St} (h : Dp b c all x) (e : q6 b c all x = .inl y) : Dp b c all y := fun f hf => h f (hf.step e)
theorem Dp.stop {f : Found} (h : Dp b c all x) (e : q6 b c all x = .inr f) : gb b c all = f := h f (.stop e)
end Go.Proofs.YtmmcenjknimhbaaGreat
namespace Go.Proofs.YtmmcenjknimhbaaGreat
open Go Go.T Go.RowKit
structure Vz where
  b : bR
  first : Pl
  deriving Inhabited
end Go.Proofs.YtmmcenjknimhbaaGreat
namespace Go.Proofs.YtmmcenjknimhbaaGreat
open Go Go.T
theorem vB {p : Pl} {n : Nat} {x : Int} (hn : n ≤ 6) : x ∈ p.1.take n ↔ ∃ i, i < n ∧ nth p.1 i = x := by
 rw [List.mem_take_iff_getElem]
 have := p.2
 constructor
 ·rintro ⟨i, hi, rfl⟩
  exact ⟨i, by omega, cE (by omega)⟩
 rintro ⟨i, hi, rfl⟩
 exact ⟨i, by omega, (cE (by omega)).symm⟩
theorem C5 {b : bR} {p : Pl} {k : Int} (hl : b.lots.length ≤ 6) : mL b p k = true ↔ ∃ i, i < b.lots.length ∧ nth p.1 i = k := by
 unfold mL
 rw [List.any_eq_true]
 constructor
 ·rintro ⟨x, hx, h⟩
  obtain ⟨i, hi, e⟩ := (vB hl).1 hx
  exact ⟨i, hi, by rw [e]; exact of_decide_eq_true h⟩
 rintro ⟨i, hi, e⟩
 exact ⟨_, (vB hl).2 ⟨i, hi, rfl⟩, decide_eq_true e⟩
end Go.Proofs.YtmmcenjknimhbaaGreat
namespace Go.Proofs.YtmmcenjknimhbaaGreat
open Go Go.T
def mO (y : St) : Pl := nth (rowAt y.queue y.now) 0
def Rz (y : St) : List Pl := (rowAt y.queue y.now).drop 1
theorem rF {y : St} (h : 0 < (rowAt y.queue y.now).length) : rowAt y.queue y.now = mO y :: Rz y := by
 have := pE h
 rw [List.drop_zero] at this
 exact this
def Iv (y : St) : St := fN y (Rz y)
def KE (y : St) : St := marked (Iv y) (mO y)
structure M9 (b : bR) (c : cr → Int) (all : Bool) (x y : St) : Prop where
  inv : Inv b c all (cH b) 0 y
  same : Dp b c all y
  le : MF y ≤ MF x
  lt : y.left ≤ 0 → MF y < MF x
  now : y.now = x.now
variable {b : bR} {c : cr → Int} {all : Bool} {x y : St}
theorem M9.pos (h : M9 b c all x y) (hq : 0 < (rowAt y.queue y.now).length) : 0 < y.left := uW h.inv (rF hq)
theorem M9.old (h : M9 b c all x y) (hq : 0 < (rowAt y.queue y.now).length) (hd : l7 (Iv y) (mO y) = true) : M9 b c all x (Iv y) := by
 have hr := rF hq
 have hm : MF (Iv y) < MF y := TG h.inv hr
 have hl := h.le
 exact ⟨Pd h.inv hr hd, h.same.step (N8 (h.pos hq) hr hd), by omega, fun _ => by omega, h.now⟩
theorem M9.mark (h : M9 b c all x y) (hq : 0 < (rowAt y.queue y.now).length) (hd : l7 (Iv y) (mO y) = false) (hm : (!all && ff b (mO y)) = false) : Inv b c all (upTo b (mO y) 0) 42 (KE y) ∧ At b (mO y) (KE y) :=
 Gc h.inv (rF hq) hd (fun ha => by rw [ha] at hm; simpa using hm)
theorem M9.new (h : M9 b c all x y) (hr : b.dh) (hc : uD b c) (hq : 0 < (rowAt y.queue y.now).length) (hd : l7 (Iv y) (mO y) = false) (hm : (!all && ff b (mO y)) = false) : M9 b c all x (kG b c (mO y) (KE y) (cH b (mO y)).length) := by
 have he := rF hq
 have hlt : MF (kG b c (mO y) (KE y) (cH b (mO y)).length) < MF y := TA h.inv hr he hd (h.mark hq hd hm).1
 have hl := h.le
 exact ⟨RB hr hc h.inv he hd hm, h.same.step (N0 (h.pos hq) he hd hm), by omega, fun _ => by omega, by rw [DF]; exact h.now⟩
theorem M9.found (h : M9 b c all x y) (hq : 0 < (rowAt y.queue y.now).length) (hd : l7 (Iv y) (mO y) = false) (hm : (!all && ff b (mO y)) = true) : gb b c all = ⟨y.ways, mO y, true⟩ :=
 h.same.stop (Ir (h.pos hq) (rF hq) hd hm)
end Go.Proofs.YtmmcenjknimhbaaGreat
namespace Go.Proofs.YtmmcenjknimhbaaGreat
open Go Go.T
theorem O7 {α : Type} [Inhabited α] {l : List α} {i j : Nat} {v : α} (h : j < l.length) : nth (l.set i v) j = if i = j then v else nth l j := by
 unfold nth
 rw [List.getD_eq_getElem?_getD, List.getD_eq_getElem?_getD, List.getElem?_set]
 by_cases e : i = j
 ·subst e; rw [if_pos rfl, if_pos rfl, if_pos h]; rfl
 rw [if_neg e, if_neg e]
section
variable {α : Type} [Inhabited α]
end
inductive rW (ways : List (Pl × Way)) (first : Pl) : Pl → List (List cr) → Prop
  | nil : rW ways first first []
  | snoc {p : Pl} {w : Way} {A : List (List cr)} : p ≠ first → bf ways p = some w → rW ways first w.frm A → rW ways first p (A ++ [w.byT])
theorem rW.step {ways : List (Pl × Way)} {first p : Pl} {A : List (List cr)} (h : rW ways first p A) (hp : p ≠ first) : rW ways first ((bf ways p).getD CE).frm A.dropLast ∧ A = A.dropLast ++ [((bf ways p).getD CE).byT] := by
  cases h with
  | nil => exact absurd rfl hp
  | snoc h1 h2 h3 => rw [h2, List.dropLast_concat]; exact ⟨h3, rfl⟩
open Classical in
noncomputable def SF (ways : List (Pl × Way)) (first p : Pl) : List (List cr) := if h : ∃ A, rW ways first p A then h.choose else []
variable {b : bR} {c : cr → Int} {all : Bool}
theorem Found.Spec.chain {f : Found} (h : f.Spec b c all) (hr : b.dh) (hc : uD b c) : ∀ (n : Nat) (p : Pl) (w : Way), bf f.ways p = some w → w.all.toNat ≤ n →
    ∃ A, rW f.ways (cO b) p A ∧ oz b (cO b) A.flatten = some p ∧ jq c A.flatten = w.all ∧ A.flatten.length = A.length ∧ (A.length : Int) ≤ w.all := by
  intro n
  induction n with
  | zero =>
    intro p w hw hn
    rcases h.via p w hw with e | ⟨t, w', h1, h2, h3, h4, h5⟩
    · subst e
      rw [h.start] at hw; injection hw with hw; subst hw
      exact ⟨[], .nil, rfl, rfl, rfl, Int.le_refl _⟩
    · obtain ⟨l, hl, hcl⟩ := h.walk _ _ h4
      have := An hc l hl
      have := hc.at h2
      omega
  | succ n ih =>
    intro p w hw hn
    by_cases e : p = cO b
    · subst e
      rw [h.start] at hw; injection hw with hw; subst hw
      exact ⟨[], .nil, rfl, rfl, rfl, Int.le_refl _⟩
    rcases h.via p w hw with e' | ⟨t, w', h1, h2, h3, h4, h5⟩
    · exact absurd e' e
    · have := hc.at h2
      obtain ⟨l, hl, hcl⟩ := h.walk _ _ h4
      have := An hc l hl
      obtain ⟨A, g1, g2, g3, g4, g5⟩ := ih w.frm w' h4 (by omega)
      refine ⟨A ++ [w.byT], .snoc e hw g1, ?_, ?_, ?_, ?_⟩
      · rw [List.flatten_append, h1, h3]; simp only [List.flatten_cons, List.flatten_nil, List.append_nil]; exact AP g2 h2
      · rw [List.flatten_append, h1, qg, g3]; simp only [List.flatten_cons, List.flatten_nil, List.append_nil]; rw [xk]; omega
      · rw [List.flatten_append, h1]; simp [g4]
      · rw [List.length_append]; simp; omega
noncomputable def FY (b : bR) (c : cr → Int) : List (List cr) := SF (gb b c false).ways (cO b) (gb b c false).last
noncomputable def Rx (b : bR) (c : cr → Int) : List cr := if (gb b c false).is = true then (FY b c).flatten else []
noncomputable def Ro (b : bR) (c : cr → Int) : Int := if (gb b c false).is = true then ((bf (gb b c false).ways (gb b c false).last).getD CE).all else 0
structure T6 (b : bR) (c : cr → Int) : Prop where
  chain : (gb b c false).is = true → rW (gb b c false).ways (cO b) (gb b c false).last (FY b c)
  len : (gb b c false).is = true → (FY b c).length ≤ 40000000 ∧ (FY b c).flatten.length = (FY b c).length
  yes : (gb b c false).is = true → ∃ q, oz b (cO b) (Rx b c) = some q ∧ ff b q = true ∧ jq c (Rx b c) = Ro b c ∧ ∀ l q, oz b (cO b) l = some q → ff b q = true → Ro b c ≤ jq c l
  no : (gb b c false).is = false → ∀ l q, oz b (cO b) l = some q → ff b q = false
def H7 (_ : cr) : Int := 1
def R7 (b : bR) (t : cr) : Int := (nth b.lots t.dz.toNat).sacks
noncomputable def D4 (b : bR) : Int := if I9 b = 0 then ((gb b H7 true).ways.length : Nat) else 0
end Go.Proofs.YtmmcenjknimhbaaGreat
namespace Go.Proofs.YtmmcenjknimhbaaGreat
open Go Go.T
def QS : bR := ⟨[], []⟩
def zk (b : bR) (t : cr) : List Rv := b.lots.set t.dz.toNat { nth b.lots t.dz.toNat with inn := t.aim }
def iX (b : bR) (t : cr) : bR × Int :=
  if (!b.dz t.dz || !b.bin t.aim) = true then (QS, 1) else if b.free t.aim = false then (QS, 5) else if b.hold t.aim t.dz = false then (QS, 9) else (⟨b.sizes, zk b t⟩, 0)
theorem NW {b : bR} {t : cr} (h : (!b.dz t.dz || !b.bin t.aim) = true) : iX b t = (QS, 1) := if_pos h
theorem Nh {b : bR} {t : cr} (h : (!b.dz t.dz || !b.bin t.aim) = false) (h2 : b.free t.aim = false) : iX b t = (QS, 5) := by unfold iX; rw [if_neg (by rw [h]; decide), if_pos h2]
theorem Ov {b : bR} {t : cr} (h : (!b.dz t.dz || !b.bin t.aim) = false) (h2 : b.free t.aim = true) (h3 : b.hold t.aim t.dz = false) : iX b t = (QS, 9) := by unfold iX; rw [if_neg (by rw [h]; decide), if_neg (by rw [h2]; decide), if_pos h3]
theorem OQ {b : bR} {t : cr} (h : (!b.dz t.dz || !b.bin t.aim) = false) (h2 : b.free t.aim = true) (h3 : b.hold t.aim t.dz = true) : iX b t = (⟨b.sizes, zk b t⟩, 0) := by unfold iX; rw [if_neg (by rw [h]; decide), if_neg (by rw [h2]; decide), if_neg (by rw [h3]; decide)]
theorem Mu {b : bR} {t : cr} (h : (!b.dz t.dz || !b.bin t.aim) = false) : (0 ≤ t.dz ∧ t.dz < b.lots.length) ∧ 0 ≤ t.aim ∧ t.aim < b.sizes.length := by
 simp only [Bool.or_eq_false_iff, Bool.not_eq_false', bR.dz, bR.bin, Pm] at h; omega
theorem Iy {b : bR} {t : cr} : (iX b t).2 = 0 → (0 ≤ t.dz ∧ t.dz < b.lots.length) ∧ (0 ≤ t.aim ∧ t.aim < b.sizes.length) ∧ b.free t.aim = true ∧ b.hold t.aim t.dz = true ∧ (iX b t).1 = ⟨b.sizes, zk b t⟩ := by
  intro h
  cases h1 : (!b.dz t.dz || !b.bin t.aim) with
  | true => rw [NW h1] at h; cases h
  | false =>
    cases h2 : b.free t.aim with
    | false => rw [Nh h1 h2] at h; cases h
    | true =>
      cases h3 : b.hold t.aim t.dz with
      | false => rw [Ov h1 h2 h3] at h; cases h
      | true => have := Mu h1; rw [OQ h1 h2 h3]; exact ⟨this.1, this.2, rfl, rfl, rfl⟩
def BI (cur : bR) (back : List cr) : List cr → bR × List cr × Int
  | [] => (cur, back.reverse, 0)
  | t :: l => if (iX cur t).2 = 0 then BI (iX cur t).1 (back ++ [⟨t.dz, (nth cur.lots t.dz.toNat).inn⟩]) l else (QS, [], (iX cur t).2)
def Kj (b : bR) (plan : List cr) : bR × List cr × Int :=
  if I9 b = 0 then if (plan.length : Int) > 6000 then (QS, [], 2) else BI b [] plan else (QS, [], I9 b)
structure Uc (b : bR) (plan : List cr) (k : Nat) (cur : bR) (back : List cr) : Prop where
  same : BI b [] plan = BI cur back (plan.drop k)
  sizes : cur.sizes = b.sizes
  lots : cur.lots.length = b.lots.length
  len : back.length = k
  le : k ≤ plan.length
section
variable {b : bR} {plan : List cr} {k : Nat} {cur : bR} {back : List cr} (h : Uc b plan k cur back)
include h
theorem Uc.small (hs : b.Small) : cur.Small := ⟨by rw [h.sizes]; exact hs.sizes, by rw [h.lots]; exact hs.lots⟩
theorem Uc.next (hk : k < plan.length) (he : (iX cur (nth plan k)).2 = 0) : Uc b plan (k + 1) (iX cur (nth plan k)).1 (back ++ [⟨(nth plan k).dz, (nth cur.lots (nth plan k).dz.toNat).inn⟩]) := by
 obtain ⟨_, _, _, _, e⟩ := Iy he
 refine ⟨?_, by rw [e]; exact h.sizes, by rw [e]; show (zk _ _).length = _; unfold zk; rw [List.length_set]; exact h.lots, by rw [List.length_append, h.len]; rfl, by omega⟩
 rw [h.same, pE hk]; exact if_pos he
theorem Uc.end (hk : plan.length ≤ k) : BI b [] plan = (cur, back.reverse, 0) := by
 rw [h.same, List.drop_of_length_le hk]; rfl
end
def SY (b : bR) : Bool := b.lots.all fun l => decide (l.aim = -1) || decide (l.aim = l.inn)
def Sg (b : bR) (plan : List cr) : Bool := decide ((Kj b plan).2.2 = 0) && SY (Kj b plan).1
end Go.Proofs.YtmmcenjknimhbaaGreat
namespace Go.Proofs.YtmmcenjknimhbaaGreat
open Go Go.T
theorem E4 {α : Type} [Inhabited α] {l : List α} {x : α} (h : x ∈ l) : ∃ m, m < l.length ∧ x = nth l m := by
 obtain ⟨m, hm, e⟩ := List.getElem_of_mem h
 exact ⟨m, hm, by rw [cE hm]; exact e.symm⟩
theorem sE : ∀ {n : Nat} {l : List Nat}, l.Nodup → (∀ y ∈ l, y < n) → l.length ≤ n
  | 0, l, _, hr => by
    cases l with
    | nil => simp
    | cons a _ => exact absurd (hr a List.mem_cons_self) (by omega)
  | n + 1, l, hn, hr => by
    by_cases h : n ∈ l
    · have h1 := List.length_erase_of_mem h
      have h2 := sE (n := n) (l := l.erase n) (hn.erase n) fun y hy => by
        have h3 := (hn.mem_erase_iff (a := y) (b := n)).1 hy
        have := hr y h3.2
        have := h3.1
        omega
      omega
    · have h2 := sE (n := n) (l := l) hn fun y hy => by
        have := hr y hy
        have : y ≠ n := fun e => h (e ▸ hy)
        omega
      omega
def AE (b : bR) (l : List Int) (k : Nat) : Bool := decide (follows b (nth l k) = nth l ((k + 1) % l.length))
def BS (b : bR) (l : List Int) : Bool := decide (1 < l.length) && (List.range l.length).all fun k => AE b l k
theorem GC {b : bR} {l : List Int} {k : Nat} (hk : k < l.length) (h : AE b l k = false) : BS b l = false := by
 unfold BS
 rw [Bool.and_eq_false_iff]
 right
 rw [List.all_eq_false]
 exact ⟨k, List.mem_range.2 hk, by rw [h]; decide⟩
theorem JM {b : bR} {l : List Int} (h : ∀ k, k < l.length → AE b l k = true) : BS b l = decide (1 < l.length) := by
 unfold BS
 rw [List.all_eq_true.2 fun k hk => h k (List.mem_range.1 hk), Bool.and_true]
structure SQ (b : bR) (i : Nat) (l : List Int) : Prop where
  pos : 1 ≤ l.length
  len : l.length ≤ b.lots.length + 1
  head : nth l 0 = i
  rng : ∀ k, k < l.length → (i : Int) ≤ nth l k ∧ nth l k < b.lots.length
  above : ∀ k, 1 ≤ k → k < l.length → (i : Int) < nth l k
  chain : ∀ k, k + 1 < l.length → follows b (nth l k) = nth l (k + 1)
  same : uP b i = if l.length ≤ b.lots.length then BF b i (b.lots.length + 2 - l.length) l else none
theorem pP {l : List Int} {x : Int} {k : Nat} (h : k < l.length) : nth (l ++ [x]) k = nth l k := by
 unfold nth; rw [List.getD_eq_getElem?_getD, List.getD_eq_getElem?_getD, List.getElem?_append_left h]
theorem Bq {l : List Int} {x : Int} : nth (l ++ [x]) l.length = x := by
 unfold nth; rw [List.getD_eq_getElem?_getD, List.getElem?_append_right (Nat.le_refl _)]; simp
section
variable {b : bR} {i : Nat} {l : List Int} (x : SQ b i l)
include x
theorem SQ.next (h1 : (i : Int) < follows b (nth l (l.length - 1))) (h2 : l.length ≤ b.lots.length) : SQ b i (l ++ [follows b (nth l (l.length - 1))]) := by
 have hp := x.pos
 have hr := tv b (nth l (l.length - 1))
 have hl : (l ++ [follows b (nth l (l.length - 1))]).length = l.length + 1 := by simp
 refine ⟨by omega, by omega, by rw [pP hp]; exact x.head, fun k hk => ?_, fun k hk hk' => ?_, fun k hk => ?_, ?_⟩
 ·by_cases h : k < l.length
  ·rw [pP h]; exact x.rng k h
  obtain rfl : k = l.length := by omega
  rw [Bq]; omega
 ·by_cases h : k < l.length
  ·rw [pP h]; exact x.above k hk h
  obtain rfl : k = l.length := by omega
  rw [Bq]; exact h1
 ·by_cases h : k + 1 < l.length
  ·rw [pP h, pP (by omega)]; exact x.chain k h
  have h9 : k + 1 = l.length := by omega
  rw [h9, Bq, pP (by omega), show k = l.length - 1 by omega]
 rw [x.same, if_pos h2, hl]
 rw [show b.lots.length + 2 - l.length = (b.lots.length + 1 - l.length) + 1 by omega]
 show (if _ then _ else _) = _
 rw [if_neg (by omega), if_neg (by omega)]
 by_cases h : l.length + 1 ≤ b.lots.length
 ·rw [if_neg (by omega), if_pos h, show b.lots.length + 2 - (l.length + 1) = b.lots.length + 1 - l.length by omega]
 rw [if_pos (by omega), if_neg h]
theorem SQ.ring (h : follows b (nth l (l.length - 1)) = i) : BS b l = decide (1 < l.length) := JM fun k hk => by
 unfold AE
 by_cases h1 : k + 1 < l.length
 ·rw [Nat.mod_eq_of_lt h1]; exact decide_eq_true (x.chain k h1)
 have h9 : k + 1 = l.length := by omega
 rw [h9, Nat.mod_self, x.head, show k = l.length - 1 by omega]; exact decide_eq_true h
theorem SQ.no (h : follows b (nth l (l.length - 1)) ≠ i) : BS b l = false := GC (k := l.length - 1) (by have := x.pos; omega) (by
 unfold AE
 have := x.pos
 rw [show l.length - 1 + 1 = l.length by omega, Nat.mod_self, x.head]; exact decide_eq_false h)
theorem SQ.Ui (h : l.length = b.lots.length + 1) : follows b (nth l (l.length - 1)) ≠ i := by
  intro he
  have hnd : ¬ ((List.range l.length).map fun k => (nth l k).toNat).Nodup := fun hnd => by
    have := sE hnd (n := b.lots.length) (fun y hy => by
      obtain ⟨k, hk, rfl⟩ := List.mem_map.1 hy
      have := x.rng k (List.mem_range.1 hk); omega)
    simp at this; omega
  obtain ⟨p, q, hpq, hq, heq⟩ : ∃ p q, p < q ∧ q < l.length ∧ nth l p = nth l q := by
    apply Classical.byContradiction
    intro hno
    apply hnd
    rw [List.nodup_iff_pairwise_ne, List.pairwise_map]
    refine List.Pairwise.imp_of_mem (R := fun a c => a < c) (fun {a c} ha hc hac e => hno ⟨a, c, hac, List.mem_range.1 hc, ?_⟩) List.pairwise_lt_range
    have h1 := x.rng a (List.mem_range.1 ha)
    have h2 := x.rng c (List.mem_range.1 hc)
    omega
  have key : ∀ t, q + t < l.length → nth l (p + t) = nth l (q + t) := by
    intro t
    induction t with
    | zero => intro _; exact heq
    | succ t ih =>
      intro ht
      have := ih (by omega)
      rw [← Nat.add_assoc, ← Nat.add_assoc, ← x.chain (p + t) (by omega), ← x.chain (q + t) (by omega), this]
  have h1 := key (l.length - 1 - q) (by omega)
  rw [show q + (l.length - 1 - q) = l.length - 1 by omega] at h1
  have h2 := x.chain (p + (l.length - 1 - q)) (by omega)
  rw [h1, he] at h2
  have := x.above (p + (l.length - 1 - q) + 1) (by omega) (by omega)
  omega
theorem SQ.done (h : ¬ ((i : Int) < follows b (nth l (l.length - 1)) ∧ l.length ≤ b.lots.length)) : uP b i = if BS b l = true then some l else none := by
 have hlen := x.len
 have hp := x.pos
 by_cases h2 : l.length ≤ b.lots.length
 ·rw [x.same, if_pos h2, show b.lots.length + 2 - l.length = (b.lots.length + 1 - l.length) + 1 by omega]
  show (if _ then _ else _) = _
  by_cases h1 : follows b (nth l (l.length - 1)) = i
  ·rw [x.ring h1]
   by_cases h3 : 1 < l.length
   ·rw [if_pos ⟨h1, h3⟩, if_pos (decide_eq_true h3)]
   rw [if_neg (fun h => h3 h.2), if_pos (by omega), if_neg (by rw [decide_eq_false h3]; decide)]
  rw [x.no h1, if_neg (fun h => h1 h.1), if_pos (by omega), if_neg (by decide)]
 rw [x.same, if_neg h2, x.no (x.Ui (by omega)), if_neg (by decide)]
end
end Go.Proofs.YtmmcenjknimhbaaGreat
namespace Go.Proofs.YtmmcenjknimhbaaGreat
open Go Go.T
variable {b : bR} {rings : List (List Int)}
end Go.Proofs.YtmmcenjknimhbaaGreat
namespace Go.Proofs.YtmmcenjknimhbaaGreat
open Go Go.T
theorem uN (s : Sk) {lo hi : Int} (h : lo ≤ hi) : lo ≤ oO s lo hi ∧ oO s lo hi ≤ hi := by
 have := oa s (hi - lo + 1)
 unfold oO; omega
def nP (s : Sk) : Nat → List Int × Sk
  | 0 => ([], s)
  | k + 1 => ((nP s k).1 ++ [oO (nP s k).2 20 60], eo (nP s k).2)
theorem sw (s : Sk) : ∀ k, (nP s k).1.length = k ∧ (∀ x ∈ (nP s k).1, 20 ≤ x ∧ x ≤ 60) ∧ (nP s k).2.taken = s.taken + k
  | 0 => ⟨rfl, fun x h => (by cases h), by simp [nP]⟩
  | k + 1 => by
    obtain ⟨h1, h2, h3⟩ := sw s k
    refine ⟨by show ((nP s k).1 ++ [_]).length = _; rw [List.length_append, h1]; rfl, fun x hx => ?_, by show (eo _).taken = _; rw [jF, h3]; omega⟩
    rcases List.mem_append.1 (show x ∈ (nP s k).1 ++ [oO (nP s k).2 20 60] from hx) with hx | hx
    · exact h2 x hx
    · rw [List.mem_singleton.1 hx]; exact uN _ (by omega)
structure Md where
  s : Sk
  bins : Int
  lots : Int
def Md.n (d : Md) : Nat := (oO d.s 2 d.bins).toNat
def Md.up (d : Md) (k : Nat) : List Int × Sk := nP (eo d.s) k
def Md.sizes (d : Md) : List Int := (d.up d.n).1
def Md.many (d : Md) : Nat := (mh (d.up d.n).2 (min d.lots (d.n : Nat) + 1)).toNat
def Md.to (d : Md) : List Int × Sk := kZ (eo (d.up d.n).2) d.n
def Md.ks (d : Md) : List Int × Sk := kZ d.to.2 d.n
def Md.qt (d : Md) (s : Sk) (k : Nat) : Int := if P6 (eo s) 4 = true then -1 else nth d.to.1 k
def Md.Au (d : Md) (s : Sk) (k : Nat) : Int := oO s 1 (nth d.sizes (nth d.ks.1 k).toNat)
def Md.xq (d : Md) (s : Sk) (k : Nat) : Rv := ⟨if d.qt s k ≠ -1 ∧ nth d.sizes (d.qt s k).toNat < d.Au s k then nth d.sizes (d.qt s k).toNat else d.Au s k, nth d.ks.1 k, d.qt s k⟩
def Md.lt (d : Md) : Nat → List Rv × Sk
  | 0 => ([], d.ks.2)
  | k + 1 => ((d.lt k).1 ++ [d.xq (d.lt k).2 k], eo (eo (d.lt k).2))
def Md.JK (d : Md) : bR := ⟨d.sizes, (d.lt d.many).1⟩
def Md.sk (d : Md) : Sk := (d.lt d.many).2
structure Md.Ok (d : Md) : Prop where
  bins : 2 ≤ d.bins ∧ d.bins ≤ 7
  lots : 0 ≤ d.lots ∧ d.lots ≤ 6
variable {d : Md}
theorem Md.CH (h : d.Ok) : 2 ≤ d.n ∧ d.n ≤ 7 ∧ (d.n : Int) ≤ d.bins ∧ (d.n : Int) = oO d.s 2 d.bins := by
 have h1 := uN d.s h.bins.1
 have h2 := h.bins
 unfold Md.n; omega
theorem Md.zZ (d : Md) : d.sizes.length = d.n ∧ (∀ x ∈ d.sizes, 20 ≤ x ∧ x ≤ 60) := ⟨(sw _ _).1, (sw _ _).2.1⟩
theorem Md.Pz (d : Md) (k : Nat) : (d.up k).2.taken = d.s.taken + 1 + k := by
 have := (sw (eo d.s) k).2.2
 rw [jF] at this; exact this
theorem Md.FD (h : d.Ok) : d.many ≤ d.n ∧ (d.many : Int) ≤ d.lots ∧ (d.many : Int) = mh (d.up d.n).2 (min d.lots (d.n : Nat) + 1) := by
 have h1 := oa (d.up d.n).2 (min d.lots (d.n : Nat) + 1)
 have h2 := h.lots
 unfold Md.many; omega
theorem Md.Cl (d : Md) : d.to.1.length = d.n ∧ d.to.1.Nodup ∧ (∀ x ∈ d.to.1, 0 ≤ x ∧ x < (d.n : Int)) ∧ d.to.2.taken = d.s.taken + 2 + 2 * d.n := by
 obtain ⟨h1, h2, h3, h4⟩ := xu (eo (d.up d.n).2) d.n
 refine ⟨h1, h2, fun x hx => (h3 x).1 hx, ?_⟩
 show (kZ _ _).2.taken = _
 rw [h4, jF, d.Pz]; omega
theorem Md.C8 (d : Md) : d.ks.1.length = d.n ∧ d.ks.1.Nodup ∧ (∀ x ∈ d.ks.1, 0 ≤ x ∧ x < (d.n : Int)) ∧ d.ks.2.taken = d.s.taken + 2 + 3 * d.n := by
 obtain ⟨h1, h2, h3, h4⟩ := xu d.to.2 d.n
 refine ⟨h1, h2, fun x hx => (h3 x).1 hx, ?_⟩
 show (kZ _ _).2.taken = _
 rw [h4, d.Cl.2.2.2]; omega
theorem Md.IV (d : Md) : ∀ k, (d.lt k).1.length = k ∧ (d.lt k).2.taken = d.s.taken + 2 + 3 * d.n + 2 * k
  | 0 => ⟨rfl, by show d.ks.2.taken = _; rw [d.C8.2.2.2]; simp⟩
  | k + 1 => by
    obtain ⟨h1, h2⟩ := d.IV k
    refine ⟨by show ((d.lt k).1 ++ [_]).length = _; rw [List.length_append, h1]; rfl, ?_⟩
    show (eo (eo _)).taken = _
    rw [jF, jF, h2]; omega
theorem Md.Bs (d : Md) : ∀ k i, i < k → nth (d.lt k).1 i = d.xq (d.lt i).2 i
  | 0, i, h => by omega
  | k + 1, i, h => by
    have hl := (d.IV k).1
    show nth ((d.lt k).1 ++ [d.xq (d.lt k).2 k]) i = _
    unfold nth
    by_cases e : i < k
    · rw [List.getD_eq_getElem?_getD, List.getElem?_append_left (by omega), ← List.getD_eq_getElem?_getD]
      exact d.Bs k i e
    · have e : i = k := by omega
      subst e
      rw [List.getD_eq_getElem?_getD, List.getElem?_append_right (by omega), hl]; simp
theorem Md.FF (d : Md) {x : Int} (h : 0 ≤ x ∧ x < (d.n : Int)) : 20 ≤ nth d.sizes x.toNat ∧ nth d.sizes x.toNat ≤ 60 := d.zZ.2 _ (bL (by rw [d.zZ.1]; omega))
theorem De {l : List Int} (h : l.Nodup) {i k : Nat} (hi : i < l.length) (hk : k < l.length) (e : nth l i = nth l k) : i = k := by
 rw [cE hi, cE hk] at e
 rw [List.nodup_iff_pairwise_ne, List.pairwise_iff_getElem] at h
 rcases Nat.lt_trichotomy i k with c | c | c
 ·exact absurd e (h i k hi hk c)
 ·exact c
 exact absurd e.symm (h k i hk hi c)
theorem Md.x8 (d : Md) (s : Sk) {k : Nat} (hk : k < d.n) : (0 ≤ nth d.ks.1 k ∧ nth d.ks.1 k < (d.n : Int)) ∧ (d.qt s k = -1 ∨ (d.qt s k = nth d.to.1 k ∧ 0 ≤ nth d.to.1 k ∧ nth d.to.1 k < (d.n : Int))) ∧ 1 ≤ d.Au s k ∧ d.Au s k ≤ nth d.sizes (nth d.ks.1 k).toNat := by
 have h1 := d.C8.2.2.1 _ (bL (xs := d.ks.1) (k := k) (by rw [d.C8.1]; exact hk))
 have h2 := d.Cl.2.2.1 _ (bL (xs := d.to.1) (k := k) (by rw [d.Cl.1]; exact hk))
 have h3 := d.FF h1
 refine ⟨h1, ?_, ?_⟩
 ·unfold Md.qt
  by_cases e : P6 (eo s) 4 = true
  ·exact .inl (if_pos e)
  exact .inr ⟨if_neg e, h2⟩
 exact uN s (by omega)
theorem Md.right (h : d.Ok) : d.JK.dh := by
 have hn := d.CH h
 have hm := d.FD h
 have hs := d.zZ
 have hl := (d.IV d.many).1
 have hlots : d.JK.lots.length = d.many := hl
 have hsz : d.JK.sizes.length = d.n := hs.1
 have key : ∀ l ∈ d.JK.lots, ∃ i, i < d.many ∧ l = d.xq (d.lt i).2 i := fun l hl' => by
  obtain ⟨i, hi, rfl⟩ := E4 hl'
  rw [hlots] at hi
  exact ⟨i, hi, d.Bs _ i hi⟩
 have hlo := h.lots
 have hsack : ∀ i, i < d.many → 1 ≤ (d.xq (d.lt i).2 i).sacks ∧ (d.xq (d.lt i).2 i).sacks ≤ nth d.sizes (nth d.ks.1 i).toNat ∧ ((d.xq (d.lt i).2 i).aim ≠ -1 → (d.xq (d.lt i).2 i).sacks ≤ nth d.sizes (d.xq (d.lt i).2 i).aim.toNat) := fun i hi => by
  obtain ⟨e1, e2, e3, e4⟩ := d.x8 (d.lt i).2 (k := i) (by omega)
  unfold Md.xq
  show 1 ≤ ite _ _ _ ∧ ite _ _ _ ≤ _ ∧ (d.qt _ _ ≠ -1 → ite _ _ _ ≤ _)
  by_cases c : d.qt (d.lt i).2 i ≠ -1 ∧ nth d.sizes (d.qt (d.lt i).2 i).toNat < d.Au (d.lt i).2 i
  ·rw [if_pos c]
   rcases e2 with e2 | ⟨e2, e5⟩
   ·exact absurd e2 c.1
   have := d.FF (x := d.qt (d.lt i).2 i) (by omega)
   exact ⟨by omega, by omega, fun _ => Int.le_refl _⟩
  rw [if_neg c]
  refine ⟨e3, e4, fun hne => ?_⟩
  show d.Au (d.lt i).2 i ≤ nth d.sizes (d.qt (d.lt i).2 i).toNat
  ·by_cases c2 : nth d.sizes (d.qt (d.lt i).2 i).toNat < d.Au (d.lt i).2 i
   ·exact absurd ⟨hne, c2⟩ c
   omega
 refine ⟨by omega, by omega, fun x hx => by have := hs.2 x hx; omega, fun l hl' => ?_, fun l hl' => ?_, fun l hl' => ?_, fun i k hk hi => ?_, fun i hi => ?_⟩
 ·obtain ⟨i, hi, rfl⟩ := key l hl'
  have h1 := hsack i hi
  have h2 := d.FF (d.x8 (d.lt i).2 (k := i) (by omega)).1
  omega
 ·obtain ⟨i, hi, rfl⟩ := key l hl'
  have h2 := (d.x8 (d.lt i).2 (k := i) (by omega)).1
  show 0 ≤ nth d.ks.1 i ∧ nth d.ks.1 i < _
  rw [hsz]; exact h2
 ·obtain ⟨i, hi, rfl⟩ := key l hl'
  have h2 := (d.x8 (d.lt i).2 (k := i) (by omega)).2.1
  show -1 ≤ d.qt _ _ ∧ d.qt _ _ < _
  rw [hsz]; omega
 ·rw [hlots] at hi
  have e1 : nth d.JK.lots i = d.xq (d.lt i).2 i := d.Bs _ i hi
  have e2 : nth d.JK.lots k = d.xq (d.lt k).2 k := d.Bs _ k (by omega)
  rw [e1, e2]
  refine ⟨fun e => ?_, fun e => ?_⟩
  ·have := De d.C8.2.1 (i := i) (k := k) (by rw [d.C8.1]; omega) (by rw [d.C8.1]; omega) e
   omega
  have e : d.qt (d.lt i).2 i = d.qt (d.lt k).2 k := e
  show d.qt (d.lt i).2 i = -1
  rcases (d.x8 (d.lt i).2 (k := i) (by omega)).2.1 with h1 | ⟨h1, h1'⟩
  ·exact h1
  rcases (d.x8 (d.lt k).2 (k := k) (by omega)).2.1 with h2 | ⟨h2, h2'⟩
  ·omega
  have := De d.Cl.2.1 (i := i) (k := k) (by rw [d.Cl.1]; omega) (by rw [d.Cl.1]; omega) (by omega)
  omega
 rw [hlots] at hi
 have e1 : nth d.JK.lots i = d.xq (d.lt i).2 i := d.Bs _ i hi
 rw [e1]
 exact ⟨(hsack i hi).2.1, (hsack i hi).2.2⟩
end Go.Proofs.YtmmcenjknimhbaaGreat
namespace Go.Proofs.YtmmcenjknimhbaaGreat
open Go Go.T
def yc (b : bR) (p : Pl) (l : List cr) (k dz : Nat) : Bool := (mL b p k || !b.hold k dz) || l.any fun t => decide (t.aim = (k : Int))
def ED (b : bR) (p : Pl) (g : Int) : Nat → List cr → Nat → List (List cr)
  | 0, l, _ => [l]
  | m + 1, l, dz => if (l.length : Int) = g then [l] else ((List.range b.sizes.length).flatMap fun k => if yc b p l k dz = true then [] else ED b p g m (l ++ [⟨dz, k⟩]) (dz + 1)) ++ ED b p g m l (dz + 1)
def lP (b : bR) (p : Pl) (g : Int) (l : List cr) (dz : Nat) : List (List cr) := ED b p g (b.lots.length - dz) l dz
def EJ (b : bR) (p : Pl) (g : Int) (l : List cr) (dz k : Nat) : List (List cr) := if yc b p l k dz = true then [] else lP b p g (l ++ [⟨dz, k⟩]) (dz + 1)
def roundUp (b : bR) (p : Pl) (g : Int) (l : List cr) (dz n : Nat) : List (List cr) := (List.range n).flatMap (EJ b p g l dz)
variable {b : bR} {p : Pl} {g : Int} {l : List cr} {dz : Nat}
theorem A4 (h : (decide ((dz : Int) = b.lots.length) || decide ((l.length : Int) = g)) = true) : lP b p g l dz = [l] := by
 simp only [Bool.or_eq_true, decide_eq_true_eq] at h
 unfold lP
 by_cases e : b.lots.length - dz = 0
 ·rw [e]; rfl
 obtain ⟨m, hm⟩ : ∃ m, b.lots.length - dz = m + 1 := ⟨b.lots.length - dz - 1, by omega⟩
 rw [hm]; exact if_pos (by omega)
theorem Mb (hl : dz < b.lots.length) (h : ¬ (l.length : Int) = g) : lP b p g l dz = roundUp b p g l dz b.sizes.length ++ lP b p g l (dz + 1) := by
 unfold lP
 obtain ⟨m, hm⟩ : ∃ m, b.lots.length - dz = m + 1 := ⟨b.lots.length - dz - 1, by omega⟩
 have hm' : b.lots.length - (dz + 1) = m := by omega
 rw [hm, hm']
 show (if (l.length : Int) = g then _ else _) = _
 rw [if_neg h]
 congr 1
 unfold roundUp
 congr 1
 funext k
 unfold EJ lP
 rw [hm']
theorem L3 {k : Nat} (h : yc b p l k dz = true) : EJ b p g l dz k = [] := if_pos h
theorem A6 {k : Nat} (h : yc b p l k dz = false) : EJ b p g l dz k = lP b p g (l ++ [⟨dz, k⟩]) (dz + 1) := if_neg (by rw [h]; decide)
def jP (b : bR) (p : Pl) (g : Int) : List (List cr) := lP b p g [] 0
end Go.Proofs.YtmmcenjknimhbaaGreat
namespace Go.Proofs.YtmmcenjknimhbaaGreat
open Go Go.T
def Vg (b : bR) (p : Pl) (t : cr) : Prop := (0 ≤ t.dz ∧ t.dz < b.lots.length) ∧ (0 ≤ t.aim ∧ t.aim < b.sizes.length) ∧ mL b p t.aim = false ∧ b.hold t.aim t.dz = true
structure m5 (b : bR) (p : Pl) (g : Int) (l : List cr) : Prop where
  len : (l.length : Int) ≤ g
  ok : ∀ t ∈ l, Vg b p t
  apart : l.Pairwise fun s t => s.dz < t.dz ∧ s.aim ≠ t.aim
theorem Kh {b : bR} {p : Pl} {l : List cr} {k dz : Nat} : yc b p l k dz = false ↔ (mL b p k = false ∧ b.hold k dz = true) ∧ ∀ t ∈ l, t.aim ≠ (k : Int) := by
 unfold yc
 simp only [Bool.or_eq_false_iff, Bool.not_eq_false', List.any_eq_false, decide_eq_true_eq]
theorem qQ {b : bR} {p : Pl} {g : Int} : ∀ (m dz : Nat) (l0 l : List cr), dz + m = b.lots.length → m5 b p g l0 → (∀ t ∈ l0, t.dz < dz) →
    (l ∈ lP b p g l0 dz ↔ ∃ r, l = l0 ++ r ∧ m5 b p g l ∧ ∀ t ∈ r, (dz : Int) ≤ t.dz)
  | 0, dz, l0, l, hm, h0, hl0 => by
    rw [A4 (by rw [decide_eq_true (show (dz : Int) = b.lots.length by omega)]; rfl), List.mem_singleton]
    constructor
    · rintro rfl; exact ⟨[], (List.append_nil _).symm, h0, fun t h => by cases h⟩
    · rintro ⟨r, rfl, h1, h2⟩
      cases r with
      | nil => exact List.append_nil _
      | cons t r =>
        have := h1.ok t (List.mem_append.2 (.inr List.mem_cons_self))
        have := h2 t List.mem_cons_self
        have := this; have := ‹Vg b p t›.1; omega
  | m + 1, dz, l0, l, hm, h0, hl0 => by
    by_cases hg : (l0.length : Int) = g
    · rw [A4 (by rw [decide_eq_true hg, Bool.or_true]), List.mem_singleton]
      constructor
      · rintro rfl; exact ⟨[], (List.append_nil _).symm, h0, fun t h => by cases h⟩
      · rintro ⟨r, rfl, h1, h2⟩
        have := h1.len
        rw [List.length_append] at this
        have : r = [] := List.length_eq_zero_iff.1 (by omega)
        rw [this, List.append_nil]
    · have hlen := h0.len
      rw [Mb (by omega) hg, List.mem_append, qQ m (dz + 1) l0 l (by omega) h0 (fun t ht => by have := hl0 t ht; omega)]
      unfold roundUp
      rw [List.mem_flatMap]
      constructor
      · rintro (⟨k, hk, h⟩ | ⟨r, h1, h2, h3⟩)
        · rw [List.mem_range] at hk
          cases hs : yc b p l0 k dz with
          | true => rw [L3 hs] at h; cases h
          | false =>
            rw [A6 hs] at h
            obtain ⟨⟨e1, e2⟩, e3⟩ := Kh.1 hs
            have hok : m5 b p g (l0 ++ [⟨dz, k⟩]) := by
              refine ⟨by rw [List.length_append]; simp; omega, fun t ht => ?_, ?_⟩
              · rcases List.mem_append.1 ht with ht | ht
                · exact h0.ok t ht
                · rw [List.mem_singleton.1 ht]
                  exact ⟨⟨by show 0 ≤ (dz : Int); omega, by show (dz : Int) < _; omega⟩, ⟨by show 0 ≤ (k : Int); omega, by show (k : Int) < _; omega⟩, e1, e2⟩
              · rw [List.pairwise_append]
                refine ⟨h0.apart, List.pairwise_singleton _ _, fun s hs t ht => ?_⟩
                rw [List.mem_singleton.1 ht]
                exact ⟨hl0 s hs, e3 s hs⟩
            obtain ⟨r, f1, f2, f3⟩ := (qQ m (dz + 1) (l0 ++ [⟨dz, k⟩]) l (by omega) hok (fun t ht => by
              rcases List.mem_append.1 ht with ht | ht
              · have := hl0 t ht; omega
              · rw [List.mem_singleton.1 ht]; show (dz : Int) < _; omega)).1 h
            refine ⟨⟨dz, k⟩ :: r, by rw [f1, List.append_assoc]; rfl, f2, fun t ht => ?_⟩
            rcases List.mem_cons.1 ht with rfl | ht
            · exact Int.le_refl _
            · have := f3 t ht; omega
        · exact ⟨r, h1, h2, fun t ht => by have := h3 t ht; omega⟩
      · rintro ⟨r, h1, h2, h3⟩
        cases r with
        | nil => exact .inr ⟨[], h1, h2, fun t ht => by cases ht⟩
        | cons t r =>
          subst h1
          have ht := h2.ok t (List.mem_append.2 (.inr List.mem_cons_self))
          have hge := h3 t List.mem_cons_self
          have hap := h2.apart
          rw [List.pairwise_append, List.pairwise_cons] at hap
          obtain ⟨a1, ⟨a2, a3⟩, a4⟩ := hap
          by_cases e : t.dz = dz
          · refine .inl ⟨t.aim.toNat, List.mem_range.2 (by have := ht.2.1; omega), ?_⟩
            have ek : ((t.aim.toNat : Nat) : Int) = t.aim := by have := ht.2.1; omega
            have ee : (⟨(dz : Int), ((t.aim.toNat : Nat) : Int)⟩ : cr) = t := by cases t; simp only [cr.mk.injEq] at *; exact ⟨e.symm, ek⟩
            have hs : yc b p l0 t.aim.toNat dz = false := Kh.2 ⟨⟨by rw [ek]; exact ht.2.2.1, by rw [ek, ← e]; exact ht.2.2.2⟩, fun s hs => by rw [ek]; exact (a4 s hs t List.mem_cons_self).2⟩
            rw [A6 hs, ee]
            have hok : m5 b p g (l0 ++ [t]) := by
              refine ⟨by have := h2.len; rw [List.length_append, List.length_cons] at this; rw [List.length_append]; simp; omega, fun s hs => h2.ok s ?_, ?_⟩
              · rcases List.mem_append.1 hs with hs | hs
                · exact List.mem_append.2 (.inl hs)
                · exact List.mem_append.2 (.inr (by rw [List.mem_singleton.1 hs]; exact List.mem_cons_self))
              · rw [List.pairwise_append]
                exact ⟨h0.apart, List.pairwise_singleton _ _, fun s hs u hu => by rw [List.mem_singleton.1 hu]; exact a4 s hs t List.mem_cons_self⟩
            refine (qQ m (dz + 1) (l0 ++ [t]) _ (by omega) hok (fun s hs => ?_)).2 ⟨r, by rw [List.append_assoc]; rfl, h2, fun s hs => ?_⟩
            · rcases List.mem_append.1 hs with hs | hs
              · have := hl0 s hs; omega
              · rw [List.mem_singleton.1 hs, e]; omega
            · have := (a2 s hs).1; omega
          · refine .inr ⟨t :: r, rfl, h2, fun s hs => ?_⟩
            rcases List.mem_cons.1 hs with rfl | hs
            · omega
            · have := (a2 s hs).1; omega
theorem pK {b : bR} {p : Pl} {g : Int} (hg : 0 ≤ g) {l : List cr} : l ∈ jP b p g ↔ m5 b p g l := by
 unfold jP
 rw [qQ b.lots.length 0 [] l (by omega) ⟨by simp; exact hg, (fun t h => by cases h), List.Pairwise.nil⟩ (fun t h => by cases h)]
 constructor
 ·rintro ⟨r, _, h, _⟩; exact h
 intro h; exact ⟨l, rfl, h, fun t ht => by have := (h.ok t ht).1.1; omega⟩
def bg (p : Pl) (l : List cr) : Pl := l.foldl bM p
theorem tZ (p : Pl) (l : List cr) (t : cr) : bg p (l ++ [t]) = bM (bg p l) t := by unfold bg; rw [List.foldl_append]; rfl
theorem CW {p : Pl} {t : cr} {i : Nat} (h : i < 6) : nth (bM p t).1 i = if t.dz.toNat = i then t.aim else nth p.1 i := O7 (by rw [p.2]; exact h)
theorem RD {b : bR} {p : Pl} {g : Int} : ∀ (l : List cr), m5 b p g l → ∀ i, i < 6 → nth (bg p l).1 i = nth p.1 i ∨ ∃ t ∈ l, nth (bg p l).1 i = t.aim := by
 refine z8 (fun _ i _ => .inl rfl) fun l t ih h i hi => ?_
 rw [tZ, CW hi]
 by_cases e : t.dz.toNat = i
 ·rw [if_pos e]; exact .inr ⟨t, List.mem_append.2 (.inr (List.mem_singleton.2 rfl)), rfl⟩
 rw [if_neg e]
 have hl : m5 b p g l := ⟨by have := h.len; rw [List.length_append] at this; simp at this; omega, fun s hs => h.ok s (List.mem_append.2 (.inl hs)), (List.pairwise_append.1 h.apart).1⟩
 rcases ih hl i hi with h1 | ⟨s, hs, h1⟩
 ·exact .inl h1
 exact .inr ⟨s, List.mem_append.2 (.inl hs), h1⟩
theorem He {b : bR} {p : Pl} {g : Int} (h6 : b.lots.length ≤ 6) : ∀ (l : List cr), m5 b p g l → oz b p l = some (bg p l) := by
 refine z8 (fun _ => rfl) fun l t ih h => ?_
 have hl : m5 b p g l := ⟨by have := h.len; rw [List.length_append] at this; simp at this; omega, fun s hs => h.ok s (List.mem_append.2 (.inl hs)), (List.pairwise_append.1 h.apart).1⟩
 have ht := h.ok t (List.mem_append.2 (.inr (List.mem_singleton.2 rfl)))
 have hap := (List.pairwise_append.1 h.apart).2.2
 rw [tZ]
 refine AP (ih hl) (ij.2 ⟨ht.1.1, ht.1.2, ht.2.1.1, ht.2.1.2, ?_, ht.2.2.2⟩)
 rw [Bool.eq_false_iff]
 intro hc
 obtain ⟨i, hi, e⟩ := (C5 h6).1 hc
 rcases RD l hl i (by omega) with h1 | ⟨s, hs, h1⟩
 ·have := (C5 h6).2 ⟨i, hi, h1.symm.trans e⟩
  rw [ht.2.2.1] at this; cases this
 exact (hap s hs t (List.mem_singleton.2 rfl)).2 (h1.symm.trans e)
def tK (b : bR) (g : Int) : Pl → List (List cr) → Option Pl
  | p, [] => some p
  | p, l :: rs => if l ∈ jP b p g then tK b g (bg p l) rs else none
theorem p7 (b : bR) (g : Int) : ∀ (rs : List (List cr)) (p : Pl) (rs' : List (List cr)), tK b g p (rs ++ rs') = (tK b g p rs).bind fun q => tK b g q rs'
  | [], p, rs' => rfl
  | l :: rs, p, rs' => by
    show (if l ∈ jP b p g then tK b g (bg p l) (rs ++ rs') else none) = Option.bind (if l ∈ jP b p g then tK b g (bg p l) rs else none) _
    by_cases h : l ∈ jP b p g
    · rw [if_pos h, if_pos h, p7 b g rs (bg p l) rs']
    · rw [if_neg h, if_neg h]; rfl
theorem Qf {b : bR} {g : Int} {p : Pl} {l : List cr} (h : l ∈ jP b p g) : tK b g p [l] = some (bg p l) := if_pos h
theorem Oi {b : bR} {g : Int} {p q : Pl} {rs : List (List cr)} {l : List cr} (h1 : tK b g p rs = some q) (h2 : l ∈ jP b q g) : tK b g p (rs ++ [l]) = some (bg q l) := by
 rw [p7, h1]; exact Qf h2
structure y8 where
  ways : List (Pl × Way)
  queue : List Pl
def qT (p : Pl) (x : y8) (l : List cr) : y8 := if (bf x.ways (bg p l)).isSome = true then x else ⟨cq x.ways (bg p l) ⟨p, l, 0⟩, x.queue ++ [bg p l]⟩
theorem BL {p : Pl} {x : y8} {l : List cr} (h : (bf x.ways (bg p l)).isSome = true) : qT p x l = x := if_pos h
theorem Dk {p : Pl} {x : y8} {l : List cr} (h : (bf x.ways (bg p l)).isSome = false) : qT p x l = ⟨cq x.ways (bg p l) ⟨p, l, 0⟩, x.queue ++ [bg p l]⟩ := if_neg (by rw [h]; decide)
structure tL (b : bR) (g : Int) (dep : Pl → Nat) (D : Nat) (cur : Option (Pl × List (List cr))) (x : y8) : Prop where
  start : bf x.ways (cO b) = some CE
  dep0 : dep (cO b) = 0
  keys : (x.ways.map Prod.fst).Nodup
  via : ∀ q w, bf x.ways q = some w → q = cO b ∨ (w.byT ∈ jP b w.frm g ∧ q = bg w.frm w.byT ∧ (∃ w', bf x.ways w.frm = some w') ∧ dep q = dep w.frm + 1)
  depl : ∀ q w, bf x.ways q = some w → dep q < x.ways.length
  bins : ∀ q w, bf x.ways q = some w → u0 q
  qin : ∀ q ∈ x.queue, (∃ w, bf x.ways q = some w) ∧ D ≤ dep q ∧ dep q ≤ D + 1
  srt : x.queue.Pairwise fun s t => dep s ≤ dep t
  old : ∀ q w, bf x.ways q = some w → q ∈ x.queue ∨ (dep q ≤ D ∧ ff b q = false ∧ ((∃ ls, cur = some (q, ls)) ∨ ∀ l ∈ jP b q g, (∃ w', bf x.ways (bg q l) = some w') ∧ dep (bg q l) ≤ dep q + 1))
  curs : ∀ p ls, cur = some (p, ls) → (∃ w, bf x.ways p = some w) ∧ dep p = D ∧ ∀ l ∈ ls, (∃ w', bf x.ways (bg p l) = some w') ∧ dep (bg p l) ≤ dep p + 1
def JX (dep : Pl → Nat) (q : Pl) (n : Nat) : Pl → Nat := fun r => if r = q then n else dep r
variable {b : bR} {g : Int} {dep : Pl → Nat} {D : Nat} {x : y8} {p : Pl}
theorem Ib (hr : b.dh) (hg : 0 ≤ g) {ls : List (List cr)} {l : List cr} (h : tL b g dep D (some (p, ls)) x) (hl : l ∈ jP b p g) : ∃ dep', tL b g dep' D (some (p, ls ++ [l])) (qT p x l) := by
  obtain ⟨⟨wp, hwp⟩, hpD, hps⟩ := h.curs p ls rfl
  cases hm : (bf x.ways (bg p l)).isSome with
  | true =>
    rw [BL hm]
    obtain ⟨w0, hw0⟩ := Option.isSome_iff_exists.1 hm
    refine ⟨dep, { h with old := fun q w hq => ?_, curs := fun p' ls' e => ?_ }⟩
    · rcases h.old q w hq with h1 | ⟨h1, h2, h3⟩
      · exact .inl h1
      · refine .inr ⟨h1, h2, ?_⟩
        rcases h3 with ⟨ls', e⟩ | h3
        · injection e with e; injection e with e1 e2; exact .inl ⟨_, by rw [e1]⟩
        · exact .inr h3
    · injection e with e; injection e with e1 e2; subst e1; subst e2
      refine ⟨⟨wp, hwp⟩, hpD, fun l' hl' => ?_⟩
      rcases List.mem_append.1 hl' with hl' | hl'
      · exact hps l' hl'
      · rw [List.mem_singleton.1 hl']
        refine ⟨⟨w0, hw0⟩, ?_⟩
        rcases h.old _ w0 hw0 with h1 | ⟨h1, _⟩
        · have := (h.qin _ h1).2.2; omega
        · omega
  | false =>
    rw [Dk hm]
    have hnone : bf x.ways (bg p l) = none := by
      cases e : bf x.ways (bg p l) with
      | none => rfl
      | some w => rw [e] at hm; cases hm
    have hne : ∀ r w, bf x.ways r = some w → r ≠ bg p l := fun r w hw e => by rw [e, hnone] at hw; cases hw
    have hget : ∀ r, bf (cq x.ways (bg p l) ⟨p, l, 0⟩) r = if bg p l = r then some ⟨p, l, 0⟩ else bf x.ways r := fun r => nJ _ _ _ _
    have hold : ∀ r w, bf x.ways r = some w → bf (cq x.ways (bg p l) ⟨p, l, 0⟩) r = some w := fun r w hw => by rw [hget, if_neg (fun e => hne r w hw e.symm)]; exact hw
    have hdep : ∀ r w, bf x.ways r = some w → JX dep (bg p l) (D + 1) r = dep r := fun r w hw => if_neg (hne r w hw)
    have hnew : JX dep (bg p l) (D + 1) (bg p l) = D + 1 := if_pos rfl
    have hlen : (cq x.ways (bg p l) ⟨p, l, 0⟩).length = x.ways.length + 1 := vq _ _ _ hnone
    have split : ∀ r w, bf (cq x.ways (bg p l) ⟨p, l, 0⟩) r = some w → (r = bg p l ∧ w = ⟨p, l, 0⟩) ∨ bf x.ways r = some w := fun r w hw => by
      rw [hget] at hw
      by_cases e : bg p l = r
      · rw [if_pos e] at hw; injection hw with hw; exact .inl ⟨e.symm, hw.symm⟩
      · rw [if_neg e] at hw; exact .inr hw
    refine ⟨JX dep (bg p l) (D + 1), hold _ _ h.start, (hdep _ _ h.start).trans h.dep0, k7 _ _ _ h.keys, fun q w hw => ?_, fun q w hw => ?_, fun q w hw => ?_, fun q hq => ?_, ?_, fun q w hw => ?_, fun p' ls' e => ?_⟩
    · rcases split q w hw with ⟨rfl, rfl⟩ | hw
      · exact .inr ⟨hl, rfl, ⟨wp, hold _ _ hwp⟩, by rw [hnew, hdep _ _ hwp, hpD]⟩
      · rcases h.via q w hw with h1 | ⟨h1, h2, ⟨w', h3⟩, h4⟩
        · exact .inl h1
        · exact .inr ⟨h1, h2, ⟨w', hold _ _ h3⟩, by rw [hdep _ _ hw, hdep _ _ h3]; exact h4⟩
    · rw [hlen]
      rcases split q w hw with ⟨rfl, rfl⟩ | hw
      · have := h.depl p wp hwp; rw [hnew]; omega
      · have := h.depl q w hw; rw [hdep _ _ hw]; omega
    · rcases split q w hw with ⟨rfl, rfl⟩ | hw
      · exact BJ hr l (h.bins p wp hwp) (He hr.lots l ((pK hg).1 hl))
      · exact h.bins q w hw
    · rcases List.mem_append.1 hq with hq | hq
      · obtain ⟨⟨w, hw⟩, h2⟩ := h.qin q hq
        exact ⟨⟨w, hold _ _ hw⟩, by rw [hdep _ _ hw]; exact h2⟩
      · rw [List.mem_singleton.1 hq, hnew]
        exact ⟨⟨_, by rw [hget, if_pos rfl]⟩, by omega, by omega⟩
    · rw [List.pairwise_append]
      refine ⟨h.srt.imp_of_mem fun {s t} hs ht hst => ?_, List.pairwise_singleton _ _, fun s hs t ht => ?_⟩
      · obtain ⟨⟨ws, h1⟩, _⟩ := h.qin s hs
        obtain ⟨⟨wt, h2⟩, _⟩ := h.qin t ht
        rw [hdep _ _ h1, hdep _ _ h2]; exact hst
      · obtain ⟨⟨ws, h1⟩, _, h2⟩ := h.qin s hs
        rw [List.mem_singleton.1 ht, hnew, hdep _ _ h1]; exact h2
    · rcases split q w hw with ⟨rfl, rfl⟩ | hw
      · exact .inl (List.mem_append.2 (.inr (List.mem_singleton.2 rfl)))
      · rcases h.old q w hw with h1 | ⟨h1, h2, h3⟩
        · exact .inl (List.mem_append.2 (.inl h1))
        · refine .inr ⟨by rw [hdep _ _ hw]; exact h1, h2, ?_⟩
          rcases h3 with ⟨ls', e⟩ | h3
          · injection e with e; injection e with e1 e2; exact .inl ⟨_, by rw [e1]⟩
          · refine .inr fun l' hl' => ?_
            obtain ⟨⟨w', h4⟩, h5⟩ := h3 l' hl'
            exact ⟨⟨w', hold _ _ h4⟩, by rw [hdep _ _ h4, hdep _ _ hw]; exact h5⟩
    · injection e with e; injection e with e1 e2; subst e1; subst e2
      refine ⟨⟨wp, hold _ _ hwp⟩, by rw [hdep _ _ hwp]; exact hpD, fun l' hl' => ?_⟩
      rcases List.mem_append.1 hl' with hl' | hl'
      · obtain ⟨⟨w', h4⟩, h5⟩ := hps l' hl'
        exact ⟨⟨w', hold _ _ h4⟩, by rw [hdep _ _ h4, hdep _ _ hwp]; exact h5⟩
      · rw [List.mem_singleton.1 hl', hnew, hdep _ _ hwp]
        exact ⟨⟨_, by rw [hget, if_pos rfl]⟩, by omega⟩
def oT (b : bR) (g : Int) (p : Pl) (z : y8) (k : Nat) : y8 := ((jP b p g).take k).foldl (qT p) z
theorem IX {z : y8} {k : Nat} (hk : k < (jP b p g).length) : oT b g p z (k + 1) = qT p (oT b g p z k) (nth (jP b p g) k) := by
 unfold oT; rw [bh hk, List.foldl_append]; rfl
theorem Ce (hr : b.dh) (hg : 0 ≤ g) {z : y8} (h : tL b g dep D (some (p, [])) z) : ∀ k, k ≤ (jP b p g).length → ∃ dep', tL b g dep' D (some (p, (jP b p g).take k)) (oT b g p z k)
  | 0, _ => ⟨dep, by rw [List.take_zero]; exact h⟩
  | k + 1, hk => by
    obtain ⟨dep', h1⟩ := Ce hr hg h k (by omega)
    rw [IX (by omega), bh (by omega)]
    exact Ib hr hg h1 (bL (by omega))
theorem Od {rest : List Pl} (h : tL b g dep D none x) (hq : x.queue = p :: rest) (hm : ff b p = false) : tL b g dep (dep p) (some (p, [])) ⟨x.ways, rest⟩ := by
 have hp := h.qin p (by rw [hq]; exact List.mem_cons_self)
 have hs := h.srt
 rw [hq, List.pairwise_cons] at hs
 refine ⟨h.start, h.dep0, h.keys, h.via, h.depl, h.bins, fun q hq' => ?_, hs.2, fun q w hw => ?_, fun p' ls e => ?_⟩
 ·have h1 := h.qin q (by rw [hq]; exact List.mem_cons_of_mem _ hq')
  have := hs.1 q hq'
  exact ⟨h1.1, this, by omega⟩
 ·rcases h.old q w hw with h1 | ⟨h1, h2, h3⟩
  ·rw [hq] at h1
   rcases List.mem_cons.1 h1 with rfl | h1
   ·exact .inr ⟨Nat.le_refl _, hm, .inl ⟨[], rfl⟩⟩
   exact .inl h1
  refine .inr ⟨by omega, h2, ?_⟩
  rcases h3 with ⟨ls, e⟩ | h3
  ·cases e
  exact .inr h3
 injection e with e; injection e with e1 e2; subst e1; subst e2
 exact ⟨hp.1, rfl, fun l hl => by cases hl⟩
theorem L8 (h : tL b g dep D (some (p, jP b p g)) x) : tL b g dep D none x :=
 { h with
  old := fun q w hw => by
   rcases h.old q w hw with h1 | ⟨h1, h2, h3⟩
   ·exact .inl h1
   refine .inr ⟨h1, h2, .inr ?_⟩
   rcases h3 with ⟨ls, e⟩ | h3
   ·injection e with e; injection e with e1 e2; subst e1
    exact (h.curs p _ rfl).2.2
   exact h3
  curs := fun _ _ e => by cases e }
def VO (b : bR) : y8 := ⟨[(cO b, CE)], [cO b]⟩
def HO (b : bR) (g : Int) (x : y8) : y8 ⊕ Found :=
  match x.queue with
  | [] => .inr ⟨x.ways, VA, false⟩
  | p :: rest => if ff b p = true then .inr ⟨x.ways, p, true⟩ else .inl (oT b g p ⟨x.ways, rest⟩ (jP b p g).length)
def Td (b : bR) (g : Int) : Nat → y8 → Option Found
  | 0, _ => none
  | n + 1, x => match HO b g x with
    | .inr f => some f
    | .inl y => Td b g n y
def F0 (b : bR) (g : Int) (x : y8) (f : Found) : Prop := ∃ n, Td b g n x = some f
theorem F0.step {y : y8} {f : Found} (e : HO b g x = .inl y) (h : F0 b g y f) : F0 b g x f := by
 obtain ⟨n, h⟩ := h
 exact ⟨n + 1, by unfold Td; rw [e]; exact h⟩
open Classical in
noncomputable def Q5 (b : bR) (g : Int) : Found := if h : ∃ f, F0 b g (VO b) f then h.choose else default
theorem Mi {rest : List Pl} (hq : x.queue = p :: rest) (hm : ff b p = false) : HO b g x = .inl (oT b g p ⟨x.ways, rest⟩ (jP b p g).length) := by unfold HO; rw [hq]; exact if_neg (by rw [hm]; decide)
theorem tL.zK {cur : Option (Pl × List (List cr))} (h : tL b g dep D cur x) : x.ways.length ≤ gk := by
 have := Ae h.keys fun p hp => by
  obtain ⟨w, hw⟩ := Fj hp
  exact h.bins p w hw
 rwa [List.length_map] at this
noncomputable def Ua (x : y8) : Nat := (gk - x.ways.length) * 2 + x.queue.length
theorem MN (z : y8) : ∀ (l : List (List cr)), (l.foldl (qT p) z).ways.length ≥ z.ways.length ∧ (l.foldl (qT p) z).queue.length + z.ways.length ≤ z.queue.length + (l.foldl (qT p) z).ways.length := by
  intro l
  induction l generalizing z with
  | nil => exact ⟨Nat.le_refl _, Nat.le_refl _⟩
  | cons t l ih =>
    rw [List.foldl_cons]
    obtain ⟨h1, h2⟩ := ih (qT p z t)
    cases hm : (bf z.ways (bg p t)).isSome with
    | true => rw [BL hm] at h1 h2 ⊢; exact ⟨h1, h2⟩
    | false =>
      have hn : bf z.ways (bg p t) = none := by
        cases e : bf z.ways (bg p t) with
        | none => rfl
        | some w => rw [e] at hm; cases hm
      rw [Dk hm] at h1 h2 ⊢
      have := vq z.ways (bg p t) ⟨p, t, 0⟩ hn
      simp only [List.length_append, List.length_singleton] at h1 h2
      rw [this] at h1 h2
      exact ⟨by omega, by omega⟩
theorem RS {rest : List Pl} {dep' : Pl → Nat} {D' : Nat} {cur' : Option (Pl × List (List cr))} (hq : x.queue = p :: rest) (h : tL b g dep' D' cur' (oT b g p ⟨x.ways, rest⟩ (jP b p g).length)) : Ua (oT b g p ⟨x.ways, rest⟩ (jP b p g).length) < Ua x := by
 have h1 := h.zK
 have h2 := MN (p := p) ⟨x.ways, rest⟩ ((jP b p g).take (jP b p g).length)
 unfold Ua
 rw [hq, List.length_cons]
 have h2 : (oT b g p ⟨x.ways, rest⟩ (jP b p g).length).ways.length ≥ x.ways.length ∧ (oT b g p ⟨x.ways, rest⟩ (jP b p g).length).queue.length + x.ways.length ≤ rest.length + (oT b g p ⟨x.ways, rest⟩ (jP b p g).length).ways.length := h2
 omega
theorem NI (hr : b.dh) (hg : 0 ≤ g) {rest : List Pl} (h : tL b g dep D none x) (hq : x.queue = p :: rest) (hm : ff b p = false) : ∃ dep' D', tL b g dep' D' none (oT b g p ⟨x.ways, rest⟩ (jP b p g).length) := by
 obtain ⟨dep', h1⟩ := Ce hr hg (Od h hq hm) _ (Nat.le_refl _)
 rw [List.take_length] at h1
 exact ⟨dep', _, L8 h1⟩
structure VW (b : bR) (g : Int) (f : Found) : Prop where
  yes : f.is = true → ∃ L, rW f.ways (cO b) f.last L ∧ tK b g (cO b) L = some f.last ∧ ff b f.last = true ∧ (L.length ≤ 40000000) ∧ ∀ rs q, tK b g (cO b) rs = some q → ff b q = true → L.length ≤ rs.length
  no : f.is = false → ∀ rs q, tK b g (cO b) rs = some q → ff b q = false
theorem tL.chain (h : tL b g dep D none x) : ∀ (n : Nat) (p : Pl) (w : Way), bf x.ways p = some w → dep p ≤ n → ∃ A, rW x.ways (cO b) p A ∧ tK b g (cO b) A = some p ∧ A.length = dep p := by
  intro n
  induction n with
  | zero =>
    intro p w hw hn
    rcases h.via p w hw with e | ⟨_, _, _, h4⟩
    · subst e; exact ⟨[], .nil, rfl, h.dep0.symm⟩
    · omega
  | succ n ih =>
    intro p w hw hn
    by_cases e : p = cO b
    · subst e; exact ⟨[], .nil, rfl, h.dep0.symm⟩
    rcases h.via p w hw with e' | ⟨h1, h2, ⟨w', h3⟩, h4⟩
    · exact absurd e' e
    · obtain ⟨A, g1, g2, g3⟩ := ih w.frm w' h3 (by omega)
      exact ⟨A ++ [w.byT], .snoc e hw g1, by rw [h2]; exact Oi g2 h1, by rw [List.length_append, g3, h4]; rfl⟩
def J2 (b : bR) (g : Int) (x : y8) : Prop := ∀ f, F0 b g x f → Q5 b g = f
theorem J2.step {y : y8} (h : J2 b g x) (e : HO b g x = .inl y) : J2 b g y := fun f hf => h f (hf.step e)
def C2 (x : y8) : Pl := nth x.queue 0
def Rt (x : y8) : y8 := ⟨x.ways, x.queue.drop 1⟩
theorem S1 {x : y8} (h : 0 < x.queue.length) : x.queue = C2 x :: x.queue.drop 1 := by
 have := pE h
 rw [List.drop_zero] at this
 exact this
structure Oe (b : bR) (g : Int) (x : y8) : Prop where
  inv : ∃ dep D, tL b g dep D none x
  same : J2 b g x
theorem Oe.len (h : Oe b g x) : x.ways.length ≤ gk := let ⟨_, _, h⟩ := h.inv; h.zK
theorem Oe.next (h : Oe b g x) (hr : b.dh) (hg : 0 ≤ g) (hq : 0 < x.queue.length) (hm : ff b (C2 x) = false) : Oe b g (oT b g (C2 x) (Rt x) (jP b (C2 x) g).length) ∧ Ua (oT b g (C2 x) (Rt x) (jP b (C2 x) g).length) < Ua x := by
 obtain ⟨dep, D, h1⟩ := h.inv
 obtain ⟨dep', D', h2⟩ := NI hr hg h1 (S1 hq) hm
 exact ⟨⟨⟨dep', D', h2⟩, h.same.step (Mi (S1 hq) hm)⟩, RS (S1 hq) h2⟩
end Go.Proofs.YtmmcenjknimhbaaGreat
namespace Go.Proofs.YtmmcenjknimhbaaGreat
open Go Go.T
def LY (b : bR) : List Int := b.lots.map fun l => l.inn
def Sq (b : bR) (p : List Int) (t : cr) : Bool := decide (t.dz < 0) || decide (t.dz ≥ p.length) || decide (t.aim < 0) || decide (t.aim ≥ b.sizes.length) || decide (t.aim ∈ p) || decide (nth b.sizes t.aim.toNat < (nth b.lots t.dz.toNat).sacks)
theorem Ln {b : bR} {p : List Int} {t : cr} : Sq b p t = false ↔ (0 ≤ t.dz ∧ t.dz < p.length) ∧ (0 ≤ t.aim ∧ t.aim < b.sizes.length) ∧ t.aim ∉ p ∧ (nth b.lots t.dz.toNat).sacks ≤ nth b.sizes t.aim.toNat := by
 unfold Sq
 simp only [Bool.or_eq_false_iff, decide_eq_false_iff_not]
 constructor
 ·rintro ⟨⟨⟨⟨⟨h1, h2⟩, h3⟩, h4⟩, h5⟩, h6⟩; exact ⟨by omega, by omega, h5, by omega⟩
 rintro ⟨h1, h2, h3, h4⟩; exact ⟨⟨⟨⟨⟨by omega, by omega⟩, by omega⟩, by omega⟩, h3⟩, by omega⟩
def Ar (b : bR) : List Int → List cr → Option (List Int)
  | p, [] => some p
  | p, t :: l => if Sq b p t = true then none else Ar b (p.set t.dz.toNat t.aim) l
def y5 (b : bR) (plan : List cr) : List Int × Bool := match Ar b (LY b) plan with
  | some p => (p, true)
  | none => ([], false)
structure Tp (b : bR) (plan : List cr) (k : Nat) (p : List Int) : Prop where
  same : Ar b (LY b) plan = Ar b p (plan.drop k)
  len : p.length = b.lots.length
  le : k ≤ plan.length
section
variable {b : bR} {plan : List cr} {k : Nat} {p : List Int}
theorem Tp.next (h : Tp b plan k p) (hk : k < plan.length) (hn : Sq b p (nth plan k) = false) : Tp b plan (k + 1) (p.set (nth plan k).dz.toNat (nth plan k).aim) := by
 refine ⟨?_, by rw [List.length_set]; exact h.len, hk⟩
 rw [h.same, pE hk]
 exact if_neg (by rw [hn]; decide)
theorem Tp.end (h : Tp b plan k p) (hk : plan.length ≤ k) : y5 b plan = (p, true) := by
 unfold y5
 rw [h.same, List.drop_of_length_le hk]; rfl
end
theorem IF {b : bR} {P : Pl} {x : Int} : mL b P x = false ↔ x ∉ P.1.take b.lots.length := by
 unfold mL; rw [List.any_eq_false]; simp only [decide_eq_true_eq]
 exact ⟨fun h hm => h _ hm rfl, fun h y hy e => h (e ▸ hy)⟩
theorem DZ {b : bR} {P : Pl} (h6 : b.lots.length ≤ 6) {t : cr} : Sq b (P.1.take b.lots.length) t = false ↔ t ∈ cH b P := by
 rw [Ln, ij]
 have hl : (P.1.take b.lots.length).length = b.lots.length := by rw [List.length_take, P.2]; omega
 rw [hl, IF]; unfold bR.hold; rw [decide_eq_true_eq]
 constructor
 ·rintro ⟨⟨h1, h2⟩, ⟨h3, h4⟩, h5, h6⟩; exact ⟨h1, h2, h3, h4, h5, h6⟩
 rintro ⟨h1, h2, h3, h4, h5, h6⟩; exact ⟨⟨h1, h2⟩, ⟨h3, h4⟩, h5, h6⟩
theorem Pw {P : Pl} {t : cr} {n : Nat} : (P.1.take n).set t.dz.toNat t.aim = (bM P t).1.take n := by
 unfold bM; rw [List.take_set]
theorem Np {b : bR} (h6 : b.lots.length ≤ 6) : ∀ (l : List cr) (P : Pl), Ar b (P.1.take b.lots.length) l = (oz b P l).map fun q => q.1.take b.lots.length
  | [], P => rfl
  | t :: l, P => by
    show (if Sq b (P.1.take b.lots.length) t = true then none else Ar b ((P.1.take b.lots.length).set t.dz.toNat t.aim) l) = Option.map _ (if t ∈ cH b P then oz b (bM P t) l else none)
    by_cases h : t ∈ cH b P
    · rw [if_pos h, if_neg (by rw [(DZ h6).2 h]; decide), Pw, Np h6 l]
    · rw [if_neg h, if_pos (by
        cases e : Sq b (P.1.take b.lots.length) t with
        | true => rfl
        | false => exact absurd ((DZ h6).1 e) h)]; rfl
theorem CX {b : bR} (h6 : b.lots.length ≤ 6) : (cO b).1.take b.lots.length = LY b := by
 unfold cO LY
 show List.take _ (List.take 6 _) = _
 rw [List.take_take, Nat.min_eq_left h6, List.take_append_of_le_length (by simp)]
 exact List.take_of_length_le (by simp)
theorem Ot {b : bR} (h6 : b.lots.length ≤ 6) (l : List cr) : Ar b (LY b) l = (oz b (cO b) l).map fun q => q.1.take b.lots.length := by rw [← CX h6, Np h6]
theorem Lr {b : bR} (h6 : b.lots.length ≤ 6) {l : List cr} {q : Pl} (h : oz b (cO b) l = some q) : y5 b l = (q.1.take b.lots.length, true) := by
 unfold y5; rw [Ot h6, h]; rfl
theorem Kt {b : bR} (h6 : b.lots.length ≤ 6) {l : List cr} (h : oz b (cO b) l = none) : y5 b l = ([], false) := by
 unfold y5; rw [Ot h6, h]; rfl
def Ux (b : bR) (p : List Int) (i : Nat) : Bool := decide ((nth b.lots i).aim = -1) || decide ((nth b.lots i).aim = nth p i)
def Uv (b : bR) (plan : List cr) (k : Nat) : Bool := (y5 b plan).2 && (List.range k).all (Ux b (y5 b plan).1)
def ud (b : bR) (plan : List cr) : Bool := Uv b plan (y5 b plan).1.length
theorem BY {l : List Int} {n i : Nat} (h : i < n) : nth (l.take n) i = nth l i := by
 unfold nth; rw [List.getD_eq_getElem?_getD, List.getD_eq_getElem?_getD, List.getElem?_take_of_lt h]
theorem sq {b : bR} (h6 : b.lots.length ≤ 6) {l : List cr} : ud b l = true ↔ ∃ q, oz b (cO b) l = some q ∧ ff b q = true := by
  unfold ud Uv
  cases h : oz b (cO b) l with
  | none => rw [Kt h6 h]; exact ⟨(fun h => by cases h), fun ⟨_, h, _⟩ => by cases h⟩
  | some q =>
    rw [Lr h6 h]
    have hl : (q.1.take b.lots.length).length = b.lots.length := by rw [List.length_take, q.2]; omega
    have e : (true && (List.range (q.1.take b.lots.length).length).all (Ux b (q.1.take b.lots.length))) = ff b q := by
      rw [hl, Bool.true_and]
      unfold ff
      rw [Bool.eq_iff_iff, List.all_eq_true, List.all_eq_true]
      have key : ∀ i, i ∈ List.range b.lots.length → Ux b (q.1.take b.lots.length) i = (decide ((nth b.lots i).aim = -1) || decide ((nth b.lots i).aim = nth q.1 i)) := fun i hi => by
        unfold Ux; rw [BY (List.mem_range.1 hi)]
      exact ⟨fun H i hi => by rw [← key i hi]; exact H i hi, fun H i hi => by rw [key i hi]; exact H i hi⟩
    show (true && _) = true ↔ _
    rw [e]
    exact ⟨fun h => ⟨q, rfl, h⟩, fun ⟨q', h1, h2⟩ => by injection h1 with h1; rw [h1]; exact h2⟩
structure VJ (b : bR) (s : Sk) (most : Int) (l : List cr) (e : Sk) : Prop where
  len : (l.length : Int) ≤ most
  taken : s.taken ≤ e.taken ∧ e.taken ≤ s.taken + 1 + 2 * most
  ok : (y5 b l).2 = true
end Go.Proofs.YtmmcenjknimhbaaGreat
namespace Go.Proofs.YtmmcenjknimhbaaGreat
open Go Go.T
def SP (b : bR) (p : Pl) : Prop := ∀ i k, i < b.lots.length → k < b.lots.length → nth p.1 i = nth p.1 k → i = k
theorem AT {b : bR} {p q : Pl} {t : cr} {l : List cr} (h : oz b p (t :: l) = some q) : t ∈ cH b p ∧ oz b (bM p t) l = some q := by
 have h : (if t ∈ cH b p then oz b (bM p t) l else none) = some q := h
 by_cases hu : t ∈ cH b p
 ·rw [if_pos hu] at h; exact ⟨hu, h⟩
 rw [if_neg hu] at h; cases h
theorem L5 {b : bR} (h6 : b.lots.length ≤ 6) {i : Nat} (hi : i < b.lots.length) : nth (cO b).1 i = (nth b.lots i).inn := by
 rw [← BY (n := b.lots.length) hi, CX h6]
 unfold LY
 rw [cE (by rw [List.length_map]; exact hi), cE hi, List.getElem_map]
structure J3 (b : bR) (c : cr → Int) (e : Int) (l : List cr) (n : Int) : Prop where
  err : e = 0 ∨ e = 7
  yes : e = 0 → ud b l = true ∧ jq c l = n ∧ ∀ x, ud b x = true → n ≤ jq c x
  no : e = 7 → l = [] ∧ n = 0 ∧ ∀ x, ud b x = false
theorem HA (l : List cr) : jq H7 l = l.length := by
  unfold jq H7
  induction l with
  | nil => rfl
  | cons t l ih => rw [List.map_cons, List.sum_cons, ih, List.length_cons]; omega
end Go.Proofs.YtmmcenjknimhbaaGreat
namespace Go.Proofs.YtmmcenjknimhbaaGreat
open Go Go.T
variable {b : bR} {g : Int}
theorem ry {p q : Pl} {l : List cr} {rs : List (List cr)} (h : tK b g p (l :: rs) = some q) : l ∈ jP b p g ∧ tK b g (bg p l) rs = some q := by
 have h : (if l ∈ jP b p g then tK b g (bg p l) rs else none) = some q := h
 by_cases hu : l ∈ jP b p g
 ·rw [if_pos hu] at h; exact ⟨hu, h⟩
 rw [if_neg hu] at h; cases h
theorem xP {p : Pl} {l : List cr} {rs : List (List cr)} (h : l ∈ jP b p g) : tK b g p (l :: rs) = tK b g (bg p l) rs := if_pos h
theorem vR (h6 : b.lots.length ≤ 6) (hg : 0 ≤ g) : ∀ (rs : List (List cr)) {p q : Pl}, tK b g p rs = some q → oz b p rs.flatten = some q
  | [], p, q, h => h
  | l :: rs, p, q, h => by
    obtain ⟨h1, h2⟩ := ry h
    rw [List.flatten_cons, qX, He h6 l ((pK hg).1 h1)]
    exact vR h6 hg rs h2
theorem LD {p : Pl} {t : cr} (hg : 1 ≤ g) (h : t ∈ cH b p) : [t] ∈ jP b p g := by
 rw [pK (by omega)]
 have := ij.1 h
 refine ⟨by simpa using hg, fun u hu => ?_, List.pairwise_singleton _ _⟩
 rw [List.mem_singleton.1 hu]
 exact ⟨⟨this.1, this.2.1⟩, ⟨this.2.2.1, this.2.2.2.1⟩, this.2.2.2.2.1, this.2.2.2.2.2⟩
theorem rJ (hg : 1 ≤ g) : ∀ (l : List cr) {p q : Pl}, oz b p l = some q → tK b g p (l.map fun t => [t]) = some q
  | [], p, q, h => h
  | t :: l, p, q, h => by
    obtain ⟨h1, h2⟩ := AT h
    rw [List.map_cons, xP (LD hg h1)]
    exact rJ hg l h2
theorem G7 {g' : Int} (hg : 0 ≤ g) (hgg : g ≤ g') : ∀ (rs : List (List cr)) {p q : Pl}, tK b g p rs = some q → tK b g' p rs = some q
  | [], p, q, h => h
  | l :: rs, p, q, h => by
    obtain ⟨h1, h2⟩ := ry h
    have h3 := (pK hg).1 h1
    rw [xP ((pK (by omega)).2 ⟨by have := h3.len; omega, h3.ok, h3.apart⟩)]
    exact G7 hg hgg rs h2
theorem zx (hg : 0 ≤ g) : ∀ (rs : List (List cr)) {p q : Pl}, tK b g p rs = some q → ∀ l ∈ rs, (l.length : Int) ≤ g
  | [], p, q, _, l, hl => by cases hl
  | r :: rs, p, q, h, l, hl => by
    obtain ⟨h1, h2⟩ := ry h
    rcases List.mem_cons.1 hl with rfl | hl
    · exact ((pK hg).1 h1).len
    · exact zx hg rs h2 l hl
theorem Jj (hg : 0 ≤ g) : ∀ (rs : List (List cr)), (∀ l ∈ rs, (l.length : Int) ≤ g) → (rs.flatten.length : Int) ≤ rs.length * g
  | [], _ => by simp
  | l :: rs, h => by
    have h1 := h l List.mem_cons_self
    have h2 := Jj hg rs fun r hr => h r (List.mem_cons_of_mem _ hr)
    rw [List.flatten_cons, List.length_append, List.length_cons]
    have e : (((rs.length + 1 : Nat) : Int)) * g = rs.length * g + g := by rw [Int.natCast_add, Int.add_mul]; simp
    rw [e]; omega
structure xd (b : bR) (g e : Int) (rs : List (List cr)) : Prop where
  err : e = 0 ∨ e = 7
  yes : e = 0 → ∃ q, tK b g (cO b) rs = some q ∧ ff b q = true ∧ ∀ rs' q', tK b g (cO b) rs' = some q' → ff b q' = true → rs.length ≤ rs'.length
  no : e = 7 → rs = [] ∧ ∀ rs' q, tK b g (cO b) rs' = some q → ff b q = false
section
variable {e e' n : Int} {l : List cr} {rs rs' : List (List cr)}
theorem xd.same (h : xd b g e' rs) (h6 : b.lots.length ≤ 6) (hg : 1 ≤ g) (hc : J3 b H7 e l n) : e' = e := by
 rcases h.err with rfl | rfl
 ·rcases hc.err with rfl | rfl
  ·rfl
  obtain ⟨q, h1, h2, _⟩ := h.yes rfl
  have := (hc.no rfl).2.2 rs.flatten
  rw [(sq h6).2 ⟨q, vR h6 (by omega) rs h1, h2⟩] at this; cases this
 rcases hc.err with rfl | rfl
 ·obtain ⟨q, h1, h2⟩ := (sq h6).1 (hc.yes rfl).1
  have := (h.no rfl).2 _ q (rJ hg l h1)
  rw [h2] at this; cases this
 rfl
theorem xd.right (h : xd b g 0 rs) (h6 : b.lots.length ≤ 6) (hg : 1 ≤ g) : ud b rs.flatten = true := by
 obtain ⟨q, h1, h2, _⟩ := h.yes rfl
 exact (sq h6).2 ⟨q, vR h6 (by omega) rs h1, h2⟩
theorem xd.zK (h : xd b g 0 rs) (h6 : b.lots.length ≤ 6) (hg : 1 ≤ g) (hc : J3 b H7 0 l n) : n ≤ rs.length * g ∧ (rs.length : Int) ≤ n := by
 obtain ⟨q, h1, h2, h3⟩ := h.yes rfl
 obtain ⟨c1, c2, c3⟩ := hc.yes rfl
 rw [HA] at c2
 constructor
 ·have h4 := c3 _ (h.right h6 hg)
  rw [HA] at h4
  have := Jj (by omega) rs (zx (by omega) rs h1)
  omega
 obtain ⟨q', g1, g2⟩ := (sq h6).1 c1
 have := h3 _ q' (rJ hg l g1) g2
 rw [List.length_map] at this; omega
theorem xd.less (h : xd b g 0 rs) (h' : xd b (g + 1) 0 rs') (hg : 1 ≤ g) : rs'.length ≤ rs.length := by
 obtain ⟨q, h1, h2, _⟩ := h.yes rfl
 obtain ⟨_, _, _, h3⟩ := h'.yes rfl
 exact h3 _ q (G7 (by omega) (by omega) rs h1) h2
theorem HD (hg : 0 ≤ g) : ∀ (rs1 : List (List cr)) {rs2 : List (List cr)} {p q : Pl}, tK b g p (rs1 ++ [] :: rs2) = some q → tK b g p (rs1 ++ rs2) = some q
  | [], rs2, p, q, h => (ry h).2
  | r :: rs1, rs2, p, q, h => by
    obtain ⟨h1, h2⟩ := ry h
    rw [List.cons_append, xP h1]
    exact HD hg rs1 h2
theorem xd.rows (h : xd b g 0 rs) (hg : 1 ≤ g) : ∀ l ∈ rs, 0 < l.length ∧ (l.length : Int) ≤ g := fun l hl => by
  obtain ⟨q, h1, h2, h3⟩ := h.yes rfl
  refine ⟨?_, zx (by omega) rs h1 l hl⟩
  cases l with
  | cons t l => exact Nat.zero_lt_succ _
  | nil =>
    obtain ⟨s, r, e⟩ := List.append_of_mem hl
    rw [e] at h1
    have := h3 _ q (HD (by omega) s h1) h2
    rw [e] at this; simp at this
    omega
end
def uU (m : Nat) : Nat → List (List Int)
  | 0 => [[]]
  | n + 1 => (List.range m).flatMap fun (k : Nat) => (uU m n).map fun l => (k : Int) :: l
theorem Ax (m : Nat) : ∀ n, (uU m n).length = m ^ n
  | 0 => rfl
  | n + 1 => by
    unfold uU
    rw [List.length_flatMap]
    have : ((List.range m).map fun (k : Nat) => ((uU m n).map fun l => (k : Int) :: l).length) = List.replicate m (m ^ n) := by
      rw [List.eq_replicate_iff]
      refine ⟨by simp, fun x hx => ?_⟩
      obtain ⟨k, _, rfl⟩ := List.mem_map.1 hx
      rw [List.length_map, Ax m n]
    rw [this, List.sum_replicate_nat, Nat.pow_succ, Nat.mul_comm]
theorem Bi {m : Nat} : ∀ {n : Nat} {l : List Int}, l.length = n → (∀ x ∈ l, 0 ≤ x ∧ x < (m : Int)) → l ∈ uU m n
  | 0, l, h, _ => by rw [List.length_eq_zero_iff.1 h]; exact List.mem_singleton.2 rfl
  | n + 1, [], h, _ => by cases h
  | n + 1, x :: l, h, hx => by
    unfold uU
    have h1 := hx x List.mem_cons_self
    rw [List.mem_flatMap]
    refine ⟨x.toNat, List.mem_range.2 (by omega), List.mem_map.2 ⟨l, Bi (by simpa using h) (fun y hy => hx y (List.mem_cons_of_mem _ hy)), ?_⟩⟩
    rw [Int.toNat_of_nonneg h1.1]
theorem En {b : bR} : ∀ (l : List cr) {p q : Pl}, oz b p l = some q → q.1.drop b.lots.length = p.1.drop b.lots.length
  | [], p, q, h => by injection h with h; rw [h]
  | t :: l, p, q, h => by
    obtain ⟨h1, h2⟩ := AT h
    have h3 := ij.1 h1
    rw [En l h2]
    unfold bM
    exact List.drop_set_of_lt (by omega)
theorem FV {b : bR} (h6 : b.lots.length ≤ 6) : ∀ (l : List cr) {p q : Pl}, (∀ i, i < b.lots.length → 0 ≤ nth p.1 i ∧ nth p.1 i < b.sizes.length) → oz b p l = some q → ∀ i, i < b.lots.length → 0 ≤ nth q.1 i ∧ nth q.1 i < b.sizes.length
  | [], p, q, hp, h => by injection h with h; rw [← h]; exact hp
  | t :: l, p, q, hp, h => by
    obtain ⟨h1, h2⟩ := AT h
    have h3 := ij.1 h1
    refine FV h6 l (fun i hi => ?_) h2
    rw [CW (by omega)]
    by_cases e : t.dz.toNat = i
    · rw [if_pos e]; exact ⟨h3.2.2.1, h3.2.2.2.1⟩
    · rw [if_neg e]; exact hp i hi
theorem Ge {b : bR} (hr : b.dh) : ∀ i, i < b.lots.length → 0 ≤ nth (cO b).1 i ∧ nth (cO b).1 i < b.sizes.length := fun i hi => by
 rw [L5 hr.lots hi]; exact hr.inn _ (bL hi)
theorem GX {b : bR} (hr : b.dh) {L : List Pl} (hn : L.Nodup) (h : ∀ p ∈ L, ∃ l, oz b (cO b) l = some p) : L.length ≤ b.sizes.length ^ b.lots.length := by
 have hm : (L.map fun p => p.1.take b.lots.length).Nodup := by
  rw [List.nodup_iff_pairwise_ne, List.pairwise_map]
  refine (List.nodup_iff_pairwise_ne.1 hn).imp_of_mem fun {p q} hp hq hne e => hne ?_
  obtain ⟨l, hl⟩ := h p hp
  obtain ⟨l', hl'⟩ := h q hq
  apply Subtype.ext
  rw [← List.take_append_drop b.lots.length p.1, ← List.take_append_drop b.lots.length q.1, e, En l hl, En l' hl']
 have := xS hm (L := uU b.sizes.length b.lots.length) fun x hx => by
  obtain ⟨p, hp, rfl⟩ := List.mem_map.1 hx
  obtain ⟨l, hl⟩ := h p hp
  have hlen : (p.1.take b.lots.length).length = b.lots.length := by rw [List.length_take, p.2]; have := hr.lots; omega
  refine Bi hlen fun y hy => ?_
  obtain ⟨i, hi, rfl⟩ := E4 hy
  rw [hlen] at hi
  rw [BY hi]
  exact FV hr.lots l (Ge hr) hl i hi
 rw [Ax, List.length_map] at this
 exact this
theorem D7 (hr : b.dh) (hg : 0 ≤ g) {rs : List (List cr)} {q : Pl} (h : tK b g (cO b) rs = some q) (hm : ∀ rs' q', tK b g (cO b) rs' = some q' → q' = q → rs.length ≤ rs'.length) : rs.length < b.sizes.length ^ b.lots.length := by
  have key : ∀ k, ∃ p, tK b g (cO b) (rs.take k) = some p ∧ tK b g p (rs.drop k) = some q := fun k => by
    have e := h
    rw [← List.take_append_drop k rs, p7] at e
    cases h1 : tK b g (cO b) (rs.take k) with
    | none => rw [h1] at e; cases e
    | some p => rw [h1] at e; exact ⟨p, rfl, e⟩
  have hn : ((List.range (rs.length + 1)).map fun k => (key k).choose).Nodup := by
    rw [List.nodup_iff_pairwise_ne, List.pairwise_map]
    refine List.Pairwise.imp_of_mem (R := fun a c => a < c) (fun {a c} ha hc hac e => ?_) List.pairwise_lt_range
    obtain ⟨h1, h2⟩ := (key a).choose_spec
    obtain ⟨h3, h4⟩ := (key c).choose_spec
    rw [← e] at h4
    have h5 := hm (rs.take a ++ rs.drop c) q (by rw [p7, h1]; exact h4) rfl
    rw [List.length_append, List.length_take, List.length_drop] at h5
    have := List.mem_range.1 hc
    omega
  have := GX hr hn fun p hp => by
    obtain ⟨k, _, rfl⟩ := List.mem_map.1 hp
    exact ⟨_, vR hr.lots hg _ (key k).choose_spec.1⟩
  rw [List.length_map, List.length_range] at this
  omega
theorem xd.short {rs : List (List cr)} (h : xd b g 0 rs) (hr : b.dh) (hg : 1 ≤ g) : rs.length < b.sizes.length ^ b.lots.length := by
 obtain ⟨q, h1, h2, h3⟩ := h.yes rfl
 exact D7 hr (by omega) h1 fun rs' q' e eq => h3 rs' q' e (by rw [eq]; exact h2)
def VR (l : List cr) : Bool := (List.range (l.length - 1)).any fun i => decide ((nth l (i + 1)).dz ≤ (nth l i).dz)
def V2 (b : bR) (p : Pl) (l : List cr) (i : Nat) : Bool := mL b p (nth l i).aim || (l.take i).any fun u => decide (u.aim = (nth l i).aim)
def Vv (b : bR) (p : Pl) (l : List cr) : Bool := (List.range l.length).any fun i => V2 b p l i
def Ja (b : bR) (p : Pl) (g : Int) (l : List cr) : Int :=
  if (!l.all fun t => b.dz t.dz && b.bin t.aim) = true then 1 else if VR l = true then 4 else if Vv b p l = true then 5 else if (!l.all fun t => b.hold t.aim t.dz) = true then 9 else if (l.length : Int) > g then 2 else 0
def zI (b : bR) (g : Int) : Pl → List (List cr) → Bool × Int
  | p, [] => (ff b p, 0)
  | p, l :: rs => if Ja b p g l = 0 then zI b g (bg p l) rs else (false, Ja b p g l)
structure Tl (b : bR) (g : Int) (rs : List (List cr)) (k : Nat) (p : Pl) : Prop where
  same : zI b g (cO b) rs = zI b g p (rs.drop k)
  le : k ≤ rs.length
theorem Tl.next {rs : List (List cr)} {k : Nat} {p : Pl} (h : Tl b g rs k p) (hk : k < rs.length) (he : Ja b p g (nth rs k) = 0) : Tl b g rs (k + 1) (bg p (nth rs k)) :=
 ⟨by rw [h.same, pE hk]; exact if_pos he, hk⟩
theorem Tl.end {rs : List (List cr)} {k : Nat} {p : Pl} (h : Tl b g rs k p) (hk : rs.length ≤ k) : zI b g (cO b) rs = (ff b p, 0) := by
 rw [h.same, List.drop_of_length_le hk]; rfl
end Go.Proofs.YtmmcenjknimhbaaGreat
namespace Go.Proofs.YtmmcenjknimhbaaGreat
open Go Go.T
variable {b : bR} {p q : Pl} {t : cr}
structure VP (b : bR) (p : Pl) : Prop where
  apart : SP b p
  named : ∀ i, i < b.lots.length → 0 ≤ nth p.1 i ∧ nth p.1 i < b.sizes.length
  holds : ∀ i, i < b.lots.length → (nth b.lots i).sacks ≤ nth b.sizes (nth p.1 i).toNat
structure Vi (b : bR) (plan : List cr) (a : bR) (back : List cr) (p : List Int) : Prop where
  done : Kj b plan = (a, back, 0)
  home : Kj a back = (b, plan, 0)
  right : a.dh
  cost : jq (R7 a) back = jq (R7 b) plan
  ok : (y5 a back).2 = true
  at_ : y5 b plan = (p, true)
  sizes : a.sizes = b.sizes
  len : a.lots.length = b.lots.length
  plen : p.length = b.lots.length
  dz : ∀ i, i < b.lots.length → nth a.lots i = ⟨(nth b.lots i).sacks, nth p i, (nth b.lots i).aim⟩
  places : D4 a = D4 b
  one : 1 ≤ D4 b
  makes : Sg b plan = ud b plan
  zK : ∀ e l n e' l' n', J3 b H7 e l n → J3 a H7 e' l' n' → e = e' ∧ (e = 0 → n ≤ n' + plan.length ∧ n' ≤ n + plan.length)
end Go.Proofs.YtmmcenjknimhbaaGreat
namespace Go.Proofs.YtmmcenjknimhbaaGreat
open Go Go.T
structure VD (f : bS) : Prop where
  mar : wE f = BH f
  all : GW f (kI f).1 = true
  marl : FM f (kI f).1 f.bears.length = wE f
  keep : decide (0 < ((KJ f).length : Int)) = decide (0 ≤ wE f)
  err : decide (Rp f = 0) = decide (0 ≤ wE f)
  err6 : decide (Rp f = 6) = !decide (0 ≤ wE f)
  rng : ∀ x ∈ Rh f, 0 ≤ x ∧ x < (f.turnings.length : Int)
  zK : (Rh f).length ≤ f.turnings.length
end Go.Proofs.YtmmcenjknimhbaaGreat
namespace Go.Proofs.YtmmcenjknimhbaaGreat
open Go Go.T
def Jq : bS := ⟨[], [], [], []⟩
def qp (f : bS) (r : kT) : bS := { f with rules := f.rules ++ [r] }
def Rf (f : bS) (r : kT) : bS × Int :=
  if bk f ≠ 0 then (Jq, bk f) else if (f.rules.length : Int) = 16 then (Jq, 9) else if bk (qp f r) ≠ 0 then (Jq, bk (qp f r)) else (qp f r, 0)
section
variable {f : bS} {r : kT}
end
theorem lK.mono {l m : List kT} (h : ∀ r ∈ l, r ∈ m) {x y : Int} (hl : lK l x y) : lK m x y := by
  induction hl with
  | one hr => exact .one (h _ hr)
  | step hr _ ih => exact .step (h _ hr) ih
end Go.Proofs.YtmmcenjknimhbaaGreat
namespace Go.Proofs.YtmmcenjknimhbaaGreat
open Go Go.T
def RK (f : bS) (a b : Int) : Int := if b ∈ fW f a then 0 else ((KJ (qp f ⟨a, b⟩)).length : Int)
def yp (a b : Int) : List kT := [⟨a, b⟩, ⟨b, a⟩]
def Tm (f : bS) (a b : Int) : Nat → Int
  | 0 => 0
  | 1 => RK f a b
  | _ => RK f a b + RK f b a
structure Vb (f : bS) (a b : Int) (k : Nat) : Prop where
  fst : 0 ≤ (nth (yp a b) k).fst ∧ (nth (yp a b) k).fst < f.turnings.length
  nxt : 0 ≤ (nth (yp a b) k).nxt ∧ (nth (yp a b) k).nxt < f.turnings.length
  ne : (nth (yp a b) k).fst ≠ (nth (yp a b) k).nxt
  sum : Tm f a b (k + 1) = Tm f a b k + RK f (nth (yp a b) k).fst (nth (yp a b) k).nxt
end Go.Proofs.YtmmcenjknimhbaaGreat
namespace Go.Proofs.YtmmcenjknimhbaaGreat
open Go Go.T
def IP (f : bS) (t : Int) : Int := e9 f (!fE t 0 (f.turnings.length - 1))
def Pf (f : bS) (t : Int) : List Int := if IP f t = 0 then fW f t else []
structure Uj (f : bS) (l : List Int) (a b : Int) : Prop where
  ha : 0 ≤ a ∧ a < f.turnings.length
  hb : 0 ≤ b ∧ b < f.turnings.length
  ne : a ≠ b
  wait : Rf f ⟨a, b⟩ = (qp f ⟨a, b⟩, 0)
  right : bk (qp f ⟨a, b⟩) = 0
  right0 : gX (qp f ⟨a, b⟩) = 0
  allowed : GW (qp f ⟨a, b⟩) l = true
  back : Rf (qp f ⟨a, b⟩) ⟨b, a⟩ = (Jq, 7)
  aE : IP (qp f ⟨a, b⟩) b = 0 ∧ Pf (qp f ⟨a, b⟩) b = fW (qp f ⟨a, b⟩) b
  aE2 : IP f a = 0 ∧ Pf f a = fW f a
section
variable {f : bS} {l : List Int} {a b : Int} (h : bk f = 0) (hf : Uj f l a b)
include h hf
end
end Go.Proofs.YtmmcenjknimhbaaGreat
namespace Go.Proofs.YtmmcenjknimhbaaGreat
open Go Go.T
def sm (n : Nat) (g : Nat → Int) : Int := ((List.range n).map g).sum
structure Holds (f : bS) (bay : Nat) (pays : List vO) : Prop where
  pos : Pos pays
  src : ∀ p ∈ pays, 0 ≤ p.src ∧ p.src < f.turnings.length
  dst : ∀ p ∈ pays, 0 ≤ p.dst ∧ p.dst < f.turnings.length
  lead : ∀ p ∈ pays, lK f.rules p.dst p.src
  fits : ∀ t : Nat, t < f.turnings.length → Sy pays t ≤ max 0 (mJ (aX f) bay t) ∧ SA pays t ≤ max 0 (-(mJ (aX f) bay t))
end Go.Proofs.YtmmcenjknimhbaaGreat
namespace Go.Proofs.YtmmcenjknimhbaaGreat
open Go Go.T
structure xm where
  w : SB
  bay : Nat
  paid : List Int
def xm.P (l : xm) (o t : Nat) : Int := nth l.paid (o * 8 + t)
def xm.add (l : xm) (t : Nat) : Int := mJ l.w l.bay t
def xm.T (l : xm) : Nat := l.w.1.f.turnings.length
def Sm (l : xm) (t k : Nat) : Int := -(l.add t) - sm k fun o => l.P o t
def DA (l : xm) (t : Nat) : Int := Sm l t 8
def Cc (l : xm) (f : Nat) : List Int := cR (nth l.w.1.before f)
def B4 (m m' : List Bool) : Prop := ∀ c, c < 8 → nth m c = true → nth m' c = true
theorem B4.trans {a b c : List Bool} (h : B4 a b) (h' : B4 b c) : B4 a c := fun i hi hx => h' i hi (h i hi hx)
def yq (l : xm) (o : Nat) (m : List Bool) : Prop := ∀ t ∈ Cc l o, l.add t.toNat < 0 → nth m t.toNat = true
theorem yq.mono {l : xm} {o : Nat} {m m' : List Bool} (h : yq l o m) (hs : B4 m m') : yq l o m' := fun t ht ha => by
 obtain ⟨i, hi, _, e⟩ := sJ.1 ht
 exact hs _ (by omega) (h t ht ha)
inductive C3 (l : xm) : List Bool → Nat → List Int → Prop
  | last {m : List Bool} {f : Nat} {t : Int} : t ∈ Cc l f → l.add t.toNat < 0 → nth m t.toNat = false → 0 < DA l t.toNat → C3 l m f [(f : Int), t]
  | step {m m' : List Bool} {f o : Nat} {t : Int} {r : List Int} : t ∈ Cc l f → l.add t.toNat < 0 → nth m t.toNat = false → o ≠ f → o < l.T → l.P o t.toNat ≠ 0 → B4 m m' → nth m' t.toNat = true → C3 l m' o r → C3 l m f ((f : Int) :: t :: r)
structure Ve (l : xm) (f t : Nat) (L : List Nat) (m : List Bool) (x : List Int × List Bool) : Prop where
  len : x.2.length = 8
  sub : B4 m x.2
  yes : x.1 ≠ [] → ∃ o ∈ L, o ≠ f ∧ l.P o t ≠ 0 ∧ ∃ m', B4 m m' ∧ C3 l m' o x.1
  no : x.1 = [] → (∀ o ∈ L, o ≠ f → l.P o t ≠ 0 → yq l o x.2) ∧ ∀ c, c < 8 → nth m c = false → nth x.2 c = true → DA l c ≤ 0 ∧ ∀ o, o < l.T → l.P o c ≠ 0 → yq l o x.2
structure VZ (l : xm) (m : List Bool) (f : Nat) (x : List Int × List Bool) : Prop where
  len : x.2.length = 8
  sub : B4 m x.2
  yes : x.1 ≠ [] → C3 l m f x.1
  no : x.1 = [] → yq l f x.2 ∧ ∀ c, c < 8 → nth m c = false → nth x.2 c = true → DA l c ≤ 0 ∧ ∀ o, o < l.T → l.P o c ≠ 0 → yq l o x.2
structure VU (l : xm) (f : Nat) (L : List Int) (m : List Bool) (x : List Int × List Bool) : Prop where
  len : x.2.length = 8
  sub : B4 m x.2
  yes : x.1 ≠ [] → C3 l m f x.1
  no : x.1 = [] → (∀ t ∈ L, l.add t.toNat < 0 → nth x.2 t.toNat = true) ∧ ∀ c, c < 8 → nth m c = false → nth x.2 c = true → DA l c ≤ 0 ∧ ∀ o, o < l.T → l.P o c ≠ 0 → o = f ∨ yq l o x.2
def xH (l : xm) (X : Nat → Prop) : Prop := ∀ x, X x → ∀ t ∈ Cc l x, l.add t.toNat < 0 → DA l t.toNat ≤ 0 ∧ ∀ o, o < l.T → l.P o t.toNat ≠ 0 → X o
end Go.Proofs.YtmmcenjknimhbaaGreat
namespace Go.Proofs.YtmmcenjknimhbaaGreat
open Go Go.T
def wF (p : List Int) (j : Nat) : Nat := (nth p (2 * j)).toNat
def wT (p : List Int) (j : Nat) : Nat := (nth p (2 * j + 1)).toNat
structure Vw (l : xm) (f : Nat) (p : List Int) (K : Nat) : Prop where
  len : p.length = 2 * K
  one : 1 ≤ K
  first : wF p 0 = f
  nat : ∀ j, j < K → nth p (2 * j) = (wF p j : Int)
  tos : ∀ j, j < K → nth p (2 * j + 1) ∈ Cc l (wF p j) ∧ l.add (wT p j) < 0
  step : ∀ j, j + 1 < K → wF p (j + 1) < l.T ∧ l.P (wF p (j + 1)) (wT p j) ≠ 0 ∧ wF p (j + 1) ≠ wF p j
  last : 0 < DA l (wT p (K - 1))
  dist : ∀ i j, i < j → j < K → wT p i ≠ wT p j
section
variable {l : xm} (hl : l.paid.length = 64) {p : List Int} {K : Nat} (hF : ∀ j, j < K → wF p j < 8) (hT : ∀ j, j < K → wT p j < 8) (m : Int) (hK : 1 ≤ K)
include hl hF hT hK
end
structure Sh (f : bS) (bay : Nat) (l : xm) : Prop where
  w : l.w = aX f
  bay : l.bay = bay
  len : l.paid.length = 64
  nn : ∀ o t, o < 8 → t < 8 → 0 ≤ l.P o t
  pos : ∀ o t, o < 8 → t < 8 → 0 < l.P o t → (o < l.T ∧ (t : Int) ∈ Cc l o) ∧ 0 < l.add o ∧ l.add t < 0
  col : ∀ t, t < 8 → sm 8 (fun o => l.P o t) ≤ max 0 (-(l.add t))
  row : ∀ o, o < 8 → sm 8 (fun t => l.P o t) ≤ max 0 (l.add o)
structure V7 (f : bS) (bay : Nat) (l : xm) (u : Nat) (n : Int) (l' : xm) (m : Int) : Prop where
  inv : Sh f bay l'
  one : 1 ≤ m
  le : m ≤ n
  row : ∀ o, sm 8 (fun t => l'.P o t) = sm 8 (fun t => l.P o t) + if u = o then m else 0
  closed : ∀ X, xH l X → xH l' X
end Go.Proofs.YtmmcenjknimhbaaGreat
namespace Go.Proofs.YtmmcenjknimhbaaGreat
open Go Go.T
def xm.row (l : xm) (o : Nat) : Int := sm 8 fun t => l.P o t
def xm.col (l : xm) (t : Nat) : Int := sm 8 fun o => l.P o t
structure VV (f : bS) (bay u : Nat) (l l' : xm) : Prop where
  inv : Sh f bay l'
  row : ∀ o, o ≠ u → l'.row o = l.row o
  closed : ∀ X, xH l X → xH l' X
  done : 0 < mJ (aX f) bay u → l'.row u = mJ (aX f) bay u ∨ ∃ X, xH l' X ∧ X u
structure V3 (f : bS) (bay k : Nat) (l : xm) : Prop where
  inv : Sh f bay l
  rest : ∀ o, k ≤ o → l.row o = 0
  done : ∀ o, o < k → 0 < mJ (aX f) bay o → l.row o = mJ (aX f) bay o ∨ ∃ X, xH l X ∧ X o
end Go.Proofs.YtmmcenjknimhbaaGreat
namespace Go.Proofs.YtmmcenjknimhbaaGreat
open Go Go.T
end Go.Proofs.YtmmcenjknimhbaaGreat
namespace Go.Proofs.YtmmcenjknimhbaaGreat
open Go Go.T
inductive Ch (f : bS) (s : Nat) : List Int → Nat → Prop
  | nil : Ch f s [] s
  | snoc {l : List Int} {s' t : Nat} : Ch f s l s' → t < f.turnings.length → s'.testBit t = false → eF (aX f) (s' ||| 1 <<< t) = true → Ch f s (l ++ [(t : Int)]) (s' ||| 1 <<< t)
theorem Ch.rep {f : bS} (h : bk f = 0) {s : Nat} {d : List Int} (hd : CI f d s) {l : List Int} {s' : Nat} (hc : Ch f s l s') : CI f (d ++ l) s' ∧ ∀ i, i < l.length → (∃ u, CI f (d ++ l.take i) u) ∧ jS f (d ++ l.take i) (nth l i) = true := by
  induction hc with
  | nil => exact ⟨by rw [List.append_nil]; exact hd, fun i hi => by simp at hi⟩
  | @snoc l s' t hc ht hb hw ih =>
    obtain ⟨h1, h2⟩ := ih
    refine ⟨by rw [← List.append_assoc]; exact E2 h h1 ht hb hw, fun i hi => ?_⟩
    rw [List.length_append] at hi
    rcases Nat.lt_or_ge i l.length with c | c
    · rw [List.take_append_of_le_length (by omega), show nth (l ++ [(t : Int)]) i = nth l i by unfold nth; rw [List.getD_eq_getElem?_getD, List.getD_eq_getElem?_getD, List.getElem?_append_left c]]
      exact h2 i c
    · have e : i = l.length := by simp at hi; omega
      subst e
      rw [List.take_left, show nth (l ++ [(t : Int)]) l.length = t by unfold nth; rw [List.getD_eq_getElem?_getD, List.getElem?_append_right (Nat.le_refl _)]; simp]
      exact ⟨⟨_, h1⟩, (nI h h1 ht).2 ⟨hb, hw⟩⟩
end Go.Proofs.YtmmcenjknimhbaaGreat
namespace Go.Proofs.YtmmcenjknimhbaaGreat
open Go Go.T
structure V6 (f : bS) (p : vO) : Prop where
  src : 0 ≤ p.src ∧ p.src < f.turnings.length
  dst : 0 ≤ p.dst ∧ p.dst < f.turnings.length
  much : 1 ≤ p.much ∧ p.much ≤ 100000
  ne : p.dst ≠ p.src
  lead : p.dst ∈ fW f p.src
theorem LO (f : bS) (l : List Int) (b : Nat) : mN f l b 0 = gW f b f.bins.length := by simp [mN]
end Go.Proofs.YtmmcenjknimhbaaGreat
namespace Go.Proofs.YtmmcenjknimhbaaGreat
open Go Go.T
end Go.Proofs.YtmmcenjknimhbaaGreat
namespace Go.Proofs.YtmmcenjknimhbaaGreat
open Go Go.T
theorem FI {l : List Int} : ∀ {i : Nat}, i < l.length → ∀ v : Int, (l.set i v).sum = l.sum - nth l i + v := by
  induction l with
  | nil => intro i h; simp at h
  | cons x l ih =>
    intro i h v
    cases i with
    | zero => simp [nth]; omega
    | succ i =>
      have := ih (i := i) (by simpa using h) v
      simp only [List.set_cons_succ, List.sum_cons, this]
      have : nth (x :: l) (i + 1) = nth l i := rfl
      omega
theorem ux {l : List Int} (h : ∀ x ∈ l, 0 ≤ x) : 0 ≤ l.sum ∧ ∀ x ∈ l, x ≤ l.sum := by
  induction l with
  | nil => simp
  | cons y l ih =>
    have h1 := ih fun x hx => h x (List.mem_cons_of_mem _ hx)
    have h2 := h y List.mem_cons_self
    refine ⟨by rw [List.sum_cons]; omega, fun x hx => ?_⟩
    rw [List.sum_cons]
    rcases List.mem_cons.1 hx with rfl | hx
    · omega
    · have := h1.2 x hx; omega
theorem p6 {l : List Int} {P : Int → Prop} (h : ∀ j, j < l.length → P (nth l j)) : ∀ x ∈ l, P x := fun x hx => by
 obtain ⟨i, hi, rfl⟩ := List.getElem_of_mem hx
 have := h i hi
 rwa [cE hi] at this
def fP (n : Nat) (s : fR) : Nat → List Int × fR
  | 0 => (List.replicate n 0, s)
  | k + 1 => ((fP n s k).1.set (bP (fP n s k).2 n).toNat (nth (fP n s k).1 (bP (fP n s k).2 n).toNat + 1), aO (fP n s k).2)
theorem BN {s : fR} {n : Nat} (hn : 1 ≤ n) : 0 ≤ bP s n ∧ bP s n < n := by
 have := cQ s n; omega
theorem vf {n : Nat} (hn : 1 ≤ n) (s : fR) : ∀ k, (fP n s k).1.length = n ∧ (fP n s k).1.sum = k ∧ (∀ j, j < n → 0 ≤ nth (fP n s k).1 j) ∧ (fP n s k).2.taken = s.taken + k
  | 0 => ⟨by simp [fP], by simp [fP], fun j hj => by simp [fP, nth, hj], by simp [fP]⟩
  | k + 1 => by
    obtain ⟨h1, h2, h3, h4⟩ := vf hn s k
    have hb := BN (s := (fP n s k).2) hn
    refine ⟨?_, ?_, fun j hj => ?_, ?_⟩
    · show (List.set _ _ _).length = _
      rw [List.length_set, h1]
    · show (List.set _ _ _).sum = _
      rw [FI (by omega), h2]; omega
    · show 0 ≤ nth (List.set _ _ _) j
      have := h3 j hj
      have := h3 (bP (fP n s k).2 n).toNat (by omega)
      rw [gN]; split <;> omega
    · show (aO _).taken = _
      rw [bw, h4]; omega
def gH (sh : List Int) (has : Int) (bears : List Int) : Nat → List Int
  | 0 => bears
  | k + 1 => (gH sh has bears k).set k (nth (gH sh has bears k) k + nth sh k * has)
theorem sX (sh : List Int) (has : Int) (bears : List Int) : ∀ k, (gH sh has bears k).length = bears.length ∧ ∀ j, j < bears.length → nth (gH sh has bears k) j = nth bears j + if j < k then nth sh j * has else 0
  | 0 => ⟨rfl, fun j _ => by simp [gH]⟩
  | k + 1 => by
    obtain ⟨h1, h2⟩ := sX sh has bears k
    refine ⟨by show (List.set _ _ _).length = _; rw [List.length_set, h1], fun j hj => ?_⟩
    show nth (List.set _ _ _) j = _
    rw [gN]
    by_cases e : k = j
    · subst e
      rw [if_pos ⟨rfl, by omega⟩, h2 k hj, if_neg (by omega), if_pos (by omega)]; omega
    · rw [if_neg (fun h => e h.1), h2 j hj]
      by_cases hjk : j < k
      · rw [if_pos hjk, if_pos (by omega)]
      · rw [if_neg hjk, if_neg (by omega)]
structure Mk where
  bears : List Int
  bins : List p9
  left : List Int
  sk : fR
def mkBin (n : Nat) (p : Mk) : p9 := ⟨bP p.sk 60, (fP n (aO p.sk) 4).1⟩
def dr (n : Nat) (s : fR) : Nat → Mk
  | 0 => ⟨List.replicate n 0, [], [], s⟩
  | k + 1 => ⟨gH (mkBin n (dr n s k)).shares (mkBin n (dr n s k)).has (dr n s k).bears n, (dr n s k).bins ++ [mkBin n (dr n s k)], (dr n s k).left ++ [(mkBin n (dr n s k)).has], (fP n (aO (dr n s k).sk) 4).2⟩
structure N7 (n : Nat) (b : p9) : Prop where
  has : 0 ≤ b.has ∧ b.has ≤ 59
  len : b.shares.length = n
  sum : b.shares.sum = 4
  rng : ∀ j, j < n → 0 ≤ nth b.shares j ∧ nth b.shares j ≤ 4
theorem HL {n : Nat} (hn : 1 ≤ n) (p : Mk) : N7 n (mkBin n p) := by
 obtain ⟨h1, h2, h3, _⟩ := vf hn (aO p.sk) 4
 have hb := cQ p.sk 60
 have h5 : ∀ x ∈ (fP n (aO p.sk) 4).1, 0 ≤ x := p6 fun j hj => h3 j (by omega)
 have h6 := (ux h5).2
 refine ⟨⟨hb.1, ?_⟩, h1, h2, fun j hj => ⟨h3 j hj, ?_⟩⟩
 ·show bP p.sk 60 ≤ 59
  omega
 have := h6 _ (bL (show j < _ by omega))
 rw [h2] at this
 exact this
structure SE (n k : Nat) (s : fR) (p : Mk) : Prop where
  bears : p.bears.length = n
  bearsR : ∀ j, j < n → 0 ≤ nth p.bears j ∧ nth p.bears j ≤ 236 * k
  bins : p.bins.length = k
  Dw : ∀ b ∈ p.bins, N7 n b
  left : p.left = p.bins.map p9.has
  taken : p.sk.taken = s.taken + 5 * k
theorem DN {n : Nat} (hn : 1 ≤ n) (s : fR) : ∀ k, SE n k s (dr n s k)
  | 0 => ⟨by simp [dr], fun j hj => by simp [dr, nth, hj], rfl, fun b hb => by simp [dr] at hb, rfl, by simp [dr]⟩
  | k + 1 => by
    have h := DN hn s k
    have hb := HL hn (dr n s k)
    have hu := sX (mkBin n (dr n s k)).shares (mkBin n (dr n s k)).has (dr n s k).bears n
    refine ⟨?_, fun j hj => ?_, ?_, fun b hb' => ?_, ?_, ?_⟩
    · exact hu.1.trans h.bears
    · show 0 ≤ nth (gH _ _ _ _) j ∧ nth (gH _ _ _ _) j ≤ _
      rw [hu.2 j (by rw [h.bears]; exact hj), if_pos hj]
      have h1 := h.bearsR j hj
      have h2 := hb.rng j hj
      have h3 := hb.has
      have h4 : 0 ≤ nth (mkBin n (dr n s k)).shares j * (mkBin n (dr n s k)).has := Int.mul_nonneg h2.1 h3.1
      have h5 : nth (mkBin n (dr n s k)).shares j * (mkBin n (dr n s k)).has ≤ 4 * 59 := Int.mul_le_mul h2.2 h3.2 h3.1 (by omega)
      omega
    · show (_ ++ [_]).length = _
      rw [List.length_append, h.bins]; rfl
    · rcases List.mem_append.1 hb' with hb' | hb'
      · exact h.Dw b hb'
      · rw [List.mem_singleton.1 hb']; exact hb
    · show _ ++ [_] = List.map _ (_ ++ [_])
      rw [List.map_append, h.left]; rfl
    · show (fP _ _ _).2.taken = _
      rw [(vf hn _ 4).2.2.2, bw, h.taken]; omega
def nW (xs : List Int) (s : fR) (k : Nat) : List Int := xs.set k (nth xs k + bP s 90)
def sj (ys : List Int) (k : Nat) : List Int := ys.set k (max 0 (nth ys k - 60))
def gZ (xs : List Int) (s : fR) : Nat → List Int × fR
  | 0 => (xs, s)
  | k + 1 => (if qI (aO (gZ xs s k).2) 9 then sj (nW (gZ xs s k).1 (gZ xs s k).2 k) k else nW (gZ xs s k).1 (gZ xs s k).2 k, aO (aO (gZ xs s k).2))
theorem GK (xs : List Int) (s : fR) (hx : ∀ j, j < xs.length → 0 ≤ nth xs j) : ∀ k, (gZ xs s k).1.length = xs.length ∧ (∀ j, j < xs.length → 0 ≤ nth (gZ xs s k).1 j ∧ nth (gZ xs s k).1 j ≤ nth xs j + if j < k then 90 else 0) ∧ (gZ xs s k).2.taken = s.taken + 2 * k
  | 0 => ⟨rfl, fun j hj => by have := hx j hj; simp [gZ]; omega, by simp [gZ]⟩
  | k + 1 => by
    obtain ⟨h1, h2, h3⟩ := GK xs s hx k
    have hb := cQ (gZ xs s k).2 90
    have hy : ∀ j, j < xs.length → 0 ≤ nth (nW (gZ xs s k).1 (gZ xs s k).2 k) j ∧ nth (nW (gZ xs s k).1 (gZ xs s k).2 k) j ≤ nth xs j + if j < k + 1 then 90 else 0 := fun j hj => by
      have h4 := h2 j hj
      rw [nW, gN]
      by_cases e : k = j
      · subst e
        rw [if_neg (by omega)] at h4
        rw [if_pos ⟨rfl, by omega⟩, if_pos (by omega)]; omega
      · rw [if_neg (fun h => e h.1)]
        by_cases hjk : j < k
        · rw [if_pos hjk] at h4; rw [if_pos (by omega)]; exact h4
        · rw [if_neg hjk] at h4; rw [if_neg (by omega)]; exact h4
    have hl : (nW (gZ xs s k).1 (gZ xs s k).2 k).length = xs.length := by rw [nW, List.length_set, h1]
    refine ⟨?_, fun j hj => ?_, ?_⟩
    · show (if _ then _ else _ : List Int).length = _
      split
      · rw [sj, List.length_set, hl]
      · exact hl
    · show 0 ≤ nth (if _ then _ else _ : List Int) j ∧ nth (if _ then _ else _ : List Int) j ≤ _
      have h4 := hy j hj
      split
      · rw [sj, gN]
        split
        · rename_i e
          obtain ⟨rfl, _⟩ := e
          omega
        · exact h4
      · exact h4
    · show (aO (aO _)).taken = _
      rw [bw, bw, h3]; omega
end Go.Proofs.YtmmcenjknimhbaaGreat
namespace Go.Proofs.YtmmcenjknimhbaaGreat
open Go Go.T
structure Tk where
  left : List Int
  trn : List mQ
  sk : fR
def J4 (left : List Int) (a : Int) : Int := if a ≠ -1 ∧ nth left a.toNat = 0 then -1 else a
def nL (m : Nat) (a b : Int) : Int := if a = b then BC (a + 1) m else b
def wP (left : List Int) (a n : Int) : Int := if a ≠ -1 then min n (nth left a.toNat) else n
def leftOf (left : List Int) (a n : Int) : List Int := if a ≠ -1 then left.set a.toNat (nth left a.toNat - n) else left
def eU (m : Nat) (p : Tk) : Int := J4 p.left (dH p.sk (-1) ((m : Int) - 1))
def rK (m : Nat) (p : Tk) : Int := nL m (eU m p) (dH (aO p.sk) (-1) ((m : Int) - 1))
def fI (m : Nat) (p : Tk) : Int := wP p.left (eU m p) (dH (aO (aO p.sk)) 1 20)
def Hh (m : Nat) (p : Tk) : mQ := ⟨eU m p, rK m p, fI m p⟩
def dg (m : Nat) (left : List Int) (s : fR) : Nat → Tk
  | 0 => ⟨left, [], s⟩
  | k + 1 => ⟨leftOf (dg m left s k).left (eU m (dg m left s k)) (fI m (dg m left s k)), (dg m left s k).trn ++ [Hh m (dg m left s k)], aO (aO (aO (dg m left s k).sk))⟩
def rj (ts : List mQ) (i : Int) : Int := (ts.map fun t => if t.src = i then t.sacks else 0).sum
structure Rr (m : Nat) (t : mQ) : Prop where
  src : -1 ≤ t.src ∧ t.src < m
  dst : -1 ≤ t.dst ∧ t.dst < m
  ne : t.src ≠ t.dst
  sacks : 1 ≤ t.sacks ∧ t.sacks ≤ 20
structure Tx (m k : Nat) (l0 : List Int) (s : fR) (p : Tk) : Prop where
  left : p.left.length = m
  pos : ∀ j, j < m → 0 ≤ nth p.left j
  took : ∀ j, j < m → nth p.left j + rj p.trn j = nth l0 j
  trn : p.trn.length = k
  trnOk : ∀ t ∈ p.trn, Rr m t
  taken : p.sk.taken = s.taken + 3 * k
theorem n6 {s : fR} {lo hi : Int} (h : lo ≤ hi) : lo ≤ dH s lo hi ∧ dH s lo hi ≤ hi := by
 have := cQ s (hi - lo + 1)
 unfold dH; omega
theorem Nk {m : Nat} (hm : 2 ≤ m) {a : Int} (h : -1 ≤ a ∧ a < m) : 0 ≤ BC (a + 1) m ∧ BC (a + 1) m < m ∧ BC (a + 1) m ≠ a := by
 unfold BC
 have h1 := Int.emod_nonneg (a + 1) (show (m : Int) ≠ 0 by omega)
 rw [if_neg (by omega), Int.tmod_eq_emod_of_nonneg (show 0 ≤ a + 1 by omega), Int.tmod_eq_emod_of_nonneg (show 0 ≤ (a + 1) % (m : Int) + m by omega), Int.add_emod_right, Int.emod_emod]
 by_cases e : a + 1 = m
 ·rw [e, Int.emod_self]; omega
 rw [Int.emod_eq_of_lt (by omega) (by omega)]; omega
theorem JY {m : Nat} (hm : 2 ≤ m) (p : Tk) : -1 ≤ eU m p ∧ eU m p < m ∧ (eU m p = -1 ∨ nth p.left (eU m p).toNat ≠ 0) := by
 have h := n6 (s := p.sk) (show (-1 : Int) ≤ (m : Int) - 1 by omega)
 unfold eU J4
 split
 ·omega
 rename_i hn
 by_cases e : dH p.sk (-1) ((m : Int) - 1) = -1
 ·exact ⟨h.1, by omega, .inl e⟩
 exact ⟨h.1, by omega, .inr fun h0 => hn ⟨e, h0⟩⟩
theorem G3 {m : Nat} (hm : 2 ≤ m) {p : Tk} (hp : ∀ j, j < m → 0 ≤ nth p.left j) : Rr m (Hh m p) := by
 have h1 := JY hm p
 have h2 := n6 (s := aO p.sk) (show (-1 : Int) ≤ (m : Int) - 1 by omega)
 have h3 := n6 (s := aO (aO p.sk)) (show (1 : Int) ≤ 20 by omega)
 have h4 := Nk hm ⟨h1.1, h1.2.1⟩
 have h5 : (-1 ≤ rK m p ∧ rK m p < m) ∧ eU m p ≠ rK m p := by
  unfold rK nL
  split
  ·exact ⟨by omega, fun e => h4.2.2 e.symm⟩
  exact ⟨by omega, by assumption⟩
 refine ⟨⟨h1.1, h1.2.1⟩, h5.1, h5.2, ?_⟩
 show 1 ≤ fI m p ∧ fI m p ≤ 20
 unfold fI wP
 split
 ·rename_i hn
  have h6 := hp (eU m p).toNat (by omega)
  have h7 := h1.2.2.resolve_left hn
  omega
 exact h3
theorem L4 (ts : List mQ) (t : mQ) (i : Int) : rj (ts ++ [t]) i = rj ts i + if t.src = i then t.sacks else 0 := by simp [rj]
theorem DM {m : Nat} (hm : 2 ≤ m) {left : List Int} (hl : left.length = m) (h0 : ∀ j, j < m → 0 ≤ nth left j) (s : fR) : ∀ k, Tx m k left s (dg m left s k)
  | 0 => ⟨hl, h0, fun j _ => by simp [dg, rj], rfl, fun t ht => by simp [dg] at ht, by simp [dg]⟩
  | k + 1 => by
    have h := DM hm hl h0 s k
    have ht := G3 hm h.pos
    have h1 := JY hm (dg m left s k)
    have key : ∀ j, j < m → nth (dg m left s (k + 1)).left j = nth (dg m left s k).left j - if eU m (dg m left s k) = (j : Int) then fI m (dg m left s k) else 0 := fun j hj => by
      show nth (leftOf _ _ _) j = _
      unfold leftOf
      split
      · rw [gN]
        by_cases e : eU m (dg m left s k) = (j : Int)
        · rw [e, if_pos ⟨by omega, by have := h.left; omega⟩, if_pos rfl]; rfl
        · rw [if_neg (by omega), if_neg e]; omega
      · rw [if_neg (by omega)]; omega
    refine ⟨?_, fun j hj => ?_, fun j hj => ?_, ?_, fun t ht' => ?_, ?_⟩
    · show (leftOf _ _ _).length = _
      unfold leftOf; split
      · rw [List.length_set, h.left]
      · exact h.left
    · rw [key j hj]
      have := h.pos j hj
      split
      · rename_i e
        have h5 : fI m (dg m left s k) = min (dH (aO (aO (dg m left s k).sk)) 1 20) (nth (dg m left s k).left j) := by
          unfold fI wP
          rw [if_pos (by omega), e]; rfl
        omega
      · omega
    · rw [key j hj]
      show _ + rj (_ ++ [_]) _ = _
      rw [L4]
      have := h.took j hj
      show nth (dg m left s k).left j - (if eU m (dg m left s k) = (j : Int) then fI m (dg m left s k) else 0) + (rj (dg m left s k).trn j + if eU m (dg m left s k) = (j : Int) then fI m (dg m left s k) else 0) = _
      omega
    · show (_ ++ [_]).length = _
      rw [List.length_append, h.trn]; rfl
    · rcases List.mem_append.1 ht' with ht' | ht'
      · exact h.trnOk t ht'
      · rw [List.mem_singleton.1 ht']; exact ht
    · show (aO (aO (aO _))).taken = _
      rw [bw, bw, bw, h.taken]; omega
def dS (order : List Int) (T : Nat) (s : fR) : Nat → List kT × fR
  | 0 => ([], s)
  | k + 1 => (if bP (dS order T s k).2 T < bP (aO (dS order T s k).2) T then (dS order T s k).1 ++ [⟨nth order (bP (dS order T s k).2 T).toNat, nth order (bP (aO (dS order T s k).2) T).toNat⟩] else (dS order T s k).1, aO (aO (dS order T s k).2))
def Kr (order : List Int) (T : Nat) (r : kT) : Prop := ∃ a b : Nat, a < b ∧ b < T ∧ r = ⟨nth order a, nth order b⟩
theorem zl (order : List Int) (T : Nat) (s : fR) : ∀ k, (dS order T s k).1.length ≤ k ∧ (∀ r ∈ (dS order T s k).1, Kr order T r) ∧ (dS order T s k).2.taken = s.taken + 2 * k
  | 0 => ⟨by simp [dS], fun r hr => by simp [dS] at hr, by simp [dS]⟩
  | k + 1 => by
    obtain ⟨h1, h2, h3⟩ := zl order T s k
    have ha := cQ (dS order T s k).2 T
    have hb := cQ (aO (dS order T s k).2) T
    refine ⟨?_, fun r hr => ?_, ?_⟩
    · show (if _ then _ else _ : List kT).length ≤ _
      split
      · simp; omega
      · omega
    · change r ∈ (if _ then _ else _ : List kT) at hr
      split at hr
      · rename_i hlt
        rcases List.mem_append.1 hr with hr | hr
        · exact h2 r hr
        · exact ⟨_, _, by omega, by omega, List.mem_singleton.1 hr⟩
      · exact h2 r hr
    · show (aO (aO _)).taken = _
      rw [bw, bw, h3]; omega
theorem Di {l : List Int} (h : l.Nodup) {a b : Nat} (ha : a < l.length) (hb : b < l.length) (e : nth l a = nth l b) : a = b := by
 rcases Nat.lt_trichotomy a b with hlt | rfl | hlt
 ·exact absurd (e ▸ (by rw [cE ha]; exact List.mem_take_iff_getElem.2 ⟨a, by omega, rfl⟩ : nth l a ∈ l.take b)) (Dl h hb)
 ·rfl
 exact absurd (e ▸ (by rw [cE hb]; exact List.mem_take_iff_getElem.2 ⟨b, by omega, rfl⟩ : nth l b ∈ l.take a)) (Dl h ha)
theorem JZ {order : List Int} {rules : List kT} (hn : order.Nodup) (h : ∀ r ∈ rules, Kr order order.length r) {x y : Int} (hl : lK rules x y) : ∃ a b : Nat, a < b ∧ b < order.length ∧ x = nth order a ∧ y = nth order b := by
  induction hl with
  | one hr =>
    obtain ⟨a, b, h1, h2, rfl⟩ := h _ hr
    exact ⟨a, b, h1, h2, rfl, rfl⟩
  | step hr _ ih =>
    obtain ⟨a, b, h1, h2, e⟩ := h _ hr
    obtain ⟨c, d, h3, h4, h5, h6⟩ := ih
    rw [e] at h6 ⊢
    have := Di hn (by omega) h4 h6
    subst this
    exact ⟨c, b, by omega, h2, h5, rfl⟩
end Go.Proofs.YtmmcenjknimhbaaGreat
namespace Go.Proofs.YtmmcenjknimhbaaGreat
open Go Go.T
structure gE where
  s : fR
  t : Nat
def gE.n (d : gE) : Nat := (dH d.s 1 4).toNat
def gE.m (d : gE) : Nat := (dH (aO d.s) 2 5).toNat
def gE.bn (d : gE) (k : Nat) : Mk := dr d.n (aO (aO d.s)) k
def gE.up (d : gE) (k : Nat) : List Int × fR := gZ (d.bn d.m).bears (d.bn d.m).sk k
def gE.T (d : gE) : Nat := (bP (d.up d.n).2 ((d.t : Int) + 1)).toNat
def gE.tk (d : gE) (k : Nat) : Tk := dg d.m (d.bn d.m).left (aO (d.up d.n).2) k
def gE.order (d : gE) : List Int × fR := eV (d.tk d.T).sk d.T
def gE.R (d : gE) : Nat := (bP d.order.2 6).toNat
def gE.ru (d : gE) (k : Nat) : List kT × fR := dS d.order.1 d.T (aO d.order.2) k
def gE.CQ (d : gE) : bS := ⟨(d.up d.n).1, (d.bn d.m).bins, (d.tk d.T).trn, (d.ru d.R).1⟩
def gE.sk (d : gE) : fR := (d.ru d.R).2
theorem gE.CH (d : gE) : 1 ≤ d.n ∧ d.n ≤ 4 ∧ (d.n : Int) = dH d.s 1 4 := by
 have := n6 (s := d.s) (show (1 : Int) ≤ 4 by omega)
 unfold gE.n; omega
theorem gE.E5 (d : gE) : 2 ≤ d.m ∧ d.m ≤ 5 ∧ (d.m : Int) = dH (aO d.s) 2 5 := by
 have := n6 (s := aO d.s) (show (2 : Int) ≤ 5 by omega)
 unfold gE.m; omega
theorem gE.Qe (d : gE) : d.T ≤ d.t ∧ (d.T : Int) = bP (d.up d.n).2 ((d.t : Int) + 1) := by
 have := cQ (d.up d.n).2 ((d.t : Int) + 1)
 unfold gE.T; omega
theorem gE.Qj (d : gE) : d.R ≤ 5 ∧ (d.R : Int) = bP d.order.2 6 := by
 have := cQ d.order.2 6
 unfold gE.R; omega
theorem gE.FZ (d : gE) (k : Nat) : SE d.n k (aO (aO d.s)) (d.bn k) := DN d.CH.1 _ k
theorem gE.PE (d : gE) (k : Nat) : (d.up k).1.length = d.n ∧ (∀ j, j < d.n → 0 ≤ nth (d.up k).1 j ∧ nth (d.up k).1 j ≤ nth (d.bn d.m).bears j + if j < k then 90 else 0) ∧ (d.up k).2.taken = (d.bn d.m).sk.taken + 2 * k := by
 have h := d.FZ d.m
 have := GK (d.bn d.m).bears (d.bn d.m).sk (fun j hj => (h.bearsR j (by rw [← h.bears]; exact hj)).1) k
 rw [h.bears] at this
 exact this
theorem gE.pO (d : gE) : (d.bn d.m).left.length = d.m ∧ ∀ j, j < d.m → 0 ≤ nth (d.bn d.m).left j ∧ nth (d.bn d.m).left j ≤ 59 ∧ nth (d.bn d.m).left j = (nth (d.bn d.m).bins j).has := by
 have h := d.FZ d.m
 have hl : (d.bn d.m).left.length = d.m := by rw [h.left, List.length_map, h.bins]
 refine ⟨hl, fun j hj => ?_⟩
 have hb : j < (d.bn d.m).bins.length := by rw [h.bins]; exact hj
 have e : nth (d.bn d.m).left j = (nth (d.bn d.m).bins j).has := by
  rw [cE hb, cE (by omega)]
  simp only [h.left, List.getElem_map]
 have := (h.Dw _ (bL hb)).has
 rw [e]; omega
theorem gE.Of (d : gE) (k : Nat) : Tx d.m k (d.bn d.m).left (aO (d.up d.n).2) (d.tk k) := DM d.E5.1 d.pO.1 (fun j hj => (d.pO.2 j hj).1) _ k
theorem gE.lX (d : gE) : d.order.1.length = d.T ∧ d.order.1.Nodup ∧ (∀ x, x ∈ d.order.1 ↔ 0 ≤ x ∧ x < (d.T : Int)) ∧ d.order.2.taken = (d.tk d.T).sk.taken + d.T := uM _ _
theorem gE.TZ (d : gE) (k : Nat) : (d.ru k).1.length ≤ k ∧ (∀ r ∈ (d.ru k).1, Kr d.order.1 d.T r) ∧ (d.ru k).2.taken = (aO d.order.2).taken + 2 * k := zl _ _ _ k
theorem gE.taken (d : gE) : d.sk.taken ≤ d.s.taken + (52 + 4 * d.t) := by
 have h1 := (d.FZ d.m).taken
 have h2 := (d.PE d.n).2.2
 have h3 := (d.Of d.T).taken
 have h4 := d.lX.2.2.2
 have h5 := (d.TZ d.R).2.2
 have h6 := d.CH
 have h7 := d.E5
 have h8 := d.Qe
 have h9 := d.Qj
 rw [bw] at h3 h5 h1
 rw [bw] at h1
 unfold gE.sk
 omega
theorem RW {d : gE} {r : kT} (h : Kr d.order.1 d.T r) : (0 ≤ r.fst ∧ r.fst < (d.T : Int)) ∧ 0 ≤ r.nxt ∧ r.nxt < (d.T : Int) := by
 obtain ⟨a, b, h1, h2, rfl⟩ := h
 have ho := d.lX
 exact ⟨(ho.2.2.1 _).1 (bL (by omega)), (ho.2.2.1 _).1 (bL (by omega))⟩
theorem dY {α : Type} {q : α → Bool} {l : List α} (h : ∀ x ∈ l, q x = false) : l.any q = false := by
 rw [Bool.eq_false_iff]; intro hc
 obtain ⟨x, hx, hq⟩ := List.any_eq_true.1 hc
 rw [h x hx] at hq; cases hq
theorem jK {n lo hi : Int} (h : lo ≤ n ∧ n ≤ hi) : dW n lo hi = false := by
 simp only [dW, Bool.or_eq_false_iff, decide_eq_false_iff_not]; omega
theorem gE.right (d : gE) (ht : d.t ≤ 8) : bk d.CQ = 0 := by
 have h1 := d.FZ d.m
 have h2 := d.PE d.n
 have h3 := d.Of d.T
 have h4 := d.lX
 have h5 := d.TZ d.R
 have h6 := d.CH
 have h7 := d.E5
 have h8 := d.Qe
 have h9 := d.Qj
 have hB : d.CQ.bears.length = d.n := h2.1
 have hb : d.CQ.bins.length = d.m := h1.bins
 have hT : d.CQ.turnings.length = d.T := h3.trn
 have hR : d.CQ.rules.length ≤ 5 := Nat.le_trans h5.1 h9.1
 rw [jN, gX, if_neg, if_neg, if_neg, if_neg, if_neg, vW, if_neg, if_neg, if_neg, if_neg, if_neg]
 ·rw [Bool.not_eq_true]
  refine dY fun t _ => decide_eq_false fun hm => ?_
  obtain ⟨_, hl⟩ := gR.1 hm
  obtain ⟨a, b, hab, hbt, ea, eb⟩ := JZ h4.2.1 (fun r hr => by rw [h4.1]; exact h5.2.1 r hr) hl
  have := Di h4.2.1 (by omega) hbt (ea.symm.trans eb)
  omega
 ·rw [Bool.not_eq_true]
  refine dY fun i hi => ?_
  have hi := eW.1 hi
  have hj : i.toNat < d.m := by omega
  have hbk := h1.Dw _ (bL (xs := (d.bn d.m).bins) (k := i.toNat) (by rw [h1.bins]; exact hj))
  show d.CQ.lW i.toNat (nth (d.bn d.m).bins i.toNat) = false
  unfold bS.lW
  rw [hbk.sum]
  have hk := h3.took _ hj
  have hp := h3.pos _ hj
  have hl := (d.pO.2 _ hj).2.2
  have e : gu d.CQ d.CQ.turnings i.toNat = rj (d.tk d.T).trn i.toNat := rfl
  have hx : ¬ rj (d.tk d.T).trn i.toNat > (nth (d.bn d.m).bins i.toNat).has := by omega
  rw [e, decide_eq_false hx]; rfl
 ·rw [Bool.not_eq_true]
  exact dY fun t hm => decide_eq_false (h3.trnOk t hm).ne
 ·rw [Bool.not_eq_true]
  refine dY fun r hm => ?_
  have := RW (h5.2.1 r hm)
  rw [hT, jK (by omega), jK (by omega)]; rfl
 ·rw [Bool.not_eq_true]
  refine dY fun t hm => ?_
  have h := h3.trnOk t hm
  have := h.src
  have := h.dst
  rw [hb, jK (by omega), jK (by omega)]; rfl
 ·rw [Bool.not_eq_true]
  refine dY fun t hm => ?_
  have := (h3.trnOk t hm).sacks
  exact jK (by omega)
 ·rw [Bool.not_eq_true]
  refine dY fun b hm => ?_
  have h := h1.Dw b hm
  have := h.has
  rw [jK (by omega), Bool.false_or]
  exact dY (p6 (P := fun n => dW n 0 4 = false) fun j hj => jK (h.rng j (by rw [← h.len]; exact hj)))
 ·rw [Bool.not_eq_true]
  refine dY (p6 (P := fun n => dW n 0 4000 = false) fun j hj => jK ?_)
  have hj : j < d.n := by rw [← hB]; exact hj
  have h := h2.2.1 j hj
  have h0 := h1.bearsR j hj
  rw [if_pos hj] at h
  show 0 ≤ nth (d.up d.n).1 j ∧ nth (d.up d.n).1 j ≤ 4000
  omega
 ·rw [Bool.not_eq_true]
  refine dY fun b hm => ?_
  rw [(h1.Dw b hm).len, hB]; simp
 rw [Bool.not_eq_true]
 unfold bS.many
 rw [hB, hb, hT, jK (by omega), decide_eq_false (by omega), decide_eq_false (by omega), decide_eq_false (by omega)]; rfl
end Go.Proofs.YtmmcenjknimhbaaGreat
namespace Go.Proofs.YtmmcenjknimhbaaGreat
open Go Go.T
def Vc (sh k : Nat) : Nat := (sh >>> (2 * k)) &&& 3
def VG (sh k : Nat) : List Int := [(Vc sh k : Nat), 4 - ((Vc sh k : Nat) : Int)]
def R4 (sh : Nat) : Nat → List p9
  | 0 => []
  | k + 1 => R4 sh k ++ [⟨0, VG sh k⟩]
def VM (l : List p9) (x : Rv) : List p9 := l.set x.inn.toNat ⟨x.sacks, (nth l x.inn.toNat).shares⟩
def JF (sh : Nat) (b : bR) : Nat → List p9
  | 0 => R4 sh b.sizes.length
  | j + 1 => VM (JF sh b j) (nth b.lots j)
def TY (l : List p9) (y : Nat) : Int := (l.map fun x => x.has * nth x.shares y).sum
structure Vj (sh : Nat) (b : bR) (j : Nat) : Prop where
  bin : ∀ k, k < b.sizes.length → (nth (JF sh b j) k).shares = VG sh k ∧ 0 ≤ (nth (JF sh b j) k).has ∧ (nth (JF sh b j) k).has ≤ 300
  zero : ∀ k : Nat, k < b.sizes.length → (∀ i, i < j → (nth b.lots i).inn ≠ (k : Int)) → (nth (JF sh b j) k).has = 0
  there : ∀ i, i < j → (nth (JF sh b j) (nth b.lots i).inn.toNat).has = (nth b.lots i).sacks
  sum : ∀ y, TY (JF sh b j) y = ((List.range j).map fun i => (nth b.lots i).sacks * nth (VG sh (nth b.lots i).inn.toNat) y).sum
theorem PN {f : bS} (h : f.rules = []) (t : Int) : fW f t = [] := by
  rw [List.eq_nil_iff_forall_not_mem]
  intro a ha
  have hl := (gR.1 ha).2
  rw [h] at hl
  cases hl with
  | one hm => cases hm
  | step hm _ => cases hm
section
variable {b : bR} {q : Pl} {t : cr} {sh : Nat} (hr : b.dh) (h6 : b.sizes.length ≤ 6) (hv : VP b q) (ht : t ∈ cH b q)
include hr h6 hv
include ht
end
end Go.Proofs.YtmmcenjknimhbaaGreat
namespace Go.Proofs.YtmmcenjknimhbaaGreat
open Go Go.T
def jk (t : mQ) : Bool := decide (max t.src t.dst < 4)
def y6 (f : bS) : bS := if (f.bins.length : Int) > 4 then ⟨f.bears, f.bins.take 4, f.turnings.filter jk, []⟩ else f
def jU (f : bS) : bu := ⟨1, f.bins.map fun b => ⟨300, ⟨b.has, b.has⟩⟩, f.turnings.map fun t => ⟨0, t.src, t.dst, ⟨t.sacks, t.sacks⟩⟩, []⟩
def lz (f : bS) : ew := ⟨f.bins.map p9.has, f.turnings.map mQ.sacks⟩
structure UN (f : bS) : Prop where
  many : f.many = false
  len : ∀ b ∈ f.bins, b.shares.length = f.bears.length
  bears : (f.bears.any fun n => dW n 0 4000) = false
  bin : ∀ b ∈ f.bins, (0 ≤ b.has ∧ b.has ≤ 300) ∧ (b.shares.any fun n => dW n 0 4) = false
  sacks : ∀ t ∈ f.turnings, 1 ≤ t.sacks ∧ t.sacks ≤ 300
  named : ∀ t ∈ f.turnings, (-1 ≤ t.src ∧ t.src < f.bins.length) ∧ (-1 ≤ t.dst ∧ t.dst < f.bins.length)
  ne : ∀ t ∈ f.turnings, t.src ≠ t.dst
  wrong : ∀ i, i < f.bins.length → (nth f.bins i).shares.sum = 4 ∧ gu f f.turnings i ≤ (nth f.bins i).has
theorem uc {f : bS} (h : bk f = 0) : UN f := by
  rw [jN] at h
  unfold gX vW at h
  have n0 : ∀ {c : Bool} {k x : Int}, k ≠ 0 → (if c = true then k else x) = 0 → c = false ∧ x = 0 := fun {c k x} hk h => by
    cases c with
    | true => exact absurd h hk
    | false => exact ⟨rfl, h⟩
  obtain ⟨h1, h⟩ := n0 (by decide) h
  obtain ⟨h2, h⟩ := n0 (by decide) h
  obtain ⟨h3, h⟩ := n0 (by decide) h
  obtain ⟨h4, h⟩ := n0 (by decide) h
  obtain ⟨h5, h⟩ := n0 (by decide) h
  obtain ⟨h6, h⟩ := n0 (by decide) h
  obtain ⟨h7, h⟩ := n0 (by decide) h
  obtain ⟨h8, h⟩ := n0 (by decide) h
  obtain ⟨h9, h⟩ := n0 (by decide) h
  refine ⟨h1, fun b hb => ?_, h3, fun b hb => ?_, fun t ht => j3 (fK h5 ht), fun t ht => ?_, fun t ht => ?_, fun i hi => ?_⟩
  · have := fK h2 hb
    simp only [Bool.not_eq_false', decide_eq_true_eq] at this; omega
  · have := fK h4 hb
    rw [Bool.or_eq_false_iff] at this
    exact ⟨j3 this.1, this.2⟩
  · have := fK h6 ht
    rw [Bool.or_eq_false_iff] at this
    have a := j3 this.1
    have c := j3 this.2
    omega
  · exact of_decide_eq_false (fK h8 ht)
  · have := fK h9 (eW.2 (show (0 : Int) ≤ (i : Int) ∧ (i : Int) < f.bins.length by omega))
    have this : f.lW i (nth f.bins i) = false := this
    unfold bS.lW at this
    rw [Bool.or_eq_false_iff, Bool.not_eq_false', decide_eq_true_eq, decide_eq_false_iff_not] at this
    exact ⟨this.1, Int.not_lt.1 this.2⟩
theorem F9 (f : bS) (i : Int) (p : mQ → Bool) : ∀ (l : List mQ), (∀ t ∈ l, 1 ≤ t.sacks) → gu f (l.filter p) i ≤ gu f l i
  | [], _ => Int.le_refl _
  | t :: l, h => by
    have ih := F9 f i p l fun u hu => h u (List.mem_cons_of_mem _ hu)
    have h1 := h t List.mem_cons_self
    unfold gu at ih ⊢
    rw [List.filter_cons]
    split
    · rw [List.map_cons, List.map_cons, List.sum_cons, List.sum_cons]; omega
    · rw [List.map_cons, List.sum_cons]
      split
      · omega
      · omega
theorem LB {l : List p9} {n i : Nat} (h : i < n) : nth (l.take n) i = nth l i := by
 unfold nth; rw [List.getD_eq_getElem?_getD, List.getD_eq_getElem?_getD, List.getElem?_take_of_lt h]
theorem SL {f : bS} (h : bk f = 0) : bk (y6 f) = 0 := by
 unfold y6
 by_cases hc : (f.bins.length : Int) > 4
 ·rw [if_pos hc]
  have hk := uc h
  have hl : (f.bins.take 4).length = 4 := by rw [List.length_take]; omega
  have hm : ∀ t ∈ f.turnings.filter jk, t ∈ f.turnings ∧ max t.src t.dst < 4 := fun t ht => by
   rw [List.mem_filter] at ht
   exact ⟨ht.1, of_decide_eq_true ht.2⟩
  rw [jN, gX, if_neg, if_neg, if_neg, if_neg, if_neg, vW, if_neg, if_neg, if_neg, if_neg, if_neg]
  ·rw [Bool.not_eq_true]
   refine dY fun i _ => decide_eq_false ?_
   rw [PN rfl]; exact List.not_mem_nil
  ·rw [Bool.not_eq_true]
   refine dY fun i hi => ?_
   have hi := eW.1 hi
   have hi4 : i.toNat < 4 := by
    have : i < ((f.bins.take 4).length : Nat) := hi.2
    omega
   show bS.lW _ i.toNat (nth (f.bins.take 4) i.toNat) = false
   rw [LB hi4]
   have hw := hk.wrong i.toNat (by omega)
   have ht := F9 f i.toNat jk f.turnings fun t ht => (hk.sacks t ht).1
   unfold bS.lW
   rw [hw.1]
   have hx : ¬ gu ⟨f.bears, f.bins.take 4, f.turnings.filter jk, []⟩ (f.turnings.filter jk) i.toNat > (nth f.bins i.toNat).has := by
    have e : gu ⟨f.bears, f.bins.take 4, f.turnings.filter jk, []⟩ (f.turnings.filter jk) i.toNat = gu f (f.turnings.filter jk) i.toNat := rfl
    rw [e]; omega
   show (!decide ((4 : Int) = 4) || decide (gu _ (f.turnings.filter jk) i.toNat > _)) = false
   rw [decide_eq_false hx]; rfl
  ·rw [Bool.not_eq_true]
   exact dY fun t ht => decide_eq_false (hk.ne t (hm t ht).1)
  ·rw [Bool.not_eq_true]; rfl
  ·rw [Bool.not_eq_true]
   refine dY fun t ht => ?_
   have h1 := hk.named t (hm t ht).1
   have h2 := (hm t ht).2
   show (dW t.src (-1) (((f.bins.take 4).length : Nat) - 1) || dW t.dst (-1) (((f.bins.take 4).length : Nat) - 1)) = false
   rw [hl, jK (by omega), jK (by omega)]; rfl
  ·rw [Bool.not_eq_true]
   refine dY fun t ht => ?_
   exact jK (hk.sacks t (hm t ht).1)
  ·rw [Bool.not_eq_true]
   refine dY fun b hb => ?_
   have := hk.bin b (List.mem_of_mem_take hb)
   rw [jK this.1, this.2]; rfl
  ·rw [Bool.not_eq_true]; exact hk.bears
  ·rw [Bool.not_eq_true]
   refine dY fun b hb => ?_
   show (!decide ((b.shares.length : Int) = f.bears.length)) = false
   rw [hk.len b (List.mem_of_mem_take hb)]; simp
  rw [Bool.not_eq_true]
  have hm := hk.many
  simp only [bS.many, Bool.or_eq_false_iff, decide_eq_false_iff_not] at hm
  have hf := List.length_filter_le jk f.turnings
  show (((dW f.bears.length 1 4 || decide (((f.bins.take 4).length : Int) > 6)) || decide (((f.turnings.filter jk).length : Int) > 8)) || decide (((0 : Nat) : Int) > 16)) = false
  rw [hm.1.1.1, hl, decide_eq_false (show ¬ (((4 : Nat) : Int) > 6) by decide), decide_eq_false (show ¬ (((f.turnings.filter jk).length : Int) > 8) by omega)]
  decide
 rw [if_neg hc]; exact h
theorem Pr {f : bS} (h2 : 2 ≤ f.bins.length) : 1 ≤ (y6 f).bins.length ∧ (y6 f).bins.length ≤ 4 ∧ (y6 f).bears = f.bears := by
 unfold y6
 by_cases hc : (f.bins.length : Int) > 4
 ·rw [if_pos hc]
  show 1 ≤ (f.bins.take 4).length ∧ (f.bins.take 4).length ≤ 4 ∧ _
  rw [List.length_take]
  exact ⟨by omega, by omega, rfl⟩
 rw [if_neg hc]; exact ⟨by omega, by omega, rfl⟩
section
variable {f : bS} (h : bk f = 0) (h1 : 1 ≤ f.bins.length) (h4 : f.bins.length ≤ 4)
include h h1 h4
theorem x7 : (jU f).dh ∧ dw (jU f) = 0 := by
 have hk := uc h
 have hm := hk.many
 simp only [bS.many, Bool.or_eq_false_iff, decide_eq_false_iff_not] at hm
 have hb : (jU f).bins.length = f.bins.length := by show (f.bins.map _).length = _; rw [List.length_map]
 have hmv : (jU f).moves.length = f.turnings.length := by show (f.turnings.map _).length = _; rw [List.length_map]
 have hr : (jU f).dh := by
  refine ⟨⟨by show (1 : Int) ≤ 1; decide, by show (1 : Int) ≤ 5; decide⟩, by omega, by omega, Nat.zero_le _, fun b hb' => ?_, fun m hm' => ?_, fun l hl => by cases hl⟩
  ·obtain ⟨x, hx, rfl⟩ := List.mem_map.1 hb'
   have := (hk.bin x hx).1
   exact ⟨by show (0 : Int) ≤ 300 ∧ (300 : Int) ≤ 300; decide, this, Int.le_refl _⟩
  obtain ⟨t, ht, rfl⟩ := List.mem_map.1 hm'
  have a := hk.sacks t ht
  have c := hk.named t ht
  rw [hb]
  exact ⟨by show (0 : Int) ≤ 0 ∧ (0 : Int) < 1; decide, c.1, c.2, hk.ne t ht, ⟨by show 0 ≤ t.sacks; omega, by show t.sacks ≤ 300; omega⟩, Int.le_refl _⟩
 exact ⟨hr, My hr⟩
theorem Jr : p4 (jU f) (lz f) = 0 := by
 obtain ⟨hr, hc⟩ := x7 h h1 h4
 have hk := uc h
 unfold p4
 have e1 : xQ (jU f) (lz f) = false := by
  unfold xQ jU lz
  simp
 have e2 : xp (lz f) = false := by
  unfold xp lz
  rw [Bool.or_eq_false_iff, Bool.not_eq_false', Bool.not_eq_false', List.all_eq_true, List.all_eq_true]
  refine ⟨fun x hx => ?_, fun x hx => ?_⟩
  ·obtain ⟨b, hb, rfl⟩ := List.mem_map.1 hx
   exact fG.2 (hk.bin b hb).1
  obtain ⟨t, ht, rfl⟩ := List.mem_map.1 hx
  have := hk.sacks t ht
  exact fG.2 ⟨by omega, by omega⟩
 rw [if_pos hc, e1, if_neg (by decide), e2, if_neg (by decide)]
end
def u5 (C : List (List Int)) (f : bS) (time b : Nat) : Nat → Int
  | 0 => 0
  | i + 1 => u5 C f time b i + nth (nth C i) time * nth (nth f.bins i).shares b
theorem R9 {C : List (List Int)} {f : bS} {time b : Nat} : (0 : Int) = u5 C f time b 0 := rfl
theorem Rq {C : List (List Int)} {f : bS} {time b i : Nat} : u5 C f time b i + nth (nth C i) time * nth (nth f.bins i).shares b = u5 C f time b (i + 1) := rfl
theorem EK (C : List (List Int)) (f : bS) (time b : Nat) : ∀ n, u5 C f time b n = cm (fun i => nth (nth C i) time * nth (nth f.bins i).shares b) n
  | 0 => rfl
  | n + 1 => by show u5 C f time b n + _ = cm _ n + _; rw [EK C f time b n]
theorem xA (f : bS) (b : Nat) : ∀ n, n ≤ f.bins.length → gW f b n = cm (fun i => (nth f.bins i).has * nth (nth f.bins i).shares b) n
  | 0, _ => rfl
  | n + 1, hn => by
    show _ = cm _ n + _
    rw [← xA f b n (by omega)]
    unfold gW
    rw [bh (by omega), List.map_append, List.sum_append]
    simp
theorem Ks (g : Int → Int) : ∀ n, ((tD n).map g).sum = cm (fun t => g (t : Nat)) n
  | 0 => rfl
  | n + 1 => by rw [Ft, List.map_append, List.sum_append, Ks g n]; show _ = cm _ n + _; simp
theorem K0 (n : Nat) : (tD n).Nodup := by
 unfold tD
 exact List.Pairwise.map _ (fun a b hab h => hab (Int.ofNat.inj h)) List.nodup_range
theorem Cq {f : bS} {b : Nat} {x : Int} (hx : -1 ≤ x ∧ x < f.bins.length) : cm (fun i => ind (x = ((i : Nat) : Int)) * nth (nth f.bins i).shares b) f.bins.length = iw f x b := by
 unfold iw
 by_cases e : x = -1
 ·rw [if_pos e]
  refine k5 fun i hi => ?_
  unfold ind
  rw [if_neg (by omega), Int.zero_mul]
 rw [if_neg e, rm (k := x.toNat) (by omega) fun i hi hne => by unfold ind; rw [if_neg (by omega), Int.zero_mul]]
 unfold ind
 rw [if_pos (by omega), Int.one_mul]
section
variable {f : bS} (h : bk f = 0) (h1 : 1 ≤ f.bins.length) (h4 : f.bins.length ≤ 4)
include h h1 h4
theorem Ek {i : Nat} (hi : i < f.bins.length) : (nth (g8 (jU f) (lz f)) i).length = 2 ∧ nth (nth (g8 (jU f) (lz f)) i) 0 = (nth f.bins i).has ∧ nth (nth (g8 (jU f) (lz f)) i) 1 = (nth f.bins i).has + cm (fun t => (ind ((nth f.turnings t).dst = ((i : Nat) : Int)) - ind ((nth f.turnings t).src = ((i : Nat) : Int))) * (nth f.turnings t).sacks) f.turnings.length := by
 obtain ⟨hr, _⟩ := x7 h h1 h4
 have hb : (jU f).bins.length = f.bins.length := by show (f.bins.map _).length = _; rw [List.length_map]
 have hmv : (jU f).moves.length = f.turnings.length := by show (f.turnings.map _).length = _; rw [List.length_map]
 have hD : (jU f).D = 1 := rfl
 have hf : nth (lz f).first i = (nth f.bins i).has := by
  show nth (f.bins.map _) i = _
  rw [cE (by rw [List.length_map]; exact hi), List.getElem_map, ← cE hi]
 rw [CS (by rw [hb]; exact hi), hD]
 refine ⟨l6, ?_, ?_⟩
 ·rw [wR (by omega), Cs hr, hf]
 rw [wR (by omega)]
 unfold fL
 rw [hf, hmv]
 congr 1
 refine gV fun t ht => ?_
 have em : nth (jU f).moves t = ⟨0, (nth f.turnings t).src, (nth f.turnings t).dst, ⟨(nth f.turnings t).sacks, (nth f.turnings t).sacks⟩⟩ := by
  show nth (f.turnings.map _) t = _
  rw [cE (by rw [List.length_map]; exact ht), List.getElem_map, ← cE ht]
 have ea : nth (lz f).bM t = (nth f.turnings t).sacks := by
  show nth (f.turnings.map _) t = _
  rw [cE (by rw [List.length_map]; exact ht), List.getElem_map, ← cE ht]
 rw [em]
 show (if (0 : Int) < ((1 : Nat) : Int) then xX (jU f) (lz f).bM i t else 0) = _
 rw [if_pos (by decide)]
 unfold xX
 rw [em, ea]
theorem Kw {l : List Int} (ho : kC f l = 0) {b : Nat} (hb : b < f.bears.length) : u5 (g8 (jU f) (lz f)) f 0 b f.bins.length = nth (nth (rq f l) 0) b ∧ u5 (g8 (jU f) (lz f)) f 1 b f.bins.length = nth (nth (rq f l) l.length) b := by
 have hk := uc h
 have hn := (cB h).named
 have ha := answers h ho
 have oe : gw f l = 0 := by
  have hM : gX f = 0 := by rw [← jN]; exact h
  unfold gw
  rw [if_neg (by rw [hM]; exact fun h => h rfl)]; exact ho
 have re : rq f l = gF f l := if_neg (by rw [oe]; exact fun h => h rfl)
 have hin := (lJ ho).2.1
 rw [re, oJ hn hin hb (Nat.zero_le _), oJ hn hin hb (Nat.le_refl _)]
 constructor
 ·rw [LO, xA f b _ (Nat.le_refl _), EK]
  exact gV fun i hi => by rw [(Ek h h1 h4 hi).2.1]
 have e := K6 f (l := l) (l' := tD f.turnings.length) (n := f.turnings.length) ha.nodup (K0 _) ha.all (fun x => eW) b
 rw [e]
 unfold mN
 rw [List.take_of_length_le (Nat.le_refl _), Ks, xA f b _ (Nat.le_refl _), EK]
 have e1 : cm (fun i => nth (nth (g8 (jU f) (lz f)) i) 1 * nth (nth f.bins i).shares b) f.bins.length = cm (fun i => (nth f.bins i).has * nth (nth f.bins i).shares b + cm (fun t => (nth f.turnings t).sacks * ((ind ((nth f.turnings t).dst = ((i : Nat) : Int)) * nth (nth f.bins i).shares b) - (ind ((nth f.turnings t).src = ((i : Nat) : Int)) * nth (nth f.bins i).shares b))) f.turnings.length) f.bins.length :=
  gV fun i hi => by
   rw [(Ek h h1 h4 hi).2.2, Int.add_mul]
   congr 1
   rw [Int.mul_comm, ← rS]
   refine gV fun t _ => ?_
   rw [← Int.sub_mul]
   simp only [Int.mul_comm, Int.mul_left_comm, Int.mul_assoc]
 rw [e1, vo, xy]
 congr 1
 refine gV fun t ht => ?_
 rw [rS, o9, Cq (hn _ (bL ht)).2, Cq (hn _ (bL ht)).1]
 rfl
end
section
variable {f : bS}
theorem GR (h : bk f = 0) {i : Nat} (hi : i < f.bins.length) (b : Nat) : 0 ≤ nth (nth f.bins i).shares b ∧ nth (nth f.bins i).shares b ≤ 4 := by
 have hs := (uc h).bin _ (bL hi)
 by_cases hb : b < (nth f.bins i).shares.length
 ·exact j3 (fK hs.2 (bL hb))
 have : nth (nth f.bins i).shares b = 0 := by
  unfold nth
  rw [List.getD_eq_getElem?_getD, List.getElem?_eq_none (by unfold nth at hb; omega)]; rfl
 omega
theorem vl (h : bk f = 0) (h1 : 1 ≤ f.bins.length) (h4 : f.bins.length ≤ 4) {a : Nat} (ha : a < 2) {i : Nat} (hi : i < f.bins.length) : -3000 ≤ nth (nth (g8 (jU f) (lz f)) i) a ∧ nth (nth (g8 (jU f) (lz f)) i) a ≤ 3300 := by
 have hr := (x7 h h1 h4).1
 have hb : (jU f).bins.length = f.bins.length := by show (f.bins.map _).length = _; rw [List.length_map]
 have hs := (Sl (Jr h h1 h4)).2
 rw [CS (by rw [hb]; exact hi), wR (show a ≤ (jU f).D by show a ≤ 1; omega)]
 exact F5 hr hs (by rw [hb]; exact hi)
theorem KX {x y : Int} (hx : -3000 ≤ x ∧ x ≤ 3300) (hy : 0 ≤ y ∧ y ≤ 4) : -12000 ≤ x * y ∧ x * y ≤ 13200 := by
 rcases (show y = 0 ∨ y = 1 ∨ y = 2 ∨ y = 3 ∨ y = 4 by omega) with rfl | rfl | rfl | rfl | rfl <;> omega
theorem PT (h : bk f = 0) (h1 : 1 ≤ f.bins.length) (h4 : f.bins.length ≤ 4) {a : Nat} (ha : a < 2) (b : Nat) : ∀ i, i ≤ f.bins.length → -(12000 * (i : Int)) ≤ u5 (g8 (jU f) (lz f)) f a b i ∧ u5 (g8 (jU f) (lz f)) f a b i ≤ 13200 * i
  | 0, _ => by rw [← R9]; omega
  | i + 1, hi => by
    have ih := PT h h1 h4 ha b i (by omega)
    have hm := KX (vl h h1 h4 ha (show i < f.bins.length by omega)) (GR h (show i < f.bins.length by omega) b)
    rw [← Rq]
    omega
theorem SZ (f : bS) : (jU f).bins.length = f.bins.length := by show (f.bins.map _).length = _; rw [List.length_map]
theorem Ck (h : bk f = 0) : f.Small := by
 have hk := uc h
 have hm := hk.many
 simp only [bS.many, Bool.or_eq_false_iff, decide_eq_false_iff_not] at hm
 have h1 := j3 hm.1.1.1
 exact ⟨by omega, by omega, by omega, by omega, fun b hb => by have := hk.len b hb; omega⟩
theorem EV (h : (f.bins.length : Int) > 4) : y6 f = ⟨f.bears, f.bins.take 4, f.turnings.filter jk, []⟩ := if_pos h
theorem Ji (h : ¬ (f.bins.length : Int) > 4) : y6 f = f := if_neg h
end
end Go.Proofs.YtmmcenjknimhbaaGreat
namespace Go.Proofs.YtmmcenjknimhbaaGreat
open Go Go.T
attribute [local irreducible] eH cZ jR j7 eP eO eK eS eJ j8 eN j4 b8 dc j0 dZ j5 nth eZ cU aV cX bodyPost Exit.then Exit.inBlock Code.wp Code.wpIn
def two (r : List kT) : bS := ⟨[400, 300], [⟨60, [4, 0]⟩, ⟨30, [2, 2]⟩, ⟨0, [0, 4]⟩], [⟨0, 1, 40⟩, ⟨1, 2, 30⟩, ⟨-1, 0, 40⟩], r⟩
set_option maxRecDepth 100000 in
theorem AY (r : List kT) : cX Tryz.prog 43 [Ty.sl jf r] (iS (two r)) := by
 refine aY Tryz.func43 rfl (by decide) Tryz.ntmps43 (by exact Nat.le_of_ble_eq_true rfl) fun w0 M0 => ?_
 refine aF (aA ?_)
 refine dB rfl (by exact List.cons_ne_nil _ _) rfl ?_
 refine aD (aC (aF (aA ?_)))
 refine bT (E := dN) (xs := [400, 300]) rfl rfl rfl rfl rfl (by decide) (by decide) (by repeat (first | exact (aT.nil : aT _ _ [] _) | (show aT _ _ ((_, _) :: _) _; apply aT.one; (· exact (rfl : _ = Ty.int _ _)); (· exact rfl)))) (by exact rfl) rfl ?_
 refine bT (E := dN) (xs := [4, 0]) rfl rfl rfl rfl rfl (by decide) (by decide) (by repeat (first | exact (aT.nil : aT _ _ [] _) | (show aT _ _ ((_, _) :: _) _; apply aT.one; (· exact (rfl : _ = Ty.int _ _)); (· exact rfl)))) (by exact rfl) rfl ?_
 refine eX rfl rfl (by exact List.cons_ne_nil _ _) rfl (by repeat (first | exact (aT.nil : aT _ _ [] _) | (show aT _ _ ((_, _) :: _) _; apply aT.one; (· first | exact (rfl : _ = Ty.int _ _) | exact (rfl : _ = Ty.sl _ _)); (· exact rfl)))) (by exact (rfl : _ = some [_, _])) ?_
 refine bT (E := dN) (xs := [2, 2]) rfl rfl rfl rfl rfl (by decide) (by decide) (by repeat (first | exact (aT.nil : aT _ _ [] _) | (show aT _ _ ((_, _) :: _) _; apply aT.one; (· exact (rfl : _ = Ty.int _ _)); (· exact rfl)))) (by exact rfl) rfl ?_
 refine eX rfl rfl (by exact List.cons_ne_nil _ _) rfl (by repeat (first | exact (aT.nil : aT _ _ [] _) | (show aT _ _ ((_, _) :: _) _; apply aT.one; (· first | exact (rfl : _ = Ty.int _ _) | exact (rfl : _ = Ty.sl _ _)); (· exact rfl)))) (by exact (rfl : _ = some [_, _])) ?_
 refine bT (E := dN) (xs := [0, 4]) rfl rfl rfl rfl rfl (by decide) (by decide) (by repeat (first | exact (aT.nil : aT _ _ [] _) | (show aT _ _ ((_, _) :: _) _; apply aT.one; (· exact (rfl : _ = Ty.int _ _)); (· exact rfl)))) (by exact rfl) rfl ?_
 refine eX rfl rfl (by exact List.cons_ne_nil _ _) rfl (by repeat (first | exact (aT.nil : aT _ _ [] _) | (show aT _ _ ((_, _) :: _) _; apply aT.one; (· exact (rfl : _ = Ty.sl _ _)); (· exact rfl)))) (by exact (rfl : _ = some [_, _])) ?_
 refine bT (E := jX) (xs := [⟨60, [4, 0]⟩, ⟨30, [2, 2]⟩, ⟨0, [0, 4]⟩]) rfl rfl rfl rfl rfl (by decide) (by decide) (by repeat (first | exact (aT.nil : aT _ _ [] _) | (show aT _ _ ((_, _) :: _) _; apply aT.agg; (· exact (rfl : _ = Ty.agg _))))) (by exact rfl) rfl ?_
 refine eX rfl rfl (by exact List.cons_ne_nil _ _) rfl (by repeat (first | exact (aT.nil : aT _ _ [] _) | (show aT _ _ ((_, _) :: _) _; apply aT.one; (· exact (rfl : _ = Ty.int _ _)); (· exact rfl)))) (by exact (rfl : _ = some [_, _, _])) ?_
 refine eX rfl rfl (by exact List.cons_ne_nil _ _) rfl (by repeat (first | exact (aT.nil : aT _ _ [] _) | (show aT _ _ ((_, _) :: _) _; apply aT.one; (· exact (rfl : _ = Ty.int _ _)); (· exact rfl)))) (by exact (rfl : _ = some [_, _, _])) ?_
 refine eX rfl rfl (by exact List.cons_ne_nil _ _) rfl (by repeat (first | exact (aT.nil : aT _ _ [] _) | (show aT _ _ ((_, _) :: _) _; apply aT.one; (· exact (rfl : _ = Ty.int _ _)); (· exact rfl)))) (by exact (rfl : _ = some [_, _, _])) ?_
 refine bT (E := gL) (xs := [⟨0, 1, 40⟩, ⟨1, 2, 30⟩, ⟨-1, 0, 40⟩]) rfl rfl rfl rfl rfl (by decide) (by decide) (by repeat (first | exact (aT.nil : aT _ _ [] _) | (show aT _ _ ((_, _) :: _) _; apply aT.agg; (· exact (rfl : _ = Ty.agg _))))) (by exact rfl) rfl ?_
 refine gy rfl ?_
 refine eX rfl rfl (by exact List.cons_ne_nil _ _) rfl (by repeat (first | exact (aT.nil : aT _ _ [] _) | (show aT _ _ ((_, _) :: _) _; apply aT.one; (· exact (rfl : _ = Ty.sl _ _)); (· exact rfl)))) (by exact (rfl : _ = some [_, _, _, _])) ?_
 refine eG rfl rfl (by decide) rfl rfl rfl rfl rfl rfl ?_
 refine aD (aC (av ?_))
 refine Kq rfl rfl rfl rfl (by decide) rfl rfl rfl ?_
 exact Q6 (ts := cv (two r)) (s7 (bN rfl rfl) (s7 (bN rfl rfl) (s7 (bN rfl rfl) (s7 (bN rfl rfl) O4))))
end Go.Proofs.YtmmcenjknimhbaaGreat
namespace Go.Proofs.YtmmcenjknimhbaaGreat
open Go Go.T
attribute [local irreducible] eH cZ jR j7 eP eO eK eS eJ j8 eN j4 b8 dc j0 dZ j5 nth eZ cU aV cX bodyPost Exit.then Exit.inBlock Code.wp Code.wpIn
end Go.Proofs.YtmmcenjknimhbaaGreat
namespace Go.Proofs.YtmmcenjknimhbaaGreat
open Go Go.T
attribute [local irreducible] eH cZ jR j7 eP eO eK eS eJ j8 eN j4 b8 dc j0 dZ j5 nth eZ cU aV cX bodyPost Exit.then Exit.inBlock Code.wp Code.wpIn
theorem wW {b : Bool} (h : b = false) : ¬ b = true := by rw [h]; decide
theorem HS {n k : Nat} {q : Int → Bool} (hk : k < n) (h : q k = true) : (tD n).any q = true := Gy (eW.2 ⟨by omega, by omega⟩) h
theorem FU {n : Nat} {q : Int → Bool} (h : ∀ k : Nat, k < n → q k = false) : (tD n).any q = false := by
 rw [Bool.eq_false_iff]; intro hc
 obtain ⟨x, hx, hq⟩ := List.any_eq_true.1 hc
 obtain ⟨h1, h2⟩ := eW.1 hx
 have := h x.toNat (by omega)
 rw [Int.toNat_of_nonneg h1, hq] at this; cases this
theorem Sn {p : Nat → Prop} {k : Nat} (h : ∀ j, j < k → p j) (hk : p k) : ∀ j, j < k + 1 → p j := fun j hj => by
 rcases Nat.lt_or_ge j k with h1 | h1
 ·exact h j h1
 rwa [show j = k by omega]
end Go.Proofs.YtmmcenjknimhbaaGreat
namespace Go.Proofs.YtmmcenjknimhbaaGreat
open Go Go.T
attribute [local irreducible] eH cZ jR j7 eP eO eK eS eJ j8 eN j4 b8 dc j0 dZ j5 nth eZ cU aV cX bodyPost Exit.then Exit.inBlock Code.wp Code.wpIn
end Go.Proofs.YtmmcenjknimhbaaGreat
namespace Go.Proofs.YtmmcenjknimhbaaGreat
open Go Go.T
attribute [local irreducible] eH cZ jR j7 eP eO eK eS eJ j8 eN j4 b8 dc j0 dZ j5 nth eZ cU aV cX bodyPost Exit.then Exit.inBlock Code.wp Code.wpIn
end Go.Proofs.YtmmcenjknimhbaaGreat
namespace Go.Proofs.YtmmcenjknimhbaaGreat
open Go Go.T
attribute [local irreducible] eH cZ jR j7 eP eO eK eS eJ j8 eN j4 b8 dc j0 dZ j5 nth eZ cU aV cX bodyPost Exit.then Exit.inBlock Code.wp Code.wpIn
end Go.Proofs.YtmmcenjknimhbaaGreat
namespace Go.Proofs.YtmmcenjknimhbaaGreat
open Go Go.T
attribute [local irreducible] eH cZ jR j7 eP eO eK eS eJ j8 eN j4 b8 dc j0 dZ j5 nth eZ cU aV cX bodyPost Exit.then Exit.inBlock Code.wp Code.wpIn
end Go.Proofs.YtmmcenjknimhbaaGreat
namespace Go.Proofs.YtmmcenjknimhbaaGreat
open Go Go.T
attribute [local irreducible] eH cZ jR j7 eP eO eK eS eJ j8 eN j4 b8 dc j0 dZ j5 nth eZ cU aV cX bodyPost Exit.then Exit.inBlock Code.wp Code.wpIn
end Go.Proofs.YtmmcenjknimhbaaGreat
namespace Go.Proofs.YtmmcenjknimhbaaGreat
open Go Go.T
attribute [local irreducible] eH cZ jR j7 eP eO eK eS eJ j8 eN j4 b8 dc j0 dZ j5 nth eZ cU aV cX bodyPost Exit.then Exit.inBlock Code.wp Code.wpIn
set_option maxRecDepth 100000 in
theorem yH (n lo hi : Int) : cX Tryz.prog 114 [Ty.int .i64 n, Ty.int .i64 lo, Ty.int .i64 hi] (Ty.bool (fE n lo hi)) := by
 refine aY Tryz.func114 rfl (by decide) Tryz.ntmps114 (by exact Nat.le_of_ble_eq_true rfl) fun w0 M0 => ?_
 refine aF (aA (dG rfl (aD (aC (aF (aA (bF rfl (bF rfl (ak rfl rfl rfl (kV rfl ?_))))))))))
 apply aN (s := 10) rfl rfl rfl
 ·intro hg; apply aQ; (refine bF rfl ?_); refine aD ?_; exact rfl
 ·exact rfl
 ·exact rfl
 apply aN (s := 10) rfl rfl rfl
 ·intro hg; apply aQ; (refine bF rfl ?_); refine aD ?_; exact rfl
 ·exact rfl
 ·exact rfl
 apply aN (s := 10) rfl rfl rfl
 ·intro hg; apply aM (s := 11) rfl (by (rw [hg]; rfl)); apply aM (s := 12) rfl (by (rw [hg]; rfl)); apply aQ; (refine ak rfl rfl rfl ?_); refine aD ?_; exact rfl
 ·exact rfl
 ·exact rfl
 refine gP rfl rfl (dG rfl (aD (aC (av (bK rfl rfl ?_)))))
 all_goals exact bN rfl rfl
set_option maxRecDepth 100000 in
theorem UW (l : List Int) (hl : l.length ≤ 100) (hb : ∀ n ∈ l, 0 ≤ n ∧ n ≤ 4000) : cX Tryz.prog 198 [Ty.sl dN l] (Ty.int .i64 l.sum) := by
 refine aY Tryz.func198 rfl (by decide) Tryz.ntmps198 (by exact Nat.le_of_ble_eq_true rfl) fun w0 M0 => ?_
 refine aF (aA (b9 rfl (aD (aC (aF (aA (b9 rfl (aD (aC (aF (aF (aA (gy rfl (cC rfl rfl rfl (bF rfl ?_)))))))))))))))
 refine aD (aC (af ?_))
 refine cK (fun (k : Nat) => live [(3, Ty.int .i64 (l.take k).sum), (6, Ty.sl dN l), (7, Ty.int .i64 l.length), (8, Ty.int .i64 k)] []) (fun k => l.length - k) (0) ?_ fun k => ?_
 ·(refine c8.mk' ?_ ?_ <;> (repeat' (first | exact aI | exact aH | refine aB ?_ (Ty.aR _) | refine aB ?_ (Ty.aG _))))
 have hsb := IK hb k
 rw [List.length_take] at hsb
 refine aF (aA (ak rfl rfl rfl (aD (aC (aF ?_)))))
 refine aa rfl (fun hc1 => ?_) (fun hc1 => ?_)
 ·refine bA (aC (aF (af (aF ?_))))
  have hx := hb _ (bL (xs := l) (k := k) (by omega))
  refine aA ?_
  refine bG rfl rfl rfl rfl rfl rfl (by omega) ?_
  refine aK rfl rfl rfl rfl (b9 rfl (aD (aC (aA (bF rfl (bF rfl ?_))))))
  refine bz rfl rfl (by omega) (by omega) ?_
  refine b9 rfl (aD (bH (aC (aA ?_))))
  refine bz rfl rfl (by omega) (by omega) ?_
  refine bF rfl (aD ?_)
  refine bO (k + 1) ?_ (by omega)
  (refine c8.mk' ?_ ?_ <;> (repeat' (first | exact aI | exact aH | refine aB ?_ (Ty.aR _) | refine aB ?_ (Ty.aG _) | refine aB ?_ ?_)))
  all_goals skip
  exact Ty.bJ (by rw [bh (by omega), List.sum_append]; simp)
 refine cF (aL (aL (ah rfl (aC (aF (aA (bF rfl (b9 rfl (aD (aC (av (bK rfl rfl ?_))))))))))))
 all_goals skip
 exact bE rfl rfl (congrArg (Ty.int .i64) (by rw [List.take_of_length_le (by omega)]))
set_option maxRecDepth 100000 in
theorem HJ (n : Int) (l : List Int) : cX Tryz.prog 106 [Ty.int .i64 n, Ty.sl dN l] (Ty.int .i64 (IQ n l)) := by
 refine aY Tryz.func106 rfl (by decide) Tryz.ntmps106 (by exact Nat.le_of_ble_eq_true rfl) fun w0 M0 => ?_
 refine k9 (s := 1) rfl rfl lM fun hl => ?_
 refine aF (aA (b9 rfl (aD (aC (aF (aF (aA (gy rfl (cC rfl rfl rfl (bF rfl (aD (aC (af ?_)))))))))))))
 refine cK (fun (k : Nat) => live [(0, Ty.int .i64 (IQ n (l.take k))), (7, Ty.sl dN l), (8, Ty.int .i64 l.length), (9, Ty.int .i64 k)] []) (fun k => l.length - k) (0) ?_ fun k => ?_
 ·(refine c8.mk' ?_ ?_ <;> (repeat' (first | exact aI | exact aH | refine aB ?_ (Ty.aR _) | refine aB ?_ (Ty.aG _))))
 refine aF (aA (ak rfl rfl rfl (aD (aC (aF ?_)))))
 refine aa rfl (fun hc1 => ?_) (fun hc1 => ?_)
 ·refine bA (aC (aF (af (aF (aA ?_)))))
  refine bG rfl rfl rfl rfl rfl rfl (by omega) ?_
  refine aK rfl rfl rfl rfl (b9 rfl (aD (aC (aA (bF rfl (bF rfl (R3 rfl rfl (b9 rfl (aD (bH (aC (aA ?_))))))))))))
  refine bz rfl rfl (by omega) (by omega) ?_
  refine bF rfl (aD ?_)
  refine bO (k + 1) ?_ (by omega)
  (refine c8.mk' ?_ ?_ <;> (repeat' (first | exact aI | exact aH | refine aB ?_ (Ty.aR _) | refine aB ?_ (Ty.aG _) | refine aB ?_ ?_)))
  all_goals skip
  exact Ty.bJ (by simp only [IQ]; rw [bh (by omega), List.foldl_append]; rfl)
 refine cF (aL (aL (ah rfl (aC (aF (aA (bF rfl (b9 rfl (aD (aC (av (bK rfl rfl ?_))))))))))))
 all_goals skip
 exact bE rfl rfl (congrArg (Ty.int .i64) (by rw [List.take_of_length_le (by omega)]))
set_option maxRecDepth 100000 in
theorem C6 (s : Nat) (hs : s < 256) : cX Tryz.prog 98 [Ty.int .i64 (s : Nat)] (Ty.sl dN (cR s)) := by
 refine aY Tryz.func98 rfl (by decide) Tryz.ntmps98 (by exact Nat.le_of_ble_eq_true rfl) fun w0 M0 => ?_
 refine aF (aA (mP rfl (aD (aC (aF (aA (mP rfl (aD (aC (aF (aF (aA (b9 rfl (aD (aC ?_)))))))))))))))
 refine af ?_
 refine cK (fun (i : {i : Nat // i ≤ 8}) => live [(0, Ty.int .i64 (s : Nat)), (3, Ty.row dN 3 20 (ox s i.1)), (4, Ty.int .i64 (i.1 : Nat))] []) (fun i => 8 - i.1) (⟨0, by omega⟩) ?_ fun i => ?_
 ·(refine c8.mk' ?_ ?_ <;> (repeat' (first | exact aI | exact aH | refine aB ?_ (Ty.aR _) | refine aB ?_ (Ty.aG _) | refine aB ?_ Ty.lS)))
 have hbl := zX s i.1
 have hsi : s >>> i.1 ≤ s := Nat.shiftRight_le s i.1
 refine aF (aF (aA (bF rfl (bF rfl ?_))))
 refine uy rfl rfl (by omega) ?_
 refine ak rfl rfl rfl (aD (aC ?_))
 refine aa rfl (fun hc1 => ?_) (fun hc1 => ?_)
 ·refine bA (aC (aF (af (aF (aA (bF rfl (bF rfl ?_)))))))
  refine uy rfl rfl (by omega) ?_
  refine wq (b := 1) rfl rfl (by omega) (by omega) ?_
  refine ak rfl rfl rfl (aD (aC ?_))
  refine aa rfl (fun hc2 => ?_) (fun hc2 => ?_)
  ·refine aA (Ad rfl (bF rfl ?_))
   refine bT (E := dN) (xs := [_]) rfl rfl rfl rfl rfl (by decide) (by decide) (by repeat (first | exact (aT.nil : aT _ _ [] _) | (show aT _ _ ((_, _) :: _) _; apply aT.one; (· exact (rfl : _ = Ty.int _ _)); (· exact rfl)))) (by exact rfl) rfl ?_
   refine fB rfl rfl (by decide) rfl rfl rfl rfl rfl rfl (by decide) (by (simp <;> omega)) (by (simp <;> omega)) ?_
   refine Ec rfl (aD (bH (aC (aA (bF rfl ?_)))))
   refine bz rfl rfl (by omega) (by omega) ?_
   refine b9 rfl (aD ?_)
   refine bO (⟨i.1 + 1, by have := FB (i := i.1) hs (Int.natCast_pos.1 hc1); omega⟩) ?_ (by show 8 - (i.1 + 1) < 8 - i.1; have := FB (i := i.1) hs (Int.natCast_pos.1 hc1); omega)
   (refine c8.mk' ?_ ?_ <;> (repeat' (first | exact aI | exact aH | refine aB ?_ (Ty.aR _) | refine aB ?_ (Ty.aG _) | refine aB ?_ ?_)))
   all_goals skip
   refine Ty.ej ?_; rw [qy]; (rw [if_pos ((iQ s i.1).1 (by exact_mod_cast hc2))]; done)
  refine bA (bH (aC (aA (bF rfl ?_))))
  refine bz rfl rfl (by omega) (by omega) ?_
  refine b9 rfl (aD ?_)
  refine bO (⟨i.1 + 1, by have := FB (i := i.1) hs (Int.natCast_pos.1 hc1); omega⟩) ?_ (by show 8 - (i.1 + 1) < 8 - i.1; have := FB (i := i.1) hs (Int.natCast_pos.1 hc1); omega)
  (refine c8.mk' ?_ ?_ <;> (repeat' (first | exact aI | exact aH | refine aB ?_ (Ty.aR _) | refine aB ?_ (Ty.aG _) | refine aB ?_ ?_)))
  all_goals skip
  refine Ty.ej ?_; rw [qy]; (rw [if_neg (fun h => hc2 (by exact_mod_cast (iQ s i.1).2 h)), List.append_nil]; done)
 refine cF (aL (aL (ah rfl (aC (aF (aA (Ad rfl (Ec rfl (aD (aC (av (bK rfl rfl ?_))))))))))))
 all_goals skip
 exact nU (by decide) (Hy (Nat.eq_zero_of_not_pos fun h => hc1 (Int.natCast_pos.2 h)) 8 i.2).symm
set_option maxRecDepth 100000 in
theorem pW (f : bS) (hs : f.Small) (t : Int) : cX Tryz.prog 96 [iS f, Ty.int .i64 t] (Ty.bool (fE t 0 (f.turnings.length - 1))) := by
 refine aY Tryz.func96 rfl (by decide) Tryz.ntmps96 (by exact Nat.le_of_ble_eq_true rfl) fun w0 M0 => ?_
 have hs1 := hs.bears; have hs2 := hs.bins; have hs3 := hs.turnings; have hs4 := hs.rules
 refine aF (aA (bC rfl (dG rfl (aD (aC (aF (aA (bF rfl ?_))))))))
 refine aP rfl rfl rfl rfl rfl (by decide) ?_
 refine aK rfl rfl rfl rfl (cC rfl rfl rfl ?_)
 refine iZ rfl rfl (by omega) (by omega) ?_
 refine aq (yH _ _ _) rfl rfl rfl rfl rfl (dG rfl (aD (aC (av (bK rfl rfl ?_)))))
 all_goals exact bN rfl rfl
set_option maxRecDepth 100000 in
theorem R5 (f : bS) (hs : f.Small) (t : Int) : cX Tryz.prog 55 [iS f, Ty.int .i64 t] (Ty.bool (fE t 0 (f.bears.length - 1))) := by
 refine aY Tryz.func55 rfl (by decide) Tryz.ntmps55 (by exact Nat.le_of_ble_eq_true rfl) fun w0 M0 => ?_
 have hs1 := hs.bears; have hs2 := hs.bins; have hs3 := hs.turnings; have hs4 := hs.rules
 refine aF (aA (bC rfl (dG rfl (aD (aC (aF (aA (bF rfl ?_))))))))
 refine aP rfl rfl rfl rfl rfl (by decide) ?_
 refine aK rfl rfl rfl rfl (cC rfl rfl rfl ?_)
 refine iZ rfl rfl (by omega) (by omega) ?_
 refine aq (yH _ _ _) rfl rfl rfl rfl rfl (dG rfl (aD (aC (av (bK rfl rfl ?_)))))
 all_goals exact bN rfl rfl
set_option maxRecDepth 100000 in
theorem Ki (f : bS) (hs : f.Small) (t : Int) : cX Tryz.prog 193 [iS f, Ty.int .i64 t] (Ty.bool (fE t (-1) (f.bins.length - 1))) := by
 refine aY Tryz.func193 rfl (by decide) Tryz.ntmps193 (by exact Nat.le_of_ble_eq_true rfl) fun w0 M0 => ?_
 have hs1 := hs.bears; have hs2 := hs.bins; have hs3 := hs.turnings; have hs4 := hs.rules
 refine aF (aA (bC rfl (dG rfl (aD (aC (aF (aA (bF rfl ?_))))))))
 refine aP rfl rfl rfl rfl rfl (by decide) ?_
 refine aK rfl rfl rfl rfl (cC rfl rfl rfl ?_)
 refine iZ rfl rfl (by omega) (by omega) ?_
 refine aq (yH _ _ _) rfl rfl rfl rfl rfl (dG rfl (aD (aC (av (bK rfl rfl ?_)))))
 all_goals exact bN rfl rfl
set_option maxRecDepth 100000 in
theorem OM (f : bS) (hs : f.Small) (hr : f.iy) (i : Int) : cX Tryz.prog 199 [iS f, Ty.int .i64 i] (Ty.int .i64 (gu f f.turnings i)) := by
 refine aY Tryz.func199 rfl (by decide) Tryz.ntmps199 (by exact Nat.le_of_ble_eq_true rfl) fun w0 M0 => ?_
 have hs1 := hs.bears; have hs2 := hs.bins; have hs3 := hs.turnings; have hs4 := hs.rules
 refine aF (aA (bC rfl (b9 rfl (aD (aC (aF (aA (b9 rfl (aD (aC (aF (aF (aA ?_)))))))))))))
 refine aP rfl rfl rfl rfl rfl (by decide) ?_
 refine aK rfl rfl rfl rfl (cC rfl rfl rfl (bF rfl (aD (aC (af ?_)))))
 refine cK (fun (n : Nat) => live [(1, Ty.int .i64 i), (5, Ty.int .i64 (gu f (f.turnings.take n) i)), (9, Ty.sl gL f.turnings), (10, Ty.int .i64 f.turnings.length), (11, Ty.int .i64 (n : Nat))] []) (fun n => f.turnings.length - n) (0) ?_ fun n => ?_
 ·(refine c8.mk' ?_ ?_ <;> (repeat' (first | exact aI | exact aH | refine aB ?_ (Ty.aR _) | refine aB ?_ (Ty.aG _))))
 have htb := Fa hr n i
 refine aF (aA (ak rfl rfl rfl (aD (aC (aF ?_)))))
 refine aa rfl (fun hc1 => ?_) (fun hc1 => ?_)
 ·refine bA (aC (aF (af (aF (aA ?_)))))
  refine bG rfl rfl rfl rfl rfl rfl (by omega) ?_
  refine ay rfl rfl rfl (by exact Nat.le_of_ble_eq_true rfl) ?_
  refine dB rfl (by exact List.cons_ne_nil _ _) rfl ?_
  refine eG rfl rfl (by decide) rfl rfl rfl rfl rfl rfl ?_
  refine aD (aC (aF (aA ?_)))
  refine aS rfl rfl rfl rfl rfl (by decide) ?_
  refine aj rfl rfl (by decide) rfl rfl rfl ?_
  refine bF rfl (ak rfl rfl rfl (aD (aC ?_)))
  refine aa rfl (fun hc2 => ?_) (fun hc2 => ?_)
  ·have htx := hr.sacksR (nth f.turnings n) (bL (by omega))
   refine aA (bF rfl ?_)
   refine aS rfl rfl rfl rfl rfl (by decide) ?_
   refine aj rfl rfl (by decide) rfl rfl rfl ?_
   refine bz rfl rfl (by omega) (by omega) ?_
   refine b9 rfl (aD (bH (aC (aA ?_))))
   refine bz rfl rfl (by omega) (by omega) ?_
   refine bF rfl (aD ?_)
   refine bO (n + 1) ?_ (by omega)
   (refine c8.mk' ?_ ?_ <;> (repeat' (first | exact aI | exact aH | refine aB ?_ (Ty.aR _) | refine aB ?_ (Ty.aG _) | refine aB ?_ ?_)))
   all_goals skip
   exact Ty.bJ (by simp only [gu]; rw [bh (by omega), List.map_append, List.sum_append]; simp [hc2])
  refine bA (bH (aC (aA ?_)))
  refine bz rfl rfl (by omega) (by omega) ?_
  refine bF rfl (aD ?_)
  refine bO (n + 1) ?_ (by omega)
  (refine c8.mk' ?_ ?_ <;> (repeat' (first | exact aI | exact aH | refine aB ?_ (Ty.aR _) | refine aB ?_ (Ty.aG _) | refine aB ?_ ?_)))
  all_goals skip
  exact Ty.bJ (by simp only [gu]; rw [bh (by omega), List.map_append, List.sum_append]; simp [hc2])
 refine cF (aL (aL (ah rfl (aC (aF (aA (bF rfl (b9 rfl (aD (aC (av (bK rfl rfl ?_))))))))))))
 all_goals skip
 exact bE rfl rfl (congrArg (Ty.int .i64) (by rw [List.take_of_length_le (by omega)]))
set_option maxRecDepth 100000 in
theorem KB (f : bS) (hs : f.Small) (hr : f.iy) (i : Int) (b : Nat) (hi : -1 ≤ i ∧ i < f.bins.length) (hb : b < f.bears.length) : cX Tryz.prog 113 [iS f, Ty.int .i64 i, Ty.int .i64 (b : Nat)] (Ty.int .i64 (if i = -1 then 0 else nth (nth f.bins i.toNat).shares b)) := by
 refine aY Tryz.func113 rfl (by decide) Tryz.ntmps113 (by exact Nat.le_of_ble_eq_true rfl) fun w0 M0 => ?_
 have hs1 := hs.bears; have hs2 := hs.bins; have hs3 := hs.turnings; have hs4 := hs.rules
 refine aF (aA (bC rfl (b9 rfl (aD (aC (aF (aF (aA (bF rfl (ak rfl rfl rfl (aD (aC ?_))))))))))))
 refine aa rfl (fun hc1 => ?_) (fun hc1 => ?_)
 ·refine aF (aA (b9 rfl (aD (aC (av (aW (bK rfl rfl ?_)))))))
  all_goals skip
  exact bE rfl rfl (congrArg (Ty.int .i64) (by rw [if_pos hc1]))
 refine bA (aC (aF ?_))
 have hsl := hr.shares _ (bL (xs := f.bins) (k := i.toNat) (by omega))
 refine aA ?_
 refine aP rfl rfl rfl rfl rfl (by decide) ?_
 refine aK rfl rfl rfl rfl (bF rfl ?_)
 refine nN rfl rfl rfl rfl rfl rfl (by omega) (by omega) ?_
 refine aP rfl rfl rfl rfl rfl (by decide) ?_
 refine aK rfl rfl rfl rfl (bF rfl ?_)
 refine bG rfl rfl rfl rfl rfl rfl (by omega) ?_
 refine aK rfl rfl rfl rfl (b9 rfl (aD (aC (av (bK rfl rfl ?_)))))
 all_goals skip
 exact bE rfl rfl (congrArg (Ty.int .i64) (by rw [if_neg hc1]))
set_option maxRecDepth 100000 in
theorem LP (f : bS) (b : p9) : cX Tryz.prog 186 [Ty.agg (jX.tys b), Ty.pp (cv f)] (Ty.bool (decide ((b.shares.length : Int) = f.bears.length))) := by
 refine aY Tryz.func186 rfl (by decide) Tryz.ntmps186 (by exact Nat.le_of_ble_eq_true rfl) fun w0 M0 => ?_
 refine aF (aA (bC rfl (dG rfl (aD (aC (aF (aA ?_)))))))
 refine aP rfl rfl rfl rfl rfl (by decide) ?_
 refine aK rfl rfl rfl rfl (cC rfl rfl rfl ?_)
 refine aP rfl rfl rfl rfl rfl (by decide) ?_
 refine aK rfl rfl rfl rfl (cC rfl rfl rfl (ak rfl rfl rfl (dG rfl (aD (aC (av (bK rfl rfl ?_)))))))
 all_goals exact bN rfl rfl
set_option maxRecDepth 100000 in
theorem Nt (n : Int) : cX Tryz.prog 187 [Ty.int .i64 n] (Ty.bool (fE n 0 4000)) := by
 refine aY Tryz.func187 rfl (by decide) Tryz.ntmps187 (by exact Nat.le_of_ble_eq_true rfl) fun w0 M0 => ?_
 refine aF (aA (dG rfl (aD (aC (aF (aA (bF rfl (aq (yH _ _ _) rfl rfl rfl rfl rfl (dG rfl (aD (aC (av (bK rfl rfl ?_)))))))))))))
 all_goals exact bN rfl rfl
set_option maxRecDepth 100000 in
theorem Oc (t : mQ) : cX Tryz.prog 189 [Ty.agg (gL.tys t)] (Ty.bool (fE t.sacks 1 300)) := by
 refine aY Tryz.func189 rfl (by decide) Tryz.ntmps189 (by exact Nat.le_of_ble_eq_true rfl) fun w0 M0 => ?_
 refine aF (aA (bC rfl (dG rfl (aD (aC (aF (aA ?_)))))))
 refine aP rfl rfl rfl rfl rfl (by decide) ?_
 refine aK rfl rfl rfl rfl (aq (yH _ _ _) rfl rfl rfl rfl rfl (dG rfl (aD (aC (av (bK rfl rfl ?_))))))
 all_goals exact bN rfl rfl
set_option maxRecDepth 100000 in
theorem Ls (n : Int) : cX Tryz.prog 191 [Ty.int .i64 n] (Ty.bool (fE n 0 4)) := by
 refine aY Tryz.func191 rfl (by decide) Tryz.ntmps191 (by exact Nat.le_of_ble_eq_true rfl) fun w0 M0 => ?_
 refine aF (aA (dG rfl (aD (aC (aF (aA (bF rfl (aq (yH _ _ _) rfl rfl rfl rfl rfl (dG rfl (aD (aC (av (bK rfl rfl ?_)))))))))))))
 all_goals exact bN rfl rfl
set_option maxRecDepth 100000 in
theorem ON (b : p9) : cX Tryz.prog 190 [Ty.agg (jX.tys b)] (Ty.bool (fE b.has 0 300 && b.shares.all fun n => fE n 0 4)) := by
 refine aY Tryz.func190 rfl (by decide) Tryz.ntmps190 (by exact Nat.le_of_ble_eq_true rfl) fun w0 M0 => ?_
 refine aF (aA (bC rfl (dG rfl (aD (aC (aF (aA ?_)))))))
 refine aP rfl rfl rfl rfl rfl (by decide) ?_
 refine aK rfl rfl rfl rfl (aq (yH _ _ _) rfl rfl rfl rfl rfl (kV rfl ?_))
 apply aN (s := 6) rfl rfl rfl
 ·intro hg; apply aQ; (refine aP rfl rfl rfl rfl rfl (by decide) ?_); refine aD ?_; exact rfl
 ·exact rfl
 ·exact rfl
 apply aN (s := 6) rfl rfl rfl
 ·intro hg; apply aM (s := 7) rfl (by (rw [hg]; rfl)); apply aQ; (refine aK rfl rfl rfl rfl ?_); refine aD ?_; exact rfl
 ·exact rfl
 ·exact rfl
 apply aN (s := 6) rfl rfl rfl
 ·intro hg; apply aM (s := 8) rfl (by (rw [hg]; rfl)); apply aQ; (refine aq (kJ b.shares (Ty.j9 _ []) rfl (fun n => fE n 0 4) rfl rfl fun n _ => cY (Ls n) rfl rfl rfl rfl rfl rfl) rfl rfl rfl rfl rfl ?_); refine aD ?_; exact rfl
 ·exact rfl
 ·exact rfl
 refine gP rfl rfl (dG rfl (aD (aC (av (bK rfl rfl ?_)))))
 all_goals exact bN rfl rfl
set_option maxRecDepth 100000 in
theorem Po (f : bS) (hs : f.Small) (t : mQ) : cX Tryz.prog 192 [Ty.agg (gL.tys t), Ty.pp (cv f)] (Ty.bool (fE t.src (-1) (f.bins.length - 1) && fE t.dst (-1) (f.bins.length - 1))) := by
 refine aY Tryz.func192 rfl (by decide) Tryz.ntmps192 (by exact Nat.le_of_ble_eq_true rfl) fun w0 M0 => ?_
 have hs1 := hs.bears; have hs2 := hs.bins; have hs3 := hs.turnings; have hs4 := hs.rules
 refine aF (aA (bC rfl (dG rfl (aD (aC (aF (aA ?_)))))))
 refine ay rfl rfl rfl (by exact Nat.le_of_ble_eq_true rfl) ?_
 refine aP rfl rfl rfl rfl rfl (by decide) ?_
 refine aK rfl rfl rfl rfl (aq (Ki f hs _) rfl rfl rfl rfl rfl (kV rfl ?_))
 apply aN (s := 8) rfl rfl rfl
 ·intro hg; apply aQ; (refine ay rfl rfl rfl (by exact Nat.le_of_ble_eq_true rfl) ?_); refine aD ?_; exact rfl
 ·exact rfl
 ·exact rfl
 apply aN (s := 8) rfl rfl rfl
 ·intro hg; apply aQ; (refine aP rfl rfl rfl rfl rfl (by decide) ?_); refine aD ?_; exact rfl
 ·exact rfl
 ·exact rfl
 apply aN (s := 8) rfl rfl rfl
 ·intro hg; apply aM (s := 10) rfl (by (rw [hg]; rfl)); apply aQ; (refine aK rfl rfl rfl rfl ?_); refine aD ?_; exact rfl
 ·exact rfl
 ·exact rfl
 apply aN (s := 8) rfl rfl rfl
 ·intro hg; apply aM (s := 9) rfl (by (rw [hg]; rfl)); apply aM (s := 11) rfl (by (rw [hg]; rfl)); apply aQ; (refine aq (Ki f hs _) rfl rfl rfl rfl rfl ?_); refine aD ?_; exact rfl
 ·exact rfl
 ·exact rfl
 refine gP rfl rfl (dG rfl (aD (aC (av (bK rfl rfl ?_)))))
 all_goals exact bN rfl rfl
set_option maxRecDepth 100000 in
theorem Ow (t : mQ) : cX Tryz.prog 196 [Ty.agg (gL.tys t)] (Ty.bool (!decide (t.src = t.dst))) := by
 refine aY Tryz.func196 rfl (by decide) Tryz.ntmps196 (by exact Nat.le_of_ble_eq_true rfl) fun w0 M0 => ?_
 refine aF (aA (bC rfl (dG rfl (aD (aC (aF (aA ?_)))))))
 refine aP rfl rfl rfl rfl rfl (by decide) ?_
 refine aK rfl rfl rfl rfl ?_
 refine aP rfl rfl rfl rfl rfl (by decide) ?_
 refine aK rfl rfl rfl rfl (ak rfl rfl rfl (dG rfl (aD (aC (av (bK rfl rfl ?_))))))
 all_goals exact bN rfl rfl
set_option maxRecDepth 100000 in
theorem PJ (b : p9) (hl : b.shares.length ≤ 100) (hb : ∀ n ∈ b.shares, 0 ≤ n ∧ n ≤ 4000) : cX Tryz.prog 197 [Ty.agg (jX.tys b)] (Ty.bool (decide (b.shares.sum = 4))) := by
 refine aY Tryz.func197 rfl (by decide) Tryz.ntmps197 (by exact Nat.le_of_ble_eq_true rfl) fun w0 M0 => ?_
 refine aF (aA (bC rfl (dG rfl (aD (aC (aF (aA ?_)))))))
 refine aP rfl rfl rfl rfl rfl (by decide) ?_
 refine aK rfl rfl rfl rfl (aq (UW b.shares hl hb) rfl rfl rfl rfl rfl (ak rfl rfl rfl (dG rfl (aD (aC (av (bK rfl rfl ?_)))))))
 all_goals exact bN rfl rfl
end Go.Proofs.YtmmcenjknimhbaaGreat
namespace Go.Proofs.YtmmcenjknimhbaaGreat
open Go Go.T
attribute [local irreducible] eH cZ jR j7 eP eO eK eS eJ j8 eN j4 b8 dc j0 dZ j5 nth eZ cU aV cX bodyPost Exit.then Exit.inBlock Code.wp Code.wpIn
set_option maxRecDepth 100000 in
theorem Pg (f : bS) (hs : f.Small) (r : kT) : cX Tryz.prog 195 [Ty.agg (jf.tys r), Ty.pp [Ty.NB 96 [iS f]]] (Ty.bool (fE r.fst 0 (f.turnings.length - 1) && fE r.nxt 0 (f.turnings.length - 1))) := by
 refine aY Tryz.func195 rfl (by decide) Tryz.ntmps195 (by exact Nat.le_of_ble_eq_true rfl) fun w0 M0 => ?_
 have hs1 := hs.bears; have hs2 := hs.bins; have hs3 := hs.turnings; have hs4 := hs.rules
 refine aF (aA (bC rfl (dG rfl (aD (aC (aF (aA (aK rfl rfl rfl rfl ?_))))))))
 refine aP rfl rfl rfl rfl rfl (by decide) ?_
 refine aK rfl rfl rfl rfl (eA rfl (tH (pW f hs r.fst) rfl rfl rfl rfl rfl rfl) rfl (kV rfl ?_))
 apply aN (s := 8) rfl rfl rfl
 ·intro hg; apply aQ; (refine aK rfl rfl rfl rfl ?_); refine aD ?_; exact rfl
 ·exact rfl
 ·exact rfl
 apply aN (s := 8) rfl rfl rfl
 ·intro hg; apply aQ; (refine aP rfl rfl rfl rfl rfl (by decide) ?_); refine aD ?_; exact rfl
 ·exact rfl
 ·exact rfl
 apply aN (s := 8) rfl rfl rfl
 ·intro hg; apply aM (s := 10) rfl (by (rw [hg]; rfl)); apply aQ; (refine aK rfl rfl rfl rfl ?_); refine aD ?_; exact rfl
 ·exact rfl
 ·exact rfl
 apply aN (s := 8) rfl rfl rfl
 ·intro hg; apply aM (s := 9) rfl (by (rw [hg]; rfl)); apply aM (s := 11) rfl (by (rw [hg]; rfl)); apply aQ; (refine eA rfl (tH (pW f hs r.nxt) rfl rfl rfl rfl rfl rfl) rfl ?_); refine aD ?_; exact rfl
 ·exact rfl
 ·exact rfl
 refine gP rfl rfl (dG rfl (aD (aC (av (bK rfl rfl ?_)))))
 all_goals exact bN rfl rfl
set_option maxRecDepth 100000 in
theorem N1 (f : bS) (hs : f.Small) : cX Tryz.prog 158 [iS f] (Ty.int .i64 (ia f)) := by
 refine aY Tryz.func158 rfl (by decide) Tryz.ntmps158 (by exact Nat.le_of_ble_eq_true rfl) fun w0 M0 => ?_
 have hs1 := hs.bears; have hs2 := hs.bins; have hs3 := hs.turnings; have hs4 := hs.rules
 refine aF (aA (bC rfl (b9 rfl (aD (aC (aF (aA ?_)))))))
 refine ay rfl rfl rfl (by exact Nat.le_of_ble_eq_true rfl) ?_
 refine su (l := [iS f]) rfl ?_
 refine dB rfl (by exact List.cons_ne_nil _ _) rfl ?_
 refine dm rfl rfl (by decide) rfl rfl (by exact (rfl : _ = Ty.NB _ _)) rfl (by exact Nat.le_of_ble_eq_true rfl) rfl rfl (by exact (rfl : _ = [_])) ?_
 refine aD (aC (aF (af (aF ?_))))
 refine tW (tg := 4) [(3, Ty.pp [Ty.NB 96 [iS f]])] (by decide) rfl ⟨v7 (T := 89) (tg := 4) (off := 0) (l := [Ty.NB 96 [iS f]]) rfl rfl rfl (by decide), trivial⟩ ?_
 refine aA ?_
 refine aP rfl rfl rfl rfl rfl (by decide) ?_
 refine aK rfl rfl rfl rfl (cC rfl rfl rfl (aq (yH _ _ _) rfl rfl rfl rfl rfl (ct rfl (kV rfl ?_))))
 apply aN (s := 14) rfl rfl rfl
 ·intro hg; apply aQ; (refine aP rfl rfl rfl rfl rfl (by decide) ?_); refine aD ?_; exact rfl
 ·exact rfl
 ·exact rfl
 apply aN (s := 14) rfl rfl rfl
 ·intro hg; apply aM (s := 15) rfl (by (rw [hg]; rfl)); apply aQ; (refine aK rfl rfl rfl rfl ?_); refine aD ?_; exact rfl
 ·exact rfl
 ·exact rfl
 apply aN (s := 14) rfl rfl rfl
 ·intro hg; apply aM (s := 16) rfl (by (rw [hg]; rfl)); apply aQ; (refine cC rfl rfl rfl ?_); refine aD ?_; exact rfl
 ·exact rfl
 ·exact rfl
 apply aN (s := 14) rfl rfl rfl
 ·intro hg; apply aM (s := 17) rfl (by (rw [hg]; rfl)); apply aQ; (refine ak rfl rfl rfl ?_); refine aD ?_; exact rfl
 ·exact rfl
 ·exact rfl
 refine oB rfl rfl (kV rfl ?_)
 apply aN (s := 20) rfl rfl rfl
 ·intro hg; apply aQ; (refine aP rfl rfl rfl rfl rfl (by decide) ?_); refine aD ?_; exact rfl
 ·exact rfl
 ·exact rfl
 apply aN (s := 20) rfl rfl rfl
 ·intro hg; apply aM (s := 21) rfl (by (rw [hg]; rfl)); apply aQ; (refine aK rfl rfl rfl rfl ?_); refine aD ?_; exact rfl
 ·exact rfl
 ·exact rfl
 apply aN (s := 20) rfl rfl rfl
 ·intro hg; apply aM (s := 22) rfl (by (rw [hg]; rfl)); apply aQ; (refine cC rfl rfl rfl ?_); refine aD ?_; exact rfl
 ·exact rfl
 ·exact rfl
 apply aN (s := 20) rfl rfl rfl
 ·intro hg; apply aM (s := 23) rfl (by (rw [hg]; rfl)); apply aQ; (refine ak rfl rfl rfl ?_); refine aD ?_; exact rfl
 ·exact rfl
 ·exact rfl
 refine oB rfl rfl (kV rfl ?_)
 apply aN (s := 26) rfl rfl rfl
 ·intro hg; apply aQ; (refine aP rfl rfl rfl rfl rfl (by decide) ?_); refine aD ?_; exact rfl
 ·exact rfl
 ·exact rfl
 apply aN (s := 26) rfl rfl rfl
 ·intro hg; apply aM (s := 27) rfl (by (rw [hg]; rfl)); apply aQ; (refine aK rfl rfl rfl rfl ?_); refine aD ?_; exact rfl
 ·exact rfl
 ·exact rfl
 apply aN (s := 26) rfl rfl rfl
 ·intro hg; apply aM (s := 28) rfl (by (rw [hg]; rfl)); apply aQ; (refine cC rfl rfl rfl ?_); refine aD ?_; exact rfl
 ·exact rfl
 ·exact rfl
 apply aN (s := 26) rfl rfl rfl
 ·intro hg; apply aM (s := 29) rfl (by (rw [hg]; rfl)); apply aQ; (refine ak rfl rfl rfl ?_); refine aD ?_; exact rfl
 ·exact rfl
 ·exact rfl
 refine oB rfl rfl (kV rfl ?_)
 apply aN (s := 32) rfl rfl rfl
 ·intro hg; apply aQ; (refine aP rfl rfl rfl rfl rfl (by decide) ?_); refine aD ?_; exact rfl
 ·exact rfl
 ·exact rfl
 apply aN (s := 32) rfl rfl rfl
 ·intro hg; apply aM (s := 33) rfl (by (rw [hg]; rfl)); apply aQ; (refine aK rfl rfl rfl rfl ?_); refine aD ?_; exact rfl
 ·exact rfl
 ·exact rfl
 apply aN (s := 32) rfl rfl rfl
 ·intro hg; apply aQ; (refine cw rfl ?_); refine aD ?_; exact rfl
 ·exact rfl
 ·exact rfl
 apply aN (s := 32) rfl rfl rfl
 ·intro hg; apply aM (s := 34) rfl (by (rw [hg]; rfl)); apply aM (s := 35) rfl (by (rw [hg]; rfl)); apply aQ; (refine aq (rB f.bins (Ty.j9 _ [Ty.pp (cv f)]) rfl (fun b => decide ((b.shares.length : Int) = f.bears.length)) rfl rfl fun b _ => cY (LP f b) rfl rfl rfl rfl rfl rfl) rfl rfl rfl rfl rfl ?_); refine aD ?_; exact rfl
 ·exact rfl
 ·exact rfl
 apply aN (s := 32) rfl rfl rfl
 ·intro hg; apply aM (s := 36) rfl (by (rw [hg]; rfl)); apply aQ; (refine ct rfl ?_); refine aD ?_; exact rfl
 ·exact rfl
 ·exact rfl
 refine oB rfl rfl (dG rfl (aD (aC ?_)))
 refine c9 rfl (fun hc1 => ?_) (fun hc1 => ?_)
 ·refine aF (aA (b9 rfl (aD (aC (av (au (aW (bK rfl rfl ?_))))))))
  all_goals skip
  exact bE rfl rfl (congrArg (Ty.int .i64) (by rw [ia, if_pos (show k6 f = true from hc1)]))
 refine aF (aA ?_)
 refine aP rfl rfl rfl rfl rfl (by decide) ?_
 refine aK rfl rfl rfl rfl ?_
 refine aq (kJ f.bears (Ty.j9 _ []) rfl (fun n => fE n 0 4000) rfl rfl fun n _ => cY (Nt n) rfl rfl rfl rfl rfl rfl) rfl rfl rfl rfl rfl ?_
 refine ct rfl (kV rfl ?_)
 apply aN (s := 44) rfl rfl rfl
 ·intro hg; apply aQ; (refine aP rfl rfl rfl rfl rfl (by decide) ?_); refine aD ?_; exact rfl
 ·exact rfl
 ·exact rfl
 apply aN (s := 44) rfl rfl rfl
 ·intro hg; apply aM (s := 45) rfl (by (rw [hg]; rfl)); apply aQ; (refine aK rfl rfl rfl rfl ?_); refine aD ?_; exact rfl
 ·exact rfl
 ·exact rfl
 apply aN (s := 44) rfl rfl rfl
 ·intro hg; apply aM (s := 46) rfl (by (rw [hg]; rfl)); apply aQ; (refine aq (sI f.turnings (Ty.j9 _ []) rfl (fun t => fE t.sacks 1 300) rfl rfl fun t _ => cY (Oc t) rfl rfl rfl rfl rfl rfl) rfl rfl rfl rfl rfl ?_); refine aD ?_; exact rfl
 ·exact rfl
 ·exact rfl
 apply aN (s := 44) rfl rfl rfl
 ·intro hg; apply aM (s := 47) rfl (by (rw [hg]; rfl)); apply aQ; (refine ct rfl ?_); refine aD ?_; exact rfl
 ·exact rfl
 ·exact rfl
 refine oB rfl rfl (dG rfl (aD (aC ?_)))
 refine c9 rfl (fun hc2 => ?_) (fun hc2 => ?_)
 ·refine aF (aA (b9 rfl (aD (aC (av (au (aW (bK rfl rfl ?_))))))))
  all_goals skip
  exact bE rfl rfl (congrArg (Ty.int .i64) (by rw [ia, if_neg (wW (show k6 f = false from hc1)), if_pos (show mH f = true from hc2)]))
 refine aF (aA ?_)
 refine aP rfl rfl rfl rfl rfl (by decide) ?_
 refine aK rfl rfl rfl rfl ?_
 refine aq (rB f.bins (Ty.j9 _ []) rfl (fun b => fE b.has 0 300 && b.shares.all fun n => fE n 0 4) rfl rfl fun b _ => cY (ON b) rfl rfl rfl rfl rfl rfl) rfl rfl rfl rfl rfl ?_
 refine ct rfl (dG rfl (aD (aC ?_)))
 refine c9 rfl (fun hc3 => ?_) (fun hc3 => ?_)
 ·refine aF (aA (b9 rfl (aD (aC (av (au (aW (bK rfl rfl ?_))))))))
  all_goals skip
  exact bE rfl rfl (congrArg (Ty.int .i64) (by rw [ia, if_neg (wW (show k6 f = false from hc1)), if_neg (wW (show mH f = false from hc2)), if_pos (show nX f = true from hc3)]))
 refine aF (aA ?_)
 refine aP rfl rfl rfl rfl rfl (by decide) ?_
 refine aK rfl rfl rfl rfl (cw rfl ?_)
 refine aq (sI f.turnings (Ty.j9 _ [Ty.pp (cv f)]) rfl (fun t => fE t.src (-1) (f.bins.length - 1) && fE t.dst (-1) (f.bins.length - 1)) rfl rfl fun t _ => cY (Po f hs t) rfl rfl rfl rfl rfl rfl) rfl rfl rfl rfl rfl ?_
 refine ct rfl (kV rfl ?_)
 apply aN (s := 61) rfl rfl rfl
 ·intro hg; apply aQ; (refine aP rfl rfl rfl rfl rfl (by decide) ?_); refine aD ?_; exact rfl
 ·exact rfl
 ·exact rfl
 apply aN (s := 61) rfl rfl rfl
 ·intro hg; apply aM (s := 62) rfl (by (rw [hg]; rfl)); apply aQ; (refine aK rfl rfl rfl rfl ?_); refine aD ?_; exact rfl
 ·exact rfl
 ·exact rfl
 apply aN (s := 61) rfl rfl rfl
 ·intro hg; apply aQ; (refine cw rfl ?_); refine aD ?_; exact rfl
 ·exact rfl
 ·exact rfl
 apply aN (s := 61) rfl rfl rfl
 ·intro hg; apply aM (s := 63) rfl (by (rw [hg]; rfl)); apply aM (s := 64) rfl (by (rw [hg]; rfl)); apply aQ; (refine aq (GM f.rules (Ty.j9 _ [Ty.pp [Ty.NB 96 [iS f]]]) rfl (fun r => fE r.fst 0 (f.turnings.length - 1) && fE r.nxt 0 (f.turnings.length - 1)) rfl rfl fun r _ => cY (Pg f hs r) rfl rfl rfl rfl rfl rfl) rfl rfl rfl rfl rfl ?_); refine aD ?_; exact rfl
 ·exact rfl
 ·exact rfl
 apply aN (s := 61) rfl rfl rfl
 ·intro hg; apply aM (s := 65) rfl (by (rw [hg]; rfl)); apply aQ; (refine ct rfl ?_); refine aD ?_; exact rfl
 ·exact rfl
 ·exact rfl
 refine oB rfl rfl (dG rfl (aD (aC ?_)))
 refine c9 rfl (fun hc4 => ?_) (fun hc4 => ?_)
 ·refine aF (aA (b9 rfl (aD (aC (av (au (aW (bK rfl rfl ?_))))))))
  all_goals skip
  exact bE rfl rfl (congrArg (Ty.int .i64) (by rw [ia, if_neg (wW (show k6 f = false from hc1)), if_neg (wW (show mH f = false from hc2)), if_neg (wW (show nX f = false from hc3)), if_pos (show qH f = true from hc4)]))
 refine aF (aA ?_)
 refine aP rfl rfl rfl rfl rfl (by decide) ?_
 refine aK rfl rfl rfl rfl ?_
 refine aq (sI f.turnings (Ty.j9 _ []) rfl (fun t => !decide (t.src = t.dst)) rfl rfl fun t _ => cY (Ow t) rfl rfl rfl rfl rfl rfl) rfl rfl rfl rfl rfl ?_
 refine ct rfl (dG rfl (aD (aC ?_)))
 refine c9 rfl (fun hc5 => ?_) (fun hc5 => ?_)
 ·refine aF (aA (b9 rfl (aD (aC (av (au (aW (bK rfl rfl ?_))))))))
  all_goals skip
  exact bE rfl rfl (congrArg (Ty.int .i64) (by rw [ia, if_neg (wW (show k6 f = false from hc1)), if_neg (wW (show mH f = false from hc2)), if_neg (wW (show nX f = false from hc3)), if_neg (wW (show qH f = false from hc4)), if_pos (show uq f = true from hc5)]))
 refine aF ?_
 have hr : f.iy := vE hc1 hc2 hc3
 have hr4 := hr.bears
 refine aA ?_
 refine aP rfl rfl rfl rfl rfl (by decide) ?_
 refine aK rfl rfl rfl rfl ?_
 refine aq (rB f.bins (Ty.j9 _ []) rfl (fun b => decide (b.shares.sum = 4)) rfl rfl fun b hb => cY (PJ b (by have := hr.shares b hb; omega) (fun n hn => by have := hr.sharesR b hb n hn; omega)) rfl rfl rfl rfl rfl rfl) rfl rfl rfl rfl rfl ?_
 refine ct rfl (dG rfl (aD (aC ?_)))
 refine c9 rfl (fun hc6 => ?_) (fun hc6 => ?_)
 ·refine aF (aA (b9 rfl (aD (aC (av (au (aW (bK rfl rfl ?_))))))))
  all_goals skip
  exact bE rfl rfl (congrArg (Ty.int .i64) (by rw [ia, if_neg (wW (show k6 f = false from hc1)), if_neg (wW (show mH f = false from hc2)), if_neg (wW (show nX f = false from hc3)), if_neg (wW (show qH f = false from hc4)), if_neg (wW (show uq f = false from hc5)), if_pos (show r6 f = true from hc6)]))
 refine bA (bH (aC (aF (aF (aA ?_)))))
 refine aP rfl rfl rfl rfl rfl (by decide) ?_
 refine aK rfl rfl rfl rfl (cC rfl rfl rfl (bF rfl (aD (aC (af ?_)))))
 refine cK (fun (k : {k : Nat // ∀ j, j < k → decide (gu f f.turnings j > (nth f.bins j).has) = false}) => live [(1, Ty.pp (cv f)), (79, Ty.sl jX f.bins), (80, Ty.int .i64 f.bins.length), (81, Ty.int .i64 (k.1 : Nat))] []) (fun k => f.bins.length - k.1) (⟨0, fun j hj => absurd hj (Nat.not_lt_zero _)⟩) ?_ fun k => ?_
 ·(refine c8.mk' ?_ ?_ <;> (repeat' (first | exact aI | exact aH | refine aB ?_ (Ty.aR _) | refine aB ?_ (Ty.aG _))))
 refine aF (aA (ak rfl rfl rfl (aD (aC (aF ?_)))))
 refine aa rfl (fun hc7 => ?_) (fun hc7 => ?_)
 ·refine bA (aC (aF (af (aF (aA (bF rfl ?_))))))
  refine bG rfl rfl rfl rfl rfl rfl (by omega) ?_
  refine ay rfl rfl rfl (by exact Nat.le_of_ble_eq_true rfl) ?_
  refine dB rfl (by exact List.cons_ne_nil _ _) rfl ?_
  refine b9 rfl ?_
  refine eG rfl rfl (by decide) rfl rfl rfl rfl rfl rfl ?_
  refine aD (aC (aF (cg mixed rfl ?_)))
  refine ay rfl rfl rfl (by exact Nat.le_of_ble_eq_true rfl) ?_
  refine bF rfl (aq (OM f hs hr _) rfl rfl rfl rfl rfl ?_)
  refine aS rfl rfl rfl rfl rfl (by decide) ?_
  refine aj rfl rfl (by decide) rfl rfl rfl ?_
  refine ak rfl rfl rfl (aD ?_)
  refine ⟨by kernel_rfl, ?_⟩
  refine aC ?_
  refine aa rfl (fun hc8 => ?_) (fun hc8 => ?_)
  ·refine aF (aA (b9 rfl (aD (aC (av (au (aW (aW (au (aW (bK rfl rfl ?_)))))))))))
   all_goals skip
   exact bE rfl rfl (congrArg (Ty.int .i64) (by rw [ia, if_neg (wW (show k6 f = false from hc1)), if_neg (wW (show mH f = false from hc2)), if_neg (wW (show nX f = false from hc3)), if_neg (wW (show qH f = false from hc4)), if_neg (wW (show uq f = false from hc5)), if_neg (wW (show r6 f = false from hc6)), if_pos (show wo f = true from HS (k := k.1) (by omega) (by rw [Int.toNat_natCast]; exact decide_eq_true hc8))]))
  refine bA (bH (aC (aA ?_)))
  refine bz rfl rfl (by omega) (by omega) ?_
  refine bF rfl (aD ?_)
  refine bO (⟨k.1 + 1, Sn k.2 (decide_eq_false hc8)⟩) ?_ (by show f.bins.length - (k.1 + 1) < f.bins.length - k.1; omega)
  (refine c8.mk' ?_ ?_ <;> (repeat' (first | exact aI | exact aH | refine aB ?_ (Ty.aR _) | refine aB ?_ (Ty.aG _))))
  all_goals skip
 refine cF (aL (aL (ah rfl (aC (aF (aA (b9 rfl (aD (aC (av (bK rfl rfl ?_)))))))))))
 all_goals skip
 exact bE rfl rfl (congrArg (Ty.int .i64) (by rw [ia, if_neg (wW (show k6 f = false from hc1)), if_neg (wW (show mH f = false from hc2)), if_neg (wW (show nX f = false from hc3)), if_neg (wW (show qH f = false from hc4)), if_neg (wW (show uq f = false from hc5)), if_neg (wW (show r6 f = false from hc6)), if_neg (wW (show wo f = false from FU fun j hj => by rw [Int.toNat_natCast]; exact k.2 j (by omega)))]))
end Go.Proofs.YtmmcenjknimhbaaGreat
namespace Go.Proofs.YtmmcenjknimhbaaGreat
open Go Go.T Go.RowKit
theorem Sj : Tryz.prog.underlying 157 = some (.array 8 3) := by kernel_rfl
theorem TR (a0 a1 a2 a3 a4 a5 a6 a7 b0 b1 b2 b3 b4 b5 b6 b7 : Int) (w : World) : (Op.equal 157 (.agg #[.int .i64 a0, .int .i64 a1, .int .i64 a2, .int .i64 a3, .int .i64 a4, .int .i64 a5, .int .i64 a6, .int .i64 a7]) (.agg #[.int .i64 b0, .int .i64 b1, .int .i64 b2, .int .i64 b3, .int .i64 b4, .int .i64 b5, .int .i64 b6, .int .i64 b7])).run Tryz.prog w = .ok ((decide (a0 = b0) && (decide (a1 = b1) && (decide (a2 = b2) && (decide (a3 = b3) && (decide (a4 = b4) && (decide (a5 = b5) && (decide (a6 = b6) && decide (a7 = b7))))))))) w := by
 have hs : Tryz.prog.stoodInHeld 157 = false := by kernel_rfl
 have e3 : ∀ (x y : Int) (w : World), (Op.equalIn 9999 3 (.int .i64 x) (.int .i64 y)).run Tryz.prog w = .ok (decide (x = y)) w := fun x y w => OT 9998 Tryz.underlying3
 have g3 : ∀ w, (isAgg 3).run Tryz.prog w = .ok false w := fun w => by simp [isAgg, run_underlying Tryz.underlying3]
 unfold Op.equal Op.maxDepth
 rw [Op.equalIn]
 simp only [Sem.run_bind, run_underlying Sj, Result.andThen_ok]
 simp [hs, part, g3, e3]
 rw [show List.range' 0 8 = [0, 1, 2, 3, 4, 5, 6, 7] from rfl]
 simp [List.forIn_cons, g3, e3]
 by_cases h0 : a0 = b0
 case neg => simp [h0]
 rw [if_pos h0]
 by_cases h1 : a1 = b1
 case neg => simp [h1]
 rw [if_pos h1]
 by_cases h2 : a2 = b2
 case neg => simp [h2]
 rw [if_pos h2]
 by_cases h3 : a3 = b3
 case neg => simp [h3]
 rw [if_pos h3]
 by_cases h4 : a4 = b4
 case neg => simp [h4]
 rw [if_pos h4]
 by_cases h5 : a5 = b5
 case neg => simp [h5]
 rw [if_pos h5]
 by_cases h6 : a6 = b6
 case neg => simp [h6]
 rw [if_pos h6]
 by_cases h7 : a7 = b7
 case neg => simp [h7]
 rw [if_pos h7]
 simp [h0, h1, h2, h3, h4, h5, h6, h7]
theorem TF (xs ys : List Nat) (hx : xs.length = 8) (hy : ys.length = 8) : VX Tryz.prog 157 (xs.flatMap zA.tys) (ys.flatMap zA.tys) (decide (xs = ys)) := by
  match xs, hx with
  | [a0, a1, a2, a3, a4, a5, a6, a7], _ =>
    match ys, hy with
    | [b0, b1, b2, b3, b4, b5, b6, b7], _ =>
      refine ⟨by kernel_rfl, fun w M cs ds h1 h2 => ?_⟩
      obtain ⟨cs⟩ := cs
      obtain ⟨ds⟩ := ds
      match cs, ds, h1, h2 with
      | [ua0, ua1, ua2, ua3, ua4, ua5, ua6, ua7], [vb0, vb1, vb2, vb3, vb4, vb5, vb6, vb7], h1, h2 =>
        change cD w M [Ty.int .i64 a0, Ty.int .i64 a1, Ty.int .i64 a2, Ty.int .i64 a3, Ty.int .i64 a4, Ty.int .i64 a5, Ty.int .i64 a6, Ty.int .i64 a7] _ at h1
        change cD w M [Ty.int .i64 b0, Ty.int .i64 b1, Ty.int .i64 b2, Ty.int .i64 b3, Ty.int .i64 b4, Ty.int .i64 b5, Ty.int .i64 b6, Ty.int .i64 b7] _ at h2
        simp only [cD, Ty.int, eH, and_true] at h1 h2
        obtain ⟨rfl, rfl, rfl, rfl, rfl, rfl, rfl, rfl⟩ := h1
        obtain ⟨rfl, rfl, rfl, rfl, rfl, rfl, rfl, rfl⟩ := h2
        rw [TR]
        congr 1
        simp only [List.cons.injEq, and_true, Bool.decide_and, Int.natCast_inj]
end Go.Proofs.YtmmcenjknimhbaaGreat
namespace Go.Proofs.YtmmcenjknimhbaaGreat
open Go Go.T
attribute [local irreducible] eH cZ jR j7 eP eO eK eS eJ j8 eN j4 b8 dc j0 dZ j5 nth eZ cU aV cX bodyPost Exit.then Exit.inBlock Code.wp Code.wpIn dU m7 mo m6 fT mw m0 fV mY eB fO lu bW bV bodyPostM cV
set_option maxRecDepth 100000 in
theorem Kc (f : bS) (hs : f.Small) (hf : f.jQ) : cX Tryz.prog 112 [iS f] (Ty.arr zA (gm f)) := by
 refine aY Tryz.func112 rfl (by decide) Tryz.ntmps112 (by exact Nat.le_of_ble_eq_true rfl) fun w0 M0 => ?_
 have hs1 := hs.bears; have hs2 := hs.bins; have hs3 := hs.turnings; have hs4 := hs.rules
 refine aF (aA (bC rfl ?_))
 refine dB rfl (by exact List.cons_ne_nil _ _) rfl ?_
 refine aD (aC (aF (aA ?_)))
 refine Br (E := zA) (xs := List.replicate 8 0) rfl (by exact List.cons_ne_nil _ _) rfl rfl ?_
 refine aD (aC (af ?_))
 refine cK (fun (x : {x : Nat × List Nat // mR f x.1 x.2 = gm f ∧ Sets x.2 ∧ 2040 < x.1 + x.2.sum}) => live [(1, Ty.pp (cv f)), (2, Ty.ptr 3 0), (3, Ty.ptr 4 0)] [(3, Cont.cells 157 [Ty.int .i64 0, Ty.int .i64 0, Ty.int .i64 0, Ty.int .i64 0, Ty.int .i64 0, Ty.int .i64 0, Ty.int .i64 0, Ty.int .i64 0]), (4, Cont.vec zA 157 x.1.2)]) (fun x => x.1.1) (⟨(2041, List.replicate 8 0), rfl, ue, by decide⟩) ?_ fun x => ?_
 ·(refine c8.mk' ?_ ?_ <;> (repeat' (first | exact aI | exact aH | refine aB ?_ (Ty.aR _) | refine aB ?_ (Ty.aG _) | refine aJ rfl (Cont.aG _) ?_)))
 obtain ⟨hx1, hx2, hx3⟩ := x.2
 have hxl := hx2.len
 refine af (aF (aA ?_))
 refine l8 rfl rfl (by decide) rfl rfl (by rw [hxl]; rfl) (fun e => by rw [e] at hxl; cases hxl) ?_
 refine dB rfl (by exact List.cons_ne_nil _ _) rfl ?_
 refine jr rfl rfl (by decide) rfl rfl (by rw [hxl]; rfl) rfl ?_
 refine aD (aC (aF (aF (aA ?_))))
 refine aP rfl rfl rfl rfl rfl (by decide) ?_
 refine aK rfl rfl rfl rfl (cC rfl rfl rfl (bF rfl (aD (aC (af ?_)))))
 refine cK (fun (k : Nat) => live [(1, Ty.pp (cv f)), (2, Ty.ptr 3 0), (3, Ty.ptr 4 0), (4, Ty.ptr 5 0), (9, Ty.sl jf f.rules), (10, Ty.int .i64 f.rules.length), (11, Ty.int .i64 (k : Nat))] [(3, Cont.cells 157 [Ty.int .i64 0, Ty.int .i64 0, Ty.int .i64 0, Ty.int .i64 0, Ty.int .i64 0, Ty.int .i64 0, Ty.int .i64 0, Ty.int .i64 0]), (4, Cont.vec zA 157 ((f.rules.take k).foldl fM x.1.2)), (5, Cont.vec zA 157 x.1.2)]) (fun k => f.rules.length - k) (0) ?_ fun k => ?_
 ·(refine c8.mk' ?_ ?_ <;> (repeat' (first | exact aI | exact aH | refine aB ?_ (Ty.aR _) | refine aB ?_ (Ty.aG _) | refine aJ rfl (Cont.aG _) ?_)))
 refine aF (aA (ak rfl rfl rfl (aD (aC (aF ?_)))))
 refine aa rfl (fun hc1 => ?_) (fun hc1 => ?_)
 ·refine bA (aC (aF (af (aF (aA ?_)))))
  refine bG rfl rfl rfl rfl rfl rfl (by omega) ?_
  refine ay rfl rfl rfl (by exact Nat.le_of_ble_eq_true rfl) ?_
  refine dB rfl (by exact List.cons_ne_nil _ _) rfl ?_
  refine eG rfl rfl (by decide) rfl rfl rfl rfl rfl rfl ?_
  refine aD (aC ?_)
  have hrk := hf.2 _ (bL (xs := f.rules) (k := k) (by omega))
  have h8 := hf.1
  have hsk := (nE (f.rules.take k) x.1.2 hx2 fun r hr => uT hf r (List.mem_of_mem_take hr)).1
  have hlk := hsk.len
  have hb1 := hsk.nth (nth f.rules k).nxt.toNat
  have hb2 := hsk.nth (nth f.rules k).fst.toNat
  have hsh : 1 <<< (nth f.rules k).fst.toNat < 256 := by rw [Nat.shiftLeft_eq, Nat.one_mul]; exact (Nat.pow_lt_pow_right (by decide) (show (nth f.rules k).fst.toNat < 8 by omega) : 2 ^ _ < 2 ^ 8)
  have hor : nth ((f.rules.take k).foldl fM x.1.2) (nth f.rules k).fst.toNat ||| 1 <<< (nth f.rules k).fst.toNat < 256 := Nat.or_lt_two_pow (n := 8) hb2 hsh
  refine cg mixed rfl ?_
  refine aS rfl rfl rfl rfl rfl (by decide) ?_
  refine aj rfl rfl (by decide) rfl rfl rfl ?_
  refine fU (n := 8) rfl rfl rfl rfl rfl (by omega) (by omega) ?_
  refine fZ rfl rfl rfl (by decide) rfl rfl (by omega) rfl ?_
  refine aS rfl rfl rfl rfl rfl (by decide) ?_
  refine aj rfl rfl (by decide) rfl rfl rfl ?_
  refine fU (n := 8) rfl rfl rfl rfl rfl (by omega) (by omega) ?_
  refine fZ rfl rfl rfl (by decide) rfl rfl (by omega) rfl ?_
  refine aS rfl rfl rfl rfl rfl (by decide) ?_
  refine aj rfl rfl (by decide) rfl rfl rfl ?_
  refine E8 (a := 1) rfl rfl (by omega) (by omega) (lQ (by omega)) ?_
  refine wG rfl rfl (by omega) (Nat.lt_trans hsh (by decide)) ?_
  refine wG rfl rfl (by omega) (Nat.lt_trans hor (by decide)) ?_
  refine fU (n := 8) rfl rfl rfl rfl rfl (by omega) (by omega) ?_
  refine jH (z := nth ((f.rules.take k).foldl fM x.1.2) (nth f.rules k).nxt.toNat ||| (nth ((f.rules.take k).foldl fM x.1.2) (nth f.rules k).fst.toNat ||| 1 <<< (nth f.rules k).fst.toNat)) rfl rfl rfl (by decide) rfl rfl (by exact (rfl : _ = Ty.int _ _)) rfl (by omega) (by decide) rfl rfl ?_
  refine aD ?_
  refine ⟨by kernel_rfl, ?_⟩
  refine bH (aC (aA ?_))
  refine bz rfl rfl (by omega) (by omega) ?_
  refine bF rfl (aD ?_)
  refine bO (k + 1) ?_ (by omega)
  (refine c8.mk' ?_ ?_ <;> (repeat' (first | exact aI | exact aH | refine aB ?_ (Ty.aR _) | refine aB ?_ (Ty.aG _) | refine aJ rfl (Cont.aG _) ?_ | refine aJ rfl ?_ ?_)))
  all_goals skip
  exact Cont.dF (by rw [bh (by omega), List.foldl_append]; rfl)
 refine cF (aL (aL (ah rfl (aC (aF ?_)))))
 have hsk := (nE (f.rules.take k) x.1.2 hx2 fun r hr => uT hf r (List.mem_of_mem_take hr)).1
 have hlk := hsk.len
 refine aA ?_
 refine l8 rfl rfl (by decide) rfl rfl (by rw [hlk]; rfl) (fun e => by rw [e] at hlk; cases hlk) ?_
 refine l8 rfl rfl (by decide) rfl rfl (by rw [hxl]; rfl) (fun e => by rw [e] at hxl; cases hxl) ?_
 refine S3 (TF _ _ hlk hxl) rfl rfl (aD (aC ?_))
 refine aa rfl (fun hc2 => ?_) (fun hc2 => ?_)
 ·refine aF (aA ?_)
  refine l8 rfl rfl (by decide) rfl rfl (by rw [hlk]; rfl) (fun e => by rw [e] at hlk; cases hlk) ?_
  refine jr rfl rfl (by decide) rfl rfl (by rw [hlk]; rfl) rfl ?_
  refine aD (aC (av (au (aW (au ?_)))))
  refine yA (hc2.trans ((N5 hx2 hx3 (by have h := hc2; rw [List.take_of_length_le (by omega)] at h; exact h)).symm.trans hx1)) rfl rfl rfl rfl (by decide) rfl rfl (by rw [hlk]; rfl) (fun e => by rw [e] at hlk; cases hlk)
 refine bA (bH ?_)
 refine bO (⟨(x.1.1 - 1, mE f x.1.2), by obtain ⟨m, e1, e2, e3, e4⟩ := Dh hf hx2 hx3 (fun e => hc2 (by rw [List.take_of_length_le (by omega)]; exact e)); exact ⟨by show mR f (x.1.1 - 1) _ = _; rw [show x.1.1 - 1 = m by omega, ← e2]; exact hx1, e3, by show 2040 < x.1.1 - 1 + (mE f x.1.2).sum; omega⟩⟩) ?_ (by show x.1.1 - 1 < x.1.1; have := vK hx2; omega)
 (refine c8.mk' ?_ ?_ <;> (repeat' (first | exact aI | exact aH | refine aB ?_ (Ty.aR _) | refine aB ?_ (Ty.aG _) | refine aJ rfl (Cont.aG _) ?_ | refine aJ rfl ?_ ?_)))
 all_goals skip
 exact Cont.dF (congrArg (fun l => l.foldl fM x.1.2) (List.take_of_length_le (by omega)))
end Go.Proofs.YtmmcenjknimhbaaGreat
namespace Go.Proofs.YtmmcenjknimhbaaGreat
open Go Go.T
attribute [local irreducible] eH cZ jR j7 eP eO eK eS eJ j8 eN j4 b8 dc j0 dZ j5 nth eZ cU aV cX bodyPost Exit.then Exit.inBlock Code.wp Code.wpIn dU m7 mo m6 fT mw m0 fV mY eB fO lu bW bV bodyPostM cV
set_option maxRecDepth 100000 in
theorem AO (f : bS) (hs : f.Small) : cX Tryz.prog 111 [iS f] (Ty.int .i64 (bk f)) := by
 refine aY Tryz.func111 rfl (by decide) Tryz.ntmps111 (by exact Nat.le_of_ble_eq_true rfl) fun w0 M0 => ?_
 have hs1 := hs.bears; have hs2 := hs.bins; have hs3 := hs.turnings; have hs4 := hs.rules
 refine aF (aA (bC rfl (b9 rfl (aD (aC (aF (aF (aA ?_))))))))
 refine ay rfl rfl rfl (by exact Nat.le_of_ble_eq_true rfl) ?_
 refine aq (N1 f hs) rfl rfl rfl rfl rfl (b9 rfl (aD (aC (aF (aA (bF rfl (ak rfl rfl rfl (aD (aC ?_)))))))))
 refine ck rfl (fun hc1 => ?_) (fun hc1 => ?_)
 ·refine aF (aA (bF rfl (b9 rfl (aD (aC (av (aW (bK rfl rfl ?_))))))))
  all_goals skip
  exact bE rfl rfl (congrArg (Ty.int .i64) (by rw [bk, if_pos hc1]))
 refine bA (aC (aF (aF ?_)))
 have h0 : ia f = 0 := hc1
 have hf := (qw h0).ruled
 have hsa := k8 hf
 have hla := hsa.len
 refine aA ?_
 refine ay rfl rfl rfl (by exact Nat.le_of_ble_eq_true rfl) ?_
 refine aq (Kc f hs hf) rfl rfl rfl rfl rfl (bF rfl (aD (aC (af ?_))))
 refine cK (fun (k : {k : Nat // k ≤ 8 ∧ ∀ j, j < k → (nth (gm f) j).testBit j = false}) => live [(12, Ty.arr zA (gm f)), (13, Ty.int .i64 (k.1 : Nat))] []) (fun k => 8 - k.1) (⟨0, by omega, fun j hj => absurd hj (Nat.not_lt_zero _)⟩) ?_ fun k => ?_
 ·(refine c8.mk' ?_ ?_ <;> (repeat' (first | exact aI | exact aH | refine aB ?_ (Ty.aR _) | refine aB ?_ (Ty.aG _))))
 have hk := k.2.1
 refine aF (aA (ak rfl rfl rfl (aD (aC (aF ?_)))))
 refine aa rfl (fun hc2 => ?_) (fun hc2 => ?_)
 ·refine bA (aC (aF (af (aF ?_))))
  have hnk := hsa.nth k.1
  refine aA (bF rfl ?_)
  refine Nn (n := 8) rfl rfl rfl rfl rfl rfl rfl (by omega) (by omega) rfl ?_
  refine b9 rfl (b9 rfl (aD (aC (aF ?_))))
  have hsh := Nat.shiftRight_le (nth (gm f) k.1) k.1
  refine aA (bF rfl (bF rfl ?_))
  refine uy rfl rfl (by omega) ?_
  refine wq (b := 1) rfl rfl (by omega) (by omega) ?_
  refine ak rfl rfl rfl (aD (aC ?_))
  refine aa rfl (fun hc3 => ?_) (fun hc3 => ?_)
  ·refine aF (aA (b9 rfl (aD (aC (av (au (aW (aW (au (aW (bK rfl rfl ?_)))))))))))
   all_goals skip
   exact bE rfl rfl (congrArg (Ty.int .i64) (by rw [bk, if_neg (fun h => h h0), if_pos]; exact List.any_eq_true.2 ⟨k.1, List.mem_range.2 (by omega), (iQ _ _).1 (by omega)⟩))
  refine bA (bH (aC (aA ?_)))
  refine bz rfl rfl (by omega) (by omega) ?_
  refine bF rfl (aD ?_)
  refine bO (⟨k.1 + 1, by omega, fun j hj => (Nat.lt_or_ge j k.1).elim (k.2.2 j) fun h => by rw [show j = k.1 by omega]; exact Bool.eq_false_iff.2 fun h1 => hc3 (by have := (iQ (nth (gm f) k.1) k.1).2 h1; omega)⟩) ?_ (by show 8 - (k.1 + 1) < 8 - k.1; have := k.2.1; omega)
  (refine c8.mk' ?_ ?_ <;> (repeat' (first | exact aI | exact aH | refine aB ?_ (Ty.aR _) | refine aB ?_ (Ty.aG _))))
  all_goals skip
 refine cF (aL (aL (ah rfl (aC (aF (aA (b9 rfl (aD (aC (av (bK rfl rfl ?_)))))))))))
 all_goals skip
 exact bE rfl rfl (congrArg (Ty.int .i64) (by rw [bk, if_neg (fun h => h h0), if_neg]; intro hb; obtain ⟨j, hj, hb⟩ := List.any_eq_true.1 hb; have := List.mem_range.1 hj; rw [k.2.2 j (by omega)] at hb; cases hb))
set_option maxRecDepth 100000 in
theorem Hw (f : bS) (hs : f.Small) (b : Bool) (he : bk f ≠ 0) : cX Tryz.prog 54 [iS f, Ty.bool b] (Ty.s8 [Ty.ex (.pointer none), Ty.int .i64 (bk f)]) := by
 refine aY Tryz.func54 rfl (by decide) Tryz.ntmps54 (by exact Nat.le_of_ble_eq_true rfl) fun w0 M0 => ?_
 have hs1 := hs.bears; have hs2 := hs.bins; have hs3 := hs.turnings; have hs4 := hs.rules
 refine aF (aA (bC rfl (mP rfl (b9 rfl (aD (aC (aF (aF (aA ?_)))))))))
 refine ay rfl rfl rfl (by exact Nat.le_of_ble_eq_true rfl) ?_
 refine aq (AO f hs) rfl rfl rfl rfl rfl (b9 rfl (aD (aC (aF (aA (bF rfl (ak rfl rfl rfl (aD (aC ?_)))))))))
 refine xT rfl (by rw [decide_eq_false he]; rfl) ?_
 refine aF (aA (bF rfl (mP rfl (b9 rfl (aD (aC (av (aW ?_))))))))
 refine iB rfl rfl rfl ?_ ?_
 all_goals exact bN rfl rfl
 skip
set_option maxRecDepth 100000 in
theorem Jc (f : bS) (hs : f.Small) (h0 : bk f = 0) : cX Tryz.prog 54 [iS f, Ty.bool true] (Ty.s8 [Ty.ex (.pointer none), Ty.int .i64 1]) := by
 refine aY Tryz.func54 rfl (by decide) Tryz.ntmps54 (by exact Nat.le_of_ble_eq_true rfl) fun w0 M0 => ?_
 have hs1 := hs.bears; have hs2 := hs.bins; have hs3 := hs.turnings; have hs4 := hs.rules
 refine aF (aA (bC rfl (mP rfl (b9 rfl (aD (aC (aF (aF (aA ?_)))))))))
 refine ay rfl rfl rfl (by exact Nat.le_of_ble_eq_true rfl) ?_
 refine aq (AO f hs) rfl rfl rfl rfl rfl (b9 rfl (aD (aC (aF (aA (bF rfl (ak rfl rfl rfl (aD (aC ?_)))))))))
 refine iP rfl (by rw [h0]; rfl) ?_
 refine bA (aC (aF (aF (aA (kV rfl (aD (aC (xT rfl (rfl) (aF (aA (mP rfl (b9 rfl (aD (aC (av ?_)))))))))))))))
 refine aW ?_
 refine iB rfl rfl rfl ?_ ?_
 all_goals exact bN rfl rfl
set_option maxRecDepth 100000 in
theorem Oy (f : bS) (hs : f.Small) (h0 : bk f = 0) : cX Tryz.prog 54 [iS f, Ty.bool false] (Ty.s8 [Ty.pe fF (U0 f (cB h0).ruled) 0, Ty.int .i64 0]) := by
 refine aY Tryz.func54 rfl (by decide) Tryz.ntmps54 (by exact Nat.le_of_ble_eq_true rfl) fun w0 M0 => ?_
 have hs1 := hs.bears; have hs2 := hs.bins; have hs3 := hs.turnings; have hs4 := hs.rules
 have hr := (cB h0).ranged
 have hn := (cB h0).named
 have hf := (cB h0).ruled
 have hb4 := hr.bears
 have hr8 := hr.turnings
 have hr6 := hr.bins
 refine aF (aA (bC rfl (mP rfl (b9 rfl (aD (aC (aF (aF (aA ?_)))))))))
 refine ay rfl rfl rfl (by exact Nat.le_of_ble_eq_true rfl) ?_
 refine aq (AO f hs) rfl rfl rfl rfl rfl (b9 rfl (aD (aC (aF (aA (bF rfl (ak rfl rfl rfl (aD (aC ?_)))))))))
 refine iP rfl (by rw [h0]; rfl) ?_
 refine bA (aC (aF (aF (aA (kV rfl (aD (aC (iP rfl (rfl) (bA (aC (aF (cg mixed rfl ?_))))))))))))
 refine ay rfl rfl rfl (by exact Nat.le_of_ble_eq_true rfl) ?_
 refine ay rfl rfl rfl (by exact Nat.le_of_ble_eq_true rfl) ?_
 refine aq (Kc f hs hf) rfl rfl rfl rfl rfl ?_
 refine Ns fF (FT f hf 0 0 0) rfl rfl (by exact List.cons_ne_nil _ _) rfl (by repeat (first | exact (aT.nil : aT _ _ [] _) | (show aT _ _ ((_, _) :: _) _; apply aT.agg; (· exact (rfl : _ = Ty.agg _))) | (show aT _ _ ((_, _) :: _) _; apply aT.arr; (· exact (rfl : _ = Ty.arr _ _))))) (P2 f hf _ rfl rfl) ?_
 refine OH (E := fF) (FT f hf 0 0 0) rfl rfl ?_
 refine Vd rfl (aD ?_)
 refine ⟨by kernel_rfl, ?_⟩
 refine aC (aF (aF (aA ?_)))
 refine aP rfl rfl rfl rfl rfl (by decide) ?_
 refine aK rfl rfl rfl rfl (cC rfl rfl rfl (bF rfl (aD (aC (af ?_)))))
 refine cK (fun (k : {k : Nat // k ≤ f.bears.length}) => live [(2, Ty.pp (cv f)), (7, Ty.ptr 24 0), (26, Ty.int .i64 f.bears.length), (27, Ty.int .i64 (k.1 : Nat))] [(24, Cont.vec fF 160 [FT f hf k.1 0 0])]) (fun k => f.bears.length - k.1) (⟨0, by omega⟩) ?_ fun k => ?_
 ·(refine c8.mk' ?_ ?_ <;> (repeat' (first | exact aI | exact aH | refine aB ?_ (Ty.aR _) | refine aB ?_ (Ty.aG _) | refine aJ rfl (Cont.aG _) ?_)))
 refine aF (aA (ak rfl rfl rfl (aD (aC (aF ?_)))))
 refine aa rfl (fun hc3 => ?_) (fun hc3 => ?_)
 ·refine bA (aC (aF (af (aF (aA (bF rfl (b9 rfl (aD (aC (aF (aF (aA ?_))))))))))))
  refine aP rfl rfl rfl rfl rfl (by decide) ?_
  refine aK rfl rfl rfl rfl (cC rfl rfl rfl (bF rfl (aD (aC (af ?_)))))
  refine cK (fun (q : {q : Nat // q ≤ f.bins.length}) => live [(2, Ty.pp (cv f)), (7, Ty.ptr 24 0), (8, Ty.int .i64 (k.1 : Nat)), (26, Ty.int .i64 f.bears.length), (27, Ty.int .i64 (k.1 : Nat)), (31, Ty.sl jX f.bins), (32, Ty.int .i64 f.bins.length), (33, Ty.int .i64 (q.1 : Nat))] [(24, Cont.vec fF 160 [FT f hf k.1 q.1 0])]) (fun q => f.bins.length - q.1) (⟨0, by omega⟩) ?_ fun q => ?_
  ·(refine c8.mk' ?_ ?_ <;> (repeat' (first | exact aI | exact aH | refine aB ?_ (Ty.aR _) | refine aB ?_ (Ty.aG _) | refine aJ rfl (Cont.aG _) ?_)))
  refine aF (aA (ak rfl rfl rfl (aD (aC (aF ?_)))))
  refine aa rfl (fun hc4 => ?_) (fun hc4 => ?_)
  ·refine bA (aC (aF (af (aF (aA ?_)))))
   refine bG rfl rfl rfl rfl rfl rfl (by omega) ?_
   refine ay rfl rfl rfl (by exact Nat.le_of_ble_eq_true rfl) ?_
   refine dB rfl (by exact List.cons_ne_nil _ _) rfl ?_
   refine eG rfl rfl (by decide) rfl rfl rfl rfl rfl rfl ?_
   refine aD (aC ?_)
   have hsh := hr.shares _ (bL (xs := f.bins) (k := q.1) (by omega))
   have hm := Tv (hr.hasR _ (bL (xs := f.bins) (k := q.1) (by omega))) (oU hr (i := q.1) (b := k.1) (by omega))
   have hfb := mZ hr k.1 q.1 (by omega)
   refine cg mixed rfl (tN rfl (bF rfl (cW rfl ?_)))
   refine aS rfl rfl rfl rfl rfl (by decide) ?_
   refine fD rfl rfl rfl rfl rfl (by omega) ?_
   refine Lc rfl rfl (by decide) rfl rfl (CM (by omega)) ?_
   refine aS rfl rfl rfl rfl rfl (by decide) ?_
   refine aj rfl rfl (by decide) rfl rfl rfl ?_
   refine aS rfl rfl rfl rfl rfl (by decide) ?_
   refine aj rfl rfl (by decide) rfl rfl rfl ?_
   refine bF rfl ?_
   refine bG rfl rfl rfl rfl rfl rfl (by omega) ?_
   refine aK rfl rfl rfl rfl ?_
   refine Oz rfl rfl (by omega) (by omega) ?_
   refine bz rfl rfl (by omega) (by omega) ?_
   refine cW rfl ?_
   refine aS rfl rfl rfl rfl rfl (by decide) ?_
   refine fD rfl rfl rfl rfl rfl (by omega) ?_
   refine BX (z := FT f hf k.1 (q.1 + 1) 0) rfl rfl (by decide) rfl rfl (by exact (rfl : _ = Ty.int _ _)) rfl (show 0 + 44 + k.1 * 1 < 48 by omega) rfl (Dy (by omega) (by omega)) ?_
   refine aD ?_
   refine ⟨by kernel_rfl, ?_⟩
   refine bH (aC (aA ?_))
   refine bz rfl rfl (by omega) (by omega) ?_
   refine bF rfl (aD ?_)
   refine bO (⟨q.1 + 1, by omega⟩) ?_ (by show f.bins.length - (q.1 + 1) < f.bins.length - q.1; omega)
   (refine c8.mk' ?_ ?_ <;> (repeat' (first | exact aI | exact aH | refine aB ?_ (Ty.aR _) | refine aB ?_ (Ty.aG _) | refine aJ rfl (Cont.aG _) ?_)))
   all_goals skip
  refine cF (aL (aL (ah rfl (aC (aF (aA ?_))))))
  refine aP rfl rfl rfl rfl rfl (by decide) ?_
  refine aK rfl rfl rfl rfl (cC rfl rfl rfl (bF rfl (aD (aC (af ?_)))))
  refine cK (fun (a : {a : Nat // a ≤ f.turnings.length}) => live [(2, Ty.pp (cv f)), (7, Ty.ptr 24 0), (8, Ty.int .i64 (k.1 : Nat)), (26, Ty.int .i64 f.bears.length), (27, Ty.int .i64 (k.1 : Nat)), (57, Ty.sl gL f.turnings), (58, Ty.int .i64 f.turnings.length), (59, Ty.int .i64 (a.1 : Nat))] [(24, Cont.vec fF 160 [FT f hf k.1 q.1 a.1])]) (fun a => f.turnings.length - a.1) (⟨0, by omega⟩) ?_ fun a => ?_
  ·(refine c8.mk' ?_ ?_ <;> (repeat' (first | exact aI | exact aH | refine aB ?_ (Ty.aR _) | refine aB ?_ (Ty.aG _) | refine aJ rfl (Cont.aG _) ?_)))
  refine aF (aA (ak rfl rfl rfl (aD (aC (aF ?_)))))
  refine aa rfl (fun hc5 => ?_) (fun hc5 => ?_)
  ·refine bA (aC (aF (af (aF (aA (bF rfl ?_))))))
   refine bG rfl rfl rfl rfl rfl rfl (by omega) ?_
   refine ay rfl rfl rfl (by exact Nat.le_of_ble_eq_true rfl) ?_
   refine dB rfl (by exact List.cons_ne_nil _ _) rfl ?_
   refine b9 rfl ?_
   refine eG rfl rfl (by decide) rfl rfl rfl rfl rfl rfl ?_
   refine aD (aC ?_)
   have hna := hn _ (bL (xs := f.turnings) (k := a.1) (by omega))
   have h1 := mj hr hna.1 k.1
   have h2 := mj hr hna.2 k.1
   have h3 := zm hr hn (t := a.1) (by omega) k.1
   unfold iw at h1 h2
   unfold xL iw at h3
   refine cg mixed rfl (tN rfl (bF rfl (bF rfl ?_)))
   refine aS rfl rfl rfl rfl rfl (by decide) ?_
   refine aj rfl rfl (by decide) rfl rfl rfl ?_
   refine ay rfl rfl rfl (by exact Nat.le_of_ble_eq_true rfl) ?_
   refine aS rfl rfl rfl rfl rfl (by decide) ?_
   refine aj rfl rfl (by decide) rfl rfl rfl ?_
   refine bF rfl ?_
   refine aq (KB f hs hr _ k.1 hna.2 (by omega)) rfl rfl rfl rfl rfl ?_
   refine ay rfl rfl rfl (by exact Nat.le_of_ble_eq_true rfl) ?_
   refine aS rfl rfl rfl rfl rfl (by decide) ?_
   refine aj rfl rfl (by decide) rfl rfl rfl ?_
   refine bF rfl ?_
   refine aq (KB f hs hr _ k.1 hna.1 (by omega)) rfl rfl rfl rfl rfl ?_
   refine iZ rfl rfl (by omega) (by omega) ?_
   refine Oz rfl rfl (by omega) (by omega) ?_
   refine cW rfl ?_
   refine aS rfl rfl rfl rfl rfl (by decide) ?_
   refine fD rfl rfl rfl rfl rfl (by omega) ?_
   refine fD rfl rfl rfl rfl rfl (by omega) ?_
   refine BX (z := FT f hf k.1 q.1 (a.1 + 1)) rfl rfl (by decide) rfl rfl (by exact (rfl : _ = Ty.int _ _)) rfl (show 0 + 12 + a.1 * 4 + k.1 * 1 < 48 by omega) rfl (F3 (by omega) (by omega)) ?_
   refine aD ?_
   refine ⟨by kernel_rfl, ?_⟩
   refine bH (aC (aA ?_))
   refine bz rfl rfl (by omega) (by omega) ?_
   refine bF rfl (aD ?_)
   refine bO (⟨a.1 + 1, by omega⟩) ?_ (by show f.turnings.length - (a.1 + 1) < f.turnings.length - a.1; omega)
   (refine c8.mk' ?_ ?_ <;> (repeat' (first | exact aI | exact aH | refine aB ?_ (Ty.aR _) | refine aB ?_ (Ty.aG _) | refine aJ rfl (Cont.aG _) ?_)))
   all_goals skip
  refine cF (aL (aL (ah rfl (bH (aC (aA ?_))))))
  refine bz rfl rfl (by omega) (by omega) ?_
  refine bF rfl (aD ?_)
  refine bO (⟨k.1 + 1, by omega⟩) ?_ (by show f.bears.length - (k.1 + 1) < f.bears.length - k.1; omega)
  (refine c8.mk' ?_ ?_ <;> (repeat' (first | exact aI | exact aH | refine aB ?_ (Ty.aR _) | refine aB ?_ (Ty.aG _) | refine aJ rfl ?_ ?_)))
  all_goals skip
  exact Cont.dF (by rw [show q.1 = f.bins.length by have := q.2; omega, show a.1 = f.turnings.length by have := a.2; omega, QD])
 refine cF (aL (aL (ah rfl (aC (aF ?_)))))
 refine tW (tg := 24) [(7, Ty.pe fF (FT f hf k.1 0 0) 0)] (by decide) rfl ⟨TU rfl rfl (by decide), trivial⟩ ?_
 refine aA (mF rfl (Tw rfl (b9 rfl (aD (aC (av ?_))))))
 refine iB rfl rfl rfl ?_ ?_
 all_goals first | exact bN rfl rfl | skip
 exact bE rfl rfl (by rw [show k.1 = f.bears.length by have := k.2; omega]; rfl)
set_option maxRecDepth 100000 in
theorem PS (b : SB) (s t : Nat) (hs : s < 256) (ht : t < 8) (hb : ∀ k, nth b.1.before k < 256) : cX Tryz.prog 146 [Ty.int .i64 (t : Nat), Ty.pp [Ty.pe fF b 0], Ty.pp [Ty.int .i64 (s : Nat)]] (Ty.bool (decide (jd (nth b.1.before t) s = 0))) := by
 refine aY Tryz.func146 rfl (by decide) Tryz.ntmps146 (by exact Nat.le_of_ble_eq_true rfl) fun w0 M0 => ?_
 have hbt := hb t
 refine aF (aA (dG rfl (aD (aC (aF (cg mixed rfl (aK rfl rfl rfl rfl (bF rfl (dR rfl ?_)))))))))
 refine dP rfl rfl rfl rfl rfl (by decide) ?_
 refine lA rfl rfl rfl rfl rfl (by omega) ?_
 refine gJ (ty := Ty.int .i64 (nth b.1.before t : Nat)) rfl rfl rfl (by rw [show 0 + 4 + t * 1 = 4 + t by omega]; exact AQ b.2 ht) ?_
 refine aK rfl rfl rfl rfl ?_
 refine Mq rfl rfl (by omega) ?_
 refine ak rfl rfl rfl (dG rfl (aD ?_))
 refine ⟨by kernel_rfl, ?_⟩
 refine aC (av (bK rfl rfl ?_))
 all_goals skip
 exact bE rfl rfl (congrArg Ty.bool (decide_eq_decide.2 (by omega)))
set_option maxRecDepth 100000 in
theorem vm (b : SB) (s : Nat) (hs : s < 256) (hb : ∀ k, nth b.1.before k < 256) : cX Tryz.prog 97 [Ty.pe fF b 0, Ty.int .i64 (s : Nat)] (Ty.bool (eF b s)) := by
 refine aY Tryz.func97 rfl (by decide) Tryz.ntmps97 (by exact Nat.le_of_ble_eq_true rfl) fun w0 M0 => ?_
 refine aF (aA ?_)
 refine eY (by exact (rfl : _ = Ty.pe _ _ _)) rfl ?_
 refine eY (by exact (rfl : _ = Ty.int _ _)) rfl ?_
 refine dG rfl (aD (aC (aF (aA (aK rfl rfl rfl rfl (aq (C6 s hs) rfl rfl rfl rfl rfl (cw rfl ?_)))))))
 refine aq (kJ (cR s) (Ty.j9 _ [Ty.pp [Ty.pe fF b 0], Ty.pp [Ty.int .i64 (s : Nat)]]) rfl (fun t => decide (jd (nth b.1.before t.toNat) s = 0)) rfl rfl fun t ht => by have h := Ba t ht; obtain ⟨n, rfl⟩ := Int.eq_ofNat_of_zero_le h.1; exact cY (PS b s n hs (by omega) hb) rfl rfl rfl rfl rfl rfl) rfl rfl rfl rfl rfl ?_
 refine dG rfl (aD (aC (av (bK rfl rfl ?_))))
 all_goals exact bN rfl rfl
set_option maxRecDepth 100000 in
theorem TS (b : SB) : cX Tryz.prog 115 [Ty.pe fF b 0] (Ty.j9 159 [Ty.pp [Ty.pe fF b 0]]) := by
 refine aY Tryz.func115 rfl (by decide) Tryz.ntmps115 (by exact Nat.le_of_ble_eq_true rfl) fun w0 M0 => ?_
 refine aF (aA ?_)
 refine eY (by exact (rfl : _ = Ty.pe _ _ _)) rfl ?_
 refine mP rfl (aD (aC (aF (aA (cw rfl (Vl rfl (aD (aC (av (bK rfl rfl ?_))))))))))
 all_goals exact bN rfl rfl
end Go.Proofs.YtmmcenjknimhbaaGreat
namespace Go.Proofs.YtmmcenjknimhbaaGreat
open Go Go.T
attribute [local irreducible] eH cZ jR j7 eP eO eK eS eJ j8 eN j4 b8 dc j0 dZ j5 nth eZ cU aV cX bodyPost Exit.then Exit.inBlock Code.wp Code.wpIn dU m7 mo m6 fT mw m0 fV mY eB fO lu bW bV bodyPostM cV
theorem zg (b : SB) : ((fF.tys b).drop (0 + 44)).take 4 = b.1.first.flatMap dN.tys := by
 show ((fk b.1).drop 44).take 4 = _
 have h1 := b.2.before
 have h2 := b.2.adds
 have h3 := b.2.first
 rw [jL, wJ, List.drop_append, List.drop_append, List.drop_append]
 simp only [ep, List.length_map, h1, h2]
 rw [List.drop_eq_nil_of_le (by rw [ep]; omega), List.drop_eq_nil_of_le (by simp [h1]), List.drop_eq_nil_of_le (by simp [h2])]
 simp only [List.nil_append, Nat.reduceSub, List.drop_zero]
 rw [List.take_of_length_le (by simp [h3])]
set_option maxRecDepth 100000 in
theorem EC (b : SB) (hb : kN b) (s : Nat) (hs : s < 256) : cX Tryz.prog 41 [Ty.pe fF b 0, Ty.int .i64 (s : Nat)] (Ty.arr dN (iI b s)) := by
 refine aY Tryz.func41 rfl (by decide) Tryz.ntmps41 (by exact Nat.le_of_ble_eq_true rfl) fun w0 M0 => ?_
 have hml := r7 s
 have hfl := b.2.first
 refine aF (aA ?_)
 refine dB rfl (by exact List.cons_ne_nil _ _) rfl ?_
 refine aD (aC (aF (aA (mF rfl (dR rfl ?_)))))
 refine dP rfl rfl rfl rfl rfl (by decide) ?_
 refine Jd (E' := dN) (ys := b.1.first) rfl rfl rfl (zg b) (by rw [wJ, List.length_map, hfl]) ?_
 refine dB rfl (by exact List.cons_ne_nil _ _) rfl ?_
 refine jr rfl rfl (by decide) rfl rfl (by rw [hfl]; rfl) rfl ?_
 refine aD (aC (aF (aF (aA (bF rfl (aq (C6 s hs) rfl rfl rfl rfl rfl (cC rfl rfl rfl (bF rfl (aD (aC (af ?_)))))))))))
 refine cK (fun (k : {k : Nat // k ≤ (cR s).length}) => live [(0, Ty.pe fF b 0), (4, Ty.ptr 5 0), (5, Ty.ptr 6 0), (14, Ty.sl dN (cR s)), (15, Ty.int .i64 (cR s).length), (16, Ty.int .i64 (k.1 : Nat))] [(5, Cont.cells 106 [Ty.int .i64 0, Ty.int .i64 0, Ty.int .i64 0, Ty.int .i64 0]), (6, Cont.vec dN 106 (oI b (cR s) k.1 0))]) (fun k => (cR s).length - k.1) (⟨0, by omega⟩) ?_ fun k => ?_
 ·(refine c8.mk' ?_ ?_ <;> (repeat' (first | exact aI | exact aH | refine aB ?_ (Ty.aR _) | refine aB ?_ (Ty.aG _) | refine aJ rfl (Cont.aG _) ?_ | refine aJ rfl ?_ ?_)))
  exact Cont.dF (HE b _)
 refine aF (aA (ak rfl rfl rfl (aD (aC (aF ?_)))))
 refine aa rfl (fun hc1 => ?_) (fun hc1 => ?_)
 ·refine bA (aC (aF (af (aF (aA ?_)))))
  refine bG rfl rfl rfl rfl rfl rfl (by omega) ?_
  refine aK rfl rfl rfl rfl (b9 rfl (aD (aC (aF (aA (bF rfl (aD (aC (af ?_)))))))))
  refine cK (fun (j : {j : Nat // j ≤ 4}) => live [(0, Ty.pe fF b 0), (4, Ty.ptr 5 0), (5, Ty.ptr 6 0), (7, Ty.int .i64 (nth (cR s) k.1)), (14, Ty.sl dN (cR s)), (15, Ty.int .i64 (cR s).length), (16, Ty.int .i64 (k.1 : Nat)), (20, Ty.int .i64 (j.1 : Nat))] [(5, Cont.cells 106 [Ty.int .i64 0, Ty.int .i64 0, Ty.int .i64 0, Ty.int .i64 0]), (6, Cont.vec dN 106 (oI b (cR s) k.1 j.1))]) (fun j => 4 - j.1) (⟨0, by omega⟩) ?_ fun j => ?_
  ·(refine c8.mk' ?_ ?_ <;> (repeat' (first | exact aI | exact aH | refine aB ?_ (Ty.aR _) | refine aB ?_ (Ty.aG _) | refine aJ rfl (Cont.aG _) ?_)))
  refine aF (aA (ak rfl rfl rfl (aD (aC (aF ?_)))))
  refine aa rfl (fun hc2 => ?_) (fun hc2 => ?_)
  ·refine bA (aC (aF (af (aF (aA (bF rfl (b9 rfl (aD (aC ?_)))))))))
   have hpl := kf b (cR s) k.1 j.1
   have hmt := Ba _ (bL (xs := cR s) (k := k.1) (by omega))
   have hla := va hb ((cR s).take k.1) j.1
   have hlt : ((cR s).take k.1).length ≤ 8 := by rw [List.length_take]; omega
   have hnp := Dv b (cR s) k.1 (j := j.1) (by omega)
   have had := hb.adds ((nth (cR s) k.1).toNat * 4 + j.1)
   rw [← hnp] at hla
   refine cg mixed rfl (bF rfl ?_)
   refine fD rfl rfl rfl rfl rfl (by omega) ?_
   refine fZ rfl rfl rfl (by decide) rfl rfl (by omega) rfl ?_
   refine mF rfl (bF rfl (bF rfl (dR rfl ?_)))
   refine dP rfl rfl rfl rfl rfl (by decide) ?_
   refine yl (n := 8) rfl rfl rfl rfl rfl (by omega) (by omega) ?_
   refine lA rfl rfl rfl rfl rfl (by omega) ?_
   refine gJ (ty := Ty.int .i64 (nth b.1.adds ((nth (cR s) k.1).toNat * 4 + j.1))) rfl rfl rfl (by rw [show 0 + 12 + (nth (cR s) k.1).toNat * 4 + j.1 * 1 = 12 + ((nth (cR s) k.1).toNat * 4 + j.1) by omega]; exact F4 b.2 (by omega)) ?_
   refine bz rfl rfl (by omega) (by omega) ?_
   refine fD rfl rfl rfl rfl rfl (by omega) ?_
   refine jH rfl rfl rfl (by decide) rfl rfl (by exact (rfl : _ = Ty.int _ _)) rfl (by omega) (by decide) rfl rfl ?_
   refine aD ?_
   refine ⟨by kernel_rfl, ?_⟩
   refine bH (aC (aA ?_))
   refine bz rfl rfl (by omega) (by omega) ?_
   refine bF rfl (aD ?_)
   refine bO (⟨j.1 + 1, by omega⟩) ?_ (by show 4 - (j.1 + 1) < 4 - j.1; omega)
   (refine c8.mk' ?_ ?_ <;> (repeat' (first | exact aI | exact aH | refine aB ?_ (Ty.aR _) | refine aB ?_ (Ty.aG _) | refine aJ rfl (Cont.aG _) ?_ | refine aJ rfl ?_ ?_)))
   all_goals skip
   exact Cont.dF (ME b (by omega) (by omega))
  refine cF (aL (aL (ah rfl (bH (aC (aA ?_))))))
  refine bz rfl rfl (by omega) (by omega) ?_
  refine bF rfl (aD ?_)
  refine bO (⟨k.1 + 1, by omega⟩) ?_ (by show (cR s).length - (k.1 + 1) < (cR s).length - k.1; omega)
  (refine c8.mk' ?_ ?_ <;> (repeat' (first | exact aI | exact aH | refine aB ?_ (Ty.aR _) | refine aB ?_ (Ty.aG _) | refine aJ rfl (Cont.aG _) ?_ | refine aJ rfl ?_ ?_)))
  all_goals skip
  exact Cont.dF (by rw [show j.1 = 4 by have := j.2; omega, I8])
 refine cF (aL (aL (ah rfl (aC (aF (aA ?_))))))
 refine l8 rfl rfl (by decide) rfl rfl (by rw [kf]; rfl) (fun e => by have h := congrArg List.length e; rw [kf] at h; cases h) ?_
 refine jr rfl rfl (by decide) rfl rfl (by rw [kf]; rfl) rfl ?_
 refine aD (aC (av ?_))
 refine yA (MB b s k.1 (by omega)) rfl rfl rfl rfl (by decide) rfl rfl (by rw [kf]; rfl) (fun e => by have h := congrArg List.length e; rw [kf] at h; cases h)
set_option maxRecDepth 100000 in
theorem HK (b : SB) (hb : kN b) (l : List Int) (hl : l.length = 4) (hl2 : ∀ i, -100000 ≤ nth l i ∧ nth l i ≤ 100000) : cX Tryz.prog 105 [Ty.pe fF b 0, Ty.arr dN l] (Ty.int .i64 (mm b l)) := by
 refine aY Tryz.func105 rfl (by decide) Tryz.ntmps105 (by exact Nat.le_of_ble_eq_true rfl) fun w0 M0 => ?_
 have h1 := hb.nb1
 have h4 := hb.nb
 have hb0 := hb.bears 0
 have hl0 := hl2 0
 refine aF (aA (Mz rfl (b9 rfl (aD (aC (aF (cg mixed rfl (mF rfl (dR rfl ?_)))))))))
 refine dP rfl rfl rfl rfl rfl (by decide) ?_
 refine dP rfl rfl rfl rfl rfl (by decide) ?_
 refine gJ rfl rfl rfl rfl ?_
 refine bG (i := 0) rfl rfl rfl rfl rfl rfl (by omega) ?_
 refine aK rfl rfl rfl rfl ?_
 refine AL (i := 0) rfl rfl rfl rfl rfl (by decide) ?_
 refine DH (i := 0) rfl rfl rfl rfl (by omega) rfl ?_
 refine iZ rfl rfl (by omega) (by omega) ?_
 refine b9 rfl (aD ?_)
 refine ⟨by kernel_rfl, ?_⟩
 refine aC (aF (aF (aA (mF rfl (dR rfl ?_)))))
 refine dP rfl rfl rfl rfl rfl (by decide) ?_
 refine dP rfl rfl rfl rfl rfl (by decide) ?_
 refine gJ rfl rfl rfl rfl (cC rfl rfl rfl (bF rfl (aD (aC (af ?_)))))
 refine cK (fun (k : {k : Nat // k ≤ b.1.f.bears.length}) => live [(3, Ty.pa dN l 0), (5, Ty.int .i64 (r9 b.1.f l k.1 (nth b.1.f.bears 0 - nth l 0))), (22, Ty.sl dN b.1.f.bears), (23, Ty.int .i64 b.1.f.bears.length), (24, Ty.int .i64 (k.1 : Nat))] []) (fun k => b.1.f.bears.length - k.1) (⟨0, by omega⟩) ?_ fun k => ?_
 ·(refine c8.mk' ?_ ?_ <;> (repeat' (first | exact aI | exact aH | refine aB ?_ (Ty.aR _) | refine aB ?_ (Ty.aG _))))
 refine aF (aA (ak rfl rfl rfl (aD (aC (aF ?_)))))
 refine aa rfl (fun hc1 => ?_) (fun hc1 => ?_)
 ·refine bA (aC (aF (af (aF (aA (bF rfl ?_))))))
  refine bG rfl rfl rfl rfl rfl rfl (by omega) ?_
  refine aK rfl rfl rfl rfl (b9 rfl (b9 rfl (aD (aC ?_))))
  have hbk := hb.bears k.1
  have hlk := hl2 k.1
  refine aA (bF rfl (bF rfl (bF rfl ?_)))
  refine AL rfl rfl rfl rfl rfl (show k.1 < 4 by omega) ?_
  refine DH rfl rfl rfl (Nat.zero_add _) (by omega) rfl ?_
  refine iZ rfl rfl (by omega) (by omega) ?_
  refine bT (E := dN) (xs := [_]) rfl rfl rfl rfl rfl (by decide) (by decide) (by repeat (first | exact (aT.nil : aT _ _ [] _) | (show aT _ _ ((_, _) :: _) _; apply aT.one; (· exact (rfl : _ = Ty.int _ _)); (· exact rfl)))) (by exact rfl) rfl ?_
  refine aq (HJ _ _) rfl rfl rfl rfl rfl (b9 rfl (aD (bH (aC (aA ?_)))))
  refine bz rfl rfl (by omega) (by omega) ?_
  refine bF rfl (aD ?_)
  refine bO (⟨k.1 + 1, by omega⟩) ?_ (by show b.1.f.bears.length - (k.1 + 1) < b.1.f.bears.length - k.1; omega)
  (refine c8.mk' ?_ ?_ <;> (repeat' (first | exact aI | exact aH | refine aB ?_ (Ty.aR _) | refine aB ?_ (Ty.aG _) | refine aB ?_ ?_)))
  all_goals skip
  exact Ty.bJ (by rw [yE]; rfl)
 refine cF (aL (aL (ah rfl (aC (aF (aA (bF rfl (b9 rfl (aD (aC (av (bK rfl rfl ?_))))))))))))
 all_goals skip
 exact bE rfl rfl (congrArg (Ty.int .i64) (by rw [show k.1 = b.1.f.bears.length by have := k.2; omega]; rfl))
set_option maxRecDepth 100000 in
theorem PA (b : SB) (hb : kN b) (s : Nat) (hs : s < 256) : cX Tryz.prog 149 [Ty.int .i64 (s : Nat), Ty.pp [Ty.pe fF b 0]] (Ty.bool (u7 b s)) := by
 refine aY Tryz.func149 rfl (by decide) Tryz.ntmps149 (by exact Nat.le_of_ble_eq_true rfl) fun w0 M0 => ?_
 refine aF (aA (dG rfl (aD (aC (aF (cg mixed rfl (aK rfl rfl rfl rfl (aK rfl rfl rfl rfl (bF rfl (aq (EC b hb s hs) rfl rfl rfl rfl rfl ?_))))))))))
 refine aq (HK b hb _ (lO b s) (fun i => by have := yJ hb s i; omega)) rfl rfl rfl rfl rfl ?_
 refine ak rfl rfl rfl (dG rfl (aD ?_))
 refine ⟨by kernel_rfl, ?_⟩
 refine aC (av (bK rfl rfl ?_))
 all_goals exact bN rfl rfl
set_option maxRecDepth 100000 in
theorem ET (b : SB) : cX Tryz.prog 104 [Ty.pe fF b 0] (Ty.agg [Ty.j9 149 [Ty.pp [Ty.pe fF b 0]]]) := by
 refine aY Tryz.func104 rfl (by decide) Tryz.ntmps104 (by exact Nat.le_of_ble_eq_true rfl) fun w0 M0 => ?_
 refine aF (aA ?_)
 refine eY (by exact (rfl : _ = Ty.pe _ _ _)) rfl ?_
 refine dB rfl (by exact List.cons_ne_nil _ _) rfl ?_
 refine aD (aC (aF (aA (cw rfl ?_))))
 refine eX rfl rfl (by exact List.cons_ne_nil _ _) rfl (by repeat (first | exact (aT.nil : aT _ _ [] _) | (show aT _ _ ((_, _) :: _) _; apply aT.one; (· exact (rfl : _ = Ty.j9 _ _)); (· exact rfl)))) (by exact (rfl : _ = some [_])) ?_
 refine eG rfl rfl (by decide) rfl rfl rfl rfl rfl rfl ?_
 refine aD (aC (av ?_))
 refine Kq rfl rfl rfl rfl (by decide) rfl rfl rfl ?_
 exact bE rfl rfl rfl
theorem BB (b : SB) (s : Nat) (hs : s < 256) (hb : ∀ k, nth b.1.before k < 256) {v : Bool} (h : eF b s = v) : cX Tryz.prog 97 [Ty.pe fF b 0, Ty.int .i64 (s : Nat)] (Ty.bool v) := h ▸ vm b s hs hb
def JV (b : SB) (s : Nat) : List Ty := [Ty.int .i64 (s : Nat), Ty.arr dN (iI b s)]
set_option maxRecDepth 100000 in
theorem Ql (b : SB) (hb : kN b) : fO Tryz.prog 159 (fun l => [Ty.ex (yv l), Ty.pp [Ty.pe fF b 0]]) ((uB b).map (JV b)) (Ty.s8 []) (Ty.s8 []) := by
 refine LA Tryz.func159 rfl (by decide) Tryz.ntmps159 (fun _ => by exact Nat.le_of_ble_eq_true rfl) (fun _ => ⟨rfl, rfl⟩) fun l J Jx hJ hJx hY w0 M0 => ?_
 have hnt := hb.nt
 have hsl := rH hnt
 have hlen : ((uB b).map (JV b)).length = (uB b).length := List.length_map _
 refine aF (aA (aK rfl rfl rfl rfl (dR rfl ?_)))
 refine dP rfl rfl rfl rfl rfl (by decide) ?_
 refine dP rfl rfl rfl rfl rfl (by decide) ?_
 refine gJ rfl rfl rfl rfl (cC rfl rfl rfl ?_)
 refine nx (a := 1) rfl rfl (by omega) (by omega) ?_
 refine bF rfl (aD (aC (af ?_)))
 refine cK (fun (k : {k : Nat // k ≤ 1 <<< b.1.f.turnings.length}) => live [(0, Ty.ex (yv l)), (1, Ty.pp [Ty.pe fF b 0]), (10, Ty.int .i64 ((1 <<< b.1.f.turnings.length : Nat) : Int)), (11, Ty.int .i64 (k.1 : Nat))] [(0, CJ (hJ (iT b k.1).length))]) (fun k => 1 <<< b.1.f.turnings.length - k.1) (⟨0, by omega⟩) ?_ fun k => ?_
 ·(refine c8.mk' ?_ ?_ <;> (repeat' (first | exact aI | exact aH | refine aB ?_ (Ty.aR _) | refine aB ?_ (Ty.aG _) | refine aJ rfl (Cont.aG _) ?_)))
 refine aF (aA (ak rfl rfl rfl (aD (aC (aF ?_)))))
 refine aa rfl (fun hc1 => ?_) (fun hc1 => ?_)
 ·refine bA (aC (aF (af (aF (aA (bF rfl (b9 rfl (aD (aC (aF ?_))))))))))
  cases hsp : (eF b k.1)
  ·refine aA (aK rfl rfl rfl rfl (bF rfl ?_))
   refine aq (BB b k.1 (by omega) hb.before hsp) rfl rfl rfl rfl rfl ?_
   refine kV rfl (BE rfl rfl rfl rfl (BE rfl rfl rfl rfl (BE rfl rfl rfl rfl (BE rfl rfl rfl rfl (BE rfl rfl rfl rfl (BE rfl rfl rfl rfl (BE rfl rfl rfl rfl ?_)))))))
   refine Hr (ty := Ty.bool false) rfl rfl rfl (fun h => Bool.noConfusion h) (fun _ => Ty.aG _) ?_
   refine aD (aC (iP rfl (rfl) (bA (bH (aC (aA ?_))))))
   refine bz rfl rfl (by omega) (by omega) ?_
   refine bF rfl (aD ?_)
   refine bO (⟨k.1 + 1, by omega⟩) ?_ (by exact Nat.sub_lt_sub_left (Int.ofNat_lt.1 hc1) (Nat.lt_succ_self _))
   (refine c8.mk' ?_ ?_ <;> (repeat' (first | exact aI | exact aH | refine aB ?_ (Ty.aR _) | refine aB ?_ (Ty.aG _) | refine aJ rfl ?_ ?_)))
   all_goals skip
   exact Cont.sub_eq (congrArg (fun n => CJ (hJ n)) (by show (iT b k.1).length = (iT b (k.1 + 1)).length; rw [Da hsp]))
  refine Ho 9 rfl rfl (aK rfl rfl rfl rfl (bF rfl ?_))
  refine aq (BB b k.1 (by omega) hb.before hsp) rfl rfl rfl rfl rfl ?_
  refine kV rfl ?_
  (refine Ih rfl rfl rfl (by apply aQ; (refine Vs rfl ?_); refine aD ?_; exact rfl) ?_)
  (refine Ih rfl rfl rfl (by apply aQ; (refine bF rfl ?_); refine aD ?_; exact rfl) ?_)
  (refine Ih rfl rfl rfl (by apply aQ; (refine aK rfl rfl rfl rfl ?_); refine aD ?_; exact rfl) ?_)
  (refine Ih rfl rfl rfl (by apply aQ; (refine bF rfl ?_); refine aD ?_; exact rfl) ?_)
  (refine Ih rfl rfl rfl (by apply aQ; (refine aq (EC b hb k.1 (by omega)) rfl rfl rfl rfl rfl ?_); refine aD ?_; exact rfl) ?_)
  refine aD ?_
  refine ⟨_, _, TN rfl rfl rfl (MP hJ hJx hY rfl rfl rfl rfl rfl (QY (z6 (Int.ofNat_lt.1 hc1) hsp).2 (congrArg (JV b) (z6 (Int.ofNat_lt.1 hc1) hsp).1)) rfl), ?_, ?_⟩
  ·(refine Ih rfl rfl rfl (by apply aQ; (refine ct rfl ?_); refine aD ?_; exact rfl) ?_)
   refine Hr (ty := Ty.bool false) rfl rfl rfl (fun _ => (Ty.aG _ : Ty.Sub (Ty.bool (!true)) _)) (fun h => Bool.noConfusion h) ?_
   refine aD (aC (iP rfl (rfl) (bA (bH (aC (aA ?_))))))
   refine bz rfl rfl (by omega) (by omega) ?_
   refine bF rfl (aD ?_)
   refine bO (⟨k.1 + 1, by omega⟩) ?_ (by exact Nat.sub_lt_sub_left (Int.ofNat_lt.1 hc1) (Nat.lt_succ_self _))
   (refine c8.mk' ?_ ?_ <;> (repeat' (first | exact aI | exact aH | refine aB ?_ (Ty.aR _) | refine aB ?_ (Ty.aG _) | refine aJ rfl ?_ ?_)))
   all_goals skip
   exact Cont.sub_eq (congrArg (fun n => CJ (hJ n)) (by show (iT b k.1).length + 1 = (iT b (k.1 + 1)).length; rw [uS hsp, List.length_append]; rfl))
  (refine Ih rfl rfl rfl (by apply aQ; (refine ct rfl ?_); refine aD ?_; exact rfl) ?_)
  refine Hr (ty := Ty.bool true) rfl rfl rfl (fun _ => (Ty.aG _ : Ty.Sub (Ty.bool (!false)) _)) (fun h => Bool.noConfusion h) ?_
  refine aD (aC (xT rfl (rfl) (av (au (aW (aW (au ?_)))))))
  exact RV rfl rfl
 refine cF (aL (aL (ah rfl (Tu ?_))))
 exact QJ (hJ := hJ) (by rw [List.length_map, show k.1 = 1 <<< b.1.f.turnings.length by have := k.2; omega]; rfl) rfl rfl
set_option maxRecDepth 100000 in
theorem IS (b : SB) (hb : kN b) (bay : Nat) (hbay : bay < 4) : cX Tryz.prog 56 [Ty.pe fF b 0, Ty.int .i64 (bay : Nat)] (Ty.s8 [Ty.int .i64 (JA b bay).1, Ty.int .i64 (JA b bay).2]) := by
 refine Lx Tryz.func56 rfl (by decide) Tryz.ntmps56 (by exact Nat.le_of_ble_eq_true rfl) fun w0 M0 => ?_
 refine aF (aA ?_)
 refine eY (by exact (rfl : _ = Ty.int _ _)) rfl ?_
 refine b9 rfl (b9 rfl (aD (aC (aF (cg mixed rfl (mF rfl (aK rfl rfl rfl rfl (dR rfl ?_))))))))
 refine dP rfl rfl rfl rfl rfl (by decide) ?_
 refine lA rfl rfl rfl rfl rfl hbay ?_
 refine gJ (ty := Ty.int .i64 (nth b.1.first bay)) rfl rfl rfl (by rw [show 0 + 44 + bay * 1 = 44 + bay by omega]; exact xG b.2 hbay) ?_
 refine dB rfl (by exact List.cons_ne_nil _ _) rfl ?_
 refine dB rfl (by exact List.cons_ne_nil _ _) rfl ?_
 refine dm rfl rfl (by decide) rfl rfl (by exact (rfl : _ = Ty.int _ _)) rfl (by exact Nat.le_of_ble_eq_true rfl) rfl rfl (by exact (rfl : _ = [_])) ?_
 refine dm rfl rfl (by decide) rfl rfl (by exact (rfl : _ = Ty.int _ _)) rfl (by exact Nat.le_of_ble_eq_true rfl) rfl rfl (by exact (rfl : _ = [_])) ?_
 refine aD ?_
 refine ⟨by kernel_rfl, ?_⟩
 refine aC (aF (aF (aA (mF rfl (aq (TS b) rfl rfl rfl rfl rfl (aD (aC (af ?_))))))))
 refine Gk (ps := [18, 19]) (lk [(0, Ty.pe fF b 0), (3, Ty.pp [Ty.int .i64 (bay : Nat)]), (6, Ty.ptr 7 0), (7, Ty.ptr 8 0)]) (fun k => [(7, Cont.cells 3 [Ty.int .i64 (oM b bay k).1]), (8, Cont.cells 3 [Ty.int .i64 (oM b bay k).2])]) false [] [7, 8] rfl rfl (Ql b hb) rfl rfl (by decide) (by intro t ht; obtain ⟨x, _, rfl⟩ := List.mem_map.1 ht; exact ⟨rfl, rfl, rfl⟩) rfl rfl (fun _ => rfl) rfl ?_ ?_ ?_ (by intro h; cases h)
 ·(refine c8.mk' ?_ ?_ <;> (repeat' (first | exact aI | exact aH | refine aB ?_ (Ty.aR _) | refine aB ?_ (Ty.aG _) | refine aJ rfl (Cont.aG _) ?_)))
 ·intro k tys hk
  obtain ⟨hk1, rfl⟩ := QC hk
  have hll := lO b (nth (uB b) k)
  refine ⟨live [(3, Ty.pp [Ty.int .i64 (bay : Nat)]), (6, Ty.ptr 7 0), (7, Ty.ptr 8 0), (8, Ty.int .i64 (nth (uB b) k : Nat)), (9, Ty.ptr 10 0)] [(7, Cont.cells 3 [Ty.int .i64 (oM b bay k).1]), (8, Cont.cells 3 [Ty.int .i64 (oM b bay k).2]), (10, Cont.vec dN 106 (iI b (nth (uB b) k)))], fun l w M => ?_, fun l w M => ?_⟩
  ·refine aF (aA (b9 rfl (aD (aC (aA ?_)))))
   refine dB rfl (by exact List.cons_ne_nil _ _) rfl ?_
   refine jr rfl rfl (by decide) rfl rfl (by rw [hll]; rfl) rfl ?_
   refine aD (iC ?_)
   (refine c8.mk' ?_ ?_ <;> (repeat' (first | exact aI | exact aH | refine aB ?_ (Ty.aR _) | refine aB ?_ (Ty.aG _) | refine aJ rfl (Cont.aG _) ?_)))
  refine af (aF (cg mixed rfl (aK rfl rfl rfl rfl (fD rfl rfl rfl rfl rfl hbay ?_))))
  refine fZ rfl rfl rfl (by decide) rfl rfl (by omega) rfl ?_
  refine aj rfl rfl (by decide) rfl rfl rfl ?_
  refine ak rfl rfl rfl (aD ?_)
  refine ⟨by kernel_rfl, ?_⟩
  refine aC ?_
  refine aa rfl (fun hc1 => ?_) (fun hc1 => ?_)
  ·refine cg mixed rfl (bF rfl (aK rfl rfl rfl rfl (fD rfl rfl rfl rfl rfl hbay ?_)))
   refine fZ rfl rfl rfl (by decide) rfl rfl (by omega) rfl ?_
   refine dm rfl rfl (by decide) rfl rfl (by exact (rfl : _ = Ty.int _ _)) rfl (by exact Nat.le_of_ble_eq_true rfl) rfl rfl (by exact (rfl : _ = [_])) ?_
   refine dm rfl rfl (by decide) rfl rfl (by exact (rfl : _ = Ty.int _ _)) rfl (by exact Nat.le_of_ble_eq_true rfl) rfl rfl (by exact (rfl : _ = [_])) ?_
   refine aD ?_
   refine ⟨by kernel_rfl, ?_⟩
   refine bH (Gi ?_)
   (refine c8.mk' ?_ ?_ <;> (repeat' (first | exact aI | exact aH | exact dI | refine aB ?_ (Ty.aR _) | refine aJ rfl (Cont.dJ ?_) ?_ | refine bX ?_ ?_)))
   all_goals exact Ty.bJ (by rw [wD hk1, AX, if_pos hc1])
  refine bA (bH (Gi ?_))
  (refine c8.mk' ?_ ?_ <;> (repeat' (first | exact aI | exact aH | exact dI | refine aB ?_ (Ty.aR _) | refine aJ rfl (Cont.dJ ?_) ?_ | refine bX ?_ ?_)))
  all_goals exact Ty.bJ (by rw [wD hk1, AX, if_neg hc1])
 refine bH (aC (aF (cg mixed rfl ?_)))
 refine aj rfl rfl (by decide) rfl rfl rfl ?_
 refine aj rfl rfl (by decide) rfl rfl rfl ?_
 refine b9 rfl (b9 rfl (aD ?_))
 refine ⟨by kernel_rfl, ?_⟩
 refine aC (av (Uo rfl ?_))
 refine iB rfl rfl rfl ?_ ?_
 all_goals skip
 all_goals exact bE rfl rfl (congrArg (Ty.int .i64) (by rw [List.length_map, oM, List.take_length]; rfl))
end Go.Proofs.YtmmcenjknimhbaaGreat
