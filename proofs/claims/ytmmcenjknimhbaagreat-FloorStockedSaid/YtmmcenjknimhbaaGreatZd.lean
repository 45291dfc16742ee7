/- Lemmas: the program and the reference walked, plain laws. -/
import Derived.Test.YtmmcenjknimhbaaGreatZc
namespace Go.Proofs.YtmmcenjknimhbaaGreat
open Go Go.T
set_option maxHeartbeats 8000000
def U3 : El Unit := El.mk' 1 (fun _ => [Ty.ex (.slice none 0 0)]) (fun _ => rfl) (fun _ => ⟨rfl, rfl, rfl⟩)
section
variable {y : bw} {a : eo} {b d i k : Nat}
theorem TV (hr : y.dj) (hi : i < y.moves.length) (h : ¬ (nth y.moves i).src = -1) : ∃ f : Nat, (nth y.moves i).src = f ∧ f < y.bins.length := by
 have := (hr.move _ (bL hi)).2.1
 exact ⟨(nth y.moves i).src.toNat, by omega, by omega⟩
theorem S6 (hr : y.dj) (hi : i < y.moves.length) (h : ¬ (nth y.moves i).dst = -1) : ∃ f : Nat, (nth y.moves i).dst = f ∧ f < y.bins.length := by
 have := (hr.move _ (bL hi)).2.2.1
 exact ⟨(nth y.moves i).dst.toNat, by omega, by omega⟩
end
attribute [local irreducible] fG qN pJ jY hU E4 AM xE oA ur
attribute [local irreducible] eG cZ jR j6 eP eO eK eM eS j8 eJ j4 b8 dc jz dZ j7 nth eZ cU aV cX bodyPost Exit.then Exit.inBlock Code.wp Code.wpIn dS mz mm m5 fT mq m7 fW mW eB fO lq bW bV bodyPostM cV
attribute [local irreducible] Uy VN Vi Vj DU
set_option maxRecDepth 100000 in
theorem QL (y : bw) (a : eo) (hr : y.dj) (ha : uY y a) : cX Tryz.prog 38 [BI y, R6 a] (Ty.sl tu (hU y a)) := by
 refine aY Tryz.func38 rfl (by decide) Tryz.ntmps38 (by exact Nat.le_of_ble_eq_true rfl) fun w0 M0 => ?_
 have h1 := hr.bins
 have h2 := hr.days
 have h3 := D_eq hr
 have h4 := hr.moves
 have hlf := ha.lens.first
 have hlm := ha.lens.bM
 refine aF (aA (bD rfl (bD rfl (mN rfl (aD (aC (aF (aA ?_))))))))
 refine aP rfl rfl rfl rfl rfl (by decide) ?_
 refine aK rfl rfl rfl rfl (cC rfl rfl rfl ?_)
 refine FA (E := U3) (x0 := ()) rfl rfl rfl rfl rfl rfl rfl (by decide) rfl (by omega) (by (dsimp only; omega)) (by omega) ?_
 refine VE rfl (aD (aC (aF (aF ?_))))
 have hDn : ((y.bins.length : Int)).toNat = y.bins.length := Int.toNat_natCast _
 refine jt (tg := 15) rfl (Cont.dB (congrArg (fun n => List.replicate n ()) hDn)) ?_
 refine jt (tg := 15) rfl (SC (E := dN) (Tb := 3) (J := 5000) (by omega) (fun _ => rfl)) ?_
 refine jt (tg := 15) rfl (Cont.kK (MF (y := y) (a := a))) ?_
 refine mY (s := 5) rfl (Ty.sub_eq (congrArg (Ty.vs 15) hDn)) ?_
 refine aA (FT rfl (nM rfl rfl rfl (bF rfl (aD (aC (af ?_))))))
 refine cK (fun (k : {k : Nat // k ≤ y.bins.length}) => live [(2, Ty.pp (iE y)), (3, Ty.pp (oL a)), (5, Ty.vs 15 y.bins.length), (16, Ty.int .i64 y.bins.length), (17, Ty.int .i64 (k.1 : Nat))] [(15, Cont.mx dN 23 3 5000 (AM y a k.1))]) (fun k => y.bins.length - k.1) (⟨0, by omega⟩) ?_ fun k => ?_
 ·(refine c8.mk' ?_ ?_ <;> (repeat' (first | exact aI | exact aH | refine aB ?_ (Ty.aR _) | refine aB ?_ (Ty.aG _) | refine aJ rfl (Cont.aG _) ?_)))
  all_goals trace_state
 have hk := k.2
 refine aF (aA (ak rfl rfl rfl (aD (aC (aF ?_)))))
 refine aa rfl (fun hc1 => ?_) (fun hc1 => ?_)
 ·refine bA (aC (aF (af (aF (aA (bF rfl (b9 rfl (aD (aC (aA (FT rfl (bF rfl ?_))))))))))))
  refine aP rfl rfl rfl rfl rfl (by decide) ?_
  refine aK rfl rfl rfl rfl (bF rfl ?_)
  refine bG rfl rfl rfl rfl rfl rfl (by omega) ?_
  refine aK rfl rfl rfl rfl ?_
  refine yJ (E := dN) (xs := [nth a.first k.1]) rfl rfl rfl rfl rfl (by decide) (by decide) (by repeat (first | exact (aT.nil : aT _ _ [] _) | (show aT _ _ ((_, _) :: _) _; apply aT.one; (· exact (rfl : _ = Ty.int _ _)); (· exact rfl)))) (by exact rfl) rfl rfl ?_
  refine eE rfl rfl rfl rfl rfl (by omega) ?_
  refine IX (i := k.1) rfl (by exact Nat.mul_one _) rfl (by decide) rfl rfl rfl (by rw [PA]; omega) (by decide) (by decide) rfl rfl ?_
  refine aD (bH (aC (aA ?_)))
  refine bz rfl rfl (by omega) (by omega) ?_
  refine bF rfl (aD ?_)
  refine bO (⟨k.1 + 1, by omega⟩) ?_ (by show y.bins.length - (k.1 + 1) < y.bins.length - k.1; omega)
  (refine c8.mk' ?_ ?_ <;> (repeat' (first | exact aI | exact aH | refine aB ?_ (Ty.aR _) | refine aB ?_ (Ty.aG _) | refine aJ rfl ?_ ?_)))
  all_goals skip
  all_goals exact Cont.kK (Nl hr (by omega))
 refine cE (aL (aL (ah rfl (aC (aF (aF ?_))))))
 obtain ⟨k, hk⟩ := k
 obtain rfl : k = y.bins.length := by have h1 : ¬ (k : Int) < (y.bins.length : Int) := hc1; have h2 : k ≤ y.bins.length := hk; omega
 refine jt (tg := 15) rfl (Cont.kK (PJ (y := y) (a := a) (Nat.le_refl _))) ?_
 refine aA ?_
 refine aP rfl rfl rfl rfl rfl (by decide) ?_
 refine aK rfl rfl rfl rfl (bF rfl (aD (aC (af ?_))))
 refine cK (fun (d : {d : Nat // d ≤ y.D}) => live [(2, Ty.pp (iE y)), (3, Ty.pp (oL a)), (5, Ty.vs 15 y.bins.length), (31, Ty.int .i64 y.days), (32, Ty.int .i64 (d.1 : Nat))] [(15, Cont.mx dN 23 3 5000 (E4 y a d.1))]) (fun d => y.D - d.1) (⟨0, by omega⟩) ?_ fun d => ?_
 ·(refine c8.mk' ?_ ?_ <;> (repeat' (first | exact aI | exact aH | refine aB ?_ (Ty.aR _) | refine aB ?_ (Ty.aG _) | refine aJ rfl (Cont.aG _) ?_)))
  all_goals trace_state
 have hd := d.2
 refine aF (aA (ak rfl rfl rfl (aD (aC (aF ?_)))))
 refine aa rfl (fun hc2 => ?_) (fun hc2 => ?_)
 ·refine bA (aC (aF (af (aF (aA (bF rfl (b9 rfl (aD (aC (aF (aF (aA (FT rfl (nM rfl rfl rfl (bF rfl ?_)))))))))))))))
  refine aD (aC (af ?_))
  refine cK (fun (b : {b : Nat // b ≤ y.bins.length}) => live [(2, Ty.pp (iE y)), (3, Ty.pp (oL a)), (5, Ty.vs 15 y.bins.length), (31, Ty.int .i64 y.days), (32, Ty.int .i64 (d.1 : Nat)), (7, Ty.int .i64 (d.1 : Nat)), (36, Ty.int .i64 y.bins.length), (37, Ty.int .i64 (b.1 : Nat))] [(15, Cont.mx dN 23 3 5000 (xE y a d.1 b.1))]) (fun b => y.bins.length - b.1) (⟨0, by omega⟩) ?_ fun b => ?_
  ·(refine c8.mk' ?_ ?_ <;> (repeat' (first | exact aI | exact aH | refine aB ?_ (Ty.aR _) | refine aB ?_ (Ty.aG _) | refine aJ rfl ?_ ?_)))
   all_goals exact Cont.kK (LK (y := y) (a := a))
  have hb := b.2
  have hml := PF (y := y) (a := a) (d := d.1) (k := b.1)
  refine aF (aA (ak rfl rfl rfl (aD (aC (aF ?_)))))
  refine aa rfl (fun hc3 => ?_) (fun hc3 => ?_)
  ·refine bA (aC (aF (af (aF (aA (bF rfl (b9 rfl (aD (aC ?_)))))))))
   have hb2 : b.1 < y.bins.length := by omega
   have hmn := O0 (y := y) (a := a) (d := d.1) hb2
   have hrl := lg (y := y) (a := a) (b := b.1) (d := d.1)
   refine cg mixed rfl (FT rfl (bF rfl (FT rfl (bF rfl ?_))))
   refine eE rfl rfl rfl rfl rfl (by omega) ?_
   refine s7 b.1 rfl (by exact Nat.mul_one _) rfl (by decide) rfl rfl (by omega) ?_
   refine FT rfl (bF rfl ?_)
   refine eE rfl rfl rfl rfl rfl (by omega) ?_
   refine s7 b.1 rfl (by exact Nat.mul_one _) rfl (by decide) rfl rfl (by omega) ?_
   refine bF rfl ?_
   refine ny (j := d.1) rfl rfl rfl rfl rfl (by rw [hmn]; omega) ?_
   refine w6 (j := d.1) (o := 0) (ty := Ty.int .i64 (fG y a b.1 d.1)) rfl rfl rfl rfl (by rw [hmn]; omega) (by rw [hmn, vC (Nat.le_refl _)]; rfl) ?_
   refine bT (E := dN) (xs := [fG y a b.1 d.1]) rfl rfl rfl rfl rfl (by decide) (by decide) (by repeat (first | exact (aT.nil : aT _ _ [] _) | (show aT _ _ ((_, _) :: _) _; apply aT.one; (· exact (rfl : _ = Ty.int _ _)); (· exact rfl)))) (by exact rfl) rfl ?_
   refine Fg (i := b.1) (by omega) rfl rfl rfl (by decide) (by decide) rfl Nat.zero_lt_one rfl rfl rfl rfl rfl (by decide) (by rw [hmn]; simp only [hrl, List.length_singleton]; show (d.1 + 1 + 1) * 8 ≤ _; omega) (by rw [hmn]; simp only [hrl, List.length_singleton]; omega) ?_
   refine eE rfl rfl rfl rfl rfl (by omega) ?_
   refine Jb (i := b.1) rfl (by exact Nat.mul_one _) rfl (by decide) rfl rfl rfl (by omega) (by decide) ?_
   refine aD ?_
   refine ⟨by kernel_rfl, ?_⟩
   refine bH (aC ?_)
   refine jt (tg := 15) rfl (Cont.kK (congrArg (fun r => (xE y a d.1 b.1).set b.1 (r ++ [fG y a b.1 d.1])) hmn)) ?_
   refine aA ?_
   refine bz rfl rfl (by omega) (by omega) ?_
   refine bF rfl (aD ?_)
   refine bO (⟨b.1 + 1, by omega⟩) ?_ (by show y.bins.length - (b.1 + 1) < y.bins.length - b.1; omega)
   (refine c8.mk' ?_ ?_ <;> (repeat' (first | exact aI | exact aH | refine aB ?_ (Ty.aR _) | refine aB ?_ (Ty.aG _) | refine aJ rfl ?_ ?_)))
   all_goals skip
   all_goals exact Cont.kK (OX (by omega))
  refine cE (aL (aL (ah rfl (aC (aF ?_)))))
  obtain ⟨b, hb⟩ := b
  obtain rfl : b = y.bins.length := by have h1 : ¬ (b : Int) < (y.bins.length : Int) := hc3; have h2 : b ≤ y.bins.length := hb; omega
  refine jt (tg := 15) rfl (Cont.kK (Oy (y := y) (a := a) (d := d.1) (Nat.le_refl _))) ?_
  refine aA ?_
  refine aP rfl rfl rfl rfl rfl (by decide) ?_
  refine aK rfl rfl rfl rfl (cC rfl rfl rfl (bF rfl (aD (aC (af ?_)))))
  refine cK (fun (i : {i : Nat // i ≤ y.moves.length}) => live [(2, Ty.pp (iE y)), (3, Ty.pp (oL a)), (5, Ty.vs 15 y.bins.length), (31, Ty.int .i64 y.days), (32, Ty.int .i64 (d.1 : Nat)), (7, Ty.int .i64 (d.1 : Nat)), (58, Ty.sl iX y.moves), (59, Ty.int .i64 y.moves.length), (60, Ty.int .i64 (i.1 : Nat))] [(15, Cont.mx dN 23 3 5000 (oA y a d.1 i.1))]) (fun i => y.moves.length - i.1) (⟨0, by omega⟩) ?_ fun i => ?_
  ·(refine c8.mk' ?_ ?_ <;> (repeat' (first | exact aI | exact aH | refine aB ?_ (Ty.aR _) | refine aB ?_ (Ty.aG _) | refine aJ rfl (Cont.aG _) ?_)))
   all_goals trace_state
  have hi := i.2
  refine aF (aA (ak rfl rfl rfl (aD (aC (aF ?_)))))
  refine aa rfl (fun hc4 => ?_) (fun hc4 => ?_)
  ·refine bA (aC (aF (af (aF (aA (bF rfl ?_))))))
   refine bG rfl rfl rfl rfl rfl rfl (by omega) ?_
   refine az rfl rfl rfl (by exact Nat.le_of_ble_eq_true rfl) ?_
   refine dA rfl (by exact List.cons_ne_nil _ _) rfl ?_
   refine b9 rfl ?_
   refine eH rfl rfl (by decide) rfl rfl rfl rfl rfl rfl ?_
   refine aD (aC (aF (aF (aA ?_))))
   refine aS rfl rfl rfl rfl rfl (by decide) ?_
   refine aj rfl rfl (by decide) rfl rfl rfl ?_
   refine bF rfl (ak rfl rfl rfl (aD (aC ?_)))
   refine ck rfl (fun hc5 => ?_) (fun hc5 => ?_)
   ·refine cE (aL (ah rfl (aC (aA ?_))))
    refine bz rfl rfl (by omega) (by omega) ?_
    refine bF rfl (aD ?_)
    refine bO (⟨i.1 + 1, by omega⟩) ?_ (by show y.moves.length - (i.1 + 1) < y.moves.length - i.1; omega)
    (refine c8.mk' ?_ ?_ <;> (repeat' (first | exact aI | exact aH | refine aB ?_ (Ty.aR _) | refine aB ?_ (Ty.aG _) | refine aJ rfl ?_ ?_)))
    all_goals skip
    all_goals exact Cont.kK (Pg (by simpa using hc5))
   refine bA (aC ?_)
   refine qU (J := live [(2, Ty.pp (iE y)), (3, Ty.pp (oL a)), (5, Ty.vs 15 y.bins.length), (31, Ty.int .i64 y.days), (32, Ty.int .i64 (d.1 : Nat)), (7, Ty.int .i64 (d.1 : Nat)), (58, Ty.sl iX y.moves), (59, Ty.int .i64 y.moves.length), (60, Ty.int .i64 (i.1 : Nat)), (9, Ty.int .i64 (i.1 : Nat)), (10, Ty.ptr 11 0)] [(11, Cont.cells 50 (iX.tys (nth y.moves i.1))), (15, Cont.mx dN 23 3 5000 (ur y a d.1 i.1))]) ?_ ?_
   ·refine aF ?_
    have hde : (nth y.moves i.1).day = (d.1 : Nat) := by simpa using hc5
    have hi2 : i.1 < y.moves.length := by omega
    have hacl := NP (y := y) (a := a) (d := d.1) (i := i.1)
    have hhal := Gc (y := y) (a := a) (d := d.1) (i := i.1)
    have hmv := ha.bM _ (bL (show i.1 < a.bM.length by omega))
    refine aA ?_
    refine aS rfl rfl rfl rfl rfl (by decide) ?_
    refine aj rfl rfl (by decide) rfl rfl rfl ?_
    refine ak rfl rfl rfl (aD (aC ?_))
    refine ck rfl (fun hc6 => ?_) (fun hc6 => ?_)
    ·obtain ⟨f, hfe, hf⟩ := TV hr hi2 (by simpa using hc6)
     have hat := R9 (y := y) (a := a) (d := d.1) (i := i.1) hf
     have hav := J2 (d := d.1) (i := i.1) hr ha hf (by omega)
     refine jt (tg := 11) rfl (Cont.qc (l' := [Ty.int .i64 (nth y.moves i.1).day, Ty.int .i64 ((f : Nat) : Int), Ty.int .i64 (nth y.moves i.1).dst, Ty.int .i64 (nth y.moves i.1).sacks.lo, Ty.int .i64 (nth y.moves i.1).sacks.hi]) ⟨Ty.aG _, Ty.bJ hfe, Ty.aG _, Ty.aG _, Ty.aG _, trivial⟩) ?_
     refine cg mixed rfl (FT rfl ?_)
     refine aS rfl rfl rfl rfl rfl (by decide) ?_
     refine aj rfl rfl (by decide) rfl rfl rfl ?_
     refine eE rfl rfl rfl rfl rfl (by omega) ?_
     refine s7 f rfl (by exact Nat.mul_one _) rfl (by decide) rfl rfl (by omega) ?_
     refine bF rfl ?_
     refine bz rfl rfl (by omega) (by omega) ?_
     refine ny (j := d.1 + 1) rfl rfl rfl rfl rfl (by omega) ?_
     refine w6 (j := d.1 + 1) (o := 0) (ty := Ty.int .i64 (qN y a d.1 i.1 f)) rfl rfl rfl rfl (by omega) (by rw [hat.2]; rfl) ?_
     refine aP rfl rfl rfl rfl rfl (by decide) ?_
     refine aK rfl rfl rfl rfl (bF rfl ?_)
     refine bG rfl rfl rfl rfl rfl rfl (by omega) ?_
     refine aK rfl rfl rfl rfl ?_
     refine jB rfl rfl (by omega) (by omega) ?_
     refine ny (j := d.1 + 1) rfl rfl rfl rfl rfl (by omega) ?_
     refine Ax (j := d.1 + 1) (o := 0) (ty := Ty.int .i64 (qN y a d.1 i.1 f - nth a.bM i.1)) (z := qN y a d.1 i.1 f - nth a.bM i.1) rfl rfl rfl (by decide) rfl rfl rfl rfl (by omega) (by omega) (by decide) rfl rfl rfl (by decide) ?_
     refine aD ?_
     refine ⟨by kernel_rfl, ?_⟩
     refine iC ?_
     (refine c8.mk' ?_ ?_ <;> (repeat' (first | exact aI | exact aH | exact dH | refine aB ?_ (Ty.aR _) | refine aB ?_ (Ty.aG _) | refine aJ rfl (Cont.dI ?_) ?_ | refine bX ?_ (Ty.aG _) | refine bX ?_ ?_ | refine aJ rfl ?_ ?_)))
     all_goals first | exact Cont.kK (Qz hf hfe) | exact Ty.bJ hfe.symm
    refine bA (iC ?_)
    (refine c8.mk' ?_ ?_ <;> (repeat' (first | exact aI | exact aH | refine aB ?_ (Ty.aR _) | refine aB ?_ (Ty.aG _) | refine aJ rfl (Cont.aG _) ?_ | refine aJ rfl ?_ ?_)))
    all_goals exact Cont.kK (N8 (by simpa using hc6))
   refine aF ?_
   have hde : (nth y.moves i.1).day = (d.1 : Nat) := by simpa using hc5
   have hi2 : i.1 < y.moves.length := by omega
   have hhal := Gc (y := y) (a := a) (d := d.1) (i := i.1)
   have hmv := ha.bM _ (bL (show i.1 < a.bM.length by omega))
   refine aA ?_
   refine aS rfl rfl rfl rfl rfl (by decide) ?_
   refine aj rfl rfl (by decide) rfl rfl rfl ?_
   refine ak rfl rfl rfl (aD (aC ?_))
   refine ck rfl (fun hc7 => ?_) (fun hc7 => ?_)
   ·obtain ⟨f, hfe, hf⟩ := S6 hr hi2 (by simpa using hc7)
    have hat := TD (y := y) (a := a) (d := d.1) (i := i.1) hf
    have hav := RL (d := d.1) (i := i.1) hr ha hf (by omega)
    refine jt (tg := 11) rfl (Cont.qc (l' := [Ty.int .i64 (nth y.moves i.1).day, Ty.int .i64 (nth y.moves i.1).src, Ty.int .i64 ((f : Nat) : Int), Ty.int .i64 (nth y.moves i.1).sacks.lo, Ty.int .i64 (nth y.moves i.1).sacks.hi]) ⟨Ty.aG _, Ty.aG _, Ty.bJ hfe, Ty.aG _, Ty.aG _, trivial⟩) ?_
    refine cg mixed rfl (FT rfl ?_)
    refine aS rfl rfl rfl rfl rfl (by decide) ?_
    refine aj rfl rfl (by decide) rfl rfl rfl ?_
    refine eE rfl rfl rfl rfl rfl (by omega) ?_
    refine s7 f rfl (by exact Nat.mul_one _) rfl (by decide) rfl rfl (by omega) ?_
    refine bF rfl ?_
    refine bz rfl rfl (by omega) (by omega) ?_
    refine ny (j := d.1 + 1) rfl rfl rfl rfl rfl (by omega) ?_
    refine w6 (j := d.1 + 1) (o := 0) (ty := Ty.int .i64 (pJ y a d.1 i.1 f)) rfl rfl rfl rfl (by omega) (by rw [hat.2]; rfl) ?_
    refine aP rfl rfl rfl rfl rfl (by decide) ?_
    refine aK rfl rfl rfl rfl (bF rfl ?_)
    refine bG rfl rfl rfl rfl rfl rfl (by omega) ?_
    refine aK rfl rfl rfl rfl ?_
    refine bz rfl rfl (by omega) (by omega) ?_
    refine ny (j := d.1 + 1) rfl rfl rfl rfl rfl (by omega) ?_
    refine Ax (j := d.1 + 1) (o := 0) (ty := Ty.int .i64 (pJ y a d.1 i.1 f + nth a.bM i.1)) (z := pJ y a d.1 i.1 f + nth a.bM i.1) rfl rfl rfl (by decide) rfl rfl rfl rfl (by omega) (by omega) (by decide) rfl rfl rfl (by decide) ?_
    refine aD ?_
    refine ⟨by kernel_rfl, ?_⟩
    refine bH (aC (aA ?_))
    refine bz rfl rfl (by omega) (by omega) ?_
    refine bF rfl (aD ?_)
    refine bO (⟨i.1 + 1, by omega⟩) ?_ (by show y.moves.length - (i.1 + 1) < y.moves.length - i.1; omega)
    (refine c8.mk' ?_ ?_ <;> (repeat' (first | exact aI | exact aH | refine aB ?_ (Ty.aR _) | refine aB ?_ (Ty.aG _) | refine aJ rfl ?_ ?_)))
    all_goals skip
    all_goals exact Cont.kK (RQ hde hf hfe)
   refine bA (bH (aC (aA ?_)))
   refine bz rfl rfl (by omega) (by omega) ?_
   refine bF rfl (aD ?_)
   refine bO (⟨i.1 + 1, by omega⟩) ?_ (by show y.moves.length - (i.1 + 1) < y.moves.length - i.1; omega)
   (refine c8.mk' ?_ ?_ <;> (repeat' (first | exact aI | exact aH | refine aB ?_ (Ty.aR _) | refine aB ?_ (Ty.aG _) | refine aJ rfl ?_ ?_)))
   all_goals skip
   all_goals exact Cont.kK (PG hde (by simpa using hc7))
  refine cE (aL (aL (ah rfl (bH (aC ?_)))))
  obtain ⟨i, hi⟩ := i
  obtain rfl : i = y.moves.length := by have h1 : ¬ (i : Int) < (y.moves.length : Int) := hc4; have h2 : i ≤ y.moves.length := hi; omega
  refine jt (tg := 15) rfl (Cont.kK (Qt (y := y) (a := a) (d := d.1) rfl)) ?_
  refine aA ?_
  refine bz rfl rfl (by omega) (by omega) ?_
  refine bF rfl (aD ?_)
  refine bO (⟨d.1 + 1, by omega⟩) ?_ (by show y.D - (d.1 + 1) < y.D - d.1; omega)
  (refine c8.mk' ?_ ?_ <;> (repeat' (first | exact aI | exact aH | refine aB ?_ (Ty.aR _) | refine aB ?_ (Ty.aG _) | refine aJ rfl (Cont.aG _) ?_)))
  all_goals skip
  all_goals trace_state
 refine cE (aL (aL (ah rfl (aC (aF ?_)))))
 obtain ⟨d, hd⟩ := d
 obtain rfl : d = y.D := by have h1 : ¬ (d : Int) < y.days := hc2; have h2 : d ≤ y.D := hd; omega
 refine jt (tg := 15) rfl (Cont.kK (QN (y := y) (a := a) rfl)) ?_
 refine ox (tg := 5000) [] [(15, Cont.vec tu 23 (hU y a))] (by decide) rfl trivial ⟨RU rfl rfl (fun _ => rfl), trivial⟩ ?_
 have hcl : (hU y a).length = y.bins.length := by unfold hU; rw [List.length_map, List.length_range]
 refine uC (tg := 15) [(5, Ty.sl tu (hU y a))] (by decide) rfl ⟨Sl rfl rfl hcl (by decide), trivial⟩ ?_
 refine aA (gq rfl (Oa rfl (aD (aC (au (bK rfl rfl ?_))))))
 all_goals exact bN rfl rfl
 all_goals trace_state
end Go.Proofs.YtmmcenjknimhbaaGreat
namespace Go.Proofs.YtmmcenjknimhbaaGreat
open Go Go.T
set_option maxHeartbeats 8000000
def Tn (n : Int) : Bool := tO n 0 300
def xX (y : bw) (a : eo) : Bool := !decide ((a.first.length : Int) = y.bins.length) || !decide ((a.bM.length : Int) = y.moves.length)
def xx (a : eo) : Bool := !a.first.all Tn || !a.bM.all Tn
def pO (y : bw) (a : eo) : Int := if dy y = 0 then (if xX y a = true then 2 else if xx a = true then 3 else 0) else dy y
def we (y : bw) (a : eo) : List (List Int) := if pO y a = 0 then hU y a else []
section
variable {y : bw} {a : eo} {b t k : Nat} {n : Int}
theorem Rr (h : ¬ dy y = 0) : dy y = pO y a ∧ [] = we y a := by
 have e : dy y = pO y a := by unfold pO; rw [if_neg h]
 exact ⟨e, by unfold we; rw [← e, if_neg h]⟩
theorem Rf (h : dy y = 0) (h2 : xX y a = true) : 2 = pO y a ∧ [] = we y a := by
 have e : 2 = pO y a := by unfold pO; rw [if_pos h, if_pos h2]
 exact ⟨e, by unfold we; rw [← e, if_neg (by decide)]⟩
theorem R7 (h : dy y = 0) (h2 : xX y a = false) (h3 : xx a = true) : 3 = pO y a ∧ [] = we y a := by
 have e : 3 = pO y a := by unfold pO; rw [if_pos h, if_neg (by rw [h2]; decide), if_pos h3]
 exact ⟨e, by unfold we; rw [← e, if_neg (by decide)]⟩
theorem Rl (h : dy y = 0) (h2 : xX y a = false) (h3 : xx a = false) : 0 = pO y a ∧ hU y a = we y a := by
 have e : 0 = pO y a := by unfold pO; rw [if_pos h, if_neg (by rw [h2]; decide), if_neg (by rw [h3]; decide)]
 exact ⟨e, by unfold we; rw [← e, if_pos rfl]⟩
theorem Dv (h2 : xX y a = false) (h3 : xx a = false) : uY y a := by
 refine ⟨OB h2, ?_, ?_⟩ <;>
 ·unfold xx at h3
  rw [Bool.or_eq_false_iff, Bool.not_eq_false', Bool.not_eq_false'] at h3
  intro x hx
  first | exact fK.1 (List.all_eq_true.1 h3.1 x hx) | exact fK.1 (List.all_eq_true.1 h3.2 x hx)
theorem SG (h : pO y a = 0) : y.dj ∧ uY y a := by
  unfold pO at h
  by_cases h0 : dy y = 0
  · rw [if_pos h0] at h
    cases h2 : xX y a with
    | true => rw [h2, if_pos rfl] at h; cases h
    | false =>
      rw [h2, if_neg (by decide)] at h
      cases h3 : xx a with
      | true => rw [h3, if_pos rfl] at h; cases h
      | false => exact ⟨DJ h0, Dv h2 h3⟩
  · rw [if_neg h0] at h; exact absurd h h0
theorem La : (hU y a).length = y.bins.length := by unfold hU; rw [List.length_map, List.length_range]
theorem Cr (h : b < y.bins.length) : nth (hU y a) b = jY y a b y.D := by unfold hU; exact jK _ h
def Dg (y : bw) (a : eo) (b : Nat) : Prop := ((nth y.bins b).first.lo ≤ nth a.first b ∧ nth a.first b ≤ (nth y.bins b).first.hi) ∧ ∀ t : Nat, t ≤ y.D → 0 ≤ fG y a b t ∧ fG y a b t ≤ (nth y.bins b).holds
end
attribute [local irreducible] fG jY hU xX xx pO we dy
attribute [local irreducible] eG cZ jR j6 eP eO eK eM eS j8 eJ j4 b8 dc jz dZ j7 nth eZ cU aV cX bodyPost Exit.then Exit.inBlock Code.wp Code.wpIn dS mz mm m5 fT mq m7 fW mW eB fO lq bW bV bodyPostM cV
set_option maxRecDepth 100000 in
theorem OT (n : Int) : cX Tryz.prog 34 [Ty.int .i64 n] (Ty.bool (Tn n)) := by
 refine aY Tryz.func34 rfl (by decide) Tryz.ntmps34 (by exact Nat.le_of_ble_eq_true rfl) fun w0 M0 => ?_
 refine aF (aA (dG rfl (aD (aC (aF (aA (bF rfl (aq (wI _ _ _) rfl rfl rfl rfl rfl (dG rfl (aD (aC (au (bK rfl rfl ?_)))))))))))))
 all_goals exact bN rfl rfl
 all_goals trace_state
set_option maxRecDepth 100000 in
theorem Iw (y : bw) (hs : y.Small) (a : eo) (h1 : a.first.length ≤ 1000) (h2 : a.bM.length ≤ 1000) : cX Tryz.prog 10 [BI y, R6 a] (Ty.tE [Ty.sl tu (we y a), Ty.int .i64 (pO y a)]) := by
 refine aY Tryz.func10 rfl (by decide) Tryz.ntmps10 (by exact Nat.le_of_ble_eq_true rfl) fun w0 M0 => ?_
 have g1 := hs.bins
 have g2 := hs.moves
 refine aF (aA (bD rfl (bD rfl (mN rfl (b9 rfl (aD (aC (aF (aA (VW rfl (aD (aC (aF (aA ?_))))))))))))))
 refine az rfl rfl rfl (by exact Nat.le_of_ble_eq_true rfl) ?_
 refine aq (NL y hs) rfl rfl rfl rfl rfl (b9 rfl (aD (aC (aF (af (aF (aA (bF rfl (ak rfl rfl rfl (dG rfl (aD (aC ?_))))))))))))
 refine ck rfl (fun hc1 => ?_) (fun hc1 => ?_)
 ·refine aF (aA (bF rfl (mN rfl (b9 rfl (aD (aC (au (av (aW ?_)))))))))
  refine g9 rfl rfl rfl ?_ ?_
  all_goals skip
  all_goals first | exact fy (Rr hc1).2.symm | exact bE rfl rfl (congrArg (Ty.int .i64) (Rr hc1).1)
 refine aF (aA ?_)
 refine aP rfl rfl rfl rfl rfl (by decide) ?_
 refine aK rfl rfl rfl rfl (cC rfl rfl rfl ?_)
 refine aP rfl rfl rfl rfl rfl (by decide) ?_
 refine aK rfl rfl rfl rfl (cC rfl rfl rfl (ak rfl rfl rfl (kV rfl ?_)))
 apply aN (s := 22) rfl rfl rfl
 ·intro hg; apply aQ; (refine aP rfl rfl rfl rfl rfl (by decide) ?_); refine aD ?_; exact rfl
 ·exact rfl
 ·exact rfl
 apply aN (s := 22) rfl rfl rfl
 ·intro hg; apply aM (s := 23) rfl (by (rw [hg]; rfl)); apply aQ; (refine aK rfl rfl rfl rfl ?_); refine aD ?_; exact rfl
 ·exact rfl
 ·exact rfl
 apply aN (s := 22) rfl rfl rfl
 ·intro hg; apply aM (s := 24) rfl (by (rw [hg]; rfl)); apply aQ; (refine cC rfl rfl rfl ?_); refine aD ?_; exact rfl
 ·exact rfl
 ·exact rfl
 apply aN (s := 22) rfl rfl rfl
 ·intro hg; apply aQ; (refine aP rfl rfl rfl rfl rfl (by decide) ?_); refine aD ?_; exact rfl
 ·exact rfl
 ·exact rfl
 apply aN (s := 22) rfl rfl rfl
 ·intro hg; apply aM (s := 26) rfl (by (rw [hg]; rfl)); apply aQ; (refine aK rfl rfl rfl rfl ?_); refine aD ?_; exact rfl
 ·exact rfl
 ·exact rfl
 apply aN (s := 22) rfl rfl rfl
 ·intro hg; apply aM (s := 27) rfl (by (rw [hg]; rfl)); apply aQ; (refine cC rfl rfl rfl ?_); refine aD ?_; exact rfl
 ·exact rfl
 ·exact rfl
 apply aN (s := 22) rfl rfl rfl
 ·intro hg; apply aM (s := 25) rfl (by (rw [hg]; rfl)); apply aM (s := 28) rfl (by (rw [hg]; rfl)); apply aQ; (refine ak rfl rfl rfl ?_); refine aD ?_; exact rfl
 ·exact rfl
 ·exact rfl
 refine oB rfl rfl (dG rfl (aD (aC ?_)))
 refine c9 rfl (fun hc2 => ?_) (fun hc2 => ?_)
 ·refine aF ?_
  have hl2 : xX y a = true := by unfold xX; exact hc2
  refine aA (mN rfl (b9 rfl (aD (aC (au (av (aW ?_)))))))
  refine g9 rfl rfl rfl ?_ ?_
  all_goals skip
  all_goals first | exact fy (Rf hc1 hl2).2.symm | exact bE rfl rfl (congrArg (Ty.int .i64) (Rf hc1 hl2).1)
 refine aF ?_
 have hl2 : xX y a = false := by unfold xX; exact hc2
 refine aA ?_
 refine aP rfl rfl rfl rfl rfl (by decide) ?_
 refine aK rfl rfl rfl rfl (Uw rfl ?_)
 refine aq (vO a.first (Ty.j9 34 []) rfl Tn rfl rfl fun n _ => cY (OT n) rfl rfl rfl rfl rfl rfl) rfl rfl rfl rfl rfl ?_
 refine ct rfl (kV rfl ?_)
 apply aN (s := 37) rfl rfl rfl
 ·intro hg; apply aQ; (refine aP rfl rfl rfl rfl rfl (by decide) ?_); refine aD ?_; exact rfl
 ·exact rfl
 ·exact rfl
 apply aN (s := 37) rfl rfl rfl
 ·intro hg; apply aM (s := 38) rfl (by (rw [hg]; rfl)); apply aQ; (refine aK rfl rfl rfl rfl ?_); refine aD ?_; exact rfl
 ·exact rfl
 ·exact rfl
 apply aN (s := 37) rfl rfl rfl
 ·intro hg; apply aQ; (refine Uw rfl ?_); refine aD ?_; exact rfl
 ·exact rfl
 ·exact rfl
 apply aN (s := 37) rfl rfl rfl
 ·intro hg; apply aM (s := 39) rfl (by (rw [hg]; rfl)); apply aM (s := 40) rfl (by (rw [hg]; rfl)); apply aQ; (refine aq (vO a.bM (Ty.j9 34 []) rfl Tn rfl rfl fun n _ => cY (OT n) rfl rfl rfl rfl rfl rfl) rfl rfl rfl rfl rfl ?_); refine aD ?_; exact rfl
 ·exact rfl
 ·exact rfl
 apply aN (s := 37) rfl rfl rfl
 ·intro hg; apply aM (s := 41) rfl (by (rw [hg]; rfl)); apply aQ; (refine ct rfl ?_); refine aD ?_; exact rfl
 ·exact rfl
 ·exact rfl
 refine oB rfl rfl (dG rfl (aD (aC ?_)))
 refine c9 rfl (fun hc3 => ?_) (fun hc3 => ?_)
 ·refine aF ?_
  have hr3 : xx a = true := by unfold xx; exact hc3
  refine aA (mN rfl (b9 rfl (aD (aC (au (av (aW ?_)))))))
  refine g9 rfl rfl rfl ?_ ?_
  all_goals skip
  all_goals first | exact fy (R7 hc1 hl2 hr3).2.symm | exact bE rfl rfl (congrArg (Ty.int .i64) (R7 hc1 hl2 hr3).1)
 refine bA (bH (aC (aF ?_)))
 have hr3 : xx a = false := by unfold xx; exact hc3
 have hr := DJ hc1
 have ha := Dv hl2 hr3
 refine aA ?_
 refine az rfl rfl rfl (by exact Nat.le_of_ble_eq_true rfl) ?_
 refine az rfl rfl rfl (by exact Nat.le_of_ble_eq_true rfl) ?_
 refine aq (QL y a hr ha) rfl rfl rfl rfl rfl (Oa rfl (b9 rfl (aD (aC (au ?_)))))
 refine g9 rfl rfl rfl ?_ ?_
 all_goals skip
 all_goals first | exact bE rfl rfl (congrArg (Ty.sl tu) (Rl hc1 hl2 hr3).2) | exact bE rfl rfl (congrArg (Ty.int .i64) (Rl hc1 hl2 hr3).1)
end Go.Proofs.YtmmcenjknimhbaaGreat
namespace Go.Proofs.YtmmcenjknimhbaaGreat
open Go Go.T
structure Sk where
  grain : List Int
  taken : Int
  mixed : Int
def VJ (s : Sk) : Int := IntKind.u32.wrap (bits .xor .u32 s.mixed (IntKind.u32.wrap (nth s.grain (s.taken.tmod s.grain.length).toNat)) * 16777619)
def H8 (s : Sk) : Sk := if (s.grain.length : Int) > 0 then { s with mixed := VJ s } else s
def O2 (s : Sk) : Sk := { s with taken := s.taken + 1 }
def VI (s : Sk) : Int := IntKind.u32.wrap (IntKind.u32.wrap (s.mixed * 1664525) + 1013904223)
def JP (s : Sk) : Sk := if s.taken > (s.grain.length : Int) then { s with mixed := VI s } else s
def ew (s : Sk) : Sk := JP (O2 (H8 s))
def pT (s : Sk) : Int := IntKind.i64.wrap (bits .and .u32 (bits .xor .u32 s.mixed (s.mixed / 2 ^ (15 : Int).toNat) / 2 ^ (8 : Int).toNat) 65535)
def Sk.Ok (s : Sk) (n : Int) : Prop := 0 ≤ s.taken ∧ s.taken + n ≤ 4611686018427387904
theorem E6 (s : Sk) : (H8 s).taken = s.taken := by unfold H8; split <;> rfl
theorem EL (s : Sk) : (JP s).taken = s.taken := by unfold JP; split <;> rfl
theorem jO (s : Sk) : (ew s).taken = s.taken + 1 := by unfold ew; rw [EL, O2, E6]
theorem Bz (a : Int) : 0 ≤ bits .and .u32 a 65535 ∧ bits .and .u32 a 65535 ≤ 65535 := by
 have e : bits .and .u32 a 65535 = IntKind.u32.wrap (((BitVec.ofInt 32 a &&& BitVec.ofInt 32 65535).toNat : Nat) : Int) := rfl
 have h1 : (BitVec.ofInt 32 a &&& BitVec.ofInt 32 65535).toNat ≤ 65535 := by
  rw [BitVec.toNat_and]
  exact Nat.and_le_right
 rw [e]
 generalize (BitVec.ofInt 32 a &&& BitVec.ofInt 32 65535).toNat = n at h1
 have : IntKind.u32.wrap (n : Int) = (n : Int) % 4294967296 := rfl
 rw [this]; omega
theorem HR (s : Sk) : 0 ≤ pT s ∧ pT s ≤ 65535 := by
 have h := Bz (bits .xor .u32 s.mixed (s.mixed / 2 ^ (15 : Int).toNat) / 2 ^ (8 : Int).toNat)
 unfold pT
 rw [IntWalk.i64_in _ (by omega)]; exact h
def mU (s : Sk) (n : Int) : Int := (pT (ew s)).tmod (max 1 n)
theorem ot (s : Sk) (n : Int) : 0 ≤ mU s n ∧ mU s n < max 1 n ∧ mU s n ≤ 65535 := by
 have h := HR (ew s)
 unfold mU
 have h1 : (pT (ew s)).tmod (max 1 n) = pT (ew s) % max 1 n := Int.tmod_eq_emod_of_nonneg h.1
 have h2 := Int.emod_lt_of_pos (pT (ew s)) (show 0 < max 1 n by omega)
 have h3 := Int.emod_nonneg (pT (ew s)) (show max 1 n ≠ 0 by omega)
 have h4 : pT (ew s) % max 1 n ≤ pT (ew s) := by
  have := Int.mul_ediv_add_emod (pT (ew s)) (max 1 n)
  have hq : 0 ≤ pT (ew s) / max 1 n := Int.ediv_nonneg h.1 (by omega)
  have : 0 ≤ max 1 n * (pT (ew s) / max 1 n) := Int.mul_nonneg (by omega) hq
  omega
 omega
def oM (s : Sk) (lo hi : Int) : Int := lo + mU s (hi - lo + 1)
def Pn (s : Sk) (n : Int) : Bool := decide (mU s n = 0)
def D9 (xs : List Int) (i : Nat) (k : Int) : List Int := xs.take i ++ k :: xs.drop i
theorem Np {xs : List Int} {i : Nat} (h : i ≤ xs.length) (k : Int) : (D9 xs i k).length = xs.length + 1 := by simp [D9]; omega
theorem Pz {xs : List Int} {i : Nat} {k x : Int} : x ∈ D9 xs i k ↔ x = k ∨ x ∈ xs := by
 unfold D9
 rw [List.mem_append, List.mem_cons]
 constructor
 ·rintro (h | rfl | h)
  ·exact .inr (List.mem_of_mem_take h)
  ·exact .inl rfl
  exact .inr (List.mem_of_mem_drop h)
 rintro (rfl | h)
 ·exact .inr (.inl rfl)
 rw [← List.take_append_drop i xs, List.mem_append] at h
 exact h.imp id .inr
theorem JL {xs : List Int} {i : Nat} {k : Int} (h : xs.Nodup) (hk : k ∉ xs) : (D9 xs i k).Nodup := by
 unfold D9
 have h2 : (xs.take i ++ xs.drop i).Nodup := by rw [List.take_append_drop]; exact h
 rw [List.nodup_append] at h2 ⊢
 obtain ⟨a, b, c⟩ := h2
 refine ⟨a, List.nodup_cons.2 ⟨fun h => hk (List.mem_of_mem_drop h), b⟩, fun x hx y hy => ?_⟩
 rcases List.mem_cons.1 hy with rfl | hy
 ·rintro rfl; exact hk (List.mem_of_mem_take hx)
 exact c x hx y hy
def k6 (s : Sk) : Nat → List Int × Sk
  | 0 => ([], s)
  | k + 1 => (D9 (k6 s k).1 (mU (k6 s k).2 ((k : Int) + 1)).toNat k, ew (k6 s k).2)
theorem xC (s : Sk) : ∀ k, (k6 s k).1.length = k ∧ (k6 s k).1.Nodup ∧ (∀ x, x ∈ (k6 s k).1 ↔ 0 ≤ x ∧ x < (k : Int)) ∧ (k6 s k).2.taken = s.taken + k
  | 0 => ⟨rfl, List.nodup_nil, fun x => ⟨fun h => (by cases h), fun h => by omega⟩, by simp [k6]⟩
  | k + 1 => by
    obtain ⟨h1, h2, h3, h4⟩ := xC s k
    have hb := ot (k6 s k).2 ((k : Int) + 1)
    refine ⟨?_, JL h2 (fun h => by have := (h3 _).1 h; omega), fun x => ?_, ?_⟩
    · show (D9 _ _ _).length = _
      rw [Np (by omega), h1]
    · show x ∈ D9 _ _ _ ↔ _
      rw [Pz, h3]; omega
    · show (ew _).taken = _
      rw [jO, h4]; omega
end Go.Proofs.YtmmcenjknimhbaaGreat
namespace Go.Proofs.YtmmcenjknimhbaaGreat
open Go Go.T
def bR.free (b : bR) (k : Int) : Bool := b.lots.all fun l => !decide (l.inn = k)
def bR.wanted (b : bR) (k : Int) : Bool := b.lots.any fun l => decide (l.aim = k)
def follows (b : bR) (i : Int) : Int := fidx (fun l => decide (l.inn = (nth b.lots i.toNat).aim)) b.lots
theorem IS {α : Type} (p : α → Bool) (l : List α) : -1 ≤ fidx p l ∧ fidx p l < l.length := by
  unfold fidx
  cases h : l.findIdx? p with
  | none => exact ⟨Int.le_refl _, by show (-1 : Int) < l.length; omega⟩
  | some i =>
    have := (List.findIdx?_eq_some_iff_getElem.1 h).1
    exact ⟨by show (-1 : Int) ≤ (i : Int); omega, by show (i : Int) < l.length; omega⟩
theorem tZ (b : bR) (i : Int) : -1 ≤ follows b i ∧ follows b i < b.lots.length := IS _ _
def zm (b : bR) (i : Int) : Nat → List Int → Option (List Int)
  | 0, _ => none
  | f + 1, l => if follows b (nth l (l.length - 1)) = i ∧ 1 < l.length then some l else if follows b (nth l (l.length - 1)) ≤ i then none else
    if l.length + 1 > b.lots.length then none else zm b i f (l ++ [follows b (nth l (l.length - 1))])
def uL (b : bR) (i : Nat) : Option (List Int) := zm b i (b.lots.length + 1) [(i : Int)]
structure Rz (b : bR) (i : Nat) (l : List Int) : Prop where
  pos : 1 ≤ l.length
  len : l.length ≤ b.lots.length
  rng : ∀ x ∈ l, 0 ≤ x ∧ x < b.lots.length
  same : uL b i = zm b i (b.lots.length + 2 - l.length) l
section
variable {b : bR} {i : Nat} {l : List Int} (x : Rz b i l)
include x
theorem Rz.last : 0 ≤ nth l (l.length - 1) ∧ nth l (l.length - 1) < b.lots.length := x.rng _ (bL (by have := x.pos; omega))
theorem Rz.step : uL b i = if follows b (nth l (l.length - 1)) = i ∧ 1 < l.length then some l else if follows b (nth l (l.length - 1)) ≤ i then none else
 if l.length + 1 > b.lots.length then none else zm b i (b.lots.length + 1 - l.length) (l ++ [follows b (nth l (l.length - 1))]) := by
 have h1 := x.pos
 have h2 := x.len
 rw [x.same, show b.lots.length + 2 - l.length = (b.lots.length + 1 - l.length) + 1 by omega]; rfl
theorem Rz.found (h1 : follows b (nth l (l.length - 1)) = i) (h2 : 1 < l.length) : uL b i = some l := by rw [x.step, if_pos ⟨h1, h2⟩]
theorem Rz.stop (h1 : ¬ (follows b (nth l (l.length - 1)) = i ∧ 1 < l.length)) (h2 : follows b (nth l (l.length - 1)) ≤ i) : uL b i = none := by rw [x.step, if_neg h1, if_pos h2]
theorem Rz.Ut (h1 : ¬ (follows b (nth l (l.length - 1)) = i ∧ 1 < l.length)) (h2 : ¬ follows b (nth l (l.length - 1)) ≤ i) (h3 : b.lots.length < l.length + 1) : uL b i = none := by rw [x.step, if_neg h1, if_neg h2, if_pos h3]
theorem Rz.next (h1 : ¬ (follows b (nth l (l.length - 1)) = i ∧ 1 < l.length)) (h2 : ¬ follows b (nth l (l.length - 1)) ≤ i) (h3 : ¬ b.lots.length < l.length + 1) : Rz b i (l ++ [follows b (nth l (l.length - 1))]) := by
 refine ⟨by simp, by simp; omega, fun y hy => ?_, ?_⟩
 ·rcases List.mem_append.1 hy with h | h
  ·exact x.rng y h
  rw [List.mem_singleton.1 h]
  have := tZ b (nth l (l.length - 1)); omega
 rw [x.step, if_neg h1, if_neg h2, if_neg h3, List.length_append, List.length_singleton]
 congr 1
 omega
end
end Go.Proofs.YtmmcenjknimhbaaGreat
namespace Go.Proofs.YtmmcenjknimhbaaGreat
open Go Go.T
section
variable {κ β : Type} [DecidableEq κ]
theorem CK (q : List (κ × β)) (k : κ) (v : β) (x : κ) : x ∈ (cq q k v).map Prod.fst ↔ x = k ∨ x ∈ q.map Prod.fst := by
  induction q with
  | nil => simp [cq]
  | cons y l ih =>
    simp only [cq]
    by_cases h : y.1 = k
    · subst h; simp
    · rw [if_neg h]; simp only [List.map_cons, List.mem_cons, ih]
      constructor
      · rintro (h | h | h)
        · exact .inr (.inl h)
        · exact .inl h
        · exact .inr (.inr h)
      · rintro (h | h | h)
        · exact .inr (.inl h)
        · exact .inl h
        · exact .inr (.inr h)
theorem kX (q : List (κ × β)) (k : κ) (v : β) (hn : (q.map Prod.fst).Nodup) : ((cq q k v).map Prod.fst).Nodup := by
  induction q with
  | nil => simp [cq]
  | cons y l ih =>
    rw [List.map_cons, List.nodup_cons] at hn
    simp only [cq]
    by_cases h : y.1 = k
    · subst h; rw [if_pos rfl, List.map_cons, List.nodup_cons]; exact hn
    · rw [if_neg h, List.map_cons, List.nodup_cons]
      refine ⟨fun hm => ?_, ih hn.2⟩
      rcases (CK l k v y.1).1 hm with e | e
      · exact h e
      · exact hn.1 e
theorem HF {q : List (κ × β)} {k : κ} (h : k ∈ q.map Prod.fst) : ∃ v, bf q k = some v := by
  induction q with
  | nil => cases h
  | cons y l ih =>
    simp only [bf]
    by_cases e : y.1 = k
    · exact ⟨_, if_pos e⟩
    · rw [if_neg e]; rw [List.map_cons, List.mem_cons] at h
      exact ih (h.resolve_left fun h => e h.symm)
theorem wE (q : List (κ × β)) (k : κ) (v : β) (h : bf q k = none) : (cq q k v).length = q.length + 1 := by
  induction q with
  | nil => rfl
  | cons y l ih =>
    simp only [bf] at h
    by_cases e : y.1 = k
    · rw [if_pos e] at h; cases h
    · rw [if_neg e] at h; simp only [cq, if_neg e, List.length_cons, ih h]
theorem MG {α : Type} (y : κ × List α) (l : List (κ × List α)) (k : κ) : JN (y :: l) k = if y.1 = k then l else y :: JN l k := by
  unfold JN
  rw [List.map_cons, List.findIdx?_cons]
  by_cases e : y.1 = k
  · rw [if_pos e, decide_eq_true e]; rfl
  · rw [if_neg e, decide_eq_false e]
    cases h : (l.map Prod.fst).findIdx? fun x => decide (x = k) with
    | none => simp
    | some i => simp
end
def rowAt {α : Type} (q : List (Int × List α)) (m : Int) : List α := (bf q m).getD []
theorem nA {α : Type} (q : List (Int × List α)) (n : Int) (r : List α) (m : Int) : rowAt (cq q n r) m = if n = m then r else rowAt q m := by
 unfold rowAt; rw [nI]; split <;> rfl
def qu {α : Type} : List (Int × List α) → Int
  | [] => 0
  | x :: l => x.2.length + qu l
theorem z7 {α : Type} (q : List (Int × List α)) (n : Int) (r : List α) : qu (cq q n r) = qu q - (rowAt q n).length + r.length := by
  induction q with
  | nil => simp [cq, qu, rowAt, bf]
  | cons y l ih =>
    simp only [cq]
    by_cases e : y.1 = n
    · rw [if_pos e]; simp only [qu, rowAt, bf, if_pos e, Option.getD_some]; omega
    · rw [if_neg e]; simp only [qu, ih]
      have : rowAt (y :: l) n = rowAt l n := by simp only [rowAt, bf, if_neg e]
      rw [this]; omega
theorem Nz {α : Type} (q : List (Int × List α)) (n : Int) : qu (JN q n) = qu q - (rowAt q n).length := by
  induction q with
  | nil => simp [JN, qu, rowAt, bf]
  | cons y l ih =>
    rw [MG]
    by_cases e : y.1 = n
    · rw [if_pos e]; simp only [qu, rowAt, bf, if_pos e, Option.getD_some]; omega
    · rw [if_neg e]; simp only [qu, ih]
      have : rowAt (y :: l) n = rowAt l n := by simp only [rowAt, bf, if_neg e]
      rw [this]; omega
theorem yW {α : Type} : ∀ (q : List (Int × List α)), 0 ≤ qu q
  | [] => Int.le_refl _
  | x :: l => by have := yW l; simp only [qu]; omega
theorem GQ {α : Type} (q : List (Int × List α)) (n : Int) : (rowAt q n).length ≤ qu q := by
 have h1 := Nz q n
 have h2 := yW (JN q n)
 omega
theorem w9 {α : Type} [DecidableEq α] : ∀ {l L : List α}, l.Nodup → (∀ x ∈ l, x ∈ L) → l.length ≤ L.length
  | [], _, _, _ => Nat.zero_le _
  | x :: l, L, hn, h => by
    rw [List.nodup_cons] at hn
    have h1 := List.length_erase_of_mem (h x List.mem_cons_self)
    have h2 := w9 (l := l) (L := L.erase x) hn.2 fun y hy => (List.mem_erase_of_ne (fun (e : y = x) => hn.1 (by rw [← e]; exact hy))).2 (h y (List.mem_cons_of_mem _ hy))
    have h3 := List.length_pos_of_mem (h x List.mem_cons_self)
    simp only [List.length_cons]; omega
def Qj : Nat → List (List Int)
  | 0 => [[]]
  | n + 1 => (List.range 7).flatMap fun (k : Nat) => (Qj n).map fun l => (k : Int) :: l
theorem HQ : ∀ {n : Nat} {l : List Int}, l.length = n → (∀ x ∈ l, 0 ≤ x ∧ x < 7) → l ∈ Qj n
  | 0, l, h, _ => by rw [List.length_eq_zero_iff.1 h]; exact List.mem_singleton.2 rfl
  | n + 1, [], h, _ => by cases h
  | n + 1, x :: l, h, hr => by
    have hx := hr x List.mem_cons_self
    exact List.mem_flatMap.2 ⟨x.toNat, List.mem_range.2 (by omega), List.mem_map.2 ⟨l, HQ (by simpa using h) fun y hy => hr y (List.mem_cons_of_mem _ hy), by rw [show ((x.toNat : Nat) : Int) = x by omega]⟩⟩
def gb : Nat := (Qj 6).length
abbrev Pl := U9 6
instance : Inhabited Pl := ⟨⟨[0, 0, 0, 0, 0, 0], rfl⟩⟩
def bM (p : Pl) (t : cr) : Pl := ⟨p.1.set t.dz.toNat t.aim, by rw [List.length_set]; exact p.2⟩
def mI (b : bR) (p : Pl) (k : Int) : Bool := (p.1.take b.lots.length).any fun n => decide (n = k)
def s9 (b : bR) (p : Pl) (k : Nat) : List cr := if mI b p k = true then [] else ((List.range b.lots.length).filter fun (i : Nat) => b.hold k i).map fun (i : Nat) => ⟨i, k⟩
def cH (b : bR) (p : Pl) : List cr := (List.range b.sizes.length).flatMap (s9 b p)
theorem yK {b : bR} {p : Pl} {k : Nat} {t : cr} : t ∈ s9 b p k ↔ t.aim = k ∧ 0 ≤ t.dz ∧ t.dz < b.lots.length ∧ mI b p k = false ∧ b.hold k t.dz = true := by
  unfold s9
  cases h : mI b p k with
  | true => simp
  | false =>
    rw [if_neg (by decide), List.mem_map]
    simp only [List.mem_filter, List.mem_range]
    constructor
    · rintro ⟨i, ⟨h1, h2⟩, rfl⟩
      exact ⟨rfl, by show 0 ≤ (i : Int); omega, by show (i : Int) < _; omega, by first | rfl | trivial, h2⟩
    · rintro ⟨h1, h2, h3, _, h4⟩
      refine ⟨t.dz.toNat, ⟨by omega, by rw [show ((t.dz.toNat : Nat) : Int) = t.dz by omega]; exact h4⟩, ?_⟩
      cases t; simp only [cr.mk.injEq] at *; exact ⟨by omega, h1.symm⟩
theorem ij {b : bR} {p : Pl} {t : cr} : t ∈ cH b p ↔ 0 ≤ t.dz ∧ t.dz < b.lots.length ∧ 0 ≤ t.aim ∧ t.aim < b.sizes.length ∧ mI b p t.aim = false ∧ b.hold t.aim t.dz = true := by
 unfold cH
 rw [List.mem_flatMap]
 constructor
 ·rintro ⟨k, hk, h⟩
  rw [List.mem_range] at hk
  obtain ⟨h1, h2, h3, h4, h5⟩ := yK.1 h
  rw [h1]
  exact ⟨h2, h3, by omega, by omega, h4, h5⟩
 rintro ⟨h1, h2, h3, h4, h5, h6⟩
 have e : ((t.aim.toNat : Nat) : Int) = t.aim := by omega
 exact ⟨t.aim.toNat, List.mem_range.2 (by omega), yK.2 ⟨e.symm, h1, h2, by rw [e]; exact h5, by rw [e]; exact h6⟩⟩
def fj (b : bR) (p : Pl) : Bool := (List.range b.lots.length).all fun i => decide ((nth b.lots i).aim = -1) || decide ((nth b.lots i).aim = nth p.1 i)
def cP (b : bR) : Pl := ⟨((b.lots.map fun (l : R2) => l.inn) ++ List.replicate 6 (0 : Int)).take 6, by rw [List.length_take, List.length_append, List.length_replicate]; omega⟩
def oy (b : bR) : Pl → List cr → Option Pl
  | p, [] => some p
  | p, t :: l => if t ∈ cH b p then oy b (bM p t) l else none
theorem qL (b : bR) : ∀ (l : List cr) (p : Pl) (l' : List cr), oy b p (l ++ l') = (oy b p l).bind fun q => oy b q l'
  | [], p, l' => rfl
  | t :: l, p, l' => by
    show (if t ∈ cH b p then oy b (bM p t) (l ++ l') else none) = Option.bind (if t ∈ cH b p then oy b (bM p t) l else none) _
    by_cases h : t ∈ cH b p
    · rw [if_pos h, if_pos h, qL b l (bM p t) l']
    · rw [if_neg h, if_neg h]; rfl
theorem RO {b : bR} {p : Pl} {t : cr} (h : t ∈ cH b p) : oy b p [t] = some (bM p t) := if_pos h
theorem Bi {b : bR} {p q : Pl} {l : List cr} {t : cr} (h1 : oy b p l = some q) (h2 : t ∈ cH b q) : oy b p (l ++ [t]) = some (bM q t) := by
 rw [qL, h1]; exact RO h2
theorem EE {b : bR} {p r : Pl} {l : List cr} {t : cr} (h : oy b p (l ++ [t]) = some r) : ∃ q, oy b p l = some q ∧ t ∈ cH b q ∧ r = bM q t := by
  rw [qL] at h
  cases h1 : oy b p l with
  | none => rw [h1] at h; cases h
  | some q =>
    rw [h1] at h
    have h : (if t ∈ cH b q then some (bM q t) else none) = some r := h
    by_cases h2 : t ∈ cH b q
    · rw [if_pos h2] at h; injection h with h; exact ⟨q, rfl, h2, h.symm⟩
    · rw [if_neg h2] at h; cases h
def j3 (c : cr → Int) (l : List cr) : Int := (l.map c).sum
theorem qO (c : cr → Int) (l l' : List cr) : j3 c (l ++ l') = j3 c l + j3 c l' := by
 unfold j3; rw [List.map_append, List.sum_append]
theorem xe (c : cr → Int) (t : cr) : j3 c [t] = c t := by simp [j3]
theorem C7 {α : Type} : ∀ (l : List α), l = [] ∨ ∃ l' x, l = l' ++ [x]
  | [] => .inl rfl
  | x :: l => by
    rcases C7 l with h | ⟨l', y, h⟩
    · subst h; exact .inr ⟨[], x, rfl⟩
    · subst h; exact .inr ⟨x :: l', y, rfl⟩
theorem AG {α : Type} {C : List α → Prop} (h0 : C []) (h1 : ∀ l x, C l → C (l ++ [x])) : ∀ l, C l := by
  intro l
  have key : ∀ n (l : List α), l.length = n → C l := by
    intro n
    induction n with
    | zero => intro l h; rw [List.length_eq_zero_iff.1 h]; exact h0
    | succ n ih =>
      intro l h
      rcases C7 l with e | ⟨l', x, e⟩
      · subst e; cases h
      · subst e; exact h1 l' x (ih l' (by simpa using h))
  exact key _ l rfl
def uE (p : Pl) : Prop := ∀ x ∈ p.1, 0 ≤ x ∧ x < 7
theorem IL {b : bR} (h : b.dj) : uE (cP b) := fun x hx => by
 have hx : x ∈ ((b.lots.map fun (l : R2) => l.inn) ++ List.replicate 6 (0 : Int)).take 6 := hx
 rcases List.mem_append.1 (List.mem_of_mem_take hx) with hx | hx
 ·obtain ⟨l, hl, rfl⟩ := List.mem_map.1 hx
  have h1 := h.inn l hl; have h2 := h.bins; omega
 rw [List.eq_of_mem_replicate hx]; omega
theorem Hu {b : bR} (h : b.dj) {p : Pl} {t : cr} (hp : uE p) (ht : t ∈ cH b p) : uE (bM p t) := fun x hx => by
 rcases List.mem_or_eq_of_mem_set hx with hx | hx
 ·exact hp x hx
 have h1 := ij.1 ht; have h2 := h.bins; omega
theorem Aa {b : bR} (h : b.dj) : ∀ (l : List cr) {p q : Pl}, uE p → oy b p l = some q → uE q
  | [], p, q, hp, e => by injection e with e; exact e ▸ hp
  | t :: l, p, q, hp, e => by
    have e : (if t ∈ cH b p then oy b (bM p t) l else none) = some q := e
    by_cases ht : t ∈ cH b p
    · rw [if_pos ht] at e; exact Aa h l (Hu h hp ht) e
    · rw [if_neg ht] at e; cases e
theorem AN {l : List Pl} (hn : l.Nodup) (h : ∀ p ∈ l, uE p) : l.length ≤ gb := by
 have := w9 (l := l.map Subtype.val) (L := Qj 6) (by
  rw [List.nodup_iff_pairwise_ne, List.pairwise_map]
  exact hn.imp fun hab e => hab (Subtype.ext e)) fun x hx => by
   obtain ⟨p, hp, rfl⟩ := List.mem_map.1 hx
   exact HQ p.2 (h p hp)
 rwa [List.length_map] at this
theorem G7 (b : bR) (p : Pl) (k : Nat) : (s9 b p k).length ≤ b.lots.length := by
 unfold s9
 split
 ·exact Nat.zero_le _
 rw [List.length_map]; exact Nat.le_trans (List.length_filter_le _ _) (by simp)
theorem c7 {α β : Type} (f : α → List β) (m : Nat) (h : ∀ x, (f x).length ≤ m) : ∀ l : List α, (l.flatMap f).length ≤ l.length * m
  | [] => Nat.zero_le _
  | x :: l => by
    have h1 := c7 f m h l
    have h2 := h x
    rw [List.flatMap_cons, List.length_append, List.length_cons, Nat.succ_mul]; omega
theorem zo {b : bR} (h : b.dj) (p : Pl) : (cH b p).length ≤ 42 := by
 have h1 := c7 (s9 b p) b.lots.length (G7 b p) (List.range b.sizes.length)
 rw [List.length_range] at h1
 have h2 : b.sizes.length * b.lots.length ≤ 7 * 6 := Nat.mul_le_mul h.bins.2 h.lots
 exact Nat.le_trans h1 h2
attribute [irreducible] gb
end Go.Proofs.YtmmcenjknimhbaaGreat
namespace Go.Proofs.YtmmcenjknimhbaaGreat
open Go Go.T
structure Way where
  frm : Pl
  byT : List cr
  all : Int
  deriving Inhabited
structure Found where
  ways : List (Pl × Way)
  last : Pl
  is : Bool
  deriving Inhabited
def U7 : Pl := ⟨[0, 0, 0, 0, 0, 0], rfl⟩
def CB : Way := ⟨U7, [], 0⟩
structure St where
  ways : List (Pl × Way)
  queue : List (Int × List Pl)
  left : Int
  done : List (Pl × Bool)
  now : Int
def EF (ways : List (Pl × Way)) (q : Pl) (n : Int) : Bool := (bf ways q).isSome && decide (min n ((bf ways q).getD CB).all = ((bf ways q).getD CB).all)
theorem M7 {ways : List (Pl × Way)} {q : Pl} {n : Int} (h : EF ways q n = true) : ∃ w, bf ways q = some w ∧ w.all ≤ n := by
  unfold EF at h
  rw [Bool.and_eq_true] at h
  cases e : bf ways q with
  | none => rw [e] at h; exact absurd h.1 (by decide)
  | some w => rw [e] at h; have := of_decide_eq_true h.2; simp only [Option.getD_some] at this; exact ⟨w, rfl, by omega⟩
theorem u6 {ways : List (Pl × Way)} {q : Pl} {n : Int} (h : EF ways q n = false) {w : Way} (e : bf ways q = some w) : n < w.all := by
 unfold EF at h
 rw [e] at h
 simp only [Option.isSome_some, Bool.true_and, Option.getD_some, decide_eq_false_iff_not] at h; omega
def nK (c : cr → Int) (p : Pl) (x : St) (t : cr) : St :=
  if EF x.ways (bM p t) (x.now + c t) = true then x else
    { x with ways := cq x.ways (bM p t) ⟨p, [t], x.now + c t⟩, queue := cq x.queue (x.now + c t) (rowAt x.queue (x.now + c t) ++ [bM p t]), left := x.left + 1 }
theorem Lc {c : cr → Int} {p : Pl} {x : St} {t : cr} (h : EF x.ways (bM p t) (x.now + c t) = true) : nK c p x t = x := if_pos h
theorem OW {c : cr → Int} {p : Pl} {x : St} {t : cr} (h : EF x.ways (bM p t) (x.now + c t) = false) : nK c p x t = { x with ways := cq x.ways (bM p t) ⟨p, [t], x.now + c t⟩, queue := cq x.queue (x.now + c t) (rowAt x.queue (x.now + c t) ++ [bM p t]), left := x.left + 1 } := if_neg (by rw [h]; decide)
theorem JZ (c : cr → Int) (p : Pl) (x : St) (t : cr) : (nK c p x t).done = x.done := by unfold nK; split <;> rfl
theorem L4 (c : cr → Int) (p : Pl) (x : St) (t : cr) : (nK c p x t).now = x.now := by unfold nK; split <;> rfl
structure Inv (b : bR) (c : cr → Int) (all : Bool) (F : Pl → List cr) (R : Int) (x : St) : Prop where
  now0 : 0 ≤ x.now
  start : bf x.ways (cP b) = some CB
  keys : (x.ways.map Prod.fst).Nodup
  qkeys : (x.queue.map Prod.fst).Nodup
  dkeys : (x.done.map Prod.fst).Nodup
  dval : ∀ p v, bf x.done p = some v → v = true
  via : ∀ q w, bf x.ways q = some w → q = cP b ∨ ∃ t w', w.byT = [t] ∧ t ∈ cH b w.frm ∧ q = bM w.frm t ∧ bf x.done w.frm = some true ∧ bf x.ways w.frm = some w' ∧ w.all = w'.all + c t
  walk : ∀ q w, bf x.ways q = some w → ∃ l, oy b (cP b) l = some q ∧ j3 c l = w.all
  fin : ∀ p, bf x.done p = some true → ∃ w, bf x.ways p = some w ∧ w.all ≤ x.now ∧ ∀ t ∈ F p, ∃ w', bf x.ways (bM p t) = some w' ∧ w'.all ≤ w.all + c t
  wait : ∀ q w, bf x.ways q = some w → bf x.done q = none → x.now ≤ w.all ∧ q ∈ rowAt x.queue w.all
  que : ∀ m q, q ∈ rowAt x.queue m → x.now ≤ m ∧ m ≤ 300 * x.done.length ∧ ∃ w, bf x.ways q = some w ∧ w.all ≤ m
  left : x.left = qu x.queue
  lim : x.left + R ≤ 1 + 42 * x.done.length
  no : all = false → ∀ p, bf x.done p = some true → fj b p = false
  cap : ∀ q w, bf x.ways q = some w → w.all ≤ 300 * x.done.length
structure At (b : bR) (p : Pl) (x : St) : Prop where
  done : bf x.done p = some true
  way : ∃ w, bf x.ways p = some w ∧ w.all = x.now
  cap : x.now + 300 ≤ 300 * x.done.length
variable {b : bR} {c : cr → Int} {all : Bool} {F : Pl → List cr} {R : Int} {x : St} {p : Pl} {t : cr}
theorem Inv.weaken {R' : Int} (h : Inv b c all F R x) (hR : R' ≤ R) : Inv b c all F R' x := { h with lim := by have := h.lim; omega }
theorem Inv.Ua {F' : Pl → List cr} (h : Inv b c all F R x) (hF : ∀ p, bf x.done p = some true → ∀ t ∈ F' p, t ∈ F p) : Inv b c all F' R x :=
 { h with fin := fun p hp => let ⟨w, h1, h2, h3⟩ := h.fin p hp; ⟨w, h1, h2, fun t ht => h3 t (hF p hp t ht)⟩ }
theorem HL (h : Inv b c all F R x) (hp : At b p x) (hct : 1 ≤ c t) (hm : EF x.ways (bM p t) (x.now + c t) = false) {r : Pl} {w : Way} (hw : bf x.ways r = some w) (hle : w.all ≤ x.now) : bM p t ≠ r := fun e => by
 subst e
 have := u6 hm hw
 omega
theorem Mx (h : Inv b c all F R x) (hp : At b p x) (ht : t ∈ cH b p) (hct : 1 ≤ c t ∧ c t ≤ 300) : Inv b c all (fun r => if r = p then F r ++ [t] else F r) (R - 1) (nK c p x t) ∧ At b p (nK c p x t) := by
  obtain ⟨hpd, ⟨wp, hwp, hwn⟩, hcap⟩ := hp
  have hp : At b p x := ⟨hpd, ⟨wp, hwp, hwn⟩, hcap⟩
  have h0 := h.now0
  cases hm : EF x.ways (bM p t) (x.now + c t) with
  | true =>
    rw [Lc hm]
    refine ⟨{ h with fin := fun r hr => ?_, lim := by have := h.lim; omega }, hp⟩
    obtain ⟨w, h1, h2, h3⟩ := h.fin r hr
    refine ⟨w, h1, h2, fun u hu => ?_⟩
    by_cases e : r = p
    · subst e
      rw [if_pos rfl, List.mem_append, List.mem_singleton] at hu
      rcases hu with hu | hu
      · exact h3 u hu
      · subst hu
        obtain ⟨w', e1, e2⟩ := M7 hm
        rw [hwp] at h1; injection h1 with h1
        exact ⟨w', e1, by rw [← h1, hwn]; exact e2⟩
    · rw [if_neg e] at hu; exact h3 u hu
  | false =>
    rw [OW hm]
    have hnf : bM p t ≠ cP b := HL h hp hct.1 hm h.start h0
    have hnd : ∀ r, bf x.done r = some true → bM p t ≠ r := fun r hr => by
      obtain ⟨w, h1, h2, _⟩ := h.fin r hr
      exact HL h hp hct.1 hm h1 h2
    have hget : ∀ r, bf (cq x.ways (bM p t) ⟨p, [t], x.now + c t⟩) r = if bM p t = r then some ⟨p, [t], x.now + c t⟩ else bf x.ways r := fun r => nI _ _ _ _
    refine ⟨⟨h0, by rw [hget, if_neg hnf]; exact h.start, kX _ _ _ h.keys, kX _ _ _ h.qkeys, h.dkeys, h.dval, fun q w hq => ?_, fun q w hq => ?_, fun r hr => ?_, fun q w hq hqd => ?_, fun m q hq => ?_, ?_, ?_, h.no, fun q w hq => ?_⟩, hpd, ⟨wp, by rw [hget, if_neg (hnd p hpd)]; exact hwp, hwn⟩, hcap⟩
    · rw [hget] at hq
      by_cases e : bM p t = q
      · rw [if_pos e] at hq; injection hq with hq; subst hq
        exact .inr ⟨t, wp, rfl, ht, e.symm, hpd, by rw [hget, if_neg (hnd p hpd)]; exact hwp, by show x.now + c t = wp.all + c t; omega⟩
      · rw [if_neg e] at hq
        rcases h.via q w hq with h1 | ⟨u, w', h1, h2, h3, h4, h5, h6⟩
        · exact .inl h1
        · exact .inr ⟨u, w', h1, h2, h3, h4, by rw [hget, if_neg (hnd _ h4)]; exact h5, h6⟩
    · rw [hget] at hq
      by_cases e : bM p t = q
      · rw [if_pos e] at hq; injection hq with hq; subst hq
        obtain ⟨l, h1, h2⟩ := h.walk p wp hwp
        exact ⟨l ++ [t], by rw [← e]; exact Bi h1 ht, by rw [qO, xe, h2, hwn]⟩
      · rw [if_neg e] at hq; exact h.walk q w hq
    · obtain ⟨w, h1, h2, h3⟩ := h.fin r hr
      refine ⟨w, by rw [hget, if_neg (hnd r hr)]; exact h1, h2, fun u hu => ?_⟩
      have old : (∃ w', bf x.ways (bM r u) = some w' ∧ w'.all ≤ w.all + c u) → ∃ w', bf (cq x.ways (bM p t) ⟨p, [t], x.now + c t⟩) (bM r u) = some w' ∧ w'.all ≤ w.all + c u := fun ⟨w', g1, g2⟩ => by
        rw [hget]
        by_cases e : bM p t = bM r u
        · rw [if_pos e]; refine ⟨_, rfl, ?_⟩
          have := u6 hm (by rw [e]; exact g1)
          show x.now + c t ≤ _; omega
        · rw [if_neg e]; exact ⟨w', g1, g2⟩
      by_cases e : r = p
      · subst e
        rw [if_pos rfl, List.mem_append, List.mem_singleton] at hu
        rcases hu with hu | hu
        · exact old (h3 u hu)
        · subst hu
          rw [hwp] at h1; injection h1 with h1
          exact ⟨_, by rw [hget, if_pos rfl], by show x.now + c u ≤ _; rw [← h1, hwn]; omega⟩
      · rw [if_neg e] at hu; exact old (h3 u hu)
    · rw [hget] at hq
      show x.now ≤ w.all ∧ q ∈ rowAt (cq x.queue (x.now + c t) (rowAt x.queue (x.now + c t) ++ [bM p t])) w.all
      rw [nA]
      by_cases e : bM p t = q
      · rw [if_pos e] at hq; injection hq with hq; subst hq
        rw [if_pos rfl]
        exact ⟨by show x.now ≤ x.now + c t; omega, List.mem_append.2 (.inr (List.mem_singleton.2 e.symm))⟩
      · rw [if_neg e] at hq
        obtain ⟨h1, h2⟩ := h.wait q w hq hqd
        refine ⟨h1, ?_⟩
        by_cases e2 : x.now + c t = w.all
        · rw [if_pos e2, e2]; exact List.mem_append.2 (.inl h2)
        · rw [if_neg e2]; exact h2
    · have hq : q ∈ rowAt (cq x.queue (x.now + c t) (rowAt x.queue (x.now + c t) ++ [bM p t])) m := hq
      rw [nA] at hq
      show x.now ≤ m ∧ m ≤ 300 * x.done.length ∧ ∃ w, bf (cq x.ways (bM p t) ⟨p, [t], x.now + c t⟩) q = some w ∧ w.all ≤ m
      rw [hget]
      have old : q ∈ rowAt x.queue m → x.now ≤ m ∧ m ≤ 300 * x.done.length ∧ ∃ w, (if bM p t = q then some ⟨p, [t], x.now + c t⟩ else bf x.ways q) = some w ∧ w.all ≤ m := fun hq => by
        obtain ⟨h1, h2, w, h3, h4⟩ := h.que m q hq
        refine ⟨h1, h2, ?_⟩
        by_cases e : bM p t = q
        · rw [if_pos e]
          have := u6 hm (by rw [e]; exact h3)
          exact ⟨_, rfl, by show x.now + c t ≤ m; omega⟩
        · rw [if_neg e]; exact ⟨w, h3, h4⟩
      by_cases e2 : x.now + c t = m
      · rw [if_pos e2, List.mem_append, List.mem_singleton] at hq
        rcases hq with hq | hq
        · exact old (by rw [← e2]; exact hq)
        · subst hq
          rw [if_pos rfl]
          exact ⟨by omega, by omega, _, rfl, by show x.now + c t ≤ m; omega⟩
      · rw [if_neg e2] at hq; exact old hq
    · show x.left + 1 = qu (cq _ _ _)
      rw [z7, List.length_append, List.length_singleton, h.left]; omega
    · show x.left + 1 + (R - 1) ≤ 1 + 42 * x.done.length
      have := h.lim; omega
    · rw [hget] at hq
      show w.all ≤ 300 * x.done.length
      by_cases e : bM p t = q
      · rw [if_pos e] at hq; injection hq with hq; subst hq
        show x.now + c t ≤ _; omega
      · rw [if_neg e] at hq; exact h.cap q w hq
def upTo (b : bR) (p : Pl) (k : Nat) (r : Pl) : List cr := if r = p then (cH b p).take k else cH b r
def kP (b : bR) (c : cr → Int) (p : Pl) (z : St) (k : Nat) : St := ((cH b p).take k).foldl (nK c p) z
theorem IT {z : St} {k : Nat} (hk : k < (cH b p).length) : kP b c p z (k + 1) = nK c p (kP b c p z k) (nth (cH b p) k) := by
 unfold kP; rw [bh hk, List.foldl_append]; rfl
theorem JB (z : St) (k : Nat) : (kP b c p z k).done = z.done := by
  unfold kP
  generalize (cH b p).take k = l
  induction l generalizing z with
  | nil => rfl
  | cons t l ih => rw [List.foldl_cons, ih, JZ]
theorem DK (z : St) (k : Nat) : (kP b c p z k).now = z.now := by
  unfold kP
  generalize (cH b p).take k = l
  induction l generalizing z with
  | nil => rfl
  | cons t l ih => rw [List.foldl_cons, ih, L4]
def uG (b : bR) (c : cr → Int) : Prop := ∀ t : cr, 0 ≤ t.dz → t.dz < b.lots.length → 1 ≤ c t ∧ c t ≤ 300
theorem uG.at (hc : uG b c) (ht : t ∈ cH b p) : 1 ≤ c t ∧ c t ≤ 300 := hc t (ij.1 ht).1 (ij.1 ht).2.1
theorem GX (hc : uG b c) {z : St} (h : Inv b c all (upTo b p 0) 42 z) (hp : At b p z) : ∀ k, k ≤ (cH b p).length → Inv b c all (upTo b p k) (42 - k) (kP b c p z k) ∧ At b p (kP b c p z k)
  | 0, _ => ⟨h, hp⟩
  | k + 1, hk => by
    obtain ⟨h1, h2⟩ := GX hc h hp k (by omega)
    have hm : nth (cH b p) k ∈ cH b p := bL (by omega)
    obtain ⟨h3, h4⟩ := Mx h1 h2 hm (hc.at hm)
    rw [IT (by omega)]
    refine ⟨?_, h4⟩
    have h5 : Inv b c all (fun r => if r = p then upTo b p k r ++ [nth (cH b p) k] else upTo b p k r) (42 - (k + 1 : Nat)) (nK c p (kP b c p z k) (nth (cH b p) k)) := h3.weaken (by omega)
    refine h5.Ua fun r _ u hu => ?_
    unfold upTo at hu ⊢
    by_cases e : r = p
    · rw [if_pos e] at hu; rw [if_pos e, if_pos e, ← bh (by omega)]; exact hu
    · rw [if_neg e] at hu; rw [if_neg e, if_neg e]; exact hu
def fP (x : St) (rest : List Pl) : St := { x with queue := cq x.queue x.now rest, left := x.left - 1 }
def marked (x : St) (p : Pl) : St := { x with done := cq x.done p true }
def later (x : St) : St := { x with queue := JN x.queue x.now, now := x.now + 1 }
def l7 (x : St) (p : Pl) : Bool := (bf x.done p).getD false
theorem Inv.Bq (h : Inv b c all F R x) (p : Pl) : (l7 x p = true ↔ bf x.done p = some true) ∧ (l7 x p = false ↔ bf x.done p = none) := by
  unfold l7
  cases e : bf x.done p with
  | none => simp
  | some v => rw [h.dval p v e]; simp
theorem QI {rest : List Pl} (h : Inv b c all F R x) (hq : rowAt x.queue x.now = p :: rest) (hd : ∀ w, bf x.ways p = some w → bf x.done p = none → False) : Inv b c all F R (fP x rest) where
 now0 := h.now0
 start := h.start
 keys := h.keys
 qkeys := kX _ _ _ h.qkeys
 dkeys := h.dkeys
 dval := h.dval
 via := h.via
 walk := h.walk
 fin := h.fin
 wait := fun q w hw hn => by
  obtain ⟨h1, h2⟩ := h.wait q w hw hn
  refine ⟨h1, ?_⟩
  show q ∈ rowAt (cq x.queue x.now rest) w.all
  rw [nA]
  by_cases e : x.now = w.all
  ·rw [if_pos e]
   rw [← e, hq, List.mem_cons] at h2
   rcases h2 with h2 | h2
   ·subst h2; exact (hd w hw hn).elim
   exact h2
  rw [if_neg e]; exact h2
 que := fun m q hq' => by
  have hq' : q ∈ rowAt (cq x.queue x.now rest) m := hq'
  rw [nA] at hq'
  refine h.que m q ?_
  by_cases e : x.now = m
  ·rw [if_pos e] at hq'; rw [← e, hq]; exact List.mem_cons_of_mem _ hq'
  rw [if_neg e] at hq'; exact hq'
 left := by
  show x.left - 1 = qu (cq x.queue x.now rest)
  rw [z7, hq, List.length_cons, h.left]; omega
 lim := by show x.left - 1 + R ≤ 1 + 42 * x.done.length; have := h.lim; omega
 no := h.no
 cap := h.cap
theorem PM {rest : List Pl} (h : Inv b c all F R x) (hq : rowAt x.queue x.now = p :: rest) (hd : l7 (fP x rest) p = true) : Inv b c all F R (fP x rest) :=
 QI h hq fun w _ hn => by rw [((h.Bq p).1.1 hd)] at hn; cases hn
theorem FW {rest : List Pl} (h : Inv b c all (cH b) 0 x) (hq : rowAt x.queue x.now = p :: rest) (hd : l7 (fP x rest) p = false) (hm : all = false → fj b p = false) :
 Inv b c all (upTo b p 0) 42 (marked (fP x rest) p) ∧ At b p (marked (fP x rest) p) := by
 have hn : bf x.done p = none := (h.Bq p).2.1 hd
 obtain ⟨g1, g2, w, hw, g3⟩ := h.que x.now p (by rw [hq]; exact List.mem_cons_self)
 obtain ⟨g4, g5⟩ := h.wait p w hw hn
 have hlen : (cq x.done p true).length = x.done.length + 1 := wE _ _ _ hn
 have hget : ∀ r, bf (cq x.done p true) r = if p = r then some true else bf x.done r := fun r => nI _ _ _ _
 refine ⟨{ now0 := h.now0, start := h.start, keys := h.keys, qkeys := kX _ _ _ h.qkeys, dkeys := kX _ _ _ h.dkeys, dval := fun r v hv => ?_, via := fun q w' hq' => ?_, walk := h.walk, fin := fun r hr => ?_, wait := fun q w' hw' hn' => ?_, que := fun m q hq' => ?_, left := ?_, lim := ?_, no := fun ha r hr => ?_, cap := fun q w' hq' => ?_ }, ⟨?_, ⟨w, hw, by show w.all = x.now; omega⟩, ?_⟩⟩
 ·have hv : bf (cq x.done p true) r = some v := hv
  rw [hget] at hv
  by_cases e : p = r
  ·rw [if_pos e] at hv; injection hv with hv; exact hv.symm
  rw [if_neg e] at hv; exact h.dval r v hv
 ·rcases h.via q w' hq' with h1 | ⟨u, w2, h1, h2, h3, h4, h5, h6⟩
  ·exact .inl h1
  exact .inr ⟨u, w2, h1, h2, h3, by show bf (cq x.done p true) w'.frm = some true; rw [hget]; split <;> first | rfl | exact h4, h5, h6⟩
 ·have hr : bf (cq x.done p true) r = some true := hr
  rw [hget] at hr
  by_cases e : p = r
  ·subst e; exact ⟨w, hw, g3, fun u hu => by unfold upTo at hu; rw [if_pos rfl] at hu; cases hu⟩
  rw [if_neg e] at hr
  obtain ⟨w', e1, e2, e3⟩ := h.fin r hr
  exact ⟨w', e1, e2, fun u hu => by unfold upTo at hu; rw [if_neg (fun e' => e e'.symm)] at hu; exact e3 u hu⟩
 ·have hn' : bf (cq x.done p true) q = none := hn'
  rw [hget] at hn'
  by_cases e : p = q
  ·rw [if_pos e] at hn'; cases hn'
  rw [if_neg e] at hn'
  obtain ⟨h1, h2⟩ := h.wait q w' hw' hn'
  refine ⟨h1, ?_⟩
  show q ∈ rowAt (cq x.queue x.now rest) w'.all
  rw [nA]
  by_cases e2 : x.now = w'.all
  ·rw [if_pos e2]; rw [← e2, hq, List.mem_cons] at h2
   exact h2.resolve_left fun h => e h.symm
  rw [if_neg e2]; exact h2
 ·have hq' : q ∈ rowAt (cq x.queue x.now rest) m := hq'
  rw [nA] at hq'
  have : q ∈ rowAt x.queue m := by
   by_cases e : x.now = m
   ·rw [if_pos e] at hq'; rw [← e, hq]; exact List.mem_cons_of_mem _ hq'
   rw [if_neg e] at hq'; exact hq'
  obtain ⟨h1, h2, h3⟩ := h.que m q this
  exact ⟨h1, by show m ≤ 300 * ((cq x.done p true).length : Int); rw [hlen]; omega, h3⟩
 ·show x.left - 1 = qu (cq x.queue x.now rest)
  rw [z7, hq, List.length_cons, h.left]; omega
 ·show x.left - 1 + 42 ≤ 1 + 42 * ((cq x.done p true).length : Int)
  rw [hlen]; have := h.lim; omega
 ·have hr : bf (cq x.done p true) r = some true := hr
  rw [hget] at hr
  by_cases e : p = r
  ·subst e; exact hm ha
  rw [if_neg e] at hr; exact h.no ha r hr
 ·show w'.all ≤ 300 * ((cq x.done p true).length : Int)
  rw [hlen]; have := h.cap q w' hq'; omega
 ·show bf (cq x.done p true) p = some true
  rw [hget, if_pos rfl]
 show x.now + 300 ≤ 300 * ((cq x.done p true).length : Int)
 rw [hlen]; omega
def V4 (b : bR) : St := ⟨[(cP b, CB)], [(0, [cP b])], 1, [], 0⟩
def rT (b : bR) (c : cr → Int) (all : Bool) (x : St) : St ⊕ Found :=
  if x.left ≤ 0 then .inr ⟨x.ways, U7, false⟩ else
  match rowAt x.queue x.now with
  | [] => .inl (later x)
  | p :: rest =>
    if l7 (fP x rest) p = true then .inl (fP x rest) else
    if (!all && fj b p) = true then .inr ⟨x.ways, p, true⟩ else .inl (kP b c p (marked (fP x rest) p) (cH b p).length)
def runN (b : bR) (c : cr → Int) (all : Bool) : Nat → St → Option Found
  | 0, _ => none
  | n + 1, x => match rT b c all x with
    | .inr f => some f
    | .inl y => runN b c all n y
def Ends (b : bR) (c : cr → Int) (all : Bool) (x : St) (f : Found) : Prop := ∃ n, runN b c all n x = some f
theorem Ends.step {y : St} {f : Found} (e : rT b c all x = .inl y) (h : Ends b c all y f) : Ends b c all x f := by
 obtain ⟨n, h⟩ := h
 exact ⟨n + 1, by unfold runN; rw [e]; exact h⟩
theorem Ends.stop {f : Found} (e : rT b c all x = .inr f) : Ends b c all x f := ⟨1, by unfold runN; rw [e]⟩
open Classical in
noncomputable def gj (b : bR) (c : cr → Int) (all : Bool) : Found := if h : ∃ f, Ends b c all (V4 b) f then h.choose else default
theorem Oo {rest : List Pl} (h : 0 < x.left) (hq : rowAt x.queue x.now = p :: rest) (hd : l7 (fP x rest) p = true) : rT b c all x = .inl (fP x rest) := by
 unfold rT; rw [if_neg (by omega), hq]; exact if_pos hd
theorem JS {rest : List Pl} (h : 0 < x.left) (hq : rowAt x.queue x.now = p :: rest) (hd : l7 (fP x rest) p = false) (hm : (!all && fj b p) = true) : rT b c all x = .inr ⟨x.ways, p, true⟩ := by
 unfold rT; rw [if_neg (by omega), hq]
 show (if l7 (fP x rest) p = true then _ else _) = _
 rw [if_neg (by rw [hd]; decide), if_pos hm]
theorem Oh {rest : List Pl} (h : 0 < x.left) (hq : rowAt x.queue x.now = p :: rest) (hd : l7 (fP x rest) p = false) (hm : (!all && fj b p) = false) : rT b c all x = .inl (kP b c p (marked (fP x rest) p) (cH b p).length) := by
 unfold rT; rw [if_neg (by omega), hq]
 show (if l7 (fP x rest) p = true then _ else _) = _
 rw [if_neg (by rw [hd]; decide), if_neg (by rw [hm]; decide)]
theorem uV {rest : List Pl} (h : Inv b c all F R x) (hq : rowAt x.queue x.now = p :: rest) : 0 < x.left := by
 have := GQ x.queue x.now
 rw [hq, List.length_cons, ← h.left] at this; omega
noncomputable def Mb (x : St) : Nat := (gb - x.done.length) * 43 + (300 * gb - x.now).toNat + x.left.toNat
theorem Inv.zK (h : Inv b c all F R x) (hr : b.dj) : x.done.length ≤ gb := by
 have := AN h.dkeys fun p hp => by
  obtain ⟨v, hv⟩ := HF hp
  rw [h.dval p v hv] at hv
  obtain ⟨w, hw, _⟩ := h.fin p hv
  obtain ⟨l, hl, _⟩ := h.walk p w hw
  exact Aa hr l (IL hr) hl
 rwa [List.length_map] at this
theorem Sd {rest : List Pl} (h : Inv b c all F R x) (hq : rowAt x.queue x.now = p :: rest) : Mb (fP x rest) < Mb x := by
 have := uV h hq
 show (gb - x.done.length) * 43 + (300 * gb - x.now).toNat + (x.left - 1).toNat < (gb - x.done.length) * 43 + (300 * gb - x.now).toNat + x.left.toNat
 omega
theorem IY (c : cr → Int) (p : Pl) (x : St) (t : cr) : (nK c p x t).left ≤ x.left + 1 := by
 unfold nK; split
 ·omega
 exact Int.le_refl _
theorem Io (z : St) : ∀ k, (kP b c p z k).left ≤ z.left + k := by
  intro k
  have : ∀ (l : List cr) (z : St), (l.foldl (nK c p) z).left ≤ z.left + l.length := by
    intro l
    induction l with
    | nil => intro z; simp
    | cons t l ih =>
      intro z
      have h1 := ih (nK c p z t)
      have h2 := IY c p z t
      rw [List.foldl_cons, List.length_cons]; omega
  have h1 := this ((cH b p).take k) z
  have h2 := List.length_take_le k (cH b p)
  unfold kP; omega
theorem S3 {rest : List Pl} (h : Inv b c all (cH b) 0 x) (hr : b.dj) (hq : rowAt x.queue x.now = p :: rest) (hd : l7 (fP x rest) p = false) (hi : Inv b c all (upTo b p 0) 42 (marked (fP x rest) p)) : Mb (kP b c p (marked (fP x rest) p) (cH b p).length) < Mb x := by
 have h1 := uV h hq
 have h2 := Io (b := b) (c := c) (p := p) (marked (fP x rest) p) (cH b p).length
 have h3 := zo hr p
 have h4 := hi.zK hr
 have h5 : (cq x.done p true).length = x.done.length + 1 := wE _ _ _ ((h.Bq p).2.1 hd)
 unfold Mb
 rw [JB, DK]
 have h4 : (cq x.done p true).length ≤ gb := h4
 have h2 : (kP b c p (marked (fP x rest) p) (cH b p).length).left ≤ x.left - 1 + (cH b p).length := h2
 show (gb - (cq x.done p true).length) * 43 + (300 * gb - x.now).toNat + _ < _
 rw [h5] at h4 ⊢
 omega
theorem QJ {rest : List Pl} (hr : b.dj) (hc : uG b c) (h : Inv b c all (cH b) 0 x) (hq : rowAt x.queue x.now = p :: rest) (hd : l7 (fP x rest) p = false) (hm : (!all && fj b p) = false) : Inv b c all (cH b) 0 (kP b c p (marked (fP x rest) p) (cH b p).length) := by
 obtain ⟨h1, h2⟩ := FW h hq hd (fun ha => by rw [ha] at hm; simpa using hm)
 obtain ⟨h3, _⟩ := GX hc h1 h2 _ (Nat.le_refl _)
 have := zo hr p
 refine (h3.weaken (R' := 0) (by omega)).Ua fun r _ u hu => ?_
 unfold upTo
 by_cases e : r = p
 ·rw [if_pos e, List.take_length, ← e]; exact hu
 rw [if_neg e]; exact hu
structure Found.Spec (b : bR) (c : cr → Int) (all : Bool) (f : Found) : Prop where
  start : bf f.ways (cP b) = some CB
  keys : (f.ways.map Prod.fst).Nodup
  via : ∀ q w, bf f.ways q = some w → q = cP b ∨ ∃ t w', w.byT = [t] ∧ t ∈ cH b w.frm ∧ q = bM w.frm t ∧ bf f.ways w.frm = some w' ∧ w.all = w'.all + c t
  walk : ∀ q w, bf f.ways q = some w → ∃ l, oy b (cP b) l = some q ∧ j3 c l = w.all
  yes : f.is = true → fj b f.last = true ∧ ∃ w, bf f.ways f.last = some w ∧ ∀ l q, oy b (cP b) l = some q → fj b q = true → w.all ≤ j3 c l
  no : f.is = false → all = false → ∀ l q, oy b (cP b) l = some q → fj b q = false
  cap : ∀ q w, bf f.ways q = some w → w.all ≤ 300 * gb
  whole : all = true → f.is = false ∧ ∀ l q, oy b (cP b) l = some q → ∃ w, bf f.ways q = some w
theorem BH (hc : uG b c) : ∀ (l : List cr) {p q : Pl}, oy b p l = some q → 0 ≤ j3 c l
  | [], _, _, _ => Int.le_refl _
  | t :: l, p, q, h => by
    have h : (if t ∈ cH b p then oy b (bM p t) l else none) = some q := h
    by_cases ht : t ∈ cH b p
    · rw [if_pos ht] at h
      have h1 := BH hc l h
      have h2 := hc.at ht
      show 0 ≤ j3 c ([t] ++ l)
      rw [qO, xe]; omega
    · rw [if_neg ht] at h; cases h
theorem Inv.closed (h : Inv b c all (cH b) 0 x) (hl : x.left ≤ 0) : ∀ (l : List cr) (q : Pl), oy b (cP b) l = some q → bf x.done q = some true := by
  have hz : ∀ m, rowAt x.queue m = [] := fun m => by
    have := GQ x.queue m
    rw [← h.left] at this
    exact List.length_eq_zero_iff.1 (by omega)
  have key : ∀ q w, bf x.ways q = some w → bf x.done q = some true := fun q w hw => by
    cases e : bf x.done q with
    | none => have := (h.wait q w hw e).2; rw [hz] at this; cases this
    | some v => rw [h.dval q v e]
  refine AG (fun q e => ?_) fun l t ih q e => ?_
  · injection e with e; subst e; exact key _ _ h.start
  · obtain ⟨r, e1, e2, e3⟩ := EE e
    obtain ⟨w, h1, h2, h3⟩ := h.fin r (ih r e1)
    obtain ⟨w', h4, _⟩ := h3 t e2
    subst e3; exact key _ _ h4
def Cy (b : bR) (c : cr → Int) (all : Bool) (x : St) : Prop := ∀ f, Ends b c all x f → gj b c all = f
theorem Cy.step {y : St} (h : Cy b c all x) (e : rT b c all x = .inl y) : Cy b c all y := fun f hf => h f (hf.step e)
theorem Cy.stop {f : Found} (h : Cy b c all x) (e : rT b c all x = .inr f) : gj b c all = f := h f (.stop e)
end Go.Proofs.YtmmcenjknimhbaaGreat
namespace Go.Proofs.YtmmcenjknimhbaaGreat
open Go Go.T Go.RowKit
structure Vu where
  b : bR
  first : Pl
  deriving Inhabited
end Go.Proofs.YtmmcenjknimhbaaGreat
namespace Go.Proofs.YtmmcenjknimhbaaGreat
open Go Go.T
theorem wQ {p : Pl} {n : Nat} {x : Int} (hn : n ≤ 6) : x ∈ p.1.take n ↔ ∃ i, i < n ∧ nth p.1 i = x := by
 rw [List.mem_take_iff_getElem]
 have := p.2
 constructor
 ·rintro ⟨i, hi, rfl⟩
  exact ⟨i, by omega, cF (by omega)⟩
 rintro ⟨i, hi, rfl⟩
 exact ⟨i, by omega, (cF (by omega)).symm⟩
theorem C1 {b : bR} {p : Pl} {k : Int} (hl : b.lots.length ≤ 6) : mI b p k = true ↔ ∃ i, i < b.lots.length ∧ nth p.1 i = k := by
 unfold mI
 rw [List.any_eq_true]
 constructor
 ·rintro ⟨x, hx, h⟩
  obtain ⟨i, hi, e⟩ := (wQ hl).1 hx
  exact ⟨i, hi, by rw [e]; exact of_decide_eq_true h⟩
 rintro ⟨i, hi, e⟩
 exact ⟨_, (wQ hl).2 ⟨i, hi, rfl⟩, decide_eq_true e⟩
end Go.Proofs.YtmmcenjknimhbaaGreat
namespace Go.Proofs.YtmmcenjknimhbaaGreat
open Go Go.T
def mR (y : St) : Pl := nth (rowAt y.queue y.now) 0
def Rg (y : St) : List Pl := (rowAt y.queue y.now).drop 1
theorem sE {y : St} (h : 0 < (rowAt y.queue y.now).length) : rowAt y.queue y.now = mR y :: Rg y := by
 have := pY h
 rw [List.drop_zero] at this
 exact this
def IC (y : St) : St := fP y (Rg y)
def Kb (y : St) : St := marked (IC y) (mR y)
structure ND (b : bR) (c : cr → Int) (all : Bool) (x y : St) : Prop where
  inv : Inv b c all (cH b) 0 y
  same : Cy b c all y
  le : Mb y ≤ Mb x
  lt : y.left ≤ 0 → Mb y < Mb x
  now : y.now = x.now
variable {b : bR} {c : cr → Int} {all : Bool} {x y : St}
theorem ND.pos (h : ND b c all x y) (hq : 0 < (rowAt y.queue y.now).length) : 0 < y.left := uV h.inv (sE hq)
theorem ND.old (h : ND b c all x y) (hq : 0 < (rowAt y.queue y.now).length) (hd : l7 (IC y) (mR y) = true) : ND b c all x (IC y) := by
 have hr := sE hq
 have hm : Mb (IC y) < Mb y := Sd h.inv hr
 have hl := h.le
 exact ⟨PM h.inv hr hd, h.same.step (Oo (h.pos hq) hr hd), by omega, fun _ => by omega, h.now⟩
theorem ND.mark (h : ND b c all x y) (hq : 0 < (rowAt y.queue y.now).length) (hd : l7 (IC y) (mR y) = false) (hm : (!all && fj b (mR y)) = false) : Inv b c all (upTo b (mR y) 0) 42 (Kb y) ∧ At b (mR y) (Kb y) :=
 FW h.inv (sE hq) hd (fun ha => by rw [ha] at hm; simpa using hm)
theorem ND.new (h : ND b c all x y) (hr : b.dj) (hc : uG b c) (hq : 0 < (rowAt y.queue y.now).length) (hd : l7 (IC y) (mR y) = false) (hm : (!all && fj b (mR y)) = false) : ND b c all x (kP b c (mR y) (Kb y) (cH b (mR y)).length) := by
 have he := sE hq
 have hlt : Mb (kP b c (mR y) (Kb y) (cH b (mR y)).length) < Mb y := S3 h.inv hr he hd (h.mark hq hd hm).1
 have hl := h.le
 exact ⟨QJ hr hc h.inv he hd hm, h.same.step (Oh (h.pos hq) he hd hm), by omega, fun _ => by omega, by rw [DK]; exact h.now⟩
theorem ND.found (h : ND b c all x y) (hq : 0 < (rowAt y.queue y.now).length) (hd : l7 (IC y) (mR y) = false) (hm : (!all && fj b (mR y)) = true) : gj b c all = ⟨y.ways, mR y, true⟩ :=
 h.same.stop (JS (h.pos hq) (sE hq) hd hm)
end Go.Proofs.YtmmcenjknimhbaaGreat
namespace Go.Proofs.YtmmcenjknimhbaaGreat
open Go Go.T
theorem OM {α : Type} [Inhabited α] {l : List α} {i j : Nat} {v : α} (h : j < l.length) : nth (l.set i v) j = if i = j then v else nth l j := by
 unfold nth
 rw [List.getD_eq_getElem?_getD, List.getD_eq_getElem?_getD, List.getElem?_set]
 by_cases e : i = j
 ·subst e; rw [if_pos rfl, if_pos rfl, if_pos h]; rfl
 rw [if_neg e, if_neg e]
section
variable {α : Type} [Inhabited α]
end
inductive rD (ways : List (Pl × Way)) (first : Pl) : Pl → List (List cr) → Prop
  | nil : rD ways first first []
  | snoc {p : Pl} {w : Way} {A : List (List cr)} : p ≠ first → bf ways p = some w → rD ways first w.frm A → rD ways first p (A ++ [w.byT])
theorem rD.step {ways : List (Pl × Way)} {first p : Pl} {A : List (List cr)} (h : rD ways first p A) (hp : p ≠ first) : rD ways first ((bf ways p).getD CB).frm A.dropLast ∧ A = A.dropLast ++ [((bf ways p).getD CB).byT] := by
  cases h with
  | nil => exact absurd rfl hp
  | snoc h1 h2 h3 => rw [h2, List.dropLast_concat]; exact ⟨h3, rfl⟩
open Classical in
noncomputable def Sg (ways : List (Pl × Way)) (first p : Pl) : List (List cr) := if h : ∃ A, rD ways first p A then h.choose else []
variable {b : bR} {c : cr → Int} {all : Bool}
theorem Found.Spec.chain {f : Found} (h : f.Spec b c all) (hr : b.dj) (hc : uG b c) : ∀ (n : Nat) (p : Pl) (w : Way), bf f.ways p = some w → w.all.toNat ≤ n →
    ∃ A, rD f.ways (cP b) p A ∧ oy b (cP b) A.flatten = some p ∧ j3 c A.flatten = w.all ∧ A.flatten.length = A.length ∧ (A.length : Int) ≤ w.all := by
  intro n
  induction n with
  | zero =>
    intro p w hw hn
    rcases h.via p w hw with e | ⟨t, w', h1, h2, h3, h4, h5⟩
    · subst e
      rw [h.start] at hw; injection hw with hw; subst hw
      exact ⟨[], .nil, rfl, rfl, rfl, Int.le_refl _⟩
    · obtain ⟨l, hl, hcl⟩ := h.walk _ _ h4
      have := BH hc l hl
      have := hc.at h2
      omega
  | succ n ih =>
    intro p w hw hn
    by_cases e : p = cP b
    · subst e
      rw [h.start] at hw; injection hw with hw; subst hw
      exact ⟨[], .nil, rfl, rfl, rfl, Int.le_refl _⟩
    rcases h.via p w hw with e' | ⟨t, w', h1, h2, h3, h4, h5⟩
    · exact absurd e' e
    · have := hc.at h2
      obtain ⟨l, hl, hcl⟩ := h.walk _ _ h4
      have := BH hc l hl
      obtain ⟨A, g1, g2, g3, g4, g5⟩ := ih w.frm w' h4 (by omega)
      refine ⟨A ++ [w.byT], .snoc e hw g1, ?_, ?_, ?_, ?_⟩
      · rw [List.flatten_append, h1, h3]; simp only [List.flatten_cons, List.flatten_nil, List.append_nil]; exact Bi g2 h2
      · rw [List.flatten_append, h1, qO, g3]; simp only [List.flatten_cons, List.flatten_nil, List.append_nil]; rw [xe]; omega
      · rw [List.flatten_append, h1]; simp [g4]
      · rw [List.length_append]; simp; omega
noncomputable def GW (b : bR) (c : cr → Int) : List (List cr) := Sg (gj b c false).ways (cP b) (gj b c false).last
noncomputable def Rj (b : bR) (c : cr → Int) : List cr := if (gj b c false).is = true then (GW b c).flatten else []
noncomputable def Rs (b : bR) (c : cr → Int) : Int := if (gj b c false).is = true then ((bf (gj b c false).ways (gj b c false).last).getD CB).all else 0
structure UD (b : bR) (c : cr → Int) : Prop where
  chain : (gj b c false).is = true → rD (gj b c false).ways (cP b) (gj b c false).last (GW b c)
  len : (gj b c false).is = true → (GW b c).length ≤ 40000000 ∧ (GW b c).flatten.length = (GW b c).length
  yes : (gj b c false).is = true → ∃ q, oy b (cP b) (Rj b c) = some q ∧ fj b q = true ∧ j3 c (Rj b c) = Rs b c ∧ ∀ l q, oy b (cP b) l = some q → fj b q = true → Rs b c ≤ j3 c l
  no : (gj b c false).is = false → ∀ l q, oy b (cP b) l = some q → fj b q = false
def H7 (_ : cr) : Int := 1
def Ri (b : bR) (t : cr) : Int := (nth b.lots t.dz.toNat).sacks
noncomputable def FI (b : bR) : Int := if JU b = 0 then ((gj b H7 true).ways.length : Nat) else 0
end Go.Proofs.YtmmcenjknimhbaaGreat
namespace Go.Proofs.YtmmcenjknimhbaaGreat
open Go Go.T
def QH : bR := ⟨[], []⟩
def zu (b : bR) (t : cr) : List R2 := b.lots.set t.dz.toNat { nth b.lots t.dz.toNat with inn := t.aim }
def iY (b : bR) (t : cr) : bR × Int :=
  if (!b.dz t.dz || !b.bin t.aim) = true then (QH, 1) else if b.free t.aim = false then (QH, 5) else if b.hold t.aim t.dz = false then (QH, 9) else (⟨b.sizes, zu b t⟩, 0)
theorem Ni {b : bR} {t : cr} (h : (!b.dz t.dz || !b.bin t.aim) = true) : iY b t = (QH, 1) := if_pos h
theorem Om {b : bR} {t : cr} (h : (!b.dz t.dz || !b.bin t.aim) = false) (h2 : b.free t.aim = false) : iY b t = (QH, 5) := by unfold iY; rw [if_neg (by rw [h]; decide), if_pos h2]
theorem N4 {b : bR} {t : cr} (h : (!b.dz t.dz || !b.bin t.aim) = false) (h2 : b.free t.aim = true) (h3 : b.hold t.aim t.dz = false) : iY b t = (QH, 9) := by unfold iY; rw [if_neg (by rw [h]; decide), if_neg (by rw [h2]; decide), if_pos h3]
theorem Pq {b : bR} {t : cr} (h : (!b.dz t.dz || !b.bin t.aim) = false) (h2 : b.free t.aim = true) (h3 : b.hold t.aim t.dz = true) : iY b t = (⟨b.sizes, zu b t⟩, 0) := by unfold iY; rw [if_neg (by rw [h]; decide), if_neg (by rw [h2]; decide), if_neg (by rw [h3]; decide)]
theorem Mn {b : bR} {t : cr} (h : (!b.dz t.dz || !b.bin t.aim) = false) : (0 ≤ t.dz ∧ t.dz < b.lots.length) ∧ 0 ≤ t.aim ∧ t.aim < b.sizes.length := by
 simp only [Bool.or_eq_false_iff, Bool.not_eq_false', bR.dz, bR.bin, P2] at h; omega
theorem Iy {b : bR} {t : cr} : (iY b t).2 = 0 → (0 ≤ t.dz ∧ t.dz < b.lots.length) ∧ (0 ≤ t.aim ∧ t.aim < b.sizes.length) ∧ b.free t.aim = true ∧ b.hold t.aim t.dz = true ∧ (iY b t).1 = ⟨b.sizes, zu b t⟩ := by
  intro h
  cases h1 : (!b.dz t.dz || !b.bin t.aim) with
  | true => rw [Ni h1] at h; cases h
  | false =>
    cases h2 : b.free t.aim with
    | false => rw [Om h1 h2] at h; cases h
    | true =>
      cases h3 : b.hold t.aim t.dz with
      | false => rw [N4 h1 h2 h3] at h; cases h
      | true => have := Mn h1; rw [Pq h1 h2 h3]; exact ⟨this.1, this.2, rfl, rfl, rfl⟩
def Ap (cur : bR) (back : List cr) : List cr → bR × List cr × Int
  | [] => (cur, back.reverse, 0)
  | t :: l => if (iY cur t).2 = 0 then Ap (iY cur t).1 (back ++ [⟨t.dz, (nth cur.lots t.dz.toNat).inn⟩]) l else (QH, [], (iY cur t).2)
def Km (b : bR) (plan : List cr) : bR × List cr × Int :=
  if JU b = 0 then if (plan.length : Int) > 6000 then (QH, [], 2) else Ap b [] plan else (QH, [], JU b)
structure Ul (b : bR) (plan : List cr) (k : Nat) (cur : bR) (back : List cr) : Prop where
  same : Ap b [] plan = Ap cur back (plan.drop k)
  sizes : cur.sizes = b.sizes
  lots : cur.lots.length = b.lots.length
  len : back.length = k
  le : k ≤ plan.length
section
variable {b : bR} {plan : List cr} {k : Nat} {cur : bR} {back : List cr} (h : Ul b plan k cur back)
include h
theorem Ul.small (hs : b.Small) : cur.Small := ⟨by rw [h.sizes]; exact hs.sizes, by rw [h.lots]; exact hs.lots⟩
theorem Ul.next (hk : k < plan.length) (he : (iY cur (nth plan k)).2 = 0) : Ul b plan (k + 1) (iY cur (nth plan k)).1 (back ++ [⟨(nth plan k).dz, (nth cur.lots (nth plan k).dz.toNat).inn⟩]) := by
 obtain ⟨_, _, _, _, e⟩ := Iy he
 refine ⟨?_, by rw [e]; exact h.sizes, by rw [e]; show (zu _ _).length = _; unfold zu; rw [List.length_set]; exact h.lots, by rw [List.length_append, h.len]; rfl, by omega⟩
 rw [h.same, pY hk]; exact if_pos he
theorem Ul.end (hk : plan.length ≤ k) : Ap b [] plan = (cur, back.reverse, 0) := by
 rw [h.same, List.drop_of_length_le hk]; rfl
end
def SR (b : bR) : Bool := b.lots.all fun l => decide (l.aim = -1) || decide (l.aim = l.inn)
def Ta (b : bR) (plan : List cr) : Bool := decide ((Km b plan).2.2 = 0) && SR (Km b plan).1
end Go.Proofs.YtmmcenjknimhbaaGreat
namespace Go.Proofs.YtmmcenjknimhbaaGreat
open Go Go.T
theorem Eu {α : Type} [Inhabited α] {l : List α} {x : α} (h : x ∈ l) : ∃ m, m < l.length ∧ x = nth l m := by
 obtain ⟨m, hm, e⟩ := List.getElem_of_mem h
 exact ⟨m, hm, by rw [cF hm]; exact e.symm⟩
theorem rP : ∀ {n : Nat} {l : List Nat}, l.Nodup → (∀ y ∈ l, y < n) → l.length ≤ n
  | 0, l, _, hr => by
    cases l with
    | nil => simp
    | cons a _ => exact absurd (hr a List.mem_cons_self) (by omega)
  | n + 1, l, hn, hr => by
    by_cases h : n ∈ l
    · have h1 := List.length_erase_of_mem h
      have h2 := rP (n := n) (l := l.erase n) (hn.erase n) fun y hy => by
        have h3 := (hn.mem_erase_iff (a := y) (b := n)).1 hy
        have := hr y h3.2
        have := h3.1
        omega
      omega
    · have h2 := rP (n := n) (l := l) hn fun y hy => by
        have := hr y hy
        have : y ≠ n := fun e => h (e ▸ hy)
        omega
      omega
def Ba (b : bR) (l : List Int) (k : Nat) : Bool := decide (follows b (nth l k) = nth l ((k + 1) % l.length))
def ze (b : bR) (l : List Int) : Bool := decide (1 < l.length) && (List.range l.length).all fun k => Ba b l k
theorem G8 {b : bR} {l : List Int} {k : Nat} (hk : k < l.length) (h : Ba b l k = false) : ze b l = false := by
 unfold ze
 rw [Bool.and_eq_false_iff]
 right
 rw [List.all_eq_false]
 exact ⟨k, List.mem_range.2 hk, by rw [h]; decide⟩
theorem IN {b : bR} {l : List Int} (h : ∀ k, k < l.length → Ba b l k = true) : ze b l = decide (1 < l.length) := by
 unfold ze
 rw [List.all_eq_true.2 fun k hk => h k (List.mem_range.1 hk), Bool.and_true]
structure Sj (b : bR) (i : Nat) (l : List Int) : Prop where
  pos : 1 ≤ l.length
  len : l.length ≤ b.lots.length + 1
  head : nth l 0 = i
  rng : ∀ k, k < l.length → (i : Int) ≤ nth l k ∧ nth l k < b.lots.length
  above : ∀ k, 1 ≤ k → k < l.length → (i : Int) < nth l k
  chain : ∀ k, k + 1 < l.length → follows b (nth l k) = nth l (k + 1)
  same : uL b i = if l.length ≤ b.lots.length then zm b i (b.lots.length + 2 - l.length) l else none
theorem pZ {l : List Int} {x : Int} {k : Nat} (h : k < l.length) : nth (l ++ [x]) k = nth l k := by
 unfold nth; rw [List.getD_eq_getElem?_getD, List.getD_eq_getElem?_getD, List.getElem?_append_left h]
theorem BP {l : List Int} {x : Int} : nth (l ++ [x]) l.length = x := by
 unfold nth; rw [List.getD_eq_getElem?_getD, List.getElem?_append_right (Nat.le_refl _)]; simp
section
variable {b : bR} {i : Nat} {l : List Int} (x : Sj b i l)
include x
theorem Sj.next (h1 : (i : Int) < follows b (nth l (l.length - 1))) (h2 : l.length ≤ b.lots.length) : Sj b i (l ++ [follows b (nth l (l.length - 1))]) := by
 have hp := x.pos
 have hr := tZ b (nth l (l.length - 1))
 have hl : (l ++ [follows b (nth l (l.length - 1))]).length = l.length + 1 := by simp
 refine ⟨by omega, by omega, by rw [pZ hp]; exact x.head, fun k hk => ?_, fun k hk hk' => ?_, fun k hk => ?_, ?_⟩
 ·by_cases h : k < l.length
  ·rw [pZ h]; exact x.rng k h
  obtain rfl : k = l.length := by omega
  rw [BP]; omega
 ·by_cases h : k < l.length
  ·rw [pZ h]; exact x.above k hk h
  obtain rfl : k = l.length := by omega
  rw [BP]; exact h1
 ·by_cases h : k + 1 < l.length
  ·rw [pZ h, pZ (by omega)]; exact x.chain k h
  have h9 : k + 1 = l.length := by omega
  rw [h9, BP, pZ (by omega), show k = l.length - 1 by omega]
 rw [x.same, if_pos h2, hl]
 rw [show b.lots.length + 2 - l.length = (b.lots.length + 1 - l.length) + 1 by omega]
 show (if _ then _ else _) = _
 rw [if_neg (by omega), if_neg (by omega)]
 by_cases h : l.length + 1 ≤ b.lots.length
 ·rw [if_neg (by omega), if_pos h, show b.lots.length + 2 - (l.length + 1) = b.lots.length + 1 - l.length by omega]
 rw [if_pos (by omega), if_neg h]
theorem Sj.ring (h : follows b (nth l (l.length - 1)) = i) : ze b l = decide (1 < l.length) := IN fun k hk => by
 unfold Ba
 by_cases h1 : k + 1 < l.length
 ·rw [Nat.mod_eq_of_lt h1]; exact decide_eq_true (x.chain k h1)
 have h9 : k + 1 = l.length := by omega
 rw [h9, Nat.mod_self, x.head, show k = l.length - 1 by omega]; exact decide_eq_true h
theorem Sj.no (h : follows b (nth l (l.length - 1)) ≠ i) : ze b l = false := G8 (k := l.length - 1) (by have := x.pos; omega) (by
 unfold Ba
 have := x.pos
 rw [show l.length - 1 + 1 = l.length by omega, Nat.mod_self, x.head]; exact decide_eq_false h)
theorem Sj.Ut (h : l.length = b.lots.length + 1) : follows b (nth l (l.length - 1)) ≠ i := by
  intro he
  have hnd : ¬ ((List.range l.length).map fun k => (nth l k).toNat).Nodup := fun hnd => by
    have := rP hnd (n := b.lots.length) (fun y hy => by
      obtain ⟨k, hk, rfl⟩ := List.mem_map.1 hy
      have := x.rng k (List.mem_range.1 hk); omega)
    simp at this; omega
  obtain ⟨p, q, hpq, hq, heq⟩ : ∃ p q, p < q ∧ q < l.length ∧ nth l p = nth l q := by
    apply Classical.byContradiction
    intro hno
    apply hnd
    rw [List.nodup_iff_pairwise_ne, List.pairwise_map]
    refine List.Pairwise.imp_of_mem (R := fun a c => a < c) (fun {a c} ha hc hac e => hno ⟨a, c, hac, List.mem_range.1 hc, ?_⟩) List.pairwise_lt_range
    have h1 := x.rng a (List.mem_range.1 ha)
    have h2 := x.rng c (List.mem_range.1 hc)
    omega
  have key : ∀ t, q + t < l.length → nth l (p + t) = nth l (q + t) := by
    intro t
    induction t with
    | zero => intro _; exact heq
    | succ t ih =>
      intro ht
      have := ih (by omega)
      rw [← Nat.add_assoc, ← Nat.add_assoc, ← x.chain (p + t) (by omega), ← x.chain (q + t) (by omega), this]
  have h1 := key (l.length - 1 - q) (by omega)
  rw [show q + (l.length - 1 - q) = l.length - 1 by omega] at h1
  have h2 := x.chain (p + (l.length - 1 - q)) (by omega)
  rw [h1, he] at h2
  have := x.above (p + (l.length - 1 - q) + 1) (by omega) (by omega)
  omega
theorem Sj.done (h : ¬ ((i : Int) < follows b (nth l (l.length - 1)) ∧ l.length ≤ b.lots.length)) : uL b i = if ze b l = true then some l else none := by
 have hlen := x.len
 have hp := x.pos
 by_cases h2 : l.length ≤ b.lots.length
 ·rw [x.same, if_pos h2, show b.lots.length + 2 - l.length = (b.lots.length + 1 - l.length) + 1 by omega]
  show (if _ then _ else _) = _
  by_cases h1 : follows b (nth l (l.length - 1)) = i
  ·rw [x.ring h1]
   by_cases h3 : 1 < l.length
   ·rw [if_pos ⟨h1, h3⟩, if_pos (decide_eq_true h3)]
   rw [if_neg (fun h => h3 h.2), if_pos (by omega), if_neg (by rw [decide_eq_false h3]; decide)]
  rw [x.no h1, if_neg (fun h => h1 h.1), if_pos (by omega), if_neg (by decide)]
 rw [x.same, if_neg h2, x.no (x.Ut (by omega)), if_neg (by decide)]
end
end Go.Proofs.YtmmcenjknimhbaaGreat
namespace Go.Proofs.YtmmcenjknimhbaaGreat
open Go Go.T
variable {b : bR} {rings : List (List Int)}
end Go.Proofs.YtmmcenjknimhbaaGreat
namespace Go.Proofs.YtmmcenjknimhbaaGreat
open Go Go.T
theorem uz (s : Sk) {lo hi : Int} (h : lo ≤ hi) : lo ≤ oM s lo hi ∧ oM s lo hi ≤ hi := by
 have := ot s (hi - lo + 1)
 unfold oM; omega
def n6 (s : Sk) : Nat → List Int × Sk
  | 0 => ([], s)
  | k + 1 => ((n6 s k).1 ++ [oM (n6 s k).2 20 60], ew (n6 s k).2)
theorem sW (s : Sk) : ∀ k, (n6 s k).1.length = k ∧ (∀ x ∈ (n6 s k).1, 20 ≤ x ∧ x ≤ 60) ∧ (n6 s k).2.taken = s.taken + k
  | 0 => ⟨rfl, fun x h => (by cases h), by simp [n6]⟩
  | k + 1 => by
    obtain ⟨h1, h2, h3⟩ := sW s k
    refine ⟨by show ((n6 s k).1 ++ [_]).length = _; rw [List.length_append, h1]; rfl, fun x hx => ?_, by show (ew _).taken = _; rw [jO, h3]; omega⟩
    rcases List.mem_append.1 (show x ∈ (n6 s k).1 ++ [oM (n6 s k).2 20 60] from hx) with hx | hx
    · exact h2 x hx
    · rw [List.mem_singleton.1 hx]; exact uz _ (by omega)
structure Md where
  s : Sk
  bins : Int
  lots : Int
def Md.n (d : Md) : Nat := (oM d.s 2 d.bins).toNat
def Md.up (d : Md) (k : Nat) : List Int × Sk := n6 (ew d.s) k
def Md.sizes (d : Md) : List Int := (d.up d.n).1
def Md.many (d : Md) : Nat := (mU (d.up d.n).2 (min d.lots (d.n : Nat) + 1)).toNat
def Md.to (d : Md) : List Int × Sk := k6 (ew (d.up d.n).2) d.n
def Md.ks (d : Md) : List Int × Sk := k6 d.to.2 d.n
def Md.qt (d : Md) (s : Sk) (k : Nat) : Int := if Pn (ew s) 4 = true then -1 else nth d.to.1 k
def Md.Bo (d : Md) (s : Sk) (k : Nat) : Int := oM s 1 (nth d.sizes (nth d.ks.1 k).toNat)
def Md.x7 (d : Md) (s : Sk) (k : Nat) : R2 := ⟨if d.qt s k ≠ -1 ∧ nth d.sizes (d.qt s k).toNat < d.Bo s k then nth d.sizes (d.qt s k).toNat else d.Bo s k, nth d.ks.1 k, d.qt s k⟩
def Md.lt (d : Md) : Nat → List R2 × Sk
  | 0 => ([], d.ks.2)
  | k + 1 => ((d.lt k).1 ++ [d.x7 (d.lt k).2 k], ew (ew (d.lt k).2))
def Md.JI (d : Md) : bR := ⟨d.sizes, (d.lt d.many).1⟩
def Md.sk (d : Md) : Sk := (d.lt d.many).2
structure Md.Ok (d : Md) : Prop where
  bins : 2 ≤ d.bins ∧ d.bins ≤ 7
  lots : 0 ≤ d.lots ∧ d.lots ≤ 6
variable {d : Md}
theorem Md.Bx (h : d.Ok) : 2 ≤ d.n ∧ d.n ≤ 7 ∧ (d.n : Int) ≤ d.bins ∧ (d.n : Int) = oM d.s 2 d.bins := by
 have h1 := uz d.s h.bins.1
 have h2 := h.bins
 unfold Md.n; omega
theorem Md.A7 (d : Md) : d.sizes.length = d.n ∧ (∀ x ∈ d.sizes, 20 ≤ x ∧ x ≤ 60) := ⟨(sW _ _).1, (sW _ _).2.1⟩
theorem Md.NO (d : Md) (k : Nat) : (d.up k).2.taken = d.s.taken + 1 + k := by
 have := (sW (ew d.s) k).2.2
 rw [jO] at this; exact this
theorem Md.Es (h : d.Ok) : d.many ≤ d.n ∧ (d.many : Int) ≤ d.lots ∧ (d.many : Int) = mU (d.up d.n).2 (min d.lots (d.n : Nat) + 1) := by
 have h1 := ot (d.up d.n).2 (min d.lots (d.n : Nat) + 1)
 have h2 := h.lots
 unfold Md.many; omega
theorem Md.Cd (d : Md) : d.to.1.length = d.n ∧ d.to.1.Nodup ∧ (∀ x ∈ d.to.1, 0 ≤ x ∧ x < (d.n : Int)) ∧ d.to.2.taken = d.s.taken + 2 + 2 * d.n := by
 obtain ⟨h1, h2, h3, h4⟩ := xC (ew (d.up d.n).2) d.n
 refine ⟨h1, h2, fun x hx => (h3 x).1 hx, ?_⟩
 show (k6 _ _).2.taken = _
 rw [h4, jO, d.NO]; omega
theorem Md.DP (d : Md) : d.ks.1.length = d.n ∧ d.ks.1.Nodup ∧ (∀ x ∈ d.ks.1, 0 ≤ x ∧ x < (d.n : Int)) ∧ d.ks.2.taken = d.s.taken + 2 + 3 * d.n := by
 obtain ⟨h1, h2, h3, h4⟩ := xC d.to.2 d.n
 refine ⟨h1, h2, fun x hx => (h3 x).1 hx, ?_⟩
 show (k6 _ _).2.taken = _
 rw [h4, d.Cd.2.2.2]; omega
theorem Md.Jh (d : Md) : ∀ k, (d.lt k).1.length = k ∧ (d.lt k).2.taken = d.s.taken + 2 + 3 * d.n + 2 * k
  | 0 => ⟨rfl, by show d.ks.2.taken = _; rw [d.DP.2.2.2]; simp⟩
  | k + 1 => by
    obtain ⟨h1, h2⟩ := d.Jh k
    refine ⟨by show ((d.lt k).1 ++ [_]).length = _; rw [List.length_append, h1]; rfl, ?_⟩
    show (ew (ew _)).taken = _
    rw [jO, jO, h2]; omega
theorem Md.BL (d : Md) : ∀ k i, i < k → nth (d.lt k).1 i = d.x7 (d.lt i).2 i
  | 0, i, h => by omega
  | k + 1, i, h => by
    have hl := (d.Jh k).1
    show nth ((d.lt k).1 ++ [d.x7 (d.lt k).2 k]) i = _
    unfold nth
    by_cases e : i < k
    · rw [List.getD_eq_getElem?_getD, List.getElem?_append_left (by omega), ← List.getD_eq_getElem?_getD]
      exact d.BL k i e
    · have e : i = k := by omega
      subst e
      rw [List.getD_eq_getElem?_getD, List.getElem?_append_right (by omega), hl]; simp
theorem Md.Ep (d : Md) {x : Int} (h : 0 ≤ x ∧ x < (d.n : Int)) : 20 ≤ nth d.sizes x.toNat ∧ nth d.sizes x.toNat ≤ 60 := d.A7.2 _ (bL (by rw [d.A7.1]; omega))
theorem Dm {l : List Int} (h : l.Nodup) {i k : Nat} (hi : i < l.length) (hk : k < l.length) (e : nth l i = nth l k) : i = k := by
 rw [cF hi, cF hk] at e
 rw [List.nodup_iff_pairwise_ne, List.pairwise_iff_getElem] at h
 rcases Nat.lt_trichotomy i k with c | c | c
 ·exact absurd e (h i k hi hk c)
 ·exact c
 exact absurd e.symm (h k i hk hi c)
theorem Md.xT (d : Md) (s : Sk) {k : Nat} (hk : k < d.n) : (0 ≤ nth d.ks.1 k ∧ nth d.ks.1 k < (d.n : Int)) ∧ (d.qt s k = -1 ∨ (d.qt s k = nth d.to.1 k ∧ 0 ≤ nth d.to.1 k ∧ nth d.to.1 k < (d.n : Int))) ∧ 1 ≤ d.Bo s k ∧ d.Bo s k ≤ nth d.sizes (nth d.ks.1 k).toNat := by
 have h1 := d.DP.2.2.1 _ (bL (xs := d.ks.1) (k := k) (by rw [d.DP.1]; exact hk))
 have h2 := d.Cd.2.2.1 _ (bL (xs := d.to.1) (k := k) (by rw [d.Cd.1]; exact hk))
 have h3 := d.Ep h1
 refine ⟨h1, ?_, ?_⟩
 ·unfold Md.qt
  by_cases e : Pn (ew s) 4 = true
  ·exact .inl (if_pos e)
  exact .inr ⟨if_neg e, h2⟩
 exact uz s (by omega)
theorem Md.right (h : d.Ok) : d.JI.dj := by
 have hn := d.Bx h
 have hm := d.Es h
 have hs := d.A7
 have hl := (d.Jh d.many).1
 have hlots : d.JI.lots.length = d.many := hl
 have hsz : d.JI.sizes.length = d.n := hs.1
 have key : ∀ l ∈ d.JI.lots, ∃ i, i < d.many ∧ l = d.x7 (d.lt i).2 i := fun l hl' => by
  obtain ⟨i, hi, rfl⟩ := Eu hl'
  rw [hlots] at hi
  exact ⟨i, hi, d.BL _ i hi⟩
 have hlo := h.lots
 have hsack : ∀ i, i < d.many → 1 ≤ (d.x7 (d.lt i).2 i).sacks ∧ (d.x7 (d.lt i).2 i).sacks ≤ nth d.sizes (nth d.ks.1 i).toNat ∧ ((d.x7 (d.lt i).2 i).aim ≠ -1 → (d.x7 (d.lt i).2 i).sacks ≤ nth d.sizes (d.x7 (d.lt i).2 i).aim.toNat) := fun i hi => by
  obtain ⟨e1, e2, e3, e4⟩ := d.xT (d.lt i).2 (k := i) (by omega)
  unfold Md.x7
  show 1 ≤ ite _ _ _ ∧ ite _ _ _ ≤ _ ∧ (d.qt _ _ ≠ -1 → ite _ _ _ ≤ _)
  by_cases c : d.qt (d.lt i).2 i ≠ -1 ∧ nth d.sizes (d.qt (d.lt i).2 i).toNat < d.Bo (d.lt i).2 i
  ·rw [if_pos c]
   rcases e2 with e2 | ⟨e2, e5⟩
   ·exact absurd e2 c.1
   have := d.Ep (x := d.qt (d.lt i).2 i) (by omega)
   exact ⟨by omega, by omega, fun _ => Int.le_refl _⟩
  rw [if_neg c]
  refine ⟨e3, e4, fun hne => ?_⟩
  show d.Bo (d.lt i).2 i ≤ nth d.sizes (d.qt (d.lt i).2 i).toNat
  ·by_cases c2 : nth d.sizes (d.qt (d.lt i).2 i).toNat < d.Bo (d.lt i).2 i
   ·exact absurd ⟨hne, c2⟩ c
   omega
 refine ⟨by omega, by omega, fun x hx => by have := hs.2 x hx; omega, fun l hl' => ?_, fun l hl' => ?_, fun l hl' => ?_, fun i k hk hi => ?_, fun i hi => ?_⟩
 ·obtain ⟨i, hi, rfl⟩ := key l hl'
  have h1 := hsack i hi
  have h2 := d.Ep (d.xT (d.lt i).2 (k := i) (by omega)).1
  omega
 ·obtain ⟨i, hi, rfl⟩ := key l hl'
  have h2 := (d.xT (d.lt i).2 (k := i) (by omega)).1
  show 0 ≤ nth d.ks.1 i ∧ nth d.ks.1 i < _
  rw [hsz]; exact h2
 ·obtain ⟨i, hi, rfl⟩ := key l hl'
  have h2 := (d.xT (d.lt i).2 (k := i) (by omega)).2.1
  show -1 ≤ d.qt _ _ ∧ d.qt _ _ < _
  rw [hsz]; omega
 ·rw [hlots] at hi
  have e1 : nth d.JI.lots i = d.x7 (d.lt i).2 i := d.BL _ i hi
  have e2 : nth d.JI.lots k = d.x7 (d.lt k).2 k := d.BL _ k (by omega)
  rw [e1, e2]
  refine ⟨fun e => ?_, fun e => ?_⟩
  ·have := Dm d.DP.2.1 (i := i) (k := k) (by rw [d.DP.1]; omega) (by rw [d.DP.1]; omega) e
   omega
  have e : d.qt (d.lt i).2 i = d.qt (d.lt k).2 k := e
  show d.qt (d.lt i).2 i = -1
  rcases (d.xT (d.lt i).2 (k := i) (by omega)).2.1 with h1 | ⟨h1, h1'⟩
  ·exact h1
  rcases (d.xT (d.lt k).2 (k := k) (by omega)).2.1 with h2 | ⟨h2, h2'⟩
  ·omega
  have := Dm d.Cd.2.1 (i := i) (k := k) (by rw [d.Cd.1]; omega) (by rw [d.Cd.1]; omega) (by omega)
  omega
 rw [hlots] at hi
 have e1 : nth d.JI.lots i = d.x7 (d.lt i).2 i := d.BL _ i hi
 rw [e1]
 exact ⟨(hsack i hi).2.1, (hsack i hi).2.2⟩
end Go.Proofs.YtmmcenjknimhbaaGreat
namespace Go.Proofs.YtmmcenjknimhbaaGreat
open Go Go.T
def yp (b : bR) (p : Pl) (l : List cr) (k dz : Nat) : Bool := (mI b p k || !b.hold k dz) || l.any fun t => decide (t.aim = (k : Int))
def FJ (b : bR) (p : Pl) (g : Int) : Nat → List cr → Nat → List (List cr)
  | 0, l, _ => [l]
  | m + 1, l, dz => if (l.length : Int) = g then [l] else ((List.range b.sizes.length).flatMap fun k => if yp b p l k dz = true then [] else FJ b p g m (l ++ [⟨dz, k⟩]) (dz + 1)) ++ FJ b p g m l (dz + 1)
def lY (b : bR) (p : Pl) (g : Int) (l : List cr) (dz : Nat) : List (List cr) := FJ b p g (b.lots.length - dz) l dz
def D2 (b : bR) (p : Pl) (g : Int) (l : List cr) (dz k : Nat) : List (List cr) := if yp b p l k dz = true then [] else lY b p g (l ++ [⟨dz, k⟩]) (dz + 1)
def roundUp (b : bR) (p : Pl) (g : Int) (l : List cr) (dz n : Nat) : List (List cr) := (List.range n).flatMap (D2 b p g l dz)
variable {b : bR} {p : Pl} {g : Int} {l : List cr} {dz : Nat}
theorem Bt (h : (decide ((dz : Int) = b.lots.length) || decide ((l.length : Int) = g)) = true) : lY b p g l dz = [l] := by
 simp only [Bool.or_eq_true, decide_eq_true_eq] at h
 unfold lY
 by_cases e : b.lots.length - dz = 0
 ·rw [e]; rfl
 obtain ⟨m, hm⟩ : ∃ m, b.lots.length - dz = m + 1 := ⟨b.lots.length - dz - 1, by omega⟩
 rw [hm]; exact if_pos (by omega)
theorem Ll (hl : dz < b.lots.length) (h : ¬ (l.length : Int) = g) : lY b p g l dz = roundUp b p g l dz b.sizes.length ++ lY b p g l (dz + 1) := by
 unfold lY
 obtain ⟨m, hm⟩ : ∃ m, b.lots.length - dz = m + 1 := ⟨b.lots.length - dz - 1, by omega⟩
 have hm' : b.lots.length - (dz + 1) = m := by omega
 rw [hm, hm']
 show (if (l.length : Int) = g then _ else _) = _
 rw [if_neg h]
 congr 1
 unfold roundUp
 congr 1
 funext k
 unfold D2 lY
 rw [hm']
theorem Lj {k : Nat} (h : yp b p l k dz = true) : D2 b p g l dz k = [] := if_pos h
theorem AS {k : Nat} (h : yp b p l k dz = false) : D2 b p g l dz k = lY b p g (l ++ [⟨dz, k⟩]) (dz + 1) := if_neg (by rw [h]; decide)
def jH (b : bR) (p : Pl) (g : Int) : List (List cr) := lY b p g [] 0
end Go.Proofs.YtmmcenjknimhbaaGreat
namespace Go.Proofs.YtmmcenjknimhbaaGreat
open Go Go.T
def Vm (b : bR) (p : Pl) (t : cr) : Prop := (0 ≤ t.dz ∧ t.dz < b.lots.length) ∧ (0 ≤ t.aim ∧ t.aim < b.sizes.length) ∧ mI b p t.aim = false ∧ b.hold t.aim t.dz = true
structure mZ (b : bR) (p : Pl) (g : Int) (l : List cr) : Prop where
  len : (l.length : Int) ≤ g
  ok : ∀ t ∈ l, Vm b p t
  apart : l.Pairwise fun s t => s.dz < t.dz ∧ s.aim ≠ t.aim
theorem KX {b : bR} {p : Pl} {l : List cr} {k dz : Nat} : yp b p l k dz = false ↔ (mI b p k = false ∧ b.hold k dz = true) ∧ ∀ t ∈ l, t.aim ≠ (k : Int) := by
 unfold yp
 simp only [Bool.or_eq_false_iff, Bool.not_eq_false', List.any_eq_false, decide_eq_true_eq]
theorem qW {b : bR} {p : Pl} {g : Int} : ∀ (m dz : Nat) (l0 l : List cr), dz + m = b.lots.length → mZ b p g l0 → (∀ t ∈ l0, t.dz < dz) →
    (l ∈ lY b p g l0 dz ↔ ∃ r, l = l0 ++ r ∧ mZ b p g l ∧ ∀ t ∈ r, (dz : Int) ≤ t.dz)
  | 0, dz, l0, l, hm, h0, hl0 => by
    rw [Bt (by rw [decide_eq_true (show (dz : Int) = b.lots.length by omega)]; rfl), List.mem_singleton]
    constructor
    · rintro rfl; exact ⟨[], (List.append_nil _).symm, h0, fun t h => by cases h⟩
    · rintro ⟨r, rfl, h1, h2⟩
      cases r with
      | nil => exact List.append_nil _
      | cons t r =>
        have := h1.ok t (List.mem_append.2 (.inr List.mem_cons_self))
        have := h2 t List.mem_cons_self
        have := this; have := ‹Vm b p t›.1; omega
  | m + 1, dz, l0, l, hm, h0, hl0 => by
    by_cases hg : (l0.length : Int) = g
    · rw [Bt (by rw [decide_eq_true hg, Bool.or_true]), List.mem_singleton]
      constructor
      · rintro rfl; exact ⟨[], (List.append_nil _).symm, h0, fun t h => by cases h⟩
      · rintro ⟨r, rfl, h1, h2⟩
        have := h1.len
        rw [List.length_append] at this
        have : r = [] := List.length_eq_zero_iff.1 (by omega)
        rw [this, List.append_nil]
    · have hlen := h0.len
      rw [Ll (by omega) hg, List.mem_append, qW m (dz + 1) l0 l (by omega) h0 (fun t ht => by have := hl0 t ht; omega)]
      unfold roundUp
      rw [List.mem_flatMap]
      constructor
      · rintro (⟨k, hk, h⟩ | ⟨r, h1, h2, h3⟩)
        · rw [List.mem_range] at hk
          cases hs : yp b p l0 k dz with
          | true => rw [Lj hs] at h; cases h
          | false =>
            rw [AS hs] at h
            obtain ⟨⟨e1, e2⟩, e3⟩ := KX.1 hs
            have hok : mZ b p g (l0 ++ [⟨dz, k⟩]) := by
              refine ⟨by rw [List.length_append]; simp; omega, fun t ht => ?_, ?_⟩
              · rcases List.mem_append.1 ht with ht | ht
                · exact h0.ok t ht
                · rw [List.mem_singleton.1 ht]
                  exact ⟨⟨by show 0 ≤ (dz : Int); omega, by show (dz : Int) < _; omega⟩, ⟨by show 0 ≤ (k : Int); omega, by show (k : Int) < _; omega⟩, e1, e2⟩
              · rw [List.pairwise_append]
                refine ⟨h0.apart, List.pairwise_singleton _ _, fun s hs t ht => ?_⟩
                rw [List.mem_singleton.1 ht]
                exact ⟨hl0 s hs, e3 s hs⟩
            obtain ⟨r, f1, f2, f3⟩ := (qW m (dz + 1) (l0 ++ [⟨dz, k⟩]) l (by omega) hok (fun t ht => by
              rcases List.mem_append.1 ht with ht | ht
              · have := hl0 t ht; omega
              · rw [List.mem_singleton.1 ht]; show (dz : Int) < _; omega)).1 h
            refine ⟨⟨dz, k⟩ :: r, by rw [f1, List.append_assoc]; rfl, f2, fun t ht => ?_⟩
            rcases List.mem_cons.1 ht with rfl | ht
            · exact Int.le_refl _
            · have := f3 t ht; omega
        · exact ⟨r, h1, h2, fun t ht => by have := h3 t ht; omega⟩
      · rintro ⟨r, h1, h2, h3⟩
        cases r with
        | nil => exact .inr ⟨[], h1, h2, fun t ht => by cases ht⟩
        | cons t r =>
          subst h1
          have ht := h2.ok t (List.mem_append.2 (.inr List.mem_cons_self))
          have hge := h3 t List.mem_cons_self
          have hap := h2.apart
          rw [List.pairwise_append, List.pairwise_cons] at hap
          obtain ⟨a1, ⟨a2, a3⟩, a4⟩ := hap
          by_cases e : t.dz = dz
          · refine .inl ⟨t.aim.toNat, List.mem_range.2 (by have := ht.2.1; omega), ?_⟩
            have ek : ((t.aim.toNat : Nat) : Int) = t.aim := by have := ht.2.1; omega
            have ee : (⟨(dz : Int), ((t.aim.toNat : Nat) : Int)⟩ : cr) = t := by cases t; simp only [cr.mk.injEq] at *; exact ⟨e.symm, ek⟩
            have hs : yp b p l0 t.aim.toNat dz = false := KX.2 ⟨⟨by rw [ek]; exact ht.2.2.1, by rw [ek, ← e]; exact ht.2.2.2⟩, fun s hs => by rw [ek]; exact (a4 s hs t List.mem_cons_self).2⟩
            rw [AS hs, ee]
            have hok : mZ b p g (l0 ++ [t]) := by
              refine ⟨by have := h2.len; rw [List.length_append, List.length_cons] at this; rw [List.length_append]; simp; omega, fun s hs => h2.ok s ?_, ?_⟩
              · rcases List.mem_append.1 hs with hs | hs
                · exact List.mem_append.2 (.inl hs)
                · exact List.mem_append.2 (.inr (by rw [List.mem_singleton.1 hs]; exact List.mem_cons_self))
              · rw [List.pairwise_append]
                exact ⟨h0.apart, List.pairwise_singleton _ _, fun s hs u hu => by rw [List.mem_singleton.1 hu]; exact a4 s hs t List.mem_cons_self⟩
            refine (qW m (dz + 1) (l0 ++ [t]) _ (by omega) hok (fun s hs => ?_)).2 ⟨r, by rw [List.append_assoc]; rfl, h2, fun s hs => ?_⟩
            · rcases List.mem_append.1 hs with hs | hs
              · have := hl0 s hs; omega
              · rw [List.mem_singleton.1 hs, e]; omega
            · have := (a2 s hs).1; omega
          · refine .inr ⟨t :: r, rfl, h2, fun s hs => ?_⟩
            rcases List.mem_cons.1 hs with rfl | hs
            · omega
            · have := (a2 s hs).1; omega
theorem pV {b : bR} {p : Pl} {g : Int} (hg : 0 ≤ g) {l : List cr} : l ∈ jH b p g ↔ mZ b p g l := by
 unfold jH
 rw [qW b.lots.length 0 [] l (by omega) ⟨by simp; exact hg, (fun t h => by cases h), List.Pairwise.nil⟩ (fun t h => by cases h)]
 constructor
 ·rintro ⟨r, _, h, _⟩; exact h
 intro h; exact ⟨l, rfl, h, fun t ht => by have := (h.ok t ht).1.1; omega⟩
def bg (p : Pl) (l : List cr) : Pl := l.foldl bM p
theorem tw (p : Pl) (l : List cr) (t : cr) : bg p (l ++ [t]) = bM (bg p l) t := by unfold bg; rw [List.foldl_append]; rfl
theorem DD {p : Pl} {t : cr} {i : Nat} (h : i < 6) : nth (bM p t).1 i = if t.dz.toNat = i then t.aim else nth p.1 i := OM (by rw [p.2]; exact h)
theorem Ra {b : bR} {p : Pl} {g : Int} : ∀ (l : List cr), mZ b p g l → ∀ i, i < 6 → nth (bg p l).1 i = nth p.1 i ∨ ∃ t ∈ l, nth (bg p l).1 i = t.aim := by
 refine AG (fun _ i _ => .inl rfl) fun l t ih h i hi => ?_
 rw [tw, DD hi]
 by_cases e : t.dz.toNat = i
 ·rw [if_pos e]; exact .inr ⟨t, List.mem_append.2 (.inr (List.mem_singleton.2 rfl)), rfl⟩
 rw [if_neg e]
 have hl : mZ b p g l := ⟨by have := h.len; rw [List.length_append] at this; simp at this; omega, fun s hs => h.ok s (List.mem_append.2 (.inl hs)), (List.pairwise_append.1 h.apart).1⟩
 rcases ih hl i hi with h1 | ⟨s, hs, h1⟩
 ·exact .inl h1
 exact .inr ⟨s, List.mem_append.2 (.inl hs), h1⟩
theorem GM {b : bR} {p : Pl} {g : Int} (h6 : b.lots.length ≤ 6) : ∀ (l : List cr), mZ b p g l → oy b p l = some (bg p l) := by
 refine AG (fun _ => rfl) fun l t ih h => ?_
 have hl : mZ b p g l := ⟨by have := h.len; rw [List.length_append] at this; simp at this; omega, fun s hs => h.ok s (List.mem_append.2 (.inl hs)), (List.pairwise_append.1 h.apart).1⟩
 have ht := h.ok t (List.mem_append.2 (.inr (List.mem_singleton.2 rfl)))
 have hap := (List.pairwise_append.1 h.apart).2.2
 rw [tw]
 refine Bi (ih hl) (ij.2 ⟨ht.1.1, ht.1.2, ht.2.1.1, ht.2.1.2, ?_, ht.2.2.2⟩)
 rw [Bool.eq_false_iff]
 intro hc
 obtain ⟨i, hi, e⟩ := (C1 h6).1 hc
 rcases Ra l hl i (by omega) with h1 | ⟨s, hs, h1⟩
 ·have := (C1 h6).2 ⟨i, hi, h1.symm.trans e⟩
  rw [ht.2.2.1] at this; cases this
 exact (hap s hs t (List.mem_singleton.2 rfl)).2 (h1.symm.trans e)
def tJ (b : bR) (g : Int) : Pl → List (List cr) → Option Pl
  | p, [] => some p
  | p, l :: rs => if l ∈ jH b p g then tJ b g (bg p l) rs else none
theorem qa (b : bR) (g : Int) : ∀ (rs : List (List cr)) (p : Pl) (rs' : List (List cr)), tJ b g p (rs ++ rs') = (tJ b g p rs).bind fun q => tJ b g q rs'
  | [], p, rs' => rfl
  | l :: rs, p, rs' => by
    show (if l ∈ jH b p g then tJ b g (bg p l) (rs ++ rs') else none) = Option.bind (if l ∈ jH b p g then tJ b g (bg p l) rs else none) _
    by_cases h : l ∈ jH b p g
    · rw [if_pos h, if_pos h, qa b g rs (bg p l) rs']
    · rw [if_neg h, if_neg h]; rfl
theorem QM {b : bR} {g : Int} {p : Pl} {l : List cr} (h : l ∈ jH b p g) : tJ b g p [l] = some (bg p l) := if_pos h
theorem ON {b : bR} {g : Int} {p q : Pl} {rs : List (List cr)} {l : List cr} (h1 : tJ b g p rs = some q) (h2 : l ∈ jH b q g) : tJ b g p (rs ++ [l]) = some (bg q l) := by
 rw [qa, h1]; exact QM h2
structure zC where
  ways : List (Pl × Way)
  queue : List Pl
def qH (p : Pl) (x : zC) (l : List cr) : zC := if (bf x.ways (bg p l)).isSome = true then x else ⟨cq x.ways (bg p l) ⟨p, l, 0⟩, x.queue ++ [bg p l]⟩
theorem A9 {p : Pl} {x : zC} {l : List cr} (h : (bf x.ways (bg p l)).isSome = true) : qH p x l = x := if_pos h
theorem DB {p : Pl} {x : zC} {l : List cr} (h : (bf x.ways (bg p l)).isSome = false) : qH p x l = ⟨cq x.ways (bg p l) ⟨p, l, 0⟩, x.queue ++ [bg p l]⟩ := if_neg (by rw [h]; decide)
structure tT (b : bR) (g : Int) (dep : Pl → Nat) (D : Nat) (cur : Option (Pl × List (List cr))) (x : zC) : Prop where
  start : bf x.ways (cP b) = some CB
  dep0 : dep (cP b) = 0
  keys : (x.ways.map Prod.fst).Nodup
  via : ∀ q w, bf x.ways q = some w → q = cP b ∨ (w.byT ∈ jH b w.frm g ∧ q = bg w.frm w.byT ∧ (∃ w', bf x.ways w.frm = some w') ∧ dep q = dep w.frm + 1)
  depl : ∀ q w, bf x.ways q = some w → dep q < x.ways.length
  bins : ∀ q w, bf x.ways q = some w → uE q
  qin : ∀ q ∈ x.queue, (∃ w, bf x.ways q = some w) ∧ D ≤ dep q ∧ dep q ≤ D + 1
  srt : x.queue.Pairwise fun s t => dep s ≤ dep t
  old : ∀ q w, bf x.ways q = some w → q ∈ x.queue ∨ (dep q ≤ D ∧ fj b q = false ∧ ((∃ ls, cur = some (q, ls)) ∨ ∀ l ∈ jH b q g, (∃ w', bf x.ways (bg q l) = some w') ∧ dep (bg q l) ≤ dep q + 1))
  curs : ∀ p ls, cur = some (p, ls) → (∃ w, bf x.ways p = some w) ∧ dep p = D ∧ ∀ l ∈ ls, (∃ w', bf x.ways (bg p l) = some w') ∧ dep (bg p l) ≤ dep p + 1
def Iq (dep : Pl → Nat) (q : Pl) (n : Nat) : Pl → Nat := fun r => if r = q then n else dep r
variable {b : bR} {g : Int} {dep : Pl → Nat} {D : Nat} {x : zC} {p : Pl}
theorem Hz (hr : b.dj) (hg : 0 ≤ g) {ls : List (List cr)} {l : List cr} (h : tT b g dep D (some (p, ls)) x) (hl : l ∈ jH b p g) : ∃ dep', tT b g dep' D (some (p, ls ++ [l])) (qH p x l) := by
  obtain ⟨⟨wp, hwp⟩, hpD, hps⟩ := h.curs p ls rfl
  cases hm : (bf x.ways (bg p l)).isSome with
  | true =>
    rw [A9 hm]
    obtain ⟨w0, hw0⟩ := Option.isSome_iff_exists.1 hm
    refine ⟨dep, { h with old := fun q w hq => ?_, curs := fun p' ls' e => ?_ }⟩
    · rcases h.old q w hq with h1 | ⟨h1, h2, h3⟩
      · exact .inl h1
      · refine .inr ⟨h1, h2, ?_⟩
        rcases h3 with ⟨ls', e⟩ | h3
        · injection e with e; injection e with e1 e2; exact .inl ⟨_, by rw [e1]⟩
        · exact .inr h3
    · injection e with e; injection e with e1 e2; subst e1; subst e2
      refine ⟨⟨wp, hwp⟩, hpD, fun l' hl' => ?_⟩
      rcases List.mem_append.1 hl' with hl' | hl'
      · exact hps l' hl'
      · rw [List.mem_singleton.1 hl']
        refine ⟨⟨w0, hw0⟩, ?_⟩
        rcases h.old _ w0 hw0 with h1 | ⟨h1, _⟩
        · have := (h.qin _ h1).2.2; omega
        · omega
  | false =>
    rw [DB hm]
    have hnone : bf x.ways (bg p l) = none := by
      cases e : bf x.ways (bg p l) with
      | none => rfl
      | some w => rw [e] at hm; cases hm
    have hne : ∀ r w, bf x.ways r = some w → r ≠ bg p l := fun r w hw e => by rw [e, hnone] at hw; cases hw
    have hget : ∀ r, bf (cq x.ways (bg p l) ⟨p, l, 0⟩) r = if bg p l = r then some ⟨p, l, 0⟩ else bf x.ways r := fun r => nI _ _ _ _
    have hold : ∀ r w, bf x.ways r = some w → bf (cq x.ways (bg p l) ⟨p, l, 0⟩) r = some w := fun r w hw => by rw [hget, if_neg (fun e => hne r w hw e.symm)]; exact hw
    have hdep : ∀ r w, bf x.ways r = some w → Iq dep (bg p l) (D + 1) r = dep r := fun r w hw => if_neg (hne r w hw)
    have hnew : Iq dep (bg p l) (D + 1) (bg p l) = D + 1 := if_pos rfl
    have hlen : (cq x.ways (bg p l) ⟨p, l, 0⟩).length = x.ways.length + 1 := wE _ _ _ hnone
    have split : ∀ r w, bf (cq x.ways (bg p l) ⟨p, l, 0⟩) r = some w → (r = bg p l ∧ w = ⟨p, l, 0⟩) ∨ bf x.ways r = some w := fun r w hw => by
      rw [hget] at hw
      by_cases e : bg p l = r
      · rw [if_pos e] at hw; injection hw with hw; exact .inl ⟨e.symm, hw.symm⟩
      · rw [if_neg e] at hw; exact .inr hw
    refine ⟨Iq dep (bg p l) (D + 1), hold _ _ h.start, (hdep _ _ h.start).trans h.dep0, kX _ _ _ h.keys, fun q w hw => ?_, fun q w hw => ?_, fun q w hw => ?_, fun q hq => ?_, ?_, fun q w hw => ?_, fun p' ls' e => ?_⟩
    · rcases split q w hw with ⟨rfl, rfl⟩ | hw
      · exact .inr ⟨hl, rfl, ⟨wp, hold _ _ hwp⟩, by rw [hnew, hdep _ _ hwp, hpD]⟩
      · rcases h.via q w hw with h1 | ⟨h1, h2, ⟨w', h3⟩, h4⟩
        · exact .inl h1
        · exact .inr ⟨h1, h2, ⟨w', hold _ _ h3⟩, by rw [hdep _ _ hw, hdep _ _ h3]; exact h4⟩
    · rw [hlen]
      rcases split q w hw with ⟨rfl, rfl⟩ | hw
      · have := h.depl p wp hwp; rw [hnew]; omega
      · have := h.depl q w hw; rw [hdep _ _ hw]; omega
    · rcases split q w hw with ⟨rfl, rfl⟩ | hw
      · exact Aa hr l (h.bins p wp hwp) (GM hr.lots l ((pV hg).1 hl))
      · exact h.bins q w hw
    · rcases List.mem_append.1 hq with hq | hq
      · obtain ⟨⟨w, hw⟩, h2⟩ := h.qin q hq
        exact ⟨⟨w, hold _ _ hw⟩, by rw [hdep _ _ hw]; exact h2⟩
      · rw [List.mem_singleton.1 hq, hnew]
        exact ⟨⟨_, by rw [hget, if_pos rfl]⟩, by omega, by omega⟩
    · rw [List.pairwise_append]
      refine ⟨h.srt.imp_of_mem fun {s t} hs ht hst => ?_, List.pairwise_singleton _ _, fun s hs t ht => ?_⟩
      · obtain ⟨⟨ws, h1⟩, _⟩ := h.qin s hs
        obtain ⟨⟨wt, h2⟩, _⟩ := h.qin t ht
        rw [hdep _ _ h1, hdep _ _ h2]; exact hst
      · obtain ⟨⟨ws, h1⟩, _, h2⟩ := h.qin s hs
        rw [List.mem_singleton.1 ht, hnew, hdep _ _ h1]; exact h2
    · rcases split q w hw with ⟨rfl, rfl⟩ | hw
      · exact .inl (List.mem_append.2 (.inr (List.mem_singleton.2 rfl)))
      · rcases h.old q w hw with h1 | ⟨h1, h2, h3⟩
        · exact .inl (List.mem_append.2 (.inl h1))
        · refine .inr ⟨by rw [hdep _ _ hw]; exact h1, h2, ?_⟩
          rcases h3 with ⟨ls', e⟩ | h3
          · injection e with e; injection e with e1 e2; exact .inl ⟨_, by rw [e1]⟩
          · refine .inr fun l' hl' => ?_
            obtain ⟨⟨w', h4⟩, h5⟩ := h3 l' hl'
            exact ⟨⟨w', hold _ _ h4⟩, by rw [hdep _ _ h4, hdep _ _ hw]; exact h5⟩
    · injection e with e; injection e with e1 e2; subst e1; subst e2
      refine ⟨⟨wp, hold _ _ hwp⟩, by rw [hdep _ _ hwp]; exact hpD, fun l' hl' => ?_⟩
      rcases List.mem_append.1 hl' with hl' | hl'
      · obtain ⟨⟨w', h4⟩, h5⟩ := hps l' hl'
        exact ⟨⟨w', hold _ _ h4⟩, by rw [hdep _ _ h4, hdep _ _ hwp]; exact h5⟩
      · rw [List.mem_singleton.1 hl', hnew, hdep _ _ hwp]
        exact ⟨⟨_, by rw [hget, if_pos rfl]⟩, by omega⟩
def oU (b : bR) (g : Int) (p : Pl) (z : zC) (k : Nat) : zC := ((jH b p g).take k).foldl (qH p) z
theorem I9 {z : zC} {k : Nat} (hk : k < (jH b p g).length) : oU b g p z (k + 1) = qH p (oU b g p z k) (nth (jH b p g) k) := by
 unfold oU; rw [bh hk, List.foldl_append]; rfl
theorem DF (hr : b.dj) (hg : 0 ≤ g) {z : zC} (h : tT b g dep D (some (p, [])) z) : ∀ k, k ≤ (jH b p g).length → ∃ dep', tT b g dep' D (some (p, (jH b p g).take k)) (oU b g p z k)
  | 0, _ => ⟨dep, by rw [List.take_zero]; exact h⟩
  | k + 1, hk => by
    obtain ⟨dep', h1⟩ := DF hr hg h k (by omega)
    rw [I9 (by omega), bh (by omega)]
    exact Hz hr hg h1 (bL (by omega))
theorem P4 {rest : List Pl} (h : tT b g dep D none x) (hq : x.queue = p :: rest) (hm : fj b p = false) : tT b g dep (dep p) (some (p, [])) ⟨x.ways, rest⟩ := by
 have hp := h.qin p (by rw [hq]; exact List.mem_cons_self)
 have hs := h.srt
 rw [hq, List.pairwise_cons] at hs
 refine ⟨h.start, h.dep0, h.keys, h.via, h.depl, h.bins, fun q hq' => ?_, hs.2, fun q w hw => ?_, fun p' ls e => ?_⟩
 ·have h1 := h.qin q (by rw [hq]; exact List.mem_cons_of_mem _ hq')
  have := hs.1 q hq'
  exact ⟨h1.1, this, by omega⟩
 ·rcases h.old q w hw with h1 | ⟨h1, h2, h3⟩
  ·rw [hq] at h1
   rcases List.mem_cons.1 h1 with rfl | h1
   ·exact .inr ⟨Nat.le_refl _, hm, .inl ⟨[], rfl⟩⟩
   exact .inl h1
  refine .inr ⟨by omega, h2, ?_⟩
  rcases h3 with ⟨ls, e⟩ | h3
  ·cases e
  exact .inr h3
 injection e with e; injection e with e1 e2; subst e1; subst e2
 exact ⟨hp.1, rfl, fun l hl => by cases hl⟩
theorem MY (h : tT b g dep D (some (p, jH b p g)) x) : tT b g dep D none x :=
 { h with
  old := fun q w hw => by
   rcases h.old q w hw with h1 | ⟨h1, h2, h3⟩
   ·exact .inl h1
   refine .inr ⟨h1, h2, .inr ?_⟩
   rcases h3 with ⟨ls, e⟩ | h3
   ·injection e with e; injection e with e1 e2; subst e1
    exact (h.curs p _ rfl).2.2
   exact h3
  curs := fun _ _ e => by cases e }
def U8 (b : bR) : zC := ⟨[(cP b, CB)], [cP b]⟩
def Fz (b : bR) (g : Int) (x : zC) : zC ⊕ Found :=
  match x.queue with
  | [] => .inr ⟨x.ways, U7, false⟩
  | p :: rest => if fj b p = true then .inr ⟨x.ways, p, true⟩ else .inl (oU b g p ⟨x.ways, rest⟩ (jH b p g).length)
def TN (b : bR) (g : Int) : Nat → zC → Option Found
  | 0, _ => none
  | n + 1, x => match Fz b g x with
    | .inr f => some f
    | .inl y => TN b g n y
def Hf (b : bR) (g : Int) (x : zC) (f : Found) : Prop := ∃ n, TN b g n x = some f
theorem Hf.step {y : zC} {f : Found} (e : Fz b g x = .inl y) (h : Hf b g y f) : Hf b g x f := by
 obtain ⟨n, h⟩ := h
 exact ⟨n + 1, by unfold TN; rw [e]; exact h⟩
open Classical in
noncomputable def Q4 (b : bR) (g : Int) : Found := if h : ∃ f, Hf b g (U8 b) f then h.choose else default
theorem LM {rest : List Pl} (hq : x.queue = p :: rest) (hm : fj b p = false) : Fz b g x = .inl (oU b g p ⟨x.ways, rest⟩ (jH b p g).length) := by unfold Fz; rw [hq]; exact if_neg (by rw [hm]; decide)
theorem tT.zK {cur : Option (Pl × List (List cr))} (h : tT b g dep D cur x) : x.ways.length ≤ gb := by
 have := AN h.keys fun p hp => by
  obtain ⟨w, hw⟩ := HF hp
  exact h.bins p w hw
 rwa [List.length_map] at this
noncomputable def Un (x : zC) : Nat := (gb - x.ways.length) * 2 + x.queue.length
theorem LB (z : zC) : ∀ (l : List (List cr)), (l.foldl (qH p) z).ways.length ≥ z.ways.length ∧ (l.foldl (qH p) z).queue.length + z.ways.length ≤ z.queue.length + (l.foldl (qH p) z).ways.length := by
  intro l
  induction l generalizing z with
  | nil => exact ⟨Nat.le_refl _, Nat.le_refl _⟩
  | cons t l ih =>
    rw [List.foldl_cons]
    obtain ⟨h1, h2⟩ := ih (qH p z t)
    cases hm : (bf z.ways (bg p t)).isSome with
    | true => rw [A9 hm] at h1 h2 ⊢; exact ⟨h1, h2⟩
    | false =>
      have hn : bf z.ways (bg p t) = none := by
        cases e : bf z.ways (bg p t) with
        | none => rfl
        | some w => rw [e] at hm; cases hm
      rw [DB hm] at h1 h2 ⊢
      have := wE z.ways (bg p t) ⟨p, t, 0⟩ hn
      simp only [List.length_append, List.length_singleton] at h1 h2
      rw [this] at h1 h2
      exact ⟨by omega, by omega⟩
theorem Qo {rest : List Pl} {dep' : Pl → Nat} {D' : Nat} {cur' : Option (Pl × List (List cr))} (hq : x.queue = p :: rest) (h : tT b g dep' D' cur' (oU b g p ⟨x.ways, rest⟩ (jH b p g).length)) : Un (oU b g p ⟨x.ways, rest⟩ (jH b p g).length) < Un x := by
 have h1 := h.zK
 have h2 := LB (p := p) ⟨x.ways, rest⟩ ((jH b p g).take (jH b p g).length)
 unfold Un
 rw [hq, List.length_cons]
 have h2 : (oU b g p ⟨x.ways, rest⟩ (jH b p g).length).ways.length ≥ x.ways.length ∧ (oU b g p ⟨x.ways, rest⟩ (jH b p g).length).queue.length + x.ways.length ≤ rest.length + (oU b g p ⟨x.ways, rest⟩ (jH b p g).length).ways.length := h2
 omega
theorem PW (hr : b.dj) (hg : 0 ≤ g) {rest : List Pl} (h : tT b g dep D none x) (hq : x.queue = p :: rest) (hm : fj b p = false) : ∃ dep' D', tT b g dep' D' none (oU b g p ⟨x.ways, rest⟩ (jH b p g).length) := by
 obtain ⟨dep', h1⟩ := DF hr hg (P4 h hq hm) _ (Nat.le_refl _)
 rw [List.take_length] at h1
 exact ⟨dep', _, MY h1⟩
structure Vg (b : bR) (g : Int) (f : Found) : Prop where
  yes : f.is = true → ∃ L, rD f.ways (cP b) f.last L ∧ tJ b g (cP b) L = some f.last ∧ fj b f.last = true ∧ (L.length ≤ 40000000) ∧ ∀ rs q, tJ b g (cP b) rs = some q → fj b q = true → L.length ≤ rs.length
  no : f.is = false → ∀ rs q, tJ b g (cP b) rs = some q → fj b q = false
theorem tT.chain (h : tT b g dep D none x) : ∀ (n : Nat) (p : Pl) (w : Way), bf x.ways p = some w → dep p ≤ n → ∃ A, rD x.ways (cP b) p A ∧ tJ b g (cP b) A = some p ∧ A.length = dep p := by
  intro n
  induction n with
  | zero =>
    intro p w hw hn
    rcases h.via p w hw with e | ⟨_, _, _, h4⟩
    · subst e; exact ⟨[], .nil, rfl, h.dep0.symm⟩
    · omega
  | succ n ih =>
    intro p w hw hn
    by_cases e : p = cP b
    · subst e; exact ⟨[], .nil, rfl, h.dep0.symm⟩
    rcases h.via p w hw with e' | ⟨h1, h2, ⟨w', h3⟩, h4⟩
    · exact absurd e' e
    · obtain ⟨A, g1, g2, g3⟩ := ih w.frm w' h3 (by omega)
      exact ⟨A ++ [w.byT], .snoc e hw g1, by rw [h2]; exact ON g2 h1, by rw [List.length_append, g3, h4]; rfl⟩
def KZ (b : bR) (g : Int) (x : zC) : Prop := ∀ f, Hf b g x f → Q4 b g = f
theorem KZ.step {y : zC} (h : KZ b g x) (e : Fz b g x = .inl y) : KZ b g y := fun f hf => h f (hf.step e)
def CY (x : zC) : Pl := nth x.queue 0
def R3 (x : zC) : zC := ⟨x.ways, x.queue.drop 1⟩
theorem TE {x : zC} (h : 0 < x.queue.length) : x.queue = CY x :: x.queue.drop 1 := by
 have := pY h
 rw [List.drop_zero] at this
 exact this
structure NV (b : bR) (g : Int) (x : zC) : Prop where
  inv : ∃ dep D, tT b g dep D none x
  same : KZ b g x
theorem NV.len (h : NV b g x) : x.ways.length ≤ gb := let ⟨_, _, h⟩ := h.inv; h.zK
theorem NV.next (h : NV b g x) (hr : b.dj) (hg : 0 ≤ g) (hq : 0 < x.queue.length) (hm : fj b (CY x) = false) : NV b g (oU b g (CY x) (R3 x) (jH b (CY x) g).length) ∧ Un (oU b g (CY x) (R3 x) (jH b (CY x) g).length) < Un x := by
 obtain ⟨dep, D, h1⟩ := h.inv
 obtain ⟨dep', D', h2⟩ := PW hr hg h1 (TE hq) hm
 exact ⟨⟨⟨dep', D', h2⟩, h.same.step (LM (TE hq) hm)⟩, Qo (TE hq) h2⟩
end Go.Proofs.YtmmcenjknimhbaaGreat
namespace Go.Proofs.YtmmcenjknimhbaaGreat
open Go Go.T
def Mw (b : bR) : List Int := b.lots.map fun l => l.inn
def TZ (b : bR) (p : List Int) (t : cr) : Bool := decide (t.dz < 0) || decide (t.dz ≥ p.length) || decide (t.aim < 0) || decide (t.aim ≥ b.sizes.length) || decide (t.aim ∈ p) || decide (nth b.sizes t.aim.toNat < (nth b.lots t.dz.toNat).sacks)
theorem LV {b : bR} {p : List Int} {t : cr} : TZ b p t = false ↔ (0 ≤ t.dz ∧ t.dz < p.length) ∧ (0 ≤ t.aim ∧ t.aim < b.sizes.length) ∧ t.aim ∉ p ∧ (nth b.lots t.dz.toNat).sacks ≤ nth b.sizes t.aim.toNat := by
 unfold TZ
 simp only [Bool.or_eq_false_iff, decide_eq_false_iff_not]
 constructor
 ·rintro ⟨⟨⟨⟨⟨h1, h2⟩, h3⟩, h4⟩, h5⟩, h6⟩; exact ⟨by omega, by omega, h5, by omega⟩
 rintro ⟨h1, h2, h3, h4⟩; exact ⟨⟨⟨⟨⟨by omega, by omega⟩, by omega⟩, by omega⟩, h3⟩, by omega⟩
def Aw (b : bR) : List Int → List cr → Option (List Int)
  | p, [] => some p
  | p, t :: l => if TZ b p t = true then none else Aw b (p.set t.dz.toNat t.aim) l
def zD (b : bR) (plan : List cr) : List Int × Bool := match Aw b (Mw b) plan with
  | some p => (p, true)
  | none => ([], false)
structure Uu (b : bR) (plan : List cr) (k : Nat) (p : List Int) : Prop where
  same : Aw b (Mw b) plan = Aw b p (plan.drop k)
  len : p.length = b.lots.length
  le : k ≤ plan.length
section
variable {b : bR} {plan : List cr} {k : Nat} {p : List Int}
theorem Uu.next (h : Uu b plan k p) (hk : k < plan.length) (hn : TZ b p (nth plan k) = false) : Uu b plan (k + 1) (p.set (nth plan k).dz.toNat (nth plan k).aim) := by
 refine ⟨?_, by rw [List.length_set]; exact h.len, hk⟩
 rw [h.same, pY hk]
 exact if_neg (by rw [hn]; decide)
theorem Uu.end (h : Uu b plan k p) (hk : plan.length ≤ k) : zD b plan = (p, true) := by
 unfold zD
 rw [h.same, List.drop_of_length_le hk]; rfl
end
theorem IJ {b : bR} {P : Pl} {x : Int} : mI b P x = false ↔ x ∉ P.1.take b.lots.length := by
 unfold mI; rw [List.any_eq_false]; simp only [decide_eq_true_eq]
 exact ⟨fun h hm => h _ hm rfl, fun h y hy e => h (e ▸ hy)⟩
theorem Ct {b : bR} {P : Pl} (h6 : b.lots.length ≤ 6) {t : cr} : TZ b (P.1.take b.lots.length) t = false ↔ t ∈ cH b P := by
 rw [LV, ij]
 have hl : (P.1.take b.lots.length).length = b.lots.length := by rw [List.length_take, P.2]; omega
 rw [hl, IJ]; unfold bR.hold; rw [decide_eq_true_eq]
 constructor
 ·rintro ⟨⟨h1, h2⟩, ⟨h3, h4⟩, h5, h6⟩; exact ⟨h1, h2, h3, h4, h5, h6⟩
 rintro ⟨h1, h2, h3, h4, h5, h6⟩; exact ⟨⟨h1, h2⟩, ⟨h3, h4⟩, h5, h6⟩
theorem NF {P : Pl} {t : cr} {n : Nat} : (P.1.take n).set t.dz.toNat t.aim = (bM P t).1.take n := by
 unfold bM; rw [List.take_set]
theorem OJ {b : bR} (h6 : b.lots.length ≤ 6) : ∀ (l : List cr) (P : Pl), Aw b (P.1.take b.lots.length) l = (oy b P l).map fun q => q.1.take b.lots.length
  | [], P => rfl
  | t :: l, P => by
    show (if TZ b (P.1.take b.lots.length) t = true then none else Aw b ((P.1.take b.lots.length).set t.dz.toNat t.aim) l) = Option.map _ (if t ∈ cH b P then oy b (bM P t) l else none)
    by_cases h : t ∈ cH b P
    · rw [if_pos h, if_neg (by rw [(Ct h6).2 h]; decide), NF, OJ h6 l]
    · rw [if_neg h, if_pos (by
        cases e : TZ b (P.1.take b.lots.length) t with
        | true => rfl
        | false => exact absurd ((Ct h6).1 e) h)]; rfl
theorem Co {b : bR} (h6 : b.lots.length ≤ 6) : (cP b).1.take b.lots.length = Mw b := by
 unfold cP Mw
 show List.take _ (List.take 6 _) = _
 rw [List.take_take, Nat.min_eq_left h6, List.take_append_of_le_length (by simp)]
 exact List.take_of_length_le (by simp)
theorem NU {b : bR} (h6 : b.lots.length ≤ 6) (l : List cr) : Aw b (Mw b) l = (oy b (cP b) l).map fun q => q.1.take b.lots.length := by rw [← Co h6, OJ h6]
theorem LZ {b : bR} (h6 : b.lots.length ≤ 6) {l : List cr} {q : Pl} (h : oy b (cP b) l = some q) : zD b l = (q.1.take b.lots.length, true) := by
 unfold zD; rw [NU h6, h]; rfl
theorem Ky {b : bR} (h6 : b.lots.length ≤ 6) {l : List cr} (h : oy b (cP b) l = none) : zD b l = ([], false) := by
 unfold zD; rw [NU h6, h]; rfl
def U1 (b : bR) (p : List Int) (i : Nat) : Bool := decide ((nth b.lots i).aim = -1) || decide ((nth b.lots i).aim = nth p i)
def Ui (b : bR) (plan : List cr) (k : Nat) : Bool := (zD b plan).2 && (List.range k).all (U1 b (zD b plan).1)
def uT (b : bR) (plan : List cr) : Bool := Ui b plan (zD b plan).1.length
theorem A5 {l : List Int} {n i : Nat} (h : i < n) : nth (l.take n) i = nth l i := by
 unfold nth; rw [List.getD_eq_getElem?_getD, List.getD_eq_getElem?_getD, List.getElem?_take_of_lt h]
theorem tH {b : bR} (h6 : b.lots.length ≤ 6) {l : List cr} : uT b l = true ↔ ∃ q, oy b (cP b) l = some q ∧ fj b q = true := by
  unfold uT Ui
  cases h : oy b (cP b) l with
  | none => rw [Ky h6 h]; exact ⟨(fun h => by cases h), fun ⟨_, h, _⟩ => by cases h⟩
  | some q =>
    rw [LZ h6 h]
    have hl : (q.1.take b.lots.length).length = b.lots.length := by rw [List.length_take, q.2]; omega
    have e : (true && (List.range (q.1.take b.lots.length).length).all (U1 b (q.1.take b.lots.length))) = fj b q := by
      rw [hl, Bool.true_and]
      unfold fj
      rw [Bool.eq_iff_iff, List.all_eq_true, List.all_eq_true]
      have key : ∀ i, i ∈ List.range b.lots.length → U1 b (q.1.take b.lots.length) i = (decide ((nth b.lots i).aim = -1) || decide ((nth b.lots i).aim = nth q.1 i)) := fun i hi => by
        unfold U1; rw [A5 (List.mem_range.1 hi)]
      exact ⟨fun H i hi => by rw [← key i hi]; exact H i hi, fun H i hi => by rw [key i hi]; exact H i hi⟩
    show (true && _) = true ↔ _
    rw [e]
    exact ⟨fun h => ⟨q, rfl, h⟩, fun ⟨q', h1, h2⟩ => by injection h1 with h1; rw [h1]; exact h2⟩
structure U5 (b : bR) (s : Sk) (most : Int) (l : List cr) (e : Sk) : Prop where
  len : (l.length : Int) ≤ most
  taken : s.taken ≤ e.taken ∧ e.taken ≤ s.taken + 1 + 2 * most
  ok : (zD b l).2 = true
end Go.Proofs.YtmmcenjknimhbaaGreat
namespace Go.Proofs.YtmmcenjknimhbaaGreat
open Go Go.T
def SI (b : bR) (p : Pl) : Prop := ∀ i k, i < b.lots.length → k < b.lots.length → nth p.1 i = nth p.1 k → i = k
theorem BR {b : bR} {p q : Pl} {t : cr} {l : List cr} (h : oy b p (t :: l) = some q) : t ∈ cH b p ∧ oy b (bM p t) l = some q := by
 have h : (if t ∈ cH b p then oy b (bM p t) l else none) = some q := h
 by_cases hu : t ∈ cH b p
 ·rw [if_pos hu] at h; exact ⟨hu, h⟩
 rw [if_neg hu] at h; cases h
theorem LW {b : bR} (h6 : b.lots.length ≤ 6) {i : Nat} (hi : i < b.lots.length) : nth (cP b).1 i = (nth b.lots i).inn := by
 rw [← A5 (n := b.lots.length) hi, Co h6]
 unfold Mw
 rw [cF (by rw [List.length_map]; exact hi), cF hi, List.getElem_map]
structure J9 (b : bR) (c : cr → Int) (e : Int) (l : List cr) (n : Int) : Prop where
  err : e = 0 ∨ e = 7
  yes : e = 0 → uT b l = true ∧ j3 c l = n ∧ ∀ x, uT b x = true → n ≤ j3 c x
  no : e = 7 → l = [] ∧ n = 0 ∧ ∀ x, uT b x = false
theorem F7 (l : List cr) : j3 H7 l = l.length := by
  unfold j3 H7
  induction l with
  | nil => rfl
  | cons t l ih => rw [List.map_cons, List.sum_cons, ih, List.length_cons]; omega
end Go.Proofs.YtmmcenjknimhbaaGreat
namespace Go.Proofs.YtmmcenjknimhbaaGreat
open Go Go.T
variable {b : bR} {g : Int}
theorem rJ {p q : Pl} {l : List cr} {rs : List (List cr)} (h : tJ b g p (l :: rs) = some q) : l ∈ jH b p g ∧ tJ b g (bg p l) rs = some q := by
 have h : (if l ∈ jH b p g then tJ b g (bg p l) rs else none) = some q := h
 by_cases hu : l ∈ jH b p g
 ·rw [if_pos hu] at h; exact ⟨hu, h⟩
 rw [if_neg hu] at h; cases h
theorem xu {p : Pl} {l : List cr} {rs : List (List cr)} (h : l ∈ jH b p g) : tJ b g p (l :: rs) = tJ b g (bg p l) rs := if_pos h
theorem vJ (h6 : b.lots.length ≤ 6) (hg : 0 ≤ g) : ∀ (rs : List (List cr)) {p q : Pl}, tJ b g p rs = some q → oy b p rs.flatten = some q
  | [], p, q, h => h
  | l :: rs, p, q, h => by
    obtain ⟨h1, h2⟩ := rJ h
    rw [List.flatten_cons, qL, GM h6 l ((pV hg).1 h1)]
    exact vJ h6 hg rs h2
theorem Ml {p : Pl} {t : cr} (hg : 1 ≤ g) (h : t ∈ cH b p) : [t] ∈ jH b p g := by
 rw [pV (by omega)]
 have := ij.1 h
 refine ⟨by simpa using hg, fun u hu => ?_, List.pairwise_singleton _ _⟩
 rw [List.mem_singleton.1 hu]
 exact ⟨⟨this.1, this.2.1⟩, ⟨this.2.2.1, this.2.2.2.1⟩, this.2.2.2.2.1, this.2.2.2.2.2⟩
theorem r7 (hg : 1 ≤ g) : ∀ (l : List cr) {p q : Pl}, oy b p l = some q → tJ b g p (l.map fun t => [t]) = some q
  | [], p, q, h => h
  | t :: l, p, q, h => by
    obtain ⟨h1, h2⟩ := BR h
    rw [List.map_cons, xu (Ml hg h1)]
    exact r7 hg l h2
theorem Fh {g' : Int} (hg : 0 ≤ g) (hgg : g ≤ g') : ∀ (rs : List (List cr)) {p q : Pl}, tJ b g p rs = some q → tJ b g' p rs = some q
  | [], p, q, h => h
  | l :: rs, p, q, h => by
    obtain ⟨h1, h2⟩ := rJ h
    have h3 := (pV hg).1 h1
    rw [xu ((pV (by omega)).2 ⟨by have := h3.len; omega, h3.ok, h3.apart⟩)]
    exact Fh hg hgg rs h2
theorem AZ (hg : 0 ≤ g) : ∀ (rs : List (List cr)) {p q : Pl}, tJ b g p rs = some q → ∀ l ∈ rs, (l.length : Int) ≤ g
  | [], p, q, _, l, hl => by cases hl
  | r :: rs, p, q, h, l, hl => by
    obtain ⟨h1, h2⟩ := rJ h
    rcases List.mem_cons.1 hl with rfl | hl
    · exact ((pV hg).1 h1).len
    · exact AZ hg rs h2 l hl
theorem KH (hg : 0 ≤ g) : ∀ (rs : List (List cr)), (∀ l ∈ rs, (l.length : Int) ≤ g) → (rs.flatten.length : Int) ≤ rs.length * g
  | [], _ => by simp
  | l :: rs, h => by
    have h1 := h l List.mem_cons_self
    have h2 := KH hg rs fun r hr => h r (List.mem_cons_of_mem _ hr)
    rw [List.flatten_cons, List.length_append, List.length_cons]
    have e : (((rs.length + 1 : Nat) : Int)) * g = rs.length * g + g := by rw [Int.natCast_add, Int.add_mul]; simp
    rw [e]; omega
structure wZ (b : bR) (g e : Int) (rs : List (List cr)) : Prop where
  err : e = 0 ∨ e = 7
  yes : e = 0 → ∃ q, tJ b g (cP b) rs = some q ∧ fj b q = true ∧ ∀ rs' q', tJ b g (cP b) rs' = some q' → fj b q' = true → rs.length ≤ rs'.length
  no : e = 7 → rs = [] ∧ ∀ rs' q, tJ b g (cP b) rs' = some q → fj b q = false
section
variable {e e' n : Int} {l : List cr} {rs rs' : List (List cr)}
theorem wZ.same (h : wZ b g e' rs) (h6 : b.lots.length ≤ 6) (hg : 1 ≤ g) (hc : J9 b H7 e l n) : e' = e := by
 rcases h.err with rfl | rfl
 ·rcases hc.err with rfl | rfl
  ·rfl
  obtain ⟨q, h1, h2, _⟩ := h.yes rfl
  have := (hc.no rfl).2.2 rs.flatten
  rw [(tH h6).2 ⟨q, vJ h6 (by omega) rs h1, h2⟩] at this; cases this
 rcases hc.err with rfl | rfl
 ·obtain ⟨q, h1, h2⟩ := (tH h6).1 (hc.yes rfl).1
  have := (h.no rfl).2 _ q (r7 hg l h1)
  rw [h2] at this; cases this
 rfl
theorem wZ.right (h : wZ b g 0 rs) (h6 : b.lots.length ≤ 6) (hg : 1 ≤ g) : uT b rs.flatten = true := by
 obtain ⟨q, h1, h2, _⟩ := h.yes rfl
 exact (tH h6).2 ⟨q, vJ h6 (by omega) rs h1, h2⟩
theorem wZ.zK (h : wZ b g 0 rs) (h6 : b.lots.length ≤ 6) (hg : 1 ≤ g) (hc : J9 b H7 0 l n) : n ≤ rs.length * g ∧ (rs.length : Int) ≤ n := by
 obtain ⟨q, h1, h2, h3⟩ := h.yes rfl
 obtain ⟨c1, c2, c3⟩ := hc.yes rfl
 rw [F7] at c2
 constructor
 ·have h4 := c3 _ (h.right h6 hg)
  rw [F7] at h4
  have := KH (by omega) rs (AZ (by omega) rs h1)
  omega
 obtain ⟨q', g1, g2⟩ := (tH h6).1 c1
 have := h3 _ q' (r7 hg l g1) g2
 rw [List.length_map] at this; omega
theorem wZ.less (h : wZ b g 0 rs) (h' : wZ b (g + 1) 0 rs') (hg : 1 ≤ g) : rs'.length ≤ rs.length := by
 obtain ⟨q, h1, h2, _⟩ := h.yes rfl
 obtain ⟨_, _, _, h3⟩ := h'.yes rfl
 exact h3 _ q (Fh (by omega) (by omega) rs h1) h2
theorem G1 (hg : 0 ≤ g) : ∀ (rs1 : List (List cr)) {rs2 : List (List cr)} {p q : Pl}, tJ b g p (rs1 ++ [] :: rs2) = some q → tJ b g p (rs1 ++ rs2) = some q
  | [], rs2, p, q, h => (rJ h).2
  | r :: rs1, rs2, p, q, h => by
    obtain ⟨h1, h2⟩ := rJ h
    rw [List.cons_append, xu h1]
    exact G1 hg rs1 h2
theorem wZ.rows (h : wZ b g 0 rs) (hg : 1 ≤ g) : ∀ l ∈ rs, 0 < l.length ∧ (l.length : Int) ≤ g := fun l hl => by
  obtain ⟨q, h1, h2, h3⟩ := h.yes rfl
  refine ⟨?_, AZ (by omega) rs h1 l hl⟩
  cases l with
  | cons t l => exact Nat.zero_lt_succ _
  | nil =>
    obtain ⟨s, r, e⟩ := List.append_of_mem hl
    rw [e] at h1
    have := h3 _ q (G1 (by omega) s h1) h2
    rw [e] at this; simp at this
    omega
end
def uP (m : Nat) : Nat → List (List Int)
  | 0 => [[]]
  | n + 1 => (List.range m).flatMap fun (k : Nat) => (uP m n).map fun l => (k : Int) :: l
theorem zj (m : Nat) : ∀ n, (uP m n).length = m ^ n
  | 0 => rfl
  | n + 1 => by
    unfold uP
    rw [List.length_flatMap]
    have : ((List.range m).map fun (k : Nat) => ((uP m n).map fun l => (k : Int) :: l).length) = List.replicate m (m ^ n) := by
      rw [List.eq_replicate_iff]
      refine ⟨by simp, fun x hx => ?_⟩
      obtain ⟨k, _, rfl⟩ := List.mem_map.1 hx
      rw [List.length_map, zj m n]
    rw [this, List.sum_replicate_nat, Nat.pow_succ, Nat.mul_comm]
theorem A2 {m : Nat} : ∀ {n : Nat} {l : List Int}, l.length = n → (∀ x ∈ l, 0 ≤ x ∧ x < (m : Int)) → l ∈ uP m n
  | 0, l, h, _ => by rw [List.length_eq_zero_iff.1 h]; exact List.mem_singleton.2 rfl
  | n + 1, [], h, _ => by cases h
  | n + 1, x :: l, h, hx => by
    unfold uP
    have h1 := hx x List.mem_cons_self
    rw [List.mem_flatMap]
    refine ⟨x.toNat, List.mem_range.2 (by omega), List.mem_map.2 ⟨l, A2 (by simpa using h) (fun y hy => hx y (List.mem_cons_of_mem _ hy)), ?_⟩⟩
    rw [Int.toNat_of_nonneg h1.1]
theorem E1 {b : bR} : ∀ (l : List cr) {p q : Pl}, oy b p l = some q → q.1.drop b.lots.length = p.1.drop b.lots.length
  | [], p, q, h => by injection h with h; rw [h]
  | t :: l, p, q, h => by
    obtain ⟨h1, h2⟩ := BR h
    have h3 := ij.1 h1
    rw [E1 l h2]
    unfold bM
    exact List.drop_set_of_lt (by omega)
theorem Fu {b : bR} (h6 : b.lots.length ≤ 6) : ∀ (l : List cr) {p q : Pl}, (∀ i, i < b.lots.length → 0 ≤ nth p.1 i ∧ nth p.1 i < b.sizes.length) → oy b p l = some q → ∀ i, i < b.lots.length → 0 ≤ nth q.1 i ∧ nth q.1 i < b.sizes.length
  | [], p, q, hp, h => by injection h with h; rw [← h]; exact hp
  | t :: l, p, q, hp, h => by
    obtain ⟨h1, h2⟩ := BR h
    have h3 := ij.1 h1
    refine Fu h6 l (fun i hi => ?_) h2
    rw [DD (by omega)]
    by_cases e : t.dz.toNat = i
    · rw [if_pos e]; exact ⟨h3.2.2.1, h3.2.2.2.1⟩
    · rw [if_neg e]; exact hp i hi
theorem GD {b : bR} (hr : b.dj) : ∀ i, i < b.lots.length → 0 ≤ nth (cP b).1 i ∧ nth (cP b).1 i < b.sizes.length := fun i hi => by
 rw [LW hr.lots hi]; exact hr.inn _ (bL hi)
theorem GK {b : bR} (hr : b.dj) {L : List Pl} (hn : L.Nodup) (h : ∀ p ∈ L, ∃ l, oy b (cP b) l = some p) : L.length ≤ b.sizes.length ^ b.lots.length := by
 have hm : (L.map fun p => p.1.take b.lots.length).Nodup := by
  rw [List.nodup_iff_pairwise_ne, List.pairwise_map]
  refine (List.nodup_iff_pairwise_ne.1 hn).imp_of_mem fun {p q} hp hq hne e => hne ?_
  obtain ⟨l, hl⟩ := h p hp
  obtain ⟨l', hl'⟩ := h q hq
  apply Subtype.ext
  rw [← List.take_append_drop b.lots.length p.1, ← List.take_append_drop b.lots.length q.1, e, E1 l hl, E1 l' hl']
 have := w9 hm (L := uP b.sizes.length b.lots.length) fun x hx => by
  obtain ⟨p, hp, rfl⟩ := List.mem_map.1 hx
  obtain ⟨l, hl⟩ := h p hp
  have hlen : (p.1.take b.lots.length).length = b.lots.length := by rw [List.length_take, p.2]; have := hr.lots; omega
  refine A2 hlen fun y hy => ?_
  obtain ⟨i, hi, rfl⟩ := Eu hy
  rw [hlen] at hi
  rw [A5 hi]
  exact Fu hr.lots l (GD hr) hl i hi
 rw [zj, List.length_map] at this
 exact this
theorem Ex (hr : b.dj) (hg : 0 ≤ g) {rs : List (List cr)} {q : Pl} (h : tJ b g (cP b) rs = some q) (hm : ∀ rs' q', tJ b g (cP b) rs' = some q' → q' = q → rs.length ≤ rs'.length) : rs.length < b.sizes.length ^ b.lots.length := by
  have key : ∀ k, ∃ p, tJ b g (cP b) (rs.take k) = some p ∧ tJ b g p (rs.drop k) = some q := fun k => by
    have e := h
    rw [← List.take_append_drop k rs, qa] at e
    cases h1 : tJ b g (cP b) (rs.take k) with
    | none => rw [h1] at e; cases e
    | some p => rw [h1] at e; exact ⟨p, rfl, e⟩
  have hn : ((List.range (rs.length + 1)).map fun k => (key k).choose).Nodup := by
    rw [List.nodup_iff_pairwise_ne, List.pairwise_map]
    refine List.Pairwise.imp_of_mem (R := fun a c => a < c) (fun {a c} ha hc hac e => ?_) List.pairwise_lt_range
    obtain ⟨h1, h2⟩ := (key a).choose_spec
    obtain ⟨h3, h4⟩ := (key c).choose_spec
    rw [← e] at h4
    have h5 := hm (rs.take a ++ rs.drop c) q (by rw [qa, h1]; exact h4) rfl
    rw [List.length_append, List.length_take, List.length_drop] at h5
    have := List.mem_range.1 hc
    omega
  have := GK hr hn fun p hp => by
    obtain ⟨k, _, rfl⟩ := List.mem_map.1 hp
    exact ⟨_, vJ hr.lots hg _ (key k).choose_spec.1⟩
  rw [List.length_map, List.length_range] at this
  omega
theorem wZ.short {rs : List (List cr)} (h : wZ b g 0 rs) (hr : b.dj) (hg : 1 ≤ g) : rs.length < b.sizes.length ^ b.lots.length := by
 obtain ⟨q, h1, h2, h3⟩ := h.yes rfl
 exact Ex hr (by omega) h1 fun rs' q' e eq => h3 rs' q' e (by rw [eq]; exact h2)
def VM (l : List cr) : Bool := (List.range (l.length - 1)).any fun i => decide ((nth l (i + 1)).dz ≤ (nth l i).dz)
def Vq (b : bR) (p : Pl) (l : List cr) (i : Nat) : Bool := mI b p (nth l i).aim || (l.take i).any fun u => decide (u.aim = (nth l i).aim)
def Vy (b : bR) (p : Pl) (l : List cr) : Bool := (List.range l.length).any fun i => Vq b p l i
def Ja (b : bR) (p : Pl) (g : Int) (l : List cr) : Int :=
  if (!l.all fun t => b.dz t.dz && b.bin t.aim) = true then 1 else if VM l = true then 4 else if Vy b p l = true then 5 else if (!l.all fun t => b.hold t.aim t.dz) = true then 9 else if (l.length : Int) > g then 2 else 0
def zH (b : bR) (g : Int) : Pl → List (List cr) → Bool × Int
  | p, [] => (fj b p, 0)
  | p, l :: rs => if Ja b p g l = 0 then zH b g (bg p l) rs else (false, Ja b p g l)
structure Tx (b : bR) (g : Int) (rs : List (List cr)) (k : Nat) (p : Pl) : Prop where
  same : zH b g (cP b) rs = zH b g p (rs.drop k)
  le : k ≤ rs.length
theorem Tx.next {rs : List (List cr)} {k : Nat} {p : Pl} (h : Tx b g rs k p) (hk : k < rs.length) (he : Ja b p g (nth rs k) = 0) : Tx b g rs (k + 1) (bg p (nth rs k)) :=
 ⟨by rw [h.same, pY hk]; exact if_pos he, hk⟩
theorem Tx.end {rs : List (List cr)} {k : Nat} {p : Pl} (h : Tx b g rs k p) (hk : rs.length ≤ k) : zH b g (cP b) rs = (fj b p, 0) := by
 rw [h.same, List.drop_of_length_le hk]; rfl
end Go.Proofs.YtmmcenjknimhbaaGreat
namespace Go.Proofs.YtmmcenjknimhbaaGreat
open Go Go.T
variable {b : bR} {p q : Pl} {t : cr}
structure VP (b : bR) (p : Pl) : Prop where
  apart : SI b p
  named : ∀ i, i < b.lots.length → 0 ≤ nth p.1 i ∧ nth p.1 i < b.sizes.length
  holds : ∀ i, i < b.lots.length → (nth b.lots i).sacks ≤ nth b.sizes (nth p.1 i).toNat
structure Vf (b : bR) (plan : List cr) (a : bR) (back : List cr) (p : List Int) : Prop where
  done : Km b plan = (a, back, 0)
  home : Km a back = (b, plan, 0)
  right : a.dj
  cost : j3 (Ri a) back = j3 (Ri b) plan
  ok : (zD a back).2 = true
  at_ : zD b plan = (p, true)
  sizes : a.sizes = b.sizes
  len : a.lots.length = b.lots.length
  plen : p.length = b.lots.length
  dz : ∀ i, i < b.lots.length → nth a.lots i = ⟨(nth b.lots i).sacks, nth p i, (nth b.lots i).aim⟩
  places : FI a = FI b
  one : 1 ≤ FI b
  makes : Ta b plan = uT b plan
  zK : ∀ e l n e' l' n', J9 b H7 e l n → J9 a H7 e' l' n' → e = e' ∧ (e = 0 → n ≤ n' + plan.length ∧ n' ≤ n + plan.length)
end Go.Proofs.YtmmcenjknimhbaaGreat
namespace Go.Proofs.YtmmcenjknimhbaaGreat
open Go Go.T
structure VS (f : bS) : Prop where
  mar : wO f = zg f
  all : F4 f (kQ f).1 = true
  marl : ES f (kQ f).1 f.bears.length = wO f
  keep : decide (0 < ((KU f).length : Int)) = decide (0 ≤ wO f)
  err : decide (Ru f = 0) = decide (0 ≤ wO f)
  err6 : decide (Ru f = 6) = !decide (0 ≤ wO f)
  rng : ∀ x ∈ R4 f, 0 ≤ x ∧ x < (f.turnings.length : Int)
  zK : (R4 f).length ≤ f.turnings.length
end Go.Proofs.YtmmcenjknimhbaaGreat
namespace Go.Proofs.YtmmcenjknimhbaaGreat
open Go Go.T
def Jw : bS := ⟨[], [], [], []⟩
def qj (f : bS) (r : kT) : bS := { f with rules := f.rules ++ [r] }
def Rc (f : bS) (r : kT) : bS × Int :=
  if bk f ≠ 0 then (Jw, bk f) else if (f.rules.length : Int) = 16 then (Jw, 9) else if bk (qj f r) ≠ 0 then (Jw, bk (qj f r)) else (qj f r, 0)
section
variable {f : bS} {r : kT}
end
theorem kZ.mono {l m : List kT} (h : ∀ r ∈ l, r ∈ m) {x y : Int} (hl : kZ l x y) : kZ m x y := by
  induction hl with
  | one hr => exact .one (h _ hr)
  | step hr _ ih => exact .step (h _ hr) ih
end Go.Proofs.YtmmcenjknimhbaaGreat
namespace Go.Proofs.YtmmcenjknimhbaaGreat
open Go Go.T
def QA (f : bS) (a b : Int) : Int := if b ∈ fX f a then 0 else ((KU (qj f ⟨a, b⟩)).length : Int)
def yC (a b : Int) : List kT := [⟨a, b⟩, ⟨b, a⟩]
def T9 (f : bS) (a b : Int) : Nat → Int
  | 0 => 0
  | 1 => QA f a b
  | _ => QA f a b + QA f b a
structure VU (f : bS) (a b : Int) (k : Nat) : Prop where
  fst : 0 ≤ (nth (yC a b) k).fst ∧ (nth (yC a b) k).fst < f.turnings.length
  nxt : 0 ≤ (nth (yC a b) k).nxt ∧ (nth (yC a b) k).nxt < f.turnings.length
  ne : (nth (yC a b) k).fst ≠ (nth (yC a b) k).nxt
  sum : T9 f a b (k + 1) = T9 f a b k + QA f (nth (yC a b) k).fst (nth (yC a b) k).nxt
end Go.Proofs.YtmmcenjknimhbaaGreat
namespace Go.Proofs.YtmmcenjknimhbaaGreat
open Go Go.T
def JH (f : bS) (t : Int) : Int := fA f (!fC t 0 (f.turnings.length - 1))
def Pm (f : bS) (t : Int) : List Int := if JH f t = 0 then fX f t else []
structure UO (f : bS) (l : List Int) (a b : Int) : Prop where
  ha : 0 ≤ a ∧ a < f.turnings.length
  hb : 0 ≤ b ∧ b < f.turnings.length
  ne : a ≠ b
  wait : Rc f ⟨a, b⟩ = (qj f ⟨a, b⟩, 0)
  right : bk (qj f ⟨a, b⟩) = 0
  right0 : gR (qj f ⟨a, b⟩) = 0
  allowed : F4 (qj f ⟨a, b⟩) l = true
  back : Rc (qj f ⟨a, b⟩) ⟨b, a⟩ = (Jw, 7)
  aE : JH (qj f ⟨a, b⟩) b = 0 ∧ Pm (qj f ⟨a, b⟩) b = fX (qj f ⟨a, b⟩) b
  aE2 : JH f a = 0 ∧ Pm f a = fX f a
section
variable {f : bS} {l : List Int} {a b : Int} (h : bk f = 0) (hf : UO f l a b)
include h hf
end
end Go.Proofs.YtmmcenjknimhbaaGreat
namespace Go.Proofs.YtmmcenjknimhbaaGreat
open Go Go.T
def sm (n : Nat) (g : Nat → Int) : Int := ((List.range n).map g).sum
structure Holds (f : bS) (bay : Nat) (pays : List v7) : Prop where
  pos : Pos pays
  src : ∀ p ∈ pays, 0 ≤ p.src ∧ p.src < f.turnings.length
  dst : ∀ p ∈ pays, 0 ≤ p.dst ∧ p.dst < f.turnings.length
  lead : ∀ p ∈ pays, kZ f.rules p.dst p.src
  fits : ∀ t : Nat, t < f.turnings.length → Sa pays t ≤ max 0 (mF (aX f) bay t) ∧ So pays t ≤ max 0 (-(mF (aX f) bay t))
end Go.Proofs.YtmmcenjknimhbaaGreat
namespace Go.Proofs.YtmmcenjknimhbaaGreat
open Go Go.T
structure xV where
  w : SB
  bay : Nat
  paid : List Int
def xV.P (l : xV) (o t : Nat) : Int := nth l.paid (o * 8 + t)
def xV.add (l : xV) (t : Nat) : Int := mF l.w l.bay t
def xV.T (l : xV) : Nat := l.w.1.f.turnings.length
def Td (l : xV) (t k : Nat) : Int := -(l.add t) - sm k fun o => l.P o t
def DS (l : xV) (t : Nat) : Int := Td l t 8
def DE (l : xV) (f : Nat) : List Int := cQ (nth l.w.1.before f)
def B8 (m m' : List Bool) : Prop := ∀ c, c < 8 → nth m c = true → nth m' c = true
theorem B8.trans {a b c : List Bool} (h : B8 a b) (h' : B8 b c) : B8 a c := fun i hi hx => h' i hi (h i hi hx)
def yh (l : xV) (o : Nat) (m : List Bool) : Prop := ∀ t ∈ DE l o, l.add t.toNat < 0 → nth m t.toNat = true
theorem yh.mono {l : xV} {o : Nat} {m m' : List Bool} (h : yh l o m) (hs : B8 m m') : yh l o m' := fun t ht ha => by
 obtain ⟨i, hi, _, e⟩ := sJ.1 ht
 exact hs _ (by omega) (h t ht ha)
inductive DW (l : xV) : List Bool → Nat → List Int → Prop
  | last {m : List Bool} {f : Nat} {t : Int} : t ∈ DE l f → l.add t.toNat < 0 → nth m t.toNat = false → 0 < DS l t.toNat → DW l m f [(f : Int), t]
  | step {m m' : List Bool} {f o : Nat} {t : Int} {r : List Int} : t ∈ DE l f → l.add t.toNat < 0 → nth m t.toNat = false → o ≠ f → o < l.T → l.P o t.toNat ≠ 0 → B8 m m' → nth m' t.toNat = true → DW l m' o r → DW l m f ((f : Int) :: t :: r)
structure VX (l : xV) (f t : Nat) (L : List Nat) (m : List Bool) (x : List Int × List Bool) : Prop where
  len : x.2.length = 8
  sub : B8 m x.2
  yes : x.1 ≠ [] → ∃ o ∈ L, o ≠ f ∧ l.P o t ≠ 0 ∧ ∃ m', B8 m m' ∧ DW l m' o x.1
  no : x.1 = [] → (∀ o ∈ L, o ≠ f → l.P o t ≠ 0 → yh l o x.2) ∧ ∀ c, c < 8 → nth m c = false → nth x.2 c = true → DS l c ≤ 0 ∧ ∀ o, o < l.T → l.P o c ≠ 0 → yh l o x.2
structure VY (l : xV) (m : List Bool) (f : Nat) (x : List Int × List Bool) : Prop where
  len : x.2.length = 8
  sub : B8 m x.2
  yes : x.1 ≠ [] → DW l m f x.1
  no : x.1 = [] → yh l f x.2 ∧ ∀ c, c < 8 → nth m c = false → nth x.2 c = true → DS l c ≤ 0 ∧ ∀ o, o < l.T → l.P o c ≠ 0 → yh l o x.2
structure Vd (l : xV) (f : Nat) (L : List Int) (m : List Bool) (x : List Int × List Bool) : Prop where
  len : x.2.length = 8
  sub : B8 m x.2
  yes : x.1 ≠ [] → DW l m f x.1
  no : x.1 = [] → (∀ t ∈ L, l.add t.toNat < 0 → nth x.2 t.toNat = true) ∧ ∀ c, c < 8 → nth m c = false → nth x.2 c = true → DS l c ≤ 0 ∧ ∀ o, o < l.T → l.P o c ≠ 0 → o = f ∨ yh l o x.2
def xL (l : xV) (X : Nat → Prop) : Prop := ∀ x, X x → ∀ t ∈ DE l x, l.add t.toNat < 0 → DS l t.toNat ≤ 0 ∧ ∀ o, o < l.T → l.P o t.toNat ≠ 0 → X o
end Go.Proofs.YtmmcenjknimhbaaGreat
namespace Go.Proofs.YtmmcenjknimhbaaGreat
open Go Go.T
def wF (p : List Int) (j : Nat) : Nat := (nth p (2 * j)).toNat
def wT (p : List Int) (j : Nat) : Nat := (nth p (2 * j + 1)).toNat
structure Vz (l : xV) (f : Nat) (p : List Int) (K : Nat) : Prop where
  len : p.length = 2 * K
  one : 1 ≤ K
  first : wF p 0 = f
  nat : ∀ j, j < K → nth p (2 * j) = (wF p j : Int)
  tos : ∀ j, j < K → nth p (2 * j + 1) ∈ DE l (wF p j) ∧ l.add (wT p j) < 0
  step : ∀ j, j + 1 < K → wF p (j + 1) < l.T ∧ l.P (wF p (j + 1)) (wT p j) ≠ 0 ∧ wF p (j + 1) ≠ wF p j
  last : 0 < DS l (wT p (K - 1))
  dist : ∀ i j, i < j → j < K → wT p i ≠ wT p j
section
variable {l : xV} (hl : l.paid.length = 64) {p : List Int} {K : Nat} (hF : ∀ j, j < K → wF p j < 8) (hT : ∀ j, j < K → wT p j < 8) (m : Int) (hK : 1 ≤ K)
include hl hF hT hK
end
structure TL (f : bS) (bay : Nat) (l : xV) : Prop where
  w : l.w = aX f
  bay : l.bay = bay
  len : l.paid.length = 64
  nn : ∀ o t, o < 8 → t < 8 → 0 ≤ l.P o t
  pos : ∀ o t, o < 8 → t < 8 → 0 < l.P o t → (o < l.T ∧ (t : Int) ∈ DE l o) ∧ 0 < l.add o ∧ l.add t < 0
  col : ∀ t, t < 8 → sm 8 (fun o => l.P o t) ≤ max 0 (-(l.add t))
  row : ∀ o, o < 8 → sm 8 (fun t => l.P o t) ≤ max 0 (l.add o)
structure V6 (f : bS) (bay : Nat) (l : xV) (u : Nat) (n : Int) (l' : xV) (m : Int) : Prop where
  inv : TL f bay l'
  one : 1 ≤ m
  le : m ≤ n
  row : ∀ o, sm 8 (fun t => l'.P o t) = sm 8 (fun t => l.P o t) + if u = o then m else 0
  closed : ∀ X, xL l X → xL l' X
end Go.Proofs.YtmmcenjknimhbaaGreat
namespace Go.Proofs.YtmmcenjknimhbaaGreat
open Go Go.T
def xV.row (l : xV) (o : Nat) : Int := sm 8 fun t => l.P o t
def xV.col (l : xV) (t : Nat) : Int := sm 8 fun o => l.P o t
structure VZ (f : bS) (bay u : Nat) (l l' : xV) : Prop where
  inv : TL f bay l'
  row : ∀ o, o ≠ u → l'.row o = l.row o
  closed : ∀ X, xL l X → xL l' X
  done : 0 < mF (aX f) bay u → l'.row u = mF (aX f) bay u ∨ ∃ X, xL l' X ∧ X u
structure Vx (f : bS) (bay k : Nat) (l : xV) : Prop where
  inv : TL f bay l
  rest : ∀ o, k ≤ o → l.row o = 0
  done : ∀ o, o < k → 0 < mF (aX f) bay o → l.row o = mF (aX f) bay o ∨ ∃ X, xL l X ∧ X o
end Go.Proofs.YtmmcenjknimhbaaGreat
namespace Go.Proofs.YtmmcenjknimhbaaGreat
open Go Go.T
end Go.Proofs.YtmmcenjknimhbaaGreat
namespace Go.Proofs.YtmmcenjknimhbaaGreat
open Go Go.T
inductive Ch (f : bS) (s : Nat) : List Int → Nat → Prop
  | nil : Ch f s [] s
  | snoc {l : List Int} {s' t : Nat} : Ch f s l s' → t < f.turnings.length → s'.testBit t = false → eF (aX f) (s' ||| 1 <<< t) = true → Ch f s (l ++ [(t : Int)]) (s' ||| 1 <<< t)
theorem Ch.rep {f : bS} (h : bk f = 0) {s : Nat} {d : List Int} (hd : By f d s) {l : List Int} {s' : Nat} (hc : Ch f s l s') : By f (d ++ l) s' ∧ ∀ i, i < l.length → (∃ u, By f (d ++ l.take i) u) ∧ jS f (d ++ l.take i) (nth l i) = true := by
  induction hc with
  | nil => exact ⟨by rw [List.append_nil]; exact hd, fun i hi => by simp at hi⟩
  | @snoc l s' t hc ht hb hw ih =>
    obtain ⟨h1, h2⟩ := ih
    refine ⟨by rw [← List.append_assoc]; exact Ed h h1 ht hb hw, fun i hi => ?_⟩
    rw [List.length_append] at hi
    rcases Nat.lt_or_ge i l.length with c | c
    · rw [List.take_append_of_le_length (by omega), show nth (l ++ [(t : Int)]) i = nth l i by unfold nth; rw [List.getD_eq_getElem?_getD, List.getD_eq_getElem?_getD, List.getElem?_append_left c]]
      exact h2 i c
    · have e : i = l.length := by simp at hi; omega
      subst e
      rw [List.take_left, show nth (l ++ [(t : Int)]) l.length = t by unfold nth; rw [List.getD_eq_getElem?_getD, List.getElem?_append_right (Nat.le_refl _)]; simp]
      exact ⟨⟨_, h1⟩, (nG h h1 ht).2 ⟨hb, hw⟩⟩
end Go.Proofs.YtmmcenjknimhbaaGreat
namespace Go.Proofs.YtmmcenjknimhbaaGreat
open Go Go.T
structure V7 (f : bS) (p : v7) : Prop where
  src : 0 ≤ p.src ∧ p.src < f.turnings.length
  dst : 0 ≤ p.dst ∧ p.dst < f.turnings.length
  much : 1 ≤ p.much ∧ p.much ≤ 100000
  ne : p.dst ≠ p.src
  lead : p.dst ∈ fX f p.src
theorem MQ (f : bS) (l : List Int) (b : Nat) : mM f l b 0 = gQ f b f.bins.length := by simp [mM]
end Go.Proofs.YtmmcenjknimhbaaGreat
namespace Go.Proofs.YtmmcenjknimhbaaGreat
open Go Go.T
end Go.Proofs.YtmmcenjknimhbaaGreat
namespace Go.Proofs.YtmmcenjknimhbaaGreat
open Go Go.T
theorem Ef {l : List Int} : ∀ {i : Nat}, i < l.length → ∀ v : Int, (l.set i v).sum = l.sum - nth l i + v := by
  induction l with
  | nil => intro i h; simp at h
  | cons x l ih =>
    intro i h v
    cases i with
    | zero => simp [nth]; omega
    | succ i =>
      have := ih (i := i) (by simpa using h) v
      simp only [List.set_cons_succ, List.sum_cons, this]
      have : nth (x :: l) (i + 1) = nth l i := rfl
      omega
theorem uM {l : List Int} (h : ∀ x ∈ l, 0 ≤ x) : 0 ≤ l.sum ∧ ∀ x ∈ l, x ≤ l.sum := by
  induction l with
  | nil => simp
  | cons y l ih =>
    have h1 := ih fun x hx => h x (List.mem_cons_of_mem _ hx)
    have h2 := h y List.mem_cons_self
    refine ⟨by rw [List.sum_cons]; omega, fun x hx => ?_⟩
    rw [List.sum_cons]
    rcases List.mem_cons.1 hx with rfl | hx
    · omega
    · have := h1.2 x hx; omega
theorem qF {l : List Int} {P : Int → Prop} (h : ∀ j, j < l.length → P (nth l j)) : ∀ x ∈ l, P x := fun x hx => by
 obtain ⟨i, hi, rfl⟩ := List.getElem_of_mem hx
 have := h i hi
 rwa [cF hi] at this
def fN (n : Nat) (s : fR) : Nat → List Int × fR
  | 0 => (List.replicate n 0, s)
  | k + 1 => ((fN n s k).1.set (bQ (fN n s k).2 n).toNat (nth (fN n s k).1 (bQ (fN n s k).2 n).toNat + 1), aO (fN n s k).2)
theorem BF {s : fR} {n : Nat} (hn : 1 ≤ n) : 0 ≤ bQ s n ∧ bQ s n < n := by
 have := cR s n; omega
theorem wN {n : Nat} (hn : 1 ≤ n) (s : fR) : ∀ k, (fN n s k).1.length = n ∧ (fN n s k).1.sum = k ∧ (∀ j, j < n → 0 ≤ nth (fN n s k).1 j) ∧ (fN n s k).2.taken = s.taken + k
  | 0 => ⟨by simp [fN], by simp [fN], fun j hj => by simp [fN, nth, hj], by simp [fN]⟩
  | k + 1 => by
    obtain ⟨h1, h2, h3, h4⟩ := wN hn s k
    have hb := BF (s := (fN n s k).2) hn
    refine ⟨?_, ?_, fun j hj => ?_, ?_⟩
    · show (List.set _ _ _).length = _
      rw [List.length_set, h1]
    · show (List.set _ _ _).sum = _
      rw [Ef (by omega), h2]; omega
    · show 0 ≤ nth (List.set _ _ _) j
      have := h3 j hj
      have := h3 (bQ (fN n s k).2 n).toNat (by omega)
      rw [gO]; split <;> omega
    · show (aO _).taken = _
      rw [bu, h4]; omega
def gH (sh : List Int) (has : Int) (bears : List Int) : Nat → List Int
  | 0 => bears
  | k + 1 => (gH sh has bears k).set k (nth (gH sh has bears k) k + nth sh k * has)
theorem su (sh : List Int) (has : Int) (bears : List Int) : ∀ k, (gH sh has bears k).length = bears.length ∧ ∀ j, j < bears.length → nth (gH sh has bears k) j = nth bears j + if j < k then nth sh j * has else 0
  | 0 => ⟨rfl, fun j _ => by simp [gH]⟩
  | k + 1 => by
    obtain ⟨h1, h2⟩ := su sh has bears k
    refine ⟨by show (List.set _ _ _).length = _; rw [List.length_set, h1], fun j hj => ?_⟩
    show nth (List.set _ _ _) j = _
    rw [gO]
    by_cases e : k = j
    · subst e
      rw [if_pos ⟨rfl, by omega⟩, h2 k hj, if_neg (by omega), if_pos (by omega)]; omega
    · rw [if_neg (fun h => e h.1), h2 j hj]
      by_cases hjk : j < k
      · rw [if_pos hjk, if_pos (by omega)]
      · rw [if_neg hjk, if_neg (by omega)]
structure Mk where
  bears : List Int
  bins : List qP
  left : List Int
  sk : fR
def mkBin (n : Nat) (p : Mk) : qP := ⟨bQ p.sk 60, (fN n (aO p.sk) 4).1⟩
def dr (n : Nat) (s : fR) : Nat → Mk
  | 0 => ⟨List.replicate n 0, [], [], s⟩
  | k + 1 => ⟨gH (mkBin n (dr n s k)).shares (mkBin n (dr n s k)).has (dr n s k).bears n, (dr n s k).bins ++ [mkBin n (dr n s k)], (dr n s k).left ++ [(mkBin n (dr n s k)).has], (fN n (aO (dr n s k).sk) 4).2⟩
structure OU (n : Nat) (b : qP) : Prop where
  has : 0 ≤ b.has ∧ b.has ≤ 59
  len : b.shares.length = n
  sum : b.shares.sum = 4
  rng : ∀ j, j < n → 0 ≤ nth b.shares j ∧ nth b.shares j ≤ 4
theorem Gl {n : Nat} (hn : 1 ≤ n) (p : Mk) : OU n (mkBin n p) := by
 obtain ⟨h1, h2, h3, _⟩ := wN hn (aO p.sk) 4
 have hb := cR p.sk 60
 have h5 : ∀ x ∈ (fN n (aO p.sk) 4).1, 0 ≤ x := qF fun j hj => h3 j (by omega)
 have h6 := (uM h5).2
 refine ⟨⟨hb.1, ?_⟩, h1, h2, fun j hj => ⟨h3 j hj, ?_⟩⟩
 ·show bQ p.sk 60 ≤ 59
  omega
 have := h6 _ (bL (show j < _ by omega))
 rw [h2] at this
 exact this
structure SN (n k : Nat) (s : fR) (p : Mk) : Prop where
  bears : p.bears.length = n
  bearsR : ∀ j, j < n → 0 ≤ nth p.bears j ∧ nth p.bears j ≤ 236 * k
  bins : p.bins.length = k
  Dg : ∀ b ∈ p.bins, OU n b
  left : p.left = p.bins.map qP.has
  taken : p.sk.taken = s.taken + 5 * k
theorem CT {n : Nat} (hn : 1 ≤ n) (s : fR) : ∀ k, SN n k s (dr n s k)
  | 0 => ⟨by simp [dr], fun j hj => by simp [dr, nth, hj], rfl, fun b hb => by simp [dr] at hb, rfl, by simp [dr]⟩
  | k + 1 => by
    have h := CT hn s k
    have hb := Gl hn (dr n s k)
    have hu := su (mkBin n (dr n s k)).shares (mkBin n (dr n s k)).has (dr n s k).bears n
    refine ⟨?_, fun j hj => ?_, ?_, fun b hb' => ?_, ?_, ?_⟩
    · exact hu.1.trans h.bears
    · show 0 ≤ nth (gH _ _ _ _) j ∧ nth (gH _ _ _ _) j ≤ _
      rw [hu.2 j (by rw [h.bears]; exact hj), if_pos hj]
      have h1 := h.bearsR j hj
      have h2 := hb.rng j hj
      have h3 := hb.has
      have h4 : 0 ≤ nth (mkBin n (dr n s k)).shares j * (mkBin n (dr n s k)).has := Int.mul_nonneg h2.1 h3.1
      have h5 : nth (mkBin n (dr n s k)).shares j * (mkBin n (dr n s k)).has ≤ 4 * 59 := Int.mul_le_mul h2.2 h3.2 h3.1 (by omega)
      omega
    · show (_ ++ [_]).length = _
      rw [List.length_append, h.bins]; rfl
    · rcases List.mem_append.1 hb' with hb' | hb'
      · exact h.Dg b hb'
      · rw [List.mem_singleton.1 hb']; exact hb
    · show _ ++ [_] = List.map _ (_ ++ [_])
      rw [List.map_append, h.left]; rfl
    · show (fN _ _ _).2.taken = _
      rw [(wN hn _ 4).2.2.2, bu, h.taken]; omega
def nT (xs : List Int) (s : fR) (k : Nat) : List Int := xs.set k (nth xs k + bQ s 90)
def sy (ys : List Int) (k : Nat) : List Int := ys.set k (max 0 (nth ys k - 60))
def gY (xs : List Int) (s : fR) : Nat → List Int × fR
  | 0 => (xs, s)
  | k + 1 => (if qh (aO (gY xs s k).2) 9 then sy (nT (gY xs s k).1 (gY xs s k).2 k) k else nT (gY xs s k).1 (gY xs s k).2 k, aO (aO (gY xs s k).2))
theorem HS (xs : List Int) (s : fR) (hx : ∀ j, j < xs.length → 0 ≤ nth xs j) : ∀ k, (gY xs s k).1.length = xs.length ∧ (∀ j, j < xs.length → 0 ≤ nth (gY xs s k).1 j ∧ nth (gY xs s k).1 j ≤ nth xs j + if j < k then 90 else 0) ∧ (gY xs s k).2.taken = s.taken + 2 * k
  | 0 => ⟨rfl, fun j hj => by have := hx j hj; simp [gY]; omega, by simp [gY]⟩
  | k + 1 => by
    obtain ⟨h1, h2, h3⟩ := HS xs s hx k
    have hb := cR (gY xs s k).2 90
    have hy : ∀ j, j < xs.length → 0 ≤ nth (nT (gY xs s k).1 (gY xs s k).2 k) j ∧ nth (nT (gY xs s k).1 (gY xs s k).2 k) j ≤ nth xs j + if j < k + 1 then 90 else 0 := fun j hj => by
      have h4 := h2 j hj
      rw [nT, gO]
      by_cases e : k = j
      · subst e
        rw [if_neg (by omega)] at h4
        rw [if_pos ⟨rfl, by omega⟩, if_pos (by omega)]; omega
      · rw [if_neg (fun h => e h.1)]
        by_cases hjk : j < k
        · rw [if_pos hjk] at h4; rw [if_pos (by omega)]; exact h4
        · rw [if_neg hjk] at h4; rw [if_neg (by omega)]; exact h4
    have hl : (nT (gY xs s k).1 (gY xs s k).2 k).length = xs.length := by rw [nT, List.length_set, h1]
    refine ⟨?_, fun j hj => ?_, ?_⟩
    · show (if _ then _ else _ : List Int).length = _
      split
      · rw [sy, List.length_set, hl]
      · exact hl
    · show 0 ≤ nth (if _ then _ else _ : List Int) j ∧ nth (if _ then _ else _ : List Int) j ≤ _
      have h4 := hy j hj
      split
      · rw [sy, gO]
        split
        · rename_i e
          obtain ⟨rfl, _⟩ := e
          omega
        · exact h4
      · exact h4
    · show (aO (aO _)).taken = _
      rw [bu, bu, h3]; omega
end Go.Proofs.YtmmcenjknimhbaaGreat
namespace Go.Proofs.YtmmcenjknimhbaaGreat
open Go Go.T
structure Tk where
  left : List Int
  trn : List mO
  sk : fR
def Jn (left : List Int) (a : Int) : Int := if a ≠ -1 ∧ nth left a.toNat = 0 then -1 else a
def nY (m : Nat) (a b : Int) : Int := if a = b then Bj (a + 1) m else b
def vS (left : List Int) (a n : Int) : Int := if a ≠ -1 then min n (nth left a.toNat) else n
def leftOf (left : List Int) (a n : Int) : List Int := if a ≠ -1 then left.set a.toNat (nth left a.toNat - n) else left
def eT (m : Nat) (p : Tk) : Int := Jn p.left (dJ p.sk (-1) ((m : Int) - 1))
def r5 (m : Nat) (p : Tk) : Int := nY m (eT m p) (dJ (aO p.sk) (-1) ((m : Int) - 1))
def fJ (m : Nat) (p : Tk) : Int := vS p.left (eT m p) (dJ (aO (aO p.sk)) 1 20)
def Fy (m : Nat) (p : Tk) : mO := ⟨eT m p, r5 m p, fJ m p⟩
def dg (m : Nat) (left : List Int) (s : fR) : Nat → Tk
  | 0 => ⟨left, [], s⟩
  | k + 1 => ⟨leftOf (dg m left s k).left (eT m (dg m left s k)) (fJ m (dg m left s k)), (dg m left s k).trn ++ [Fy m (dg m left s k)], aO (aO (aO (dg m left s k).sk))⟩
def q8 (ts : List mO) (i : Int) : Int := (ts.map fun t => if t.src = i then t.sacks else 0).sum
structure Rv (m : Nat) (t : mO) : Prop where
  src : -1 ≤ t.src ∧ t.src < m
  dst : -1 ≤ t.dst ∧ t.dst < m
  ne : t.src ≠ t.dst
  sacks : 1 ≤ t.sacks ∧ t.sacks ≤ 20
structure Up (m k : Nat) (l0 : List Int) (s : fR) (p : Tk) : Prop where
  left : p.left.length = m
  pos : ∀ j, j < m → 0 ≤ nth p.left j
  took : ∀ j, j < m → nth p.left j + q8 p.trn j = nth l0 j
  trn : p.trn.length = k
  trnOk : ∀ t ∈ p.trn, Rv m t
  taken : p.sk.taken = s.taken + 3 * k
theorem nN {s : fR} {lo hi : Int} (h : lo ≤ hi) : lo ≤ dJ s lo hi ∧ dJ s lo hi ≤ hi := by
 have := cR s (hi - lo + 1)
 unfold dJ; omega
theorem Nb {m : Nat} (hm : 2 ≤ m) {a : Int} (h : -1 ≤ a ∧ a < m) : 0 ≤ Bj (a + 1) m ∧ Bj (a + 1) m < m ∧ Bj (a + 1) m ≠ a := by
 unfold Bj
 have h1 := Int.emod_nonneg (a + 1) (show (m : Int) ≠ 0 by omega)
 rw [if_neg (by omega), Int.tmod_eq_emod_of_nonneg (show 0 ≤ a + 1 by omega), Int.tmod_eq_emod_of_nonneg (show 0 ≤ (a + 1) % (m : Int) + m by omega), Int.add_emod_right, Int.emod_emod]
 by_cases e : a + 1 = m
 ·rw [e, Int.emod_self]; omega
 rw [Int.emod_eq_of_lt (by omega) (by omega)]; omega
theorem JG {m : Nat} (hm : 2 ≤ m) (p : Tk) : -1 ≤ eT m p ∧ eT m p < m ∧ (eT m p = -1 ∨ nth p.left (eT m p).toNat ≠ 0) := by
 have h := nN (s := p.sk) (show (-1 : Int) ≤ (m : Int) - 1 by omega)
 unfold eT Jn
 split
 ·omega
 rename_i hn
 by_cases e : dJ p.sk (-1) ((m : Int) - 1) = -1
 ·exact ⟨h.1, by omega, .inl e⟩
 exact ⟨h.1, by omega, .inr fun h0 => hn ⟨e, h0⟩⟩
theorem F3 {m : Nat} (hm : 2 ≤ m) {p : Tk} (hp : ∀ j, j < m → 0 ≤ nth p.left j) : Rv m (Fy m p) := by
 have h1 := JG hm p
 have h2 := nN (s := aO p.sk) (show (-1 : Int) ≤ (m : Int) - 1 by omega)
 have h3 := nN (s := aO (aO p.sk)) (show (1 : Int) ≤ 20 by omega)
 have h4 := Nb hm ⟨h1.1, h1.2.1⟩
 have h5 : (-1 ≤ r5 m p ∧ r5 m p < m) ∧ eT m p ≠ r5 m p := by
  unfold r5 nY
  split
  ·exact ⟨by omega, fun e => h4.2.2 e.symm⟩
  exact ⟨by omega, by assumption⟩
 refine ⟨⟨h1.1, h1.2.1⟩, h5.1, h5.2, ?_⟩
 show 1 ≤ fJ m p ∧ fJ m p ≤ 20
 unfold fJ vS
 split
 ·rename_i hn
  have h6 := hp (eT m p).toNat (by omega)
  have h7 := h1.2.2.resolve_left hn
  omega
 exact h3
theorem Mp (ts : List mO) (t : mO) (i : Int) : q8 (ts ++ [t]) i = q8 ts i + if t.src = i then t.sacks else 0 := by simp [q8]
theorem C0 {m : Nat} (hm : 2 ≤ m) {left : List Int} (hl : left.length = m) (h0 : ∀ j, j < m → 0 ≤ nth left j) (s : fR) : ∀ k, Up m k left s (dg m left s k)
  | 0 => ⟨hl, h0, fun j _ => by simp [dg, q8], rfl, fun t ht => by simp [dg] at ht, by simp [dg]⟩
  | k + 1 => by
    have h := C0 hm hl h0 s k
    have ht := F3 hm h.pos
    have h1 := JG hm (dg m left s k)
    have key : ∀ j, j < m → nth (dg m left s (k + 1)).left j = nth (dg m left s k).left j - if eT m (dg m left s k) = (j : Int) then fJ m (dg m left s k) else 0 := fun j hj => by
      show nth (leftOf _ _ _) j = _
      unfold leftOf
      split
      · rw [gO]
        by_cases e : eT m (dg m left s k) = (j : Int)
        · rw [e, if_pos ⟨by omega, by have := h.left; omega⟩, if_pos rfl]; rfl
        · rw [if_neg (by omega), if_neg e]; omega
      · rw [if_neg (by omega)]; omega
    refine ⟨?_, fun j hj => ?_, fun j hj => ?_, ?_, fun t ht' => ?_, ?_⟩
    · show (leftOf _ _ _).length = _
      unfold leftOf; split
      · rw [List.length_set, h.left]
      · exact h.left
    · rw [key j hj]
      have := h.pos j hj
      split
      · rename_i e
        have h5 : fJ m (dg m left s k) = min (dJ (aO (aO (dg m left s k).sk)) 1 20) (nth (dg m left s k).left j) := by
          unfold fJ vS
          rw [if_pos (by omega), e]; rfl
        omega
      · omega
    · rw [key j hj]
      show _ + q8 (_ ++ [_]) _ = _
      rw [Mp]
      have := h.took j hj
      show nth (dg m left s k).left j - (if eT m (dg m left s k) = (j : Int) then fJ m (dg m left s k) else 0) + (q8 (dg m left s k).trn j + if eT m (dg m left s k) = (j : Int) then fJ m (dg m left s k) else 0) = _
      omega
    · show (_ ++ [_]).length = _
      rw [List.length_append, h.trn]; rfl
    · rcases List.mem_append.1 ht' with ht' | ht'
      · exact h.trnOk t ht'
      · rw [List.mem_singleton.1 ht']; exact ht
    · show (aO (aO (aO _))).taken = _
      rw [bu, bu, bu, h.taken]; omega
def dU (order : List Int) (T : Nat) (s : fR) : Nat → List kT × fR
  | 0 => ([], s)
  | k + 1 => (if bQ (dU order T s k).2 T < bQ (aO (dU order T s k).2) T then (dU order T s k).1 ++ [⟨nth order (bQ (dU order T s k).2 T).toNat, nth order (bQ (aO (dU order T s k).2) T).toNat⟩] else (dU order T s k).1, aO (aO (dU order T s k).2))
def Kh (order : List Int) (T : Nat) (r : kT) : Prop := ∃ a b : Nat, a < b ∧ b < T ∧ r = ⟨nth order a, nth order b⟩
theorem Ay (order : List Int) (T : Nat) (s : fR) : ∀ k, (dU order T s k).1.length ≤ k ∧ (∀ r ∈ (dU order T s k).1, Kh order T r) ∧ (dU order T s k).2.taken = s.taken + 2 * k
  | 0 => ⟨by simp [dU], fun r hr => by simp [dU] at hr, by simp [dU]⟩
  | k + 1 => by
    obtain ⟨h1, h2, h3⟩ := Ay order T s k
    have ha := cR (dU order T s k).2 T
    have hb := cR (aO (dU order T s k).2) T
    refine ⟨?_, fun r hr => ?_, ?_⟩
    · show (if _ then _ else _ : List kT).length ≤ _
      split
      · simp; omega
      · omega
    · change r ∈ (if _ then _ else _ : List kT) at hr
      split at hr
      · rename_i hlt
        rcases List.mem_append.1 hr with hr | hr
        · exact h2 r hr
        · exact ⟨_, _, by omega, by omega, List.mem_singleton.1 hr⟩
      · exact h2 r hr
    · show (aO (aO _)).taken = _
      rw [bu, bu, h3]; omega
theorem CX {l : List Int} (h : l.Nodup) {a b : Nat} (ha : a < l.length) (hb : b < l.length) (e : nth l a = nth l b) : a = b := by
 rcases Nat.lt_trichotomy a b with hlt | rfl | hlt
 ·exact absurd (e ▸ (by rw [cF ha]; exact List.mem_take_iff_getElem.2 ⟨a, by omega, rfl⟩ : nth l a ∈ l.take b)) (Dd h hb)
 ·rfl
 exact absurd (e ▸ (by rw [cF hb]; exact List.mem_take_iff_getElem.2 ⟨b, by omega, rfl⟩ : nth l b ∈ l.take a)) (Dd h ha)
theorem Ho {order : List Int} {rules : List kT} (hn : order.Nodup) (h : ∀ r ∈ rules, Kh order order.length r) {x y : Int} (hl : kZ rules x y) : ∃ a b : Nat, a < b ∧ b < order.length ∧ x = nth order a ∧ y = nth order b := by
  induction hl with
  | one hr =>
    obtain ⟨a, b, h1, h2, rfl⟩ := h _ hr
    exact ⟨a, b, h1, h2, rfl, rfl⟩
  | step hr _ ih =>
    obtain ⟨a, b, h1, h2, e⟩ := h _ hr
    obtain ⟨c, d, h3, h4, h5, h6⟩ := ih
    rw [e] at h6 ⊢
    have := CX hn (by omega) h4 h6
    subst this
    exact ⟨c, b, by omega, h2, h5, rfl⟩
end Go.Proofs.YtmmcenjknimhbaaGreat
namespace Go.Proofs.YtmmcenjknimhbaaGreat
open Go Go.T
structure gE where
  s : fR
  t : Nat
def gE.n (d : gE) : Nat := (dJ d.s 1 4).toNat
def gE.m (d : gE) : Nat := (dJ (aO d.s) 2 5).toNat
def gE.bn (d : gE) (k : Nat) : Mk := dr d.n (aO (aO d.s)) k
def gE.up (d : gE) (k : Nat) : List Int × fR := gY (d.bn d.m).bears (d.bn d.m).sk k
def gE.T (d : gE) : Nat := (bQ (d.up d.n).2 ((d.t : Int) + 1)).toNat
def gE.tk (d : gE) (k : Nat) : Tk := dg d.m (d.bn d.m).left (aO (d.up d.n).2) k
def gE.order (d : gE) : List Int × fR := eV (d.tk d.T).sk d.T
def gE.R (d : gE) : Nat := (bQ d.order.2 6).toNat
def gE.ru (d : gE) (k : Nat) : List kT × fR := dU d.order.1 d.T (aO d.order.2) k
def gE.DT (d : gE) : bS := ⟨(d.up d.n).1, (d.bn d.m).bins, (d.tk d.T).trn, (d.ru d.R).1⟩
def gE.sk (d : gE) : fR := (d.ru d.R).2
theorem gE.Bx (d : gE) : 1 ≤ d.n ∧ d.n ≤ 4 ∧ (d.n : Int) = dJ d.s 1 4 := by
 have := nN (s := d.s) (show (1 : Int) ≤ 4 by omega)
 unfold gE.n; omega
theorem gE.ET (d : gE) : 2 ≤ d.m ∧ d.m ≤ 5 ∧ (d.m : Int) = dJ (aO d.s) 2 5 := by
 have := nN (s := aO d.s) (show (2 : Int) ≤ 5 by omega)
 unfold gE.m; omega
theorem gE.RC (d : gE) : d.T ≤ d.t ∧ (d.T : Int) = bQ (d.up d.n).2 ((d.t : Int) + 1) := by
 have := cR (d.up d.n).2 ((d.t : Int) + 1)
 unfold gE.T; omega
theorem gE.Qc (d : gE) : d.R ≤ 5 ∧ (d.R : Int) = bQ d.order.2 6 := by
 have := cR d.order.2 6
 unfold gE.R; omega
theorem gE.HO (d : gE) (k : Nat) : SN d.n k (aO (aO d.s)) (d.bn k) := CT d.Bx.1 _ k
theorem gE.OH (d : gE) (k : Nat) : (d.up k).1.length = d.n ∧ (∀ j, j < d.n → 0 ≤ nth (d.up k).1 j ∧ nth (d.up k).1 j ≤ nth (d.bn d.m).bears j + if j < k then 90 else 0) ∧ (d.up k).2.taken = (d.bn d.m).sk.taken + 2 * k := by
 have h := d.HO d.m
 have := HS (d.bn d.m).bears (d.bn d.m).sk (fun j hj => (h.bearsR j (by rw [← h.bears]; exact hj)).1) k
 rw [h.bears] at this
 exact this
theorem gE.pX (d : gE) : (d.bn d.m).left.length = d.m ∧ ∀ j, j < d.m → 0 ≤ nth (d.bn d.m).left j ∧ nth (d.bn d.m).left j ≤ 59 ∧ nth (d.bn d.m).left j = (nth (d.bn d.m).bins j).has := by
 have h := d.HO d.m
 have hl : (d.bn d.m).left.length = d.m := by rw [h.left, List.length_map, h.bins]
 refine ⟨hl, fun j hj => ?_⟩
 have hb : j < (d.bn d.m).bins.length := by rw [h.bins]; exact hj
 have e : nth (d.bn d.m).left j = (nth (d.bn d.m).bins j).has := by
  rw [cF hb, cF (by omega)]
  simp only [h.left, List.getElem_map]
 have := (h.Dg _ (bL hb)).has
 rw [e]; omega
theorem gE.O1 (d : gE) (k : Nat) : Up d.m k (d.bn d.m).left (aO (d.up d.n).2) (d.tk k) := C0 d.ET.1 d.pX.1 (fun j hj => (d.pX.2 j hj).1) _ k
theorem gE.lT (d : gE) : d.order.1.length = d.T ∧ d.order.1.Nodup ∧ (∀ x, x ∈ d.order.1 ↔ 0 ≤ x ∧ x < (d.T : Int)) ∧ d.order.2.taken = (d.tk d.T).sk.taken + d.T := uJ _ _
theorem gE.S4 (d : gE) (k : Nat) : (d.ru k).1.length ≤ k ∧ (∀ r ∈ (d.ru k).1, Kh d.order.1 d.T r) ∧ (d.ru k).2.taken = (aO d.order.2).taken + 2 * k := Ay _ _ _ k
theorem gE.taken (d : gE) : d.sk.taken ≤ d.s.taken + (52 + 4 * d.t) := by
 have h1 := (d.HO d.m).taken
 have h2 := (d.OH d.n).2.2
 have h3 := (d.O1 d.T).taken
 have h4 := d.lT.2.2.2
 have h5 := (d.S4 d.R).2.2
 have h6 := d.Bx
 have h7 := d.ET
 have h8 := d.RC
 have h9 := d.Qc
 rw [bu] at h3 h5 h1
 rw [bu] at h1
 unfold gE.sk
 omega
theorem QC {d : gE} {r : kT} (h : Kh d.order.1 d.T r) : (0 ≤ r.fst ∧ r.fst < (d.T : Int)) ∧ 0 ≤ r.nxt ∧ r.nxt < (d.T : Int) := by
 obtain ⟨a, b, h1, h2, rfl⟩ := h
 have ho := d.lT
 exact ⟨(ho.2.2.1 _).1 (bL (by omega)), (ho.2.2.1 _).1 (bL (by omega))⟩
theorem dX {α : Type} {q : α → Bool} {l : List α} (h : ∀ x ∈ l, q x = false) : l.any q = false := by
 rw [Bool.eq_false_iff]; intro hc
 obtain ⟨x, hx, hq⟩ := List.any_eq_true.1 hc
 rw [h x hx] at hq; cases hq
theorem jG {n lo hi : Int} (h : lo ≤ n ∧ n ≤ hi) : dY n lo hi = false := by
 simp only [dY, Bool.or_eq_false_iff, decide_eq_false_iff_not]; omega
theorem gE.right (d : gE) (ht : d.t ≤ 8) : bk d.DT = 0 := by
 have h1 := d.HO d.m
 have h2 := d.OH d.n
 have h3 := d.O1 d.T
 have h4 := d.lT
 have h5 := d.S4 d.R
 have h6 := d.Bx
 have h7 := d.ET
 have h8 := d.RC
 have h9 := d.Qc
 have hB : d.DT.bears.length = d.n := h2.1
 have hb : d.DT.bins.length = d.m := h1.bins
 have hT : d.DT.turnings.length = d.T := h3.trn
 have hR : d.DT.rules.length ≤ 5 := Nat.le_trans h5.1 h9.1
 rw [jD, gR, if_neg, if_neg, if_neg, if_neg, if_neg, vW, if_neg, if_neg, if_neg, if_neg, if_neg]
 ·rw [Bool.not_eq_true]
  refine dX fun t _ => decide_eq_false fun hm => ?_
  obtain ⟨_, hl⟩ := gT.1 hm
  obtain ⟨a, b, hab, hbt, ea, eb⟩ := Ho h4.2.1 (fun r hr => by rw [h4.1]; exact h5.2.1 r hr) hl
  have := CX h4.2.1 (by omega) hbt (ea.symm.trans eb)
  omega
 ·rw [Bool.not_eq_true]
  refine dX fun i hi => ?_
  have hi := eW.1 hi
  have hj : i.toNat < d.m := by omega
  have hbk := h1.Dg _ (bL (xs := (d.bn d.m).bins) (k := i.toNat) (by rw [h1.bins]; exact hj))
  show d.DT.lU i.toNat (nth (d.bn d.m).bins i.toNat) = false
  unfold bS.lU
  rw [hbk.sum]
  have hk := h3.took _ hj
  have hp := h3.pos _ hj
  have hl := (d.pX.2 _ hj).2.2
  have e : gx d.DT d.DT.turnings i.toNat = q8 (d.tk d.T).trn i.toNat := rfl
  have hx : ¬ q8 (d.tk d.T).trn i.toNat > (nth (d.bn d.m).bins i.toNat).has := by omega
  rw [e, decide_eq_false hx]; rfl
 ·rw [Bool.not_eq_true]
  exact dX fun t hm => decide_eq_false (h3.trnOk t hm).ne
 ·rw [Bool.not_eq_true]
  refine dX fun r hm => ?_
  have := QC (h5.2.1 r hm)
  rw [hT, jG (by omega), jG (by omega)]; rfl
 ·rw [Bool.not_eq_true]
  refine dX fun t hm => ?_
  have h := h3.trnOk t hm
  have := h.src
  have := h.dst
  rw [hb, jG (by omega), jG (by omega)]; rfl
 ·rw [Bool.not_eq_true]
  refine dX fun t hm => ?_
  have := (h3.trnOk t hm).sacks
  exact jG (by omega)
 ·rw [Bool.not_eq_true]
  refine dX fun b hm => ?_
  have h := h1.Dg b hm
  have := h.has
  rw [jG (by omega), Bool.false_or]
  exact dX (qF (P := fun n => dY n 0 4 = false) fun j hj => jG (h.rng j (by rw [← h.len]; exact hj)))
 ·rw [Bool.not_eq_true]
  refine dX (qF (P := fun n => dY n 0 4000 = false) fun j hj => jG ?_)
  have hj : j < d.n := by rw [← hB]; exact hj
  have h := h2.2.1 j hj
  have h0 := h1.bearsR j hj
  rw [if_pos hj] at h
  show 0 ≤ nth (d.up d.n).1 j ∧ nth (d.up d.n).1 j ≤ 4000
  omega
 ·rw [Bool.not_eq_true]
  refine dX fun b hm => ?_
  rw [(h1.Dg b hm).len, hB]; simp
 rw [Bool.not_eq_true]
 unfold bS.many
 rw [hB, hb, hT, jG (by omega), decide_eq_false (by omega), decide_eq_false (by omega), decide_eq_false (by omega)]; rfl
end Go.Proofs.YtmmcenjknimhbaaGreat
namespace Go.Proofs.YtmmcenjknimhbaaGreat
open Go Go.T
def Vn (sh k : Nat) : Nat := (sh >>> (2 * k)) &&& 3
def VO (sh k : Nat) : List Int := [(Vn sh k : Nat), 4 - ((Vn sh k : Nat) : Int)]
def Rq (sh : Nat) : Nat → List qP
  | 0 => []
  | k + 1 => Rq sh k ++ [⟨0, VO sh k⟩]
def VB (l : List qP) (x : R2) : List qP := l.set x.inn.toNat ⟨x.sacks, (nth l x.inn.toNat).shares⟩
def Ij (sh : Nat) (b : bR) : Nat → List qP
  | 0 => Rq sh b.sizes.length
  | j + 1 => VB (Ij sh b j) (nth b.lots j)
def SV (l : List qP) (y : Nat) : Int := (l.map fun x => x.has * nth x.shares y).sum
structure Ve (sh : Nat) (b : bR) (j : Nat) : Prop where
  bin : ∀ k, k < b.sizes.length → (nth (Ij sh b j) k).shares = VO sh k ∧ 0 ≤ (nth (Ij sh b j) k).has ∧ (nth (Ij sh b j) k).has ≤ 300
  zero : ∀ k : Nat, k < b.sizes.length → (∀ i, i < j → (nth b.lots i).inn ≠ (k : Int)) → (nth (Ij sh b j) k).has = 0
  there : ∀ i, i < j → (nth (Ij sh b j) (nth b.lots i).inn.toNat).has = (nth b.lots i).sacks
  sum : ∀ y, SV (Ij sh b j) y = ((List.range j).map fun i => (nth b.lots i).sacks * nth (VO sh (nth b.lots i).inn.toNat) y).sum
theorem NY {f : bS} (h : f.rules = []) (t : Int) : fX f t = [] := by
  rw [List.eq_nil_iff_forall_not_mem]
  intro a ha
  have hl := (gT.1 ha).2
  rw [h] at hl
  cases hl with
  | one hm => cases hm
  | step hm _ => cases hm
section
variable {b : bR} {q : Pl} {t : cr} {sh : Nat} (hr : b.dj) (h6 : b.sizes.length ≤ 6) (hv : VP b q) (ht : t ∈ cH b q)
include hr h6 hv
include ht
end
end Go.Proofs.YtmmcenjknimhbaaGreat
namespace Go.Proofs.YtmmcenjknimhbaaGreat
open Go Go.T
def jg (t : mO) : Bool := decide (max t.src t.dst < 4)
def zA (f : bS) : bS := if (f.bins.length : Int) > 4 then ⟨f.bears, f.bins.take 4, f.turnings.filter jg, []⟩ else f
def jU (f : bS) : bw := ⟨1, f.bins.map fun b => ⟨300, ⟨b.has, b.has⟩⟩, f.turnings.map fun t => ⟨0, t.src, t.dst, ⟨t.sacks, t.sacks⟩⟩, []⟩
def lp (f : bS) : eo := ⟨f.bins.map qP.has, f.turnings.map mO.sacks⟩
structure Uf (f : bS) : Prop where
  many : f.many = false
  len : ∀ b ∈ f.bins, b.shares.length = f.bears.length
  bears : (f.bears.any fun n => dY n 0 4000) = false
  bin : ∀ b ∈ f.bins, (0 ≤ b.has ∧ b.has ≤ 300) ∧ (b.shares.any fun n => dY n 0 4) = false
  sacks : ∀ t ∈ f.turnings, 1 ≤ t.sacks ∧ t.sacks ≤ 300
  named : ∀ t ∈ f.turnings, (-1 ≤ t.src ∧ t.src < f.bins.length) ∧ (-1 ≤ t.dst ∧ t.dst < f.bins.length)
  ne : ∀ t ∈ f.turnings, t.src ≠ t.dst
  wrong : ∀ i, i < f.bins.length → (nth f.bins i).shares.sum = 4 ∧ gx f f.turnings i ≤ (nth f.bins i).has
theorem u7 {f : bS} (h : bk f = 0) : Uf f := by
  rw [jD] at h
  unfold gR vW at h
  have n0 : ∀ {c : Bool} {k x : Int}, k ≠ 0 → (if c = true then k else x) = 0 → c = false ∧ x = 0 := fun {c k x} hk h => by
    cases c with
    | true => exact absurd h hk
    | false => exact ⟨rfl, h⟩
  obtain ⟨h1, h⟩ := n0 (by decide) h
  obtain ⟨h2, h⟩ := n0 (by decide) h
  obtain ⟨h3, h⟩ := n0 (by decide) h
  obtain ⟨h4, h⟩ := n0 (by decide) h
  obtain ⟨h5, h⟩ := n0 (by decide) h
  obtain ⟨h6, h⟩ := n0 (by decide) h
  obtain ⟨h7, h⟩ := n0 (by decide) h
  obtain ⟨h8, h⟩ := n0 (by decide) h
  obtain ⟨h9, h⟩ := n0 (by decide) h
  refine ⟨h1, fun b hb => ?_, h3, fun b hb => ?_, fun t ht => j0 (fH h5 ht), fun t ht => ?_, fun t ht => ?_, fun i hi => ?_⟩
  · have := fH h2 hb
    simp only [Bool.not_eq_false', decide_eq_true_eq] at this; omega
  · have := fH h4 hb
    rw [Bool.or_eq_false_iff] at this
    exact ⟨j0 this.1, this.2⟩
  · have := fH h6 ht
    rw [Bool.or_eq_false_iff] at this
    have a := j0 this.1
    have c := j0 this.2
    omega
  · exact of_decide_eq_false (fH h8 ht)
  · have := fH h9 (eW.2 (show (0 : Int) ≤ (i : Int) ∧ (i : Int) < f.bins.length by omega))
    have this : f.lU i (nth f.bins i) = false := this
    unfold bS.lU at this
    rw [Bool.or_eq_false_iff, Bool.not_eq_false', decide_eq_true_eq, decide_eq_false_iff_not] at this
    exact ⟨this.1, Int.not_lt.1 this.2⟩
theorem HB (f : bS) (i : Int) (p : mO → Bool) : ∀ (l : List mO), (∀ t ∈ l, 1 ≤ t.sacks) → gx f (l.filter p) i ≤ gx f l i
  | [], _ => Int.le_refl _
  | t :: l, h => by
    have ih := HB f i p l fun u hu => h u (List.mem_cons_of_mem _ hu)
    have h1 := h t List.mem_cons_self
    unfold gx at ih ⊢
    rw [List.filter_cons]
    split
    · rw [List.map_cons, List.map_cons, List.sum_cons, List.sum_cons]; omega
    · rw [List.map_cons, List.sum_cons]
      split
      · omega
      · omega
theorem Lg {l : List qP} {n i : Nat} (h : i < n) : nth (l.take n) i = nth l i := by
 unfold nth; rw [List.getD_eq_getElem?_getD, List.getD_eq_getElem?_getD, List.getElem?_take_of_lt h]
theorem Sv {f : bS} (h : bk f = 0) : bk (zA f) = 0 := by
 unfold zA
 by_cases hc : (f.bins.length : Int) > 4
 ·rw [if_pos hc]
  have hk := u7 h
  have hl : (f.bins.take 4).length = 4 := by rw [List.length_take]; omega
  have hm : ∀ t ∈ f.turnings.filter jg, t ∈ f.turnings ∧ max t.src t.dst < 4 := fun t ht => by
   rw [List.mem_filter] at ht
   exact ⟨ht.1, of_decide_eq_true ht.2⟩
  rw [jD, gR, if_neg, if_neg, if_neg, if_neg, if_neg, vW, if_neg, if_neg, if_neg, if_neg, if_neg]
  ·rw [Bool.not_eq_true]
   refine dX fun i _ => decide_eq_false ?_
   rw [NY rfl]; exact List.not_mem_nil
  ·rw [Bool.not_eq_true]
   refine dX fun i hi => ?_
   have hi := eW.1 hi
   have hi4 : i.toNat < 4 := by
    have : i < ((f.bins.take 4).length : Nat) := hi.2
    omega
   show bS.lU _ i.toNat (nth (f.bins.take 4) i.toNat) = false
   rw [Lg hi4]
   have hw := hk.wrong i.toNat (by omega)
   have ht := HB f i.toNat jg f.turnings fun t ht => (hk.sacks t ht).1
   unfold bS.lU
   rw [hw.1]
   have hx : ¬ gx ⟨f.bears, f.bins.take 4, f.turnings.filter jg, []⟩ (f.turnings.filter jg) i.toNat > (nth f.bins i.toNat).has := by
    have e : gx ⟨f.bears, f.bins.take 4, f.turnings.filter jg, []⟩ (f.turnings.filter jg) i.toNat = gx f (f.turnings.filter jg) i.toNat := rfl
    rw [e]; omega
   show (!decide ((4 : Int) = 4) || decide (gx _ (f.turnings.filter jg) i.toNat > _)) = false
   rw [decide_eq_false hx]; rfl
  ·rw [Bool.not_eq_true]
   exact dX fun t ht => decide_eq_false (hk.ne t (hm t ht).1)
  ·rw [Bool.not_eq_true]; rfl
  ·rw [Bool.not_eq_true]
   refine dX fun t ht => ?_
   have h1 := hk.named t (hm t ht).1
   have h2 := (hm t ht).2
   show (dY t.src (-1) (((f.bins.take 4).length : Nat) - 1) || dY t.dst (-1) (((f.bins.take 4).length : Nat) - 1)) = false
   rw [hl, jG (by omega), jG (by omega)]; rfl
  ·rw [Bool.not_eq_true]
   refine dX fun t ht => ?_
   exact jG (hk.sacks t (hm t ht).1)
  ·rw [Bool.not_eq_true]
   refine dX fun b hb => ?_
   have := hk.bin b (List.mem_of_mem_take hb)
   rw [jG this.1, this.2]; rfl
  ·rw [Bool.not_eq_true]; exact hk.bears
  ·rw [Bool.not_eq_true]
   refine dX fun b hb => ?_
   show (!decide ((b.shares.length : Int) = f.bears.length)) = false
   rw [hk.len b (List.mem_of_mem_take hb)]; simp
  rw [Bool.not_eq_true]
  have hm := hk.many
  simp only [bS.many, Bool.or_eq_false_iff, decide_eq_false_iff_not] at hm
  have hf := List.length_filter_le jg f.turnings
  show (((dY f.bears.length 1 4 || decide (((f.bins.take 4).length : Int) > 6)) || decide (((f.turnings.filter jg).length : Int) > 8)) || decide (((0 : Nat) : Int) > 16)) = false
  rw [hm.1.1.1, hl, decide_eq_false (show ¬ (((4 : Nat) : Int) > 6) by decide), decide_eq_false (show ¬ (((f.turnings.filter jg).length : Int) > 8) by omega)]
  decide
 rw [if_neg hc]; exact h
theorem Nv {f : bS} (h2 : 2 ≤ f.bins.length) : 1 ≤ (zA f).bins.length ∧ (zA f).bins.length ≤ 4 ∧ (zA f).bears = f.bears := by
 unfold zA
 by_cases hc : (f.bins.length : Int) > 4
 ·rw [if_pos hc]
  show 1 ≤ (f.bins.take 4).length ∧ (f.bins.take 4).length ≤ 4 ∧ _
  rw [List.length_take]
  exact ⟨by omega, by omega, rfl⟩
 rw [if_neg hc]; exact ⟨by omega, by omega, rfl⟩
section
variable {f : bS} (h : bk f = 0) (h1 : 1 ≤ f.bins.length) (h4 : f.bins.length ≤ 4)
include h h1 h4
theorem xm : (jU f).dj ∧ dy (jU f) = 0 := by
 have hk := u7 h
 have hm := hk.many
 simp only [bS.many, Bool.or_eq_false_iff, decide_eq_false_iff_not] at hm
 have hb : (jU f).bins.length = f.bins.length := by show (f.bins.map _).length = _; rw [List.length_map]
 have hmv : (jU f).moves.length = f.turnings.length := by show (f.turnings.map _).length = _; rw [List.length_map]
 have hr : (jU f).dj := by
  refine ⟨⟨by show (1 : Int) ≤ 1; decide, by show (1 : Int) ≤ 5; decide⟩, by omega, by omega, Nat.zero_le _, fun b hb' => ?_, fun m hm' => ?_, fun l hl => by cases hl⟩
  ·obtain ⟨x, hx, rfl⟩ := List.mem_map.1 hb'
   have := (hk.bin x hx).1
   exact ⟨by show (0 : Int) ≤ 300 ∧ (300 : Int) ≤ 300; decide, this, Int.le_refl _⟩
  obtain ⟨t, ht, rfl⟩ := List.mem_map.1 hm'
  have a := hk.sacks t ht
  have c := hk.named t ht
  rw [hb]
  exact ⟨by show (0 : Int) ≤ 0 ∧ (0 : Int) < 1; decide, c.1, c.2, hk.ne t ht, ⟨by show 0 ≤ t.sacks; omega, by show t.sacks ≤ 300; omega⟩, Int.le_refl _⟩
 exact ⟨hr, MX hr⟩
theorem Jo : pO (jU f) (lp f) = 0 := by
 obtain ⟨hr, hc⟩ := xm h h1 h4
 have hk := u7 h
 unfold pO
 have e1 : xX (jU f) (lp f) = false := by
  unfold xX jU lp
  simp
 have e2 : xx (lp f) = false := by
  unfold xx lp
  rw [Bool.or_eq_false_iff, Bool.not_eq_false', Bool.not_eq_false', List.all_eq_true, List.all_eq_true]
  refine ⟨fun x hx => ?_, fun x hx => ?_⟩
  ·obtain ⟨b, hb, rfl⟩ := List.mem_map.1 hx
   exact fK.2 (hk.bin b hb).1
  obtain ⟨t, ht, rfl⟩ := List.mem_map.1 hx
  have := hk.sacks t ht
  exact fK.2 ⟨by omega, by omega⟩
 rw [if_pos hc, e1, if_neg (by decide), e2, if_neg (by decide)]
end
def uj (C : List (List Int)) (f : bS) (time b : Nat) : Nat → Int
  | 0 => 0
  | i + 1 => uj C f time b i + nth (nth C i) time * nth (nth f.bins i).shares b
theorem Rw {C : List (List Int)} {f : bS} {time b : Nat} : (0 : Int) = uj C f time b 0 := rfl
theorem R5 {C : List (List Int)} {f : bS} {time b i : Nat} : uj C f time b i + nth (nth C i) time * nth (nth f.bins i).shares b = uj C f time b (i + 1) := rfl
theorem EH (C : List (List Int)) (f : bS) (time b : Nat) : ∀ n, uj C f time b n = cm (fun i => nth (nth C i) time * nth (nth f.bins i).shares b) n
  | 0 => rfl
  | n + 1 => by show uj C f time b n + _ = cm _ n + _; rw [EH C f time b n]
theorem xQ (f : bS) (b : Nat) : ∀ n, n ≤ f.bins.length → gQ f b n = cm (fun i => (nth f.bins i).has * nth (nth f.bins i).shares b) n
  | 0, _ => rfl
  | n + 1, hn => by
    show _ = cm _ n + _
    rw [← xQ f b n (by omega)]
    unfold gQ
    rw [bh (by omega), List.map_append, List.sum_append]
    simp
theorem KE (g : Int → Int) : ∀ n, ((s6 n).map g).sum = cm (fun t => g (t : Nat)) n
  | 0 => rfl
  | n + 1 => by rw [Ff, List.map_append, List.sum_append, KE g n]; show _ = cm _ n + _; simp
theorem K2 (n : Nat) : (s6 n).Nodup := by
 unfold s6
 exact List.Pairwise.map _ (fun a b hab h => hab (Int.ofNat.inj h)) List.nodup_range
theorem DA {f : bS} {b : Nat} {x : Int} (hx : -1 ≤ x ∧ x < f.bins.length) : cm (fun i => ind (x = ((i : Nat) : Int)) * nth (nth f.bins i).shares b) f.bins.length = ir f x b := by
 unfold ir
 by_cases e : x = -1
 ·rw [if_pos e]
  refine lN fun i hi => ?_
  unfold ind
  rw [if_neg (by omega), Int.zero_mul]
 rw [if_neg e, qv (k := x.toNat) (by omega) fun i hi hne => by unfold ind; rw [if_neg (by omega), Int.zero_mul]]
 unfold ind
 rw [if_pos (by omega), Int.one_mul]
section
variable {f : bS} (h : bk f = 0) (h1 : 1 ≤ f.bins.length) (h4 : f.bins.length ≤ 4)
include h h1 h4
theorem EG {i : Nat} (hi : i < f.bins.length) : (nth (hU (jU f) (lp f)) i).length = 2 ∧ nth (nth (hU (jU f) (lp f)) i) 0 = (nth f.bins i).has ∧ nth (nth (hU (jU f) (lp f)) i) 1 = (nth f.bins i).has + cm (fun t => (ind ((nth f.turnings t).dst = ((i : Nat) : Int)) - ind ((nth f.turnings t).src = ((i : Nat) : Int))) * (nth f.turnings t).sacks) f.turnings.length := by
 obtain ⟨hr, _⟩ := xm h h1 h4
 have hb : (jU f).bins.length = f.bins.length := by show (f.bins.map _).length = _; rw [List.length_map]
 have hmv : (jU f).moves.length = f.turnings.length := by show (f.turnings.map _).length = _; rw [List.length_map]
 have hD : (jU f).D = 1 := rfl
 have hf : nth (lp f).first i = (nth f.bins i).has := by
  show nth (f.bins.map _) i = _
  rw [cF (by rw [List.length_map]; exact hi), List.getElem_map, ← cF hi]
 rw [Cr (by rw [hb]; exact hi), hD]
 refine ⟨lg, ?_, ?_⟩
 ·rw [vC (by omega), Cp hr, hf]
 rw [vC (by omega)]
 unfold fG
 rw [hf, hmv]
 congr 1
 refine gX fun t ht => ?_
 have em : nth (jU f).moves t = ⟨0, (nth f.turnings t).src, (nth f.turnings t).dst, ⟨(nth f.turnings t).sacks, (nth f.turnings t).sacks⟩⟩ := by
  show nth (f.turnings.map _) t = _
  rw [cF (by rw [List.length_map]; exact ht), List.getElem_map, ← cF ht]
 have ea : nth (lp f).bM t = (nth f.turnings t).sacks := by
  show nth (f.turnings.map _) t = _
  rw [cF (by rw [List.length_map]; exact ht), List.getElem_map, ← cF ht]
 rw [em]
 show (if (0 : Int) < ((1 : Nat) : Int) then x8 (jU f) (lp f).bM i t else 0) = _
 rw [if_pos (by decide)]
 unfold x8
 rw [em, ea]
theorem Kz {l : List Int} (ho : kM f l = 0) {b : Nat} (hb : b < f.bears.length) : uj (hU (jU f) (lp f)) f 0 b f.bins.length = nth (nth (sI f l) 0) b ∧ uj (hU (jU f) (lp f)) f 1 b f.bins.length = nth (nth (sI f l) l.length) b := by
 have hk := u7 h
 have hn := (cB h).named
 have ha := answers h ho
 have oe : gl f l = 0 := by
  have hM : gR f = 0 := by rw [← jD]; exact h
  unfold gl
  rw [if_neg (by rw [hM]; exact fun h => h rfl)]; exact ho
 have re : sI f l = gF f l := if_neg (by rw [oe]; exact fun h => h rfl)
 have hin := (kr ho).2.1
 rw [re, oN hn hin hb (Nat.zero_le _), oN hn hin hb (Nat.le_refl _)]
 constructor
 ·rw [MQ, xQ f b _ (Nat.le_refl _), EH]
  exact gX fun i hi => by rw [(EG h h1 h4 hi).2.1]
 have e := M6 f (l := l) (l' := s6 f.turnings.length) (n := f.turnings.length) ha.nodup (K2 _) ha.all (fun x => eW) b
 rw [e]
 unfold mM
 rw [List.take_of_length_le (Nat.le_refl _), KE, xQ f b _ (Nat.le_refl _), EH]
 have e1 : cm (fun i => nth (nth (hU (jU f) (lp f)) i) 1 * nth (nth f.bins i).shares b) f.bins.length = cm (fun i => (nth f.bins i).has * nth (nth f.bins i).shares b + cm (fun t => (nth f.turnings t).sacks * ((ind ((nth f.turnings t).dst = ((i : Nat) : Int)) * nth (nth f.bins i).shares b) - (ind ((nth f.turnings t).src = ((i : Nat) : Int)) * nth (nth f.bins i).shares b))) f.turnings.length) f.bins.length :=
  gX fun i hi => by
   rw [(EG h h1 h4 hi).2.2, Int.add_mul]
   congr 1
   rw [Int.mul_comm, ← sG]
   refine gX fun t _ => ?_
   rw [← Int.sub_mul]
   simp only [Int.mul_comm, Int.mul_left_comm, Int.mul_assoc]
 rw [e1, wK, xM]
 congr 1
 refine gX fun t ht => ?_
 rw [sG, pW, DA (hn _ (bL ht)).2, DA (hn _ (bL ht)).1]
 rfl
end
section
variable {f : bS}
theorem Gx (h : bk f = 0) {i : Nat} (hi : i < f.bins.length) (b : Nat) : 0 ≤ nth (nth f.bins i).shares b ∧ nth (nth f.bins i).shares b ≤ 4 := by
 have hs := (u7 h).bin _ (bL hi)
 by_cases hb : b < (nth f.bins i).shares.length
 ·exact j0 (fH hs.2 (bL hb))
 have : nth (nth f.bins i).shares b = 0 := by
  unfold nth
  rw [List.getD_eq_getElem?_getD, List.getElem?_eq_none (by unfold nth at hb; omega)]; rfl
 omega
theorem vY (h : bk f = 0) (h1 : 1 ≤ f.bins.length) (h4 : f.bins.length ≤ 4) {a : Nat} (ha : a < 2) {i : Nat} (hi : i < f.bins.length) : -3000 ≤ nth (nth (hU (jU f) (lp f)) i) a ∧ nth (nth (hU (jU f) (lp f)) i) a ≤ 3300 := by
 have hr := (xm h h1 h4).1
 have hb : (jU f).bins.length = f.bins.length := by show (f.bins.map _).length = _; rw [List.length_map]
 have hs := (SG (Jo h h1 h4)).2
 rw [Cr (by rw [hb]; exact hi), vC (show a ≤ (jU f).D by show a ≤ 1; omega)]
 exact HW hr hs (by rw [hb]; exact hi)
theorem Jj {x y : Int} (hx : -3000 ≤ x ∧ x ≤ 3300) (hy : 0 ≤ y ∧ y ≤ 4) : -12000 ≤ x * y ∧ x * y ≤ 13200 := by
 rcases (show y = 0 ∨ y = 1 ∨ y = 2 ∨ y = 3 ∨ y = 4 by omega) with rfl | rfl | rfl | rfl | rfl <;> omega
theorem Of (h : bk f = 0) (h1 : 1 ≤ f.bins.length) (h4 : f.bins.length ≤ 4) {a : Nat} (ha : a < 2) (b : Nat) : ∀ i, i ≤ f.bins.length → -(12000 * (i : Int)) ≤ uj (hU (jU f) (lp f)) f a b i ∧ uj (hU (jU f) (lp f)) f a b i ≤ 13200 * i
  | 0, _ => by rw [← Rw]; omega
  | i + 1, hi => by
    have ih := Of h h1 h4 ha b i (by omega)
    have hm := Jj (vY h h1 h4 ha (show i < f.bins.length by omega)) (Gx h (show i < f.bins.length by omega) b)
    rw [← R5]
    omega
theorem SU (f : bS) : (jU f).bins.length = f.bins.length := by show (f.bins.map _).length = _; rw [List.length_map]
theorem De (h : bk f = 0) : f.Small := by
 have hk := u7 h
 have hm := hk.many
 simp only [bS.many, Bool.or_eq_false_iff, decide_eq_false_iff_not] at hm
 have h1 := j0 hm.1.1.1
 exact ⟨by omega, by omega, by omega, by omega, fun b hb => by have := hk.len b hb; omega⟩
theorem FM (h : (f.bins.length : Int) > 4) : zA f = ⟨f.bears, f.bins.take 4, f.turnings.filter jg, []⟩ := if_pos h
theorem J3 (h : ¬ (f.bins.length : Int) > 4) : zA f = f := if_neg h
end
end Go.Proofs.YtmmcenjknimhbaaGreat
namespace Go.Proofs.YtmmcenjknimhbaaGreat
open Go Go.T
attribute [local irreducible] eG cZ jR j6 eP eO eK eM eS j8 eJ j4 b8 dc jz dZ j7 nth eZ cU aV cX bodyPost Exit.then Exit.inBlock Code.wp Code.wpIn
def two (r : List kT) : bS := ⟨[400, 300], [⟨60, [4, 0]⟩, ⟨30, [2, 2]⟩, ⟨0, [0, 4]⟩], [⟨0, 1, 40⟩, ⟨1, 2, 30⟩, ⟨-1, 0, 40⟩], r⟩
set_option maxRecDepth 100000 in
theorem Am (r : List kT) : cX Tryz.prog 43 [Ty.sl jh r] (iT (two r)) := by
 refine aY Tryz.func43 rfl (by decide) Tryz.ntmps43 (by exact Nat.le_of_ble_eq_true rfl) fun w0 M0 => ?_
 refine aF (aA ?_)
 refine dA rfl (by exact List.cons_ne_nil _ _) rfl ?_
 refine aD (aC (aF (aA ?_)))
 refine bT (E := dN) (xs := [400, 300]) rfl rfl rfl rfl rfl (by decide) (by decide) (by repeat (first | exact (aT.nil : aT _ _ [] _) | (show aT _ _ ((_, _) :: _) _; apply aT.one; (· exact (rfl : _ = Ty.int _ _)); (· exact rfl)))) (by exact rfl) rfl ?_
 refine bT (E := dN) (xs := [4, 0]) rfl rfl rfl rfl rfl (by decide) (by decide) (by repeat (first | exact (aT.nil : aT _ _ [] _) | (show aT _ _ ((_, _) :: _) _; apply aT.one; (· exact (rfl : _ = Ty.int _ _)); (· exact rfl)))) (by exact rfl) rfl ?_
 refine eX rfl rfl (by exact List.cons_ne_nil _ _) rfl (by repeat (first | exact (aT.nil : aT _ _ [] _) | (show aT _ _ ((_, _) :: _) _; apply aT.one; (· first | exact (rfl : _ = Ty.int _ _) | exact (rfl : _ = Ty.sl _ _)); (· exact rfl)))) (by exact (rfl : _ = some [_, _])) ?_
 refine bT (E := dN) (xs := [2, 2]) rfl rfl rfl rfl rfl (by decide) (by decide) (by repeat (first | exact (aT.nil : aT _ _ [] _) | (show aT _ _ ((_, _) :: _) _; apply aT.one; (· exact (rfl : _ = Ty.int _ _)); (· exact rfl)))) (by exact rfl) rfl ?_
 refine eX rfl rfl (by exact List.cons_ne_nil _ _) rfl (by repeat (first | exact (aT.nil : aT _ _ [] _) | (show aT _ _ ((_, _) :: _) _; apply aT.one; (· first | exact (rfl : _ = Ty.int _ _) | exact (rfl : _ = Ty.sl _ _)); (· exact rfl)))) (by exact (rfl : _ = some [_, _])) ?_
 refine bT (E := dN) (xs := [0, 4]) rfl rfl rfl rfl rfl (by decide) (by decide) (by repeat (first | exact (aT.nil : aT _ _ [] _) | (show aT _ _ ((_, _) :: _) _; apply aT.one; (· exact (rfl : _ = Ty.int _ _)); (· exact rfl)))) (by exact rfl) rfl ?_
 refine eX rfl rfl (by exact List.cons_ne_nil _ _) rfl (by repeat (first | exact (aT.nil : aT _ _ [] _) | (show aT _ _ ((_, _) :: _) _; apply aT.one; (· exact (rfl : _ = Ty.sl _ _)); (· exact rfl)))) (by exact (rfl : _ = some [_, _])) ?_
 refine bT (E := jX) (xs := [⟨60, [4, 0]⟩, ⟨30, [2, 2]⟩, ⟨0, [0, 4]⟩]) rfl rfl rfl rfl rfl (by decide) (by decide) (by repeat (first | exact (aT.nil : aT _ _ [] _) | (show aT _ _ ((_, _) :: _) _; apply aT.agg; (· exact (rfl : _ = Ty.agg _))))) (by exact rfl) rfl ?_
 refine eX rfl rfl (by exact List.cons_ne_nil _ _) rfl (by repeat (first | exact (aT.nil : aT _ _ [] _) | (show aT _ _ ((_, _) :: _) _; apply aT.one; (· exact (rfl : _ = Ty.int _ _)); (· exact rfl)))) (by exact (rfl : _ = some [_, _, _])) ?_
 refine eX rfl rfl (by exact List.cons_ne_nil _ _) rfl (by repeat (first | exact (aT.nil : aT _ _ [] _) | (show aT _ _ ((_, _) :: _) _; apply aT.one; (· exact (rfl : _ = Ty.int _ _)); (· exact rfl)))) (by exact (rfl : _ = some [_, _, _])) ?_
 refine eX rfl rfl (by exact List.cons_ne_nil _ _) rfl (by repeat (first | exact (aT.nil : aT _ _ [] _) | (show aT _ _ ((_, _) :: _) _; apply aT.one; (· exact (rfl : _ = Ty.int _ _)); (· exact rfl)))) (by exact (rfl : _ = some [_, _, _])) ?_
 refine bT (E := gM) (xs := [⟨0, 1, 40⟩, ⟨1, 2, 30⟩, ⟨-1, 0, 40⟩]) rfl rfl rfl rfl rfl (by decide) (by decide) (by repeat (first | exact (aT.nil : aT _ _ [] _) | (show aT _ _ ((_, _) :: _) _; apply aT.agg; (· exact (rfl : _ = Ty.agg _))))) (by exact rfl) rfl ?_
 refine gq rfl ?_
 refine eX rfl rfl (by exact List.cons_ne_nil _ _) rfl (by repeat (first | exact (aT.nil : aT _ _ [] _) | (show aT _ _ ((_, _) :: _) _; apply aT.one; (· exact (rfl : _ = Ty.sl _ _)); (· exact rfl)))) (by exact (rfl : _ = some [_, _, _, _])) ?_
 refine eH rfl rfl (by decide) rfl rfl rfl rfl rfl rfl ?_
 refine aD (aC (au ?_))
 refine Jm rfl rfl rfl rfl (by decide) rfl rfl rfl ?_
 exact RA (ts := cx (two r)) (tF (bN rfl rfl) (tF (bN rfl rfl) (tF (bN rfl rfl) (tF (bN rfl rfl) NG))))
end Go.Proofs.YtmmcenjknimhbaaGreat
namespace Go.Proofs.YtmmcenjknimhbaaGreat
open Go Go.T
attribute [local irreducible] eG cZ jR j6 eP eO eK eM eS j8 eJ j4 b8 dc jz dZ j7 nth eZ cU aV cX bodyPost Exit.then Exit.inBlock Code.wp Code.wpIn
end Go.Proofs.YtmmcenjknimhbaaGreat
namespace Go.Proofs.YtmmcenjknimhbaaGreat
open Go Go.T
attribute [local irreducible] eG cZ jR j6 eP eO eK eM eS j8 eJ j4 b8 dc jz dZ j7 nth eZ cU aV cX bodyPost Exit.then Exit.inBlock Code.wp Code.wpIn
theorem wX {b : Bool} (h : b = false) : ¬ b = true := by rw [h]; decide
theorem Fa {n k : Nat} {q : Int → Bool} (hk : k < n) (h : q k = true) : (s6 n).any q = true := GH (eW.2 ⟨by omega, by omega⟩) h
theorem GB {n : Nat} {q : Int → Bool} (h : ∀ k : Nat, k < n → q k = false) : (s6 n).any q = false := by
 rw [Bool.eq_false_iff]; intro hc
 obtain ⟨x, hx, hq⟩ := List.any_eq_true.1 hc
 obtain ⟨h1, h2⟩ := eW.1 hx
 have := h x.toNat (by omega)
 rw [Int.toNat_of_nonneg h1, hq] at this; cases this
theorem S8 {p : Nat → Prop} {k : Nat} (h : ∀ j, j < k → p j) (hk : p k) : ∀ j, j < k + 1 → p j := fun j hj => by
 rcases Nat.lt_or_ge j k with h1 | h1
 ·exact h j h1
 rwa [show j = k by omega]
end Go.Proofs.YtmmcenjknimhbaaGreat
namespace Go.Proofs.YtmmcenjknimhbaaGreat
open Go Go.T
attribute [local irreducible] eG cZ jR j6 eP eO eK eM eS j8 eJ j4 b8 dc jz dZ j7 nth eZ cU aV cX bodyPost Exit.then Exit.inBlock Code.wp Code.wpIn
end Go.Proofs.YtmmcenjknimhbaaGreat
namespace Go.Proofs.YtmmcenjknimhbaaGreat
open Go Go.T
attribute [local irreducible] eG cZ jR j6 eP eO eK eM eS j8 eJ j4 b8 dc jz dZ j7 nth eZ cU aV cX bodyPost Exit.then Exit.inBlock Code.wp Code.wpIn
end Go.Proofs.YtmmcenjknimhbaaGreat
namespace Go.Proofs.YtmmcenjknimhbaaGreat
open Go Go.T
attribute [local irreducible] eG cZ jR j6 eP eO eK eM eS j8 eJ j4 b8 dc jz dZ j7 nth eZ cU aV cX bodyPost Exit.then Exit.inBlock Code.wp Code.wpIn
end Go.Proofs.YtmmcenjknimhbaaGreat
namespace Go.Proofs.YtmmcenjknimhbaaGreat
open Go Go.T
attribute [local irreducible] eG cZ jR j6 eP eO eK eM eS j8 eJ j4 b8 dc jz dZ j7 nth eZ cU aV cX bodyPost Exit.then Exit.inBlock Code.wp Code.wpIn
end Go.Proofs.YtmmcenjknimhbaaGreat
namespace Go.Proofs.YtmmcenjknimhbaaGreat
open Go Go.T
attribute [local irreducible] eG cZ jR j6 eP eO eK eM eS j8 eJ j4 b8 dc jz dZ j7 nth eZ cU aV cX bodyPost Exit.then Exit.inBlock Code.wp Code.wpIn
end Go.Proofs.YtmmcenjknimhbaaGreat
namespace Go.Proofs.YtmmcenjknimhbaaGreat
open Go Go.T
attribute [local irreducible] eG cZ jR j6 eP eO eK eM eS j8 eJ j4 b8 dc jz dZ j7 nth eZ cU aV cX bodyPost Exit.then Exit.inBlock Code.wp Code.wpIn
set_option maxRecDepth 100000 in
theorem ym (n lo hi : Int) : cX Tryz.prog 114 [Ty.int .i64 n, Ty.int .i64 lo, Ty.int .i64 hi] (Ty.bool (fC n lo hi)) := by
 refine aY Tryz.func114 rfl (by decide) Tryz.ntmps114 (by exact Nat.le_of_ble_eq_true rfl) fun w0 M0 => ?_
 refine aF (aA (dG rfl (aD (aC (aF (aA (bF rfl (bF rfl (ak rfl rfl rfl (kV rfl ?_))))))))))
 apply aN (s := 10) rfl rfl rfl
 ·intro hg; apply aQ; (refine bF rfl ?_); refine aD ?_; exact rfl
 ·exact rfl
 ·exact rfl
 apply aN (s := 10) rfl rfl rfl
 ·intro hg; apply aQ; (refine bF rfl ?_); refine aD ?_; exact rfl
 ·exact rfl
 ·exact rfl
 apply aN (s := 10) rfl rfl rfl
 ·intro hg; apply aM (s := 11) rfl (by (rw [hg]; rfl)); apply aM (s := 12) rfl (by (rw [hg]; rfl)); apply aQ; (refine ak rfl rfl rfl ?_); refine aD ?_; exact rfl
 ·exact rfl
 ·exact rfl
 refine gL rfl rfl (dG rfl (aD (aC (au (bK rfl rfl ?_)))))
 all_goals exact bN rfl rfl
set_option maxRecDepth 100000 in
theorem UQ (l : List Int) (hl : l.length ≤ 100) (hb : ∀ n ∈ l, 0 ≤ n ∧ n ≤ 4000) : cX Tryz.prog 198 [Ty.sl dN l] (Ty.int .i64 l.sum) := by
 refine aY Tryz.func198 rfl (by decide) Tryz.ntmps198 (by exact Nat.le_of_ble_eq_true rfl) fun w0 M0 => ?_
 refine aF (aA (b9 rfl (aD (aC (aF (aA (b9 rfl (aD (aC (aF (aF (aA (gq rfl (cC rfl rfl rfl (bF rfl ?_)))))))))))))))
 refine aD (aC (af ?_))
 refine cK (fun (k : Nat) => live [(3, Ty.int .i64 (l.take k).sum), (6, Ty.sl dN l), (7, Ty.int .i64 l.length), (8, Ty.int .i64 k)] []) (fun k => l.length - k) (0) ?_ fun k => ?_
 ·(refine c8.mk' ?_ ?_ <;> (repeat' (first | exact aI | exact aH | refine aB ?_ (Ty.aR _) | refine aB ?_ (Ty.aG _))))
 have hsb := JA hb k
 rw [List.length_take] at hsb
 refine aF (aA (ak rfl rfl rfl (aD (aC (aF ?_)))))
 refine aa rfl (fun hc1 => ?_) (fun hc1 => ?_)
 ·refine bA (aC (aF (af (aF ?_))))
  have hx := hb _ (bL (xs := l) (k := k) (by omega))
  refine aA ?_
  refine bG rfl rfl rfl rfl rfl rfl (by omega) ?_
  refine aK rfl rfl rfl rfl (b9 rfl (aD (aC (aA (bF rfl (bF rfl ?_))))))
  refine bz rfl rfl (by omega) (by omega) ?_
  refine b9 rfl (aD (bH (aC (aA ?_))))
  refine bz rfl rfl (by omega) (by omega) ?_
  refine bF rfl (aD ?_)
  refine bO (k + 1) ?_ (by omega)
  (refine c8.mk' ?_ ?_ <;> (repeat' (first | exact aI | exact aH | refine aB ?_ (Ty.aR _) | refine aB ?_ (Ty.aG _) | refine aB ?_ ?_)))
  all_goals skip
  exact Ty.bJ (by rw [bh (by omega), List.sum_append]; simp)
 refine cE (aL (aL (ah rfl (aC (aF (aA (bF rfl (b9 rfl (aD (aC (au (bK rfl rfl ?_))))))))))))
 all_goals skip
 exact bE rfl rfl (congrArg (Ty.int .i64) (by rw [List.take_of_length_le (by omega)]))
set_option maxRecDepth 100000 in
theorem HY (n : Int) (l : List Int) : cX Tryz.prog 106 [Ty.int .i64 n, Ty.sl dN l] (Ty.int .i64 (JV n l)) := by
 refine aY Tryz.func106 rfl (by decide) Tryz.ntmps106 (by exact Nat.le_of_ble_eq_true rfl) fun w0 M0 => ?_
 refine ko (s := 1) rfl rfl k8 fun hl => ?_
 refine aF (aA (b9 rfl (aD (aC (aF (aF (aA (gq rfl (cC rfl rfl rfl (bF rfl (aD (aC (af ?_)))))))))))))
 refine cK (fun (k : Nat) => live [(0, Ty.int .i64 (JV n (l.take k))), (7, Ty.sl dN l), (8, Ty.int .i64 l.length), (9, Ty.int .i64 k)] []) (fun k => l.length - k) (0) ?_ fun k => ?_
 ·(refine c8.mk' ?_ ?_ <;> (repeat' (first | exact aI | exact aH | refine aB ?_ (Ty.aR _) | refine aB ?_ (Ty.aG _))))
 refine aF (aA (ak rfl rfl rfl (aD (aC (aF ?_)))))
 refine aa rfl (fun hc1 => ?_) (fun hc1 => ?_)
 ·refine bA (aC (aF (af (aF (aA ?_)))))
  refine bG rfl rfl rfl rfl rfl rfl (by omega) ?_
  refine aK rfl rfl rfl rfl (b9 rfl (aD (aC (aA (bF rfl (bF rfl (Rm rfl rfl (b9 rfl (aD (bH (aC (aA ?_))))))))))))
  refine bz rfl rfl (by omega) (by omega) ?_
  refine bF rfl (aD ?_)
  refine bO (k + 1) ?_ (by omega)
  (refine c8.mk' ?_ ?_ <;> (repeat' (first | exact aI | exact aH | refine aB ?_ (Ty.aR _) | refine aB ?_ (Ty.aG _) | refine aB ?_ ?_)))
  all_goals skip
  exact Ty.bJ (by simp only [JV]; rw [bh (by omega), List.foldl_append]; rfl)
 refine cE (aL (aL (ah rfl (aC (aF (aA (bF rfl (b9 rfl (aD (aC (au (bK rfl rfl ?_))))))))))))
 all_goals skip
 exact bE rfl rfl (congrArg (Ty.int .i64) (by rw [List.take_of_length_le (by omega)]))
set_option maxRecDepth 100000 in
theorem CO (s : Nat) (hs : s < 256) : cX Tryz.prog 98 [Ty.int .i64 (s : Nat)] (Ty.sl dN (cQ s)) := by
 refine aY Tryz.func98 rfl (by decide) Tryz.ntmps98 (by exact Nat.le_of_ble_eq_true rfl) fun w0 M0 => ?_
 refine aF (aA (mN rfl (aD (aC (aF (aA (mN rfl (aD (aC (aF (aF (aA (b9 rfl (aD (aC ?_)))))))))))))))
 refine af ?_
 refine cK (fun (i : {i : Nat // i ≤ 8}) => live [(0, Ty.int .i64 (s : Nat)), (3, Ty.row dN 3 20 (ou s i.1)), (4, Ty.int .i64 (i.1 : Nat))] []) (fun i => 8 - i.1) (⟨0, by omega⟩) ?_ fun i => ?_
 ·(refine c8.mk' ?_ ?_ <;> (repeat' (first | exact aI | exact aH | refine aB ?_ (Ty.aR _) | refine aB ?_ (Ty.aG _) | refine aB ?_ Ty.lX)))
 have hbl := zY s i.1
 have hsi : s >>> i.1 ≤ s := Nat.shiftRight_le s i.1
 refine aF (aF (aA (bF rfl (bF rfl ?_))))
 refine uO rfl rfl (by omega) ?_
 refine ak rfl rfl rfl (aD (aC ?_))
 refine aa rfl (fun hc1 => ?_) (fun hc1 => ?_)
 ·refine bA (aC (aF (af (aF (aA (bF rfl (bF rfl ?_)))))))
  refine uO rfl rfl (by omega) ?_
  refine xw (b := 1) rfl rfl (by omega) (by omega) ?_
  refine ak rfl rfl rfl (aD (aC ?_))
  refine aa rfl (fun hc2 => ?_) (fun hc2 => ?_)
  ·refine aA (BU rfl (bF rfl ?_))
   refine bT (E := dN) (xs := [_]) rfl rfl rfl rfl rfl (by decide) (by decide) (by repeat (first | exact (aT.nil : aT _ _ [] _) | (show aT _ _ ((_, _) :: _) _; apply aT.one; (· exact (rfl : _ = Ty.int _ _)); (· exact rfl)))) (by exact rfl) rfl ?_
   refine fD rfl rfl (by decide) rfl rfl rfl rfl rfl rfl (by decide) (by (simp <;> omega)) (by (simp <;> omega)) ?_
   refine D8 rfl (aD (bH (aC (aA (bF rfl ?_)))))
   refine bz rfl rfl (by omega) (by omega) ?_
   refine b9 rfl (aD ?_)
   refine bO (⟨i.1 + 1, by have := Dy (i := i.1) hs (Int.natCast_pos.1 hc1); omega⟩) ?_ (by show 8 - (i.1 + 1) < 8 - i.1; have := Dy (i := i.1) hs (Int.natCast_pos.1 hc1); omega)
   (refine c8.mk' ?_ ?_ <;> (repeat' (first | exact aI | exact aH | refine aB ?_ (Ty.aR _) | refine aB ?_ (Ty.aG _) | refine aB ?_ ?_)))
   all_goals skip
   refine Ty.ej ?_; rw [sF]; (rw [if_pos ((iQ s i.1).1 (by exact_mod_cast hc2))]; done)
  refine bA (bH (aC (aA (bF rfl ?_))))
  refine bz rfl rfl (by omega) (by omega) ?_
  refine b9 rfl (aD ?_)
  refine bO (⟨i.1 + 1, by have := Dy (i := i.1) hs (Int.natCast_pos.1 hc1); omega⟩) ?_ (by show 8 - (i.1 + 1) < 8 - i.1; have := Dy (i := i.1) hs (Int.natCast_pos.1 hc1); omega)
  (refine c8.mk' ?_ ?_ <;> (repeat' (first | exact aI | exact aH | refine aB ?_ (Ty.aR _) | refine aB ?_ (Ty.aG _) | refine aB ?_ ?_)))
  all_goals skip
  refine Ty.ej ?_; rw [sF]; (rw [if_neg (fun h => hc2 (by exact_mod_cast (iQ s i.1).2 h)), List.append_nil]; done)
 refine cE (aL (aL (ah rfl (aC (aF (aA (BU rfl (D8 rfl (aD (aC (au (bK rfl rfl ?_))))))))))))
 all_goals skip
 exact nO (by decide) (JC (Nat.eq_zero_of_not_pos fun h => hc1 (Int.natCast_pos.2 h)) 8 i.2).symm
set_option maxRecDepth 100000 in
theorem pH (f : bS) (hs : f.Small) (t : Int) : cX Tryz.prog 96 [iT f, Ty.int .i64 t] (Ty.bool (fC t 0 (f.turnings.length - 1))) := by
 refine aY Tryz.func96 rfl (by decide) Tryz.ntmps96 (by exact Nat.le_of_ble_eq_true rfl) fun w0 M0 => ?_
 have hs1 := hs.bears; have hs2 := hs.bins; have hs3 := hs.turnings; have hs4 := hs.rules
 refine aF (aA (bD rfl (dG rfl (aD (aC (aF (aA (bF rfl ?_))))))))
 refine aP rfl rfl rfl rfl rfl (by decide) ?_
 refine aK rfl rfl rfl rfl (cC rfl rfl rfl ?_)
 refine jB rfl rfl (by omega) (by omega) ?_
 refine aq (ym _ _ _) rfl rfl rfl rfl rfl (dG rfl (aD (aC (au (bK rfl rfl ?_)))))
 all_goals exact bN rfl rfl
set_option maxRecDepth 100000 in
theorem R8 (f : bS) (hs : f.Small) (t : Int) : cX Tryz.prog 55 [iT f, Ty.int .i64 t] (Ty.bool (fC t 0 (f.bears.length - 1))) := by
 refine aY Tryz.func55 rfl (by decide) Tryz.ntmps55 (by exact Nat.le_of_ble_eq_true rfl) fun w0 M0 => ?_
 have hs1 := hs.bears; have hs2 := hs.bins; have hs3 := hs.turnings; have hs4 := hs.rules
 refine aF (aA (bD rfl (dG rfl (aD (aC (aF (aA (bF rfl ?_))))))))
 refine aP rfl rfl rfl rfl rfl (by decide) ?_
 refine aK rfl rfl rfl rfl (cC rfl rfl rfl ?_)
 refine jB rfl rfl (by omega) (by omega) ?_
 refine aq (ym _ _ _) rfl rfl rfl rfl rfl (dG rfl (aD (aC (au (bK rfl rfl ?_)))))
 all_goals exact bN rfl rfl
set_option maxRecDepth 100000 in
theorem Kn (f : bS) (hs : f.Small) (t : Int) : cX Tryz.prog 193 [iT f, Ty.int .i64 t] (Ty.bool (fC t (-1) (f.bins.length - 1))) := by
 refine aY Tryz.func193 rfl (by decide) Tryz.ntmps193 (by exact Nat.le_of_ble_eq_true rfl) fun w0 M0 => ?_
 have hs1 := hs.bears; have hs2 := hs.bins; have hs3 := hs.turnings; have hs4 := hs.rules
 refine aF (aA (bD rfl (dG rfl (aD (aC (aF (aA (bF rfl ?_))))))))
 refine aP rfl rfl rfl rfl rfl (by decide) ?_
 refine aK rfl rfl rfl rfl (cC rfl rfl rfl ?_)
 refine jB rfl rfl (by omega) (by omega) ?_
 refine aq (ym _ _ _) rfl rfl rfl rfl rfl (dG rfl (aD (aC (au (bK rfl rfl ?_)))))
 all_goals exact bN rfl rfl
set_option maxRecDepth 100000 in
theorem Pp (f : bS) (hs : f.Small) (hr : f.jC) (i : Int) : cX Tryz.prog 199 [iT f, Ty.int .i64 i] (Ty.int .i64 (gx f f.turnings i)) := by
 refine aY Tryz.func199 rfl (by decide) Tryz.ntmps199 (by exact Nat.le_of_ble_eq_true rfl) fun w0 M0 => ?_
 have hs1 := hs.bears; have hs2 := hs.bins; have hs3 := hs.turnings; have hs4 := hs.rules
 refine aF (aA (bD rfl (b9 rfl (aD (aC (aF (aA (b9 rfl (aD (aC (aF (aF (aA ?_)))))))))))))
 refine aP rfl rfl rfl rfl rfl (by decide) ?_
 refine aK rfl rfl rfl rfl (cC rfl rfl rfl (bF rfl (aD (aC (af ?_)))))
 refine cK (fun (n : Nat) => live [(1, Ty.int .i64 i), (5, Ty.int .i64 (gx f (f.turnings.take n) i)), (9, Ty.sl gM f.turnings), (10, Ty.int .i64 f.turnings.length), (11, Ty.int .i64 (n : Nat))] []) (fun n => f.turnings.length - n) (0) ?_ fun n => ?_
 ·(refine c8.mk' ?_ ?_ <;> (repeat' (first | exact aI | exact aH | refine aB ?_ (Ty.aR _) | refine aB ?_ (Ty.aG _))))
 have htb := HE hr n i
 refine aF (aA (ak rfl rfl rfl (aD (aC (aF ?_)))))
 refine aa rfl (fun hc1 => ?_) (fun hc1 => ?_)
 ·refine bA (aC (aF (af (aF (aA ?_)))))
  refine bG rfl rfl rfl rfl rfl rfl (by omega) ?_
  refine az rfl rfl rfl (by exact Nat.le_of_ble_eq_true rfl) ?_
  refine dA rfl (by exact List.cons_ne_nil _ _) rfl ?_
  refine eH rfl rfl (by decide) rfl rfl rfl rfl rfl rfl ?_
  refine aD (aC (aF (aA ?_)))
  refine aS rfl rfl rfl rfl rfl (by decide) ?_
  refine aj rfl rfl (by decide) rfl rfl rfl ?_
  refine bF rfl (ak rfl rfl rfl (aD (aC ?_)))
  refine aa rfl (fun hc2 => ?_) (fun hc2 => ?_)
  ·have htx := hr.sacksR (nth f.turnings n) (bL (by omega))
   refine aA (bF rfl ?_)
   refine aS rfl rfl rfl rfl rfl (by decide) ?_
   refine aj rfl rfl (by decide) rfl rfl rfl ?_
   refine bz rfl rfl (by omega) (by omega) ?_
   refine b9 rfl (aD (bH (aC (aA ?_))))
   refine bz rfl rfl (by omega) (by omega) ?_
   refine bF rfl (aD ?_)
   refine bO (n + 1) ?_ (by omega)
   (refine c8.mk' ?_ ?_ <;> (repeat' (first | exact aI | exact aH | refine aB ?_ (Ty.aR _) | refine aB ?_ (Ty.aG _) | refine aB ?_ ?_)))
   all_goals skip
   exact Ty.bJ (by simp only [gx]; rw [bh (by omega), List.map_append, List.sum_append]; simp [hc2])
  refine bA (bH (aC (aA ?_)))
  refine bz rfl rfl (by omega) (by omega) ?_
  refine bF rfl (aD ?_)
  refine bO (n + 1) ?_ (by omega)
  (refine c8.mk' ?_ ?_ <;> (repeat' (first | exact aI | exact aH | refine aB ?_ (Ty.aR _) | refine aB ?_ (Ty.aG _) | refine aB ?_ ?_)))
  all_goals skip
  exact Ty.bJ (by simp only [gx]; rw [bh (by omega), List.map_append, List.sum_append]; simp [hc2])
 refine cE (aL (aL (ah rfl (aC (aF (aA (bF rfl (b9 rfl (aD (aC (au (bK rfl rfl ?_))))))))))))
 all_goals skip
 exact bE rfl rfl (congrArg (Ty.int .i64) (by rw [List.take_of_length_le (by omega)]))
set_option maxRecDepth 100000 in
theorem Jr (f : bS) (hs : f.Small) (hr : f.jC) (i : Int) (b : Nat) (hi : -1 ≤ i ∧ i < f.bins.length) (hb : b < f.bears.length) : cX Tryz.prog 113 [iT f, Ty.int .i64 i, Ty.int .i64 (b : Nat)] (Ty.int .i64 (if i = -1 then 0 else nth (nth f.bins i.toNat).shares b)) := by
 refine aY Tryz.func113 rfl (by decide) Tryz.ntmps113 (by exact Nat.le_of_ble_eq_true rfl) fun w0 M0 => ?_
 have hs1 := hs.bears; have hs2 := hs.bins; have hs3 := hs.turnings; have hs4 := hs.rules
 refine aF (aA (bD rfl (b9 rfl (aD (aC (aF (aF (aA (bF rfl (ak rfl rfl rfl (aD (aC ?_))))))))))))
 refine aa rfl (fun hc1 => ?_) (fun hc1 => ?_)
 ·refine aF (aA (b9 rfl (aD (aC (au (aW (bK rfl rfl ?_)))))))
  all_goals skip
  exact bE rfl rfl (congrArg (Ty.int .i64) (by rw [if_pos hc1]))
 refine bA (aC (aF ?_))
 have hsl := hr.shares _ (bL (xs := f.bins) (k := i.toNat) (by omega))
 refine aA ?_
 refine aP rfl rfl rfl rfl rfl (by decide) ?_
 refine aK rfl rfl rfl rfl (bF rfl ?_)
 refine nX rfl rfl rfl rfl rfl rfl (by omega) (by omega) ?_
 refine aP rfl rfl rfl rfl rfl (by decide) ?_
 refine aK rfl rfl rfl rfl (bF rfl ?_)
 refine bG rfl rfl rfl rfl rfl rfl (by omega) ?_
 refine aK rfl rfl rfl rfl (b9 rfl (aD (aC (au (bK rfl rfl ?_)))))
 all_goals skip
 exact bE rfl rfl (congrArg (Ty.int .i64) (by rw [if_neg hc1]))
set_option maxRecDepth 100000 in
theorem Lq (f : bS) (b : qP) : cX Tryz.prog 186 [Ty.agg (jX.tys b), Ty.pp (cx f)] (Ty.bool (decide ((b.shares.length : Int) = f.bears.length))) := by
 refine aY Tryz.func186 rfl (by decide) Tryz.ntmps186 (by exact Nat.le_of_ble_eq_true rfl) fun w0 M0 => ?_
 refine aF (aA (bD rfl (dG rfl (aD (aC (aF (aA ?_)))))))
 refine aP rfl rfl rfl rfl rfl (by decide) ?_
 refine aK rfl rfl rfl rfl (cC rfl rfl rfl ?_)
 refine aP rfl rfl rfl rfl rfl (by decide) ?_
 refine aK rfl rfl rfl rfl (cC rfl rfl rfl (ak rfl rfl rfl (dG rfl (aD (aC (au (bK rfl rfl ?_)))))))
 all_goals exact bN rfl rfl
set_option maxRecDepth 100000 in
theorem Nu (n : Int) : cX Tryz.prog 187 [Ty.int .i64 n] (Ty.bool (fC n 0 4000)) := by
 refine aY Tryz.func187 rfl (by decide) Tryz.ntmps187 (by exact Nat.le_of_ble_eq_true rfl) fun w0 M0 => ?_
 refine aF (aA (dG rfl (aD (aC (aF (aA (bF rfl (aq (ym _ _ _) rfl rfl rfl rfl rfl (dG rfl (aD (aC (au (bK rfl rfl ?_)))))))))))))
 all_goals exact bN rfl rfl
set_option maxRecDepth 100000 in
theorem Ox (t : mO) : cX Tryz.prog 189 [Ty.agg (gM.tys t)] (Ty.bool (fC t.sacks 1 300)) := by
 refine aY Tryz.func189 rfl (by decide) Tryz.ntmps189 (by exact Nat.le_of_ble_eq_true rfl) fun w0 M0 => ?_
 refine aF (aA (bD rfl (dG rfl (aD (aC (aF (aA ?_)))))))
 refine aP rfl rfl rfl rfl rfl (by decide) ?_
 refine aK rfl rfl rfl rfl (aq (ym _ _ _) rfl rfl rfl rfl rfl (dG rfl (aD (aC (au (bK rfl rfl ?_))))))
 all_goals exact bN rfl rfl
set_option maxRecDepth 100000 in
theorem Ls (n : Int) : cX Tryz.prog 191 [Ty.int .i64 n] (Ty.bool (fC n 0 4)) := by
 refine aY Tryz.func191 rfl (by decide) Tryz.ntmps191 (by exact Nat.le_of_ble_eq_true rfl) fun w0 M0 => ?_
 refine aF (aA (dG rfl (aD (aC (aF (aA (bF rfl (aq (ym _ _ _) rfl rfl rfl rfl rfl (dG rfl (aD (aC (au (bK rfl rfl ?_)))))))))))))
 all_goals exact bN rfl rfl
set_option maxRecDepth 100000 in
theorem OK (b : qP) : cX Tryz.prog 190 [Ty.agg (jX.tys b)] (Ty.bool (fC b.has 0 300 && b.shares.all fun n => fC n 0 4)) := by
 refine aY Tryz.func190 rfl (by decide) Tryz.ntmps190 (by exact Nat.le_of_ble_eq_true rfl) fun w0 M0 => ?_
 refine aF (aA (bD rfl (dG rfl (aD (aC (aF (aA ?_)))))))
 refine aP rfl rfl rfl rfl rfl (by decide) ?_
 refine aK rfl rfl rfl rfl (aq (ym _ _ _) rfl rfl rfl rfl rfl (kV rfl ?_))
 apply aN (s := 6) rfl rfl rfl
 ·intro hg; apply aQ; (refine aP rfl rfl rfl rfl rfl (by decide) ?_); refine aD ?_; exact rfl
 ·exact rfl
 ·exact rfl
 apply aN (s := 6) rfl rfl rfl
 ·intro hg; apply aM (s := 7) rfl (by (rw [hg]; rfl)); apply aQ; (refine aK rfl rfl rfl rfl ?_); refine aD ?_; exact rfl
 ·exact rfl
 ·exact rfl
 apply aN (s := 6) rfl rfl rfl
 ·intro hg; apply aM (s := 8) rfl (by (rw [hg]; rfl)); apply aQ; (refine aq (kD b.shares (Ty.j9 _ []) rfl (fun n => fC n 0 4) rfl rfl fun n _ => cY (Ls n) rfl rfl rfl rfl rfl rfl) rfl rfl rfl rfl rfl ?_); refine aD ?_; exact rfl
 ·exact rfl
 ·exact rfl
 refine gL rfl rfl (dG rfl (aD (aC (au (bK rfl rfl ?_)))))
 all_goals exact bN rfl rfl
set_option maxRecDepth 100000 in
theorem Nk (f : bS) (hs : f.Small) (t : mO) : cX Tryz.prog 192 [Ty.agg (gM.tys t), Ty.pp (cx f)] (Ty.bool (fC t.src (-1) (f.bins.length - 1) && fC t.dst (-1) (f.bins.length - 1))) := by
 refine aY Tryz.func192 rfl (by decide) Tryz.ntmps192 (by exact Nat.le_of_ble_eq_true rfl) fun w0 M0 => ?_
 have hs1 := hs.bears; have hs2 := hs.bins; have hs3 := hs.turnings; have hs4 := hs.rules
 refine aF (aA (bD rfl (dG rfl (aD (aC (aF (aA ?_)))))))
 refine az rfl rfl rfl (by exact Nat.le_of_ble_eq_true rfl) ?_
 refine aP rfl rfl rfl rfl rfl (by decide) ?_
 refine aK rfl rfl rfl rfl (aq (Kn f hs _) rfl rfl rfl rfl rfl (kV rfl ?_))
 apply aN (s := 8) rfl rfl rfl
 ·intro hg; apply aQ; (refine az rfl rfl rfl (by exact Nat.le_of_ble_eq_true rfl) ?_); refine aD ?_; exact rfl
 ·exact rfl
 ·exact rfl
 apply aN (s := 8) rfl rfl rfl
 ·intro hg; apply aQ; (refine aP rfl rfl rfl rfl rfl (by decide) ?_); refine aD ?_; exact rfl
 ·exact rfl
 ·exact rfl
 apply aN (s := 8) rfl rfl rfl
 ·intro hg; apply aM (s := 10) rfl (by (rw [hg]; rfl)); apply aQ; (refine aK rfl rfl rfl rfl ?_); refine aD ?_; exact rfl
 ·exact rfl
 ·exact rfl
 apply aN (s := 8) rfl rfl rfl
 ·intro hg; apply aM (s := 9) rfl (by (rw [hg]; rfl)); apply aM (s := 11) rfl (by (rw [hg]; rfl)); apply aQ; (refine aq (Kn f hs _) rfl rfl rfl rfl rfl ?_); refine aD ?_; exact rfl
 ·exact rfl
 ·exact rfl
 refine gL rfl rfl (dG rfl (aD (aC (au (bK rfl rfl ?_)))))
 all_goals exact bN rfl rfl
set_option maxRecDepth 100000 in
theorem N3 (t : mO) : cX Tryz.prog 196 [Ty.agg (gM.tys t)] (Ty.bool (!decide (t.src = t.dst))) := by
 refine aY Tryz.func196 rfl (by decide) Tryz.ntmps196 (by exact Nat.le_of_ble_eq_true rfl) fun w0 M0 => ?_
 refine aF (aA (bD rfl (dG rfl (aD (aC (aF (aA ?_)))))))
 refine aP rfl rfl rfl rfl rfl (by decide) ?_
 refine aK rfl rfl rfl rfl ?_
 refine aP rfl rfl rfl rfl rfl (by decide) ?_
 refine aK rfl rfl rfl rfl (ak rfl rfl rfl (dG rfl (aD (aC (au (bK rfl rfl ?_))))))
 all_goals exact bN rfl rfl
set_option maxRecDepth 100000 in
theorem Nr (b : qP) (hl : b.shares.length ≤ 100) (hb : ∀ n ∈ b.shares, 0 ≤ n ∧ n ≤ 4000) : cX Tryz.prog 197 [Ty.agg (jX.tys b)] (Ty.bool (decide (b.shares.sum = 4))) := by
 refine aY Tryz.func197 rfl (by decide) Tryz.ntmps197 (by exact Nat.le_of_ble_eq_true rfl) fun w0 M0 => ?_
 refine aF (aA (bD rfl (dG rfl (aD (aC (aF (aA ?_)))))))
 refine aP rfl rfl rfl rfl rfl (by decide) ?_
 refine aK rfl rfl rfl rfl (aq (UQ b.shares hl hb) rfl rfl rfl rfl rfl (ak rfl rfl rfl (dG rfl (aD (aC (au (bK rfl rfl ?_)))))))
 all_goals exact bN rfl rfl
end Go.Proofs.YtmmcenjknimhbaaGreat
namespace Go.Proofs.YtmmcenjknimhbaaGreat
open Go Go.T
attribute [local irreducible] eG cZ jR j6 eP eO eK eM eS j8 eJ j4 b8 dc jz dZ j7 nth eZ cU aV cX bodyPost Exit.then Exit.inBlock Code.wp Code.wpIn
set_option maxRecDepth 100000 in
theorem PD (f : bS) (hs : f.Small) (r : kT) : cX Tryz.prog 195 [Ty.agg (jh.tys r), Ty.pp [Ty.M8 96 [iT f]]] (Ty.bool (fC r.fst 0 (f.turnings.length - 1) && fC r.nxt 0 (f.turnings.length - 1))) := by
 refine aY Tryz.func195 rfl (by decide) Tryz.ntmps195 (by exact Nat.le_of_ble_eq_true rfl) fun w0 M0 => ?_
 have hs1 := hs.bears; have hs2 := hs.bins; have hs3 := hs.turnings; have hs4 := hs.rules
 refine aF (aA (bD rfl (dG rfl (aD (aC (aF (aA (aK rfl rfl rfl rfl ?_))))))))
 refine aP rfl rfl rfl rfl rfl (by decide) ?_
 refine aK rfl rfl rfl rfl (eA rfl (sq (pH f hs r.fst) rfl rfl rfl rfl rfl rfl) rfl (kV rfl ?_))
 apply aN (s := 8) rfl rfl rfl
 ·intro hg; apply aQ; (refine aK rfl rfl rfl rfl ?_); refine aD ?_; exact rfl
 ·exact rfl
 ·exact rfl
 apply aN (s := 8) rfl rfl rfl
 ·intro hg; apply aQ; (refine aP rfl rfl rfl rfl rfl (by decide) ?_); refine aD ?_; exact rfl
 ·exact rfl
 ·exact rfl
 apply aN (s := 8) rfl rfl rfl
 ·intro hg; apply aM (s := 10) rfl (by (rw [hg]; rfl)); apply aQ; (refine aK rfl rfl rfl rfl ?_); refine aD ?_; exact rfl
 ·exact rfl
 ·exact rfl
 apply aN (s := 8) rfl rfl rfl
 ·intro hg; apply aM (s := 9) rfl (by (rw [hg]; rfl)); apply aM (s := 11) rfl (by (rw [hg]; rfl)); apply aQ; (refine eA rfl (sq (pH f hs r.nxt) rfl rfl rfl rfl rfl rfl) rfl ?_); refine aD ?_; exact rfl
 ·exact rfl
 ·exact rfl
 refine gL rfl rfl (dG rfl (aD (aC (au (bK rfl rfl ?_)))))
 all_goals exact bN rfl rfl
set_option maxRecDepth 100000 in
theorem PX (f : bS) (hs : f.Small) : cX Tryz.prog 158 [iT f] (Ty.int .i64 (ig f)) := by
 refine aY Tryz.func158 rfl (by decide) Tryz.ntmps158 (by exact Nat.le_of_ble_eq_true rfl) fun w0 M0 => ?_
 have hs1 := hs.bears; have hs2 := hs.bins; have hs3 := hs.turnings; have hs4 := hs.rules
 refine aF (aA (bD rfl (b9 rfl (aD (aC (aF (aA ?_)))))))
 refine az rfl rfl rfl (by exact Nat.le_of_ble_eq_true rfl) ?_
 refine sY (l := [iT f]) rfl ?_
 refine dA rfl (by exact List.cons_ne_nil _ _) rfl ?_
 refine dh rfl rfl (by decide) rfl rfl (by exact (rfl : _ = Ty.M8 _ _)) rfl (by exact Nat.le_of_ble_eq_true rfl) rfl rfl (by exact (rfl : _ = [_])) ?_
 refine aD (aC (aF (af (aF ?_))))
 refine uC (tg := 4) [(3, Ty.pp [Ty.M8 96 [iT f]])] (by decide) rfl ⟨vM (T := 89) (tg := 4) (off := 0) (l := [Ty.M8 96 [iT f]]) rfl rfl rfl (by decide), trivial⟩ ?_
 refine aA ?_
 refine aP rfl rfl rfl rfl rfl (by decide) ?_
 refine aK rfl rfl rfl rfl (cC rfl rfl rfl (aq (ym _ _ _) rfl rfl rfl rfl rfl (ct rfl (kV rfl ?_))))
 apply aN (s := 14) rfl rfl rfl
 ·intro hg; apply aQ; (refine aP rfl rfl rfl rfl rfl (by decide) ?_); refine aD ?_; exact rfl
 ·exact rfl
 ·exact rfl
 apply aN (s := 14) rfl rfl rfl
 ·intro hg; apply aM (s := 15) rfl (by (rw [hg]; rfl)); apply aQ; (refine aK rfl rfl rfl rfl ?_); refine aD ?_; exact rfl
 ·exact rfl
 ·exact rfl
 apply aN (s := 14) rfl rfl rfl
 ·intro hg; apply aM (s := 16) rfl (by (rw [hg]; rfl)); apply aQ; (refine cC rfl rfl rfl ?_); refine aD ?_; exact rfl
 ·exact rfl
 ·exact rfl
 apply aN (s := 14) rfl rfl rfl
 ·intro hg; apply aM (s := 17) rfl (by (rw [hg]; rfl)); apply aQ; (refine ak rfl rfl rfl ?_); refine aD ?_; exact rfl
 ·exact rfl
 ·exact rfl
 refine oB rfl rfl (kV rfl ?_)
 apply aN (s := 20) rfl rfl rfl
 ·intro hg; apply aQ; (refine aP rfl rfl rfl rfl rfl (by decide) ?_); refine aD ?_; exact rfl
 ·exact rfl
 ·exact rfl
 apply aN (s := 20) rfl rfl rfl
 ·intro hg; apply aM (s := 21) rfl (by (rw [hg]; rfl)); apply aQ; (refine aK rfl rfl rfl rfl ?_); refine aD ?_; exact rfl
 ·exact rfl
 ·exact rfl
 apply aN (s := 20) rfl rfl rfl
 ·intro hg; apply aM (s := 22) rfl (by (rw [hg]; rfl)); apply aQ; (refine cC rfl rfl rfl ?_); refine aD ?_; exact rfl
 ·exact rfl
 ·exact rfl
 apply aN (s := 20) rfl rfl rfl
 ·intro hg; apply aM (s := 23) rfl (by (rw [hg]; rfl)); apply aQ; (refine ak rfl rfl rfl ?_); refine aD ?_; exact rfl
 ·exact rfl
 ·exact rfl
 refine oB rfl rfl (kV rfl ?_)
 apply aN (s := 26) rfl rfl rfl
 ·intro hg; apply aQ; (refine aP rfl rfl rfl rfl rfl (by decide) ?_); refine aD ?_; exact rfl
 ·exact rfl
 ·exact rfl
 apply aN (s := 26) rfl rfl rfl
 ·intro hg; apply aM (s := 27) rfl (by (rw [hg]; rfl)); apply aQ; (refine aK rfl rfl rfl rfl ?_); refine aD ?_; exact rfl
 ·exact rfl
 ·exact rfl
 apply aN (s := 26) rfl rfl rfl
 ·intro hg; apply aM (s := 28) rfl (by (rw [hg]; rfl)); apply aQ; (refine cC rfl rfl rfl ?_); refine aD ?_; exact rfl
 ·exact rfl
 ·exact rfl
 apply aN (s := 26) rfl rfl rfl
 ·intro hg; apply aM (s := 29) rfl (by (rw [hg]; rfl)); apply aQ; (refine ak rfl rfl rfl ?_); refine aD ?_; exact rfl
 ·exact rfl
 ·exact rfl
 refine oB rfl rfl (kV rfl ?_)
 apply aN (s := 32) rfl rfl rfl
 ·intro hg; apply aQ; (refine aP rfl rfl rfl rfl rfl (by decide) ?_); refine aD ?_; exact rfl
 ·exact rfl
 ·exact rfl
 apply aN (s := 32) rfl rfl rfl
 ·intro hg; apply aM (s := 33) rfl (by (rw [hg]; rfl)); apply aQ; (refine aK rfl rfl rfl rfl ?_); refine aD ?_; exact rfl
 ·exact rfl
 ·exact rfl
 apply aN (s := 32) rfl rfl rfl
 ·intro hg; apply aQ; (refine cw rfl ?_); refine aD ?_; exact rfl
 ·exact rfl
 ·exact rfl
 apply aN (s := 32) rfl rfl rfl
 ·intro hg; apply aM (s := 34) rfl (by (rw [hg]; rfl)); apply aM (s := 35) rfl (by (rw [hg]; rfl)); apply aQ; (refine aq (rF f.bins (Ty.j9 _ [Ty.pp (cx f)]) rfl (fun b => decide ((b.shares.length : Int) = f.bears.length)) rfl rfl fun b _ => cY (Lq f b) rfl rfl rfl rfl rfl rfl) rfl rfl rfl rfl rfl ?_); refine aD ?_; exact rfl
 ·exact rfl
 ·exact rfl
 apply aN (s := 32) rfl rfl rfl
 ·intro hg; apply aM (s := 36) rfl (by (rw [hg]; rfl)); apply aQ; (refine ct rfl ?_); refine aD ?_; exact rfl
 ·exact rfl
 ·exact rfl
 refine oB rfl rfl (dG rfl (aD (aC ?_)))
 refine c9 rfl (fun hc1 => ?_) (fun hc1 => ?_)
 ·refine aF (aA (b9 rfl (aD (aC (au (av (aW (bK rfl rfl ?_))))))))
  all_goals skip
  exact bE rfl rfl (congrArg (Ty.int .i64) (by rw [ig, if_pos (show lM f = true from hc1)]))
 refine aF (aA ?_)
 refine aP rfl rfl rfl rfl rfl (by decide) ?_
 refine aK rfl rfl rfl rfl ?_
 refine aq (kD f.bears (Ty.j9 _ []) rfl (fun n => fC n 0 4000) rfl rfl fun n _ => cY (Nu n) rfl rfl rfl rfl rfl rfl) rfl rfl rfl rfl rfl ?_
 refine ct rfl (kV rfl ?_)
 apply aN (s := 44) rfl rfl rfl
 ·intro hg; apply aQ; (refine aP rfl rfl rfl rfl rfl (by decide) ?_); refine aD ?_; exact rfl
 ·exact rfl
 ·exact rfl
 apply aN (s := 44) rfl rfl rfl
 ·intro hg; apply aM (s := 45) rfl (by (rw [hg]; rfl)); apply aQ; (refine aK rfl rfl rfl rfl ?_); refine aD ?_; exact rfl
 ·exact rfl
 ·exact rfl
 apply aN (s := 44) rfl rfl rfl
 ·intro hg; apply aM (s := 46) rfl (by (rw [hg]; rfl)); apply aQ; (refine aq (rz f.turnings (Ty.j9 _ []) rfl (fun t => fC t.sacks 1 300) rfl rfl fun t _ => cY (Ox t) rfl rfl rfl rfl rfl rfl) rfl rfl rfl rfl rfl ?_); refine aD ?_; exact rfl
 ·exact rfl
 ·exact rfl
 apply aN (s := 44) rfl rfl rfl
 ·intro hg; apply aM (s := 47) rfl (by (rw [hg]; rfl)); apply aQ; (refine ct rfl ?_); refine aD ?_; exact rfl
 ·exact rfl
 ·exact rfl
 refine oB rfl rfl (dG rfl (aD (aC ?_)))
 refine c9 rfl (fun hc2 => ?_) (fun hc2 => ?_)
 ·refine aF (aA (b9 rfl (aD (aC (au (av (aW (bK rfl rfl ?_))))))))
  all_goals skip
  exact bE rfl rfl (congrArg (Ty.int .i64) (by rw [ig, if_neg (wX (show lM f = false from hc1)), if_pos (show mG f = true from hc2)]))
 refine aF (aA ?_)
 refine aP rfl rfl rfl rfl rfl (by decide) ?_
 refine aK rfl rfl rfl rfl ?_
 refine aq (rF f.bins (Ty.j9 _ []) rfl (fun b => fC b.has 0 300 && b.shares.all fun n => fC n 0 4) rfl rfl fun b _ => cY (OK b) rfl rfl rfl rfl rfl rfl) rfl rfl rfl rfl rfl ?_
 refine ct rfl (dG rfl (aD (aC ?_)))
 refine c9 rfl (fun hc3 => ?_) (fun hc3 => ?_)
 ·refine aF (aA (b9 rfl (aD (aC (au (av (aW (bK rfl rfl ?_))))))))
  all_goals skip
  exact bE rfl rfl (congrArg (Ty.int .i64) (by rw [ig, if_neg (wX (show lM f = false from hc1)), if_neg (wX (show mG f = false from hc2)), if_pos (show nU f = true from hc3)]))
 refine aF (aA ?_)
 refine aP rfl rfl rfl rfl rfl (by decide) ?_
 refine aK rfl rfl rfl rfl (cw rfl ?_)
 refine aq (rz f.turnings (Ty.j9 _ [Ty.pp (cx f)]) rfl (fun t => fC t.src (-1) (f.bins.length - 1) && fC t.dst (-1) (f.bins.length - 1)) rfl rfl fun t _ => cY (Nk f hs t) rfl rfl rfl rfl rfl rfl) rfl rfl rfl rfl rfl ?_
 refine ct rfl (kV rfl ?_)
 apply aN (s := 61) rfl rfl rfl
 ·intro hg; apply aQ; (refine aP rfl rfl rfl rfl rfl (by decide) ?_); refine aD ?_; exact rfl
 ·exact rfl
 ·exact rfl
 apply aN (s := 61) rfl rfl rfl
 ·intro hg; apply aM (s := 62) rfl (by (rw [hg]; rfl)); apply aQ; (refine aK rfl rfl rfl rfl ?_); refine aD ?_; exact rfl
 ·exact rfl
 ·exact rfl
 apply aN (s := 61) rfl rfl rfl
 ·intro hg; apply aQ; (refine cw rfl ?_); refine aD ?_; exact rfl
 ·exact rfl
 ·exact rfl
 apply aN (s := 61) rfl rfl rfl
 ·intro hg; apply aM (s := 63) rfl (by (rw [hg]; rfl)); apply aM (s := 64) rfl (by (rw [hg]; rfl)); apply aQ; (refine aq (Gs f.rules (Ty.j9 _ [Ty.pp [Ty.M8 96 [iT f]]]) rfl (fun r => fC r.fst 0 (f.turnings.length - 1) && fC r.nxt 0 (f.turnings.length - 1)) rfl rfl fun r _ => cY (PD f hs r) rfl rfl rfl rfl rfl rfl) rfl rfl rfl rfl rfl ?_); refine aD ?_; exact rfl
 ·exact rfl
 ·exact rfl
 apply aN (s := 61) rfl rfl rfl
 ·intro hg; apply aM (s := 65) rfl (by (rw [hg]; rfl)); apply aQ; (refine ct rfl ?_); refine aD ?_; exact rfl
 ·exact rfl
 ·exact rfl
 refine oB rfl rfl (dG rfl (aD (aC ?_)))
 refine c9 rfl (fun hc4 => ?_) (fun hc4 => ?_)
 ·refine aF (aA (b9 rfl (aD (aC (au (av (aW (bK rfl rfl ?_))))))))
  all_goals skip
  exact bE rfl rfl (congrArg (Ty.int .i64) (by rw [ig, if_neg (wX (show lM f = false from hc1)), if_neg (wX (show mG f = false from hc2)), if_neg (wX (show nU f = false from hc3)), if_pos (show p5 f = true from hc4)]))
 refine aF (aA ?_)
 refine aP rfl rfl rfl rfl rfl (by decide) ?_
 refine aK rfl rfl rfl rfl ?_
 refine aq (rz f.turnings (Ty.j9 _ []) rfl (fun t => !decide (t.src = t.dst)) rfl rfl fun t _ => cY (N3 t) rfl rfl rfl rfl rfl rfl) rfl rfl rfl rfl rfl ?_
 refine ct rfl (dG rfl (aD (aC ?_)))
 refine c9 rfl (fun hc5 => ?_) (fun hc5 => ?_)
 ·refine aF (aA (b9 rfl (aD (aC (au (av (aW (bK rfl rfl ?_))))))))
  all_goals skip
  exact bE rfl rfl (congrArg (Ty.int .i64) (by rw [ig, if_neg (wX (show lM f = false from hc1)), if_neg (wX (show mG f = false from hc2)), if_neg (wX (show nU f = false from hc3)), if_neg (wX (show p5 f = false from hc4)), if_pos (show uf f = true from hc5)]))
 refine aF ?_
 have hr : f.jC := vV hc1 hc2 hc3
 have hr4 := hr.bears
 refine aA ?_
 refine aP rfl rfl rfl rfl rfl (by decide) ?_
 refine aK rfl rfl rfl rfl ?_
 refine aq (rF f.bins (Ty.j9 _ []) rfl (fun b => decide (b.shares.sum = 4)) rfl rfl fun b hb => cY (Nr b (by have := hr.shares b hb; omega) (fun n hn => by have := hr.sharesR b hb n hn; omega)) rfl rfl rfl rfl rfl rfl) rfl rfl rfl rfl rfl ?_
 refine ct rfl (dG rfl (aD (aC ?_)))
 refine c9 rfl (fun hc6 => ?_) (fun hc6 => ?_)
 ·refine aF (aA (b9 rfl (aD (aC (au (av (aW (bK rfl rfl ?_))))))))
  all_goals skip
  exact bE rfl rfl (congrArg (Ty.int .i64) (by rw [ig, if_neg (wX (show lM f = false from hc1)), if_neg (wX (show mG f = false from hc2)), if_neg (wX (show nU f = false from hc3)), if_neg (wX (show p5 f = false from hc4)), if_neg (wX (show uf f = false from hc5)), if_pos (show rS f = true from hc6)]))
 refine bA (bH (aC (aF (aF (aA ?_)))))
 refine aP rfl rfl rfl rfl rfl (by decide) ?_
 refine aK rfl rfl rfl rfl (cC rfl rfl rfl (bF rfl (aD (aC (af ?_)))))
 refine cK (fun (k : {k : Nat // ∀ j, j < k → decide (gx f f.turnings j > (nth f.bins j).has) = false}) => live [(1, Ty.pp (cx f)), (79, Ty.sl jX f.bins), (80, Ty.int .i64 f.bins.length), (81, Ty.int .i64 (k.1 : Nat))] []) (fun k => f.bins.length - k.1) (⟨0, fun j hj => absurd hj (Nat.not_lt_zero _)⟩) ?_ fun k => ?_
 ·(refine c8.mk' ?_ ?_ <;> (repeat' (first | exact aI | exact aH | refine aB ?_ (Ty.aR _) | refine aB ?_ (Ty.aG _))))
 refine aF (aA (ak rfl rfl rfl (aD (aC (aF ?_)))))
 refine aa rfl (fun hc7 => ?_) (fun hc7 => ?_)
 ·refine bA (aC (aF (af (aF (aA (bF rfl ?_))))))
  refine bG rfl rfl rfl rfl rfl rfl (by omega) ?_
  refine az rfl rfl rfl (by exact Nat.le_of_ble_eq_true rfl) ?_
  refine dA rfl (by exact List.cons_ne_nil _ _) rfl ?_
  refine b9 rfl ?_
  refine eH rfl rfl (by decide) rfl rfl rfl rfl rfl rfl ?_
  refine aD (aC (aF (cg mixed rfl ?_)))
  refine az rfl rfl rfl (by exact Nat.le_of_ble_eq_true rfl) ?_
  refine bF rfl (aq (Pp f hs hr _) rfl rfl rfl rfl rfl ?_)
  refine aS rfl rfl rfl rfl rfl (by decide) ?_
  refine aj rfl rfl (by decide) rfl rfl rfl ?_
  refine ak rfl rfl rfl (aD ?_)
  refine ⟨by kernel_rfl, ?_⟩
  refine aC ?_
  refine aa rfl (fun hc8 => ?_) (fun hc8 => ?_)
  ·refine aF (aA (b9 rfl (aD (aC (au (av (aW (aW (av (aW (bK rfl rfl ?_)))))))))))
   all_goals skip
   exact bE rfl rfl (congrArg (Ty.int .i64) (by rw [ig, if_neg (wX (show lM f = false from hc1)), if_neg (wX (show mG f = false from hc2)), if_neg (wX (show nU f = false from hc3)), if_neg (wX (show p5 f = false from hc4)), if_neg (wX (show uf f = false from hc5)), if_neg (wX (show rS f = false from hc6)), if_pos (show xN f = true from Fa (k := k.1) (by omega) (by rw [Int.toNat_natCast]; exact decide_eq_true hc8))]))
  refine bA (bH (aC (aA ?_)))
  refine bz rfl rfl (by omega) (by omega) ?_
  refine bF rfl (aD ?_)
  refine bO (⟨k.1 + 1, S8 k.2 (decide_eq_false hc8)⟩) ?_ (by show f.bins.length - (k.1 + 1) < f.bins.length - k.1; omega)
  (refine c8.mk' ?_ ?_ <;> (repeat' (first | exact aI | exact aH | refine aB ?_ (Ty.aR _) | refine aB ?_ (Ty.aG _))))
  all_goals skip
 refine cE (aL (aL (ah rfl (aC (aF (aA (b9 rfl (aD (aC (au (bK rfl rfl ?_)))))))))))
 all_goals skip
 exact bE rfl rfl (congrArg (Ty.int .i64) (by rw [ig, if_neg (wX (show lM f = false from hc1)), if_neg (wX (show mG f = false from hc2)), if_neg (wX (show nU f = false from hc3)), if_neg (wX (show p5 f = false from hc4)), if_neg (wX (show uf f = false from hc5)), if_neg (wX (show rS f = false from hc6)), if_neg (wX (show xN f = false from GB fun j hj => by rw [Int.toNat_natCast]; exact k.2 j (by omega)))]))
end Go.Proofs.YtmmcenjknimhbaaGreat
namespace Go.Proofs.YtmmcenjknimhbaaGreat
open Go Go.T Go.RowKit
theorem Su : Tryz.prog.underlying 157 = some (.array 8 3) := by kernel_rfl
theorem SF (a0 a1 a2 a3 a4 a5 a6 a7 b0 b1 b2 b3 b4 b5 b6 b7 : Int) (w : World) : (Op.equal 157 (.agg #[.int .i64 a0, .int .i64 a1, .int .i64 a2, .int .i64 a3, .int .i64 a4, .int .i64 a5, .int .i64 a6, .int .i64 a7]) (.agg #[.int .i64 b0, .int .i64 b1, .int .i64 b2, .int .i64 b3, .int .i64 b4, .int .i64 b5, .int .i64 b6, .int .i64 b7])).run Tryz.prog w = .ok ((decide (a0 = b0) && (decide (a1 = b1) && (decide (a2 = b2) && (decide (a3 = b3) && (decide (a4 = b4) && (decide (a5 = b5) && (decide (a6 = b6) && decide (a7 = b7))))))))) w := by
 have hs : Tryz.prog.stoodInHeld 157 = false := by kernel_rfl
 have e3 : ∀ (x y : Int) (w : World), (Op.equalIn 9999 3 (.int .i64 x) (.int .i64 y)).run Tryz.prog w = .ok (decide (x = y)) w := fun x y w => Pb 9998 Tryz.underlying3
 have g3 : ∀ w, (isAgg 3).run Tryz.prog w = .ok false w := fun w => by simp [isAgg, run_underlying Tryz.underlying3]
 unfold Op.equal Op.maxDepth
 rw [Op.equalIn]
 simp only [Sem.run_bind, run_underlying Su, Result.andThen_ok]
 simp [hs, part, g3, e3]
 rw [show List.range' 0 8 = [0, 1, 2, 3, 4, 5, 6, 7] from rfl]
 simp [List.forIn_cons, g3, e3]
 by_cases h0 : a0 = b0
 case neg => simp [h0]
 rw [if_pos h0]
 by_cases h1 : a1 = b1
 case neg => simp [h1]
 rw [if_pos h1]
 by_cases h2 : a2 = b2
 case neg => simp [h2]
 rw [if_pos h2]
 by_cases h3 : a3 = b3
 case neg => simp [h3]
 rw [if_pos h3]
 by_cases h4 : a4 = b4
 case neg => simp [h4]
 rw [if_pos h4]
 by_cases h5 : a5 = b5
 case neg => simp [h5]
 rw [if_pos h5]
 by_cases h6 : a6 = b6
 case neg => simp [h6]
 rw [if_pos h6]
 by_cases h7 : a7 = b7
 case neg => simp [h7]
 rw [if_pos h7]
 simp [h0, h1, h2, h3, h4, h5, h6, h7]
theorem Sz (xs ys : List Nat) (hx : xs.length = 8) (hy : ys.length = 8) : Va Tryz.prog 157 (xs.flatMap y6.tys) (ys.flatMap y6.tys) (decide (xs = ys)) := by
  match xs, hx with
  | [a0, a1, a2, a3, a4, a5, a6, a7], _ =>
    match ys, hy with
    | [b0, b1, b2, b3, b4, b5, b6, b7], _ =>
      refine ⟨by kernel_rfl, fun w M cs ds h1 h2 => ?_⟩
      obtain ⟨cs⟩ := cs
      obtain ⟨ds⟩ := ds
      match cs, ds, h1, h2 with
      | [ua0, ua1, ua2, ua3, ua4, ua5, ua6, ua7], [vb0, vb1, vb2, vb3, vb4, vb5, vb6, vb7], h1, h2 =>
        change cD w M [Ty.int .i64 a0, Ty.int .i64 a1, Ty.int .i64 a2, Ty.int .i64 a3, Ty.int .i64 a4, Ty.int .i64 a5, Ty.int .i64 a6, Ty.int .i64 a7] _ at h1
        change cD w M [Ty.int .i64 b0, Ty.int .i64 b1, Ty.int .i64 b2, Ty.int .i64 b3, Ty.int .i64 b4, Ty.int .i64 b5, Ty.int .i64 b6, Ty.int .i64 b7] _ at h2
        simp only [cD, Ty.int, eG, and_true] at h1 h2
        obtain ⟨rfl, rfl, rfl, rfl, rfl, rfl, rfl, rfl⟩ := h1
        obtain ⟨rfl, rfl, rfl, rfl, rfl, rfl, rfl, rfl⟩ := h2
        rw [SF]
        congr 1
        simp only [List.cons.injEq, and_true, Bool.decide_and, Int.natCast_inj]
end Go.Proofs.YtmmcenjknimhbaaGreat
namespace Go.Proofs.YtmmcenjknimhbaaGreat
open Go Go.T
attribute [local irreducible] eG cZ jR j6 eP eO eK eM eS j8 eJ j4 b8 dc jz dZ j7 nth eZ cU aV cX bodyPost Exit.then Exit.inBlock Code.wp Code.wpIn dS mz mm m5 fT mq m7 fW mW eB fO lq bW bV bodyPostM cV
set_option maxRecDepth 100000 in
theorem Jl (f : bS) (hs : f.Small) (hf : f.jQ) : cX Tryz.prog 112 [iT f] (Ty.arr y6 (gp f)) := by
 refine aY Tryz.func112 rfl (by decide) Tryz.ntmps112 (by exact Nat.le_of_ble_eq_true rfl) fun w0 M0 => ?_
 have hs1 := hs.bears; have hs2 := hs.bins; have hs3 := hs.turnings; have hs4 := hs.rules
 refine aF (aA (bD rfl ?_))
 refine dA rfl (by exact List.cons_ne_nil _ _) rfl ?_
 refine aD (aC (aF (aA ?_)))
 refine za (E := y6) (xs := List.replicate 8 0) rfl (by exact List.cons_ne_nil _ _) rfl rfl ?_
 refine aD (aC (af ?_))
 refine cK (fun (x : {x : Nat × List Nat // mP f x.1 x.2 = gp f ∧ Sets x.2 ∧ 2040 < x.1 + x.2.sum}) => live [(1, Ty.pp (cx f)), (2, Ty.ptr 3 0), (3, Ty.ptr 4 0)] [(3, Cont.cells 157 [Ty.int .i64 0, Ty.int .i64 0, Ty.int .i64 0, Ty.int .i64 0, Ty.int .i64 0, Ty.int .i64 0, Ty.int .i64 0, Ty.int .i64 0]), (4, Cont.vec y6 157 x.1.2)]) (fun x => x.1.1) (⟨(2041, List.replicate 8 0), rfl, uR, by decide⟩) ?_ fun x => ?_
 ·(refine c8.mk' ?_ ?_ <;> (repeat' (first | exact aI | exact aH | refine aB ?_ (Ty.aR _) | refine aB ?_ (Ty.aG _) | refine aJ rfl (Cont.aG _) ?_)))
 obtain ⟨hx1, hx2, hx3⟩ := x.2
 have hxl := hx2.len
 refine af (aF (aA ?_))
 refine lf rfl rfl (by decide) rfl rfl (by rw [hxl]; rfl) (fun e => by rw [e] at hxl; cases hxl) ?_
 refine dA rfl (by exact List.cons_ne_nil _ _) rfl ?_
 refine jv rfl rfl (by decide) rfl rfl (by rw [hxl]; rfl) rfl ?_
 refine aD (aC (aF (aF (aA ?_))))
 refine aP rfl rfl rfl rfl rfl (by decide) ?_
 refine aK rfl rfl rfl rfl (cC rfl rfl rfl (bF rfl (aD (aC (af ?_)))))
 refine cK (fun (k : Nat) => live [(1, Ty.pp (cx f)), (2, Ty.ptr 3 0), (3, Ty.ptr 4 0), (4, Ty.ptr 5 0), (9, Ty.sl jh f.rules), (10, Ty.int .i64 f.rules.length), (11, Ty.int .i64 (k : Nat))] [(3, Cont.cells 157 [Ty.int .i64 0, Ty.int .i64 0, Ty.int .i64 0, Ty.int .i64 0, Ty.int .i64 0, Ty.int .i64 0, Ty.int .i64 0, Ty.int .i64 0]), (4, Cont.vec y6 157 ((f.rules.take k).foldl fM x.1.2)), (5, Cont.vec y6 157 x.1.2)]) (fun k => f.rules.length - k) (0) ?_ fun k => ?_
 ·(refine c8.mk' ?_ ?_ <;> (repeat' (first | exact aI | exact aH | refine aB ?_ (Ty.aR _) | refine aB ?_ (Ty.aG _) | refine aJ rfl (Cont.aG _) ?_)))
 refine aF (aA (ak rfl rfl rfl (aD (aC (aF ?_)))))
 refine aa rfl (fun hc1 => ?_) (fun hc1 => ?_)
 ·refine bA (aC (aF (af (aF (aA ?_)))))
  refine bG rfl rfl rfl rfl rfl rfl (by omega) ?_
  refine az rfl rfl rfl (by exact Nat.le_of_ble_eq_true rfl) ?_
  refine dA rfl (by exact List.cons_ne_nil _ _) rfl ?_
  refine eH rfl rfl (by decide) rfl rfl rfl rfl rfl rfl ?_
  refine aD (aC ?_)
  have hrk := hf.2 _ (bL (xs := f.rules) (k := k) (by omega))
  have h8 := hf.1
  have hsk := (m9 (f.rules.take k) x.1.2 hx2 fun r hr => um hf r (List.mem_of_mem_take hr)).1
  have hlk := hsk.len
  have hb1 := hsk.nth (nth f.rules k).nxt.toNat
  have hb2 := hsk.nth (nth f.rules k).fst.toNat
  have hsh : 1 <<< (nth f.rules k).fst.toNat < 256 := by rw [Nat.shiftLeft_eq, Nat.one_mul]; exact (Nat.pow_lt_pow_right (by decide) (show (nth f.rules k).fst.toNat < 8 by omega) : 2 ^ _ < 2 ^ 8)
  have hor : nth ((f.rules.take k).foldl fM x.1.2) (nth f.rules k).fst.toNat ||| 1 <<< (nth f.rules k).fst.toNat < 256 := Nat.or_lt_two_pow (n := 8) hb2 hsh
  refine cg mixed rfl ?_
  refine aS rfl rfl rfl rfl rfl (by decide) ?_
  refine aj rfl rfl (by decide) rfl rfl rfl ?_
  refine fU (n := 8) rfl rfl rfl rfl rfl (by omega) (by omega) ?_
  refine fZ rfl rfl rfl (by decide) rfl rfl (by omega) rfl ?_
  refine aS rfl rfl rfl rfl rfl (by decide) ?_
  refine aj rfl rfl (by decide) rfl rfl rfl ?_
  refine fU (n := 8) rfl rfl rfl rfl rfl (by omega) (by omega) ?_
  refine fZ rfl rfl rfl (by decide) rfl rfl (by omega) rfl ?_
  refine aS rfl rfl rfl rfl rfl (by decide) ?_
  refine aj rfl rfl (by decide) rfl rfl rfl ?_
  refine Ek (a := 1) rfl rfl (by omega) (by omega) (lS (by omega)) ?_
  refine wM rfl rfl (by omega) (Nat.lt_trans hsh (by decide)) ?_
  refine wM rfl rfl (by omega) (Nat.lt_trans hor (by decide)) ?_
  refine fU (n := 8) rfl rfl rfl rfl rfl (by omega) (by omega) ?_
  refine jM (z := nth ((f.rules.take k).foldl fM x.1.2) (nth f.rules k).nxt.toNat ||| (nth ((f.rules.take k).foldl fM x.1.2) (nth f.rules k).fst.toNat ||| 1 <<< (nth f.rules k).fst.toNat)) rfl rfl rfl (by decide) rfl rfl (by exact (rfl : _ = Ty.int _ _)) rfl (by omega) (by decide) rfl rfl ?_
  refine aD ?_
  refine ⟨by kernel_rfl, ?_⟩
  refine bH (aC (aA ?_))
  refine bz rfl rfl (by omega) (by omega) ?_
  refine bF rfl (aD ?_)
  refine bO (k + 1) ?_ (by omega)
  (refine c8.mk' ?_ ?_ <;> (repeat' (first | exact aI | exact aH | refine aB ?_ (Ty.aR _) | refine aB ?_ (Ty.aG _) | refine aJ rfl (Cont.aG _) ?_ | refine aJ rfl ?_ ?_)))
  all_goals skip
  exact Cont.dB (by rw [bh (by omega), List.foldl_append]; rfl)
 refine cE (aL (aL (ah rfl (aC (aF ?_)))))
 have hsk := (m9 (f.rules.take k) x.1.2 hx2 fun r hr => um hf r (List.mem_of_mem_take hr)).1
 have hlk := hsk.len
 refine aA ?_
 refine lf rfl rfl (by decide) rfl rfl (by rw [hlk]; rfl) (fun e => by rw [e] at hlk; cases hlk) ?_
 refine lf rfl rfl (by decide) rfl rfl (by rw [hxl]; rfl) (fun e => by rw [e] at hxl; cases hxl) ?_
 refine TX (Sz _ _ hlk hxl) rfl rfl (aD (aC ?_))
 refine aa rfl (fun hc2 => ?_) (fun hc2 => ?_)
 ·refine aF (aA ?_)
  refine lf rfl rfl (by decide) rfl rfl (by rw [hlk]; rfl) (fun e => by rw [e] at hlk; cases hlk) ?_
  refine jv rfl rfl (by decide) rfl rfl (by rw [hlk]; rfl) rfl ?_
  refine aD (aC (au (av (aW (av ?_)))))
  refine yB (hc2.trans ((O6 hx2 hx3 (by have h := hc2; rw [List.take_of_length_le (by omega)] at h; exact h)).symm.trans hx1)) rfl rfl rfl rfl (by decide) rfl rfl (by rw [hlk]; rfl) (fun e => by rw [e] at hlk; cases hlk)
 refine bA (bH ?_)
 refine bO (⟨(x.1.1 - 1, mK f x.1.2), by obtain ⟨m, e1, e2, e3, e4⟩ := Ds hf hx2 hx3 (fun e => hc2 (by rw [List.take_of_length_le (by omega)]; exact e)); exact ⟨by show mP f (x.1.1 - 1) _ = _; rw [show x.1.1 - 1 = m by omega, ← e2]; exact hx1, e3, by show 2040 < x.1.1 - 1 + (mK f x.1.2).sum; omega⟩⟩) ?_ (by show x.1.1 - 1 < x.1.1; have := vB hx2; omega)
 (refine c8.mk' ?_ ?_ <;> (repeat' (first | exact aI | exact aH | refine aB ?_ (Ty.aR _) | refine aB ?_ (Ty.aG _) | refine aJ rfl (Cont.aG _) ?_ | refine aJ rfl ?_ ?_)))
 all_goals skip
 exact Cont.dB (congrArg (fun l => l.foldl fM x.1.2) (List.take_of_length_le (by omega)))
end Go.Proofs.YtmmcenjknimhbaaGreat
namespace Go.Proofs.YtmmcenjknimhbaaGreat
open Go Go.T
attribute [local irreducible] eG cZ jR j6 eP eO eK eM eS j8 eJ j4 b8 dc jz dZ j7 nth eZ cU aV cX bodyPost Exit.then Exit.inBlock Code.wp Code.wpIn dS mz mm m5 fT mq m7 fW mW eB fO lq bW bV bodyPostM cV
set_option maxRecDepth 100000 in
theorem Ar (f : bS) (hs : f.Small) : cX Tryz.prog 111 [iT f] (Ty.int .i64 (bk f)) := by
 refine aY Tryz.func111 rfl (by decide) Tryz.ntmps111 (by exact Nat.le_of_ble_eq_true rfl) fun w0 M0 => ?_
 have hs1 := hs.bears; have hs2 := hs.bins; have hs3 := hs.turnings; have hs4 := hs.rules
 refine aF (aA (bD rfl (b9 rfl (aD (aC (aF (aF (aA ?_))))))))
 refine az rfl rfl rfl (by exact Nat.le_of_ble_eq_true rfl) ?_
 refine aq (PX f hs) rfl rfl rfl rfl rfl (b9 rfl (aD (aC (aF (aA (bF rfl (ak rfl rfl rfl (aD (aC ?_)))))))))
 refine ck rfl (fun hc1 => ?_) (fun hc1 => ?_)
 ·refine aF (aA (bF rfl (b9 rfl (aD (aC (au (aW (bK rfl rfl ?_))))))))
  all_goals skip
  exact bE rfl rfl (congrArg (Ty.int .i64) (by rw [bk, if_pos hc1]))
 refine bA (aC (aF (aF ?_)))
 have h0 : ig f = 0 := hc1
 have hf := (rV h0).ruled
 have hsa := lA hf
 have hla := hsa.len
 refine aA ?_
 refine az rfl rfl rfl (by exact Nat.le_of_ble_eq_true rfl) ?_
 refine aq (Jl f hs hf) rfl rfl rfl rfl rfl (bF rfl (aD (aC (af ?_))))
 refine cK (fun (k : {k : Nat // k ≤ 8 ∧ ∀ j, j < k → (nth (gp f) j).testBit j = false}) => live [(12, Ty.arr y6 (gp f)), (13, Ty.int .i64 (k.1 : Nat))] []) (fun k => 8 - k.1) (⟨0, by omega, fun j hj => absurd hj (Nat.not_lt_zero _)⟩) ?_ fun k => ?_
 ·(refine c8.mk' ?_ ?_ <;> (repeat' (first | exact aI | exact aH | refine aB ?_ (Ty.aR _) | refine aB ?_ (Ty.aG _))))
 have hk := k.2.1
 refine aF (aA (ak rfl rfl rfl (aD (aC (aF ?_)))))
 refine aa rfl (fun hc2 => ?_) (fun hc2 => ?_)
 ·refine bA (aC (aF (af (aF ?_))))
  have hnk := hsa.nth k.1
  refine aA (bF rfl ?_)
  refine OP (n := 8) rfl rfl rfl rfl rfl rfl rfl (by omega) (by omega) rfl ?_
  refine b9 rfl (b9 rfl (aD (aC (aF ?_))))
  have hsh := Nat.shiftRight_le (nth (gp f) k.1) k.1
  refine aA (bF rfl (bF rfl ?_))
  refine uO rfl rfl (by omega) ?_
  refine xw (b := 1) rfl rfl (by omega) (by omega) ?_
  refine ak rfl rfl rfl (aD (aC ?_))
  refine aa rfl (fun hc3 => ?_) (fun hc3 => ?_)
  ·refine aF (aA (b9 rfl (aD (aC (au (av (aW (aW (av (aW (bK rfl rfl ?_)))))))))))
   all_goals skip
   exact bE rfl rfl (congrArg (Ty.int .i64) (by rw [bk, if_neg (fun h => h h0), if_pos]; exact List.any_eq_true.2 ⟨k.1, List.mem_range.2 (by omega), (iQ _ _).1 (by omega)⟩))
  refine bA (bH (aC (aA ?_)))
  refine bz rfl rfl (by omega) (by omega) ?_
  refine bF rfl (aD ?_)
  refine bO (⟨k.1 + 1, by omega, fun j hj => (Nat.lt_or_ge j k.1).elim (k.2.2 j) fun h => by rw [show j = k.1 by omega]; exact Bool.eq_false_iff.2 fun h1 => hc3 (by have := (iQ (nth (gp f) k.1) k.1).2 h1; omega)⟩) ?_ (by show 8 - (k.1 + 1) < 8 - k.1; have := k.2.1; omega)
  (refine c8.mk' ?_ ?_ <;> (repeat' (first | exact aI | exact aH | refine aB ?_ (Ty.aR _) | refine aB ?_ (Ty.aG _))))
  all_goals skip
 refine cE (aL (aL (ah rfl (aC (aF (aA (b9 rfl (aD (aC (au (bK rfl rfl ?_)))))))))))
 all_goals skip
 exact bE rfl rfl (congrArg (Ty.int .i64) (by rw [bk, if_neg (fun h => h h0), if_neg]; intro hb; obtain ⟨j, hj, hb⟩ := List.any_eq_true.1 hb; have := List.mem_range.1 hj; rw [k.2.2 j (by omega)] at hb; cases hb))
set_option maxRecDepth 100000 in
theorem I6 (f : bS) (hs : f.Small) (b : Bool) (he : bk f ≠ 0) : cX Tryz.prog 54 [iT f, Ty.bool b] (Ty.tE [Ty.ex (.pointer none), Ty.int .i64 (bk f)]) := by
 refine aY Tryz.func54 rfl (by decide) Tryz.ntmps54 (by exact Nat.le_of_ble_eq_true rfl) fun w0 M0 => ?_
 have hs1 := hs.bears; have hs2 := hs.bins; have hs3 := hs.turnings; have hs4 := hs.rules
 refine aF (aA (bD rfl (mN rfl (b9 rfl (aD (aC (aF (aF (aA ?_)))))))))
 refine az rfl rfl rfl (by exact Nat.le_of_ble_eq_true rfl) ?_
 refine aq (Ar f hs) rfl rfl rfl rfl rfl (b9 rfl (aD (aC (aF (aA (bF rfl (ak rfl rfl rfl (aD (aC ?_)))))))))
 refine wm rfl (by rw [decide_eq_false he]; rfl) ?_
 refine aF (aA (bF rfl (mN rfl (b9 rfl (aD (aC (au (aW ?_))))))))
 refine g9 rfl rfl rfl ?_ ?_
 all_goals exact bN rfl rfl
 skip
set_option maxRecDepth 100000 in
theorem JT (f : bS) (hs : f.Small) (h0 : bk f = 0) : cX Tryz.prog 54 [iT f, Ty.bool true] (Ty.tE [Ty.ex (.pointer none), Ty.int .i64 1]) := by
 refine aY Tryz.func54 rfl (by decide) Tryz.ntmps54 (by exact Nat.le_of_ble_eq_true rfl) fun w0 M0 => ?_
 have hs1 := hs.bears; have hs2 := hs.bins; have hs3 := hs.turnings; have hs4 := hs.rules
 refine aF (aA (bD rfl (mN rfl (b9 rfl (aD (aC (aF (aF (aA ?_)))))))))
 refine az rfl rfl rfl (by exact Nat.le_of_ble_eq_true rfl) ?_
 refine aq (Ar f hs) rfl rfl rfl rfl rfl (b9 rfl (aD (aC (aF (aA (bF rfl (ak rfl rfl rfl (aD (aC ?_)))))))))
 refine iP rfl (by rw [h0]; rfl) ?_
 refine bA (aC (aF (aF (aA (kV rfl (aD (aC (wm rfl (rfl) (aF (aA (mN rfl (b9 rfl (aD (aC (au ?_)))))))))))))))
 refine aW ?_
 refine g9 rfl rfl rfl ?_ ?_
 all_goals exact bN rfl rfl
set_option maxRecDepth 100000 in
theorem NN (f : bS) (hs : f.Small) (h0 : bk f = 0) : cX Tryz.prog 54 [iT f, Ty.bool false] (Ty.tE [Ty.pe fF (U0 f (cB h0).ruled) 0, Ty.int .i64 0]) := by
 refine aY Tryz.func54 rfl (by decide) Tryz.ntmps54 (by exact Nat.le_of_ble_eq_true rfl) fun w0 M0 => ?_
 have hs1 := hs.bears; have hs2 := hs.bins; have hs3 := hs.turnings; have hs4 := hs.rules
 have hr := (cB h0).ranged
 have hn := (cB h0).named
 have hf := (cB h0).ruled
 have hb4 := hr.bears
 have hr8 := hr.turnings
 have hr6 := hr.bins
 refine aF (aA (bD rfl (mN rfl (b9 rfl (aD (aC (aF (aF (aA ?_)))))))))
 refine az rfl rfl rfl (by exact Nat.le_of_ble_eq_true rfl) ?_
 refine aq (Ar f hs) rfl rfl rfl rfl rfl (b9 rfl (aD (aC (aF (aA (bF rfl (ak rfl rfl rfl (aD (aC ?_)))))))))
 refine iP rfl (by rw [h0]; rfl) ?_
 refine bA (aC (aF (aF (aA (kV rfl (aD (aC (iP rfl (rfl) (bA (aC (aF (cg mixed rfl ?_))))))))))))
 refine az rfl rfl rfl (by exact Nat.le_of_ble_eq_true rfl) ?_
 refine az rfl rfl rfl (by exact Nat.le_of_ble_eq_true rfl) ?_
 refine aq (Jl f hs hf) rfl rfl rfl rfl rfl ?_
 refine PN fF (FR f hf 0 0 0) rfl rfl (by exact List.cons_ne_nil _ _) rfl (by repeat (first | exact (aT.nil : aT _ _ [] _) | (show aT _ _ ((_, _) :: _) _; apply aT.agg; (· exact (rfl : _ = Ty.agg _))) | (show aT _ _ ((_, _) :: _) _; apply aT.arr; (· exact (rfl : _ = Ty.arr _ _))))) (P3 f hf _ rfl rfl) ?_
 refine PS (E := fF) (FR f hf 0 0 0) rfl rfl ?_
 refine Vh rfl (aD ?_)
 refine ⟨by kernel_rfl, ?_⟩
 refine aC (aF (aF (aA ?_)))
 refine aP rfl rfl rfl rfl rfl (by decide) ?_
 refine aK rfl rfl rfl rfl (cC rfl rfl rfl (bF rfl (aD (aC (af ?_)))))
 refine cK (fun (k : {k : Nat // k ≤ f.bears.length}) => live [(2, Ty.pp (cx f)), (7, Ty.ptr 24 0), (26, Ty.int .i64 f.bears.length), (27, Ty.int .i64 (k.1 : Nat))] [(24, Cont.vec fF 160 [FR f hf k.1 0 0])]) (fun k => f.bears.length - k.1) (⟨0, by omega⟩) ?_ fun k => ?_
 ·(refine c8.mk' ?_ ?_ <;> (repeat' (first | exact aI | exact aH | refine aB ?_ (Ty.aR _) | refine aB ?_ (Ty.aG _) | refine aJ rfl (Cont.aG _) ?_)))
 refine aF (aA (ak rfl rfl rfl (aD (aC (aF ?_)))))
 refine aa rfl (fun hc3 => ?_) (fun hc3 => ?_)
 ·refine bA (aC (aF (af (aF (aA (bF rfl (b9 rfl (aD (aC (aF (aF (aA ?_))))))))))))
  refine aP rfl rfl rfl rfl rfl (by decide) ?_
  refine aK rfl rfl rfl rfl (cC rfl rfl rfl (bF rfl (aD (aC (af ?_)))))
  refine cK (fun (q : {q : Nat // q ≤ f.bins.length}) => live [(2, Ty.pp (cx f)), (7, Ty.ptr 24 0), (8, Ty.int .i64 (k.1 : Nat)), (26, Ty.int .i64 f.bears.length), (27, Ty.int .i64 (k.1 : Nat)), (31, Ty.sl jX f.bins), (32, Ty.int .i64 f.bins.length), (33, Ty.int .i64 (q.1 : Nat))] [(24, Cont.vec fF 160 [FR f hf k.1 q.1 0])]) (fun q => f.bins.length - q.1) (⟨0, by omega⟩) ?_ fun q => ?_
  ·(refine c8.mk' ?_ ?_ <;> (repeat' (first | exact aI | exact aH | refine aB ?_ (Ty.aR _) | refine aB ?_ (Ty.aG _) | refine aJ rfl (Cont.aG _) ?_)))
  refine aF (aA (ak rfl rfl rfl (aD (aC (aF ?_)))))
  refine aa rfl (fun hc4 => ?_) (fun hc4 => ?_)
  ·refine bA (aC (aF (af (aF (aA ?_)))))
   refine bG rfl rfl rfl rfl rfl rfl (by omega) ?_
   refine az rfl rfl rfl (by exact Nat.le_of_ble_eq_true rfl) ?_
   refine dA rfl (by exact List.cons_ne_nil _ _) rfl ?_
   refine eH rfl rfl (by decide) rfl rfl rfl rfl rfl rfl ?_
   refine aD (aC ?_)
   have hsh := hr.shares _ (bL (xs := f.bins) (k := q.1) (by omega))
   have hm := Uq (hr.hasR _ (bL (xs := f.bins) (k := q.1) (by omega))) (oD hr (i := q.1) (b := k.1) (by omega))
   have hfb := mT hr k.1 q.1 (by omega)
   refine cg mixed rfl (tU rfl (bF rfl (cW rfl ?_)))
   refine aS rfl rfl rfl rfl rfl (by decide) ?_
   refine fE rfl rfl rfl rfl rfl (by omega) ?_
   refine Mi rfl rfl (by decide) rfl rfl (B6 (by omega)) ?_
   refine aS rfl rfl rfl rfl rfl (by decide) ?_
   refine aj rfl rfl (by decide) rfl rfl rfl ?_
   refine aS rfl rfl rfl rfl rfl (by decide) ?_
   refine aj rfl rfl (by decide) rfl rfl rfl ?_
   refine bF rfl ?_
   refine bG rfl rfl rfl rfl rfl rfl (by omega) ?_
   refine aK rfl rfl rfl rfl ?_
   refine Na rfl rfl (by omega) (by omega) ?_
   refine bz rfl rfl (by omega) (by omega) ?_
   refine cW rfl ?_
   refine aS rfl rfl rfl rfl rfl (by decide) ?_
   refine fE rfl rfl rfl rfl rfl (by omega) ?_
   refine AQ (z := FR f hf k.1 (q.1 + 1) 0) rfl rfl (by decide) rfl rfl (by exact (rfl : _ = Ty.int _ _)) rfl (show 0 + 44 + k.1 * 1 < 48 by omega) rfl (EB (by omega) (by omega)) ?_
   refine aD ?_
   refine ⟨by kernel_rfl, ?_⟩
   refine bH (aC (aA ?_))
   refine bz rfl rfl (by omega) (by omega) ?_
   refine bF rfl (aD ?_)
   refine bO (⟨q.1 + 1, by omega⟩) ?_ (by show f.bins.length - (q.1 + 1) < f.bins.length - q.1; omega)
   (refine c8.mk' ?_ ?_ <;> (repeat' (first | exact aI | exact aH | refine aB ?_ (Ty.aR _) | refine aB ?_ (Ty.aG _) | refine aJ rfl (Cont.aG _) ?_)))
   all_goals skip
  refine cE (aL (aL (ah rfl (aC (aF (aA ?_))))))
  refine aP rfl rfl rfl rfl rfl (by decide) ?_
  refine aK rfl rfl rfl rfl (cC rfl rfl rfl (bF rfl (aD (aC (af ?_)))))
  refine cK (fun (a : {a : Nat // a ≤ f.turnings.length}) => live [(2, Ty.pp (cx f)), (7, Ty.ptr 24 0), (8, Ty.int .i64 (k.1 : Nat)), (26, Ty.int .i64 f.bears.length), (27, Ty.int .i64 (k.1 : Nat)), (57, Ty.sl gM f.turnings), (58, Ty.int .i64 f.turnings.length), (59, Ty.int .i64 (a.1 : Nat))] [(24, Cont.vec fF 160 [FR f hf k.1 q.1 a.1])]) (fun a => f.turnings.length - a.1) (⟨0, by omega⟩) ?_ fun a => ?_
  ·(refine c8.mk' ?_ ?_ <;> (repeat' (first | exact aI | exact aH | refine aB ?_ (Ty.aR _) | refine aB ?_ (Ty.aG _) | refine aJ rfl (Cont.aG _) ?_)))
  refine aF (aA (ak rfl rfl rfl (aD (aC (aF ?_)))))
  refine aa rfl (fun hc5 => ?_) (fun hc5 => ?_)
  ·refine bA (aC (aF (af (aF (aA (bF rfl ?_))))))
   refine bG rfl rfl rfl rfl rfl rfl (by omega) ?_
   refine az rfl rfl rfl (by exact Nat.le_of_ble_eq_true rfl) ?_
   refine dA rfl (by exact List.cons_ne_nil _ _) rfl ?_
   refine b9 rfl ?_
   refine eH rfl rfl (by decide) rfl rfl rfl rfl rfl rfl ?_
   refine aD (aC ?_)
   have hna := hn _ (bL (xs := f.turnings) (k := a.1) (by omega))
   have h1 := mV hr hna.1 k.1
   have h2 := mV hr hna.2 k.1
   have h3 := Ai hr hn (t := a.1) (by omega) k.1
   unfold ir at h1 h2
   unfold wq ir at h3
   refine cg mixed rfl (tU rfl (bF rfl (bF rfl ?_)))
   refine aS rfl rfl rfl rfl rfl (by decide) ?_
   refine aj rfl rfl (by decide) rfl rfl rfl ?_
   refine az rfl rfl rfl (by exact Nat.le_of_ble_eq_true rfl) ?_
   refine aS rfl rfl rfl rfl rfl (by decide) ?_
   refine aj rfl rfl (by decide) rfl rfl rfl ?_
   refine bF rfl ?_
   refine aq (Jr f hs hr _ k.1 hna.2 (by omega)) rfl rfl rfl rfl rfl ?_
   refine az rfl rfl rfl (by exact Nat.le_of_ble_eq_true rfl) ?_
   refine aS rfl rfl rfl rfl rfl (by decide) ?_
   refine aj rfl rfl (by decide) rfl rfl rfl ?_
   refine bF rfl ?_
   refine aq (Jr f hs hr _ k.1 hna.1 (by omega)) rfl rfl rfl rfl rfl ?_
   refine jB rfl rfl (by omega) (by omega) ?_
   refine Na rfl rfl (by omega) (by omega) ?_
   refine cW rfl ?_
   refine aS rfl rfl rfl rfl rfl (by decide) ?_
   refine fE rfl rfl rfl rfl rfl (by omega) ?_
   refine fE rfl rfl rfl rfl rfl (by omega) ?_
   refine AQ (z := FR f hf k.1 q.1 (a.1 + 1)) rfl rfl (by decide) rfl rfl (by exact (rfl : _ = Ty.int _ _)) rfl (show 0 + 12 + a.1 * 4 + k.1 * 1 < 48 by omega) rfl (HI (by omega) (by omega)) ?_
   refine aD ?_
   refine ⟨by kernel_rfl, ?_⟩
   refine bH (aC (aA ?_))
   refine bz rfl rfl (by omega) (by omega) ?_
   refine bF rfl (aD ?_)
   refine bO (⟨a.1 + 1, by omega⟩) ?_ (by show f.turnings.length - (a.1 + 1) < f.turnings.length - a.1; omega)
   (refine c8.mk' ?_ ?_ <;> (repeat' (first | exact aI | exact aH | refine aB ?_ (Ty.aR _) | refine aB ?_ (Ty.aG _) | refine aJ rfl (Cont.aG _) ?_)))
   all_goals skip
  refine cE (aL (aL (ah rfl (bH (aC (aA ?_))))))
  refine bz rfl rfl (by omega) (by omega) ?_
  refine bF rfl (aD ?_)
  refine bO (⟨k.1 + 1, by omega⟩) ?_ (by show f.bears.length - (k.1 + 1) < f.bears.length - k.1; omega)
  (refine c8.mk' ?_ ?_ <;> (repeat' (first | exact aI | exact aH | refine aB ?_ (Ty.aR _) | refine aB ?_ (Ty.aG _) | refine aJ rfl ?_ ?_)))
  all_goals skip
  exact Cont.dB (by rw [show q.1 = f.bins.length by have := q.2; omega, show a.1 = f.turnings.length by have := a.2; omega, RI])
 refine cE (aL (aL (ah rfl (aC (aF ?_)))))
 refine uC (tg := 24) [(7, Ty.pe fF (FR f hf k.1 0 0) 0)] (by decide) rfl ⟨Sy rfl rfl (by decide), trivial⟩ ?_
 refine aA (mJ rfl (UU rfl (b9 rfl (aD (aC (au ?_))))))
 refine g9 rfl rfl rfl ?_ ?_
 all_goals first | exact bN rfl rfl | skip
 exact bE rfl rfl (by rw [show k.1 = f.bears.length by have := k.2; omega]; rfl)
set_option maxRecDepth 100000 in
theorem NI (b : SB) (s t : Nat) (hs : s < 256) (ht : t < 8) (hb : ∀ k, nth b.1.before k < 256) : cX Tryz.prog 146 [Ty.int .i64 (t : Nat), Ty.pp [Ty.pe fF b 0], Ty.pp [Ty.int .i64 (s : Nat)]] (Ty.bool (decide (jd (nth b.1.before t) s = 0))) := by
 refine aY Tryz.func146 rfl (by decide) Tryz.ntmps146 (by exact Nat.le_of_ble_eq_true rfl) fun w0 M0 => ?_
 have hbt := hb t
 refine aF (aA (dG rfl (aD (aC (aF (cg mixed rfl (aK rfl rfl rfl rfl (bF rfl (dR rfl ?_)))))))))
 refine dO rfl rfl rfl rfl rfl (by decide) ?_
 refine lB rfl rfl rfl rfl rfl (by omega) ?_
 refine gK (ty := Ty.int .i64 (nth b.1.before t : Nat)) rfl rfl rfl (by rw [show 0 + 4 + t * 1 = 4 + t by omega]; exact Ae b.2 ht) ?_
 refine aK rfl rfl rfl rfl ?_
 refine LU rfl rfl (by omega) ?_
 refine ak rfl rfl rfl (dG rfl (aD ?_))
 refine ⟨by kernel_rfl, ?_⟩
 refine aC (au (bK rfl rfl ?_))
 all_goals skip
 exact bE rfl rfl (congrArg Ty.bool (decide_eq_decide.2 (by omega)))
set_option maxRecDepth 100000 in
theorem vE (b : SB) (s : Nat) (hs : s < 256) (hb : ∀ k, nth b.1.before k < 256) : cX Tryz.prog 97 [Ty.pe fF b 0, Ty.int .i64 (s : Nat)] (Ty.bool (eF b s)) := by
 refine aY Tryz.func97 rfl (by decide) Tryz.ntmps97 (by exact Nat.le_of_ble_eq_true rfl) fun w0 M0 => ?_
 refine aF (aA ?_)
 refine eY (by exact (rfl : _ = Ty.pe _ _ _)) rfl ?_
 refine eY (by exact (rfl : _ = Ty.int _ _)) rfl ?_
 refine dG rfl (aD (aC (aF (aA (aK rfl rfl rfl rfl (aq (CO s hs) rfl rfl rfl rfl rfl (cw rfl ?_)))))))
 refine aq (kD (cQ s) (Ty.j9 _ [Ty.pp [Ty.pe fF b 0], Ty.pp [Ty.int .i64 (s : Nat)]]) rfl (fun t => decide (jd (nth b.1.before t.toNat) s = 0)) rfl rfl fun t ht => by have h := zw t ht; obtain ⟨n, rfl⟩ := Int.eq_ofNat_of_zero_le h.1; exact cY (NI b s n hs (by omega) hb) rfl rfl rfl rfl rfl rfl) rfl rfl rfl rfl rfl ?_
 refine dG rfl (aD (aC (au (bK rfl rfl ?_))))
 all_goals exact bN rfl rfl
set_option maxRecDepth 100000 in
theorem Sc (b : SB) : cX Tryz.prog 115 [Ty.pe fF b 0] (Ty.j9 159 [Ty.pp [Ty.pe fF b 0]]) := by
 refine aY Tryz.func115 rfl (by decide) Tryz.ntmps115 (by exact Nat.le_of_ble_eq_true rfl) fun w0 M0 => ?_
 refine aF (aA ?_)
 refine eY (by exact (rfl : _ = Ty.pe _ _ _)) rfl ?_
 refine mN rfl (aD (aC (aF (aA (cw rfl (VW rfl (aD (aC (au (bK rfl rfl ?_))))))))))
 all_goals exact bN rfl rfl
end Go.Proofs.YtmmcenjknimhbaaGreat
namespace Go.Proofs.YtmmcenjknimhbaaGreat
open Go Go.T
attribute [local irreducible] eG cZ jR j6 eP eO eK eM eS j8 eJ j4 b8 dc jz dZ j7 nth eZ cU aV cX bodyPost Exit.then Exit.inBlock Code.wp Code.wpIn dS mz mm m5 fT mq m7 fW mW eB fO lq bW bV bodyPostM cV
theorem A3 (b : SB) : ((fF.tys b).drop (0 + 44)).take 4 = b.1.first.flatMap dN.tys := by
 show ((gA b.1).drop 44).take 4 = _
 have h1 := b.2.before
 have h2 := b.2.adds
 have h3 := b.2.first
 rw [jI, vf, List.drop_append, List.drop_append, List.drop_append]
 simp only [ep, List.length_map, h1, h2]
 rw [List.drop_eq_nil_of_le (by rw [ep]; omega), List.drop_eq_nil_of_le (by simp [h1]), List.drop_eq_nil_of_le (by simp [h2])]
 simp only [List.nil_append, Nat.reduceSub, List.drop_zero]
 rw [List.take_of_length_le (by simp [h3])]
set_option maxRecDepth 100000 in
theorem Ez (b : SB) (hb : kO b) (s : Nat) (hs : s < 256) : cX Tryz.prog 41 [Ty.pe fF b 0, Ty.int .i64 (s : Nat)] (Ty.arr dN (iI b s)) := by
 refine aY Tryz.func41 rfl (by decide) Tryz.ntmps41 (by exact Nat.le_of_ble_eq_true rfl) fun w0 M0 => ?_
 have hml := sM s
 have hfl := b.2.first
 refine aF (aA ?_)
 refine dA rfl (by exact List.cons_ne_nil _ _) rfl ?_
 refine aD (aC (aF (aA (mJ rfl (dR rfl ?_)))))
 refine dO rfl rfl rfl rfl rfl (by decide) ?_
 refine JK (E' := dN) (ys := b.1.first) rfl rfl rfl (A3 b) (by rw [vf, List.length_map, hfl]) ?_
 refine dA rfl (by exact List.cons_ne_nil _ _) rfl ?_
 refine jv rfl rfl (by decide) rfl rfl (by rw [hfl]; rfl) rfl ?_
 refine aD (aC (aF (aF (aA (bF rfl (aq (CO s hs) rfl rfl rfl rfl rfl (cC rfl rfl rfl (bF rfl (aD (aC (af ?_)))))))))))
 refine cK (fun (k : {k : Nat // k ≤ (cQ s).length}) => live [(0, Ty.pe fF b 0), (4, Ty.ptr 5 0), (5, Ty.ptr 6 0), (14, Ty.sl dN (cQ s)), (15, Ty.int .i64 (cQ s).length), (16, Ty.int .i64 (k.1 : Nat))] [(5, Cont.cells 106 [Ty.int .i64 0, Ty.int .i64 0, Ty.int .i64 0, Ty.int .i64 0]), (6, Cont.vec dN 106 (oJ b (cQ s) k.1 0))]) (fun k => (cQ s).length - k.1) (⟨0, by omega⟩) ?_ fun k => ?_
 ·(refine c8.mk' ?_ ?_ <;> (repeat' (first | exact aI | exact aH | refine aB ?_ (Ty.aR _) | refine aB ?_ (Ty.aG _) | refine aJ rfl (Cont.aG _) ?_ | refine aJ rfl ?_ ?_)))
  exact Cont.dB (GV b _)
 refine aF (aA (ak rfl rfl rfl (aD (aC (aF ?_)))))
 refine aa rfl (fun hc1 => ?_) (fun hc1 => ?_)
 ·refine bA (aC (aF (af (aF (aA ?_)))))
  refine bG rfl rfl rfl rfl rfl rfl (by omega) ?_
  refine aK rfl rfl rfl rfl (b9 rfl (aD (aC (aF (aA (bF rfl (aD (aC (af ?_)))))))))
  refine cK (fun (j : {j : Nat // j ≤ 4}) => live [(0, Ty.pe fF b 0), (4, Ty.ptr 5 0), (5, Ty.ptr 6 0), (7, Ty.int .i64 (nth (cQ s) k.1)), (14, Ty.sl dN (cQ s)), (15, Ty.int .i64 (cQ s).length), (16, Ty.int .i64 (k.1 : Nat)), (20, Ty.int .i64 (j.1 : Nat))] [(5, Cont.cells 106 [Ty.int .i64 0, Ty.int .i64 0, Ty.int .i64 0, Ty.int .i64 0]), (6, Cont.vec dN 106 (oJ b (cQ s) k.1 j.1))]) (fun j => 4 - j.1) (⟨0, by omega⟩) ?_ fun j => ?_
  ·(refine c8.mk' ?_ ?_ <;> (repeat' (first | exact aI | exact aH | refine aB ?_ (Ty.aR _) | refine aB ?_ (Ty.aG _) | refine aJ rfl (Cont.aG _) ?_)))
  refine aF (aA (ak rfl rfl rfl (aD (aC (aF ?_)))))
  refine aa rfl (fun hc2 => ?_) (fun hc2 => ?_)
  ·refine bA (aC (aF (af (aF (aA (bF rfl (b9 rfl (aD (aC ?_)))))))))
   have hpl := lC b (cQ s) k.1 j.1
   have hmt := zw _ (bL (xs := cQ s) (k := k.1) (by omega))
   have hla := vu hb ((cQ s).take k.1) j.1
   have hlt : ((cQ s).take k.1).length ≤ 8 := by rw [List.length_take]; omega
   have hnp := Dt b (cQ s) k.1 (j := j.1) (by omega)
   have had := hb.adds ((nth (cQ s) k.1).toNat * 4 + j.1)
   rw [← hnp] at hla
   refine cg mixed rfl (bF rfl ?_)
   refine fE rfl rfl rfl rfl rfl (by omega) ?_
   refine fZ rfl rfl rfl (by decide) rfl rfl (by omega) rfl ?_
   refine mJ rfl (bF rfl (bF rfl (dR rfl ?_)))
   refine dO rfl rfl rfl rfl rfl (by decide) ?_
   refine yU (n := 8) rfl rfl rfl rfl rfl (by omega) (by omega) ?_
   refine lB rfl rfl rfl rfl rfl (by omega) ?_
   refine gK (ty := Ty.int .i64 (nth b.1.adds ((nth (cQ s) k.1).toNat * 4 + j.1))) rfl rfl rfl (by rw [show 0 + 12 + (nth (cQ s) k.1).toNat * 4 + j.1 * 1 = 12 + ((nth (cQ s) k.1).toNat * 4 + j.1) by omega]; exact Fi b.2 (by omega)) ?_
   refine bz rfl rfl (by omega) (by omega) ?_
   refine fE rfl rfl rfl rfl rfl (by omega) ?_
   refine jM rfl rfl rfl (by decide) rfl rfl (by exact (rfl : _ = Ty.int _ _)) rfl (by omega) (by decide) rfl rfl ?_
   refine aD ?_
   refine ⟨by kernel_rfl, ?_⟩
   refine bH (aC (aA ?_))
   refine bz rfl rfl (by omega) (by omega) ?_
   refine bF rfl (aD ?_)
   refine bO (⟨j.1 + 1, by omega⟩) ?_ (by show 4 - (j.1 + 1) < 4 - j.1; omega)
   (refine c8.mk' ?_ ?_ <;> (repeat' (first | exact aI | exact aH | refine aB ?_ (Ty.aR _) | refine aB ?_ (Ty.aG _) | refine aJ rfl (Cont.aG _) ?_ | refine aJ rfl ?_ ?_)))
   all_goals skip
   exact Cont.dB (LH b (by omega) (by omega))
  refine cE (aL (aL (ah rfl (bH (aC (aA ?_))))))
  refine bz rfl rfl (by omega) (by omega) ?_
  refine bF rfl (aD ?_)
  refine bO (⟨k.1 + 1, by omega⟩) ?_ (by show (cQ s).length - (k.1 + 1) < (cQ s).length - k.1; omega)
  (refine c8.mk' ?_ ?_ <;> (repeat' (first | exact aI | exact aH | refine aB ?_ (Ty.aR _) | refine aB ?_ (Ty.aG _) | refine aJ rfl (Cont.aG _) ?_ | refine aJ rfl ?_ ?_)))
  all_goals skip
  exact Cont.dB (by rw [show j.1 = 4 by have := j.2; omega, Hs])
 refine cE (aL (aL (ah rfl (aC (aF (aA ?_))))))
 refine lf rfl rfl (by decide) rfl rfl (by rw [lC]; rfl) (fun e => by have h := congrArg List.length e; rw [lC] at h; cases h) ?_
 refine jv rfl rfl (by decide) rfl rfl (by rw [lC]; rfl) rfl ?_
 refine aD (aC (au ?_))
 refine yB (MW b s k.1 (by omega)) rfl rfl rfl rfl (by decide) rfl rfl (by rw [lC]; rfl) (fun e => by have h := congrArg List.length e; rw [lC] at h; cases h)
set_option maxRecDepth 100000 in
theorem HC (b : SB) (hb : kO b) (l : List Int) (hl : l.length = 4) (hl2 : ∀ i, -100000 ≤ nth l i ∧ nth l i ≤ 100000) : cX Tryz.prog 105 [Ty.pe fF b 0, Ty.arr dN l] (Ty.int .i64 (mo b l)) := by
 refine aY Tryz.func105 rfl (by decide) Tryz.ntmps105 (by exact Nat.le_of_ble_eq_true rfl) fun w0 M0 => ?_
 have h1 := hb.nb1
 have h4 := hb.nb
 have hb0 := hb.bears 0
 have hl0 := hl2 0
 refine aF (aA (MO rfl (b9 rfl (aD (aC (aF (cg mixed rfl (mJ rfl (dR rfl ?_)))))))))
 refine dO rfl rfl rfl rfl rfl (by decide) ?_
 refine dO rfl rfl rfl rfl rfl (by decide) ?_
 refine gK rfl rfl rfl rfl ?_
 refine bG (i := 0) rfl rfl rfl rfl rfl rfl (by omega) ?_
 refine aK rfl rfl rfl rfl ?_
 refine z8 (i := 0) rfl rfl rfl rfl rfl (by decide) ?_
 refine Dx (i := 0) rfl rfl rfl rfl (by omega) rfl ?_
 refine jB rfl rfl (by omega) (by omega) ?_
 refine b9 rfl (aD ?_)
 refine ⟨by kernel_rfl, ?_⟩
 refine aC (aF (aF (aA (mJ rfl (dR rfl ?_)))))
 refine dO rfl rfl rfl rfl rfl (by decide) ?_
 refine dO rfl rfl rfl rfl rfl (by decide) ?_
 refine gK rfl rfl rfl rfl (cC rfl rfl rfl (bF rfl (aD (aC (af ?_)))))
 refine cK (fun (k : {k : Nat // k ≤ b.1.f.bears.length}) => live [(3, Ty.pa dN l 0), (5, Ty.int .i64 (r8 b.1.f l k.1 (nth b.1.f.bears 0 - nth l 0))), (22, Ty.sl dN b.1.f.bears), (23, Ty.int .i64 b.1.f.bears.length), (24, Ty.int .i64 (k.1 : Nat))] []) (fun k => b.1.f.bears.length - k.1) (⟨0, by omega⟩) ?_ fun k => ?_
 ·(refine c8.mk' ?_ ?_ <;> (repeat' (first | exact aI | exact aH | refine aB ?_ (Ty.aR _) | refine aB ?_ (Ty.aG _))))
 refine aF (aA (ak rfl rfl rfl (aD (aC (aF ?_)))))
 refine aa rfl (fun hc1 => ?_) (fun hc1 => ?_)
 ·refine bA (aC (aF (af (aF (aA (bF rfl ?_))))))
  refine bG rfl rfl rfl rfl rfl rfl (by omega) ?_
  refine aK rfl rfl rfl rfl (b9 rfl (b9 rfl (aD (aC ?_))))
  have hbk := hb.bears k.1
  have hlk := hl2 k.1
  refine aA (bF rfl (bF rfl (bF rfl ?_)))
  refine z8 rfl rfl rfl rfl rfl (show k.1 < 4 by omega) ?_
  refine Dx rfl rfl rfl (Nat.zero_add _) (by omega) rfl ?_
  refine jB rfl rfl (by omega) (by omega) ?_
  refine bT (E := dN) (xs := [_]) rfl rfl rfl rfl rfl (by decide) (by decide) (by repeat (first | exact (aT.nil : aT _ _ [] _) | (show aT _ _ ((_, _) :: _) _; apply aT.one; (· exact (rfl : _ = Ty.int _ _)); (· exact rfl)))) (by exact rfl) rfl ?_
  refine aq (HY _ _) rfl rfl rfl rfl rfl (b9 rfl (aD (bH (aC (aA ?_)))))
  refine bz rfl rfl (by omega) (by omega) ?_
  refine bF rfl (aD ?_)
  refine bO (⟨k.1 + 1, by omega⟩) ?_ (by show b.1.f.bears.length - (k.1 + 1) < b.1.f.bears.length - k.1; omega)
  (refine c8.mk' ?_ ?_ <;> (repeat' (first | exact aI | exact aH | refine aB ?_ (Ty.aR _) | refine aB ?_ (Ty.aG _) | refine aB ?_ ?_)))
  all_goals skip
  exact Ty.bJ (by rw [yF]; rfl)
 refine cE (aL (aL (ah rfl (aC (aF (aA (bF rfl (b9 rfl (aD (aC (au (bK rfl rfl ?_))))))))))))
 all_goals skip
 exact bE rfl rfl (congrArg (Ty.int .i64) (by rw [show k.1 = b.1.f.bears.length by have := k.2; omega]; rfl))
set_option maxRecDepth 100000 in
theorem Pv (b : SB) (hb : kO b) (s : Nat) (hs : s < 256) : cX Tryz.prog 149 [Ty.int .i64 (s : Nat), Ty.pp [Ty.pe fF b 0]] (Ty.bool (uI b s)) := by
 refine aY Tryz.func149 rfl (by decide) Tryz.ntmps149 (by exact Nat.le_of_ble_eq_true rfl) fun w0 M0 => ?_
 refine aF (aA (dG rfl (aD (aC (aF (cg mixed rfl (aK rfl rfl rfl rfl (aK rfl rfl rfl rfl (bF rfl (aq (Ez b hb s hs) rfl rfl rfl rfl rfl ?_))))))))))
 refine aq (HC b hb _ (lH b s) (fun i => by have := yS hb s i; omega)) rfl rfl rfl rfl rfl ?_
 refine ak rfl rfl rfl (dG rfl (aD ?_))
 refine ⟨by kernel_rfl, ?_⟩
 refine aC (au (bK rfl rfl ?_))
 all_goals exact bN rfl rfl
set_option maxRecDepth 100000 in
theorem D1 (b : SB) : cX Tryz.prog 104 [Ty.pe fF b 0] (Ty.agg [Ty.j9 149 [Ty.pp [Ty.pe fF b 0]]]) := by
 refine aY Tryz.func104 rfl (by decide) Tryz.ntmps104 (by exact Nat.le_of_ble_eq_true rfl) fun w0 M0 => ?_
 refine aF (aA ?_)
 refine eY (by exact (rfl : _ = Ty.pe _ _ _)) rfl ?_
 refine dA rfl (by exact List.cons_ne_nil _ _) rfl ?_
 refine aD (aC (aF (aA (cw rfl ?_))))
 refine eX rfl rfl (by exact List.cons_ne_nil _ _) rfl (by repeat (first | exact (aT.nil : aT _ _ [] _) | (show aT _ _ ((_, _) :: _) _; apply aT.one; (· exact (rfl : _ = Ty.j9 _ _)); (· exact rfl)))) (by exact (rfl : _ = some [_])) ?_
 refine eH rfl rfl (by decide) rfl rfl rfl rfl rfl rfl ?_
 refine aD (aC (au ?_))
 refine Jm rfl rfl rfl rfl (by decide) rfl rfl rfl ?_
 exact bE rfl rfl rfl
theorem AT (b : SB) (s : Nat) (hs : s < 256) (hb : ∀ k, nth b.1.before k < 256) {v : Bool} (h : eF b s = v) : cX Tryz.prog 97 [Ty.pe fF b 0, Ty.int .i64 (s : Nat)] (Ty.bool v) := h ▸ vE b s hs hb
def JR (b : SB) (s : Nat) : List Ty := [Ty.int .i64 (s : Nat), Ty.arr dN (iI b s)]
set_option maxRecDepth 100000 in
theorem QW (b : SB) (hb : kO b) : fO Tryz.prog 159 (fun l => [Ty.ex (yv l), Ty.pp [Ty.pe fF b 0]]) ((uA b).map (JR b)) (Ty.tE []) (Ty.tE []) := by
 refine L9 Tryz.func159 rfl (by decide) Tryz.ntmps159 (fun _ => by exact Nat.le_of_ble_eq_true rfl) (fun _ => ⟨rfl, rfl⟩) fun l J Jx hJ hJx hY w0 M0 => ?_
 have hnt := hb.nt
 have hsl := q7 hnt
 have hlen : ((uA b).map (JR b)).length = (uA b).length := List.length_map _
 refine aF (aA (aK rfl rfl rfl rfl (dR rfl ?_)))
 refine dO rfl rfl rfl rfl rfl (by decide) ?_
 refine dO rfl rfl rfl rfl rfl (by decide) ?_
 refine gK rfl rfl rfl rfl (cC rfl rfl rfl ?_)
 refine nu (a := 1) rfl rfl (by omega) (by omega) ?_
 refine bF rfl (aD (aC (af ?_)))
 refine cK (fun (k : {k : Nat // k ≤ 1 <<< b.1.f.turnings.length}) => live [(0, Ty.ex (yv l)), (1, Ty.pp [Ty.pe fF b 0]), (10, Ty.int .i64 ((1 <<< b.1.f.turnings.length : Nat) : Int)), (11, Ty.int .i64 (k.1 : Nat))] [(0, CJ (hJ (iS b k.1).length))]) (fun k => 1 <<< b.1.f.turnings.length - k.1) (⟨0, by omega⟩) ?_ fun k => ?_
 ·(refine c8.mk' ?_ ?_ <;> (repeat' (first | exact aI | exact aH | refine aB ?_ (Ty.aR _) | refine aB ?_ (Ty.aG _) | refine aJ rfl (Cont.aG _) ?_)))
 refine aF (aA (ak rfl rfl rfl (aD (aC (aF ?_)))))
 refine aa rfl (fun hc1 => ?_) (fun hc1 => ?_)
 ·refine bA (aC (aF (af (aF (aA (bF rfl (b9 rfl (aD (aC (aF ?_))))))))))
  cases hsp : (eF b k.1)
  ·refine aA (aK rfl rfl rfl rfl (bF rfl ?_))
   refine aq (AT b k.1 (by omega) hb.before hsp) rfl rfl rfl rfl rfl ?_
   refine kV rfl (An rfl rfl rfl rfl (An rfl rfl rfl rfl (An rfl rfl rfl rfl (An rfl rfl rfl rfl (An rfl rfl rfl rfl (An rfl rfl rfl rfl (An rfl rfl rfl rfl ?_)))))))
   refine Jg (ty := Ty.bool false) rfl rfl rfl (fun h => Bool.noConfusion h) (fun _ => Ty.aG _) ?_
   refine aD (aC (iP rfl (rfl) (bA (bH (aC (aA ?_))))))
   refine bz rfl rfl (by omega) (by omega) ?_
   refine bF rfl (aD ?_)
   refine bO (⟨k.1 + 1, by omega⟩) ?_ (by exact Nat.sub_lt_sub_left (Int.ofNat_lt.1 hc1) (Nat.lt_succ_self _))
   (refine c8.mk' ?_ ?_ <;> (repeat' (first | exact aI | exact aH | refine aB ?_ (Ty.aR _) | refine aB ?_ (Ty.aG _) | refine aJ rfl ?_ ?_)))
   all_goals skip
   exact Cont.sub_eq (congrArg (fun n => CJ (hJ n)) (by show (iS b k.1).length = (iS b (k.1 + 1)).length; rw [DI hsp]))
  refine JW 9 rfl rfl (aK rfl rfl rfl rfl (bF rfl ?_))
  refine aq (AT b k.1 (by omega) hb.before hsp) rfl rfl rfl rfl rfl ?_
  refine kV rfl ?_
  (refine IW rfl rfl rfl (by apply aQ; (refine V0 rfl ?_); refine aD ?_; exact rfl) ?_)
  (refine IW rfl rfl rfl (by apply aQ; (refine bF rfl ?_); refine aD ?_; exact rfl) ?_)
  (refine IW rfl rfl rfl (by apply aQ; (refine aK rfl rfl rfl rfl ?_); refine aD ?_; exact rfl) ?_)
  (refine IW rfl rfl rfl (by apply aQ; (refine bF rfl ?_); refine aD ?_; exact rfl) ?_)
  (refine IW rfl rfl rfl (by apply aQ; (refine aq (Ez b hb k.1 (by omega)) rfl rfl rfl rfl rfl ?_); refine aD ?_; exact rfl) ?_)
  refine aD ?_
  refine ⟨_, _, S9 rfl rfl rfl (Mf hJ hJx hY rfl rfl rfl rfl rfl (RZ (BY (Int.ofNat_lt.1 hc1) hsp).2 (congrArg (JR b) (BY (Int.ofNat_lt.1 hc1) hsp).1)) rfl), ?_, ?_⟩
  ·(refine IW rfl rfl rfl (by apply aQ; (refine ct rfl ?_); refine aD ?_; exact rfl) ?_)
   refine Jg (ty := Ty.bool false) rfl rfl rfl (fun _ => (Ty.aG _ : Ty.Sub (Ty.bool (!true)) _)) (fun h => Bool.noConfusion h) ?_
   refine aD (aC (iP rfl (rfl) (bA (bH (aC (aA ?_))))))
   refine bz rfl rfl (by omega) (by omega) ?_
   refine bF rfl (aD ?_)
   refine bO (⟨k.1 + 1, by omega⟩) ?_ (by exact Nat.sub_lt_sub_left (Int.ofNat_lt.1 hc1) (Nat.lt_succ_self _))
   (refine c8.mk' ?_ ?_ <;> (repeat' (first | exact aI | exact aH | refine aB ?_ (Ty.aR _) | refine aB ?_ (Ty.aG _) | refine aJ rfl ?_ ?_)))
   all_goals skip
   exact Cont.sub_eq (congrArg (fun n => CJ (hJ n)) (by show (iS b k.1).length + 1 = (iS b (k.1 + 1)).length; rw [u0 hsp, List.length_append]; rfl))
  (refine IW rfl rfl rfl (by apply aQ; (refine ct rfl ?_); refine aD ?_; exact rfl) ?_)
  refine Jg (ty := Ty.bool true) rfl rfl rfl (fun _ => (Ty.aG _ : Ty.Sub (Ty.bool (!false)) _)) (fun h => Bool.noConfusion h) ?_
  refine aD (aC (wm rfl (rfl) (au (av (aW (aW (av ?_)))))))
  exact RF rfl rfl
 refine cE (aL (aL (ah rfl (Tz ?_))))
 exact RR (hJ := hJ) (by rw [List.length_map, show k.1 = 1 <<< b.1.f.turnings.length by have := k.2; omega]; rfl) rfl rfl
set_option maxRecDepth 100000 in
theorem Im (b : SB) (hb : kO b) (bay : Nat) (hbay : bay < 4) : cX Tryz.prog 56 [Ty.pe fF b 0, Ty.int .i64 (bay : Nat)] (Ty.tE [Ty.int .i64 (H9 b bay).1, Ty.int .i64 (H9 b bay).2]) := by
 refine Lp Tryz.func56 rfl (by decide) Tryz.ntmps56 (by exact Nat.le_of_ble_eq_true rfl) fun w0 M0 => ?_
 refine aF (aA ?_)
 refine eY (by exact (rfl : _ = Ty.int _ _)) rfl ?_
 refine b9 rfl (b9 rfl (aD (aC (aF (cg mixed rfl (mJ rfl (aK rfl rfl rfl rfl (dR rfl ?_))))))))
 refine dO rfl rfl rfl rfl rfl (by decide) ?_
 refine lB rfl rfl rfl rfl rfl hbay ?_
 refine gK (ty := Ty.int .i64 (nth b.1.first bay)) rfl rfl rfl (by rw [show 0 + 44 + bay * 1 = 44 + bay by omega]; exact xU b.2 hbay) ?_
 refine dA rfl (by exact List.cons_ne_nil _ _) rfl ?_
 refine dA rfl (by exact List.cons_ne_nil _ _) rfl ?_
 refine dh rfl rfl (by decide) rfl rfl (by exact (rfl : _ = Ty.int _ _)) rfl (by exact Nat.le_of_ble_eq_true rfl) rfl rfl (by exact (rfl : _ = [_])) ?_
 refine dh rfl rfl (by decide) rfl rfl (by exact (rfl : _ = Ty.int _ _)) rfl (by exact Nat.le_of_ble_eq_true rfl) rfl rfl (by exact (rfl : _ = [_])) ?_
 refine aD ?_
 refine ⟨by kernel_rfl, ?_⟩
 refine aC (aF (aF (aA (mJ rfl (aq (Sc b) rfl rfl rfl rfl rfl (aD (aC (af ?_))))))))
 refine Gz (ps := [18, 19]) (lk [(0, Ty.pe fF b 0), (3, Ty.pp [Ty.int .i64 (bay : Nat)]), (6, Ty.ptr 7 0), (7, Ty.ptr 8 0)]) (fun k => [(7, Cont.cells 3 [Ty.int .i64 (oP b bay k).1]), (8, Cont.cells 3 [Ty.int .i64 (oP b bay k).2])]) false [] [7, 8] rfl rfl (QW b hb) rfl rfl (by decide) (by intro t ht; obtain ⟨x, _, rfl⟩ := List.mem_map.1 ht; exact ⟨rfl, rfl, rfl⟩) rfl rfl (fun _ => rfl) rfl ?_ ?_ ?_ (by intro h; cases h)
 ·(refine c8.mk' ?_ ?_ <;> (repeat' (first | exact aI | exact aH | refine aB ?_ (Ty.aR _) | refine aB ?_ (Ty.aG _) | refine aJ rfl (Cont.aG _) ?_)))
 ·intro k tys hk
  obtain ⟨hk1, rfl⟩ := Qx hk
  have hll := lH b (nth (uA b) k)
  refine ⟨live [(3, Ty.pp [Ty.int .i64 (bay : Nat)]), (6, Ty.ptr 7 0), (7, Ty.ptr 8 0), (8, Ty.int .i64 (nth (uA b) k : Nat)), (9, Ty.ptr 10 0)] [(7, Cont.cells 3 [Ty.int .i64 (oP b bay k).1]), (8, Cont.cells 3 [Ty.int .i64 (oP b bay k).2]), (10, Cont.vec dN 106 (iI b (nth (uA b) k)))], fun l w M => ?_, fun l w M => ?_⟩
  ·refine aF (aA (b9 rfl (aD (aC (aA ?_)))))
   refine dA rfl (by exact List.cons_ne_nil _ _) rfl ?_
   refine jv rfl rfl (by decide) rfl rfl (by rw [hll]; rfl) rfl ?_
   refine aD (iC ?_)
   (refine c8.mk' ?_ ?_ <;> (repeat' (first | exact aI | exact aH | refine aB ?_ (Ty.aR _) | refine aB ?_ (Ty.aG _) | refine aJ rfl (Cont.aG _) ?_)))
  refine af (aF (cg mixed rfl (aK rfl rfl rfl rfl (fE rfl rfl rfl rfl rfl hbay ?_))))
  refine fZ rfl rfl rfl (by decide) rfl rfl (by omega) rfl ?_
  refine aj rfl rfl (by decide) rfl rfl rfl ?_
  refine ak rfl rfl rfl (aD ?_)
  refine ⟨by kernel_rfl, ?_⟩
  refine aC ?_
  refine aa rfl (fun hc1 => ?_) (fun hc1 => ?_)
  ·refine cg mixed rfl (bF rfl (aK rfl rfl rfl rfl (fE rfl rfl rfl rfl rfl hbay ?_)))
   refine fZ rfl rfl rfl (by decide) rfl rfl (by omega) rfl ?_
   refine dh rfl rfl (by decide) rfl rfl (by exact (rfl : _ = Ty.int _ _)) rfl (by exact Nat.le_of_ble_eq_true rfl) rfl rfl (by exact (rfl : _ = [_])) ?_
   refine dh rfl rfl (by decide) rfl rfl (by exact (rfl : _ = Ty.int _ _)) rfl (by exact Nat.le_of_ble_eq_true rfl) rfl rfl (by exact (rfl : _ = [_])) ?_
   refine aD ?_
   refine ⟨by kernel_rfl, ?_⟩
   refine bH (GP ?_)
   (refine c8.mk' ?_ ?_ <;> (repeat' (first | exact aI | exact aH | exact dH | refine aB ?_ (Ty.aR _) | refine aJ rfl (Cont.dI ?_) ?_ | refine bX ?_ ?_)))
   all_goals exact Ty.bJ (by rw [va hk1, zl, if_pos hc1])
  refine bA (bH (GP ?_))
  (refine c8.mk' ?_ ?_ <;> (repeat' (first | exact aI | exact aH | exact dH | refine aB ?_ (Ty.aR _) | refine aJ rfl (Cont.dI ?_) ?_ | refine bX ?_ ?_)))
  all_goals exact Ty.bJ (by rw [va hk1, zl, if_neg hc1])
 refine bH (aC (aF (cg mixed rfl ?_)))
 refine aj rfl rfl (by decide) rfl rfl rfl ?_
 refine aj rfl rfl (by decide) rfl rfl rfl ?_
 refine b9 rfl (b9 rfl (aD ?_))
 refine ⟨by kernel_rfl, ?_⟩
 refine aC (au (T3 rfl ?_))
 refine g9 rfl rfl rfl ?_ ?_
 all_goals skip
 all_goals exact bE rfl rfl (congrArg (Ty.int .i64) (by rw [List.length_map, oP, List.take_length]; rfl))
end Go.Proofs.YtmmcenjknimhbaaGreat
