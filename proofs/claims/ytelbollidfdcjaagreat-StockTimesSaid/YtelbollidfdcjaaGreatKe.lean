/- Lemmas: the program and the reference walked, plain laws. -/
import Derived.Test.YtelbollidfdcjaaGreatKd
namespace Go.Proofs.YtelbollidfdcjaaGreat
open Go Go.T
set_option maxHeartbeats 8000000
section
variable {y : ak} {a : dY} {k : Nat}
end
attribute [local irreducible] gA eU lH nR gy gl g5 gr g9 nU gx nZ dN fS nJ ff nQ nth fI dQ au dK bodyPost Exit.then Exit.inBlock Code.wp Code.wpIn nY gm oC n9 g7 eM cJ cH bodyPostM dP
set_option maxRecDepth 100000 in
theorem J6 (y : ak) (a : dY) (ha : PV y a) (bin time : Int) (h0 : 0 ≤ bin) (h1 : bin.toNat < a.first.length) : dK Tryz.prog 53 [dn y, yD a, Ty.int .i64 bin, Ty.int .i64 time] (Ty.int .i64 (cj y a bin time)) := by
 refine ah Tryz.func53 rfl (by decide) Tryz.ntmps53 (by exact Nat.le_of_ble_eq_true rfl) fun w0 M0 => ?_
 have hl1 := ha.len
 have hl2 := ha.qb
 refine aE (aA (bD rfl (bD rfl (bk rfl (aD (aC (aE (aA ?_))))))))
 refine aH rfl rfl rfl rfl rfl (by decide) ?_
 refine aI rfl rfl rfl rfl (bG rfl (gC rfl rfl rfl rfl rfl rfl h0 h1 (aI rfl rfl rfl rfl (bk rfl (aD (aC (aE (aE (aA ?_)))))))))
 refine bk rfl (aD (aC (aZ ?_)))
 refine cF (fun (k : {k : Nat // k ≤ y.moves.length}) => live [(2, Ty.int .i64 bin), (3, Ty.int .i64 time), (4, Ty.pp (bH y)), (5, Ty.pp (mG a)), (9, Ty.int .i64 (dj y a bin time k.1)), (10, Ty.int .i64 (k.1 : Nat))] []) (fun k => y.moves.length - k.1) (⟨0, by omega⟩) ?_ fun k => ?_
 ·(refine cx.mk' ?_ ?_ <;> (repeat' (first | exact aJ | exact aK | refine aB ?_ (Ty.aU _) | refine aB ?_ (Ty.aF _))))
 have hk := k.2
 have hu := ha.up (time := time) h1 hk
 refine aE (aE (aA (bG rfl ?_)))
 refine aH rfl rfl rfl rfl rfl (by decide) ?_
 refine aI rfl rfl rfl rfl (cK rfl rfl rfl (bB rfl rfl rfl (aD (aC ?_))))
 refine aj rfl (fun hc1 => ?_) (fun hc1 => ?_)
 ·
  refine aq (aC (aE (aZ (aE (aA ?_)))))
  refine aH rfl rfl rfl rfl rfl (by decide) ?_
  refine aI rfl rfl rfl rfl (bG rfl ?_)
  refine av rfl rfl rfl rfl rfl rfl (by omega) ?_
  refine aX rfl rfl rfl (by exact Nat.le_of_ble_eq_true rfl) ?_
  refine bp rfl (by exact List.cons_ne_nil _ _) rfl ?_
  refine bZ rfl rfl (by decide) rfl rfl rfl rfl rfl rfl ?_
  refine aD (aC (aE (aE (aA ?_))))
  refine aR rfl rfl rfl rfl rfl (by decide) ?_
  refine aY rfl rfl (by decide) rfl rfl rfl ?_
  refine bG rfl (bB rfl rfl rfl (fB rfl ?_))
  apply aN (s := 33) rfl rfl rfl
  ·intro hg; apply aO; (refine aR rfl rfl rfl rfl rfl (by decide) ?_); refine aD ?_; exact rfl
  ·exact rfl
  ·exact rfl
  apply aN (s := 33) rfl rfl rfl
  ·intro hg; apply aL (s := 34) rfl (by (rw [hg]; rfl)); apply aO; (refine aY rfl rfl (by decide) rfl rfl rfl ?_); refine aD ?_; exact rfl
  ·exact rfl
  ·exact rfl
  apply aN (s := 33) rfl rfl rfl
  ·intro hg; apply aO; (refine bG rfl ?_); refine aD ?_; exact rfl
  ·exact rfl
  ·exact rfl
  apply aN (s := 33) rfl rfl rfl
  ·intro hg; apply aL (s := 35) rfl (by (rw [hg]; rfl)); apply aL (s := 36) rfl (by (rw [hg]; rfl)); apply aO; (refine bB rfl rfl rfl ?_); refine aD ?_; exact rfl
  ·exact rfl
  ·exact rfl
  refine dy rfl rfl (aD (aC ?_))
  refine cI rfl (fun hc2 => ?_) (fun hc2 => ?_)
  ·
   have hm1 := ha.b8 _ (cW (show k.1 < a.b8.length by omega))
   refine aA (bG rfl ?_)
   refine aH rfl rfl rfl rfl rfl (by decide) ?_
   refine aI rfl rfl rfl rfl (bG rfl ?_)
   refine av rfl rfl rfl rfl rfl rfl (by omega) ?_
   refine aI rfl rfl rfl rfl ?_
   refine cA rfl rfl (by omega) (by omega) ?_
   refine bk rfl (aD (aC (aE (aA ?_))))
   refine aR rfl rfl rfl rfl rfl (by decide) ?_
   refine aY rfl rfl (by decide) rfl rfl rfl ?_
   refine bG rfl (bB rfl rfl rfl (fB rfl ?_))
   apply aN (s := 50) rfl rfl rfl
   ·intro hg; apply aO; (refine aR rfl rfl rfl rfl rfl (by decide) ?_); refine aD ?_; exact rfl
   ·exact rfl
   ·exact rfl
   apply aN (s := 50) rfl rfl rfl
   ·intro hg; apply aL (s := 51) rfl (by (rw [hg]; rfl)); apply aO; (refine aY rfl rfl (by decide) rfl rfl rfl ?_); refine aD ?_; exact rfl
   ·exact rfl
   ·exact rfl
   apply aN (s := 50) rfl rfl rfl
   ·intro hg; apply aO; (refine bG rfl ?_); refine aD ?_; exact rfl
   ·exact rfl
   ·exact rfl
   apply aN (s := 50) rfl rfl rfl
   ·intro hg; apply aL (s := 52) rfl (by (rw [hg]; rfl)); apply aL (s := 53) rfl (by (rw [hg]; rfl)); apply aO; (refine bB rfl rfl rfl ?_); refine aD ?_; exact rfl
   ·exact rfl
   ·exact rfl
   refine dy rfl rfl (aD (aC ?_))
   refine cI rfl (fun hc3 => ?_) (fun hc3 => ?_)
   ·
    have hm2 := ha.b8 _ (cW (show k.1 < a.b8.length by omega))
    refine aA (bG rfl ?_)
    refine aH rfl rfl rfl rfl rfl (by decide) ?_
    refine aI rfl rfl rfl rfl (bG rfl ?_)
    refine av rfl rfl rfl rfl rfl rfl (by omega) ?_
    refine aI rfl rfl rfl rfl ?_
    refine gR rfl rfl (by omega) (by omega) ?_
    refine bk rfl (aD (bI (aC (aA (bG rfl ?_)))))
    refine cA rfl rfl (by omega) (by omega) ?_
    refine bk rfl (aD ?_)
    refine bO (⟨k.1 + 1, by omega⟩) ?_ (by show y.moves.length - (k.1 + 1) < y.moves.length - k.1; omega)
    (refine cx.mk' ?_ ?_ <;> (repeat' (first | exact aJ | exact aK | refine aB ?_ (Ty.aU _) | refine aB ?_ (Ty.aF _) | refine aB ?_ ?_)))
    all_goals skip
    all_goals exact Ty.bE (OO hc2 hc3)
   refine aq (bI (aC (aA (bG rfl ?_))))
   refine cA rfl rfl (by omega) (by omega) ?_
   refine bk rfl (aD ?_)
   refine bO (⟨k.1 + 1, by omega⟩) ?_ (by show y.moves.length - (k.1 + 1) < y.moves.length - k.1; omega)
   (refine cx.mk' ?_ ?_ <;> (repeat' (first | exact aJ | exact aK | refine aB ?_ (Ty.aU _) | refine aB ?_ (Ty.aF _) | refine aB ?_ ?_)))
   all_goals skip
   all_goals exact Ty.bE (O8 hc2 hc3)
  refine aq (aC (aE (aA ?_)))
  refine aR rfl rfl rfl rfl rfl (by decide) ?_
  refine aY rfl rfl (by decide) rfl rfl rfl ?_
  refine bG rfl (bB rfl rfl rfl (fB rfl ?_))
  apply aN (s := 50) rfl rfl rfl
  ·intro hg; apply aO; (refine aR rfl rfl rfl rfl rfl (by decide) ?_); refine aD ?_; exact rfl
  ·exact rfl
  ·exact rfl
  apply aN (s := 50) rfl rfl rfl
  ·intro hg; apply aL (s := 51) rfl (by (rw [hg]; rfl)); apply aO; (refine aY rfl rfl (by decide) rfl rfl rfl ?_); refine aD ?_; exact rfl
  ·exact rfl
  ·exact rfl
  apply aN (s := 50) rfl rfl rfl
  ·intro hg; apply aO; (refine bG rfl ?_); refine aD ?_; exact rfl
  ·exact rfl
  ·exact rfl
  apply aN (s := 50) rfl rfl rfl
  ·intro hg; apply aL (s := 52) rfl (by (rw [hg]; rfl)); apply aL (s := 53) rfl (by (rw [hg]; rfl)); apply aO; (refine bB rfl rfl rfl ?_); refine aD ?_; exact rfl
  ·exact rfl
  ·exact rfl
  refine dy rfl rfl (aD (aC ?_))
  refine cI rfl (fun hc4 => ?_) (fun hc4 => ?_)
  ·
   have hm2 := ha.b8 _ (cW (show k.1 < a.b8.length by omega))
   refine aA (bG rfl ?_)
   refine aH rfl rfl rfl rfl rfl (by decide) ?_
   refine aI rfl rfl rfl rfl (bG rfl ?_)
   refine av rfl rfl rfl rfl rfl rfl (by omega) ?_
   refine aI rfl rfl rfl rfl ?_
   refine gR rfl rfl (by omega) (by omega) ?_
   refine bk rfl (aD (bI (aC (aA (bG rfl ?_)))))
   refine cA rfl rfl (by omega) (by omega) ?_
   refine bk rfl (aD ?_)
   refine bO (⟨k.1 + 1, by omega⟩) ?_ (by show y.moves.length - (k.1 + 1) < y.moves.length - k.1; omega)
   (refine cx.mk' ?_ ?_ <;> (repeat' (first | exact aJ | exact aK | refine aB ?_ (Ty.aU _) | refine aB ?_ (Ty.aF _) | refine aB ?_ ?_)))
   all_goals skip
   all_goals exact Ty.bE (Of hc2 hc4)
  refine aq (bI (aC (aA (bG rfl ?_))))
  refine cA rfl rfl (by omega) (by omega) ?_
  refine bk rfl (aD ?_)
  refine bO (⟨k.1 + 1, by omega⟩) ?_ (by show y.moves.length - (k.1 + 1) < y.moves.length - k.1; omega)
  (refine cx.mk' ?_ ?_ <;> (repeat' (first | exact aJ | exact aK | refine aB ?_ (Ty.aU _) | refine aB ?_ (Ty.aF _) | refine aB ?_ ?_)))
  all_goals skip
  all_goals exact Ty.bE (PX hc2 hc4)
 refine cE (aP (aP (aa rfl (aC (aE (aA (bG rfl (bk rfl (aD ?_)))))))))
 refine aC (ay (bP rfl rfl ?_))
 all_goals skip
 all_goals exact az rfl rfl (congrArg (Ty.int .i64) (by unfold cj; rw [show k.1 = y.moves.length by have := k.2; omega]))
end Go.Proofs.YtelbollidfdcjaaGreat
namespace Go.Proofs.YtelbollidfdcjaaGreat
open Go Go.T
set_option maxHeartbeats 8000000
def BU (y : ak) (a : dY) (k : Nat) : Bool := lg (cj y a (nth y.levels k).bin (nth y.levels k).day) (nth y.levels k).sacks.lo (nth y.levels k).sacks.hi
def Ei : Nat → Int
  | 0 => 1
  | k + 1 => 2 * Ei k
def iG (y : ak) (a : dY) : Nat → Int
  | 0 => 0
  | k + 1 => iG y a k + if BU y a k = true then Ei k else 0
open Classical in
noncomputable def eH (y : ak) (a : dY) : Int := if eO y (fun _ => false) a then iG y a y.levels.length else -1
section
variable {y : ak} {a : dY} {b t k : Nat} {n lo hi : Int}
theorem um : ∀ k, 1 ≤ Ei k
  | 0 => Int.le_refl 1
  | k + 1 => by have := um k; show 1 ≤ 2 * Ei k; omega
theorem Je : ∀ k, k ≤ 8 → Ei k ≤ 256 := by decide
theorem pZ : ∀ k, 0 ≤ iG y a k ∧ iG y a k < Ei k
  | 0 => ⟨Int.le_refl 0, by show (0 : Int) < 1; decide⟩
  | k + 1 => by
    have ih := pZ k
    have := um k
    show 0 ≤ iG y a k + _ ∧ iG y a k + _ < 2 * Ei k
    split <;> omega
theorem zF (h : BU y a k = true) : iG y a k + Ei k = iG y a (k + 1) := by
 show _ = iG y a k + _; rw [if_pos h]
theorem vM (h : BU y a k = false) : iG y a k = iG y a (k + 1) := by
 show _ = iG y a k + _; rw [if_neg (by rw [h]; decide), Int.add_zero]
theorem LD : 0 = iG y a 0 := rfl
theorem Om : 1 = Ei 0 := rfl
theorem M6 : 2 * Ei k = Ei (k + 1) := rfl
theorem PL (h : lg (cj y a (nth y.levels k).bin (nth y.levels k).day) (nth y.levels k).sacks.lo (nth y.levels k).sacks.hi = true) : iG y a k + Ei k = iG y a (k + 1) := zF h
theorem Pa (h : lg (cj y a (nth y.levels k).bin (nth y.levels k).day) (nth y.levels k).sacks.lo (nth y.levels k).sacks.hi = false) : iG y a k = iG y a (k + 1) := vM h
theorem rC : ∀ k, iG y a k = 0 ↔ ∀ i, i < k → BU y a i = false
  | 0 => ⟨fun _ i h => absurd h (Nat.not_lt_zero i), fun _ => rfl⟩
  | k + 1 => by
    have ih := rC k
    have hb := pZ (y := y) (a := a) k
    have hp := um k
    constructor
    · intro h
      cases hm : BU y a k with
      | true => rw [← zF hm] at h; omega
      | false =>
        rw [← vM hm] at h
        intro i hi
        rcases Nat.lt_succ_iff_lt_or_eq.1 hi with h1 | h1
        · exact ih.1 h i h1
        · rw [h1]; exact hm
    · intro h
      rw [← vM (h k (Nat.lt_succ_self k))]
      exact ih.2 fun i hi => h i (Nat.lt_succ_of_lt hi)
theorem Cm (h : lg n lo hi = false) : lo ≤ n ∧ n ≤ hi := by
 rw [kC, Bool.not_eq_false'] at h; exact iN.1 h
theorem AB (h : lg n lo hi = true) : ¬ (lo ≤ n ∧ n ≤ hi) := fun hn => by
 rw [kC, iN.2 hn] at h; cases h
theorem D2 (hr : y.cG) (hk : k < y.levels.length) : BU y a k = false ↔ (nth y.levels k).sacks.lo ≤ dB y a (nth y.levels k).bin.toNat (nth y.levels k).day.toNat ∧ dB y a (nth y.levels k).bin.toNat (nth y.levels k).day.toNat ≤ (nth y.levels k).sacks.hi := by
 obtain ⟨g1, g2, _⟩ := hr.level _ (cW hk)
 have e : cj y a (nth y.levels k).bin (nth y.levels k).day = dB y a (nth y.levels k).bin.toNat (nth y.levels k).day.toNat := by
  rw [← kL, Int.toNat_of_nonneg g1.1, Int.toNat_of_nonneg g2.1]
 unfold BU
 rw [e, kC, Bool.not_eq_false', iN]
theorem r7 (h : ¬ eO y (fun _ => false) a) : -1 = eH y a := by unfold eH; rw [if_neg h]
theorem wk (h : eO y (fun _ => false) a) : iG y a y.levels.length = eH y a := by unfold eH; rw [if_pos h]
theorem Gj (hr : y.cG) : decide (eH y a = 0) = qZ y a := by
 by_cases h : eO y (fun _ => false) a
 ·rw [← wk h]
  by_cases h0 : iG y a y.levels.length = 0
  ·rw [decide_eq_true h0]
   exact (yC ⟨h.lens, h.first, h.cont, h.b8, fun i hi _ => (D2 hr hi).1 ((rC _).1 h0 i hi)⟩).symm
  rw [decide_eq_false h0]
  exact (wu fun hf => h0 ((rC _).2 fun i hi => (D2 hr hi).2 (hf.level i hi rfl))).symm
 rw [← r7 h]
 exact (wu fun hf => h ⟨hf.lens, hf.first, hf.cont, hf.b8, fun i hi hc => by cases hc⟩).symm
theorem Oi (hb : b < y.bins.length) (h : lg (nth a.first b) (nth y.bins b).first.lo (nth y.bins b).first.hi = true) : -1 = eH y a :=
 r7 fun hf => AB h (hf.first b hb)
theorem OX (hb : b < y.bins.length) (ht : t ≤ y.D) (h : lg (cj y a (b : Nat) (t : Nat)) 0 (nth y.bins b).holds = true) : -1 = eH y a :=
 r7 fun hf => AB h (by rw [kL]; exact hf.cont b t hb ht)
theorem Og (hk : k < y.moves.length) (h : lg (nth a.b8 k) (nth y.moves k).sacks.lo (nth y.moves k).sacks.hi = true) : -1 = eH y a :=
 r7 fun hf => AB h (hf.b8 k hk)
theorem PE (hl : xY y a) (h1 : ∀ b, b < y.bins.length → ((nth y.bins b).first.lo ≤ nth a.first b ∧ nth a.first b ≤ (nth y.bins b).first.hi) ∧ ∀ t : Nat, t ≤ y.D → 0 ≤ cj y a (b : Nat) (t : Nat) ∧ cj y a (b : Nat) (t : Nat) ≤ (nth y.bins b).holds)
 (h2 : ∀ k, k < y.moves.length → (nth y.moves k).sacks.lo ≤ nth a.b8 k ∧ nth a.b8 k ≤ (nth y.moves k).sacks.hi) : iG y a y.levels.length = eH y a :=
 wk ⟨hl, fun b hb => (h1 b hb).1, fun b t hb ht => by rw [← kL]; exact (h1 b hb).2 t ht, h2, fun i hi hc => by cases hc⟩
end
attribute [local irreducible] cj eH iG Ei BU
attribute [local irreducible] gA eU lH nR gy gl g5 gr g9 nU gx nZ dN fS nJ ff nQ nth fI dQ au dK bodyPost Exit.then Exit.inBlock Code.wp Code.wpIn nY gm oC n9 g7 eM cJ cH bodyPostM dP
set_option maxRecDepth 100000 in
theorem JF (y : ak) (a : dY) (hr : y.cG) (ha : oO y a) : dK Tryz.prog 73 [dn y, yD a] (Ty.int .i64 (eH y a)) := by
 refine ah Tryz.func73 rfl (by decide) Tryz.ntmps73 (by exact Nat.le_of_ble_eq_true rfl) fun w0 M0 => ?_
 have hl1 := ha.lens.first
 have hl2 := ha.lens.b8
 have hyb := hr.bins
 have hym := hr.moves
 have hyl := hr.levels
 have hyd := hr.days
 have hD := D_eq hr
 have hams : PV y a := ⟨by omega, by omega, fun x hx => by have := ha.first x hx; omega, fun x hx => by have := ha.b8 x hx; omega⟩
 refine aE (aA (bD rfl (bD rfl (bk rfl (aD (aC (aE (aE (aA ?_)))))))))
 refine bk rfl (aD (aC (aZ ?_)))
 refine cF (fun (k : {k : Nat // k ≤ y.bins.length ∧ ∀ b, b < k → ((nth y.bins b).first.lo ≤ nth a.first b ∧ nth a.first b ≤ (nth y.bins b).first.hi) ∧ ∀ t : Nat, t ≤ y.D → 0 ≤ cj y a (b : Nat) (t : Nat) ∧ cj y a (b : Nat) (t : Nat) ≤ (nth y.bins b).holds}) => live [(2, Ty.pp (bH y)), (3, Ty.pp (mG a)), (5, Ty.int .i64 (k.1 : Nat))] []) (fun k => y.bins.length - k.1) (⟨0, Nat.zero_le _, fun i h => absurd h (Nat.not_lt_zero i)⟩) ?_ fun k => ?_
 ·(refine cx.mk' ?_ ?_ <;> (repeat' (first | exact aJ | exact aK | refine aB ?_ (Ty.aU _) | refine aB ?_ (Ty.aF _))))
 have hk := k.2.1
 refine aE (aE (aA (bG rfl ?_)))
 refine aH rfl rfl rfl rfl rfl (by decide) ?_
 refine aI rfl rfl rfl rfl (cK rfl rfl rfl (bB rfl rfl rfl (aD (aC ?_))))
 refine aj rfl (fun hc1 => ?_) (fun hc1 => ?_)
 ·
  refine aq (aC (aE (aZ (aE (aE (cP mixed rfl ?_))))))
  refine aH rfl rfl rfl rfl rfl (by decide) ?_
  refine aI rfl rfl rfl rfl (bG rfl ?_)
  refine av rfl rfl rfl rfl rfl rfl (by omega) ?_
  refine aI rfl rfl rfl rfl ?_
  refine aH rfl rfl rfl rfl rfl (by decide) ?_
  refine aI rfl rfl rfl rfl (bG rfl ?_)
  refine av rfl rfl rfl rfl rfl rfl (by omega) ?_
  refine aH rfl rfl rfl rfl rfl (by decide) ?_
  refine aH rfl rfl rfl rfl rfl (by decide) ?_
  refine aI rfl rfl rfl rfl ?_
  refine aH rfl rfl rfl rfl rfl (by decide) ?_
  refine aI rfl rfl rfl rfl (bG rfl ?_)
  refine av rfl rfl rfl rfl rfl rfl (by omega) ?_
  refine aH rfl rfl rfl rfl rfl (by decide) ?_
  refine aH rfl rfl rfl rfl rfl (by decide) ?_
  refine aI rfl rfl rfl rfl (af (mE _ _ _) rfl rfl rfl rfl rfl (aD ?_))
  refine ⟨by kernel_rfl, ?_⟩
  refine aC ?_
  refine cI rfl (fun hc2 => ?_) (fun hc2 => ?_)
  ·
   refine aE (aA (bk rfl (aD (aC (ay (aS (bC (aS (aS ?_)))))))))
   refine bC (aS (bP rfl rfl ?_))
   all_goals skip
   exact az rfl rfl (congrArg (Ty.int .i64) (Oi (b := k.1) (by omega) hc2))
  refine aq (aC (aE (aA (bk rfl (aD (aC (aZ ?_)))))))
  refine cF (fun (t : {t : Nat // t ≤ y.D + 1 ∧ ∀ s : Nat, s < t → 0 ≤ cj y a (k.1 : Nat) (s : Nat) ∧ cj y a (k.1 : Nat) (s : Nat) ≤ (nth y.bins k.1).holds}) => live [(2, Ty.pp (bH y)), (3, Ty.pp (mG a)), (5, Ty.int .i64 (k.1 : Nat)), (6, Ty.int .i64 (t.1 : Nat))] []) (fun t => y.D + 1 - t.1) (⟨0, Nat.zero_le _, fun s h => absurd h (Nat.not_lt_zero s)⟩) ?_ fun t => ?_
  ·(refine cx.mk' ?_ ?_ <;> (repeat' (first | exact aJ | exact aK | refine aB ?_ (Ty.aU _) | refine aB ?_ (Ty.aF _))))
  have ht := t.2.1
  refine aE (aE (aA (bG rfl ?_)))
  refine aH rfl rfl rfl rfl rfl (by decide) ?_
  refine aI rfl rfl rfl rfl (bB rfl rfl rfl (aD (aC ?_)))
  refine aj rfl (fun hc3 => ?_) (fun hc3 => ?_)
  ·
   refine aq (aC (aE (aZ (aE (cP mixed rfl ?_)))))
   refine aX rfl rfl rfl (by exact Nat.le_of_ble_eq_true rfl) ?_
   refine aX rfl rfl rfl (by exact Nat.le_of_ble_eq_true rfl) ?_
   refine bG rfl (bG rfl ?_)
   refine af (J6 y a hams ((k.1 : Nat) : Int) ((t.1 : Nat) : Int) (Int.natCast_nonneg _) (by omega)) rfl rfl rfl rfl rfl ?_
   refine aH rfl rfl rfl rfl rfl (by decide) ?_
   refine aI rfl rfl rfl rfl (bG rfl ?_)
   refine av rfl rfl rfl rfl rfl rfl (by omega) ?_
   refine aH rfl rfl rfl rfl rfl (by decide) ?_
   refine aI rfl rfl rfl rfl (af (mE _ _ _) rfl rfl rfl rfl rfl (aD ?_))
   refine ⟨by kernel_rfl, ?_⟩
   refine aC ?_
   refine cI rfl (fun hc4 => ?_) (fun hc4 => ?_)
   ·
    refine aE (aA (bk rfl (aD (aC (ay (bC (aS (aS (bC ?_)))))))))
    refine bC (aS (aS (bC (aS (bP rfl rfl ?_)))))
    all_goals skip
    exact az rfl rfl (congrArg (Ty.int .i64) (OX (b := k.1) (t := t.1) (by omega) (by omega) hc4))
   refine aq (bI (aC (aA (bG rfl ?_))))
   refine cA rfl rfl (by omega) (by omega) ?_
   refine bk rfl (aD ?_)
   refine bO (⟨t.1 + 1, by omega, fun s h => (Nat.lt_succ_iff_lt_or_eq.1 h).elim (t.2.2 s) fun e => by subst e; exact Cm hc4⟩) ?_ (by show y.D + 1 - (t.1 + 1) < y.D + 1 - t.1; omega)
   (refine cx.mk' ?_ ?_ <;> (repeat' (first | exact aJ | exact aK | refine aB ?_ (Ty.aU _) | refine aB ?_ (Ty.aF _))))
   all_goals skip
  refine cE (aP (aP (aa rfl (bI (aC (aA (bG rfl ?_)))))))
  refine cA rfl rfl (by omega) (by omega) ?_
  refine bk rfl (aD ?_)
  refine bO (⟨k.1 + 1, by omega, fun i h => (Nat.lt_succ_iff_lt_or_eq.1 h).elim (k.2.2 i) fun e => by subst e; exact ⟨Cm hc2, fun s h => t.2.2 s (by omega)⟩⟩) ?_ (by show y.bins.length - (k.1 + 1) < y.bins.length - k.1; omega)
  (refine cx.mk' ?_ ?_ <;> (repeat' (first | exact aJ | exact aK | refine aB ?_ (Ty.aU _) | refine aB ?_ (Ty.aF _))))
  all_goals skip
 refine cE (aP (aP (aa rfl (aC (aE (aE (aA (bk rfl (aD ?_)))))))))
 refine aC (aZ ?_)
 refine cF (fun (m : {k : Nat // k ≤ y.moves.length ∧ ∀ i, i < k → (nth y.moves i).sacks.lo ≤ nth a.b8 i ∧ nth a.b8 i ≤ (nth y.moves i).sacks.hi}) => live [(2, Ty.pp (bH y)), (3, Ty.pp (mG a)), (7, Ty.int .i64 (m.1 : Nat))] []) (fun m => y.moves.length - m.1) (⟨0, Nat.zero_le _, fun b h => absurd h (Nat.not_lt_zero b)⟩) ?_ fun m => ?_
 ·(refine cx.mk' ?_ ?_ <;> (repeat' (first | exact aJ | exact aK | refine aB ?_ (Ty.aU _) | refine aB ?_ (Ty.aF _))))
 have hm := m.2.1
 refine aE (aE (aA (bG rfl ?_)))
 refine aH rfl rfl rfl rfl rfl (by decide) ?_
 refine aI rfl rfl rfl rfl (cK rfl rfl rfl (bB rfl rfl rfl (aD (aC ?_))))
 refine aj rfl (fun hc5 => ?_) (fun hc5 => ?_)
 ·
  refine aq (aC (aE (aZ (aE (cP mixed rfl ?_)))))
  refine aH rfl rfl rfl rfl rfl (by decide) ?_
  refine aI rfl rfl rfl rfl (bG rfl ?_)
  refine av rfl rfl rfl rfl rfl rfl (by omega) ?_
  refine aI rfl rfl rfl rfl ?_
  refine aH rfl rfl rfl rfl rfl (by decide) ?_
  refine aI rfl rfl rfl rfl (bG rfl ?_)
  refine av rfl rfl rfl rfl rfl rfl (by omega) ?_
  refine aH rfl rfl rfl rfl rfl (by decide) ?_
  refine aH rfl rfl rfl rfl rfl (by decide) ?_
  refine aI rfl rfl rfl rfl ?_
  refine aH rfl rfl rfl rfl rfl (by decide) ?_
  refine aI rfl rfl rfl rfl (bG rfl ?_)
  refine av rfl rfl rfl rfl rfl rfl (by omega) ?_
  refine aH rfl rfl rfl rfl rfl (by decide) ?_
  refine aH rfl rfl rfl rfl rfl (by decide) ?_
  refine aI rfl rfl rfl rfl (af (mE _ _ _) rfl rfl rfl rfl rfl (aD ?_))
  refine ⟨by kernel_rfl, ?_⟩
  refine aC ?_
  refine cI rfl (fun hc6 => ?_) (fun hc6 => ?_)
  ·
   refine aE (aA (bk rfl (aD (aC (ay (bC (aS (aS (bC ?_)))))))))
   refine aS (bP rfl rfl ?_)
   all_goals skip
   exact az rfl rfl (congrArg (Ty.int .i64) (Og (k := m.1) (by omega) hc6))
  refine aq (bI (aC (aA (bG rfl ?_))))
  refine cA rfl rfl (by omega) (by omega) ?_
  refine bk rfl (aD ?_)
  refine bO (⟨m.1 + 1, by omega, fun i h => (Nat.lt_succ_iff_lt_or_eq.1 h).elim (m.2.2 i) fun e => by subst e; exact Cm hc6⟩) ?_ (by show y.moves.length - (m.1 + 1) < y.moves.length - m.1; omega)
  (refine cx.mk' ?_ ?_ <;> (repeat' (first | exact aJ | exact aK | refine aB ?_ (Ty.aU _) | refine aB ?_ (Ty.aF _))))
  all_goals skip
 refine cE (aP (aP (aa rfl (aC (aE (aA (bk rfl (bk rfl (aD ?_)))))))))
 refine aC (aE (aE (aA (bk rfl (aD (aC (aZ ?_)))))))
 refine cF (fun (n : {k : Nat // k ≤ y.levels.length}) => live [(2, Ty.pp (bH y)), (3, Ty.pp (mG a)), (8, Ty.int .i64 (iG y a n.1)), (9, Ty.int .i64 (Ei n.1)), (10, Ty.int .i64 (n.1 : Nat))] []) (fun n => y.levels.length - n.1) (⟨0, Nat.zero_le _⟩) ?_ fun n => ?_
 ·(refine cx.mk' ?_ ?_ <;> (repeat' (first | exact aJ | exact aK | refine aB ?_ (Ty.aU _) | refine aB ?_ (Ty.aF _) | refine aB ?_ ?_)))
  all_goals first | exact Ty.bE LD | exact Ty.bE Om
 have hn := n.2
 have hp1 := um n.1
 have hp2 := Je n.1 (by omega)
 have hmb := pZ (y := y) (a := a) n.1
 refine aE (aE (aA (bG rfl ?_)))
 refine aH rfl rfl rfl rfl rfl (by decide) ?_
 refine aI rfl rfl rfl rfl (cK rfl rfl rfl (bB rfl rfl rfl (aD (aC ?_))))
 refine aj rfl (fun hc7 => ?_) (fun hc7 => ?_)
 ·
  refine aq (aC (aE (aZ (aE ?_))))
  have hlv := hr.level _ (cW (show n.1 < y.levels.length by omega))
  refine aA ?_
  refine aH rfl rfl rfl rfl rfl (by decide) ?_
  refine aI rfl rfl rfl rfl (bG rfl ?_)
  refine av rfl rfl rfl rfl rfl rfl (by omega) ?_
  refine aX rfl rfl rfl (by exact Nat.le_of_ble_eq_true rfl) ?_
  refine bp rfl (by exact List.cons_ne_nil _ _) rfl ?_
  refine bZ rfl rfl (by decide) rfl rfl rfl rfl rfl rfl ?_
  refine aD (aC (aE (aE (cP mixed rfl ?_))))
  refine aX rfl rfl rfl (by exact Nat.le_of_ble_eq_true rfl) ?_
  refine aX rfl rfl rfl (by exact Nat.le_of_ble_eq_true rfl) ?_
  refine aR rfl rfl rfl rfl rfl (by decide) ?_
  refine aY rfl rfl (by decide) rfl rfl rfl ?_
  refine aR rfl rfl rfl rfl rfl (by decide) ?_
  refine aY rfl rfl (by decide) rfl rfl rfl ?_
  refine af (J6 y a hams (nth y.levels n.1).bin (nth y.levels n.1).day hlv.2.1.1 (by omega)) rfl rfl rfl rfl rfl ?_
  refine aR rfl rfl rfl rfl rfl (by decide) ?_
  refine aR rfl rfl rfl rfl rfl (by decide) ?_
  refine aY rfl rfl (by decide) rfl rfl rfl ?_
  refine aR rfl rfl rfl rfl rfl (by decide) ?_
  refine aR rfl rfl rfl rfl rfl (by decide) ?_
  refine aY rfl rfl (by decide) rfl rfl rfl ?_
  refine af (mE _ _ _) rfl rfl rfl rfl rfl (aD ?_)
  refine ⟨by kernel_rfl, ?_⟩
  refine aC ?_
  refine cI rfl (fun hc8 => ?_) (fun hc8 => ?_)
  ·
   refine aA (bG rfl (bG rfl ?_))
   refine cA rfl rfl (by omega) (by omega) ?_
   refine bk rfl (aD (aC (aA (bG rfl ?_))))
   refine wL rfl rfl (by omega) (by omega) ?_
   refine bk rfl (aD (bI (aC (aA (bG rfl ?_)))))
   refine cA rfl rfl (by omega) (by omega) ?_
   refine bk rfl (aD ?_)
   refine bO (⟨n.1 + 1, by omega⟩) ?_ (by show y.levels.length - (n.1 + 1) < y.levels.length - n.1; omega)
   (refine cx.mk' ?_ ?_ <;> (repeat' (first | exact aJ | exact aK | refine aB ?_ (Ty.aU _) | refine aB ?_ (Ty.aF _) | refine aB ?_ ?_)))
   all_goals skip
   all_goals first | exact Ty.bE (PL hc8) | exact Ty.bE M6
  refine aq (aC (aA (bG rfl ?_)))
  refine wL rfl rfl (by omega) (by omega) ?_
  refine bk rfl (aD (bI (aC (aA (bG rfl ?_)))))
  refine cA rfl rfl (by omega) (by omega) ?_
  refine bk rfl (aD ?_)
  refine bO (⟨n.1 + 1, by omega⟩) ?_ (by show y.levels.length - (n.1 + 1) < y.levels.length - n.1; omega)
  (refine cx.mk' ?_ ?_ <;> (repeat' (first | exact aJ | exact aK | refine aB ?_ (Ty.aU _) | refine aB ?_ (Ty.aF _) | refine aB ?_ ?_)))
  all_goals skip
  all_goals first | exact Ty.bE (Pa hc8) | exact Ty.bE M6
 refine cE (aP (aP (aa rfl (aC (aE (aA (bG rfl (bk rfl (aD ?_)))))))))
 refine aC (ay (bP rfl rfl ?_))
 all_goals skip
 exact az rfl rfl (congrArg (Ty.int .i64) ((congrArg (iG y a) (show n.1 = y.levels.length by omega)).trans (PE ha.lens (fun b hb => k.2.2 b (by omega)) (fun i hi => m.2.2 i (by omega)))))
end Go.Proofs.YtelbollidfdcjaaGreat
namespace Go.Proofs.YtelbollidfdcjaaGreat
open Go Go.T
structure o8 where
  fits : Bool
  bins : List (List Span)
  moves : List Span
  whole : List Span
  missed : List Bool
deriving Inhabited
structure o8.Shape (y : ak) (f : o8) : Prop where
  bins : f.bins.length = y.bins.length
  row : ∀ b, b < y.bins.length → (nth f.bins b).length = y.D + 1
  moves : f.moves.length = y.moves.length
  whole : f.whole.length = y.D + 1
  missed : f.missed.length = 256
def cg (y : ak) : List Int := y.bins.map (fun b => b.first.lo) ++ y.moves.map fun m => m.sacks.lo
def c9 (y : ak) : List Int := y.bins.map (fun b => b.first.hi) ++ y.moves.map fun m => m.sacks.hi
def dh (y : ak) (now : List Int) : dY := ⟨now.take y.bins.length, now.drop y.bins.length⟩
def jq (y : ak) (a : dY) (f : o8) (t k : Nat) : List (List Span) := (List.range y.bins.length).map fun b => (List.range (y.D + 1)).map fun s => if s < t ∨ s = t ∧ b < k then jU (nth (nth f.bins b) s) (cj y a (b : Nat) (s : Nat)) f.fits else nth (nth f.bins b) s
def tR (y : ak) (a : dY) (t k : Nat) : Int := cw (fun b => cj y a (b : Nat) (t : Nat)) k
def qQ (y : ak) (a : dY) (f : o8) (t : Nat) : List Span := (List.range (y.D + 1)).map fun s => if s < t then jU (nth f.whole s) (tR y a s y.bins.length) f.fits else nth f.whole s
def qu (y : ak) (a : dY) (f : o8) (k : Nat) : List Span := (List.range y.moves.length).map fun i => if i < k then jU (nth f.moves i) (nth a.b8 i) f.fits else nth f.moves i
def sM (y : ak) (a : dY) (f : o8) : o8 := ⟨true, jq y a f (y.D + 1) 0, qu y a f y.moves.length, qQ y a f (y.D + 1), f.missed⟩
noncomputable def jd (y : ak) (a : dY) (f : o8) : o8 := { f with missed := f.missed.set (eH y a).toNat true }
open Classical in
noncomputable def ue (y : ak) (a : dY) (f : o8) : o8 := if eH y a < 0 then f else if eH y a = 0 then sM y a (jd y a f) else jd y a f
def gI (y : ak) : o8 := ⟨false, List.replicate y.bins.length (List.replicate (y.D + 1) ⟨0, 0⟩), List.replicate y.moves.length ⟨0, 0⟩, List.replicate (y.D + 1) ⟨0, 0⟩, List.replicate 256 false⟩
def dO (y : ak) (k : Nat) : List Int := if k < c7 (cg y) (c9 y) then HC (cg y) (c9 y) k else cg y
def ir (y : ak) (k : Nat) : dY := dh y (dO y k)
noncomputable def dz (y : ak) : Nat → o8
  | 0 => gI y
  | k + 1 => ue y (ir y k) (dz y k)
noncomputable def gJ (y : ak) : o8 := dz y (c7 (cg y) (c9 y))
theorem kG {α : Type} [Inhabited α] {f g : Nat → α} {n k : Nat} (h : k < n) (hf : ∀ b, b < n → b ≠ k → f b = g b) : ((List.range n).map f).set k (g k) = (List.range n).map g := by
 refine p8 (by rw [List.length_set, List.length_map, List.length_map]) fun j hj => ?_
 rw [List.length_set, List.length_map, List.length_range] at hj
 rw [jf (by rw [List.length_map, List.length_range]; exact hj), eY _ hj]
 by_cases e : k = j
 ·subst e; rw [if_pos rfl, eY _ hj]
 rw [if_neg e, eY _ hj]; exact hf j hj (Ne.symm e)
theorem jF {α : Type} [Inhabited α] {l : List α} {n : Nat} (h : l.length = n) : (List.range n).map (nth l) = l := by
 refine p8 (by rw [List.length_map, List.length_range, h]) fun j hj => ?_
 rw [List.length_map, List.length_range] at hj
 exact eY _ hj
section
variable {y : ak} {a : dY} {f : o8} {t k b i : Nat}
theorem Gv (h : f.Shape y) : f.bins = jq y a f 0 0 := by
 unfold jq
 rw [← jF h.bins]
 refine List.map_congr_left fun b hb => ?_
 have hb := List.mem_range.1 hb
 rw [← jF (h.row b hb), jF (h.row b hb)]
 refine (jF (h.row b hb)).symm.trans ?_
 refine List.map_congr_left fun s _ => ?_
 rw [if_neg (by omega), jF h.bins]
theorem An : (jq y a f t k).length = y.bins.length := by unfold jq; rw [List.length_map, List.length_range]
theorem CT (hb : b < y.bins.length) : (nth (jq y a f t k) b).length = y.D + 1 := by unfold jq; rw [eY _ hb, List.length_map, List.length_range]
theorem z5 (hb : b < y.bins.length) (ht : i ≤ y.D) : nth (nth (jq y a f t k) b) i = if i < t ∨ i = t ∧ b < k then jU (nth (nth f.bins b) i) (cj y a (b : Nat) (i : Nat)) f.fits else nth (nth f.bins b) i := by
 unfold jq; rw [eY _ hb, eY _ (by omega)]
theorem Hs (hb : k < y.bins.length) (ht : t ≤ y.D) : nth (nth (jq y a f t k) k) t = nth (nth f.bins k) t := by
 rw [z5 hb ht, if_neg (by omega)]
theorem Ie (hb : k < y.bins.length) (ht : t ≤ y.D) : (jq y a f t k).set k ((nth (jq y a f t k) k).set t (jU (nth (nth f.bins k) t) (cj y a (k : Nat) (t : Nat)) f.fits)) = jq y a f t (k + 1) := by
 have e1 : (nth (jq y a f t k) k).set t (jU (nth (nth f.bins k) t) (cj y a (k : Nat) (t : Nat)) f.fits) = (List.range (y.D + 1)).map fun s => if s < t ∨ s = t ∧ k < k + 1 then jU (nth (nth f.bins k) s) (cj y a (k : Nat) (s : Nat)) f.fits else nth (nth f.bins k) s := by
  unfold jq
  rw [eY _ hb]
  have := kG (f := fun s => if s < t ∨ s = t ∧ k < k then jU (nth (nth f.bins k) s) (cj y a (k : Nat) (s : Nat)) f.fits else nth (nth f.bins k) s) (g := fun s => if s < t ∨ s = t ∧ k < k + 1 then jU (nth (nth f.bins k) s) (cj y a (k : Nat) (s : Nat)) f.fits else nth (nth f.bins k) s) (show t < y.D + 1 by omega) fun s _ hs => by
   by_cases c : s < t
   ·rw [if_pos (.inl c), if_pos (.inl c)]
   rw [if_neg (by omega), if_neg (by omega)]
  rw [if_pos (.inr ⟨rfl, Nat.lt_succ_self k⟩)] at this
  exact this
 rw [e1]
 exact kG (g := fun b => (List.range (y.D + 1)).map fun s => if s < t ∨ s = t ∧ b < k + 1 then jU (nth (nth f.bins b) s) (cj y a (b : Nat) (s : Nat)) f.fits else nth (nth f.bins b) s) hb fun b _ hn => List.map_congr_left fun s _ => by
  by_cases c : s < t ∨ s = t ∧ b < k
  ·rw [if_pos c, if_pos (by omega)]
  rw [if_neg c, if_neg (by omega)]
theorem GD (h : k = y.bins.length) : jq y a f t k = jq y a f (t + 1) 0 := by
 subst h
 unfold jq
 refine List.map_congr_left fun b hb => List.map_congr_left fun s _ => ?_
 have hb := List.mem_range.1 hb
 by_cases c : s < t + 1
 ·rw [if_pos (by omega), if_pos (.inl c)]
 rw [if_neg (by omega), if_neg (by omega)]
theorem GL (h : f.Shape y) : f.whole = qQ y a f 0 := by
 unfold qQ
 refine (jF h.whole).symm.trans (List.map_congr_left fun s _ => ?_)
 rw [if_neg (by omega)]
theorem Aw : (qQ y a f t).length = y.D + 1 := by unfold qQ; rw [List.length_map, List.length_range]
theorem Ih (ht : t ≤ y.D) : nth (qQ y a f t) t = nth f.whole t := by
 unfold qQ; rw [eY _ (by omega), if_neg (by omega)]
theorem KP (ht : t ≤ y.D) : (qQ y a f t).set t (jU (nth f.whole t) (tR y a t y.bins.length) f.fits) = qQ y a f (t + 1) := by
 have := kG (f := fun s => if s < t then jU (nth f.whole s) (tR y a s y.bins.length) f.fits else nth f.whole s) (g := fun s => if s < t + 1 then jU (nth f.whole s) (tR y a s y.bins.length) f.fits else nth f.whole s) (show t < y.D + 1 by omega) fun s _ hs => by
  by_cases c : s < t
  ·rw [if_pos c, if_pos (by omega)]
  rw [if_neg c, if_neg (by omega)]
 rw [if_pos (Nat.lt_succ_self t)] at this
 exact this
theorem GG (h : f.Shape y) : f.moves = qu y a f 0 := by
 unfold qu
 refine (jF h.moves).symm.trans (List.map_congr_left fun s _ => ?_)
 rw [if_neg (by omega)]
theorem B6 : (qu y a f k).length = y.moves.length := by unfold qu; rw [List.length_map, List.length_range]
theorem Ic (hk : k < y.moves.length) : nth (qu y a f k) k = nth f.moves k := by
 unfold qu; rw [eY _ hk, if_neg (by omega)]
theorem Ir (hk : k < y.moves.length) : (qu y a f k).set k (jU (nth f.moves k) (nth a.b8 k) f.fits) = qu y a f (k + 1) := by
 have := kG (f := fun s => if s < k then jU (nth f.moves s) (nth a.b8 s) f.fits else nth f.moves s) (g := fun s => if s < k + 1 then jU (nth f.moves s) (nth a.b8 s) f.fits else nth f.moves s) hk fun s _ hs => by
  by_cases c : s < k
  ·rw [if_pos c, if_pos (by omega)]
  rw [if_neg c, if_neg (by omega)]
 rw [if_pos (Nat.lt_succ_self k)] at this
 exact this
theorem Gf (h : f.Shape y) : (sM y a f).Shape y := ⟨An, fun _ hb => CT hb, B6, Aw, h.missed⟩
theorem nu (h : f.Shape y) : (jd y a f).Shape y := ⟨h.bins, h.row, h.moves, h.whole, by show (f.missed.set _ _).length = _; rw [List.length_set]; exact h.missed⟩
theorem AE (h : eH y a < 0) : f = ue y a f := by unfold ue; rw [if_pos h]
theorem wg (h : eH y a = 0) : sM y a (jd y a f) = ue y a f := by unfold ue; rw [if_neg (by omega), if_pos h]
theorem sv (h : ¬ eH y a < 0) (h0 : ¬ eH y a = 0) : jd y a f = ue y a f := by unfold ue; rw [if_neg h, if_neg h0]
theorem Dc (h : f.Shape y) : (ue y a f).Shape y := by
 by_cases h1 : eH y a < 0
 ·rw [← AE h1]; exact h
 by_cases h2 : eH y a = 0
 ·rw [← wg h2]; exact Gf (nu h)
 rw [← sv h1 h2]; exact nu h
theorem DE : (gI y).Shape y := ⟨List.length_replicate, fun b hb => by show (nth (List.replicate y.bins.length (List.replicate (y.D + 1) (⟨0, 0⟩ : Span))) b).length = _; rw [fY (by rw [List.length_replicate]; exact hb), List.getElem_replicate, List.length_replicate], List.length_replicate, List.length_replicate, List.length_replicate⟩
theorem lS : ∀ k, (dz y k).Shape y
  | 0 => DE
  | k + 1 => Dc (lS k)
theorem qi {α : Type} {f g : α → Int} : ∀ {l : List α}, (∀ x ∈ l, f x ≤ g x) → jB (l.map f) (l.map g)
  | [], _ => trivial
  | x :: l, h => ⟨h x List.mem_cons_self, qi fun z hz => h z (List.mem_cons_of_mem _ hz)⟩
theorem wH : ∀ {l h l' h' : List Int}, jB l h → jB l' h' → jB (l ++ l') (h ++ h')
  | [], [], _, _, _, q => q
  | _ :: _, _ :: _, _, _, ⟨a, b⟩, q => ⟨a, wH b q⟩
theorem gF (hr : y.cG) : jB (cg y) (c9 y) :=
 wH (qi fun b hb => (hr.bin b hb).2.2) (qi fun m hm => (hr.move m hm).2.2.2.2.2)
theorem gM : (cg y).length = y.bins.length + y.moves.length := by unfold cg; rw [List.length_append, List.length_map, List.length_map]
theorem nF : (c9 y).length = y.bins.length + y.moves.length := by unfold c9; rw [List.length_append, List.length_map, List.length_map]
theorem oS (hr : y.cG) : (dO y k).length = y.bins.length + y.moves.length := by
 unfold dO
 split
 ·rename_i h
  rw [(wD (tA (gF hr) h).1).1, gM]
 exact gM
theorem EW : ∀ {lo hi x : List Int}, hi.length = lo.length → x.length = lo.length → (∀ i, i < lo.length → nth lo i ≤ nth x i ∧ nth x i ≤ nth hi i) → ql lo hi x
  | [], [], [], _, _, _ => trivial
  | l :: ls, h :: hs, x :: xs, h1, h2, h3 => ⟨h3 0 (Nat.zero_lt_succ _), EW (by simpa using h1) (by simpa using h2) fun i hi => h3 (i + 1) (Nat.succ_lt_succ hi)⟩
theorem CP : ∀ {lo hi x : List Int}, ql lo hi x → ∀ i, i < lo.length → nth lo i ≤ nth x i ∧ nth x i ≤ nth hi i
  | _ :: _, _ :: _, _ :: _, ⟨h, _⟩, 0, _ => h
  | _ :: _, _ :: _, _ :: _, ⟨_, h⟩, i + 1, hi => CP h i (Nat.lt_of_succ_lt_succ hi)
theorem Cs (h : b < y.bins.length) : nth (cg y) b = (nth y.bins b).first.lo := by
 unfold cg; rw [gS (by rw [List.length_map]; exact h), mW _ h]
theorem C8 (h : b < y.bins.length) : nth (c9 y) b = (nth y.bins b).first.hi := by
 unfold c9; rw [gS (by rw [List.length_map]; exact h), mW _ h]
theorem Dp (h : i < y.moves.length) : nth (cg y) (y.bins.length + i) = (nth y.moves i).sacks.lo := by
 unfold cg
 have := j5 (l := y.bins.map fun b => b.first.lo) (k := y.moves.map fun m => m.sacks.lo) (i := i)
 rw [List.length_map] at this
 rw [this, mW _ h]
theorem DJ (h : i < y.moves.length) : nth (c9 y) (y.bins.length + i) = (nth y.moves i).sacks.hi := by
 unfold c9
 have := j5 (l := y.bins.map fun b => b.first.hi) (k := y.moves.map fun m => m.sacks.hi) (i := i)
 rw [List.length_map] at this
 rw [this, mW _ h]
theorem yT {α : Type} [Inhabited α] {l : List α} {n : Nat} (h : i < n) : nth (l.take n) i = nth l i := by
 unfold nth; rw [List.getD_eq_getElem?_getD, List.getD_eq_getElem?_getD, List.getElem?_take, if_pos h]
theorem CJ (hr : y.cG) {x : List Int} (h : ql (cg y) (c9 y) x) : oO y (dh y x) := by
 obtain ⟨h1, _⟩ := wD h
 rw [gM] at h1
 have hn := CP h
 rw [gM] at hn
 refine ⟨⟨by show (x.take _).length = _; rw [List.length_take]; omega, by show (x.drop _).length = _; rw [List.length_drop]; omega⟩, fun v hv => ?_, fun v hv => ?_⟩
 ·obtain ⟨i, hi, rfl⟩ := qO (l := x.take y.bins.length) hv
  rw [List.length_take] at hi
  rw [yT (by omega)]
  have := hn i (by omega)
  rw [Cs (by omega), C8 (by omega)] at this
  have hb := (hr.bin _ (cW (show i < y.bins.length by omega))).2.1
  omega
 obtain ⟨i, hi, rfl⟩ := qO (l := x.drop y.bins.length) hv
 rw [List.length_drop] at hi
 rw [lV]
 have := hn (y.bins.length + i) (by omega)
 rw [Dp (by omega), DJ (by omega)] at this
 have hb := (hr.move _ (cW (show i < y.moves.length by omega))).2.2.2.2.1
 omega
theorem LP (hr : y.cG) : ql (cg y) (c9 y) (dO y k) := by
 unfold dO
 split
 ·rename_i h; exact (tA (gF hr) h).1
 exact E1 (gF hr)
theorem vX (hr : y.cG) : oO y (ir y k) := CJ hr (LP hr)
theorem KQ (h : eO y (fun _ => false) a) : ql (cg y) (c9 y) (a.first ++ a.b8) := by
 have h1 := h.lens.first
 have h2 := h.lens.b8
 refine EW (by rw [gM, nF]) (by rw [List.length_append, gM]; omega) fun i hi => ?_
 rw [gM] at hi
 by_cases c : i < y.bins.length
 ·rw [Cs c, C8 c, gS (by omega)]; exact h.first i c
 obtain ⟨j, rfl⟩ : ∃ j, i = y.bins.length + j := ⟨i - y.bins.length, by omega⟩
 rw [Dp (by omega), DJ (by omega), ← h1, j5]
 exact h.b8 j (by omega)
theorem F7 (h : xY y a) : dh y (a.first ++ a.b8) = a := by
 unfold dh
 rw [← h.first, List.take_left, List.drop_left]
theorem IT (hr : y.cG) (h : eO y (fun _ => false) a) : ∃ k, k < c7 (cg y) (c9 y) ∧ ir y k = a := by
 have hb := KQ h
 refine ⟨_, ni hb, ?_⟩
 unfold ir dO
 rw [if_pos (ni hb), xF (gF hr) hb, F7 h.lens]
theorem qK (hr : y.cG) : eH y a = 0 ↔ eO y (fun _ => true) a := by
 have := Gj (a := a) hr
 constructor
 ·intro h; rw [decide_eq_true h] at this; exact LY this.symm
 intro h; rw [yC h] at this; exact of_decide_eq_true this
theorem LV (hr : y.cG) : eH y a < 256 := by
 by_cases c : eO y (fun _ => false) a
 ·rw [← wk c]
  have := (pZ (y := y) (a := a) y.levels.length).2
  have := Je y.levels.length hr.levels
  omega
 rw [← r7 c]; omega
theorem F4 (h : eO y (fun _ => true) a) : eO y (fun _ => false) a := ⟨h.lens, h.first, h.cont, h.b8, fun _ _ hc => by cases hc⟩
theorem E6 (hr : y.cG) {s : o8 → Span} {v : dY → Int} (h1 : ∀ a f, f.Shape y → s (sM y a f) = jU (s f) (v a) f.fits) (h2 : ∀ a f, s (jd y a f) = s f) :
 ((gJ y).fits = true ↔ ∃ a, eO y (fun _ => true) a) ∧ ((gJ y).fits = true → xL y (fun _ => true) v (s (gJ y))) := by
 have key := FA (good := fun k => eH y (ir y k) = 0) (v := fun k => v (ir y k)) (s := fun k => s (dz y k)) (is := fun k => (dz y k).fits) (n := c7 (cg y) (c9 y)) rfl
  (fun k _ hg => by
   show (ue y (ir y k) (dz y k)).fits = true ∧ s (ue y (ir y k) (dz y k)) = _
   rw [← wg hg]
   exact ⟨rfl, by rw [h1 _ _ (nu (lS k)), h2]; rfl⟩)
  (fun k _ hg => by
   show (ue y (ir y k) (dz y k)).fits = _ ∧ s (ue y (ir y k) (dz y k)) = _
   by_cases c : eH y (ir y k) < 0
   ·rw [← AE c]; exact ⟨rfl, rfl⟩
   rw [← sv c hg]; exact ⟨rfl, h2 _ _⟩)
  _ (Nat.le_refl _)
 obtain ⟨k1, k2⟩ := key
 have num : ∀ {a}, eO y (fun _ => true) a → ∃ j, j < c7 (cg y) (c9 y) ∧ eH y (ir y j) = 0 ∧ ir y j = a := fun {a} h => by
  obtain ⟨j, hj, ej⟩ := IT hr (F4 h)
  exact ⟨j, hj, by rw [ej]; exact (qK hr).2 h, ej⟩
 refine ⟨k1.trans ⟨fun ⟨j, _, hj⟩ => ⟨_, (qK hr).1 hj⟩, fun ⟨a, h⟩ => ?_⟩, fun h => ?_⟩
 ·obtain ⟨j, hj, g, _⟩ := num h; exact ⟨j, hj, g⟩
 obtain ⟨⟨i, _, gi, ei⟩, ⟨j, _, gj, ej⟩, hall⟩ := k2 h
 refine ⟨⟨_, (qK hr).1 gi, ei⟩, ⟨_, (qK hr).1 gj, ej⟩, fun a ha => ?_⟩
 obtain ⟨k, hk, g, e⟩ := num ha
 have := hall k hk g
 rw [e] at this; exact this
theorem sZ : (gJ y).Shape y := lS _
theorem Kx (hr : y.cG) (hb : b < y.bins.length) (ht : t ≤ y.D) : (gJ y).fits = true → xL y (fun _ => true) (fun a => dB y a b t) (nth (nth (gJ y).bins b) t) :=
 (E6 hr (s := fun f => nth (nth f.bins b) t) (v := fun a => dB y a b t) (fun a f _ => by
  show nth (nth (jq y a f (y.D + 1) 0) b) t = _
  rw [z5 hb ht, if_pos (.inl (by omega)), kL]) (fun _ _ => rfl)).2
theorem IB (hr : y.cG) : (gJ y).fits = true ↔ ∃ a, eO y (fun _ => true) a :=
 (E6 hr (s := fun f => nth (nth f.bins 0) 0) (v := fun a => dB y a 0 0) (fun a f _ => by
  show nth (nth (jq y a f (y.D + 1) 0) 0) 0 = _
  rw [z5 (by have := hr.bins; omega) (Nat.zero_le _), if_pos (.inl (by omega)), kL]) (fun _ _ => rfl)).1
end
end Go.Proofs.YtelbollidfdcjaaGreat
namespace Go.T
open Go Go.RowKit
theorem KO {α : Type} {E : El α} (hs : E.size = 1) {xs ys : List α} {o n i : Nat} {t : Ty} (he : (xs.drop o).take n = ys) (hi : (ys.flatMap E.tys)[i]? = some t) : i < n ∧ (xs.flatMap E.tys)[o + i]? = some t := by
 subst he
 rw [(v8 hs (xs.drop o) n).1, (v8 hs xs o).2] at hi
 have hlt : i < n := by
  have := (List.getElem?_eq_some_iff.1 hi).1
  rw [List.length_take] at this; omega
 rw [List.getElem?_take, if_pos hlt, List.getElem?_drop] at hi
 exact ⟨hlt, hi⟩
theorem pW {A : As} {L : List Nat} {α : Type} {E : El α} {T tg o n r : Nat} {xs ys : List α} (hc : A.tag tg = some (.vec E T xs)) (hs : E.size = 1) (he : (xs.drop o).take n = ys) (hn : o + n ≤ xs.length) (h1 : fj tg) (hL : L.contains tg = true) : qg A L (.win tg o n r) (.sl E ys) := fun w M v wf ht hd => by
 have hL' : tg ∈ L := by simpa using hL
 have hv : fS E T xs w M tg := ht _ (cZ hc) hL'
 obtain ⟨b, o', c, hb, e, g1, g2, g3⟩ := hd
 have hyl : ys.length = n := by rw [← he, List.length_take, List.length_drop]; omega
 subst hyl
 refine ⟨_, c, e, by omega, g2, fun hpos => ⟨b, o', rfl, zV hb hL', wf.lt b _ hb, fun i t hi => ?_⟩⟩
 obtain rfl := g3 (by omega)
 obtain ⟨_, hi'⟩ := KO hs he hi
 obtain ⟨u, hu, hdu⟩ := nD wf h1 hb hv hi'
 refine ⟨u, hu, t.mono (S := fun _ => True) (K := fun _ => True) (w := w) ⟨Nat.le_refl _, rfl, rfl, rfl, fun b _ hm => ⟨jN hm, rfl⟩, fun b t _ h => absurd trivial h⟩ ?_ ?_ hdu⟩
 ·intro u hu
  have : u ∈ bw (xs.flatMap E.tys) := List.mem_flatMap.2 ⟨t, List.mem_of_getElem? hi', hu⟩
  rw [E.cV] at this; cases this
 intro u hu
 have : u ∈ bX (xs.flatMap E.tys) := List.mem_flatMap.2 ⟨t, List.mem_of_getElem? hi', hu⟩
 rw [E.cO] at this; cases this
theorem KZ {ρ : List (Nat × Nat)} {a b o n r : Nat} (h : (a, b) ∈ ρ) : Conv ρ (.win a o n r) (.win b o n r) := fun _ _ _ _ _ _ hre ⟨k, o', c, hk, e⟩ => ⟨k, o', c, hre.some _ h k hk, e⟩
theorem CK {α : Type} {E : El α} {T J J' : Nat} {w : World} {M M' : bA} (h1 : ∀ b, M b = some J → M' b = some J') (h2 : ∀ b, M b = none → M' b = none) : ∀ {q : List (List α)} {vs : List Value}, cB w M (q.map fun x => Ty.fP E T J x) vs → cB w M' (q.map fun x => Ty.fP E T J' x) vs
  | [], [], _ => trivial
  | _ :: _, _ :: _, ⟨h, hs⟩ => ⟨h.imp id fun ⟨g, off, c, cur, e, hg, hh, m1, m2, m3, m4⟩ => ⟨g, off, c, cur, e, h1 g hg, hh, m1, m2, m3, gY h2 (E.cV _) (E.cO _) m4⟩, CK h1 h2 hs⟩
theorem HY {ρ : List (Nat × Nat)} {a b T2 T J J' : Nat} {α : Type} {E : El α} {q q' : List (List α)} (h : (a, b) ∈ ρ) (h' : (J, J') ∈ ρ) (e : q = q') : oc ρ a (.mx E T2 T J q) b (.mx E T2 T J' q') := fun _ _ _ _ _ hre ⟨g, cs, h1, h2, h3, h4⟩ => by
 subst e
 exact ⟨g, cs, hre.some _ h g h1, h2, CK (fun k hk => hre.some _ h' k hk) hre.none h3, h4⟩
def xj.Dg {α : Type} (ER : El (List α)) (E : El α) (Ti : Nat) (hE : ∀ x, ER.tys x = [Ty.sl E x]) (hs : ER.size = 1) : xj (List α) where
  E := ER
  own J x := [Ty.row E Ti J x]
  olen _ _ := hs.symm
  deps J x u hu := by simpa [bw, Ty.row] using hu
  cdeps J x u hu := by simpa [bX, Ty.row] using hu
  oones _ _ := rfl
  qL J x w M M' vs wf h1 h2 h := by
    rw [hE x]
    match vs, h with
    | [_], ⟨b, _⟩ => exact ⟨w5 wf b h1 h2, trivial⟩
  ren J J' x w M M' vs h1 h2 h := by
    match vs, h with
    | [_], ⟨b, _⟩ => exact ⟨wP b h1 h2, trivial⟩
  mine J x w M vs h g hg := by
    match vs, h with
    | [v2], ⟨⟨_, _, _, hM⟩, _⟩ =>
      cases e2 : v2.ownBlock with
      | none => simp [e2] at hg
      | some b => simp [e2] at hg; subst hg; exact hM _ e2
theorem AN {α : Type} {E : El α} {tg J Ti : Nat} {sh : List α} : JC tg J [Ty.row E Ti tg sh] [Ty.row E Ti J sh] := fun w M vs h => by
  match vs, h with
  | [v2], ⟨b, _⟩ =>
    obtain ⟨cs, h1, h2, hM⟩ := id b
    refine ⟨⟨wP b (fun k hk => by simp [mD, hk]) (fun k hk => by simp [mD, hk]), trivial⟩, ?_, fun g hg => ?_⟩
    · cases e2 : v2.ownBlock <;> simp [e2]
    · cases e2 : v2.ownBlock with
      | none => simp [e2] at hg
      | some b => simp [e2] at hg; subst hg; exact hM _ e2
theorem Ty.L0 {α : Type} {E : xj α} {T tg J n : Nat} {xs : List α} (hn : xs.length = n) : (Ty.xR E T tg J xs).Sub (Ty.vs tg n) := fun w M v ⟨cs, h1, h2, _, h3⟩ => by
 subst hn
 rcases h1.2 with ⟨e, h0⟩ | ⟨g, cap, cur, ex, _, hh, hn1, hcap, _, htk⟩
 ·exact .inl ⟨h0, e⟩
 exact .inr ⟨g, cap, h3 g (by rw [ex]; rfl), ex, hn1, hcap⟩
theorem H8 {α : Type} {E : El α} {T J : Nat} {xs : List α} {w : World} {M : bA} {v : Value} (h : ff E T J xs w M v) : uI E T J xs w M v := by
 obtain ⟨cs, h1, h2, h3⟩ := h
 rcases h1.2 with ⟨e, h0⟩ | ⟨g, cap, cur, ex, _, hh, hn1, hcap, hsz, htk⟩
 ·exact .inl ⟨List.length_eq_zero_iff.1 h0, e⟩
 refine .inr ⟨g, 0, cap, cur, ex, h3 g (by rw [ex]; rfl), hh, hn1, hcap, by omega, ?_⟩
 rw [List.drop_zero, htk]; exact h2
theorem E7 {size : Nat} {v : Value} {g e : Nat} (h : jM size v = some (g, e)) : v.ownBlock = some g := by
  cases v with
  | slice a n c =>
    cases a with
    | none => simp [jM] at h
    | some a => simp [jM] at h; simp [Value.ownBlock, h.1]
  | _ => simp [jM] at h
theorem uT {size : Nat} : ∀ {cs : List Value}, (cs.filterMap Value.ownBlock).Nodup → y6 size cs
  | [], _, i, _, _, _, _, _, _, hi, _, _, _ => by simp at hi
  | c :: cs, h, i, j, v, u, g, e, e', hi, hj, hv, hu => by
    have hv' := E7 hv
    have hu' := E7 hu
    have mem : ∀ {x : Value} {k : Nat}, cs[k]? = some x → x.ownBlock = some g → g ∈ cs.filterMap Value.ownBlock := fun hk hx => List.mem_filterMap.2 ⟨_, List.mem_of_getElem? hk, hx⟩
    have hcs : (cs.filterMap Value.ownBlock).Nodup := by
      rw [List.filterMap_cons] at h
      split at h
      · exact h
      · exact (List.nodup_cons.1 h).2
    have hno : ∀ {k : Nat} {x : Value}, c.ownBlock = some g → cs[k]? = some x → x.ownBlock = some g → False := fun hc hk hx => by
      rw [List.filterMap_cons, hc] at h
      exact (List.nodup_cons.1 h).1 (mem hk hx)
    cases i with
    | zero =>
      simp only [List.getElem?_cons_zero, Option.some.injEq] at hi
      subst hi
      cases j with
      | zero => rfl
      | succ j => rw [List.getElem?_cons_succ] at hj; exact (hno hv' hj hu').elim
    | succ i =>
      rw [List.getElem?_cons_succ] at hi
      cases j with
      | zero =>
        simp only [List.getElem?_cons_zero, Option.some.injEq] at hj
        subst hj
        exact (hno hu' hi hv').elim
      | succ j =>
        rw [List.getElem?_cons_succ] at hj
        rw [uT hcs i j v u g e e' hi hj hv hu]
section
variable {P : Program} {fr : Fr} {A : As} {c : Code} {Q : Exit → Act → World → Prop}
theorem Jr {α : Type} {ER : El (List α)} {E : El α} {T T2 J tg c0 Tc : Nat} {l : List Ty} {q : List (List α)} {hE : ∀ x, ER.tys x = [Ty.sl E x]} {hs : ER.size = 1} (i : Nat) (hc : A.tag c0 = some (.cells Tc l)) (hi : l[i]? = some (.xR (xj.Dg ER E T hE hs) T2 tg J q)) (hq : 0 < q.length)
    (h : fI P fr c ⟨A.slots, (tg, .mx E T2 T J q) :: A.tags⟩ Q) : fI P fr c A Q := fun a w ⟨M, ok, hsl, ht⟩ => by
  refine h a w ⟨M, ok, hsl, fun x hx => ?_⟩
  rcases List.mem_cons.1 hx with rfl | hx
  · obtain ⟨b, cs, hb, hh, hd⟩ := ht _ (cZ hc)
    obtain ⟨v, _, ⟨ds, h1, h2, h4, h3⟩⟩ := dR hd i _ hi
    have key : ∀ (q : List (List α)) (vs : List Value), cB w M (q.flatMap fun x => [Ty.row E T J x]) vs → cB w M (q.map fun x => Ty.fP E T J x) vs := by
      intro q
      induction q with
      | nil => intro vs h; exact h
      | cons x q ih =>
        intro vs h
        match vs, h with
        | v :: vs, ⟨h1, h2⟩ => exact ⟨H8 h1, ih vs h2⟩
    rcases h1.2 with ⟨e, h0⟩ | ⟨g, cap, cur, ex, _, hh, hn1, hcap, _, htk⟩
    · omega
    · have hg : M g = some tg := h3 g (by rw [ex]; rfl)
      have e1 : (xj.Dg ER E T hE hs).E.size = 1 := hs
      rw [e1, Nat.mul_one] at htk
      exact ⟨g, cur, hg, hh, by rw [htk]; exact key q ds h2, by rw [htk]; exact uT h4⟩
  · exact ht x hx
end
section
variable {P : Program} {fr : Fr} {ops : Array Oper} {A : As} {rest : List Oper} {K : As → List (As × Fx) → Prop} {d : Nat} {t ty' : TypeId} {p : String} {e : Array Edge} [T : kZ P]
theorem uL {x y : Operand} {kd : IntKind} {tg o n r j el : Nat} {ti te : TI} (hx : A.op fr x = .win tg o n r) (hy : A.op fr y = .int kd j) (hT : T.eK[ty']? = some ti) (hk : ti.k = .slice el) (hE : T.eK[el]? = some te) (hs : te.size = 1) (hj : j < n)
 (h : au P fr ops rest (A.set d (.ptr tg (o + j))) fun A' l' => K A' ((A, { d := some d, ty := .ptr tg (o + j), rs := cC x ++ cC y }) :: l')) : au P fr ops (⟨some d, .indexAddr ty' x y, t, p, e, none⟩ :: rest) A K :=
 bJ (bS rfl rfl fun a w M _ hr _ => by
  obtain ⟨hdx, hdy⟩ := op2 hr
  rw [hx] at hdx; rw [hy] at hdy
  have ey : a.eval y = .int kd j := hdy
  obtain ⟨b, o', c, hb, ex, g1, g2, g3⟩ := hdx
  obtain rfl := g3 (by omega)
  exact ⟨_, by simp only [execOp, ex, ey, Sem.run_bind, hU hT hk hE (Int.natCast_nonneg j) (show (j : Int).toNat < n from hj)]; rfl, b, hb, by simp [hs]⟩) h
theorem MG {α : Type} {E : El α} {x0 : α} {x y : Operand} {k k' : IntKind} {n : Int} {el : Nat} {ti te : TI} (hx : A.op fr x = .int k n) (hy : A.op fr y = .int k' n) (hT : T.eK[ty']? = some ti) (hk : ti.k = .slice el) (hE : T.eK[el]? = some te) (hs : te.size = E.size) (hz : te.zero.map Ty.jI = E.tys x0) (hzp : 0 < te.size) (hp : fr.pass.contains (d + 1) = false)
    (hn : 0 ≤ n) (hlen : (te.bytes : Int) * n ≤ 281474976710656) (hlen' : n ≤ 9223372036854775807)
    (h : au P fr ops rest (A.after { d := some d, ty := .row E el (d + 1) (List.replicate n.toNat x0), K := [d + 1], rs := cC x ++ cC y }) fun A' l' => K A' ((A, { d := some d, ty := .row E el (d + 1) (List.replicate n.toNat x0), K := [d + 1], rs := cC x ++ cC y }) :: l')) :
    au P fr ops (⟨some d, .makeSlice ty' x y, t, p, e, none⟩ :: rest) A K := by
  refine ⟨_, fZ rfl rfl (by simp) (by simp) (by simp at hp ⊢; exact hp) fun a w M wf hr _ => ?_, h⟩
  obtain ⟨hdx, hdy⟩ := op2 hr
  rw [hx] at hdx; rw [hy] at hdy
  have ex : a.eval x = .int k n := hdx
  have ey : a.eval y = .int k' n := hdy
  obtain ⟨_, D, _, hD, hkd, _⟩ := cv hT
  rw [hk] at hkd
  cases D <;> simp only [TK.of, reduceCtorEq, TK.slice.injEq] at hkd
  rename_i el0
  have hel : el0 = el := hkd
  subst hel
  obtain ⟨i, _, hi, _, _, hsz, hby, hze⟩ := cv hE
  have hzl : te.zero.length = te.size := by rw [← List.length_map (f := Ty.jI), hz, E.len, hs]
  obtain ⟨z, hiz⟩ : ∃ z, i.zero = some z := by
    cases hiz : i.zero with
    | none => rw [hiz] at hze; rw [← hze] at hzl; simp at hzl; omega
    | some z => exact ⟨z, rfl⟩
  rw [hiz] at hze
  have hrun := run_make (P := P) w ty' _ i z hD hi hiz k k' n n hn (Int.le_refl _) (by rw [hby]; exact hlen) hlen'
  obtain ⟨h1, h2, h3⟩ := jY wf (.cells (madeCells z.cells (n.toNat * i.size)) el0) (d + 1)
  refine ⟨.slice (some ⟨w.heap.size, 0, none⟩) n.toNat n.toNat, _, by simp [execOp, ex, ey, hrun], _, h1, h2, ?_, by simp⟩
  have hzs : z.cells.size = te.size := by rw [← hzl, ← hze]; simp
  have hcl : (madeCells z.cells (n.toNat * i.size)).size = n.toNat * E.size := by simp [madeCells, hsz, hs]
  refine ⟨(madeCells z.cells (n.toNat * i.size)).toList, ⟨by rw [Array.length_toList, hcl, List.length_replicate], .inr ⟨w.heap.size, n.toNat, _, by rw [List.length_replicate], Nat.zero_le _, gO _ _, by rw [List.length_replicate]; exact Nat.le_refl _, by simp only [maxLen]; omega, hcl, ?_⟩⟩, ?_, fun b hb => ?_⟩
  · rw [List.length_replicate]
    exact List.take_of_length_le (by rw [Array.length_toList, hcl]; exact Nat.le_refl _)
  · refine fR (by rw [ct, List.length_replicate, Array.length_toList, hcl]) fun j ty hj => ?_
    have hjl : j < n.toNat * te.size := by
      have := (List.getElem?_eq_some_iff.1 hj).1
      rw [ct, List.length_replicate, ← hs] at this; exact this
    have hq : j / te.size < n.toNat := Nat.div_lt_of_lt_mul (by rw [Nat.mul_comm]; exact hjl)
    have hm : j % te.size < te.size := Nat.mod_lt _ hzp
    have hget := oV E (List.replicate n.toNat x0) (j / te.size) (j % te.size) (by simpa using hq) (by rw [← hs]; exact hm)
    have hdecomp : j / te.size * E.size + j % te.size = j := by rw [← hs, Nat.mul_comm]; exact Nat.div_add_mod j te.size
    rw [hdecomp, hj] at hget
    simp only [List.getElem?_replicate, hq, if_true, Option.bind_some] at hget
    rw [← hz, List.getElem?_map] at hget
    obtain ⟨u, hu, hty⟩ := Option.map_eq_some_iff.1 hget.symm
    refine ⟨u, ?_, hty ▸ kE _ _ _⟩
    have hu' : z.cells[j % z.cells.size]? = some u := by rw [hzs]; rw [← hze] at hu; simpa using hu
    simp only [madeCells, Array.toList_map, List.getElem?_map, Array.toList_range, hsz]
    rw [List.getElem?_range (by omega)]
    simp only [Option.map_some]
    rw [getElem!_def, hu']
  · simp only [Value.ownBlock, Option.some.injEq] at hb
    subst hb
    exact h3
theorem oZ {α : Type} [Inhabited α] {E : El α} {xs : List α} {x : Operand} {tg off Tb : Nat} {ti : TI} {ty : Ty} (i o : Nat) (hx : A.op fr x = .ptr tg off) (he : off = i * E.size + o) (hc : A.tag tg = some (.vec E Tb xs)) (h1 : fj tg) (hT : T.eK[ty']? = some ti) (ha : ti.k.agg = false) (hi : i < xs.length) (hl : (E.tys (nth xs i))[o]? = some ty)
 (h : au P fr ops rest (A.set d ty) fun A' l => K A' ((A, { d := some d, ty := ty, rs := cC x, rt := [tg] }) :: l)) : au P fr ops (⟨some d, .load ty' x, t, p, e, none⟩ :: rest) A K :=
 wI (by rw [hx, he]) hc h1 hT ha hi hl h
theorem nN {α : Type} [Inhabited α] {E : El α} {xs : List α} {x y : Operand} {tg off Tb : Nat} {ti : TI} {ty : Ty} {z : α} (i o : Nat) (hx : A.op fr x = .ptr tg off) (he : off = i * E.size + o) (hc : A.tag tg = some (.vec E Tb xs)) (h1 : fj tg) (hT : T.eK[ty']? = some ti) (hsz : ti.size = 1) (hy : A.op fr y = ty) (ho : ty.one = true) (hi : i < xs.length) (hoe : o < E.size)
 (hdt : kU ty.cdeps [tg] = true) (hl : (E.tys (nth xs i)).set o ty = E.tys z)
 (h : au P fr ops rest (A.after { d := none, S := [tg], sets := [(tg, .vec E Tb (xs.set i z))], rs := cC x ++ cC y, rt := [tg] }) fun A' l'' => K A' ((A, { d := none, S := [tg], sets := [(tg, .vec E Tb (xs.set i z))], rs := cC x ++ cC y, rt := [tg] }) :: l'')) :
 au P fr ops (⟨none, .store ty' x y, t, p, e, none⟩ :: rest) A K :=
 pJ (by rw [hx, he]) hc h1 hT hsz hy ho hi hoe hdt hl h
variable {α : Type} {E : El α} {Tb J tg i : Nat} {q : List (List α)} {xs : List α}
theorem Cx [Inhabited α] {x : Operand} {k j : Nat} {ti : TI} (hx : A.op fr x = .me E Tb tg J i xs k) (hk : k = j * E.size) (hT : T.eK[ty']? = some ti) (ha : ti.k.agg = true) (hsz : ti.size = E.size) (hj : j < xs.length)
 (h : au P fr ops rest (A.set d (.agg (E.tys (nth xs j)))) fun A' l => K A' ((A, { d := some d, ty := .agg (E.tys (nth xs j)), rs := cC x }) :: l)) : au P fr ops (⟨some d, .load ty' x, t, p, e, none⟩ :: rest) A K :=
 bJ (bS rfl rfl fun a w M wf hr ht => by
  have hdx := cR (x := x) (fun _ h => h) hr
  rw [hx] at hdx
  obtain ⟨u, g, off, n, c, ⟨h1, _⟩, eu, ex⟩ := hdx
  rcases h1 with ⟨h0, _⟩ | ⟨g', off', c', cur, ex', hg, hh, hn, _, _, hd⟩
  ·subst h0; simp at hj
  rw [eu] at ex'
  simp only [Value.slice.injEq, Option.some.injEq, Addr.mk.injEq, and_true] at ex'
  obtain ⟨⟨rfl, rfl⟩, rfl, rfl⟩ := ex'
  obtain ⟨cs, g1, g2, g3⟩ := rB (l := E.tys (nth xs j)) (b := g) (q := off + j * E.size) (off := 0) (n := ti.size) (m := E.tys (nth xs j)) (fun o t ho => xp hh hd hj ho) (by rw [List.drop_zero, hsz, ← E.len (nth xs j), List.take_length]) (by rw [E.len, hsz])
  subst hk
  exact ⟨.agg cs.toArray, by simp only [execOp, ex]; rw [Sem.run_bind, iC (off := off + j * E.size) hT ha g1 (by simpa using g3)]; rfl, cs.toArray, rfl, by simpa using g2⟩) h
theorem k9 {x y : Operand} {kd : IntKind} {tg o n r el : Nat} {j : Int} {ti te : TI} (hx : A.op fr x = .win tg o n r) (hy : A.op fr y = .int kd j) (hT : T.eK[ty']? = some ti) (hk : ti.k = .slice el) (hE : T.eK[el]? = some te) (hs : te.size = 1) (h0 : 0 ≤ j) (hj : j.toNat < n)
 (h : au P fr ops rest (A.set d (.ptr tg (o + j.toNat))) fun A' l' => K A' ((A, { d := some d, ty := .ptr tg (o + j.toNat), rs := cC x ++ cC y }) :: l')) : au P fr ops (⟨some d, .indexAddr ty' x y, t, p, e, none⟩ :: rest) A K :=
 uL (j := j.toNat) hx (by rw [hy, Int.toNat_of_nonneg h0]) hT hk hE hs hj h
theorem BO {x y : Operand} {k j T2 : Nat} {ti : TI} {z : α} (hx : A.op fr x = .me E Tb tg J i xs k) (hk : k = j * E.size) (hc : A.tag tg = some (.mx E T2 Tb J q)) (h1 : fj tg) (hT : T.eK[ty']? = some ti) (hsz : ti.size = E.size) (hy : A.op fr y = .agg (E.tys z)) (hi : i < q.length) (hj : j < xs.length) (hJ : 4096 ≤ J)
 (h : au P fr ops rest (A.after { d := none, S := [tg, J], sets := [(tg, .mx E T2 Tb J (q.set i (xs.set j z)))], rs := cC x ++ cC y, rt := [tg] }) fun A' l'' => K A' ((A, { d := none, S := [tg, J], sets := [(tg, .mx E T2 Tb J (q.set i (xs.set j z)))], rs := cC x ++ cC y, rt := [tg] }) :: l'')) :
 au P fr ops (⟨none, .store ty' x y, t, p, e, none⟩ :: rest) A K := by
 refine ⟨_, lR rfl rfl rfl (by simp) (by simp; exact ⟨h1.1, by omega⟩) (by simp) fun a w M wf hr ht => ?_, h⟩
 subst hk
 obtain ⟨hdx, hdy⟩ := op2 hr
 rw [hx] at hdx; rw [hy] at hdy
 obtain ⟨u, g, off, n, c, ⟨hrow, hlk⟩, eu, ex⟩ := hdx
 obtain ⟨vs, ey, hvs⟩ := hdy
 have hcont : OL E T2 Tb J q w M tg := ht _ (cZ hc) (by simp)
 have hown := NL wf h1 hi hcont hlk
 obtain ⟨b, cs, hb, hhb, hvals, hap⟩ := hcont
 rcases hrow with ⟨h0, _⟩ | ⟨g', off', c', cur, ex', hg, hh, hn, hcm, hfit, hd⟩
 ·subst h0; simp at hj
 have eu2 := eu
 rw [ex'] at eu2
 simp only [Value.slice.injEq, Option.some.injEq, Addr.mk.injEq, and_true] at eu2
 obtain ⟨⟨rfl, rfl⟩, rfl, rfl⟩ := eu2
 have hvl : vs.size = E.size := by have := cU hvs; rw [E.len] at this; simpa using this
 have hkx : j * E.size + E.size ≤ xs.length * E.size := by
  have : (j + 1) * E.size ≤ xs.length * E.size := Nat.mul_le_mul_right _ hj
  rw [Nat.succ_mul] at this; omega
 have hcx : xs.length * E.size ≤ c' * E.size := Nat.mul_le_mul_right _ hn
 have hones : ∀ v ∈ vs.toList, v.oneCell' = true := j9 hvs (fun t ht => lK E [z] t (by simpa using ht))
 have hst := run_storeCells_at (P := P) g' (off' + j * E.size) Tb vs.toList 0 cur w hh (by simp [hvl]; omega) hones
 rw [nk _ hh] at hst
 obtain ⟨cur', ecur⟩ : ∃ cur' : Array Value, cur' = (cur.toList.take (off' + j * E.size + 0) ++ vs.toList ++ cur.toList.drop (off' + j * E.size + 0 + vs.toList.length)).toArray := ⟨_, rfl⟩
 rw [← ecur] at hst
 obtain ⟨h1', h2', h3'⟩ := kW (cs' := cur') (Tb := Tb) wf hg _ rfl
 have hgb : g' ≠ b := fun e => by
  rw [e, hb] at hg; injection hg with hg
  have := h1.2; omega
 have hvl' : vs.toList.length = E.size := by rw [Array.length_toList, hvl]
 have hcl : cur.toList.length = cur.size := Array.length_toList
 have hsz' : cur'.size = cur.size := by
  have : cur'.toList.length = cur.toList.length := by
   rw [ecur]
   show (_ ++ _ ++ _ : List Value).length = _
   rw [List.length_append, List.length_append, List.length_take, List.length_drop, hvl']; omega
  simpa using this
 have le : Le (· ∈ [tg, J]) (· ∈ ([] : List Nat)) w M { w with heap := w.heap.setIfInBounds g' (.cells cur' Tb (0, 0)) } M :=
  h2'.weaken (fun u hu => by simp only [List.mem_singleton] at hu; subst hu; simp) (fun _ h => by cases h)
 have hoth : ∀ k2, k2 ≠ g' → (w.heap.setIfInBounds g' (.cells cur' Tb (0, 0)))[k2]? = w.heap[k2]? := fun k2 hne => by
  rw [Array.getElem?_setIfInBounds_ne (Ne.symm hne)]
 refine ⟨_, ?_, M, h1', le, trivial, ?_⟩
 ·simp only [execOp, Instr.storeAt, Instr.sureAddr, ex, ey, storeVar, Value.cells, dJ hT, Sem.run_bind, Sem.run_pure, Result.andThen_ok, hsz, hvl, hst]
  simp [hst]
 intro z' hz'
 simp only [List.mem_singleton] at hz'
 subst hz'
 refine ⟨b, cs, hb, (hoth b (Ne.symm hgb)).trans hhb, ?_, by rw [List.length_set]; exact hap⟩
 rw [List.length_set]
 refine fR (by rw [cU hvals, List.length_map, List.length_map, List.length_set]) fun j2 ty2 hj2 => ?_
 rw [List.getElem?_map] at hj2
 obtain ⟨qe, hqe, rfl⟩ := Option.map_eq_some_iff.1 hj2
 rw [List.getElem?_set] at hqe
 by_cases hji : i = j2
 ·subst hji
  rw [if_pos rfl, if_pos hi] at hqe
  injection hqe with hqe
  subst hqe
  obtain ⟨b', cs', T', k1, k2, k3⟩ := hlk
  obtain ⟨uu, hu'⟩ : ∃ u, tg = u + 1 := ⟨tg - 1, by have := h1.1; omega⟩
  have : b = b' := wf.inj b b' uu (by have := h1.2; omega) (hu' ▸ hb) (hu' ▸ k1)
  subst this
  rw [hhb] at k2
  injection k2 with k2
  injection k2 with k2 _
  subst k2
  refine ⟨u, by rw [List.getElem?_take, if_pos hi]; exact k3, .inr ⟨g', off', c', cur', by rw [List.length_set]; exact ex', hg, h3', by rw [List.length_set]; exact hn, hcm, by rw [hsz']; exact hfit, ?_⟩⟩
  have hN : (xs.flatMap E.tys).length = xs.length * E.size := ct E xs
  have hp := Ej (ys := [z]) (vs := vs.toList) (i := j) (cur := cur.toList.drop off') (xs := xs) (w := w) (M := M) (by rw [hN]; exact hd) (by simpa using hvs) (by show j + 1 ≤ _; omega)
  rw [zM hj, ct, List.length_set, hvl'] at hp
  rw [List.length_set]
  have e1 : cur'.toList.drop off' = (cur.toList.drop off').take (j * E.size) ++ vs.toList ++ (cur.toList.drop off').drop (j * E.size + E.size) := by
   rw [ecur]
   show (_ ++ _ ++ _ : List Value).drop off' = _
   rw [List.append_assoc, List.drop_append_of_le_length (by rw [List.length_take]; omega), List.drop_take, List.drop_drop, hvl', ← List.append_assoc]
   congr 2
   ·congr 1; omega
   omega
  rw [e1]
  exact bf h2' (by rw [E.cV]; intro _ h; cases h) (by rw [E.cO]; intro _ h; cases h) hp
 rw [if_neg hji] at hqe
 obtain ⟨u2, hu2, hdu⟩ := dR hvals j2 (Ty.fP E Tb J qe) (by rw [List.getElem?_map, hqe]; rfl)
 refine ⟨u2, hu2, ?_⟩
 rcases hdu with h | ⟨g2, off2, c2, cur2, e2, hg2, hh2, m1, m2, m3, m4⟩
 ·exact .inl h
 have hgg : g2 ≠ g' := fun e => by
  obtain ⟨b', cs', T', k1, k2, k3⟩ := hown g' (off' + xs.length * E.size) (by rw [ex']; rfl)
  obtain ⟨uu, hu'⟩ : ∃ u, tg = u + 1 := ⟨tg - 1, by have := h1.1; omega⟩
  have : b = b' := wf.inj b b' uu (by have := h1.2; omega) (hu' ▸ hb) (hu' ▸ k1)
  subst this
  rw [hhb] at k2
  injection k2 with k2
  injection k2 with k2 _
  subst k2
  exact hji (k3 j2 u2 (off2 + qe.length * E.size) hu2 (by rw [e2, e]; rfl)).1.symm
 exact .inr ⟨g2, off2, c2, cur2, e2, hg2, (hoth g2 hgg).trans hh2, m1, m2, m3, bf h2' (by rw [E.cV]; intro _ h; cases h) (by rw [E.cO]; intro _ h; cases h) m4⟩
end
end Go.T
namespace Go.Proofs.YtelbollidfdcjaaGreat
open Go Go.T
set_option maxHeartbeats 8000000
def rH (y : ak) (is : Bool) (b m w x : Nat) : List Ty := [Ty.bool is, Ty.vs b y.bins.length, Ty.vs m y.moves.length, Ty.vs w (y.D + 1), Ty.vs x 256]
section
variable {y : ak} {a : dY} {f : o8} {s : Span} {n : Int} {is : Bool} {t k b i : Nat}
theorem NI (h : (!is) = true) : (⟨n, n⟩ : Span) = jU s n is := by
 unfold jU; rw [if_neg (by simpa using h)]
theorem L6 (h : (!is) = false) : (⟨min s.lo n, max s.hi n⟩ : Span) = jU s n is := by
 unfold jU; rw [if_pos (by simpa using h)]
theorem GC (hb : k < y.bins.length) (ht : t ≤ y.D) : (jq y a f t k).set k ((nth (jq y a f t k) k).set t (jU (nth (nth (jq y a f t k) k) t) (cj y a (k : Nat) (t : Nat)) f.fits)) = jq y a f t (k + 1) := by
 rw [Hs hb ht]; exact Ie hb ht
theorem Fm (ht : t ≤ y.D) (h : k = y.bins.length) : (qQ y a f t).set t (jU (nth (qQ y a f t) t) (tR y a t k) f.fits) = qQ y a f (t + 1) := by
 subst h
 rw [Ih ht]; exact KP ht
theorem Gz (hk : k < y.moves.length) : (qu y a f k).set k (jU (nth (qu y a f k) k) (nth a.b8 k) f.fits) = qu y a f (k + 1) := by
 rw [Ic hk]; exact Ir hk
theorem Fy : 0 = tR y a t 0 := rfl
theorem y8 : tR y a t k + cj y a (k : Nat) (t : Nat) = tR y a t (k + 1) := rfl
theorem Bc (hr : y.cG) (h : oO y a) (hb : b < y.bins.length) : -3000 ≤ cj y a (b : Nat) (t : Nat) ∧ cj y a (b : Nat) (t : Nat) ≤ 3300 := by
 rw [kL]; exact Jl hr h hb
theorem EJ (hr : y.cG) (h : oO y a) : ∀ k, k ≤ y.bins.length → -(3000 * (k : Int)) ≤ tR y a t k ∧ tR y a t k ≤ 3300 * k
  | 0, _ => by show _ ≤ (0 : Int) ∧ (0 : Int) ≤ _; omega
  | k + 1, hk => by
    have ih := EJ hr h k (by omega)
    have := Bc (t := t) hr h (show k < y.bins.length by omega)
    rw [← y8]; omega
theorem uE {now : List Int} : (now.drop 0).take y.bins.length = (dh y now).first := rfl
theorem uK {now : List Int} (h : now.length = y.bins.length + y.moves.length) : (now.drop y.bins.length).take y.moves.length = (dh y now).b8 := List.take_of_length_le (by rw [List.length_drop]; omega)
theorem P6 (h : i < y.moves.length) {now : List Int} : nth now (y.bins.length + i) = nth (dh y now).b8 i := lV.symm
end
attribute [local irreducible] cj jq qQ qu tR dh jU
attribute [local irreducible] gA eU lH nR gy gl g5 gr g9 nU gx nZ dN fS nJ ff nQ nth fI dQ au dK bodyPost Exit.then Exit.inBlock Code.wp Code.wpIn nY gm oC n9 g7 eM cJ cH bodyPostM dP
attribute [local irreducible] OL OV Pc uI L3
set_option maxRecDepth 100000 in
theorem AD (s : Span) (n : Int) (is : Bool) : dK Tryz.prog 166 [Ty.agg (bl.tys s), Ty.int .i64 n, Ty.bool is] (Ty.agg (bl.tys (jU s n is))) := by
 refine ah Tryz.func166 rfl (by decide) Tryz.ntmps166 (by exact Nat.le_of_ble_eq_true rfl) fun w0 M0 => ?_
 refine aE (aA (bD rfl ?_))
 refine bp rfl (by exact List.cons_ne_nil _ _) rfl ?_
 refine aD (aC (aE (aE (aA (fB rfl (eN rfl (aD (aC ?_))))))))
 refine cI rfl (fun hc1 => ?_) (fun hc1 => ?_)
 ·
  refine aE (aA (bG rfl (bG rfl ?_)))
  refine dG rfl rfl (by exact List.cons_ne_nil _ _) rfl (by repeat (first | exact (aV.nil : aV _ _ [] _) | (show aV _ _ ((_, _) :: _) _; apply aV.one; (· exact (rfl : _ = Ty.int _ _)); (· exact rfl)))) (by exact (rfl : _ = some [_, _])) ?_
  refine bZ rfl rfl (by decide) rfl rfl rfl rfl rfl rfl ?_
  refine aD (aC (ay (aS ?_)))
  refine lG rfl rfl rfl rfl (by decide) rfl rfl rfl ?_
  all_goals exact az rfl rfl (congrArg (fun z => Ty.agg (bl.tys z)) (NI hc1))
 refine aq (aC (aE (aA ?_)))
 refine aH rfl rfl rfl rfl rfl (by decide) ?_
 refine aI rfl rfl rfl rfl (bG rfl (JN rfl rfl ?_))
 refine aH rfl rfl rfl rfl rfl (by decide) ?_
 refine aI rfl rfl rfl rfl (bG rfl (CV rfl rfl ?_))
 refine dG rfl rfl (by exact List.cons_ne_nil _ _) rfl (by repeat (first | exact (aV.nil : aV _ _ [] _) | (show aV _ _ ((_, _) :: _) _; apply aV.one; (· exact (rfl : _ = Ty.int _ _)); (· exact rfl)))) (by exact (rfl : _ = some [_, _])) ?_
 refine bZ rfl rfl (by decide) rfl rfl rfl rfl rfl rfl ?_
 refine aD (aC (ay ?_))
 refine lG rfl rfl rfl rfl (by decide) rfl rfl rfl ?_
 all_goals exact az rfl rfl (congrArg (fun z => Ty.agg (bl.tys z)) (L6 hc1))
set_option maxRecDepth 100000 in
theorem OQ (y : ak) (hr : y.cG) (now : List Int) (ha : oO y (dh y now)) (hnl : now.length = y.bins.length + y.moves.length) (f : o8) (hf : f.Shape y) : eM Tryz.prog 99 [1000, 1001, 1002, 1003, 1004, 1005, 5000] [(1000, Cont.cells 66 (rH y f.fits 1001 1002 1003 1004)), (1001, Cont.mx bl 43 37 5000 f.bins), (1002, Cont.vec bl 37 f.moves), (1003, Cont.vec bl 37 f.whole), (1004, Cont.vec eV 4 f.missed), (1005, Cont.vec cy 3 now)] [dn y, Ty.agg [Ty.win 1005 0 y.bins.length y.moves.length, Ty.win 1005 y.bins.length y.moves.length 0], Ty.ptr 1000 0] [(1000, Cont.cells 66 (rH y true 1001 1002 1003 1004)), (1001, Cont.mx bl 43 37 5000 (sM y (dh y now) f).bins), (1002, Cont.vec bl 37 (sM y (dh y now) f).moves), (1003, Cont.vec bl 37 (sM y (dh y now) f).whole), (1004, Cont.vec eV 4 f.missed), (1005, Cont.vec cy 3 now)] (Ty.kY []) := by
 refine fL Tryz.func99 rfl (by decide) Tryz.ntmps99 (by exact Nat.le_of_ble_eq_true rfl) fun w0 M0 => ?_
 have hyb := hr.bins
 have hyd := hr.days
 have hym := hr.moves
 have hD := D_eq hr
 have hams : PV y (dh y now) := ⟨by have := ha.lens.b8; omega, by have := ha.lens.b8; omega, fun x hx => by have := ha.first x hx; omega, fun x hx => by have := ha.b8 x hx; omega⟩
 have hfl := ha.lens.first
 have hml := ha.lens.b8
 have hwl := hf.whole
 have hmvl := hf.moves
 refine aE (aA (bD rfl (bD rfl (aD (aC (aE (aE (aA (bk rfl ?_)))))))))
 refine aD (aC (aZ ?_))
 refine cF (fun (t : {t : Nat // t ≤ y.D + 1}) => live [(2, Ty.ptr 1000 0), (3, Ty.pp (bH y)), (4, Ty.pp [Ty.win 1005 0 y.bins.length y.moves.length, Ty.win 1005 y.bins.length y.moves.length 0]), (6, Ty.int .i64 (t.1 : Nat))] [(1000, Cont.cells 66 (rH y f.fits 1001 1002 1003 1004)), (1001, Cont.mx bl 43 37 5000 (jq y (dh y now) f t.1 0)), (1002, Cont.vec bl 37 f.moves), (1003, Cont.vec bl 37 (qQ y (dh y now) f t.1)), (1004, Cont.vec eV 4 f.missed), (1005, Cont.vec cy 3 now)]) (fun t => y.D + 1 - t.1) (⟨0, by omega⟩) ?_ fun t => ?_
 ·(refine cx.mk' ?_ ?_ <;> (repeat' (first | exact aJ | exact aK | refine aB ?_ (Ty.aU _) | refine aB ?_ (Ty.aF _) | refine aG rfl (Cont.aF _) ?_ | refine aG rfl ?_ ?_)))
  all_goals first | exact Cont.oU (Gv hf) | exact Cont.cr (GL hf)
 have ht := t.2
 refine aE (aE (aA (bG rfl ?_)))
 refine aH rfl rfl rfl rfl rfl (by decide) ?_
 refine aI rfl rfl rfl rfl (bB rfl rfl rfl (aD (aC ?_)))
 refine aj rfl (fun hc1 => ?_) (fun hc1 => ?_)
 ·
  refine aq (aC (aE (aZ (aE (aA (bk rfl (aD (aC (aE ?_)))))))))
  refine aE (aA (bk rfl (aD (aC (aZ ?_)))))
  refine cF (fun (b : {b : Nat // b ≤ y.bins.length}) => live [(2, Ty.ptr 1000 0), (3, Ty.pp (bH y)), (4, Ty.pp [Ty.win 1005 0 y.bins.length y.moves.length, Ty.win 1005 y.bins.length y.moves.length 0]), (6, Ty.int .i64 (t.1 : Nat)), (7, Ty.int .i64 (tR y (dh y now) t.1 b.1)), (8, Ty.int .i64 (b.1 : Nat))] [(1000, Cont.cells 66 (rH y f.fits 1001 1002 1003 1004)), (1001, Cont.mx bl 43 37 5000 (jq y (dh y now) f t.1 b.1)), (1002, Cont.vec bl 37 f.moves), (1003, Cont.vec bl 37 (qQ y (dh y now) f t.1)), (1004, Cont.vec eV 4 f.missed), (1005, Cont.vec cy 3 now)]) (fun b => y.bins.length - b.1) (⟨0, by omega⟩) ?_ fun b => ?_
  ·(refine cx.mk' ?_ ?_ <;> (repeat' (first | exact aJ | exact aK | refine aB ?_ (Ty.aU _) | refine aB ?_ (Ty.aF _) | refine aG rfl (Cont.aF _) ?_ | refine aB ?_ ?_)))
   all_goals exact Ty.bE Fy
  have hb := b.2
  have hsi := EJ (t := t.1) hr ha b.1 hb
  have hbl := An (y := y) (a := (dh y now)) (f := f) (t := t.1) (k := b.1)
  have hwl2 := Aw (y := y) (a := (dh y now)) (f := f) (t := t.1)
  refine aE (aE (aA (bG rfl ?_)))
  refine aH rfl rfl rfl rfl rfl (by decide) ?_
  refine aI rfl rfl rfl rfl (cK rfl rfl rfl (bB rfl rfl rfl (aD (aC ?_))))
  refine aj rfl (fun hc2 => ?_) (fun hc2 => ?_)
  ·
   refine aq (aC (aE (aZ (aE ?_))))
   have hb2 : b.1 < y.bins.length := by omega
   have hci := Bc (t := t.1) hr ha hb2
   have hrow := CT (a := (dh y now)) (f := f) (t := t.1) (k := b.1) hb2
   refine aA ?_
   refine aX rfl rfl rfl (by exact Nat.le_of_ble_eq_true rfl) ?_
   refine aX rfl rfl rfl (by exact Nat.le_of_ble_eq_true rfl) ?_
   refine bG rfl (bG rfl ?_)
   refine eI [1005] (J6 y (dh y now) hams ((b.1 : Nat) : Int) ((t.1 : Nat) : Int) (Int.natCast_nonneg _) (by omega)) rfl (aW (bT (bR rfl rfl)) (aW (yP (aW (pW (xs := now) (o := 0) rfl rfl uE (by omega) (by decide) rfl) (aW (pW (xs := now) (o := y.bins.length) rfl rfl (uK hnl) (by omega) (by decide) rfl) cN))) (aW (bT (bR rfl rfl)) (aW (bT (bR rfl rfl)) cN)))) (by exact dX _ _) ?_
   refine bk rfl (aD (aC (aE (aA (bG rfl (bG rfl ?_))))))
   refine cA rfl rfl (by omega) (by omega) ?_
   refine bk rfl (aD (aC (cP mixed rfl (Kr rfl (cY rfl ?_)))))
   refine aR rfl rfl rfl rfl rfl (by decide) ?_
   refine aY rfl rfl (by decide) rfl rfl rfl ?_
   refine bG rfl ?_
   refine dM rfl rfl rfl rfl rfl (by omega) ?_
   refine yu b.1 rfl (by exact Nat.mul_one _) rfl (by decide) rfl rfl (by omega) ?_
   refine bG rfl (Kr rfl (cY rfl ?_))
   refine aR rfl rfl rfl rfl rfl (by decide) ?_
   refine aY rfl rfl (by decide) rfl rfl rfl ?_
   refine bG rfl ?_
   refine dM rfl rfl rfl rfl rfl (by omega) ?_
   refine yu b.1 rfl (by exact Nat.mul_one _) rfl (by decide) rfl rfl (by omega) ?_
   refine bG rfl ?_
   refine xE (j := t.1) rfl rfl rfl rfl rfl (by omega) ?_
   refine Cx (j := t.1) rfl rfl rfl rfl rfl (by omega) ?_
   refine bG rfl (Kr rfl (cY rfl ?_))
   refine aR rfl rfl rfl rfl rfl (by decide) ?_
   refine aY rfl rfl (by decide) rfl rfl rfl ?_
   refine af (AD _ _ _) rfl rfl rfl rfl rfl ?_
   refine xE (j := t.1) rfl rfl rfl rfl rfl (by omega) ?_
   refine BO (j := t.1) (i := b.1) rfl rfl rfl (by decide) rfl rfl rfl (by omega) (by omega) (by decide) ?_
   refine aD ?_
   refine ⟨by kernel_rfl, ?_⟩
   refine bI (aC (aA (bG rfl ?_)))
   refine cA rfl rfl (by omega) (by omega) ?_
   refine bk rfl (aD ?_)
   refine bO (⟨b.1 + 1, by omega⟩) ?_ (by show y.bins.length - (b.1 + 1) < y.bins.length - b.1; omega)
   (refine cx.mk' ?_ ?_ <;> (repeat' (first | exact aJ | exact aK | refine aB ?_ (Ty.aU _) | refine aB ?_ (Ty.aF _) | refine aG rfl (Cont.aF _) ?_ | refine aG rfl ?_ ?_ | refine aB ?_ ?_)))
   all_goals skip
   all_goals first | exact Cont.oU (GC (by omega) (by omega)) | exact Ty.bE y8
  refine cE (aP (aP (aa rfl (aC (cP mixed rfl (Kr rfl (cY rfl ?_)))))))
  refine aR rfl rfl rfl rfl rfl (by decide) ?_
  refine aY rfl rfl (by decide) rfl rfl rfl ?_
  refine bG rfl (Kr rfl (cY rfl ?_))
  refine aR rfl rfl rfl rfl rfl (by decide) ?_
  refine aY rfl rfl (by decide) rfl rfl rfl ?_
  refine bG rfl ?_
  refine dM rfl rfl rfl rfl rfl (by omega) ?_
  refine kX t.1 rfl rfl rfl (by decide) rfl rfl rfl (by omega) ?_
  refine bG rfl (Kr rfl (cY rfl ?_))
  refine aR rfl rfl rfl rfl rfl (by decide) ?_
  refine aY rfl rfl (by decide) rfl rfl rfl ?_
  refine af (AD _ _ _) rfl rfl rfl rfl rfl ?_
  refine dM rfl rfl rfl rfl rfl (by omega) ?_
  refine nq t.1 rfl rfl rfl (by decide) rfl rfl rfl (by omega) ?_
  refine aD ?_
  refine ⟨by kernel_rfl, ?_⟩
  refine bI (aC (aA (bG rfl ?_)))
  refine cA rfl rfl (by omega) (by omega) ?_
  refine bk rfl (aD ?_)
  refine bO (⟨t.1 + 1, by omega⟩) ?_ (by show y.D + 1 - (t.1 + 1) < y.D + 1 - t.1; omega)
  (refine cx.mk' ?_ ?_ <;> (repeat' (first | exact aJ | exact aK | refine aB ?_ (Ty.aU _) | refine aB ?_ (Ty.aF _) | refine aG rfl (Cont.aF _) ?_ | refine aG rfl ?_ ?_)))
  all_goals skip
  all_goals first | exact Cont.oU (GD (by have := b.2; omega)) | exact Cont.cr (Fm (by omega) (by have := b.2; omega))
 refine cE (aP (aP (aa rfl (aC (aE (aE (aA (bk rfl (aD ?_)))))))))
 refine aC (aZ ?_)
 refine cF (fun (i : {i : Nat // i ≤ y.moves.length}) => live [(2, Ty.ptr 1000 0), (3, Ty.pp (bH y)), (4, Ty.pp [Ty.win 1005 0 y.bins.length y.moves.length, Ty.win 1005 y.bins.length y.moves.length 0]), (10, Ty.int .i64 (i.1 : Nat))] [(1000, Cont.cells 66 (rH y f.fits 1001 1002 1003 1004)), (1001, Cont.mx bl 43 37 5000 (sM y (dh y now) f).bins), (1002, Cont.vec bl 37 (qu y (dh y now) f i.1)), (1003, Cont.vec bl 37 (sM y (dh y now) f).whole), (1004, Cont.vec eV 4 f.missed), (1005, Cont.vec cy 3 now)]) (fun i => y.moves.length - i.1) (⟨0, by omega⟩) ?_ fun i => ?_
 ·(refine cx.mk' ?_ ?_ <;> (repeat' (first | exact aJ | exact aK | refine aB ?_ (Ty.aU _) | refine aB ?_ (Ty.aF _) | refine aG rfl (Cont.aF _) ?_ | refine aG rfl ?_ ?_)))
  all_goals first | exact Cont.cr (GG hf) | exact Cont.oU (by rw [show t.1 = y.D + 1 by have := t.2; omega]; rfl) | exact Cont.cr (by rw [show t.1 = y.D + 1 by have := t.2; omega]; rfl)
 have hi := i.2
 have hmt := B6 (y := y) (a := (dh y now)) (f := f) (k := i.1)
 refine aE (aE (aA (bG rfl ?_)))
 refine aH rfl rfl rfl rfl rfl (by decide) ?_
 refine aI rfl rfl rfl rfl (cK rfl rfl rfl (bB rfl rfl rfl (aD (aC ?_))))
 refine aj rfl (fun hc3 => ?_) (fun hc3 => ?_)
 ·
  refine aq (aC (aE (aZ ?_)))
  have hi2 : i.1 < y.moves.length := by omega
  refine cP mixed rfl (Kr rfl (cY rfl ?_))
  refine aR rfl rfl rfl rfl rfl (by decide) ?_
  refine aY rfl rfl (by decide) rfl rfl rfl ?_
  refine bG rfl (Kr rfl (cY rfl ?_))
  refine aR rfl rfl rfl rfl rfl (by decide) ?_
  refine aY rfl rfl (by decide) rfl rfl rfl ?_
  refine bG rfl ?_
  refine dM rfl rfl rfl rfl rfl (by omega) ?_
  refine kX i.1 rfl rfl rfl (by decide) rfl rfl rfl (by omega) ?_
  refine aH rfl rfl rfl rfl rfl (by decide) ?_
  refine aI rfl rfl rfl rfl (bG rfl ?_)
  refine uL (j := i.1) rfl rfl rfl rfl rfl rfl hi2 ?_
  refine oZ (E := cy) (y.bins.length + i.1) 0 (ty := Ty.int .i64 (nth (dh y now).b8 i.1)) rfl (by show _ = _ * 1 + 0; omega) rfl (by decide) rfl rfl (by omega) (by rw [P6 hi2]; rfl) ?_
  refine Kr rfl (cY rfl ?_)
  refine aR rfl rfl rfl rfl rfl (by decide) ?_
  refine aY rfl rfl (by decide) rfl rfl rfl ?_
  refine af (AD _ _ _) rfl rfl rfl rfl rfl ?_
  refine dM rfl rfl rfl rfl rfl (by omega) ?_
  refine nq i.1 rfl rfl rfl (by decide) rfl rfl rfl (by omega) ?_
  refine aD ?_
  refine ⟨by kernel_rfl, ?_⟩
  refine bI (aC (aA (bG rfl ?_)))
  refine cA rfl rfl (by omega) (by omega) ?_
  refine bk rfl (aD ?_)
  refine bO (⟨i.1 + 1, by omega⟩) ?_ (by show y.moves.length - (i.1 + 1) < y.moves.length - i.1; omega)
  (refine cx.mk' ?_ ?_ <;> (repeat' (first | exact aJ | exact aK | refine aB ?_ (Ty.aU _) | refine aB ?_ (Ty.aF _) | refine aG rfl (Cont.aF _) ?_ | refine aG rfl ?_ ?_)))
  all_goals skip
  all_goals exact Cont.cr (Gz (by omega))
 refine cE (aP (aP (aa rfl (aC (aA (Kr rfl (cY rfl ?_)))))))
 refine aR rfl rfl rfl rfl rfl (by decide) ?_
 refine cm rfl rfl (by decide) rfl rfl (by exact (rfl : _ = Ty.bool _)) rfl (by exact Nat.le_of_ble_eq_true rfl) rfl rfl (by exact rfl) ?_
 refine aD (MX ?_)
 refine IA [1000, 1001, 1002, 1003, 1004, 1005, 5000] rfl (by decide) ?_
 ·exact eC rfl (gN (by decide) (aM (aM (aM (aM (aM bU (dZ (by decide))) (dZ (by decide))) (dZ (by decide))) (dZ (by decide))) (aT rfl rfl))) (eC rfl (HY (by decide) (by decide) rfl) (eC rfl (bh (by decide) (by rw [show i.1 = y.moves.length by have := i.2; omega]; rfl)) (eC rfl (bh (by decide) rfl) (eC rfl (bh (by decide) rfl) (eC rfl (bh (by decide) rfl) gE)))))
 skip
end Go.Proofs.YtelbollidfdcjaaGreat
namespace Go.Proofs.YtelbollidfdcjaaGreat
open Go Go.T
set_option maxHeartbeats 8000000
def tu : El (List Span) := El.mk' 1 (fun x => [Ty.sl bl x]) (fun _ => rfl) (fun _ => ⟨rfl, rfl, rfl⟩)
def QN : xj (List Span) := xj.Dg tu bl 37 (fun _ => rfl) rfl
def Cw (f : o8) : List Ty := [Ty.bool f.fits, Ty.sl tu f.bins, Ty.sl bl f.moves, Ty.sl bl f.whole, Ty.sl eV f.missed]
def JO (y : ak) : List Span := List.replicate (y.D + 1) ⟨0, 0⟩
section
variable {y : ak} {k i : Nat} {f : o8}
theorem I6 {α : Type} {z z' : α} (h : z' = z) : List.replicate k z ++ [z'] = List.replicate (k + 1) z := by subst h; exact List.replicate_succ'.symm
theorem BE (hr : y.cG) : 0 < c7 (cg y) (c9 y) := size_pos (gF hr)
theorem FY (hr : y.cG) : cg y = dO y 0 := by
 unfold dO
 rw [if_pos (BE hr)]
 have hl := E1 (gF hr)
 have h := xF (gF hr) hl
 rw [AI (gF hr)] at h
 exact h.symm
theorem Gy : cg y = dO y (c7 (cg y) (c9 y)) := by unfold dO; rw [if_neg (Nat.lt_irrefl _)]
theorem OY (hr : y.cG) (hk : k < c7 (cg y) (c9 y)) (hi : 0 < i) (hin : i ≤ (dO y k).length) (he : (dO y k).drop i = (c9 y).drop i) (hn : nth (dO y k) (i - 1) ≠ nth (c9 y) (i - 1)) : k + 1 < c7 (cg y) (c9 y) ∧ (j3 (cg y) (dO y k) i).set (i - 1) (nth (dO y k) (i - 1) + 1) = dO y (k + 1) := by
 have e : HC (cg y) (c9 y) k = dO y k := by unfold dO; rw [if_pos hk]
 obtain ⟨j, rfl⟩ : ∃ j, i = j + 1 := ⟨i - 1, by omega⟩
 obtain ⟨a, b⟩ := LG (gF hr) hk e (i := j) (by omega) he hn
 refine ⟨a, ?_⟩
 have e2 : dO y (k + 1) = HC (cg y) (c9 y) (k + 1) := by unfold dO; rw [if_pos a]
 rw [e2]; exact b
theorem PN (hr : y.cG) (hk : k < c7 (cg y) (c9 y)) (he : (dO y k).drop 0 = (c9 y).drop 0) : k + 1 = c7 (cg y) (c9 y) ∧ j3 (cg y) (dO y k) 0 = dO y (k + 1) := by
 have e : HC (cg y) (c9 y) k = dO y k := by unfold dO; rw [if_pos hk]
 have h := K6 (gF hr) hk (e.trans he)
 exact ⟨h, by rw [h]; exact Gy⟩
theorem wC (hi : 0 < i) (hin : i ≤ (dO y k).length) : nth (j3 (cg y) (dO y k) i) (i - 1) = nth (dO y k) (i - 1) := by
 obtain ⟨j, rfl⟩ : ∃ j, i = j + 1 := ⟨i - 1, by omega⟩
 exact LL (by omega)
theorem IV (hr : y.cG) (hi : 0 < i) (hin : i ≤ (dO y k).length) : (j3 (cg y) (dO y k) i).set (i - 1) (nth (cg y) (i - 1)) = j3 (cg y) (dO y k) (i - 1) := by
 obtain ⟨j, rfl⟩ : ∃ j, i = j + 1 := ⟨i - 1, by omega⟩
 exact LJ (by rw [oS hr, gM]) (by omega)
theorem GA (hr : y.cG) (hi : 0 < i) (hin : i ≤ (dO y k).length) (he : (dO y k).drop i = (c9 y).drop i) (hn : nth (dO y k) (i - 1) = nth (c9 y) (i - 1)) : (dO y k).drop (i - 1) = (c9 y).drop (i - 1) := by
 obtain ⟨j, rfl⟩ : ∃ j, i = j + 1 := ⟨i - 1, by omega⟩
 exact Hi (by rw [oS hr, nF]) (by omega) he hn
theorem Lu (hr : y.cG) (hi : i < y.bins.length + y.moves.length) : 0 ≤ nth (dO y k) i ∧ nth (dO y k) i ≤ 300 := by
 have h := vX (k := k) hr
 have hl := oS (k := k) hr
 by_cases c : i < y.bins.length
 ·have := h.first _ (cW (show i < (ir y k).first.length by rw [h.lens.first]; exact c))
  have e : nth (ir y k).first i = nth (dO y k) i := yT c
  rw [e] at this; exact this
 obtain ⟨j, rfl⟩ : ∃ j, i = y.bins.length + j := ⟨i - y.bins.length, by omega⟩
 have := h.b8 _ (cW (show j < (ir y k).b8.length by rw [h.lens.b8]; omega))
 have e : nth (ir y k).b8 j = nth (dO y k) (y.bins.length + j) := lV
 rw [e] at this; exact this
theorem Iy (h : i < y.bins.length) : (cg y).take i ++ [(nth y.bins i).first.lo] = (cg y).take (i + 1) := by
 rw [cT (by rw [gM]; omega), Cs h]
theorem Jt (h : i < y.bins.length) : (c9 y).take i ++ [(nth y.bins i).first.hi] = (c9 y).take (i + 1) := by
 rw [cT (by rw [nF]; omega), C8 h]
theorem JB (h : i < y.moves.length) : (cg y).take (y.bins.length + i) ++ [(nth y.moves i).sacks.lo] = (cg y).take (y.bins.length + (i + 1)) := by
 rw [show y.bins.length + (i + 1) = y.bins.length + i + 1 by omega, cT (by rw [gM]; omega), Dp h]
theorem IK (h : i < y.moves.length) : (c9 y).take (y.bins.length + i) ++ [(nth y.moves i).sacks.hi] = (c9 y).take (y.bins.length + (i + 1)) := by
 rw [show y.bins.length + (i + 1) = y.bins.length + i + 1 by omega, cT (by rw [nF]; omega), DJ h]
theorem Fv : (gI y).bins = List.replicate y.bins.length (JO y) := rfl
theorem vR (h : ¬ 0 ≤ eH y (dh y (dO y k))) : dz y k = dz y (k + 1) := AE (Int.not_le.1 h)
theorem pN (h : 0 ≤ eH y (dh y (dO y k))) (h0 : ¬ eH y (dh y (dO y k)) = 0) : jd y (ir y k) (dz y k) = dz y (k + 1) := sv (Int.not_lt.2 h) h0
theorem sU (h0 : eH y (dh y (dO y k)) = 0) : sM y (ir y k) (jd y (ir y k) (dz y k)) = dz y (k + 1) := wg h0
theorem MA (h : 0 ≤ eH y (dh y (dO y k))) (h0 : ¬ eH y (dh y (dO y k)) = 0) : (dz y k).fits = (dz y (k + 1)).fits := by show (jd y (ir y k) (dz y k)).fits = _; exact congrArg o8.fits (pN h h0)
theorem Ll (h : 0 ≤ eH y (dh y (dO y k))) (h0 : ¬ eH y (dh y (dO y k)) = 0) : (dz y k).bins = (dz y (k + 1)).bins := by show (jd y (ir y k) (dz y k)).bins = _; exact congrArg o8.bins (pN h h0)
theorem IU (h : 0 ≤ eH y (dh y (dO y k))) (h0 : ¬ eH y (dh y (dO y k)) = 0) : (dz y k).moves = (dz y (k + 1)).moves := by show (jd y (ir y k) (dz y k)).moves = _; exact congrArg o8.moves (pN h h0)
theorem IQ (h : 0 ≤ eH y (dh y (dO y k))) (h0 : ¬ eH y (dh y (dO y k)) = 0) : (dz y k).whole = (dz y (k + 1)).whole := by show (jd y (ir y k) (dz y k)).whole = _; exact congrArg o8.whole (pN h h0)
theorem F1 (h0 : eH y (dh y (dO y k)) = 0) : (jd y (ir y k) (dz y k)).missed = (dz y (k + 1)).missed := by show (sM y (ir y k) (jd y (ir y k) (dz y k))).missed = _; exact congrArg o8.missed (sU h0)
theorem LU (h : (y.days + 1).toNat = y.D + 1) : List.replicate (y.days + 1).toNat (⟨0, 0⟩ : Span) = JO y := by rw [h]; rfl
theorem HW {tg o o' n n' r r' : Nat} (h1 : o = o') (h2 : n = n') (h3 : r = r') : Ty.win tg o n r = Ty.win tg o' n' r' := by subst h1; subst h2; subst h3; rfl
end
attribute [local irreducible] cj jq qQ qu tR jU eH dO cg c9 j3 c7 JO
attribute [local irreducible] gA eU lH nR gy gl g5 gr g9 nU gx nZ dN fS nJ ff nQ nth fI dQ au dK bodyPost Exit.then Exit.inBlock Code.wp Code.wpIn nY gm oC n9 g7 eM cJ cH bodyPostM dP
attribute [local irreducible] OL OV Pc uI L3 Ea P3
set_option maxRecDepth 100000 in
theorem PD (y : ak) (hr : y.cG) : dK Tryz.prog 32 [dn y] (Ty.agg (Cw (gJ y))) := by
 refine ah Tryz.func32 rfl (by decide) Tryz.ntmps32 (by exact Nat.le_of_ble_eq_true rfl) fun w0 M0 => ?_
 have hyb := hr.bins
 have hyd := hr.days
 have hym := hr.moves
 have hD := D_eq hr
 have hll := gM (y := y)
 have hhl := nF (y := y)
 have hDn : (y.days + 1).toNat = y.D + 1 := by omega
 have hMn : ((y.moves.length : Int)).toNat = y.moves.length := Int.toNat_natCast _
 have hsz := BE hr
 refine aE (aA (bD rfl ?_))
 refine bp rfl (by exact List.cons_ne_nil _ _) rfl ?_
 refine aD (aC (aE (aA ?_)))
 refine qB (E := eV) (x0 := false) rfl rfl rfl rfl rfl rfl rfl (by decide) rfl (by omega) (by (dsimp only; omega)) (by omega) ?_
 refine dG rfl rfl (by exact List.cons_ne_nil _ _) rfl (by repeat (first | exact (aV.nil : aV _ _ [] _) | (show aV _ _ ((_, _) :: _) _; apply aV.one; (· exact (rfl : _ = Ty.vs _ _)); (· exact rfl)))) (by exact rfl) ?_
 refine bp rfl (by exact List.cons_ne_nil _ _) rfl ?_
 refine bZ rfl rfl (by decide) rfl rfl rfl rfl rfl rfl ?_
 refine aD (aC (aE (aE (aA (bk rfl (aD (aC (aZ ?_))))))))
 refine cF (fun (b : {b : Nat // b ≤ y.bins.length}) => live [(1, Ty.pp (bH y)), (2, Ty.ptr 3 0), (3, Ty.ptr 4 0), (4, Ty.int .i64 (b.1 : Nat))] [(3, Cont.cells 66 [Ty.bool false, Ty.ex (.slice none 0 0), Ty.ex (.slice none 0 0), Ty.ex (.slice none 0 0), Ty.ex (.slice none 0 0)]), (4, Cont.cells 66 [Ty.bool false, Ty.xR QN 43 81 5000 (List.replicate b.1 (JO y)), Ty.ex (.slice none 0 0), Ty.ex (.slice none 0 0), Ty.vs 15 256]), (15, Cont.vec eV 4 (List.replicate 256 false))]) (fun b => y.bins.length - b.1) (⟨0, by omega⟩) ?_ fun b => ?_
 ·(refine cx.mk' ?_ ?_ <;> (repeat' (first | exact aJ | exact aK | exact dD | refine aB ?_ (Ty.aU _) | refine aB ?_ (Ty.aF _) | refine aG rfl (Cont.aF _) ?_ | refine aG rfl (Cont.dF ?_) ?_ | refine bM ?_ (Ty.aF _) | refine bM ?_ ?_)))
  all_goals exact Ty.JD
 have hb := b.2
 refine aE (aE (aA (bG rfl ?_)))
 refine aH rfl rfl rfl rfl rfl (by decide) ?_
 refine aI rfl rfl rfl rfl (cK rfl rfl rfl (bB rfl rfl rfl (aD (aC ?_))))
 refine aj rfl (fun hc1 => ?_) (fun hc1 => ?_)
 ·
  refine aq (aC (aE (aZ (cP mixed rfl ?_))))
  refine aR rfl rfl rfl rfl rfl (by decide) ?_
  refine aY rfl rfl (by decide) rfl rfl rfl ?_
  refine aH rfl rfl rfl rfl rfl (by decide) ?_
  refine aI rfl rfl rfl rfl ?_
  refine cA rfl rfl (by omega) (by omega) ?_
  refine MG (E := bl) (x0 := ⟨0, 0⟩) rfl rfl rfl rfl rfl rfl rfl (by decide) rfl (by omega) (by (dsimp only; omega)) (by omega) ?_
  refine Fh rfl rfl rfl rfl (by decide) (by decide) (by repeat (first | exact (aV.nil : aV _ _ [] _) | (show aV _ _ ((_, _) :: _) _; apply aV.one; (· exact (rfl : _ = Ty.row _ _ _ _)); (· exact rfl)))) (by exact rfl) ?_
  refine Fc (List.replicate (y.days + 1).toNat ⟨0, 0⟩) rfl rfl AN (by decide) (by decide) (by decide) (by decide) rfl rfl rfl rfl rfl rfl rfl (by decide) rfl rfl rfl (by (simp <;> omega)) (by (simp <;> omega)) ?_
  refine aR rfl rfl rfl rfl rfl (by decide) ?_
  refine cm rfl rfl (by decide) rfl rfl (by exact (rfl : _ = Ty.xR _ _ _ _ _)) rfl (by exact Nat.le_of_ble_eq_true rfl) rfl rfl (by exact rfl) ?_
  refine aD ?_
  refine ⟨by kernel_rfl, ?_⟩
  refine bI (aC (aA (bG rfl ?_)))
  refine cA rfl rfl (by omega) (by omega) ?_
  refine bk rfl (aD ?_)
  refine bO (⟨b.1 + 1, by omega⟩) ?_ (by show y.bins.length - (b.1 + 1) < y.bins.length - b.1; omega)
  (refine cx.mk' ?_ ?_ <;> (repeat' (first | exact aJ | exact aK | exact dD | refine aB ?_ (Ty.aU _) | refine aB ?_ (Ty.aF _) | refine aG rfl (Cont.aF _) ?_ | refine aG rfl (Cont.dF ?_) ?_ | refine bM ?_ (Ty.aF _) | refine bM ?_ ?_)))
  all_goals skip
  all_goals exact Ty.J2 (I6 (LU hDn))
 refine cE (aP (aP (aa rfl (aC (aE ?_)))))
 obtain ⟨b, hb⟩ := b
 obtain rfl : b = y.bins.length := by have h1 : ¬ (b : Int) < (y.bins.length : Int) := hc1; have h2 : b ≤ y.bins.length := hb; omega
 refine Jr (ER := tu) (E := bl) (T := 37) (T2 := 43) (J := 5000) (tg := 81) (c0 := 4) (q := List.replicate y.bins.length (JO y)) 1 rfl rfl (by rw [List.length_replicate]; omega) ?_
 refine jW (tg := 4) rfl (Cont.jz (l' := [Ty.bool false, Ty.vs 81 y.bins.length, Ty.ex (.slice none 0 0), Ty.ex (.slice none 0 0), Ty.vs 15 256]) ⟨Ty.aF _, Ty.L0 List.length_replicate, Ty.aF _, Ty.aF _, Ty.aF _, trivial⟩) ?_
 refine cP mixed rfl ?_
 refine aH rfl rfl rfl rfl rfl (by decide) ?_
 refine aI rfl rfl rfl rfl (cK rfl rfl rfl ?_)
 refine qB (E := bl) (x0 := ⟨0, 0⟩) rfl rfl rfl rfl rfl rfl rfl (by decide) rfl (by omega) (by (dsimp only; omega)) (by omega) ?_
 refine aH rfl rfl rfl rfl rfl (by decide) ?_
 refine aI rfl rfl rfl rfl ?_
 refine cA rfl rfl (by omega) (by omega) ?_
 refine qB (E := bl) (x0 := ⟨0, 0⟩) rfl rfl rfl rfl rfl rfl rfl (by decide) rfl (by omega) (by (dsimp only; omega)) (by omega) ?_
 refine aR rfl rfl rfl rfl rfl (by decide) ?_
 refine cm rfl rfl (by decide) rfl rfl (by exact (rfl : _ = Ty.vs _ _)) rfl (by exact Nat.le_of_ble_eq_true rfl) rfl rfl (by exact rfl) ?_
 refine aR rfl rfl rfl rfl rfl (by decide) ?_
 refine cm rfl rfl (by decide) rfl rfl (by exact (rfl : _ = Ty.vs _ _)) rfl (by exact Nat.le_of_ble_eq_true rfl) rfl rfl (by exact rfl) ?_
 refine aD ?_
 refine ⟨by kernel_rfl, ?_⟩
 refine aC (aE ?_)
 refine jW (tg := 81) rfl (Cont.oU (Fv (y := y)).symm) ?_
 refine jW (tg := 4) rfl (Cont.jz (l' := rH y false 81 36 40 15) ⟨Ty.aF _, Ty.aF _, Ty.sub_eq (congrArg (Ty.vs 36) hMn), Ty.sub_eq (congrArg (Ty.vs 40) hDn), Ty.aF _, trivial⟩) ?_
 refine jW (tg := 36) rfl (Cont.cr (congrArg (fun n => List.replicate n (⟨0, 0⟩ : Span)) hMn)) ?_
 refine jW (tg := 40) rfl (Cont.cr (congrArg (fun n => List.replicate n (⟨0, 0⟩ : Span)) hDn)) ?_
 refine iy (B := live [(1, Ty.pp (bH y)), (2, Ty.ptr 3 0), (3, Ty.ptr 4 0)] [(3, Cont.cells 66 [Ty.bool false, Ty.ex (.slice none 0 0), Ty.ex (.slice none 0 0), Ty.ex (.slice none 0 0), Ty.ex (.slice none 0 0)]), (4, Cont.cells 66 (rH y (gI y).fits 81 36 40 15)), (81, Cont.mx bl 43 37 5000 (gI y).bins), (36, Cont.vec bl 37 (gI y).moves), (40, Cont.vec bl 37 (gI y).whole), (15, Cont.vec eV 4 (gI y).missed)]) ?_ ?_
 ·refine cx.mk' ?_ ?_
  ·(repeat (first | refine aB ?_ (Ty.aU _) | refine aB ?_ (Ty.aF _))); exact aJ
  refine aG rfl (Cont.aF _) ?_; refine aG rfl (Cont.aF _) ?_; refine aG rfl (Cont.aF _) ?_; refine aG rfl (Cont.aF _) ?_; refine aG rfl (Cont.aF _) ?_; refine aG rfl (Cont.aF _) ?_; exact aK
 refine aA (lq rfl (lq rfl (lq rfl (aD (aC (aE (aE (aA (bk rfl ?_)))))))))
 refine aD (aC (aZ ?_))
 refine cF (fun (b : {b : Nat // b ≤ y.bins.length}) => live [(1, Ty.pp (bH y)), (2, Ty.ptr 3 0), (3, Ty.ptr 4 0), (5, Ty.row cy 3 60 ((cg y).take b.1)), (6, Ty.row cy 3 61 ((c9 y).take b.1)), (7, Ty.ex (.slice none 0 0)), (8, Ty.int .i64 (b.1 : Nat))] [(3, Cont.cells 66 [Ty.bool false, Ty.ex (.slice none 0 0), Ty.ex (.slice none 0 0), Ty.ex (.slice none 0 0), Ty.ex (.slice none 0 0)]), (4, Cont.cells 66 (rH y (gI y).fits 81 36 40 15)), (81, Cont.mx bl 43 37 5000 (gI y).bins), (36, Cont.vec bl 37 (gI y).moves), (40, Cont.vec bl 37 (gI y).whole), (15, Cont.vec eV 4 (gI y).missed)]) (fun b => y.bins.length - b.1) (⟨0, by omega⟩) ?_ fun b => ?_
 ·(refine cx.mk' ?_ ?_ <;> (repeat' (first | exact aJ | exact aK | refine aB ?_ (Ty.aU _) | refine aB ?_ (Ty.aF _) | refine aB ?_ Ty.gq | refine aG rfl (Cont.aF _) ?_)))
  all_goals trace_state
 have hb := b.2
 have htl : ((cg y).take b.1).length = b.1 := by rw [List.length_take]; omega
 have hth : ((c9 y).take b.1).length = b.1 := by rw [List.length_take]; omega
 refine aE (aE (aA (bG rfl ?_)))
 refine aH rfl rfl rfl rfl rfl (by decide) ?_
 refine aI rfl rfl rfl rfl (cK rfl rfl rfl (bB rfl rfl rfl (aD (aC ?_))))
 refine aj rfl (fun hc2 => ?_) (fun hc2 => ?_)
 ·
  refine aq (aC (aE (aZ (cP mixed rfl (GR rfl ?_)))))
  refine aH rfl rfl rfl rfl rfl (by decide) ?_
  refine aI rfl rfl rfl rfl (bG rfl ?_)
  refine av rfl rfl rfl rfl rfl rfl (by omega) ?_
  refine aH rfl rfl rfl rfl rfl (by decide) ?_
  refine aH rfl rfl rfl rfl rfl (by decide) ?_
  refine aI rfl rfl rfl rfl ?_
  refine bW (E := cy) (xs := [(nth y.bins b.1).first.lo]) rfl rfl rfl rfl rfl (by decide) (by decide) (by repeat (first | exact (aV.nil : aV _ _ [] _) | (show aV _ _ ((_, _) :: _) _; apply aV.one; (· exact (rfl : _ = Ty.int _ _)); (· exact rfl)))) (by exact rfl) rfl ?_
  refine dw rfl rfl (by decide) rfl rfl rfl rfl rfl rfl (by decide) (by (simp <;> omega)) (by (simp <;> omega)) ?_
  refine GR rfl ?_
  refine aH rfl rfl rfl rfl rfl (by decide) ?_
  refine aI rfl rfl rfl rfl (bG rfl ?_)
  refine av rfl rfl rfl rfl rfl rfl (by omega) ?_
  refine aH rfl rfl rfl rfl rfl (by decide) ?_
  refine aH rfl rfl rfl rfl rfl (by decide) ?_
  refine aI rfl rfl rfl rfl ?_
  refine bW (E := cy) (xs := [(nth y.bins b.1).first.hi]) rfl rfl rfl rfl rfl (by decide) (by decide) (by repeat (first | exact (aV.nil : aV _ _ [] _) | (show aV _ _ ((_, _) :: _) _; apply aV.one; (· exact (rfl : _ = Ty.int _ _)); (· exact rfl)))) (by exact rfl) rfl ?_
  refine dw rfl rfl (by decide) rfl rfl rfl rfl rfl rfl (by decide) (by (simp <;> omega)) (by (simp <;> omega)) ?_
  refine Aj rfl (Aj rfl (aD ?_))
  refine ⟨by kernel_rfl, ?_⟩
  refine bI (aC (aA (bG rfl ?_)))
  refine cA rfl rfl (by omega) (by omega) ?_
  refine bk rfl (aD ?_)
  refine bO (⟨b.1 + 1, by omega⟩) ?_ (by show y.bins.length - (b.1 + 1) < y.bins.length - b.1; omega)
  (refine cx.mk' ?_ ?_ <;> (repeat' (first | exact aJ | exact aK | refine aB ?_ (Ty.aU _) | refine aB ?_ (Ty.aF _) | refine aG rfl (Cont.aF _) ?_ | refine aB ?_ ?_)))
  all_goals skip
  all_goals first | exact Ty.fH (Iy (by omega)) | exact Ty.fH (Jt (by omega))
 refine cE (aP (aP (aa rfl (aC (aE (aE (aA (bk rfl (aD ?_)))))))))
 refine aC (aZ ?_)
 refine cF (fun (m : {m : Nat // m ≤ y.moves.length}) => live [(1, Ty.pp (bH y)), (2, Ty.ptr 3 0), (3, Ty.ptr 4 0), (5, Ty.row cy 3 60 ((cg y).take (y.bins.length + m.1))), (6, Ty.row cy 3 61 ((c9 y).take (y.bins.length + m.1))), (7, Ty.ex (.slice none 0 0)), (9, Ty.int .i64 (m.1 : Nat))] [(3, Cont.cells 66 [Ty.bool false, Ty.ex (.slice none 0 0), Ty.ex (.slice none 0 0), Ty.ex (.slice none 0 0), Ty.ex (.slice none 0 0)]), (4, Cont.cells 66 (rH y (gI y).fits 81 36 40 15)), (81, Cont.mx bl 43 37 5000 (gI y).bins), (36, Cont.vec bl 37 (gI y).moves), (40, Cont.vec bl 37 (gI y).whole), (15, Cont.vec eV 4 (gI y).missed)]) (fun m => y.moves.length - m.1) (⟨0, by omega⟩) ?_ fun m => ?_
 ·(refine cx.mk' ?_ ?_ <;> (repeat' (first | exact aJ | exact aK | refine aB ?_ (Ty.aU _) | refine aB ?_ (Ty.aF _) | refine aG rfl (Cont.aF _) ?_ | refine aB ?_ ?_)))
  all_goals exact Ty.fH (by rw [show b.1 = y.bins.length + 0 by have := b.2; omega])
 have hm := m.2
 have htl : ((cg y).take (y.bins.length + m.1)).length = y.bins.length + m.1 := by rw [List.length_take]; omega
 have hth : ((c9 y).take (y.bins.length + m.1)).length = y.bins.length + m.1 := by rw [List.length_take]; omega
 refine aE (aE (aA (bG rfl ?_)))
 refine aH rfl rfl rfl rfl rfl (by decide) ?_
 refine aI rfl rfl rfl rfl (cK rfl rfl rfl (bB rfl rfl rfl (aD (aC ?_))))
 refine aj rfl (fun hc3 => ?_) (fun hc3 => ?_)
 ·
  refine aq (aC (aE (aZ (cP mixed rfl (GR rfl ?_)))))
  refine aH rfl rfl rfl rfl rfl (by decide) ?_
  refine aI rfl rfl rfl rfl (bG rfl ?_)
  refine av rfl rfl rfl rfl rfl rfl (by omega) ?_
  refine aH rfl rfl rfl rfl rfl (by decide) ?_
  refine aH rfl rfl rfl rfl rfl (by decide) ?_
  refine aI rfl rfl rfl rfl ?_
  refine bW (E := cy) (xs := [(nth y.moves m.1).sacks.lo]) rfl rfl rfl rfl rfl (by decide) (by decide) (by repeat (first | exact (aV.nil : aV _ _ [] _) | (show aV _ _ ((_, _) :: _) _; apply aV.one; (· exact (rfl : _ = Ty.int _ _)); (· exact rfl)))) (by exact rfl) rfl ?_
  refine dw rfl rfl (by decide) rfl rfl rfl rfl rfl rfl (by decide) (by (simp <;> omega)) (by (simp <;> omega)) ?_
  refine GR rfl ?_
  refine aH rfl rfl rfl rfl rfl (by decide) ?_
  refine aI rfl rfl rfl rfl (bG rfl ?_)
  refine av rfl rfl rfl rfl rfl rfl (by omega) ?_
  refine aH rfl rfl rfl rfl rfl (by decide) ?_
  refine aH rfl rfl rfl rfl rfl (by decide) ?_
  refine aI rfl rfl rfl rfl ?_
  refine bW (E := cy) (xs := [(nth y.moves m.1).sacks.hi]) rfl rfl rfl rfl rfl (by decide) (by decide) (by repeat (first | exact (aV.nil : aV _ _ [] _) | (show aV _ _ ((_, _) :: _) _; apply aV.one; (· exact (rfl : _ = Ty.int _ _)); (· exact rfl)))) (by exact rfl) rfl ?_
  refine dw rfl rfl (by decide) rfl rfl rfl rfl rfl rfl (by decide) (by (simp <;> omega)) (by (simp <;> omega)) ?_
  refine Aj rfl (Aj rfl (aD ?_))
  refine ⟨by kernel_rfl, ?_⟩
  refine bI (aC (aA (bG rfl ?_)))
  refine cA rfl rfl (by omega) (by omega) ?_
  refine bk rfl (aD ?_)
  refine bO (⟨m.1 + 1, by omega⟩) ?_ (by show y.moves.length - (m.1 + 1) < y.moves.length - m.1; omega)
  (refine cx.mk' ?_ ?_ <;> (repeat' (first | exact aJ | exact aK | refine aB ?_ (Ty.aU _) | refine aB ?_ (Ty.aF _) | refine aG rfl (Cont.aF _) ?_ | refine aB ?_ ?_)))
  all_goals skip
  all_goals first | exact Ty.fH (JB (by omega)) | exact Ty.fH (IK (by omega))
 refine cE (aP (aP (aa rfl (aC (aE ?_)))))
 refine iV (s := 5) rfl (Ty.fH (List.take_of_length_le (by have := m.2; omega))) ?_
 refine iV (s := 6) rfl (Ty.fH (List.take_of_length_le (by have := m.2; omega))) ?_
 refine kK (tg := 60) [(5, Ty.sl cy (cg y))] (by decide) rfl ⟨vF rfl, trivial⟩ ?_
 refine kK (tg := 61) [(6, Ty.sl cy (c9 y))] (by decide) rfl ⟨vF rfl, trivial⟩ ?_
 refine iV (s := 7) (ty' := Ty.row cy 3 62 []) rfl Ty.gq ?_
 refine iy (B := live [(1, Ty.pp (bH y)), (2, Ty.ptr 3 0), (3, Ty.ptr 4 0), (5, Ty.sl cy (cg y)), (6, Ty.sl cy (c9 y)), (7, Ty.row cy 3 62 [])] [(3, Cont.cells 66 [Ty.bool false, Ty.ex (.slice none 0 0), Ty.ex (.slice none 0 0), Ty.ex (.slice none 0 0), Ty.ex (.slice none 0 0)]), (4, Cont.cells 66 (rH y (gI y).fits 81 36 40 15)), (81, Cont.mx bl 43 37 5000 (gI y).bins), (36, Cont.vec bl 37 (gI y).moves), (40, Cont.vec bl 37 (gI y).whole), (15, Cont.vec eV 4 (gI y).missed)]) ?_ ?_
 ·refine cx.mk' ?_ ?_
  ·(repeat (first | refine aB ?_ (Ty.aU _) | refine aB ?_ (Ty.aF _))); exact aJ
  refine aG rfl (Cont.aF _) ?_; refine aG rfl (Cont.aF _) ?_; refine aG rfl (Cont.aF _) ?_; refine aG rfl (Cont.aF _) ?_; refine aG rfl (Cont.aF _) ?_; refine aG rfl (Cont.aF _) ?_; exact aK
 refine aA (GR rfl (fN rfl ?_))
 refine dw rfl rfl (by decide) rfl rfl rfl rfl rfl rfl (by decide) (by (simp <;> omega)) (by (simp <;> omega)) ?_
 refine Aj rfl (aD (aC (aE (aE ?_))))
 refine iV (s := 7) (ty' := Ty.row cy 3 62 (dO y 0)) rfl (Ty.fH (FY hr)) ?_
 refine PJ (s := 7) (tg := 62) rfl rfl ?_
 refine iV (s := 7) (ty' := Ty.win 62 0 (y.bins.length + y.moves.length) 0) rfl (by rw [oS hr]; exact Ty.Nx (by omega)) ?_
 refine iy (B := live [(1, Ty.pp (bH y)), (2, Ty.ptr 3 0), (3, Ty.ptr 4 0), (5, Ty.sl cy (cg y)), (6, Ty.sl cy (c9 y)), (7, Ty.win 62 0 (y.bins.length + y.moves.length) 0)] [(3, Cont.cells 66 [Ty.bool false, Ty.ex (.slice none 0 0), Ty.ex (.slice none 0 0), Ty.ex (.slice none 0 0), Ty.ex (.slice none 0 0)]), (4, Cont.cells 66 (rH y (gI y).fits 81 36 40 15)), (81, Cont.mx bl 43 37 5000 (gI y).bins), (36, Cont.vec bl 37 (gI y).moves), (40, Cont.vec bl 37 (gI y).whole), (15, Cont.vec eV 4 (gI y).missed), (62, Cont.vec cy 3 (dO y 0))]) ?_ ?_
 ·refine cx.mk' ?_ ?_
  ·(repeat (first | refine aB ?_ (Ty.aU _) | refine aB ?_ (Ty.aF _))); exact aJ
  refine aG rfl (Cont.aF _) ?_; refine aG rfl (Cont.aF _) ?_; refine aG rfl (Cont.aF _) ?_; refine aG rfl (Cont.aF _) ?_; refine aG rfl (Cont.aF _) ?_; refine aG rfl (Cont.aF _) ?_; refine aG rfl (Cont.aF _) ?_; exact aK
 refine aA (dA rfl (aD (aC (aZ ?_))))
 refine cF (fun (k : {k : Nat // k ≤ c7 (cg y) (c9 y)}) => live [(1, Ty.pp (bH y)), (2, Ty.ptr 3 0), (3, Ty.ptr 4 0), (5, Ty.sl cy (cg y)), (6, Ty.sl cy (c9 y)), (7, Ty.win 62 0 (y.bins.length + y.moves.length) 0), (10, Ty.bool (decide (k.1 < c7 (cg y) (c9 y))))] [(3, Cont.cells 66 [Ty.bool false, Ty.ex (.slice none 0 0), Ty.ex (.slice none 0 0), Ty.ex (.slice none 0 0), Ty.ex (.slice none 0 0)]), (4, Cont.cells 66 (rH y (dz y k.1).fits 81 36 40 15)), (81, Cont.mx bl 43 37 5000 (dz y k.1).bins), (36, Cont.vec bl 37 (dz y k.1).moves), (40, Cont.vec bl 37 (dz y k.1).whole), (15, Cont.vec eV 4 (dz y k.1).missed), (62, Cont.vec cy 3 (dO y k.1))]) (fun k => c7 (cg y) (c9 y) - k.1) (⟨0, by omega⟩) ?_ fun k => ?_
 ·(refine cx.mk' ?_ ?_ <;> (repeat' (first | exact aJ | exact aK | refine aB ?_ (Ty.aU _) | refine aB ?_ (Ty.aF _) | refine aG rfl (Cont.aF _) ?_ | refine aB ?_ ?_)))
  all_goals exact Ty.dm (decide_eq_true hsz).symm
 have hk := k.2
 have hnl := oS (k := k.1) hr
 have hsm := vX (k := k.1) hr
 have hsh := lS (y := y) k.1
 have hmsl := hsh.missed
 refine aE (aE (aA (fB rfl (aD (aC ?_)))))
 refine aj rfl (fun hc4 => ?_) (fun hc4 => ?_)
 ·
  refine aq (aC (aZ (aE ?_)))
  have hkl : k.1 < c7 (cg y) (c9 y) := hc4
  refine cP mixed rfl (Ft rfl ?_)
  refine aH rfl rfl rfl rfl rfl (by decide) ?_
  refine aI rfl rfl rfl rfl (cK rfl rfl rfl ?_)
  refine IZ rfl rfl rfl rfl rfl rfl (by omega) ?_
  refine Ft rfl ?_
  refine aH rfl rfl rfl rfl rfl (by decide) ?_
  refine aI rfl rfl rfl rfl (cK rfl rfl rfl ?_)
  refine Ko rfl rfl rfl rfl rfl rfl (by omega) ?_
  refine dG rfl rfl (by exact List.cons_ne_nil _ _) rfl (by repeat (first | exact (aV.nil : aV _ _ [] _) | (show aV _ _ ((_, _) :: _) _; apply aV.one; (· exact (rfl : _ = Ty.win _ _ _ _)); (· exact rfl)))) (by exact (rfl : _ = some [_, _])) ?_
  refine bp rfl (by exact List.cons_ne_nil _ _) rfl ?_
  refine bZ rfl rfl (by decide) rfl rfl rfl rfl rfl rfl ?_
  refine aD ?_
  refine ⟨by kernel_rfl, ?_⟩
  refine aC ?_
  refine mJ (J := live [(1, Ty.pp (bH y)), (2, Ty.ptr 3 0), (3, Ty.ptr 4 0), (5, Ty.sl cy (cg y)), (6, Ty.sl cy (c9 y)), (7, Ty.win 62 0 (y.bins.length + y.moves.length) 0)] [(3, Cont.cells 66 [Ty.bool false, Ty.ex (.slice none 0 0), Ty.ex (.slice none 0 0), Ty.ex (.slice none 0 0), Ty.ex (.slice none 0 0)]), (4, Cont.cells 66 (rH y (dz y (k.1 + 1)).fits 81 36 40 15)), (81, Cont.mx bl 43 37 5000 (dz y (k.1 + 1)).bins), (36, Cont.vec bl 37 (dz y (k.1 + 1)).moves), (40, Cont.vec bl 37 (dz y (k.1 + 1)).whole), (15, Cont.vec eV 4 (dz y (k.1 + 1)).missed), (62, Cont.vec cy 3 (dO y k.1))]) ?_ ?_
  ·
   refine aE ?_
   refine jW (tg := 12) rfl (Cont.jz (l' := [Ty.win 62 0 y.bins.length y.moves.length, Ty.win 62 y.bins.length y.moves.length 0]) ⟨Ty.sub_eq (HW (by omega) (by omega) (by omega)), Ty.sub_eq (HW (by omega) (by omega) (by omega)), trivial⟩) ?_
   refine aA ?_
   refine aX rfl rfl rfl (by exact Nat.le_of_ble_eq_true rfl) ?_
   refine bz rfl rfl (by decide) rfl rfl (by exact Nat.le_of_ble_eq_true rfl) ?_
   refine eI [62] (JF y (dh y (dO y k.1)) hr hsm) rfl (aW (bT (bR rfl rfl)) (aW (yP (aW (pW (xs := dO y k.1) (o := 0) rfl rfl uE (by omega) (by decide) rfl) (aW (pW (xs := dO y k.1) (o := y.bins.length) rfl rfl (uK hnl) (by omega) (by decide) rfl) cN))) cN)) (by exact dX _ _) ?_
   refine bk rfl (aD (aC (aE (aA (bG rfl (bB rfl rfl rfl (aD (aC ?_))))))))
   refine aj rfl (fun hc5 => ?_) (fun hc5 => ?_)
   ·
    refine aE ?_
    have hm0 : 0 ≤ eH y (dh y (dO y k.1)) := hc5
    have hm1 : eH y (dh y (dO y k.1)) < 256 := LV hr
    refine aA ?_
    refine aR rfl rfl rfl rfl rfl (by decide) ?_
    refine aY rfl rfl (by decide) rfl rfl rfl ?_
    refine bG rfl ?_
    refine fy rfl rfl rfl rfl rfl hm0 (by omega) ?_
    refine nN (eH y (dh y (dO y k.1))).toNat 0 (z := true) rfl (by show _ * 1 = _ * 1 + 0; omega) rfl (by decide) rfl rfl rfl rfl (by omega) (by decide) rfl rfl ?_
    refine aD (aC (aE (aA (bG rfl (bB rfl rfl rfl (aD (aC ?_)))))))
    refine aj rfl (fun hc6 => ?_) (fun hc6 => ?_)
    ·
     refine aA ?_
     refine aX rfl rfl rfl (by exact Nat.le_of_ble_eq_true rfl) ?_
     refine bz rfl rfl (by decide) rfl rfl (by exact Nat.le_of_ble_eq_true rfl) ?_
     refine dI (res' := Ty.kY []) [(4, 1000), (81, 1001), (36, 1002), (40, 1003), (15, 1004), (62, 1005), (5000, 5000)] [] [(4, Cont.cells 66 (rH y true 81 36 40 15)), (81, Cont.mx bl 43 37 5000 (sM y (dh y (dO y k.1)) (jd y (ir y k.1) (dz y k.1))).bins), (36, Cont.vec bl 37 (sM y (dh y (dO y k.1)) (jd y (ir y k.1) (dz y k.1))).moves), (40, Cont.vec bl 37 (sM y (dh y (dO y k.1)) (jd y (ir y k.1) (dz y k.1))).whole), (15, Cont.vec eV 4 (jd y (ir y k.1) (dz y k.1)).missed), (62, Cont.vec cy 3 (dO y k.1))] (OQ y hr (dO y k.1) hsm hnl (jd y (ir y k.1) (dz y k.1)) (nu hsh)) rfl rfl (aM (aM (aM bU (jm (by decide))) (NV (aM (aM bU (KZ (by decide))) (KZ (by decide))))) (aT rfl rfl)) (cz (a := 4) (b := 1000) (by decide) rfl (gN (by decide) (aM (aM (aM (aM (aM bU (dZ (by decide))) (dZ (by decide))) (dZ (by decide))) (dZ (by decide))) (aT rfl rfl))) (cz (a := 81) (b := 1001) (by decide) rfl (HY (by decide) (by decide) rfl) (cz (a := 36) (b := 1002) (by decide) rfl (bh (by decide) rfl) (cz (a := 40) (b := 1003) (by decide) rfl (bh (by decide) rfl) (cz (a := 15) (b := 1004) (by decide) rfl (bh (by decide) rfl) (cz (a := 62) (b := 1005) (by decide) rfl (bh (by decide) rfl) pre_nil)))))) (bg (a := 4) (b := 1000) (by decide) rfl (gN (by decide) (aM (aM (aM (aM (aM bU (dZ (by decide))) (dZ (by decide))) (dZ (by decide))) (dZ (by decide))) (aT rfl rfl))) (bg (a := 81) (b := 1001) (by decide) rfl (HY (by decide) (by decide) rfl) (bg (a := 36) (b := 1002) (by decide) rfl (bh (by decide) rfl) (bg (a := 40) (b := 1003) (by decide) rfl (bh (by decide) rfl) (bg (a := 15) (b := 1004) (by decide) rfl (bh (by decide) rfl) (bg (a := 62) (b := 1005) (by decide) rfl (bh (by decide) rfl) post_nil)))))) (aT rfl rfl) ?_
     refine aD (fJ ?_)
     (refine cx.mk' ?_ ?_ <;> (repeat' (first | exact aJ | exact aK | exact dD | refine aB ?_ (Ty.aU _) | refine aB ?_ (Ty.aF _) | refine aG rfl (Cont.aF _) ?_ | refine aG rfl (Cont.dF ?_) ?_ | refine bM ?_ (Ty.aF _) | refine bM ?_ ?_ | refine aG rfl ?_ ?_)))
     all_goals first | exact Ty.dm (congrArg o8.fits (sU hc6)) | exact Cont.oU (congrArg o8.bins (sU hc6)) | exact Cont.cr (congrArg o8.moves (sU hc6)) | exact Cont.cr (congrArg o8.whole (sU hc6)) | exact Cont.cr (F1 hc6)
    refine aq (fJ ?_)
    (refine cx.mk' ?_ ?_ <;> (repeat' (first | exact aJ | exact aK | exact dD | refine aB ?_ (Ty.aU _) | refine aB ?_ (Ty.aF _) | refine aG rfl (Cont.aF _) ?_ | refine aG rfl (Cont.dF ?_) ?_ | refine bM ?_ (Ty.aF _) | refine bM ?_ ?_ | refine aG rfl ?_ ?_)))
    all_goals first | exact Cont.cr (congrArg o8.missed (pN hc5 hc6)) | exact Ty.dm (MA hc5 hc6) | exact Cont.oU (Ll hc5 hc6) | exact Cont.cr (IU hc5 hc6) | exact Cont.cr (IQ hc5 hc6)
   refine aq (fJ ?_)
   (refine cx.mk' ?_ ?_ <;> (repeat' (first | exact aJ | exact aK | exact dD | refine aB ?_ (Ty.aU _) | refine aB ?_ (Ty.aF _) | refine aG rfl (Cont.aF _) ?_ | refine aG rfl (Cont.dF ?_) ?_ | refine bM ?_ (Ty.aF _) | refine bM ?_ ?_ | refine aG rfl ?_ ?_)))
   all_goals first | exact Ty.dm (congrArg o8.fits (vR hc5)) | exact Cont.oU (congrArg o8.bins (vR hc5)) | exact Cont.cr (congrArg o8.moves (vR hc5)) | exact Cont.cr (congrArg o8.whole (vR hc5)) | exact Cont.cr (congrArg o8.missed (vR hc5))
  refine aE (aA (Ft rfl (GO rfl rfl rfl ?_)))
  refine gR rfl rfl (by omega) (by omega) ?_
  refine bk rfl (aD (aC (aE (aZ ?_))))
  refine cF (fun (i : {i : Nat // i ≤ y.bins.length + y.moves.length ∧ (dO y k.1).drop i = (c9 y).drop i}) => live [(1, Ty.pp (bH y)), (2, Ty.ptr 3 0), (3, Ty.ptr 4 0), (5, Ty.sl cy (cg y)), (6, Ty.sl cy (c9 y)), (7, Ty.win 62 0 (y.bins.length + y.moves.length) 0), (13, Ty.int .i64 ((i.1 : Nat) - 1))] [(3, Cont.cells 66 [Ty.bool false, Ty.ex (.slice none 0 0), Ty.ex (.slice none 0 0), Ty.ex (.slice none 0 0), Ty.ex (.slice none 0 0)]), (4, Cont.cells 66 (rH y (dz y (k.1 + 1)).fits 81 36 40 15)), (81, Cont.mx bl 43 37 5000 (dz y (k.1 + 1)).bins), (36, Cont.vec bl 37 (dz y (k.1 + 1)).moves), (40, Cont.vec bl 37 (dz y (k.1 + 1)).whole), (15, Cont.vec eV 4 (dz y (k.1 + 1)).missed), (62, Cont.vec cy 3 (j3 (cg y) (dO y k.1) i.1))]) (fun i => i.1) (⟨y.bins.length + y.moves.length, Nat.le_refl _, by rw [List.drop_of_length_le (by omega), List.drop_of_length_le (by omega)]⟩) ?_ fun i => ?_
  ·(refine cx.mk' ?_ ?_ <;> (repeat' (first | exact aJ | exact aK | refine aB ?_ (Ty.aU _) | refine aB ?_ (Ty.aF _) | refine aG rfl (Cont.aF _) ?_ | refine aG rfl ?_ ?_)))
   all_goals exact Cont.cr (by have := Lt (lo := cg y) (x := dO y k.1) (by omega); rw [hnl] at this; exact this)
  have hi := i.2.1
  have hcl : (j3 (cg y) (dO y k.1) i.1).length = y.bins.length + y.moves.length := by rw [MK (by omega) (by omega)]; omega
  refine aE (aE (cP mixed rfl (bG rfl (bB rfl rfl rfl (fB rfl ?_)))))
  apply aN (s := 130) rfl rfl rfl
  ·intro hg; apply aO; have hg' := of_decide_eq_true hg;(refine Ft rfl ?_); refine aD ?_; exact rfl
  ·exact rfl
  ·exact rfl
  apply aN (s := 130) rfl rfl rfl
  ·intro hg; apply aO; have hg' := of_decide_eq_true hg;(refine bG rfl ?_); refine aD ?_; exact rfl
  ·exact rfl
  ·exact rfl
  apply aN (s := 130) rfl rfl rfl
  ·intro hg; apply aL (s := 131) rfl (by (rw [hg]; rfl)); apply aL (s := 132) rfl (by (rw [hg]; rfl)); apply aO; have hg' := of_decide_eq_true hg;(refine k9 rfl rfl rfl rfl rfl rfl (by omega) (by omega) ?_); refine aD ?_; exact rfl
  ·exact rfl
  ·exact rfl
  apply aN (s := 130) rfl rfl rfl
  ·intro hg; apply aL (s := 133) rfl (by (rw [hg]; rfl)); apply aO; have hg' := of_decide_eq_true hg;(refine oZ (E := cy) (((i.1 : Nat) : Int) - 1).toNat 0 (ty := Ty.int .i64 (nth (j3 (cg y) (dO y k.1) i.1) (((i.1 : Nat) : Int) - 1).toNat)) rfl (by show 0 + _ = _ * 1 + 0; omega) rfl (by decide) rfl rfl (by omega) rfl ?_); refine aD ?_; exact rfl
  ·exact rfl
  ·exact rfl
  apply aN (s := 130) rfl rfl rfl
  ·intro hg; apply aO; have hg' := of_decide_eq_true hg;(refine fN rfl ?_); refine aD ?_; exact rfl
  ·exact rfl
  ·exact rfl
  apply aN (s := 130) rfl rfl rfl
  ·intro hg; apply aO; have hg' := of_decide_eq_true hg;(refine bG rfl ?_); refine aD ?_; exact rfl
  ·exact rfl
  ·exact rfl
  apply aN (s := 130) rfl rfl rfl
  ·intro hg; apply aL (s := 135) rfl (by (rw [hg]; rfl)); apply aL (s := 136) rfl (by (rw [hg]; rfl)); apply aO; have hg' := of_decide_eq_true hg;(refine gC rfl rfl rfl rfl rfl rfl (by omega) (by omega) ?_); refine aD ?_; exact rfl
  ·exact rfl
  ·exact rfl
  apply aN (s := 130) rfl rfl rfl
  ·intro hg; apply aL (s := 137) rfl (by (rw [hg]; rfl)); apply aO; have hg' := of_decide_eq_true hg;(refine aI rfl rfl rfl rfl ?_); refine aD ?_; exact rfl
  ·exact rfl
  ·exact rfl
  apply aN (s := 130) rfl rfl rfl
  ·intro hg; apply aL (s := 134) rfl (by (rw [hg]; rfl)); apply aL (s := 138) rfl (by (rw [hg]; rfl)); apply aO; have hg' := of_decide_eq_true hg;(refine bB rfl rfl rfl ?_); refine aD ?_; exact rfl
  ·exact rfl
  ·exact rfl
  refine dy rfl rfl (aD ?_)
  refine ⟨by kernel_rfl, ?_⟩
  refine aC ?_
  refine cI rfl (fun hc7 => ?_) (fun hc7 => ?_)
  ·
   refine aq (aC (aZ (aE ?_)))
   have hcc := hc7
   simp only [Bool.and_eq_true, decide_eq_true_eq] at hcc
   have hin : (((i.1 : Nat) : Int) - 1).toNat = i.1 - 1 := by omega
   have hq : nth (dO y k.1) (i.1 - 1) = nth (c9 y) (i.1 - 1) := by have := hcc.2; rw [hin, wC (by omega) (by omega)] at this; exact this
   refine aA (Ft rfl (bG rfl (fN rfl (bG rfl ?_))))
   refine gC rfl rfl rfl rfl rfl rfl (by omega) (by omega) ?_
   refine aI rfl rfl rfl rfl ?_
   refine k9 rfl rfl rfl rfl rfl rfl (by omega) (by omega) ?_
   refine nN (E := cy) (((i.1 : Nat) : Int) - 1).toNat 0 (z := nth (cg y) (((i.1 : Nat) : Int) - 1).toNat) rfl (by show 0 + _ = _ * 1 + 0; omega) rfl (by decide) rfl rfl rfl rfl (by omega) (by decide) rfl rfl ?_
   refine aD (aC (aA (bG rfl ?_)))
   refine gR rfl rfl (by omega) (by omega) ?_
   refine bk rfl (aD (bI ?_))
   refine bO (⟨i.1 - 1, by omega, GA hr (by omega) (by omega) i.2.2 hq⟩) ?_ (by show i.1 - 1 < i.1; omega)
   (refine cx.mk' ?_ ?_ <;> (repeat' (first | exact aJ | exact aK | refine aB ?_ (Ty.aU _) | refine aB ?_ (Ty.aF _) | refine aG rfl (Cont.aF _) ?_ | refine aG rfl ?_ ?_ | refine aB ?_ ?_)))
   all_goals skip
   all_goals first | exact Ty.bE (by show ((i.1 : Nat) : Int) - 1 - 1 = ((i.1 - 1 : Nat) : Int) - 1; omega) | exact Cont.cr (by rw [hin]; exact IV hr (by omega) (by omega))
  refine cE (aP (aP (aa rfl (aC (aE ?_)))))
  have hcc := hc7
  refine aA (bG rfl (bB rfl rfl rfl (dA rfl (aD (aC (aE (aA (fB rfl (aD ?_)))))))))
  refine aC ?_
  refine aj rfl (fun hc8 => ?_) (fun hc8 => ?_)
  ·
   have hi0 : ((i.1 : Nat) : Int) - 1 ≥ 0 := hc8
   have hin : (((i.1 : Nat) : Int) - 1).toNat = i.1 - 1 := by omega
   have hne : nth (dO y k.1) (i.1 - 1) ≠ nth (c9 y) (i.1 - 1) := fun e => by
    rw [Bool.and_eq_false_iff, decide_eq_false_iff_not, decide_eq_false_iff_not, hin, wC (by omega) (by omega)] at hcc
    rcases hcc with h | h
    ·omega
    exact h e
   have hst := OY hr hkl (i := i.1) (by omega) (by omega) i.2.2 hne
   have hk2 : k.1 + 1 ≤ c7 (cg y) (c9 y) := by omega
   have hbo : decide (((i.1 : Nat) : Int) - 1 ≥ 0) = decide (k.1 + 1 < c7 (cg y) (c9 y)) := by rw [decide_eq_true hi0, decide_eq_true hst.1]
   have hnb := Lu (k := k.1) hr (show i.1 - 1 < y.bins.length + y.moves.length by omega)
   have hcn := wC (y := y) (k := k.1) (i := i.1) (by omega) (by omega)
   have hnx : (j3 (cg y) (dO y k.1) i.1).set (((i.1 : Nat) : Int) - 1).toNat (nth (j3 (cg y) (dO y k.1) i.1) (((i.1 : Nat) : Int) - 1).toNat + 1) = dO y (k.1 + 1) := by rw [hin, hcn]; exact hst.2
   refine aA (Ft rfl (bG rfl ?_))
   refine k9 rfl rfl rfl rfl rfl rfl (by omega) (by omega) ?_
   refine oZ (E := cy) (((i.1 : Nat) : Int) - 1).toNat 0 (ty := Ty.int .i64 (nth (j3 (cg y) (dO y k.1) i.1) (((i.1 : Nat) : Int) - 1).toNat)) rfl (by show 0 + _ = _ * 1 + 0; omega) rfl (by decide) rfl rfl (by omega) rfl ?_
   refine cA rfl rfl (by rw [hin, hcn]; omega) (by rw [hin, hcn]; omega) ?_
   refine k9 rfl rfl rfl rfl rfl rfl (by omega) (by omega) ?_
   refine nN (E := cy) (((i.1 : Nat) : Int) - 1).toNat 0 (z := nth (j3 (cg y) (dO y k.1) i.1) (((i.1 : Nat) : Int) - 1).toNat + 1) rfl (by show 0 + _ = _ * 1 + 0; omega) rfl (by decide) rfl rfl rfl rfl (by omega) (by decide) rfl rfl ?_
   refine aD (bI ?_)
   skip
   refine bO (⟨k.1 + 1, hk2⟩) ?_ (by show c7 (cg y) (c9 y) - (k.1 + 1) < c7 (cg y) (c9 y) - k.1; omega)
   (refine cx.mk' ?_ ?_ <;> (repeat' (first | exact aJ | exact aK | refine aB ?_ (Ty.aU _) | refine aB ?_ (Ty.aF _) | refine aG rfl (Cont.aF _) ?_ | refine aG rfl ?_ ?_ | refine aB ?_ ?_)))
   all_goals skip
   all_goals first | exact Ty.dm hbo | exact Cont.cr hnx
  refine aq (bI ?_)
  (have hi0 : ¬ ((i.1 : Nat) : Int) - 1 ≥ 0 := hc8; have h0 : i.1 = 0 := (by omega); have hls := PN hr hkl (by have := i.2.2; rw [h0] at this; exact this); have hk2 : k.1 + 1 ≤ c7 (cg y) (c9 y) := (by omega); have hbo : decide (((i.1 : Nat) : Int) - 1 ≥ 0) = decide (k.1 + 1 < c7 (cg y) (c9 y)) := (by rw [decide_eq_false hi0, decide_eq_false (by omega)]); have hnx : j3 (cg y) (dO y k.1) i.1 = dO y (k.1 + 1) := (by rw [h0]; exact hls.2))
  refine bO (⟨k.1 + 1, hk2⟩) ?_ (by show c7 (cg y) (c9 y) - (k.1 + 1) < c7 (cg y) (c9 y) - k.1; omega)
  (refine cx.mk' ?_ ?_ <;> (repeat' (first | exact aJ | exact aK | refine aB ?_ (Ty.aU _) | refine aB ?_ (Ty.aF _) | refine aG rfl (Cont.aF _) ?_ | refine aG rfl ?_ ?_ | refine aB ?_ ?_)))
  all_goals skip
  all_goals first | exact Ty.dm hbo | exact Cont.cr hnx
 refine cE (aP (aP (aa rfl (aC (aE ?_)))))
 have hke : k.1 = c7 (cg y) (c9 y) := by have h1 : ¬ k.1 < c7 (cg y) (c9 y) := hc4; have h2 := k.2; omega
 have hsh := lS (y := y) k.1
 refine jA (tg := 5000) [] [(81, Cont.vec tu 43 (dz y k.1).bins)] (by decide) rfl trivial ⟨LW rfl rfl (fun _ => rfl), trivial⟩ ?_
 refine jA (tg := 81) [] [(4, Cont.cells 66 [Ty.bool (dz y k.1).fits, Ty.sl tu (dz y k.1).bins, Ty.vs 36 y.moves.length, Ty.vs 40 (y.D + 1), Ty.vs 15 256])] (by decide) rfl trivial ⟨fD rfl rfl ⟨bF rfl, jc rfl hsh.bins (by decide), bF rfl, bF rfl, bF rfl, trivial⟩, trivial⟩ ?_
 refine jA (tg := 36) [] [(4, Cont.cells 66 [Ty.bool (dz y k.1).fits, Ty.sl tu (dz y k.1).bins, Ty.sl bl (dz y k.1).moves, Ty.vs 40 (y.D + 1), Ty.vs 15 256])] (by decide) rfl trivial ⟨fD rfl rfl ⟨bF rfl, bF rfl, jc rfl hsh.moves (by decide), bF rfl, bF rfl, trivial⟩, trivial⟩ ?_
 refine jA (tg := 40) [] [(4, Cont.cells 66 [Ty.bool (dz y k.1).fits, Ty.sl tu (dz y k.1).bins, Ty.sl bl (dz y k.1).moves, Ty.sl bl (dz y k.1).whole, Ty.vs 15 256])] (by decide) rfl trivial ⟨fD rfl rfl ⟨bF rfl, bF rfl, bF rfl, jc rfl hsh.whole (by decide), bF rfl, trivial⟩, trivial⟩ ?_
 refine jA (tg := 15) [] [(4, Cont.cells 66 [Ty.bool (dz y k.1).fits, Ty.sl tu (dz y k.1).bins, Ty.sl bl (dz y k.1).moves, Ty.sl bl (dz y k.1).whole, Ty.sl eV (dz y k.1).missed])] (by decide) rfl trivial ⟨fD rfl rfl ⟨bF rfl, bF rfl, bF rfl, bF rfl, jc rfl hsh.missed (by decide), trivial⟩, trivial⟩ ?_
 refine iy (B := live [(2, Ty.ptr 3 0), (3, Ty.ptr 4 0)] [(3, Cont.cells 66 [Ty.bool false, Ty.ex (.slice none 0 0), Ty.ex (.slice none 0 0), Ty.ex (.slice none 0 0), Ty.ex (.slice none 0 0)]), (4, Cont.cells 66 (Cw (dz y k.1)))]) ?_ ?_
 ·refine cx.mk' ?_ ?_
  ·(repeat (first | refine aB ?_ (Ty.aU _) | refine aB ?_ (Ty.aF _))); exact aJ
  refine aG rfl (Cont.aF _) ?_; refine aG rfl (Cont.aF _) ?_; exact aK
 refine aA ?_
 refine bz rfl rfl (by decide) rfl rfl (by exact Nat.le_of_ble_eq_true rfl) ?_
 refine bZ rfl rfl (by decide) rfl rfl rfl rfl rfl rfl ?_
 refine aD (aC (ay ?_))
 refine lG rfl rfl rfl rfl (by decide) rfl rfl rfl ?_
 all_goals exact az rfl rfl (congrArg (fun n => Ty.agg (Cw (dz y n))) hke)
end Go.Proofs.YtelbollidfdcjaaGreat
namespace Go.Proofs.YtelbollidfdcjaaGreat
open Go Go.T
set_option maxHeartbeats 8000000
attribute [local irreducible] aQ gZ cQ ak.kept ak.cells bL dU bY gB cX iE ak.time
attribute [local irreducible] gA eU lH nR gy gl g5 gr g9 nU gx nZ dN fS nJ ff nQ nth fI dQ au dK bodyPost Exit.then Exit.inBlock Code.wp Code.wpIn nY gm oC n9 g7 eM cJ cH bodyPostM dP
end Go.Proofs.YtelbollidfdcjaaGreat
namespace Go.Proofs.YtelbollidfdcjaaGreat
open Go Go.T
set_option maxHeartbeats 8000000
section
variable {y : ak} {b : Nat} {n w : Int} {p q : Span → Bool}
end
attribute [local irreducible] Md.nr Md.real iH iW cX jr iM
attribute [local irreducible] gA eU lH nR gy gl g5 gr g9 nU gx nZ dN fS nJ ff nQ nth fI dQ au dK bodyPost Exit.then Exit.inBlock Code.wp Code.wpIn nY gm oC n9 g7 eM cJ cH bodyPostM dP
end Go.Proofs.YtelbollidfdcjaaGreat
namespace Go.Proofs.YtelbollidfdcjaaGreat
open Go Go.T
set_option maxHeartbeats 8000000
section
variable {y : ak} {a r : dY} {b t : Nat} {v : Int}
end
section
variable {y : ak} {a : dY} {P : Span} {v e c : Int} {k : Prop}
end
attribute [local irreducible] Md.nr Md.real iH iW cX qZ cj r6
attribute [local irreducible] gA eU lH nR gy gl g5 gr g9 nU gx nZ dN fS nJ ff nQ nth fI dQ au dK bodyPost Exit.then Exit.inBlock Code.wp Code.wpIn nY gm oC n9 g7 eM cJ cH bodyPostM dP
end Go.Proofs.YtelbollidfdcjaaGreat
namespace Go.Proofs.YtelbollidfdcjaaGreat
open Go Go.T
set_option maxHeartbeats 8000000
structure ak.Fit (y : ak) : Prop where
  bins : y.bins.length * 24 ≤ 140737488351232
  moves : y.moves.length * 40 ≤ 140737488351232
  levels : y.levels.length * 32 ≤ 140737488351232
def KB (b : sX) : Int := b.first.hi - b.first.lo + 1
def JT (m : Move) : Int := m.sacks.hi - m.sacks.lo + 1
def iw (y : ak) : Nat → Int
  | 0 => 1
  | k + 1 => if iw y k < 100000 then iw y k * KB (nth y.bins k) else iw y k
def jQ (y : ak) : Nat → Int
  | 0 => iw y y.bins.length
  | k + 1 => if jQ y k < 100000 then jQ y k * JT (nth y.moves k) else jQ y k
def manyN (y : ak) : Int := jQ y y.moves.length
def Ap (y : ak) : Bool := oP y || (decide (bL y = 0) && decide (manyN y > 3000))
section
variable {y : ak} {a : dY} {k : Nat}
theorem EZ (hr : y.cG) (h : k < y.bins.length) : (1 ≤ KB (nth y.bins k) ∧ KB (nth y.bins k) ≤ 301) ∧ 0 ≤ (nth y.bins k).first.lo ∧ (nth y.bins k).first.hi ≤ 300 := by
 have := hr.bin _ (cW h); unfold KB; omega
theorem FF (hr : y.cG) (h : k < y.moves.length) : (1 ≤ JT (nth y.moves k) ∧ JT (nth y.moves k) ≤ 301) ∧ 0 ≤ (nth y.moves k).sacks.lo ∧ (nth y.moves k).sacks.hi ≤ 300 := by
 have := hr.move _ (cW h); unfold JT; omega
theorem uq {m w : Int} (h1 : 1 ≤ m ∧ m < 100000) (h2 : 1 ≤ w ∧ w ≤ 301) : 1 ≤ m * w ∧ m * w ≤ 30100000 := by
 have a1 : m * 1 ≤ m * w := Int.mul_le_mul_of_nonneg_left h2.1 (by omega)
 have a2 : m * w ≤ m * 301 := Int.mul_le_mul_of_nonneg_left h2.2 (by omega)
 omega
theorem vl (hr : y.cG) : ∀ k, k ≤ y.bins.length → 1 ≤ iw y k ∧ iw y k ≤ 30100000
  | 0, _ => by show (1 : Int) ≤ 1 ∧ (1 : Int) ≤ _; omega
  | k + 1, hk => by
    have ih := vl hr k (by omega)
    have hw := (EZ hr (show k < y.bins.length by omega)).1
    unfold iw
    split
    · exact uq ⟨ih.1, by assumption⟩ hw
    · exact ih
theorem Aq (hr : y.cG) : ∀ k, k ≤ y.moves.length → 1 ≤ jQ y k ∧ jQ y k ≤ 30100000
  | 0, _ => vl hr _ (Nat.le_refl _)
  | k + 1, hk => by
    have ih := Aq hr k (by omega)
    have hw := (FF hr (show k < y.moves.length by omega)).1
    unfold jQ
    split
    · exact uq ⟨ih.1, by assumption⟩ hw
    · exact ih
theorem wR (h : ¬ iw y k < 100000) : ∀ d, iw y (k + d) = iw y k
  | 0 => rfl
  | d + 1 => by
    have ih := wR h d
    show (if iw y (k + d) < 100000 then _ else iw y (k + d)) = _
    rw [ih, if_neg h]
theorem xB (h : ¬ jQ y k < 100000) : ∀ d, jQ y (k + d) = jQ y k
  | 0 => rfl
  | d + 1 => by
    have ih := xB h d
    show (if jQ y (k + d) < 100000 then _ else jQ y (k + d)) = _
    rw [ih, if_neg h]
theorem Co (h : iw y k < 100000) : iw y k * ((nth y.bins k).first.hi - (nth y.bins k).first.lo + 1) = iw y (k + 1) := (if_pos h).symm
theorem C6 (h : jQ y k < 100000) : jQ y k * ((nth y.moves k).sacks.hi - (nth y.moves k).sacks.lo + 1) = jQ y (k + 1) := (if_pos h).symm
theorem GF (hk : k ≤ y.bins.length) (h : (decide ((k : Int) < (y.bins.length : Int)) && decide (iw y k < 100000)) = false) : iw y k = jQ y 0 := by
 show _ = iw y y.bins.length
 rw [Bool.and_eq_false_iff, decide_eq_false_iff_not, decide_eq_false_iff_not] at h
 rcases h with h | h
 ·rw [show k = y.bins.length by omega]
 rw [show y.bins.length = k + (y.bins.length - k) by omega, wR h]
theorem FW (hk : k ≤ y.moves.length) (h : (decide ((k : Int) < (y.moves.length : Int)) && decide (jQ y k < 100000)) = false) : jQ y k = manyN y := by
 unfold manyN
 rw [Bool.and_eq_false_iff, decide_eq_false_iff_not, decide_eq_false_iff_not] at h
 rcases h with h | h
 ·rw [show k = y.moves.length by omega]
 rw [show y.moves.length = k + (y.moves.length - k) by omega, xB h]
theorem Li : (oP y || (decide (iY y = 0) && decide (manyN y > 3000))) = Ap y := by rw [check_eq]; rfl
theorem Cr (h : Ap y = false) : oP y = false := by
 unfold Ap at h; rw [Bool.or_eq_false_iff] at h; exact h.1
end
attribute [local irreducible] oP bL iY eH iw jQ manyN
attribute [local irreducible] gA eU lH nR gy gl g5 gr g9 nU gx nZ dN fS nJ ff nQ nth fI dQ au dK bodyPost Exit.then Exit.inBlock Code.wp Code.wpIn nY gm oC n9 g7 eM cJ cH bodyPostM dP
set_option maxRecDepth 100000 in
theorem GU (y : ak) (hs : y.Fit) : dK Tryz.prog 30 [dn y] (dn y) := by
 refine ah Tryz.func30 rfl (by decide) Tryz.ntmps30 (by exact Nat.le_of_ble_eq_true rfl) fun w0 M0 => ?_
 have hs1 := hs.bins
 have hs2 := hs.moves
 have hs3 := hs.levels
 refine aE (aA (bD rfl ?_))
 refine bp rfl (by exact List.cons_ne_nil _ _) rfl ?_
 refine aD (aC (aE (aA ?_)))
 refine aH rfl rfl rfl rfl rfl (by decide) ?_
 refine aI rfl rfl rfl rfl ?_
 refine dG rfl rfl (by exact List.cons_ne_nil _ _) rfl (by repeat (first | exact (aV.nil : aV _ _ [] _) | (show aV _ _ ((_, _) :: _) _; apply aV.one; (· exact (rfl : _ = Ty.int _ _)); (· exact rfl)))) (by exact (rfl : _ = some [_, _, _, _])) ?_
 refine bp rfl (by exact List.cons_ne_nil _ _) rfl ?_
 refine bZ rfl rfl (by decide) rfl rfl rfl rfl rfl rfl ?_
 refine aD (aC (aE (aE (aA ?_))))
 refine aH rfl rfl rfl rfl rfl (by decide) ?_
 refine aI rfl rfl rfl rfl (cK rfl rfl rfl (bG rfl (aD (aC (aZ ?_)))))
 refine cF (fun (k : {k : Nat // k ≤ y.bins.length}) => live [(1, Ty.pp (bH y)), (2, Ty.ptr 3 0), (3, Ty.ptr 4 0), (14, Ty.sl fC y.bins), (15, Ty.int .i64 y.bins.length), (16, Ty.int .i64 (k.1 : Nat))] [(3, Cont.cells 60 [Ty.int .i64 0, Ty.ex (.slice none 0 0), Ty.ex (.slice none 0 0), Ty.ex (.slice none 0 0)]), (4, Cont.cells 60 [Ty.int .i64 y.days, Ty.row fC 163 24 (y.bins.take k.1), Ty.ex (.slice none 0 0), Ty.ex (.slice none 0 0)])]) (fun k => y.bins.length - k.1) (⟨0, by omega⟩) ?_ fun k => ?_
 ·(refine cx.mk' ?_ ?_ <;> (repeat' (first | exact aJ | exact aK | exact dD | refine aB ?_ (Ty.aU _) | refine aB ?_ (Ty.aF _) | refine aG rfl (Cont.aF _) ?_ | refine aG rfl (Cont.dF ?_) ?_ | refine bM ?_ (Ty.aF _) | refine bM ?_ Ty.gq)))
  all_goals trace_state
 have hk := k.2
 refine aE (aA (bB rfl rfl rfl (aD (aC (aE ?_)))))
 refine aj rfl (fun hc1 => ?_) (fun hc1 => ?_)
 ·
  refine aq (aC (aE (aZ (aE (aA ?_)))))
  refine av rfl rfl rfl rfl rfl rfl (by omega) ?_
  refine aX rfl rfl rfl (by exact Nat.le_of_ble_eq_true rfl) ?_
  refine bp rfl (by exact List.cons_ne_nil _ _) rfl ?_
  refine bZ rfl rfl (by decide) rfl rfl rfl rfl rfl rfl ?_
  refine aD (aC (aA ?_))
  refine aR rfl rfl rfl rfl rfl (by decide) ?_
  refine aY rfl rfl (by decide) rfl rfl rfl ?_
  refine bz rfl rfl (by decide) rfl rfl (by exact Nat.le_of_ble_eq_true rfl) ?_
  refine bW (E := fC) (xs := [nth y.bins k.1]) rfl rfl rfl rfl rfl (by decide) (by decide) (by repeat (first | exact (aV.nil : aV _ _ [] _) | (show aV _ _ ((_, _) :: _) _; apply aV.agg; (· exact (rfl : _ = Ty.agg _))))) (by exact rfl) rfl ?_
  refine dw rfl rfl (by decide) rfl rfl rfl rfl rfl rfl (by decide) (by (simp <;> omega)) (by (simp <;> omega)) ?_
  refine aR rfl rfl rfl rfl rfl (by decide) ?_
  refine cm rfl rfl (by decide) rfl rfl (by exact (rfl : _ = Ty.row _ _ _ _)) rfl (by exact Nat.le_of_ble_eq_true rfl) rfl rfl (by exact rfl) ?_
  refine aD (bI (aC (aA ?_)))
  refine cA rfl rfl (by omega) (by omega) ?_
  refine bG rfl (aD ?_)
  refine bO (⟨k.1 + 1, by omega⟩) ?_ (by show y.bins.length - (k.1 + 1) < y.bins.length - k.1; omega)
  (refine cx.mk' ?_ ?_ <;> (repeat' (first | exact aJ | exact aK | exact dD | refine aB ?_ (Ty.aU _) | refine aB ?_ (Ty.aF _) | refine aG rfl (Cont.aF _) ?_ | refine aG rfl (Cont.dF ?_) ?_ | refine bM ?_ (Ty.aF _) | refine bM ?_ ?_)))
  all_goals exact Ty.fH (cT (by omega)).symm
  all_goals trace_state
 refine cE (aP (aP (aa rfl (aC (aE (aE ?_))))))
 refine jA (tg := 24) [] [(4, Cont.cells 60 [Ty.int .i64 y.days, Ty.sl fC y.bins, Ty.ex (.slice none 0 0), Ty.ex (.slice none 0 0)])] (by decide) rfl trivial ⟨fD rfl rfl ⟨bF rfl, iR (List.take_of_length_le (by have := k.2; omega)), bF rfl, bF rfl, trivial⟩, trivial⟩ ?_
 refine aA ?_
 refine aH rfl rfl rfl rfl rfl (by decide) ?_
 refine aI rfl rfl rfl rfl (cK rfl rfl rfl (bG rfl (aD (aC (aZ ?_)))))
 refine cF (fun (m : {k : Nat // k ≤ y.moves.length}) => live [(1, Ty.pp (bH y)), (2, Ty.ptr 3 0), (3, Ty.ptr 4 0), (28, Ty.sl eD y.moves), (29, Ty.int .i64 y.moves.length), (30, Ty.int .i64 (m.1 : Nat))] [(3, Cont.cells 60 [Ty.int .i64 0, Ty.ex (.slice none 0 0), Ty.ex (.slice none 0 0), Ty.ex (.slice none 0 0)]), (4, Cont.cells 60 [Ty.int .i64 y.days, Ty.sl fC y.bins, Ty.row eD 164 38 (y.moves.take m.1), Ty.ex (.slice none 0 0)])]) (fun m => y.moves.length - m.1) (⟨0, by omega⟩) ?_ fun m => ?_
 ·(refine cx.mk' ?_ ?_ <;> (repeat' (first | exact aJ | exact aK | exact dD | refine aB ?_ (Ty.aU _) | refine aB ?_ (Ty.aF _) | refine aG rfl (Cont.aF _) ?_ | refine aG rfl (Cont.dF ?_) ?_ | refine bM ?_ (Ty.aF _) | refine bM ?_ Ty.gq)))
  all_goals trace_state
 have hm := m.2
 refine aE (aA (bB rfl rfl rfl (aD (aC (aE ?_)))))
 refine aj rfl (fun hc2 => ?_) (fun hc2 => ?_)
 ·
  refine aq (aC (aE (aZ (aE (aA ?_)))))
  refine av rfl rfl rfl rfl rfl rfl (by omega) ?_
  refine aX rfl rfl rfl (by exact Nat.le_of_ble_eq_true rfl) ?_
  refine bp rfl (by exact List.cons_ne_nil _ _) rfl ?_
  refine bZ rfl rfl (by decide) rfl rfl rfl rfl rfl rfl ?_
  refine aD (aC (aA ?_))
  refine aR rfl rfl rfl rfl rfl (by decide) ?_
  refine aY rfl rfl (by decide) rfl rfl rfl ?_
  refine bz rfl rfl (by decide) rfl rfl (by exact Nat.le_of_ble_eq_true rfl) ?_
  refine bW (E := eD) (xs := [nth y.moves m.1]) rfl rfl rfl rfl rfl (by decide) (by decide) (by repeat (first | exact (aV.nil : aV _ _ [] _) | (show aV _ _ ((_, _) :: _) _; apply aV.agg; (· exact (rfl : _ = Ty.agg _))))) (by exact rfl) rfl ?_
  refine dw rfl rfl (by decide) rfl rfl rfl rfl rfl rfl (by decide) (by (simp <;> omega)) (by (simp <;> omega)) ?_
  refine aR rfl rfl rfl rfl rfl (by decide) ?_
  refine cm rfl rfl (by decide) rfl rfl (by exact (rfl : _ = Ty.row _ _ _ _)) rfl (by exact Nat.le_of_ble_eq_true rfl) rfl rfl (by exact rfl) ?_
  refine aD (bI (aC (aA ?_)))
  refine cA rfl rfl (by omega) (by omega) ?_
  refine bG rfl (aD ?_)
  refine bO (⟨m.1 + 1, by omega⟩) ?_ (by show y.moves.length - (m.1 + 1) < y.moves.length - m.1; omega)
  (refine cx.mk' ?_ ?_ <;> (repeat' (first | exact aJ | exact aK | exact dD | refine aB ?_ (Ty.aU _) | refine aB ?_ (Ty.aF _) | refine aG rfl (Cont.aF _) ?_ | refine aG rfl (Cont.dF ?_) ?_ | refine bM ?_ (Ty.aF _) | refine bM ?_ ?_)))
  all_goals exact Ty.fH (cT (by omega)).symm
  all_goals trace_state
 refine cE (aP (aP (aa rfl (aC (aE (aE ?_))))))
 refine jA (tg := 38) [] [(4, Cont.cells 60 [Ty.int .i64 y.days, Ty.sl fC y.bins, Ty.sl eD y.moves, Ty.ex (.slice none 0 0)])] (by decide) rfl trivial ⟨fD rfl rfl ⟨bF rfl, bF rfl, iR (List.take_of_length_le (by have := m.2; omega)), bF rfl, trivial⟩, trivial⟩ ?_
 refine aA ?_
 refine aH rfl rfl rfl rfl rfl (by decide) ?_
 refine aI rfl rfl rfl rfl (cK rfl rfl rfl (bG rfl (aD (aC (aZ ?_)))))
 refine cF (fun (n : {k : Nat // k ≤ y.levels.length}) => live [(1, Ty.pp (bH y)), (2, Ty.ptr 3 0), (3, Ty.ptr 4 0), (42, Ty.sl dV y.levels), (43, Ty.int .i64 y.levels.length), (44, Ty.int .i64 (n.1 : Nat))] [(3, Cont.cells 60 [Ty.int .i64 0, Ty.ex (.slice none 0 0), Ty.ex (.slice none 0 0), Ty.ex (.slice none 0 0)]), (4, Cont.cells 60 [Ty.int .i64 y.days, Ty.sl fC y.bins, Ty.sl eD y.moves, Ty.row dV 165 52 (y.levels.take n.1)])]) (fun n => y.levels.length - n.1) (⟨0, by omega⟩) ?_ fun n => ?_
 ·(refine cx.mk' ?_ ?_ <;> (repeat' (first | exact aJ | exact aK | exact dD | refine aB ?_ (Ty.aU _) | refine aB ?_ (Ty.aF _) | refine aG rfl (Cont.aF _) ?_ | refine aG rfl (Cont.dF ?_) ?_ | refine bM ?_ (Ty.aF _) | refine bM ?_ Ty.gq)))
  all_goals trace_state
 have hn := n.2
 refine aE (aA (bB rfl rfl rfl (aD (aC (aE ?_)))))
 refine aj rfl (fun hc3 => ?_) (fun hc3 => ?_)
 ·
  refine aq (aC (aE (aZ (aE (aA ?_)))))
  refine av rfl rfl rfl rfl rfl rfl (by omega) ?_
  refine aX rfl rfl rfl (by exact Nat.le_of_ble_eq_true rfl) ?_
  refine bp rfl (by exact List.cons_ne_nil _ _) rfl ?_
  refine bZ rfl rfl (by decide) rfl rfl rfl rfl rfl rfl ?_
  refine aD (aC (aA ?_))
  refine aR rfl rfl rfl rfl rfl (by decide) ?_
  refine aY rfl rfl (by decide) rfl rfl rfl ?_
  refine bz rfl rfl (by decide) rfl rfl (by exact Nat.le_of_ble_eq_true rfl) ?_
  refine bW (E := dV) (xs := [nth y.levels n.1]) rfl rfl rfl rfl rfl (by decide) (by decide) (by repeat (first | exact (aV.nil : aV _ _ [] _) | (show aV _ _ ((_, _) :: _) _; apply aV.agg; (· exact (rfl : _ = Ty.agg _))))) (by exact rfl) rfl ?_
  refine dw rfl rfl (by decide) rfl rfl rfl rfl rfl rfl (by decide) (by (simp <;> omega)) (by (simp <;> omega)) ?_
  refine aR rfl rfl rfl rfl rfl (by decide) ?_
  refine cm rfl rfl (by decide) rfl rfl (by exact (rfl : _ = Ty.row _ _ _ _)) rfl (by exact Nat.le_of_ble_eq_true rfl) rfl rfl (by exact rfl) ?_
  refine aD (bI (aC (aA ?_)))
  refine cA rfl rfl (by omega) (by omega) ?_
  refine bG rfl (aD ?_)
  refine bO (⟨n.1 + 1, by omega⟩) ?_ (by show y.levels.length - (n.1 + 1) < y.levels.length - n.1; omega)
  (refine cx.mk' ?_ ?_ <;> (repeat' (first | exact aJ | exact aK | exact dD | refine aB ?_ (Ty.aU _) | refine aB ?_ (Ty.aF _) | refine aG rfl (Cont.aF _) ?_ | refine aG rfl (Cont.dF ?_) ?_ | refine bM ?_ (Ty.aF _) | refine bM ?_ ?_)))
  all_goals exact Ty.fH (cT (by omega)).symm
  all_goals trace_state
 refine cE (aP (aP (aa rfl (aC (aE ?_)))))
 refine jA (tg := 52) [] [(4, Cont.cells 60 [Ty.int .i64 y.days, Ty.sl fC y.bins, Ty.sl eD y.moves, Ty.sl dV y.levels])] (by decide) rfl trivial ⟨fD rfl rfl ⟨bF rfl, bF rfl, bF rfl, iR (List.take_of_length_le (by have := n.2; omega)), trivial⟩, trivial⟩ ?_
 refine aA ?_
 refine bz rfl rfl (by decide) rfl rfl (by exact Nat.le_of_ble_eq_true rfl) ?_
 refine bZ rfl rfl (by decide) rfl rfl rfl rfl rfl rfl ?_
 refine aD (aC (ay ?_))
 refine lG rfl rfl rfl rfl (by decide) rfl rfl rfl ?_
 all_goals exact az rfl rfl rfl
set_option maxRecDepth 100000 in
theorem N6 (y : ak) (hr : y.cG) : dK Tryz.prog 94 [dn y] (Ty.int .i64 (manyN y)) := by
 refine ah Tryz.func94 rfl (by decide) Tryz.ntmps94 (by exact Nat.le_of_ble_eq_true rfl) fun w0 M0 => ?_
 have hyb := hr.bins
 have hym := hr.moves
 refine aE (aA (bD rfl (bk rfl (aD (aC (aE (aA (bk rfl (aD ?_)))))))))
 refine aC (aE (aE (aA (bk rfl (aD (aC (aZ ?_)))))))
 refine cF (fun (k : {k : Nat // k ≤ y.bins.length}) => live [(1, Ty.pp (bH y)), (3, Ty.int .i64 (iw y k.1)), (4, Ty.int .i64 (k.1 : Nat))] []) (fun k => y.bins.length - k.1) (⟨0, Nat.zero_le _⟩) ?_ fun k => ?_
 ·(refine cx.mk' ?_ ?_ <;> (repeat' (first | exact aJ | exact aK | refine aB ?_ (Ty.aU _) | refine aB ?_ (Ty.aF _) | refine aB ?_ ?_)))
  all_goals exact Ty.bE (by unfold iw; rfl)
 have hk := k.2
 have hmb := vl hr k.1 hk
 refine aE (aE (aA (bG rfl ?_)))
 refine aH rfl rfl rfl rfl rfl (by decide) ?_
 refine aI rfl rfl rfl rfl (cK rfl rfl rfl (bB rfl rfl rfl (fB rfl ?_)))
 apply aN (s := 11) rfl rfl rfl
 ·intro hg; apply aO; (refine bG rfl ?_); refine aD ?_; exact rfl
 ·exact rfl
 ·exact rfl
 apply aN (s := 11) rfl rfl rfl
 ·intro hg; apply aL (s := 12) rfl (by (rw [hg]; rfl)); apply aO; (refine bB rfl rfl rfl ?_); refine aD ?_; exact rfl
 ·exact rfl
 ·exact rfl
 refine dy rfl rfl (aD (aC ?_))
 refine cI rfl (fun hc1 => ?_) (fun hc1 => ?_)
 ·
  refine aq (aC (aE (aZ ?_)))
  have hcc := hc1
  simp only [Bool.and_eq_true, decide_eq_true_eq] at hcc
  have hk2 : k.1 < y.bins.length := by omega
  have hw := EZ hr hk2
  unfold KB at hw
  have hmu := uq ⟨hmb.1, hcc.2⟩ hw.1
  refine cP mixed rfl (bG rfl ?_)
  refine aH rfl rfl rfl rfl rfl (by decide) ?_
  refine aI rfl rfl rfl rfl (bG rfl ?_)
  refine av rfl rfl rfl rfl rfl rfl (by omega) ?_
  refine aH rfl rfl rfl rfl rfl (by decide) ?_
  refine aH rfl rfl rfl rfl rfl (by decide) ?_
  refine aI rfl rfl rfl rfl ?_
  refine aH rfl rfl rfl rfl rfl (by decide) ?_
  refine aI rfl rfl rfl rfl (bG rfl ?_)
  refine av rfl rfl rfl rfl rfl rfl (by omega) ?_
  refine aH rfl rfl rfl rfl rfl (by decide) ?_
  refine aH rfl rfl rfl rfl rfl (by decide) ?_
  refine aI rfl rfl rfl rfl ?_
  refine gR rfl rfl (by omega) (by omega) ?_
  refine cA rfl rfl (by omega) (by omega) ?_
  refine wL rfl rfl (by omega) (by omega) ?_
  refine bk rfl (aD ?_)
  refine ⟨by kernel_rfl, ?_⟩
  refine bI (aC (aA (bG rfl ?_)))
  refine cA rfl rfl (by omega) (by omega) ?_
  refine bk rfl (aD ?_)
  refine bO (⟨k.1 + 1, by omega⟩) ?_ (by show y.bins.length - (k.1 + 1) < y.bins.length - k.1; omega)
  (refine cx.mk' ?_ ?_ <;> (repeat' (first | exact aJ | exact aK | refine aB ?_ (Ty.aU _) | refine aB ?_ (Ty.aF _) | refine aB ?_ ?_)))
  all_goals skip
  all_goals exact Ty.bE (Co hcc.2)
 refine cE (aP (aP (aa rfl (aC (aE (aE (aA (bk rfl (aD ?_)))))))))
 refine aC (aZ ?_)
 refine cF (fun (m : {k : Nat // k ≤ y.moves.length}) => live [(1, Ty.pp (bH y)), (3, Ty.int .i64 (jQ y m.1)), (5, Ty.int .i64 (m.1 : Nat))] []) (fun m => y.moves.length - m.1) (⟨0, Nat.zero_le _⟩) ?_ fun m => ?_
 ·(refine cx.mk' ?_ ?_ <;> (repeat' (first | exact aJ | exact aK | refine aB ?_ (Ty.aU _) | refine aB ?_ (Ty.aF _) | refine aB ?_ ?_)))
  all_goals exact Ty.bE (GF k.2 hc1)
 have hm := m.2
 have hmm := Aq hr m.1 hm
 refine aE (aE (aA (bG rfl ?_)))
 refine aH rfl rfl rfl rfl rfl (by decide) ?_
 refine aI rfl rfl rfl rfl (cK rfl rfl rfl (bB rfl rfl rfl (fB rfl ?_)))
 apply aN (s := 40) rfl rfl rfl
 ·intro hg; apply aO; (refine bG rfl ?_); refine aD ?_; exact rfl
 ·exact rfl
 ·exact rfl
 apply aN (s := 40) rfl rfl rfl
 ·intro hg; apply aL (s := 41) rfl (by (rw [hg]; rfl)); apply aO; (refine bB rfl rfl rfl ?_); refine aD ?_; exact rfl
 ·exact rfl
 ·exact rfl
 refine dy rfl rfl (aD (aC ?_))
 refine cI rfl (fun hc2 => ?_) (fun hc2 => ?_)
 ·
  refine aq (aC (aE (aZ ?_)))
  have hcc2 := hc2
  simp only [Bool.and_eq_true, decide_eq_true_eq] at hcc2
  have hm2 : m.1 < y.moves.length := by omega
  have hw := FF hr hm2
  unfold JT at hw
  have hmu := uq ⟨hmm.1, hcc2.2⟩ hw.1
  refine cP mixed rfl (bG rfl ?_)
  refine aH rfl rfl rfl rfl rfl (by decide) ?_
  refine aI rfl rfl rfl rfl (bG rfl ?_)
  refine av rfl rfl rfl rfl rfl rfl (by omega) ?_
  refine aH rfl rfl rfl rfl rfl (by decide) ?_
  refine aH rfl rfl rfl rfl rfl (by decide) ?_
  refine aI rfl rfl rfl rfl ?_
  refine aH rfl rfl rfl rfl rfl (by decide) ?_
  refine aI rfl rfl rfl rfl (bG rfl ?_)
  refine av rfl rfl rfl rfl rfl rfl (by omega) ?_
  refine aH rfl rfl rfl rfl rfl (by decide) ?_
  refine aH rfl rfl rfl rfl rfl (by decide) ?_
  refine aI rfl rfl rfl rfl ?_
  refine gR rfl rfl (by omega) (by omega) ?_
  refine cA rfl rfl (by omega) (by omega) ?_
  refine wL rfl rfl (by omega) (by omega) ?_
  refine bk rfl (aD ?_)
  refine ⟨by kernel_rfl, ?_⟩
  refine bI (aC (aA (bG rfl ?_)))
  refine cA rfl rfl (by omega) (by omega) ?_
  refine bk rfl (aD ?_)
  refine bO (⟨m.1 + 1, by omega⟩) ?_ (by show y.moves.length - (m.1 + 1) < y.moves.length - m.1; omega)
  (refine cx.mk' ?_ ?_ <;> (repeat' (first | exact aJ | exact aK | refine aB ?_ (Ty.aU _) | refine aB ?_ (Ty.aF _) | refine aB ?_ ?_)))
  all_goals skip
  all_goals exact Ty.bE (C6 hcc2.2)
 refine cE (aP (aP (aa rfl (aC (aE (aA (bG rfl (bk rfl (aD ?_)))))))))
 refine aC (ay (bP rfl rfl ?_))
 all_goals skip
 all_goals exact az rfl rfl (congrArg (Ty.int .i64) (FW m.2 hc2))
set_option maxRecDepth 100000 in
theorem OH (y : ak) (hf : y.Fit) : dK Tryz.prog 28 [dn y] (Ty.bool (Ap y)) := by
 refine ah Tryz.func28 rfl (by decide) Tryz.ntmps28 (by exact Nat.le_of_ble_eq_true rfl) fun w0 M0 => ?_
 refine aE (aA (bD rfl (dA rfl (aD (aC (aE (aA ?_)))))))
 refine aX rfl rfl rfl (by exact Nat.le_of_ble_eq_true rfl) ?_
 refine af (GU y hf) rfl rfl rfl rfl rfl ?_
 refine bp rfl (by exact List.cons_ne_nil _ _) rfl ?_
 refine bZ rfl rfl (by decide) rfl rfl rfl rfl rfl rfl ?_
 refine aD (aC (aE (aA ?_)))
 refine aX rfl rfl rfl (by exact Nat.le_of_ble_eq_true rfl) ?_
 refine af (LF y) rfl rfl rfl rfl rfl (fB rfl ?_)
 apply aN (s := 8) rfl rfl rfl
 ·intro hg; apply aO; (refine bz rfl rfl (by decide) rfl rfl (by exact Nat.le_of_ble_eq_true rfl) ?_); refine aD ?_; exact rfl
 ·exact rfl
 ·exact rfl
 apply aN (s := 8) rfl rfl rfl
 ·intro hg; apply aL (s := 9) rfl (by (rw [hg]; rfl)); apply aO; (refine af (CG y (uC hg)) rfl rfl rfl rfl rfl ?_); refine aD ?_; exact rfl
 ·exact rfl
 ·exact rfl
 apply aN (s := 8) rfl rfl rfl
 ·intro hg; apply aL (s := 10) rfl (by (rw [hg]; rfl)); apply aO; (refine bB rfl rfl rfl ?_); refine aD ?_; exact rfl
 ·exact rfl
 ·exact rfl
 apply aN (s := 8) rfl rfl rfl
 ·intro hg; apply aL (s := 11) rfl (by (rw [hg]; rfl)); apply aO; (refine fB rfl ?_); refine aD ?_; exact rfl
 ·exact rfl
 ·exact rfl
 apply fT (s := 12) rfl rfl rfl
 ·intro hg1 hg2; apply aO; (refine bz rfl rfl (by decide) rfl rfl (by exact Nat.le_of_ble_eq_true rfl) ?_); refine aD ?_; exact rfl
 ·exact rfl
 ·exact rfl
 apply fT (s := 12) rfl rfl rfl
 ·intro hg1 hg2; apply aL (s := 13) rfl (by (rw [hg1, hg2]; rfl)); apply aO; (refine af (N6 y (c6 ((check_eq y).symm.trans (of_decide_eq_true hg2)))) rfl rfl rfl rfl rfl ?_); refine aD ?_; exact rfl
 ·exact rfl
 ·exact rfl
 apply fT (s := 12) rfl rfl rfl
 ·intro hg1 hg2; apply aL (s := 14) rfl (by (rw [hg1, hg2]; rfl)); apply aO; (refine bB rfl rfl rfl ?_); refine aD ?_; exact rfl
 ·exact rfl
 ·exact rfl
 apply aN (s := 8) rfl rfl rfl
 ·intro hg; apply aL (s := 12) rfl (by (rw [hg]; rfl)); apply qz (s := 15) rfl (by (rw [hg]; rfl)); apply aO; (refine dy rfl rfl ?_); refine aD ?_; exact rfl
 ·exact rfl
 ·exact rfl
 refine ig rfl rfl (dA rfl (aD (aC (ay (bP rfl rfl ?_)))))
 all_goals skip
 all_goals exact az rfl rfl (congrArg Ty.bool Li)
end Go.Proofs.YtelbollidfdcjaaGreat
namespace Go.Proofs.YtelbollidfdcjaaGreat
open Go Go.T
section
variable {y : ak} {p q d v : Int} {b t k : Nat}
theorem xL.NC {f : dY → Int} {s : Span} (hr : y.cG) (h : xL y (fun _ => true) f s) : xL y (nth bY) f s := by
 obtain ⟨⟨a, ha, ea⟩, ⟨c, hc, ec⟩, hall⟩ := h
 exact ⟨⟨a, (lY hr).2 ha, ea⟩, ⟨c, (lY hr).2 hc, ec⟩, fun x hx => hall x ((lY hr).1 hx)⟩
theorem vk (h0 : bL y = 0) : (gJ y).fits = true ↔ cX y = 0 := by
 have hr := c6 h0
 rw [IB hr, H7 h0]
 exact ⟨fun ⟨a, h⟩ => ⟨a, (lY hr).2 h⟩, fun ⟨a, h⟩ => ⟨a, (lY hr).1 h⟩⟩
theorem LC (h0 : bL y = 0) (h : (!(gJ y).fits) = false) : 0 = cX y := ((vk h0).1 (eX h)).symm
theorem Lr (h0 : bL y = 0) (h : (!(gJ y).fits) = true) : 7 = cX y := by
 have hno : ¬ cX y = 0 := fun e => by rw [(vk h0).2 e] at h; cases h
 exact (BF h0 fun hf => hno (va h0 hf)).symm
theorem Im (ho : cX y = 0) (hb : b < y.bins.length) : nth (gJ y).bins b = iH y (b : Int) := by
 have h0 := eG ho
 have hr := c6 h0
 have hf := (vk h0).2 ho
 have hl := (sZ (y := y)).row b hb
 refine p8 (by rw [hl, HM ho hb]) fun t ht => ?_
 rw [hl] at ht
 exact ((Kx hr hb (by omega) hf).NC hr).one (Hl ho hb (by omega))
def xV (y : ak) (p : Int) : Bool := decide (p < 0) || decide (p ≥ (y.bins.length : Int))
theorem Af (h : xV y p = false) : 0 ≤ p ∧ p < (y.bins.length : Int) ∧ ((p.toNat : Nat) : Int) = p ∧ p.toNat < y.bins.length := by
 unfold xV at h
 rw [Bool.or_eq_false_iff, decide_eq_false_iff_not, decide_eq_false_iff_not] at h
 omega
theorem GN (h0 : bL y = 0) (h : xV y p = true) : dU y p = 1 := by
 unfold dU
 rw [if_pos h0, if_neg ?_]
 unfold ak.bin
 rw [iN]
 unfold xV at h
 rw [Bool.or_eq_true, decide_eq_true_eq, decide_eq_true_eq] at h
 omega
theorem lQ (h0 : bL y = 0) (h : xV y p = false) : dU y p = 0 := by
 have := Af h
 unfold dU
 rw [if_pos h0, if_pos ?_]
 unfold ak.bin
 rw [iN]; omega
theorem Ed (h0 : bL y = 0) (h : xV y p = false) : cX y = iW y p := by
 unfold iW; rw [if_pos (lQ h0 h)]
end
end Go.Proofs.YtelbollidfdcjaaGreat
namespace Go.Proofs.YtelbollidfdcjaaGreat
open Go Go.T
def eL (p : Span → Bool) (l : List Span) (k : Nat) : Int := if fidx p (l.drop k) < 0 then 6 else 0
def vL (p : Span → Bool) (l : List Span) (k : Nat) : Int := if fidx p (l.drop k) < 0 then 0 else (k : Int) + fidx p (l.drop k)
section
variable {p : Span → Bool} {l : List Span} {k : Nat}
theorem yY {x : Span} : fidx p (x :: l) = if p x = true then 0 else if fidx p l < 0 then -1 else fidx p l + 1 := by
  unfold fidx
  rw [List.findIdx?_cons]
  cases h : p x with
  | true => simp
  | false =>
    simp only [Bool.false_eq_true, if_false]
    cases h2 : l.findIdx? p with
    | none => simp
    | some i => simp; omega
theorem I0 : -1 ≤ fidx p l := by
 unfold fidx; split <;> omega
theorem Mk (h : k < l.length) : l.drop k = nth l k :: l.drop (k + 1) := by rw [fY h]; exact List.drop_eq_getElem_cons h
theorem Kc (h : k = l.length) : 6 = eL p l k ∧ 0 = vL p l k := by
 unfold eL vL
 rw [List.drop_of_length_le (by omega)]
 exact ⟨rfl, rfl⟩
theorem zW (h : k < l.length) (hp : p (nth l k) = true) : 0 = eL p l k ∧ (k : Int) = vL p l k := by
 unfold eL vL
 rw [Mk h, yY, if_pos hp]
 exact ⟨rfl, (Int.add_zero _).symm⟩
theorem Ep (h : k < l.length) (hp : p (nth l k) = false) : eL p l (k + 1) = eL p l k ∧ vL p l (k + 1) = vL p l k := by
 have e : fidx p (l.drop k) = if fidx p (l.drop (k + 1)) < 0 then -1 else fidx p (l.drop (k + 1)) + 1 := by rw [Mk h, yY, if_neg (by rw [hp]; decide)]
 have := I0 (p := p) (l := l.drop (k + 1))
 unfold eL vL
 rw [e]
 by_cases c : fidx p (l.drop (k + 1)) < 0
 ·rw [if_pos c, if_pos c, if_pos c]; exact ⟨rfl, rfl⟩
 rw [if_neg c, if_neg c, if_neg c, if_neg (by omega), if_neg (by omega)]
 exact ⟨rfl, by omega⟩
end
def Cj (s : Int) : Bool := decide (s < 0) || decide (s > 300)
section
variable {y : ak} {q s : Int} {p : Span → Bool}
theorem Dm (h : Cj s = false) : (!(decide (s ≥ 0) && decide (s ≤ 300))) = false := by
 unfold Cj at h
 rw [Bool.or_eq_false_iff, decide_eq_false_iff_not, decide_eq_false_iff_not] at h
 rw [Bool.not_eq_false', Bool.and_eq_true, decide_eq_true_eq, decide_eq_true_eq]; omega
theorem ME (h : Cj s = true) : (!(decide (s ≥ 0) && decide (s ≤ 300))) = true := by
 unfold Cj at h
 rw [Bool.or_eq_true, decide_eq_true_eq, decide_eq_true_eq] at h
 rw [Bool.not_eq_true', Bool.and_eq_false_iff, decide_eq_false_iff_not, decide_eq_false_iff_not]; omega
theorem HH (h : ¬ bL y = 0) : bL y = iM y q s p ∧ 0 = jr y q s p := by
 have e : dU y q = bL y := by unfold dU; rw [if_neg h]
 have := Dt (y := y) (q := q) (s := s) (p := p) (by rw [e]; exact h)
 rw [e] at this; exact this
theorem HT (h0 : bL y = 0) (h : xV y q = true) : 1 = iM y q s p ∧ 0 = jr y q s p := by
 have e := GN h0 h
 have := Dt (y := y) (q := q) (s := s) (p := p) (by rw [e]; decide)
 rw [e] at this; exact this
theorem ED (h0 : bL y = 0) (h : xV y q = false) (hs : Cj s = true) : 3 = iM y q s p ∧ 0 = jr y q s p := JY (lQ h0 h) (ME hs)
theorem Kg (h0 : bL y = 0) (h : xV y q = false) (hs : Cj s = false) (hf : (!(gJ y).fits) = true) : 7 = iM y q s p ∧ 0 = jr y q s p := by
 have e : iW y q = 7 := (Ed h0 h).symm.trans (Lr h0 hf).symm
 have := KE (p := p) (lQ h0 h) (Dm hs) (by rw [e]; decide)
 rw [e] at this; exact this
theorem AQ (h0 : bL y = 0) (h : xV y q = false) (hs : Cj s = false) (hf : (!(gJ y).fits) = false) : eL p (nth (gJ y).bins q.toNat) 0 = iM y q s p ∧ vL p (nth (gJ y).bins q.toNat) 0 = jr y q s p := by
 obtain ⟨_, _, hq, hb⟩ := Af h
 have ho := (LC h0 hf).symm
 have e : iW y q = 0 := (Ed h0 h).symm.trans ho
 rw [Im ho hb, hq]
 unfold eL vL
 rw [List.drop_zero]
 by_cases c : fidx p (iH y q) < 0
 ·rw [if_pos c, if_pos c]; exact HL (lQ h0 h) (Dm hs) e c
 rw [if_neg c, if_neg c]
 have := Et (lQ h0 h) (Dm hs) e c
 exact ⟨this.1, by rw [← this.2]; simp⟩
end
end Go.Proofs.YtelbollidfdcjaaGreat
namespace Go.Proofs.YtelbollidfdcjaaGreat
open Go Go.T
set_option maxHeartbeats 8000000
attribute [local irreducible] cX iW iH kJ mT sJ gJ cj Ap oP bL iM jr eL vL
attribute [local irreducible] gA eU lH nR gy gl g5 gr g9 nU gx nZ dN fS nJ ff nQ nth fI dQ au dK bodyPost Exit.then Exit.inBlock Code.wp Code.wpIn nY gm oC n9 g7 eM cJ cH bodyPostM dP
set_option maxRecDepth 100000 in
theorem zu (y : ak) (q s : Int) (hf : y.Fit) : dK Tryz.prog 4 [dn y, Ty.int .i64 q, Ty.int .i64 s] (Ty.bool true) := by
 refine ah Tryz.func4 rfl (by decide) Tryz.ntmps4 (by exact Nat.le_of_ble_eq_true rfl) fun w0 M0 => ?_
 refine aE (aA (bD rfl (dA rfl (aD (aC (aE (aE (aA ?_))))))))
 refine aX rfl rfl rfl (by exact Nat.le_of_ble_eq_true rfl) ?_
 refine af (OH y hf) rfl rfl rfl rfl rfl (aD (aC ?_))
 refine cI rfl (fun hc1 => ?_) (fun hc1 => ?_)
 ·
  refine aE (aA (af (Ev) rfl rfl rfl rfl rfl (dA rfl (aD (aC (ay (aS (bP rfl rfl ?_))))))))
  all_goals exact b9 rfl rfl
  all_goals trace_state
 refine aq (aC (aE ?_))
 have hs := uC (Cr hc1)
 refine cP mixed rfl ?_
 refine aX rfl rfl rfl (by exact Nat.le_of_ble_eq_true rfl) ?_
 refine af (O4 y hs) rfl rfl rfl rfl rfl ?_
 refine aX rfl rfl rfl (by exact Nat.le_of_ble_eq_true rfl) ?_
 refine af (Jf y hs) rfl rfl rfl rfl rfl ?_
 refine bp rfl (by exact List.cons_ne_nil _ _) rfl ?_
 refine bp rfl (by exact List.cons_ne_nil _ _) rfl ?_
 refine bZ rfl rfl (by decide) rfl rfl rfl rfl rfl rfl ?_
 refine bZ rfl rfl (by decide) rfl rfl rfl rfl rfl rfl ?_
 refine aD ?_
 refine ⟨by kernel_rfl, ?_⟩
 refine aC (aE (aA ?_))
 refine bz rfl rfl (by decide) rfl rfl (by exact Nat.le_of_ble_eq_true rfl) ?_
 refine af (CG y hs) rfl rfl rfl rfl rfl (bk rfl (aD (aC (aE ?_))))
 refine iV (s := 9) rfl (Ty.bE (check_eq y)) ?_
 refine aA (bG rfl (bk rfl (aD (aC (aE (aA (bk rfl (bk rfl (aD ?_)))))))))
 refine aC ?_
 refine mJ (J := live [(1, Ty.int .i64 (q)), (2, Ty.int .i64 (s)), (3, Ty.pp (bH y)), (7, Ty.ptr 8 0), (8, Ty.ptr 9 0), (9, Ty.int .i64 (iM y q s (fun x => decide (x.lo ≥ s)))), (10, Ty.int .i64 (iM y q s (fun x => decide (x.hi ≥ s)))), (11, Ty.int .i64 (jr y q s (fun x => decide (x.lo ≥ s)))), (12, Ty.int .i64 (jr y q s (fun x => decide (x.hi ≥ s))))] [(8, Cont.cells 27 (bH y)), (9, Cont.cells 60 (bH y))]) ?_ ?_
 ·
  refine aE ?_
  refine iy (B := live [(1, Ty.int .i64 (q)), (2, Ty.int .i64 (s)), (3, Ty.pp (bH y)), (7, Ty.ptr 8 0), (8, Ty.ptr 9 0), (9, Ty.int .i64 (bL y)), (10, Ty.int .i64 (bL y)), (11, Ty.int .i64 (0)), (12, Ty.int .i64 (0))] [(8, Cont.cells 27 (bH y)), (9, Cont.cells 60 (bH y))]) ?_ ?_
  ·refine cx.mk' ?_ ?_
   ·(repeat (first | refine aB ?_ (Ty.aU _) | refine aB ?_ (Ty.aF _))); exact aJ
   refine aG rfl (Cont.aF _) ?_; refine aG rfl (Cont.aF _) ?_; exact aK
  refine aA (bG rfl (bB rfl rfl rfl (aD (aC ?_))))
  refine aj rfl (fun hc2 => ?_) (fun hc2 => ?_)
  ·
   refine aE ?_
   have h0 : bL y = 0 := hc2
   have hr := c6 h0
   have hD := D_eq hr
   have hdy := hr.days
   refine aA ?_
   refine bz rfl rfl (by decide) rfl rfl (by exact Nat.le_of_ble_eq_true rfl) ?_
   refine af (PD y hr) rfl rfl rfl rfl rfl ?_
   refine bp rfl (by exact List.cons_ne_nil _ _) rfl ?_
   refine bZ rfl rfl (by decide) rfl rfl rfl rfl rfl rfl ?_
   refine aD (aC (aZ (aE ?_)))
   refine iy (B := live [(1, Ty.int .i64 (q)), (2, Ty.int .i64 (s)), (3, Ty.pp (bH y)), (7, Ty.ptr 8 0), (8, Ty.ptr 9 0), (13, Ty.ptr 14 0), (9, Ty.int .i64 (bL y)), (10, Ty.int .i64 (bL y)), (11, Ty.int .i64 (0)), (12, Ty.int .i64 (0))] [(8, Cont.cells 27 (bH y)), (9, Cont.cells 60 (bH y)), (14, Cont.cells 66 (Cw (gJ y)))]) ?_ ?_
   ·refine cx.mk' ?_ ?_
    ·(repeat (first | refine aB ?_ (Ty.aU _) | refine aB ?_ (Ty.aF _))); exact aJ
    refine aG rfl (Cont.aF _) ?_; refine aG rfl (Cont.aF _) ?_; refine aG rfl (Cont.aF _) ?_; exact aK
   refine aA (bG rfl (bB rfl rfl rfl (fB rfl ?_)))
   apply aN (s := 66) rfl rfl rfl
   ·intro hg; apply aO; (refine bG rfl ?_); refine aD ?_; exact rfl
   ·exact rfl
   ·exact rfl
   apply aN (s := 66) rfl rfl rfl
   ·intro hg; apply aO; (refine aH rfl rfl rfl rfl rfl (by decide) ?_); refine aD ?_; exact rfl
   ·exact rfl
   ·exact rfl
   apply aN (s := 66) rfl rfl rfl
   ·intro hg; apply aL (s := 68) rfl (by (rw [hg]; rfl)); apply aO; (refine aI rfl rfl rfl rfl ?_); refine aD ?_; exact rfl
   ·exact rfl
   ·exact rfl
   apply aN (s := 66) rfl rfl rfl
   ·intro hg; apply aL (s := 69) rfl (by (rw [hg]; rfl)); apply aO; (refine cK rfl rfl rfl ?_); refine aD ?_; exact rfl
   ·exact rfl
   ·exact rfl
   apply aN (s := 66) rfl rfl rfl
   ·intro hg; apply aL (s := 67) rfl (by (rw [hg]; rfl)); apply aL (s := 70) rfl (by (rw [hg]; rfl)); apply aO; (refine bB rfl rfl rfl ?_); refine aD ?_; exact rfl
   ·exact rfl
   ·exact rfl
   refine ig rfl rfl (dA rfl (aD (aC ?_)))
   refine cI rfl (fun hc3 => ?_) (fun hc3 => ?_)
   ·
    refine aA (bk rfl (bk rfl (aD (bI (fJ ?_)))))
    (refine cx.mk' ?_ ?_ <;> (repeat' (first | exact aJ | exact aK | refine aB ?_ (Ty.aU _) | refine aB ?_ (Ty.aF _) | refine aG rfl (Cont.aF _) ?_ | refine aB ?_ ?_)))
    all_goals first | exact Ty.bE (HT h0 hc3).1 | exact Ty.bE (HT h0 hc3).2
   refine aE (aA (bG rfl (bB rfl rfl rfl (fB rfl ?_))))
   apply aN (s := 76) rfl rfl rfl
   ·intro hg; apply aO; (refine bG rfl ?_); refine aD ?_; exact rfl
   ·exact rfl
   ·exact rfl
   apply aN (s := 76) rfl rfl rfl
   ·intro hg; apply aL (s := 77) rfl (by (rw [hg]; rfl)); apply aO; (refine bB rfl rfl rfl ?_); refine aD ?_; exact rfl
   ·exact rfl
   ·exact rfl
   refine ig rfl rfl (dA rfl (aD (aC ?_)))
   refine cI rfl (fun hc4 => ?_) (fun hc4 => ?_)
   ·
    refine aA (bk rfl (bk rfl (aD (bI (fJ ?_)))))
    (refine cx.mk' ?_ ?_ <;> (repeat' (first | exact aJ | exact aK | refine aB ?_ (Ty.aU _) | refine aB ?_ (Ty.aF _) | refine aG rfl (Cont.aF _) ?_ | refine aB ?_ ?_)))
    all_goals first | exact Ty.bE (ED h0 hc3 hc4).1 | exact Ty.bE (ED h0 hc3 hc4).2
   refine aE (aA ?_)
   refine aR rfl rfl rfl rfl rfl (by decide) ?_
   refine aY rfl rfl (by decide) rfl rfl rfl ?_
   refine eN rfl (dA rfl (aD (aC ?_)))
   refine cI rfl (fun hc5 => ?_) (fun hc5 => ?_)
   ·
    refine aA (bk rfl (bk rfl (aD (bI (fJ ?_)))))
    (refine cx.mk' ?_ ?_ <;> (repeat' (first | exact aJ | exact aK | refine aB ?_ (Ty.aU _) | refine aB ?_ (Ty.aF _) | refine aG rfl (Cont.aF _) ?_ | refine aB ?_ ?_)))
    all_goals first | exact Ty.bE (Kg h0 hc3 hc4 hc5).1 | exact Ty.bE (Kg h0 hc3 hc4 hc5).2
   refine aE ?_
   obtain ⟨hp0, hp1, hpe, hpl⟩ := Af hc3
   have hbl := (sZ (y := y)).bins
   have hrl := (sZ (y := y)).row q.toNat hpl
   refine aA (bk rfl (bk rfl (aD (aC (aE (aA ?_))))))
   refine aH rfl rfl rfl rfl rfl (by decide) ?_
   refine aI rfl rfl rfl rfl (bk rfl (aD (aC (aZ ?_))))
   refine cF (fun (k : {k : Nat // k ≤ y.D + 1}) => live [(1, Ty.int .i64 (q)), (2, Ty.int .i64 (s)), (3, Ty.pp (bH y)), (7, Ty.ptr 8 0), (8, Ty.ptr 9 0), (13, Ty.ptr 14 0), (14, Ty.int .i64 ((k.1 : Nat) - 1)), (9, Ty.int .i64 (eL (fun x => decide (x.lo ≥ s)) (nth (gJ y).bins q.toNat) k.1)), (11, Ty.int .i64 (vL (fun x => decide (x.lo ≥ s)) (nth (gJ y).bins q.toNat) k.1)), (10, Ty.int .i64 (eL (fun x => decide (x.hi ≥ s)) (nth (gJ y).bins q.toNat) k.1)), (12, Ty.int .i64 (vL (fun x => decide (x.hi ≥ s)) (nth (gJ y).bins q.toNat) k.1))] [(8, Cont.cells 27 (bH y)), (9, Cont.cells 60 (bH y)), (14, Cont.cells 66 (Cw (gJ y)))]) (fun k => k.1) (⟨y.D + 1, Nat.le_refl _⟩) ?_ fun k => ?_
   ·(refine cx.mk' ?_ ?_ <;> (repeat' (first | exact aJ | exact aK | refine aB ?_ (Ty.aU _) | refine aB ?_ (Ty.aF _) | refine aG rfl (Cont.aF _) ?_ | refine aB ?_ ?_)))
    all_goals first | exact Ty.bE (Kc hrl.symm).1 | exact Ty.bE (Kc hrl.symm).2 | exact Ty.bE (by show y.days = ((y.D + 1 : Nat) : Int) - 1; omega)
   have hk := k.2
   refine aE (aE (aA (bG rfl (bB rfl rfl rfl (aD (aC ?_))))))
   refine aj rfl (fun hc6 => ?_) (fun hc6 => ?_)
   ·
    refine aq (aC ?_)
    refine mJ (J := live [(1, Ty.int .i64 (q)), (2, Ty.int .i64 (s)), (3, Ty.pp (bH y)), (7, Ty.ptr 8 0), (8, Ty.ptr 9 0), (13, Ty.ptr 14 0), (14, Ty.int .i64 ((k.1 : Nat) - 1)), (9, Ty.int .i64 (eL (fun x => decide (x.lo ≥ s)) (nth (gJ y).bins q.toNat) (k.1 - 1))), (11, Ty.int .i64 (vL (fun x => decide (x.lo ≥ s)) (nth (gJ y).bins q.toNat) (k.1 - 1))), (10, Ty.int .i64 (eL (fun x => decide (x.hi ≥ s)) (nth (gJ y).bins q.toNat) (k.1 - 1))), (12, Ty.int .i64 (vL (fun x => decide (x.hi ≥ s)) (nth (gJ y).bins q.toNat) (k.1 - 1)))] [(8, Cont.cells 27 (bH y)), (9, Cont.cells 60 (bH y)), (14, Cont.cells 66 (Cw (gJ y)))]) ?_ ?_
    ·
     have hk0 : 0 ≤ ((k.1 : Nat) : Int) - 1 := hc6
     have hkt : (((k.1 : Nat) : Int) - 1).toNat = k.1 - 1 := by omega
     have hk1 : k.1 = k.1 - 1 + 1 := by omega
     have hlt : k.1 - 1 < (nth (gJ y).bins q.toNat).length := by omega
     refine aZ ?_
     refine mJ (J := live [(1, Ty.int .i64 (q)), (2, Ty.int .i64 (s)), (3, Ty.pp (bH y)), (7, Ty.ptr 8 0), (8, Ty.ptr 9 0), (13, Ty.ptr 14 0), (14, Ty.int .i64 ((k.1 : Nat) - 1)), (9, Ty.int .i64 (eL (fun x => decide (x.lo ≥ s)) (nth (gJ y).bins q.toNat) (k.1 - 1))), (11, Ty.int .i64 (vL (fun x => decide (x.lo ≥ s)) (nth (gJ y).bins q.toNat) (k.1 - 1))), (10, Ty.int .i64 (eL (fun x => decide (x.hi ≥ s)) (nth (gJ y).bins q.toNat) k.1)), (12, Ty.int .i64 (vL (fun x => decide (x.hi ≥ s)) (nth (gJ y).bins q.toNat) k.1))] [(8, Cont.cells 27 (bH y)), (9, Cont.cells 60 (bH y)), (14, Cont.cells 66 (Cw (gJ y)))]) ?_ ?_
     ·
      refine aE (aA ?_)
      refine aR rfl rfl rfl rfl rfl (by decide) ?_
      refine aY rfl rfl (by decide) rfl rfl rfl ?_
      refine bG rfl ?_
      refine gC rfl rfl rfl rfl rfl rfl hp0 (by omega) ?_
      refine aI rfl rfl rfl rfl (bG rfl ?_)
      refine gC rfl rfl rfl rfl rfl rfl hk0 (by omega) ?_
      refine aH rfl rfl rfl rfl rfl (by decide) ?_
      refine aI rfl rfl rfl rfl (bG rfl (bB rfl rfl rfl (aD (aC ?_))))
      refine aj rfl (fun hc7 => ?_) (fun hc7 => ?_)
      ·
       refine aA (bG rfl (bk rfl (bk rfl (aD (fJ ?_)))))
       (refine cx.mk' ?_ ?_ <;> (repeat' (first | exact aJ | exact aK | refine aB ?_ (Ty.aU _) | refine aB ?_ (Ty.aF _) | refine aG rfl (Cont.aF _) ?_ | refine aB ?_ ?_)))
       all_goals first | exact Ty.bE (zW (p := (fun x => decide (x.lo ≥ s))) hlt (decide_eq_true (by rw [hkt] at hc7; exact hc7))).1 | exact Ty.bE ((show ((k.1 : Nat) : Int) - 1 = ((k.1 - 1 : Nat) : Int) by omega).trans (zW (p := (fun x => decide (x.lo ≥ s))) hlt (decide_eq_true (by rw [hkt] at hc7; exact hc7))).2)
      refine aq (fJ ?_)
      (refine cx.mk' ?_ ?_ <;> (repeat' (first | exact aJ | exact aK | refine aB ?_ (Ty.aU _) | refine aB ?_ (Ty.aF _) | refine aG rfl (Cont.aF _) ?_ | refine aB ?_ ?_)))
      all_goals first | exact Ty.bE ((congrArg (eL (fun x => decide (x.lo ≥ s)) (nth (gJ y).bins q.toNat)) hk1).trans (Ep (p := (fun x => decide (x.lo ≥ s))) hlt (decide_eq_false (by rw [hkt] at hc7; exact hc7))).1) | exact Ty.bE ((congrArg (vL (fun x => decide (x.lo ≥ s)) (nth (gJ y).bins q.toNat)) hk1).trans (Ep (p := (fun x => decide (x.lo ≥ s))) hlt (decide_eq_false (by rw [hkt] at hc7; exact hc7))).2)
     refine aE (aA ?_)
     refine aR rfl rfl rfl rfl rfl (by decide) ?_
     refine aY rfl rfl (by decide) rfl rfl rfl ?_
     refine bG rfl ?_
     refine gC rfl rfl rfl rfl rfl rfl hp0 (by omega) ?_
     refine aI rfl rfl rfl rfl (bG rfl ?_)
     refine gC rfl rfl rfl rfl rfl rfl hk0 (by omega) ?_
     refine aH rfl rfl rfl rfl rfl (by decide) ?_
     refine aI rfl rfl rfl rfl (bG rfl (bB rfl rfl rfl (aD (aC ?_))))
     refine aj rfl (fun hc8 => ?_) (fun hc8 => ?_)
     ·
      refine aA (bG rfl (bk rfl (bk rfl (aD (bI (fJ ?_))))))
      (refine cx.mk' ?_ ?_ <;> (repeat' (first | exact aJ | exact aK | refine aB ?_ (Ty.aU _) | refine aB ?_ (Ty.aF _) | refine aG rfl (Cont.aF _) ?_ | refine aB ?_ ?_)))
      all_goals first | exact Ty.bE (zW (p := (fun x => decide (x.hi ≥ s))) hlt (decide_eq_true (by rw [hkt] at hc8; exact hc8))).1 | exact Ty.bE ((show ((k.1 : Nat) : Int) - 1 = ((k.1 - 1 : Nat) : Int) by omega).trans (zW (p := (fun x => decide (x.hi ≥ s))) hlt (decide_eq_true (by rw [hkt] at hc8; exact hc8))).2)
     refine aq (bI (fJ ?_))
     (refine cx.mk' ?_ ?_ <;> (repeat' (first | exact aJ | exact aK | refine aB ?_ (Ty.aU _) | refine aB ?_ (Ty.aF _) | refine aG rfl (Cont.aF _) ?_ | refine aB ?_ ?_)))
     all_goals first | exact Ty.bE ((congrArg (eL (fun x => decide (x.hi ≥ s)) (nth (gJ y).bins q.toNat)) hk1).trans (Ep (p := (fun x => decide (x.hi ≥ s))) hlt (decide_eq_false (by rw [hkt] at hc8; exact hc8))).1) | exact Ty.bE ((congrArg (vL (fun x => decide (x.hi ≥ s)) (nth (gJ y).bins q.toNat)) hk1).trans (Ep (p := (fun x => decide (x.hi ≥ s))) hlt (decide_eq_false (by rw [hkt] at hc8; exact hc8))).2)
    refine aA (bG rfl ?_)
    refine gR rfl rfl (by omega) (by omega) ?_
    refine bk rfl (aD ?_)
    refine bO (⟨k.1 - 1, by omega⟩) ?_ (by show k.1 - 1 < k.1; omega)
    (refine cx.mk' ?_ ?_ <;> (repeat' (first | exact aJ | exact aK | refine aB ?_ (Ty.aU _) | refine aB ?_ (Ty.aF _) | refine aG rfl (Cont.aF _) ?_ | refine aB ?_ ?_)))
    all_goals skip
    all_goals exact Ty.bE (by show ((k.1 : Nat) : Int) - 1 - 1 = ((k.1 - 1 : Nat) : Int) - 1; omega)
   refine cE (aP (aP (aa rfl (bI (fJ ?_)))))
   (refine cx.mk' ?_ ?_ <;> (repeat' (first | exact aJ | exact aK | refine aB ?_ (Ty.aU _) | refine aB ?_ (Ty.aF _) | refine aG rfl (Cont.aF _) ?_ | refine aB ?_ ?_)))
   all_goals first | exact Ty.bE ((congrArg (eL (fun x => decide (x.lo ≥ s)) (nth (gJ y).bins q.toNat)) (show k.1 = 0 by omega)).trans (AQ h0 hc3 hc4 hc5).1) | exact Ty.bE ((congrArg (vL (fun x => decide (x.lo ≥ s)) (nth (gJ y).bins q.toNat)) (show k.1 = 0 by omega)).trans (AQ h0 hc3 hc4 hc5).2) | exact Ty.bE ((congrArg (eL (fun x => decide (x.hi ≥ s)) (nth (gJ y).bins q.toNat)) (show k.1 = 0 by omega)).trans (AQ h0 hc3 hc4 hc5).1) | exact Ty.bE ((congrArg (vL (fun x => decide (x.hi ≥ s)) (nth (gJ y).bins q.toNat)) (show k.1 = 0 by omega)).trans (AQ h0 hc3 hc4 hc5).2)
  refine aq (fJ ?_)
  (refine cx.mk' ?_ ?_ <;> (repeat' (first | exact aJ | exact aK | refine aB ?_ (Ty.aU _) | refine aB ?_ (Ty.aF _) | refine aG rfl (Cont.aF _) ?_ | refine aB ?_ ?_)))
  all_goals first | exact Ty.bE (HH hc2).1 | exact Ty.bE (HH hc2).2
 refine aE (aA ?_)
 refine bz rfl rfl (by decide) rfl rfl (by exact Nat.le_of_ble_eq_true rfl) ?_
 refine bG rfl (bG rfl (af (Bs y hs q s) rfl rfl rfl rfl rfl (uH rfl (bQ rfl rfl (bQ rfl rfl (bk rfl (bk rfl (aD (aC ?_)))))))))
 refine aE (aA ?_)
 refine bz rfl rfl (by decide) rfl rfl (by exact Nat.le_of_ble_eq_true rfl) ?_
 refine bG rfl (bG rfl (af (Fe y hs q s) rfl rfl rfl rfl rfl (uH rfl (bQ rfl rfl (bQ rfl rfl (bk rfl (bk rfl (aD (aC ?_)))))))))
 refine aE (aA (bG rfl (bG rfl (bB rfl rfl rfl (fB rfl ?_)))))
 apply aN (s := 101) rfl rfl rfl
 ·intro hg; apply aO; (refine bG rfl ?_); refine aD ?_; exact rfl
 ·exact rfl
 ·exact rfl
 apply aN (s := 101) rfl rfl rfl
 ·intro hg; apply aO; (refine bG rfl ?_); refine aD ?_; exact rfl
 ·exact rfl
 ·exact rfl
 apply aN (s := 101) rfl rfl rfl
 ·intro hg; apply aL (s := 102) rfl (by (rw [hg]; rfl)); apply aL (s := 103) rfl (by (rw [hg]; rfl)); apply aO; (refine bB rfl rfl rfl ?_); refine aD ?_; exact rfl
 ·exact rfl
 ·exact rfl
 refine dy rfl rfl (fB rfl ?_)
 apply aN (s := 106) rfl rfl rfl
 ·intro hg; apply aO; (refine bG rfl ?_); refine aD ?_; exact rfl
 ·exact rfl
 ·exact rfl
 apply aN (s := 106) rfl rfl rfl
 ·intro hg; apply aO; (refine bG rfl ?_); refine aD ?_; exact rfl
 ·exact rfl
 ·exact rfl
 apply aN (s := 106) rfl rfl rfl
 ·intro hg; apply aL (s := 107) rfl (by (rw [hg]; rfl)); apply aL (s := 108) rfl (by (rw [hg]; rfl)); apply aO; (refine bB rfl rfl rfl ?_); refine aD ?_; exact rfl
 ·exact rfl
 ·exact rfl
 refine dy rfl rfl (fB rfl ?_)
 apply aN (s := 111) rfl rfl rfl
 ·intro hg; apply aO; (refine bG rfl ?_); refine aD ?_; exact rfl
 ·exact rfl
 ·exact rfl
 apply aN (s := 111) rfl rfl rfl
 ·intro hg; apply aO; (refine bG rfl ?_); refine aD ?_; exact rfl
 ·exact rfl
 ·exact rfl
 apply aN (s := 111) rfl rfl rfl
 ·intro hg; apply aL (s := 112) rfl (by (rw [hg]; rfl)); apply aL (s := 113) rfl (by (rw [hg]; rfl)); apply aO; (refine bB rfl rfl rfl ?_); refine aD ?_; exact rfl
 ·exact rfl
 ·exact rfl
 refine dy rfl rfl (fB rfl ?_)
 apply aN (s := 116) rfl rfl rfl
 ·intro hg; apply aO; (refine bz rfl rfl (by decide) rfl rfl (by exact Nat.le_of_ble_eq_true rfl) ?_); refine aD ?_; exact rfl
 ·exact rfl
 ·exact rfl
 apply aN (s := 116) rfl rfl rfl
 ·intro hg; apply aO; (refine aX rfl rfl rfl (by exact Nat.le_of_ble_eq_true rfl) ?_); refine aD ?_; exact rfl
 ·exact rfl
 ·exact rfl
 apply aN (s := 116) rfl rfl rfl
 ·intro hg; apply aL (s := 117) rfl (by (rw [hg]; rfl)); apply aL (s := 118) rfl (by (rw [hg]; rfl)); apply aO; (refine af (NF _ _) rfl rfl rfl rfl rfl ?_); refine aD ?_; exact rfl
 ·exact rfl
 ·exact rfl
 refine dy rfl rfl (fB rfl ?_)
 apply aN (s := 121) rfl rfl rfl
 ·intro hg; apply aO; (refine af (Ev) rfl rfl rfl rfl rfl ?_); refine aD ?_; exact rfl
 ·exact rfl
 ·exact rfl
 refine dy rfl rfl (dA rfl (aD (aC (ay (bP rfl rfl ?_)))))
 all_goals skip
 all_goals exact az rfl rfl (congrArg Ty.bool (by simp [DC]))
end Go.Proofs.YtelbollidfdcjaaGreat
namespace Go.T
open Go Go.RowKit Go.ChangeShapes Go.WideShapes Go.ChangeAt
def mq : bA := fun _ => none
theorem Lb (w : World) : Wf w mq := ⟨fun _ _ h => (by cases h), fun _ _ _ _ h => (by cases h)⟩
theorem F2 : ∀ b t, mq b = some t → t = 0 := fun _ _ h => by cases h
structure Rd {α : Type} (P : Program) (e : TypeId) (E : El α) : Prop where
  size : P.cellsOf e = E.size
  pos : 0 < E.size
  rd : ∀ {H : Type} {enc : TypeId × Value → H} {w : World} {base : Nat} {held : Bool} {n : Nat} {cs : List Value} {y : DataW H × List MemPlace}, DataW.trod enc P w base (fun _ => true) held n e cs = some y → ∃ x, cB w mq (E.tys x) cs
section
variable {H : Type} {enc : TypeId × Value → H} {P : Program} {w : World} {base : Nat} {held : Bool} {α : Type} {E : El α} {t e : TypeId} {n : Nat} {cs : List Value} {y : DataW H × List MemPlace}
theorem OU (hR : Rd P e E) (ht : P.underlying t = some (.slice e)) (h : DataW.trod enc P w base (fun _ => true) held n t cs = some y) : ∃ v xs, cs = [v] ∧ (Ty.sl E xs).den w mq v := by
 rcases Go.Deep.open_slice ht h with ⟨rfl, _⟩ | ⟨a, len, cap, m, k, D, Pl, rfl, _, hl, hm, hmm, _, hel⟩
 ·exact ⟨_, [], rfl, none, 0, rfl, Nat.le_refl _, Nat.zero_le _, fun h => absurd h (Nat.lt_irrefl _)⟩
 have hlm : len ≤ m := by rw [hmm]; simpa using hl
 have hX : ∀ i : Fin len, ∃ x : α, ∃ cs', w.cells? base (a.add (i.1 * P.cellsOf e)) (P.cellsOf e) = some cs' ∧ cB w mq (E.tys x) cs' := fun i => by
  obtain ⟨cs', h1, h2⟩ := hel i.1 (Nat.lt_of_lt_of_le i.2 hlm)
  obtain ⟨x, hx⟩ := hR.rd h2
  exact ⟨x, cs', h1, hx⟩
 let X : Fin len → α := fun i => (hX i).choose
 have hXs : ∀ i : Fin len, ∃ cs', w.cells? base (a.add (i.1 * P.cellsOf e)) (P.cellsOf e) = some cs' ∧ cB w mq (E.tys (X i)) cs' := fun i => (hX i).choose_spec
 have hlen : (List.ofFn X).length = len := by simp
 refine ⟨_, List.ofFn X, rfl, some a, cap, by rw [hlen], by rw [hlen]; exact hl, hm, fun h0 => ?_⟩
 rw [hlen] at h0
 have hcell : ∀ (i : Fin len) (j : Nat) (u : Ty), (E.tys (X i))[j]? = some u → ∃ v, w.cell? (a.add (i.1 * E.size + j)) = some v ∧ u.den w mq v := fun i j u hu => by
  obtain ⟨cs', h1, h2⟩ := hXs i
  obtain ⟨v, hv, hd⟩ := dR h2 j u hu
  obtain ⟨_, g1, g2⟩ := World.cells?_some h1
  have hj : j < P.cellsOf e := by
   rw [hR.size, ← E.len (X i)]
   exact (List.getElem?_eq_some_iff.1 hu).1
  refine ⟨v, ?_, hd⟩
  have := g2 j hj
  rw [Go.Deep.add_add, hv, hR.size] at this
  exact this
 have hsz := hR.pos
 have hfirst : ∃ v, w.cell? (a.add 0) = some v := by
  obtain ⟨u, hu⟩ : ∃ u, (E.tys (X ⟨0, h0⟩))[0]? = some u := ⟨_, List.getElem?_eq_getElem (by rw [E.len]; exact hsz)⟩
  obtain ⟨v, hv, _⟩ := hcell ⟨0, h0⟩ 0 u hu
  exact ⟨v, by simpa using hv⟩
 obtain ⟨b, off, sp⟩ := a
 obtain ⟨v0, hv0⟩ := hfirst
 have hsp : sp = none := by simpa [Addr.add] using World.cell?_spot hv0
 subst hsp
 have hb : b < w.heap.size := by
  obtain ⟨cs', h1, _⟩ := hXs ⟨0, h0⟩
  have := World.cells?_block h1 (by rw [hR.size]; exact hsz)
  simpa [Addr.add] using this
 refine ⟨b, off, rfl, rfl, hb, fun i u hu => ?_⟩
 have hi : i < len * E.size := by
  have := (List.getElem?_eq_some_iff.1 hu).1
  rw [ct, hlen] at this; exact this
 have hk : i / E.size < len := Nat.div_lt_of_lt_mul (by rw [Nat.mul_comm]; exact hi)
 have hj : i % E.size < E.size := Nat.mod_lt _ hsz
 have hij : i / E.size * E.size + i % E.size = i := by rw [Nat.mul_comm]; exact Nat.div_add_mod i E.size
 have hu2 := hu
 rw [← hij, oV E _ _ _ (by rw [hlen]; exact hk) hj, List.getElem?_ofFn, dif_pos hk] at hu2
 obtain ⟨v, hv, hd⟩ := hcell ⟨i / E.size, hk⟩ (i % E.size) u hu2
 refine ⟨v, ?_, hd⟩
 rw [← Go.WideShapes.add_plain]
 rw [hij] at hv
 exact hv
theorem DU {f0 f1 : Field} (hs : P.underlying t = some (.struct #[f0, f1])) (hC : P.cellsOf t = 2) (h0 : f0.offset = 0 ∧ P.cellsOf f0.type = 1) (h1 : f1.offset = 1 ∧ P.cellsOf f1.type = 1) (h : DataW.trod enc P w base (fun _ => true) held n t cs = some y) :
    ∃ c0 c1 y0 y1 m, cs = [c0, c1] ∧ DataW.trod enc P w base (fun _ => true) held m f0.type [c0] = some y0 ∧ DataW.trod enc P w base (fun _ => true) held m f1.type [c1] = some y1 := by
  obtain ⟨y0, y1, m, _, hl, g0, g1⟩ := Go.ChangeShapes.trod_struct2 hs h
  rw [hC] at hl
  match cs, hl with
  | [c0, c1], _ =>
    rw [h0.1, h0.2] at g0
    rw [h1.1, h1.2] at g1
    exact ⟨c0, c1, y0, y1, m, rfl, g0, g1⟩
theorem oD {k : IntKind} {c : Value} (ht : P.underlying t = some (.int k)) (h : DataW.trod enc P w base (fun _ => true) held n t [c] = some y) : ∃ i, c = .int k i := by
 obtain ⟨i, e, _⟩ := DataW.trod_int ht h
 exact ⟨i, by simpa using e⟩
theorem NG {c : Value} (hR : Rd P e E) (ht : P.underlying t = some (.slice e)) (h : DataW.trod enc P w base (fun _ => true) held n t [c] = some y) : ∃ xs, (Ty.sl E xs).den w mq c := by
 obtain ⟨v, xs, e, hd⟩ := OU hR ht h
 exact ⟨xs, by rw [show c = v by simpa using e]; exact hd⟩
end
section
variable {w w' : World} {S K : Nat → Prop} {M' : bA}
theorem rz (le : Le S K w mq w' M') {b : Nat} (hb : b < w.heap.size) : w'.heap[b]? = w.heap[b]? := (le.qL b hb rfl).2
theorem Kz (le : Le S K w mq w' M') {p : MemPlace} (hp : p.block < w.heap.size) : w.sameAt w' p := by
  cases p with
  | cell b o => exact World.cell?_of_block (w := w) (rz le hp)
  | map b => exact rz le hp
theorem Lz (le : Le S K w mq w' M') (may : MemPlace → Prop) : w.keptBut w' may := by
 refine ⟨le.os, le.out, fun i hi => ?_⟩
 have e := rz le hi
 rw [e]
 split
 ·rename_i h1 h2
  rw [h1] at h2
  simp only [Option.some.injEq, Obj.cells.injEq] at h2
  obtain ⟨rfl, rfl, rfl⟩ := h2
  exact ⟨rfl, rfl, rfl, fun _ _ => rfl⟩
 ·rename_i h1 h2
  rw [h1] at h2
  simp only [Option.some.injEq, Obj.map.injEq] at h2
  exact Or.inr ⟨h2.1.symm, h2.2.symm⟩
 rfl
theorem F3 (le : Le S K w mq w' M') {a : Addr} (ha : a.block < w.heap.size) : w'.frozen? a = w.frozen? a := by
 unfold World.frozen?
 rw [rz le ha]
end
section
variable {H : Type} {enc : TypeId × Value → H} {P : Program}
theorem qc (hl : laidOutB P = true) {w w' : World} {sp : Nat → Bool} : ∀ {ts : List TypeId} {vs : List Value} {ds : List (DataW H)} {ps : List MemPlace}, (∀ t ∈ ts, P.readableRec t = true ∧ t < P.types.size) →
    DataW.TrodAll enc P w 0 (fun _ => true) true ts vs ds ps → (∀ p ∈ ps, w.sameAt w' p) → (∀ p ∈ ps, sp p.block = true) → DataW.TrodAll enc P w' 0 sp true ts vs ds ps
  | [], [], [], _, _, h, _, _ => h
  | t :: ts, v :: vs, d :: ds, _, ht, ⟨p, q, h1, h2, e⟩, hs, hsp => by
    subst e
    have h0 := ht t List.mem_cons_self
    exact ⟨p, q, Go.WideElems.Trod_stays hl h0.1 h0.2 h1 (fun x hx => hs x (List.mem_append_left _ hx)) (fun x hx => hsp x (List.mem_append_left _ hx)),
      qc hl (fun t h => ht t (List.mem_cons_of_mem _ h)) h2 (fun x hx => hs x (List.mem_append_right _ hx)) (fun x hx => hsp x (List.mem_append_right _ hx)), rfl⟩
theorem Gn {f : Func} {s : ChangeSpec} {apart fresh handsOn again : Bool} {W W' : World} {args : Array Value} {ds : List (DataW H)} {before : List MemPlace} {S K : Nat → Prop} {M' : bA}
 (hl : laidOutB P = true) (hv : s.vars = []) (hrd : ∀ t ∈ f.params.toList, P.readableRec t = true ∧ t < P.types.size) {tb : TypeId} (htb : P.underlying tb = some .bool) (hrt : f.resultTypes = #[tb])
 (hW : DataW.Whole enc P f.params.toList s.vars apart W args.toList ds [] before) (hres : (s.fn H (ds ++ [])).results = [.lit (.bool true)]) (hargs : (s.fn H (ds ++ [])).args = ds) (hvars : (s.fn H (ds ++ [])).vars = [])
 (le : Le S K W mq W' M') : s.post enc P f apart fresh handsOn again W args (.bool true) W' := by
 have hW0 := hW
 obtain ⟨p, q, hA, hV, hb, hfz, hn⟩ := hW0
 have hlt := DataW.TrodAll.lt hA
 have hq : q = [] := by rw [hv] at hV; exact (trodVars_none hV).2
 subst hq
 have hbp : before = p := by rw [hb]; simp
 have hre : ∀ (b : Nat) (sp : Nat → Bool) (hd : Bool), DataW.TrodAll enc P W' b sp hd f.resultTypes.toList ((Value.bool true).resultList f.resultTypes.size) (s.fn H (ds ++ [])).results [] := fun b sp hd => by
  rw [hrt, hres]; exact trodAll_mk1 (shut_bool htb true)
 have har : ∀ sp : Nat → Bool, (∀ x ∈ p, sp x.block = true) → DataW.TrodAll enc P W' 0 sp true f.params.toList args.toList (s.fn H (ds ++ [])).args p := fun sp hsp => by
  rw [hargs]; exact qc hl hrd hA (fun x hx => Kz le (hlt x hx)) hsp
 have hva : ∀ sp : Nat → Bool, DataW.TrodVars enc P W' sp s.vars (s.fn H (ds ++ [])).vars [] := fun sp => by
  rw [hvars, hv]; exact rfl
 have hok : ∀ (j : Nat) (t : TypeId) (r : Value), f.resultTypes[j]? = some t → ((Value.bool true).resultList f.resultTypes.size)[j]? = some r → Value.okWide P W' .any 0 t r := by
  exact ok_one (by rw [hrt]) rfl (okWide_bool_mk htb true)
 refine ⟨ds, [], before, [], p, [], hW, hre _ _ _, har _ (fun x hx => by simpa using hlt x hx), hva _, World.keptBut_mono (fun x hx => hx) (Lz le _), fun _ => ?_⟩
 refine ⟨hok, _, _, ([] ++ p) ++ [], ⟨[] ++ p, [], trodAll_append (har _ (fun _ _ => rfl)) (hre _ _ _), hva _, rfl, ?_, ?_⟩, ?_⟩
 ·intro b off hp
  have hp' : MemPlace.cell b off ∈ p := by simpa using hp
  rw [F3 le (hlt _ hp')]
  exact hfz b off (by rw [hbp]; exact hp')
 ·intro ha
  have := hn ha
  rw [hbp] at this
  simpa using this
 intro x hx _
 rw [hbp]
 simpa using hx
end
end Go.T
namespace Go.Proofs.YtelbollidfdcjaaGreat
open Go Go.T Go.RowKit Go.ChangeShapes Go.WideShapes Go.ChangeAt
theorem P1 : Tryz.prog.cellsOf 3 = 1 := by kernel_rfl
theorem I9 : Tryz.prog.cellsOf 37 = 2 := by kernel_rfl
theorem Ou : Tryz.prog.cellsOf 39 = 3 := by kernel_rfl
theorem O0 : Tryz.prog.cellsOf 41 = 5 := by kernel_rfl
theorem Mq : Tryz.prog.cellsOf 102 = 4 := by kernel_rfl
set_option maxRecDepth 100000 in
theorem Jg : Rd Tryz.prog 37 bl := ⟨I9, by decide, fun h => by
 obtain ⟨c0, c1, y0, y1, m, rfl, h0, h1⟩ := DU Tryz.underlying37 I9 ⟨rfl, by kernel_rfl⟩ ⟨rfl, by kernel_rfl⟩ h
 obtain ⟨a, rfl⟩ := oD Tryz.underlying3 h0
 obtain ⟨b, rfl⟩ := oD Tryz.underlying3 h1
 exact ⟨⟨a, b⟩, rfl, rfl, trivial⟩⟩
set_option maxRecDepth 100000 in
theorem PU : Rd Tryz.prog 39 fC := ⟨Ou, by decide, fun {_ _ _ _ _ _ cs _} h => by
  obtain ⟨y0, y1, m, _, hl, g0, g1⟩ := Go.ChangeShapes.trod_struct2 Tryz.underlying39 h
  rw [Ou] at hl
  match cs, hl with
  | [c0, c1, c2], _ =>
    simp only [P1, I9] at g0 g1
    obtain ⟨a, rfl⟩ := oD (c := c0) Tryz.underlying3 g0
    obtain ⟨s, hs⟩ := Jg.rd (cs := [c1, c2]) g1
    exact ⟨⟨a, s⟩, rfl, hs⟩⟩
set_option maxRecDepth 100000 in
theorem Oo : Rd Tryz.prog 41 eD := ⟨O0, by decide, fun {_ _ _ _ _ _ cs _} h => by
  obtain ⟨y0, y1, y2, y3, m, _, hl, g0, g1, g2, g3⟩ := Go.Joins.trod_struct4 Tryz.underlying41 h
  rw [O0] at hl
  match cs, hl with
  | [c0, c1, c2, c3, c4], _ =>
    simp only [P1, I9] at g0 g1 g2 g3
    obtain ⟨a, rfl⟩ := oD (c := c0) Tryz.underlying3 g0
    obtain ⟨b, rfl⟩ := oD (c := c1) Tryz.underlying3 g1
    obtain ⟨c, rfl⟩ := oD (c := c2) Tryz.underlying3 g2
    obtain ⟨s, hs⟩ := Jg.rd (cs := [c3, c4]) g3
    exact ⟨⟨a, b, c, s⟩, rfl, rfl, rfl, hs⟩⟩
set_option maxRecDepth 100000 in
theorem O6 : Rd Tryz.prog 102 dV := ⟨Mq, by decide, fun {_ _ _ _ _ _ cs _} h => by
  obtain ⟨y0, y1, y2, m, _, hl, g0, g1, g2⟩ := Go.Deep.trod_struct3 Tryz.underlying102 h
  rw [Mq] at hl
  match cs, hl with
  | [c0, c1, c2, c3], _ =>
    simp only [P1, I9] at g0 g1 g2
    obtain ⟨a, rfl⟩ := oD (c := c0) Tryz.underlying3 g0
    obtain ⟨b, rfl⟩ := oD (c := c1) Tryz.underlying3 g1
    obtain ⟨s, hs⟩ := Jg.rd (cs := [c2, c3]) g2
    exact ⟨⟨a, b, s⟩, rfl, rfl, hs⟩⟩
section
variable {H : Type} {enc : TypeId × Value → H} {W : World} {base : Nat} {held : Bool} {v : Value} {d : DataW H} {p : List MemPlace}
set_option maxRecDepth 100000 in
theorem I8 (hv : Value.okWide Tryz.prog W .any base 3 v) (h : DataW.Trod enc Tryz.prog W 0 (fun _ => true) held 3 v d p) : ∃ n, (Ty.int .i64 n).den W mq v := by
 obtain ⟨n, rfl, _⟩ := open_int Tryz.underlying3 hv h
 exact ⟨n, rfl⟩
end
end Go.Proofs.YtelbollidfdcjaaGreat
namespace Go.Proofs.YtelbollidfdcjaaGreat
open Go Go.T Go.RowKit Go.ChangeShapes Go.WideShapes Go.ChangeAt
section
variable {H : Type} {enc : TypeId × Value → H} {P : Program} {w : World} {base : Nat} {held : Bool} {α : Type} {E : El α} {t e : TypeId} {n : Nat} {c : Value} {y : DataW H × List MemPlace}
theorem Cq (hR : Rd P e E) (ht : P.underlying t = some (.slice e)) (h : DataW.trod enc P w base (fun _ => true) held n t [c] = some y) (hw : ∀ m ∈ y.1.weights P t, m ≤ reachBytes) : ∃ xs, (Ty.sl E xs).den w mq c ∧ xs.length * P.bytesOf e ≤ reachBytes := by
 obtain ⟨xs, hd⟩ := NG hR ht h
 refine ⟨xs, hd, ?_⟩
 obtain ⟨ad, cap, ec, hcap, _, _⟩ := hd
 rcases Go.Deep.open_slice ht h with ⟨e1, _⟩ | ⟨a, len, cap', m, k, D, Pl, e1, _, hl, _, hm, hy, _⟩
 ·have e2 : c = .slice none 0 0 := by simpa using e1
  rw [ec] at e2
  injection e2 with _ e3 _
  rw [e3, Nat.zero_mul]; exact Nat.zero_le _
 have e2 : c = .slice (some a) len cap' := by simpa using e1
 rw [ec] at e2
 injection e2 with _ e3 _
 rw [hy] at hw
 have := hw ((((List.range len).map D).length + ((List.range (m - len)).map fun j => D (len + j)).length) * P.bytesOf e) (by simp [DataW.weights, ht])
 rw [List.length_map, List.length_range] at this
 have h2 : xs.length * P.bytesOf e ≤ (len + ((List.range (m - len)).map fun j => D (len + j)).length) * P.bytesOf e := Nat.mul_le_mul_right _ (by omega)
 omega
end
section
variable {H : Type} {enc : TypeId × Value → H} {W : World} {base : Nat} {held : Bool} {v : Value} {d : DataW H} {p : List MemPlace}
theorem Pr : Tryz.prog.bytesOf 39 = 24 := by kernel_rfl
theorem P5 : Tryz.prog.bytesOf 41 = 40 := by kernel_rfl
theorem PZ : Tryz.prog.bytesOf 102 = 32 := by kernel_rfl
set_option maxRecDepth 100000 in
theorem Iq {ts : List TypeId} {ds : List (DataW H)} {j : Nat} (hsz : (DataW.weightsEach Tryz.prog ts ds).all (· ≤ reachBytes) = true) (ht : ts[j]? = some 27) (hd : ds[j]? = some d) (hv : Value.okWide Tryz.prog W .any base 27 v) (h : DataW.Trod enc Tryz.prog W 0 (fun _ => true) held 27 v d p) : ∃ y : ak, y.Fit ∧ (dn y).den W mq v := by
 obtain ⟨c0, c1, c2, c3, y0, y1, y2, y3, n, rfl, ed, _, h0, h1, h2, h3⟩ := Go.Joins.open_agg4 Tryz.underlying27 (by kernel_rfl) (by kernel_rfl) hv h
 have hw : ∀ m ∈ d.weights Tryz.prog 27, m ≤ reachBytes := fun m hm => by
  have := List.all_eq_true.1 hsz _ (DataW.weights_mem_each ht hd m hm)
  simpa using this
 rw [ed] at hw
 have hw' : ∀ m ∈ DataW.weightsEach Tryz.prog [3, 23, 24, 25] [y0.1, y1.1, y2.1, y3.1], m ≤ reachBytes := fun m hm => hw m (by
  unfold DataW.weights
  rw [Tryz.underlying27]
  exact hm)
 obtain ⟨a, rfl⟩ := oD Tryz.underlying3 h0
 obtain ⟨bs, e1, l1⟩ := Cq PU Tryz.underlying23 h1 fun m hm => hw' m (DataW.weights_mem_each (j := 1) (t := 23) rfl rfl m hm)
 obtain ⟨ms, e2, l2⟩ := Cq Oo Tryz.underlying24 h2 fun m hm => hw' m (DataW.weights_mem_each (j := 2) (t := 24) rfl rfl m hm)
 obtain ⟨ls, e3, l3⟩ := Cq O6 Tryz.underlying25 h3 fun m hm => hw' m (DataW.weights_mem_each (j := 3) (t := 25) rfl rfl m hm)
 rw [Pr] at l1
 rw [P5] at l2
 rw [PZ] at l3
 exact ⟨⟨a, bs, ms, ls⟩, ⟨l1, l2, l3⟩, _, rfl, rfl, e1, e2, e3, trivial⟩
end
end Go.Proofs.YtelbollidfdcjaaGreat
