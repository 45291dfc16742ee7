/- Lemmas: the program and the reference walked, plain laws. -/
import Derived.Test.YtelbollidfdcjaaGreatHd
namespace Go.Proofs.YtelbollidfdcjaaGreat
open Go Go.T
set_option maxHeartbeats 8000000
structure Na (a : dU) : Prop where
  oX : a.bT.length ≤ 1000
  first : ∀ x ∈ a.first, -1000 ≤ x ∧ x ≤ 1000
  bT : ∀ x ∈ a.bT, -1000 ≤ x ∧ x ≤ 1000
open Classical in
noncomputable def jk (y : bB) (a : dU) : Bool := decide (e9 y (fun _ => true) a)
section
variable {y : bB} {a : dU} {b t k : Nat}
open Classical in
theorem lN (h : e9 y (fun _ => true) a) : jk y a = true := by unfold jk; exact decide_eq_true h
open Classical in
theorem iG (h : ¬ e9 y (fun _ => true) a) : jk y a = false := by unfold jk; exact decide_eq_false h
theorem vJ {n : Int} {s : Span} (h : (!jt n s) = false) : s.lo ≤ n ∧ n ≤ s.hi := by
 unfold jt at h; simpa using h
theorem AL {n : Int} {s : Span} (h : (!jt n s) = true) : ¬ (s.lo ≤ n ∧ n ≤ s.hi) := by
 unfold jt at h; simp at h; omega
theorem Mp (h : (!decide ((a.first.length : Int) = y.bins.length) || !decide ((a.bT.length : Int) = y.moves.length)) = true) : false = jk y a := by
 refine (iG fun hf => ?_).symm
 have h1 := hf.lens.first
 have h2 := hf.lens.bT
 rw [decide_eq_true (by omega), decide_eq_true (by omega)] at h; cases h
theorem Ba (h : (!decide ((a.first.length : Int) = y.bins.length) || !decide ((a.bT.length : Int) = y.moves.length)) = false) : wh y a := by
 rw [Bool.or_eq_false_iff, Bool.not_eq_false', Bool.not_eq_false', decide_eq_true_eq, decide_eq_true_eq] at h
 exact ⟨by omega, by omega⟩
theorem NK (hb : b < y.bins.length) (h : (!jt (nth a.first b) (nth y.bins b).first) = true) : false = jk y a :=
 (iG fun hf => AL h (hf.first b hb)).symm
theorem NS (hb : b < y.bins.length) (ht : t ≤ y.D) (h : (!jt (cr y a (b : Nat) (t : Nat)) ⟨0, (nth y.bins b).holds⟩) = true) : false = jk y a :=
 (iG fun hf => AL h (by rw [kP]; exact hf.cont b t hb ht)).symm
theorem Mm (hk : k < y.moves.length) (h : (!jt (nth a.bT k) (nth y.moves k).sacks) = true) : false = jk y a :=
 (iG fun hf => AL h (hf.bT k hk)).symm
theorem Mj (hr : y.cN) (hl : wh y a) (h1 : ∀ b, b < y.bins.length → ((nth y.bins b).first.lo ≤ nth a.first b ∧ nth a.first b ≤ (nth y.bins b).first.hi) ∧ ∀ t : Nat, t ≤ y.D → 0 ≤ cr y a (b : Nat) (t : Nat) ∧ cr y a (b : Nat) (t : Nat) ≤ (nth y.bins b).holds)
    (h2 : ∀ k, k < y.moves.length → (nth y.moves k).sacks.lo ≤ nth a.bT k ∧ nth a.bT k ≤ (nth y.moves k).sacks.hi) : (!(y.levels.any fun l => !jt (cr y a l.bin l.day) l.sacks)) = jk y a := by
  have key : ∀ i, i < y.levels.length → cr y a (nth y.levels i).bin (nth y.levels i).day = cR y a (nth y.levels i).bin.toNat (nth y.levels i).day.toNat := fun i hi => by
    obtain ⟨g1, g2, _⟩ := hr.level _ (cV hi)
    rw [← kP, Int.toNat_of_nonneg g1.1, Int.toNat_of_nonneg g2.1]
  cases e : y.levels.any fun l => !jt (cr y a l.bin l.day) l.sacks with
  | true =>
    refine (iG fun hf => ?_).symm
    obtain ⟨l, hl', h⟩ := List.any_eq_true.1 e
    obtain ⟨i, hi, rfl⟩ := mN hl'
    exact AL h (by rw [key i hi]; exact hf.level i hi rfl)
  | false =>
    refine (lN ⟨hl, fun b hb => (h1 b hb).1, fun b t hb ht => by rw [← kP]; exact (h1 b hb).2 t ht, h2, fun i hi _ => ?_⟩).symm
    rw [List.any_eq_false] at e
    rw [← key i hi]
    exact vJ (by rw [← Bool.not_eq_true]; exact e _ (cV hi))
end
attribute [local irreducible] cr jt jk
attribute [local irreducible] iP fV m6 qX ig iw ia ij ir qN iy qQ eA ga qU gS qM nth fX dy aj dx bodyPost Exit.then Exit.inBlock Code.wp Code.wpIn qO iz qT qR iZ eR cW cZ bodyPostM eH
set_option maxRecDepth 100000 in
theorem JW (y : bB) (a : dU) (ha : Ip y a) (l : Level) (h0 : 0 ≤ l.bin) (h1 : l.bin.toNat < a.first.length) : dx Tryz.prog 85 [Ty.agg (ef.tys l), Ty.pp (bk y), Ty.pp (dP a)] (Ty.bool (!jt (cr y a l.bin l.day) l.sacks)) := by
 refine au Tryz.func85 rfl (by decide) Tryz.ntmps85 (by exact Nat.le_of_ble_eq_true rfl) fun w0 M0 => ?_
 refine aE (aA (bJ rfl (dY rfl (aD (aC (aE (cM mixed rfl ?_)))))))
 refine aY rfl rfl rfl (by exact Nat.le_of_ble_eq_true rfl) ?_
 refine aY rfl rfl rfl (by exact Nat.le_of_ble_eq_true rfl) ?_
 refine aM rfl rfl rfl rfl rfl (by decide) ?_
 refine aK rfl rfl rfl rfl ?_
 refine aM rfl rfl rfl rfl rfl (by decide) ?_
 refine aK rfl rfl rfl rfl (aa (fk y a ha l.bin l.day h0 h1) rfl rfl rfl rfl rfl ?_)
 refine aM rfl rfl rfl rfl rfl (by decide) ?_
 refine aY rfl rfl rfl (by exact Nat.le_of_ble_eq_true rfl) ?_
 refine aa (kS _ _) rfl rfl rfl rfl rfl (dM rfl (dY rfl (aD ?_)))
 refine ⟨by kernel_rfl, ?_⟩
 refine aC (az (bq rfl rfl ?_))
 all_goals exact cC rfl rfl
set_option maxRecDepth 100000 in
theorem CX (y : bB) (a : dU) (hr : y.cN) (hb : Na a) : dx Tryz.prog 20 [fH y, kr a] (Ty.bool (jk y a)) := by
 refine au Tryz.func20 rfl (by decide) Tryz.ntmps20 (by exact Nat.le_of_ble_eq_true rfl) fun w0 M0 => ?_
 have hs1 := hr.bins
 have hs2 := hr.moves
 have hs3 := hr.days
 have hs4 := hr.levels
 have hD := D_eq hr
 have hfew := hb.oX
 refine aE (aA (bJ rfl (bJ rfl (dY rfl (aD (aC (aE (aE (aA ?_)))))))))
 refine aM rfl rfl rfl rfl rfl (by decide) ?_
 refine aK rfl rfl rfl rfl (cx rfl rfl rfl ?_)
 refine aM rfl rfl rfl rfl rfl (by decide) ?_
 refine aK rfl rfl rfl rfl (cx rfl rfl rfl (bE rfl rfl rfl (gU rfl ?_)))
 apply aS (s := 17) rfl rfl rfl
 ·intro hg; apply aT; (refine aM rfl rfl rfl rfl rfl (by decide) ?_); refine aD ?_; exact rfl
 ·exact rfl
 ·exact rfl
 apply aS (s := 17) rfl rfl rfl
 ·intro hg; apply aO (s := 18) rfl (by (rw [hg]; rfl)); apply aT; (refine aK rfl rfl rfl rfl ?_); refine aD ?_; exact rfl
 ·exact rfl
 ·exact rfl
 apply aS (s := 17) rfl rfl rfl
 ·intro hg; apply aO (s := 19) rfl (by (rw [hg]; rfl)); apply aT; (refine cx rfl rfl rfl ?_); refine aD ?_; exact rfl
 ·exact rfl
 ·exact rfl
 apply aS (s := 17) rfl rfl rfl
 ·intro hg; apply aT; (refine aM rfl rfl rfl rfl rfl (by decide) ?_); refine aD ?_; exact rfl
 ·exact rfl
 ·exact rfl
 apply aS (s := 17) rfl rfl rfl
 ·intro hg; apply aO (s := 21) rfl (by (rw [hg]; rfl)); apply aT; (refine aK rfl rfl rfl rfl ?_); refine aD ?_; exact rfl
 ·exact rfl
 ·exact rfl
 apply aS (s := 17) rfl rfl rfl
 ·intro hg; apply aO (s := 22) rfl (by (rw [hg]; rfl)); apply aT; (refine cx rfl rfl rfl ?_); refine aD ?_; exact rfl
 ·exact rfl
 ·exact rfl
 apply aS (s := 17) rfl rfl rfl
 ·intro hg; apply aO (s := 20) rfl (by (rw [hg]; rfl)); apply aO (s := 23) rfl (by (rw [hg]; rfl)); apply aT; (refine bE rfl rfl rfl ?_); refine aD ?_; exact rfl
 ·exact rfl
 ·exact rfl
 refine kj rfl rfl (aD (aC ?_))
 refine cY rfl (fun hc1 => ?_) (fun hc1 => ?_)
 ·
  refine aE (aA (dY rfl (aD (aC (az (aV (bq rfl rfl ?_)))))))
  all_goals skip
  exact ay rfl rfl (congrArg Ty.bool (Mp hc1))
 refine ak (aC (aE (aE ?_)))
 have hl := Ba hc1
 have hl1 := hl.first
 have hl2 := hl.bT
 have ha : Ip y a := ⟨by omega, hb.oX, hb.first, hb.bT⟩
 refine aA ?_
 refine aM rfl rfl rfl rfl rfl (by decide) ?_
 refine aK rfl rfl rfl rfl (cx rfl rfl rfl (bM rfl (aD (aC (ah ?_)))))
 refine cU (fun (k : {k : Nat // k ≤ y.bins.length ∧ ∀ b, b < k → ((nth y.bins b).first.lo ≤ nth a.first b ∧ nth a.first b ≤ (nth y.bins b).first.hi) ∧ ∀ t : Nat, t ≤ y.D → 0 ≤ cr y a (b : Nat) (t : Nat) ∧ cr y a (b : Nat) (t : Nat) ≤ (nth y.bins b).holds}) => live [(2, Ty.pp (bk y)), (3, Ty.pp (dP a)), (27, Ty.sl eU y.bins), (28, Ty.int .i64 y.bins.length), (29, Ty.int .i64 (k.1 : Nat))] []) (fun k => y.bins.length - k.1) (⟨0, Nat.zero_le _, fun b h => absurd h (Nat.not_lt_zero b)⟩) ?_ fun k => ?_
 ·(refine dD.mk' ?_ ?_ <;> (repeat' (first | exact aH | exact aI | refine aB ?_ (Ty.aW _) | refine aB ?_ (Ty.aF _))))
 have hk := k.2.1
 refine aE (aA (bE rfl rfl rfl (aD (aC (aE ?_)))))
 refine av rfl (fun hc2 => ?_) (fun hc2 => ?_)
 ·
  refine ak (aC (aE (ah (aE (aA (bM rfl ?_))))))
  refine bI rfl rfl rfl rfl rfl rfl (by omega) ?_
  refine aY rfl rfl rfl (by exact Nat.le_of_ble_eq_true rfl) ?_
  refine b8 rfl (by exact List.cons_ne_nil _ _) rfl ?_
  refine cB rfl ?_
  refine bp rfl rfl (by decide) rfl rfl rfl rfl rfl rfl ?_
  refine aD (aC (aE (aE (cM mixed rfl ?_))))
  refine aM rfl rfl rfl rfl rfl (by decide) ?_
  refine aK rfl rfl rfl rfl (bM rfl ?_)
  refine bI rfl rfl rfl rfl rfl rfl (by omega) ?_
  refine aK rfl rfl rfl rfl ?_
  refine aL rfl rfl rfl rfl rfl (by decide) ?_
  refine bG rfl rfl (by decide) rfl rfl (by exact Nat.le_of_ble_eq_true rfl) ?_
  refine aa (kS _ _) rfl rfl rfl rfl rfl (dM rfl (aD ?_))
  refine ⟨by kernel_rfl, ?_⟩
  refine aC ?_
  refine cY rfl (fun hc3 => ?_) (fun hc3 => ?_)
  ·
   refine aE (aA (dY rfl (aD (aC (az (aV (bD (aV (aV ?_)))))))))
   refine bD (aV (bq rfl rfl ?_))
   all_goals skip
   exact ay rfl rfl (congrArg Ty.bool (NK (b := k.1) (by omega) hc3))
  refine ak (aC (aE (aA ?_)))
  refine aM rfl rfl rfl rfl rfl (by decide) ?_
  refine aK rfl rfl rfl rfl ?_
  refine bz rfl rfl (by omega) (by omega) ?_
  refine bM rfl (aD (aC (ah ?_)))
  refine cU (fun (t : {t : Nat // t ≤ y.D + 1 ∧ ∀ s : Nat, s < t → 0 ≤ cr y a (k.1 : Nat) (s : Nat) ∧ cr y a (k.1 : Nat) (s : Nat) ≤ (nth y.bins k.1).holds}) => live [(2, Ty.pp (bk y)), (3, Ty.pp (dP a)), (5, Ty.int .i64 (k.1 : Nat)), (6, Ty.ptr 7 0), (27, Ty.sl eU y.bins), (28, Ty.int .i64 y.bins.length), (29, Ty.int .i64 (k.1 : Nat)), (45, Ty.int .i64 (y.days + 1)), (46, Ty.int .i64 (t.1 : Nat))] [(7, Cont.cells 39 (eU.tys (nth y.bins k.1)))]) (fun t => y.D + 1 - t.1) (⟨0, Nat.zero_le _, fun s h => absurd h (Nat.not_lt_zero s)⟩) ?_ fun t => ?_
  ·(refine dD.mk' ?_ ?_ <;> (repeat' (first | exact aH | exact aI | refine aB ?_ (Ty.aW _) | refine aB ?_ (Ty.aF _) | refine aG rfl (Cont.aF _) ?_)))
  have ht := t.2.1
  refine aE (aA (bE rfl rfl rfl (aD (aC (aE ?_)))))
  refine av rfl (fun hc4 => ?_) (fun hc4 => ?_)
  ·
   refine ak (aC (aE (ah (aE (aA (bM rfl (cB rfl (aD (aC ?_)))))))))
   refine aE (cM mixed rfl ?_)
   refine aY rfl rfl rfl (by exact Nat.le_of_ble_eq_true rfl) ?_
   refine aY rfl rfl rfl (by exact Nat.le_of_ble_eq_true rfl) ?_
   refine bM rfl (bM rfl ?_)
   refine aa (fk y a ha ((k.1 : Nat) : Int) ((t.1 : Nat) : Int) (Int.natCast_nonneg _) (by omega)) rfl rfl rfl rfl rfl ?_
   refine aL rfl rfl rfl rfl rfl (by decide) ?_
   refine aU rfl rfl (by decide) rfl rfl rfl ?_
   refine aa (jN _ _) rfl rfl rfl rfl rfl (aa (kS _ _) rfl rfl rfl rfl rfl (dM rfl (aD ?_)))
   refine ⟨by kernel_rfl, ?_⟩
   refine aC ?_
   refine cY rfl (fun hc5 => ?_) (fun hc5 => ?_)
   ·
    refine aE (aA (dY rfl (aD (aC (az (bD (aV (aV (bD ?_)))))))))
    refine bD (aV (aV (bD (aV (bq rfl rfl ?_)))))
    all_goals skip
    exact ay rfl rfl (congrArg Ty.bool (NS (b := k.1) (t := t.1) (by omega) (by omega) hc5))
   refine ak (bW (aC (aA ?_)))
   refine bz rfl rfl (by omega) (by omega) ?_
   refine bM rfl (aD ?_)
   refine bf (⟨t.1 + 1, by omega, fun s h => (Nat.lt_succ_iff_lt_or_eq.1 h).elim (t.2.2 s) fun e => by subst e; exact vJ hc5⟩) ?_ (by show y.D + 1 - (t.1 + 1) < y.D + 1 - t.1; omega)
   (refine dD.mk' ?_ ?_ <;> (repeat' (first | exact aH | exact aI | refine aB ?_ (Ty.aW _) | refine aB ?_ (Ty.aF _) | refine aG rfl (Cont.aF _) ?_)))
   all_goals skip
  refine cT (aR (aR (aq rfl (bW (aC (aA ?_))))))
  refine bz rfl rfl (by omega) (by omega) ?_
  refine bM rfl (aD ?_)
  refine bf (⟨k.1 + 1, by omega, fun b h => (Nat.lt_succ_iff_lt_or_eq.1 h).elim (k.2.2 b) fun e => by subst e; exact ⟨vJ hc3, fun s h => t.2.2 s (by omega)⟩⟩) ?_ (by show y.bins.length - (k.1 + 1) < y.bins.length - k.1; omega)
  (refine dD.mk' ?_ ?_ <;> (repeat' (first | exact aH | exact aI | refine aB ?_ (Ty.aW _) | refine aB ?_ (Ty.aF _))))
  all_goals skip
 refine cT (aR (aR (aq rfl (aC (aE (aE (aA ?_)))))))
 refine aM rfl rfl rfl rfl rfl (by decide) ?_
 refine aK rfl rfl rfl rfl (cx rfl rfl rfl (bM rfl (aD (aC (ah ?_)))))
 refine cU (fun (m : {k : Nat // k ≤ y.moves.length ∧ ∀ i, i < k → (nth y.moves i).sacks.lo ≤ nth a.bT i ∧ nth a.bT i ≤ (nth y.moves i).sacks.hi}) => live [(2, Ty.pp (bk y)), (3, Ty.pp (dP a)), (62, Ty.sl dm y.moves), (63, Ty.int .i64 y.moves.length), (64, Ty.int .i64 (m.1 : Nat))] []) (fun m => y.moves.length - m.1) (⟨0, Nat.zero_le _, fun b h => absurd h (Nat.not_lt_zero b)⟩) ?_ fun m => ?_
 ·(refine dD.mk' ?_ ?_ <;> (repeat' (first | exact aH | exact aI | refine aB ?_ (Ty.aW _) | refine aB ?_ (Ty.aF _))))
 have hm := m.2.1
 refine aE (aA (bE rfl rfl rfl (aD (aC (aE ?_)))))
 refine av rfl (fun hc6 => ?_) (fun hc6 => ?_)
 ·
  refine ak (aC (aE (ah (aE (aA (bM rfl ?_))))))
  refine bI rfl rfl rfl rfl rfl rfl (by omega) ?_
  refine aY rfl rfl rfl (by exact Nat.le_of_ble_eq_true rfl) ?_
  refine b8 rfl (by exact List.cons_ne_nil _ _) rfl ?_
  refine cB rfl ?_
  refine bp rfl rfl (by decide) rfl rfl rfl rfl rfl rfl ?_
  refine aD (aC (aE (cM mixed rfl ?_)))
  refine aM rfl rfl rfl rfl rfl (by decide) ?_
  refine aK rfl rfl rfl rfl (bM rfl ?_)
  refine bI rfl rfl rfl rfl rfl rfl (by omega) ?_
  refine aK rfl rfl rfl rfl ?_
  refine aL rfl rfl rfl rfl rfl (by decide) ?_
  refine bG rfl rfl (by decide) rfl rfl (by exact Nat.le_of_ble_eq_true rfl) ?_
  refine aa (kS _ _) rfl rfl rfl rfl rfl (dM rfl (aD ?_))
  refine ⟨by kernel_rfl, ?_⟩
  refine aC ?_
  refine cY rfl (fun hc7 => ?_) (fun hc7 => ?_)
  ·
   refine aE (aA (dY rfl (aD (aC (az (bD (aV (aV (bD ?_)))))))))
   refine aV (bq rfl rfl ?_)
   all_goals skip
   exact ay rfl rfl (congrArg Ty.bool (Mm (k := m.1) (by omega) hc7))
  refine ak (bW (aC (aA ?_)))
  refine bz rfl rfl (by omega) (by omega) ?_
  refine bM rfl (aD ?_)
  refine bf (⟨m.1 + 1, by omega, fun i h => (Nat.lt_succ_iff_lt_or_eq.1 h).elim (m.2.2 i) fun e => by subst e; exact vJ hc7⟩) ?_ (by show y.moves.length - (m.1 + 1) < y.moves.length - m.1; omega)
  (refine dD.mk' ?_ ?_ <;> (repeat' (first | exact aH | exact aI | refine aB ?_ (Ty.aW _) | refine aB ?_ (Ty.aF _))))
  all_goals skip
 refine cT (aR (aR (aq rfl (aC (aE (aA ?_))))))
 refine aM rfl rfl rfl rfl rfl (by decide) ?_
 refine aK rfl rfl rfl rfl (dH rfl ?_)
 refine aa (lR y.levels (Ty.jc 85 [Ty.pp (bk y), Ty.pp (dP a)]) rfl (fun l => !jt (cr y a l.bin l.day) l.sacks) rfl rfl (fun l h => dN (JW y a ha l (hr.level l h).2.1.1 (by have := (hr.level l h).2.1; omega)) rfl rfl rfl rfl rfl rfl)) rfl rfl rfl rfl rfl ?_
 refine dM rfl (dY rfl (aD (aC (az (bq rfl rfl ?_)))))
 all_goals skip
 exact ay rfl rfl (congrArg Ty.bool (Mj hr hl (fun b hb => k.2.2 b (by omega)) (fun i hi => m.2.2 i (by omega))))
end Go.Proofs.YtelbollidfdcjaaGreat
namespace Go.Proofs.YtelbollidfdcjaaGreat
open Go Go.T
section
variable {d : Md} {v : Bool} {c : Nat → Bool} {y : bB} {b t k n : Nat} {l : List ve}
variable {f : Nat → Nat → Int}
theorem Dw (ho : cy y = 0) (hb : b < y.bins.length) (ht : t ≤ y.D) : 0 ≤ (nth (dh y (b : Nat)) t).lo ∧ (nth (dh y (b : Nat)) t).lo ≤ 300 ∧ 0 ≤ (nth (dh y (b : Nat)) t).hi ∧ (nth (dh y (b : Nat)) t).hi ≤ 300 := by
 have h := pV ho hb ht
 have hh := ((c9 (eC ho)).bin _ (cV hb)).1
 obtain ⟨a, ha, e⟩ := h.lo
 obtain ⟨a', ha', e'⟩ := h.hi
 have h1 := ha.cont b t hb ht
 have h2 := ha'.cont b t hb ht
 rw [← e, ← e']
 omega
end
end Go.Proofs.YtelbollidfdcjaaGreat
namespace Go.Proofs.YtelbollidfdcjaaGreat
open Go Go.T
set_option maxHeartbeats 4000000
section
variable {α : Type} {p : α → Bool} {l : List α} {k : Nat}
end
section
variable {y : bB} {b c : Bool}
end
attribute [local irreducible] iP fV m6 qX ig iw ia ij ir qN iy qQ eA ga qU gS qM nth fX dy aj dx bodyPost Exit.then Exit.inBlock Code.wp Code.wpIn qO iz qT qR iZ eR cW cZ bodyPostM eH
end Go.Proofs.YtelbollidfdcjaaGreat
namespace Go.Proofs.YtelbollidfdcjaaGreat
open Go Go.T
set_option maxHeartbeats 6000000
section
variable {y : bB} {l : Level}
end
section
variable {y : bB} {m : Move}
end
attribute [local irreducible] bZ
attribute [local irreducible] iP fV m6 qX ig iw ia ij ir qN iy qQ eA ga qU gS qM nth fX dy aj dx bodyPost Exit.then Exit.inBlock Code.wp Code.wpIn qO iz qT qR iZ eR cW cZ bodyPostM eH
end Go.Proofs.YtelbollidfdcjaaGreat
namespace Go.Proofs.YtelbollidfdcjaaGreat
open Go Go.T
section
variable {y : bB} {c : Nat → Bool} {a : dU} {l : Level} {b t k : Nat} {s s' : Span} {f : dU → Int}
theorem Gg {i : Nat} (h : i < 8) : nth bP i = true := by
 unfold bP; rw [iA (by rw [List.length_replicate]; exact h), List.getElem_replicate]
theorem rN (hr : y.cN) : e9 y (nth bP) a ↔ e9 y (fun _ => true) a := by
 have h8 := hr.levels
 refine ⟨fun h => ⟨h.lens, h.first, h.cont, h.bT, fun i hi _ => h.level i hi (Gg (by omega))⟩, fun h => ⟨h.lens, h.first, h.cont, h.bT, fun i hi _ => h.level i hi rfl⟩⟩
structure Nz (y : bB) (l : Level) : Prop where
  day : 0 ≤ l.day ∧ l.day ≤ y.days
  bin : 0 ≤ l.bin ∧ l.bin < y.bins.length
  num : 0 ≤ l.sacks.lo ∧ l.sacks.hi ≤ 300
  ord : l.sacks.lo ≤ l.sacks.hi
theorem Bt.le {y' : bB} {c' : Nat → Bool} {g : dU → Int} (h : Bt y c f s) (h' : Bt y' c' g s') (sub : ∀ a, e9 y' c' a → e9 y c a ∧ g a = f a) : s.lo ≤ s'.lo ∧ s'.hi ≤ s.hi := by
 obtain ⟨a1, f1, e1⟩ := h'.lo
 obtain ⟨a2, f2, e2⟩ := h'.hi
 have h1 := h.all a1 (sub a1 f1).1
 have h2 := h.all a2 (sub a2 f2).1
 rw [← (sub a1 f1).2] at h1
 rw [← (sub a2 f2).2] at h2
 omega
structure yD (y z : bB) : Prop where
  days : z.days = y.days
  bins : z.bins = y.bins
  moves : z.moves = y.moves
  less : ∀ a, e9 z (fun _ => true) a → e9 y (fun _ => true) a
variable {z : bB}
theorem yD.D (h : yD y z) : z.D = y.D := by unfold bB.D; rw [h.days]
theorem yD.cont (h : yD y z) : cR z a b t = cR y a b t := by unfold cR n6; rw [h.moves]
theorem yD.fits (h : yD y z) (hy : y.cN) (hz : z.cN) (ha : e9 z (nth bP) a) : e9 y (nth bP) a := (rN hy).2 (h.less a ((rN hz).1 ha))
end
end Go.Proofs.YtelbollidfdcjaaGreat
namespace Go.Proofs.YtelbollidfdcjaaGreat
open Go Go.T
noncomputable def iX (y : bB) (b t : Nat) (v : Int) : List b9 := jM (aP y (nth bP)) (y.kept b t) v
noncomputable def ql (y : bB) (b t : Nat) (v : Int) : Int × Bool × List Int := cO (iX y b t v) (y.cells + 1) (fT (iX y b t v))
def Ct (y : bB) (b t : Nat) (v : Int) : Bool := rJ v (nth (aP y (nth bP)) (y.kept b t)).lo (nth (aP y (nth bP)) (y.kept b t)).hi
noncomputable def j3 (y : bB) (b t v : Int) : Int := if dO y b = 0 then (if y.time t = true then (if Ct y b.toNat t.toNat v = true then (if (ql y b.toNat t.toNat v).2.1 = true then 6 else 0) else 6) else 1) else dO y b
noncomputable def lT (y : bB) (b t v : Int) : dU := if j3 y b t v = 0 then fL y (ql y b.toNat t.toNat v).2.2 else ⟨[], []⟩
section
variable {y : bB} {b t : Nat} {v : Int} {p q : Int}
theorem Ko (h : ¬ dO y p = 0) : dO y p = j3 y p q v ∧ (⟨[], []⟩ : dU) = lT y p q v := by
 have e : dO y p = j3 y p q v := by unfold j3; rw [if_neg h]
 exact ⟨e, by unfold lT; rw [← e, if_neg h]⟩
theorem K0 (h : dO y p = 0) (h2 : (!y.time q) = true) : 1 = j3 y p q v ∧ (⟨[], []⟩ : dU) = lT y p q v := by
 have e : 1 = j3 y p q v := by unfold j3; rw [if_pos h, if_neg (by simpa using h2)]
 exact ⟨e, by unfold lT; rw [← e, if_neg (by decide)]⟩
theorem Ka (h : dO y p = 0) (h2 : (!y.time q) = false) (h3 : (!Ct y p.toNat q.toNat v) = true) : 6 = j3 y p q v ∧ (⟨[], []⟩ : dU) = lT y p q v := by
 have e : 6 = j3 y p q v := by unfold j3; rw [if_pos h, if_pos (by simpa using h2), if_neg (by simpa using h3)]
 exact ⟨e, by unfold lT; rw [← e, if_neg (by decide)]⟩
theorem Kl (h : dO y p = 0) (h2 : (!y.time q) = false) (h3 : (!Ct y p.toNat q.toNat v) = false) (h4 : (ql y p.toNat q.toNat v).2.1 = true) : 6 = j3 y p q v ∧ (⟨[], []⟩ : dU) = lT y p q v := by
 have e : 6 = j3 y p q v := by unfold j3; rw [if_pos h, if_pos (by simpa using h2), if_pos (by simpa using h3), if_pos h4]
 exact ⟨e, by unfold lT; rw [← e, if_neg (by decide)]⟩
theorem K1 (h : dO y p = 0) (h2 : (!y.time q) = false) (h3 : (!Ct y p.toNat q.toNat v) = false) (h4 : (ql y p.toNat q.toNat v).2.1 = false) : 0 = j3 y p q v ∧ fL y (ql y p.toNat q.toNat v).2.2 = lT y p q v := by
 have e : 0 = j3 y p q v := by unfold j3; rw [if_pos h, if_pos (by simpa using h2), if_pos (by simpa using h3), if_neg (by rw [h4]; decide)]
 exact ⟨e, by unfold lT; rw [← e, if_pos rfl]⟩
theorem rO (hb : b < y.bins.length) (ht : t ≤ y.D) {c : Nat → Bool} : y.kept b t < (aP y c).length := by
 have := mR hb ht
 rw [eS]; omega
theorem wD : (iX y b t v).length = (aP y (nth bP)).length := gz
theorem Jl {fl : List b9} {k : Nat} : (fT fl).set k v = fT (jM fl k v) := by
 unfold fT jM; rw [List.map_set]
theorem xm (hr : y.cN) (hb : b < y.bins.length) (ht : t ≤ y.D) (hv : Ct y b t v = true) : DR y (iX y b t v) (fT (iX y b t v)) := by
 have hk := rO (c := nth bP) hb ht
 have hv := dJ.1 hv
 refine ⟨hr, Aj (jJ hr), fun i hi => ?_, fun e => AE (sq e), by rw [wD]; exact iV hr⟩
 rw [wD] at hi
 have h1 := qF (c := nth bP) hr i hi
 have h2 := qF (c := nth bP) hr _ hk
 unfold iX
 rw [lg hi]
 split
 ·show 0 ≤ v ∧ v ≤ _
  omega
 exact h1
theorem Az (hr : y.cN) (hb : b < y.bins.length) (ht : t ≤ y.D) (hv : Ct y b t v = true) {x : List Int} : fU (iX y b t v) (y.cells + 1) x ↔ fU (aP y (nth bP)) (y.cells + 1) x ∧ nth x (y.kept b t) = v :=
 yc (rO hb ht) (dJ.1 hv)
theorem Ek (h : dO y p = 0) : y.cN ∧ ∃ b : Nat, p = b ∧ b < y.bins.length := by
 unfold dO at h
 by_cases e : bZ y = 0
 ·rw [if_pos e] at h
  by_cases e2 : y.bin p = true
  ·have e3 : 0 ≤ p ∧ p ≤ (y.bins.length : Int) - 1 := dJ.1 e2
   exact ⟨c9 e, p.toNat, by omega, by omega⟩
  rw [if_neg e2] at h; cases h
 rw [if_neg e] at h; exact absurd h e
theorem Ja (hr : y.cN) (hb : b < y.bins.length) (ht : t ≤ y.D) : (j3 y (b : Nat) (t : Nat) v = 0 ∧ e9 y (nth bP) (lT y (b : Nat) (t : Nat) v) ∧ cR y (lT y (b : Nat) (t : Nat) v) b t = v) ∨ (j3 y (b : Nat) (t : Nat) v = 6 ∧ ¬ ∃ a, e9 y (nth bP) a ∧ cR y a b t = v) := by
  have h1 := vN (lP hr) hb
  have hD := D_eq hr
  have h2 : (!y.time ((t : Nat) : Int)) = false := by
    rw [Bool.not_eq_false']; unfold bB.time; rw [dJ]; omega
  have key : ∀ a, e9 y (nth bP) a → cR y a b t = v → Ct y b t v = true ∧ fU (aP y (nth bP)) (y.cells + 1) (jo y a) ∧ nth (jo y a) (y.kept b t) = v := fun a ha hc => by
    have hf := gM hr ha
    have hn : nth (jo y a) (y.kept b t) = v := by rw [gr hb ht]; exact hc
    have := hf.1.2 _ (rO hb ht)
    rw [hn] at this
    exact ⟨dJ.2 this, hf, hn⟩
  cases h3 : Ct y b t v with
  | false =>
    have e := (Ka (v := v) h1 h2 (by rw [Int.toNat_natCast, Int.toNat_natCast, h3]; rfl)).1
    exact .inr ⟨e.symm, fun ⟨a, ha, hc⟩ => by rw [(key a ha hc).1] at h3; cases h3⟩
  | true =>
    have h3' : (!Ct y ((b : Nat) : Int).toNat ((t : Nat) : Int).toNat v) = false := by rw [Int.toNat_natCast, Int.toNat_natCast, h3]; rfl
    have hR := xm hr hb ht h3
    cases h4 : (ql y b t v).2.1 with
    | true =>
      have e := (Kl (v := v) h1 h2 h3' (by rw [Int.toNat_natCast, Int.toNat_natCast]; exact h4)).1
      refine .inr ⟨e.symm, fun ⟨a, ha, hc⟩ => ?_⟩
      obtain ⟨_, k2, k3⟩ := key a ha hc
      exact Bm hR.net hR.inb h4 ⟨_, (Az hr hb ht h3).2 ⟨k2, k3⟩⟩
    | false =>
      have e := K1 (v := v) h1 h2 h3' (by rw [Int.toNat_natCast, Int.toNat_natCast]; exact h4)
      rw [Int.toNat_natCast, Int.toNat_natCast] at e
      have hf : fU (aP y (nth bP)) (y.cells + 1) (ql y b t v).2.2 ∧ nth (ql y b t v).2.2 (y.kept b t) = v := (Az hr hb ht h3).1 (nE hR.net hR.inb h4)
      refine .inl ⟨e.1.symm, ?_, ?_⟩
      · rw [← e.2]; exact j8 hr hf.1
      · rw [← e.2, lF hr hf.1.1.1 hf.1.2 hb t ht]; exact hf.2
end
end Go.Proofs.YtelbollidfdcjaaGreat
namespace Go.Proofs.YtelbollidfdcjaaGreat
open Go Go.T
section
variable {fl : List b9} {a x1 x2 : List Int} {n k : Nat} {v : Int}
theorem IP (hN : Net fl n) (hk : k < fl.length) (h1 : fU fl n x1) (h2 : fU fl n x2) (hv : nth x1 k ≤ v ∧ v ≤ nth x2 k) : ∃ x, fU fl n x ∧ nth x k = v := by
  have b1 := h1.1.2 k hk
  have b2 := h2.1.2 k hk
  have hvb : (nth fl k).lo ≤ v ∧ v ≤ (nth fl k).hi := by omega
  have hN' : Net (jM fl k v) n := Aj hN
  have hle : ∀ i, i < (jM fl k v).length → (nth (jM fl k v) i).lo ≤ (nth (jM fl k v) i).hi := fun i hi => by
    rw [gz] at hi
    rw [lg hi]
    split
    · exact Int.le_refl _
    · have := h1.1.2 i hi; omega
  have hI := AE hle
  have hS := pH hN' hI
  cases e : (fR (jM fl k v) n (fT (jM fl k v))).2.1 with
  | false => exact ⟨_, (yc hk hvb).1 (uR.some hS e)⟩
  | true =>
    exfalso
    obtain ⟨g1, g2, g3⟩ := hS.no e
    have hIn := hS.inb
    have hR := oH (a := (fR (jM fl k v) n (fT (jM fl k v))).2.2) hN' g1
    generalize (fR (jM fl k v) n (fT (jM fl k v))).2.2 = a at g2 g3 hR hIn
    generalize (fR (jM fl k v) n (fT (jM fl k v))).1 = s at g1 g2 g3 hR
    obtain ⟨c0, hc0⟩ : ∃ c : Nat, (c : Int) = s := ⟨s.toNat, by omega⟩
    obtain ⟨R, hRe⟩ : ∃ R : Int → Prop, R = w9 (cQ (jM fl k v) a s) s := ⟨_, rfl⟩
    have hcl : ∀ w, Open (jM fl k v) a w → R (w.gj (jM fl k v)) → R (w.fin (jM fl k v)) := by rw [hRe]; exact hR.closed
    have hR0 : R s := by rw [hRe]; exact .inl rfl
    rw [← hRe] at g3
    clear hR hRe
    have dR : ∀ c, Decidable (R c) := fun c => Classical.propDecidable _
    have p1 := rZ (a := a) hN' fun c => ind (R c)
    have hpos : 0 < c7 (fun c : Nat => ind (R c) * over (jM fl k v) a c) n := by
      have := vF (f := fun _ => 0) (g := fun c : Nat => ind (R c) * over (jM fl k v) a c) (k := c0) (n := n) (by omega) (fun i hi => by
        by_cases h : R i
        · rw [dj h, Int.one_mul]; exact g3 i hi h
        · rw [dX h, Int.zero_mul]; exact Int.le_refl _) (by show (0 : Int) < _; rw [dj (by rw [hc0]; exact hR0), Int.one_mul, hc0]; exact g2)
      rwa [gC fun _ _ => rfl] at this
    rw [p1, gz] at hpos
    -- one of both flows shows that this cannot be
    have key : ∀ x, fU fl n x → ((ind (R (nth fl k).dst) - ind (R (nth fl k).src)) * v ≤ (ind (R (nth fl k).dst) - ind (R (nth fl k).src)) * nth x k) → False := fun x hx hxk => by
      have p2 := rj hN hx.2 fun c => ind (R c)
      have : c7 (fun i => (ind (R (nth (jM fl k v) i).dst) - ind (R (nth (jM fl k v) i).src)) * nth a i) fl.length ≤ c7 (fun i => (ind (R (nth fl i).dst) - ind (R (nth fl i).src)) * nth x i) fl.length := by
        refine qK fun i hi => ?_
        have c0 := hIn.2 i (by rw [gz]; exact hi)
        have c1 := hcl ⟨i, true⟩
        have c2 := hcl ⟨i, false⟩
        simp only [Open, Way.room, Way.gj, Way.fin, if_true, if_false, Bool.false_eq_true, gz] at c1 c2
        rw [(g9 hi).1, (g9 hi).2] at c1 c2
        rw [(g9 hi).1, (g9 hi).2]
        rw [lg hi] at c0 c1 c2
        by_cases ek : k = i
        · subst ek
          rw [if_pos rfl] at c0
          have ea : nth a k = v := by
            have c0 : v ≤ nth a k ∧ nth a k ≤ v := c0
            omega
          rw [ea]; exact hxk
        · rw [if_neg ek] at c0 c1 c2
          have bx := hx.1.2 i hi
          by_cases hd : R (nth fl i).dst <;> by_cases hs : R (nth fl i).src
          · rw [dj hd, dj hs]; simp
          · rw [dj hd, dX hs]
            have : ¬ 0 < nth a i - (nth fl i).lo := fun h => hs (c2 ⟨hi, h⟩ hd)
            omega
          · rw [dX hd, dj hs]
            have : ¬ 0 < (nth fl i).hi - nth a i := fun h => hd (c1 ⟨hi, h⟩ hs)
            omega
          · rw [dX hd, dX hs]; simp
      omega
    by_cases hd : R (nth fl k).dst <;> by_cases hs : R (nth fl k).src
    · exact key x1 h1 (by rw [dj hd, dj hs]; simp)
    · exact key x2 h2 (by rw [dj hd, dX hs]; omega)
    · exact key x1 h1 (by rw [dX hd, dj hs]; omega)
    · exact key x1 h1 (by rw [dX hd, dX hs]; simp)
end
section
variable {y : bB} {b t : Nat} {v : Int}
theorem J0 (ho : cy y = 0) (hb : b < y.bins.length) (ht : t ≤ y.D) :
 ((nth (dh y (b : Nat)) t).lo ≤ v ∧ v ≤ (nth (dh y (b : Nat)) t).hi → j3 y (b : Nat) (t : Nat) v = 0 ∧ e9 y (nth bP) (lT y (b : Nat) (t : Nat) v) ∧ cR y (lT y (b : Nat) (t : Nat) v) b t = v) ∧
 (¬ ((nth (dh y (b : Nat)) t).lo ≤ v ∧ v ≤ (nth (dh y (b : Nat)) t).hi) → j3 y (b : Nat) (t : Nat) v = 6) := by
 have hr := c9 (eC ho)
 have hS := pV ho hb ht
 rcases Ja (v := v) hr hb ht with ⟨e0, h1, h2⟩ | ⟨e6, hno⟩
 ·refine ⟨fun _ => ⟨e0, h1, h2⟩, fun hn => absurd ?_ hn⟩
  have := hS.all _ h1
  rw [h2] at this; exact this
 refine ⟨fun hv => absurd ?_ hno, fun _ => e6⟩
 obtain ⟨a1, f1, e1⟩ := hS.lo
 obtain ⟨a2, f2, e2⟩ := hS.hi
 have e1 : cR y a1 b t = _ := e1
 have e2 : cR y a2 b t = _ := e2
 obtain ⟨x, hx, hxv⟩ := IP (jJ (c := nth bP) hr) (rO hb ht) (gM hr f1) (gM hr f2) (v := v) (by rw [gr hb ht, gr hb ht]; omega)
 exact ⟨fL y x, j8 hr hx, by rw [lF hr hx.1.1 hx.2 hb t ht]; exact hxv⟩
end
end Go.Proofs.YtelbollidfdcjaaGreat
namespace Go.Proofs.YtelbollidfdcjaaGreat
open Go Go.T
def iI (y : bB) (a : dU) (b d : Nat) : List Int := (List.range (d + 1)).map fun t => cR y a b t
def gy (y : bB) (a : dU) : List (List Int) := (List.range y.bins.length).map fun b => iI y a b y.D
def zN (y : bB) (a : dU) (d : Nat) : List (List Int) := (List.range y.bins.length).map fun b => iI y a b d
def wN (y : bB) (a : dU) (k : Nat) : List (List Int) := (List.range y.bins.length).map fun b => if b < k then iI y a b 0 else []
def tT (y : bB) (a : dU) (d k : Nat) : List (List Int) := (List.range y.bins.length).map fun b => if b < k then iI y a b d ++ [cR y a b d] else iI y a b d
def nv (y : bB) (a : dU) (d i b : Nat) : Int := cR y a b d + c7 (fun i => if (nth y.moves i).day = d then n6 y a.bT b i else 0) i
def mG (y : bB) (a : dU) (d i : Nat) : List (List Int) := (List.range y.bins.length).map fun b => iI y a b d ++ [nv y a d i b]
def nW (y : bB) (a : dU) (d i b : Nat) : Int := nv y a d i b - ind ((nth y.moves i).src = b) * nth a.bT i
def qq (y : bB) (a : dU) (d i : Nat) : List (List Int) := (List.range y.bins.length).map fun b => iI y a b d ++ [nW y a d i b]
section
variable {y : bB} {a : dU} {b d i k : Nat} {f g : Nat → List Int} {n : Nat}
theorem sD (h : k < n) (hf : ∀ b, b < n → b ≠ k → f b = g b) : ((List.range n).map f).set k (g k) = (List.range n).map g := by
 refine tS (by rw [List.length_set, List.length_map, List.length_map]) fun j hj => ?_
 rw [List.length_set, List.length_map, List.length_range] at hj
 rw [iJ (by rw [List.length_map, List.length_range]; exact hj), fI _ hj]
 by_cases e : k = j
 ·subst e; rw [if_pos rfl, fI _ hj]
 rw [if_neg e, fI _ hj]; exact hf j hj (Ne.symm e)
theorem kN : (iI y a b d).length = d + 1 := by unfold iI; rw [List.length_map, List.length_range]
theorem Be (h : k ≤ d) : nth (iI y a b d) k = cR y a b k := by unfold iI; exact fI _ (by omega)
theorem Ei : iI y a b d ++ [cR y a b (d + 1)] = iI y a b (d + 1) := by
 unfold iI; rw [List.range_succ (n := d + 1), List.map_append]; rfl
theorem Er (hr : y.cN) : [nth a.first b] = iI y a b 0 := by
 show _ = [cR y a b 0]; rw [nB hr]
theorem FQ : List.replicate y.bins.length ([] : List Int) = wN y a 0 := by
 refine tS (by unfold wN; rw [List.length_replicate, List.length_map, List.length_range]) fun j hj => ?_
 rw [List.length_replicate] at hj
 unfold wN
 rw [fI _ hj, if_neg (Nat.not_lt_zero _), iA (by rw [List.length_replicate]; exact hj), List.getElem_replicate]
theorem Ii : (wN y a k).length = y.bins.length := by unfold wN; rw [List.length_map, List.length_range]
theorem Fz (hr : y.cN) (h : k < y.bins.length) : (wN y a k).set k [nth a.first k] = wN y a (k + 1) := by
 have := sD (f := fun b => if b < k then iI y a b 0 else []) (g := fun b => if b < k + 1 then iI y a b 0 else []) h fun b _ hb => by
  by_cases e : b < k
  ·rw [if_pos e, if_pos (by omega)]
  rw [if_neg e, if_neg (by omega)]
 rw [if_pos (Nat.lt_succ_self k), ← Er hr] at this
 exact this
theorem HW (h : y.bins.length ≤ k) : wN y a k = zN y a 0 := by
 unfold wN zN
 refine List.map_congr_left fun b hb => ?_
 rw [if_pos (by have := List.mem_range.1 hb; omega)]
theorem FD : zN y a d = tT y a d 0 := by
 unfold zN tT
 exact List.map_congr_left fun b _ => by rw [if_neg (Nat.not_lt_zero _)]
theorem HP : (tT y a d k).length = y.bins.length := by unfold tT; rw [List.length_map, List.length_range]
theorem IE (h : k < y.bins.length) : nth (tT y a d k) k = iI y a k d := by
 unfold tT; rw [fI _ h, if_neg (Nat.lt_irrefl _)]
theorem IG (h : k < y.bins.length) : (tT y a d k).set k (iI y a k d ++ [cR y a k d]) = tT y a d (k + 1) := by
 have := sD (f := fun b => if b < k then iI y a b d ++ [cR y a b d] else iI y a b d) (g := fun b => if b < k + 1 then iI y a b d ++ [cR y a b d] else iI y a b d) h fun b _ hb => by
  by_cases e : b < k
  ·rw [if_pos e, if_pos (by omega)]
  rw [if_neg e, if_neg (by omega)]
 rw [if_pos (Nat.lt_succ_self k)] at this
 exact this
theorem Gy (h : y.bins.length ≤ k) : tT y a d k = mG y a d 0 := by
 unfold tT mG
 refine List.map_congr_left fun b hb => ?_
 rw [if_pos (by have := List.mem_range.1 hb; omega)]
 show _ = _ ++ [cR y a b d + 0]
 rw [Int.add_zero]
theorem IX : (mG y a d i).length = y.bins.length := by unfold mG; rw [List.length_map, List.length_range]
theorem Aa : (qq y a d i).length = y.bins.length := by unfold qq; rw [List.length_map, List.length_range]
theorem CF (h : b < y.bins.length) : nth (mG y a d i) b = iI y a b d ++ [nv y a d i b] := by unfold mG; rw [fI _ h]
theorem Aw (h : b < y.bins.length) : nth (qq y a d i) b = iI y a b d ++ [nW y a d i b] := by unfold qq; rw [fI _ h]
theorem CP {l : List Int} {x : Int} (h : k = l.length) : nth (l ++ [x]) k = x := by subst h; exact m7 (i := 0)
theorem BQ {l : List Int} {x z : Int} (h : k = l.length) : (l ++ [x]).set k z = l ++ [z] := by
 subst h; rw [List.set_append_right _ _ (Nat.le_refl _), Nat.sub_self]; rfl
theorem Lp (h : b < y.bins.length) : (nth (mG y a d i) b).length = d + 2 ∧ nth (nth (mG y a d i) b) (d + 1) = nv y a d i b := by
 rw [CF h]
 exact ⟨by rw [List.length_append, kN]; rfl, CP kN.symm⟩
theorem Lb (h : b < y.bins.length) : (nth (qq y a d i) b).length = d + 2 ∧ nth (nth (qq y a d i) b) (d + 1) = nW y a d i b := by
 rw [Aw h]
 exact ⟨by rw [List.length_append, kN]; rfl, CP kN.symm⟩
theorem Gt (h : ¬ (nth y.moves i).day = d) : mG y a d i = mG y a d (i + 1) := by
 unfold mG
 refine List.map_congr_left fun b _ => ?_
 congr 2
 show _ = cR y a b d + (c7 _ i + (if _ then _ else _))
 rw [if_neg h, Int.add_zero]; rfl
theorem Jh (hb : b < y.bins.length) (h : (nth y.moves i).src = b) : (mG y a d i).set b ((nth (mG y a d i) b).set (d + 1) (nv y a d i b - nth a.bT i)) = qq y a d i := by
 have := sD (f := fun b => iI y a b d ++ [nv y a d i b]) (g := fun b => iI y a b d ++ [nW y a d i b]) hb fun c _ hc => by
  congr 2
  unfold nW; rw [dX (by rw [h]; omega)]; omega
 rw [CF hb, BQ kN.symm]
 have e : nW y a d i b = nv y a d i b - nth a.bT i := by unfold nW; rw [dj h]; omega
 rw [← e]; exact this
theorem Gl (h : (nth y.moves i).src = -1) : mG y a d i = qq y a d i := by
 unfold mG qq
 refine List.map_congr_left fun b _ => ?_
 congr 2
 unfold nW; rw [dX (by rw [h]; omega)]; omega
theorem AF (h : (nth y.moves i).day = d) : nW y a d i b + ind ((nth y.moves i).dst = b) * nth a.bT i = nv y a d (i + 1) b := by
 show _ = cR y a b d + (c7 _ i + (if _ then _ else _))
 rw [if_pos h]
 unfold nW nv n6
 rw [Int.sub_mul]; omega
theorem JT (hd : (nth y.moves i).day = d) (hb : b < y.bins.length) (h : (nth y.moves i).dst = b) : (qq y a d i).set b ((nth (qq y a d i) b).set (d + 1) (nW y a d i b + nth a.bT i)) = mG y a d (i + 1) := by
 have := sD (f := fun b => iI y a b d ++ [nW y a d i b]) (g := fun b => iI y a b d ++ [nv y a d (i + 1) b]) hb fun c _ hc => by
  congr 2
  rw [← AF hd, dX (by rw [h]; omega)]; omega
 rw [Aw hb, BQ kN.symm]
 have e : nv y a d (i + 1) b = nW y a d i b + nth a.bT i := by rw [← AF hd, dj h]; omega
 rw [← e]; exact this
theorem Ie (hd : (nth y.moves i).day = d) (h : (nth y.moves i).dst = -1) : qq y a d i = mG y a d (i + 1) := by
 unfold mG qq
 refine List.map_congr_left fun b _ => ?_
 congr 2
 rw [← AF hd, dX (by rw [h]; omega)]; omega
theorem KM (h : i = y.moves.length) : mG y a d i = zN y a (d + 1) := by
 subst h
 unfold mG zN
 refine List.map_congr_left fun b _ => ?_
 have e : nv y a d y.moves.length b = cR y a b (d + 1) := tQ.symm
 rw [e, Ei]
theorem Iy (h : d = y.D) : zN y a d = gy y a := by subst h; rfl
structure nu (y : bB) (a : dU) : Prop where
  lens : wh y a
  first : ∀ x ∈ a.first, 0 ≤ x ∧ x ≤ 300
  bT : ∀ x ∈ a.bT, 0 ≤ x ∧ x ≤ 300
theorem EV (hr : y.cN) (h : nu y a) (hi : i < y.moves.length) : -300 ≤ n6 y a.bT b i ∧ n6 y a.bT b i ≤ 300 := by
 have hm := h.bT _ (cV (show i < a.bT.length by rw [h.lens.bT]; exact hi))
 have hne := (hr.move _ (cV hi)).2.2.2.1
 unfold n6
 by_cases e1 : (nth y.moves i).dst = b
 ·rw [dj e1, dX (fun e2 => hne (e2.trans e1.symm))]; omega
 rw [dX e1]
 by_cases e2 : (nth y.moves i).src = b
 ·rw [dj e2]; omega
 rw [dX e2]; omega
theorem GZ (hr : y.cN) (h : nu y a) (hb : b < y.bins.length) : -3000 ≤ cR y a b d ∧ cR y a b d ≤ 3300 := by
 have h1 := h.first _ (cV (show b < a.first.length by rw [h.lens.first]; exact hb))
 have h2 := nS (f := fun i => if (nth y.moves i).day < d then n6 y a.bT b i else 0) (b := 300) (n := y.moves.length) fun i hi => by
  have := EV (b := b) hr h hi
  split <;> omega
 have h3 := hr.moves
 unfold cR
 omega
theorem DX (hr : y.cN) (h : nu y a) (hb : b < y.bins.length) (hi : i ≤ y.moves.length) : -6000 ≤ nv y a d i b ∧ nv y a d i b ≤ 6300 := by
 have h1 := GZ (d := d) hr h hb
 have h2 := nS (f := fun i => if (nth y.moves i).day = d then n6 y a.bT b i else 0) (b := 300) (n := i) fun j hj => by
  have := EV (b := b) (i := j) hr h (by omega)
  split <;> omega
 have h3 := hr.moves
 unfold nv
 omega
theorem JF (hr : y.cN) (h : nu y a) (hb : b < y.bins.length) (hi : i < y.moves.length) : -6300 ≤ nW y a d i b ∧ nW y a d i b ≤ 6300 := by
 have h1 := DX (d := d) (i := i) hr h hb (by omega)
 have hm := h.bT _ (cV (show i < a.bT.length by rw [h.lens.bT]; exact hi))
 unfold nW
 by_cases e2 : (nth y.moves i).src = b
 ·rw [dj e2]; omega
 rw [dX e2]; omega
end
end Go.Proofs.YtelbollidfdcjaaGreat
namespace Go.T
open Go Go.RowKit
section
variable {P : Program} {fr : Fr} {ops : Array Oper} {A : As} {rest : List Oper} {K : As → List (As × Fx) → Prop} {d : Nat} {t ty' : TypeId} {p : String} {e : Array Edge} [T : kU P]
end
end Go.T
namespace Go.T
open Go Go.RowKit
section
variable {P : Program} {fr : Fr} {ops : Array Oper} {A : As} {rest : List Oper} {K : As → List (As × Fx) → Prop} {d : Nat} {t ty' : TypeId} {p : String} {e : Array Edge} [T : kU P]
end
end Go.T
namespace Go.T
open Go Go.RowKit
section
variable {α : Type}
theorem lz {E : El α} {T J : Nat} {q : List (List α)} : (∀ u ∈ cE (q.map fun x => Ty.eY E T J x), u = J) ∧ ∀ u ∈ bl (q.map fun x => Ty.eY E T J x), u = J := by
 constructor <;>
 ·intro u hu
  simp only [cE, bl, List.mem_flatMap, List.mem_map] at hu
  obtain ⟨t, ⟨x, _, rfl⟩, hu⟩ := hu
  simpa [Ty.eY] using hu
def NY (E : El α) (T2 T J : Nat) (q : List (List α)) (w : World) (M : bC) (t : Nat) : Prop :=
  ∃ b cs, M b = some t ∧ w.heap[b]? = some (.cells cs T2 (0, 0)) ∧ cK w M (q.map fun x => Ty.eY E T J x) (cs.toList.take q.length) ∧ wj E.size (cs.toList.take q.length)
def Cont.mx (E : El α) (T2 T J : Nat) (q : List (List α)) : Cont :=
  { den := NY E T2 T J q, deps := [J], cdeps := [J]
    mono := fun le hk hs hst hkt ⟨b, cs, h1, h2, h4, h5⟩ => let ⟨a, c⟩ := le.own b _ h1 hkt
      ⟨b, cs, a, (c hst).trans h2, bX le (fun u hu => by rw [lz.1 u hu]; exact hk J (by simp)) (fun u hu => by rw [lz.2 u hu]; exact hs J (by simp)) h4, h5⟩ }
theorem Cont.jq {E : El α} {T2 T J : Nat} {q q' : List (List α)} (h : q = q') : (Cont.mx E T2 T J q).Sub (Cont.mx E T2 T J q') := h ▸ Cont.aF _
def MO (size t n i : Nat) (w : World) (M : bC) (v : Value) : Prop :=
  ∀ (g e0 : Nat), fm size v = some (g, e0) → ∃ (b : Nat) (cs : Array Value) (T2 : Nat), M b = some t ∧ w.heap[b]? = some (.cells cs T2 (0, 0)) ∧ ∀ (j : Nat) (u : Value) (e1 : Nat), (cs.toList.take n)[j]? = some u → fm size u = some (g, e1) → j = i ∧ (roomy v = true → e1 ≤ e0)
def Ny (E : El α) (T t J n i : Nat) (xs : List α) (w : World) (M : bC) (v : Value) : Prop := we E T J xs w M v ∧ MO E.size t n i w M v
def Ty.mv (E : El α) (T t J n i : Nat) (xs : List α) : Ty :=
  ⟨Ny E T t J n i xs, [t, J], [t, J], fun le hk hs ⟨h, h'⟩ => ⟨(Ty.eY E T J xs).mono le (fun u hu => hk u (by simp [Ty.eY] at hu ⊢; exact .inr hu)) (fun u hu => hs u (by simp [Ty.eY] at hu ⊢; exact .inr hu)) h, fun g e0 he =>
    let ⟨b, cs, T2, h1, h2, h3⟩ := h' g e0 he
    let ⟨a, c⟩ := le.own b t h1 (hk t (by simp))
    ⟨b, cs, T2, a, (c (hs t (by simp))).trans h2, h3⟩⟩, true, fun ho h => (Ty.eY E T J xs).isOne ho h.1⟩
def Nt (E : El α) (T t J i : Nat) (xs : List α) (w : World) (M : bC) (v : Value) : Prop := we E T J xs w M v ∧ ∃ (b : Nat) (cs : Array Value) (T2 : Nat), M b = some t ∧ w.heap[b]? = some (.cells cs T2 (0, 0)) ∧ cs.toList[i]? = some v
def Ty.ml (E : El α) (T t J i : Nat) (xs : List α) : Ty :=
  ⟨Nt E T t J i xs, [t, J], [t, J], fun le hk hs ⟨h, b, cs, T2, h1, h2, h3⟩ => ⟨(Ty.eY E T J xs).mono le (fun u hu => hk u (by simp [Ty.eY] at hu ⊢; exact .inr hu)) (fun u hu => hs u (by simp [Ty.eY] at hu ⊢; exact .inr hu)) h,
    let ⟨a, c⟩ := le.own b t h1 (hk t (by simp))
    ⟨b, cs, T2, a, (c (hs t (by simp))).trans h2, h3⟩⟩, true, fun ho h => (Ty.eY E T J xs).isOne ho h.1⟩
def N0 (E : El α) (T t J i : Nat) (xs : List α) (k : Nat) (w : World) (M : bC) (v : Value) : Prop := ∃ (u : Value) (g off n c : Nat), Nt E T t J i xs w M u ∧ u = .slice (some ⟨g, off, none⟩) n c ∧ v = .pointer (some ⟨g, off + k, none⟩)
def Ty.me (E : El α) (T t J i : Nat) (xs : List α) (k : Nat) : Ty :=
  ⟨N0 E T t J i xs k, [t, J], [t, J], fun le hk hs ⟨u, g, off, n, c, h, e⟩ => ⟨u, g, off, n, c, (Ty.ml E T t J i xs).mono le hk hs h, e⟩, true, fun _ ⟨_, _, _, _, _, _, _, e⟩ => by rw [e]; rfl⟩
end
section
variable {P : Program} {fr : Fr} {ops : Array Oper} {A : As} {rest : List Oper} {K : As → List (As × Fx) → Prop} {d : Nat} {t ty' : TypeId} {p : String} {e : Array Edge} [T : kU P]
variable {α : Type} {E : El α} {Tb J tg i : Nat} {q : List (List α)} {xs ys : List α}
omit T in
theorem BN {w : World} {M : bC} {vs : List Value} (hd : cK w M (q.map fun x => Ty.eY E Tb J x) vs) {j : Nat} {u : Value} {g e1 : Nat} (hj : vs[j]? = some u) (hu : fm E.size u = some (g, e1)) : M g = some J := by
 have hlen := cG hd
 have hlt := (List.getElem?_eq_some_iff.1 hj).1
 obtain ⟨x, hx, hdx⟩ := dQ hd j (Ty.eY E Tb J (q[j]'(by simpa [hlen] using hlt))) (by rw [List.getElem?_map, List.getElem?_eq_getElem (by simpa [hlen] using hlt)]; rfl)
 rw [hj] at hx
 injection hx with hx
 subst hx
 rcases hdx with ⟨_, e⟩ | ⟨g', off, c, cur, e, hg, _⟩
 ·rw [e] at hu; simp [fm] at hu
 rw [e] at hu
 simp only [fm, Option.some.injEq, Prod.mk.injEq] at hu
 rw [← hu.1]; exact hg
omit T in
theorem IV {x : Operand} {off T2 : Nat} (hx : A.op fr x = .ptr tg off) (hc : A.tag tg = some (.mx E T2 Tb J q)) (h1 : fS tg) {a : Act} {w : World} {M : bC} {rs : List Nat} (wf : Wf w M) (hr : ∀ c ∈ cD x, c ∈ rs) (hrd : ∀ c ∈ rs, c < fr.n → (A.slots c).den w M (a.tmps.getD c undef)) (htg : ∀ y ∈ A.tags, y.1 ∈ [tg] → y.2.den w M y.1) :
 ∃ b cs, a.eval x = .pointer (some ⟨b, off, none⟩) ∧ M b = some tg ∧ w.heap[b]? = some (.cells cs T2 (0, 0)) ∧ cK w M (q.map fun x => Ty.eY E Tb J x) (cs.toList.take q.length) ∧ wj E.size (cs.toList.take q.length) := by
 have hxd := cS hr hrd
 rw [hx] at hxd
 obtain ⟨b, e2, e1⟩ := hxd
 obtain ⟨b', cs, h2, h3⟩ := htg _ (cj hc) (by simp)
 obtain ⟨u, rfl⟩ : ∃ u, tg = u + 1 := ⟨tg - 1, by have := h1.1; omega⟩
 have : b = b' := wf.inj b b' u (by have := h1.2; omega) e2 h2
 subst this
 exact ⟨b, cs, e1, e2, h3⟩
omit T in
theorem Ij {T2 : Nat} {w : World} {M : bC} {v : Value} (wf : Wf w M) (h1 : fS tg) (hi : i < q.length) (hc : NY E T2 Tb J q w M tg) (hv : ∃ (b : Nat) (cs : Array Value) (T2 : Nat), M b = some tg ∧ w.heap[b]? = some (.cells cs T2 (0, 0)) ∧ cs.toList[i]? = some v) : MO E.size tg q.length i w M v := fun g e0 he => by
 obtain ⟨b, cs, g1, g2, g3, g4⟩ := hc
 obtain ⟨b', cs', T', k1, k2, k3⟩ := hv
 obtain ⟨u, rfl⟩ : ∃ u, tg = u + 1 := ⟨tg - 1, by have := h1.1; omega⟩
 have : b = b' := wf.inj b b' u (by have := h1.2; omega) g1 k1
 subst this
 rw [g2] at k2
 injection k2 with k2
 injection k2 with k2 _
 subst k2
 have hv' : (cs.toList.take q.length)[i]? = some v := by rw [List.getElem?_take, if_pos hi]; exact k3
 refine ⟨b, cs, T2, g1, g2, fun j u e1 hj hju => ?_⟩
 have hij := g4 j i u v g e1 e0 hj hv' hju he
 subst hij
 rw [hv'] at hj
 injection hj with hj
 subst hj
 rw [he] at hju
 injection hju with hju
 injection hju with _ hju
 exact ⟨rfl, fun _ => by omega⟩
theorem qG [Inhabited α] {x : Operand} {off T2 : Nat} {ti : TI} (i : Nat) (hx : A.op fr x = .ptr tg off) (he : off = i) (hc : A.tag tg = some (.mx E T2 Tb J q)) (h1 : fS tg) (hT : T.eZ[ty']? = some ti) (ha : ti.k.agg = false) (hi : i < q.length)
 (h : aj P fr ops rest (A.set d (.ml E Tb tg J i (nth q i))) fun A' l => K A' ((A, { d := some d, ty := .ml E Tb tg J i (nth q i), rs := cD x, rt := [tg] }) :: l)) : aj P fr ops (⟨some d, .load ty' x, t, p, e, none⟩ :: rest) A K :=
 bL (bV rfl rfl fun a w M wf hr ht => by
  subst he
  obtain ⟨b, cs, e1, e2, h3, h4, h5⟩ := IV hx hc h1 wf (fun _ h => h) hr ht
  obtain ⟨v, hv, hdv⟩ := dQ h4 off (Ty.eY E Tb J (nth q off)) (by rw [List.getElem?_map, List.getElem?_eq_getElem hi, iA hi]; rfl)
  rw [List.getElem?_take, if_pos hi] at hv
  have hcell : w.cell? ⟨b, off, none⟩ = some v := by simpa [World.cell?, h3] using hv
  exact ⟨v, by simp [execOp, e1, jU hT ha hcell], hdv, b, cs, T2, e2, h3, hv⟩) h
theorem mB [Inhabited α] {x y : Operand} {kd : IntKind} {j : Nat} {ti te : TI} {el : Nat} (hx : A.op fr x = .ml E Tb tg J i xs) (hy : A.op fr y = .int kd j) (hT : T.eZ[ty']? = some ti) (hk : ti.k = .slice el) (hE : T.eZ[el]? = some te) (hj : j < xs.length)
 (h : aj P fr ops rest (A.set d (.me E Tb tg J i xs (j * te.size))) fun A' l' => K A' ((A, { d := some d, ty := .me E Tb tg J i xs (j * te.size), rs := cD x ++ cD y }) :: l')) : aj P fr ops (⟨some d, .indexAddr ty' x y, t, p, e, none⟩ :: rest) A K :=
 bL (bV rfl rfl fun a w M _ hr _ => by
  obtain ⟨hdx, hdy⟩ := op2 hr
  rw [hx] at hdx; rw [hy] at hdy
  have ey : a.eval y = .int kd j := hdy
  obtain ⟨h1, h2⟩ := hdx
  have h1' := h1
  rcases h1 with ⟨h0, _⟩ | ⟨g, off, c, cur, ex, hg, hh, hn, _, _, hd⟩
  ·subst h0; simp at hj
  exact ⟨_, by simp only [execOp, ex, ey, Sem.run_bind, g7 hT hk hE (Int.natCast_nonneg j) (show (j : Int).toNat < xs.length from hj)]; rfl, _, g, off, xs.length, c, ⟨h1', h2⟩, ex, by simp⟩) h
theorem sj [Inhabited α] {x : Operand} {k j o : Nat} {ti : TI} {ty : Ty} (hx : A.op fr x = .me E Tb tg J i xs k) (hk : k = j * E.size + o) (hT : T.eZ[ty']? = some ti) (ha : ti.k.agg = false) (hj : j < xs.length) (hl : (E.tys (nth xs j))[o]? = some ty)
 (h : aj P fr ops rest (A.set d ty) fun A' l => K A' ((A, { d := some d, ty := ty, rs := cD x }) :: l)) : aj P fr ops (⟨some d, .load ty' x, t, p, e, none⟩ :: rest) A K :=
 bL (bV rfl rfl fun a w M wf hr ht => by
  have hdx := cS (x := x) (fun _ h => h) hr
  rw [hx] at hdx
  obtain ⟨u, g, off, n, c, ⟨h1, _⟩, eu, ex⟩ := hdx
  rcases h1 with ⟨h0, _⟩ | ⟨g', off', c', cur, ex', hg, hh, hn, _, _, hd⟩
  ·subst h0; simp at hj
  rw [eu] at ex'
  simp only [Value.slice.injEq, Option.some.injEq, Addr.mk.injEq, and_true] at ex'
  obtain ⟨⟨rfl, rfl⟩, rfl, rfl⟩ := ex'
  obtain ⟨v, hv, hdv⟩ := zD hh hd hj hl
  rw [Nat.add_assoc, ← hk] at hv
  exact ⟨v, by simp [execOp, ex, jU hT ha hv], hdv⟩) h
theorem Ay {x y : Operand} {st el T2 : Nat} {ti te : TI} (hi0 : i < q.length) (hx : A.op fr x = .ml E el tg J i xs) (hy : A.op fr y = .sl E ys) (hc : A.tag tg = some (.mx E T2 el J q)) (h1 : fS tg) (hJ : 4096 ≤ J) (hp : fr.pass.contains J = false) (hpos : 0 < ys.length) (hT : T.eZ[st]? = some ti) (hk : ti.k = .slice el) (hE : T.eZ[el]? = some te) (hs : te.size = E.size) (hz : te.zero.length = te.size) (h0 : 0 < te.size)
    (hlen : (xs.length + ys.length) * te.bytes ≤ 140737488355328) (hlen' : xs.length + ys.length ≤ 9223372036854775807)
    (h : aj P fr ops rest (A.after { d := some d, ty := .mv E el tg J q.length i (xs ++ ys), S := [tg, J], sets := [(tg, .mx E T2 el J q)], rs := cD x ++ cD y, rt := [tg] }) fun A' l' => K A' ((A, { d := some d, ty := .mv E el tg J q.length i (xs ++ ys), S := [tg, J], sets := [(tg, .mx E T2 el J q)], rs := cD x ++ cD y, rt := [tg] }) :: l')) :
    aj P fr ops (⟨some d, .call ⟨.builtin .append, #[x, y], #[st, st]⟩, t, p, e, none⟩ :: rest) A K := by
  refine ⟨_, gp rfl rfl (by simp) (by simp; exact ⟨h1.1, by omega⟩) (by simp) fun a w M wf hr htg => ?_, h⟩
  obtain ⟨hdx, hdy⟩ := op2 hr
  rw [hx] at hdx; rw [hy] at hdy
  obtain ⟨hrow, hlk⟩ := hdx
  have hown : MO E.size tg q.length i w M (a.eval x) := Ij wf h1 hi0 (htg _ (cj hc) (by simp)) hlk
  obtain ⟨b, cs0, hb, hhb, hvals, hap⟩ := htg _ (cj hc) (by simp)
  have ownb : ∀ (g e0 : Nat), fm E.size (a.eval x) = some (g, e0) → ∀ (j : Nat) (u : Value) (e1 : Nat), (cs0.toList.take q.length)[j]? = some u → fm E.size u = some (g, e1) → j = i ∧ (roomy (a.eval x) = true → e1 ≤ e0) := fun g e0 he => by
    obtain ⟨b', es', T', g1, g2, g3⟩ := hown g e0 he
    obtain ⟨u', hu'⟩ : ∃ u, tg = u + 1 := ⟨tg - 1, by omega⟩
    have : b = b' := by
      have hb' : M b = some (u' + 1) := hu' ▸ hb
      have g1' : M b' = some (u' + 1) := hu' ▸ g1
      exact wf.inj b b' u' (by omega) hb' g1'
    subst this
    rw [hhb] at g2
    injection g2 with g2
    injection g2 with g2 _
    subst g2
    exact g3
  obtain ⟨_, D, _, hD, hkd, _⟩ := dW hT
  rw [hk] at hkd
  cases D <;> simp only [TK.of, reduceCtorEq, TK.slice.injEq] at hkd
  subst hkd
  rename_i el
  obtain ⟨ii, _, hi, _, _, hsz, hby, hze⟩ := dW hE
  obtain ⟨zz, hiz, hzc⟩ : ∃ z, ii.zero = some z ∧ z.cells.size = ii.size := by
    cases hiz : ii.zero with
    | none => rw [hiz] at hze; rw [← hze] at hz; simp at hz; omega
    | some z => rw [hiz] at hze; exact ⟨z, rfl, by simp at hze; rw [hsz, ← hz, ← hze]; simp⟩
  obtain ⟨ad, c', ey, hc1, hc2, hpp⟩ := hdy
  obtain ⟨b', off', rfl, hp'⟩ := hpp hpos
  obtain ⟨news, hn1, hn2, hn3⟩ := nD hp' _ (Nat.le_refl _)
  rw [List.take_length] at hn2
  have hnl : news.length = ys.length * ii.size := by rw [hn1, dI, hsz, hs]
  have hnews : ∀ j u, news[j]? = some u → w.cell? ((⟨b', off', none⟩ : Addr).add j) = some u := fun j u hj => by rw [Addr.add_lit]; exact hn3 j u hj
  have hones := lJ hn2 (lO E ys)
  have hesz : E.size = ii.size := by rw [hsz, hs]
  -- behind a growth
  have grown : ∀ (olds : List Value) (cap : Nat), cK w M (xs.flatMap E.tys) olds → cap < xs.length + ys.length →
      (Builtin.append_ #[st, st] t #[a.eval x, a.eval y]).run P w = .ok (.slice (some ⟨w.heap.size, 0, none⟩) (xs.length + ys.length) (grownCap w (xs.length + ys.length) cap el)) (w.drew.alloc (.cells (olds.toArray ++ news.toArray ++ Builtin.zeroCells zz.cells (grownCap w (xs.length + ys.length) cap el - (xs.length + ys.length))) el)) →
      ∃ v w', (execOp a.eval ⟨some d, .call ⟨.builtin .append, #[x, y], #[st, st]⟩, t, p, e, none⟩).run P w = .ok (.value v) w' ∧ Fx.left { d := some d, ty := .mv E el tg J q.length i (xs ++ ys), S := [tg, J], sets := [(tg, .mx E T2 el J q)], rs := cD x ++ cD y, rt := [tg] } w M w' v := by
    intro olds cap hdo hcap hrun
    have holen : olds.length = xs.length * ii.size := by rw [cG hdo, dI, hesz]
    have hge := grownCap_ge w (xs.length + ys.length) cap el
    have hcm : grownCap w (xs.length + ys.length) cap el ≤ maxLen := grownCap_le_maxLen w (xs.length + ys.length) cap el (by simp only [maxLen]; omega)
    have hsize : (w.drew.alloc (.cells (olds.toArray ++ news.toArray ++ Builtin.zeroCells zz.cells (grownCap w (xs.length + ys.length) cap el - (xs.length + ys.length))) el)).heap.size = w.heap.size + 1 := by simp
    have hold : ∀ b2, b2 < w.heap.size → (w.drew.alloc (.cells (olds.toArray ++ news.toArray ++ Builtin.zeroCells zz.cells (grownCap w (xs.length + ys.length) cap el - (xs.length + ys.length))) el)).heap[b2]? = w.heap[b2]? := fun b2 h => Below.heap_alloc w.drew _ b2 h
    have hnew : (w.drew.alloc (.cells (olds.toArray ++ news.toArray ++ Builtin.zeroCells zz.cells (grownCap w (xs.length + ys.length) cap el - (xs.length + ys.length))) el)).heap[w.heap.size]? = some (.cells (olds.toArray ++ news.toArray ++ Builtin.zeroCells zz.cells (grownCap w (xs.length + ys.length) cap el - (xs.length + ys.length))) el (0, 0)) := g8 w.drew _
    have hos : (w.drew.alloc (.cells (olds.toArray ++ news.toArray ++ Builtin.zeroCells zz.cells (grownCap w (xs.length + ys.length) cap el - (xs.length + ys.length))) el)).os = w.os ∧ (w.drew.alloc (.cells (olds.toArray ++ news.toArray ++ Builtin.zeroCells zz.cells (grownCap w (xs.length + ys.length) cap el - (xs.length + ys.length))) el)).tape = w.tape ∧ (w.drew.alloc (.cells (olds.toArray ++ news.toArray ++ Builtin.zeroCells zz.cells (grownCap w (xs.length + ys.length) cap el - (xs.length + ys.length))) el)).output = w.output := ⟨rfl, rfl, rfl⟩
    have hcs : (olds.toArray ++ news.toArray ++ Builtin.zeroCells zz.cells (grownCap w (xs.length + ys.length) cap el - (xs.length + ys.length))).size = grownCap w (xs.length + ys.length) cap el * ii.size := by
      simp only [Array.size_append, List.size_toArray, size_zeroCells, hzc, holen, hnl, ← Nat.add_mul]
      congr 1
      omega
    have htk : ((olds.toArray ++ news.toArray ++ Builtin.zeroCells zz.cells (grownCap w (xs.length + ys.length) cap el - (xs.length + ys.length))).toList.drop 0).take ((xs ++ ys).length * E.size) = olds ++ news := by
      rw [List.drop_zero]
      simp only [Array.toList_append]
      rw [List.take_left' (by rw [List.length_append, holen, hnl, List.length_append, hesz, Nat.add_mul])]
    generalize hw' : (w.drew.alloc (.cells (olds.toArray ++ news.toArray ++ Builtin.zeroCells zz.cells (grownCap w (xs.length + ys.length) cap el - (xs.length + ys.length))) el)) = w' at *
    generalize hcu : (olds.toArray ++ news.toArray ++ Builtin.zeroCells zz.cells (grownCap w (xs.length + ys.length) cap el - (xs.length + ys.length))) = cu at *
    have le : Le (· ∈ [tg, J]) (· ∈ ([] : List Nat)) w M w' (fun b2 => if b2 = w.heap.size then some J else M b2) :=
      ⟨by omega, hos.1, hos.2.1, hos.2.2, fun b2 hb2 hm => ⟨by rw [if_neg (by omega)]; exact hm, hold b2 hb2⟩, fun b2 u hm _ => by
        have := wf.lt b2 u hm
        exact ⟨by rw [if_neg (by omega)]; exact hm, fun _ => hold b2 this⟩⟩
    have le0 : Le (· ∈ ([] : List Nat)) (· ∈ ([] : List Nat)) w M w' (fun b2 => if b2 = w.heap.size then some J else M b2) :=
      ⟨by omega, hos.1, hos.2.1, hos.2.2, fun b2 hb2 hm => ⟨by rw [if_neg (by omega)]; exact hm, hold b2 hb2⟩, fun b2 u hm _ => by
        have := wf.lt b2 u hm
        exact ⟨by rw [if_neg (by omega)]; exact hm, fun _ => hold b2 this⟩⟩
    have wf' : Wf w' (fun b2 => if b2 = w.heap.size then some J else M b2) := by
      refine ⟨fun b2 u hm => ?_, fun b2 b3 u ht1 hm hm' => ?_⟩
      · split at hm
        · omega
        · have := wf.lt b2 u hm; omega
      · split at hm
        · injection hm with hm; omega
        · split at hm'
          · injection hm' with hm'; omega
          · exact wf.inj b2 b3 u ht1 hm hm'
    have hblt := wf.lt b tg hb
    refine ⟨.slice (some ⟨w.heap.size, 0, none⟩) (xs.length + ys.length) (grownCap w (xs.length + ys.length) cap el), w', by simp [execOp, resolve, invoke, builtin, hrun], _, wf', le, ⟨.inr ⟨w.heap.size, 0, grownCap w (xs.length + ys.length) cap el, cu, by rw [List.length_append], by simp, hnew, by rw [List.length_append]; exact hge, hcm, by rw [hcs, hesz]; omega, ?_⟩, fun g e0 he => ?_⟩, fun y hy => ?_⟩
    · rw [htk, List.flatMap_append]
      exact jB (bX le0 (by rw [E.cX]; intro _ h; cases h) (by rw [E.cJ]; intro _ h; cases h) hdo) (bX le0 (by rw [E.cX]; intro _ h; cases h) (by rw [E.cJ]; intro _ h; cases h) hn2)
    · simp only [fm, Option.some.injEq, Prod.mk.injEq] at he
      obtain ⟨rfl, _⟩ := he
      refine ⟨b, cs0, T2, (if_neg (by omega)).trans hb, (hold b hblt).trans hhb, fun j u e1 hj hju => ?_⟩
      have := wf.lt _ _ (BN hvals hj hju)
      omega
    · rw [List.mem_singleton.1 hy]
      refine ⟨b, cs0, (if_neg (by omega)).trans hb, (hold b hblt).trans hhb, ?_, hap⟩
      exact bX le0 (fun _ _ h => by cases h) (fun _ _ h => by cases h) hvals
  rcases hrow with ⟨hxe, ex⟩ | ⟨g, off, cap, cur, ex, hg, hh, hxc, hcm, hfit, hdx⟩
  · have hrn := run_append_nil (P := P) w st t el ii zz hD hi hiz ⟨b', off', none⟩ ys.length c' news hnl hnews hpos (by omega) (by rw [hby]; have := hlen; rw [Nat.add_mul] at this; omega)
    subst hxe
    refine grown [] 0 trivial (by simpa using hpos) ?_
    rw [ex, ey]
    simpa using hrn
  · by_cases hroom : xs.length + ys.length ≤ cap
    · -- in place
      have hm : (xs.length + ys.length) * E.size ≤ cap * E.size := Nat.mul_le_mul_right _ hroom
      rw [Nat.add_mul] at hm
      have hcf : off + xs.length * ii.size + news.length ≤ cur.size := by rw [hnl, ← hesz]; omega
      have hf := run_firstCells_some (P := P) w ii.size ys.length ⟨b', off', none⟩ ys.length c' news hnl hnews
      have hst := run_storeCells_at (P := P) g (off + xs.length * ii.size) el news 0 cur w hh (by simpa using hcf) hones
      rw [l8 _ hh] at hst
      simp only [Nat.add_zero] at hst
      obtain ⟨h1', h2', h3'⟩ := gw (cs' := (cur.toList.take (off + xs.length * ii.size) ++ news ++ cur.toList.drop (off + xs.length * ii.size + news.length)).toArray) (Tb := el) wf hg _ rfl
      have hrun : (Builtin.append_ #[st, st] t #[a.eval x, a.eval y]).run P w = .ok (.slice (some ⟨g, off, none⟩) (xs.length + ys.length) cap) { w with heap := w.heap.setIfInBounds g (.cells (cur.toList.take (off + xs.length * ii.size) ++ news ++ cur.toList.drop (off + xs.length * ii.size + news.length)).toArray el (0, 0)) } := by
        rw [ex, ey]
        simp [Builtin.append_, run_underlying hD, sizeOf, typeInfo, hi, Builtin.lenOf, hroom, hf, Addr.add_lit, hst]
      have le : Le (· ∈ [tg, J]) (· ∈ ([] : List Nat)) w M { w with heap := w.heap.setIfInBounds g (.cells (cur.toList.take (off + xs.length * ii.size) ++ news ++ cur.toList.drop (off + xs.length * ii.size + news.length)).toArray el (0, 0)) } M :=
        h2'.weaken (fun u hu => by simp only [List.mem_singleton] at hu; subst hu; simp) (fun _ h => by cases h)
      have hgb : g ≠ b := fun e => by
        rw [e, hb] at hg; injection hg with hg
        have := h1.2; omega
      have hroomy : roomy (a.eval x) = true := by rw [ex]; simp [roomy]; omega
      have hb' : ({ w with heap := w.heap.setIfInBounds g (.cells (cur.toList.take (off + xs.length * ii.size) ++ news ++ cur.toList.drop (off + xs.length * ii.size + news.length)).toArray el (0, 0)) } : World).heap[b]? = some (.cells cs0 T2 (0, 0)) := by
        show (w.heap.setIfInBounds g _)[b]? = _
        rw [Array.getElem?_setIfInBounds_ne hgb]; exact hhb
      refine ⟨.slice (some ⟨g, off, none⟩) (xs.length + ys.length) cap, _, by simp [execOp, resolve, invoke, builtin, hrun], M, h1', le, ⟨.inr ⟨g, off, cap, _, by rw [List.length_append], hg, h3', by rw [List.length_append]; exact hroom, hcm, ?_, ?_⟩, fun g' e0 he => ?_⟩, fun y hy => ?_⟩
      · simp only [List.size_toArray, List.length_append, List.length_take, List.length_drop, Array.length_toList]
        omega
      · rw [List.length_append, Nat.add_mul, hesz, ← hnl, List.toList_toArray, w5 _ _ _ _ (by simpa using hcf), List.flatMap_append]
        refine bX h2' (by rw [← List.flatMap_append, E.cX]; intro _ h; cases h) (by rw [← List.flatMap_append, E.cJ]; intro _ h; cases h) (jB ?_ hn2)
        rw [← hesz]; exact hdx
      · simp only [fm, Option.some.injEq, Prod.mk.injEq] at he
        obtain ⟨rfl, rfl⟩ := he
        refine ⟨b, cs0, T2, hb, hb', fun j u e1 hj hju => ?_⟩
        have := ownb g (off + xs.length * E.size) (by rw [ex]; rfl) j u e1 hj hju
        refine ⟨this.1, fun _ => ?_⟩
        have := this.2 hroomy
        rw [Nat.add_mul]; omega
      · rw [List.mem_singleton.1 hy]
        refine ⟨b, cs0, hb, hb', ?_, hap⟩
        refine gD (by rw [cG hvals]) fun j ty hj => ?_
        obtain ⟨u, hu, hdu⟩ := dQ hvals j ty hj
        refine ⟨u, hu, ?_⟩
        rw [List.getElem?_map] at hj
        obtain ⟨qe, _, rfl⟩ := Option.map_eq_some_iff.1 hj
        rcases hdu with h | ⟨g2, off2, c2, cur2, e2, hg2, hh2, k1, k2, k3, k4⟩
        · exact .inl h
        · by_cases hgg : g = g2
          · subst hgg
            rw [hh] at hh2
            injection hh2 with hh2
            injection hh2 with ha _
            subst ha
            have hend := (ownb g (off + xs.length * E.size) (by rw [ex]; rfl) j u _ hu (by rw [e2]; rfl)).2 hroomy
            refine .inr ⟨g, off2, c2, _, e2, hg, h3', k1, k2, ?_, ?_⟩
            · simp only [List.size_toArray, List.length_append, List.length_take, List.length_drop, Array.length_toList]
              omega
            · rw [List.toList_toArray, CM _ _ _ _ 0 _ (by rw [← hesz]; exact hend) (by simpa using hcf)]
              exact bX h2' (by rw [E.cX]; intro _ h; cases h) (by rw [E.cJ]; intro _ h; cases h) k4
          · refine .inr ⟨g2, off2, c2, cur2, e2, hg2, ?_, k1, k2, k3, bX h2' (by rw [E.cX]; intro _ h; cases h) (by rw [E.cJ]; intro _ h; cases h) k4⟩
            show (w.heap.setIfInBounds g _)[g2]? = _
            rw [Array.getElem?_setIfInBounds_ne hgg]; exact hh2
    · have holds : ∀ j u, ((cur.toList.drop off).take (xs.length * E.size))[j]? = some u → w.cell? ((⟨g, off, none⟩ : Addr).add j) = some u := fun j u hj => by
        rw [List.getElem?_take] at hj
        split at hj
        · rw [List.getElem?_drop] at hj
          rw [Addr.add_lit]
          simpa [World.cell?, hh] using hj
        · cases hj
      have hol : ((cur.toList.drop off).take (xs.length * E.size)).length = xs.length * ii.size := by rw [cG hdx, dI, hesz]
      have hrn := run_append_grow (P := P) w st t el ii zz hD hi hiz ⟨g, off, none⟩ xs.length cap _ hol holds ⟨b', off', none⟩ ys.length c' news hnl hnews (by omega) (by omega) (growslice_fits (by omega) (by rw [hby]; exact hlen))
      refine grown _ cap hdx (by omega) ?_
      rw [ex, ey]
      exact hrn
omit T in
theorem z4 {cs : Array Value} {off n : Nat} {v : Value} : ((cs.setIfInBounds off v).toList.take n) = (cs.toList.take n).set off v := by
 rw [Array.toList_setIfInBounds, List.take_set]
omit T in
theorem ya {size n : Nat} {vs : List Value} {v : Value} (h : wj size vs) (ho : ∀ (g e0 : Nat), fm size v = some (g, e0) → ∀ (j : Nat) (u : Value) (e1 : Nat), vs[j]? = some u → fm size u = some (g, e1) → j = n) : wj size (vs.set n v) := by
 intro i1 j1 u1 u2 g e' e'' hi1 hj1 hv hu
 rw [List.getElem?_set] at hi1 hj1
 by_cases c1 : n = i1 <;> by_cases c2 : n = j1
 ·omega
 ·rw [if_pos c1] at hi1; rw [if_neg c2] at hj1
  split at hi1
  ·injection hi1 with hi1
   subst hi1
   have := ho g e' hv j1 u2 e'' hj1 hu
   omega
  cases hi1
 ·rw [if_neg c1] at hi1; rw [if_pos c2] at hj1
  split at hj1
  ·injection hj1 with hj1
   subst hj1
   have := ho g e'' hu i1 u1 e' hi1 hv
   omega
  cases hj1
 rw [if_neg c1] at hi1; rw [if_neg c2] at hj1
 exact h i1 j1 u1 u2 g e' e'' hi1 hj1 hv hu
theorem C3 {x y : Operand} {off T2 : Nat} {ti : TI} (hx : A.op fr x = .ptr tg off) (he : off = i) (hc : A.tag tg = some (.mx E T2 Tb J q)) (h1 : fS tg) (hT : T.eZ[ty']? = some ti) (hsz : ti.size = 1) (hy : A.op fr y = .mv E Tb tg J q.length i xs) (hi : i < q.length) (hJ : 4096 ≤ J)
 (h : aj P fr ops rest (A.after { d := none, S := [tg], sets := [(tg, .mx E T2 Tb J (q.set i xs))], rs := cD x ++ cD y, rt := [tg] }) fun A' l'' => K A' ((A, { d := none, S := [tg], sets := [(tg, .mx E T2 Tb J (q.set i xs))], rs := cD x ++ cD y, rt := [tg] }) :: l'')) :
 aj P fr ops (⟨none, .store ty' x y, t, p, e, none⟩ :: rest) A K := by
 refine ⟨_, jE rfl rfl rfl (by simp) (by simpa using h1.1) (by simp) fun a w M wf hr ht => ?_, h⟩
 subst he
 obtain ⟨b, cs, ex, e2, h3, h4, h5⟩ := IV hx hc h1 wf (fun _ h => List.mem_append_left _ h) hr ht
 have hdy := cS (fun c hc => List.mem_append_right (cD x) hc) hr
 rw [hy] at hdy
 obtain ⟨hrow, hown⟩ := hdy
 have hone : (a.eval y).oneCell' = true := (Ty.eY E Tb J xs).isOne rfl hrow
 have hcells : (a.eval y).cells = #[a.eval y] := by
  cases hv : a.eval y <;> first | rfl | (rw [hv] at hone; simp [Value.oneCell'] at hone)
 have hlen := cG h4
 have hoff : off < cs.size := by
  rw [List.length_take, List.length_map] at hlen
  have : cs.toList.length = cs.size := Array.length_toList
  omega
 have hcell : w.cell? ⟨b, off, none⟩ = some cs[off] := by simp [World.cell?, h3]
 have hfz : w.frozen? ⟨b, off, none⟩ = false := by simp [World.frozen?, h3]
 obtain ⟨h1', h2', h3'⟩ := gw wf e2 _ (gI h3 (off := off) (a.eval y))
 refine ⟨w.setCell ⟨b, off, none⟩ (a.eval y), ?_, M, h1', h2', trivial, ?_⟩
 ·have hst := run_store P w ⟨b, off, none⟩ (a.eval y) .plain hone
  rw [hcell] at hst
  simp only [hfz] at hst
  simp [execOp, Instr.storeAt, Instr.sureAddr, ex, storeVar, hcells, dS hT, hsz, storeCells, hst, Addr.add]
 intro z' hz'
 simp only [List.mem_singleton] at hz'
 subst hz'
 refine ⟨b, _, e2, h3', ?_, ?_⟩
 ·rw [List.length_set, z4, List.map_set]
  have h2 := h1.2
  exact lY (bX h2' (by intro _ _ h; cases h) (fun u hu => by rw [lz.2 u hu]; simp; omega) h4) ((Ty.eY E Tb J xs).mono h2' (by intro _ _ h; cases h) (fun u hu => by simp [Ty.eY] at hu; subst hu; simp; omega) hrow)
 rw [List.length_set, z4]
 refine ya h5 fun g e0 he j u e1 hj hju => ?_
 obtain ⟨b', cs', T', k1, k2, k3⟩ := hown g e0 he
 obtain ⟨uu, hu'⟩ : ∃ u, tg = u + 1 := ⟨tg - 1, by have := h1.1; omega⟩
 have : b = b' := wf.inj b b' uu (by have := h1.2; omega) (hu' ▸ e2) (hu' ▸ k1)
 subst this
 rw [h3] at k2
 injection k2 with k2
 injection k2 with k2 _
 subst k2
 exact (k3 j u e1 hj hju).1
theorem wX [Inhabited α] {x y : Operand} {k j o T2 : Nat} {ti : TI} {ty : Ty} {z : α} (hx : A.op fr x = .me E Tb tg J i xs k) (hk : k = j * E.size + o) (hc : A.tag tg = some (.mx E T2 Tb J q)) (h1 : fS tg) (hT : T.eZ[ty']? = some ti) (hsz : ti.size = 1) (hy : A.op fr y = ty) (ho : ty.one = true) (hi : i < q.length) (hj : j < xs.length) (hoe : o < E.size) (hd1 : ty.deps = []) (hd2 : ty.cdeps = []) (hl : (E.tys (nth xs j)).set o ty = E.tys z) (hJ : 4096 ≤ J)
 (h : aj P fr ops rest (A.after { d := none, S := [tg, J], sets := [(tg, .mx E T2 Tb J (q.set i (xs.set j z)))], rs := cD x ++ cD y, rt := [tg] }) fun A' l'' => K A' ((A, { d := none, S := [tg, J], sets := [(tg, .mx E T2 Tb J (q.set i (xs.set j z)))], rs := cD x ++ cD y, rt := [tg] }) :: l'')) :
 aj P fr ops (⟨none, .store ty' x y, t, p, e, none⟩ :: rest) A K := by
 refine ⟨_, jE rfl rfl rfl (by simp) (by simp; exact ⟨h1.1, by omega⟩) (by simp) fun a w M wf hr ht => ?_, h⟩
 subst hk
 obtain ⟨hdx, hdy⟩ := op2 hr
 rw [hx] at hdx; rw [hy] at hdy
 obtain ⟨u, g, off, n, c, ⟨hrow, hlk⟩, eu, ex⟩ := hdx
 have hcont : NY E T2 Tb J q w M tg := ht _ (cj hc) (by simp)
 have hown := Ij wf h1 hi hcont hlk
 obtain ⟨b, cs, hb, hhb, hvals, hap⟩ := hcont
 rcases hrow with ⟨h0, _⟩ | ⟨g', off', c', cur, ex', hg, hh, hn, hcm, hfit, hd⟩
 ·subst h0; simp at hj
 have eu2 := eu
 rw [ex'] at eu2
 simp only [Value.slice.injEq, Option.some.injEq, Addr.mk.injEq, and_true] at eu2
 obtain ⟨⟨rfl, rfl⟩, rfl, rfl⟩ := eu2
 have hone := ty.isOne ho hdy
 have hcells : (a.eval y).cells = #[a.eval y] := by
  cases hv : a.eval y <;> first | rfl | (rw [hv] at hone; simp [Value.oneCell'] at hone)
 have hkx : j * E.size + o < xs.length * E.size := by
  have : (j + 1) * E.size ≤ xs.length * E.size := Nat.mul_le_mul_right _ hj
  rw [Nat.succ_mul] at this; omega
 have hcx : xs.length * E.size ≤ c' * E.size := Nat.mul_le_mul_right _ hn
 have hoff : off' + (j * E.size + o) < cur.size := by omega
 have hcell : w.cell? ⟨g', off' + (j * E.size + o), none⟩ = some cur[off' + (j * E.size + o)] := by simp [World.cell?, hh]
 have hfz : w.frozen? ⟨g', off' + (j * E.size + o), none⟩ = false := by simp [World.frozen?, hh]
 obtain ⟨h1', h2', h3'⟩ := gw wf hg _ (gI hh (off := off' + (j * E.size + o)) (a.eval y))
 have hgb : g' ≠ b := fun e => by
  rw [e, hb] at hg; injection hg with hg
  have := h1.2; omega
 have le : Le (· ∈ [tg, J]) (· ∈ ([] : List Nat)) w M (w.setCell ⟨g', off' + (j * E.size + o), none⟩ (a.eval y)) M :=
  h2'.weaken (fun u hu => by simp only [List.mem_singleton] at hu; subst hu; simp) (fun _ h => by cases h)
 have hoth : ∀ k2, k2 ≠ g' → (w.setCell ⟨g', off' + (j * E.size + o), none⟩ (a.eval y)).heap[k2]? = w.heap[k2]? := fun k2 hne => by
  rw [gI hh]
  show (w.heap.setIfInBounds g' _)[k2]? = _
  rw [Array.getElem?_setIfInBounds_ne (Ne.symm hne)]
 refine ⟨w.setCell ⟨g', off' + (j * E.size + o), none⟩ (a.eval y), ?_, M, h1', le, trivial, ?_⟩
 ·have hst := run_store P w ⟨g', off' + (j * E.size + o), none⟩ (a.eval y) .plain hone
  rw [hcell] at hst
  simp only [hfz] at hst
  simp [execOp, Instr.storeAt, Instr.sureAddr, ex, storeVar, hcells, dS hT, hsz, storeCells, hst, Addr.add]
 intro z' hz'
 simp only [List.mem_singleton] at hz'
 subst hz'
 refine ⟨b, cs, hb, (hoth b (Ne.symm hgb)).trans hhb, ?_, by rw [List.length_set]; exact hap⟩
 rw [List.length_set]
 refine gD (by rw [cG hvals, List.length_map, List.length_map, List.length_set]) fun j2 ty2 hj2 => ?_
 rw [List.getElem?_map] at hj2
 obtain ⟨qe, hqe, rfl⟩ := Option.map_eq_some_iff.1 hj2
 rw [List.getElem?_set] at hqe
 by_cases hji : i = j2
 ·subst hji
  rw [if_pos rfl, if_pos hi] at hqe
  injection hqe with hqe
  subst hqe
  obtain ⟨b', cs', T', k1, k2, k3⟩ := hlk
  obtain ⟨uu, hu'⟩ : ∃ u, tg = u + 1 := ⟨tg - 1, by have := h1.1; omega⟩
  have : b = b' := wf.inj b b' uu (by have := h1.2; omega) (hu' ▸ hb) (hu' ▸ k1)
  subst this
  rw [hhb] at k2
  injection k2 with k2
  injection k2 with k2 _
  subst k2
  refine ⟨u, by rw [List.getElem?_take, if_pos hi]; exact k3, .inr ⟨g', off', c', _, by rw [List.length_set]; exact ex', hg, h3', by rw [List.length_set]; exact hn, hcm, by rw [Array.size_setIfInBounds]; exact hfit, ?_⟩⟩
  rw [List.length_set, Array.toList_setIfInBounds, List.drop_set, if_neg (by omega), Nat.add_sub_cancel_left, List.take_set, ← wV E xs j hj hl hoe]
  exact lY (bX h2' (by rw [E.cX]; intro _ h; cases h) (by rw [E.cJ]; intro _ h; cases h) hd) (ty.mono h2' (by rw [hd1]; intro _ h; cases h) (by rw [hd2]; intro _ h; cases h) hdy)
 rw [if_neg hji] at hqe
 obtain ⟨u2, hu2, hdu⟩ := dQ hvals j2 (Ty.eY E Tb J qe) (by rw [List.getElem?_map, hqe]; rfl)
 refine ⟨u2, hu2, ?_⟩
 rcases hdu with h | ⟨g2, off2, c2, cur2, e2, hg2, hh2, m1, m2, m3, m4⟩
 ·exact .inl h
 have hgg : g2 ≠ g' := fun e => by
  obtain ⟨b', cs', T', k1, k2, k3⟩ := hown g' (off' + xs.length * E.size) (by rw [ex']; rfl)
  obtain ⟨uu, hu'⟩ : ∃ u, tg = u + 1 := ⟨tg - 1, by have := h1.1; omega⟩
  have : b = b' := wf.inj b b' uu (by have := h1.2; omega) (hu' ▸ hb) (hu' ▸ k1)
  subst this
  rw [hhb] at k2
  injection k2 with k2
  injection k2 with k2 _
  subst k2
  exact hji (k3 j2 u2 (off2 + qe.length * E.size) hu2 (by rw [e2, e]; rfl)).1.symm
 exact .inr ⟨g2, off2, c2, cur2, e2, hg2, (hoth g2 hgg).trans hh2, m1, m2, m3, bX h2' (by rw [E.cX]; intro _ h; cases h) (by rw [E.cJ]; intro _ h; cases h) m4⟩
omit T in
theorem uq {T2 tz : Nat} {w : World} {M : bC} {v : Value} {b : Nat} {cs : Array Value} (hrow : gS E Tb tz xs w M v) (h4 : cK w M (q.map fun x => Ty.eY E Tb J x) (cs.toList.take q.length)) (hJ : 4096 ≤ J) (h2 : fS tz) : we E Tb J xs w (k6 M tz J) v ∧ ∀ (g e0 : Nat), fm E.size v = some (g, e0) → ∀ (j : Nat) (u : Value) (e' : Nat), (cs.toList.take q.length)[j]? = some u → fm E.size u = some (g, e') → False := by
 obtain ⟨cz, hown, hcs, hM⟩ := hrow
 constructor
 ·rcases hown.2 with ⟨ez, h0⟩ | ⟨g, cap, cur, ez, _, hh, hnc, hcap, hsz, htk⟩
  ·exact .inl ⟨List.length_eq_zero_iff.1 h0, ez⟩
  have hg : M g = some tz := hM g (by rw [ez]; rfl)
  refine .inr ⟨g, 0, cap, cur, ez, by simp [k6, hg], hh, hnc, hcap, by omega, ?_⟩
  rw [List.drop_zero, htk]
  exact bX (ow (w := w)) (by rw [E.cX]; intro _ h; cases h) (by rw [E.cJ]; intro _ h; cases h) hcs
 intro g e0 he j u e' hj hju
 have k1 := BN h4 hj hju
 rcases hown.2 with ⟨ez, _⟩ | ⟨g', cap, cur, ez, _⟩
 ·rw [ez] at he; simp [fm] at he
 have hg : M g' = some tz := hM g' (by rw [ez]; rfl)
 rw [ez] at he
 simp only [fm, Option.some.injEq, Prod.mk.injEq] at he
 obtain ⟨rfl, _⟩ := he
 rw [hg] at k1
 injection k1 with k1
 have := h2.2
 omega
theorem DG {x y : Operand} {off T2 tz : Nat} {ti : TI} (hx : A.op fr x = .ptr tg off) (he : off = i) (hc : A.tag tg = some (.mx E T2 Tb J q)) (h1 : fS tg) (hT : T.eZ[ty']? = some ti) (hsz : ti.size = 1) (hy : A.op fr y = .row E Tb tz xs) (hi : i < q.length) (hJ : 4096 ≤ J) (h2 : fS tz) (hne : Nat.beq tz tg = false) (hp : fr.pass.contains tz = false)
 (h : aj P fr ops rest (A.after { d := none, S := [tg], K := [tz], sets := [(tg, .mx E T2 Tb J (q.set i xs))], rs := cD x ++ cD y, rt := [tg] }) fun A' l'' => K A' ((A, { d := none, S := [tg], K := [tz], sets := [(tg, .mx E T2 Tb J (q.set i xs))], rs := cD x ++ cD y, rt := [tg] }) :: l'')) :
 aj P fr ops (⟨none, .store ty' x y, t, p, e, none⟩ :: rest) A K := by
 have hne' : tz ≠ tg := fun h => by subst h; simp at hne
 refine ⟨_, jE rfl rfl rfl (by simp) (by simpa using h1.1) (by simp at hp ⊢; exact ⟨h2.1, hp⟩) fun a w M wf hr ht => ?_, h⟩
 subst he
 obtain ⟨b, cs, ex, e2, h3, h4, h5⟩ := IV hx hc h1 wf (fun _ h => List.mem_append_left _ h) hr ht
 have hdy := cS (fun c hc => List.mem_append_right (cD x) hc) hr
 rw [hy] at hdy
 have hone : (a.eval y).oneCell' = true := (Ty.row E Tb tz xs).isOne rfl hdy
 obtain ⟨hrow, hap⟩ := uq (T2 := T2) (b := b) (J := J) hdy h4 hJ h2
 have hcells : (a.eval y).cells = #[a.eval y] := by
  cases hv : a.eval y <;> first | rfl | (rw [hv] at hone; simp [Value.oneCell'] at hone)
 have hlen := cG h4
 have hoff : off < cs.size := by
  rw [List.length_take, List.length_map] at hlen
  have : cs.toList.length = cs.size := Array.length_toList
  omega
 have hcell : w.cell? ⟨b, off, none⟩ = some cs[off] := by simp [World.cell?, h3]
 have hfz : w.frozen? ⟨b, off, none⟩ = false := by simp [World.frozen?, h3]
 have wf2 := CE (tg := tz) hJ wf
 have e2' : k6 M tz J b = some tg := by simp [k6, e2, hne'.symm]
 have hvals : cK w (k6 M tz J) (q.map fun x => Ty.eY E Tb J x) (cs.toList.take q.length) :=
  bX (ow (w := w) (tg := tz) (J := J)) (fun u hu => by rw [lz.1 u hu]; have := h2.2; simp; omega) (fun _ _ h => by cases h) h4
 obtain ⟨h1', h2', h3'⟩ := gw wf2 e2' _ (gI h3 (off := off) (a.eval y))
 have le : Le (· ∈ [tg]) (· ∈ [tz]) w M (w.setCell ⟨b, off, none⟩ (a.eval y)) (k6 M tz J) :=
  ((ow (w := w) (M := M) (tg := tz) (J := J)).trans h2').weaken (fun u hu => by rcases hu with h | h; cases h; exact h) (fun u hu => by rcases hu with h | h; exact h; cases h)
 refine ⟨w.setCell ⟨b, off, none⟩ (a.eval y), ?_, k6 M tz J, h1', le, trivial, ?_⟩
 ·have hst := run_store P w ⟨b, off, none⟩ (a.eval y) .plain hone
  rw [hcell] at hst
  simp only [hfz] at hst
  simp [execOp, Instr.storeAt, Instr.sureAddr, ex, storeVar, hcells, dS hT, hsz, storeCells, hst, Addr.add]
 intro z' hz'
 simp only [List.mem_singleton] at hz'
 subst hz'
 refine ⟨b, _, e2', h3', ?_, ?_⟩
 ·rw [List.length_set, z4, List.map_set]
  have h2 := h1.2
  exact lY (bX h2' (by intro _ _ h; cases h) (fun u hu => by rw [lz.2 u hu]; simp; omega) hvals) ((Ty.eY E Tb J xs).mono h2' (by intro _ _ h; cases h) (fun u hu => by simp [Ty.eY] at hu; subst hu; simp; omega) hrow)
 rw [List.length_set, z4]
 exact ya h5 fun g e0 he j u e1 hj hju => absurd hju fun hju => hap g e0 he j u e1 hj hju
omit T in
theorem KA {ER : El (List α)} {T2 m : Nat} (hc : A.tag m = some (.mx E T2 Tb J q)) (hne : Nat.beq m J = false) (hER : ∀ x, ER.tys x = [Ty.sl E x]) : JS A J (m, .vec ER T2 q) := fun w M wf ht => by
  obtain ⟨b, cs, h1, h2, h3, _⟩ := ht _ (cj hc)
  have hmj : m ≠ J := fun h => by subst h; simp at hne
  have hl : ∀ l : List (List α), (l.flatMap ER.tys).length = l.length := fun l => by
    induction l with
    | nil => rfl
    | cons x l ih => rw [List.flatMap_cons, hER, List.length_append, ih]; simp; omega
  have key : ∀ (l : List (List α)) (vs : List Value), cK w M (l.map fun x => Ty.eY E Tb J x) vs → cK w (eM M J) (l.flatMap ER.tys) vs := by
    intro l
    induction l with
    | nil => intro vs h; cases vs with | nil => trivial | cons => cases h
    | cons x l ih =>
      intro vs h
      cases vs with
      | nil => cases h
      | cons v vs => rw [List.flatMap_cons, hER]; exact ⟨Db wf h.1, ih vs h.2⟩
  exact .inr ⟨b, cs, by simp [eM, h1, hmj], h2, by rw [hl]; exact key q _ h3⟩
theorem MD {NE : El Unit} {T2 n : Nat} (hn : 0 < n) (hNE : ∀ x, NE.tys x = [Ty.ex (.slice none 0 0)]) : (Cont.vec NE T2 (List.replicate n ())).Sub (Cont.mx E T2 Tb J (List.replicate n [])) := by
  intro w M t hd
  have hl : ∀ n : Nat, ((List.replicate n ()).flatMap NE.tys).length = n := fun n => by
    induction n with
    | zero => rfl
    | succ n ih => rw [List.replicate_succ, List.flatMap_cons, hNE, List.length_append, ih]; simp; omega
  have key : ∀ (n : Nat) (vs : List Value), cK w M ((List.replicate n ()).flatMap NE.tys) vs → cK w M ((List.replicate n ([] : List α)).map fun x => Ty.eY E Tb J x) vs ∧ ∀ v ∈ vs, v = .slice none 0 0 := by
    intro n
    induction n with
    | zero => intro vs h; cases vs with | nil => exact ⟨trivial, fun v hv => by cases hv⟩ | cons => cases h
    | succ n ih =>
      intro vs h
      rw [List.replicate_succ, List.flatMap_cons, hNE] at h
      cases vs with
      | nil => cases h
      | cons v vs =>
        obtain ⟨h1, h2⟩ := h
        have h1 : v = .slice none 0 0 := h1
        obtain ⟨a, b⟩ := ih vs h2
        refine ⟨⟨.inl ⟨rfl, h1⟩, a⟩, fun u hu => ?_⟩
        rcases List.mem_cons.1 hu with rfl | hu
        · exact h1
        · exact b u hu
  rcases hd with h0 | ⟨b, cs, h1, h2, h3⟩
  · cases n with
    | zero => omega
    | succ n => cases h0
  · rw [hl] at h3
    obtain ⟨a, c⟩ := key n _ h3
    rw [← List.length_replicate (n := n) (a := ([] : List α))] at h3
    refine ⟨b, cs, h1, h2, by rw [List.length_replicate]; exact a, fun i j v u g e e' hi hj hv hu => ?_⟩
    rw [List.length_replicate] at hi
    rw [c v (List.mem_of_getElem? hi)] at hv
    simp [fm] at hv
end
end Go.T
namespace Go.Proofs.YtelbollidfdcjaaGreat
open Go Go.T
set_option maxHeartbeats 8000000
def Nc : El Unit := El.mk' 1 (fun _ => [Ty.ex (.slice none 0 0)]) (fun _ => rfl) (fun _ => ⟨rfl, rfl, rfl⟩)
section
variable {y : bB} {a : dU} {b d i k : Nat}
theorem L5 (hr : y.cN) (hi : i < y.moves.length) (h : ¬ (nth y.moves i).src = -1) : ∃ f : Nat, (nth y.moves i).src = f ∧ f < y.bins.length := by
 have := (hr.move _ (cV hi)).2.1
 exact ⟨(nth y.moves i).src.toNat, by omega, by omega⟩
theorem LP (hr : y.cN) (hi : i < y.moves.length) (h : ¬ (nth y.moves i).dst = -1) : ∃ f : Nat, (nth y.moves i).dst = f ∧ f < y.bins.length := by
 have := (hr.move _ (cV hi)).2.2.1
 exact ⟨(nth y.moves i).dst.toNat, by omega, by omega⟩
end
attribute [local irreducible] cR nv nW iI gy zN wN tT mG qq
attribute [local irreducible] iP fV m6 qX ig iw ia ij ir qN iy qQ eA ga qU gS qM nth fX dy aj dx bodyPost Exit.then Exit.inBlock Code.wp Code.wpIn qO iz qT qR iZ eR cW cZ bodyPostM eH
attribute [local irreducible] NY Nt N0 Ny we
set_option maxRecDepth 100000 in
theorem J6 (y : bB) (a : dU) (hr : y.cN) (ha : nu y a) : dx Tryz.prog 158 [fH y, kr a] (Ty.sl uh (gy y a)) := by
 refine au Tryz.func158 rfl (by decide) Tryz.ntmps158 (by exact Nat.le_of_ble_eq_true rfl) fun w0 M0 => ?_
 have h1 := hr.bins
 have h2 := hr.days
 have h3 := D_eq hr
 have h4 := hr.moves
 have hlf := ha.lens.first
 have hlm := ha.lens.bT
 refine aE (aA (bJ rfl (bJ rfl (mF rfl (aD (aC (aE (aA ?_))))))))
 refine aM rfl rfl rfl rfl rfl (by decide) ?_
 refine aK rfl rfl rfl rfl (cx rfl rfl rfl ?_)
 refine vG (E := Nc) (x0 := ()) rfl rfl rfl rfl rfl rfl rfl (by decide) rfl (by omega) (by (dsimp only; omega)) (by omega) ?_
 refine NZ rfl (aD (aC (aE (aE ?_))))
 have hDn : ((y.bins.length : Int)).toNat = y.bins.length := Int.toNat_natCast _
 refine fK (tg := 15) rfl (Cont.eP (congrArg (fun n => List.replicate n ()) hDn)) ?_
 refine fK (tg := 15) rfl (MD (E := cm) (Tb := 3) (J := 5000) (by omega) (fun _ => rfl)) ?_
 refine fK (tg := 15) rfl (Cont.jq (FQ (y := y) (a := a))) ?_
 refine gX (s := 5) rfl (Ty.sub_eq (congrArg (Ty.vs 15) hDn)) ?_
 refine aA (AR rfl (rq rfl rfl rfl (bM rfl (aD (aC (ah ?_))))))
 refine cU (fun (k : {k : Nat // k ≤ y.bins.length}) => live [(2, Ty.pp (bk y)), (3, Ty.pp (dP a)), (5, Ty.vs 15 y.bins.length), (16, Ty.int .i64 y.bins.length), (17, Ty.int .i64 (k.1 : Nat))] [(15, Cont.mx cm 28 3 5000 (wN y a k.1))]) (fun k => y.bins.length - k.1) (⟨0, by omega⟩) ?_ fun k => ?_
 ·(refine dD.mk' ?_ ?_ <;> (repeat' (first | exact aH | exact aI | refine aB ?_ (Ty.aW _) | refine aB ?_ (Ty.aF _) | refine aG rfl (Cont.aF _) ?_)))
  all_goals trace_state
 have hk := k.2
 refine aE (aA (bE rfl rfl rfl (aD (aC (aE ?_)))))
 refine av rfl (fun hc1 => ?_) (fun hc1 => ?_)
 ·
  refine ak (aC (aE (ah (aE (aA (bM rfl (cB rfl (aD (aC ?_)))))))))
  refine aA (AR rfl (bM rfl ?_))
  refine aM rfl rfl rfl rfl rfl (by decide) ?_
  refine aK rfl rfl rfl rfl (bM rfl ?_)
  refine bI rfl rfl rfl rfl rfl rfl (by omega) ?_
  refine aK rfl rfl rfl rfl ?_
  refine uK (E := cm) (xs := [nth a.first k.1]) rfl rfl rfl rfl rfl (by decide) (by decide) (by repeat (first | exact (aX.nil : aX _ _ [] _) | (show aX _ _ ((_, _) :: _) _; apply aX.one; (· exact (rfl : _ = Ty.int _ _)); (· exact rfl)))) (by exact rfl) rfl rfl ?_
  refine dA rfl rfl rfl rfl rfl (by omega) ?_
  refine DG (i := k.1) rfl (by exact Nat.mul_one _) rfl (by decide) rfl rfl rfl (by rw [Ii]; omega) (by decide) (by decide) rfl rfl ?_
  refine aD (bW (aC (aA ?_)))
  refine bz rfl rfl (by omega) (by omega) ?_
  refine bM rfl (aD ?_)
  refine bf (⟨k.1 + 1, by omega⟩) ?_ (by show y.bins.length - (k.1 + 1) < y.bins.length - k.1; omega)
  (refine dD.mk' ?_ ?_ <;> (repeat' (first | exact aH | exact aI | refine aB ?_ (Ty.aW _) | refine aB ?_ (Ty.aF _) | refine aG rfl ?_ ?_)))
  all_goals skip
  all_goals exact Cont.jq (Fz hr (by omega))
 refine cT (aR (aR (aq rfl (aC (aE (aE ?_))))))
 obtain ⟨k, hk⟩ := k
 obtain rfl : k = y.bins.length := by have h1 : ¬ (k : Int) < (y.bins.length : Int) := hc1; have h2 : k ≤ y.bins.length := hk; omega
 refine fK (tg := 15) rfl (Cont.jq (HW (y := y) (a := a) (Nat.le_refl _))) ?_
 refine aA ?_
 refine aM rfl rfl rfl rfl rfl (by decide) ?_
 refine aK rfl rfl rfl rfl (bM rfl (aD (aC (ah ?_))))
 refine cU (fun (d : {d : Nat // d ≤ y.D}) => live [(2, Ty.pp (bk y)), (3, Ty.pp (dP a)), (5, Ty.vs 15 y.bins.length), (31, Ty.int .i64 y.days), (32, Ty.int .i64 (d.1 : Nat))] [(15, Cont.mx cm 28 3 5000 (zN y a d.1))]) (fun d => y.D - d.1) (⟨0, by omega⟩) ?_ fun d => ?_
 ·(refine dD.mk' ?_ ?_ <;> (repeat' (first | exact aH | exact aI | refine aB ?_ (Ty.aW _) | refine aB ?_ (Ty.aF _) | refine aG rfl (Cont.aF _) ?_)))
  all_goals trace_state
 have hd := d.2
 refine aE (aA (bE rfl rfl rfl (aD (aC (aE ?_)))))
 refine av rfl (fun hc2 => ?_) (fun hc2 => ?_)
 ·
  refine ak (aC (aE (ah (aE (aA (bM rfl (cB rfl (aD (aC ?_)))))))))
  refine aE (aE (aA (AR rfl (rq rfl rfl rfl (bM rfl (aD (aC (ah ?_))))))))
  refine cU (fun (b : {b : Nat // b ≤ y.bins.length}) => live [(2, Ty.pp (bk y)), (3, Ty.pp (dP a)), (5, Ty.vs 15 y.bins.length), (31, Ty.int .i64 y.days), (32, Ty.int .i64 (d.1 : Nat)), (7, Ty.int .i64 (d.1 : Nat)), (36, Ty.int .i64 y.bins.length), (37, Ty.int .i64 (b.1 : Nat))] [(15, Cont.mx cm 28 3 5000 (tT y a d.1 b.1))]) (fun b => y.bins.length - b.1) (⟨0, by omega⟩) ?_ fun b => ?_
  ·(refine dD.mk' ?_ ?_ <;> (repeat' (first | exact aH | exact aI | refine aB ?_ (Ty.aW _) | refine aB ?_ (Ty.aF _) | refine aG rfl ?_ ?_)))
   all_goals exact Cont.jq (FD (y := y) (a := a))
  have hb := b.2
  have hml := HP (y := y) (a := a) (d := d.1) (k := b.1)
  refine aE (aA (bE rfl rfl rfl (aD (aC (aE ?_)))))
  refine av rfl (fun hc3 => ?_) (fun hc3 => ?_)
  ·
   refine ak (aC (aE (ah (aE (aA (bM rfl (cB rfl (aD (aC ?_)))))))))
   have hb2 : b.1 < y.bins.length := by omega
   have hmn := IE (y := y) (a := a) (d := d.1) hb2
   have hrl := kN (y := y) (a := a) (b := b.1) (d := d.1)
   refine cM mixed rfl (AR rfl (bM rfl (AR rfl (bM rfl ?_))))
   refine dA rfl rfl rfl rfl rfl (by omega) ?_
   refine qG b.1 rfl (by exact Nat.mul_one _) rfl (by decide) rfl rfl (by omega) ?_
   refine AR rfl (bM rfl ?_)
   refine dA rfl rfl rfl rfl rfl (by omega) ?_
   refine qG b.1 rfl (by exact Nat.mul_one _) rfl (by decide) rfl rfl (by omega) ?_
   refine bM rfl ?_
   refine mB (j := d.1) rfl rfl rfl rfl rfl (by rw [hmn]; omega) ?_
   refine sj (j := d.1) (o := 0) (ty := Ty.int .i64 (cR y a b.1 d.1)) rfl rfl rfl rfl (by rw [hmn]; omega) (by rw [hmn, Be (Nat.le_refl _)]; rfl) ?_
   refine bt (E := cm) (xs := [cR y a b.1 d.1]) rfl rfl rfl rfl rfl (by decide) (by decide) (by repeat (first | exact (aX.nil : aX _ _ [] _) | (show aX _ _ ((_, _) :: _) _; apply aX.one; (· exact (rfl : _ = Ty.int _ _)); (· exact rfl)))) (by exact rfl) rfl ?_
   refine Ay (i := b.1) (by omega) rfl rfl rfl (by decide) (by decide) rfl Nat.zero_lt_one rfl rfl rfl rfl rfl (by decide) (by rw [hmn]; simp only [hrl, List.length_singleton]; show (d.1 + 1 + 1) * 8 ≤ _; omega) (by rw [hmn]; simp only [hrl, List.length_singleton]; omega) ?_
   refine dA rfl rfl rfl rfl rfl (by omega) ?_
   refine C3 (i := b.1) rfl (by exact Nat.mul_one _) rfl (by decide) rfl rfl rfl (by omega) (by decide) ?_
   refine aD ?_
   refine ⟨by kernel_rfl, ?_⟩
   refine bW (aC ?_)
   refine fK (tg := 15) rfl (Cont.jq (congrArg (fun r => (tT y a d.1 b.1).set b.1 (r ++ [cR y a b.1 d.1])) hmn)) ?_
   refine aA ?_
   refine bz rfl rfl (by omega) (by omega) ?_
   refine bM rfl (aD ?_)
   refine bf (⟨b.1 + 1, by omega⟩) ?_ (by show y.bins.length - (b.1 + 1) < y.bins.length - b.1; omega)
   (refine dD.mk' ?_ ?_ <;> (repeat' (first | exact aH | exact aI | refine aB ?_ (Ty.aW _) | refine aB ?_ (Ty.aF _) | refine aG rfl ?_ ?_)))
   all_goals skip
   all_goals exact Cont.jq (IG (by omega))
  refine cT (aR (aR (aq rfl (aC (aE ?_)))))
  obtain ⟨b, hb⟩ := b
  obtain rfl : b = y.bins.length := by have h1 : ¬ (b : Int) < (y.bins.length : Int) := hc3; have h2 : b ≤ y.bins.length := hb; omega
  refine fK (tg := 15) rfl (Cont.jq (Gy (y := y) (a := a) (d := d.1) (Nat.le_refl _))) ?_
  refine aA ?_
  refine aM rfl rfl rfl rfl rfl (by decide) ?_
  refine aK rfl rfl rfl rfl (cx rfl rfl rfl (bM rfl (aD (aC (ah ?_)))))
  refine cU (fun (i : {i : Nat // i ≤ y.moves.length}) => live [(2, Ty.pp (bk y)), (3, Ty.pp (dP a)), (5, Ty.vs 15 y.bins.length), (31, Ty.int .i64 y.days), (32, Ty.int .i64 (d.1 : Nat)), (7, Ty.int .i64 (d.1 : Nat)), (58, Ty.sl dm y.moves), (59, Ty.int .i64 y.moves.length), (60, Ty.int .i64 (i.1 : Nat))] [(15, Cont.mx cm 28 3 5000 (mG y a d.1 i.1))]) (fun i => y.moves.length - i.1) (⟨0, by omega⟩) ?_ fun i => ?_
  ·(refine dD.mk' ?_ ?_ <;> (repeat' (first | exact aH | exact aI | refine aB ?_ (Ty.aW _) | refine aB ?_ (Ty.aF _) | refine aG rfl (Cont.aF _) ?_)))
   all_goals trace_state
  have hi := i.2
  refine aE (aA (bE rfl rfl rfl (aD (aC (aE ?_)))))
  refine av rfl (fun hc4 => ?_) (fun hc4 => ?_)
  ·
   refine ak (aC (aE (ah (aE (aA (bM rfl ?_))))))
   refine bI rfl rfl rfl rfl rfl rfl (by omega) ?_
   refine aY rfl rfl rfl (by exact Nat.le_of_ble_eq_true rfl) ?_
   refine b8 rfl (by exact List.cons_ne_nil _ _) rfl ?_
   refine cB rfl ?_
   refine bp rfl rfl (by decide) rfl rfl rfl rfl rfl rfl ?_
   refine aD (aC (aE (aE (aA ?_))))
   refine aL rfl rfl rfl rfl rfl (by decide) ?_
   refine aU rfl rfl (by decide) rfl rfl rfl ?_
   refine bM rfl (bE rfl rfl rfl (aD (aC ?_)))
   refine cv rfl (fun hc5 => ?_) (fun hc5 => ?_)
   ·
    refine cT (aR (aq rfl (aC (aA ?_))))
    refine bz rfl rfl (by omega) (by omega) ?_
    refine bM rfl (aD ?_)
    refine bf (⟨i.1 + 1, by omega⟩) ?_ (by show y.moves.length - (i.1 + 1) < y.moves.length - i.1; omega)
    (refine dD.mk' ?_ ?_ <;> (repeat' (first | exact aH | exact aI | refine aB ?_ (Ty.aW _) | refine aB ?_ (Ty.aF _) | refine aG rfl ?_ ?_)))
    all_goals skip
    all_goals exact Cont.jq (Gt (by simpa using hc5))
   refine ak (aC ?_)
   refine kf (J := live [(2, Ty.pp (bk y)), (3, Ty.pp (dP a)), (5, Ty.vs 15 y.bins.length), (31, Ty.int .i64 y.days), (32, Ty.int .i64 (d.1 : Nat)), (7, Ty.int .i64 (d.1 : Nat)), (58, Ty.sl dm y.moves), (59, Ty.int .i64 y.moves.length), (60, Ty.int .i64 (i.1 : Nat)), (9, Ty.int .i64 (i.1 : Nat)), (10, Ty.ptr 11 0)] [(11, Cont.cells 41 (dm.tys (nth y.moves i.1))), (15, Cont.mx cm 28 3 5000 (qq y a d.1 i.1))]) ?_ ?_
   ·
    refine aE ?_
    have hde : (nth y.moves i.1).day = (d.1 : Nat) := by simpa using hc5
    have hi2 : i.1 < y.moves.length := by omega
    have hacl := IX (y := y) (a := a) (d := d.1) (i := i.1)
    have hhal := Aa (y := y) (a := a) (d := d.1) (i := i.1)
    have hmv := ha.bT _ (cV (show i.1 < a.bT.length by omega))
    refine aA ?_
    refine aL rfl rfl rfl rfl rfl (by decide) ?_
    refine aU rfl rfl (by decide) rfl rfl rfl ?_
    refine bE rfl rfl rfl (aD (aC ?_))
    refine cv rfl (fun hc6 => ?_) (fun hc6 => ?_)
    ·
     obtain ⟨f, hfe, hf⟩ := L5 hr hi2 (by simpa using hc6)
     have hat := Lp (y := y) (a := a) (d := d.1) (i := i.1) hf
     have hav := DX (d := d.1) (i := i.1) hr ha hf (by omega)
     refine fK (tg := 11) rfl (Cont.eB (l' := [Ty.int .i64 (nth y.moves i.1).day, Ty.int .i64 ((f : Nat) : Int), Ty.int .i64 (nth y.moves i.1).dst, Ty.int .i64 (nth y.moves i.1).sacks.lo, Ty.int .i64 (nth y.moves i.1).sacks.hi]) ⟨Ty.aF _, Ty.bA hfe, Ty.aF _, Ty.aF _, Ty.aF _, trivial⟩) ?_
     refine cM mixed rfl (AR rfl ?_)
     refine aL rfl rfl rfl rfl rfl (by decide) ?_
     refine aU rfl rfl (by decide) rfl rfl rfl ?_
     refine dA rfl rfl rfl rfl rfl (by omega) ?_
     refine qG f rfl (by exact Nat.mul_one _) rfl (by decide) rfl rfl (by omega) ?_
     refine bM rfl ?_
     refine bz rfl rfl (by omega) (by omega) ?_
     refine mB (j := d.1 + 1) rfl rfl rfl rfl rfl (by omega) ?_
     refine sj (j := d.1 + 1) (o := 0) (ty := Ty.int .i64 (nv y a d.1 i.1 f)) rfl rfl rfl rfl (by omega) (by rw [hat.2]; rfl) ?_
     refine aM rfl rfl rfl rfl rfl (by decide) ?_
     refine aK rfl rfl rfl rfl (bM rfl ?_)
     refine bI rfl rfl rfl rfl rfl rfl (by omega) ?_
     refine aK rfl rfl rfl rfl ?_
     refine gL rfl rfl (by omega) (by omega) ?_
     refine mB (j := d.1 + 1) rfl rfl rfl rfl rfl (by omega) ?_
     refine wX (j := d.1 + 1) (o := 0) (ty := Ty.int .i64 (nv y a d.1 i.1 f - nth a.bT i.1)) (z := nv y a d.1 i.1 f - nth a.bT i.1) rfl rfl rfl (by decide) rfl rfl rfl rfl (by omega) (by omega) (by decide) rfl rfl rfl (by decide) ?_
     refine aD ?_
     refine ⟨by kernel_rfl, ?_⟩
     refine fP ?_
     (refine dD.mk' ?_ ?_ <;> (repeat' (first | exact aH | exact aI | exact dK | refine aB ?_ (Ty.aW _) | refine aB ?_ (Ty.aF _) | refine aG rfl (Cont.dL ?_) ?_ | refine bY ?_ (Ty.aF _) | refine bY ?_ ?_ | refine aG rfl ?_ ?_)))
     all_goals first | exact Cont.jq (Jh hf hfe) | exact Ty.bA hfe.symm
    refine ak (fP ?_)
    (refine dD.mk' ?_ ?_ <;> (repeat' (first | exact aH | exact aI | refine aB ?_ (Ty.aW _) | refine aB ?_ (Ty.aF _) | refine aG rfl (Cont.aF _) ?_ | refine aG rfl ?_ ?_)))
    all_goals exact Cont.jq (Gl (by simpa using hc6))
   refine aE ?_
   have hde : (nth y.moves i.1).day = (d.1 : Nat) := by simpa using hc5
   have hi2 : i.1 < y.moves.length := by omega
   have hhal := Aa (y := y) (a := a) (d := d.1) (i := i.1)
   have hmv := ha.bT _ (cV (show i.1 < a.bT.length by omega))
   refine aA ?_
   refine aL rfl rfl rfl rfl rfl (by decide) ?_
   refine aU rfl rfl (by decide) rfl rfl rfl ?_
   refine bE rfl rfl rfl (aD (aC ?_))
   refine cv rfl (fun hc7 => ?_) (fun hc7 => ?_)
   ·
    obtain ⟨f, hfe, hf⟩ := LP hr hi2 (by simpa using hc7)
    have hat := Lb (y := y) (a := a) (d := d.1) (i := i.1) hf
    have hav := JF (d := d.1) (i := i.1) hr ha hf (by omega)
    refine fK (tg := 11) rfl (Cont.eB (l' := [Ty.int .i64 (nth y.moves i.1).day, Ty.int .i64 (nth y.moves i.1).src, Ty.int .i64 ((f : Nat) : Int), Ty.int .i64 (nth y.moves i.1).sacks.lo, Ty.int .i64 (nth y.moves i.1).sacks.hi]) ⟨Ty.aF _, Ty.aF _, Ty.bA hfe, Ty.aF _, Ty.aF _, trivial⟩) ?_
    refine cM mixed rfl (AR rfl ?_)
    refine aL rfl rfl rfl rfl rfl (by decide) ?_
    refine aU rfl rfl (by decide) rfl rfl rfl ?_
    refine dA rfl rfl rfl rfl rfl (by omega) ?_
    refine qG f rfl (by exact Nat.mul_one _) rfl (by decide) rfl rfl (by omega) ?_
    refine bM rfl ?_
    refine bz rfl rfl (by omega) (by omega) ?_
    refine mB (j := d.1 + 1) rfl rfl rfl rfl rfl (by omega) ?_
    refine sj (j := d.1 + 1) (o := 0) (ty := Ty.int .i64 (nW y a d.1 i.1 f)) rfl rfl rfl rfl (by omega) (by rw [hat.2]; rfl) ?_
    refine aM rfl rfl rfl rfl rfl (by decide) ?_
    refine aK rfl rfl rfl rfl (bM rfl ?_)
    refine bI rfl rfl rfl rfl rfl rfl (by omega) ?_
    refine aK rfl rfl rfl rfl ?_
    refine bz rfl rfl (by omega) (by omega) ?_
    refine mB (j := d.1 + 1) rfl rfl rfl rfl rfl (by omega) ?_
    refine wX (j := d.1 + 1) (o := 0) (ty := Ty.int .i64 (nW y a d.1 i.1 f + nth a.bT i.1)) (z := nW y a d.1 i.1 f + nth a.bT i.1) rfl rfl rfl (by decide) rfl rfl rfl rfl (by omega) (by omega) (by decide) rfl rfl rfl (by decide) ?_
    refine aD ?_
    refine ⟨by kernel_rfl, ?_⟩
    refine bW (aC (aA ?_))
    refine bz rfl rfl (by omega) (by omega) ?_
    refine bM rfl (aD ?_)
    refine bf (⟨i.1 + 1, by omega⟩) ?_ (by show y.moves.length - (i.1 + 1) < y.moves.length - i.1; omega)
    (refine dD.mk' ?_ ?_ <;> (repeat' (first | exact aH | exact aI | refine aB ?_ (Ty.aW _) | refine aB ?_ (Ty.aF _) | refine aG rfl ?_ ?_)))
    all_goals skip
    all_goals exact Cont.jq (JT hde hf hfe)
   refine ak (bW (aC (aA ?_)))
   refine bz rfl rfl (by omega) (by omega) ?_
   refine bM rfl (aD ?_)
   refine bf (⟨i.1 + 1, by omega⟩) ?_ (by show y.moves.length - (i.1 + 1) < y.moves.length - i.1; omega)
   (refine dD.mk' ?_ ?_ <;> (repeat' (first | exact aH | exact aI | refine aB ?_ (Ty.aW _) | refine aB ?_ (Ty.aF _) | refine aG rfl ?_ ?_)))
   all_goals skip
   all_goals exact Cont.jq (Ie hde (by simpa using hc7))
  refine cT (aR (aR (aq rfl (bW (aC ?_)))))
  obtain ⟨i, hi⟩ := i
  obtain rfl : i = y.moves.length := by have h1 : ¬ (i : Int) < (y.moves.length : Int) := hc4; have h2 : i ≤ y.moves.length := hi; omega
  refine fK (tg := 15) rfl (Cont.jq (KM (y := y) (a := a) (d := d.1) rfl)) ?_
  refine aA ?_
  refine bz rfl rfl (by omega) (by omega) ?_
  refine bM rfl (aD ?_)
  refine bf (⟨d.1 + 1, by omega⟩) ?_ (by show y.D - (d.1 + 1) < y.D - d.1; omega)
  (refine dD.mk' ?_ ?_ <;> (repeat' (first | exact aH | exact aI | refine aB ?_ (Ty.aW _) | refine aB ?_ (Ty.aF _) | refine aG rfl (Cont.aF _) ?_)))
  all_goals skip
  all_goals trace_state
 refine cT (aR (aR (aq rfl (aC (aE ?_)))))
 obtain ⟨d, hd⟩ := d
 obtain rfl : d = y.D := by have h1 : ¬ (d : Int) < y.days := hc2; have h2 : d ≤ y.D := hd; omega
 refine fK (tg := 15) rfl (Cont.jq (Iy (y := y) (a := a) rfl)) ?_
 refine mj (tg := 5000) [] [(15, Cont.vec uh 28 (gy y a))] (by decide) rfl trivial ⟨KA rfl rfl (fun _ => rfl), trivial⟩ ?_
 have hcl : (gy y a).length = y.bins.length := by unfold gy; rw [List.length_map, List.length_range]
 refine jY (tg := 15) [(5, Ty.sl uh (gy y a))] (by decide) rfl ⟨Gq rfl rfl hcl (by decide), trivial⟩ ?_
 refine aA (gm rfl (Bs rfl (aD (aC (az (bq rfl rfl ?_))))))
 all_goals exact cC rfl rfl
 all_goals trace_state
end Go.Proofs.YtelbollidfdcjaaGreat
namespace Go.Proofs.YtelbollidfdcjaaGreat
open Go Go.T
set_option maxHeartbeats 8000000
def JD (n : Int) : Bool := rJ n 0 300
def q8 (y : bB) (a : dU) : Bool := !decide ((a.first.length : Int) = y.bins.length) || !decide ((a.bT.length : Int) = y.moves.length)
def tI (a : dU) : Bool := !a.first.all JD || !a.bT.all JD
def lB (y : bB) (a : dU) : Int := if bZ y = 0 then (if q8 y a = true then 2 else if tI a = true then 3 else 0) else bZ y
def xY (y : bB) (a : dU) : List (List Int) := if lB y a = 0 then gy y a else []
noncomputable def Ah (y : bB) (a : dU) : Bool := if lB y a = 0 then jk y a else false
section
variable {y : bB} {a : dU} {b t k : Nat} {n : Int}
theorem Kg (h : ¬ bZ y = 0) : bZ y = lB y a ∧ [] = xY y a := by
 have e : bZ y = lB y a := by unfold lB; rw [if_neg h]
 exact ⟨e, by unfold xY; rw [← e, if_neg h]⟩
theorem Ke (h : bZ y = 0) (h2 : q8 y a = true) : 2 = lB y a ∧ [] = xY y a := by
 have e : 2 = lB y a := by unfold lB; rw [if_pos h, if_pos h2]
 exact ⟨e, by unfold xY; rw [← e, if_neg (by decide)]⟩
theorem Kf (h : bZ y = 0) (h2 : q8 y a = false) (h3 : tI a = true) : 3 = lB y a ∧ [] = xY y a := by
 have e : 3 = lB y a := by unfold lB; rw [if_pos h, if_neg (by rw [h2]; decide), if_pos h3]
 exact ⟨e, by unfold xY; rw [← e, if_neg (by decide)]⟩
theorem ED (h : bZ y = 0) (h2 : q8 y a = false) (h3 : tI a = false) : 0 = lB y a ∧ gy y a = xY y a := by
 have e : 0 = lB y a := by unfold lB; rw [if_pos h, if_neg (by rw [h2]; decide), if_neg (by rw [h3]; decide)]
 exact ⟨e, by unfold xY; rw [← e, if_pos rfl]⟩
theorem Ag (h2 : q8 y a = false) (h3 : tI a = false) : nu y a := by
 refine ⟨Ba h2, ?_, ?_⟩ <;>
 ·unfold tI at h3
  rw [Bool.or_eq_false_iff, Bool.not_eq_false', Bool.not_eq_false'] at h3
  intro x hx
  first | exact dJ.1 (List.all_eq_true.1 h3.1 x hx) | exact dJ.1 (List.all_eq_true.1 h3.2 x hx)
theorem L8 (h : lB y a = 0) : y.cN ∧ nu y a := by
  unfold lB at h
  by_cases h0 : bZ y = 0
  · rw [if_pos h0] at h
    cases h2 : q8 y a with
    | true => rw [h2, if_pos rfl] at h; cases h
    | false =>
      rw [h2, if_neg (by decide)] at h
      cases h3 : tI a with
      | true => rw [h3, if_pos rfl] at h; cases h
      | false => exact ⟨c9 h0, Ag h2 h3⟩
  · rw [if_neg h0] at h; exact absurd h h0
theorem yl : (gy y a).length = y.bins.length := by unfold gy; rw [List.length_map, List.length_range]
theorem tW (h : b < y.bins.length) : nth (gy y a) b = iI y a b y.D := by unfold gy; exact fI _ h
theorem EM {v : Int} : (iI y a b y.D).all (fun n => rJ n 0 v) = true ↔ ∀ t : Nat, t ≤ y.D → 0 ≤ cR y a b t ∧ cR y a b t ≤ v := by
 rw [List.all_eq_true]
 constructor
 ·intro h t ht
  have := h (cR y a b t) (by unfold iI; exact List.mem_map.2 ⟨t, List.mem_range.2 (by omega), rfl⟩)
  exact dJ.1 this
 intro h x hx
 unfold iI at hx
 obtain ⟨t, ht, rfl⟩ := List.mem_map.1 hx
 exact dJ.2 (h t (by have := List.mem_range.1 ht; omega))
theorem Nr (h : ¬ lB y a = 0) : false = Ah y a := by unfold Ah; rw [if_neg h]
theorem EY (h : lB y a = 0) : jk y a = Ah y a := by unfold Ah; rw [if_pos h]
def HT (y : bB) (a : dU) (b : Nat) : Prop := ((nth y.bins b).first.lo ≤ nth a.first b ∧ nth a.first b ≤ (nth y.bins b).first.hi) ∧ ∀ t : Nat, t ≤ y.D → 0 ≤ cR y a b t ∧ cR y a b t ≤ (nth y.bins b).holds
theorem Ln (hb : b < y.bins.length) (h : (!rJ (nth a.first b) (nth y.bins b).first.lo (nth y.bins b).first.hi || !(nth (gy y a) b).all (fun n => rJ n 0 (nth y.bins b).holds)) = true) : jk y a = false := iG fun hf => by
 rw [Bool.or_eq_true, Bool.not_eq_true', Bool.not_eq_true'] at h
 rcases h with h | h
 ·rw [dJ.2 (hf.first b hb)] at h; cases h
 rw [tW hb, EM.2 fun t ht => hf.cont b t hb ht] at h; cases h
theorem KR (hb : b < y.bins.length) (h : (!rJ (nth a.first b) (nth y.bins b).first.lo (nth y.bins b).first.hi || !(nth (gy y a) b).all (fun n => rJ n 0 (nth y.bins b).holds)) = false) : HT y a b := by
 rw [Bool.or_eq_false_iff, Bool.not_eq_false', Bool.not_eq_false'] at h
 rw [tW hb] at h
 exact ⟨dJ.1 h.1, EM.1 h.2⟩
theorem MK (hk : k < y.moves.length) (h : (!rJ (nth a.bT k) (nth y.moves k).sacks.lo (nth y.moves k).sacks.hi) = true) : jk y a = false := iG fun hf => by
 rw [Bool.not_eq_true'] at h
 rw [dJ.2 (hf.bT k hk)] at h; cases h
theorem JL (h : (!rJ (nth a.bT k) (nth y.moves k).sacks.lo (nth y.moves k).sacks.hi) = false) : (nth y.moves k).sacks.lo ≤ nth a.bT k ∧ nth a.bT k ≤ (nth y.moves k).sacks.hi := dJ.1 (by simpa using h)
def G6 (y : bB) (a : dU) (l : Level) : Bool := rJ (cR y a l.bin.toNat l.day.toNat) l.sacks.lo l.sacks.hi
theorem JC (hl : wh y a) (h1 : ∀ b, b < y.bins.length → HT y a b) (h2 : ∀ k, k < y.moves.length → (nth y.moves k).sacks.lo ≤ nth a.bT k ∧ nth a.bT k ≤ (nth y.moves k).sacks.hi) : y.levels.all (G6 y a) = jk y a := by
  cases e : y.levels.all (G6 y a) with
  | true => exact (lN ⟨hl, fun b hb => (h1 b hb).1, fun b t hb ht => (h1 b hb).2 t ht, h2, fun i hi _ => dJ.1 (List.all_eq_true.1 e _ (cV hi))⟩).symm
  | false =>
    refine (iG fun hf => ?_).symm
    rw [List.all_eq_false] at e
    obtain ⟨l, hl', h⟩ := e
    obtain ⟨i, hi, rfl⟩ := mN hl'
    exact h (dJ.2 (hf.level i hi rfl))
end
attribute [local irreducible] cR iI gy q8 tI lB xY Ah jk bZ
attribute [local irreducible] iP fV m6 qX ig iw ia ij ir qN iy qQ eA ga qU gS qM nth fX dy aj dx bodyPost Exit.then Exit.inBlock Code.wp Code.wpIn qO iz qT qR iZ eR cW cZ bodyPostM eH
set_option maxRecDepth 100000 in
theorem IW (n : Int) : dx Tryz.prog 157 [Ty.int .i64 n] (Ty.bool (JD n)) := by
 refine au Tryz.func157 rfl (by decide) Tryz.ntmps157 (by exact Nat.le_of_ble_eq_true rfl) fun w0 M0 => ?_
 refine aE (aA (dY rfl (aD (aC (aE (aA (bM rfl (aa (qS _ _ _) rfl rfl rfl rfl rfl (dY rfl ?_)))))))))
 refine aD (aC (az (bq rfl rfl ?_)))
 all_goals exact cC rfl rfl
 all_goals trace_state
set_option maxRecDepth 100000 in
theorem Ce (y : bB) (hs : y.Small) (a : dU) (h1 : a.first.length ≤ 1000) (h2 : a.bT.length ≤ 1000) : dx Tryz.prog 74 [fH y, kr a] (Ty.jv [Ty.sl uh (xY y a), Ty.int .i64 (lB y a)]) := by
 refine au Tryz.func74 rfl (by decide) Tryz.ntmps74 (by exact Nat.le_of_ble_eq_true rfl) fun w0 M0 => ?_
 have g1 := hs.bins
 have g2 := hs.moves
 refine aE (aA (bJ rfl (bJ rfl (mF rfl (cB rfl (aD (aC (aE (aA ?_)))))))))
 refine Nw rfl (aD (aC (aE (aA ?_))))
 refine aY rfl rfl rfl (by exact Nat.le_of_ble_eq_true rfl) ?_
 refine aa (jf y hs) rfl rfl rfl rfl rfl (cB rfl (aD (aC (aE (ah (aE (aA (bM rfl (bE rfl rfl rfl ?_)))))))))
 refine dY rfl (aD (aC ?_))
 refine cv rfl (fun hc1 => ?_) (fun hc1 => ?_)
 ·
  refine aE (aA (bM rfl (mF rfl (cB rfl (aD (aC (az (bD (aV ?_)))))))))
  refine fD rfl rfl rfl ?_ ?_
  all_goals skip
  all_goals first | exact fJ (Kg hc1).2.symm | exact ay rfl rfl (congrArg (Ty.int .i64) (Kg hc1).1)
 refine aE (aA ?_)
 refine aM rfl rfl rfl rfl rfl (by decide) ?_
 refine aK rfl rfl rfl rfl (cx rfl rfl rfl ?_)
 refine aM rfl rfl rfl rfl rfl (by decide) ?_
 refine aK rfl rfl rfl rfl (cx rfl rfl rfl (bE rfl rfl rfl (gU rfl ?_)))
 apply aS (s := 22) rfl rfl rfl
 ·intro hg; apply aT; (refine aM rfl rfl rfl rfl rfl (by decide) ?_); refine aD ?_; exact rfl
 ·exact rfl
 ·exact rfl
 apply aS (s := 22) rfl rfl rfl
 ·intro hg; apply aO (s := 23) rfl (by (rw [hg]; rfl)); apply aT; (refine aK rfl rfl rfl rfl ?_); refine aD ?_; exact rfl
 ·exact rfl
 ·exact rfl
 apply aS (s := 22) rfl rfl rfl
 ·intro hg; apply aO (s := 24) rfl (by (rw [hg]; rfl)); apply aT; (refine cx rfl rfl rfl ?_); refine aD ?_; exact rfl
 ·exact rfl
 ·exact rfl
 apply aS (s := 22) rfl rfl rfl
 ·intro hg; apply aT; (refine aM rfl rfl rfl rfl rfl (by decide) ?_); refine aD ?_; exact rfl
 ·exact rfl
 ·exact rfl
 apply aS (s := 22) rfl rfl rfl
 ·intro hg; apply aO (s := 26) rfl (by (rw [hg]; rfl)); apply aT; (refine aK rfl rfl rfl rfl ?_); refine aD ?_; exact rfl
 ·exact rfl
 ·exact rfl
 apply aS (s := 22) rfl rfl rfl
 ·intro hg; apply aO (s := 27) rfl (by (rw [hg]; rfl)); apply aT; (refine cx rfl rfl rfl ?_); refine aD ?_; exact rfl
 ·exact rfl
 ·exact rfl
 apply aS (s := 22) rfl rfl rfl
 ·intro hg; apply aO (s := 25) rfl (by (rw [hg]; rfl)); apply aO (s := 28) rfl (by (rw [hg]; rfl)); apply aT; (refine bE rfl rfl rfl ?_); refine aD ?_; exact rfl
 ·exact rfl
 ·exact rfl
 refine kj rfl rfl (dY rfl (aD (aC ?_)))
 refine cY rfl (fun hc2 => ?_) (fun hc2 => ?_)
 ·
  refine aE ?_
  have hl2 : q8 y a = true := by unfold q8; exact hc2
  refine aA (mF rfl (cB rfl (aD (aC (az (bD (aV ?_)))))))
  refine fD rfl rfl rfl ?_ ?_
  all_goals skip
  all_goals first | exact fJ (Ke hc1 hl2).2.symm | exact ay rfl rfl (congrArg (Ty.int .i64) (Ke hc1 hl2).1)
 refine aE ?_
 have hl2 : q8 y a = false := by unfold q8; exact hc2
 refine aA ?_
 refine aM rfl rfl rfl rfl rfl (by decide) ?_
 refine aK rfl rfl rfl rfl (MT rfl ?_)
 refine aa (pK a.first (Ty.jc 157 []) rfl JD rfl rfl fun n _ => dN (IW n) rfl rfl rfl rfl rfl rfl) rfl rfl rfl rfl rfl ?_
 refine dM rfl (gU rfl ?_)
 apply aS (s := 37) rfl rfl rfl
 ·intro hg; apply aT; (refine aM rfl rfl rfl rfl rfl (by decide) ?_); refine aD ?_; exact rfl
 ·exact rfl
 ·exact rfl
 apply aS (s := 37) rfl rfl rfl
 ·intro hg; apply aO (s := 38) rfl (by (rw [hg]; rfl)); apply aT; (refine aK rfl rfl rfl rfl ?_); refine aD ?_; exact rfl
 ·exact rfl
 ·exact rfl
 apply aS (s := 37) rfl rfl rfl
 ·intro hg; apply aT; (refine MT rfl ?_); refine aD ?_; exact rfl
 ·exact rfl
 ·exact rfl
 apply aS (s := 37) rfl rfl rfl
 ·intro hg; apply aO (s := 39) rfl (by (rw [hg]; rfl)); apply aO (s := 40) rfl (by (rw [hg]; rfl)); apply aT; (refine aa (pK a.bT (Ty.jc 157 []) rfl JD rfl rfl fun n _ => dN (IW n) rfl rfl rfl rfl rfl rfl) rfl rfl rfl rfl rfl ?_); refine aD ?_; exact rfl
 ·exact rfl
 ·exact rfl
 apply aS (s := 37) rfl rfl rfl
 ·intro hg; apply aO (s := 41) rfl (by (rw [hg]; rfl)); apply aT; (refine dM rfl ?_); refine aD ?_; exact rfl
 ·exact rfl
 ·exact rfl
 refine kj rfl rfl (dY rfl (aD (aC ?_)))
 refine cY rfl (fun hc3 => ?_) (fun hc3 => ?_)
 ·
  refine aE ?_
  have hr3 : tI a = true := by unfold tI; exact hc3
  refine aA (mF rfl (cB rfl (aD (aC (az (bD (aV ?_)))))))
  refine fD rfl rfl rfl ?_ ?_
  all_goals skip
  all_goals first | exact fJ (Kf hc1 hl2 hr3).2.symm | exact ay rfl rfl (congrArg (Ty.int .i64) (Kf hc1 hl2 hr3).1)
 refine ak (bW (aC (aE ?_)))
 have hr3 : tI a = false := by unfold tI; exact hc3
 have hr := c9 hc1
 have ha := Ag hl2 hr3
 refine aA ?_
 refine aY rfl rfl rfl (by exact Nat.le_of_ble_eq_true rfl) ?_
 refine aY rfl rfl rfl (by exact Nat.le_of_ble_eq_true rfl) ?_
 refine aa (J6 y a hr ha) rfl rfl rfl rfl rfl (Bs rfl (cB rfl (aD (aC (az ?_)))))
 refine fD rfl rfl rfl ?_ ?_
 all_goals skip
 all_goals first | exact ay rfl rfl (congrArg (Ty.sl uh) (ED hc1 hl2 hr3).2) | exact ay rfl rfl (congrArg (Ty.int .i64) (ED hc1 hl2 hr3).1)
set_option maxRecDepth 100000 in
theorem wK (n : Int) (s : Span) : dx Tryz.prog 159 [Ty.int .i64 n, Ty.agg (dV.tys s)] (Ty.bool (rJ n s.lo s.hi)) := by
 refine au Tryz.func159 rfl (by decide) Tryz.ntmps159 (by exact Nat.le_of_ble_eq_true rfl) fun w0 M0 => ?_
 refine aE (aA (bJ rfl (dY rfl (aD (aC (aE (aA (bM rfl ?_))))))))
 refine aM rfl rfl rfl rfl rfl (by decide) ?_
 refine aK rfl rfl rfl rfl ?_
 refine aM rfl rfl rfl rfl rfl (by decide) ?_
 refine aK rfl rfl rfl rfl (aa (qS _ _ _) rfl rfl rfl rfl rfl (dY rfl (aD (aC (az (bq rfl rfl ?_))))))
 all_goals exact cC rfl rfl
set_option maxRecDepth 100000 in
theorem Jc (n : Int) (x : ve) : dx Tryz.prog 160 [Ty.int .i64 n, Ty.pp (eU.tys x)] (Ty.bool (rJ n 0 x.holds)) := by
 refine au Tryz.func160 rfl (by decide) Tryz.ntmps160 (by exact Nat.le_of_ble_eq_true rfl) fun w0 M0 => ?_
 refine aE (aA (dY rfl (aD (aC (aE (aA (bM rfl ?_)))))))
 refine aM rfl rfl rfl rfl rfl (by decide) ?_
 refine aK rfl rfl rfl rfl (aa (qS _ _ _) rfl rfl rfl rfl rfl (dY rfl (aD (aC (az (bq rfl rfl ?_))))))
 all_goals exact cC rfl rfl
 all_goals trace_state
set_option maxRecDepth 100000 in
theorem J7 (y : bB) (a : dU) (b t : Nat) (s : Span) (hb : b < y.bins.length) (ht : t ≤ y.D) : dx Tryz.prog 161 [Ty.agg (ef.tys ⟨((t : Nat) : Int), ((b : Nat) : Int), s⟩), Ty.pp [Ty.sl uh (gy y a)]] (Ty.bool (G6 y a ⟨((t : Nat) : Int), ((b : Nat) : Int), s⟩)) := by
 refine au Tryz.func161 rfl (by decide) Tryz.ntmps161 (by exact Nat.le_of_ble_eq_true rfl) fun w0 M0 => ?_
 have hml := yl (y := y) (a := a)
 have hmn := tW (y := y) (a := a) hb
 have hrl := kN (y := y) (a := a) (b := b) (d := y.D)
 have hrn := Be (y := y) (a := a) (b := b) (k := t) ht
 have hrl2 : (nth (gy y a) b).length = y.D + 1 := by rw [hmn]; exact hrl
 refine aE (aA (bJ rfl (dY rfl (aD (aC (aE (cM mixed rfl (aK rfl rfl rfl rfl ?_))))))))
 refine aM rfl rfl rfl rfl rfl (by decide) ?_
 refine aK rfl rfl rfl rfl ?_
 refine bI rfl rfl rfl rfl rfl rfl (by omega) ?_
 refine aK rfl rfl rfl rfl ?_
 refine aM rfl rfl rfl rfl rfl (by decide) ?_
 refine aK rfl rfl rfl rfl ?_
 refine bI rfl rfl rfl rfl rfl rfl (by omega) ?_
 refine aK rfl rfl rfl rfl ?_
 refine aM rfl rfl rfl rfl rfl (by decide) ?_
 refine aY rfl rfl rfl (by exact Nat.le_of_ble_eq_true rfl) ?_
 refine aa (wK _ _) rfl rfl rfl rfl rfl (dY rfl (aD ?_))
 refine ⟨by kernel_rfl, ?_⟩
 refine aC (az (bq rfl rfl ?_))
 all_goals skip
 all_goals exact ay rfl rfl (congrArg Ty.bool (by unfold G6; rw [hmn, hrn]; rfl))
set_option maxRecDepth 100000 in
theorem LB (y : bB) (hs : y.Small) (a : dU) (h1 : a.first.length ≤ 1000) (h2 : a.bT.length ≤ 1000) : dx Tryz.prog 75 [fH y, kr a] (Ty.jv [Ty.bool (Ah y a), Ty.int .i64 (lB y a)]) := by
 refine au Tryz.func75 rfl (by decide) Tryz.ntmps75 (by exact Nat.le_of_ble_eq_true rfl) fun w0 M0 => ?_
 have g1 := hs.bins
 have g2 := hs.moves
 refine aE (aA (bJ rfl (bJ rfl (dY rfl (cB rfl (aD (aC (aE (aA ?_)))))))))
 refine aY rfl rfl rfl (by exact Nat.le_of_ble_eq_true rfl) ?_
 refine aY rfl rfl rfl (by exact Nat.le_of_ble_eq_true rfl) ?_
 refine aa (Ce y hs a h1 h2) rfl rfl rfl rfl rfl (rH rfl (bS rfl rfl (bS rfl rfl ?_)))
 refine b8 rfl (by exact List.cons_ne_nil _ _) rfl ?_
 refine ct rfl rfl (by decide) rfl rfl (by exact (rfl : _ = Ty.sl _ _)) rfl (by exact Nat.le_of_ble_eq_true rfl) rfl rfl (by exact (rfl : _ = [_])) ?_
 refine cB rfl (aD (aC (aE (aE (aA (bM rfl (bE rfl rfl rfl (aD (aC ?_)))))))))
 refine cv rfl (fun hc1 => ?_) (fun hc1 => ?_)
 ·
  refine aE (aA (bM rfl (dY rfl (cB rfl (aD (aC (az (aV ?_))))))))
  refine fD rfl rfl rfl ?_ ?_
  all_goals first | exact cC rfl rfl | skip
  all_goals exact ay rfl rfl (congrArg Ty.bool (Nr hc1))
 refine ak (aC (aE (aE ?_)))
 have hce : lB y a = 0 := hc1
 obtain ⟨hr, ha⟩ := L8 hce
 have hv := (ED (lP hr) (show q8 y a = false by unfold q8; rw [decide_eq_true (show (a.first.length : Int) = y.bins.length by have := ha.lens.first; omega), decide_eq_true (show (a.bT.length : Int) = y.moves.length by have := ha.lens.bT; omega)]; rfl) (by unfold tI; rw [show a.first.all JD = true from List.all_eq_true.2 fun x hx => dJ.2 (ha.first x hx), show a.bT.all JD = true from List.all_eq_true.2 fun x hx => dJ.2 (ha.bT x hx)]; rfl)).2
 have hlf := ha.lens.first
 have hlm := ha.lens.bT
 have hml := yl (y := y) (a := a)
 refine fK (tg := 7) rfl (Cont.eB (l' := [Ty.sl uh (gy y a)]) ⟨Ty.gq hv.symm, trivial⟩) ?_
 refine jY (tg := 7) [(6, Ty.pp [Ty.sl uh (gy y a)])] (by decide) rfl ⟨kD (T := 130) (off := 0) (l := [Ty.sl uh (gy y a)]) rfl rfl rfl (by decide), trivial⟩ ?_
 refine aA ?_
 refine aM rfl rfl rfl rfl rfl (by decide) ?_
 refine aK rfl rfl rfl rfl (cx rfl rfl rfl (bM rfl (aD (aC (ah ?_)))))
 refine cU (fun (k : {k : Nat // k ≤ y.bins.length ∧ ∀ b, b < k → HT y a b}) => live [(2, Ty.pp (bk y)), (3, Ty.pp (dP a)), (6, Ty.pp [Ty.sl uh (gy y a)]), (22, Ty.sl eU y.bins), (23, Ty.int .i64 y.bins.length), (24, Ty.int .i64 (k.1 : Nat))] []) (fun k => y.bins.length - k.1) (⟨0, Nat.zero_le _, fun b h => absurd h (Nat.not_lt_zero b)⟩) ?_ fun k => ?_
 ·(refine dD.mk' ?_ ?_ <;> (repeat' (first | exact aH | exact aI | refine aB ?_ (Ty.aW _) | refine aB ?_ (Ty.aF _))))
 have hk := k.2.1
 refine aE (aA (bE rfl rfl rfl (aD (aC (aE ?_)))))
 refine av rfl (fun hc2 => ?_) (fun hc2 => ?_)
 ·
  refine ak (aC (aE (ah (aE (aA (bM rfl ?_))))))
  refine bI rfl rfl rfl rfl rfl rfl (by omega) ?_
  refine aY rfl rfl rfl (by exact Nat.le_of_ble_eq_true rfl) ?_
  refine b8 rfl (by exact List.cons_ne_nil _ _) rfl ?_
  refine cB rfl ?_
  refine bp rfl rfl (by decide) rfl rfl rfl rfl rfl rfl ?_
  refine aD (aC (aE ?_))
  refine jY (tg := 10) [(9, Ty.pp (eU.tys (nth y.bins k.1)))] (by decide) rfl ⟨kD (T := 39) (off := 0) (l := eU.tys (nth y.bins k.1)) rfl rfl rfl (by decide), trivial⟩ ?_
  refine cM mixed rfl ?_
  refine aM rfl rfl rfl rfl rfl (by decide) ?_
  refine aK rfl rfl rfl rfl (bM rfl ?_)
  refine bI rfl rfl rfl rfl rfl rfl (by omega) ?_
  refine aK rfl rfl rfl rfl ?_
  refine aM rfl rfl rfl rfl rfl (by decide) ?_
  refine aY rfl rfl rfl (by exact Nat.le_of_ble_eq_true rfl) ?_
  refine aa (wK _ _) rfl rfl rfl rfl rfl (dM rfl (gU rfl ?_))
  apply aS (s := 38) rfl rfl rfl
  ·intro hg; apply aT; (refine aK rfl rfl rfl rfl ?_); refine aD ?_; exact rfl
  ·exact rfl
  ·exact rfl
  apply aS (s := 38) rfl rfl rfl
  ·intro hg; apply aT; (refine bM rfl ?_); refine aD ?_; exact rfl
  ·exact rfl
  ·exact rfl
  apply aS (s := 38) rfl rfl rfl
  ·intro hg; apply aO (s := 39) rfl (by (rw [hg]; rfl)); apply aO (s := 40) rfl (by (rw [hg]; rfl)); apply aT; (refine bI rfl rfl rfl rfl rfl rfl (by omega) ?_); refine aD ?_; exact rfl
  ·exact rfl
  ·exact rfl
  apply aS (s := 38) rfl rfl rfl
  ·intro hg; apply aO (s := 41) rfl (by (rw [hg]; rfl)); apply aT; (refine aK rfl rfl rfl rfl ?_); refine aD ?_; exact rfl
  ·exact rfl
  ·exact rfl
  apply aS (s := 38) rfl rfl rfl
  ·intro hg; apply aT; (refine dH rfl ?_); refine aD ?_; exact rfl
  ·exact rfl
  ·exact rfl
  apply aS (s := 38) rfl rfl rfl
  ·intro hg; apply aO (s := 42) rfl (by (rw [hg]; rfl)); apply aO (s := 43) rfl (by (rw [hg]; rfl)); apply aT; (refine aa (pK (nth (gy y a) k.1) (Ty.jc 160 [Ty.pp (eU.tys (nth y.bins k.1))]) rfl (fun n => rJ n 0 (nth y.bins k.1).holds) rfl rfl fun n _ => dN (Jc n (nth y.bins k.1)) rfl rfl rfl rfl rfl rfl) rfl rfl rfl rfl rfl ?_); refine aD ?_; exact rfl
  ·exact rfl
  ·exact rfl
  apply aS (s := 38) rfl rfl rfl
  ·intro hg; apply aO (s := 44) rfl (by (rw [hg]; rfl)); apply aT; (refine dM rfl ?_); refine aD ?_; exact rfl
  ·exact rfl
  ·exact rfl
  refine kj rfl rfl (aD ?_)
  refine ⟨by kernel_rfl, ?_⟩
  refine aC ?_
  refine cY rfl (fun hc3 => ?_) (fun hc3 => ?_)
  ·
   refine aE (aA (dY rfl (cB rfl (aD (aC (az (bD (aV (aV ?_)))))))))
   refine bD (aV ?_)
   refine fD rfl rfl rfl ?_ ?_
   all_goals skip
   all_goals first | exact ay rfl rfl (congrArg Ty.bool ((Ln (b := k.1) (by omega) hc3).symm.trans (EY hce))) | exact ay rfl rfl (congrArg (Ty.int .i64) hce.symm)
  refine ak (bW (aC (aA ?_)))
  refine bz rfl rfl (by omega) (by omega) ?_
  refine bM rfl (aD ?_)
  refine bf (⟨k.1 + 1, by omega, fun b h => (Nat.lt_succ_iff_lt_or_eq.1 h).elim (k.2.2 b) fun e => by subst e; exact KR (by omega) hc3⟩) ?_ (by show y.bins.length - (k.1 + 1) < y.bins.length - k.1; omega)
  (refine dD.mk' ?_ ?_ <;> (repeat' (first | exact aH | exact aI | refine aB ?_ (Ty.aW _) | refine aB ?_ (Ty.aF _))))
  all_goals skip
 refine cT (aR (aR (aq rfl (aC (aE (aE (aA ?_)))))))
 refine aM rfl rfl rfl rfl rfl (by decide) ?_
 refine aK rfl rfl rfl rfl (cx rfl rfl rfl (bM rfl (aD (aC (ah ?_)))))
 refine cU (fun (m : {k : Nat // k ≤ y.moves.length ∧ ∀ i, i < k → (nth y.moves i).sacks.lo ≤ nth a.bT i ∧ nth a.bT i ≤ (nth y.moves i).sacks.hi}) => live [(2, Ty.pp (bk y)), (3, Ty.pp (dP a)), (6, Ty.pp [Ty.sl uh (gy y a)]), (49, Ty.sl dm y.moves), (50, Ty.int .i64 y.moves.length), (51, Ty.int .i64 (m.1 : Nat))] []) (fun m => y.moves.length - m.1) (⟨0, Nat.zero_le _, fun b h => absurd h (Nat.not_lt_zero b)⟩) ?_ fun m => ?_
 ·(refine dD.mk' ?_ ?_ <;> (repeat' (first | exact aH | exact aI | refine aB ?_ (Ty.aW _) | refine aB ?_ (Ty.aF _))))
 have hm := m.2.1
 refine aE (aA (bE rfl rfl rfl (aD (aC (aE ?_)))))
 refine av rfl (fun hc4 => ?_) (fun hc4 => ?_)
 ·
  refine ak (aC (aE (ah (aE (aA (bM rfl ?_))))))
  refine bI rfl rfl rfl rfl rfl rfl (by omega) ?_
  refine aY rfl rfl rfl (by exact Nat.le_of_ble_eq_true rfl) ?_
  refine b8 rfl (by exact List.cons_ne_nil _ _) rfl ?_
  refine cB rfl ?_
  refine bp rfl rfl (by decide) rfl rfl rfl rfl rfl rfl ?_
  refine aD (aC (aE (cM mixed rfl ?_)))
  refine aM rfl rfl rfl rfl rfl (by decide) ?_
  refine aK rfl rfl rfl rfl (bM rfl ?_)
  refine bI rfl rfl rfl rfl rfl rfl (by omega) ?_
  refine aK rfl rfl rfl rfl ?_
  refine aL rfl rfl rfl rfl rfl (by decide) ?_
  refine bG rfl rfl (by decide) rfl rfl (by exact Nat.le_of_ble_eq_true rfl) ?_
  refine aa (wK _ _) rfl rfl rfl rfl rfl (dM rfl (aD ?_))
  refine ⟨by kernel_rfl, ?_⟩
  refine aC ?_
  refine cY rfl (fun hc5 => ?_) (fun hc5 => ?_)
  ·
   refine aE (aA (dY rfl (cB rfl (aD (aC (az (bD (aV (aV ?_)))))))))
   refine bD (aV ?_)
   refine fD rfl rfl rfl ?_ ?_
   all_goals skip
   all_goals first | exact ay rfl rfl (congrArg Ty.bool ((MK (k := m.1) (by omega) hc5).symm.trans (EY hce))) | exact ay rfl rfl (congrArg (Ty.int .i64) hce.symm)
  refine ak (bW (aC (aA ?_)))
  refine bz rfl rfl (by omega) (by omega) ?_
  refine bM rfl (aD ?_)
  refine bf (⟨m.1 + 1, by omega, fun i h => (Nat.lt_succ_iff_lt_or_eq.1 h).elim (m.2.2 i) fun e => by subst e; exact JL hc5⟩) ?_ (by show y.moves.length - (m.1 + 1) < y.moves.length - m.1; omega)
  (refine dD.mk' ?_ ?_ <;> (repeat' (first | exact aH | exact aI | refine aB ?_ (Ty.aW _) | refine aB ?_ (Ty.aF _))))
  all_goals skip
 refine cT (aR (aR (aq rfl (aC (aE (aA ?_))))))
 refine aM rfl rfl rfl rfl rfl (by decide) ?_
 refine aK rfl rfl rfl rfl (dH rfl ?_)
 refine aa (mK y.levels (Ty.jc 161 [Ty.pp [Ty.sl uh (gy y a)]]) rfl (G6 y a) rfl rfl fun l hl => by
  obtain ⟨q1, q2, _⟩ := hr.level l hl
  have hD := D_eq hr
  obtain ⟨ld, lb, ls⟩ := l
  obtain ⟨b, rfl⟩ : ∃ b : Nat, lb = b := ⟨lb.toNat, by have := q2.1; simp at this; omega⟩
  obtain ⟨t, rfl⟩ : ∃ t : Nat, ld = t := ⟨ld.toNat, by have := q1.1; simp at this; omega⟩
  exact dN (J7 y a b t ls (by have := q2.2; simp at this; omega) (by have := q1.2; simp at this; omega)) rfl rfl rfl rfl rfl rfl) rfl rfl rfl rfl rfl ?_
 refine dY rfl (cB rfl (aD (aC (az ?_))))
 refine fD rfl rfl rfl ?_ ?_
 all_goals skip
 all_goals first | exact ay rfl rfl (congrArg Ty.bool ((JC ha.lens (fun b hb => k.2.2 b (by omega)) (fun i hi => m.2.2 i (by omega))).trans (EY hce))) | exact ay rfl rfl (congrArg (Ty.int .i64) hce.symm)
end Go.Proofs.YtelbollidfdcjaaGreat
namespace Go.Proofs.YtelbollidfdcjaaGreat
open Go Go.T
set_option maxHeartbeats 8000000
theorem Ge {y : bB} {q : Int} (hr : y.cN) (h : (!y.time q) = false) : ∃ t : Nat, q = t ∧ t ≤ y.D := by
 have h : y.time q = true := by simpa using h
 unfold bB.time at h
 have h1 : 0 ≤ q ∧ q ≤ y.days := dJ.1 h
 have := D_eq hr
 exact ⟨q.toNat, by omega, by omega⟩
attribute [local irreducible] aP fT cO iX ql j3 lT bB.kept bB.cells bZ dO bP fL cy gQ bB.time Ct
attribute [local irreducible] iP fV m6 qX ig iw ia ij ir qN iy qQ eA ga qU gS qM nth fX dy aj dx bodyPost Exit.then Exit.inBlock Code.wp Code.wpIn qO iz qT qR iZ eR cW cZ bodyPostM eH
set_option maxRecDepth 100000 in
theorem KS (y : bB) (fl : List b9) (a : List Int) (hr : y.cN) (hfl : fl.length = y.bins.length * (y.D + 1) + y.moves.length) (hl : a.length = fl.length) : dx Tryz.prog 120 [Ty.pp (kQ y fl a)] (kr (fL y a)) := by
 refine au Tryz.func120 rfl (by decide) Tryz.ntmps120 (by exact Nat.le_of_ble_eq_true rfl) fun w0 M0 => ?_
 have h1 := hr.bins
 have h2 := hr.days
 have h3 := D_eq hr
 have h4 := hr.moves
 have h5 : y.bins.length * (y.D + 1) ≤ 4 * 6 := Nat.mul_le_mul h1.2 (by omega)
 refine aE (aA ?_)
 refine b8 rfl (by exact List.cons_ne_nil _ _) rfl ?_
 refine aD (aC (aE (aA ?_)))
 refine b8 rfl (by exact List.cons_ne_nil _ _) rfl ?_
 refine aD (aC (aE (aE (aA (iF rfl (bU rfl ?_))))))
 refine aM rfl rfl rfl rfl rfl (by decide) ?_
 refine aM rfl rfl rfl rfl rfl (by decide) ?_
 refine aK rfl rfl rfl rfl (cx rfl rfl rfl (bM rfl (aD (aC (ah ?_)))))
 refine cU (fun (k : {k : Nat // k ≤ y.bins.length}) => live [(0, Ty.pp (kQ y fl a)), (2, Ty.ptr 3 0), (3, Ty.ptr 4 0), (9, Ty.sl eU y.bins), (10, Ty.int .i64 y.bins.length), (11, Ty.int .i64 (k.1 : Nat))] [(3, Cont.cells 30 [Ty.ex (.slice none 0 0), Ty.ex (.slice none 0 0)]), (4, Cont.cells 30 [Ty.row cm 3 26 (gQ y a k.1), Ty.ex (.slice none 0 0)])]) (fun k => y.bins.length - k.1) (⟨0, by omega⟩) ?_ fun k => ?_
 ·(refine dD.mk' ?_ ?_ <;> (repeat' (first | exact aH | exact aI | exact dK | refine aB ?_ (Ty.aW _) | refine aB ?_ (Ty.aF _) | refine aG rfl (Cont.aF _) ?_ | refine aG rfl (Cont.dL ?_) ?_ | refine bY ?_ (Ty.aF _) | refine bY ?_ ?_)))
  all_goals exact A3 uH
 have hk := k.2
 have hfk := xB (y := y) (a := a) k.1
 refine aE (aA (bE rfl rfl rfl (aD (aC (aE ?_)))))
 refine av rfl (fun hc1 => ?_) (fun hc1 => ?_)
 ·
  refine ak (aC (aE (ah (aE (aA (bM rfl (cB rfl (aD (aC ?_)))))))))
  have hkl : y.kept k.1 0 < a.length := by have := mR (y := y) (t := 0) (show k.1 < y.bins.length by omega) (Nat.zero_le _); omega
  refine cM mixed rfl ?_
  refine aL rfl rfl rfl rfl rfl (by decide) ?_
  refine aU rfl rfl (by decide) rfl rfl rfl ?_
  refine iF rfl (bU rfl ?_)
  refine aM rfl rfl rfl rfl rfl (by decide) ?_
  refine aK rfl rfl rfl rfl (iF rfl (bM rfl ?_))
  refine dg [] (w6 y hr k.1 0 (by omega) (Nat.zero_le _)) rfl (aN (j5 (l1 := bk y) (l2 := [Ty.sl dZ fl, Ty.sl cm a]) rfl rfl) (aN (af (bF rfl rfl)) (aN (af (bF rfl rfl)) bh))) (by exact dF _ _) ?_
  refine bI rfl rfl rfl rfl rfl rfl (by omega) ?_
  refine aK rfl rfl rfl rfl ?_
  refine bt (E := cm) (xs := [_]) rfl rfl rfl rfl rfl (by decide) (by decide) (by repeat (first | exact (aX.nil : aX _ _ [] _) | (show aX _ _ ((_, _) :: _) _; apply aX.one; (· exact (rfl : _ = Ty.int _ _)); (· exact rfl)))) (by exact rfl) rfl ?_
  refine gH rfl rfl (by decide) rfl rfl rfl rfl rfl rfl (by decide) (by (simp <;> omega)) (by (simp <;> omega)) ?_
  refine aL rfl rfl rfl rfl rfl (by decide) ?_
  refine ct rfl rfl (by decide) rfl rfl (by exact (rfl : _ = Ty.row _ _ _ _)) rfl (by exact Nat.le_of_ble_eq_true rfl) rfl rfl (by exact rfl) ?_
  refine aD ?_
  refine ⟨by kernel_rfl, ?_⟩
  refine bW (aC (aA ?_))
  refine bz rfl rfl (by omega) (by omega) ?_
  refine bM rfl (aD ?_)
  refine bf (⟨k.1 + 1, by omega⟩) ?_ (by show y.bins.length - (k.1 + 1) < y.bins.length - k.1; omega)
  (refine dD.mk' ?_ ?_ <;> (repeat' (first | exact aH | exact aI | exact dK | refine aB ?_ (Ty.aW _) | refine aB ?_ (Ty.aF _) | refine aG rfl (Cont.aF _) ?_ | refine aG rfl (Cont.dL ?_) ?_ | refine bY ?_ (Ty.aF _) | refine bY ?_ ?_)))
  all_goals skip
  all_goals exact Ty.gG (uC _)
 refine cT (aR (aR (aq rfl (aC (aE (cM mixed rfl (iF rfl (bU rfl ?_))))))))
 refine aM rfl rfl rfl rfl rfl (by decide) ?_
 refine aK rfl rfl rfl rfl (iF rfl (bU rfl ?_))
 refine aM rfl rfl rfl rfl rfl (by decide) ?_
 refine aK rfl rfl rfl rfl (cx rfl rfl rfl (iF rfl (bU rfl ?_)))
 refine aM rfl rfl rfl rfl rfl (by decide) ?_
 refine aM rfl rfl rfl rfl rfl (by decide) ?_
 refine aK rfl rfl rfl rfl (cx rfl rfl rfl ?_)
 refine gL rfl rfl (by omega) (by omega) ?_
 refine CO (lo := y.bins.length * (y.D + 1)) rfl (by exact congrArg (Ty.int .i64) (by rw [hfl]; omega : (fl.length : Int) - (y.moves.length : Int) = ((y.bins.length * (y.D + 1) : Nat) : Int))) rfl rfl rfl rfl (by omega) ?_
 refine aa (uU _ (by rw [List.length_drop]; omega)) rfl rfl rfl rfl rfl ?_
 refine aL rfl rfl rfl rfl rfl (by decide) ?_
 refine ct rfl rfl (by decide) rfl rfl (by exact (rfl : _ = Ty.sl _ _)) rfl (by exact Nat.le_of_ble_eq_true rfl) rfl rfl (by exact rfl) ?_
 refine aD ?_
 refine ⟨by kernel_rfl, ?_⟩
 refine aC (aE (aA ?_))
 refine bG rfl rfl (by decide) rfl rfl (by exact Nat.le_of_ble_eq_true rfl) ?_
 refine bp rfl rfl (by decide) rfl rfl rfl rfl rfl rfl ?_
 refine aD (aC (az ?_))
 refine ux rfl rfl rfl rfl (by decide) rfl rfl rfl ?_
 exact zP (ts := dP (fL y a)) (lK (q6 (by decide) (show gQ y a k.1 = (fL y a).first by rw [show k.1 = y.bins.length by have := k.2; omega]; exact congrArg dU.first (told_eq y a))) (lK (ay rfl rfl (congrArg (Ty.sl cm) (congrArg dU.bT (told_eq y a)))) wE))
set_option maxRecDepth 100000 in
theorem I1 (y : bB) (hs : y.Small) (p q v : Int) : dx Tryz.prog 49 [fH y, Ty.int .i64 p, Ty.int .i64 q, Ty.int .i64 v] (Ty.jv [kr (lT y p q v), Ty.int .i64 (j3 y p q v)]) := by
 refine au Tryz.func49 rfl (by decide) Tryz.ntmps49 (by exact Nat.le_of_ble_eq_true rfl) fun w0 M0 => ?_
 refine aE (aA (bJ rfl ?_))
 refine b8 rfl (by exact List.cons_ne_nil _ _) rfl ?_
 refine cB rfl (aD (aC (aE (aE (aA ?_)))))
 refine aY rfl rfl rfl (by exact Nat.le_of_ble_eq_true rfl) ?_
 refine bM rfl (aa (vQ y hs p) rfl rfl rfl rfl rfl (cB rfl (aD (aC (aE (aA (bM rfl (bE rfl rfl rfl (aD ?_)))))))))
 refine aC ?_
 refine cv rfl (fun hc1 => ?_) (fun hc1 => ?_)
 ·
  refine aE (aA ?_)
  refine dG rfl rfl (by exact List.cons_ne_nil _ _) rfl (by repeat (exact (aX.nil : aX _ _ [] _))) (by exact (rfl : _ = some [_, _])) ?_
  refine bM rfl ?_
  refine bp rfl rfl (by decide) rfl rfl rfl rfl rfl rfl ?_
  refine cB rfl (aD (aC (az (aV ?_))))
  refine gF rfl rfl rfl rfl rfl (by decide) rfl rfl rfl ?_ ?_
  all_goals skip
  all_goals first | exact lG (Ko hc1).2 | exact ay rfl rfl (congrArg (Ty.int .i64) (Ko hc1).1)
 refine ak (aC (aE (aE (aA ?_))))
 refine aY rfl rfl rfl (by exact Nat.le_of_ble_eq_true rfl) ?_
 refine bM rfl (aa (IF y q) rfl rfl rfl rfl rfl (dM rfl (aD (aC ?_))))
 refine cY rfl (fun hc2 => ?_) (fun hc2 => ?_)
 ·
  refine aE (aA ?_)
  refine dG rfl rfl (by exact List.cons_ne_nil _ _) rfl (by repeat (exact (aX.nil : aX _ _ [] _))) (by exact (rfl : _ = some [_, _])) ?_
  refine bp rfl rfl (by decide) rfl rfl rfl rfl rfl rfl ?_
  refine cB rfl (aD (aC (az (aV ?_))))
  refine gF rfl rfl rfl rfl rfl (by decide) rfl rfl rfl ?_ ?_
  all_goals skip
  all_goals first | exact lG (K0 hc1 hc2).2 | exact ay rfl rfl (congrArg (Ty.int .i64) (K0 hc1 hc2).1)
 refine ak (aC (aE ?_))
 have hkn : dO y p = 0 := hc1
 have htq : (!y.time q) = false := hc2
 obtain ⟨hr, b, rfl, hb⟩ := Ek hkn
 obtain ⟨t, rfl, ht⟩ := Ge hr htq
 have hk := rO (c := nth bP) hb ht
 have hf34 : (aP y (nth bP)).length ≤ 34 := iV hr
 refine cM mixed rfl ?_
 refine aY rfl rfl rfl (by exact Nat.le_of_ble_eq_true rfl) ?_
 refine aa (qZ) rfl rfl rfl rfl rfl ?_
 refine cI (res' := Ty.pp (l9 y 2000 1000 (aP y (nth bP)).length (aP y (nth bP)).length)) [(2000, 23), (1000, 31)] [2000, 1000] [(2000, Cont.vec dZ 187 (aP y (nth bP))), (1000, Cont.vec cm 3 (fT (aP y (nth bP))))] (oY y hr bP jA) rfl rfl (aJ (aJ bO (aQ rfl rfl)) (aQ rfl rfl)) pre_nil (bN (a := 2000) (b := 23) (by decide) rfl (cA (by decide) rfl) (bN (a := 1000) (b := 31) (by decide) rfl (cA (by decide) rfl) post_nil)) (eo (aJ (aJ (aJ (aJ (aJ (aJ bO (eT (by decide))) (eT (by decide))) (aQ rfl rfl)) (aQ rfl rfl)) (aQ rfl rfl)) (aQ rfl rfl))) ?_
 refine It rfl (aD ?_)
 refine ⟨by kernel_rfl, ?_⟩
 refine aC (aE (aA (iF rfl (bM rfl (bM rfl ?_)))))
 refine dg [] (w6 y hr b t hb ht) rfl (aN (j5 (l1 := bk y) (l2 := [Ty.vs 2000 (aP y (nth bP)).length, Ty.vs 1000 (aP y (nth bP)).length]) rfl rfl) (aN (af (bF rfl rfl)) (aN (af (bF rfl rfl)) bh))) (by exact dF _ _) ?_
 refine cB rfl (aD (aC (aE (aE ?_))))
 refine dw (B := live [(3, Ty.int .i64 v), (8, Ty.ptr 9 0), (11, Ty.pp (l9 y 2000 1000 (aP y (nth bP)).length (aP y (nth bP)).length)), (12, Ty.int .i64 ((y.kept b t) : Nat))] [(9, Cont.cells 30 [Ty.ex (.slice none 0 0), Ty.ex (.slice none 0 0)]), (2000, Cont.vec dZ 187 (aP y (nth bP))), (1000, Cont.vec cm 3 (fT (aP y (nth bP))))]) ?_ ?_
 ·refine dD.mk' ?_ ?_
  ·(repeat (first | refine aB ?_ (Ty.aW _) | refine aB ?_ (Ty.aF _))); exact aH
  refine aG rfl (Cont.aF _) ?_; refine aG rfl (Cont.aF _) ?_; refine aG rfl (Cont.aF _) ?_; exact aI
 refine aA (iF rfl (bU rfl ?_))
 refine aM rfl rfl rfl rfl rfl (by decide) ?_
 refine aK rfl rfl rfl rfl (bM rfl ?_)
 refine dA rfl rfl rfl rfl rfl (by omega) ?_
 refine mM (E := dZ) (y.kept b t) rfl (by rfl) rfl (by decide) rfl rfl rfl (by omega) ?_
 refine b8 rfl (by exact List.cons_ne_nil _ _) rfl ?_
 refine bp rfl rfl (by decide) rfl rfl rfl rfl rfl rfl ?_
 refine aD (aC (aE (aA (bM rfl ?_))))
 refine aL rfl rfl rfl rfl rfl (by decide) ?_
 refine aU rfl rfl (by decide) rfl rfl rfl ?_
 refine aL rfl rfl rfl rfl rfl (by decide) ?_
 refine aU rfl rfl (by decide) rfl rfl rfl ?_
 refine aa (qS _ _ _) rfl rfl rfl rfl rfl (dM rfl (aD (aC ?_)))
 refine cY rfl (fun hc3 => ?_) (fun hc3 => ?_)
 ·
  refine aE ?_
  have hv5 : (!Ct y b t v) = true := by unfold Ct; exact hc3
  have e3 : 6 = j3 y ((b : Nat) : Int) ((t : Nat) : Int) v ∧ (⟨[], []⟩ : dU) = lT y ((b : Nat) : Int) ((t : Nat) : Int) v := Ka hkn htq hv5
  refine aA ?_
  refine dG rfl rfl (by exact List.cons_ne_nil _ _) rfl (by repeat (exact (aX.nil : aX _ _ [] _))) (by exact (rfl : _ = some [_, _])) ?_
  refine bp rfl rfl (by decide) rfl rfl rfl rfl rfl rfl ?_
  refine cB rfl (aD (aC (az (aV ?_))))
  refine gF rfl rfl rfl rfl rfl (by decide) rfl rfl rfl ?_ ?_
  all_goals skip
  all_goals first | exact lG (e3).2 | exact ay rfl rfl (congrArg (Ty.int .i64) (e3).1)
 refine ak (aC (aE ?_))
 have hv3 : Ct y b t v = true := by unfold Ct; exact fY hc3
 have hv4 : (!Ct y b t v) = false := by rw [hv3]; rfl
 refine dw (B := live [(3, Ty.int .i64 v), (8, Ty.ptr 9 0), (11, Ty.pp (l9 y 2000 1000 (aP y (nth bP)).length (aP y (nth bP)).length)), (12, Ty.int .i64 ((y.kept b t) : Nat))] [(9, Cont.cells 30 [Ty.ex (.slice none 0 0), Ty.ex (.slice none 0 0)]), (2000, Cont.vec dZ 187 (aP y (nth bP))), (1000, Cont.vec cm 3 (fT (aP y (nth bP))))]) ?_ ?_
 ·refine dD.mk' ?_ ?_
  ·(repeat (first | refine aB ?_ (Ty.aW _) | refine aB ?_ (Ty.aF _))); exact aH
  refine aG rfl (Cont.aF _) ?_; refine aG rfl (Cont.aF _) ?_; refine aG rfl (Cont.aF _) ?_; exact aI
 refine cM mixed rfl (iF rfl (bU rfl ?_))
 refine aM rfl rfl rfl rfl rfl (by decide) ?_
 refine aK rfl rfl rfl rfl (bM rfl (iF rfl (bU rfl ?_)))
 refine aM rfl rfl rfl rfl rfl (by decide) ?_
 refine aK rfl rfl rfl rfl (bM rfl (iF rfl (bU rfl ?_)))
 refine aM rfl rfl rfl rfl rfl (by decide) ?_
 refine aK rfl rfl rfl rfl (bM rfl (bM rfl (bM rfl (bM rfl ?_))))
 refine dA rfl rfl rfl rfl rfl (by omega) ?_
 refine aL rfl rfl rfl rfl rfl (by decide) ?_
 refine ni (E := dZ) (i := (y.kept b t)) (o := 2) (s := 4) (z := ⟨(nth (aP y (nth bP)) (y.kept b t)).src, (nth (aP y (nth bP)) (y.kept b t)).dst, v, (nth (aP y (nth bP)) (y.kept b t)).hi⟩) rfl rfl rfl (by decide) rfl rfl rfl rfl (by omega) (by decide) rfl rfl ?_
 refine dA rfl rfl rfl rfl rfl (by omega) ?_
 refine aL rfl rfl rfl rfl rfl (by decide) ?_
 refine ni (E := dZ) (i := (y.kept b t)) (o := 3) (s := 4) (z := ⟨(nth (aP y (nth bP)) (y.kept b t)).src, (nth (aP y (nth bP)) (y.kept b t)).dst, v, v⟩) rfl rfl rfl (by decide) rfl rfl rfl rfl (by rw [List.length_set]; omega) (by decide) rfl (by rw [iJ (by omega), if_pos rfl]; rfl) ?_
 refine dA rfl rfl rfl rfl rfl (by omega) ?_
 refine iU (E := cm) (i := (y.kept b t)) (z := v) rfl rfl rfl (by decide) rfl rfl rfl rfl (by rw [show (fT (aP y (nth bP))).length = (aP y (nth bP)).length by unfold fT; rw [List.length_map]]; omega) (by decide) rfl rfl ?_
 refine aD ?_
 refine ⟨by kernel_rfl, ?_⟩
 refine aC (aE (aE ?_))
 refine fK (tg := 2000) rfl (Cont.eP (show _ = (iX y b t v) by rw [List.set_set]; unfold iX jM; rfl)) ?_
 refine fK (tg := 1000) rfl (Cont.eP (show _ = fT (iX y b t v) by unfold iX; exact Jl)) ?_
 have hFl : (iX y b t v).length = (aP y (nth bP)).length := wD
 refine dw (B := live [(8, Ty.ptr 9 0), (11, Ty.pp (l9 y 2000 1000 (aP y (nth bP)).length (aP y (nth bP)).length))] [(9, Cont.cells 30 [Ty.ex (.slice none 0 0), Ty.ex (.slice none 0 0)]), (2000, Cont.vec dZ 187 (iX y b t v)), (1000, Cont.vec cm 3 (fT (iX y b t v)))]) ?_ ?_
 ·refine dD.mk' ?_ ?_
  ·(repeat (first | refine aB ?_ (Ty.aW _) | refine aB ?_ (Ty.aF _))); exact aH
  refine aG rfl (Cont.aF _) ?_; refine aG rfl (Cont.aF _) ?_; refine aG rfl (Cont.aF _) ?_; exact aI
 refine gX (s := 11) rfl (Ty.sub_eq (show Ty.pp (l9 y 2000 1000 (aP y (nth bP)).length (aP y (nth bP)).length) = Ty.pp (l9 y 2000 1000 (iX y b t v).length (iX y b t v).length) by rw [hFl])) ?_
 refine jY (tg := 2000) [(11, Ty.pp (eF y (iX y b t v) 1000 (iX y b t v).length))] (by decide) rfl ⟨tJ rfl ⟨bg rfl, bg rfl, bg rfl, bg rfl, kM rfl rfl (by decide), bg rfl, trivial⟩, trivial⟩ ?_
 have hR := xm hr hb ht hv3
 refine dw (B := live [(8, Ty.ptr 9 0), (11, Ty.pp (eF y (iX y b t v) 1000 (iX y b t v).length))] [(9, Cont.cells 30 [Ty.ex (.slice none 0 0), Ty.ex (.slice none 0 0)]), (1000, Cont.vec cm 3 (fT (iX y b t v)))]) ?_ ?_
 ·refine dD.mk' ?_ ?_
  ·(repeat (first | refine aB ?_ (Ty.aW _) | refine aB ?_ (Ty.aF _))); exact aH
  refine aG rfl (Cont.aF _) ?_; refine aG rfl (Cont.aF _) ?_; exact aI
 refine aA (iF rfl ?_)
 refine cI [(1000, 1000)] [] [(1000, Cont.vec cm 3 (cO (iX y b t v) (y.cells + 1) (fT (iX y b t v))).2.2)] (mA y (iX y b t v) (fT (iX y b t v)) hR) rfl rfl (aJ bO (eo (aJ (aJ (aJ (aJ (aJ (aJ bO (eT (by exact List.mem_cons_self))) (aQ rfl rfl)) (aQ rfl rfl)) (aQ rfl rfl)) (aQ rfl rfl)) (aQ rfl rfl)))) (cF (a := 1000) (b := 1000) (by exact List.mem_cons_self) rfl (cA (by exact List.mem_cons_self) rfl) pre_nil) (bN (a := 1000) (b := 1000) (by decide) rfl (cA (by decide) rfl) post_nil) (aQ rfl rfl) ?_
 refine dM rfl (aD (aC ?_))
 refine cY rfl (fun hc4 => ?_) (fun hc4 => ?_)
 ·
  refine aE ?_
  have hx4 : (ql y b t v).2.1 = true := by unfold ql; exact zk hc4
  have e4 : 6 = j3 y ((b : Nat) : Int) ((t : Nat) : Int) v ∧ (⟨[], []⟩ : dU) = lT y ((b : Nat) : Int) ((t : Nat) : Int) v := Kl hkn htq hv4 hx4
  refine aA ?_
  refine dG rfl rfl (by exact List.cons_ne_nil _ _) rfl (by repeat (exact (aX.nil : aX _ _ [] _))) (by exact (rfl : _ = some [_, _])) ?_
  refine bp rfl rfl (by decide) rfl rfl rfl rfl rfl rfl ?_
  refine cB rfl (aD (aC (az (aV ?_))))
  refine gF rfl rfl rfl rfl rfl (by decide) rfl rfl rfl ?_ ?_
  all_goals skip
  all_goals first | exact lG (e4).2 | exact ay rfl rfl (congrArg (Ty.int .i64) (e4).1)
 refine ak (aC (aE ?_))
 have hx5 : (ql y b t v).2.1 = false := by unfold ql; exact xx hc4
 have e5 : 0 = j3 y ((b : Nat) : Int) ((t : Nat) : Int) v ∧ fL y (ql y b t v).2.2 = lT y ((b : Nat) : Int) ((t : Nat) : Int) v := K1 hkn htq hv4 hx5
 unfold ql at e5
 have hfe := nE hR.net hR.inb (show (cO (iX y b t v) (y.cells + 1) (fT (iX y b t v))).2.1 = false from xx hc4)
 refine jY (tg := 1000) [(11, Ty.pp (kQ y (iX y b t v) (cO (iX y b t v) (y.cells + 1) (fT (iX y b t v))).2.2))] (by decide) rfl ⟨tJ rfl ⟨bg rfl, bg rfl, bg rfl, bg rfl, bg rfl, kM rfl hfe.1.1 (by decide), trivial⟩, trivial⟩ ?_
 refine aA (iF rfl ?_)
 refine aa (KS y (iX y b t v) (cO (iX y b t v) (y.cells + 1) (fT (iX y b t v))).2.2 hr (by rw [hFl, eS]) hfe.1.1) rfl rfl rfl rfl rfl ?_
 refine bp rfl rfl (by decide) rfl rfl rfl rfl rfl rfl ?_
 refine cB rfl (aD (aC (az ?_)))
 refine gF rfl rfl rfl rfl rfl (by decide) rfl rfl rfl ?_ ?_
 all_goals skip
 all_goals first | exact ay rfl rfl (congrArg kr e5.2) | exact ay rfl rfl (congrArg (Ty.int .i64) e5.1)
end Go.Proofs.YtelbollidfdcjaaGreat
namespace Go.Proofs.YtelbollidfdcjaaGreat
open Go Go.T
set_option maxHeartbeats 8000000
section
variable {y : bB} {b : Nat} {n w : Int} {p q : Span → Bool}
theorem H6 (ho : cy y = 0) (hb : b < y.bins.length) : (!decide ((0 : Int) = 0) || !decide (((dh y (b : Nat)).length : Int) = y.days + 1)) = false := by
 rw [CL ho hb]
 have := D_eq (c9 (eC ho))
 simp; omega
end
attribute [local irreducible] Md.c6 Md.real dh ju cy nY kH
attribute [local irreducible] iP fV m6 qX ig iw ia ij ir qN iy qQ eA ga qU gS qM nth fX dy aj dx bodyPost Exit.then Exit.inBlock Code.wp Code.wpIn qO iz qT qR iZ eR cW cZ bodyPostM eH
end Go.Proofs.YtelbollidfdcjaaGreat
namespace Go.Proofs.YtelbollidfdcjaaGreat
open Go Go.T
set_option maxHeartbeats 8000000
def bw (g : List Int) : Md := ⟨pP g, 5, 4, 10, 8⟩
theorem Dx (g : List Int) : (bw g).Ok := ⟨by show (1 : Int) ≤ 5 ∧ (5 : Int) ≤ 5; omega, by show (1 : Int) ≤ 4 ∧ (4 : Int) ≤ 4; omega, by show (0 : Int) ≤ 10 ∧ (10 : Int) ≤ 10; omega, by show (0 : Int) ≤ 8 ∧ (8 : Int) ≤ 8; omega⟩
theorem KH (g : List Int) : eR Tryz.prog 17 [1000] [(1000, Cont.cells 149 (dc (pP g)))] [Ty.ptr 1000 0, Ty.int .i64 5, Ty.int .i64 4, Ty.int .i64 10, Ty.int .i64 8] [(1000, Cont.cells 149 (dc (bw g).sk))] (Ty.jv [fH (bw g).c6, kr (bw g).real]) :=
 ME (bw g) (Dx g) (by have := E6 g; exact ⟨this.1, by have := this.2; show (pP g).taken + 1000 ≤ _; omega⟩)
section
variable {y : bB} {a r : dU} {b t : Nat} {v : Int}
theorem Ex (hr : y.cN) (ho : cy y = 0) : e9 y (nth bP) (jX y) := by
 have h2 := (lS hr).2 (qE ho)
 rw [← HD (lP hr) h2]
 exact j8 hr (nE (jJ hr) (fun h => (kL hr).inb h) h2)
theorem wA (hr : y.cN) {c : Nat → Bool} (h : e9 y c a) : Na a ∧ nu y a := by
 have h1 := hr.moves
 have h2 := h.lens.bT
 have h3 := h.lens.first
 have k1 : ∀ x ∈ a.first, 0 ≤ x ∧ x ≤ 300 := fun x hx => by
  obtain ⟨i, hi, rfl⟩ := mN hx
  have := h.first i (by omega)
  have := (hr.bin _ (cV (show i < y.bins.length by omega))).2
  omega
 have k2 : ∀ x ∈ a.bT, 0 ≤ x ∧ x ≤ 300 := fun x hx => by
  obtain ⟨i, hi, rfl⟩ := mN hx
  have := h.bT i (by omega)
  have := (hr.move _ (cV (show i < y.moves.length by omega))).2.2.2.2
  omega
 exact ⟨⟨by omega, fun x hx => (by have := k1 x hx; omega), fun x hx => (by have := k2 x hx; omega)⟩, h.lens, k1, k2⟩
theorem xF (hr : y.cN) {c : Nat → Bool} (h : e9 y c a) : Ip y a := by
 obtain ⟨h1, h2⟩ := wA hr h
 exact ⟨by have := h2.lens.bT; omega, h1.oX, h1.first, h1.bT⟩
theorem F2 (hr : y.cN) (ha : nu y a) : lB y a = 0 := by
 have h1 := ha.lens.first
 have h2 := ha.lens.bT
 exact (ED (lP hr) (show q8 y a = false by unfold q8; rw [decide_eq_true (show (a.first.length : Int) = y.bins.length by omega), decide_eq_true (show (a.bT.length : Int) = y.moves.length by omega)]; rfl) (by unfold tI; rw [show a.first.all JD = true from List.all_eq_true.2 fun x hx => dJ.2 (ha.first x hx), show a.bT.all JD = true from List.all_eq_true.2 fun x hx => dJ.2 (ha.bT x hx)]; rfl)).1.symm
theorem t15 (ho : cy y = 0) (hb : b < y.bins.length) (ht : t ≤ y.D) (h1 : e9 y (nth bP) a) (h2 : e9 y (nth bP) r) : (((!jt (cr y a (b : Nat) (t : Nat)) (nth (dh y (b : Nat)) t) || !jt (cr y r (b : Nat) (t : Nat)) (nth (dh y (b : Nat)) t)) || decide ((nth (dh y (b : Nat)) t).lo < 0)) || decide ((nth (dh y (b : Nat)) t).hi > 300)) = false := by
 have k1 := (pV ho hb ht).all a h1
 have k2 := (pV ho hb ht).all r h2
 have k3 := Dw ho hb ht
 rw [kP, kP, decide_eq_false (by omega), decide_eq_false (by omega)]
 unfold jt; simp; omega
end
section
variable {y : bB} {a : dU} {P : Span} {v e c : Int} {k : Prop}
theorem J2 (h : jt v P = true) : P.lo ≤ v ∧ v ≤ P.hi := by
 unfold jt at h; simpa using h
theorem Ng (hr : y.cN) (hs : (P.lo ≤ v ∧ v ≤ P.hi → e = 0 ∧ e9 y (nth bP) a ∧ c = v) ∧ k) (h : jt v P = true) : Na a := (wA hr (hs.1 (J2 h)).2.1).1
theorem Np (hr : y.cN) (hs : (P.lo ≤ v ∧ v ≤ P.hi → e = 0 ∧ e9 y (nth bP) a ∧ c = v) ∧ k) (h : jt v P = true) : Ip y a := xF hr (hs.1 (J2 h)).2.1
theorem Ni {i : Nat} (hr : y.cN) (hs : (P.lo ≤ v ∧ v ≤ P.hi → e = 0 ∧ e9 y (nth bP) a ∧ c = v) ∧ k) (h : jt v P = true) (hi : i < y.bins.length) : ((i : Nat) : Int).toNat < a.first.length := by
 have := (wA hr (hs.1 (J2 h)).2.1).2.lens.first
 omega
theorem Nk {b t : Nat} (hr : y.cN) (hs : (P.lo ≤ v ∧ v ≤ P.hi → e = 0 ∧ e9 y (nth bP) a ∧ cR y a b t = v) ∧ (¬ (P.lo ≤ v ∧ v ≤ P.hi) → e = 6)) : (jt v P && (!decide (e = 0) || !jk y a || !decide (cr y a (b : Nat) (t : Nat) = v)) || !jt v P && !decide (e = 6)) = false := by
 by_cases h : P.lo ≤ v ∧ v ≤ P.hi
 ·obtain ⟨h1, h2, h3⟩ := hs.1 h
  have hi : jt v P = true := by unfold jt; simpa using h
  rw [kP, h1, h3, hi, lN ((rN hr).1 h2)]; simp
 have hi : jt v P = false := by
  cases hx : jt v P
  ·rfl
  exact absurd (J2 hx) h
 rw [hs.2 h, hi]; simp
end
attribute [local irreducible] Md.c6 Md.real dh ju cy bw jk Ah lB cr jt jX j3 lT
attribute [local irreducible] iP fV m6 qX ig iw ia ij ir qN iy qQ eA ga qU gS qM nth fX dy aj dx bodyPost Exit.then Exit.inBlock Code.wp Code.wpIn qO iz qT qR iZ eR cW cZ bodyPostM eH
set_option maxRecDepth 100000 in
theorem Bv (g : List Int) (w : Int) (hw : 0 ≤ w ∧ w ≤ 65535) : dx Tryz.prog 14 [Ty.sl U8 g, Ty.int .u16 w] (Ty.bool true) := by
 refine au Tryz.func14 rfl (by decide) Tryz.ntmps14 (by exact Nat.le_of_ble_eq_true rfl) fun w0 M0 => ?_
 have hd := Dx g
 have hyr := (bw g).right hd
 have hfc := (bw g).fits hd (nth bP)
 have hft := (bw g).fits hd (fun _ => true)
 have ho := CD (lP hyr) ⟨_, hfc⟩
 have hyb := hyr.bins
 have hym := hyr.moves
 have hyl := hyr.levels
 have hyd := hyr.days
 have hs : (bw g).c6.Small := ⟨by omega, by omega, by omega⟩
 have hD := D_eq hyr
 have hds : (bw g).s = pP g := by unfold bw; rfl
 obtain ⟨hrb, hrs⟩ := wA hyr hfc
 have hsf := Ex hyr ho
 have hsb := (wA hyr hsf).1
 have hra := xF hyr hfc
 have hsa := xF hyr hsf
 have hrl := hfc.lens.first
 have hrm := hfc.lens.bT
 have hsl := hsf.lens.first
 have hce := F2 hyr hrs
 have hfv : Ah (bw g).c6 (bw g).real = true := by rw [← EY hce]; exact lN hft
 have hfs := lN ((rN hyr).1 hsf)
 have ew : IntKind.i64.wrap w = w := IntWalk.i64_in _ (by omega)
 refine aE (aA (dY rfl (aD (aC (aE (aA (gm rfl ?_)))))))
 refine cI [(23, 10)] [23] [(23, Cont.cells 149 (dc (pP g)))] (Lg g) rfl rfl (by repeat (first | exact bO | refine aJ ?_ ?_ | exact aQ rfl rfl)) pre_nil (bN (a := 23) (b := 10) (by exact List.mem_cons_self) rfl (bK (by exact List.mem_cons_self) rfl rfl rfl) post_nil) (eE (by exact List.mem_cons_self)) ?_
 refine cI (res' := Ty.jv [fH (bw g).c6, kr (bw g).real]) [(23, 1000)] [] [(23, Cont.cells 149 (dc (bw g).sk))] (KH g) rfl rfl (by repeat (first | exact bO | refine aJ ?_ ?_ | exact eE List.mem_cons_self | exact aQ rfl rfl)) (cF (a := 23) (b := 1000) (by exact List.mem_cons_self) rfl (bK (by exact List.mem_cons_self) rfl rfl rfl) pre_nil) (bN (a := 23) (b := 1000) (by exact List.mem_cons_self) rfl (bK (by exact List.mem_cons_self) rfl rfl rfl) post_nil) (aQ rfl rfl) ?_
 refine rH rfl (bS rfl rfl (bS rfl rfl ?_))
 refine b8 rfl (by exact List.cons_ne_nil _ _) rfl ?_
 refine b8 rfl (by exact List.cons_ne_nil _ _) rfl ?_
 refine bp rfl rfl (by decide) rfl rfl rfl rfl rfl rfl ?_
 refine bp rfl rfl (by decide) rfl rfl rfl rfl rfl rfl ?_
 refine aD (aC (aE ?_))
 refine dw (B := live [(1, Ty.int .u16 w), (5, Ty.ptr 6 0), (6, Ty.ptr 7 0)] [(6, Cont.cells 27 (bk (bw g).c6)), (7, Cont.cells 30 (dP (bw g).real))]) ?_ ?_
 ·refine dD.mk' ?_ ?_
  ·(repeat (first | refine aB ?_ (Ty.aW _) | refine aB ?_ (Ty.aF _))); exact aH
  refine aG rfl (Cont.aF _) ?_; refine aG rfl (Cont.aF _) ?_; exact aI
 refine aA ?_
 refine bG rfl rfl (by decide) rfl rfl (by exact Nat.le_of_ble_eq_true rfl) ?_
 refine bG rfl rfl (by decide) rfl rfl (by exact Nat.le_of_ble_eq_true rfl) ?_
 refine aa (LB (bw g).c6 hs (bw g).real (by omega) (by omega)) rfl rfl rfl rfl rfl ?_
 refine rH rfl (bS rfl rfl (bS rfl rfl (dY rfl (cB rfl (aD (aC (aE ?_)))))))
 refine gX (s := 7) rfl (Ty.pL hfv) ?_
 refine gX (s := 8) rfl (Ty.bA hce) ?_
 refine aA ?_
 refine bG rfl rfl (by decide) rfl rfl (by exact Nat.le_of_ble_eq_true rfl) ?_
 refine aa (HA (bw g).c6 hs) rfl rfl rfl rfl rfl (rH rfl (bS rfl rfl (bS rfl rfl ?_)))
 refine b8 rfl (by exact List.cons_ne_nil _ _) rfl ?_
 refine bp rfl rfl (by decide) rfl rfl rfl rfl rfl rfl ?_
 refine cB rfl (aD (aC (aE (aE ?_))))
 refine gX (s := 10) rfl (Ty.bA ho) ?_
 refine dw (B := live [(1, Ty.int .u16 w), (5, Ty.ptr 6 0), (6, Ty.ptr 7 0), (9, Ty.ptr 10 0), (7, Ty.bool true), (8, Ty.int .i64 0), (10, Ty.int .i64 0)] [(6, Cont.cells 27 (bk (bw g).c6)), (7, Cont.cells 30 (dP (bw g).real)), (10, Cont.cells 30 (dP (jX (bw g).c6)))]) ?_ ?_
 ·refine dD.mk' ?_ ?_
  ·(repeat (first | refine aB ?_ (Ty.aW _) | refine aB ?_ (Ty.aF _))); exact aH
  refine aG rfl (Cont.aF _) ?_; refine aG rfl (Cont.aF _) ?_; refine aG rfl (Cont.aF _) ?_; exact aI
 refine aA ?_
 refine bG rfl rfl (by decide) rfl rfl (by exact Nat.le_of_ble_eq_true rfl) ?_
 refine aa (jf (bw g).c6 hs) rfl rfl rfl rfl rfl (bE rfl rfl rfl (gU rfl ?_))
 apply aS (s := 40) rfl rfl rfl
 ·intro hg; apply aT; (refine bM rfl ?_); refine aD ?_; exact rfl
 ·exact rfl
 ·exact rfl
 apply aS (s := 40) rfl rfl rfl
 ·intro hg; apply aO (s := 41) rfl (by (rw [hg]; rfl)); apply aT; (refine bE rfl rfl rfl ?_); refine aD ?_; exact rfl
 ·exact rfl
 ·exact rfl
 refine kj rfl rfl (gU rfl ?_)
 apply aS (s := 44) rfl rfl rfl
 ·intro hg; apply aT; (refine bM rfl ?_); refine aD ?_; exact rfl
 ·exact rfl
 ·exact rfl
 apply aS (s := 44) rfl rfl rfl
 ·intro hg; apply aO (s := 45) rfl (by (rw [hg]; rfl)); apply aT; (refine bE rfl rfl rfl ?_); refine aD ?_; exact rfl
 ·exact rfl
 ·exact rfl
 refine kj rfl rfl (gU rfl ?_)
 apply aS (s := 48) rfl rfl rfl
 ·intro hg; apply aT; (refine gU rfl ?_); refine aD ?_; exact rfl
 ·exact rfl
 ·exact rfl
 apply aS (s := 48) rfl rfl rfl
 ·intro hg; apply aO (s := 49) rfl (by (rw [hg]; rfl)); apply aT; (refine dM rfl ?_); refine aD ?_; exact rfl
 ·exact rfl
 ·exact rfl
 refine kj rfl rfl (gU rfl ?_)
 apply aS (s := 52) rfl rfl rfl
 ·intro hg; apply aT; (refine bG rfl rfl (by decide) rfl rfl (by exact Nat.le_of_ble_eq_true rfl) ?_); refine aD ?_; exact rfl
 ·exact rfl
 ·exact rfl
 apply aS (s := 52) rfl rfl rfl
 ·intro hg; apply aT; (refine bG rfl rfl (by decide) rfl rfl (by exact Nat.le_of_ble_eq_true rfl) ?_); refine aD ?_; exact rfl
 ·exact rfl
 ·exact rfl
 apply aS (s := 52) rfl rfl rfl
 ·intro hg; apply aO (s := 53) rfl (by (rw [hg]; rfl)); apply aO (s := 54) rfl (by (rw [hg]; rfl)); apply aT; (refine aa (CX (bw g).c6 (bw g).real hyr hrb) rfl rfl rfl rfl rfl ?_); refine aD ?_; exact rfl
 ·exact rfl
 ·exact rfl
 apply aS (s := 52) rfl rfl rfl
 ·intro hg; apply aO (s := 55) rfl (by (rw [hg]; rfl)); apply aT; (refine dM rfl ?_); refine aD ?_; exact rfl
 ·exact rfl
 ·exact rfl
 refine kj rfl rfl (gU rfl ?_)
 apply aS (s := 58) rfl rfl rfl
 ·intro hg; apply aT; (refine bG rfl rfl (by decide) rfl rfl (by exact Nat.le_of_ble_eq_true rfl) ?_); refine aD ?_; exact rfl
 ·exact rfl
 ·exact rfl
 apply aS (s := 58) rfl rfl rfl
 ·intro hg; apply aT; (refine bG rfl rfl (by decide) rfl rfl (by exact Nat.le_of_ble_eq_true rfl) ?_); refine aD ?_; exact rfl
 ·exact rfl
 ·exact rfl
 apply aS (s := 58) rfl rfl rfl
 ·intro hg; apply aO (s := 59) rfl (by (rw [hg]; rfl)); apply aO (s := 60) rfl (by (rw [hg]; rfl)); apply aT; (refine aa (CX (bw g).c6 (jX (bw g).c6) hyr hsb) rfl rfl rfl rfl rfl ?_); refine aD ?_; exact rfl
 ·exact rfl
 ·exact rfl
 apply aS (s := 58) rfl rfl rfl
 ·intro hg; apply aO (s := 61) rfl (by (rw [hg]; rfl)); apply aT; (refine dM rfl ?_); refine aD ?_; exact rfl
 ·exact rfl
 ·exact rfl
 refine kj rfl rfl (aD (aC ?_))
 refine iQ rfl (by rw [lP hyr, lN hft, hfs]; rfl) ?_
 refine ak (aC (aE (aE ?_)))
 refine dw (B := live [(1, Ty.int .u16 w), (5, Ty.ptr 6 0), (6, Ty.ptr 7 0), (9, Ty.ptr 10 0)] [(6, Cont.cells 27 (bk (bw g).c6)), (7, Cont.cells 30 (dP (bw g).real)), (10, Cont.cells 30 (dP (jX (bw g).c6)))]) ?_ ?_
 ·refine dD.mk' ?_ ?_
  ·(repeat (first | refine aB ?_ (Ty.aW _) | refine aB ?_ (Ty.aF _))); exact aH
  refine aG rfl (Cont.aF _) ?_; refine aG rfl (Cont.aF _) ?_; refine aG rfl (Cont.aF _) ?_; exact aI
 refine aA ?_
 refine aL rfl rfl rfl rfl rfl (by decide) ?_
 refine aU rfl rfl (by decide) rfl rfl rfl ?_
 refine cx rfl rfl rfl (bM rfl (aD (aC (ah ?_))))
 refine cU (fun (b : {b : Nat // b ≤ (bw g).c6.bins.length}) => live [(1, Ty.int .u16 w), (5, Ty.ptr 6 0), (6, Ty.ptr 7 0), (9, Ty.ptr 10 0), (66, Ty.int .i64 (bw g).c6.bins.length), (67, Ty.int .i64 (b.1 : Nat))] [(6, Cont.cells 27 (bk (bw g).c6)), (7, Cont.cells 30 (dP (bw g).real)), (10, Cont.cells 30 (dP (jX (bw g).c6)))]) (fun b => (bw g).c6.bins.length - b.1) (⟨0, by omega⟩) ?_ fun b => ?_
 ·(refine dD.mk' ?_ ?_ <;> (repeat' (first | exact aH | exact aI | refine aB ?_ (Ty.aW _) | refine aB ?_ (Ty.aF _) | refine aG rfl (Cont.aF _) ?_)))
  all_goals trace_state
 have hb := b.2
 refine aE (aA (bE rfl rfl rfl (aD (aC (aE ?_)))))
 refine av rfl (fun hc2 => ?_) (fun hc2 => ?_)
 ·
  refine ak (aC (aE (ah (aE (aA (bM rfl (cB rfl (aD (aC ?_)))))))))
  refine aE ?_
  have hb2 : b.1 < (bw g).c6.bins.length := by omega
  have hbl := CL ho hb2
  refine aA ?_
  refine bG rfl rfl (by decide) rfl rfl (by exact Nat.le_of_ble_eq_true rfl) ?_
  refine bM rfl ?_
  refine aa (wJ (bw g).c6 hs ((b.1 : Nat) : Int)) rfl rfl rfl rfl rfl ?_
  refine rH rfl (bS rfl rfl (bS rfl rfl (Bs rfl (cB rfl (aD (aC (aE (aE ?_))))))))
  refine gX (s := 13) rfl (Ty.bA (AN ho hb2)) ?_
  refine aA (bM rfl (bE rfl rfl rfl (gU rfl ?_)))
  apply aS (s := 78) rfl rfl rfl
  ·intro hg; apply aT; (refine gm rfl ?_); refine aD ?_; exact rfl
  ·exact rfl
  ·exact rfl
  apply aS (s := 78) rfl rfl rfl
  ·intro hg; apply aO (s := 79) rfl (by (rw [hg]; rfl)); apply aT; (refine cx rfl rfl rfl ?_); refine aD ?_; exact rfl
  ·exact rfl
  ·exact rfl
  apply aS (s := 78) rfl rfl rfl
  ·intro hg; apply aT; (refine aL rfl rfl rfl rfl rfl (by decide) ?_); refine aD ?_; exact rfl
  ·exact rfl
  ·exact rfl
  apply aS (s := 78) rfl rfl rfl
  ·intro hg; apply aO (s := 81) rfl (by (rw [hg]; rfl)); apply aT; (refine aU rfl rfl (by decide) rfl rfl rfl ?_); refine aD ?_; exact rfl
  ·exact rfl
  ·exact rfl
  apply aS (s := 78) rfl rfl rfl
  ·intro hg; apply aO (s := 82) rfl (by (rw [hg]; rfl)); apply aT; (refine bz rfl rfl (by omega) (by omega) ?_); refine aD ?_; exact rfl
  ·exact rfl
  ·exact rfl
  apply aS (s := 78) rfl rfl rfl
  ·intro hg; apply aO (s := 80) rfl (by (rw [hg]; rfl)); apply aO (s := 83) rfl (by (rw [hg]; rfl)); apply aT; (refine bE rfl rfl rfl ?_); refine aD ?_; exact rfl
  ·exact rfl
  ·exact rfl
  refine kj rfl rfl (aD (aC (iQ rfl (H6 ho hb2) (ak (aC (aE (aA (gm rfl (cx rfl rfl rfl ?_)))))))))
  refine bM rfl (aD (aC (ah ?_)))
  refine cU (fun (t : {t : Nat // t ≤ (dh (bw g).c6 (b.1 : Nat)).length}) => live [(1, Ty.int .u16 w), (5, Ty.ptr 6 0), (6, Ty.ptr 7 0), (9, Ty.ptr 10 0), (11, Ty.int .i64 (b.1 : Nat)), (66, Ty.int .i64 (bw g).c6.bins.length), (67, Ty.int .i64 (b.1 : Nat)), (86, Ty.sl dV (dh (bw g).c6 (b.1 : Nat))), (87, Ty.int .i64 (dh (bw g).c6 (b.1 : Nat)).length), (88, Ty.int .i64 (t.1 : Nat))] [(6, Cont.cells 27 (bk (bw g).c6)), (7, Cont.cells 30 (dP (bw g).real)), (10, Cont.cells 30 (dP (jX (bw g).c6)))]) (fun t => (dh (bw g).c6 (b.1 : Nat)).length - t.1) (⟨0, by omega⟩) ?_ fun t => ?_
  ·(refine dD.mk' ?_ ?_ <;> (repeat' (first | exact aH | exact aI | refine aB ?_ (Ty.aW _) | refine aB ?_ (Ty.aF _) | refine aG rfl (Cont.aF _) ?_)))
   all_goals trace_state
  have ht := t.2
  refine aE (aA (bE rfl rfl rfl (aD (aC (aE ?_)))))
  refine av rfl (fun hc4 => ?_) (fun hc4 => ?_)
  ·
   refine ak (aC (aE (ah (aE (aA (bM rfl ?_))))))
   refine bI rfl rfl rfl rfl rfl rfl (by omega) ?_
   refine aY rfl rfl rfl (by exact Nat.le_of_ble_eq_true rfl) ?_
   refine b8 rfl (by exact List.cons_ne_nil _ _) rfl ?_
   refine cB rfl ?_
   refine bp rfl rfl (by decide) rfl rfl rfl rfl rfl rfl ?_
   refine aD (aC (aE (aE ?_)))
   have ht2 : t.1 ≤ (bw g).c6.D := by omega
   have hsp := Dw ho hb2 ht2
   have hin := (pV ho hb2 ht2).all _ hfc
   refine cM mixed rfl ?_
   refine bG rfl rfl (by decide) rfl rfl (by exact Nat.le_of_ble_eq_true rfl) ?_
   refine bG rfl rfl (by decide) rfl rfl (by exact Nat.le_of_ble_eq_true rfl) ?_
   refine bM rfl (bM rfl ?_)
   refine aa (fk (bw g).c6 (bw g).real hra ((b.1 : Nat) : Int) ((t.1 : Nat) : Int) (Int.natCast_nonneg _) (by omega)) rfl rfl rfl rfl rfl ?_
   refine bG rfl rfl (by decide) rfl rfl (by exact Nat.le_of_ble_eq_true rfl) ?_
   refine aa (kS _ _) rfl rfl rfl rfl rfl (dM rfl (gU rfl ?_))
   apply aS (s := 101) rfl rfl rfl
   ·intro hg; apply aT; (refine bG rfl rfl (by decide) rfl rfl (by exact Nat.le_of_ble_eq_true rfl) ?_); refine aD ?_; exact rfl
   ·exact rfl
   ·exact rfl
   apply aS (s := 101) rfl rfl rfl
   ·intro hg; apply aT; (refine bG rfl rfl (by decide) rfl rfl (by exact Nat.le_of_ble_eq_true rfl) ?_); refine aD ?_; exact rfl
   ·exact rfl
   ·exact rfl
   apply aS (s := 101) rfl rfl rfl
   ·intro hg; apply aT; (refine bM rfl ?_); refine aD ?_; exact rfl
   ·exact rfl
   ·exact rfl
   apply aS (s := 101) rfl rfl rfl
   ·intro hg; apply aT; (refine bM rfl ?_); refine aD ?_; exact rfl
   ·exact rfl
   ·exact rfl
   apply aS (s := 101) rfl rfl rfl
   ·intro hg; apply aO (s := 102) rfl (by (rw [hg]; rfl)); apply aO (s := 103) rfl (by (rw [hg]; rfl)); apply aO (s := 104) rfl (by (rw [hg]; rfl)); apply aO (s := 105) rfl (by (rw [hg]; rfl)); apply aT; (refine aa (fk (bw g).c6 (jX (bw g).c6) hsa ((b.1 : Nat) : Int) ((t.1 : Nat) : Int) (Int.natCast_nonneg _) (by omega)) rfl rfl rfl rfl rfl ?_); refine aD ?_; exact rfl
   ·exact rfl
   ·exact rfl
   apply aS (s := 101) rfl rfl rfl
   ·intro hg; apply aT; (refine bG rfl rfl (by decide) rfl rfl (by exact Nat.le_of_ble_eq_true rfl) ?_); refine aD ?_; exact rfl
   ·exact rfl
   ·exact rfl
   apply aS (s := 101) rfl rfl rfl
   ·intro hg; apply aO (s := 106) rfl (by (rw [hg]; rfl)); apply aO (s := 107) rfl (by (rw [hg]; rfl)); apply aT; (refine aa (kS _ _) rfl rfl rfl rfl rfl ?_); refine aD ?_; exact rfl
   ·exact rfl
   ·exact rfl
   apply aS (s := 101) rfl rfl rfl
   ·intro hg; apply aO (s := 108) rfl (by (rw [hg]; rfl)); apply aT; (refine dM rfl ?_); refine aD ?_; exact rfl
   ·exact rfl
   ·exact rfl
   refine kj rfl rfl (gU rfl ?_)
   apply aS (s := 111) rfl rfl rfl
   ·intro hg; apply aT; (refine aL rfl rfl rfl rfl rfl (by decide) ?_); refine aD ?_; exact rfl
   ·exact rfl
   ·exact rfl
   apply aS (s := 111) rfl rfl rfl
   ·intro hg; apply aO (s := 112) rfl (by (rw [hg]; rfl)); apply aT; (refine aU rfl rfl (by decide) rfl rfl rfl ?_); refine aD ?_; exact rfl
   ·exact rfl
   ·exact rfl
   apply aS (s := 111) rfl rfl rfl
   ·intro hg; apply aO (s := 113) rfl (by (rw [hg]; rfl)); apply aT; (refine bE rfl rfl rfl ?_); refine aD ?_; exact rfl
   ·exact rfl
   ·exact rfl
   refine kj rfl rfl (gU rfl ?_)
   apply aS (s := 116) rfl rfl rfl
   ·intro hg; apply aT; (refine aL rfl rfl rfl rfl rfl (by decide) ?_); refine aD ?_; exact rfl
   ·exact rfl
   ·exact rfl
   apply aS (s := 116) rfl rfl rfl
   ·intro hg; apply aO (s := 117) rfl (by (rw [hg]; rfl)); apply aT; (refine aU rfl rfl (by decide) rfl rfl rfl ?_); refine aD ?_; exact rfl
   ·exact rfl
   ·exact rfl
   apply aS (s := 116) rfl rfl rfl
   ·intro hg; apply aO (s := 118) rfl (by (rw [hg]; rfl)); apply aT; (refine bE rfl rfl rfl ?_); refine aD ?_; exact rfl
   ·exact rfl
   ·exact rfl
   refine kj rfl rfl (aD ?_)
   refine ⟨by kernel_rfl, ?_⟩
   refine aC (iQ rfl (t15 ho hb2 ht2 hfc hsf) (ak (aC (aE ?_))))
   have hspan : (nth (dh (bw g).c6 (b.1 : Nat)) t.1).lo ≤ (nth (dh (bw g).c6 (b.1 : Nat)) t.1).hi := by omega
   have htm := Di (a := IntKind.i64.wrap w) (b := (nth (dh (bw g).c6 (b.1 : Nat)) t.1).hi - (nth (dh (bw g).c6 (b.1 : Nat)) t.1).lo + 1) (by rw [ew]; exact hw.1) (by omega)
   refine dw (B := live [(1, Ty.int .u16 w), (5, Ty.ptr 6 0), (6, Ty.ptr 7 0), (9, Ty.ptr 10 0), (11, Ty.int .i64 (b.1 : Nat)), (66, Ty.int .i64 (bw g).c6.bins.length), (67, Ty.int .i64 (b.1 : Nat)), (86, Ty.sl dV (dh (bw g).c6 (b.1 : Nat))), (87, Ty.int .i64 (dh (bw g).c6 (b.1 : Nat)).length), (88, Ty.int .i64 (t.1 : Nat)), (14, Ty.int .i64 (t.1 : Nat)), (15, Ty.ptr 16 0)] [(6, Cont.cells 27 (bk (bw g).c6)), (7, Cont.cells 30 (dP (bw g).real)), (10, Cont.cells 30 (dP (jX (bw g).c6))), (16, Cont.cells 37 (dV.tys (nth (dh (bw g).c6 (b.1 : Nat)) t.1)))]) ?_ ?_
   ·refine dD.mk' ?_ ?_
    ·(repeat (first | refine aB ?_ (Ty.aW _) | refine aB ?_ (Ty.aF _))); exact aH
    refine aG rfl (Cont.aF _) ?_; refine aG rfl (Cont.aF _) ?_; refine aG rfl (Cont.aF _) ?_; refine aG rfl (Cont.aF _) ?_; exact aI
   refine cM mixed rfl ?_
   refine aL rfl rfl rfl rfl rfl (by decide) ?_
   refine aU rfl rfl (by decide) rfl rfl rfl ?_
   refine aL rfl rfl rfl rfl rfl (by decide) ?_
   refine aU rfl rfl (by decide) rfl rfl rfl ?_
   refine aL rfl rfl rfl rfl rfl (by decide) ?_
   refine aU rfl rfl (by decide) rfl rfl rfl ?_
   refine bM rfl (AI rfl rfl rfl rfl ?_)
   refine aL rfl rfl rfl rfl rfl (by decide) ?_
   refine aU rfl rfl (by decide) rfl rfl rfl ?_
   refine aL rfl rfl rfl rfl rfl (by decide) ?_
   refine aU rfl rfl (by decide) rfl rfl rfl ?_
   refine gL rfl rfl (by omega) (by omega) ?_
   refine bz rfl rfl (by omega) (by omega) ?_
   refine HU rfl rfl (by omega) ?_
   refine bz rfl rfl (by omega) (by omega) ?_
   refine aL rfl rfl rfl rfl rfl (by decide) ?_
   refine aU rfl rfl (by decide) rfl rfl rfl ?_
   refine gL rfl rfl (by omega) (by omega) ?_
   refine aL rfl rfl rfl rfl rfl (by decide) ?_
   refine aU rfl rfl (by decide) rfl rfl rfl ?_
   refine bz rfl rfl (by omega) (by omega) ?_
   refine bt (E := cm) (xs := [(nth (dh (bw g).c6 (b.1 : Nat)) t.1).lo, (nth (dh (bw g).c6 (b.1 : Nat)) t.1).hi, ((nth (dh (bw g).c6 (b.1 : Nat)) t.1).lo + (IntKind.i64.wrap w).tmod ((nth (dh (bw g).c6 (b.1 : Nat)) t.1).hi - (nth (dh (bw g).c6 (b.1 : Nat)) t.1).lo + 1)), (nth (dh (bw g).c6 (b.1 : Nat)) t.1).lo - 1, (nth (dh (bw g).c6 (b.1 : Nat)) t.1).hi + 1]) rfl rfl rfl rfl rfl (by decide) (by decide) (by repeat (first | exact (aX.nil : aX _ _ [] _) | (show aX _ _ ((_, _) :: _) _; apply aX.one; (· exact (rfl : _ = Ty.int _ _)); (· exact rfl)))) (by exact rfl) rfl ?_
   refine cx rfl rfl rfl (bM rfl (aD ?_))
   refine ⟨by kernel_rfl, ?_⟩
   refine aC ?_
   obtain ⟨xs, exs⟩ : ∃ xs : List Int, xs = [(nth (dh (bw g).c6 (b.1 : Nat)) t.1).lo, (nth (dh (bw g).c6 (b.1 : Nat)) t.1).hi, ((nth (dh (bw g).c6 (b.1 : Nat)) t.1).lo + (IntKind.i64.wrap w).tmod ((nth (dh (bw g).c6 (b.1 : Nat)) t.1).hi - (nth (dh (bw g).c6 (b.1 : Nat)) t.1).lo + 1)), (nth (dh (bw g).c6 (b.1 : Nat)) t.1).lo - 1, (nth (dh (bw g).c6 (b.1 : Nat)) t.1).hi + 1] := ⟨_, rfl⟩
   have hxl : xs.length = 5 := by rw [exs]; rfl
   refine gX (s := 143) rfl (Ty.gq exs.symm) ?_
   refine gX (s := 144) rfl (Ty.bA (congrArg (fun l : List Int => (l.length : Int)) exs.symm)) ?_
   clear exs
   refine dw (B := live [(1, Ty.int .u16 w), (5, Ty.ptr 6 0), (6, Ty.ptr 7 0), (9, Ty.ptr 10 0), (11, Ty.int .i64 (b.1 : Nat)), (66, Ty.int .i64 (bw g).c6.bins.length), (67, Ty.int .i64 (b.1 : Nat)), (86, Ty.sl dV (dh (bw g).c6 (b.1 : Nat))), (87, Ty.int .i64 (dh (bw g).c6 (b.1 : Nat)).length), (88, Ty.int .i64 (t.1 : Nat)), (14, Ty.int .i64 (t.1 : Nat)), (15, Ty.ptr 16 0), (143, Ty.sl cm xs), (144, Ty.int .i64 xs.length), (145, Ty.int .i64 0)] [(6, Cont.cells 27 (bk (bw g).c6)), (7, Cont.cells 30 (dP (bw g).real)), (10, Cont.cells 30 (dP (jX (bw g).c6))), (16, Cont.cells 37 (dV.tys (nth (dh (bw g).c6 (b.1 : Nat)) t.1)))]) ?_ ?_
   ·refine dD.mk' ?_ ?_
    ·(repeat (first | refine aB ?_ (Ty.aW _) | refine aB ?_ (Ty.aF _))); exact aH
    refine aG rfl (Cont.aF _) ?_; refine aG rfl (Cont.aF _) ?_; refine aG rfl (Cont.aF _) ?_; refine aG rfl (Cont.aF _) ?_; exact aI
   refine ah ?_
   refine cU (fun (j : {j : Nat // j ≤ xs.length}) => live [(1, Ty.int .u16 w), (5, Ty.ptr 6 0), (6, Ty.ptr 7 0), (9, Ty.ptr 10 0), (11, Ty.int .i64 (b.1 : Nat)), (66, Ty.int .i64 (bw g).c6.bins.length), (67, Ty.int .i64 (b.1 : Nat)), (86, Ty.sl dV (dh (bw g).c6 (b.1 : Nat))), (87, Ty.int .i64 (dh (bw g).c6 (b.1 : Nat)).length), (88, Ty.int .i64 (t.1 : Nat)), (14, Ty.int .i64 (t.1 : Nat)), (15, Ty.ptr 16 0), (143, Ty.sl cm xs), (144, Ty.int .i64 xs.length), (145, Ty.int .i64 (j.1 : Nat))] [(6, Cont.cells 27 (bk (bw g).c6)), (7, Cont.cells 30 (dP (bw g).real)), (10, Cont.cells 30 (dP (jX (bw g).c6))), (16, Cont.cells 37 (dV.tys (nth (dh (bw g).c6 (b.1 : Nat)) t.1)))]) (fun j => xs.length - j.1) (⟨0, by omega⟩) ?_ fun j => ?_
   ·(refine dD.mk' ?_ ?_ <;> (repeat' (first | exact aH | exact aI | refine aB ?_ (Ty.aW _) | refine aB ?_ (Ty.aF _) | refine aG rfl (Cont.aF _) ?_)))
    all_goals trace_state
   have hj := j.2
   refine aE (aA (bE rfl rfl rfl (aD (aC (aE ?_)))))
   refine av rfl (fun hc6 => ?_) (fun hc6 => ?_)
   ·
    refine ak (aC (aE (ah (aE (aA ?_)))))
    refine bI rfl rfl rfl rfl rfl rfl (by omega) ?_
    refine aK rfl rfl rfl rfl (cB rfl (aD (aC (aE ?_))))
    have hsh := J0 (v := (nth xs j.1)) ho hb2 ht2
    refine aA ?_
    refine bG rfl rfl (by decide) rfl rfl (by exact Nat.le_of_ble_eq_true rfl) ?_
    refine bM rfl (bM rfl (bM rfl ?_))
    refine aa (I1 (bw g).c6 hs ((b.1 : Nat) : Int) ((t.1 : Nat) : Int) (nth xs j.1)) rfl rfl rfl rfl rfl ?_
    refine rH rfl (bS rfl rfl (bS rfl rfl ?_))
    refine b8 rfl (by exact List.cons_ne_nil _ _) rfl ?_
    refine bp rfl rfl (by decide) rfl rfl rfl rfl rfl rfl ?_
    refine cB rfl (aD (aC (aE ?_)))
    refine dw (B := live [(1, Ty.int .u16 w), (5, Ty.ptr 6 0), (6, Ty.ptr 7 0), (9, Ty.ptr 10 0), (11, Ty.int .i64 (b.1 : Nat)), (66, Ty.int .i64 (bw g).c6.bins.length), (67, Ty.int .i64 (b.1 : Nat)), (86, Ty.sl dV (dh (bw g).c6 (b.1 : Nat))), (87, Ty.int .i64 (dh (bw g).c6 (b.1 : Nat)).length), (88, Ty.int .i64 (t.1 : Nat)), (14, Ty.int .i64 (t.1 : Nat)), (15, Ty.ptr 16 0), (143, Ty.sl cm xs), (144, Ty.int .i64 xs.length), (145, Ty.int .i64 (j.1 : Nat)), (17, Ty.int .i64 (nth xs j.1)), (18, Ty.ptr 19 0), (19, Ty.int .i64 (j3 (bw g).c6 (b.1 : Nat) (t.1 : Nat) (nth xs j.1)))] [(6, Cont.cells 27 (bk (bw g).c6)), (7, Cont.cells 30 (dP (bw g).real)), (10, Cont.cells 30 (dP (jX (bw g).c6))), (16, Cont.cells 37 (dV.tys (nth (dh (bw g).c6 (b.1 : Nat)) t.1))), (19, Cont.cells 30 (dP (lT (bw g).c6 (b.1 : Nat) (t.1 : Nat) (nth xs j.1))))]) ?_ ?_
    ·refine dD.mk' ?_ ?_
     ·(repeat (first | refine aB ?_ (Ty.aW _) | refine aB ?_ (Ty.aF _))); exact aH
     refine aG rfl (Cont.aF _) ?_; refine aG rfl (Cont.aF _) ?_; refine aG rfl (Cont.aF _) ?_; refine aG rfl (Cont.aF _) ?_; refine aG rfl (Cont.aF _) ?_; exact aI
    refine aA (bM rfl ?_)
    refine bG rfl rfl (by decide) rfl rfl (by exact Nat.le_of_ble_eq_true rfl) ?_
    refine aa (kS _ _) rfl rfl rfl rfl rfl (gU rfl ?_)
    apply aS (s := 160) rfl rfl rfl
    ·intro hg; apply aT; (refine bM rfl ?_); refine aD ?_; exact rfl
    ·exact rfl
    ·exact rfl
    apply aS (s := 160) rfl rfl rfl
    ·intro hg; apply aO (s := 161) rfl (by (rw [hg]; rfl)); apply aT; (refine bE rfl rfl rfl ?_); refine aD ?_; exact rfl
    ·exact rfl
    ·exact rfl
    apply aS (s := 160) rfl rfl rfl
    ·intro hg; apply aO (s := 162) rfl (by (rw [hg]; rfl)); apply aT; (refine gU rfl ?_); refine aD ?_; exact rfl
    ·exact rfl
    ·exact rfl
    apply dr (s := 163) rfl rfl rfl
    ·intro hg1 hg2; apply aT; (refine bG rfl rfl (by decide) rfl rfl (by exact Nat.le_of_ble_eq_true rfl) ?_); refine aD ?_; exact rfl
    ·exact rfl
    ·exact rfl
    apply dr (s := 163) rfl rfl rfl
    ·intro hg1 hg2; apply aT; (refine bG rfl rfl (by decide) rfl rfl (by exact Nat.le_of_ble_eq_true rfl) ?_); refine aD ?_; exact rfl
    ·exact rfl
    ·exact rfl
    apply dr (s := 163) rfl rfl rfl
    ·intro hg1 hg2; apply aO (s := 164) rfl (by (rw [hg1, hg2]; rfl)); apply aO (s := 165) rfl (by (rw [hg1, hg2]; rfl)); apply aT; (refine aa (CX (bw g).c6 (lT (bw g).c6 (b.1 : Nat) (t.1 : Nat) (nth xs j.1)) hyr (Ng hyr hsh (beq_iff_eq.1 hg1))) rfl rfl rfl rfl rfl ?_); refine aD ?_; exact rfl
    ·exact rfl
    ·exact rfl
    apply dr (s := 163) rfl rfl rfl
    ·intro hg1 hg2; apply aO (s := 166) rfl (by (rw [hg1, hg2]; rfl)); apply aT; (refine dM rfl ?_); refine aD ?_; exact rfl
    ·exact rfl
    ·exact rfl
    apply aS (s := 160) rfl rfl rfl
    ·intro hg; apply aO (s := 163) rfl (by (rw [hg]; rfl)); apply lU (s := 167) rfl (by (rw [hg]; rfl)); apply aT; (refine kj rfl rfl ?_); refine aD ?_; exact rfl
    ·exact rfl
    ·exact rfl
    apply aS (s := 160) rfl rfl rfl
    ·intro hg; apply aO (s := 168) rfl (by (rw [hg]; rfl)); apply aT; (refine gU rfl ?_); refine aD ?_; exact rfl
    ·exact rfl
    ·exact rfl
    apply dr (s := 169) rfl rfl rfl
    ·intro hg1 hg2; apply aT; (refine bG rfl rfl (by decide) rfl rfl (by exact Nat.le_of_ble_eq_true rfl) ?_); refine aD ?_; exact rfl
    ·exact rfl
    ·exact rfl
    apply dr (s := 169) rfl rfl rfl
    ·intro hg1 hg2; apply aT; (refine bG rfl rfl (by decide) rfl rfl (by exact Nat.le_of_ble_eq_true rfl) ?_); refine aD ?_; exact rfl
    ·exact rfl
    ·exact rfl
    apply dr (s := 169) rfl rfl rfl
    ·intro hg1 hg2; apply aT; (refine bM rfl ?_); refine aD ?_; exact rfl
    ·exact rfl
    ·exact rfl
    apply dr (s := 169) rfl rfl rfl
    ·intro hg1 hg2; apply aT; (refine bM rfl ?_); refine aD ?_; exact rfl
    ·exact rfl
    ·exact rfl
    apply dr (s := 169) rfl rfl rfl
    ·intro hg1 hg2; apply aO (s := 170) rfl (by (rw [hg1, hg2]; rfl)); apply aO (s := 171) rfl (by (rw [hg1, hg2]; rfl)); apply aO (s := 172) rfl (by (rw [hg1, hg2]; rfl)); apply aO (s := 173) rfl (by (rw [hg1, hg2]; rfl)); apply aT; (refine aa (fk (bw g).c6 (lT (bw g).c6 (b.1 : Nat) (t.1 : Nat) (nth xs j.1)) (Np hyr hsh (beq_iff_eq.1 hg1)) ((b.1 : Nat) : Int) ((t.1 : Nat) : Int) (Int.natCast_nonneg _) (Ni hyr hsh (beq_iff_eq.1 hg1) hb2)) rfl rfl rfl rfl rfl ?_); refine aD ?_; exact rfl
    ·exact rfl
    ·exact rfl
    apply dr (s := 169) rfl rfl rfl
    ·intro hg1 hg2; apply aT; (refine bM rfl ?_); refine aD ?_; exact rfl
    ·exact rfl
    ·exact rfl
    apply dr (s := 169) rfl rfl rfl
    ·intro hg1 hg2; apply aO (s := 174) rfl (by (rw [hg1, hg2]; rfl)); apply aO (s := 175) rfl (by (rw [hg1, hg2]; rfl)); apply aT; (refine bE rfl rfl rfl ?_); refine aD ?_; exact rfl
    ·exact rfl
    ·exact rfl
    apply aS (s := 160) rfl rfl rfl
    ·intro hg; apply aO (s := 169) rfl (by (rw [hg]; rfl)); apply lU (s := 176) rfl (by (rw [hg]; rfl)); apply aT; (refine kj rfl rfl ?_); refine aD ?_; exact rfl
    ·exact rfl
    ·exact rfl
    refine fB rfl rfl (gU rfl ?_)
    apply aS (s := 179) rfl rfl rfl
    ·intro hg; apply aT; (refine bM rfl ?_); refine aD ?_; exact rfl
    ·exact rfl
    ·exact rfl
    apply aS (s := 179) rfl rfl rfl
    ·intro hg; apply aT; (refine bG rfl rfl (by decide) rfl rfl (by exact Nat.le_of_ble_eq_true rfl) ?_); refine aD ?_; exact rfl
    ·exact rfl
    ·exact rfl
    apply aS (s := 179) rfl rfl rfl
    ·intro hg; apply aO (s := 180) rfl (by (rw [hg]; rfl)); apply aO (s := 181) rfl (by (rw [hg]; rfl)); apply aT; (refine aa (kS _ _) rfl rfl rfl rfl rfl ?_); refine aD ?_; exact rfl
    ·exact rfl
    ·exact rfl
    apply aS (s := 179) rfl rfl rfl
    ·intro hg; apply aO (s := 182) rfl (by (rw [hg]; rfl)); apply aT; (refine dM rfl ?_); refine aD ?_; exact rfl
    ·exact rfl
    ·exact rfl
    apply aS (s := 179) rfl rfl rfl
    ·intro hg; apply aO (s := 183) rfl (by (rw [hg]; rfl)); apply aT; (refine gU rfl ?_); refine aD ?_; exact rfl
    ·exact rfl
    ·exact rfl
    apply dr (s := 184) rfl rfl rfl
    ·intro hg1 hg2; apply aT; (refine bM rfl ?_); refine aD ?_; exact rfl
    ·exact rfl
    ·exact rfl
    apply dr (s := 184) rfl rfl rfl
    ·intro hg1 hg2; apply aO (s := 185) rfl (by (rw [hg1, hg2]; rfl)); apply aT; (refine bE rfl rfl rfl ?_); refine aD ?_; exact rfl
    ·exact rfl
    ·exact rfl
    apply aS (s := 179) rfl rfl rfl
    ·intro hg; apply aO (s := 184) rfl (by (rw [hg]; rfl)); apply lU (s := 186) rfl (by (rw [hg]; rfl)); apply aT; (refine fB rfl rfl ?_); refine aD ?_; exact rfl
    ·exact rfl
    ·exact rfl
    refine kj rfl rfl (aD (aC (iQ rfl (Nk hyr hsh) (ak (bW (aC (aA ?_)))))))
    refine bz rfl rfl (by omega) (by omega) ?_
    refine bM rfl (aD ?_)
    refine bf (⟨j.1 + 1, by omega⟩) ?_ (by show xs.length - (j.1 + 1) < xs.length - j.1; omega)
    (refine dD.mk' ?_ ?_ <;> (repeat' (first | exact aH | exact aI | refine aB ?_ (Ty.aW _) | refine aB ?_ (Ty.aF _) | refine aG rfl (Cont.aF _) ?_)))
    all_goals skip
    all_goals trace_state
   refine cT (aR (aR (aq rfl (bW (aC (aA ?_))))))
   refine bz rfl rfl (by omega) (by omega) ?_
   refine bM rfl (aD ?_)
   refine bf (⟨t.1 + 1, by omega⟩) ?_ (by show (dh (bw g).c6 (b.1 : Nat)).length - (t.1 + 1) < (dh (bw g).c6 (b.1 : Nat)).length - t.1; omega)
   (refine dD.mk' ?_ ?_ <;> (repeat' (first | exact aH | exact aI | refine aB ?_ (Ty.aW _) | refine aB ?_ (Ty.aF _) | refine aG rfl (Cont.aF _) ?_)))
   all_goals skip
   all_goals trace_state
  refine cT (aR (aR (aq rfl (bW (aC (aA ?_))))))
  refine bz rfl rfl (by omega) (by omega) ?_
  refine bM rfl (aD ?_)
  refine bf (⟨b.1 + 1, by omega⟩) ?_ (by show (bw g).c6.bins.length - (b.1 + 1) < (bw g).c6.bins.length - b.1; omega)
  (refine dD.mk' ?_ ?_ <;> (repeat' (first | exact aH | exact aI | refine aB ?_ (Ty.aW _) | refine aB ?_ (Ty.aF _) | refine aG rfl (Cont.aF _) ?_)))
  all_goals skip
  all_goals trace_state
 refine cT (aR (aR (aq rfl (aC (aE (aA (aa (I0) rfl rfl rfl rfl rfl (dY rfl (aD ?_)))))))))
 refine aC (az (bq rfl rfl ?_))
 all_goals exact cC rfl rfl
 all_goals trace_state
end Go.Proofs.YtelbollidfdcjaaGreat
namespace Go.T
open Go Go.RowKit Go.ChangeShapes Go.WideShapes Go.ChangeAt
def oA : bC := fun _ => none
theorem Jm (w : World) : Wf w oA := ⟨fun _ _ h => (by cases h), fun _ _ _ _ h => (by cases h)⟩
theorem Em : ∀ b t, oA b = some t → t = 0 := fun _ _ h => by cases h
structure Rd {α : Type} (P : Program) (e : TypeId) (E : El α) : Prop where
  size : P.cellsOf e = E.size
  pos : 0 < E.size
  rd : ∀ {H : Type} {enc : TypeId × Value → H} {w : World} {base : Nat} {held : Bool} {n : Nat} {cs : List Value} {y : DataW H × List MemPlace}, DataW.trod enc P w base (fun _ => true) held n e cs = some y → ∃ x, cK w oA (E.tys x) cs
section
variable {H : Type} {enc : TypeId × Value → H} {P : Program} {w : World} {base : Nat} {held : Bool} {α : Type} {E : El α} {t e : TypeId} {n : Nat} {cs : List Value} {y : DataW H × List MemPlace}
theorem M7 (hR : Rd P e E) (ht : P.underlying t = some (.slice e)) (h : DataW.trod enc P w base (fun _ => true) held n t cs = some y) : ∃ v xs, cs = [v] ∧ (Ty.sl E xs).den w oA v := by
 rcases Go.Deep.open_slice ht h with ⟨rfl, _⟩ | ⟨a, len, cap, m, k, D, Pl, rfl, _, hl, hm, hmm, _, hel⟩
 ·exact ⟨_, [], rfl, none, 0, rfl, Nat.le_refl _, Nat.zero_le _, fun h => absurd h (Nat.lt_irrefl _)⟩
 have hlm : len ≤ m := by rw [hmm]; simpa using hl
 have hX : ∀ i : Fin len, ∃ x : α, ∃ cs', w.cells? base (a.add (i.1 * P.cellsOf e)) (P.cellsOf e) = some cs' ∧ cK w oA (E.tys x) cs' := fun i => by
  obtain ⟨cs', h1, h2⟩ := hel i.1 (Nat.lt_of_lt_of_le i.2 hlm)
  obtain ⟨x, hx⟩ := hR.rd h2
  exact ⟨x, cs', h1, hx⟩
 let X : Fin len → α := fun i => (hX i).choose
 have hXs : ∀ i : Fin len, ∃ cs', w.cells? base (a.add (i.1 * P.cellsOf e)) (P.cellsOf e) = some cs' ∧ cK w oA (E.tys (X i)) cs' := fun i => (hX i).choose_spec
 have hlen : (List.ofFn X).length = len := by simp
 refine ⟨_, List.ofFn X, rfl, some a, cap, by rw [hlen], by rw [hlen]; exact hl, hm, fun h0 => ?_⟩
 rw [hlen] at h0
 have hcell : ∀ (i : Fin len) (j : Nat) (u : Ty), (E.tys (X i))[j]? = some u → ∃ v, w.cell? (a.add (i.1 * E.size + j)) = some v ∧ u.den w oA v := fun i j u hu => by
  obtain ⟨cs', h1, h2⟩ := hXs i
  obtain ⟨v, hv, hd⟩ := dQ h2 j u hu
  obtain ⟨_, g1, g2⟩ := World.cells?_some h1
  have hj : j < P.cellsOf e := by
   rw [hR.size, ← E.len (X i)]
   exact (List.getElem?_eq_some_iff.1 hu).1
  refine ⟨v, ?_, hd⟩
  have := g2 j hj
  rw [Go.Deep.add_add, hv, hR.size] at this
  exact this
 have hsz := hR.pos
 have hfirst : ∃ v, w.cell? (a.add 0) = some v := by
  obtain ⟨u, hu⟩ : ∃ u, (E.tys (X ⟨0, h0⟩))[0]? = some u := ⟨_, List.getElem?_eq_getElem (by rw [E.len]; exact hsz)⟩
  obtain ⟨v, hv, _⟩ := hcell ⟨0, h0⟩ 0 u hu
  exact ⟨v, by simpa using hv⟩
 obtain ⟨b, off, sp⟩ := a
 obtain ⟨v0, hv0⟩ := hfirst
 have hsp : sp = none := by simpa [Addr.add] using World.cell?_spot hv0
 subst hsp
 have hb : b < w.heap.size := by
  obtain ⟨cs', h1, _⟩ := hXs ⟨0, h0⟩
  have := World.cells?_block h1 (by rw [hR.size]; exact hsz)
  simpa [Addr.add] using this
 refine ⟨b, off, rfl, rfl, hb, fun i u hu => ?_⟩
 have hi : i < len * E.size := by
  have := (List.getElem?_eq_some_iff.1 hu).1
  rw [dI, hlen] at this; exact this
 have hk : i / E.size < len := Nat.div_lt_of_lt_mul (by rw [Nat.mul_comm]; exact hi)
 have hj : i % E.size < E.size := Nat.mod_lt _ hsz
 have hij : i / E.size * E.size + i % E.size = i := by rw [Nat.mul_comm]; exact Nat.div_add_mod i E.size
 have hu2 := hu
 rw [← hij, sU E _ _ _ (by rw [hlen]; exact hk) hj, List.getElem?_ofFn, dif_pos hk] at hu2
 obtain ⟨v, hv, hd⟩ := hcell ⟨i / E.size, hk⟩ (i % E.size) u hu2
 refine ⟨v, ?_, hd⟩
 rw [← Go.WideShapes.add_plain]
 rw [hij] at hv
 exact hv
theorem Lr {c : Value} (hR : Rd P e E) (ht : P.underlying t = some (.slice e)) (h : DataW.trod enc P w base (fun _ => true) held n t [c] = some y) : ∃ xs, (Ty.sl E xs).den w oA c := by
 obtain ⟨v, xs, e, hd⟩ := M7 hR ht h
 exact ⟨xs, by rw [show c = v by simpa using e]; exact hd⟩
end
section
variable {w w' : World} {S K : Nat → Prop} {M' : bC}
theorem sH (le : Le S K w oA w' M') {b : Nat} (hb : b < w.heap.size) : w'.heap[b]? = w.heap[b]? := (le.qW b hb rfl).2
theorem KO (le : Le S K w oA w' M') {p : MemPlace} (hp : p.block < w.heap.size) : w.sameAt w' p := by
  cases p with
  | cell b o => exact World.cell?_of_block (w := w) (sH le hp)
  | map b => exact sH le hp
theorem JE (le : Le S K w oA w' M') (may : MemPlace → Prop) : w.keptBut w' may := by
 refine ⟨le.os, le.out, fun i hi => ?_⟩
 have e := sH le hi
 rw [e]
 split
 ·rename_i h1 h2
  rw [h1] at h2
  simp only [Option.some.injEq, Obj.cells.injEq] at h2
  obtain ⟨rfl, rfl, rfl⟩ := h2
  exact ⟨rfl, rfl, rfl, fun _ _ => rfl⟩
 ·rename_i h1 h2
  rw [h1] at h2
  simp only [Option.some.injEq, Obj.map.injEq] at h2
  exact Or.inr ⟨h2.1.symm, h2.2.symm⟩
 rfl
theorem FF (le : Le S K w oA w' M') {a : Addr} (ha : a.block < w.heap.size) : w'.frozen? a = w.frozen? a := by
 unfold World.frozen?
 rw [sH le ha]
end
section
variable {H : Type} {enc : TypeId × Value → H} {P : Program}
theorem qg (hl : laidOutB P = true) {w w' : World} {sp : Nat → Bool} : ∀ {ts : List TypeId} {vs : List Value} {ds : List (DataW H)} {ps : List MemPlace}, (∀ t ∈ ts, P.readableRec t = true ∧ t < P.types.size) →
    DataW.TrodAll enc P w 0 (fun _ => true) true ts vs ds ps → (∀ p ∈ ps, w.sameAt w' p) → (∀ p ∈ ps, sp p.block = true) → DataW.TrodAll enc P w' 0 sp true ts vs ds ps
  | [], [], [], _, _, h, _, _ => h
  | t :: ts, v :: vs, d :: ds, _, ht, ⟨p, q, h1, h2, e⟩, hs, hsp => by
    subst e
    have h0 := ht t List.mem_cons_self
    exact ⟨p, q, Go.WideElems.Trod_stays hl h0.1 h0.2 h1 (fun x hx => hs x (List.mem_append_left _ hx)) (fun x hx => hsp x (List.mem_append_left _ hx)),
      qg hl (fun t h => ht t (List.mem_cons_of_mem _ h)) h2 (fun x hx => hs x (List.mem_append_right _ hx)) (fun x hx => hsp x (List.mem_append_right _ hx)), rfl⟩
theorem FC {f : Func} {s : ChangeSpec} {apart fresh handsOn again : Bool} {W W' : World} {args : Array Value} {ds : List (DataW H)} {before : List MemPlace} {S K : Nat → Prop} {M' : bC}
 (hl : laidOutB P = true) (hv : s.vars = []) (hrd : ∀ t ∈ f.params.toList, P.readableRec t = true ∧ t < P.types.size) {tb : TypeId} (htb : P.underlying tb = some .bool) (hrt : f.resultTypes = #[tb])
 (hW : DataW.Whole enc P f.params.toList s.vars apart W args.toList ds [] before) (hres : (s.fn H (ds ++ [])).results = [.lit (.bool true)]) (hargs : (s.fn H (ds ++ [])).args = ds) (hvars : (s.fn H (ds ++ [])).vars = [])
 (le : Le S K W oA W' M') : s.post enc P f apart fresh handsOn again W args (.bool true) W' := by
 have hW0 := hW
 obtain ⟨p, q, hA, hV, hb, hfz, hn⟩ := hW0
 have hlt := DataW.TrodAll.lt hA
 have hq : q = [] := by rw [hv] at hV; exact (trodVars_none hV).2
 subst hq
 have hbp : before = p := by rw [hb]; simp
 have hre : ∀ (b : Nat) (sp : Nat → Bool) (hd : Bool), DataW.TrodAll enc P W' b sp hd f.resultTypes.toList ((Value.bool true).resultList f.resultTypes.size) (s.fn H (ds ++ [])).results [] := fun b sp hd => by
  rw [hrt, hres]; exact trodAll_mk1 (shut_bool htb true)
 have har : ∀ sp : Nat → Bool, (∀ x ∈ p, sp x.block = true) → DataW.TrodAll enc P W' 0 sp true f.params.toList args.toList (s.fn H (ds ++ [])).args p := fun sp hsp => by
  rw [hargs]; exact qg hl hrd hA (fun x hx => KO le (hlt x hx)) hsp
 have hva : ∀ sp : Nat → Bool, DataW.TrodVars enc P W' sp s.vars (s.fn H (ds ++ [])).vars [] := fun sp => by
  rw [hvars, hv]; exact rfl
 have hok : ∀ (j : Nat) (t : TypeId) (r : Value), f.resultTypes[j]? = some t → ((Value.bool true).resultList f.resultTypes.size)[j]? = some r → Value.okWide P W' .any 0 t r := by
  exact ok_one (by rw [hrt]) rfl (okWide_bool_mk htb true)
 refine ⟨ds, [], before, [], p, [], hW, hre _ _ _, har _ (fun x hx => by simpa using hlt x hx), hva _, World.keptBut_mono (fun x hx => hx) (JE le _), fun _ => ?_⟩
 refine ⟨hok, _, _, ([] ++ p) ++ [], ⟨[] ++ p, [], trodAll_append (har _ (fun _ _ => rfl)) (hre _ _ _), hva _, rfl, ?_, ?_⟩, ?_⟩
 ·intro b off hp
  have hp' : MemPlace.cell b off ∈ p := by simpa using hp
  rw [FF le (hlt _ hp')]
  exact hfz b off (by rw [hbp]; exact hp')
 ·intro ha
  have := hn ha
  rw [hbp] at this
  simpa using this
 intro x hx _
 rw [hbp]
 simpa using hx
end
end Go.T
namespace Go.Proofs.YtelbollidfdcjaaGreat
open Go Go.T Go.RowKit Go.ChangeShapes Go.WideShapes Go.ChangeAt
theorem No : Rd Tryz.prog 5 U8 := ⟨by kernel_rfl, by decide, fun h => by
 obtain ⟨i, rfl, _⟩ := DataW.trod_int Tryz.underlying5 h
 exact ⟨i, rfl, trivial⟩⟩
section
variable {H : Type} {enc : TypeId × Value → H} {W : World} {base : Nat} {held : Bool} {v : Value} {d : DataW H} {p : List MemPlace}
set_option maxRecDepth 100000 in
theorem Lm (hv : Value.okWide Tryz.prog W .any base 72 v) (h : DataW.Trod enc Tryz.prog W 0 (fun _ => true) held 72 v d p) : ∃ n : Int, (0 ≤ n ∧ n ≤ 65535) ∧ (Ty.int .u16 n).den W oA v := by
 obtain ⟨n, rfl, _, _, hw⟩ := open_int Tryz.underlying72 hv h
 refine ⟨n, ?_, rfl⟩
 simp [Lit.wf, IntKind.wrap] at hw
 have e1 : IntKind.u16.min = 0 := rfl
 have e2 : IntKind.u16.max = 65535 := rfl
 omega
set_option maxRecDepth 100000 in
theorem Ih (hv : Value.okWide Tryz.prog W .any base 22 v) (h : DataW.Trod enc Tryz.prog W 0 (fun _ => true) held 22 v d p) : ∃ l, (Ty.sl U8 l).den W oA v := by
 obtain ⟨a, len, cap, rfl⟩ := okWide_slice Tryz.underlying22 hv
 obtain ⟨n, hn⟩ := h
 exact Lr No Tryz.underlying22 (by simpa [Value.cells] using hn)
end
end Go.Proofs.YtelbollidfdcjaaGreat
namespace Go.Proofs.YtelbollidfdcjaaGreat
open Go Go.T Go.RowKit Go.ChangeShapes Go.WideShapes Go.ChangeAt
section
variable {H : Type} {enc : TypeId × Value → H} {W : World} {base : Nat} {held : Bool} {v : Value} {d : DataW H} {p : List MemPlace}
end
end Go.Proofs.YtelbollidfdcjaaGreat
