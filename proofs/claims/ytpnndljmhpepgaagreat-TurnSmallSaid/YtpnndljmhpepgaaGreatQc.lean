/- Lemmas: the program and the reference walked, plain laws. -/
import Derived.Test.YtpnndljmhpepgaaGreatQb
namespace Go.Proofs.YtpnndljmhpepgaaGreat
open Go Go.T
set_option maxRecDepth 100000
set_option maxHeartbeats 2000000
theorem NR {p : Nat → Bool} {k : Nat} (h : ∀ j, j < k → p j = true) (hk : p k = true) : ∀ j, j < k + 1 → p j = true := fun j hj => by
 by_cases e : j = k
 ·subst e; exact hk
 exact h j aE
theorem yy {i a : Int} {n m : Nat} (h : (decide (i < a) && decide ((n : Int) ≤ m)) = true) : i < a ∧ n ≤ m := by
 simp only [Bool.and_eq_true, decide_eq_true_eq] at h; omega
theorem Gz {i a : Int} {n m : Nat} (h : (decide (i < a) && decide ((n : Int) ≤ m)) = false) : ¬ (i < a ∧ n ≤ m) := fun ⟨h1, h2⟩ => by
 rw [decide_eq_true h1, decide_eq_true (show (n : Int) ≤ m by omega)] at h; cases h
theorem JL {l : List Int} {y : Int} : nth (l ++ [y]) ((l ++ [y]).length - 1) = y := by
 rw [show (l ++ [y]).length - 1 = l.length by simp]; exact uZ
theorem Nl {b : aT} {i : Nat} {l : List Int} (x : Jl b i l) : ∀ y ∈ l, 0 ≤ y ∧ y < b.aO.length := fun y hy => by
 obtain ⟨k, hk, rfl⟩ := fP hy
 have := x.rng k hk; omega
theorem DC {b : aT} {k : Nat} {m : {m : Nat // m ≤ b.aO.length}} {x : Bool} (hr : ∀ l ∈ b.aO, 0 ≤ l.inn ∧ -1 ≤ l.aim) (h1 : (k : Int) < b.aO.length) (h2 : ¬ (m.1 : Int) < b.aO.length) (h3 : qB b k m.1 = x) : pq b k = x := by
 have := m.2
 rw [← IY aE hr, ← h3, show m.1 = b.aO.length by omega]
attribute [local irreducible] iL fu pJ r9 jY jQ jL jI jT rF jJ q5 dy g6 q2 g7 r8 nth fS dG ay dO bodyPost Exit.then Exit.inBlock Code.wp Code.wpIn fy rS rB rq rL jU r5 fG iT qd cT cX bodyPostM eE
theorem rK (b : aT) (hs : b.Small) : dO Tryz.prog 38 [cU b] (Ty.sl cL (b.aO.map (·.inn))) := by
 refine az Tryz.func38 ν aB Tryz.ntmps38 aP fun w0 M0 => ?_
 have hs1 := hs.aO
 refine aF (aA (bF ν (fm ν (aD (aC (aF (aA (fm ν (aD (aC (aF (aF (aA (bS ν (aD (aC (aV ?_)))))))))))))))))
 refine bf (fun (k : {k : Nat // k ≤ b.aO.length}) => live [(1, Ty.pp (bL b)), (3, Ty.row cL 3 21 ((b.aO.take k.1).map (·.inn))), (4, Ty.int .i64 (k.1 : Nat))] []) (fun k => b.aO.length - k.1) (⟨0, by omega⟩) ?_ fun k => ?_
 ·(refine dw.mk' ?_ ?_ <;> (repeat' (first | exact aQ | exact aR | refine aG ?_ (Ty.bC _) | refine aG ?_ (Ty.aM _) | refine aG ?_ Ty.gr)))
  all_goals exact gD rfl
 have hk := k.2
 refine aF (aF (aA (bA ν (aN ν ν ν ν ν aB (aJ ν ν ν ν (bU ν ν ν (ah ν ν ν (aD (aC ?_)))))))))
 refine aU ν (fun hc1 => ?_) (fun hc1 => ?_)
 ·refine aX (aC (aF (aV (aA (iy ν (aN ν ν ν ν ν aB (aJ ν ν ν ν (bA ν (af ν ν ν ν ν ν aE (aN ν ν ν ν ν aB (aJ ν ν ν ν ?_)))))))))))
  refine bD (E := cL) (xs := [_]) ν ν ν ν ν aB aB dn bn ν ?_
  refine cG ν ν aB ν ν ν ν ν ν aB bp bp (iY ν (aD (bE (aC (aA (bA ν (bY ν ν aE aE (bS ν (aD ?_)))))))))
  refine bG (⟨k.1 + 1, by omega⟩) ?_ ko
  (refine dw.mk' ?_ ?_ <;> (repeat' (first | exact aQ | exact aR | refine aG ?_ (Ty.bC _) | refine aG ?_ (Ty.aM _) | refine aG ?_ ?_)))
  all_goals exact Ty.cv (by rw [cg aE, List.map_append]; rfl)
 refine bQ (aI (aI (aS ν (aC (aF (aA (iy ν (iY ν (aD (aC (au (bg ν ν ?_))))))))))))
 all_goals exact gB aB (by rw [List.take_of_length_le wR])
theorem EN (l : List Int) (n : Int) : dO Tryz.prog 91 [Ty.sl cL l, Ty.int .i64 n] (Ty.bool (decide (n ∈ l))) := by
 refine az Tryz.func91 ν aB Tryz.ntmps91 aP fun w0 M0 => ?_
 refine fV (s := 0) ν ν fY fun hl => ?_
 refine aF (aA (dN ν (aD (aC (aF (aF (aA (bS ν (aD (aC (aV ?_)))))))))))
 refine bf (fun (k : {k : Nat // ∀ y ∈ l.take k, y ≠ n}) => live [(0, Ty.sl cL l), (1, Ty.int .i64 n), (5, Ty.int .i64 (k.1 : Nat))] []) (fun k => l.length - k.1) (⟨0, by simp⟩) ?_ fun k => ?_
 ·exact bt
 refine aF (aF (aA (bA ν (cM ν (bU ν ν ν (ah ν ν ν (aD (aC ?_))))))))
 refine aU ν (fun hc1 => ?_) (fun hc1 => ?_)
 ·refine aX (aC (aF (aV (aF (aA (cM ν (bA ν (af ν ν ν ν ν ν aE (aJ ν ν ν ν (bA ν (ah ν ν ν (aD (aC ?_)))))))))))))
  refine aU ν (fun hc2 => ?_) (fun hc2 => ?_)
  ·refine aF (aA (dN ν (aD (aC (au (aZ (aK (aK (aZ (aK (bg ν ν ?_)))))))))))
   exact av rfl rfl (congrArg Ty.bool (decide_eq_true (by rw [← hc2]; exact cD aE)).symm)
  refine aX (bE (aC (aA (bA ν (bY ν ν aE aE (bS ν (aD ?_)))))))
  refine bG (⟨k.1 + 1, by rw [cg aE]; intro y hy; rcases List.mem_append.1 hy with h | h; exact k.2 y h; rw [List.mem_singleton.1 h]; exact hc2⟩) ?_ pV
  exact bt
 refine bQ (aI (aI (aS ν (aC (aF (aA (dN ν (aD (aC (au (bg ν ν ?_)))))))))))
 exact av rfl rfl (congrArg Ty.bool (decide_eq_false (fun h => by have := k.2; rw [List.take_of_length_le aE] at this; exact this n h rfl)).symm)
theorem Ct (b : aT) (hs : b.Small) (i : Int) (hi : 0 ≤ i ∧ i < b.aO.length) : dO Tryz.prog 109 [cU b, Ty.int .i64 i] (Ty.int .i64 (follows b i)) := by
 refine az Tryz.func109 ν aB Tryz.ntmps109 aP fun w0 M0 => ?_
 have hs1 := hs.aO
 refine aF (aA (bF ν (bS ν (aD (aC (aF (aF (aA (bS ν (aD (aC (aV ?_))))))))))))
 refine bf (fun (k : {k : Nat // ∀ l ∈ b.aO.take k, decide (l.inn = (nth b.aO i.toNat).aim) = false}) => live [(1, Ty.int .i64 i), (2, Ty.pp (bL b)), (5, Ty.int .i64 (k.1 : Nat))] []) (fun k => b.aO.length - k.1) (⟨0, by simp⟩) ?_ fun k => ?_
 ·exact bt
 refine aF (aF (aA (bA ν (aN ν ν ν ν ν aB (aJ ν ν ν ν (bU ν ν ν (ah ν ν ν (aD (aC ?_)))))))))
 refine aU ν (fun hc1 => ?_) (fun hc1 => ?_)
 ·refine aX (aC (aF (aV (aF (cH mixed ν (aN ν ν ν ν ν aB (aJ ν ν ν ν (bA ν (af ν ν ν ν ν ν aE (aN ν ν ν ν ν aB (aJ ν ν ν ν (aN ν ν ν ν ν aB (aJ ν ν ν ν (bA ν (dR ν ν ν ν ν ν aE aE (aN ν ν ν ν ν aB (aJ ν ν ν ν (ah ν ν ν (aD ?_)))))))))))))))))))
  refine ⟨by kernel_rfl, ?_⟩
  refine aC ?_
  refine aU ν (fun hc2 => ?_) (fun hc2 => ?_)
  ·refine aF (aA (bA ν (bS ν (aD (aC (au (aZ (aK (aK (aZ (aK (bg ν ν ?_))))))))))))
   exact av rfl rfl (congrArg (Ty.int .i64) (E6 aE k.2 hc2).symm)
  refine aX (bE (aC (aA (bA ν (bY ν ν aE aE (bS ν (aD ?_)))))))
  refine bG (⟨k.1 + 1, gJ k.2 aE (decide_eq_false hc2)⟩) ?_ ko
  exact bt
 refine bQ (aI (aI (aS ν (aC (aF (aA (bS ν (aD (aC (au (bg ν ν ?_)))))))))))
 exact av rfl rfl (congrArg (Ty.int .i64) (CS (fun l hl => k.2 l K7)).symm)
theorem Hg (b : aT) (hs : b.Small) (l : List Int) (hl : ∀ x ∈ l, 0 ≤ x ∧ x < b.aO.length) : dO Tryz.prog 110 [cU b, Ty.sl cL l] (Ty.bool (kJ b l)) := by
 refine az Tryz.func110 ν aB Tryz.ntmps110 aP fun w0 M0 => ?_
 refine fV (s := 1) ν ν fY fun hll => ?_
 refine aF (aA (bF ν (dN ν (aD (aC (aF (aF (aA (bS ν (aD (aC (aV ?_))))))))))))
 refine bf (fun (k : {k : Nat // ∀ j, j < k → q7 b l j = true}) => live [(1, Ty.sl cL l), (2, Ty.pp (bL b)), (5, Ty.int .i64 (k.1 : Nat))] []) (fun k => l.length - k.1) (⟨0, fun j hj => absurd hj (Nat.not_lt_zero j)⟩) ?_ fun k => ?_
 ·exact bt
 refine aF (aF (aA (bA ν (cM ν (bU ν ν ν (ah ν ν ν (aD (aC ?_))))))))
 refine aU ν (fun hc1 => ?_) (fun hc1 => ?_)
 ·refine aX (aC (aF (aV (aF (cH mixed ν (aY ν ν ν aP (cM ν (bA ν (af ν ν ν ν ν ν aE (aJ ν ν ν ν (aa (Ct b hs (nth l k.1) (hl _ (cD aE))) ν ν ν ν ν (cM ν (bA ν (bY ν ν aE aE (cM ν (bU ν ν ν ?_))))))))))))))))
  refine LY (k := k.1) ν ν aE ?_
  refine dR ν ν ν ν ν ν aE (by have := Nat.mod_lt (k.1 + 1) (show 0 < l.length by omega); omega) ?_
  refine aJ ν ν ν ν (ah ν ν ν (aD ?_))
  refine ⟨by kernel_rfl, ?_⟩
  refine aC ?_
  refine bw ν (fun hc2 => ?_) (fun hc2 => ?_)
  ·refine aF (aA (dN ν (aD (aC (au (aZ (aK (aK (aZ (aK (bg ν ν ?_)))))))))))
   exact av rfl rfl (congrArg Ty.bool (oK (k := k.1) aE (decide_eq_false hc2)).symm)
  refine aX (bE (aC (aA (bA ν (bY ν ν aE aE (bS ν (aD ?_)))))))
  refine bG (⟨k.1 + 1, NR k.2 (decide_eq_true hc2)⟩) ?_ pV
  exact bt
 refine bQ (aI (aI (aS ν (aC (aF (aA (cM ν (bU ν ν ν (ah ν ν ν (dN ν (aD (aC (au (bg ν ν ?_))))))))))))))
 exact av rfl rfl (congrArg Ty.bool (by rw [tG (fun j hj => k.2 j aE)]; exact decide_eq_decide.2 aE))
theorem KG (b : aT) (hs : b.Small) : dO Tryz.prog 57 [cU b] (Ty.sl cY (l7 b)) := by
 refine az Tryz.func57 ν aB Tryz.ntmps57 aP fun w0 M0 => ?_
 have hs1 := hs.aO
 refine aF (aA (bF ν (fm ν (aD (aC (aF (aA (fm ν (aD (aC (aF (aF (aA (bS ν (aD (aC (aV ?_)))))))))))))))))
 refine bf (fun (k : {k : Nat // k ≤ b.aO.length}) => live [(1, Ty.pp (bL b)), (3, Ty.row cY 22 44 (fO b k.1)), (4, Ty.int .i64 (k.1 : Nat))] []) (fun k => b.aO.length - k.1) (⟨0, by omega⟩) ?_ fun k => ?_
 ·(refine dw.mk' ?_ ?_ <;> (repeat' (first | exact aQ | exact aR | refine aG ?_ (Ty.bC _) | refine aG ?_ (Ty.aM _) | refine aG ?_ Ty.gr)))
  all_goals exact gD rfl
 have hk := k.2
 have hl := oW b k.1
 refine aF (aF (aA (bA ν (aN ν ν ν ν ν aB (aJ ν ν ν ν (bU ν ν ν (ah ν ν ν (aD (aC ?_)))))))))
 refine aU ν (fun hc1 => ?_) (fun hc1 => ?_)
 ·refine aX (aC (aF (aV (aF (aA (bA ν ?_))))))
  refine dx (E := cL) (xs := [(k.1 : Int)]) ν ν ν ν ν aB aB dn bn ν ν ?_
  refine aY ν ν ν aP (bA ν ?_)
  refine aa (Ct b hs (k.1 : Nat) ⟨by omega, by omega⟩) ν ν ν ν ν ?_
  refine iY ν (bS ν (aD (aC (aF (aV ?_)))))
  refine bf (fun (x : {l : List Int // Jl b k.1 l}) => live [(1, Ty.pp (bL b)), (3, Ty.row cY 22 44 (fO b k.1)), (4, Ty.int .i64 (k.1 : Nat)), (5, Ty.row cL 3 16 x.1), (6, Ty.int .i64 (follows b (nth x.1 (x.1.length - 1))))] []) (fun x => b.aO.length + 2 - x.1.length) (⟨_, KB aE⟩) ?_ fun x => ?_
  ·(refine dw.mk' ?_ ?_ <;> (repeat' (first | exact aQ | exact aR | refine aG ?_ (Ty.bC _) | refine aG ?_ (Ty.aM _) | refine aG ?_ ?_)))
   all_goals exact Ty.bO (by simp [nth])
  have hx1 := x.2.pos
  have hx2 := x.2.len
  have hx3 := x.2.rng
  refine aF (aF (aA (bA ν (bA ν (ah ν ν ν (dm ν ?_))))))
  refine bT 22 ν (fun hg => aH (iy ν (aD ν))) ?_
  refine bT 22 ν (fun hg => cJ 23 hg ν (aH (gL ν ν ν (aD ν)))) ?_
  refine bT 22 ν (fun hg => aH (aN ν ν ν ν ν aB (aD ν))) ?_
  refine bT 22 ν (fun hg => cJ 25 hg ν (aH (aJ ν ν ν ν (aD ν)))) ?_
  refine bT 22 ν (fun hg => cJ 26 hg ν (aH (bU ν ν ν (aD ν)))) ?_
  refine bT 22 ν (fun hg => cJ 24 hg ν (cJ 27 hg ν (aH (ah ν ν ν (aD ν))))) ?_
  refine dA ν ν (aD (aC ?_))
  refine cI ν (fun hc2 => ?_) (fun hc2 => ?_)
  ·refine aX (aC (aV (cH mixed ν (iy ν (bA ν ?_)))))
   refine bD (E := cL) (xs := [_]) ν ν ν ν ν aB aB dn bn ν ?_
   refine cG ν ν aB ν ν ν ν ν ν aB bp bp (aY ν ν ν aP (bA ν ?_))
   refine aa (Ct b hs (follows b (nth x.1 (x.1.length - 1))) (by have := lP b (nth x.1 (x.1.length - 1)); have := (yy hc2).1; omega)) ν ν ν ν ν ?_
   refine iY ν (bS ν (aD ?_))
   refine ⟨by kernel_rfl, ?_⟩
   refine bE ?_
   refine bG (⟨_, x.2.next (yy hc2).1 (yy hc2).2⟩) ?_ Kw
   (refine dw.mk' ?_ ?_ <;> (repeat' (first | exact aQ | exact aR | refine aG ?_ (Ty.bC _) | refine aG ?_ (Ty.aM _) | refine aG ?_ ?_)))
   all_goals exact Ty.bO (congrArg (follows b) JL.symm)
  refine bQ (aI (aI (aS ν (aC (aF ?_)))))
  refine jA (tg := 16) [(5, Ty.sl cL x.1)] aB rfl ⟨oQ rfl, trivial⟩ ?_
  refine aA (aY ν ν ν aP (cM ν (aa (Hg b hs x.1 (Nl x.2)) ν ν ν ν ν (aD (aC ?_)))))
  refine cI ν (fun hc3 => ?_) (fun hc3 => ?_)
  ·refine aA (iy ν (cM ν ?_))
   refine bD (E := cY) (xs := [_]) ν ν ν ν ν aB aB oD bn ν ?_
   refine cG ν ν aB ν ν ν ν ν ν aB bp bp (iY ν (aD (bE (aC (aA (bA ν (bY ν ν aE aE (bS ν (aD ?_)))))))))
   refine bG (⟨k.1 + 1, by omega⟩) ?_ ko
   (refine dw.mk' ?_ ?_ <;> (repeat' (first | exact aQ | exact aR | refine aG ?_ (Ty.bC _) | refine aG ?_ (Ty.aM _) | refine aG ?_ ?_)))
   all_goals exact Ty.cv (I8 x.2 (Gz hc2) hc3)
  refine aX (bE (aC (aA (bA ν (bY ν ν aE aE (bS ν (aD ?_)))))))
  refine bG (⟨k.1 + 1, by omega⟩) ?_ ko
  (refine dw.mk' ?_ ?_ <;> (repeat' (first | exact aQ | exact aR | refine aG ?_ (Ty.bC _) | refine aG ?_ (Ty.aM _) | refine aG ?_ ?_)))
  all_goals exact Ty.cv (JM x.2 (Gz hc2) hc3)
 refine bQ (aI (aI (aS ν (aC (aF (aA (iy ν (iY ν (aD (aC (au (bg ν ν ?_))))))))))))
 all_goals exact gB aB LB
theorem Hq (b : aT) (hs : b.Small) (hr : ∀ l ∈ b.aO, 0 ≤ l.inn ∧ -1 ≤ l.aim) : dO Tryz.prog 56 [cU b] (Ty.sl cL (pN b)) := by
 refine az Tryz.func56 ν aB Tryz.ntmps56 aP fun w0 M0 => ?_
 have hs1 := hs.aO
 refine aF (aA (bF ν (fm ν (aD (aC (aF (aA (fm ν (aD (aC (aF (aF (aA (bS ν (aD (aC (aV ?_)))))))))))))))))
 refine bf (fun (k : {k : Nat // k ≤ b.aO.length}) => live [(1, Ty.pp (bL b)), (3, Ty.row cL 3 78 (eO (pq b) k.1)), (4, Ty.int .i64 (k.1 : Nat))] []) (fun k => b.aO.length - k.1) (⟨0, by omega⟩) ?_ fun k => ?_
 ·(refine dw.mk' ?_ ?_ <;> (repeat' (first | exact aQ | exact aR | refine aG ?_ (Ty.bC _) | refine aG ?_ (Ty.aM _) | refine aG ?_ Ty.gr)))
  all_goals exact gD (oP _).symm
 have hk := k.2
 have hl := jW (pq b) k.1
 refine aF (aF (aA (bA ν (aN ν ν ν ν ν aB (aJ ν ν ν ν (bU ν ν ν (ah ν ν ν (aD (aC ?_)))))))))
 refine aU ν (fun hc1 => ?_) (fun hc1 => ?_)
 ·refine aX (aC (aF (aV (aF (cH mixed ν (aN ν ν ν ν ν aB (aJ ν ν ν ν (bA ν (af ν ν ν ν ν ν aE (aN ν ν ν ν ν aB (aJ ν ν ν ν (ah ν ν ν (dm ν ?_)))))))))))))
  refine bT 21 ν (fun hg => aH (aN ν ν ν ν ν aB (aD ν))) ?_
  refine bT 21 ν (fun hg => cJ 22 hg ν (aH (aJ ν ν ν ν (aD ν)))) ?_
  refine bT 21 ν (fun hg => aH (bA ν (aD ν))) ?_
  refine bT 21 ν (fun hg => cJ 23 hg ν (cJ 24 hg ν (aH (af ν ν ν ν ν ν aE (aD ν))))) ?_
  refine bT 21 ν (fun hg => cJ 25 hg ν (aH (aN ν ν ν ν ν aB (aD ν)))) ?_
  refine bT 21 ν (fun hg => cJ 26 hg ν (aH (aJ ν ν ν ν (aD ν)))) ?_
  refine bT 21 ν (fun hg => aH (aN ν ν ν ν ν aB (aD ν))) ?_
  refine bT 21 ν (fun hg => cJ 28 hg ν (aH (aJ ν ν ν ν (aD ν)))) ?_
  refine bT 21 ν (fun hg => aH (bA ν (aD ν))) ?_
  refine bT 21 ν (fun hg => cJ 29 hg ν (cJ 30 hg ν (aH (af ν ν ν ν ν ν aE (aD ν))))) ?_
  refine bT 21 ν (fun hg => cJ 31 hg ν (aH (aN ν ν ν ν ν aB (aD ν)))) ?_
  refine bT 21 ν (fun hg => cJ 32 hg ν (aH (aJ ν ν ν ν (aD ν)))) ?_
  refine bT 21 ν (fun hg => cJ 27 hg ν (cJ 33 hg ν (aH (ah ν ν ν (aD ν))))) ?_
  refine dA ν ν (dN ν (aD ?_))
  refine ⟨by kernel_rfl, ?_⟩
  refine aC (aF (aF (aA (bS ν (aD (aC (aV ?_)))))))
  refine bf (fun (m : {m : Nat // m ≤ b.aO.length}) => live [(1, Ty.pp (bL b)), (3, Ty.row cL 3 78 (eO (pq b) k.1)), (4, Ty.int .i64 (k.1 : Nat)), (5, Ty.bool (qB b k.1 m.1)), (6, Ty.int .i64 (m.1 : Nat))] []) (fun m => b.aO.length - m.1) (⟨0, by omega⟩) ?_ fun m => ?_
  ·(refine dw.mk' ?_ ?_ <;> (repeat' (first | exact aQ | exact aR | refine aG ?_ (Ty.bC _) | refine aG ?_ (Ty.aM _) | refine aG ?_ ?_)))
   all_goals exact Ty.jv (ET (b := b) (i := k.1))
  have hm := m.2
  refine aF (aF (aA (bA ν (aN ν ν ν ν ν aB (aJ ν ν ν ν (bU ν ν ν (ah ν ν ν (aD (aC ?_)))))))))
  refine aU ν (fun hc2 => ?_) (fun hc2 => ?_)
  ·refine aX (aC (aF (aV (cH mixed ν (dm ν (dm ν ?_))))))
   refine bT 44 ν (fun hg => aH (bA ν (aD ν))) ?_
   refine bT 44 ν (fun hg => aH (bA ν (aD ν))) ?_
   refine bT 44 ν (fun hg => cJ 45 hg ν (cJ 46 hg ν (aH (ah ν ν ν (aD ν))))) ?_
   refine bT 44 ν (fun hg => cJ 47 hg ν (aH (dm ν (aD ν)))) ?_
   refine gi 48 ν (fun hg1 hg2 => aH (aN ν ν ν ν ν aB (aD ν))) ?_
   refine gi 48 ν (fun hg1 hg2 => jS 49 hg1 hg2 ν (aH (aJ ν ν ν ν (aD ν)))) ?_
   refine gi 48 ν (fun hg1 hg2 => aH (bA ν (aD ν))) ?_
   refine gi 48 ν (fun hg1 hg2 => jS 50 hg1 hg2 ν (jS 51 hg1 hg2 ν (aH (af ν ν ν ν ν ν aE (aD ν))))) ?_
   refine gi 48 ν (fun hg1 hg2 => jS 52 hg1 hg2 ν (aH (aN ν ν ν ν ν aB (aD ν)))) ?_
   refine gi 48 ν (fun hg1 hg2 => jS 53 hg1 hg2 ν (aH (aJ ν ν ν ν (aD ν)))) ?_
   refine gi 48 ν (fun hg1 hg2 => jS 54 hg1 hg2 ν (aH (ah ν ν ν (aD ν)))) ?_
   refine bT 44 ν (by intro hg; apply bV (s := 48) ν dF; apply fW (s := 55) ν dF; apply aH; (refine dA ν ν ?_); refine aD ?_; exact ν) ?_
   refine bT 44 ν (fun hg => cJ 56 hg ν (aH (dm ν (aD ν)))) ?_
   refine gi 57 ν (fun hg1 hg2 => aH (aN ν ν ν ν ν aB (aD ν))) ?_
   refine gi 57 ν (fun hg1 hg2 => jS 58 hg1 hg2 ν (aH (aJ ν ν ν ν (aD ν)))) ?_
   refine gi 57 ν (fun hg1 hg2 => aH (bA ν (aD ν))) ?_
   refine gi 57 ν (fun hg1 hg2 => jS 59 hg1 hg2 ν (jS 60 hg1 hg2 ν (aH (af ν ν ν ν ν ν aE (aD ν))))) ?_
   refine gi 57 ν (fun hg1 hg2 => jS 61 hg1 hg2 ν (aH (aN ν ν ν ν ν aB (aD ν)))) ?_
   refine gi 57 ν (fun hg1 hg2 => jS 62 hg1 hg2 ν (aH (aJ ν ν ν ν (aD ν)))) ?_
   refine gi 57 ν (fun hg1 hg2 => aH (aN ν ν ν ν ν aB (aD ν))) ?_
   refine gi 57 ν (fun hg1 hg2 => jS 64 hg1 hg2 ν (aH (aJ ν ν ν ν (aD ν)))) ?_
   refine gi 57 ν (fun hg1 hg2 => aH (bA ν (aD ν))) ?_
   refine gi 57 ν (fun hg1 hg2 => jS 65 hg1 hg2 ν (jS 66 hg1 hg2 ν (aH (af ν ν ν ν ν ν aE (aD ν))))) ?_
   refine gi 57 ν (fun hg1 hg2 => jS 67 hg1 hg2 ν (aH (aN ν ν ν ν ν aB (aD ν)))) ?_
   refine gi 57 ν (fun hg1 hg2 => jS 68 hg1 hg2 ν (aH (aJ ν ν ν ν (aD ν)))) ?_
   refine gi 57 ν (fun hg1 hg2 => jS 63 hg1 hg2 ν (jS 69 hg1 hg2 ν (aH (ah ν ν ν (aD ν))))) ?_
   refine bT 44 ν (by intro hg; apply bV (s := 57) ν dF; apply fW (s := 70) ν dF; apply aH; (refine dA ν ν ?_); refine aD ?_; exact ν) ?_
   refine eJ ν ν (dN ν (aD ?_))
   refine ⟨by kernel_rfl, ?_⟩
   refine bE (aC (aA (bA ν (bY ν ν aE aE (bS ν (aD ?_))))))
   refine bG (⟨m.1 + 1, by omega⟩) ?_ (by show b.aO.length - (m.1 + 1) < b.aO.length - m.1; omega)
   (refine dw.mk' ?_ ?_ <;> (repeat' (first | exact aQ | exact aR | refine aG ?_ (Ty.bC _) | refine aG ?_ (Ty.aM _) | refine aG ?_ ?_)))
   all_goals exact Ty.jv (Dn (b := b) (i := k.1) (m := m.1)).symm
  refine bQ (aI (aI (aS ν (aC (aF (aA (dm ν (aD (aC ?_)))))))))
  refine cI ν (fun hc3 => ?_) (fun hc3 => ?_)
  ·refine aA (iy ν (bA ν ?_))
   refine bD (E := cL) (xs := [_]) ν ν ν ν ν aB aB dn bn ν ?_
   refine cG ν ν aB ν ν ν ν ν ν aB bp bp (iY ν (aD (bE (aC (aA (bA ν (bY ν ν aE aE (bS ν (aD ?_)))))))))
   refine bG (⟨k.1 + 1, by omega⟩) ?_ ko
   (refine dw.mk' ?_ ?_ <;> (repeat' (first | exact aQ | exact aR | refine aG ?_ (Ty.bC _) | refine aG ?_ (Ty.aM _) | refine aG ?_ ?_)))
   all_goals exact Ty.cv (nX (p := pq b) (n := k.1) (DC hr hc1 hc2 hc3))
  refine aX (bE (aC (aA (bA ν (bY ν ν aE aE (bS ν (aD ?_)))))))
  refine bG (⟨k.1 + 1, by omega⟩) ?_ ko
  (refine dw.mk' ?_ ?_ <;> (repeat' (first | exact aQ | exact aR | refine aG ?_ (Ty.bC _) | refine aG ?_ (Ty.aM _) | refine aG ?_ ?_)))
  all_goals exact Ty.cv (p6 (p := pq b) (n := k.1) (DC hr hc1 hc2 hc3))
 refine bQ (aI (aI (aS ν (aC (aF (aA (iy ν (iY ν (aD (aC (au (bg ν ν ?_))))))))))))
 all_goals exact gB aB LB
end Go.Proofs.YtpnndljmhpepgaaGreat
namespace Go.Proofs.YtpnndljmhpepgaaGreat
open Go Go.T
section
variable {κ β : Type} [DecidableEq κ]
theorem z4 (q : List (κ × β)) (k : κ) (v : β) (x : κ) : x ∈ (dQ q k v).map Prod.fst ↔ x = k ∨ x ∈ q.map Prod.fst := by
  induction q with
  | nil => simp [dQ]
  | cons y l ih =>
    simp only [dQ]
    by_cases h : y.1 = k
    · subst h; simp
    · rw [if_neg h]; simp only [List.map_cons, List.mem_cons, ih]
      constructor
      · rintro (h | h | h)
        · exact .inr (.inl h)
        · exact .inl h
        · exact .inr (.inr h)
      · rintro (h | h | h)
        · exact .inr (.inl h)
        · exact .inl h
        · exact .inr (.inr h)
theorem lH (q : List (κ × β)) (k : κ) (v : β) (hn : (q.map Prod.fst).Nodup) : ((dQ q k v).map Prod.fst).Nodup := by
  induction q with
  | nil => simp [dQ]
  | cons y l ih =>
    rw [List.map_cons, List.nodup_cons] at hn
    simp only [dQ]
    by_cases h : y.1 = k
    · subst h; rw [if_pos rfl, List.map_cons, List.nodup_cons]; exact hn
    · rw [if_neg h, List.map_cons, List.nodup_cons]
      refine ⟨fun hm => ?_, ih hn.2⟩
      rcases (z4 l k v y.1).1 hm with e | e
      · exact h e
      · exact hn.1 e
theorem oy {q : List (κ × β)} {k : κ} {v : β} (h : b8 q k = some v) : k ∈ q.map Prod.fst := by
  induction q with
  | nil => cases h
  | cons y l ih =>
    simp only [b8] at h
    by_cases e : y.1 = k
    · subst e; simp
    · rw [if_neg e] at h; exact List.mem_cons_of_mem _ (ih h)
theorem uw {q : List (κ × β)} {k : κ} (h : k ∈ q.map Prod.fst) : ∃ v, b8 q k = some v := by
  induction q with
  | nil => cases h
  | cons y l ih =>
    simp only [b8]
    by_cases e : y.1 = k
    · exact ⟨_, if_pos e⟩
    · rw [if_neg e]; rw [List.map_cons, List.mem_cons] at h
      exact ih (h.resolve_left fun h => e h.symm)
theorem Du {q : List (κ × β)} {k : κ} (h : k ∉ q.map Prod.fst) : b8 q k = none := by
  cases e : b8 q k with
  | none => rfl
  | some v => exact absurd (oy e) h
theorem uO (q : List (κ × β)) (k : κ) (v : β) (h : b8 q k = none) : (dQ q k v).length = q.length + 1 := by
  induction q with
  | nil => rfl
  | cons y l ih =>
    simp only [b8] at h
    by_cases e : y.1 = k
    · rw [if_pos e] at h; cases h
    · rw [if_neg e] at h; simp only [dQ, if_neg e, List.length_cons, ih h]
theorem sZ {α : Type} (y : κ × List α) (l : List (κ × List α)) (k : κ) : mF (y :: l) k = if y.1 = k then l else y :: mF l k := by
  unfold mF
  rw [List.map_cons, List.findIdx?_cons]
  by_cases e : y.1 = k
  · rw [if_pos e, decide_eq_true e]; rfl
  · rw [if_neg e, decide_eq_false e]
    cases h : (l.map Prod.fst).findIdx? fun x => decide (x = k) with
    | none => simp
    | some i => simp
theorem JH {α : Type} (l : List (κ × List α)) (k : κ) : ∀ x, x ∈ (mF l k).map Prod.fst → x ∈ l.map Prod.fst := by
  induction l with
  | nil => intro x h; exact h
  | cons y l ih =>
    intro x h
    rw [sZ] at h
    by_cases e : y.1 = k
    · rw [if_pos e] at h; exact List.mem_cons_of_mem _ h
    · rw [if_neg e, List.map_cons, List.mem_cons] at h
      rw [List.map_cons, List.mem_cons]
      exact h.imp id (ih x)
theorem GC {α : Type} (l : List (κ × List α)) (k : κ) (hn : (l.map Prod.fst).Nodup) : ((mF l k).map Prod.fst).Nodup := by
  induction l with
  | nil => exact hn
  | cons y l ih =>
    rw [List.map_cons, List.nodup_cons] at hn
    rw [sZ]
    by_cases e : y.1 = k
    · rw [if_pos e]; exact hn.2
    · rw [if_neg e, List.map_cons, List.nodup_cons]
      exact ⟨fun h => hn.1 (JH l k _ h), ih hn.2⟩
theorem II {α : Type} (l : List (κ × List α)) (k k' : κ) (hn : (l.map Prod.fst).Nodup) : b8 (mF l k) k' = if k = k' then none else b8 l k' := by
  induction l with
  | nil => show none = _; split <;> rfl
  | cons y l ih =>
    rw [List.map_cons, List.nodup_cons] at hn
    rw [sZ]
    by_cases e : y.1 = k
    · rw [if_pos e]
      by_cases e2 : k = k'
      · rw [if_pos e2]; exact Du (by rw [← e2, ← e]; exact hn.1)
      · rw [if_neg e2]; simp only [b8]; rw [if_neg (by rw [e]; exact e2)]
    · rw [if_neg e]; simp only [b8]
      by_cases e3 : y.1 = k'
      · rw [if_pos e3, if_neg (by rw [← e3]; exact fun h => e h.symm), if_pos e3]
      · rw [if_neg e3, ih hn.2, if_neg e3]
end
def rowAt {α : Type} (q : List (Int × List α)) (m : Int) : List α := (b8 q m).getD []
theorem mh {α : Type} (q : List (Int × List α)) (n : Int) (r : List α) (m : Int) : rowAt (dQ q n r) m = if n = m then r else rowAt q m := by
 unfold rowAt; rw [sJ]; split <;> rfl
theorem BW {α : Type} (q : List (Int × List α)) (n m : Int) (hn : (q.map Prod.fst).Nodup) : rowAt (mF q n) m = if n = m then [] else rowAt q m := by
 unfold rowAt; rw [II q n m hn]; split <;> rfl
def oG {α : Type} : List (Int × List α) → Int
  | [] => 0
  | x :: l => x.2.length + oG l
theorem yK {α : Type} (q : List (Int × List α)) (n : Int) (r : List α) : oG (dQ q n r) = oG q - (rowAt q n).length + r.length := by
  induction q with
  | nil => simp [dQ, oG, rowAt, b8]
  | cons y l ih =>
    simp only [dQ]
    by_cases e : y.1 = n
    · rw [if_pos e]; simp only [oG, rowAt, b8, if_pos e, Option.getD_some]; omega
    · rw [if_neg e]; simp only [oG, ih]
      have : rowAt (y :: l) n = rowAt l n := by simp only [rowAt, b8, if_neg e]
      rw [this]; omega
theorem DH {α : Type} (q : List (Int × List α)) (n : Int) : oG (mF q n) = oG q - (rowAt q n).length := by
  induction q with
  | nil => simp [mF, oG, rowAt, b8]
  | cons y l ih =>
    rw [sZ]
    by_cases e : y.1 = n
    · rw [if_pos e]; simp only [oG, rowAt, b8, if_pos e, Option.getD_some]; omega
    · rw [if_neg e]; simp only [oG, ih]
      have : rowAt (y :: l) n = rowAt l n := by simp only [rowAt, b8, if_neg e]
      rw [this]; omega
theorem sD {α : Type} : ∀ (q : List (Int × List α)), 0 ≤ oG q
  | [] => Int.le_refl _
  | x :: l => by have := sD l; simp only [oG]; omega
theorem zU {α : Type} (q : List (Int × List α)) (n : Int) : (rowAt q n).length ≤ oG q := by
 have h1 := DH q n
 have h2 := sD (mF q n)
 omega
theorem EY {α : Type} : ∀ (q : List (Int × List α)), 0 < oG q → (q.map Prod.fst).Nodup → ∃ m, rowAt q m ≠ []
  | [], h, _ => by cases h
  | x :: l, h, hn => by
    rw [List.map_cons, List.nodup_cons] at hn
    by_cases e : x.2 = []
    · have : 0 < oG l := by simp only [oG, e, List.length_nil] at h; omega
      obtain ⟨m, hm⟩ := EY l this hn.2
      refine ⟨m, ?_⟩
      have hne : x.1 ≠ m := fun e2 => hm (by unfold rowAt; rw [Du (by rw [← e2]; exact hn.1)]; rfl)
      simp only [rowAt, b8, if_neg hne]; exact hm
    · exact ⟨x.1, by simp only [rowAt, b8, if_pos]; exact e⟩
theorem iE {α : Type} [DecidableEq α] : ∀ {l L : List α}, l.Nodup → (∀ x ∈ l, x ∈ L) → l.length ≤ L.length
  | [], _, _, _ => Nat.zero_le _
  | x :: l, L, hn, h => by
    rw [List.nodup_cons] at hn
    have h1 := List.length_erase_of_mem (h x List.mem_cons_self)
    have h2 := iE (l := l) (L := L.erase x) hn.2 fun y hy => (List.mem_erase_of_ne (fun (e : y = x) => hn.1 (by rw [← e]; exact hy))).2 (h y (List.mem_cons_of_mem _ hy))
    have h3 := List.length_pos_of_mem (h x List.mem_cons_self)
    simp only [List.length_cons]; omega
def Eh : Nat → List (List Int)
  | 0 => [[]]
  | n + 1 => (List.range 7).flatMap fun (k : Nat) => (Eh n).map fun l => (k : Int) :: l
theorem vT : ∀ {n : Nat} {l : List Int}, l.length = n → (∀ x ∈ l, 0 ≤ x ∧ x < 7) → l ∈ Eh n
  | 0, l, h, _ => by rw [List.length_eq_zero_iff.1 h]; exact List.mem_singleton.2 rfl
  | n + 1, [], h, _ => by cases h
  | n + 1, x :: l, h, hr => by
    have hx := hr x List.mem_cons_self
    exact List.mem_flatMap.2 ⟨x.toNat, List.mem_range.2 aE, List.mem_map.2 ⟨l, vT nq fun y hy => hr y (List.mem_cons_of_mem _ hy), by rw [show ((x.toNat : Nat) : Int) = x by omega]⟩⟩
def dZ : Nat := (Eh 6).length
abbrev Pl := JE 6
instance : Inhabited Pl := ⟨⟨[0, 0, 0, 0, 0, 0], rfl⟩⟩
def cm (p : Pl) (t : bX) : Pl := ⟨p.1.set t.bN.toNat t.aim, by rw [List.length_set]; exact p.2⟩
def gh (b : aT) (p : Pl) (k : Int) : Bool := (p.1.take b.aO.length).any fun n => decide (n = k)
def jx (b : aT) (p : Pl) (k : Nat) : List bX := if gh b p k = true then [] else ((List.range b.aO.length).filter fun (i : Nat) => b.hold k i).map fun (i : Nat) => ⟨i, k⟩
def bP (b : aT) (p : Pl) : List bX := (List.range b.sizes.length).flatMap (jx b p)
theorem xI {b : aT} {p : Pl} {k : Nat} {t : bX} : t ∈ jx b p k ↔ t.aim = k ∧ 0 ≤ t.bN ∧ t.bN < b.aO.length ∧ gh b p k = false ∧ b.hold k t.bN = true := by
  unfold jx
  cases h : gh b p k with
  | true => simp
  | false =>
    rw [if_neg aB, List.mem_map]
    simp only [List.mem_filter, List.mem_range]
    constructor
    · rintro ⟨i, ⟨h1, h2⟩, rfl⟩
      exact ⟨rfl, by show 0 ≤ (i : Int); omega, by show (i : Int) < _; omega, by first | rfl | trivial, h2⟩
    · rintro ⟨h1, h2, h3, _, h4⟩
      refine ⟨t.bN.toNat, ⟨by omega, by rw [show ((t.bN.toNat : Nat) : Int) = t.bN by omega]; exact h4⟩, ?_⟩
      cases t; simp only [bX.mk.injEq] at *; exact ⟨by omega, h1.symm⟩
theorem gQ {b : aT} {p : Pl} {t : bX} : t ∈ bP b p ↔ 0 ≤ t.bN ∧ t.bN < b.aO.length ∧ 0 ≤ t.aim ∧ t.aim < b.sizes.length ∧ gh b p t.aim = false ∧ b.hold t.aim t.bN = true := by
 unfold bP
 rw [List.mem_flatMap]
 constructor
 ·rintro ⟨k, hk, h⟩
  rw [List.mem_range] at hk
  obtain ⟨h1, h2, h3, h4, h5⟩ := xI.1 h
  rw [h1]
  exact ⟨h2, h3, by omega, by omega, h4, h5⟩
 rintro ⟨h1, h2, h3, h4, h5, h6⟩
 have e : ((t.aim.toNat : Nat) : Int) = t.aim := by omega
 exact ⟨t.aim.toNat, List.mem_range.2 aE, xI.2 ⟨e.symm, h1, h2, by rw [e]; exact h5, by rw [e]; exact h6⟩⟩
def eN (b : aT) (p : Pl) : Bool := (List.range b.aO.length).all fun i => decide ((nth b.aO i).aim = -1) || decide ((nth b.aO i).aim = nth p.1 i)
def bJ (b : aT) : Pl := ⟨((b.aO.map fun (l : oF) => l.inn) ++ List.replicate 6 (0 : Int)).take 6, by rw [List.length_take, List.length_append, List.length_replicate]; omega⟩
def mR (b : aT) : Pl → List bX → Option Pl
  | p, [] => some p
  | p, t :: l => if t ∈ bP b p then mR b (cm p t) l else none
theorem qR (b : aT) : ∀ (l : List bX) (p : Pl) (l' : List bX), mR b p (l ++ l') = (mR b p l).bind fun q => mR b q l'
  | [], p, l' => rfl
  | t :: l, p, l' => by
    show (if t ∈ bP b p then mR b (cm p t) (l ++ l') else none) = Option.bind (if t ∈ bP b p then mR b (cm p t) l else none) _
    by_cases h : t ∈ bP b p
    · rw [if_pos h, if_pos h, qR b l (cm p t) l']
    · rw [if_neg h, if_neg h]; rfl
theorem NX {b : aT} {p : Pl} {t : bX} (h : t ∈ bP b p) : mR b p [t] = some (cm p t) := if_pos h
theorem zA {b : aT} {p q : Pl} {l : List bX} {t : bX} (h1 : mR b p l = some q) (h2 : t ∈ bP b q) : mR b p (l ++ [t]) = some (cm q t) := by
 rw [qR, h1]; exact NX h2
theorem u9 {b : aT} {p r : Pl} {l : List bX} {t : bX} (h : mR b p (l ++ [t]) = some r) : ∃ q, mR b p l = some q ∧ t ∈ bP b q ∧ r = cm q t := by
  rw [qR] at h
  cases h1 : mR b p l with
  | none => rw [h1] at h; cases h
  | some q =>
    rw [h1] at h
    have h : (if t ∈ bP b q then some (cm q t) else none) = some r := h
    by_cases h2 : t ∈ bP b q
    · rw [if_pos h2] at h; injection h with h; exact ⟨q, rfl, h2, h.symm⟩
    · rw [if_neg h2] at h; cases h
def fF (c : bX → Int) (l : List bX) : Int := (l.map c).sum
theorem IT (c : bX → Int) : fF c [] = 0 := rfl
theorem e6 (c : bX → Int) (l l' : List bX) : fF c (l ++ l') = fF c l + fF c l' := by
 unfold fF; rw [List.map_append, List.sum_append]
theorem jg (c : bX → Int) (t : bX) : fF c [t] = c t := by simp [fF]
theorem Ar {α : Type} : ∀ (l : List α), l = [] ∨ ∃ l' x, l = l' ++ [x]
  | [] => .inl rfl
  | x :: l => by
    rcases Ar l with h | ⟨l', y, h⟩
    · subst h; exact .inr ⟨[], x, rfl⟩
    · subst h; exact .inr ⟨x :: l', y, rfl⟩
theorem ju {α : Type} {C : List α → Prop} (h0 : C []) (h1 : ∀ l x, C l → C (l ++ [x])) : ∀ l, C l := by
  intro l
  have key : ∀ n (l : List α), l.length = n → C l := by
    intro n
    induction n with
    | zero => intro l h; rw [List.length_eq_zero_iff.1 h]; exact h0
    | succ n ih =>
      intro l h
      rcases Ar l with e | ⟨l', x, e⟩
      · subst e; cases h
      · subst e; exact h1 l' x (ih l' nq)
  exact key _ l rfl
def tO (p : Pl) : Prop := ∀ x ∈ p.1, 0 ≤ x ∧ x < 7
theorem yq {b : aT} (h : b.cQ) : tO (bJ b) := fun x hx => by
 have hx : x ∈ ((b.aO.map fun (l : oF) => l.inn) ++ List.replicate 6 (0 : Int)).take 6 := hx
 rcases List.mem_append.1 (List.mem_of_mem_take hx) with hx | hx
 ·obtain ⟨l, hl, rfl⟩ := List.mem_map.1 hx
  have h1 := h.inn l hl; have h2 := h.iJ; omega
 rw [List.eq_of_mem_replicate hx]; omega
theorem FH {b : aT} (h : b.cQ) {p : Pl} {t : bX} (hp : tO p) (ht : t ∈ bP b p) : tO (cm p t) := fun x hx => by
 rcases List.mem_or_eq_of_mem_set hx with hx | hx
 ·exact hp x hx
 have h1 := gQ.1 ht; have h2 := h.iJ; omega
theorem yA {b : aT} (h : b.cQ) : ∀ (l : List bX) {p q : Pl}, tO p → mR b p l = some q → tO q
  | [], p, q, hp, e => by injection e with e; exact e ▸ hp
  | t :: l, p, q, hp, e => by
    have e : (if t ∈ bP b p then mR b (cm p t) l else none) = some q := e
    by_cases ht : t ∈ bP b p
    · rw [if_pos ht] at e; exact yA h l (FH h hp ht) e
    · rw [if_neg ht] at e; cases e
theorem yV {l : List Pl} (hn : l.Nodup) (h : ∀ p ∈ l, tO p) : l.length ≤ dZ := by
 have := iE (l := l.map Subtype.val) (L := Eh 6) (by
  rw [List.nodup_iff_pairwise_ne, List.pairwise_map]
  exact hn.imp fun hab e => hab (Subtype.ext e)) fun x hx => by
   obtain ⟨p, hp, rfl⟩ := List.mem_map.1 hx
   exact vT p.2 (h p hp)
 rwa [List.length_map] at this
theorem EO (b : aT) (p : Pl) (k : Nat) : (jx b p k).length ≤ b.aO.length := by
 unfold jx
 split
 ·exact Nat.zero_le _
 rw [List.length_map]; exact Nat.le_trans (List.length_filter_le _ _) bB
theorem cz {α β : Type} (f : α → List β) (m : Nat) (h : ∀ x, (f x).length ≤ m) : ∀ l : List α, (l.flatMap f).length ≤ l.length * m
  | [] => Nat.zero_le _
  | x :: l => by
    have h1 := cz f m h l
    have h2 := h x
    rw [List.flatMap_cons, List.length_append, List.length_cons, Nat.succ_mul]; omega
theorem th {b : aT} (h : b.cQ) (p : Pl) : (bP b p).length ≤ 42 := by
 have h1 := cz (jx b p) b.aO.length (EO b p) (List.range b.sizes.length)
 rw [List.length_range] at h1
 have h2 : b.sizes.length * b.aO.length ≤ 7 * 6 := Nat.mul_le_mul h.iJ.2 h.aO
 exact Nat.le_trans h1 h2
attribute [irreducible] dZ
end Go.Proofs.YtpnndljmhpepgaaGreat
namespace Go.Proofs.YtpnndljmhpepgaaGreat
open Go Go.T
structure Way where
  frm : Pl
  byT : List bX
  all : Int
  deriving Inhabited
structure Found where
  ways : List (Pl × Way)
  last : Pl
  is : Bool
  deriving Inhabited
def Jm : Pl := ⟨[0, 0, 0, 0, 0, 0], rfl⟩
def jD : Way := ⟨Jm, [], 0⟩
structure St where
  ways : List (Pl × Way)
  queue : List (Int × List Pl)
  left : Int
  done : List (Pl × Bool)
  now : Int
def wV (ways : List (Pl × Way)) (q : Pl) (n : Int) : Bool := (b8 ways q).isSome && decide (min n ((b8 ways q).getD jD).all = ((b8 ways q).getD jD).all)
theorem Ih {ways : List (Pl × Way)} {q : Pl} {n : Int} (h : wV ways q n = true) : ∃ w, b8 ways q = some w ∧ w.all ≤ n := by
  unfold wV at h
  rw [Bool.and_eq_true] at h
  cases e : b8 ways q with
  | none => rw [e] at h; exact absurd h.1 aB
  | some w => rw [e] at h; have := of_decide_eq_true h.2; simp only [Option.getD_some] at this; exact ⟨w, rfl, by omega⟩
theorem tR {ways : List (Pl × Way)} {q : Pl} {n : Int} (h : wV ways q n = false) {w : Way} (e : b8 ways q = some w) : n < w.all := by
 unfold wV at h
 rw [e] at h
 simp only [Option.isSome_some, Bool.true_and, Option.getD_some, decide_eq_false_iff_not] at h; omega
def nY (c : bX → Int) (p : Pl) (x : St) (t : bX) : St :=
  if wV x.ways (cm p t) (x.now + c t) = true then x else
    { x with ways := dQ x.ways (cm p t) ⟨p, [t], x.now + c t⟩, queue := dQ x.queue (x.now + c t) (rowAt x.queue (x.now + c t) ++ [cm p t]), left := x.left + 1 }
theorem Bb {c : bX → Int} {p : Pl} {x : St} {t : bX} (h : wV x.ways (cm p t) (x.now + c t) = true) : nY c p x t = x := if_pos h
theorem DV {c : bX → Int} {p : Pl} {x : St} {t : bX} (h : wV x.ways (cm p t) (x.now + c t) = false) : nY c p x t = { x with ways := dQ x.ways (cm p t) ⟨p, [t], x.now + c t⟩, queue := dQ x.queue (x.now + c t) (rowAt x.queue (x.now + c t) ++ [cm p t]), left := x.left + 1 } := if_neg oz
theorem FI (c : bX → Int) (p : Pl) (x : St) (t : bX) : (nY c p x t).done = x.done := by unfold nY; split <;> rfl
theorem Je (c : bX → Int) (p : Pl) (x : St) (t : bX) : (nY c p x t).now = x.now := by unfold nY; split <;> rfl
structure Inv (b : aT) (c : bX → Int) (all : Bool) (F : Pl → List bX) (R : Int) (x : St) : Prop where
  now0 : 0 ≤ x.now
  start : b8 x.ways (bJ b) = some jD
  keys : (x.ways.map Prod.fst).Nodup
  qkeys : (x.queue.map Prod.fst).Nodup
  dkeys : (x.done.map Prod.fst).Nodup
  dval : ∀ p v, b8 x.done p = some v → v = true
  via : ∀ q w, b8 x.ways q = some w → q = bJ b ∨ ∃ t w', w.byT = [t] ∧ t ∈ bP b w.frm ∧ q = cm w.frm t ∧ b8 x.done w.frm = some true ∧ b8 x.ways w.frm = some w' ∧ w.all = w'.all + c t
  walk : ∀ q w, b8 x.ways q = some w → ∃ l, mR b (bJ b) l = some q ∧ fF c l = w.all
  fin : ∀ p, b8 x.done p = some true → ∃ w, b8 x.ways p = some w ∧ w.all ≤ x.now ∧ ∀ t ∈ F p, ∃ w', b8 x.ways (cm p t) = some w' ∧ w'.all ≤ w.all + c t
  wait : ∀ q w, b8 x.ways q = some w → b8 x.done q = none → x.now ≤ w.all ∧ q ∈ rowAt x.queue w.all
  que : ∀ m q, q ∈ rowAt x.queue m → x.now ≤ m ∧ m ≤ 300 * x.done.length ∧ ∃ w, b8 x.ways q = some w ∧ w.all ≤ m
  left : x.left = oG x.queue
  lim : x.left + R ≤ 1 + 42 * x.done.length
  no : all = false → ∀ p, b8 x.done p = some true → eN b p = false
  cap : ∀ q w, b8 x.ways q = some w → w.all ≤ 300 * x.done.length
structure At (b : aT) (p : Pl) (x : St) : Prop where
  done : b8 x.done p = some true
  way : ∃ w, b8 x.ways p = some w ∧ w.all = x.now
  cap : x.now + 300 ≤ 300 * x.done.length
variable {b : aT} {c : bX → Int} {all : Bool} {F : Pl → List bX} {R : Int} {x : St} {p : Pl} {t : bX}
theorem Inv.weaken {R' : Int} (h : Inv b c all F R x) (hR : R' ≤ R) : Inv b c all F R' x := { h with lim := by have := h.lim; omega }
theorem Inv.Qo {F' : Pl → List bX} (h : Inv b c all F R x) (hF : ∀ p, b8 x.done p = some true → ∀ t ∈ F' p, t ∈ F p) : Inv b c all F' R x :=
 { h with fin := fun p hp => let ⟨w, h1, h2, h3⟩ := h.fin p hp; ⟨w, h1, h2, fun t ht => h3 t (hF p hp t ht)⟩ }
theorem D3 (h : Inv b c all F R x) (hp : At b p x) (hct : 1 ≤ c t) (hm : wV x.ways (cm p t) (x.now + c t) = false) {r : Pl} {w : Way} (hw : b8 x.ways r = some w) (hle : w.all ≤ x.now) : cm p t ≠ r := fun e => by
 subst e
 have := tR hm hw
 omega
theorem JZ (h : Inv b c all F R x) (hp : At b p x) (ht : t ∈ bP b p) (hct : 1 ≤ c t ∧ c t ≤ 300) : Inv b c all (fun r => if r = p then F r ++ [t] else F r) (R - 1) (nY c p x t) ∧ At b p (nY c p x t) := by
  obtain ⟨hpd, ⟨wp, hwp, hwn⟩, hcap⟩ := hp
  have hp : At b p x := ⟨hpd, ⟨wp, hwp, hwn⟩, hcap⟩
  have h0 := h.now0
  cases hm : wV x.ways (cm p t) (x.now + c t) with
  | true =>
    rw [Bb hm]
    refine ⟨{ h with fin := fun r hr => ?_, lim := by have := h.lim; omega }, hp⟩
    obtain ⟨w, h1, h2, h3⟩ := h.fin r hr
    refine ⟨w, h1, h2, fun u hu => ?_⟩
    by_cases e : r = p
    · subst e
      rw [if_pos rfl, List.mem_append, List.mem_singleton] at hu
      rcases hu with hu | hu
      · exact h3 u hu
      · subst hu
        obtain ⟨w', e1, e2⟩ := Ih hm
        rw [hwp] at h1; injection h1 with h1
        exact ⟨w', e1, by rw [← h1, hwn]; exact e2⟩
    · rw [if_neg e] at hu; exact h3 u hu
  | false =>
    rw [DV hm]
    have hnf : cm p t ≠ bJ b := D3 h hp hct.1 hm h.start h0
    have hnd : ∀ r, b8 x.done r = some true → cm p t ≠ r := fun r hr => by
      obtain ⟨w, h1, h2, _⟩ := h.fin r hr
      exact D3 h hp hct.1 hm h1 h2
    have hget : ∀ r, b8 (dQ x.ways (cm p t) ⟨p, [t], x.now + c t⟩) r = if cm p t = r then some ⟨p, [t], x.now + c t⟩ else b8 x.ways r := fun r => sJ _ _ _ _
    refine ⟨⟨h0, by rw [hget, if_neg hnf]; exact h.start, lH _ _ _ h.keys, lH _ _ _ h.qkeys, h.dkeys, h.dval, fun q w hq => ?_, fun q w hq => ?_, fun r hr => ?_, fun q w hq hqd => ?_, fun m q hq => ?_, ?_, ?_, h.no, fun q w hq => ?_⟩, hpd, ⟨wp, by rw [hget, if_neg (hnd p hpd)]; exact hwp, hwn⟩, hcap⟩
    · rw [hget] at hq
      by_cases e : cm p t = q
      · rw [if_pos e] at hq; injection hq with hq; subst hq
        exact .inr ⟨t, wp, rfl, ht, e.symm, hpd, by rw [hget, if_neg (hnd p hpd)]; exact hwp, by show x.now + c t = wp.all + c t; omega⟩
      · rw [if_neg e] at hq
        rcases h.via q w hq with h1 | ⟨u, w', h1, h2, h3, h4, h5, h6⟩
        · exact .inl h1
        · exact .inr ⟨u, w', h1, h2, h3, h4, by rw [hget, if_neg (hnd _ h4)]; exact h5, h6⟩
    · rw [hget] at hq
      by_cases e : cm p t = q
      · rw [if_pos e] at hq; injection hq with hq; subst hq
        obtain ⟨l, h1, h2⟩ := h.walk p wp hwp
        exact ⟨l ++ [t], by rw [← e]; exact zA h1 ht, by rw [e6, jg, h2, hwn]⟩
      · rw [if_neg e] at hq; exact h.walk q w hq
    · obtain ⟨w, h1, h2, h3⟩ := h.fin r hr
      refine ⟨w, by rw [hget, if_neg (hnd r hr)]; exact h1, h2, fun u hu => ?_⟩
      have old : (∃ w', b8 x.ways (cm r u) = some w' ∧ w'.all ≤ w.all + c u) → ∃ w', b8 (dQ x.ways (cm p t) ⟨p, [t], x.now + c t⟩) (cm r u) = some w' ∧ w'.all ≤ w.all + c u := fun ⟨w', g1, g2⟩ => by
        rw [hget]
        by_cases e : cm p t = cm r u
        · rw [if_pos e]; refine ⟨_, rfl, ?_⟩
          have := tR hm (by rw [e]; exact g1)
          show x.now + c t ≤ _; omega
        · rw [if_neg e]; exact ⟨w', g1, g2⟩
      by_cases e : r = p
      · subst e
        rw [if_pos rfl, List.mem_append, List.mem_singleton] at hu
        rcases hu with hu | hu
        · exact old (h3 u hu)
        · subst hu
          rw [hwp] at h1; injection h1 with h1
          exact ⟨_, by rw [hget, if_pos rfl], by show x.now + c u ≤ _; rw [← h1, hwn]; omega⟩
      · rw [if_neg e] at hu; exact old (h3 u hu)
    · rw [hget] at hq
      show x.now ≤ w.all ∧ q ∈ rowAt (dQ x.queue (x.now + c t) (rowAt x.queue (x.now + c t) ++ [cm p t])) w.all
      rw [mh]
      by_cases e : cm p t = q
      · rw [if_pos e] at hq; injection hq with hq; subst hq
        rw [if_pos rfl]
        exact ⟨by show x.now ≤ x.now + c t; omega, List.mem_append.2 (.inr (List.mem_singleton.2 e.symm))⟩
      · rw [if_neg e] at hq
        obtain ⟨h1, h2⟩ := h.wait q w hq hqd
        refine ⟨h1, ?_⟩
        by_cases e2 : x.now + c t = w.all
        · rw [if_pos e2, e2]; exact List.mem_append.2 (.inl h2)
        · rw [if_neg e2]; exact h2
    · have hq : q ∈ rowAt (dQ x.queue (x.now + c t) (rowAt x.queue (x.now + c t) ++ [cm p t])) m := hq
      rw [mh] at hq
      show x.now ≤ m ∧ m ≤ 300 * x.done.length ∧ ∃ w, b8 (dQ x.ways (cm p t) ⟨p, [t], x.now + c t⟩) q = some w ∧ w.all ≤ m
      rw [hget]
      have old : q ∈ rowAt x.queue m → x.now ≤ m ∧ m ≤ 300 * x.done.length ∧ ∃ w, (if cm p t = q then some ⟨p, [t], x.now + c t⟩ else b8 x.ways q) = some w ∧ w.all ≤ m := fun hq => by
        obtain ⟨h1, h2, w, h3, h4⟩ := h.que m q hq
        refine ⟨h1, h2, ?_⟩
        by_cases e : cm p t = q
        · rw [if_pos e]
          have := tR hm (by rw [e]; exact h3)
          exact ⟨_, rfl, by show x.now + c t ≤ m; omega⟩
        · rw [if_neg e]; exact ⟨w, h3, h4⟩
      by_cases e2 : x.now + c t = m
      · rw [if_pos e2, List.mem_append, List.mem_singleton] at hq
        rcases hq with hq | hq
        · exact old (by rw [← e2]; exact hq)
        · subst hq
          rw [if_pos rfl]
          exact ⟨by omega, by omega, _, rfl, by show x.now + c t ≤ m; omega⟩
      · rw [if_neg e2] at hq; exact old hq
    · show x.left + 1 = oG (dQ _ _ _)
      rw [yK, List.length_append, List.length_singleton, h.left]; omega
    · show x.left + 1 + (R - 1) ≤ 1 + 42 * x.done.length
      have := h.lim; omega
    · rw [hget] at hq
      show w.all ≤ 300 * x.done.length
      by_cases e : cm p t = q
      · rw [if_pos e] at hq; injection hq with hq; subst hq
        show x.now + c t ≤ _; omega
      · rw [if_neg e] at hq; exact h.cap q w hq
def upTo (b : aT) (p : Pl) (k : Nat) (r : Pl) : List bX := if r = p then (bP b p).take k else bP b r
def cx (b : aT) (c : bX → Int) (p : Pl) (z : St) (k : Nat) : St := ((bP b p).take k).foldl (nY c p) z
theorem tI {z : St} {k : Nat} (hk : k < (bP b p).length) : cx b c p z (k + 1) = nY c p (cx b c p z k) (nth (bP b p) k) := by
 unfold cx; rw [cg hk, List.foldl_append]; rfl
theorem tT (z : St) (k : Nat) : (cx b c p z k).done = z.done := by
  unfold cx
  generalize (bP b p).take k = l
  induction l generalizing z with
  | nil => rfl
  | cons t l ih => rw [List.foldl_cons, ih, FI]
theorem sS (z : St) (k : Nat) : (cx b c p z k).now = z.now := by
  unfold cx
  generalize (bP b p).take k = l
  induction l generalizing z with
  | nil => rfl
  | cons t l ih => rw [List.foldl_cons, ih, Je]
def iw (b : aT) (c : bX → Int) : Prop := ∀ t : bX, 0 ≤ t.bN → t.bN < b.aO.length → 1 ≤ c t ∧ c t ≤ 300
theorem iw.at (hc : iw b c) (ht : t ∈ bP b p) : 1 ≤ c t ∧ c t ≤ 300 := hc t (gQ.1 ht).1 (gQ.1 ht).2.1
theorem zN (hc : iw b c) {z : St} (h : Inv b c all (upTo b p 0) 42 z) (hp : At b p z) : ∀ k, k ≤ (bP b p).length → Inv b c all (upTo b p k) (42 - k) (cx b c p z k) ∧ At b p (cx b c p z k)
  | 0, _ => ⟨h, hp⟩
  | k + 1, hk => by
    obtain ⟨h1, h2⟩ := zN hc h hp k aE
    have hm : nth (bP b p) k ∈ bP b p := cD aE
    obtain ⟨h3, h4⟩ := JZ h1 h2 hm (hc.at hm)
    rw [tI aE]
    refine ⟨?_, h4⟩
    have h5 : Inv b c all (fun r => if r = p then upTo b p k r ++ [nth (bP b p) k] else upTo b p k r) (42 - (k + 1 : Nat)) (nY c p (cx b c p z k) (nth (bP b p) k)) := h3.weaken aE
    refine h5.Qo fun r _ u hu => ?_
    unfold upTo at hu ⊢
    by_cases e : r = p
    · rw [if_pos e] at hu; rw [if_pos e, if_pos e, ← cg aE]; exact hu
    · rw [if_neg e] at hu; rw [if_neg e, if_neg e]; exact hu
def fX (x : St) (rest : List Pl) : St := { x with queue := dQ x.queue x.now rest, left := x.left - 1 }
def marked (x : St) (p : Pl) : St := { x with done := dQ x.done p true }
def later (x : St) : St := { x with queue := mF x.queue x.now, now := x.now + 1 }
def kN (x : St) (p : Pl) : Bool := (b8 x.done p).getD false
theorem Inv.vQ (h : Inv b c all F R x) (p : Pl) : (kN x p = true ↔ b8 x.done p = some true) ∧ (kN x p = false ↔ b8 x.done p = none) := by
  unfold kN
  cases e : b8 x.done p with
  | none => simp
  | some v => rw [h.dval p v e]; simp
theorem Ni {rest : List Pl} (h : Inv b c all F R x) (hq : rowAt x.queue x.now = p :: rest) (hd : ∀ w, b8 x.ways p = some w → b8 x.done p = none → False) : Inv b c all F R (fX x rest) where
 now0 := h.now0
 start := h.start
 keys := h.keys
 qkeys := lH _ _ _ h.qkeys
 dkeys := h.dkeys
 dval := h.dval
 via := h.via
 walk := h.walk
 fin := h.fin
 wait := fun q w hw hn => by
  obtain ⟨h1, h2⟩ := h.wait q w hw hn
  refine ⟨h1, ?_⟩
  show q ∈ rowAt (dQ x.queue x.now rest) w.all
  rw [mh]
  by_cases e : x.now = w.all
  ·rw [if_pos e]
   rw [← e, hq, List.mem_cons] at h2
   rcases h2 with h2 | h2
   ·subst h2; exact (hd w hw hn).elim
   exact h2
  rw [if_neg e]; exact h2
 que := fun m q hq' => by
  have hq' : q ∈ rowAt (dQ x.queue x.now rest) m := hq'
  rw [mh] at hq'
  refine h.que m q ?_
  by_cases e : x.now = m
  ·rw [if_pos e] at hq'; rw [← e, hq]; exact List.mem_cons_of_mem _ hq'
  rw [if_neg e] at hq'; exact hq'
 left := by
  show x.left - 1 = oG (dQ x.queue x.now rest)
  rw [yK, hq, List.length_cons, h.left]; omega
 lim := by show x.left - 1 + R ≤ 1 + 42 * x.done.length; have := h.lim; omega
 no := h.no
 cap := h.cap
theorem Ez {rest : List Pl} (h : Inv b c all F R x) (hq : rowAt x.queue x.now = p :: rest) (hd : kN (fX x rest) p = true) : Inv b c all F R (fX x rest) :=
 Ni h hq fun w _ hn => by rw [((h.vQ p).1.1 hd)] at hn; cases hn
theorem yZ {rest : List Pl} (h : Inv b c all (bP b) 0 x) (hq : rowAt x.queue x.now = p :: rest) (hd : kN (fX x rest) p = false) (hm : all = false → eN b p = false) :
 Inv b c all (upTo b p 0) 42 (marked (fX x rest) p) ∧ At b p (marked (fX x rest) p) := by
 have hn : b8 x.done p = none := (h.vQ p).2.1 hd
 obtain ⟨g1, g2, w, hw, g3⟩ := h.que x.now p EG
 obtain ⟨g4, g5⟩ := h.wait p w hw hn
 have hlen : (dQ x.done p true).length = x.done.length + 1 := uO _ _ _ hn
 have hget : ∀ r, b8 (dQ x.done p true) r = if p = r then some true else b8 x.done r := fun r => sJ _ _ _ _
 refine ⟨{ now0 := h.now0, start := h.start, keys := h.keys, qkeys := lH _ _ _ h.qkeys, dkeys := lH _ _ _ h.dkeys, dval := fun r v hv => ?_, via := fun q w' hq' => ?_, walk := h.walk, fin := fun r hr => ?_, wait := fun q w' hw' hn' => ?_, que := fun m q hq' => ?_, left := ?_, lim := ?_, no := fun ha r hr => ?_, cap := fun q w' hq' => ?_ }, ⟨?_, ⟨w, hw, by show w.all = x.now; omega⟩, ?_⟩⟩
 ·have hv : b8 (dQ x.done p true) r = some v := hv
  rw [hget] at hv
  by_cases e : p = r
  ·rw [if_pos e] at hv; injection hv with hv; exact hv.symm
  rw [if_neg e] at hv; exact h.dval r v hv
 ·rcases h.via q w' hq' with h1 | ⟨u, w2, h1, h2, h3, h4, h5, h6⟩
  ·exact .inl h1
  exact .inr ⟨u, w2, h1, h2, h3, by show b8 (dQ x.done p true) w'.frm = some true; rw [hget]; split <;> first | rfl | exact h4, h5, h6⟩
 ·have hr : b8 (dQ x.done p true) r = some true := hr
  rw [hget] at hr
  by_cases e : p = r
  ·subst e; exact ⟨w, hw, g3, fun u hu => by unfold upTo at hu; rw [if_pos rfl] at hu; cases hu⟩
  rw [if_neg e] at hr
  obtain ⟨w', e1, e2, e3⟩ := h.fin r hr
  exact ⟨w', e1, e2, fun u hu => by unfold upTo at hu; rw [if_neg (fun e' => e e'.symm)] at hu; exact e3 u hu⟩
 ·have hn' : b8 (dQ x.done p true) q = none := hn'
  rw [hget] at hn'
  by_cases e : p = q
  ·rw [if_pos e] at hn'; cases hn'
  rw [if_neg e] at hn'
  obtain ⟨h1, h2⟩ := h.wait q w' hw' hn'
  refine ⟨h1, ?_⟩
  show q ∈ rowAt (dQ x.queue x.now rest) w'.all
  rw [mh]
  by_cases e2 : x.now = w'.all
  ·rw [if_pos e2]; rw [← e2, hq, List.mem_cons] at h2
   exact h2.resolve_left fun h => e h.symm
  rw [if_neg e2]; exact h2
 ·have hq' : q ∈ rowAt (dQ x.queue x.now rest) m := hq'
  rw [mh] at hq'
  have : q ∈ rowAt x.queue m := by
   by_cases e : x.now = m
   ·rw [if_pos e] at hq'; rw [← e, hq]; exact List.mem_cons_of_mem _ hq'
   rw [if_neg e] at hq'; exact hq'
  obtain ⟨h1, h2, h3⟩ := h.que m q this
  exact ⟨h1, by show m ≤ 300 * ((dQ x.done p true).length : Int); rw [hlen]; omega, h3⟩
 ·show x.left - 1 = oG (dQ x.queue x.now rest)
  rw [yK, hq, List.length_cons, h.left]; omega
 ·show x.left - 1 + 42 ≤ 1 + 42 * ((dQ x.done p true).length : Int)
  rw [hlen]; have := h.lim; omega
 ·have hr : b8 (dQ x.done p true) r = some true := hr
  rw [hget] at hr
  by_cases e : p = r
  ·subst e; exact hm ha
  rw [if_neg e] at hr; exact h.no ha r hr
 ·show w'.all ≤ 300 * ((dQ x.done p true).length : Int)
  rw [hlen]; have := h.cap q w' hq'; omega
 ·show b8 (dQ x.done p true) p = some true
  rw [hget, if_pos rfl]
 show x.now + 300 ≤ 300 * ((dQ x.done p true).length : Int)
 rw [hlen]; omega
theorem Bf (h : Inv b c all F R x) (hq : rowAt x.queue x.now = []) : Inv b c all F R (later x) where
 now0 := by show 0 ≤ x.now + 1; have := h.now0; omega
 start := h.start
 keys := h.keys
 qkeys := GC _ _ h.qkeys
 dkeys := h.dkeys
 dval := h.dval
 via := h.via
 walk := h.walk
 fin := fun p hp => by
  obtain ⟨w, h1, h2, h3⟩ := h.fin p hp
  exact ⟨w, h1, by show w.all ≤ x.now + 1; omega, h3⟩
 wait := fun q w hw hn => by
  obtain ⟨h1, h2⟩ := h.wait q w hw hn
  have hne : x.now ≠ w.all := fun e => by rw [← e, hq] at h2; cases h2
  refine ⟨by show x.now + 1 ≤ w.all; omega, ?_⟩
  show q ∈ rowAt (mF x.queue x.now) w.all
  rw [BW _ _ _ h.qkeys, if_neg hne]; exact h2
 que := fun m q hq' => by
  have hq' : q ∈ rowAt (mF x.queue x.now) m := hq'
  rw [BW _ _ _ h.qkeys] at hq'
  by_cases e : x.now = m
  ·rw [if_pos e] at hq'; cases hq'
  rw [if_neg e] at hq'
  obtain ⟨h1, h2⟩ := h.que m q hq'
  exact ⟨by show x.now + 1 ≤ m; omega, h2⟩
 left := by show x.left = oG (mF x.queue x.now); rw [DH, hq, h.left]; simp
 lim := h.lim
 no := h.no
 cap := h.cap
def uh (b : aT) : St := ⟨[(bJ b, jD)], [(0, [bJ b])], 1, [], 0⟩
theorem Qw (b : aT) (c : bX → Int) (all : Bool) : Inv b c all (bP b) 0 (uh b) where
 now0 := Int.le_refl _
 start := by simp [uh, b8]
 keys := by simp [uh]
 qkeys := by simp [uh]
 dkeys := by simp [uh]
 dval := fun p v h => by cases h
 via := fun q w h => by
  simp only [uh, b8] at h
  by_cases e : bJ b = q
  ·exact .inl e.symm
  rw [if_neg e] at h; cases h
 walk := fun q w h => by
  simp only [uh, b8] at h
  by_cases e : bJ b = q
  ·rw [if_pos e] at h; injection h with h; subst h; exact ⟨[], by rw [← e]; rfl, rfl⟩
  rw [if_neg e] at h; cases h
 fin := fun p h => by cases h
 wait := fun q w h _ => by
  simp only [uh, b8] at h
  by_cases e : bJ b = q
  ·rw [if_pos e] at h; injection h with h; subst h; exact ⟨Int.le_refl _, by simp [uh, rowAt, b8, jD, e]⟩
  rw [if_neg e] at h; cases h
 que := fun m q h => by
  simp only [uh, rowAt, b8] at h
  by_cases e : (0 : Int) = m
  ·subst e; rw [if_pos rfl] at h
   rw [List.mem_singleton.1 h]
   exact ⟨Int.le_refl _, by simp [uh], jD, by simp [uh, b8], Int.le_refl _⟩
  rw [if_neg e] at h; cases h
 left := rfl
 lim := by simp [uh]
 no := fun _ p h => by cases h
 cap := fun q w h => by
  simp only [uh, b8] at h
  by_cases e : bJ b = q
  ·rw [if_pos e] at h; injection h with h; subst h; exact Int.le_refl _
  rw [if_neg e] at h; cases h
def nJ (b : aT) (c : bX → Int) (all : Bool) (x : St) : St ⊕ Found :=
  if x.left ≤ 0 then .inr ⟨x.ways, Jm, false⟩ else
  match rowAt x.queue x.now with
  | [] => .inl (later x)
  | p :: rest =>
    if kN (fX x rest) p = true then .inl (fX x rest) else
    if (!all && eN b p) = true then .inr ⟨x.ways, p, true⟩ else .inl (cx b c p (marked (fX x rest) p) (bP b p).length)
def runN (b : aT) (c : bX → Int) (all : Bool) : Nat → St → Option Found
  | 0, _ => none
  | n + 1, x => match nJ b c all x with
    | .inr f => some f
    | .inl y => runN b c all n y
def Ends (b : aT) (c : bX → Int) (all : Bool) (x : St) (f : Found) : Prop := ∃ n, runN b c all n x = some f
theorem Ec : ∀ {n m : Nat} {x : St} {f f' : Found}, runN b c all n x = some f → runN b c all m x = some f' → f = f'
  | 0, _, _, _, _, h, _ => by cases h
  | _, 0, _, _, _, _, h => by cases h
  | n + 1, m + 1, x, f, f', h, h' => by
    unfold runN at h h'
    cases e : nJ b c all x with
    | inr g => rw [e] at h h'; injection h with h; injection h' with h'; rw [← h, ← h']
    | inl y => rw [e] at h h'; exact Ec h h'
theorem Ends.QU {f f' : Found} (h : Ends b c all x f) (h' : Ends b c all x f') : f = f' := let ⟨_, h⟩ := h; let ⟨_, h'⟩ := h'; Ec h h'
theorem Ends.step {y : St} {f : Found} (e : nJ b c all x = .inl y) (h : Ends b c all y f) : Ends b c all x f := by
 obtain ⟨n, h⟩ := h
 exact ⟨n + 1, by unfold runN; rw [e]; exact h⟩
theorem Ends.stop {f : Found} (e : nJ b c all x = .inr f) : Ends b c all x f := ⟨1, by unfold runN; rw [e]⟩
open Classical in
noncomputable def cw (b : aT) (c : bX → Int) (all : Bool) : Found := if h : ∃ f, Ends b c all (uh b) f then h.choose else default
theorem tL {f : Found} (h : Ends b c all (uh b) f) : cw b c all = f := by
 unfold cw
 rw [dif_pos ⟨f, h⟩]
 exact (Exists.choose_spec (⟨f, h⟩ : ∃ f, Ends b c all (uh b) f)).QU h
theorem step_end (h : x.left ≤ 0) : nJ b c all x = .inr ⟨x.ways, Jm, false⟩ := if_pos h
theorem yl (h : 0 < x.left) (hq : rowAt x.queue x.now = []) : nJ b c all x = .inl (later x) := by
 unfold nJ; rw [if_neg aE, hq]
theorem Dk {rest : List Pl} (h : 0 < x.left) (hq : rowAt x.queue x.now = p :: rest) (hd : kN (fX x rest) p = true) : nJ b c all x = .inl (fX x rest) := by
 unfold nJ; rw [if_neg aE, hq]; exact if_pos hd
theorem zK {rest : List Pl} (h : 0 < x.left) (hq : rowAt x.queue x.now = p :: rest) (hd : kN (fX x rest) p = false) (hm : (!all && eN b p) = true) : nJ b c all x = .inr ⟨x.ways, p, true⟩ := by
 unfold nJ; rw [if_neg aE, hq]
 show (if kN (fX x rest) p = true then _ else _) = _
 rw [if_neg (by rw [hd]; decide), if_pos hm]
theorem EE {rest : List Pl} (h : 0 < x.left) (hq : rowAt x.queue x.now = p :: rest) (hd : kN (fX x rest) p = false) (hm : (!all && eN b p) = false) : nJ b c all x = .inl (cx b c p (marked (fX x rest) p) (bP b p).length) := by
 unfold nJ; rw [if_neg aE, hq]
 show (if kN (fX x rest) p = true then _ else _) = _
 rw [if_neg (by rw [hd]; decide), if_neg (by rw [hm]; decide)]
theorem uC {rest : List Pl} (h : Inv b c all F R x) (hq : rowAt x.queue x.now = p :: rest) : 0 < x.left := by
 have := zU x.queue x.now
 rw [hq, List.length_cons, ← h.left] at this; omega
noncomputable def yG (x : St) : Nat := (dZ - x.done.length) * 43 + (300 * dZ - x.now).toNat + x.left.toNat
theorem Inv.z7 (h : Inv b c all F R x) (hr : b.cQ) : x.done.length ≤ dZ := by
 have := yV h.dkeys fun p hp => by
  obtain ⟨v, hv⟩ := uw hp
  rw [h.dval p v hv] at hv
  obtain ⟨w, hw, _⟩ := h.fin p hv
  obtain ⟨l, hl, _⟩ := h.walk p w hw
  exact yA hr l (yq hr) hl
 rwa [List.length_map] at this
theorem Inv.RW (h : Inv b c all F R x) (hr : b.cQ) (hl : 0 < x.left) (hq : rowAt x.queue x.now = []) : x.now < 300 * dZ := by
  obtain ⟨m, hm⟩ := EY x.queue (by rw [← h.left]; exact hl) h.qkeys
  have h1 := h.z7 hr
  cases e : rowAt x.queue m with
  | nil => exact absurd e hm
  | cons q r =>
    obtain ⟨h2, h3, _⟩ := h.que m q (by rw [e]; exact List.mem_cons_self)
    have : x.now ≠ m := fun e' => by rw [← e', hq] at e; cases e
    omega
theorem Dm (h : Inv b c all F R x) (hr : b.cQ) (hl : 0 < x.left) (hq : rowAt x.queue x.now = []) : yG (later x) < yG x := by
 have h1 := h.RW hr hl hq
 have h2 := h.now0
 show (dZ - x.done.length) * 43 + (300 * dZ - (x.now + 1)).toNat + x.left.toNat < (dZ - x.done.length) * 43 + (300 * dZ - x.now).toNat + x.left.toNat
 omega
theorem C8 (x : St) : yG (later x) ≤ yG x := by
 show (dZ - x.done.length) * 43 + (300 * dZ - (x.now + 1)).toNat + x.left.toNat ≤ (dZ - x.done.length) * 43 + (300 * dZ - x.now).toNat + x.left.toNat
 omega
theorem FX {rest : List Pl} (h : Inv b c all F R x) (hq : rowAt x.queue x.now = p :: rest) : yG (fX x rest) < yG x := by
 have := uC h hq
 show (dZ - x.done.length) * 43 + (300 * dZ - x.now).toNat + (x.left - 1).toNat < (dZ - x.done.length) * 43 + (300 * dZ - x.now).toNat + x.left.toNat
 omega
theorem FC (c : bX → Int) (p : Pl) (x : St) (t : bX) : (nY c p x t).left ≤ x.left + 1 := by
 unfold nY; split
 ·omega
 exact Int.le_refl _
theorem Fc (z : St) : ∀ k, (cx b c p z k).left ≤ z.left + k := by
  intro k
  have : ∀ (l : List bX) (z : St), (l.foldl (nY c p) z).left ≤ z.left + l.length := by
    intro l
    induction l with
    | nil => intro z; simp
    | cons t l ih =>
      intro z
      have h1 := ih (nY c p z t)
      have h2 := FC c p z t
      rw [List.foldl_cons, List.length_cons]; omega
  have h1 := this ((bP b p).take k) z
  have h2 := List.length_take_le k (bP b p)
  unfold cx; omega
theorem FU {rest : List Pl} (h : Inv b c all (bP b) 0 x) (hr : b.cQ) (hq : rowAt x.queue x.now = p :: rest) (hd : kN (fX x rest) p = false) (hi : Inv b c all (upTo b p 0) 42 (marked (fX x rest) p)) : yG (cx b c p (marked (fX x rest) p) (bP b p).length) < yG x := by
 have h1 := uC h hq
 have h2 := Fc (b := b) (c := c) (p := p) (marked (fX x rest) p) (bP b p).length
 have h3 := th hr p
 have h4 := hi.z7 hr
 have h5 : (dQ x.done p true).length = x.done.length + 1 := uO _ _ _ ((h.vQ p).2.1 hd)
 unfold yG
 rw [tT, sS]
 have h4 : (dQ x.done p true).length ≤ dZ := h4
 have h2 : (cx b c p (marked (fX x rest) p) (bP b p).length).left ≤ x.left - 1 + (bP b p).length := h2
 show (dZ - (dQ x.done p true).length) * 43 + (300 * dZ - x.now).toNat + _ < _
 rw [h5] at h4 ⊢
 omega
theorem He {rest : List Pl} (hr : b.cQ) (hc : iw b c) (h : Inv b c all (bP b) 0 x) (hq : rowAt x.queue x.now = p :: rest) (hd : kN (fX x rest) p = false) (hm : (!all && eN b p) = false) : Inv b c all (bP b) 0 (cx b c p (marked (fX x rest) p) (bP b p).length) := by
 obtain ⟨h1, h2⟩ := yZ h hq hd (fun ha => by rw [ha] at hm; simpa using hm)
 obtain ⟨h3, _⟩ := zN hc h1 h2 _ (Nat.le_refl _)
 have := th hr p
 refine (h3.weaken (R' := 0) aE).Qo fun r _ u hu => ?_
 unfold upTo
 by_cases e : r = p
 ·rw [if_pos e, List.take_length, ← e]; exact hu
 rw [if_neg e]; exact hu
structure Found.Spec (b : aT) (c : bX → Int) (all : Bool) (f : Found) : Prop where
  start : b8 f.ways (bJ b) = some jD
  keys : (f.ways.map Prod.fst).Nodup
  via : ∀ q w, b8 f.ways q = some w → q = bJ b ∨ ∃ t w', w.byT = [t] ∧ t ∈ bP b w.frm ∧ q = cm w.frm t ∧ b8 f.ways w.frm = some w' ∧ w.all = w'.all + c t
  walk : ∀ q w, b8 f.ways q = some w → ∃ l, mR b (bJ b) l = some q ∧ fF c l = w.all
  yes : f.is = true → eN b f.last = true ∧ ∃ w, b8 f.ways f.last = some w ∧ ∀ l q, mR b (bJ b) l = some q → eN b q = true → w.all ≤ fF c l
  no : f.is = false → all = false → ∀ l q, mR b (bJ b) l = some q → eN b q = false
  cap : ∀ q w, b8 f.ways q = some w → w.all ≤ 300 * dZ
  whole : all = true → f.is = false ∧ ∀ l q, mR b (bJ b) l = some q → ∃ w, b8 f.ways q = some w
theorem zF (hc : iw b c) : ∀ (l : List bX) {p q : Pl}, mR b p l = some q → 0 ≤ fF c l
  | [], _, _, _ => Int.le_refl _
  | t :: l, p, q, h => by
    have h : (if t ∈ bP b p then mR b (cm p t) l else none) = some q := h
    by_cases ht : t ∈ bP b p
    · rw [if_pos ht] at h
      have h1 := zF hc l h
      have h2 := hc.at ht
      show 0 ≤ fF c ([t] ++ l)
      rw [e6, jg]; omega
    · rw [if_neg ht] at h; cases h
theorem Inv.near (hc : iw b c) (h : Inv b c all (bP b) 0 x) : ∀ (l : List bX) (q : Pl), mR b (bJ b) l = some q → fF c l < x.now → b8 x.done q = some true ∧ ∃ w, b8 x.ways q = some w ∧ w.all ≤ fF c l := by
  have key : ∀ q w k, b8 x.ways q = some w → w.all ≤ k → k < x.now → b8 x.done q = some true := fun q w k hw h1 h2 => by
    cases e : b8 x.done q with
    | none => have := (h.wait q w hw e).1; omega
    | some v => rw [h.dval q v e]
  refine ju (fun q e hl => ?_) fun l t ih q e hl => ?_
  · injection e with e; subst e
    exact ⟨key _ _ _ h.start (Int.le_refl _) hl, _, h.start, Int.le_refl _⟩
  · obtain ⟨r, e1, e2, e3⟩ := u9 e
    rw [e6, jg] at hl ⊢
    have := hc.at e2
    obtain ⟨h1, w, h2, h3⟩ := ih r e1 aE
    obtain ⟨w0, g1, g2, g3⟩ := h.fin r h1
    rw [h2] at g1; injection g1 with g1; subst g1
    obtain ⟨w', g4, g5⟩ := g3 t e2
    subst e3
    exact ⟨key _ _ _ g4 aE hl, w', g4, by omega⟩
theorem Inv.closed (h : Inv b c all (bP b) 0 x) (hl : x.left ≤ 0) : ∀ (l : List bX) (q : Pl), mR b (bJ b) l = some q → b8 x.done q = some true := by
  have hz : ∀ m, rowAt x.queue m = [] := fun m => by
    have := zU x.queue m
    rw [← h.left] at this
    exact List.length_eq_zero_iff.1 aE
  have key : ∀ q w, b8 x.ways q = some w → b8 x.done q = some true := fun q w hw => by
    cases e : b8 x.done q with
    | none => have := (h.wait q w hw e).2; rw [hz] at this; cases this
    | some v => rw [h.dval q v e]
  refine ju (fun q e => ?_) fun l t ih q e => ?_
  · injection e with e; subst e; exact key _ _ h.start
  · obtain ⟨r, e1, e2, e3⟩ := u9 e
    obtain ⟨w, h1, h2, h3⟩ := h.fin r (ih r e1)
    obtain ⟨w', h4, _⟩ := h3 t e2
    subst e3; exact key _ _ h4
theorem Ef (hr : b.cQ) (h : Inv b c all (bP b) 0 x) (hl : x.left ≤ 0) : Found.Spec b c all ⟨x.ways, Jm, false⟩ where
 start := h.start
 keys := h.keys
 via := fun q w hw => (h.via q w hw).imp id fun ⟨t, w', h1, h2, h3, _, h5, h6⟩ => ⟨t, w', h1, h2, h3, h5, h6⟩
 walk := h.walk
 yes := fun e => by cases e
 no := fun _ ha l q e => h.no ha q (h.closed hl l q e)
 cap := fun q w hw => by have h1 := h.cap q w hw; have h2 := h.z7 hr; omega
 whole := fun _ => ⟨rfl, fun l q e => let ⟨w, h1, _⟩ := h.fin q (h.closed hl l q e); ⟨w, h1⟩⟩
theorem F5 {rest : List Pl} (hr : b.cQ) (hc : iw b c) (h : Inv b c all (bP b) 0 x) (hq : rowAt x.queue x.now = p :: rest) (hd : kN (fX x rest) p = false) (hm : (!all && eN b p) = true) : Found.Spec b c all ⟨x.ways, p, true⟩ := by
 simp only [Bool.and_eq_true, Bool.not_eq_true'] at hm
 have hn : b8 x.done p = none := (h.vQ p).2.1 hd
 obtain ⟨g1, g2, w, hw, g3⟩ := h.que x.now p EG
 refine ⟨h.start, h.keys, fun q w hw => (h.via q w hw).imp id fun ⟨t, w', h1, h2, h3, _, h5, h6⟩ => ⟨t, w', h1, h2, h3, h5, h6⟩, h.walk, fun _ => ⟨hm.2, w, hw, fun l q e hq => ?_⟩, (fun e => by cases e), (fun q w hw => by have h1 := h.cap q w hw; have h2 := h.z7 hr; omega), (fun e => by rw [hm.1] at e; cases e)⟩
 rcases Int.lt_or_le (fF c l) x.now with h1 | h1
 ·have := h.no hm.1 q (h.near hc l q e h1).1
  rw [hq] at this; cases this
 omega
theorem Ee (hr : b.cQ) (hc : iw b c) : ∀ (n : Nat) (x : St), yG x ≤ n → Inv b c all (bP b) 0 x → ∃ f, Ends b c all x f ∧ f.Spec b c all := by
  intro n
  induction n with
  | zero =>
    intro x hx h
    have hl : x.left ≤ 0 := by unfold yG at hx; omega
    exact ⟨_, .stop (step_end hl), Ef hr h hl⟩
  | succ n ih =>
    intro x hx h
    rcases Int.lt_or_le 0 x.left with hl | hl
    · cases hq : rowAt x.queue x.now with
      | nil =>
        obtain ⟨f, h1, h2⟩ := ih (later x) (by have := Dm h hr hl hq; omega) (Bf h hq)
        exact ⟨f, h1.step (yl hl hq), h2⟩
      | cons p rest =>
        cases hd : kN (fX x rest) p with
        | true =>
          obtain ⟨f, h1, h2⟩ := ih _ (by have := FX h hq; omega) (Ez h hq hd)
          exact ⟨f, h1.step (Dk hl hq hd), h2⟩
        | false =>
          cases hm : !all && eN b p with
          | true => exact ⟨_, .stop (zK hl hq hd hm), F5 hr hc h hq hd hm⟩
          | false =>
            obtain ⟨f, h1, h2⟩ := ih _ (by have := FU h hr hq hd (yZ h hq hd (fun ha => by rw [ha] at hm; simpa using hm)).1; omega) (He hr hc h hq hd hm)
            exact ⟨f, h1.step (EE hl hq hd hm), h2⟩
    · exact ⟨_, .stop (step_end hl), Ef hr h hl⟩
theorem rJ (hr : b.cQ) (hc : iw b c) (all : Bool) : (cw b c all).Spec b c all ∧ Ends b c all (uh b) (cw b c all) := by
 obtain ⟨f, h1, h2⟩ := Ee (all := all) hr hc _ (uh b) (Nat.le_refl _) (Qw b c all)
 rw [tL h1]; exact ⟨h2, h1⟩
def ql (b : aT) (c : bX → Int) (all : Bool) (x : St) : Prop := ∀ f, Ends b c all x f → cw b c all = f
theorem Qy : ql b c all (uh b) := fun _ h => tL h
theorem ql.step {y : St} (h : ql b c all x) (e : nJ b c all x = .inl y) : ql b c all y := fun f hf => h f (hf.step e)
theorem ql.stop {f : Found} (h : ql b c all x) (e : nJ b c all x = .inr f) : cw b c all = f := h f (.stop e)
end Go.Proofs.YtpnndljmhpepgaaGreat
namespace Go.T
open Go Go.RowKit
section
variable {P : Program} {fr : Fr} {ops : Array Oper} {A : As} {rest : List Oper} {K : As → List (As × Fx) → Prop} {t mt : TypeId} {p : String} {e : Array Edge} {d : Option Nat} {x y z : Operand}
theorem vU (h : ay P fr ops (⟨d, .mapUpdate mt x y z, t, p, e, none⟩ :: rest) A K) : ay P fr ops (⟨d, .insert mt x y z, t, p, e, none⟩ :: rest) A K := by
  obtain ⟨f, ⟨h1, h2, h3, h4, h5⟩, hr⟩ := h
  refine ⟨f, ⟨h1, h2, h3, h4, fun a w M wf hs hrd htg => ?_⟩, hr⟩
  have := h5 a w M wf hs hrd htg
  rw [if_pos kY] at this ⊢
  obtain ⟨_, g2⟩ := this
  refine ⟨fun f _ => fr.kd.qM f, ?_⟩
  rw [Oper.semAt_eq _ _ _ bB] at g2 ⊢
  have e1 : execOp a.eval ⟨d, .insert mt x y z, t, p, e, none⟩ = execOp a.eval ⟨d, .mapUpdate mt x y z, t, p, e, none⟩ := rfl
  rw [e1]
  generalize (execOp a.eval ⟨d, .mapUpdate mt x y z, t, p, e, none⟩).run P w = r at *
  cases r with
  | ok n w' => cases n <;> exact g2
  | halt x w' => cases x <;> exact g2
end
section
variable {P : Program} {fr : Fr} {ops : Array Oper} {A : As} {rest : List Oper} {K : As → List (As × Fx) → Prop} {d : Nat} {t mt kt et : TypeId} {p : String} {e : Array Edge}
variable {κ β : Type} [DecidableEq κ]
theorem qb {x y z : Operand} {tg : Nat} {kty vty : Ty} {k : κ} {v : β} (KK : uJ P kt κ) {V : VT β} {kvs : List (κ × β)} (hx : A.op fr x = .mp tg) (hc : A.tag tg = some (.mp KK.enc V kvs)) (h1 : fR tg) (hy : A.op fr y = kty) (hk : qt kty (KK.enc k)) (hz : A.op fr z = vty) (hv : vty.Sub (V.ty v)) (hm : mapOf P mt = some (kt, et))
 (h : ay P fr ops rest (A.after { d := none, S := [tg], sets := [(tg, .mp KK.enc V (dQ kvs k v))], rs := cA x ++ (cA y ++ cA z), rt := [tg] }) fun A' l' => K A' ((A, { d := none, S := [tg], sets := [(tg, .mp KK.enc V (dQ kvs k v))], rs := cA x ++ (cA y ++ cA z), rt := [tg] }) :: l')) :
 ay P fr ops (⟨none, .mapUpdate mt x y z, t, p, e, none⟩ :: rest) A K := by
 refine ⟨_, ⟨rfl, (fun x hx => .inl Oz), (fun u hu => by rw [List.mem_singleton.1 hu]; exact h1.1), bB, fun a w M wf _ hrd htg => ?_⟩, h⟩
 rw [if_pos kY]
 obtain ⟨b, e1, e2, es, clock, h3, h4, h5⟩ := Gu hx hc h1 wf (fun c hc => List.mem_append_left _ hc) hrd htg
 have hyd := cN (fun c hc => List.mem_append_right (cA x) (List.mem_append_left (cA z) hc)) hrd
 have hzd := cN (fun c hc => List.mem_append_right (cA x) (List.mem_append_right (cA y) hc)) hrd
 rw [hy] at hyd
 rw [hz] at hzd
 have hzd := hv _ _ _ hzd
 have hu := kF hm
 have hblt : b < w.heap.size := wf.lt b _ e2
 -- whatever is put there
 have fin : ∀ (es' : Array MapEntry) (clock' : Nat), es'.toList.map (·.key) = (dQ kvs k v).map (fun x => KK.enc x.1) → cS w M ((dQ kvs k v).map fun x => V.ty x.2) (es'.toList.map (·.val)) →
  (Instr.mapUpdate mt (.map (some b)) (KK.enc k) (a.eval z)).run P w = .ok () { w with heap := w.heap.setIfInBounds b (.map es' clock') } →
  Oper.wpIn fr.kd.g9 0 P ⟨none, .mapUpdate mt x y z, t, p, e, none⟩ a w (fun a' w' => ∃ v', a' = a.put none v' ∧ Fx.left { d := none, S := [tg], sets := [(tg, .mp KK.enc V (dQ kvs k v))], rs := cA x ++ (cA y ++ cA z), rt := [tg] } w M w' v') (fun _ _ _ => False) := by
  intro es' clock' hk' hd' hrun
  have hr : (execOp a.eval ⟨none, .mapUpdate mt x y z, t, p, e, none⟩).run P w = .ok .skip { w with heap := w.heap.setIfInBounds b (.map es' clock') } := by
   simp only [execOp, e1, hk _ _ _ hyd]
   simp [hrun]
  refine tA hr ?_
  have le : Le (· ∈ [tg]) (· ∈ ([] : List Nat)) w M { w with heap := w.heap.setIfInBounds b (.map es' clock') } M := by
   refine ⟨by simp, rfl, rfl, rfl, fun b2 hlt hm2 => ⟨hm2, ?_⟩, fun b2 u hm2 _ => ⟨hm2, fun hs => ?_⟩⟩
   ·have : b ≠ b2 := fun h => by subst h; rw [e2] at hm2; cases hm2
    simp [Array.getElem?_setIfInBounds, this]
   have : b ≠ b2 := fun h => by subst h; rw [e2] at hm2; injection hm2 with hm2; exact hs zx
   simp [Array.getElem?_setIfInBounds, this]
  refine ⟨undef, rfl, M, ⟨fun b2 u h => by simpa using wf.lt b2 u h, wf.inj⟩, le, trivial, fun x hx => ?_⟩
  rw [List.mem_singleton.1 hx]
  refine ⟨b, e2, es', clock', by simp [hblt], hk', ?_⟩
  refine b7 le (fun _ _ => by simp) (fun u hu => ?_) hd'
  simp only [cB, List.mem_flatMap, List.mem_map] at hu
  obtain ⟨t', ⟨x', _, rfl⟩, hu⟩ := hu
  rw [(V.nodeps x'.2).2] at hu; cases hu
 rcases nO KK h4 h5 k with ⟨i, v0, en, hi, hg, hen, hkey, hd, hf⟩ | ⟨hi, hg, hf⟩
 ·obtain ⟨v1, hv1, _, hput⟩ := nQ kvs k i hi
  have hil : i < es.size := (Array.getElem?_eq_some_iff.1 hen).1
  refine fin (es.modify i fun e => { e with key := KK.enc k, val := a.eval z }) clock ?_ ?_ ?_
  ·rw [hput, List.map_set]
   have : (es.modify i fun e => { e with key := KK.enc k, val := a.eval z }).toList = es.toList.set i { en with key := KK.enc k, val := a.eval z } := by
    rw [Array.toList_modify, List.modify_eq_set, Array.getElem?_toList, hen]; rfl
   rw [this, List.map_set, h4]
  ·rw [hput, List.map_set]
   have : (es.modify i fun e => { e with key := KK.enc k, val := a.eval z }).toList = es.toList.set i { en with key := KK.enc k, val := a.eval z } := by
    rw [Array.toList_modify, List.modify_eq_set, Array.getElem?_toList, hen]; rfl
   rw [this, List.map_set]
   exact nw h5 hzd
  simp [Instr.mapUpdate, underlying, hu, getObj, setObj, Sem.run, h3, KK.check, hf, hen, hkey, Instr.keyThatStays, KK.same]
 obtain ⟨_, hput⟩ := m8 kvs k hi
 refine fin (es.push { key := KK.enc k, val := a.eval z, born := clock }) (clock + 1) ?_ ?_ ?_
 ·rw [hput]; simp [h4]
 ·rw [hput]; simp only [Array.toList_push, List.map_append, List.map_cons, List.map_nil]
  exact eY h5 ⟨hzd, trivial⟩
 simp [Instr.mapUpdate, underlying, hu, getObj, setObj, Sem.run, h3, KK.check, hf]
end
section
variable {A : As} {κ β : Type} [DecidableEq κ]
theorem uL {enc : κ → Value} {V : VT β} {kvs : List (κ × β)} {tg : Nat} (hc : A.tag tg = some (.mp enc V kvs)) (h1 : fR tg) : DJ A tg (.mp tg) (.pm enc V kvs) := by
 intro w M v wf ht hv
 obtain ⟨b, e1, e2⟩ := hv
 obtain ⟨b', h2, h3⟩ := ht _ (cj hc)
 obtain ⟨u, rfl⟩ : ∃ u, tg = u + 1 := ⟨tg - 1, by omega⟩
 have : b = b' := wf.inj b b' u aE e2 h2
 subst this
 exact ⟨b, e1, by simp [fH, e2], wf.lt b _ e2, uG V.nodeps (jc (tg := u + 1)) rfl h3⟩
end
section
variable {P : Program} {fr : Fr} {ops : Array Oper} {A : As} {rest : List Oper} {K : As → List (As × Fx) → Prop} {t ty' : TypeId} {p : String} {e : Array Edge} [T : lq P]
theorem y8 {x y : Operand} {tg off Tb : Nat} {l m : List Ty} {ti : TI} {l' : List Ty} (hx : A.op fr x = .ptr tg off) (hc : A.tag tg = some (.cells Tb l)) (h1 : fR tg) (hT : T.dz[ty']? = some ti) (hy : A.op fr y = .agg m) (hsz : ti.size = m.length) (hoff : off + m.length ≤ l.length) (ho : m.all Ty.one = true) (hdl : lp (cB l) [tg] = true) (hdt : lp (cB m) [tg] = true) (hl : l.take off ++ m ++ l.drop (off + m.length) = l')
 (h : ay P fr ops rest (A.after { d := none, S := [tg], sets := [(tg, .cells Tb l')], rs := cA x ++ cA y, rt := [tg] }) fun A' l'' => K A' ((A, { d := none, S := [tg], sets := [(tg, .cells Tb l')], rs := cA x ++ cA y, rt := [tg] }) :: l'')) :
 ay P fr ops (⟨none, .store ty' x y, t, p, e, none⟩ :: rest) A K := by
 refine ⟨_, lT rfl rfl rfl bB lC bB fun a w M wf hr ht => ?_, h⟩
 obtain ⟨hdx, hdy⟩ := op2 hr
 rw [hx] at hdx; rw [hy] at hdy
 obtain ⟨b, hb, ex⟩ := hdx
 obtain ⟨vs, ey, hvs⟩ := hdy
 obtain ⟨b', cs, hb', hh, hd⟩ := ht _ (cj hc) bB
 obtain ⟨u, rfl⟩ : ∃ u, tg = u + 1 := ⟨tg - 1, by omega⟩
 have := wf.inj b b' u aE hb hb'
 subst this
 have hl1 := cO hd
 have hl2 := cO hvs
 simp only [Array.length_toList] at hl1 hl2
 have hones : ∀ v ∈ vs.toList, v.oneCell' = true := fun v hv => by
  obtain ⟨i, hi, hvi⟩ := List.getElem_of_mem hv
  have hi' : i < vs.size := by simpa using hi
  have hlt : i < m.length := by omega
  obtain ⟨u', hu', hdu⟩ := dr hvs i m[i] (List.getElem?_eq_getElem hlt)
  rw [List.getElem?_eq_getElem hi, hvi] at hu'
  injection hu' with hu'
  subst hu'
  exact (m[i]).isOne (List.all_eq_true.1 ho _ (List.getElem_mem hlt)) hdu
 have hst := run_storeCells_at (P := P) b off Tb vs.toList 0 cs w hh x9 hones
 rw [j7 _ hh] at hst
 obtain ⟨h1', h2', h3'⟩ := iW (cs' := (cs.toList.take (off + 0) ++ vs.toList ++ cs.toList.drop (off + 0 + vs.toList.length)).toArray) (Tb := Tb) wf hb _ rfl
 refine ⟨_, ?_, M, h1', h2', trivial, ?_⟩
 ·have hvz : vs.size = ti.size := by omega
  simp only [execOp, Instr.storeAt, Instr.sureAddr, ex, ey, storeVar, Value.cells, cq hT, Sem.run_bind, Sem.run_pure, Result.andThen_ok, hvz, hst]
  simp [hst]
 intro z hz
 simp only [List.mem_singleton] at hz
 subst hz
 refine ⟨b, _, hb, h3', ?_⟩
 subst hl
 rw [List.toList_toArray, show off + m.length = off + 0 + vs.toList.length by simp; omega]
 have g1 := b7 h2' j4 (gK hdl) hd
 have g2 := b7 h2' j4 (gK hdt) hvs
 exact eY (eY (lJ (off + 0) g1) g2) (jk _ g1)
end
section
variable {P : Program} {fr : Fr} {ops : Array Oper} {A : As} {rest : List Oper} {K : As → List (As × Fx) → Prop} {d : Nat} {t ty' : TypeId} {p : String} {e : Array Edge} [T : lq P]
theorem xQ {α : Type} [Inhabited α] {E : El α} {xs : List α} {x : Operand} {tg off Tb : Nat} {ti : TI} (i : Nat) (hx : A.op fr x = .ptr tg off) (he : off = i * E.size) (hc : A.tag tg = some (.vec E Tb xs)) (h1 : fR tg) (hT : T.dz[ty']? = some ti) (ha : ti.k.agg = true) (hsz : ti.size = E.size) (hi : i < xs.length)
 (h : ay P fr ops rest (A.set d (.agg (E.tys (nth xs i)))) fun A' l => K A' ((A, { d := some d, ty := .agg (E.tys (nth xs i)), rs := cA x, rt := [tg] }) :: l)) : ay P fr ops (⟨some d, .load ty' x, t, p, e, none⟩ :: rest) A K :=
 bR (bl rfl rfl fun a w M wf hr ht => by
  have := cN (x := x) (fun _ h => h) hr
  rw [hx] at this
  obtain ⟨b, hb, e⟩ := this
  obtain ⟨cs, g1, g2, g3⟩ := yX (l := E.tys (nth xs i)) (b := b) (q := off) (off := 0) (n := ti.size) (m := E.tys (nth xs i)) (fun j t hj => nL wf h1 hb (mU hc w M ht) (by
   rw [he]; exact nB E xs hi j t hj)) (by rw [List.drop_zero, hsz, ← E.len (nth xs i), List.take_length]) (by rw [E.len, hsz])
  exact ⟨.agg cs.toArray, by simp only [execOp, e]; rw [Sem.run_bind, iB (off := off) hT ha g1 (by simpa using g3)]; rfl, cs.toArray, rfl, by simpa using g2⟩) h
end
section
variable {P : Program} {A : As} {fn : Func} {n : Nat} {w0 : World} {M0 : bI} [T : lq P]
theorem uM {tm ty tg Tb t2 t3 : Nat} {l : List Ty} {ti : TI} {r1 r2 r3 : Ty} (hr : fn.results = #[.cell tm ty, .tmp t2, .tmp t3]) (ht : Nat.blt tm n = true) (h2 : Nat.blt t2 n = true) (h3 : Nat.blt t3 n = true) (hx : A.slots tm = .ptr tg 0) (hc : A.tag tg = some (.cells Tb l)) (h1 : fR tg) (hT : T.dz[ty]? = some ti) (ha : ti.k.agg = true) (hl : l.length = ti.size) (hs : fJ (.agg l) r1) (hs2 : fJ (A.slots t2) r2) (hs3 : fJ (A.slots t3) r3) :
 dG ⟨n, w0, M0, [], .plain⟩ A (bodyPost P fn (kX w0 M0 (Ty.iF [r1, r2, r3])) .ret) := by
 intro a w ⟨M, ok, hsl, htg⟩
 have hd := hsl tm rz
 rw [hx] at hd
 obtain ⟨b, hb, e⟩ := hd
 obtain ⟨b', cs, hb', hh, hds⟩ := htg _ (cj hc)
 obtain ⟨u, rfl⟩ : ∃ u, tg = u + 1 := ⟨tg - 1, by omega⟩
 have := ok.wf.inj b b' u aE hb hb'
 subst this
 have hlen := cO hds
 have hload := iB (P := P) hT ha (w := w) (b := b) (off := 0) (cs := cs.toList) ve (fun j v hj => by simpa [World.cell?, hh] using hj)
 have hload' : (loadVar ty ⟨b, 0, none⟩).run P w = .ok (.agg cs) w := by simpa [Instr.loadAt, Instr.sureAddr] using hload
 refine ⟨ok.eH bB, .tuple #[.agg cs, a.tmps.getD t2 undef, a.tmps.getD t3 undef], ?_, _, pg M, rfl, oT ok.wf, lR (fr := ⟨n, w0, M0, [], .plain⟩) (fun _ h => h) ok.base, _, rfl, hs _ _ _ ok.wf ⟨cs, rfl, hds⟩, hs2 _ _ _ ok.wf (hsl t2 tv), hs3 _ _ _ ok.wf (hsl t3 B8), trivial⟩
 have e' : a.tmps.getD tm undef = .pointer (some ⟨b, 0, none⟩) := e
 have e'' : a.tmps[tm]?.getD undef = .pointer (some ⟨b, 0, none⟩) := by rw [← Array.getD_eq_getD_getElem?]; exact e'
 simp [results, hr, e'', asAddr, hload']
end
section
variable {P : Program} {fr : Fr} {A : As} {c : Code} {Q : Exit → Act → World → Prop}
theorem kr {tg : Nat} {C D : Cont} (hc : A.tag tg = some C) (h : C.Sub D) (h' : fS P fr c ⟨A.slots, (tg, D) :: A.tags⟩ Q) : fS P fr c A Q := fun a w ⟨M, ok, hsl, ht⟩ =>
 h' a w ⟨M, ok, hsl, fun x hx => by
  rcases List.mem_cons.1 hx with rfl | hx
  ·exact h _ _ _ (ht _ (cj hc))
  exact ht x hx⟩
end
section
variable {P : Program} {fr : Fr} {ops : Array Oper} {A : As} {rest : List Oper} {K : As → List (As × Fx) → Prop} {d : Nat} {t mt kt et : TypeId} {p : String} {e : Array Edge} {κ β : Type} [DecidableEq κ]
theorem NF {x : Operand} {enc : κ → Value} {V : VT β} {kvs : List (κ × β)} (hx : A.op fr x = .pm enc V kvs) (hm : mapOf P mt = some (kt, et))
 (h : ay P fr ops rest (A.set d (.int .i64 kvs.length)) fun A' l' => K A' ((A, { d := some d, ty := .int .i64 kvs.length, rs := cA x }) :: l')) :
 ay P fr ops (⟨some d, .call ⟨.builtin .len, #[x], #[mt]⟩, t, p, e, none⟩ :: rest) A K :=
 bR (bl rfl rfl fun a w M _ hrd _ => by
  have hdx := cN (x := x) (fun _ h => h) hrd
  rw [hx] at hdx
  obtain ⟨b, ex, _, _, es, clock, h3, h4, _⟩ := hdx
  have hl : es.size = kvs.length := by have := congrArg List.length h4; simpa using this
  exact ⟨.int .i64 kvs.length, by simp [execOp, resolve, invoke, builtin, ex, Builtin.len_, run_underlying (kF hm), getObj, Sem.run, h3, goInt, hl], rfl⟩) h
end
theorem Ty.KM {α : Type} {E : El α} {o : α} : (Ty.pp (E.tys o)).Sub (Ty.pe E o 0) := fun _ _ _ ⟨b, q, h1, h2⟩ => ⟨b, q, h1, h2⟩
end Go.T
namespace Go.Proofs.YtpnndljmhpepgaaGreat
open Go Go.T Go.RowKit
def j6 (p : Pl) : List Ty := [Ty.int .i64 (nth p.1 0), Ty.int .i64 (nth p.1 1), Ty.int .i64 (nth p.1 2), Ty.int .i64 (nth p.1 3), Ty.int .i64 (nth p.1 4), Ty.int .i64 (nth p.1 5)]
theorem NZ (p : Pl) {i : Nat} (h : i < 6) : (j6 p)[i]? = some (Ty.int .i64 (nth p.1 i)) := by
  match i, h with
  | 0, _ => rfl
  | 1, _ => rfl
  | 2, _ => rfl
  | 3, _ => rfl
  | 4, _ => rfl
  | 5, _ => rfl
theorem LL (p : Pl) : j6 p = p.1.flatMap cL.tys := by
  obtain ⟨l, h⟩ := p
  match l, h with
  | [a, b, c, d, e, f], _ => rfl
def P9 (p : Pl) (i : Nat) (v : Int) : Pl := ⟨p.1.set i v, by rw [List.length_set]; exact p.2⟩
theorem NN (p : Pl) {i : Nat} (v : Int) (h : i < 6) : (j6 p).set i (Ty.int .i64 v) = j6 (P9 p i v) := by
  obtain ⟨l, hl⟩ := p
  match l, hl with
  | [a, b, c, d, e, f], _ =>
    match i, h with
    | 0, _ => rfl
    | 1, _ => rfl
    | 2, _ => rfl
    | 3, _ => rfl
    | 4, _ => rfl
    | 5, _ => rfl
def oC : El Pl := El.mk' 6 j6 (fun _ => rfl) (fun _ => ⟨rfl, rfl, rfl⟩)
structure tS where
  b : aT
  first : Pl
  deriving Inhabited
def OH (d : tS) : List Ty := [Ty.sl cL d.b.sizes, Ty.sl cZ d.b.aO, Ty.int .i64 (nth d.first.1 0), Ty.int .i64 (nth d.first.1 1), Ty.int .i64 (nth d.first.1 2), Ty.int .i64 (nth d.first.1 3), Ty.int .i64 (nth d.first.1 4), Ty.int .i64 (nth d.first.1 5)]
def dI : El tS := El.mk' 8 OH (fun _ => rfl) (fun _ => ⟨rfl, rfl, rfl⟩)
theorem MT (d : tS) {i : Nat} (v : Int) (h : i < 6) : (dI.tys d).set (2 + i) (Ty.int .i64 v) = dI.tys ⟨d.b, P9 d.first i v⟩ := by
  obtain ⟨b, l, hl⟩ := d
  match l, hl with
  | [a, b, c, d, e, f], _ =>
    match i, h with
    | 0, _ => rfl
    | 1, _ => rfl
    | 2, _ => rfl
    | 3, _ => rfl
    | 4, _ => rfl
    | 5, _ => rfl
def QZ (w : Way) : List Ty := [Ty.int .i64 (nth w.frm.1 0), Ty.int .i64 (nth w.frm.1 1), Ty.int .i64 (nth w.frm.1 2), Ty.int .i64 (nth w.frm.1 3), Ty.int .i64 (nth w.frm.1 4), Ty.int .i64 (nth w.frm.1 5), Ty.sl bq w.byT, Ty.int .i64 w.all]
def iU : VT Way := ⟨fun w => Ty.agg (QZ w), fun _ => ⟨rfl, rfl⟩⟩
def rI (f : Found) : List Ty := [Ty.pm (fI 6) iU f.ways, Ty.int .i64 (nth f.last.1 0), Ty.int .i64 (nth f.last.1 1), Ty.int .i64 (nth f.last.1 2), Ty.int .i64 (nth f.last.1 3), Ty.int .i64 (nth f.last.1 4), Ty.int .i64 (nth f.last.1 5), Ty.bool f.is]
def CT (f : Found) : Ty := Ty.agg (rI f)
theorem jo (p : Pl) : qt (.agg (j6 p)) (fI 6 p) := by rw [LL]; exact Nh p
theorem LK : Tryz.prog.underlying 91 = some (.array 6 3) := by kernel_rfl
theorem PE (a0 a1 a2 a3 a4 a5 b0 b1 b2 b3 b4 b5 : Int) (w : World) : (Op.equal 91 (.agg #[.int .i64 a0, .int .i64 a1, .int .i64 a2, .int .i64 a3, .int .i64 a4, .int .i64 a5]) (.agg #[.int .i64 b0, .int .i64 b1, .int .i64 b2, .int .i64 b3, .int .i64 b4, .int .i64 b5])).run Tryz.prog w = .ok ((decide (a0 = b0) && (decide (a1 = b1) && (decide (a2 = b2) && (decide (a3 = b3) && (decide (a4 = b4) && decide (a5 = b5))))))) w := by
 have hs : Tryz.prog.stoodInHeld 91 = false := by kernel_rfl
 have e3 : ∀ (x y : Int) (w : World), (Op.equalIn 9999 3 (.int .i64 x) (.int .i64 y)).run Tryz.prog w = .ok (decide (x = y)) w := fun x y w => uY 9998 Tryz.underlying3
 have g3 : ∀ w, (isAgg 3).run Tryz.prog w = .ok false w := fun w => by simp [isAgg, run_underlying Tryz.underlying3]
 unfold Op.equal Op.maxDepth
 rw [Op.equalIn]
 simp only [Sem.run_bind, run_underlying LK, Result.andThen_ok]
 simp [hs, part, g3, e3]
 rw [show List.range' 0 6 = [0, 1, 2, 3, 4, 5] from rfl]
 simp [List.forIn_cons, g3, e3]
 by_cases h0 : a0 = b0
 case neg => simp [h0]
 rw [if_pos h0]
 by_cases h1 : a1 = b1
 case neg => simp [h1]
 rw [if_pos h1]
 by_cases h2 : a2 = b2
 case neg => simp [h2]
 rw [if_pos h2]
 by_cases h3 : a3 = b3
 case neg => simp [h3]
 rw [if_pos h3]
 by_cases h4 : a4 = b4
 case neg => simp [h4]
 rw [if_pos h4]
 by_cases h5 : a5 = b5
 case neg => simp [h5]
 rw [if_pos h5]
 simp [h0, h1, h2, h3, h4, h5]
theorem O5 (p q : Pl) : QX Tryz.prog 91 (j6 p) (j6 q) (decide (p = q)) := by
  obtain ⟨l, hl⟩ := p
  obtain ⟨k, hk⟩ := q
  match l, hl with
  | [a0, a1, a2, a3, a4, a5], _ =>
    match k, hk with
    | [b0, b1, b2, b3, b4, b5], _ =>
      refine ⟨by kernel_rfl, fun w M cs ds h1 h2 => ?_⟩
      obtain ⟨cs⟩ := cs
      obtain ⟨ds⟩ := ds
      match cs, ds, h1, h2 with
      | [u0, u1, u2, u3, u4, u5], [v0, v1, v2, v3, v4, v5], h1, h2 =>
        change cS w M [Ty.int .i64 a0, Ty.int .i64 a1, Ty.int .i64 a2, Ty.int .i64 a3, Ty.int .i64 a4, Ty.int .i64 a5] _ at h1
        change cS w M [Ty.int .i64 b0, Ty.int .i64 b1, Ty.int .i64 b2, Ty.int .i64 b3, Ty.int .i64 b4, Ty.int .i64 b5] _ at h2
        simp only [cS, Ty.int, iL, and_true] at h1 h2
        obtain ⟨rfl, rfl, rfl, rfl, rfl, rfl⟩ := h1
        obtain ⟨rfl, rfl, rfl, rfl, rfl, rfl⟩ := h2
        rw [PE]
        congr 1
        simp only [Subtype.mk.injEq, List.cons.injEq, and_true, Bool.decide_and]
theorem Pc (x y : Pl) (w : World) : (Op.equal 91 (fI 6 x) (fI 6 y)).run Tryz.prog w = .ok (decide (x = y)) w := by
  obtain ⟨l, hl⟩ := x
  obtain ⟨k, hk⟩ := y
  match l, hl with
  | [a0, a1, a2, a3, a4, a5], _ =>
    match k, hk with
    | [b0, b1, b2, b3, b4, b5], _ =>
      show (Op.equal 91 (.agg #[.int .i64 a0, .int .i64 a1, .int .i64 a2, .int .i64 a3, .int .i64 a4, .int .i64 a5]) (.agg #[.int .i64 b0, .int .i64 b1, .int .i64 b2, .int .i64 b3, .int .i64 b4, .int .i64 b5])).run Tryz.prog w = _
      rw [PE]
      congr 1
      simp only [Subtype.mk.injEq, List.cons.injEq, and_true, Bool.decide_and]
theorem It (b : Bool) (x : Pl) (w : World) : (Instr.checkKey b 10000 91 (fI 6 x)).run Tryz.prog w = .ok () w := by
  obtain ⟨l, hl⟩ := x
  have h3 : ∀ (v : Value) (w : World), (Instr.checkKey b 9999 3 v).run Tryz.prog w = .ok () w := fun v w => by
    rw [show (9999 : Nat) = 9998 + 1 from rfl, Instr.checkKey]
    simp only [Sem.run_bind, run_underlying Tryz.underlying3, Result.andThen_ok]; rfl
  match l, hl with
  | [a0, a1, a2, a3, a4, a5], _ =>
    have g3 : ∀ w, (isAgg 3).run Tryz.prog w = .ok false w := fun w => by simp [isAgg, run_underlying Tryz.underlying3]
    have s3 : ∀ w, (sizeOf 3).run Tryz.prog w = .ok 1 w := fun w => cq (T := inferInstance) (x := ⟨.int .i64, 1, 8, [.int .i64 0]⟩) rfl w
    rw [show (10000 : Nat) = 9999 + 1 from rfl, Instr.checkKey]
    simp only [Sem.run_bind, run_underlying LK, Result.andThen_ok, fI]
    simp [s3, part, g3, h3]
    rw [show List.range' 0 6 = [0, 1, 2, 3, 4, 5] from rfl]
    simp [List.forIn_cons, s3, g3, h3]
def mD : uJ Tryz.prog 91 Pl := P5 Tryz.prog 91 6 3 LK Pc It
def xT : uJ Tryz.prog 3 Int := Pq Tryz.prog 3 .i64 Tryz.underlying3
theorem gX : mapOf Tryz.prog 96 = some (91, 95) := by kernel_rfl
theorem mG : mapOf Tryz.prog 156 = some (3, 99) := by kernel_rfl
theorem Bt : mapOf Tryz.prog 157 = some (91, 4) := by kernel_rfl
theorem xk : zeroOf Tryz.prog 99 = some (.slice none 0 0) := by kernel_rfl
theorem Ql : zeroOf Tryz.prog 4 = some (.bool false) := by kernel_rfl
theorem oJ : zeroOf Tryz.prog 95 = some (.agg #[.int .i64 0, .int .i64 0, .int .i64 0, .int .i64 0, .int .i64 0, .int .i64 0, .slice none 0 0, .int .i64 0]) := by kernel_rfl
theorem zV : ∀ w M, (pL.ty false).den w M (.bool false) := fun _ _ => rfl
theorem OB (w : World) (M : bI) : (Ty.sl bq []).den w M (.slice none 0 0) := Ty.nv w M _ rfl
theorem lY : ∀ w M, (iU.ty jD).den w M (.agg #[.int .i64 0, .int .i64 0, .int .i64 0, .int .i64 0, .int .i64 0, .int .i64 0, .slice none 0 0, .int .i64 0]) := fun w M =>
 ⟨_, rfl, rfl, rfl, rfl, rfl, rfl, rfl, OB w M, rfl, trivial⟩
theorem yp : (Ty.agg [Ty.int .i64 0, Ty.int .i64 0, Ty.int .i64 0, Ty.int .i64 0, Ty.int .i64 0, Ty.int .i64 0, Ty.ex (.slice none 0 0), Ty.int .i64 0]).Sub (iU.ty jD) := fun w M v hd => by
  obtain ⟨cs, e, h⟩ := hd
  obtain ⟨cs⟩ := cs
  match cs, h with
  | [_, _, _, _, _, _, _, _], ⟨h1, h2, h3, h4, h5, h6, h7, h8, _⟩ => exact ⟨_, e, h1, h2, h3, h4, h5, h6, Ty.nv w M _ h7, h8, trivial⟩
end Go.Proofs.YtpnndljmhpepgaaGreat
namespace Go.Proofs.YtpnndljmhpepgaaGreat
open Go Go.T
theorem F4 {α : Type} [Inhabited α] {A B : List α} {x : α} (h : (A ++ [x]) <+: B) : A.length < B.length ∧ nth B A.length = x := by
 obtain ⟨C, rfl⟩ := h
 refine ⟨by simp, ?_⟩
 unfold nth
 rw [List.getD_eq_getElem?_getD, List.getElem?_append_left bB, List.getElem?_append_right (Nat.le_refl _)]
 simp
def iK (b : aT) (p : Pl) (k : Nat) : List bX := (List.range k).flatMap (jx b p)
def jG (b : aT) (k m : Nat) : List bX := ((List.range m).filter fun (i : Nat) => b.hold k i).map fun (i : Nat) => ⟨i, k⟩
theorem qA (b : aT) (p : Pl) (k : Nat) : iK b p (k + 1) = iK b p k ++ jx b p k := by
 unfold iK; rw [List.range_succ, List.flatMap_append]; simp
theorem FR {b : aT} {p : Pl} {k : Nat} (h : gh b p k = true) : jx b p k = [] := by unfold jx; rw [if_pos h]
theorem xA {b : aT} {p : Pl} {k : Nat} (h : gh b p k = false) : jx b p k = jG b k b.aO.length := by unfold jx jG; rw [if_neg oz]
theorem yB {b : aT} {k m : Nat} (h : b.hold k m = true) : jG b k (m + 1) = jG b k m ++ [⟨m, k⟩] := by
 unfold jG
 rw [List.range_succ, List.filter_append, List.map_append, List.filter_cons, if_pos h]; rfl
theorem ID {b : aT} {k m : Nat} (h : b.hold k m = false) : jG b k (m + 1) = jG b k m := by
 unfold jG
 rw [List.range_succ, List.filter_append, List.map_append, List.filter_cons, if_neg oz]; simp
theorem range_split {n k : Nat} (h : k ≤ n) : ∃ l, List.range n = List.range k ++ l := ⟨(List.range n).drop k, by
 have := List.take_append_drop k (List.range n)
 rw [List.take_range, show min k n = k by omega] at this; exact this.symm⟩
theorem D8 {b : aT} {p : Pl} {k : Nat} (h : k ≤ b.sizes.length) : iK b p k <+: bP b p := by
 obtain ⟨l, e⟩ := range_split h
 unfold bP iK
 rw [e, List.flatMap_append]; exact List.prefix_append _ _
theorem Fj {b : aT} {k m n : Nat} (h : m ≤ n) : jG b k m <+: jG b k n := by
 obtain ⟨l, e⟩ := range_split h
 unfold jG
 rw [e, List.filter_append, List.map_append]; exact List.prefix_append _ _
theorem BO {b : aT} {p : Pl} {k m : Nat} (hk : k < b.sizes.length) (ht : gh b p k = false) (hm : m < b.aO.length) (hh : b.hold k m = true) :
 (iK b p k).length + (jG b k m).length < (bP b p).length ∧ nth (bP b p) ((iK b p k).length + (jG b k m).length) = ⟨m, k⟩ := by
 rw [← List.length_append]
 refine F4 (List.IsPrefix.trans ?_ (D8 (k := k + 1) aE))
 rw [qA, xA ht, List.append_assoc, List.prefix_append_right_inj, ← yB hh]
 exact Fj aE
theorem uR {p : Pl} {n : Nat} {x : Int} (hn : n ≤ 6) : x ∈ p.1.take n ↔ ∃ i, i < n ∧ nth p.1 i = x := by
 rw [List.mem_take_iff_getElem]
 have := p.2
 constructor
 ·rintro ⟨i, hi, rfl⟩
  exact ⟨i, by omega, dS aE⟩
 rintro ⟨i, hi, rfl⟩
 exact ⟨i, by omega, (dS aE).symm⟩
theorem lA {b : aT} {p : Pl} {k : Int} (hl : b.aO.length ≤ 6) : gh b p k = true ↔ ∃ i, i < b.aO.length ∧ nth p.1 i = k := by
 unfold gh
 rw [List.any_eq_true]
 constructor
 ·rintro ⟨x, hx, h⟩
  obtain ⟨i, hi, e⟩ := (uR hl).1 hx
  exact ⟨i, hi, by rw [e]; exact of_decide_eq_true h⟩
 rintro ⟨i, hi, e⟩
 exact ⟨_, (uR hl).2 ⟨i, hi, rfl⟩, decide_eq_true e⟩
theorem LF {b : aT} {p : Pl} {k : Int} {i : Nat} (hl : b.aO.length ≤ 6) (hi : i < b.aO.length) (h : nth p.1 i = k) : true = gh b p k := ((lA hl).2 ⟨i, hi, h⟩).symm
theorem Iu {b : aT} {p : Pl} {k : Int} (hl : b.aO.length ≤ 6) (h : ∀ i, i < b.aO.length → nth p.1 i ≠ k) : false = gh b p k := by
 symm; rw [Bool.eq_false_iff]; intro h2
 obtain ⟨i, hi, e⟩ := (lA hl).1 h2
 exact h i hi e
theorem Fb {q : Nat → Prop} {k : Nat} (h : ∀ i, i < k → q i) (hk : q k) : ∀ i, i < k + 1 → q i := fun i hi => by
 by_cases e : i = k
 ·subst e; exact hk
 exact h i aE
def Ak (b : aT) (p : Pl) (i : Nat) : Bool := decide ((nth b.aO i).aim = -1) || decide ((nth b.aO i).aim = nth p.1 i)
theorem J5 {b : aT} {p : Pl} {i : Nat} (hi : i < b.aO.length) (h : Ak b p i = false) : false = eN b p := by
 symm; unfold eN
 rw [List.all_eq_false]
 exact ⟨i, List.mem_range.2 hi, by show ¬ Ak b p i = true; rw [h]; decide⟩
theorem Kz {b : aT} {p : Pl} (h : ∀ i, i < b.aO.length → Ak b p i = true) : true = eN b p := by
 symm; unfold eN
 rw [List.all_eq_true]
 exact fun i hi => h i (List.mem_range.1 hi)
theorem Kr {b : aT} {p : Pl} {i : Nat} : (!decide ((nth b.aO i).aim = -1) && !decide ((nth b.aO i).aim = nth p.1 i)) = !Ak b p i := by
 unfold Ak; rw [Bool.not_or]
def lQ (b : aT) (k : Nat) : Pl := ⟨(((b.aO.take k).map fun (l : oF) => l.inn) ++ List.replicate 6 (0 : Int)).take 6, by rw [List.length_take, List.length_append, List.length_replicate]; omega⟩
theorem En {b : aT} {k : Nat} (h : b.aO.length ≤ k) : lQ b k = bJ b := by
 unfold lQ bJ; simp only [List.take_of_length_le h]
theorem IE {L : List Int} {k : Nat} (hL : L.length = k) (hk : k < 6) (v : Int) : ((L ++ List.replicate 6 (0 : Int)).take 6).set k v = ((L ++ [v]) ++ List.replicate 6 (0 : Int)).take 6 := by
 rw [List.append_assoc, List.take_append, List.take_append, hL, List.take_of_length_le aE, List.set_append_right _ _ aE, hL, Nat.sub_self]
 congr 1
 obtain ⟨m, hm⟩ : ∃ m, 6 - k = m + 1 := ⟨5 - k, by omega⟩
 rw [hm]
 show v :: List.take m (List.replicate 5 (0 : Int)) = v :: List.take m (List.replicate 6 (0 : Int))
 rw [List.take_replicate, List.take_replicate, show min m 5 = m by omega, show min m 6 = m by omega]
theorem CW {b : aT} {k : Nat} (hk : k < b.aO.length) (h6 : b.aO.length ≤ 6) : P9 (lQ b k) k (nth b.aO k).inn = lQ b (k + 1) := by
 apply Subtype.ext
 show (((b.aO.take k).map (fun (l : oF) => l.inn) ++ List.replicate 6 (0 : Int)).take 6).set k (nth b.aO k).inn = ((b.aO.take (k + 1)).map (fun (l : oF) => l.inn) ++ List.replicate 6 (0 : Int)).take 6
 rw [cg hk, List.map_append, IE (by rw [List.length_map, List.length_take]; omega) aE]
 rfl
end Go.Proofs.YtpnndljmhpepgaaGreat
namespace Go.Proofs.YtpnndljmhpepgaaGreat
open Go Go.T
set_option maxRecDepth 100000
set_option maxHeartbeats 2000000
theorem Oq {p : Pl} {i : Nat} (h : i < 6) : (oC.tys p)[0 + i * 1]? = some (Ty.int .i64 (nth p.1 i)) := by rw [show 0 + i * 1 = i by omega]; exact NZ p h
theorem I9 (b : aT) : dI.tys ⟨b, Jm⟩ = [Ty.sl cL b.sizes, Ty.sl cZ b.aO, Ty.int .i64 0, Ty.int .i64 0, Ty.int .i64 0, Ty.int .i64 0, Ty.int .i64 0, Ty.int .i64 0] := rfl
theorem I7 {b : aT} {k : Nat} (hk : k < b.aO.length) (h6 : b.aO.length ≤ 6) : (dI.tys ⟨b, lQ b k⟩).set (0 + 2 + k * 1) (Ty.int .i64 (nth b.aO k).inn) = dI.tys ⟨b, lQ b (k + 1)⟩ := by
 rw [show 0 + 2 + k * 1 = 2 + k by omega, MT _ _ aE, CW hk h6]
def Kn (t : bX) : List Ty := [Ty.agg (bq.tys t)]
attribute [local irreducible] iL fu pJ r9 jY jQ jL jI jT rF jJ q5 dy g6 q2 g7 r8 nth fS dG ay dO bodyPost Exit.then Exit.inBlock Code.wp Code.wpIn fy rS rB rq rL jU r5 fG iT qd cT cX bodyPostM eE
theorem yI (b : aT) (k i : Nat) (hk : k < b.sizes.length) (hi : i < b.aO.length) {v : Bool} (h : b.hold k i = v) : dO Tryz.prog 79 [cU b, Ty.int .i64 (k : Nat), Ty.int .i64 (i : Nat)] (Ty.bool v) := h ▸ oN b k i ⟨by omega, by omega⟩ ⟨by omega, by omega⟩
theorem CB (d : tS) (hl : d.b.aO.length ≤ 6) (p : Pl) (n : Int) : dO Tryz.prog 95 [Ty.pe dI d 0, Ty.agg (j6 p), Ty.int .i64 n] (Ty.bool (gh d.b p n)) := by
 refine az Tryz.func95 ν aB Tryz.ntmps95 aP fun w0 M0 => ?_
 refine aF (aA (bF ν (dN ν (aD (aC (aF (aF ?_)))))))
 refine fK (s := 4) (ty := Ty.pp (oC.tys p)) ν Ty.KM ?_
 refine aA (nN ν (cW ν (cr ν ν ν ν ν aB (cr ν ν ν ν ν aB (kI ν ν ν ν (bU ν ν ν (bA ν (aD (aC (aV ?_))))))))))
 refine bf (fun (k : {k : Nat // ∀ i, i < k → nth p.1 i ≠ n}) => live [(2, Ty.int .i64 n), (4, Ty.pe oC p 0), (13, Ty.int .i64 d.b.aO.length), (14, Ty.int .i64 (k.1 : Nat))] []) (fun k => d.b.aO.length - k.1) (⟨0, fun i hi => absurd hi (Nat.not_lt_zero i)⟩) ?_ fun k => ?_
 ·exact bt
 refine aF (aA (ah ν ν ν (aD (aC (aF ?_)))))
 refine aU ν (fun hc1 => ?_) (fun hc1 => ?_)
 ·refine aX (aC (aF (aV (aF (aA (bA ν (bS ν (aD (aC (aF (aA (bA ν (zR ν ν ν ν ν aE (kI ν ν ν (Oq aE) (bA ν (ah ν ν ν (aD (aC ?_))))))))))))))))))
  refine aU ν (fun hc2 => ?_) (fun hc2 => ?_)
  ·refine aF (aA (dN ν (aD (aC (au (aZ (aK (aK (aZ (aK (bg ν ν ?_)))))))))))
   exact av rfl rfl (congrArg Ty.bool (LF hl aE hc2))
  refine aX (bE (aC (aA (bY ν ν aE aE (bA ν (aD ?_))))))
  refine bG (⟨k.1 + 1, Fb k.2 hc2⟩) ?_ Oi
  exact bt
 refine bQ (aI (aI (aS ν (aC (aF (aA (dN ν (aD (aC (au (bg ν ν ?_)))))))))))
 exact av rfl rfl (congrArg Ty.bool (Iu hl (fun i hi => k.2 i aE)))
theorem Bq (d : tS) (hl : d.b.aO.length ≤ 6) (p : Pl) : dO Tryz.prog 45 [Ty.pe dI d 0, Ty.agg (j6 p)] (Ty.bool (eN d.b p)) := by
 refine az Tryz.func45 ν aB Tryz.ntmps45 aP fun w0 M0 => ?_
 refine aF (aA (bF ν (dN ν (aD (aC (aF (aF ?_)))))))
 refine fK (s := 3) (ty := Ty.pp (oC.tys p)) ν Ty.KM ?_
 refine aA (nN ν (cW ν (cr ν ν ν ν ν aB (cr ν ν ν ν ν aB (kI ν ν ν ν (bU ν ν ν (bA ν (aD (aC (aV ?_))))))))))
 refine bf (fun (k : {k : Nat // ∀ i, i < k → Ak d.b p i = true}) => live [(3, Ty.pe oC p 0), (11, Ty.sl cZ d.b.aO), (12, Ty.int .i64 d.b.aO.length), (13, Ty.int .i64 (k.1 : Nat))] []) (fun k => d.b.aO.length - k.1) (⟨0, fun i hi => absurd hi (Nat.not_lt_zero i)⟩) ?_ fun k => ?_
 ·exact bt
 refine aF (aA (ah ν ν ν (aD (aC (aF ?_)))))
 refine aU ν (fun hc1 => ?_) (fun hc1 => ?_)
 ·refine aX (aC (aF (aV (aF (aA (bA ν (af ν ν ν ν ν ν aE (aY ν ν ν aP (bZ ν bW ν (bS ν ?_))))))))))
  refine bK ν ν aB ν ν ν ν ν ν (aD (aC (aF (cH mixed ν (ak ν ν ν ν ν aB (aq ν ν aB ν ν ν (ah ν ν ν (dm ν ?_))))))))
  refine bT 21 ν (fun hg => aH (ak ν ν ν ν ν aB (aD ν))) ?_
  refine bT 21 ν (fun hg => cJ 22 hg ν (aH (aq ν ν aB ν ν ν (aD ν)))) ?_
  refine bT 21 ν (fun hg => aH (bA ν (aD ν))) ?_
  refine bT 21 ν (fun hg => cJ 24 hg ν (aH (zR ν ν ν ν ν aE (aD ν)))) ?_
  refine bT 21 ν (fun hg => cJ 25 hg ν (aH (kI ν ν ν (Oq aE) (aD ν)))) ?_
  refine bT 21 ν (fun hg => cJ 23 hg ν (cJ 26 hg ν (aH (ah ν ν ν (aD ν))))) ?_
  refine dA ν ν (aD ?_)
  refine ⟨by kernel_rfl, ?_⟩
  refine aC ?_
  refine cI ν (fun hc2 => ?_) (fun hc2 => ?_)
  ·refine aF (aA (dN ν (aD (aC (au (aZ (aK (aK (aZ (aK (bg ν ν ?_)))))))))))
   exact av rfl rfl (congrArg Ty.bool (J5 (i := k.1) aE PF))
  refine aX (bE (aC (aA (bY ν ν aE aE (bA ν (aD ?_))))))
  refine bG (⟨k.1 + 1, Fb k.2 PF⟩) ?_ Oi
  exact bt
 refine bQ (aI (aI (aS ν (aC (aF (aA (dN ν (aD (aC (au (bg ν ν ?_)))))))))))
 exact av rfl rfl (congrArg Ty.bool (Kz (fun i hi => k.2 i aE)))
theorem Mk (n : Int) (l : List Int) : dO Tryz.prog 122 [Ty.int .i64 n, Ty.sl cL l] (Ty.int .i64 (l.foldl min n)) := by
 refine az Tryz.func122 ν aB Tryz.ntmps122 aP fun w0 M0 => ?_
 refine fV (s := 1) ν ν fY fun hl => ?_
 refine aF (aA (bS ν (aD (aC (aF (aF (aA (cM ν (bU ν ν ν (bA ν (aD (aC (aV ?_)))))))))))))
 refine bf (fun (k : Nat) => live [(0, Ty.int .i64 ((l.take k).foldl min n)), (7, Ty.sl cL l), (8, Ty.int .i64 l.length), (9, Ty.int .i64 (k : Nat))] []) (fun k => l.length - k) (0) ?_ fun k => ?_
 ·exact bt
 refine aF (aA (ah ν ν ν (aD (aC (aF ?_)))))
 refine aU ν (fun hc1 => ?_) (fun hc1 => ?_)
 ·refine aX (aC (aF (aV (aF (aA (af ν ν ν ν ν ν aE (aJ ν ν ν ν (bS ν (aD (aC (aA (bA ν (bA ν (Jv ν ν (bS ν (aD (bE (aC (aA (bY ν ν aE aE (bA ν (aD ?_))))))))))))))))))))))
  refine bG (k + 1) ?_ aE
  (refine dw.mk' ?_ ?_ <;> (repeat' (first | exact aQ | exact aR | refine aG ?_ (Ty.bC _) | refine aG ?_ (Ty.aM _) | refine aG ?_ ?_)))
  exact Ty.bO (by rw [cg aE, List.foldl_append]; rfl)
 refine bQ (aI (aI (aS ν (aC (aF (aA (bA ν (bS ν (aD (aC (au (bg ν ν ?_))))))))))))
 exact av rfl rfl (congrArg (Ty.int .i64) Jo)
theorem JY (b : aT) (hs : b.Small) (he : bH b ≠ 0) : dO Tryz.prog 82 [cU b] (Ty.iF [Ty.ex (.pointer none), Ty.int .i64 (bH b)]) := by
 refine az Tryz.func82 ν aB Tryz.ntmps82 aP fun w0 M0 => ?_
 refine aF (aA (bF ν (fm ν (bS ν (aD (aC (aF (aF (aA (aY ν ν ν aP (aa (jC b hs) ν ν ν ν ν (bS ν (aD (aC (aF (aA (bA ν (ah ν ν ν (aD (aC ?_))))))))))))))))))))
 refine mj rfl (by rw [decide_eq_false he]; rfl) ?_
 refine aF (aA (bA ν (fm ν (bS ν (aD (aC (au (aK ?_))))))))
 refine dc ν ν ν ?_ ?_
 all_goals exact b9 rfl rfl
 skip
theorem IK (b : aT) (hs : b.Small) (h0 : bH b = 0) : dO Tryz.prog 82 [cU b] (Ty.iF [Ty.pe dI ⟨b, bJ b⟩ 0, Ty.int .i64 0]) := by
 refine az Tryz.func82 ν aB Tryz.ntmps82 aP fun w0 M0 => ?_
 have h6 := (c8 h0).aO
 refine aF (aA (bF ν (fm ν (bS ν (aD (aC (aF (aF (aA (aY ν ν ν aP (aa (jC b hs) ν ν ν ν ν (bS ν (aD (aC (aF (aA (bA ν (ah ν ν ν (aD (aC ?_))))))))))))))))))))
 refine eP rfl (by rw [h0]; rfl) ?_
 refine aX (aC (aF (aA (aY ν ν ν aP ?_))))
 refine LZ dI ⟨b, Jm⟩ rfl rfl bW rfl mH (by rw [I9]; rfl) ?_
 refine Ks (E := dI) ⟨b, Jm⟩ ν ν ?_
 refine Rl ν (aD (aC (aF (aF (aA (aN ν ν ν ν ν aB (aJ ν ν ν ν (bU ν ν ν (bA ν (aD (aC (aV ?_))))))))))))
 refine bf (fun (k : {k : Nat // k ≤ b.aO.length}) => live [(1, Ty.pp (bL b)), (5, Ty.ptr 16 0), (17, Ty.sl cZ b.aO), (18, Ty.int .i64 b.aO.length), (19, Ty.int .i64 (k.1 : Nat))] [(16, Cont.vec dI 93 [⟨b, lQ b k.1⟩])]) (fun k => b.aO.length - k.1) (⟨0, by omega⟩) ?_ fun k => ?_
 ·exact dK
 refine aF (aA (ah ν ν ν (aD (aC (aF ?_)))))
 refine aU ν (fun hc2 => ?_) (fun hc2 => ?_)
 ·refine aX (aC (aF (aV (aF (aA (bA ν (af ν ν ν ν ν ν aE (aY ν ν ν aP (bZ ν bW ν (bS ν ?_))))))))))
  refine bK ν ν aB ν ν ν ν ν ν (aD (aC (cH mixed ν (Rq ν (bA ν (ak ν ν ν ν ν aB (aq ν ν aB ν ν ν (rG ν (ak ν ν ν ν ν aB (oI ν ν ν ν ν aE ?_))))))))))
  refine Fz (E := dI) (o := ⟨b, lQ b k.1⟩) (z := ⟨b, lQ b (k.1 + 1)⟩) ν ν aB ν ν gR ν (show 0 + 2 + k.1 * 1 < 8 by omega) ν (I7 aE h6) ?_
  refine aD ?_
  refine ⟨by kernel_rfl, ?_⟩
  refine bE (aC (aA (bY ν ν aE aE (bA ν (aD ?_)))))
  refine bG (⟨k.1 + 1, by omega⟩) ?_ ko
  exact dK
 refine bQ (aI (aI (aS ν (aC (aF ?_)))))
 refine jA (tg := 16) [(5, Ty.pe dI ⟨b, lQ b k.1⟩ 0)] aB rfl ⟨QF rfl rfl aB, trivial⟩ ?_
 refine aA (nN ν (Q8 ν (bS ν (aD (aC (au ?_))))))
 refine dc ν ν ν ?_ ?_
 all_goals first | exact b9 rfl rfl | skip
 all_goals exact av rfl rfl (by rw [En wR]; rfl)
theorem FA (b : aT) (hs : b.Small) : dO Tryz.prog 82 [cU b] (Ty.iF [Ty.when (decide (bH b = 0)) (Ty.pe dI ⟨b, bJ b⟩ 0), Ty.int .i64 (bH b)]) := by
 by_cases h0 : bH b = 0
 ·have h := IK b hs h0
  rw [h0]
  exact h.mono (Ty.DG (Ty.uy rfl fun _ => Ty.aM _) (Ty.aM _))
 exact (JY b hs h0).mono (Ty.DG (Ty.uy rfl fun h => by simp [h0] at h) (Ty.aM _))
theorem C6 (d : tS) (hs : d.b.Small) (h6 : d.b.aO.length ≤ 6) (p : Pl) : iT Tryz.prog 134 (fun l => [Ty.ex (yv l), Ty.pp [Ty.pe dI d 0], Ty.pp (j6 p)]) ((bP d.b p).map Kn) (Ty.iF []) (Ty.iF []) := by
 refine IB Tryz.func134 rfl aB Tryz.ntmps134 (fun _ => by exact Nat.le_of_ble_eq_true rfl) (fun _ => ⟨rfl, rfl⟩) fun l J Jx hJ hJx hY w0 M0 => ?_
 have hs1 := hs.sizes
 refine aF (aA (aJ ν ν ν ν (cW ν (cr ν ν ν ν ν aB (cr ν ν ν ν ν aB (kI ν ν ν ν (bU ν ν ν (bA ν (aD (aC (aV ?_)))))))))))
 refine bf (fun (k : {k : Nat // k ≤ d.b.sizes.length}) => live [(0, Ty.ex (yv l)), (1, Ty.pp [Ty.pe dI d 0]), (2, Ty.pp (j6 p)), (11, Ty.int .i64 d.b.sizes.length), (12, Ty.int .i64 (k.1 : Nat))] [(0, CJ (hJ (iK d.b p k.1).length))]) (fun k => d.b.sizes.length - k.1) (⟨0, by omega⟩) ?_ fun k => ?_
 ·exact dK
 refine aF (aA (ah ν ν ν (aD (aC (aF ?_)))))
 refine aU ν (fun hc1 => ?_) (fun hc1 => ?_)
 ·refine aX (aC (aF (aV (aF (aA (bA ν (bS ν (aD (aC (aF (aF (aA (aJ ν ν ν ν (aY ν ν ν aP (bA ν ?_)))))))))))))))
  refine aa (CB d h6 p (k.1 : Nat)) ν ν ν ν ν ?_
  refine aD (aC ?_)
  refine cI ν (fun hc2 => ?_) (fun hc2 => ?_)
  ·refine bQ (aI (aS ν (aC (aA (bY ν ν aE aE (bA ν (aD ?_)))))))
   refine bG (⟨k.1 + 1, by omega⟩) ?_ OR
   (refine dw.mk' ?_ ?_ <;> (repeat' (first | exact aQ | exact aR | refine aG ?_ (Ty.bC _) | refine aG ?_ (Ty.aM _) | refine aL rfl ?_ ?_)))
   exact Cont.sub_eq (congrArg (fun n => CJ (hJ n)) (by show (iK d.b p k.1).length = (iK d.b p (k.1 + 1)).length; rw [qA, FR hc2, List.append_nil]))
  refine aX (aC (aF (aA (aJ ν ν ν ν (cW ν (cr ν ν ν ν ν aB (cr ν ν ν ν ν aB (kI ν ν ν ν (bU ν ν ν (bA ν (aD (aC (aV ?_)))))))))))))
  refine bf (fun (m : {m : Nat // m ≤ d.b.aO.length}) => live [(0, Ty.ex (yv l)), (1, Ty.pp [Ty.pe dI d 0]), (2, Ty.pp (j6 p)), (4, Ty.int .i64 (k.1 : Nat)), (11, Ty.int .i64 d.b.sizes.length), (12, Ty.int .i64 (k.1 : Nat)), (24, Ty.int .i64 d.b.aO.length), (25, Ty.int .i64 (m.1 : Nat))] [(0, CJ (hJ ((iK d.b p k.1).length + (jG d.b k.1 m.1).length)))]) (fun m => d.b.aO.length - m.1) (⟨0, by omega⟩) ?_ fun m => ?_
  ·exact dK
  refine aF (aA (ah ν ν ν (aD (aC (aF ?_)))))
  refine aU ν (fun hc3 => ?_) (fun hc3 => ?_)
  ·refine aX (aC (aF (aV (aF (aA (bA ν (bS ν (aD (aC (aF ?_))))))))))
   cases hsp : (d.b.hold k.1 m.1)
   ·refine aA (aJ ν ν ν ν (cW ν (cr ν ν ν ν ν aB (eV ν ν ν ν ν (bA ν (bA ν (aa (yI d.b k.1 m.1 aE aE hsp) ν ν ν ν ν (dm ν (nK ν ν ν ν (nK ν ν ν ν (nK ν ν ν ν (nK ν ν ν ν (nK ν ν ν ν (nK ν ν ν ν ?_))))))))))))))
    refine F8 (ty := Ty.bool false) ν ν ν (fun h => Bool.noConfusion h) (fun _ => Ty.aM _) ?_
    refine aD (aC (eP ν (ν) (aX (bE (aC (aA (bY ν ν aE aE (bA ν (aD ?_)))))))))
    refine bG (⟨m.1 + 1, by omega⟩) ?_ Of
    (refine dw.mk' ?_ ?_ <;> (repeat' (first | exact aQ | exact aR | refine aG ?_ (Ty.bC _) | refine aG ?_ (Ty.aM _) | refine aL rfl ?_ ?_)))
    exact Cont.sub_eq (congrArg (fun n => CJ (hJ n)) (by show _ + _ = (iK d.b p k.1).length + (jG d.b k.1 (m.1 + 1)).length; rw [ID hsp]))
   refine FE 12 ν ν (aJ ν ν ν ν (cW ν (cr ν ν ν ν ν aB (eV ν ν ν ν ν (bA ν (bA ν (aa (yI d.b k.1 m.1 aE aE hsp) ν ν ν ν ν (dm ν ?_))))))))
   (refine tQ ν ν ν (by apply aH; (refine Kb ν ?_); refine aD ?_; exact ν) ?_)
   (refine tQ ν ν ν Oo ?_)
   (refine tQ ν ν ν Oo ?_)
   (refine tQ ν ν ν (by apply aH; (refine cC ν ν bW ν dn eU ?_); refine aD ?_; exact ν) ?_)
   refine aD ?_
   refine ⟨_, _, PU rfl rfl rfl (Io hJ hJx hY rfl rfl rfl rfl rfl (Nf (BO aE hc2 aE hsp).1 (congrArg Kn (BO aE hc2 aE hsp).2)) rfl), ?_, ?_⟩
   ·(refine tQ ν ν ν O2 ?_)
    refine F8 (ty := Ty.bool false) ν ν ν (fun _ => (Ty.aM _ : Ty.Sub (Ty.bool (!true)) _)) (fun h => Bool.noConfusion h) ?_
    refine aD (aC (eP ν (ν) (aX (bE (aC (aA (bY ν ν aE aE (bA ν (aD ?_)))))))))
    refine bG (⟨m.1 + 1, by omega⟩) ?_ Of
    (refine dw.mk' ?_ ?_ <;> (repeat' (first | exact aQ | exact aR | refine aG ?_ (Ty.bC _) | refine aG ?_ (Ty.aM _) | refine aL rfl ?_ ?_)))
    exact Cont.sub_eq (congrArg (fun n => CJ (hJ n)) (by show _ + _ + 1 = (iK d.b p k.1).length + (jG d.b k.1 (m.1 + 1)).length; rw [yB hsp, List.length_append]; rfl))
   (refine tQ ν ν ν O2 ?_)
   refine F8 (ty := Ty.bool true) ν ν ν (fun _ => (Ty.aM _ : Ty.Sub (Ty.bool (!false)) _)) (fun h => Bool.noConfusion h) ?_
   refine aD (aC (mj ν (ν) (au (aZ (aK (aK (aZ (aZ (aK (aK (aZ ?_)))))))))))
   exact Ml rfl rfl
  refine bQ (aI (aI (aS ν (bE (aC (aA (bY ν ν aE aE (bA ν (aD ?_)))))))))
  refine bG (⟨k.1 + 1, by omega⟩) ?_ OR
  (refine dw.mk' ?_ ?_ <;> (repeat' (first | exact aQ | exact aR | refine aG ?_ (Ty.bC _) | refine aG ?_ (Ty.aM _) | refine aL rfl ?_ ?_)))
  exact Cont.sub_eq (congrArg (fun n => CJ (hJ n)) (by show (iK d.b p k.1).length + (jG d.b k.1 m.1).length = (iK d.b p (k.1 + 1)).length; rw [qA, xA hc2, List.length_append, show m.1 = d.b.aO.length by have := m.2; omega]))
 refine bQ (aI (aI (aS ν (HD ?_))))
 exact OJ (hJ := hJ) (by rw [List.length_map, show k.1 = d.b.sizes.length by have := k.2; omega]; rfl) rfl rfl
theorem Fi (d : tS) (p : Pl) : dO Tryz.prog 121 [Ty.pe dI d 0, Ty.agg (j6 p)] (Ty.so 134 [Ty.pp [Ty.pe dI d 0], Ty.pp (j6 p)]) := by
 refine az Tryz.func121 ν aB Tryz.ntmps121 aP fun w0 M0 => ?_
 refine aF (aA (iq LP ν ?_))
 refine bF ν (fm ν (aD (aC (aF (aA (fA ν (RV ν (aD (aC (au (bg ν ν ?_)))))))))))
 all_goals exact b9 rfl rfl
 skip
end Go.Proofs.YtpnndljmhpepgaaGreat
namespace Go.Proofs.YtpnndljmhpepgaaGreat
open Go Go.T
theorem vC : ∀ n, (Eh n).length = 7 ^ n
  | 0 => rfl
  | n + 1 => by
    show ((List.range 7).flatMap fun (k : Nat) => (Eh n).map fun l => (k : Int) :: l).length = _
    rw [show List.range 7 = [0, 1, 2, 3, 4, 5, 6] from rfl]
    simp only [List.flatMap_cons, List.flatMap_nil, List.length_append, List.length_map, List.length_nil, vC n, Nat.pow_succ]
    omega
theorem n4 : dZ = 117649 := by
 unfold dZ; rw [vC]
def cE (y : St) : Pl := nth (rowAt y.queue y.now) 0
def ON (y : St) : List Pl := (rowAt y.queue y.now).drop 1
theorem nR {y : St} (h : 0 < (rowAt y.queue y.now).length) : rowAt y.queue y.now = cE y :: ON y := by
 have := lu h
 rw [List.drop_zero] at this
 exact this
def AD (y : St) : St := fX y (ON y)
def fj (y : St) : St := marked (AD y) (cE y)
structure E3 (b : aT) (c : bX → Int) (all : Bool) (x y : St) : Prop where
  inv : Inv b c all (bP b) 0 y
  same : ql b c all y
  le : yG y ≤ yG x
  lt : y.left ≤ 0 → yG y < yG x
  now : y.now = x.now
variable {b : aT} {c : bX → Int} {all : Bool} {x y : St}
theorem Inv.KL {F : Pl → List bX} {R : Int} (h : Inv b c all F R x) (hr : b.cQ) (hl : 0 < x.left) : x.now ≤ 300 * dZ := by
  cases hq : rowAt x.queue x.now with
  | nil => have := h.RW hr hl hq; omega
  | cons p r =>
    have h1 := (h.que x.now p EG).2.1
    have h2 := h.z7 hr
    omega
theorem Inv.Bz {F : Pl → List bX} {R : Int} (h : Inv b c all F R x) (hr : b.cQ) : x.left + R ≤ 1 + 42 * dZ := by
 have h1 := h.lim
 have h2 := h.z7 hr
 omega
theorem Inv.P1 {F : Pl → List bX} {R : Int} (h : Inv b c all F R x) (hr : b.cQ) (m : Int) : (rowAt x.queue m).length + R ≤ 1 + 42 * dZ := by
 have h1 := h.Bz hr
 have h2 := zU x.queue m
 have h3 := h.left
 omega
theorem IL (h : Inv b c all (bP b) 0 x) (hs : ql b c all x) (hl : 0 < x.left) : E3 b c all x x := ⟨h, hs, Nat.le_refl _, fun h => by omega, rfl⟩
theorem E3.pos (h : E3 b c all x y) (hq : 0 < (rowAt y.queue y.now).length) : 0 < y.left := uC h.inv (nR hq)
theorem E3.old (h : E3 b c all x y) (hq : 0 < (rowAt y.queue y.now).length) (hd : kN (AD y) (cE y) = true) : E3 b c all x (AD y) := by
 have hr := nR hq
 have hm : yG (AD y) < yG y := FX h.inv hr
 have hl := h.le
 exact ⟨Ez h.inv hr hd, h.same.step (Dk (h.pos hq) hr hd), by omega, fun _ => by omega, h.now⟩
theorem E3.mark (h : E3 b c all x y) (hq : 0 < (rowAt y.queue y.now).length) (hd : kN (AD y) (cE y) = false) (hm : (!all && eN b (cE y)) = false) : Inv b c all (upTo b (cE y) 0) 42 (fj y) ∧ At b (cE y) (fj y) :=
 yZ h.inv (nR hq) hd (fun ha => by rw [ha] at hm; simpa using hm)
theorem E3.new (h : E3 b c all x y) (hr : b.cQ) (hc : iw b c) (hq : 0 < (rowAt y.queue y.now).length) (hd : kN (AD y) (cE y) = false) (hm : (!all && eN b (cE y)) = false) : E3 b c all x (cx b c (cE y) (fj y) (bP b (cE y)).length) := by
 have he := nR hq
 have hlt : yG (cx b c (cE y) (fj y) (bP b (cE y)).length) < yG y := FU h.inv hr he hd (h.mark hq hd hm).1
 have hl := h.le
 exact ⟨He hr hc h.inv he hd hm, h.same.step (EE (h.pos hq) he hd hm), by omega, fun _ => by omega, by rw [sS]; exact h.now⟩
theorem E3.found (h : E3 b c all x y) (hq : 0 < (rowAt y.queue y.now).length) (hd : kN (AD y) (cE y) = false) (hm : (!all && eN b (cE y)) = true) : cw b c all = ⟨y.ways, cE y, true⟩ :=
 h.same.stop (zK (h.pos hq) (nR hq) hd hm)
theorem FV (h : Inv b c all (bP b) 0 y) (hs : ql b c all y) (hq : rowAt y.queue y.now = []) : ql b c all (later y) := by
 rcases Int.lt_or_le 0 y.left with hl | hl
 ·exact hs.step (yl hl hq)
 intro f hf
 have h1 : Ends b c all (later y) ⟨y.ways, Jm, false⟩ := .stop (step_end hl)
 rw [hf.QU h1]
 exact hs.stop (step_end hl)
theorem E3.later (h : E3 b c all x y) (hr : b.cQ) (hq : rowAt y.queue y.now = []) : Inv b c all (bP b) 0 (later y) ∧ ql b c all (later y) ∧ yG (later y) < yG x := by
 refine ⟨Bf h.inv hq, FV h.inv h.same hq, ?_⟩
 have h1 := h.le
 rcases Int.lt_or_le 0 y.left with hl | hl
 ·have := Dm h.inv hr hl hq; omega
 have := h.lt hl
 have := C8 y; omega
theorem vK (p : Pl) (t : bX) (h : t.bN.toNat < 6) : (j6 p).set (0 + t.bN.toNat * 1) (Ty.int .i64 t.aim) = j6 (cm p t) := by
 rw [show 0 + t.bN.toNat * 1 = t.bN.toNat by omega]; exact NN p t.aim h
theorem IV {p : Pl} {z : St} {k : Nat} (hk : k < (bP b p).length) (h : wV (cx b c p z k).ways (cm p (nth (bP b p) k)) ((cx b c p z k).now + c (nth (bP b p) k)) = true) : cx b c p z (k + 1) = cx b c p z k := by
 rw [tI hk, Bb h]
theorem LO {p : Pl} {z : St} {k : Nat} (hk : k < (bP b p).length) (h : wV (cx b c p z k).ways (cm p (nth (bP b p) k)) ((cx b c p z k).now + c (nth (bP b p) k)) = false) :
 (cx b c p z (k + 1)).ways = dQ (cx b c p z k).ways (cm p (nth (bP b p) k)) ⟨p, [nth (bP b p) k], (cx b c p z k).now + c (nth (bP b p) k)⟩ ∧
 (cx b c p z (k + 1)).queue = dQ (cx b c p z k).queue ((cx b c p z k).now + c (nth (bP b p) k)) (rowAt (cx b c p z k).queue ((cx b c p z k).now + c (nth (bP b p) k)) ++ [cm p (nth (bP b p) k)]) ∧
 (cx b c p z (k + 1)).left = (cx b c p z k).left + 1 := by
 rw [tI hk, DV h]; exact ⟨rfl, rfl, rfl⟩
theorem GG {p : Pl} {z : St} {k : Nat} {n : Int} (hk : k < (bP b p).length) (hn : (cx b c p z k).now = n) (h : wV (cx b c p z k).ways (cm p (nth (bP b p) k)) (n + c (nth (bP b p) k)) = true) : cx b c p z k = cx b c p z (k + 1) :=
 (IV hk (by rw [hn]; exact h)).symm
theorem Lf {p : Pl} {z : St} {k : Nat} {n : Int} (hk : k < (bP b p).length) (hn : (cx b c p z k).now = n) (h : wV (cx b c p z k).ways (cm p (nth (bP b p) k)) (n + c (nth (bP b p) k)) = false) :
 dQ (cx b c p z k).ways (cm p (nth (bP b p) k)) ⟨p, [nth (bP b p) k], n + c (nth (bP b p) k)⟩ = (cx b c p z (k + 1)).ways ∧
 dQ (cx b c p z k).queue (n + c (nth (bP b p) k)) (rowAt (cx b c p z k).queue (n + c (nth (bP b p) k)) ++ [cm p (nth (bP b p) k)]) = (cx b c p z (k + 1)).queue ∧
 (cx b c p z k).left + 1 = (cx b c p z (k + 1)).left := by
 obtain ⟨h1, h2, h3⟩ := LO hk (by rw [hn]; exact h)
 rw [h1, h2, h3, hn]; exact ⟨rfl, rfl, rfl⟩
end Go.Proofs.YtpnndljmhpepgaaGreat
namespace Go.Proofs.YtpnndljmhpepgaaGreat
open Go Go.T
theorem mS {α : Type} [Inhabited α] {a b : List α} (hl : a.length = b.length) (h : ∀ i, i < a.length → nth a i = nth b i) : a = b :=
 List.ext_getElem hl fun i h1 h2 => by rw [← dS h1, ← dS h2]; exact h i h1
theorem jE {α : Type} [Inhabited α] {l : List α} {i j : Nat} {v : α} (h : j < l.length) : nth (l.set i v) j = if i = j then v else nth l j := by
 unfold nth
 rw [List.getD_eq_getElem?_getD, List.getD_eq_getElem?_getD, List.getElem?_set]
 by_cases e : i = j
 ·subst e; rw [if_pos rfl, if_pos rfl, if_pos h]; rfl
 rw [if_neg e, if_neg e]
section
variable {α : Type} [Inhabited α]
def mE (xs : List α) (k : Nat) : List α := (List.range xs.length).map fun p => if p < k ∨ xs.length ≤ p + k then nth xs (xs.length - 1 - p) else nth xs p
theorem iZ (xs : List α) (k : Nat) : (mE xs k).length = xs.length := by unfold mE; rw [List.length_map, List.length_range]
theorem mo {xs : List α} {k p : Nat} (h : p < xs.length) : nth (mE xs k) p = if p < k ∨ xs.length ≤ p + k then nth xs (xs.length - 1 - p) else nth xs p := by
 rw [dS (by rw [iZ]; exact h)]; unfold mE; rw [List.getElem_map, List.getElem_range]
theorem tY (xs : List α) : mE xs 0 = xs := mS (iZ _ _) fun i hi => by
 rw [iZ] at hi
 rw [mo hi, if_neg aE]
theorem y4 {xs : List α} {k : Nat} (h : k + 1 < xs.length - k) : ((mE xs k).set k (nth (mE xs k) (xs.length - 1 - k))).set (xs.length - 1 - k) (nth (mE xs k) k) = mE xs (k + 1) := by
 have hl := iZ xs k
 refine mS (by rw [List.length_set, List.length_set, hl, iZ]) fun i hi => ?_
 rw [List.length_set, List.length_set, hl] at hi
 rw [jE (by rw [List.length_set, hl]; exact hi), jE (by rw [hl]; exact hi), mo hi, mo hi, mo aE, mo aE]
 by_cases e1 : xs.length - 1 - k = i
 ·rw [if_pos e1, if_neg aE, if_pos aE, ← e1]; congr 1; omega
 rw [if_neg e1]
 by_cases e2 : k = i
 ·rw [if_pos e2, if_neg aE, if_pos aE, ← e2]
 rw [if_neg e2]
 by_cases e3 : i < k ∨ xs.length ≤ i + k
 ·rw [if_pos e3, if_pos aE]
 rw [if_neg e3, if_neg aE]
theorem wI {xs : List α} {k : Nat} (h : ¬ k + 1 < xs.length - k) : mE xs k = xs.reverse := by
 refine mS (by rw [iZ, List.length_reverse]) fun i hi => ?_
 rw [iZ] at hi
 rw [mo hi, dS (xs := xs.reverse) (by rw [List.length_reverse]; exact hi), List.getElem_reverse, ← dS]
 by_cases e : i < k ∨ xs.length ≤ i + k
 ·rw [if_pos e]
 rw [if_neg e]; congr 1; omega
end
theorem gm {α : Type} (l : List (List α)) (k : Nat) : (l.take k).flatten.length ≤ l.flatten.length := by
 conv => rhs; rw [← List.take_append_drop k l, List.flatten_append, List.length_append]
 omega
theorem eu {α : Type} {l : List (List α)} {k : Nat} (h : k < l.length) : (l.take (k + 1)).flatten = (l.take k).flatten ++ nth l k := by
 rw [cg h, List.flatten_append]; simp
inductive iG (ways : List (Pl × Way)) (first : Pl) : Pl → List (List bX) → Prop
  | nil : iG ways first first []
  | snoc {p : Pl} {w : Way} {A : List (List bX)} : p ≠ first → b8 ways p = some w → iG ways first w.frm A → iG ways first p (A ++ [w.byT])
theorem iG.yW {ways : List (Pl × Way)} {first : Pl} {A : List (List bX)} (h : iG ways first first A) : A = [] := by
  generalize hp : first = p at h
  have : ∀ {q A}, iG ways first q A → q = first → A = [] := fun {q A} h e => by
    cases h with
    | nil => rfl
    | snoc h1 _ _ => exact absurd e h1
  subst hp
  exact this h rfl
theorem iG.step {ways : List (Pl × Way)} {first p : Pl} {A : List (List bX)} (h : iG ways first p A) (hp : p ≠ first) : iG ways first ((b8 ways p).getD jD).frm A.dropLast ∧ A = A.dropLast ++ [((b8 ways p).getD jD).byT] := by
  cases h with
  | nil => exact absurd rfl hp
  | snoc h1 h2 h3 => rw [h2, List.dropLast_concat]; exact ⟨h3, rfl⟩
theorem iG.QU {ways : List (Pl × Way)} {first : Pl} : ∀ {p : Pl} {A B : List (List bX)}, iG ways first p A → iG ways first p B → A = B := by
  intro p A B h
  induction h generalizing B with
  | nil => exact fun h' => h'.yW.symm
  | snoc h1 h2 _ ih =>
    intro h'
    cases h' with
    | nil => exact absurd rfl h1
    | snoc g1 g2 g3 => rw [h2] at g2; injection g2 with g2; subst g2; rw [ih g3]
open Classical in
noncomputable def qJ (ways : List (Pl × Way)) (first p : Pl) : List (List bX) := if h : ∃ A, iG ways first p A then h.choose else []
theorem oO {ways : List (Pl × Way)} {first p : Pl} {A : List (List bX)} (h : iG ways first p A) : qJ ways first p = A := by
 unfold qJ
 rw [dif_pos ⟨A, h⟩]
 exact (Exists.choose_spec (⟨A, h⟩ : ∃ A, iG ways first p A)).QU h
variable {b : aT} {c : bX → Int} {all : Bool}
theorem Found.Spec.chain {f : Found} (h : f.Spec b c all) (hr : b.cQ) (hc : iw b c) : ∀ (n : Nat) (p : Pl) (w : Way), b8 f.ways p = some w → w.all.toNat ≤ n →
    ∃ A, iG f.ways (bJ b) p A ∧ mR b (bJ b) A.flatten = some p ∧ fF c A.flatten = w.all ∧ A.flatten.length = A.length ∧ (A.length : Int) ≤ w.all := by
  intro n
  induction n with
  | zero =>
    intro p w hw hn
    rcases h.via p w hw with e | ⟨t, w', h1, h2, h3, h4, h5⟩
    · subst e
      rw [h.start] at hw; injection hw with hw; subst hw
      exact ⟨[], .nil, rfl, rfl, rfl, Int.le_refl _⟩
    · obtain ⟨l, hl, hcl⟩ := h.walk _ _ h4
      have := zF hc l hl
      have := hc.at h2
      omega
  | succ n ih =>
    intro p w hw hn
    by_cases e : p = bJ b
    · subst e
      rw [h.start] at hw; injection hw with hw; subst hw
      exact ⟨[], .nil, rfl, rfl, rfl, Int.le_refl _⟩
    rcases h.via p w hw with e' | ⟨t, w', h1, h2, h3, h4, h5⟩
    · exact absurd e' e
    · have := hc.at h2
      obtain ⟨l, hl, hcl⟩ := h.walk _ _ h4
      have := zF hc l hl
      obtain ⟨A, g1, g2, g3, g4, g5⟩ := ih w.frm w' h4 aE
      refine ⟨A ++ [w.byT], .snoc e hw g1, ?_, ?_, ?_, ?_⟩
      · rw [List.flatten_append, h1, h3]; simp only [List.flatten_cons, List.flatten_nil, List.append_nil]; exact zA g2 h2
      · rw [List.flatten_append, h1, e6, g3]; simp only [List.flatten_cons, List.flatten_nil, List.append_nil]; rw [jg]; omega
      · rw [List.flatten_append, h1]; simp [g4]
      · rw [List.length_append]; simp; omega
noncomputable def lU (b : aT) (c : bX → Int) : List (List bX) := qJ (cw b c false).ways (bJ b) (cw b c false).last
noncomputable def Ae (b : aT) (c : bX → Int) : List bX := if (cw b c false).is = true then (lU b c).flatten else []
noncomputable def vM (b : aT) (c : bX → Int) : Int := if (cw b c false).is = true then ((b8 (cw b c false).ways (cw b c false).last).getD jD).all else 0
structure LN (b : aT) (c : bX → Int) : Prop where
  chain : (cw b c false).is = true → iG (cw b c false).ways (bJ b) (cw b c false).last (lU b c)
  len : (cw b c false).is = true → (lU b c).length ≤ 40000000 ∧ (lU b c).flatten.length = (lU b c).length
  yes : (cw b c false).is = true → ∃ q, mR b (bJ b) (Ae b c) = some q ∧ eN b q = true ∧ fF c (Ae b c) = vM b c ∧ ∀ l q, mR b (bJ b) l = some q → eN b q = true → vM b c ≤ fF c l
  no : (cw b c false).is = false → ∀ l q, mR b (bJ b) l = some q → eN b q = false
theorem sn (hr : b.cQ) (hc : iw b c) : LN b c := by
 obtain ⟨h, _⟩ := rJ hr hc false
 have key : (cw b c false).is = true → ∃ w, b8 (cw b c false).ways (cw b c false).last = some w ∧ iG (cw b c false).ways (bJ b) (cw b c false).last (lU b c) ∧ mR b (bJ b) (lU b c).flatten = some (cw b c false).last ∧ fF c (lU b c).flatten = w.all ∧ (lU b c).flatten.length = (lU b c).length ∧ ((lU b c).length : Int) ≤ w.all := fun hi => by
  obtain ⟨_, w, hw, _⟩ := h.yes hi
  obtain ⟨A, g1, g2, g3, g4, g5⟩ := h.chain hr hc _ _ w hw (Nat.le_refl _)
  have e : lU b c = A := oO g1
  rw [e]; exact ⟨w, hw, g1, g2, g3, g4, g5⟩
 refine ⟨fun hi => ?_, fun hi => ?_, fun hi => ?_, fun hi => h.no hi rfl⟩
 ·obtain ⟨w, hw, g1, _⟩ := key hi; exact g1
 ·obtain ⟨w, hw, _, _, _, g4, g5⟩ := key hi
  have h1 := h.cap _ _ hw
  have h2 := n4
  exact ⟨by omega, g4⟩
 obtain ⟨w, hw, _, g2, g3, _, _⟩ := key hi
 obtain ⟨h1, w', hw', h2⟩ := h.yes hi
 rw [hw] at hw'; injection hw' with hw'; subst hw'
 have e1 : Ae b c = (lU b c).flatten := if_pos hi
 have e2 : vM b c = w.all := by unfold vM; rw [if_pos hi, hw]; rfl
 exact ⟨_, by rw [e1]; exact g2, h1, by rw [e1, e2]; exact g3, fun l q hl hq => by rw [e2]; exact h2 l q hl hq⟩
noncomputable def dY (b : aT) (c : bX → Int) : Int := if bH b = 0 then if (cw b c false).is = true then 0 else 7 else bH b
noncomputable def gZ (b : aT) (c : bX → Int) : List bX := if bH b = 0 then Ae b c else []
noncomputable def eA (b : aT) (c : bX → Int) : Int := if bH b = 0 then vM b c else 0
def dh (_ : bX) : Int := 1
def dM (b : aT) (t : bX) : Int := (nth b.aO t.bN.toNat).bh
theorem jy (b : aT) : iw b dh := fun t _ _ => by unfold dh; omega
theorem qF {b : aT} (h : b.cQ) : iw b (dM b) := fun t h1 h2 => h.bh _ (cD aE)
noncomputable def e7 (b : aT) : Int := if bH b = 0 then ((cw b dh true).ways.length : Nat) else 0
end Go.Proofs.YtpnndljmhpepgaaGreat
namespace Go.Proofs.YtpnndljmhpepgaaGreat
open Go Go.T
set_option maxRecDepth 100000
set_option maxHeartbeats 4000000
attribute [local irreducible] mE
attribute [local irreducible] iL fu pJ r9 jY jQ jL jI jT rF jJ q5 dy g6 q2 g7 r8 nth fS dG ay dO bodyPost Exit.then Exit.inBlock Code.wp Code.wpIn fy rS rB rq rL jU r5 fG iT qd cT cX bodyPostM eE
theorem Fe (n : Nat) (h : n ≤ 400000000) : fG Tryz.prog 131 [] [] [Ty.ex (.slice none 0 0), Ty.int .i64 (n : Nat)] [] (Ty.row bq 37 23 []) := by
 refine ej Tryz.func131 ν aB Tryz.ntmps131 aP fun w0 M0 => ?_
 refine aF (aA (fm ν (aD (aC (aF (aF (aA (bA ν (ah ν ν ν (aD (aC (eP ν Hr ?_))))))))))))
 refine aX (aC ?_)
 refine l8 (J := live [(0, Ty.row bq 37 23 [])] []) ?_ ?_
 ·refine aF (aA (bA ν (Kb ν (sU ν ν ν (Kb ν (sN ν ν ν (ga ν ν aE aE (ga ν ν aE aE (bS ν (aD (aC (aF (aA (bA ν (ah ν ν ν (aD (aC ?_)))))))))))))))))
  refine aU ν (fun hc2 => ?_) (fun hc2 => ?_)
  ·refine aA (Kb ν (Kb ν (sU ν ν ν (Aw ν ν ν ν ν (bA ν ?_)))))
   refine BR ν ν ν ν ν ν ν ν aB ν aE (by show _ * 16 ≤ _; omega) aE ?_
   refine Kb ν (sN ν ν ν ?_)
   refine A8 (tg := 23) bq ν ν aB ν ν ν ν ν ?_
   refine iY ν (aD (fB ?_))
   exact bt
  refine aX (fB ?_)
  exact O8
 refine aF (aA (iy ν (iY ν (aD (aC (au (l9 [23] ν ν aB iS ?_)))))))
 all_goals exact e8 (fD aB)
theorem GI (n : Nat) (h : n ≤ 400000000) : fG Tryz.prog 123 [] [] [Ty.ex (.slice none 0 0), Ty.int .i64 (n : Nat)] [] (Ty.row cL 3 23 []) := by
 refine ej Tryz.func123 ν aB Tryz.ntmps123 aP fun w0 M0 => ?_
 refine aF (aA (fm ν (aD (aC (aF (aF (aA (bA ν (ah ν ν ν (aD (aC (eP ν Hr ?_))))))))))))
 refine aX (aC ?_)
 refine l8 (J := live [(0, Ty.row cL 3 23 [])] []) ?_ ?_
 ·refine aF (aA (bA ν (Kb ν (sU ν ν ν (Kb ν (sN ν ν ν (ga ν ν aE aE (ga ν ν aE aE (bS ν (aD (aC (aF (aA (bA ν (ah ν ν ν (aD (aC ?_)))))))))))))))))
  refine aU ν (fun hc2 => ?_) (fun hc2 => ?_)
  ·refine aA (Kb ν (Kb ν (sU ν ν ν (Aw ν ν ν ν ν (bA ν ?_)))))
   refine BR ν ν ν ν ν ν ν ν aB ν aE (by show _ * 8 ≤ _; omega) aE ?_
   refine Kb ν (sN ν ν ν ?_)
   refine A8 (tg := 23) cL ν ν aB ν ν ν ν ν ?_
   refine iY ν (aD (fB ?_))
   exact bt
  refine aX (fB ?_)
  exact O8
 refine aF (aA (iy ν (iY ν (aD (aC (au (l9 [23] ν ν aB iS ?_)))))))
 all_goals exact e8 (fD aB)
theorem CM (l : List (List bX)) (h : l.flatten.length ≤ 400000000) : dO Tryz.prog 108 [Ty.sl eG l] (Ty.sl bq l.flatten) := by
 refine az Tryz.func108 ν aB Tryz.ntmps108 aP fun w0 M0 => ?_
 refine fV (s := 0) ν ν fY fun hl => ?_
 refine aF (aA (fm ν (aD (aC (aF (aA (bS ν (aD (aC (aF (aF (aA (cM ν (bU ν ν ν (bA ν (aD (aC (aV ?_))))))))))))))))))
 refine bf (fun (k : Nat) => live [(0, Ty.sl eG l), (3, Ty.int .i64 (l.take k).flatten.length), (9, Ty.sl eG l), (10, Ty.int .i64 l.length), (11, Ty.int .i64 (k : Nat))] []) (fun k => l.length - k) (0) ?_ fun k => ?_
 ·exact bt
 refine aF (aA (ah ν ν ν (aD (aC (aF ?_)))))
 refine aU ν (fun hc1 => ?_) (fun hc1 => ?_)
 ·refine aX (aC (aF (aV (aF (aA (af ν ν ν ν ν ν aE (aJ ν ν ν ν (iX ν (aD (aC (aF ?_)))))))))))
  have hf1 := gm l (k + 1)
  have hf2 : (l.take (k + 1)).flatten.length = (l.take k).flatten.length + (nth l k).length := by rw [eu aE, List.length_append]
  refine aA (bA ν (cM ν (bU ν ν ν (bY ν ν aE aE (bS ν (aD (aC (aF (aA (bA ν (ah ν ν ν (aD (aC (eP ν Hr ?_))))))))))))))
  refine aX (bE (aC (aA (bY ν ν aE aE (bA ν (aD ?_))))))
  refine bG (k + 1) ?_ aE
  (refine dw.mk' ?_ ?_ <;> (repeat' (first | exact aQ | exact aR | refine aG ?_ (Ty.bC _) | refine aG ?_ (Ty.aM _) | refine aG ?_ ?_)))
  all_goals exact Ty.bO O1
 refine bQ (aI (aI (aS ν (aC (aF (aA (bA ν ?_)))))))
 refine fM [(25, 23)] [25] [] (Fe (l.take k).flatten.length (by have := gm l k; omega)) ν ν n9 pre_nil post_nil (fD gU) ?_
 refine iY ν (aD (aC (aF (aF (aA (cM ν (bU ν ν ν (bA ν (aD (aC (aV ?_)))))))))))
 refine bf (fun (m : Nat) => live [(6, Ty.row bq 37 25 (l.take m).flatten), (25, Ty.sl eG l), (26, Ty.int .i64 l.length), (27, Ty.int .i64 (m : Nat))] []) (fun m => l.length - m) (0) ?_ fun m => ?_
 ·exact bt
 have hm1 := gm l (m + 1)
 refine aF (aA (ah ν ν ν (aD (aC (aF ?_)))))
 refine aU ν (fun hc3 => ?_) (fun hc3 => ?_)
 ·refine aX (aC (aF (aV (aF (aA (af ν ν ν ν ν ν aE (aJ ν ν ν ν (iX ν (aD (aC ?_))))))))))
  have hf2 : (l.take (m + 1)).flatten.length = (l.take m).flatten.length + (nth l m).length := by rw [eu aE, List.length_append]
  refine aA (iy ν (cM ν (cG ν ν aB ν ν ν ν ν ν aB l5 aE (iY ν (aD (bE (aC (aA (bY ν ν aE aE (bA ν (aD ?_)))))))))))
  refine bG (m + 1) ?_ aE
  (refine dw.mk' ?_ ?_ <;> (repeat' (first | exact aQ | exact aR | refine aG ?_ (Ty.bC _) | refine aG ?_ (Ty.aM _) | refine aG ?_ ?_)))
  all_goals exact Ty.cv (eu aE).symm
 refine bQ (aI (aI (aS ν (aC (aF (aA (iy ν (iY ν (aD (aC (au (bg ν ν ?_))))))))))))
 all_goals exact gB aB Jo
theorem CP (l : List (List Int)) (h : l.flatten.length ≤ 400000000) : dO Tryz.prog 85 [Ty.sl cY l] (Ty.sl cL l.flatten) := by
 refine az Tryz.func85 ν aB Tryz.ntmps85 aP fun w0 M0 => ?_
 refine fV (s := 0) ν ν fY fun hl => ?_
 refine aF (aA (fm ν (aD (aC (aF (aA (bS ν (aD (aC (aF (aF (aA (cM ν (bU ν ν ν (bA ν (aD (aC (aV ?_))))))))))))))))))
 refine bf (fun (k : Nat) => live [(0, Ty.sl cY l), (3, Ty.int .i64 (l.take k).flatten.length), (9, Ty.sl cY l), (10, Ty.int .i64 l.length), (11, Ty.int .i64 (k : Nat))] []) (fun k => l.length - k) (0) ?_ fun k => ?_
 ·exact bt
 refine aF (aA (ah ν ν ν (aD (aC (aF ?_)))))
 refine aU ν (fun hc1 => ?_) (fun hc1 => ?_)
 ·refine aX (aC (aF (aV (aF (aA (af ν ν ν ν ν ν aE (aJ ν ν ν ν (iX ν (aD (aC (aF ?_)))))))))))
  have hf1 := gm l (k + 1)
  have hf2 : (l.take (k + 1)).flatten.length = (l.take k).flatten.length + (nth l k).length := by rw [eu aE, List.length_append]
  refine aA (bA ν (cM ν (bU ν ν ν (bY ν ν aE aE (bS ν (aD (aC (aF (aA (bA ν (ah ν ν ν (aD (aC (eP ν Hr ?_))))))))))))))
  refine aX (bE (aC (aA (bY ν ν aE aE (bA ν (aD ?_))))))
  refine bG (k + 1) ?_ aE
  (refine dw.mk' ?_ ?_ <;> (repeat' (first | exact aQ | exact aR | refine aG ?_ (Ty.bC _) | refine aG ?_ (Ty.aM _) | refine aG ?_ ?_)))
  all_goals exact Ty.bO O1
 refine bQ (aI (aI (aS ν (aC (aF (aA (bA ν ?_)))))))
 refine fM [(25, 23)] [25] [] (GI (l.take k).flatten.length (by have := gm l k; omega)) ν ν n9 pre_nil post_nil (fD gU) ?_
 refine iY ν (aD (aC (aF (aF (aA (cM ν (bU ν ν ν (bA ν (aD (aC (aV ?_)))))))))))
 refine bf (fun (m : Nat) => live [(6, Ty.row cL 3 25 (l.take m).flatten), (25, Ty.sl cY l), (26, Ty.int .i64 l.length), (27, Ty.int .i64 (m : Nat))] []) (fun m => l.length - m) (0) ?_ fun m => ?_
 ·exact bt
 have hm1 := gm l (m + 1)
 refine aF (aA (ah ν ν ν (aD (aC (aF ?_)))))
 refine aU ν (fun hc3 => ?_) (fun hc3 => ?_)
 ·refine aX (aC (aF (aV (aF (aA (af ν ν ν ν ν ν aE (aJ ν ν ν ν (iX ν (aD (aC ?_))))))))))
  have hf2 : (l.take (m + 1)).flatten.length = (l.take m).flatten.length + (nth l m).length := by rw [eu aE, List.length_append]
  refine aA (iy ν (cM ν (cG ν ν aB ν ν ν ν ν ν aB l5 aE (iY ν (aD (bE (aC (aA (bY ν ν aE aE (bA ν (aD ?_)))))))))))
  refine bG (m + 1) ?_ aE
  (refine dw.mk' ?_ ?_ <;> (repeat' (first | exact aQ | exact aR | refine aG ?_ (Ty.bC _) | refine aG ?_ (Ty.aM _) | refine aG ?_ ?_)))
  all_goals exact Ty.cv (eu aE).symm
 refine bQ (aI (aI (aS ν (aC (aF (aA (iy ν (iY ν (aD (aC (au (bg ν ν ?_))))))))))))
 all_goals exact gB aB Jo
theorem zc (xs : List (List bX)) (hn : xs.length ≤ 400000000) : fG Tryz.prog 99 [1000] [(1000, Cont.vec eG 29 xs)] [Ty.vs 1000 xs.length] [(1000, Cont.vec eG 29 xs.reverse)] (Ty.iF []) := by
 refine ej Tryz.func99 ν aB Tryz.ntmps99 aP fun w0 M0 => ?_
 refine aF (aA (vZ ν (yj ν ν ν (ga ν ν aE aE (bS ν (bS ν (aD (aC (aV ?_)))))))))
 refine bf (fun (k : {k : Nat // k = 0 ∨ 2 * k ≤ xs.length}) => live [(0, Ty.vs 1000 xs.length), (2, Ty.int .i64 (k.1 : Nat)), (3, Ty.int .i64 ((xs.length : Int) - 1 - k.1))] [(1000, Cont.vec eG 29 (mE xs k.1))]) (fun k => xs.length - k.1) (⟨0, .inl rfl⟩) ?_ fun k => ?_
 ·(refine dw.mk' ?_ ?_ <;> (repeat' (first | exact aQ | exact aR | refine aG ?_ (Ty.bC _) | refine aG ?_ (Ty.aM _) | refine aL rfl ?_ ?_ | refine aG ?_ ?_)))
  all_goals first | exact Ty.bO (show (xs.length : Int) - 1 = (xs.length : Int) - 1 - ((0 : Nat) : Int) by omega) | exact Cont.jB (tY xs).symm
 have hk := k.2
 have hrl := iZ xs k.1
 refine aF (aF (aA (bA ν (bA ν (ah ν ν ν (aD (aC ?_)))))))
 refine aU ν (fun hc1 => ?_) (fun hc1 => ?_)
 ·refine aX (aC (aF (aV ?_)))
  have hlt : (k.1 : Int) < (xs.length : Int) - 1 - k.1 := hc1
  refine cH mixed ν (vZ ν (bA ν (vZ ν (bA ν (vZ ν (bA ν (eZ ν ν ν ν ν aE aE (w6 ν ν ν aB ν ν aE ν (vZ ν (bA ν (dU ν ν ν ν ν aE (w6 ν ν ν aB ν ν aE ν (dU ν ν ν ν ν aE (iV ν ν ν aB ν ν HT ν aE aB ν ν ?_))))))))))))))
  refine eZ ν ν ν ν ν aE aE (iV ν ν ν aB ν ν HT ν bp aB ν ν ?_)
  refine aD ?_
  refine ⟨by kernel_rfl, ?_⟩
  refine bE (aC (aA (bA ν (bY ν ν aE aE (bA ν (ga ν ν aE aE (bS ν (bS ν (aD ?_)))))))))
  refine bG (⟨k.1 + 1, by omega⟩) ?_ MA
  (refine dw.mk' ?_ ?_ <;> (repeat' (first | exact aQ | exact aR | refine aG ?_ (Ty.bC _) | refine aG ?_ (Ty.aM _) | refine aL rfl ?_ ?_ | refine aG ?_ ?_)))
  all_goals first | exact Ty.bO J4 | exact Cont.jB O4
 refine bQ (aI (aI (aS ν (HD (FJ [1000] ν aB ?_)))))
 refine eS ν (dP aB (wI aE)) jt
theorem s6 (xs : List bX) (hn : xs.length ≤ 400000000) : fG Tryz.prog 127 [1000] [(1000, Cont.vec bq 37 xs)] [Ty.vs 1000 xs.length] [(1000, Cont.vec bq 37 xs.reverse)] (Ty.iF []) := by
 refine ej Tryz.func127 ν aB Tryz.ntmps127 aP fun w0 M0 => ?_
 refine aF (aA (vZ ν (yj ν ν ν (ga ν ν aE aE (bS ν (bS ν (aD (aC (aV ?_)))))))))
 refine bf (fun (k : {k : Nat // k = 0 ∨ 2 * k ≤ xs.length}) => live [(0, Ty.vs 1000 xs.length), (2, Ty.int .i64 (k.1 : Nat)), (3, Ty.int .i64 ((xs.length : Int) - 1 - k.1))] [(1000, Cont.vec bq 37 (mE xs k.1))]) (fun k => xs.length - k.1) (⟨0, .inl rfl⟩) ?_ fun k => ?_
 ·(refine dw.mk' ?_ ?_ <;> (repeat' (first | exact aQ | exact aR | refine aG ?_ (Ty.bC _) | refine aG ?_ (Ty.aM _) | refine aL rfl ?_ ?_ | refine aG ?_ ?_)))
  all_goals first | exact Ty.bO (show (xs.length : Int) - 1 = (xs.length : Int) - 1 - ((0 : Nat) : Int) by omega) | exact Cont.jB (tY xs).symm
 have hk := k.2
 have hrl := iZ xs k.1
 refine aF (aF (aA (bA ν (bA ν (ah ν ν ν (aD (aC ?_)))))))
 refine aU ν (fun hc1 => ?_) (fun hc1 => ?_)
 ·refine aX (aC (aF (aV ?_)))
  have hlt : (k.1 : Int) < (xs.length : Int) - 1 - k.1 := hc1
  refine cH mixed ν (vZ ν (bA ν (vZ ν (bA ν (vZ ν (bA ν (eZ ν ν ν ν ν aE aE ?_)))))))
  refine xQ ((xs.length : Int) - 1 - k.1).toNat ν ν ν aB ν ν ν aE ?_
  refine vZ ν (bA ν (dU ν ν ν ν ν aE (xQ k.1 ν ν ν aB ν ν ν aE (dU ν ν ν ν ν aE (vH k.1 ν ν ν aB ν ν ν aE (eZ ν ν ν ν ν aE aE ?_))))))
  refine vH ((xs.length : Int) - 1 - k.1).toNat rfl rfl rfl aB rfl rfl rfl (by rw [List.length_set]; omega) ?_
  refine aD ?_
  refine ⟨by kernel_rfl, ?_⟩
  refine bE (aC (aA (bA ν (bY ν ν aE aE (bA ν (ga ν ν aE aE (bS ν (bS ν (aD ?_)))))))))
  refine bG (⟨k.1 + 1, by omega⟩) ?_ MA
  (refine dw.mk' ?_ ?_ <;> (repeat' (first | exact aQ | exact aR | refine aG ?_ (Ty.bC _) | refine aG ?_ (Ty.aM _) | refine aL rfl ?_ ?_ | refine aG ?_ ?_)))
  all_goals first | exact Ty.bO J4 | exact Cont.jB O4
 refine bQ (aI (aI (aS ν (HD (FJ [1000] ν aB ?_)))))
 refine eS ν (dP aB (wI aE)) jt
theorem L0 (f : Found) (first : Pl) (L : List (List bX)) (hL : iG f.ways first f.last L) (hlen : L.length ≤ 40000000) : dO Tryz.prog 47 [CT f, Ty.agg (j6 first)] (Ty.sl eG L) := by
 refine az Tryz.func47 ν aB Tryz.ntmps47 aP fun w0 M0 => ?_
 refine aF (aA (bF ν (bF ν (fm ν (aD (aC (aF (aA (fm ν (aD (aC (aF (aF (aA (aN ν ν ν ν ν aB (aY ν ν ν aP (bZ ν bW ν ?_)))))))))))))))))
 refine bK ν ν aB ν ν ν ν ν ν (aD (aC (aV ?_)))
 refine bf (fun (x : {x : Pl × List (List bX) × List (List bX) // iG f.ways first x.1 x.2.1 ∧ L = x.2.1 ++ x.2.2.reverse}) => live [(2, Ty.pp (rI f)), (3, Ty.pp (j6 first)), (5, Ty.row eG 29 25 x.1.2.2), (6, Ty.ptr 7 0)] [(7, Cont.cells 91 (j6 x.1.1))]) (fun x => x.1.2.1.length) (⟨(f.last, L, []), hL, by simp⟩) ?_ fun x => ?_
 ·exact BD
 have hxl : x.1.2.2.length ≤ L.length := by rw [congrArg List.length x.2.2, List.length_append, List.length_reverse]; omega
 refine aF (aF (aA (aW ν ν aB ν ν aP (aY ν ν ν aP (ug (O5 x.1.1 first) ν ν (aD (aC ?_)))))))
 refine bw ν (fun hc1 => ?_) (fun hc1 => ?_)
 ·refine aX (aC (aF (aV (aA (iy ν (aN ν ν ν ν ν aB (aJ ν ν ν ν (aW ν ν aB ν ν aP ?_))))))))
  refine pT mD (k := x.1.1) (z0 := jD) ν ν (jo x.1.1) gX oJ lY ?_
  refine sG ν ν ν ν ν ν ν ?_
  refine bD (E := eG) (xs := [((b8 f.ways x.1.1).getD jD).byT]) ν ν ν ν ν aB aB oD bn ν ?_
  refine cG ν ν aB ν ν ν ν ν ν aB bp bp (iY ν (aD (bE (aC (aF (aF (aA (aW ν ν aB ν ν aP (aD (aC (aA (bZ ν bW ν ?_))))))))))))
  refine bK ν ν aB ν ν ν ν ν ν (aD (aC (aA (aN ν ν ν ν ν aB (aJ ν ν ν ν (aW ν ν aB ν ν aP ?_))))))
  refine pT mD (k := x.1.1) (z0 := jD) ν ν (jo x.1.1) gX oJ lY ?_
  refine Be ν ν ν ν ν ν (bK ν ν aB ν ν ν ν ν ν (aD ?_))
  refine bG (⟨(((b8 f.ways x.1.1).getD jD).frm, x.1.2.1.dropLast, x.1.2.2 ++ [((b8 f.ways x.1.1).getD jD).byT]), (x.2.1.step hc1).1, by have h1 := x.2.2; rw [(x.2.1.step hc1).2] at h1; exact h1.trans bB⟩) ?_ Om
  exact dK
 refine bQ (aI (aI (aS ν (aC (aF ?_)))))
 have hx0 : x.1.2.1 = [] := by
  have h := x.2.1
  have e : x.1.1 = first := hc1
  rw [e] at h; exact h.yW
 have hL2 : L = x.1.2.2.reverse := by
  have h := x.2.2
  rw [hx0] at h; exact h
 refine zq (s := 5) ν ν ?_
 refine aA (vZ ν ?_)
 refine fM [(25, 1000)] [] [(25, Cont.vec eG 29 x.1.2.2.reverse)] (zc x.1.2.2 aE) ν ν LC (lf (a := 25) (b := 1000) gU ν (dP gU ν) pre_nil) (gj (a := 25) (b := 1000) gU ν (dP gU ν) post_nil) (iC ν ν) ?_
 refine aD (aC (aF ?_))
 refine jA (tg := 25) [(5, Ty.sl eG x.1.2.2.reverse)] aB rfl ⟨l6 rfl rfl E8 aB, trivial⟩ ?_
 refine aA (cM ν (iX ν (aD (aC (au (bg ν ν ?_))))))
 all_goals exact av rfl rfl (congrArg (Ty.sl eG) hL2.symm)
end Go.Proofs.YtpnndljmhpepgaaGreat
namespace Go.Proofs.YtpnndljmhpepgaaGreat
open Go Go.T
set_option maxRecDepth 100000
set_option maxHeartbeats 16000000
theorem Fv (w : List (Pl × Way)) : CT ⟨w, Jm, false⟩ = Ty.agg [Ty.pm (fI 6) iU w, Ty.int .i64 0, Ty.int .i64 0, Ty.int .i64 0, Ty.int .i64 0, Ty.int .i64 0, Ty.int .i64 0, Ty.bool false] := rfl
attribute [local irreducible] iL fu pJ r9 jY jQ jL jI jT rF jJ q5 dy g6 q2 g7 r8 nth fS dG ay dO bodyPost Exit.then Exit.inBlock Code.wp Code.wpIn fy rS rB rq rL jU r5 fG iT qd cT cX bodyPostM eE
theorem DK (b : aT) (hr : b.cQ) (c : bX → Int) (hc : iw b c) (ct : Ty) (h1 : ct.one = true) (hd : ct.deps = []) (hcd : ct.cdeps = []) (hf : ∀ t : bX, 0 ≤ t.bN → t.bN < b.aO.length → Cg Tryz.prog ct [Ty.agg (bq.tys t)] (Ty.int .i64 (c t))) (all : Bool) : dO Tryz.prog 83 [Ty.pe dI ⟨b, bJ b⟩ 0, Ty.agg [Ty.nd ct hd hcd], Ty.bool all] (CT (cw b c all)) := by
 refine AM Tryz.func83 ν aB Tryz.ntmps83 aP fun w0 M0 => ?_
 have h6 := hr.aO
 have hN := n4
 refine aF (aA (bF ν (bZ ν bW ν (aD (aC (Mv (aF (aA (sQ (fI 6) iU gX ν (nN ν (cW ν (cr ν ν ν ν ν aB (eV ν ν ν ν ν (cC ν ν bW ν kf bn ?_))))))))))))))
 refine vU (qb mD (k := bJ b) (v := jD) ν ν aB ν (jo (bJ b)) ν yp gX ?_)
 refine QV ν (cC ν ν bW ν QB bn ?_)
 refine bZ ν bW ν (bK ν ν aB ν ν ν ν ν ν (aD (aC (aF ?_))))
 refine cK (B := live [(0, Ty.pe dI ⟨b, bJ b⟩ 0), (2, Ty.bool all), (4, Ty.pp [Ty.nd ct hd hcd]), (6, Ty.ptr 7 0), (7, Ty.ptr 8 0)] [(7, Cont.cells 98 [Ty.ex (.map none), Ty.int .i64 0, Ty.int .i64 0, Ty.int .i64 0, Ty.int .i64 0, Ty.int .i64 0, Ty.int .i64 0, Ty.bool false]), (8, Cont.cells 98 [Ty.mp 19, Ty.int .i64 0, Ty.int .i64 0, Ty.int .i64 0, Ty.int .i64 0, Ty.int .i64 0, Ty.int .i64 0, Ty.bool false]), (19, Cont.mp (fI 6) iU (uh b).ways)]) ?_ ?_
 ·exact dK
 refine aA (GX (Value.int .i64) oC 91 4096 mG ν (nN ν (cW ν (cr ν ν ν ν ν aB (eV ν ν ν ν ν ?_)))))
 refine dx (E := oC) (xs := [bJ b]) ν ν ν ν ν aB aB mH bn ν ν ?_
 refine vU (Ie xT (k := 0) ν ν aB ν oo ν mG aB aB ν ν ?_)
 refine QV ν (bZ ν bW ν ?_)
 refine dH ν ν aB ν ν (by exact (ν : _ = Ty.mp _)) ν aP ν ν jF ?_
 refine aD (aC (aF ?_))
 refine cK (B := live [(0, Ty.pe dI ⟨b, bJ b⟩ 0), (2, Ty.bool all), (4, Ty.pp [Ty.nd ct hd hcd]), (6, Ty.ptr 7 0), (7, Ty.ptr 8 0), (8, Ty.ptr 9 0)] [(7, Cont.cells 98 [Ty.ex (.map none), Ty.int .i64 0, Ty.int .i64 0, Ty.int .i64 0, Ty.int .i64 0, Ty.int .i64 0, Ty.int .i64 0, Ty.bool false]), (8, Cont.cells 98 [Ty.mp 19, Ty.int .i64 0, Ty.int .i64 0, Ty.int .i64 0, Ty.int .i64 0, Ty.int .i64 0, Ty.int .i64 0, Ty.bool false]), (9, Cont.cells 156 [Ty.mp 27]), (19, Cont.mp (fI 6) iU (uh b).ways), (27, Cont.mr (Value.int .i64) oC 91 4096 (uh b).queue)]) ?_ ?_
 ·exact dK
 refine aA (sQ (fI 6) pL Bt ν (R8 ν (aD (aC (aF (NK (aC (aF (aF ?_)))))))))
 refine cK (B := live [(0, Ty.pe dI ⟨b, bJ b⟩ 0), (2, Ty.bool all), (4, Ty.pp [Ty.nd ct hd hcd]), (6, Ty.ptr 7 0), (7, Ty.ptr 8 0), (8, Ty.ptr 9 0), (9, Ty.mp 34)] [(7, Cont.cells 98 [Ty.ex (.map none), Ty.int .i64 0, Ty.int .i64 0, Ty.int .i64 0, Ty.int .i64 0, Ty.int .i64 0, Ty.int .i64 0, Ty.bool false]), (8, Cont.cells 98 [Ty.mp 19, Ty.int .i64 0, Ty.int .i64 0, Ty.int .i64 0, Ty.int .i64 0, Ty.int .i64 0, Ty.int .i64 0, Ty.bool false]), (9, Cont.cells 156 [Ty.mp 27]), (19, Cont.mp (fI 6) iU (uh b).ways), (27, Cont.mr (Value.int .i64) oC 91 4096 (uh b).queue), (34, Cont.mp (fI 6) pL (uh b).done)]) ?_ ?_
 ·exact dK
 refine aA (bZ ν bW ν (bZ ν bW ν (dH ν ν aB ν ν gR ν aP ν ν jF ?_)))
 refine dH ν ν aB ν ν gR ν aP ν ν jF ?_
 refine aD (aC (aV ?_))
 refine bf (fun (x : {x : St // Inv b c all (bP b) 0 x ∧ ql b c all x}) => live [(0, Ty.pe dI ⟨b, bJ b⟩ 0), (2, Ty.bool all), (4, Ty.pp [Ty.nd ct hd hcd]), (6, Ty.ptr 7 0), (7, Ty.ptr 8 0), (8, Ty.ptr 9 0), (9, Ty.mp 34), (10, Ty.ptr 11 0), (11, Ty.ptr 12 0)] [(7, Cont.cells 98 [Ty.ex (.map none), Ty.int .i64 0, Ty.int .i64 0, Ty.int .i64 0, Ty.int .i64 0, Ty.int .i64 0, Ty.int .i64 0, Ty.bool false]), (8, Cont.cells 98 [Ty.mp 19, Ty.int .i64 0, Ty.int .i64 0, Ty.int .i64 0, Ty.int .i64 0, Ty.int .i64 0, Ty.int .i64 0, Ty.bool false]), (9, Cont.cells 156 [Ty.mp 27]), (11, Cont.cells 3 [Ty.int .i64 x.1.now]), (12, Cont.cells 3 [Ty.int .i64 x.1.left]), (19, Cont.mp (fI 6) iU x.1.ways), (27, Cont.mr (Value.int .i64) oC 91 4096 x.1.queue), (34, Cont.mp (fI 6) pL x.1.done)]) (fun x => yG x.1) (⟨uh b, Qw b c all, Qy⟩) ?_ fun x => ?_
 ·exact dK
 refine aF (aF (aA (aq ν ν aB ν ν ν (ah ν ν ν (aD (aC ?_))))))
 refine aU ν (fun hc1 => ?_) (fun hc1 => ?_)
 ·refine aX (aC (aF (aV (aF (aV ?_)))))
  refine bf (fun (y : {y : St // E3 b c all x.1 y}) => live [(0, Ty.pe dI ⟨b, bJ b⟩ 0), (2, Ty.bool all), (4, Ty.pp [Ty.nd ct hd hcd]), (6, Ty.ptr 7 0), (7, Ty.ptr 8 0), (8, Ty.ptr 9 0), (9, Ty.mp 34), (10, Ty.ptr 11 0), (11, Ty.ptr 12 0)] [(7, Cont.cells 98 [Ty.ex (.map none), Ty.int .i64 0, Ty.int .i64 0, Ty.int .i64 0, Ty.int .i64 0, Ty.int .i64 0, Ty.int .i64 0, Ty.bool false]), (8, Cont.cells 98 [Ty.mp 19, Ty.int .i64 0, Ty.int .i64 0, Ty.int .i64 0, Ty.int .i64 0, Ty.int .i64 0, Ty.int .i64 0, Ty.bool false]), (9, Cont.cells 156 [Ty.mp 27]), (11, Cont.cells 3 [Ty.int .i64 y.1.now]), (12, Cont.cells 3 [Ty.int .i64 y.1.left]), (19, Cont.mp (fI 6) iU y.1.ways), (27, Cont.mr (Value.int .i64) oC 91 4096 y.1.queue), (34, Cont.mp (fI 6) pL y.1.done)]) (fun y => yG y.1) (⟨x.1, IL x.2.1 x.2.2 hc1⟩) ?_ fun y => ?_
  ·exact dK
  refine aF (aF (aA (aq ν ν aB ν ν ν (aq ν ν aB ν ν ν ?_))))
  refine sR xT (k := y.1.now) ν ν aB ν oo mG xk ?_
  refine Px ν ν ν (ah ν ν ν (aD (aC ?_)))
  refine aU ν (fun hc2 => ?_) (fun hc2 => ?_)
  ·refine aX (aC (aV (aF ?_)))
   have hlen : 0 < (rowAt y.1.queue y.1.now).length := Int.natCast_pos.1 hc2
   have hlen' : 0 < ((b8 y.1.queue y.1.now).getD []).length := hlen
   refine aA (aq ν ν aB ν ν ν (aq ν ν aB ν ν ν ?_))
   refine sR xT (k := y.1.now) ν ν aB ν oo mG xk ?_
   refine ML (i := 0) ν ν ν ν ν ν hlen' ?_
   refine tq ν ν ν aP (bZ ν bW ν (bK ν ν aB ν ν ν ν ν ν (aD (aC (aF ?_)))))
   refine cK (B := live [(0, Ty.pe dI ⟨b, bJ b⟩ 0), (2, Ty.bool all), (4, Ty.pp [Ty.nd ct hd hcd]), (6, Ty.ptr 7 0), (7, Ty.ptr 8 0), (8, Ty.ptr 9 0), (9, Ty.mp 34), (10, Ty.ptr 11 0), (11, Ty.ptr 12 0), (12, Ty.ptr 13 0)] [(7, Cont.cells 98 [Ty.ex (.map none), Ty.int .i64 0, Ty.int .i64 0, Ty.int .i64 0, Ty.int .i64 0, Ty.int .i64 0, Ty.int .i64 0, Ty.bool false]), (8, Cont.cells 98 [Ty.mp 19, Ty.int .i64 0, Ty.int .i64 0, Ty.int .i64 0, Ty.int .i64 0, Ty.int .i64 0, Ty.int .i64 0, Ty.bool false]), (9, Cont.cells 156 [Ty.mp 27]), (11, Cont.cells 3 [Ty.int .i64 y.1.now]), (12, Cont.cells 3 [Ty.int .i64 y.1.left]), (13, Cont.cells 91 (j6 (cE y.1))), (19, Cont.mp (fI 6) iU y.1.ways), (27, Cont.mr (Value.int .i64) oC 91 4096 y.1.queue), (34, Cont.mp (fI 6) pL y.1.done)]) ?_ ?_
   ·exact dK
   refine cH mixed ν (aq ν ν aB ν ν ν (aq ν ν aB ν ν ν (aq ν ν aB ν ν ν (aq ν ν aB ν ν ν ?_))))
   refine sR xT (k := y.1.now) ν ν aB ν oo mG xk ?_
   refine Pn (lo := 1) ν ν ν ν ν ν hlen' hlen' ?_
   refine AI xT (k := y.1.now) ν ν aB ν oo ν mG ν ?_
   refine aD ?_
   refine ⟨by kernel_rfl, ?_⟩
   refine aC (aF (aF ?_))
   have hpos := y.2.pos hlen
   have hle := y.2.inv.Bz hr
   have hnow := y.2.inv.KL hr hpos
   have hnow0 := y.2.inv.now0
   refine aA (aq ν ν aB ν ν ν (ga ν ν aE aE (dH ν ν aB ν ν gR ν aP ν ν jF ?_)))
   refine aD (aC (aF (aA (QV ν (aW ν ν aB ν ν aP ?_)))))
   refine Lx mD (k := cE y.1) (z0 := false) ν ν aB ν (jo (cE y.1)) Bt Ql zV ?_
   refine aD (aC ?_)
   refine cI ν (fun hc3 => ?_) (fun hc3 => ?_)
   ·refine bQ (aI (aS ν ?_))
    refine bG (⟨AD y.1, y.2.old hlen hc3⟩) ?_ (by exact FX y.2.inv (nR hlen))
    (refine dw.mk' ?_ ?_ <;> (repeat' (first | exact aQ | exact aR | refine aG ?_ (Ty.bC _) | refine aG ?_ (Ty.aM _) | refine aL rfl (Cont.aM _) ?_)))
    all_goals exact Cont.nU (tT (fj y.1) _).symm
   refine aX (aC (aF ?_))
   refine cK (B := live [(0, Ty.pe dI ⟨b, bJ b⟩ 0), (2, Ty.bool all), (4, Ty.pp [Ty.nd ct hd hcd]), (6, Ty.ptr 7 0), (7, Ty.ptr 8 0), (8, Ty.ptr 9 0), (9, Ty.mp 34), (10, Ty.ptr 11 0), (11, Ty.ptr 12 0), (12, Ty.ptr 13 0)] [(7, Cont.cells 98 [Ty.ex (.map none), Ty.int .i64 0, Ty.int .i64 0, Ty.int .i64 0, Ty.int .i64 0, Ty.int .i64 0, Ty.int .i64 0, Ty.bool false]), (8, Cont.cells 98 [Ty.mp 19, Ty.int .i64 0, Ty.int .i64 0, Ty.int .i64 0, Ty.int .i64 0, Ty.int .i64 0, Ty.int .i64 0, Ty.bool false]), (9, Cont.cells 156 [Ty.mp 27]), (11, Cont.cells 3 [Ty.int .i64 y.1.now]), (12, Cont.cells 3 [Ty.int .i64 (AD y.1).left]), (13, Cont.cells 91 (j6 (cE y.1))), (19, Cont.mp (fI 6) iU y.1.ways), (27, Cont.mr (Value.int .i64) oC 91 4096 (AD y.1).queue), (34, Cont.mp (fI 6) pL y.1.done)]) ?_ ?_
   ·exact dK
   refine aA (QV ν (aW ν ν aB ν ν aP ?_))
   refine oq mD (k := cE y.1) (v := true) ν ν aB ν (jo (cE y.1)) ν ν Bt ?_
   refine aD (aC (aF (aF (aA (dm ν (dW ν (dm ν ?_)))))))
   refine bT 63 ν (fun hg => aH (nN ν (aD ν))) ?_
   refine bT 63 ν (fun hg => aH (aW ν ν aB ν ν aP (aD ν))) ?_
   refine bT 63 ν (fun hg => cJ 64 hg ν (cJ 65 hg ν (aH (aa (Bq ⟨b, bJ b⟩ h6 (cE y.1)) ν ν ν ν ν (aD ν))))) ?_
   refine dA ν ν (aD (aC ?_))
   refine cI ν (fun hc4 => ?_) (fun hc4 => ?_)
   ·refine aF (aA (aW ν ν aB ν ν aP (ak ν ν ν ν ν aB (y8 ν ν aB ν ν ν aP ν ν ν ν (ak ν ν ν ν ν aB (dH ν ν aB ν ν Lp ν aP ν ν bn ?_))))))
    refine aD (aC (bQ (aI (ep ν (aI (ep ν (aI (ep ν (aI (aI (aS ν (aC (aF ?_)))))))))))))
    (refine j8 (tg := 19) [] [(8, Cont.cells 98 [Ty.pm (fI 6) iU y.1.ways, Ty.int .i64 (nth (cE y.1).1 0), Ty.int .i64 (nth (cE y.1).1 1), Ty.int .i64 (nth (cE y.1).1 2), Ty.int .i64 (nth (cE y.1).1 3), Ty.int .i64 (nth (cE y.1).1 4), Ty.int .i64 (nth (cE y.1).1 5), Ty.bool true])] aB rfl trivial ⟨eW rfl rfl ⟨uL rfl aB, cF rfl, cF rfl, cF rfl, cF rfl, cF rfl, cF rfl, cF rfl, trivial⟩, trivial⟩ ?_; refine cK (B := live [(6, Ty.ptr 7 0), (7, Ty.ptr 8 0)] [(7, Cont.cells 98 [Ty.ex (.map none), Ty.int .i64 0, Ty.int .i64 0, Ty.int .i64 0, Ty.int .i64 0, Ty.int .i64 0, Ty.int .i64 0, Ty.bool false]), (8, Cont.cells 98 [Ty.pm (fI 6) iU y.1.ways, Ty.int .i64 (nth (cE y.1).1 0), Ty.int .i64 (nth (cE y.1).1 1), Ty.int .i64 (nth (cE y.1).1 2), Ty.int .i64 (nth (cE y.1).1 3), Ty.int .i64 (nth (cE y.1).1 4), Ty.int .i64 (nth (cE y.1).1 5), Ty.bool true])]) ?_ ?_)
    ·exact dK
    refine aA (aW ν ν aB ν ν aP (bK ν ν aB ν ν ν ν ν ν (aD (aC (au (wo (xD ν (sH ν ν ν ν aB ν ν ν ?_))))))))
    exact av rfl rfl (by rw [y.2.found hlen hc3 hc4]; rfl)
   refine aX (aC (aF ?_))
   have hmk := y.2.mark hlen hc3 hc4
   refine aA (nN ν (aW ν ν aB ν ν aP (aa (Fi _ _) ν ν ν ν ν (aD (aC (aV ?_))))))
   refine ry (ps := [74]) (lk [(0, Ty.pe dI ⟨b, bJ b⟩ 0), (2, Ty.bool all), (4, Ty.pp [Ty.nd ct hd hcd]), (6, Ty.ptr 7 0), (7, Ty.ptr 8 0), (8, Ty.ptr 9 0), (9, Ty.mp 34), (10, Ty.ptr 11 0), (11, Ty.ptr 12 0), (12, Ty.ptr 13 0)]) (fun k => [(7, Cont.cells 98 [Ty.ex (.map none), Ty.int .i64 0, Ty.int .i64 0, Ty.int .i64 0, Ty.int .i64 0, Ty.int .i64 0, Ty.int .i64 0, Ty.bool false]), (8, Cont.cells 98 [Ty.mp 19, Ty.int .i64 0, Ty.int .i64 0, Ty.int .i64 0, Ty.int .i64 0, Ty.int .i64 0, Ty.int .i64 0, Ty.bool false]), (9, Cont.cells 156 [Ty.mp 27]), (11, Cont.cells 3 [Ty.int .i64 y.1.now]), (12, Cont.cells 3 [Ty.int .i64 (cx b c (cE y.1) (fj y.1) k).left]), (13, Cont.cells 91 (j6 (cE y.1))), (19, Cont.mp (fI 6) iU (cx b c (cE y.1) (fj y.1) k).ways), (27, Cont.mr (Value.int .i64) oC 91 4096 (cx b c (cE y.1) (fj y.1) k).queue), (34, Cont.mp (fI 6) pL (fj y.1).done)]) false [] [7, 8, 9, 11, 12, 13, 34] ν ν (C6 ⟨b, bJ b⟩ (iI hr) h6 (cE y.1)) ν ν aB MQ ν ν (fun _ => ν) ν ?_ ?_ ?_ (by intro h; cases h)
   ·exact dK
   ·intro k tys hk
    obtain ⟨hk1, rfl⟩ := Ck hk
    have hk1 : k < (bP b (cE y.1)).length := hk1
    have hk2 := th hr (cE y.1)
    have htm : nth (bP b (cE y.1)) k ∈ bP b (cE y.1) := cD hk1
    have htl := gQ.1 htm
    have htc := hc.at htm
    have hfk := (zN hc hmk.1 hmk.2 k aE).1
    have hfl := hfk.Bz hr
    have hf0 : 0 ≤ (cx b c (cE y.1) (fj y.1) k).left := by rw [hfk.left]; exact sD _
    have hrow := hfk.P1 hr (y.1.now + c (nth (bP b (cE y.1)) k))
    have hrow' : (((b8 (cx b c (cE y.1) (fj y.1) k).queue (y.1.now + c (nth (bP b (cE y.1)) k))).getD []).length : Int) + (42 - k) ≤ 1 + 42 * dZ := hrow
    have hfn : (cx b c (cE y.1) (fj y.1) k).now = y.1.now := sS _ _
    refine ⟨live [(0, Ty.pe dI ⟨b, bJ b⟩ 0), (2, Ty.bool all), (4, Ty.pp [Ty.nd ct hd hcd]), (6, Ty.ptr 7 0), (7, Ty.ptr 8 0), (8, Ty.ptr 9 0), (9, Ty.mp 34), (10, Ty.ptr 11 0), (11, Ty.ptr 12 0), (12, Ty.ptr 13 0), (13, Ty.ptr 14 0)] [(7, Cont.cells 98 [Ty.ex (.map none), Ty.int .i64 0, Ty.int .i64 0, Ty.int .i64 0, Ty.int .i64 0, Ty.int .i64 0, Ty.int .i64 0, Ty.bool false]), (8, Cont.cells 98 [Ty.mp 19, Ty.int .i64 0, Ty.int .i64 0, Ty.int .i64 0, Ty.int .i64 0, Ty.int .i64 0, Ty.int .i64 0, Ty.bool false]), (9, Cont.cells 156 [Ty.mp 27]), (11, Cont.cells 3 [Ty.int .i64 y.1.now]), (12, Cont.cells 3 [Ty.int .i64 (cx b c (cE y.1) (fj y.1) k).left]), (13, Cont.cells 91 (j6 (cE y.1))), (19, Cont.mp (fI 6) iU (cx b c (cE y.1) (fj y.1) k).ways), (27, Cont.mr (Value.int .i64) oC 91 4096 (cx b c (cE y.1) (fj y.1) k).queue), (34, Cont.mp (fI 6) pL (fj y.1).done), (14, Cont.cells 37 (bq.tys (nth (bP b (cE y.1)) k)))], fun l w M => ?_, fun l w M => ?_⟩
    ·refine aA (bZ ν bW ν (bK ν ν aB ν ν ν ν ν ν (aD (fB ?_))))
     exact dK
    refine aV (aF (aA (aW ν ν aB ν ν aP (bZ ν bW ν (bK ν ν aB ν ν ν ν ν ν (aD (aC (aF (aA (ak ν ν ν ν ν aB (aq ν ν aB ν ν ν (ak ν ν ν ν ν aB (aq ν ν aB ν ν ν ?_)))))))))))))
    refine mK (n := 6) ν ν ν ν ν htl.1 aE ?_
    refine dH (l' := j6 (cm (cE y.1) (nth (bP b (cE y.1)) k))) ν ν aB ν ν gR ν CV ν ν (vK _ _ aE) ?_
    refine aD (aC (aF ?_))
    refine cK (B := live [(0, Ty.pe dI ⟨b, bJ b⟩ 0), (2, Ty.bool all), (4, Ty.pp [Ty.nd ct hd hcd]), (6, Ty.ptr 7 0), (7, Ty.ptr 8 0), (8, Ty.ptr 9 0), (9, Ty.mp 34), (10, Ty.ptr 11 0), (11, Ty.ptr 12 0), (12, Ty.ptr 13 0), (13, Ty.ptr 14 0), (14, Ty.ptr 15 0)] [(7, Cont.cells 98 [Ty.ex (.map none), Ty.int .i64 0, Ty.int .i64 0, Ty.int .i64 0, Ty.int .i64 0, Ty.int .i64 0, Ty.int .i64 0, Ty.bool false]), (8, Cont.cells 98 [Ty.mp 19, Ty.int .i64 0, Ty.int .i64 0, Ty.int .i64 0, Ty.int .i64 0, Ty.int .i64 0, Ty.int .i64 0, Ty.bool false]), (9, Cont.cells 156 [Ty.mp 27]), (11, Cont.cells 3 [Ty.int .i64 y.1.now]), (13, Cont.cells 91 (j6 (cE y.1))), (34, Cont.mp (fI 6) pL (fj y.1).done), (12, Cont.cells 3 [Ty.int .i64 (cx b c (cE y.1) (fj y.1) k).left]), (14, Cont.cells 37 (bq.tys (nth (bP b (cE y.1)) k))), (15, Cont.cells 91 (j6 (cm (cE y.1) (nth (bP b (cE y.1)) k)))), (19, Cont.mp (fI 6) iU (cx b c (cE y.1) (fj y.1) k).ways), (27, Cont.mr (Value.int .i64) oC 91 4096 (cx b c (cE y.1) (fj y.1) k).queue)]) ?_ ?_
    ·exact dK
    refine cH mixed ν (aq ν ν aB ν ν ν (aN ν ν ν ν ν aB (aJ ν ν ν ν (aW ν ν aB ν ν aP (oc ν (PX hd hcd (hf (nth (bP b (cE y.1)) k) htl.1 htl.2.1)) ν (bY ν ν aE aE (bS ν (aD ?_))))))))
    refine ⟨by kernel_rfl, ?_⟩
    refine aC (aF (aF (aA (ak ν ν ν ν ν aB (aq ν ν aB ν ν ν (aW ν ν aB ν ν aP ?_))))))
    refine v9 mD (k := cm (cE y.1) (nth (bP b (cE y.1)) k)) (z0 := jD) ν ν aB ν (jo _) gX oJ lY ?_
    refine ke ν (aj ν ν (aj ν ν (bZ ν bW ν (bK ν ν aB ν ν ν ν ν ν (dN ν (aD (aC (aF ?_))))))))
    refine cK (B := live [(0, Ty.pe dI ⟨b, bJ b⟩ 0), (2, Ty.bool all), (4, Ty.pp [Ty.nd ct hd hcd]), (6, Ty.ptr 7 0), (7, Ty.ptr 8 0), (8, Ty.ptr 9 0), (9, Ty.mp 34), (10, Ty.ptr 11 0), (11, Ty.ptr 12 0), (12, Ty.ptr 13 0), (13, Ty.ptr 14 0), (14, Ty.ptr 15 0), (15, Ty.int .i64 (y.1.now + c (nth (bP b (cE y.1)) k))), (16, Ty.ptr 17 0), (17, Ty.bool (b8 (cx b c (cE y.1) (fj y.1) k).ways (cm (cE y.1) (nth (bP b (cE y.1)) k))).isSome)] [(7, Cont.cells 98 [Ty.ex (.map none), Ty.int .i64 0, Ty.int .i64 0, Ty.int .i64 0, Ty.int .i64 0, Ty.int .i64 0, Ty.int .i64 0, Ty.bool false]), (8, Cont.cells 98 [Ty.mp 19, Ty.int .i64 0, Ty.int .i64 0, Ty.int .i64 0, Ty.int .i64 0, Ty.int .i64 0, Ty.int .i64 0, Ty.bool false]), (9, Cont.cells 156 [Ty.mp 27]), (11, Cont.cells 3 [Ty.int .i64 y.1.now]), (13, Cont.cells 91 (j6 (cE y.1))), (34, Cont.mp (fI 6) pL (fj y.1).done), (12, Cont.cells 3 [Ty.int .i64 (cx b c (cE y.1) (fj y.1) k).left]), (14, Cont.cells 37 (bq.tys (nth (bP b (cE y.1)) k))), (15, Cont.cells 91 (j6 (cm (cE y.1) (nth (bP b (cE y.1)) k)))), (17, Cont.cells 95 (QZ ((b8 (cx b c (cE y.1) (fj y.1) k).ways (cm (cE y.1) (nth (bP b (cE y.1)) k))).getD jD))), (19, Cont.mp (fI 6) iU (cx b c (cE y.1) (fj y.1) k).ways), (27, Cont.mr (Value.int .i64) oC 91 4096 (cx b c (cE y.1) (fj y.1) k).queue)]) ?_ ?_
    ·exact dK
    refine cH mixed ν (dm ν (dm ν ?_))
    refine bT 95 ν (fun hg => aH (bA ν (aD ν))) ?_
    refine bT 95 ν (fun hg => aH (ak ν ν ν ν ν aB (aD ν))) ?_
    refine bT 95 ν (fun hg => cJ 97 hg ν (aH (aq ν ν aB ν ν ν (aD ν)))) ?_
    refine bT 95 ν (by intro hg; apply bV (s := 98) ν dF; apply aH; (refine bD (E := cL) (xs := [_]) ν ν ν ν ν aB aB dn bn ν ?_); refine aD ?_; exact ν) ?_
    refine bT 95 ν (fun hg => cJ 96 hg ν (cJ 99 hg ν (aH (aa (Mk _ _) ν ν ν ν ν (aD ν))))) ?_
    refine bT 95 ν (fun hg => aH (ak ν ν ν ν ν aB (aD ν))) ?_
    refine bT 95 ν (fun hg => cJ 101 hg ν (aH (aq ν ν aB ν ν ν (aD ν)))) ?_
    refine bT 95 ν (fun hg => cJ 100 hg ν (cJ 102 hg ν (aH (ah ν ν ν (aD ν))))) ?_
    refine dA ν ν (aD ?_)
    refine ⟨by kernel_rfl, ?_⟩
    refine aC ?_
    refine cI ν (fun hc5 => ?_) (fun hc5 => ?_)
    ·refine bQ (aI (aS ν (p4 ?_)))
     (refine dw.mk' ?_ ?_ <;> (repeat' (first | exact aQ | exact aR | exact eC | refine aG ?_ (Ty.bC _) | refine aL rfl (Cont.aM _) ?_ | refine aL rfl (Cont.eD ?_) ?_ | refine dD ?_ ?_ | refine aL rfl ?_ ?_)))
     all_goals first | exact Ty.bO (congrArg St.left (GG hk1 hfn hc5)) | exact Cont.nU (congrArg St.ways (GG hk1 hfn hc5)) | exact Cont.FD (congrArg St.queue (GG hk1 hfn hc5))
    refine aX (aC (aF (aA (ak ν ν ν ν ν aB (aq ν ν aB ν ν ν (aW ν ν aB ν ν aP (aW ν ν aB ν ν aP (aW ν ν aB ν ν aP ?_))))))))
    refine bD (E := bq) (xs := [nth (bP b (cE y.1)) k]) ν ν ν ν ν aB aB mH bn ν ?_
    refine bA ν (cC ν ν bW ν P8 bn ?_)
    refine oq mD (k := cm (cE y.1) (nth (bP b (cE y.1)) k)) (v := ⟨cE y.1, [nth (bP b (cE y.1)) k], y.1.now + c (nth (bP b (cE y.1)) k)⟩) ν ν aB ν (jo _) ν ν gX ?_
    refine aD (aC (aF ?_))
    refine cK (B := live [(0, Ty.pe dI ⟨b, bJ b⟩ 0), (2, Ty.bool all), (4, Ty.pp [Ty.nd ct hd hcd]), (6, Ty.ptr 7 0), (7, Ty.ptr 8 0), (8, Ty.ptr 9 0), (9, Ty.mp 34), (10, Ty.ptr 11 0), (11, Ty.ptr 12 0), (12, Ty.ptr 13 0), (13, Ty.ptr 14 0), (14, Ty.ptr 15 0), (15, Ty.int .i64 (y.1.now + c (nth (bP b (cE y.1)) k)))] [(7, Cont.cells 98 [Ty.ex (.map none), Ty.int .i64 0, Ty.int .i64 0, Ty.int .i64 0, Ty.int .i64 0, Ty.int .i64 0, Ty.int .i64 0, Ty.bool false]), (8, Cont.cells 98 [Ty.mp 19, Ty.int .i64 0, Ty.int .i64 0, Ty.int .i64 0, Ty.int .i64 0, Ty.int .i64 0, Ty.int .i64 0, Ty.bool false]), (9, Cont.cells 156 [Ty.mp 27]), (11, Cont.cells 3 [Ty.int .i64 y.1.now]), (13, Cont.cells 91 (j6 (cE y.1))), (34, Cont.mp (fI 6) pL (fj y.1).done), (12, Cont.cells 3 [Ty.int .i64 (cx b c (cE y.1) (fj y.1) k).left]), (14, Cont.cells 37 (bq.tys (nth (bP b (cE y.1)) k))), (15, Cont.cells 91 (j6 (cm (cE y.1) (nth (bP b (cE y.1)) k)))), (19, Cont.mp (fI 6) iU (dQ (cx b c (cE y.1) (fj y.1) k).ways (cm (cE y.1) (nth (bP b (cE y.1)) k)) ⟨cE y.1, [(nth (bP b (cE y.1)) k)], (y.1.now + c (nth (bP b (cE y.1)) k))⟩)), (27, Cont.mr (Value.int .i64) oC 91 4096 (cx b c (cE y.1) (fj y.1) k).queue)]) ?_ ?_
    ·exact dK
    refine cH mixed ν (aq ν ν aB ν ν ν (bA ν (aq ν ν aB ν ν ν (bA ν ?_))))
    refine sR xT (k := y.1.now + c (nth (bP b (cE y.1)) k)) ν ν aB ν oo mG xk ?_
    refine aW ν ν aB ν ν aP ?_
    refine bD (E := oC) (xs := [cm (cE y.1) (nth (bP b (cE y.1)) k)]) ν ν ν ν ν aB aB mH bn ν ?_
    refine Jd ν ν ν aB aB ν (by show 0 < 1; decide) ν ν ν ν ν aB J7 FF ?_
    refine AI xT (k := y.1.now + c (nth (bP b (cE y.1)) k)) ν ν aB ν oo ν mG ν ?_
    refine aD ?_
    refine ⟨by kernel_rfl, ?_⟩
    refine aC (aA (aq ν ν aB ν ν ν (bY ν ν aE aE (dH ν ν aB ν ν gR ν aP ν ν jF ?_))))
    refine aD (bE (p4 ?_))
    (refine dw.mk' ?_ ?_ <;> (repeat' (first | exact aQ | exact aR | exact eC | refine aG ?_ (Ty.bC _) | refine aL rfl (Cont.aM _) ?_ | refine aL rfl (Cont.eD ?_) ?_ | refine dD ?_ ?_ | refine aL rfl ?_ ?_)))
    all_goals first | exact Ty.bO (Lf hk1 hfn hc5).2.2 | exact Cont.nU (Lf hk1 hfn hc5).1 | exact Cont.FD (Lf hk1 hfn hc5).2.1
   refine bE (bE ?_)
   refine bG (⟨cx b c (cE y.1) (fj y.1) (bP b (cE y.1)).length, y.2.new hr hc hlen hc3 hc4⟩) ?_ (by exact FU y.2.inv hr (nR hlen) hc3 hmk.1)
   (refine dw.mk' ?_ ?_ <;> (repeat' (first | exact aQ | exact aR | exact eC | refine aG ?_ (Ty.bC _) | refine aG ?_ (Ty.aM _) | refine aL rfl (Cont.aM _) ?_ | refine aL rfl (Cont.eD ?_) ?_ | refine dD ?_ ?_ | refine aL rfl ?_ ?_)))
   all_goals first | exact Ty.bO (sS (fj y.1) _).symm | exact Ty.bO (congrArg (fun n => (cx b c (cE y.1) (fj y.1) n).left) (List.length_map _)) | exact Cont.nU (congrArg (fun n => (cx b c (cE y.1) (fj y.1) n).ways) (List.length_map _)) | exact Cont.FD (congrArg (fun n => (cx b c (cE y.1) (fj y.1) n).queue) (List.length_map _)) | exact Cont.nU (tT (fj y.1) _).symm
  refine bQ (aI (aI (aS ν (aC ?_))))
  have hempty : rowAt y.1.queue y.1.now = [] := List.length_eq_zero_iff.1 (by have h := hc2; have h : ¬ (0 : Int) < ((rowAt y.1.queue y.1.now).length : Nat) := h; omega)
  have hlater := y.2.later hr hempty
  have hnx := x.2.1.KL hr hc1
  have hnx0 := x.2.1.now0
  have hyx := y.2.now
  refine aA (aq ν ν aB ν ν ν (aq ν ν aB ν ν ν ?_))
  refine JQ xT (k := y.1.now) ν ν aB ν oo mG ν ?_
  refine aD (bE (aC (aF (aF (aA (aq ν ν aB ν ν ν (aq ν ν aB ν ν ν (aD (aC (aA (bZ ν bW ν (dH ν ν aB ν ν gR ν aP ν ν jF ?_))))))))))))
  refine bZ ν bW ν (dH ν ν aB ν ν gR ν aP ν ν jF ?_)
  refine aD (aC (aA (aq ν ν aB ν ν ν (bY ν ν aE aE (dH ν ν aB ν ν gR ν aP ν ν jF ?_)))))
  refine aD ?_
  refine bG (⟨later y.1, (hlater).1, (hlater).2.1⟩) ?_ (by exact hlater.2.2)
  exact dK
 refine bQ (aI (aI (aS ν (aC (aF ?_)))))
 (refine j8 (tg := 19) [] [(8, Cont.cells 98 [Ty.pm (fI 6) iU x.1.ways, Ty.int .i64 0, Ty.int .i64 0, Ty.int .i64 0, Ty.int .i64 0, Ty.int .i64 0, Ty.int .i64 0, Ty.bool false])] aB rfl trivial ⟨eW rfl rfl ⟨uL rfl aB, cF rfl, cF rfl, cF rfl, cF rfl, cF rfl, cF rfl, cF rfl, trivial⟩, trivial⟩ ?_; refine cK (B := live [(6, Ty.ptr 7 0), (7, Ty.ptr 8 0)] [(7, Cont.cells 98 [Ty.ex (.map none), Ty.int .i64 0, Ty.int .i64 0, Ty.int .i64 0, Ty.int .i64 0, Ty.int .i64 0, Ty.int .i64 0, Ty.bool false]), (8, Cont.cells 98 [Ty.pm (fI 6) iU x.1.ways, Ty.int .i64 0, Ty.int .i64 0, Ty.int .i64 0, Ty.int .i64 0, Ty.int .i64 0, Ty.int .i64 0, Ty.bool false])]) ?_ ?_)
 ·exact dK
 refine aA (aW ν ν aB ν ν aP (bK ν ν aB ν ν ν ν ν ν (aD (aC (au (wo (xD ν (sH ν ν ν ν aB ν ν ν ?_))))))))
 exact av rfl rfl (by rw [x.2.2.stop (step_end aE), Fv]; rfl)
end Go.Proofs.YtpnndljmhpepgaaGreat
namespace Go.Proofs.YtpnndljmhpepgaaGreat
open Go Go.T
set_option maxRecDepth 100000
set_option maxHeartbeats 4000000
theorem Nz {b : aT} {c : bX → Int} (h : ¬ bH b = 0) : dY b c = bH b := if_neg h
theorem M8 {b : aT} {c : bX → Int} (h : bH b = 0) (hi : (cw b c false).is = false) : dY b c = 7 := by unfold dY; rw [if_pos h, if_neg yF]
theorem Mm {b : aT} {c : bX → Int} (h : bH b = 0) (hi : (cw b c false).is = true) : dY b c = 0 := by unfold dY; rw [if_pos h, if_pos hi]
theorem NQ {b : aT} {c : bX → Int} (h : ¬ bH b = 0) : gZ b c = [] := if_neg h
theorem Mp {b : aT} {c : bX → Int} (h : bH b = 0) (hi : (cw b c false).is = false) : gZ b c = [] := by unfold gZ Ae; rw [if_pos h, if_neg yF]
theorem Mj {b : aT} {c : bX → Int} (h : bH b = 0) (hi : (cw b c false).is = true) : (lU b c).flatten = gZ b c := by unfold gZ Ae; rw [if_pos h, if_pos hi]
theorem ND {b : aT} {c : bX → Int} (h : ¬ bH b = 0) : eA b c = 0 := if_neg h
theorem NT {b : aT} {c : bX → Int} (h : bH b = 0) (hi : (cw b c false).is = false) : eA b c = 0 := by unfold eA vM; rw [if_pos h, if_neg yF]
theorem Mf {b : aT} {c : bX → Int} (h : bH b = 0) (hi : (cw b c false).is = true) : ((b8 (cw b c false).ways (cw b c false).last).getD jD).all = eA b c := by unfold eA vM; rw [if_pos h, if_pos hi]
theorem Li {b : aT} {c : bX → Int} (h : b.cQ) (hc : iw b c) (hi : (cw b c false).is = true) : (lU b c).flatten.length ≤ 400000000 := by
 have := (sn h hc).len hi; omega
attribute [local irreducible] iL fu pJ r9 jY jQ jL jI jT rF jJ q5 dy g6 q2 g7 r8 nth fS dG ay dO bodyPost Exit.then Exit.inBlock Code.wp Code.wpIn fy rS rB rq rL jU r5 fG iT qd cT cX bodyPostM eE
theorem vc (b : aT) (hs : b.Small) (c : bX → Int) (hc : bH b = 0 → iw b c) (ct : Ty) (h1 : ct.one = true) (hd : ct.deps = []) (hcd : ct.cdeps = []) (hf : bH b = 0 → ∀ t : bX, 0 ≤ t.bN → t.bN < b.aO.length → Cg Tryz.prog ct [Ty.agg (bq.tys t)] (Ty.int .i64 (c t))) : dO Tryz.prog 53 [cU b, Ty.agg [Ty.nd ct hd hcd]] (Ty.iF [Ty.sl bq (gZ b c), Ty.int .i64 (eA b c), Ty.int .i64 (dY b c)]) := by
 refine az Tryz.func53 ν aB Tryz.ntmps53 aP fun w0 M0 => ?_
 refine aF (aA (bF ν (bF ν (fm ν (bS ν (bS ν (aD (aC (aF (aA (aY ν ν ν aP (aa (FA b hs) ν ν ν ν ν (ke ν (aj ν ν (aj ν ν (QT ν (bS ν (aD (aC (aF (aF (aA (bA ν ?_)))))))))))))))))))))))
 refine ah ν ν ν (aD (aC ?_))
 refine bw ν (fun hc1 => ?_) (fun hc1 => ?_)
 ·refine aF (aA (bA ν (fm ν (bS ν (bS ν (aD (aC (au (aK ?_)))))))))
  refine Gy ν ν ν ν ?_ ?_ ?_
  all_goals first | exact cy (NQ hc1) | exact av rfl rfl (congrArg (Ty.int .i64) (ND hc1).symm) | exact av rfl rfl (congrArg (Ty.int .i64) (Nz hc1).symm)
 refine aX (aC (aF ?_))
 have hr := c8 hc1
 refine fK (s := 7) ν (Ty.pU (decide_eq_true hc1)) ?_
 refine aA (nN ν (aY ν ν ν aP (aa (DK b hr c (hc hc1) ct h1 hd hcd (hf hc1) false) ν ν ν ν ν (bZ ν bW ν (bK ν ν aB ν ν ν ν ν ν (aD (aC (aF (aF (aA (ak ν ν ν ν ν aB (aq ν ν aB ν ν ν (dW ν (aD (aC ?_)))))))))))))))
 refine cI ν (fun hc2 => ?_) (fun hc2 => ?_)
 ·refine aF (aA (fm ν (bS ν (bS ν (aD (aC (au (aK ?_))))))))
  refine Gy ν ν ν ν ?_ ?_ ?_
  all_goals first | exact cy (Mp hc1 (oL hc2)) | exact av rfl rfl (congrArg (Ty.int .i64) (NT hc1 (oL hc2)).symm) | exact av rfl rfl (congrArg (Ty.int .i64) (M8 hc1 (oL hc2)).symm)
 refine aX (aC (aF (cH mixed ν (aW ν ν aB ν ν aP (nN ν (cW ν (cr ν ν ν ν ν aB (eV ν ν ν ν ν (aa (L0 (cw b c false) (bJ b) (lU b c) ((sn hr (hc hc1)).chain (dg hc2)) ((sn hr (hc hc1)).len (dg hc2)).1) ν ν ν ν ν (aa (CM (lU b c) (Li hr (hc hc1) (dg hc2))) ν ν ν ν ν (ak ν ν ν ν ν aB (aq ν ν aB ν ν ν (ak ν ν ν ν ν aB (aW ν ν aB ν ν aP ?_))))))))))))))
 refine pT mD (k := (cw b c false).last) (z0 := jD) ν ν (jo _) gX oJ lY ?_
 refine sG ν ν ν ν ν ν ν (iX ν (bS ν (bS ν (aD ?_))))
 refine ⟨by kernel_rfl, ?_⟩
 refine aC (au ?_)
 refine Gy ν ν ν ν ?_ ?_ ?_
 all_goals first | exact av rfl rfl (congrArg (Ty.sl bq) (Mj hc1 (dg hc2))) | exact av rfl rfl (congrArg (Ty.int .i64) (Mf hc1 (dg hc2))) | exact av rfl rfl (congrArg (Ty.int .i64) (Mm hc1 (dg hc2)).symm)
theorem Iv (t : bX) : dO Tryz.prog 80 [Ty.agg (bq.tys t)] (Ty.int .i64 1) := by
 refine az Tryz.func80 ν aB Tryz.ntmps80 aP fun w0 M0 => ?_
 refine aF (aA (bF ν (bS ν (aD (aC (aF (aA (bS ν (aD (aC (au (bg ν ν ?_))))))))))))
 all_goals exact b9 rfl rfl
theorem N6 (t : bX) : dO Tryz.prog 54 [Ty.agg (bq.tys t)] (Ty.int .i64 1) := by
 refine az Tryz.func54 ν aB Tryz.ntmps54 aP fun w0 M0 => ?_
 refine aF (aA (bF ν (bS ν (aD (aC (aF (aA (bS ν (aD (aC (au (bg ν ν ?_))))))))))))
 all_goals exact b9 rfl rfl
theorem JF (t : bX) : dO Tryz.prog 84 [Ty.agg (bq.tys t)] (Ty.int .i64 1) := by
 refine az Tryz.func84 ν aB Tryz.ntmps84 aP fun w0 M0 => ?_
 refine aF (aA (bF ν (bS ν (aD (aC (aF (aA (bS ν (aD (aC (au (bg ν ν ?_))))))))))))
 all_goals exact b9 rfl rfl
theorem Eo (b : aT) (t : bX) (h0 : 0 ≤ t.bN) (h1 : t.bN < b.aO.length) : dO Tryz.prog 81 [Ty.agg (bq.tys t), Ty.pp (bL b)] (Ty.int .i64 (dM b t)) := by
 refine az Tryz.func81 ν aB Tryz.ntmps81 aP fun w0 M0 => ?_
 refine aF (aA (bF ν (bS ν (aD (aC (aF (aA (aN ν ν ν ν ν aB (aJ ν ν ν ν (aN ν ν ν ν ν aB (aJ ν ν ν ν (dR ν ν ν ν ν ν h0 aE (aN ν ν ν ν ν aB (aJ ν ν ν ν (bS ν (aD (aC (au (bg ν ν ?_)))))))))))))))))))
 all_goals exact b9 rfl rfl
theorem zo (b : aT) (hs : b.Small) : dO Tryz.prog 29 [cU b] (Ty.iF [Ty.int .i64 (eA b dh), Ty.int .i64 (dY b dh)]) := by
 refine az Tryz.func29 ν aB Tryz.ntmps29 aP fun w0 M0 => ?_
 refine aF (aA (bF ν (bS ν (bS ν (aD (aC (aF (aA (aY ν ν ν aP (cC ν ν bW ν Mi Cn ?_))))))))))
 refine aa (vc b hs dh (fun _ => jy b) (Ty.so 80 []) ν ν ν (fun _ t _ _ => gY (Iv t) ν ν ν ν ν ν)) ν ν ν ν ν ?_
 refine ke ν (aj ν ν (aj ν ν (aj ν ν (iX ν (bS ν (bS ν (aD (aC (aF (aA (bA ν (bA ν (bS ν (bS ν (aD (aC (au ?_)))))))))))))))))
 refine dc ν ν ν ?_ ?_
 all_goals exact b9 rfl rfl
theorem Jt (b : aT) (hs : b.Small) : dO Tryz.prog 22 [cU b] (Ty.iF [Ty.sl bq (gZ b dh), Ty.int .i64 (dY b dh)]) := by
 refine az Tryz.func22 ν aB Tryz.ntmps22 aP fun w0 M0 => ?_
 refine aF (aA (bF ν (fm ν (bS ν (aD (aC (aF (aA (aY ν ν ν aP (cC ν ν bW ν Mi Cn ?_))))))))))
 refine aa (vc b hs dh (fun _ => jy b) (Ty.so 54 []) ν ν ν (fun _ t _ _ => gY (N6 t) ν ν ν ν ν ν)) ν ν ν ν ν ?_
 refine ke ν (aj ν ν (aj ν ν (aj ν ν (iX ν (bS ν (bS ν (aD (aC (aF (aA (cM ν (bA ν (iX ν (bS ν (aD (aC (au ?_)))))))))))))))))
 refine dc ν ν ν ?_ ?_
 all_goals exact b9 rfl rfl
theorem y6 (b : aT) (hs : b.Small) : dO Tryz.prog 30 [cU b] (Ty.iF [Ty.sl bq (gZ b (dM b)), Ty.int .i64 (eA b (dM b)), Ty.int .i64 (dY b (dM b))]) := by
 refine az Tryz.func30 ν aB Tryz.ntmps30 aP fun w0 M0 => ?_
 refine aF (aA (bF ν (fm ν (bS ν (bS ν (aD (aC (aF (aA (aY ν ν ν aP (fA ν (cC ν ν bW ν Mi Cn ?_))))))))))))
 refine aa (vc b hs (dM b) (fun h => qF (c8 h)) (Ty.so 81 [Ty.pp (bL b)]) ν ν ν (fun _ t h0 h1 => gY (Eo b t h0 h1) ν ν ν ν ν ν)) ν ν ν ν ν ?_
 refine aj ν ν (aj ν ν (aj ν ν (iX ν (bS ν (bS ν (aD (aC (au ?_))))))))
 refine Gy ν ν ν ν ?_ ?_ ?_
 all_goals exact b9 rfl rfl
theorem DQ (b : aT) (hs : b.Small) : dO Tryz.prog 31 [cU b] (Ty.iF [Ty.int .i64 (e7 b), Ty.int .i64 (bH b)]) := by
 refine az Tryz.func31 ν aB Tryz.ntmps31 aP fun w0 M0 => ?_
 refine aF (aA (bF ν (bS ν (bS ν (aD (aC (aF (aA (aY ν ν ν aP (aa (FA b hs) ν ν ν ν ν (ke ν (aj ν ν (aj ν ν (QT ν (bS ν (aD (aC (aF (aF (aA (bA ν (ah ν ν ν (aD ?_)))))))))))))))))))))))
 refine aC ?_
 refine bw ν (fun hc1 => ?_) (fun hc1 => ?_)
 ·refine aF (aA (bA ν (bS ν (bS ν (aD (aC (au (aK ?_))))))))
  refine dc ν ν ν ?_ ?_
  all_goals first | exact b9 rfl rfl | skip
  all_goals exact av rfl rfl (congrArg (Ty.int .i64) (if_neg hc1 : e7 b = 0).symm)
 refine aX (aC (aF ?_))
 have hr := c8 hc1
 refine fK (s := 4) ν (Ty.pU (decide_eq_true hc1)) ?_
 refine aA (nN ν (cC ν ν bW ν Mi Cn ?_))
 refine aa (DK b hr dh (jy b) (Ty.so 84 []) ν ν ν (fun t _ _ => gY (JF t) ν ν ν ν ν ν) true) ν ν ν ν ν ?_
 refine sG ν ν ν ν ν ν ν (NF ν gX (bS ν (bS ν (aD (aC (au ?_))))))
 refine dc ν ν ν ?_ ?_
 all_goals first | exact av rfl rfl (congrArg (Ty.int .i64) (if_pos hc1 : e7 b = _).symm) | exact av rfl rfl (congrArg (Ty.int .i64) hc1.symm)
end Go.Proofs.YtpnndljmhpepgaaGreat
namespace Go.Proofs.YtpnndljmhpepgaaGreat
open Go Go.T
def n5 (b : aT) (rings : List (List Int)) : Bool := rings.flatten.any fun n => fZ n 0 (b.aO.length - 1)
def wX (l : List Int) : Bool := (List.range l.length).any fun k => decide (nth l k ∈ l.take k)
def uE (b : aT) (rings : List (List Int)) : Bool := rings.any fun l => !kJ b l
def kV (b : aT) (rings : List (List Int)) : Int × Int := if bH b = 0 then ku b rings else (0, bH b)
variable {b : aT} {rings : List (List Int)}
theorem sI (h : n5 b rings = true) : ku b rings = (0, 1) := if_pos h
theorem oM (h0 : n5 b rings = false) (h : wX rings.flatten = true) : ku b rings = (0, 5) := (if_neg KS).trans (if_pos h)
theorem kB (h0 : n5 b rings = false) (h1 : wX rings.flatten = false) (h : uE b rings = true) : ku b rings = (0, 8) :=
 (if_neg KS).trans ((if_neg OW).trans (if_pos h))
theorem uV (h0 : n5 b rings = false) (h1 : wX rings.flatten = false) (h2 : uE b rings = false) : ku b rings = (((pN b).length + rings.length : Int), (0 : Int)) :=
 (if_neg KS).trans ((if_neg OW).trans (if_neg (by show ¬ uE b rings = true; rw [h2]; decide)))
theorem sP (h : ¬ bH b = 0) : kV b rings = (0, bH b) := if_neg h
theorem eX (h : bH b = 0) {x : Int × Int} (e : ku b rings = x) : kV b rings = x := (if_pos h).trans e
theorem Mx (n : Int) : (!b.bN n) = fZ n 0 (b.aO.length - 1) := by unfold aT.bN; rw [oX]
theorem wB (v : Bool) (h : (!rings.flatten.all fun n => b.bN n) = v) : n5 b rings = v := by
 rw [← h]; unfold n5; rw [xg _ _ _ (fun n => Mx n)]
theorem Hz (h : n5 b rings = false) {m i : Nat} (hm : m < rings.length) (hi : i < (nth rings m).length) : 0 ≤ nth (nth rings m) i ∧ nth (nth rings m) i < b.aO.length := by
 have h1 := any_none h (x := nth (nth rings m) i) (List.mem_flatten.2 ⟨_, cD hm, cD hi⟩)
 rw [lD] at h1; omega
theorem KH (h : n5 b rings = false) {m : Nat} (hm : m < rings.length) : ∀ x ∈ nth rings m, 0 ≤ x ∧ x < b.aO.length := fun x hx => by
 obtain ⟨i, hi, rfl⟩ := fP hx
 exact Hz h hm hi
theorem Lb {m : Nat} (hm : m < rings.length) : (nth rings m).length ≤ rings.flatten.length := by
 have h1 := gm rings (m + 1)
 rw [eu hm, List.length_append] at h1; omega
theorem uq {m : Nat} (hm : m < rings.length) (h : kJ b (nth rings m) = false) : uE b rings = true := pG hm (by rw [h]; rfl)
theorem JP {m : Nat} (hm : m < rings.length) (h : ∀ l ∈ rings.take m, (!kJ b l) = false) (h2 : ¬ (nth rings m).length < 2) (h3 : ∀ j, j < (nth rings m).length → q7 b (nth rings m) j = true) : ∀ l ∈ rings.take (m + 1), (!kJ b l) = false :=
 gJ h hm (by rw [tG h3, decide_eq_true aE]; rfl)
theorem zi {m : Nat} (hm : rings.length ≤ m) (h : ∀ l ∈ rings.take m, (!kJ b l) = false) : uE b rings = false := gl h hm
theorem Cz (l : List Int) (x : Int) : decide (0 ≤ fidx (fun y => decide (x = y)) l) = decide (x ∈ l) := by
 rw [uk, Bool.eq_iff_iff, List.any_eq_true, decide_eq_true_eq]
 constructor
 ·rintro ⟨y, hy, h⟩; rw [of_decide_eq_true h]; exact hy
 intro h; exact ⟨x, h, decide_eq_true rfl⟩
end Go.Proofs.YtpnndljmhpepgaaGreat
namespace Go.Proofs.YtpnndljmhpepgaaGreat
open Go Go.T
set_option maxRecDepth 100000
set_option maxHeartbeats 2000000
theorem PR {b : aT} {l : oF} (h : Ed b l = false) : (0 ≤ l.inn ∧ l.inn < b.sizes.length) ∧ -1 ≤ l.aim ∧ l.aim < b.sizes.length := by
 unfold Ed at h
 simp only [Bool.or_eq_false_iff, lD] at h
 omega
attribute [local irreducible] iL fu pJ r9 jY jQ jL jI jT rF jJ q5 dy g6 q2 g7 r8 nth fS dG ay dO bodyPost Exit.then Exit.inBlock Code.wp Code.wpIn fy rS rB rq rL jU r5 fG iT qd cT cX bodyPostM eE
theorem sv (n lo hi : Int) : dO Tryz.prog 37 [Ty.int .i64 n, Ty.int .i64 lo, Ty.int .i64 hi] (Ty.bool (fZ n lo hi)) := by
 refine az Tryz.func37 ν aB Tryz.ntmps37 aP fun w0 M0 => ?_
 refine aF (aA (dN ν (aD (aC (aF (aA (bA ν (bA ν (ah ν ν ν (dm ν ?_))))))))))
 refine bT 10 ν (fun hg => aH (bA ν (aD ν))) ?_
 refine bT 10 ν (fun hg => aH (bA ν (aD ν))) ?_
 refine bT 10 ν (fun hg => cJ 11 hg ν (cJ 12 hg ν (aH (ah ν ν ν (aD ν))))) ?_
 refine eJ ν ν (dN ν (aD (aC (au (bg ν ν ?_)))))
 all_goals exact b9 rfl rfl
theorem p5 (b : aT) (hs : b.Small) : dO Tryz.prog 10 [cU b] (Ty.int .i64 (iO b)) := by
 refine az Tryz.func10 ν aB Tryz.ntmps10 aP fun w0 M0 => ?_
 have hs1 := hs.sizes
 have hs2 := hs.aO
 refine aF (aA (bF ν (bS ν (aD (aC (aF (aF (aA (aN ν ν ν ν ν aB (aJ ν ν ν ν (bU ν ν ν (aa (sv _ _ _) ν ν ν ν ν (dm ν ?_)))))))))))))
 refine bT 14 ν (fun hg => aH (aN ν ν ν ν ν aB (aD ν))) ?_
 refine bT 14 ν (fun hg => cJ 15 hg ν (aH (aJ ν ν ν ν (aD ν)))) ?_
 refine bT 14 ν (fun hg => cJ 16 hg ν (aH (bU ν ν ν (aD ν)))) ?_
 refine bT 14 ν (fun hg => cJ 17 hg ν (aH (ah ν ν ν (aD ν)))) ?_
 refine eJ ν ν (aD (aC ?_))
 refine cI ν (fun hc1 => ?_) (fun hc1 => ?_)
 ·refine aF (aA (bS ν (aD (aC (au (aK (bg ν ν ?_)))))))
  exact av rfl rfl (congrArg (Ty.int .i64) (by rw [iO, if_pos (show sx b = true from hc1)]))
 refine aX (aC (aF (aF (aA (bS ν (aD (aC (aV ?_))))))))
 refine bf (fun (k1 : {k : Nat // ∀ n ∈ b.sizes.take k, fZ n 0 300 = false}) => live [(1, Ty.pp (bL b)), (3, Ty.int .i64 (k1.1 : Nat))] []) (fun k1 => b.sizes.length - k1.1) (⟨0, by simp⟩) ?_ fun k1 => ?_
 ·exact bt
 refine aF (aF (aA (bA ν (aN ν ν ν ν ν aB (aJ ν ν ν ν (bU ν ν ν (ah ν ν ν (aD (aC ?_)))))))))
 refine aU ν (fun hc2 => ?_) (fun hc2 => ?_)
 ·refine aX (aC (aF (aV (aF (aA (aN ν ν ν ν ν aB (aJ ν ν ν ν (bA ν (af ν ν ν ν ν ν aE (aJ ν ν ν ν (aa (sv _ _ _) ν ν ν ν ν (aD (aC ?_)))))))))))))
  refine cI ν (fun hc3 => ?_) (fun hc3 => ?_)
  ·refine aF (aA (bS ν (aD (aC (au (aZ (aK (aK (aZ (aK (bg ν ν ?_)))))))))))
   exact av rfl rfl (congrArg (Ty.int .i64) (by rw [iO, if_neg (ng (show sx b = false from hc1)), if_pos (pG (q := fun n => fZ n 0 300) (k := k1.1) aE hc3)]))
  refine aX (bE (aC (aA (bA ν (bY ν ν aE aE (bS ν (aD ?_)))))))
  refine bG (⟨k1.1 + 1, gJ k1.2 aE hc3⟩) ?_ (by show b.sizes.length - (k1.1 + 1) < b.sizes.length - k1.1; omega)
  exact bt
 refine bQ (aI (aI (aS ν (aC (aF (aF (aA (bS ν (aD (aC (aV ?_)))))))))))
 refine bf (fun (k2 : {k : Nat // ∀ l ∈ b.aO.take k, fZ l.bh 1 300 = false}) => live [(1, Ty.pp (bL b)), (4, Ty.int .i64 (k2.1 : Nat))] []) (fun k2 => b.aO.length - k2.1) (⟨0, by simp⟩) ?_ fun k2 => ?_
 ·exact bt
 refine aF (aF (aA (bA ν (aN ν ν ν ν ν aB (aJ ν ν ν ν (bU ν ν ν (ah ν ν ν (aD (aC ?_)))))))))
 refine aU ν (fun hc4 => ?_) (fun hc4 => ?_)
 ·refine aX (aC (aF (aV (aF (aA (aN ν ν ν ν ν aB (aJ ν ν ν ν (bA ν (af ν ν ν ν ν ν aE (aN ν ν ν ν ν aB (aJ ν ν ν ν (aa (sv _ _ _) ν ν ν ν ν (aD (aC ?_))))))))))))))
  refine cI ν (fun hc5 => ?_) (fun hc5 => ?_)
  ·refine aF (aA (bS ν (aD (aC (au (aZ (aK (aK (aZ (aK (bg ν ν ?_)))))))))))
   exact av rfl rfl (congrArg (Ty.int .i64) (by rw [iO, if_neg (ng (show sx b = false from hc1)), if_neg (ng (gl k1.2 aE)), if_pos (pG (q := fun l : oF => fZ l.bh 1 300) (k := k2.1) aE hc5)]))
  refine aX (bE (aC (aA (bA ν (bY ν ν aE aE (bS ν (aD ?_)))))))
  refine bG (⟨k2.1 + 1, gJ k2.2 aE hc5⟩) ?_ (by show b.aO.length - (k2.1 + 1) < b.aO.length - k2.1; omega)
  exact bt
 refine bQ (aI (aI (aS ν (aC (aF (aF (aA (bS ν (aD (aC (aV ?_)))))))))))
 refine bf (fun (k3 : {k : Nat // ∀ l ∈ b.aO.take k, Ed b l = false}) => live [(1, Ty.pp (bL b)), (5, Ty.int .i64 (k3.1 : Nat))] []) (fun k3 => b.aO.length - k3.1) (⟨0, by simp⟩) ?_ fun k3 => ?_
 ·exact bt
 refine aF (aF (aA (bA ν (aN ν ν ν ν ν aB (aJ ν ν ν ν (bU ν ν ν (ah ν ν ν (aD (aC ?_)))))))))
 refine aU ν (fun hc6 => ?_) (fun hc6 => ?_)
 ·refine aX (aC (aF (aV (aF (cH mixed ν (aN ν ν ν ν ν aB (aJ ν ν ν ν (bA ν (af ν ν ν ν ν ν aE (aN ν ν ν ν ν aB (aJ ν ν ν ν (aN ν ν ν ν ν aB (aJ ν ν ν ν (bU ν ν ν (ga ν ν aE aE (aa (sv _ _ _) ν ν ν ν ν (dm ν ?_)))))))))))))))))
  refine bT 65 ν (fun hg => aH (aN ν ν ν ν ν aB (aD ν))) ?_
  refine bT 65 ν (fun hg => cJ 66 hg ν (aH (aJ ν ν ν ν (aD ν)))) ?_
  refine bT 65 ν (fun hg => aH (bA ν (aD ν))) ?_
  refine bT 65 ν (fun hg => cJ 67 hg ν (cJ 68 hg ν (aH (af ν ν ν ν ν ν aE (aD ν))))) ?_
  refine bT 65 ν (fun hg => cJ 69 hg ν (aH (aN ν ν ν ν ν aB (aD ν)))) ?_
  refine bT 65 ν (fun hg => cJ 70 hg ν (aH (aJ ν ν ν ν (aD ν)))) ?_
  refine bT 65 ν (fun hg => aH (aN ν ν ν ν ν aB (aD ν))) ?_
  refine bT 65 ν (fun hg => cJ 72 hg ν (aH (aJ ν ν ν ν (aD ν)))) ?_
  refine bT 65 ν (fun hg => cJ 73 hg ν (aH (bU ν ν ν (aD ν)))) ?_
  refine bT 65 ν (fun hg => cJ 74 hg ν (aH (ga ν ν aE aE (aD ν)))) ?_
  refine bT 65 ν (fun hg => cJ 71 hg ν (cJ 75 hg ν (aH (aa (sv _ _ _) ν ν ν ν ν (aD ν))))) ?_
  refine eJ ν ν (aD ?_)
  refine ⟨by kernel_rfl, ?_⟩
  refine aC ?_
  refine cI ν (fun hc7 => ?_) (fun hc7 => ?_)
  ·refine aF (aA (bS ν (aD (aC (au (aZ (aK (aK (aZ (aK (bg ν ν ?_)))))))))))
   exact av rfl rfl (congrArg (Ty.int .i64) (by rw [iO, if_neg (ng (show sx b = false from hc1)), if_neg (ng (gl k1.2 aE)), if_neg (ng (gl k2.2 aE)), if_pos (pG (q := Ed b) (k := k3.1) aE hc7)]))
  refine aX (bE (aC (aA (bA ν (bY ν ν aE aE (bS ν (aD ?_)))))))
  refine bG (⟨k3.1 + 1, gJ k3.2 aE hc7⟩) ?_ (by show b.aO.length - (k3.1 + 1) < b.aO.length - k3.1; omega)
  exact bt
 refine bQ (aI (aI (aS ν (aC (aF (aF (aA (bS ν (aD (aC (aV ?_)))))))))))
 refine bf (fun (k4 : {k : Nat // ∀ j, j < k → ((List.range b.aO.length).any fun m => tu b j m) = false}) => live [(1, Ty.pp (bL b)), (6, Ty.int .i64 (k4.1 : Nat))] []) (fun k4 => b.aO.length - k4.1) (⟨0, fun j hj => absurd hj (Nat.not_lt_zero j)⟩) ?_ fun k4 => ?_
 ·exact bt
 refine aF (aF (aA (bA ν (aN ν ν ν ν ν aB (aJ ν ν ν ν (bU ν ν ν (ah ν ν ν (aD (aC ?_)))))))))
 refine aU ν (fun hc8 => ?_) (fun hc8 => ?_)
 ·refine aX (aC (aF (aV (aF (aA (bS ν (aD (aC (aV ?_)))))))))
  refine bf (fun (k5 : {k : Nat // ∀ j, j < k → tu b k4.1 j = false}) => live [(1, Ty.pp (bL b)), (6, Ty.int .i64 (k4.1 : Nat)), (7, Ty.int .i64 (k5.1 : Nat))] []) (fun k5 => b.aO.length - k5.1) (⟨0, fun j hj => absurd hj (Nat.not_lt_zero j)⟩) ?_ fun k5 => ?_
  ·exact bt
  refine aF (aF (aA (bA ν (aN ν ν ν ν ν aB (aJ ν ν ν ν (bU ν ν ν (ah ν ν ν (aD (aC ?_)))))))))
  refine aU ν (fun hc9 => ?_) (fun hc9 => ?_)
  ·refine aX (aC (aF (aV (aF (cH mixed ν (bA ν (bA ν (ah ν ν ν (dm ν ?_)))))))))
   refine bT 95 ν (fun hg => aH (aN ν ν ν ν ν aB (aD ν))) ?_
   refine bT 95 ν (fun hg => cJ 96 hg ν (aH (aJ ν ν ν ν (aD ν)))) ?_
   refine bT 95 ν (fun hg => aH (bA ν (aD ν))) ?_
   refine bT 95 ν (fun hg => cJ 97 hg ν (cJ 98 hg ν (aH (af ν ν ν ν ν ν aE (aD ν))))) ?_
   refine bT 95 ν (fun hg => cJ 99 hg ν (aH (aN ν ν ν ν ν aB (aD ν)))) ?_
   refine bT 95 ν (fun hg => cJ 100 hg ν (aH (aJ ν ν ν ν (aD ν)))) ?_
   refine bT 95 ν (fun hg => aH (aN ν ν ν ν ν aB (aD ν))) ?_
   refine bT 95 ν (fun hg => cJ 102 hg ν (aH (aJ ν ν ν ν (aD ν)))) ?_
   refine bT 95 ν (fun hg => aH (bA ν (aD ν))) ?_
   refine bT 95 ν (fun hg => cJ 103 hg ν (cJ 104 hg ν (aH (af ν ν ν ν ν ν aE (aD ν))))) ?_
   refine bT 95 ν (fun hg => cJ 105 hg ν (aH (aN ν ν ν ν ν aB (aD ν)))) ?_
   refine bT 95 ν (fun hg => cJ 106 hg ν (aH (aJ ν ν ν ν (aD ν)))) ?_
   refine bT 95 ν (fun hg => cJ 101 hg ν (cJ 107 hg ν (aH (ah ν ν ν (aD ν))))) ?_
   refine bT 95 ν (fun hg => cJ 108 hg ν (aH (dm ν (aD ν)))) ?_
   refine gi 109 ν (fun hg1 hg2 => aH (aN ν ν ν ν ν aB (aD ν))) ?_
   refine gi 109 ν (fun hg1 hg2 => jS 110 hg1 hg2 ν (aH (aJ ν ν ν ν (aD ν)))) ?_
   refine gi 109 ν (fun hg1 hg2 => aH (bA ν (aD ν))) ?_
   refine gi 109 ν (fun hg1 hg2 => jS 111 hg1 hg2 ν (jS 112 hg1 hg2 ν (aH (af ν ν ν ν ν ν aE (aD ν))))) ?_
   refine gi 109 ν (fun hg1 hg2 => jS 113 hg1 hg2 ν (aH (aN ν ν ν ν ν aB (aD ν)))) ?_
   refine gi 109 ν (fun hg1 hg2 => jS 114 hg1 hg2 ν (aH (aJ ν ν ν ν (aD ν)))) ?_
   refine gi 109 ν (fun hg1 hg2 => jS 115 hg1 hg2 ν (aH (ah ν ν ν (aD ν)))) ?_
   refine gi 109 ν (fun hg1 hg2 => jS 116 hg1 hg2 ν (aH (dm ν (aD ν)))) ?_
   refine gi 117 ν (fun hg1 hg2 => aH (aN ν ν ν ν ν aB (aD ν))) ?_
   refine gi 117 ν (fun hg1 hg2 => jS 118 hg1 hg2 ν (aH (aJ ν ν ν ν (aD ν)))) ?_
   refine gi 117 ν (fun hg1 hg2 => aH (bA ν (aD ν))) ?_
   refine gi 117 ν (fun hg1 hg2 => jS 119 hg1 hg2 ν (jS 120 hg1 hg2 ν (aH (af ν ν ν ν ν ν aE (aD ν))))) ?_
   refine gi 117 ν (fun hg1 hg2 => jS 121 hg1 hg2 ν (aH (aN ν ν ν ν ν aB (aD ν)))) ?_
   refine gi 117 ν (fun hg1 hg2 => jS 122 hg1 hg2 ν (aH (aJ ν ν ν ν (aD ν)))) ?_
   refine gi 117 ν (fun hg1 hg2 => aH (aN ν ν ν ν ν aB (aD ν))) ?_
   refine gi 117 ν (fun hg1 hg2 => jS 124 hg1 hg2 ν (aH (aJ ν ν ν ν (aD ν)))) ?_
   refine gi 117 ν (fun hg1 hg2 => aH (bA ν (aD ν))) ?_
   refine gi 117 ν (fun hg1 hg2 => jS 125 hg1 hg2 ν (jS 126 hg1 hg2 ν (aH (af ν ν ν ν ν ν aE (aD ν))))) ?_
   refine gi 117 ν (fun hg1 hg2 => jS 127 hg1 hg2 ν (aH (aN ν ν ν ν ν aB (aD ν)))) ?_
   refine gi 117 ν (fun hg1 hg2 => jS 128 hg1 hg2 ν (aH (aJ ν ν ν ν (aD ν)))) ?_
   refine gi 117 ν (fun hg1 hg2 => jS 123 hg1 hg2 ν (jS 129 hg1 hg2 ν (aH (ah ν ν ν (aD ν))))) ?_
   refine gi 109 ν (by intro hg1 hg2; apply bV (s := 117) ν tU; apply fW (s := 130) ν tU; apply aH; (refine dA ν ν ?_); refine aD ?_; exact ν) ?_
   refine bT 95 ν (by intro hg; apply bV (s := 109) ν dF; apply fW (s := 131) ν dF; apply aH; (refine eJ ν ν ?_); refine aD ?_; exact ν) ?_
   refine dA ν ν (aD ?_)
   refine ⟨by kernel_rfl, ?_⟩
   refine aC ?_
   refine cI ν (fun hc10 => ?_) (fun hc10 => ?_)
   ·refine aF (aA (bS ν (aD (aC (au (aZ (aK (aK (aZ (aZ (aK (aK (aZ (aK (bg ν ν ?_)))))))))))))))
    exact av rfl rfl (congrArg (Ty.int .i64) (by rw [iO, if_neg (ng (show sx b = false from hc1)), if_neg (ng (gl k1.2 aE)), if_neg (ng (gl k2.2 aE)), if_neg (ng (gl k3.2 aE)), if_pos (nr (k := k4.1) aE (nr (q := fun m => tu b k4.1 m) (k := k5.1) aE hc10))]))
   refine aX (bE (aC (aA (bA ν (bY ν ν aE aE (bS ν (aD ?_)))))))
   refine bG (⟨k5.1 + 1, kS k5.2 hc10⟩) ?_ (by show b.aO.length - (k5.1 + 1) < b.aO.length - k5.1; omega)
   exact bt
  refine bQ (aI (aI (aS ν (bE (aC (aA (bA ν (bY ν ν aE aE (bS ν (aD ?_))))))))))
  refine bG (⟨k4.1 + 1, kS k4.2 (mT k5.2 aE)⟩) ?_ (by show b.aO.length - (k4.1 + 1) < b.aO.length - k4.1; omega)
  exact bt
 refine bQ (aI (aI (aS ν (aC (aF (aF (aA (bS ν (aD (aC (aV ?_)))))))))))
 refine bf (fun (k6 : {k : Nat // ∀ l ∈ b.aO.take k, Az b l = false}) => live [(1, Ty.pp (bL b)), (8, Ty.int .i64 (k6.1 : Nat))] []) (fun k6 => b.aO.length - k6.1) (⟨0, by simp⟩) ?_ fun k6 => ?_
 ·exact bt
 refine aF (aF (aA (bA ν (aN ν ν ν ν ν aB (aJ ν ν ν ν (bU ν ν ν (ah ν ν ν (aD (aC ?_)))))))))
 refine aU ν (fun hc11 => ?_) (fun hc11 => ?_)
 ·refine aX (aC (aF (aV (aF (aA (aN ν ν ν ν ν aB (aJ ν ν ν ν (bA ν (af ν ν ν ν ν ν aE (aY ν ν ν aP (bZ ν bW ν ?_)))))))))))
  refine bK ν ν aB ν ν ν ν ν ν (aD (aC (aF ?_)))
  have hn3 := PR (any_none (gl k3.2 aE) (cD (xs := b.aO) (k := k6.1) aE))
  refine cH mixed ν (aN ν ν ν ν ν aB (aJ ν ν ν ν (ak ν ν ν ν ν aB (aq ν ν aB ν ν ν (dR ν ν ν ν ν ν aE aE (aJ ν ν ν ν (ak ν ν ν ν ν aB (aq ν ν aB ν ν ν (ah ν ν ν (dm ν ?_))))))))))
  refine bT 155 ν (fun hg => aH (ak ν ν ν ν ν aB (aD ν))) ?_
  refine bT 155 ν (fun hg => cJ 156 hg ν (aH (aq ν ν aB ν ν ν (aD ν)))) ?_
  refine bT 155 ν (fun hg => cJ 157 hg ν (aH (ah ν ν ν (aD ν)))) ?_
  refine bT 155 ν (fun hg => cJ 158 hg ν (aH (dm ν (aD ν)))) ?_
  refine gi 159 ν (fun hg1 hg2 => aH (aN ν ν ν ν ν aB (aD ν))) ?_
  refine gi 159 ν (fun hg1 hg2 => jS 160 hg1 hg2 ν (aH (aJ ν ν ν ν (aD ν)))) ?_
  refine gi 159 ν (fun hg1 hg2 => aH (ak ν ν ν ν ν aB (aD ν))) ?_
  refine gi 159 ν (fun hg1 hg2 => jS 162 hg1 hg2 ν (aH (aq ν ν aB ν ν ν (aD ν)))) ?_
  refine gi 159 ν (by intro hg1 hg2; apply bV (s := 161) ν tU; apply bV (s := 163) ν tU; apply aH; (refine dR ν ν ν ν ν ν (by have := of_decide_eq_true hg2; omega) (by have := of_decide_eq_true hg2; omega) ?_); refine aD ?_; exact ν) ?_
  refine gi 159 ν (fun hg1 hg2 => jS 164 hg1 hg2 ν (aH (aJ ν ν ν ν (aD ν)))) ?_
  refine gi 159 ν (fun hg1 hg2 => aH (ak ν ν ν ν ν aB (aD ν))) ?_
  refine gi 159 ν (fun hg1 hg2 => jS 166 hg1 hg2 ν (aH (aq ν ν aB ν ν ν (aD ν)))) ?_
  refine gi 159 ν (fun hg1 hg2 => jS 165 hg1 hg2 ν (jS 167 hg1 hg2 ν (aH (ah ν ν ν (aD ν))))) ?_
  refine bT 155 ν (by intro hg; apply bV (s := 159) ν dF; apply fW (s := 168) ν dF; apply aH; (refine dA ν ν ?_); refine aD ?_; exact ν) ?_
  refine eJ ν ν (aD ?_)
  refine ⟨by kernel_rfl, ?_⟩
  refine aC ?_
  refine cI ν (fun hc12 => ?_) (fun hc12 => ?_)
  ·refine aF (aA (bS ν (aD (aC (au (aZ (aK (aK (aZ (aK (bg ν ν ?_)))))))))))
   exact av rfl rfl (congrArg (Ty.int .i64) (by rw [iO, if_neg (ng (show sx b = false from hc1)), if_neg (ng (gl k1.2 aE)), if_neg (ng (gl k2.2 aE)), if_neg (ng (gl k3.2 aE)), if_neg (ng (mT k4.2 aE)), if_pos (pG (q := Az b) (k := k6.1) aE hc12)]))
  refine aX (bE (aC (aA (bA ν (bY ν ν aE aE (bS ν (aD ?_)))))))
  refine bG (⟨k6.1 + 1, gJ k6.2 aE hc12⟩) ?_ (by show b.aO.length - (k6.1 + 1) < b.aO.length - k6.1; omega)
  exact bt
 refine bQ (aI (aI (aS ν (aC (aF (aA (bS ν (aD (aC (au (bg ν ν ?_)))))))))))
 exact av rfl rfl (congrArg (Ty.int .i64) (by rw [iO, if_neg (ng (show sx b = false from hc1)), if_neg (ng (gl k1.2 aE)), if_neg (ng (gl k2.2 aE)), if_neg (ng (gl k3.2 aE)), if_neg (ng (mT k4.2 aE)), if_neg (ng (gl k6.2 aE))]))
end Go.Proofs.YtpnndljmhpepgaaGreat
namespace Go.Proofs.YtpnndljmhpepgaaGreat
open Go Go.T
set_option maxRecDepth 100000
set_option maxHeartbeats 4000000
attribute [local irreducible] iL fu pJ r9 jY jQ jL jI jT rF jJ q5 dy g6 q2 g7 r8 nth fS dG ay dO bodyPost Exit.then Exit.inBlock Code.wp Code.wpIn fy rS rB rq rL jU r5 fG iT qd cT cX bodyPostM eE
theorem Dd (l : List Int) (x : Int) : dO Tryz.prog 124 [Ty.sl cL l, Ty.int .i64 x] (Ty.int .i64 (fidx (fun y => decide (x = y)) l)) := by
 refine az Tryz.func124 ν aB Tryz.ntmps124 aP fun w0 M0 => ?_
 refine fV (s := 0) ν ν fY fun hl => ?_
 refine aF (aA (bS ν (aD (aC (aF (aF (aA (cM ν (bU ν ν ν (bA ν (aD (aC (aV ?_)))))))))))))
 refine bf (fun (k : {k : Nat // ∀ y ∈ l.take k, decide (x = y) = false}) => live [(0, Ty.sl cL l), (1, Ty.int .i64 x), (7, Ty.int .i64 l.length), (8, Ty.int .i64 (k.1 : Nat))] []) (fun k => l.length - k.1) (⟨0, by simp⟩) ?_ fun k => ?_
 ·exact bt
 refine aF (aA (ah ν ν ν (aD (aC (aF ?_)))))
 refine aU ν (fun hc1 => ?_) (fun hc1 => ?_)
 ·refine aX (aC (aF (aV (aF (aA (bA ν (bS ν (aD (aC (aF (aA (bA ν (cM ν (bA ν (af ν ν ν ν ν ν aE (aJ ν ν ν ν (ah ν ν ν (aD (aC ?_)))))))))))))))))))
  refine aU ν (fun hc2 => ?_) (fun hc2 => ?_)
  ·refine aF (aA (bA ν (bS ν (aD (aC (au (aZ (aK (aK (aZ (aK (bg ν ν ?_))))))))))))
   exact av rfl rfl (congrArg (Ty.int .i64) (by rw [lB (k := k.1) aE k.2 (by rw [← dS]; exact decide_eq_true hc2)]))
  refine aX (bE (aC (aA (bY ν ν aE aE (bA ν (aD ?_))))))
  refine bG (⟨k.1 + 1, by rw [cg aE]; intro y hy; rcases List.mem_append.1 hy with h | h; exact k.2 y h; rw [List.mem_singleton.1 h]; exact decide_eq_false hc2⟩) ?_ pV
  exact bt
 refine bQ (aI (aI (aS ν (aC (aF (aA (bS ν (aD (aC (au (bg ν ν ?_)))))))))))
 exact av rfl rfl (congrArg (Ty.int .i64) (by rw [nC D4]))
theorem yN (l : List Int) (x : Int) : dO Tryz.prog 87 [Ty.sl cL l, Ty.int .i64 x] (Ty.bool (decide (x ∈ l))) := by
 refine az Tryz.func87 ν aB Tryz.ntmps87 aP fun w0 M0 => ?_
 refine aF (aA (dN ν (aD (aC (aF (aA (cM ν (bA ν (aa (Dd l x) ν ν ν ν ν (ah ν ν ν (dN ν (aD (aC (au (bg ν ν ?_)))))))))))))))
 exact av rfl rfl (congrArg Ty.bool (Cz l x))
theorem Gh (b : aT) (hs : b.Small) (rings : List (List Int)) (hn : rings.length ≤ 1000) (hfl : rings.flatten.length ≤ 1000000) : dO Tryz.prog 32 [cU b, Ty.sl cY rings] (Ty.iF [Ty.int .i64 (kV b rings).1, Ty.int .i64 (kV b rings).2]) := by
 refine az Tryz.func32 ν aB Tryz.ntmps32 aP fun w0 M0 => ?_
 refine aF (aA (bF ν (bS ν (bS ν (aD (aC (aF (aF (aA (aY ν ν ν aP (aa (jC b hs) ν ν ν ν ν (bS ν (aD (aC (aF (aA (bA ν (ah ν ν ν (aD (aC ?_))))))))))))))))))))
 refine bw ν (fun hc1 => ?_) (fun hc1 => ?_)
 ·refine aF (aA (bA ν (bS ν (bS ν (aD (aC (au (aK ?_))))))))
  refine dc ν ν ν ?_ ?_
  all_goals first | exact av rfl rfl (congrArg (fun z : Int × Int => Ty.int .i64 z.1) (sP hc1).symm) | exact av rfl rfl (congrArg (fun z : Int × Int => Ty.int .i64 z.2) (sP hc1).symm)
 refine aX (aC (aF (aA (cM ν (aa (CP rings aE) ν ν ν ν ν (iX ν (aD (aC (aF (aF (aA (cM ν (aY ν ν ν aP (Ao ν ?_))))))))))))))
 refine aa (w7 rings.flatten (Ty.Ma 86 [cU b]) ν (fun n => b.bN n) ν ν fun x _ => Gf (EC b hs x) ν ν ν ν ν ν) ν ν ν ν ν ?_
 refine dW ν (aD (aC ?_))
 refine cI ν (fun hc2 => ?_) (fun hc2 => ?_)
 ·refine aF (aA (bS ν (bS ν (aD (aC (au (aK ?_)))))))
  refine dc ν ν ν ?_ ?_
  all_goals first | exact av rfl rfl (congrArg (fun z : Int × Int => Ty.int .i64 z.1) (eX hc1 (sI (wB _ hc2))).symm) | exact av rfl rfl (congrArg (fun z : Int × Int => Ty.int .i64 z.2) (eX hc1 (sI (wB _ hc2))).symm)
 refine aX (aC (aF (aF ?_)))
 have hoff : n5 b rings = false := wB _ hc2
 refine aA (cM ν (bU ν ν ν (bA ν (aD (aC (aV ?_))))))
 refine bf (fun (k : {k : Nat // ∀ i, i < k → decide (nth rings.flatten i ∈ rings.flatten.take i) = false}) => live [(1, Ty.sl cY rings), (2, Ty.pp (bL b)), (7, Ty.sl cL rings.flatten), (26, Ty.sl cL rings.flatten), (27, Ty.int .i64 rings.flatten.length), (28, Ty.int .i64 (k.1 : Nat))] []) (fun k => rings.flatten.length - k.1) (⟨0, fun i hi => absurd hi (Nat.not_lt_zero i)⟩) ?_ fun k => ?_
 ·exact bt
 refine aF (aA (ah ν ν ν (aD (aC (aF ?_)))))
 refine aU ν (fun hc3 => ?_) (fun hc3 => ?_)
 ·refine aX (aC (aF (aV (aF (aA (bA ν (af ν ν ν ν ν ν aE (aJ ν ν ν ν (bS ν (bS ν (aD (aC (aF (aA (cM ν (bA ν (vD ν ν ν ν ν ν aE (bA ν (aa (yN _ _) ν ν ν ν ν (aD (aC ?_)))))))))))))))))))))
  refine aU ν (fun hc4 => ?_) (fun hc4 => ?_)
  ·refine aF (aA (bS ν (bS ν (aD (aC (au (aZ (aK (aK (aZ (aK ?_)))))))))))
   refine dc ν ν ν ?_ ?_
   all_goals first | exact av rfl rfl (congrArg (fun z : Int × Int => Ty.int .i64 z.1) (eX hc1 (oM hoff (nr aE (decide_eq_true hc4)))).symm) | exact av rfl rfl (congrArg (fun z : Int × Int => Ty.int .i64 z.2) (eX hc1 (oM hoff (nr (k := k.1) aE (decide_eq_true hc4)))).symm)
  refine aX (bE (aC (aA (bY ν ν aE aE (bA ν (aD ?_))))))
  refine bG (⟨k.1 + 1, kS k.2 (decide_eq_false hc4)⟩) ?_ Od
  exact bt
 refine bQ (aI (aI (aS ν (aC (aF (aF ?_))))))
 have htw : wX rings.flatten = false := mT k.2 aE
 refine aA (cM ν (bU ν ν ν (bA ν (aD (aC (aV ?_))))))
 refine bf (fun (m : {m : Nat // ∀ l ∈ rings.take m, (!kJ b l) = false}) => live [(1, Ty.sl cY rings), (2, Ty.pp (bL b)), (39, Ty.sl cY rings), (40, Ty.int .i64 rings.length), (41, Ty.int .i64 (m.1 : Nat))] []) (fun m => rings.length - m.1) (⟨0, by simp⟩) ?_ fun m => ?_
 ·exact bt
 refine aF (aA (ah ν ν ν (aD (aC (aF ?_)))))
 refine aU ν (fun hc5 => ?_) (fun hc5 => ?_)
 ·refine aX (aC (aF (aV (aF (aA (af ν ν ν ν ν ν aE (aJ ν ν ν ν (iX ν (aD (aC (aF (aF (aA (cM ν (bU ν ν ν (ah ν ν ν (aD (aC ?_))))))))))))))))))
  refine aU ν (fun hc6 => ?_) (fun hc6 => ?_)
  ·refine aF (aA (bS ν (bS ν (aD (aC (au (aK (aZ (aK (aK (aZ (aK ?_))))))))))))
   refine dc ν ν ν ?_ ?_
   all_goals first | exact av rfl rfl (congrArg (fun z : Int × Int => Ty.int .i64 z.1) (eX hc1 (kB hoff htw (uq (m := m.1) aE (xR aE)))).symm) | exact av rfl rfl (congrArg (fun z : Int × Int => Ty.int .i64 z.2) (eX hc1 (kB hoff htw (uq (m := m.1) aE (xR aE)))).symm)
  refine aX (aC (aF (aA (cM ν (bU ν ν ν (bA ν (aD (aC (aV ?_)))))))))
  refine bf (fun (i : {i : Nat // ∀ j, j < i → q7 b (nth rings m.1) j = true}) => live [(1, Ty.sl cY rings), (2, Ty.pp (bL b)), (11, Ty.sl cL (nth rings m.1)), (39, Ty.sl cY rings), (40, Ty.int .i64 rings.length), (41, Ty.int .i64 (m.1 : Nat)), (48, Ty.sl cL (nth rings m.1)), (49, Ty.int .i64 (nth rings m.1).length), (50, Ty.int .i64 (i.1 : Nat))] []) (fun i => (nth rings m.1).length - i.1) (⟨0, fun i hi => absurd hi (Nat.not_lt_zero i)⟩) ?_ fun i => ?_
  ·exact bt
  refine aF (aA (ah ν ν ν (aD (aC (aF ?_)))))
  refine aU ν (fun hc7 => ?_) (fun hc7 => ?_)
  ·refine aX (aC (aF (aV (aF (aA (bA ν (af ν ν ν ν ν ν aE (aJ ν ν ν ν (bS ν (bS ν (aD (aC (aF ?_)))))))))))))
   have hri := Hz hoff (m := m.1) (i := i.1) aE aE
   have hrl := Lb (rings := rings) (m := m.1) aE
   refine cH mixed ν (aY ν ν ν aP (bA ν (aa (wF b (nth (nth rings m.1) i.1) hri) ν ν ν ν ν (cM ν (bA ν (bY ν ν aE aE (cM ν (bU ν ν ν ?_))))))))
   refine LY (k := i.1) ν ν aE ?_
   refine dR ν ν ν ν ν ν aE (by have := Nat.mod_lt (i.1 + 1) (show 0 < (nth rings m.1).length by omega); omega) ?_
   refine aJ ν ν ν ν (ah ν ν ν (aD ?_))
   refine ⟨by kernel_rfl, ?_⟩
   refine aC ?_
   refine bw ν (fun hc8 => ?_) (fun hc8 => ?_)
   ·refine aF (aA (bS ν (bS ν (aD (aC (au (aZ (aK (aK (aZ (aZ (aK (aK (aZ (aK ?_)))))))))))))))
    refine dc ν ν ν ?_ ?_
    all_goals first | exact av rfl rfl (congrArg (fun z : Int × Int => Ty.int .i64 z.1) (eX hc1 (kB hoff htw (uq (m := m.1) aE (oK (k := i.1) aE (decide_eq_false hc8))))).symm) | exact av rfl rfl (congrArg (fun z : Int × Int => Ty.int .i64 z.2) (eX hc1 (kB hoff htw (uq (m := m.1) aE (oK (k := i.1) aE (decide_eq_false hc8))))).symm)
   refine aX (bE (aC (aA (bY ν ν aE aE (bA ν (aD ?_))))))
   refine bG (⟨i.1 + 1, Fb i.2 (decide_eq_true hc8)⟩) ?_ (by show (nth rings m.1).length - (i.1 + 1) < (nth rings m.1).length - i.1; omega)
   exact bt
  refine bQ (aI (aI (aS ν (bE (aC (aA (bY ν ν aE aE (bA ν (aD ?_)))))))))
  refine bG (⟨m.1 + 1, JP aE m.2 aE (fun j hj => i.2 j aE)⟩) ?_ KZ
  exact bt
 refine bQ (aI (aI (aS ν (aC (aF ?_)))))
 have hwr : uE b rings = false := zi aE m.2
 have hml : (pN b).length ≤ b.aO.length := jW _ _
 have hs1 := hs.aO
 refine aA (aY ν ν ν aP (aa (Lo b hs) ν ν ν ν ν (bU ν ν ν (cM ν (bU ν ν ν (bY ν ν aE aE (bS ν (bS ν (aD (aC (au ?_)))))))))))
 refine dc ν ν ν ?_ ?_
 all_goals first | exact av rfl rfl (congrArg (fun z : Int × Int => Ty.int .i64 z.1) (eX hc1 (uV hoff htw hwr)).symm) | exact av rfl rfl (congrArg (fun z : Int × Int => Ty.int .i64 z.2) (eX hc1 (uV hoff htw hwr)).symm)
theorem LV (b : aT) (hs : b.Small) (hr : ∀ l ∈ b.aO, 0 ≤ l.inn ∧ -1 ≤ l.aim) (rings : List (List Int)) (hn : rings.length ≤ 1000) (hfl : rings.flatten.length ≤ 1000000) : dO Tryz.prog 58 [cU b, Ty.sl cY rings] (Ty.iF [Ty.int .i64 (ku b rings).1, Ty.int .i64 (ku b rings).2]) := by
 refine az Tryz.func58 ν aB Tryz.ntmps58 aP fun w0 M0 => ?_
 have hs1 := hs.aO
 refine aF (aA (bF ν (bS ν (bS ν (aD (aC (aF (aA (fm ν (aD (aC (aF (aF (aA (bS ν (aD (aC (aV ?_))))))))))))))))))
 refine bf (fun (k : {k : Nat // k ≤ rings.length}) => live [(1, Ty.sl cY rings), (2, Ty.pp (bL b)), (6, Ty.row cL 3 23 (rings.take k.1).flatten), (7, Ty.int .i64 (k.1 : Nat))] []) (fun k => rings.length - k.1) (⟨0, by omega⟩) ?_ fun k => ?_
 ·(refine dw.mk' ?_ ?_ <;> (repeat' (first | exact aQ | exact aR | refine aG ?_ (Ty.bC _) | refine aG ?_ (Ty.aM _) | refine aG ?_ Ty.gr)))
  all_goals exact gD rfl
 have hk := k.2
 have hm1 := gm rings (k.1 + 1)
 refine aF (aF (aA (bA ν (cM ν (bU ν ν ν (ah ν ν ν (aD (aC ?_))))))))
 refine aU ν (fun hc1 => ?_) (fun hc1 => ?_)
 ·refine aX (aC (aF (aV ?_)))
  have hf2 : (rings.take (k.1 + 1)).flatten.length = (rings.take k.1).flatten.length + (nth rings k.1).length := by rw [eu aE, List.length_append]
  refine aA (iy ν (cM ν (bA ν (af ν ν ν ν ν ν aE (aJ ν ν ν ν (cG ν ν aB ν ν ν ν ν ν aB l5 aE (iY ν (aD (bE (aC (aA (bA ν (bY ν ν aE aE (bS ν (aD ?_)))))))))))))))
  refine bG (⟨k.1 + 1, by omega⟩) ?_ (by show rings.length - (k.1 + 1) < rings.length - k.1; omega)
  (refine dw.mk' ?_ ?_ <;> (repeat' (first | exact aQ | exact aR | refine aG ?_ (Ty.bC _) | refine aG ?_ (Ty.aM _) | refine aG ?_ ?_)))
  all_goals exact Ty.cv (eu aE).symm
 refine bQ (aI (aI (aS ν (aC (aF (aF ?_))))))
 refine jA (tg := 23) [(6, Ty.sl cL (rings.take k.1).flatten)] aB rfl ⟨oQ rfl, trivial⟩ ?_
 refine fK (s := 6) rfl (Ty.fq (show (rings.take k.1).flatten = rings.flatten by rw [List.take_of_length_le aE])) ?_
 refine aA (bS ν (aD (aC (aV ?_))))
 refine bf (fun (j : {j : Nat // ∀ i, i < j → fZ (nth rings.flatten i) 0 (b.aO.length - 1) = false}) => live [(1, Ty.sl cY rings), (2, Ty.pp (bL b)), (6, Ty.sl cL rings.flatten), (8, Ty.int .i64 (j.1 : Nat))] []) (fun j => rings.flatten.length - j.1) (⟨0, fun i hi => absurd hi (Nat.not_lt_zero i)⟩) ?_ fun j => ?_
 ·exact bt
 refine aF (aF (aA (bA ν (cM ν (bU ν ν ν (ah ν ν ν (aD (aC ?_))))))))
 refine aU ν (fun hc2 => ?_) (fun hc2 => ?_)
 ·refine aX (aC (aF (aV (aF (cH mixed ν (cM ν (bA ν (af ν ν ν ν ν ν aE (aJ ν ν ν ν (aN ν ν ν ν ν aB (aJ ν ν ν ν (bU ν ν ν (ga ν ν aE aE (aa (sv _ _ _) ν ν ν ν ν (aD ?_)))))))))))))))
  refine ⟨by kernel_rfl, ?_⟩
  refine aC ?_
  refine cI ν (fun hc3 => ?_) (fun hc3 => ?_)
  ·refine aF (aA (bS ν (bS ν (aD (aC (au (aZ (aK (aK (aZ (aK ?_)))))))))))
   refine dc ν ν ν ?_ ?_
   all_goals first | exact av rfl rfl (congrArg (fun z : Int × Int => Ty.int .i64 z.1) (sI (pG (k := j.1) aE hc3)).symm) | exact av rfl rfl (congrArg (fun z : Int × Int => Ty.int .i64 z.2) (sI (pG (k := j.1) aE hc3)).symm)
  refine aX (bE (aC (aA (bA ν (bY ν ν aE aE (bS ν (aD ?_)))))))
  refine bG (⟨j.1 + 1, kS j.2 hc3⟩) ?_ (by show rings.flatten.length - (j.1 + 1) < rings.flatten.length - j.1; omega)
  exact bt
 refine bQ (aI (aI (aS ν (aC (aF (aF ?_))))))
 have hoff : n5 b rings = false := gl (k := rings.flatten.length) (fun x hx => by rw [List.take_length] at hx; obtain ⟨i, hi, rfl⟩ := fP hx; exact j.2 i aE) (Nat.le_refl _)
 refine aA (bS ν (aD (aC (aV ?_))))
 refine bf (fun (k : {k : Nat // ∀ i, i < k → decide (nth rings.flatten i ∈ rings.flatten.take i) = false}) => live [(1, Ty.sl cY rings), (2, Ty.pp (bL b)), (6, Ty.sl cL rings.flatten), (9, Ty.int .i64 (k.1 : Nat))] []) (fun k => rings.flatten.length - k.1) (⟨0, fun i hi => absurd hi (Nat.not_lt_zero i)⟩) ?_ fun k => ?_
 ·exact bt
 refine aF (aF (aA (bA ν (cM ν (bU ν ν ν (ah ν ν ν (aD (aC ?_))))))))
 refine aU ν (fun hc4 => ?_) (fun hc4 => ?_)
 ·refine aX (aC (aF (aV (aF (cH mixed ν (cM ν (bA ν (vD ν ν ν ν ν ν aE (cM ν (bA ν (af ν ν ν ν ν ν aE (aJ ν ν ν ν (aa (EN _ _) ν ν ν ν ν (aD ?_))))))))))))))
  refine ⟨by kernel_rfl, ?_⟩
  refine aC ?_
  refine aU ν (fun hc5 => ?_) (fun hc5 => ?_)
  ·refine aF (aA (bS ν (bS ν (aD (aC (au (aZ (aK (aK (aZ (aK ?_)))))))))))
   refine dc ν ν ν ?_ ?_
   all_goals first | exact av rfl rfl (congrArg (fun z : Int × Int => Ty.int .i64 z.1) (oM hoff (nr (k := k.1) aE (decide_eq_true hc5))).symm) | exact av rfl rfl (congrArg (fun z : Int × Int => Ty.int .i64 z.2) (oM hoff (nr (k := k.1) aE (decide_eq_true hc5))).symm)
  refine aX (bE (aC (aA (bA ν (bY ν ν aE aE (bS ν (aD ?_)))))))
  refine bG (⟨k.1 + 1, kS k.2 (decide_eq_false hc5)⟩) ?_ Od
  exact bt
 refine bQ (aI (aI (aS ν (aC (aF (aF ?_))))))
 have htw : wX rings.flatten = false := mT k.2 aE
 refine aA (bS ν (aD (aC (aV ?_))))
 refine bf (fun (m : {m : Nat // ∀ l ∈ rings.take m, (!kJ b l) = false}) => live [(1, Ty.sl cY rings), (2, Ty.pp (bL b)), (10, Ty.int .i64 (m.1 : Nat))] []) (fun m => rings.length - m.1) (⟨0, by simp⟩) ?_ fun m => ?_
 ·exact bt
 refine aF (aF (aA (bA ν (cM ν (bU ν ν ν (ah ν ν ν (aD (aC ?_))))))))
 refine aU ν (fun hc6 => ?_) (fun hc6 => ?_)
 ·refine aX (aC (aF (aV (aF (cH mixed ν (aY ν ν ν aP (cM ν (bA ν (af ν ν ν ν ν ν aE (aJ ν ν ν ν (aa (Hg b hs (nth rings m.1) (KH hoff aE)) ν ν ν ν ν (dW ν (aD ?_)))))))))))))
  refine ⟨by kernel_rfl, ?_⟩
  refine aC ?_
  refine cI ν (fun hc7 => ?_) (fun hc7 => ?_)
  ·refine aF (aA (bS ν (bS ν (aD (aC (au (aZ (aK (aK (aZ (aK ?_)))))))))))
   refine dc ν ν ν ?_ ?_
   all_goals first | exact av rfl rfl (congrArg (fun z : Int × Int => Ty.int .i64 z.1) (kB hoff htw (pG (k := m.1) aE hc7)).symm) | exact av rfl rfl (congrArg (fun z : Int × Int => Ty.int .i64 z.2) (kB hoff htw (pG (k := m.1) aE hc7)).symm)
  refine aX (bE (aC (aA (bA ν (bY ν ν aE aE (bS ν (aD ?_)))))))
  refine bG (⟨m.1 + 1, gJ m.2 aE hc7⟩) ?_ KZ
  exact bt
 refine bQ (aI (aI (aS ν (aC (aF ?_)))))
 have hwr : uE b rings = false := zi aE m.2
 have hml : (pN b).length ≤ b.aO.length := jW _ _
 refine aA (aY ν ν ν aP (aa (Hq b hs hr) ν ν ν ν ν (bU ν ν ν (cM ν (bU ν ν ν (bY ν ν aE aE (bS ν (bS ν (aD (aC (au ?_)))))))))))
 refine dc ν ν ν ?_ ?_
 all_goals first | exact av rfl rfl (congrArg (fun z : Int × Int => Ty.int .i64 z.1) (uV hoff htw hwr).symm) | exact av rfl rfl (congrArg (fun z : Int × Int => Ty.int .i64 z.2) (uV hoff htw hwr).symm)
end Go.Proofs.YtpnndljmhpepgaaGreat
namespace Go.Proofs.YtpnndljmhpepgaaGreat
open Go Go.T
def tX : aT := ⟨[], []⟩
def fU (b : aT) (t : bX) : List oF := b.aO.set t.bN.toNat { nth b.aO t.bN.toNat with inn := t.aim }
def bu (b : aT) (t : bX) : aT × Int :=
  if (!b.bN t.bN || !b.bin t.aim) = true then (tX, 1) else if b.free t.aim = false then (tX, 5) else if b.hold t.aim t.bN = false then (tX, 9) else (⟨b.sizes, fU b t⟩, 0)
theorem nS {b : aT} {t : bX} (h : (!b.bN t.bN || !b.bin t.aim) = true) : bu b t = (tX, 1) := if_pos h
theorem nM {b : aT} {t : bX} (h : (!b.bN t.bN || !b.bin t.aim) = false) (h2 : b.free t.aim = false) : bu b t = (tX, 5) := by unfold bu; rw [if_neg oz, if_pos h2]
theorem n8 {b : aT} {t : bX} (h : (!b.bN t.bN || !b.bin t.aim) = false) (h2 : b.free t.aim = true) (h3 : b.hold t.aim t.bN = false) : bu b t = (tX, 9) := by unfold bu; rw [if_neg oz, if_neg (by rw [h2]; decide), if_pos h3]
theorem lS {b : aT} {t : bX} (h : (!b.bN t.bN || !b.bin t.aim) = false) (h2 : b.free t.aim = true) (h3 : b.hold t.aim t.bN = true) : bu b t = (⟨b.sizes, fU b t⟩, 0) := by unfold bu; rw [if_neg oz, if_neg (by rw [h2]; decide), if_neg (by rw [h3]; decide)]
theorem pS {b : aT} {t : bX} (h : (!b.bN t.bN || !b.bin t.aim) = false) : (0 ≤ t.bN ∧ t.bN < b.aO.length) ∧ 0 ≤ t.aim ∧ t.aim < b.sizes.length := by
 simp only [Bool.or_eq_false_iff, Bool.not_eq_false', aT.bN, aT.bin, fE] at h; omega
theorem lI {b : aT} {t : bX} : (bu b t).2 = 0 → (0 ≤ t.bN ∧ t.bN < b.aO.length) ∧ (0 ≤ t.aim ∧ t.aim < b.sizes.length) ∧ b.free t.aim = true ∧ b.hold t.aim t.bN = true ∧ (bu b t).1 = ⟨b.sizes, fU b t⟩ := by
  intro h
  cases h1 : (!b.bN t.bN || !b.bin t.aim) with
  | true => rw [nS h1] at h; cases h
  | false =>
    cases h2 : b.free t.aim with
    | false => rw [nM h1 h2] at h; cases h
    | true =>
      cases h3 : b.hold t.aim t.bN with
      | false => rw [n8 h1 h2 h3] at h; cases h
      | true => have := pS h1; rw [lS h1 h2 h3]; exact ⟨this.1, this.2, rfl, rfl, rfl⟩
def e9 (cur : aT) (back : List bX) : List bX → aT × List bX × Int
  | [] => (cur, back.reverse, 0)
  | t :: l => if (bu cur t).2 = 0 then e9 (bu cur t).1 (back ++ [⟨t.bN, (nth cur.aO t.bN.toNat).inn⟩]) l else (tX, [], (bu cur t).2)
def bz (b : aT) (plan : List bX) : aT × List bX × Int :=
  if bH b = 0 then if (plan.length : Int) > 6000 then (tX, [], 2) else e9 b [] plan else (tX, [], bH b)
structure Me (b : aT) (plan : List bX) (k : Nat) (cur : aT) (back : List bX) : Prop where
  same : e9 b [] plan = e9 cur back (plan.drop k)
  sizes : cur.sizes = b.sizes
  aO : cur.aO.length = b.aO.length
  len : back.length = k
  le : k ≤ plan.length
theorem PV (b : aT) (plan : List bX) : Me b plan 0 b [] := ⟨by rw [List.drop_zero], rfl, rfl, rfl, Nat.zero_le _⟩
section
variable {b : aT} {plan : List bX} {k : Nat} {cur : aT} {back : List bX} (h : Me b plan k cur back)
include h
theorem Me.small (hs : b.Small) : cur.Small := ⟨by rw [h.sizes]; exact hs.sizes, by rw [h.aO]; exact hs.aO⟩
theorem Me.stop (hk : k < plan.length) (he : ¬ (bu cur (nth plan k)).2 = 0) : e9 b [] plan = (tX, [], (bu cur (nth plan k)).2) := by
 rw [h.same, lu hk]; exact if_neg he
theorem Me.next (hk : k < plan.length) (he : (bu cur (nth plan k)).2 = 0) : Me b plan (k + 1) (bu cur (nth plan k)).1 (back ++ [⟨(nth plan k).bN, (nth cur.aO (nth plan k).bN.toNat).inn⟩]) := by
 obtain ⟨_, _, _, _, e⟩ := lI he
 refine ⟨?_, by rw [e]; exact h.sizes, by rw [e]; show (fU _ _).length = _; unfold fU; rw [List.length_set]; exact h.aO, by rw [List.length_append, h.len]; rfl, by omega⟩
 rw [h.same, lu hk]; exact if_pos he
theorem Me.end (hk : plan.length ≤ k) : e9 b [] plan = (cur, back.reverse, 0) := by
 rw [h.same, List.drop_of_length_le hk]; rfl
end
theorem gM {b : aT} {plan : List bX} (h : ¬ bH b = 0) : bz b plan = (tX, [], bH b) := if_neg h
theorem fC {b : aT} {plan : List bX} (h : bH b = 0) (h2 : (plan.length : Int) > 6000) : bz b plan = (tX, [], 2) := (if_pos h).trans (if_pos h2)
theorem eB {b : aT} {plan : List bX} (h : bH b = 0) (h2 : ¬ (plan.length : Int) > 6000) {x : aT × List bX × Int} (e : e9 b [] plan = x) : bz b plan = x := (if_pos h).trans ((if_neg h2).trans e)
def Co (b : aT) : Bool := b.aO.all fun l => decide (l.aim = -1) || decide (l.aim = l.inn)
def iR (b : aT) (plan : List bX) : Bool := decide ((bz b plan).2.2 = 0) && Co (bz b plan).1
def kg (b : aT) (plan : List bX) (k : Nat) : Int := fF (dM b) (plan.take k)
theorem qO {b : aT} {plan : List bX} {k : Nat} (hk : k < plan.length) : kg b plan (k + 1) = kg b plan k + (nth b.aO (nth plan k).bN.toNat).bh := by
 unfold kg; rw [cg hk, e6, jg]; rfl
end Go.Proofs.YtpnndljmhpepgaaGreat
namespace Go.Proofs.YtpnndljmhpepgaaGreat
open Go Go.T
set_option maxRecDepth 100000
set_option maxHeartbeats 4000000
theorem NO : (Ty.agg [Ty.ex (.slice none 0 0), Ty.ex (.slice none 0 0)]).Sub (cU tX) := fun w M v ⟨cs, e, h⟩ => by
  obtain ⟨cs⟩ := cs
  match cs, h with
  | [_, _], ⟨h1, h2, _⟩ => exact ⟨_, e, Ty.nv w M _ h1, Ty.nv w M _ h2, trivial⟩
theorem vi {x : aT} (h : x = tX) : fJ (Ty.agg [Ty.ex (.slice none 0 0), Ty.ex (.slice none 0 0)]) (cU x) := by subst h; exact vX rfl rfl NO
attribute [local irreducible] iL fu pJ r9 jY jQ jL jI jT rF jJ q5 dy g6 q2 g7 r8 nth fS dG ay dO bodyPost Exit.then Exit.inBlock Code.wp Code.wpIn fy rS rB rq rL jU r5 fG iT qd cT cX bodyPostM eE
theorem MC (b : aT) (hs : b.Small) (t : bX) : dO Tryz.prog 126 [cU b, Ty.agg (bq.tys t)] (Ty.iF [cU (bu b t).1, Ty.int .i64 (bu b t).2]) := by
 refine az Tryz.func126 ν aB Tryz.ntmps126 aP fun w0 M0 => ?_
 refine aF (aA (bF ν (bF ν (bZ ν bW ν (bS ν (aD (aC (aF (aV (aF (aA (aY ν ν ν aP (aN ν ν ν ν ν aB (aJ ν ν ν ν (aa (EC b hs _) ν ν ν ν ν (dW ν (dm ν ?_)))))))))))))))))
 refine bT 13 ν (fun hg => aH (aY ν ν ν aP (aD ν))) ?_
 refine bT 13 ν (fun hg => aH (aN ν ν ν ν ν aB (aD ν))) ?_
 refine bT 13 ν (fun hg => cJ 15 hg ν (aH (aJ ν ν ν ν (aD ν)))) ?_
 refine bT 13 ν (fun hg => cJ 14 hg ν (cJ 16 hg ν (aH (aa (DF b hs _) ν ν ν ν ν (aD ν))))) ?_
 refine bT 13 ν (fun hg => cJ 17 hg ν (aH (dW ν (aD ν)))) ?_
 refine eJ ν ν (dN ν (aD (aC ?_)))
 refine cI ν (fun hc1 => ?_) (fun hc1 => ?_)
 ·refine aF (aA (cC ν ν bW ν kf eU ?_))
  refine bK ν ν aB ν ν ν ν ν ν (bS ν (aD (aC (au (aZ (aK ?_))))))
  refine um ν ν ν ν ν aB ν ν ν ?_ ?_
  all_goals first | exact vi (congrArg Prod.fst (nS hc1)) | exact av rfl rfl (congrArg (fun z : aT × Int => Ty.int .i64 z.2) (nS hc1).symm)
 refine aF (aA (aY ν ν ν aP (aN ν ν ν ν ν aB (aJ ν ν ν ν (aa (GQ b _) ν ν ν ν ν (dW ν (dN ν (aD (aC ?_)))))))))
 refine cI ν (fun hc2 => ?_) (fun hc2 => ?_)
 ·refine aF (aA (cC ν ν bW ν kf eU ?_))
  refine bK ν ν aB ν ν ν ν ν ν (bS ν (aD (aC (au (aZ (aK ?_))))))
  refine um ν ν ν ν ν aB ν ν ν ?_ ?_
  all_goals first | exact vi (congrArg Prod.fst (nM hc1 (oL hc2))) | exact av rfl rfl (congrArg (fun z : aT × Int => Ty.int .i64 z.2) (nM hc1 (oL hc2)).symm)
 refine aF ?_
 have hkn := pS hc1
 have hs1 := hs.aO
 refine aA (aY ν ν ν aP (aN ν ν ν ν ν aB (aJ ν ν ν ν (aN ν ν ν ν ν aB (aJ ν ν ν ν (aa (oN b t.aim t.bN hkn.2 hkn.1) ν ν ν ν ν (dW ν (dN ν (aD (aC ?_))))))))))
 refine bw ν (fun hc3 => ?_) (fun hc3 => ?_)
 ·refine aF (aA (cC ν ν bW ν kf eU ?_))
  refine bK ν ν aB ν ν ν ν ν ν (bS ν (aD (aC (au (aZ (aK ?_))))))
  refine um ν ν ν ν ν aB ν ν ν ?_ ?_
  all_goals first | exact vi (congrArg Prod.fst (n8 hc1 (dg hc2) (decide_eq_false hc3))) | exact av rfl rfl (congrArg (fun z : aT × Int => Ty.int .i64 z.2) (n8 hc1 (dg hc2) (decide_eq_false hc3)).symm)
 refine aX (bE (aC (aF ?_)))
 have hkn := pS hc1
 have hs1 := hs.aO
 refine aA (aN ν ν ν ν ν aB (aJ ν ν ν ν (bU ν ν ν ?_)))
 refine xd (E := cZ) (x0 := ⟨0, 0, 0⟩) ν ν ν ν ν ν ν aB ν aE l5 aE ?_
 refine Pe ν (aD (aC (aF (aA (vZ ν (aN ν ν ν ν ν aB (aJ ν ν ν ν (N1 ν ν ν aB ν ν ν ν bp aE (aD (aC (aF ?_)))))))))))
 refine kr (tg := 41) rfl (Cont.jB (show b.aO ++ List.drop b.aO.length (List.replicate ((b.aO.length : Int)).toNat (⟨0, 0, 0⟩ : oF)) = b.aO by rw [List.drop_of_length_le bB, List.append_nil])) ?_
 refine aA (vZ ν (aN ν ν ν ν ν aB (aJ ν ν ν ν (aN ν ν ν ν ν aB (aJ ν ν ν ν (eZ ν ν ν ν ν hkn.1.1 aE (ak ν ν ν ν ν aB ?_)))))))
 refine kU (E := cZ) (z := ⟨(nth b.aO t.bN.toNat).bh, t.aim, (nth b.aO t.bN.toNat).aim⟩) ν ν ν aB ν ν gR ν aE aB ν ν ?_
 refine aD (aC (aF ?_))
 refine jA (tg := 41) [(6, Ty.sl cZ (fU b t))] aB rfl ⟨l6 rfl rfl (by simp [fU]) aB, trivial⟩ ?_
 refine aA (aN ν ν ν ν ν aB (aJ ν ν ν ν (cM ν (cC ν ν bW ν oD eU ?_))))
 refine bK ν ν aB ν ν ν ν ν ν (bS ν (aD (aC (au ?_))))
 refine um ν ν ν ν ν aB ν ν ν ?_ ?_
 all_goals first | exact av rfl rfl (congrArg (fun z : aT × Int => cU z.1) (lS hc1 (dg hc2) (decide_eq_true aE)).symm) | exact av rfl rfl (congrArg (fun z : aT × Int => Ty.int .i64 z.2) (lS hc1 (dg hc2) (decide_eq_true aE)).symm)
theorem GR (b : aT) (hs : b.Small) (plan : List bX) (hp : plan.length ≤ 1000000) : dO Tryz.prog 89 [cU b, Ty.sl bq plan] (Ty.iF [cU (bz b plan).1, Ty.sl bq (bz b plan).2.1, Ty.int .i64 (bz b plan).2.2]) := by
 refine az Tryz.func89 ν aB Tryz.ntmps89 aP fun w0 M0 => ?_
 refine aF (aA (bF ν (bZ ν bW ν (fm ν (bS ν (aD (aC (aF (aF (aA (aY ν ν ν aP (aa (jC b hs) ν ν ν ν ν (bS ν (aD (aC (aF (aA (bA ν (ah ν ν ν (aD (aC ?_)))))))))))))))))))))
 refine bw ν (fun hc1 => ?_) (fun hc1 => ?_)
 ·refine aF (aA (cC ν ν bW ν kf eU ?_))
  refine bA ν (bK ν ν aB ν ν ν ν ν ν (fm ν (bS ν (aD (aC (au (aK ?_)))))))
  refine uM ν ν ν ν ν ν aB ν ν ν ?_ ?_ ?_
  all_goals first | exact vi (congrArg Prod.fst (gM hc1)) | exact cy (congrArg (fun z : aT × List bX × Int => z.2.1) (gM hc1)) | exact av rfl rfl (congrArg (fun z : aT × List bX × Int => Ty.int .i64 z.2.2) (gM hc1).symm)
 refine aX (aC (aF (aF (aA (cM ν (bU ν ν ν (ah ν ν ν (aD (aC ?_)))))))))
 refine aU ν (fun hc2 => ?_) (fun hc2 => ?_)
 ·refine aF (aA (cC ν ν bW ν kf eU ?_))
  refine bK ν ν aB ν ν ν ν ν ν (fm ν (bS ν (aD (aC (au (aK ?_))))))
  refine uM ν ν ν ν ν ν aB ν ν ν ?_ ?_ ?_
  all_goals first | exact vi (congrArg Prod.fst (fC hc1 hc2)) | exact cy (congrArg (fun z : aT × List bX × Int => z.2.1) (fC hc1 hc2)) | exact av rfl rfl (congrArg (fun z : aT × List bX × Int => Ty.int .i64 z.2.2) (fC hc1 hc2).symm)
 refine aX (aC (aF (aA (fm ν (aD (aC (aF (cH mixed ν (aN ν ν ν ν ν aB (aJ ν ν ν ν (aa (DY b.sizes E7) ν ν ν ν ν ?_)))))))))))
 refine aN ν ν ν ν ν aB (aJ ν ν ν ν (aa (EZ b.aO Fu) ν ν ν ν ν ?_))
 refine cC ν ν bW ν oD eU ?_
 refine bZ ν bW ν (bK ν ν aB ν ν ν ν ν ν (aD ?_))
 refine ⟨by kernel_rfl, ?_⟩
 refine aC (aF (aF (aA (cM ν (bU ν ν ν (bA ν (aD (aC (aV ?_)))))))))
 refine bf (fun (x : {x : Nat × aT × List bX // Me b plan x.1 x.2.1 x.2.2}) => live [(4, Ty.ptr 5 0), (8, Ty.row bq 37 60 x.1.2.2), (9, Ty.ptr 10 0), (31, Ty.sl bq plan), (32, Ty.int .i64 plan.length), (33, Ty.int .i64 (x.1.1 : Nat))] [(5, Cont.cells 25 [Ty.ex (.slice none 0 0), Ty.ex (.slice none 0 0)]), (10, Cont.cells 25 (bL x.1.2.1))]) (fun x => plan.length - x.1.1) (⟨(0, b, []), PV b plan⟩) ?_ fun x => ?_
 ·exact BD
 have hxl := x.2.len
 refine aF (aA (ah ν ν ν (aD (aC (aF ?_)))))
 refine aU ν (fun hc3 => ?_) (fun hc3 => ?_)
 ·refine aX (aC (aF (aV (aF (aA (af ν ν ν ν ν ν aE (aY ν ν ν aP (bZ ν bW ν ?_))))))))
  refine bK ν ν aB ν ν ν ν ν ν (aD (aC (aF (aA (aW ν ν aB ν ν aP (aW ν ν aB ν ν aP ?_))))))
  refine aa (MC x.1.2.1 (x.2.small hs) (nth plan x.1.1)) ν ν ν ν ν (ke ν (aj ν ν (aj ν ν (bZ ν bW ν ?_))))
  refine bK ν ν aB ν ν ν ν ν ν (bS ν (aD ?_))
  refine aC (aF (aF (aA (bA ν (ah ν ν ν (aD (aC ?_)))))))
  refine bw ν (fun hc4 => ?_) (fun hc4 => ?_)
  ·refine aF (aA (cC ν ν bW ν kf eU ?_))
   refine bA ν (bK ν ν aB ν ν ν ν ν ν (fm ν (bS ν (aD (aC (au (aK (aZ (aK (aK (aZ (aK ?_))))))))))))
   refine uM ν ν ν ν ν ν aB ν ν ν ?_ ?_ ?_
   all_goals first | exact vi (congrArg Prod.fst (eB hc1 hc2 (x.2.stop aE hc4))) | exact cy (congrArg (fun z : aT × List bX × Int => z.2.1) (eB hc1 hc2 (x.2.stop aE hc4))) | exact av rfl rfl (congrArg (fun z : aT × List bX × Int => Ty.int .i64 z.2.2) (eB hc1 hc2 (x.2.stop aE hc4)).symm)
  refine aX (aC (aF ?_))
  obtain ⟨hk1, hk2, hk3, hk4, hk5⟩ := lI hc4
  refine cH mixed ν (iy ν (ak ν ν ν ν ν aB (aq ν ν aB ν ν ν (ak ν ν ν ν ν aB (aq ν ν aB ν ν ν (ak ν ν ν ν ν aB (aq ν ν aB ν ν ν (dR ν ν ν ν ν ν hk1.1 aE (aN ν ν ν ν ν aB (aJ ν ν ν ν (cC ν ν bW ν dn eU ?_)))))))))))
  refine bD (E := bq) (xs := [⟨(nth plan x.1.1).bN, (nth x.1.2.1.aO (nth plan x.1.1).bN.toNat).inn⟩]) ν ν ν ν ν aB aB mH bn ν ?_
  refine cG ν ν aB ν ν ν ν ν ν aB bp bp (iY ν (aD ?_))
  refine ⟨by kernel_rfl, ?_⟩
  refine aC (aA (aW ν ν aB ν ν aP ?_))
  refine bK ν ν aB ν ν ν ν ν ν (aD (bE (aC (aA (bY ν ν aE aE (bA ν (aD ?_)))))))
  refine bG (⟨(x.1.1 + 1, (bu x.1.2.1 (nth plan x.1.1)).1, x.1.2.2 ++ [⟨(nth plan x.1.1).bN, (nth x.1.2.1.aO (nth plan x.1.1).bN.toNat).inn⟩]), x.2.next aE hc4⟩) ?_ Jp
  exact dK
 refine bQ (aI (aI (aS ν (aC (aF ?_)))))
 have hxe := x.2.le
 refine zq (s := 8) ν ν ?_
 refine aA (vZ ν ?_)
 refine fM [(60, 1000)] [] [(60, Cont.vec bq 37 x.1.2.2.reverse)] (s6 x.1.2.2 aE) ν ν LC (lf (a := 60) (b := 1000) gU ν (dP gU ν) pre_nil) (gj (a := 60) (b := 1000) gU ν (dP gU ν) post_nil) (iC ν ν) ?_
 refine aD (aC (aF ?_))
 refine jA (tg := 60) [(8, Ty.sl bq x.1.2.2.reverse)] aB rfl ⟨l6 rfl rfl E8 aB, trivial⟩ ?_
 refine aA (aW ν ν aB ν ν aP (cM ν (bK ν ν aB ν ν ν ν ν ν (iX ν (bS ν (aD (aC (au ?_))))))))
 refine uM ν ν ν ν ν ν aB ν ν ν ?_ ?_ ?_
 all_goals first | exact av rfl rfl (congrArg (fun z : aT × List bX × Int => cU z.1) (eB hc1 hc2 (x.2.end aE)).symm) | exact av rfl rfl (congrArg (fun z : aT × List bX × Int => Ty.sl bq z.2.1) (eB hc1 hc2 (x.2.end aE)).symm) | exact av rfl rfl (congrArg (fun z : aT × List bX × Int => Ty.int .i64 z.2.2) (eB hc1 hc2 (x.2.end aE)).symm)
theorem KP (l : oF) : dO Tryz.prog 128 [Ty.agg (cZ.tys l)] (Ty.bool (decide (l.aim = -1) || decide (l.aim = l.inn))) := by
 refine az Tryz.func128 ν aB Tryz.ntmps128 aP fun w0 M0 => ?_
 refine aF (aA (bF ν (dN ν (aD (aC (aF (aA (aN ν ν ν ν ν aB (aJ ν ν ν ν (ah ν ν ν (dm ν ?_)))))))))))
 refine bT 6 ν (fun hg => aH (aN ν ν ν ν ν aB (aD ν))) ?_
 refine bT 6 ν (fun hg => cJ 7 hg ν (aH (aJ ν ν ν ν (aD ν)))) ?_
 refine bT 6 ν (fun hg => aH (aN ν ν ν ν ν aB (aD ν))) ?_
 refine bT 6 ν (fun hg => cJ 9 hg ν (aH (aJ ν ν ν ν (aD ν)))) ?_
 refine bT 6 ν (fun hg => cJ 8 hg ν (cJ 10 hg ν (aH (ah ν ν ν (aD ν))))) ?_
 refine eJ ν ν (dN ν (aD (aC (au (bg ν ν ?_)))))
 all_goals exact b9 rfl rfl
theorem Nt (b : aT) : dO Tryz.prog 90 [cU b] (Ty.bool (Co b)) := by
 refine az Tryz.func90 ν aB Tryz.ntmps90 aP fun w0 M0 => ?_
 refine aF (aA (bF ν (dN ν (aD (aC (aF (aA (aN ν ν ν ν ν aB (aJ ν ν ν ν ?_)))))))))
 refine aa (ot b.aO (Ty.so 128 []) ν (fun l => decide (l.aim = -1) || decide (l.aim = l.inn)) ν ν fun x _ => gY (KP x) ν ν ν ν ν ν) ν ν ν ν ν ?_
 refine dN ν (aD (aC (au (bg ν ν ?_))))
 all_goals exact b9 rfl rfl
theorem Gr (b : aT) (hs : b.Small) (plan : List bX) (hp : plan.length ≤ 1000000) : dO Tryz.prog 33 [cU b, Ty.sl bq plan] (Ty.iF [Ty.bool (iR b plan), Ty.int .i64 (bz b plan).2.2]) := by
 refine az Tryz.func33 ν aB Tryz.ntmps33 aP fun w0 M0 => ?_
 refine aF (aA (bF ν (dN ν (bS ν (aD (aC (aF (aA (aY ν ν ν aP (cM ν (aa (GR b hs plan hp) ν ν ν ν ν (ke ν (aj ν ν (aj ν ν (aj ν ν (bZ ν bW ν ?_))))))))))))))))
 refine bK ν ν aB ν ν ν ν ν ν (iX ν (bS ν (aD (aC (aF (aA ?_))))))
 refine bA ν (ah ν ν ν (dm ν ?_))
 refine bT 18 ν (fun hg => aH (aW ν ν aB ν ν aP (aD ν))) ?_
 refine bT 18 ν (fun hg => cJ 19 hg ν (aH (aa (Nt _) ν ν ν ν ν (aD ν)))) ?_
 refine dA ν ν (bA ν (dN ν (bS ν (aD (aC (au ?_))))))
 refine dc ν ν ν ?_ ?_
 all_goals exact b9 rfl rfl
theorem Pt (b : aT) (hs : b.Small) (plan : List bX) (hp : plan.length ≤ 1000000) : dO Tryz.prog 68 [cU b, Ty.sl bq plan] (Ty.iF [Ty.sl bq (bz b plan).2.1, Ty.int .i64 (bz b plan).2.2]) := by
 refine az Tryz.func68 ν aB Tryz.ntmps68 aP fun w0 M0 => ?_
 refine aF (aA (bF ν (fm ν (bS ν (aD (aC (aF (aA (aY ν ν ν aP (cM ν (aa (GR b hs plan hp) ν ν ν ν ν (ke ν (aj ν ν (aj ν ν (aj ν ν (bZ ν bW ν ?_))))))))))))))))
 refine bK ν ν aB ν ν ν ν ν ν (iX ν (bS ν (aD (aC (aF (aA ?_))))))
 refine cM ν (bA ν (iX ν (bS ν (aD (aC (au ?_))))))
 refine dc ν ν ν ?_ ?_
 all_goals exact b9 rfl rfl
end Go.Proofs.YtpnndljmhpepgaaGreat
namespace Go.Proofs.YtpnndljmhpepgaaGreat
open Go Go.T
def oS (b : aT) (p : Pl) (l : List bX) (k bN : Nat) : Bool := (gh b p k || !b.hold k bN) || l.any fun t => decide (t.aim = (k : Int))
def CU (b : aT) (p : Pl) (g : Int) : Nat → List bX → Nat → List (List bX)
  | 0, l, _ => [l]
  | m + 1, l, bN => if (l.length : Int) = g then [l] else ((List.range b.sizes.length).flatMap fun k => if oS b p l k bN = true then [] else CU b p g m (l ++ [⟨bN, k⟩]) (bN + 1)) ++ CU b p g m l (bN + 1)
def fQ (b : aT) (p : Pl) (g : Int) (l : List bX) (bN : Nat) : List (List bX) := CU b p g (b.aO.length - bN) l bN
def wN (b : aT) (p : Pl) (g : Int) (l : List bX) (bN k : Nat) : List (List bX) := if oS b p l k bN = true then [] else fQ b p g (l ++ [⟨bN, k⟩]) (bN + 1)
def roundUp (b : aT) (p : Pl) (g : Int) (l : List bX) (bN n : Nat) : List (List bX) := (List.range n).flatMap (wN b p g l bN)
variable {b : aT} {p : Pl} {g : Int} {l : List bX} {bN : Nat}
theorem jz (h : (decide ((bN : Int) = b.aO.length) || decide ((l.length : Int) = g)) = true) : fQ b p g l bN = [l] := by
 simp only [Bool.or_eq_true, decide_eq_true_eq] at h
 unfold fQ
 by_cases e : b.aO.length - bN = 0
 ·rw [e]; rfl
 obtain ⟨m, hm⟩ : ∃ m, b.aO.length - bN = m + 1 := ⟨b.aO.length - bN - 1, by omega⟩
 rw [hm]; exact if_pos aE
theorem p7 (hl : bN < b.aO.length) (h : ¬ (l.length : Int) = g) : fQ b p g l bN = roundUp b p g l bN b.sizes.length ++ fQ b p g l (bN + 1) := by
 unfold fQ
 obtain ⟨m, hm⟩ : ∃ m, b.aO.length - bN = m + 1 := ⟨b.aO.length - bN - 1, by omega⟩
 have hm' : b.aO.length - (bN + 1) = m := by omega
 rw [hm, hm']
 show (if (l.length : Int) = g then _ else _) = _
 rw [if_neg h]
 congr 1
 unfold roundUp
 congr 1
 funext k
 unfold wN fQ
 rw [hm']
theorem qP (n : Nat) : roundUp b p g l bN (n + 1) = roundUp b p g l bN n ++ wN b p g l bN n := by
 unfold roundUp; rw [List.range_succ, List.flatMap_append]; simp
theorem vn {k : Nat} (h : oS b p l k bN = true) : wN b p g l bN k = [] := if_pos h
theorem k8 {k : Nat} (h : oS b p l k bN = false) : wN b p g l bN k = fQ b p g (l ++ [⟨bN, k⟩]) (bN + 1) := if_neg oz
theorem Df {n : Nat} (h : n ≤ b.sizes.length) : roundUp b p g l bN n <+: roundUp b p g l bN b.sizes.length := by
 obtain ⟨r, e⟩ := range_split h
 unfold roundUp
 rw [e, List.flatMap_append]; exact List.prefix_append _ _
def dB (b : aT) (p : Pl) (g : Int) : List (List bX) := fQ b p g [] 0
theorem MK {α : Type} {A B R : List α} {k : Nat} (h : (A ++ B) <+: R.drop k) : B <+: R.drop (k + A.length) := by
 obtain ⟨C, e⟩ := h
 refine ⟨C, ?_⟩
 rw [← List.drop_drop, ← e, List.append_assoc, List.drop_left]
theorem vA {α : Type} {x : α} {R : List α} {k : Nat} (h : [x] <+: R.drop k) : R[k]? = some x := by
 obtain ⟨C, e⟩ := h
 have := congrArg (fun l => l[0]?) e
 simp only [List.singleton_append, List.getElem?_cons_zero, List.getElem?_drop, Nat.add_zero] at this
 exact this.symm
theorem Iw {R : List (List bX)} {k n : Nat} (hl : bN < b.aO.length) (h : ¬ (l.length : Int) = g) (hp : fQ b p g l bN <+: R.drop k) (hn : n < b.sizes.length) : wN b p g l bN n <+: R.drop (k + (roundUp b p g l bN n).length) := by
 refine MK (List.IsPrefix.trans ?_ hp)
 rw [p7 hl h, ← qP]
 exact List.IsPrefix.trans (Df aE) (List.prefix_append _ _)
theorem KD {R : List (List bX)} {k : Nat} (hl : bN < b.aO.length) (h : ¬ (l.length : Int) = g) (hp : fQ b p g l bN <+: R.drop k) : fQ b p g l (bN + 1) <+: R.drop (k + (roundUp b p g l bN b.sizes.length).length) := by
 refine MK ?_
 rw [← p7 hl h]; exact hp
theorem NY (h : (decide ((bN : Int) = b.aO.length) || decide ((l.length : Int) = g)) = false) (hle : bN ≤ b.aO.length) : bN < b.aO.length ∧ ¬ (l.length : Int) = g := by
 simp only [Bool.or_eq_false_iff, decide_eq_false_iff_not] at h; omega
end Go.Proofs.YtpnndljmhpepgaaGreat
namespace Go.T
open Go Go.RowKit
def On (J : World → bI → Prop) (w : World) (M : bI) : Prop :=
  ∃ Mc, Wf w Mc ∧ z8 Mc ∧ J w Mc ∧ (∀ b, M b = none → Mc b = none) ∧ ∀ b u, b < w.heap.size → M b = some u → u ≠ 7000 → Mc b = some (Zt + b)
theorem uN {J : World → bI → Prop} (hJ : Cb J) {S K : Nat → Prop} {w w' : World} {M M' : bI} (le : Le S K w M w' M') (hs : ¬ S 7000) (hk : ¬ K 7000) (h : On J w M) : On J w' M' := by
  obtain ⟨Mc, wf, z, hj, h1, h2⟩ := h
  have own : ∀ b, M b = some 7000 → M' b = some 7000 ∧ w'.heap[b]? = w.heap[b]? := fun b h => let ⟨a, c⟩ := le.own b _ h hk; ⟨a, c hs⟩
  have mb : ∀ b t, Mc b = some t → t < Zt → M b = some 7000 := fun b t h ht => by
    cases hm : M b with
    | none => rw [h1 b hm] at h; cases h
    | some u =>
      by_cases e : u = 7000
      · rw [e]
      · have := h2 b u (wf.lt b t h) hm e
        rw [this] at h; injection h with h; omega
  let N : bI := fun b => if b < w'.heap.size then (match M' b with | none => none | some u => if u = 7000 then (if b < w.heap.size ∧ M b = some 7000 then Mc b else some (Zt + b)) else some (Zt + b)) else none
  have hN : ∀ b, N b = if b < w'.heap.size then (match M' b with | none => none | some u => if u = 7000 then (if b < w.heap.size ∧ M b = some 7000 then Mc b else some (Zt + b)) else some (Zt + b)) else none := fun _ => rfl
  have zok : z8 N := by
    intro b u h hu
    rw [hN] at h
    split at h
    · split at h
      · cases h
      · split at h
        · split at h
          · exact z b u h hu
          · injection h with h; exact h.symm
        · injection h with h; exact h.symm
    · cases h
  have wf' : Wf w' N := by
    refine ⟨fun b t h => ?_, fun b b' t ht1 h h' => ?_⟩
    · rw [hN] at h
      split at h
      · assumption
      · cases h
    · have part : ∀ b, N b = some (t + 1) → Mc b = some (t + 1) := fun b h => by
        have hz : t + 1 < Zt := by unfold Zt; omega
        rw [hN] at h
        split at h
        · split at h
          · cases h
          · split at h
            · split at h
              · exact h
              · injection h with h; omega
            · injection h with h; omega
        · cases h
      exact wf.inj b b' t ht1 (part b h) (part b' h')
  have lez : Le (fun t => Zt ≤ t) (fun t => Zt ≤ t) w Mc w' N := by
    refine ⟨le.size, le.os, le.tape, le.out, fun b hb hm => ?_, fun b t hm ht => ?_⟩
    · have hb' : b < w'.heap.size := Nat.lt_of_lt_of_le hb le.size
      cases hmb : M b with
      | none =>
        obtain ⟨a, c⟩ := le.o8 b hb hmb
        exact ⟨by rw [hN, if_pos hb', a], c⟩
      | some u =>
        by_cases e : u = 7000
        · subst e
          obtain ⟨a, c⟩ := own b hmb
          exact ⟨by rw [hN, if_pos hb', a]; show (if (7000 : Nat) = 7000 then _ else _) = _; rw [if_pos rfl, if_pos ⟨hb, hmb⟩]; exact hm, c⟩
        · rw [h2 b u hb hmb e] at hm; cases hm
    · have hlt := wf.lt b t hm
      have h0 := mb b t hm (Nat.lt_of_not_le ht)
      obtain ⟨a, c⟩ := own b h0
      refine ⟨?_, fun _ => c⟩
      rw [hN, if_pos (Nat.lt_of_lt_of_le hlt le.size), a]
      show (if (7000 : Nat) = 7000 then _ else _) = _
      rw [if_pos rfl, if_pos ⟨hlt, h0⟩]; exact hm
  refine ⟨N, wf', zok, hJ _ _ _ _ wf' lez hj, fun b h => ?_, fun b u hb h hu => ?_⟩
  · rw [hN, h]; split <;> rfl
  · rw [hN, if_pos hb, h]; show (if u = 7000 then _ else _) = _; rw [if_neg hu]
def Cont.ck {J : World → bI → Prop} (hJ : Cb J) : Cont :=
  { den := fun w M t => t = 7000 ∧ On J w M
    mono := fun le _ _ hs hk ⟨e, h⟩ => ⟨e, uN hJ le (e ▸ hs) (e ▸ hk) h⟩ }
theorem Cont.Jy {J : Nat → World → bI → Prop} (hJ : ∀ k, Cb (J k)) {a b : Nat} (e : a = b) : (Cont.ck (hJ a)).Sub (Cont.ck (hJ b)) := by subst e; exact Cont.aM _
def Rg (b1 : Bool) (J1 Jx : World → bI → Prop) (w : World) (M : bI) (v : Value) : Prop := (v = .bool b1 ∧ On J1 w M) ∨ (v = .bool (!b1) ∧ On Jx w M)
def Ty.yb {J1 Jx : World → bI → Prop} (b1 : Bool) (h1 : Cb J1) (hx : Cb Jx) : Ty :=
  ⟨Rg b1 J1 Jx, [7000], [7000], fun le hk hs h => h.imp (fun ⟨e, h⟩ => ⟨e, uN h1 le (hs _ bB) (hk _ bB) h⟩) (fun ⟨e, h⟩ => ⟨e, uN hx le (hs _ bB) (hk _ bB) h⟩), true, fun _ h => h.elim (fun ⟨e, _⟩ => e ▸ rfl) (fun ⟨e, _⟩ => e ▸ rfl)⟩
theorem Ty.L6 {J1 J2 Jx : World → bI → Prop} {b1 : Bool} {h1 : Cb J1} {h2 : Cb J2} {hx : Cb Jx} (e : J1 = J2) : (Ty.yb b1 h1 hx).Sub (Ty.yb b1 h2 hx) := by subst e; exact Ty.aM _
def Cont.me (g T : Nat) (v : Value) (tys : List Ty) (cs : List Value) (h1 : cR tys = []) (h2 : cB tys = []) : Cont :=
  { den := fun w M _ => M g = some 1000 ∧ w.heap[g]? = some (.cells #[v] T (0, 0)) ∧ cS w M tys cs
    deps := [1000], cdeps := [1000]
    mono := fun le hk hs _ _ ⟨e1, e2, e3⟩ => let ⟨a, c⟩ := le.own g _ e1 (hk 1000 bB); ⟨a, (c (hs 1000 bB)).trans e2, b7 le BL AZ e3⟩ }
def Cont.snap (w0 : World) (old : Nat → Prop) : Cont :=
  { den := fun w M t => ∀ b, old b → M b = some t ∧ w.heap[b]? = w0.heap[b]?
    mono := fun le _ _ hs hk h b hb => let ⟨a, c⟩ := le.own b _ (h b hb).1 hk; ⟨a, (c hs).trans (h b hb).2⟩ }
def A3 (w : World) (M1 Mc' : bI) : bI := fun b => if b < w.heap.size then M1 b else (Mc' b).map fun _ => 7000
theorem zT {w w' : World} {M1 Mc Mc' : bI} (wf1 : Wf w M1) (wf' : Wf w' Mc') (h1 : ∀ b, M1 b = none → Mc b = none) (h2 : ∀ b u, b < w.heap.size → M1 b = some u → u ≠ 7000 → Mc b = some (Zt + b)) (le : Le (fun t => t < Zt) (fun t => t < Zt) w Mc w' Mc') :
 Wf w' (A3 w M1 Mc') ∧ Le (· ∈ [7000]) (· ∈ ([] : List Nat)) w M1 w' (A3 w M1 Mc') ∧ (∀ b, A3 w M1 Mc' b = none → Mc' b = none) ∧ ∀ b u, b < w'.heap.size → A3 w M1 Mc' b = some u → u ≠ 7000 → Mc' b = some (Zt + b) := by
 unfold A3
 refine ⟨⟨fun b u h => ?_, fun b b' u ht1 h h' => ?_⟩, ⟨le.size, le.os, le.tape, le.out, fun b hb hm => ⟨by simp [hb, hm], (le.o8 b hb (h1 b hm)).2⟩, fun b u hm _ => ⟨by simp [wf1.lt b u hm, hm], fun hs => ?_⟩⟩, fun b h => ?_, fun b u _ h hu => ?_⟩
 ·split at h
  ·exact Nat.lt_of_lt_of_le ‹_› le.size
  obtain ⟨v, hv, _⟩ := Option.map_eq_some_iff.1 h
  exact wf'.lt b v hv
 ·have part : ∀ b, (if b < w.heap.size then M1 b else (Mc' b).map fun _ => 7000) = some (u + 1) → M1 b = some (u + 1) := fun b h => by
   split at h
   ·exact h
   obtain ⟨v, _, hv⟩ := Option.map_eq_some_iff.1 h
   omega
  exact wf1.inj b b' u ht1 (part b h) (part b' h')
 ·have hu : u ≠ 7000 := fun e => hs (by simp [e])
  exact (le.own b _ (h2 b u (wf1.lt b _ hm) hm hu) aE).2 aE
 ·split at h
  ·exact (le.o8 b ‹_› (h1 b h)).1
  simpa using h
 split at h
 ·exact (le.own b _ (h2 b u ‹_› h hu) aE).1
 obtain ⟨v, _, hv⟩ := Option.map_eq_some_iff.1 h
 exact absurd hv.symm hu
def wk (M : bI) (L : List Nat) : bI := fun b => match M b with | none => none | some t => if t ∈ L then none else some t
theorem A9 {M : bI} {L : List Nat} {b : Nat} (h : M b = none) : wk M L b = none := by simp [wk, h]
theorem Ik {M : bI} {L : List Nat} {b : Nat} (h : qy M L b = none) : wk M L b = none := by
  unfold qy at h; unfold wk
  cases hm : M b with
  | none => rfl
  | some t =>
    rw [hm] at h
    show (if t ∈ L then none else some t) = none
    by_cases e : t ∈ L
    · rw [if_pos e]
    · have h : (if t ∈ L then none else some 0) = none := h
      rw [if_neg e] at h; cases h
theorem Gs {w : World} {M : bI} {L : List Nat} : Le (· ∈ ([] : List Nat)) (· ∈ L) w M w (wk M L) :=
 ⟨Nat.le_refl _, rfl, rfl, rfl, fun b _ hm => ⟨A9 hm, rfl⟩, fun b t hm hk => ⟨by simp [wk, hm, hk], fun _ => rfl⟩⟩
theorem vf {M : bI} {L : List Nat} {b t : Nat} (h : wk M L b = some t) : M b = some t := by
 unfold wk at h
 split at h
 ·cases h
 split at h
 ·cases h
 rename_i hm _; rw [hm]; exact h
theorem N8 {w : World} {M : bI} {L : List Nat} (wf : Wf w M) : Wf w (wk M L) := ⟨fun b t h => wf.lt b t (vf h), fun b b' t ht h h' => wf.inj b b' t ht (vf h) (vf h')⟩
def HE (w : World) (Mc : bI) (J1 Jx : World → bI → Prop) (e : Ending) (w' : World) : Prop :=
  ∃ M', Wf w' M' ∧ z8 M' ∧ Le (fun t => t < Zt) (fun t => t < Zt) w Mc w' M' ∧ ((e = .returned (.bool true) ∧ J1 w' M') ∨ (e = .returned (.bool false) ∧ Jx w' M'))
abbrev gp (g : Nat) : Value := .pointer (some ⟨g, 0, none⟩)
def yz (P : Program) (f : FuncId) (T : Nat) (capTys args : List Ty) (J0 J1 Jx : World → bI → Prop) : Prop :=
  (∃ fn, P.funcs[f]? = some fn ∧ (fn.name == "runtime.NumGoroutine") = false ∧ fn.body.isNone = false) ∧
  ∀ (w : World) (Mc : bI) (g : Nat) (vs cs cs' : List Value), Wf w Mc → z8 Mc → cS w Mc args vs → cS w Mc capTys cs → cS w Mc capTys cs' → Mc g = some (Zt + g) →
    w.heap[g]? = some (.cells #[.func (.func f) #[] (cs' ++ [gp g]).toArray] T (0, 0)) → J0 w Mc →
    Calls P f (vs ++ (cs ++ [gp g])).toArray w (HE w Mc J1 Jx)
section
variable {P : Program} {fr : Fr} {ops : Array Oper} {A : As} {rest : List Oper} {K : As → List (As × Fx) → Prop} {d : Nat} {t ty' : TypeId} {p : String} {e : Array Edge}
theorem K2 {c l k : Nat} {encs : List (List Ty)} {J : Nat → World → bI → Prop} {Jx : World → bI → Prop} (hJ : ∀ k, Cb (J k)) (hJx : Cb Jx) (hY : Mu P l encs J Jx) {xs : List Operand} {ats : Array TypeId} {tys : List Ty}
 (hkd : fr.kd = .plain) (hc : A.op fr (.tmp c) = .ex (yv l)) (hx : om A fr xs = tys) (hd : cR tys = []) (hdc : cB tys = []) (hk : encs[k]? = some tys) (ht : A.tag 7000 = some (.ck (hJ k)))
 (h : ay P fr ops rest (A.after { d := some d, ty := .yb true (hJ (k + 1)) hJx, S := [7000], rs := c :: xs.flatMap cA, rt := [7000] }) fun A' l' => K A' ((A, { d := some d, ty := .yb true (hJ (k + 1)) hJx, S := [7000], rs := c :: xs.flatMap cA, rt := [7000] }) :: l')) :
 ay P fr ops (⟨some d, .call ⟨.value (.tmp c), xs.toArray, ats⟩, t, p, e, none⟩ :: rest) A K := by
 refine ⟨{ d := some d, ty := .yb true (hJ (k + 1)) hJx, S := [7000], rs := c :: xs.flatMap cA, rt := [7000] }, ⟨rfl, by simp, by simp, by simp, fun a w M wf hsz hrd htg => ?_⟩, h⟩
 rw [if_pos kY]
 have hcv := cN (x := .tmp c) (rs := c :: xs.flatMap cA) (fun u hu => by exact (List.mem_singleton.1 hu) ▸ List.mem_cons_self) hrd
 rw [hc] at hcv
 have hcv : a.eval (.tmp c) = yv l := hcv
 obtain ⟨_, Mc, wfc, z, hj, h1, h2⟩ := htg _ (cj ht) bB
 have hv : cS w Mc tys (xs.map a.eval) := ef h1 hd hdc (hx ▸ gC (rs := c :: xs.flatMap cA) hrd fun x hx c hc => List.mem_cons_of_mem _ (List.mem_flatMap.2 ⟨x, hx, hc⟩))
 obtain ⟨fn, tmps, assign, body, hy, hR⟩ := hY k tys hk w Mc _ wfc z hj hv
 refine ⟨fun f _ => fr.kd.qM f, ?_⟩
 have hrun : (execOp a.eval ⟨some d, .call ⟨.value (.tmp c), xs.toArray, ats⟩, t, p, e, none⟩).run P w = .ok (.round l fn tmps assign body) w := by
  simp [execOp, resolve, hcv, yv, Deferred.ofValue, invoke, hy]
 rw [Oper.semAt_eq _ _ _ (by intro c h; cases h), hrun, Oper.uponIn_round]
 refine ⟨fun h => (by rw [fr.kd.tD] at h; cases h), ?_⟩
 have hfe : fr.kd.g9 = Fence.wide := by rw [hkd]; rfl
 rw [hfe]
 refine RoundIn.mono hR fun en w' ⟨Mc', wf', z', le, hor⟩ => ?_
 obtain ⟨g1, g2, g3, g4⟩ := zT wf wf' h1 h2 le
 rcases hor with ⟨rfl, hj'⟩ | ⟨rfl, hj'⟩
 ·exact ⟨.bool true, rfl, _, g1, g2, .inl ⟨rfl, Mc', wf', z', hj', g3, g4⟩, by simp⟩
 exact ⟨.bool false, rfl, _, g1, g2, .inr ⟨rfl, Mc', wf', z', hj', g3, g4⟩, by simp⟩
theorem z6 {f : FuncId} {T : Nat} {capTys args : List Ty} {J0 J1 Jx : World → bI → Prop} (hF : yz P f T capTys args J0 J1 Jx) (vs : Array Value) (w : World) : (callFunc f vs).run P w = .ok (.enter f vs) w := by
 obtain ⟨⟨fn, hf, hn, hb⟩, _⟩ := hF
 have hn' : fn.name ≠ "runtime.NumGoroutine" := by simpa using hn
 have hb' : fn.body ≠ none := fun h => by rw [h] at hb; cases hb
 simp [callFunc, hf, hn', hb']
theorem HB (L : List Nat) {c f T g : Nat} {capTys args ss : List Ty} {cs' : List Value} {J0 J1 Jx : World → bI → Prop} (h0 : Cb J0) (h1 : Cb J1) (hx : Cb Jx) (hM : yz P f T capTys args J0 J1 Jx) {h3 : cR capTys = []} {h4 : cB capTys = []} {xs : List Operand} {ats : Array TypeId}
 (hc : A.op fr (.tmp c) = .ex (.func (.func f) #[] (cs' ++ [gp g]).toArray)) (hxs : om A fr xs = ss) (hl : xM L ss args) (hd : cR args = []) (hdc : cB args = [])
 (hme : A.tag 1001 = some (.me g T (.func (.func f) #[] (cs' ++ [gp g]).toArray) capTys cs' h3 h4)) (hck : A.tag 7000 = some (.ck h0)) (hL : ∀ u ∈ L, 1 ≤ u ∧ u ∉ fr.pass) (hL7 : L.contains 7000 = false) (hL1 : L.contains 1000 = false)
 (h : ay P fr ops rest (A.after { d := some d, ty := .yb true h1 hx, S := [7000], K := L, rs := c :: xs.flatMap cA, rt := [7000, 1001] }) fun A' l' => K A' ((A, { d := some d, ty := .yb true h1 hx, S := [7000], K := L, rs := c :: xs.flatMap cA, rt := [7000, 1001] }) :: l')) :
 ay P fr ops (⟨some d, .call ⟨.value (.tmp c), xs.toArray, ats⟩, t, p, e, none⟩ :: rest) A K := by
 refine ⟨{ d := some d, ty := .yb true h1 hx, S := [7000], K := L, rs := c :: xs.flatMap cA, rt := [7000, 1001] }, ⟨rfl, by simp, by simp, hL, fun a w M wf hsz hrd htg => ?_⟩, h⟩
 rw [if_pos kY]
 have hcv := cN (x := .tmp c) (rs := c :: xs.flatMap cA) (fun u hu => by exact (List.mem_singleton.1 hu) ▸ List.mem_cons_self) hrd
 rw [hc] at hcv
 have hcv : a.eval (.tmp c) = .func (.func f) #[] (cs' ++ [gp g]).toArray := hcv
 obtain ⟨e1, e2, e3⟩ := htg _ (cj hme) bB
 obtain ⟨_, hck'⟩ := htg _ (cj hck) bB
 have hck1 : On J0 w (wk M L) := uN h0 (Gs (w := w) (M := M) (L := L)) bB (by simpa using hL7) hck'
 obtain ⟨Mc, wfc, z, hj, k1, k2⟩ := hck1
 have e1' : wk M L g = some 1000 := by
  have : 1000 ∉ L := by simpa using hL1
  simp [wk, e1, this]
 have hg : g < w.heap.size := (Array.getElem?_eq_some_iff.1 e2).1
 have hv : cS w Mc args (xs.map a.eval) := ef (fun b hb => k1 b (Ik hb)) hd hdc (qh wf hl (hxs ▸ gC (rs := c :: xs.flatMap cA) hrd fun x hx c hc => List.mem_cons_of_mem _ (List.mem_flatMap.2 ⟨x, hx, hc⟩)))
 have hcs : cS w Mc capTys cs' := ef (fun b hb => k1 b (A9 hb)) h3 h4 e3
 have hcall := hM.2 w Mc g _ cs' cs' wfc z hv hcs hcs (k2 g 1000 hg e1' aB) e2 hj
 refine jN (f := f) (args := (xs.map a.eval ++ (cs' ++ [gp g])).toArray) OX (hcall.mono fun en w' ⟨Mc', wf', z', le, hor⟩ => ?_)
 obtain ⟨g1, g2, g3, g4⟩ := zT (N8 (L := L) wf) wf' k1 k2 le
 have g2' : Le (· ∈ [7000]) (· ∈ L) w M w' (A3 w (wk M L) Mc') := ((Gs (w := w) (M := M) (L := L)).trans g2).weaken (fun u hu => by rcases hu with h | h; cases h; exact h) (fun u hu => by rcases hu with h | h; exact h; cases h)
 rcases hor with ⟨rfl, hj'⟩ | ⟨rfl, hj'⟩
 ·exact ⟨.bool true, rfl, .bool true, rfl, _, g1, g2', .inl ⟨rfl, Mc', wf', z', hj', g3, g4⟩, by simp⟩
 exact ⟨.bool false, rfl, .bool false, rfl, _, g1, g2', .inr ⟨rfl, Mc', wf', z', hj', g3, g4⟩, by simp⟩
theorem K8 {c f T tg : Nat} {capTys args ss : List Ty} {J0 J1 Jx : World → bI → Prop} (h0 : Cb J0) (h1 : Cb J1) (hx : Cb Jx) (hM : yz P f T capTys args J0 J1 Jx) (h3 : cR capTys = []) (h4 : cB capTys = []) {xs : List Operand} {ats : Array TypeId}
    (hc : A.op fr (.tmp c) = .so f (capTys ++ [.ptr tg 0])) (hxs : om A fr xs = ss) (hl : xM [] ss args) (hd : cR args = []) (hdc : cB args = [])
    (hcell : A.tag tg = some (.cells T [.so f (capTys ++ [.ptr tg 0])])) (htg1 : fR tg) (hck : A.tag 7000 = some (.ck h0))
    (h : ay P fr ops rest (A.after { d := some d, ty := .yb true h1 hx, S := [7000], rs := c :: xs.flatMap cA, rt := [7000, tg] }) fun A' l' => K A' ((A, { d := some d, ty := .yb true h1 hx, S := [7000], rs := c :: xs.flatMap cA, rt := [7000, tg] }) :: l')) :
    ay P fr ops (⟨some d, .call ⟨.value (.tmp c), xs.toArray, ats⟩, t, p, e, none⟩ :: rest) A K := by
  refine ⟨{ d := some d, ty := .yb true h1 hx, S := [7000], rs := c :: xs.flatMap cA, rt := [7000, tg] }, ⟨rfl, by simp, by simp, by simp, fun a w M wf hsz hrd htg => ?_⟩, h⟩
  rw [if_pos kY]
  have hcv := cN (x := .tmp c) (rs := c :: xs.flatMap cA) (fun u hu => by exact (List.mem_singleton.1 hu) ▸ List.mem_cons_self) hrd
  rw [hc] at hcv
  obtain ⟨⟨cl⟩, ev, hcl⟩ := hcv
  have split : ∀ (l : List Value), cS w M (capTys ++ [.ptr tg 0]) l → ∃ cs b, l = cs ++ [gp b] ∧ cS w M capTys cs ∧ M b = some tg := fun l hl => by
    have hlen := cO hl
    rw [List.length_append, List.length_singleton] at hlen
    have g1 := lJ capTys.length hl
    have g2 := jk capTys.length hl
    rw [List.take_left] at g1
    rw [List.drop_left] at g2
    have e1 : (l.drop capTys.length).length = 1 := by rw [List.length_drop]; omega
    obtain ⟨v, hv⟩ := List.length_eq_one_iff.1 e1
    rw [hv] at g2
    obtain ⟨⟨b, hb, ev⟩, _⟩ := g2
    exact ⟨_, b, by subst ev; have h9 := List.take_append_drop capTys.length l; rw [hv] at h9; exact h9.symm, g1, hb⟩
  obtain ⟨cs, g, rfl, hcs, hg⟩ := split _ hcl
  obtain ⟨b', ⟨cells⟩, hb', hh, hdd⟩ := htg _ (cj hcell) bB
  obtain ⟨u, rfl⟩ : ∃ u, tg = u + 1 := ⟨tg - 1, by have := htg1.1; omega⟩
  have hbg : g = b' := wf.inj g b' u htg1.2 hg hb'
  subst hbg
  obtain ⟨v', rfl⟩ : ∃ v', cells = [v'] := by
    have hlen := cO hdd
    exact List.length_eq_one_iff.1 (by simpa using hlen)
  obtain ⟨⟨⟨cl'⟩, ev', hcl'⟩, _⟩ := hdd
  obtain ⟨cs', g', rfl, hcs', hg'⟩ := split _ hcl'
  have hgg : g' = g := wf.inj g' g u htg1.2 hg' hg
  subst hgg
  subst ev'
  obtain ⟨_, Mc, wfc, z, hj, k1, k2⟩ := htg _ (cj hck) bB
  have hgs : g' < w.heap.size := (Array.getElem?_eq_some_iff.1 hh).1
  have hcv : a.eval (.tmp c) = .func (.func f) #[] (cs ++ [gp g']).toArray := ev
  have hv : cS w Mc args (xs.map a.eval) := ef (fun b hb => k1 b (by
      unfold qy at hb
      cases hm : M b with
      | none => rfl
      | some q => rw [hm] at hb; simp at hb)) hd hdc (qh wf hl (hxs ▸ gC (rs := c :: xs.flatMap cA) hrd fun x hx c hc => List.mem_cons_of_mem _ (List.mem_flatMap.2 ⟨x, hx, hc⟩)))
  have hcall := hM.2 w Mc g' _ cs cs' wfc z hv (ef k1 h3 h4 hcs) (ef k1 h3 h4 hcs') (k2 g' _ hgs hg (by have := htg1.2; omega)) hh hj
  refine jN (f := f) (args := (xs.map a.eval ++ (cs ++ [gp g'])).toArray) OX (hcall.mono fun en w' ⟨Mc', wf', z', le, hor⟩ => ?_)
  obtain ⟨g1, g2, g3, g4⟩ := zT wf wf' k1 k2 le
  rcases hor with ⟨rfl, hj'⟩ | ⟨rfl, hj'⟩
  · exact ⟨.bool true, rfl, .bool true, rfl, _, g1, g2, .inl ⟨rfl, Mc', wf', z', hj', g3, g4⟩, by simp⟩
  · exact ⟨.bool false, rfl, .bool false, rfl, _, g1, g2, .inr ⟨rfl, Mc', wf', z', hj', g3, g4⟩, by simp⟩
theorem PW {x : Operand} {J1 Jx : World → bI → Prop} {h1 : Cb J1} {hx : Cb Jx} {b1 : Bool} (hop : A.op fr x = .yb b1 h1 hx)
 (h : ay P fr ops rest (A.set d (.yb (!b1) h1 hx)) fun A' l' => K A' ((A, { d := some d, ty := .yb (!b1) h1 hx, rs := cA x }) :: l')) : ay P fr ops (⟨some d, .unOp .not ty' x, t, p, e, none⟩ :: rest) A K :=
 bR (bl rfl rfl fun a w M _ hrd _ => by
  have hdx := cN (x := x) (fun _ h => h) hrd
  rw [hop] at hdx
  rcases hdx with ⟨ex, hj⟩ | ⟨ex, hj⟩
  ·exact ⟨.bool (!b1), by simp [execOp, ex, Op.unary], .inl ⟨rfl, hj⟩⟩
  exact ⟨.bool (!!b1), by simp [execOp, ex, Op.unary], .inr ⟨rfl, hj⟩⟩) h
end
section
variable {P : Program} {fr : Fr} {A : As} {Q : Exit → Act → World → Prop} {x y : Code}
theorem Ny {c : Operand} {J1 Jx : World → bI → Prop} {h1 : Cb J1} {hx : Cb Jx} (hc : A.op fr c = .yb false h1 hx) (hth : fS P fr x ⟨A.slots, (7000, .ck hx) :: A.tags⟩ Q) (hel : fS P fr y ⟨A.slots, (7000, .ck h1) :: A.tags⟩ Q) : fS P fr (.cond c x y) A Q := fun a w ha => by
 obtain ⟨M, ok, hs, ht⟩ := ha
 have hd := cN (x := c) (rs := cA c) (fun _ h => h) (fun c _ hn => hs c hn)
 rw [hc] at hd
 rcases hd with ⟨ev, hj⟩ | ⟨ev, hj⟩
 ·exact wpIn_cond_false ev (hel a w ⟨M, ok, hs, fun x hx => by
   rcases List.mem_cons.1 hx with rfl | hx
   ·exact ⟨rfl, hj⟩
   exact ht x hx⟩)
 ·exact wpIn_cond_true ev (hth a w ⟨M, ok, hs, fun x hx => by
   rcases List.mem_cons.1 hx with rfl | hx
   ·exact ⟨rfl, hj⟩
   exact ht x hx⟩)
end
def gb (Mc : bI) (g : Option Nat) : bI := fun b => match Mc b with | none => none | some u => if u < Zt then some 7000 else if some b = g then some 1000 else some 5000
theorem Ek {Mc : bI} {g : Option Nat} {b : Nat} (h : gb Mc g b = none) : Mc b = none := by
 unfold gb at h
 split at h
 ·assumption
 split at h
 ·cases h
 split at h <;> cases h
theorem mL {Mc : bI} {g : Option Nat} {b : Nat} (h : Mc b = none) : gb Mc g b = none := by simp [gb, h]
theorem BG {w : World} {Mc : bI} {g : Option Nat} (wf : Wf w Mc) : Wf w (gb Mc g) := by
  refine ⟨fun b t h => ?_, fun b b' t ht h h' => ?_⟩
  · cases hm : Mc b with
    | none => rw [mL hm] at h; cases h
    | some u => exact wf.lt b u hm
  · have key : ∀ b, gb Mc g b = some (t + 1) → some b = g := fun b h => by
      unfold gb at h
      split at h
      · cases h
      · split at h
        · injection h with h; omega
        · split at h
          · assumption
          · injection h with h; omega
    have e1 := key b h
    have e2 := key b' h'
    rw [← e2] at e1; injection e1
theorem BS {w : World} {Mc : bI} {g : Option Nat} {J : World → bI → Prop} (wf : Wf w Mc) (z : z8 Mc) (hj : J w Mc) : On J w (gb Mc g) := by
 refine ⟨Mc, wf, z, hj, fun b h => Ek h, fun b u _ h hu => ?_⟩
 unfold gb at h
 split at h
 ·cases h
 rename_i v hv
 split at h
 ·injection h with h; exact absurd h.symm hu
 rw [hv]; congr 1; exact z b v hv aE
def MG (Mc : bI) (g : Nat) (b : Nat) : Prop := Mc b = some (Zt + b) ∧ b ≠ g
section
variable {P : Program}
theorem Dh {f : FuncId} {fn : Func} {c : Code} {T : Nat} {capTys args : List Ty} {J0 J1 Jx : World → bI → Prop} {n : Nat} (h0 : Cb J0) (hf : P.funcs[f]? = some fn) (hb : fn.body = some c) (hn : (fn.name == "runtime.NumGoroutine") = false) (hnt : fn.ntmps = n) (hl : (args ++ (capTys ++ [Ty.ptr 1000 0])).length ≤ n)
    (hd : cR args = []) (hdc : cB args = []) (h3 : cR capTys = []) (h4 : cB capTys = [])
    (h : ∀ w Mc g cs', Wf w Mc → z8 Mc → Mc g = some (Zt + g) → w.heap[g]? = some (.cells #[.func (.func f) #[] (cs' ++ [gp g]).toArray] T (0, 0)) →
      fS P ⟨n, w, gb Mc (some g), [7000, 5000, 1000], .plain⟩ c (nG (args ++ (capTys ++ [Ty.ptr 1000 0])) [(7000, .ck h0), (1000, .cells T [.ex (.func (.func f) #[] (cs' ++ [gp g]).toArray)]), (1001, .me g T (.func (.func f) #[] (cs' ++ [gp g]).toArray) capTys cs' h3 h4), (5000, .snap w (MG Mc g))]) (bodyPost P fn (HE w Mc J1 Jx))) : yz P f T capTys args J0 J1 Jx := by
  refine ⟨⟨fn, hf, hn, by rw [hb]; rfl⟩, fun w Mc g vs cs cs' wf z hv hcs hcs' hg hh hj => calls_of_wp hf hb (wpIn_wide.1 (h w Mc g cs' wf z hg hh _ _ ?_))⟩
  have hnn : ∀ b, Mc b = none → gb Mc (some g) b = none := fun b hb => mL hb
  have hg0 : gb Mc (some g) g = some 1000 := by simp [gb, hg]
  have hall : cS w (gb Mc (some g)) (args ++ (capTys ++ [Ty.ptr 1000 0])) (vs ++ (cs ++ [gp g])) := eY (ef hnn hd hdc hv) (eY (ef hnn h3 h4 hcs) ⟨⟨g, hg0, rfl⟩, trivial⟩)
  have hlen := cO hall
  refine ⟨gb Mc (some g), ⟨BG wf, Le.refl _ _ _ _, by simp [hnt]; simp at hlen hl; omega, Defs.nil⟩, fun c hc => ?_, fun x hx => ?_⟩
  · simp only [nG]
    cases ha : (args ++ (capTys ++ [Ty.ptr 1000 0]))[c]? with
    | none => trivial
    | some ty =>
      obtain ⟨v, hv, hdv⟩ := dr hall c ty ha
      have : ((vs ++ (cs ++ [gp g])).toArray ++ Array.replicate (fn.ntmps - (vs ++ (cs ++ [gp g])).toArray.size) undef).getD c undef = v := by
        have hlt : c < (vs ++ (cs ++ [gp g])).length := (List.getElem?_eq_some_iff.1 hv).1
        rw [Array.getD_eq_getD_getElem?, Array.getElem?_append_left ni, List.getElem?_toArray, hv]; rfl
      rw [this]; exact hdv
  · simp only [nG, List.mem_cons, List.not_mem_nil, or_false] at hx
    rcases hx with rfl | rfl | rfl | rfl
    · exact ⟨rfl, BS wf z hj⟩
    · exact ⟨g, _, hg0, hh, rfl, trivial⟩
    · exact ⟨hg0, hh, ef hnn h3 h4 hcs'⟩
    · intro b ⟨hb1, hb2⟩
      refine ⟨?_, rfl⟩
      have : ¬ Zt + b < Zt := by omega
      simp [gb, hb1, this, hb2]
variable {A : As} {fn : Func} {n : Nat} {J1 Jx : World → bI → Prop}
theorem B5 {w w' : World} {Mc M Mc' : bI} {g T : Nat} {v : Value} {tys : List Ty} {cs : List Value} {h3 : cR tys = []} {h4 : cB tys = []} (z : z8 Mc) (wf : Wf w Mc) (hg : w.heap[g]? = some (.cells #[v] T (0, 0)))
 (hb : Le (fun t => 1 ≤ t) (fun t => 1 ≤ t ∧ t ∉ [7000, 5000, 1000]) w (gb Mc (some g)) w' M) (hm : (Cont.me g T v tys cs h3 h4).den w' M 1001) (ho : (Cont.snap w (MG Mc g)).den w' M 5000) (k1 : ∀ b, M b = none → Mc' b = none) (k2 : ∀ b u, b < w'.heap.size → M b = some u → u ≠ 7000 → Mc' b = some (Zt + b)) :
 Le (fun t => t < Zt) (fun t => t < Zt) w Mc w' Mc' := by
 refine ⟨hb.size, hb.os, hb.tape, hb.out, fun b hlt h => ?_, fun b t h ht => ?_⟩
 ·obtain ⟨a, c⟩ := hb.o8 b hlt (mL h)
  exact ⟨k1 b a, c⟩
 have e := z b t h aE
 subst e
 have hlt : b < w'.heap.size := Nat.lt_of_lt_of_le (wf.lt b _ h) hb.size
 by_cases e : b = g
 ·subst e
  exact ⟨k2 b 1000 hlt hm.1 aB, fun _ => hm.2.1.trans hg.symm⟩
 obtain ⟨a, c⟩ := ho b ⟨h, e⟩
 exact ⟨k2 b 5000 hlt a aB, fun _ => c⟩
theorem Lg {tm g T : Nat} {w : World} {Mc : bI} {v : Value} {tys : List Ty} {cs : List Value} {h3 : cR tys = []} {h4 : cB tys = []} {h1 : Cb J1} {hx : Cb Jx} (z : z8 Mc) (wf : Wf w Mc) (hg : w.heap[g]? = some (.cells #[v] T (0, 0))) (hr : fn.results = #[.tmp tm]) (htm : Nat.blt tm n = true) (hm : A.tag 1001 = some (.me g T v tys cs h3 h4)) (ho : A.tag 5000 = some (.snap w (MG Mc g))) (hs : (A.slots tm).Sub (.yb true h1 hx)) :
 dG ⟨n, w, gb Mc (some g), [7000, 5000, 1000], .plain⟩ A (bodyPost P fn (HE w Mc J1 Jx) .ret) := by
 intro a w' ⟨M, ok, hsl, htg⟩
 rcases hs _ _ _ (hsl tm (by simpa using htm)) with ⟨ev, Mc', wf', z', hj, k1, k2⟩ | ⟨ev, Mc', wf', z', hj, k1, k2⟩
 ·exact ⟨ok.eH bB, _, results_tmp hr _ _ _, Mc', wf', z', B5 (h3 := h3) (h4 := h4) z wf hg ok.base (htg _ (cj hm)) (htg _ (cj ho)) k1 k2, .inl ⟨by rw [ev], hj⟩⟩
 exact ⟨ok.eH bB, _, results_tmp hr _ _ _, Mc', wf', z', B5 (h3 := h3) (h4 := h4) z wf hg ok.base (htg _ (cj hm)) (htg _ (cj ho)) k1 k2, .inr ⟨by rw [ev]; rfl, hj⟩⟩
theorem NL {tm g T : Nat} {w : World} {Mc : bI} {v : Value} {tys : List Ty} {cs : List Value} {h3 : cR tys = []} {h4 : cB tys = []} {hx : Cb Jx} (z : z8 Mc) (wf : Wf w Mc) (hg : w.heap[g]? = some (.cells #[v] T (0, 0))) (hr : fn.results = #[.tmp tm]) (htm : Nat.blt tm n = true) (hm : A.tag 1001 = some (.me g T v tys cs h3 h4)) (ho : A.tag 5000 = some (.snap w (MG Mc g))) (hs : A.slots tm = .bool false) (hk : A.tag 7000 = some (.ck hx)) :
 dG ⟨n, w, gb Mc (some g), [7000, 5000, 1000], .plain⟩ A (bodyPost P fn (HE w Mc J1 Jx) .ret) := by
 intro a w' ⟨M, ok, hsl, htg⟩
 have ev := hsl tm (by simpa using htm)
 rw [hs] at ev
 obtain ⟨_, Mc', wf', z', hj, k1, k2⟩ := htg _ (cj hk)
 have ev : a.tmps.getD tm undef = .bool false := ev
 exact ⟨ok.eH bB, _, results_tmp hr _ _ _, Mc', wf', z', B5 (h3 := h3) (h4 := h4) z wf hg ok.base (htg _ (cj hm)) (htg _ (cj ho)) k1 k2, .inr ⟨by rw [ev], hj⟩⟩
theorem Fp {f : FuncId} {c : Code} {args : Nat → List Ty} {encs : List (List Ty)} (hf : P.funcs[f]? = some fn) (hb : fn.body = some c) (hn : (fn.name == "runtime.NumGoroutine") = false) (hnt : fn.ntmps = n) (hl : ∀ l, (args l).length ≤ n) (hdd : ∀ l, cR (args l) = [] ∧ cB (args l) = [])
    (h : ∀ l J Jx (hJ : ∀ k, Cb (J k)) (_ : Cb Jx), Mu P l encs J Jx → ∀ w0 M0, fS P ⟨n, w0, M0, [7000, 5000], .plain⟩ c (nG (args l) [(7000, .ck (hJ 0))]) (bodyPost P fn (cX encs.length J Jx (Ty.iF []) (Ty.iF [])))) : iT P f args encs (Ty.iF []) (Ty.iF []) := by
  refine ⟨⟨fn, hf, hn, by rw [hb]; rfl⟩, fun l J Jx hJ hJx hY w Mc vs wf z hd hj => calls_of_wp hf hb (wpIn_wide.1 (h l J Jx hJ hJx hY w (gb Mc none) _ _ ?_))⟩
  have hall : cS w (gb Mc none) (args l) vs := ef (fun b hb => mL hb) (hdd l).1 (hdd l).2 hd
  have hlen := cO hall
  have hl := hl l
  refine ⟨gb Mc none, ⟨BG wf, Le.refl _ _ _ _, by simp [hnt, hlen]; omega, Defs.nil⟩, fun c hc => ?_, fun x hx => ?_⟩
  · simp only [nG]
    cases ha : (args l)[c]? with
    | none => trivial
    | some ty =>
      obtain ⟨v, hv, hdv⟩ := dr hall c ty ha
      have : (vs.toArray ++ Array.replicate (fn.ntmps - vs.toArray.size) undef).getD c undef = v := by
        have hlt : c < vs.length := (List.getElem?_eq_some_iff.1 hv).1
        rw [Array.getD_eq_getD_getElem?, Array.getElem?_append_left ni]
        simp [hv]
      rw [this]; exact hdv
  · rw [List.mem_singleton.1 hx]; exact ⟨rfl, BS wf z hj⟩
theorem NA {s : Nat} {w0 : World} {M0 : bI} {J : Nat → World → bI → Prop} {m : Nat} {h1 : Cb (J m)} {hx : Cb Jx} (hr : fn.results = #[]) (hsn : Nat.blt s n = true) (hs : A.slots s = .yb true h1 hx) : dG ⟨n, w0, M0, [7000, 5000], .plain⟩ A (bodyPost P fn (cX m J Jx (Ty.iF []) (Ty.iF [])) .normal) := by
 intro a w' ⟨M, ok, hsl, htg⟩
 have hd := hsl s (by simpa using hsn)
 rw [hs] at hd
 rcases hd with ⟨ev, Mc', wf', z', hj, k1, k2⟩ | ⟨ev, Mc', wf', z', hj, k1, k2⟩
 ·exact ⟨ok.eH bB, _, results_none hr _ _ _, _, Mc', rfl, wf', z', .inl ⟨⟨_, rfl, trivial⟩, hj⟩⟩
 exact ⟨ok.eH bB, _, results_none hr _ _ _, _, Mc', rfl, wf', z', .inr ⟨⟨_, rfl, trivial⟩, hj⟩⟩
end
end Go.T
namespace Go.Proofs.YtpnndljmhpepgaaGreat
open Go Go.T
set_option maxRecDepth 100000
set_option maxHeartbeats 4000000
def Cy (l : List bX) : List Ty := [Ty.sl bq l]
def ue (d : tS) (gg : Int) (p : Pl) (li : Nat) : List Ty := [Ty.pp [Ty.pe dI d 0], Ty.pp [Ty.int .i64 gg], Ty.pp [Ty.ex (yv li)], Ty.pp (j6 p)]
theorem Lj (t : bX) (k : Int) : (decide (t.bN = t.bN) && decide (t.aim = k)) = decide (t.aim = k) := by rw [decide_eq_true rfl, Bool.true_and]
theorem Ns {R : List (List bX)} {k : Nat} {l : List bX} (h : [l] <+: R.drop k) : (R.map Cy)[k]? = some [Ty.sl bq l] := by rw [List.getElem?_map, vA h]; rfl
attribute [local irreducible] iL fu pJ r9 jY jQ jL jI jT rF jJ q5 dy g6 q2 g7 r8 nth fS dG ay dO bodyPost Exit.then Exit.inBlock Code.wp Code.wpIn fy rS rB rq rL jU r5 fG iT qd cT cX bodyPostM eE
attribute [local irreducible] Rg On
theorem Ej (l : List bX) (h : l.length ≤ 1000) : fG Tryz.prog 98 [] [] [Ty.sl bq l] [] (Ty.row bq 37 6 l) := by
 refine ej Tryz.func98 ν aB Tryz.ntmps98 aP fun w0 M0 => ?_
 refine aF (aA (fm ν (aD (aC (aF (aF (aA (cM ν (uS Qm ν (aD (aC ?_)))))))))))
 refine pZ ν (fun hc1 => ?_) (fun hc1 => ?_)
 ·refine aF (aA (fm ν (aD (aC (au (aK (l9 [6] ν ν aB iS ?_)))))))
  all_goals (obtain rfl : l = [] := hc1; exact e8 mq)
 refine aX (aC (aF (aA ?_)))
 refine jM (E := bq) ν ν ν ν ?_
 refine cM ν (cG ν ν aB ν ν ν ν ν ν aB bp bp (iY ν (aD (aC (au (l9 [6] ν ν aB iS ?_))))))
 all_goals exact e8 (fD aB)
theorem N3 (t : bX) (k : Int) : dO Tryz.prog 97 [Ty.agg (bq.tys t), Ty.pp [Ty.int .i64 k]] (Ty.bool (decide (t.aim = k))) := by
 refine az Tryz.func97 ν aB Tryz.ntmps97 aP fun w0 M0 => ?_
 refine aF (aA (bF ν (dN ν (aD (aC (aF (aA (aY ν ν ν aP (aN ν ν ν ν ν aB (aJ ν ν ν ν (aJ ν ν ν ν (cC ν ν bW ν dn eU ?_))))))))))))
 refine Ng (O6 _ _ _ _) ν ν (dN ν (aD (aC (au (bg ν ν ?_)))))
 exact av rfl rfl (congrArg Ty.bool (Lj t k))
theorem Gl (d : tS) (hs : d.b.Small) (h6 : d.b.aO.length ≤ 6) (gg : Int) (p : Pl) (R : List (List bX)) (li : Nat) (J : Nat → World → bI → Prop) (Jx : World → bI → Prop) (hJ : ∀ k, Cb (J k)) (hJx : Cb Jx) (hY : Mu Tryz.prog li (R.map Cy) J Jx) (l : List bX) (bN : Nat) (lz : Int) (hlz : lz = (bN : Int)) (k : Nat) (hlot : bN ≤ d.b.aO.length) (hl : l.length ≤ bN) (hp : fQ d.b p gg l bN <+: R.drop k) (ih : bN < d.b.aO.length → ∀ (l' : List bX) (k' : Nat), l'.length ≤ bN + 1 → fQ d.b p gg l' (bN + 1) <+: R.drop k' → yz Tryz.prog 94 147 (ue d gg p li) [Ty.sl bq l', Ty.int .i64 (lz + 1)] (J k') (J (k' + (fQ d.b p gg l' (bN + 1)).length)) Jx) : yz Tryz.prog 94 147 (ue d gg p li) [Ty.sl bq l, Ty.int .i64 lz] (J (k)) (J (k + (fQ d.b p gg l bN).length)) Jx := by
 subst hlz
 refine Dh (hJ (k)) Tryz.func94 ν aB Tryz.ntmps94 aP ν ν ν ν fun w0 Mc g cs0 wf0 z0 hg0 hh0 => ?_
 have hs1 := hs.sizes
 refine aF (aA (dN ν (aD (aC (aF (aF (aA (bA ν (aJ ν ν ν ν (cW ν (cr ν ν ν ν ν aB (cr ν ν ν ν ν aB (kI ν ν ν ν (bU ν ν ν (ah ν ν ν (dm ν ?_))))))))))))))))
 refine bT 19 ν (fun hg => aH (cM ν (aD ν))) ?_
 refine bT 19 ν (fun hg => cJ 20 hg ν (aH (bU ν ν ν (aD ν)))) ?_
 refine bT 19 ν (fun hg => aH (aJ ν ν ν ν (aD ν))) ?_
 refine bT 19 ν (fun hg => cJ 21 hg ν (cJ 22 hg ν (aH (ah ν ν ν (aD ν))))) ?_
 refine eJ ν ν (aD (aC ?_))
 refine cI ν (fun hc1 => ?_) (fun hc1 => ?_)
 ·refine aF (aA (aJ ν ν ν ν (cM ν ?_)))
  refine K2 hJ hJx hY rfl rfl rfl rfl rfl (Ns (by have h := hp; rw [jz (hc1)] at h; exact h)) rfl ?_
  refine gu (ty := Ty.yb true (hJ (k + 1)) hJx) ν ?_
  refine aD (aC (au (aK ?_)))
  exact Lg (h1 := hJ _) (hx := hJx) z0 wf0 hh0 rfl rfl rfl rfl (Ty.L6 (h1 := hJ (k + 1)) (congrArg J (by rw [jz hc1]; rfl)))
 refine aX (aC (aF (aF ?_)))
 obtain ⟨hne1, hne2⟩ := NY (b := d.b) (l := l) (bN := bN) (g := gg) (hc1) hlot
 refine aA (aJ ν ν ν ν (cW ν (cr ν ν ν ν ν aB (cr ν ν ν ν ν aB (kI ν ν ν ν (bU ν ν ν (bA ν (aD (aC (aV ?_))))))))))
 refine bf (fun (q : {q : Nat // q ≤ d.b.sizes.length}) => live [(0, Ty.sl bq l), (1, Ty.int .i64 (bN : Nat)), (2, Ty.pp [Ty.pe dI d 0]), (3, Ty.pp [Ty.int .i64 gg]), (4, Ty.pp [Ty.ex (yv li)]), (5, Ty.pp (j6 p)), (6, Ty.ptr 1000 0), (33, Ty.int .i64 d.b.sizes.length), (34, Ty.int .i64 (q.1 : Nat))] [(7000, Cont.ck (hJ (k + (roundUp d.b p gg l bN q.1).length))), (1000, Cont.cells 147 [Ty.ex (.func (.func 94) #[] (cs0 ++ [gp g]).toArray)]), (1001, Cont.me g 147 (.func (.func 94) #[] (cs0 ++ [gp g]).toArray) (ue d gg p li) cs0 ν ν), (5000, Cont.snap w0 (MG Mc g))]) (fun q => d.b.sizes.length - q.1) (⟨0, by omega⟩) ?_ fun q => ?_
 ·exact dK
 refine aF (aA (ah ν ν ν (aD (aC (aF ?_)))))
 refine aU ν (fun hc2 => ?_) (fun hc2 => ?_)
 ·refine aX (aC (aF (aV (aF (aA (bA ν (bZ ν bW ν (dH ν ν aB ν ν gR ν aP ν ν jF ?_))))))))
  refine aD (aC (aF (aF ?_)))
  refine jA (tg := 11) [(10, Ty.pp [Ty.int .i64 (q.1 : Nat)])] aB rfl ⟨Bh (T := 3) (tg := 11) (off := 0) (l := [Ty.int .i64 (q.1 : Nat)]) rfl rfl rfl aB, trivial⟩ ?_
  refine cH mixed ν (aJ ν ν ν ν (aY ν ν ν aP (aJ ν ν ν ν ?_)))
  refine aa (CB d h6 p (q.1 : Nat)) ν ν ν ν ν ?_
  refine dm ν ?_
  refine bT 41 ν (fun hg => aH (aJ ν ν ν ν (aD ν))) ?_
  refine bT 41 ν (fun hg => cJ 42 hg ν (aH (cW ν (aD ν)))) ?_
  refine bT 41 ν (fun hg => cJ 43 hg ν (aH (cr ν ν ν ν ν aB (aD ν)))) ?_
  refine bT 41 ν (fun hg => cJ 44 hg ν (aH (eV ν ν ν ν ν (aD ν)))) ?_
  refine bT 41 ν (fun hg => aH (aJ ν ν ν ν (aD ν))) ?_
  refine bT 41 ν (fun hg => aH (bA ν (aD ν))) ?_
  refine bT 41 ν (by intro hg; apply bV (s := 45) ν dF; apply bV (s := 46) ν dF; apply bV (s := 47) ν dF; apply aH; (refine aa (oN d.b (q.1 : Nat) (bN : Nat) ⟨by omega, by omega⟩ ⟨by omega, by omega⟩) ν ν ν ν ν ?_); refine aD ?_; exact ν) ?_
  refine bT 41 ν (fun hg => cJ 48 hg ν (aH (dW ν (aD ν)))) ?_
  refine eJ ν ν (dm ν ?_)
  refine bT 51 ν (fun hg => aH (cM ν (aD ν))) ?_
  refine bT 51 ν (fun hg => aH (fA ν (aD ν))) ?_
  refine bT 51 ν (by intro hg; apply bV (s := 52) ν dF; apply bV (s := 53) ν dF; apply aH; (refine aa (j9 l (Ty.so 97 [Ty.pp [Ty.int .i64 (q.1 : Nat)]]) ν (fun t => decide (t.aim = ((q.1 : Nat) : Int))) ν ν fun x _ => gY (N3 x (q.1 : Nat)) ν ν ν ν ν ν) ν ν ν ν ν ?_); refine aD ?_; exact ν) ?_
  refine eJ ν ν (aD ?_)
  refine ⟨by kernel_rfl, ?_⟩
  refine aC ?_
  refine cI ν (fun hc3 => ?_) (fun hc3 => ?_)
  ·refine bQ (aI (aS ν (aC (aA (bY ν ν aE aE (bA ν (aD ?_)))))))
   refine bG (⟨q.1 + 1, by omega⟩) ?_ PI
   (refine dw.mk' ?_ ?_ <;> (repeat' (first | exact aQ | exact aR | refine aG ?_ (Ty.bC _) | refine aG ?_ (Ty.aM _) | refine aL rfl (Cont.aM _) ?_ | refine aL rfl ?_ ?_)))
   all_goals exact Cont.Jy hJ (by rw [qP, vn hc3, List.append_nil])
  refine aX (aC (aF ?_))
  have hsk : oS d.b p l q.1 bN = false := hc3
  have hpk := Iw (n := q.1) hne1 hne2 hp aE
  rw [k8 hsk] at hpk
  refine cH mixed ν (aq ν ν aB ν ν ν (cM ν (fM [(59, 6)] [59] [] (Ej l aE) ν ν n9 pre_nil post_nil (fD gU) ?_)))
  refine bA ν (aJ ν ν ν ν (cC ν ν bW ν dn eU ?_))
  refine bD (E := bq) (xs := [⟨(bN : Int), (q.1 : Nat)⟩]) ν ν ν ν ν aB aB mH bn ν ?_
  refine cG ν ν aB ν ν ν ν ν ν aB bp bp (bA ν (bY ν ν aE aE ?_))
  refine HB [59] (hJ (k + (roundUp d.b p gg l bN q.1).length)) (hJ _) hJx (ih hne1 (l ++ [⟨(bN : Int), (q.1 : Nat)⟩]) (k + (roundUp d.b p gg l bN q.1).length) x9 hpk) rfl rfl DR rfl rfl rfl rfl (fun u hu => by rw [List.mem_singleton.1 hu]; exact ⟨by decide, by simp⟩) rfl rfl ?_
  refine PW (h1 := hJ _) (hx := hJx) ν ?_
  refine aD ?_
  refine ⟨by kernel_rfl, ?_⟩
  refine aC ?_
  refine Ny (h1 := hJ _) (hx := hJx) ν ?_ ?_
  ·refine aF (aA (dN ν (aD (aC (au (aZ (aK (aK (aZ (aK ?_))))))))))
   exact NL (hx := hJx) z0 wf0 hh0 rfl rfl rfl rfl rfl rfl
  refine aX (bE (aC (aA (bY ν ν aE aE (bA ν (aD ?_))))))
  refine bG (⟨q.1 + 1, by omega⟩) ?_ PI
  (refine dw.mk' ?_ ?_ <;> (repeat' (first | exact aQ | exact aR | refine aG ?_ (Ty.bC _) | refine aG ?_ (Ty.aM _) | refine aL rfl (Cont.aM _) ?_ | refine aL rfl ?_ ?_)))
  all_goals exact Cont.Jy hJ (by rw [qP, k8 hsk, List.length_append]; omega)
 refine bQ (aI (aI (aS ν (aC (aF (aA (aq ν ν aB ν ν ν (cM ν (bA ν (bY ν ν aE aE ?_))))))))))
 refine HB [] (hJ (k + (roundUp d.b p gg l bN q.1).length)) (hJ _) hJx (ih hne1 l (k + (roundUp d.b p gg l bN q.1).length) aE (by rw [show q.1 = d.b.sizes.length by have := q.2; omega]; exact KD hne1 hne2 hp)) rfl rfl (by repeat (first | exact wH | refine nj (jP rfl rfl) ?_)) rfl rfl rfl rfl (fun u hu => by cases hu) rfl rfl ?_
 refine gu (ty := Ty.yb true (hJ _) hJx) ν ?_
 refine aD (aC (au ?_))
 exact Lg (h1 := hJ _) (hx := hJx) z0 wf0 hh0 rfl rfl rfl rfl (Ty.L6 (h1 := hJ (k + (roundUp d.b p gg l bN q.1).length + (fQ d.b p gg l (bN + 1)).length)) (congrArg J (by rw [p7 hne1 hne2, List.length_append, show q.1 = d.b.sizes.length by have := q.2; omega]; omega)))
theorem Lw (d : tS) (hs : d.b.Small) (h6 : d.b.aO.length ≤ 6) (gg : Int) (p : Pl) (R : List (List bX)) (li : Nat) (J : Nat → World → bI → Prop) (Jx : World → bI → Prop) (hJ : ∀ k, Cb (J k)) (hJx : Cb Jx) (hY : Mu Tryz.prog li (R.map Cy) J Jx) : ∀ (m bN : Nat) (lz : Int) (l : List bX) (k : Nat), bN + m = d.b.aO.length → lz = (bN : Int) → l.length ≤ bN → fQ d.b p gg l bN <+: R.drop k →
    yz Tryz.prog 94 147 (ue d gg p li) [Ty.sl bq l, Ty.int .i64 lz] (J k) (J (k + (fQ d.b p gg l bN).length)) Jx
  | 0, bN, lz, l, k, hm, hlz, hl, hp => Gl d hs h6 gg p R li J Jx hJ hJx hY l bN lz hlz k aE hl hp (fun h => by omega)
  | m + 1, bN, lz, l, k, hm, hlz, hl, hp => Gl d hs h6 gg p R li J Jx hJ hJx hY l bN lz hlz k aE hl hp (fun _ l' k' hl' hp' => Lw d hs h6 gg p R li J Jx hJ hJx hY m (bN + 1) (lz + 1) l' k' aE aE hl' hp')
theorem Ad (d : tS) (hs : d.b.Small) (h6 : d.b.aO.length ≤ 6) (gg : Int) (p : Pl) : iT Tryz.prog 93 (fun l => [Ty.ex (yv l), Ty.pp [Ty.pe dI d 0], Ty.pp [Ty.int .i64 gg], Ty.pp (j6 p)]) ((dB d.b p gg).map Cy) (Ty.iF []) (Ty.iF []) := by
 refine Fp Tryz.func93 rfl aB Tryz.ntmps93 (fun _ => by exact Nat.le_of_ble_eq_true rfl) (fun _ => ⟨rfl, rfl⟩) fun l J Jx hJ hJx hY w0 M0 => ?_
 refine aF (aA ?_)
 refine iq (by exact (ν : _ = Ty.ex _)) ν ?_
 refine aD (aC (aF (aA (bZ ν bW ν (aD (aC (aF (aA (fA ν ?_)))))))))
 refine dH ν ν aB ν ν (by exact (ν : _ = Ty.so _ _)) ν aP ν ν jF ?_
 refine aD (aC (aA (aq ν ν aB ν ν ν ?_)))
 refine K8 (tg := 6) (hJ 0) (hJ _) hJx (Lw d hs h6 gg p (dB d.b p gg) l J Jx hJ hJx hY d.b.aO.length 0 0 [] 0 aE ν (Nat.le_refl _) (List.prefix_rfl)) ν ν ν ν (by repeat (first | exact wH | refine nj (jP ν ν) ?_ | refine nj D1 ?_)) ν ν ν aB ν ?_
 refine aD ?_
 exact NA (h1 := hJ _) (hx := hJx) rfl (s := 8) rfl (by rw [List.length_map, Nat.zero_add]; rfl)
theorem D0 (d : tS) (p : Pl) (gg : Int) : dO Tryz.prog 46 [Ty.pe dI d 0, Ty.agg (j6 p), Ty.int .i64 gg] (Ty.so 93 [Ty.pp [Ty.pe dI d 0], Ty.pp [Ty.int .i64 gg], Ty.pp (j6 p)]) := by
 refine az Tryz.func46 ν aB Tryz.ntmps46 aP fun w0 M0 => ?_
 refine aF (aA (iq LP ν ?_))
 refine bF ν (iq gR ν ?_)
 refine fm ν (aD (aC (aF (aA (fA ν (RV ν (aD (aC (au (bg ν ν ?_))))))))))
 all_goals exact b9 rfl rfl
 skip
end Go.Proofs.YtpnndljmhpepgaaGreat
