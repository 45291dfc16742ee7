/- Lemmas: the program and the reference walked, plain laws. -/
import Derived.Test.YtelbollidfdcjaaGreatHc
namespace Go.Proofs.YtelbollidfdcjaaGreat
open Go Go.T
set_option maxHeartbeats 16000000
noncomputable def kF (y : bB) : List Int := (cO (aP y (nth bP)) (y.cells + 1) (fT (aP y (nth bP)))).2.2
noncomputable def cy (y : bB) : Int := if bZ y = 0 then (if (cO (aP y (nth bP)) (y.cells + 1) (fT (aP y (nth bP)))).2.1 = true then 7 else 0) else bZ y
noncomputable def jX (y : bB) : dU := if cy y = 0 then fL y (kF y) else ⟨[], []⟩
theorem jA : bP.length = 8 := rfl
theorem kL {y : bB} (hr : y.cN) {c : Nat → Bool} : DR y (aP y c) (fT (aP y c)) := ⟨hr, jJ hr, qF hr, fun e => AE (sq e), iV hr⟩
section
variable {y : bB}
theorem open_1 (h : ¬ bZ y = 0) : bZ y = cy y := (if_neg h).symm
theorem vu (h : bZ y = 0) (h2 : (cO (aP y (nth bP)) (y.cells + 1) (fT (aP y (nth bP)))).2.1 = true) : 7 = cy y := by unfold cy; rw [if_pos h, if_pos h2]
theorem open_3 (h : bZ y = 0) (h2 : (cO (aP y (nth bP)) (y.cells + 1) (fT (aP y (nth bP)))).2.1 = false) : 0 = cy y := by unfold cy; rw [if_pos h, if_neg (by rw [h2]; decide)]
theorem eC (h : cy y = 0) : bZ y = 0 := by
 by_cases e : bZ y = 0
 ·exact e
 rw [← open_1 e] at h; exact absurd h e
theorem zJ (h : cy y = 0) : (cO (aP y (nth bP)) (y.cells + 1) (fT (aP y (nth bP)))).2.1 = false := by
  cases e : (cO (aP y (nth bP)) (y.cells + 1) (fT (aP y (nth bP)))).2.1 with
  | false => rfl
  | true => rw [← vu (eC h) e] at h; cases h
theorem EH (hr : y.cN) (h2 : (cO (aP y (nth bP)) (y.cells + 1) (fT (aP y (nth bP)))).2.1 = false) : fU (aP y (nth bP)) (y.cells + 1) (cO (aP y (nth bP)) (y.cells + 1) (fT (aP y (nth bP)))).2.2 := nE (jJ hr) (kL hr).inb h2
theorem p7 (h : cy y = 0) : fU (aP y (nth bP)) (y.cells + 1) (kF y) := EH (c9 (eC h)) (zJ h)
theorem LS (h : ¬ bZ y = 0) : (⟨[], []⟩ : dU) = jX y := by unfold jX; rw [← open_1 h, if_neg h]
theorem La (h : bZ y = 0) (h2 : (cO (aP y (nth bP)) (y.cells + 1) (fT (aP y (nth bP)))).2.1 = true) : (⟨[], []⟩ : dU) = jX y := by unfold jX; rw [← vu h h2]; rfl
theorem HD (h : bZ y = 0) (h2 : (cO (aP y (nth bP)) (y.cells + 1) (fT (aP y (nth bP)))).2.1 = false) : fL y (cO (aP y (nth bP)) (y.cells + 1) (fT (aP y (nth bP)))).2.2 = jX y := by unfold jX; rw [if_pos (open_3 h h2).symm]; rfl
theorem lG {a : dU} (e : ⟨[], []⟩ = a) : iK (Ty.agg [Ty.ku (.slice none 0 0), Ty.ku (.slice none 0 0)]) (kr a) := by subst e; exact zP (ts := dP ⟨[], []⟩) (lK AH (lK AH wE))
theorem zk {b : Bool} (h : (!!b) = true) : b = true := by cases b <;> first | rfl | cases h
theorem xx {b : Bool} (h : (!!b) = false) : b = false := by cases b <;> first | rfl | cases h
theorem Lu (y : bB) : (cO (aP y (nth bP)) (y.cells + 1) (fT (aP y (nth bP)))).2.2 = kF y := rfl
end
attribute [local irreducible] aP fT Way.gj Way.fin Way.room eX eI fE gR over bQ cQ dn eW jh fG gx kO cO fR fy fu dB cL gN pS iq jC jQ gb By yR gQ bB.kept bB.cells bZ dO bP fL kF cy
attribute [local irreducible] iP fV m6 qX ig iw ia ij ir qN iy qQ eA ga qU gS qM nth fX dy aj dx bodyPost Exit.then Exit.inBlock Code.wp Code.wpIn qO iz qT qR iZ eR cW cZ bodyPostM eH
set_option maxRecDepth 100000 in
theorem HA (y : bB) (hs : y.Small) : dx Tryz.prog 47 [fH y] (Ty.jv [kr (jX y), Ty.int .i64 (cy y)]) := by
 refine au Tryz.func47 rfl (by decide) Tryz.ntmps47 (by exact Nat.le_of_ble_eq_true rfl) fun w0 M0 => ?_
 refine aE (aA (bJ rfl ?_))
 refine b8 rfl (by exact List.cons_ne_nil _ _) rfl ?_
 refine cB rfl (aD (aC (aE (aE (aA ?_)))))
 refine aY rfl rfl rfl (by exact Nat.le_of_ble_eq_true rfl) ?_
 refine aa (jf y hs) rfl rfl rfl rfl rfl (cB rfl (aD (aC (aE (aA (bM rfl (bE rfl rfl rfl (aD (aC ?_)))))))))
 refine cv rfl (fun hc1 => ?_) (fun hc1 => ?_)
 ·
  refine aE (aA ?_)
  refine dG rfl rfl (by exact List.cons_ne_nil _ _) rfl (by repeat (exact (aX.nil : aX _ _ [] _))) (by exact (rfl : _ = some [_, _])) ?_
  refine bM rfl ?_
  refine bp rfl rfl (by decide) rfl rfl rfl rfl rfl rfl ?_
  refine cB rfl (aD (aC (az (aV ?_))))
  refine gF rfl rfl rfl rfl rfl (by decide) rfl rfl rfl ?_ ?_
  all_goals skip
  all_goals first | exact lG (LS hc1) | exact ay rfl rfl (congrArg (Ty.int .i64) (open_1 hc1))
 refine ak (aC (aE ?_))
 have hck : bZ y = 0 := hc1
 have hr := c9 hck
 refine cM mixed rfl ?_
 refine aY rfl rfl rfl (by exact Nat.le_of_ble_eq_true rfl) ?_
 refine aa (qZ) rfl rfl rfl rfl rfl ?_
 refine cI (res' := Ty.pp (l9 y 2000 1000 (aP y (nth bP)).length (aP y (nth bP)).length)) [(2000, 23), (1000, 31)] [2000, 1000] [(2000, Cont.vec dZ 187 (aP y (nth bP))), (1000, Cont.vec cm 3 (fT (aP y (nth bP))))] (oY y hr bP jA) rfl rfl (aJ (aJ bO (aQ rfl rfl)) (aQ rfl rfl)) pre_nil (bN (a := 2000) (b := 23) (by decide) rfl (cA (by decide) rfl) (bN (a := 1000) (b := 31) (by decide) rfl (cA (by decide) rfl) post_nil)) (eo (aJ (aJ (aJ (aJ (aJ (aJ bO (eT (by decide))) (eT (by decide))) (aQ rfl rfl)) (aQ rfl rfl)) (aQ rfl rfl)) (aQ rfl rfl))) ?_
 refine It rfl (aD ?_)
 refine ⟨by kernel_rfl, ?_⟩
 refine aC (aE (aE ?_))
 refine jY (tg := 2000) [(5, Ty.pp (eF y (aP y (nth bP)) 1000 (aP y (nth bP)).length))] (by decide) rfl ⟨tJ rfl ⟨bg rfl, bg rfl, bg rfl, bg rfl, kM rfl rfl (by decide), bg rfl, trivial⟩, trivial⟩ ?_
 refine aA (iF rfl ?_)
 refine cI [(1000, 1000)] [] [(1000, Cont.vec cm 3 (cO (aP y (nth bP)) (y.cells + 1) (fT (aP y (nth bP)))).2.2)] (mA y (aP y (nth bP)) (fT (aP y (nth bP))) (kL hr)) rfl rfl (aJ bO (eo (aJ (aJ (aJ (aJ (aJ (aJ bO (eT (by exact List.mem_cons_self))) (aQ rfl rfl)) (aQ rfl rfl)) (aQ rfl rfl)) (aQ rfl rfl)) (aQ rfl rfl)))) (cF (a := 1000) (b := 1000) (by exact List.mem_cons_self) rfl (cA (by exact List.mem_cons_self) rfl) pre_nil) (bN (a := 1000) (b := 1000) (by decide) rfl (cA (by decide) rfl) post_nil) (aQ rfl rfl) ?_
 refine dM rfl (aD (aC ?_))
 refine cY rfl (fun hc2 => ?_) (fun hc2 => ?_)
 ·
  refine aE (aA ?_)
  refine dG rfl rfl (by exact List.cons_ne_nil _ _) rfl (by repeat (exact (aX.nil : aX _ _ [] _))) (by exact (rfl : _ = some [_, _])) ?_
  refine bp rfl rfl (by decide) rfl rfl rfl rfl rfl rfl ?_
  refine cB rfl (aD (aC (az (aV ?_))))
  refine gF rfl rfl rfl rfl rfl (by decide) rfl rfl rfl ?_ ?_
  all_goals skip
  all_goals first | exact lG (La hck (zk hc2)) | exact ay rfl rfl (congrArg (Ty.int .i64) (vu hck (zk hc2)))
 refine ak (aC (aE ?_))
 have hfe := EH hr (xx hc2)
 refine jY (tg := 1000) [(5, Ty.pp (kQ y (aP y (nth bP)) (cO (aP y (nth bP)) (y.cells + 1) (fT (aP y (nth bP)))).2.2))] (by decide) rfl ⟨tJ rfl ⟨bg rfl, bg rfl, bg rfl, bg rfl, bg rfl, kM rfl hfe.1.1 (by decide), trivial⟩, trivial⟩ ?_
 refine aA (iF rfl (aa (L7 y (nth bP) (cO (aP y (nth bP)) (y.cells + 1) (fT (aP y (nth bP)))).2.2 hr hfe.1.1) rfl rfl rfl rfl rfl ?_))
 refine bp rfl rfl (by decide) rfl rfl rfl rfl rfl rfl ?_
 refine cB rfl (aD (aC (az ?_)))
 refine gF rfl rfl rfl rfl rfl (by decide) rfl rfl rfl ?_ ?_
 all_goals skip
 all_goals first | exact ay rfl rfl (congrArg kr (HD hck (xx hc2))) | exact ay rfl rfl (congrArg (Ty.int .i64) (open_3 hck (xx hc2)))
set_option maxRecDepth 100000 in
theorem v9 (y : bB) (hs : y.Small) (h : cy y = 0) : eR Tryz.prog 86 [] [] [fH y] [(1000, Cont.vec cm 3 (kF y))] (Ty.jv [Ty.pp (eF y (aP y (nth bP)) 1000 (aP y (nth bP)).length), Ty.int .i64 0]) := by
 refine qo Tryz.func86 rfl (by decide) Tryz.ntmps86 (by exact Nat.le_of_ble_eq_true rfl) fun w0 M0 => ?_
 have hck := eC h
 have hr := c9 hck
 have hst := zJ h
 refine aE (aA (bJ rfl (mF rfl (cB rfl (aD (aC (aE (aE (aA ?_)))))))))
 refine aY rfl rfl rfl (by exact Nat.le_of_ble_eq_true rfl) ?_
 refine aa (jf y hs) rfl rfl rfl rfl rfl (cB rfl (aD (aC (aE (aA (bM rfl (bE rfl rfl rfl (aD (aC ?_)))))))))
 refine iQ rfl (by rw [hck]; rfl) ?_
 refine ak (aC (aE (cM mixed rfl ?_)))
 refine aY rfl rfl rfl (by exact Nat.le_of_ble_eq_true rfl) ?_
 refine aa (qZ) rfl rfl rfl rfl rfl ?_
 refine cI (res' := Ty.pp (l9 y 2000 1000 (aP y (nth bP)).length (aP y (nth bP)).length)) [(2000, 23), (1000, 31)] [2000, 1000] [(2000, Cont.vec dZ 187 (aP y (nth bP))), (1000, Cont.vec cm 3 (fT (aP y (nth bP))))] (oY y hr bP jA) rfl rfl (aJ (aJ bO (aQ rfl rfl)) (aQ rfl rfl)) pre_nil (bN (a := 2000) (b := 23) (by decide) rfl (cA (by decide) rfl) (bN (a := 1000) (b := 31) (by decide) rfl (cA (by decide) rfl) post_nil)) (eo (aJ (aJ (aJ (aJ (aJ (aJ bO (eT (by decide))) (eT (by decide))) (aQ rfl rfl)) (aQ rfl rfl)) (aQ rfl rfl)) (aQ rfl rfl))) ?_
 refine It rfl (aD ?_)
 refine ⟨by kernel_rfl, ?_⟩
 refine aC (aE (aE ?_))
 refine jY (tg := 2000) [(5, Ty.pp (eF y (aP y (nth bP)) 1000 (aP y (nth bP)).length))] (by decide) rfl ⟨tJ rfl ⟨bg rfl, bg rfl, bg rfl, bg rfl, kM rfl rfl (by decide), bg rfl, trivial⟩, trivial⟩ ?_
 refine aA (iF rfl ?_)
 refine cI [(1000, 1000)] [] [(1000, Cont.vec cm 3 (cO (aP y (nth bP)) (y.cells + 1) (fT (aP y (nth bP)))).2.2)] (mA y (aP y (nth bP)) (fT (aP y (nth bP))) (kL hr)) rfl rfl (aJ bO (eo (aJ (aJ (aJ (aJ (aJ (aJ bO (eT (by exact List.mem_cons_self))) (aQ rfl rfl)) (aQ rfl rfl)) (aQ rfl rfl)) (aQ rfl rfl)) (aQ rfl rfl)))) (cF (a := 1000) (b := 1000) (by exact List.mem_cons_self) rfl (cA (by exact List.mem_cons_self) rfl) pre_nil) (bN (a := 1000) (b := 1000) (by decide) rfl (cA (by decide) rfl) post_nil) (aQ rfl rfl) ?_
 refine dM rfl (aD (aC ?_))
 refine iQ rfl (by rw [hst]; rfl) ?_
 refine ak (aC (aE (aA (iF rfl (It rfl (cB rfl (aD (aC (az ?_)))))))))
 refine Gb rfl ?_
 refine AD [1000] rfl rfl rfl (by decide) ?_ ?_ ?_
 ·exact eN rfl (cA (by decide) (Lu y)) fO
 all_goals first | exact fo (aQ rfl rfl) | skip
 all_goals exact fo (eo (aJ (aJ (aJ (aJ (aJ (aJ bO (eT (by decide))) (aQ rfl rfl)) (aQ rfl rfl)) (aQ rfl rfl)) (aQ rfl rfl)) (aQ rfl rfl)))
set_option maxRecDepth 100000 in
theorem oa (y : bB) (hs : y.Small) (h : cy y ≠ 0) : dx Tryz.prog 86 [fH y] (Ty.jv [Ty.ex (.pointer none), Ty.int .i64 (cy y)]) := by
 refine au Tryz.func86 rfl (by decide) Tryz.ntmps86 (by exact Nat.le_of_ble_eq_true rfl) fun w0 M0 => ?_
 refine aE (aA (bJ rfl (mF rfl (cB rfl (aD (aC (aE (aE (aA ?_)))))))))
 refine aY rfl rfl rfl (by exact Nat.le_of_ble_eq_true rfl) ?_
 refine aa (jf y hs) rfl rfl rfl rfl rfl (cB rfl (aD (aC (aE (aA (bM rfl (bE rfl rfl rfl (aD (aC ?_)))))))))
 refine cv rfl (fun hc1 => ?_) (fun hc1 => ?_)
 ·
  refine aE (aA (bM rfl (mF rfl (cB rfl (aD (aC (az (aV ?_))))))))
  refine fD rfl rfl rfl ?_ ?_
  all_goals first | exact cC rfl rfl | skip
  all_goals exact ay rfl rfl (congrArg (Ty.int .i64) (open_1 hc1))
 refine ak (aC (aE ?_))
 have hck : bZ y = 0 := hc1
 have hr := c9 hck
 refine cM mixed rfl ?_
 refine aY rfl rfl rfl (by exact Nat.le_of_ble_eq_true rfl) ?_
 refine aa (qZ) rfl rfl rfl rfl rfl ?_
 refine cI (res' := Ty.pp (l9 y 2000 1000 (aP y (nth bP)).length (aP y (nth bP)).length)) [(2000, 23), (1000, 31)] [2000, 1000] [(2000, Cont.vec dZ 187 (aP y (nth bP))), (1000, Cont.vec cm 3 (fT (aP y (nth bP))))] (oY y hr bP jA) rfl rfl (aJ (aJ bO (aQ rfl rfl)) (aQ rfl rfl)) pre_nil (bN (a := 2000) (b := 23) (by decide) rfl (cA (by decide) rfl) (bN (a := 1000) (b := 31) (by decide) rfl (cA (by decide) rfl) post_nil)) (eo (aJ (aJ (aJ (aJ (aJ (aJ bO (eT (by decide))) (eT (by decide))) (aQ rfl rfl)) (aQ rfl rfl)) (aQ rfl rfl)) (aQ rfl rfl))) ?_
 refine It rfl (aD ?_)
 refine ⟨by kernel_rfl, ?_⟩
 refine aC (aE (aE ?_))
 refine jY (tg := 2000) [(5, Ty.pp (eF y (aP y (nth bP)) 1000 (aP y (nth bP)).length))] (by decide) rfl ⟨tJ rfl ⟨bg rfl, bg rfl, bg rfl, bg rfl, kM rfl rfl (by decide), bg rfl, trivial⟩, trivial⟩ ?_
 refine aA (iF rfl ?_)
 refine cI [(1000, 1000)] [] [(1000, Cont.vec cm 3 (cO (aP y (nth bP)) (y.cells + 1) (fT (aP y (nth bP)))).2.2)] (mA y (aP y (nth bP)) (fT (aP y (nth bP))) (kL hr)) rfl rfl (aJ bO (eo (aJ (aJ (aJ (aJ (aJ (aJ bO (eT (by exact List.mem_cons_self))) (aQ rfl rfl)) (aQ rfl rfl)) (aQ rfl rfl)) (aQ rfl rfl)) (aQ rfl rfl)))) (cF (a := 1000) (b := 1000) (by exact List.mem_cons_self) rfl (cA (by exact List.mem_cons_self) rfl) pre_nil) (bN (a := 1000) (b := 1000) (by decide) rfl (cA (by decide) rfl) post_nil) (aQ rfl rfl) ?_
 refine dM rfl (aD (aC ?_))
 refine cY rfl (fun hc2 => ?_) (fun hc2 => ?_)
 ·
  refine aE (aA (mF rfl (cB rfl (aD (aC (az (aV ?_)))))))
  refine fD rfl rfl rfl ?_ ?_
  all_goals first | exact cC rfl rfl | skip
  all_goals exact ay rfl rfl (congrArg (Ty.int .i64) (vu hck (zk hc2)))
 refine ak (aC (aE (aA (iF rfl (It rfl (cB rfl (aD (aC (az ?_)))))))))
 refine fD rfl rfl rfl ?_ ?_
 all_goals skip
 all_goals exact absurd (open_3 hck (xx hc2)).symm h
end Go.Proofs.YtelbollidfdcjaaGreat
namespace Go.Proofs.YtelbollidfdcjaaGreat
open Go Go.T
set_option maxHeartbeats 16000000
def tE (k : Nat) (i : Nat) : Bool := decide ((i : Int) = (k : Int))
def hasB (y : bB) (b t : Nat) : Nat → Bool := tE (y.kept b t)
noncomputable def oz (fl : List b9) (n : Nat) (y : bB) (b : Nat) (a : List Int) : Nat → List Int
  | 0 => a
  | t + 1 => yR fl n (hasB y b t) (oz fl n y b a t)
noncomputable def qP (fl : List b9) (n : Nat) (y : bB) (b k : Nat) : List Span := (List.range k).map fun t => gb fl n (hasB y b t)
noncomputable def ju (y : bB) (b : Int) : Int := if dO y b = 0 then cy y else dO y b
noncomputable def dh (y : bB) (b : Int) : List Span := if ju y b = 0 then qP (aP y (nth bP)) (y.cells + 1) y b.toNat (y.D + 1) else []
def J9 (y : bB) (k : Int) : Int := if bZ y = 0 then (if (decide (k ≥ 0) && decide (k ≤ (y.moves.length : Int) - 1)) = true then 0 else 1) else bZ y
noncomputable def kZ (y : bB) (k : Int) : Int := if J9 y k = 0 then cy y else J9 y k
noncomputable def nU (y : bB) (k : Int) : Span := if kZ y k = 0 then gb (aP y (nth bP)) (y.cells + 1) (tE (y.bins.length * (y.D + 1) + k.toNat)) else ⟨0, 0⟩
theorem tC {y : bB} (h : cy y = 0) : lf y (aP y (nth bP)) (kF y) := ⟨c9 (eC h), jJ (c9 (eC h)), qF (c9 (eC h)), (p7 h).1, iV (c9 (eC h))⟩
section
variable {y : bB} {fl : List b9} {a : List Int} {n b k : Nat} {q : Int}
theorem AW (hN : Net fl n) (hn : 0 < n) (hB : Bd fl) (h : fU fl n a) : ∀ t, fU fl n (oz fl n y b a t)
  | 0 => h
  | t + 1 => (sS hN hn hB (AW hN hn hB h t)).2.1
theorem HM : a = oz fl n y b a 0 := rfl
theorem IK (t : Nat) : yR fl n (hasB y b t) (oz fl n y b a t) = oz fl n y b a (t + 1) := rfl
theorem Fb (t : Nat) : qP fl n y b t ++ [gb fl n (hasB y b t)] = qP fl n y b (t + 1) := by unfold qP; rw [List.range_succ, List.map_append]; rfl
theorem Gf (t : Nat) : (qP fl n y b t).length = t := by unfold qP; rw [List.length_map, List.length_range]
theorem E8 : qP fl n y b 0 = [] := rfl
theorem CI {T tg : Nat} {xs : List Span} (h : xs = []) : (Ty.ex (.slice none 0 0)).Sub (Ty.row dV T tg xs) := by subst h; exact Ty.mL
theorem Jw (k : Nat) (i : Nat) : decide ((i : Int) = (k : Int)) = tE k i := rfl
theorem J5 (b t i : Nat) : decide ((i : Int) = ((y.kept b t : Nat) : Int)) = hasB y b t i := rfl
theorem z7 (h : ¬ dO y q = 0) : dO y q = ju y q ∧ [] = dh y q := by
 have e : dO y q = ju y q := (if_neg h).symm
 exact ⟨e, by unfold dh; rw [← e, if_neg h]⟩
theorem GL (h : dO y q = 0) (ho : cy y ≠ 0) : cy y = ju y q ∧ [] = dh y q := by
 have e : cy y = ju y q := (if_pos h).symm
 exact ⟨e, by unfold dh; rw [← e, if_neg ho]⟩
theorem zi (h : dO y q = 0) (ho : cy y = 0) : 0 = ju y q ∧ qP (aP y (nth bP)) (y.cells + 1) y q.toNat (y.D + 1) = dh y q := by
 have e : cy y = ju y q := (if_pos h).symm
 exact ⟨by rw [← e, ho], by unfold dh; rw [← e, if_pos ho]⟩
theorem Ee (h : dO y q = 0) : 0 ≤ q ∧ q < y.bins.length := by
 unfold dO at h
 by_cases e : bZ y = 0
 ·rw [if_pos e] at h
  by_cases c : y.bin q = true
  ·unfold bB.bin rJ at c
   rw [Bool.and_eq_true, decide_eq_true_eq, decide_eq_true_eq] at c; omega
  rw [if_neg c] at h; cases h
 rw [if_neg e] at h; exact absurd h e
theorem EJ (h : ¬ bZ y = 0) : bZ y = kZ y q ∧ (⟨0, 0⟩ : Span) = nU y q := by
 have e1 : J9 y q = bZ y := if_neg h
 have e : bZ y = kZ y q := by unfold kZ; rw [e1, if_neg h]
 exact ⟨e, by unfold nU; rw [← e, if_neg h]⟩
theorem ES (h : bZ y = 0) (h2 : (!(decide (q ≥ 0) && decide (q ≤ (y.moves.length : Int) - 1))) = true) : 1 = kZ y q ∧ (⟨0, 0⟩ : Span) = nU y q := by
 have e1 : J9 y q = 1 := by unfold J9; rw [if_pos h, if_neg (by rw [qd h2]; decide)]
 have e : 1 = kZ y q := by unfold kZ; rw [e1]; rfl
 exact ⟨e, by unfold nU; rw [← e]; rfl⟩
theorem zG (h2 : (!(decide (q ≥ 0) && decide (q ≤ (y.moves.length : Int) - 1))) = false) : 0 ≤ q ∧ q < y.moves.length := by
 have := fY h2
 rw [Bool.and_eq_true, decide_eq_true_eq, decide_eq_true_eq] at this; omega
theorem KY (h : bZ y = 0) (h2 : (!(decide (q ≥ 0) && decide (q ≤ (y.moves.length : Int) - 1))) = false) (ho : cy y ≠ 0) : cy y = kZ y q ∧ (⟨0, 0⟩ : Span) = nU y q := by
 have e1 : J9 y q = 0 := by unfold J9; rw [if_pos h, if_pos (fY h2)]
 have e : cy y = kZ y q := by unfold kZ; rw [e1]; rfl
 exact ⟨e, by unfold nU; rw [← e, if_neg ho]⟩
theorem Ea (h : bZ y = 0) (h2 : (!(decide (q ≥ 0) && decide (q ≤ (y.moves.length : Int) - 1))) = false) (ho : cy y = 0) : 0 = kZ y q ∧ gb (aP y (nth bP)) (y.cells + 1) (tE (y.bins.length * (y.D + 1) + q.toNat)) = nU y q := by
 have e1 : J9 y q = 0 := by unfold J9; rw [if_pos h, if_pos (fY h2)]
 have e : cy y = kZ y q := by unfold kZ; rw [e1]; rfl
 exact ⟨by rw [← e, ho], by unfold nU; rw [← e, if_pos ho]⟩
end
attribute [local irreducible] aP fT Way.gj Way.fin Way.room eX eI fE gR over bQ cQ dn eW jh fG gx kO cO fR fy fu dB cL gN pS iq jC jQ gb By yR gQ bB.kept bB.cells bZ dO bP fL kF cy oz qP ju dh kZ nU hasB tE
attribute [local irreducible] iP fV m6 qX ig iw ia ij ir qN iy qQ eA ga qU gS qM nth fX dy aj dx bodyPost Exit.then Exit.inBlock Code.wp Code.wpIn qO iz qT qR iZ eR cW cZ bodyPostM eH
set_option maxRecDepth 100000 in
theorem E0 (f k : Int) : dx Tryz.prog 165 [Ty.int .i64 f, Ty.pp [Ty.int .i64 k]] (Ty.bool (decide (f = k))) := by
 refine au Tryz.func165 rfl (by decide) Tryz.ntmps165 (by exact Nat.le_of_ble_eq_true rfl) fun w0 M0 => ?_
 refine aE (aA (dY rfl (aD (aC (aE (aA (bM rfl (aK rfl rfl rfl rfl (bE rfl rfl rfl ?_)))))))))
 refine dY rfl (aD (aC (az (bq rfl rfl ?_))))
 all_goals exact cC rfl rfl
set_option maxRecDepth 100000 in
theorem GS (y : bB) (fl : List b9) (a : List Int) (h : lf y fl a) (hfe : fU fl (y.cells + 1) a) (b : Nat) (hb : b < y.bins.length) : eR Tryz.prog 91 [1000] [(1000, Cont.vec cm 3 a)] [Ty.pp (eF y fl 1000 fl.length), Ty.int .i64 ((b : Nat) : Int)] [(1000, Cont.vec cm 3 (oz fl (y.cells + 1) y b a (y.D + 1)))] (Ty.sl dV (qP fl (y.cells + 1) y b (y.D + 1))) := by
 refine eG Tryz.func91 rfl (by decide) Tryz.ntmps91 (by exact Nat.le_of_ble_eq_true rfl) fun w0 M0 => ?_
 have h1 := h.right.bins
 have h2 := h.right.days
 have h3 := D_eq h.right
 have hft := AW (y := y) (b := b) h.net (Nat.succ_pos _) h.bd hfe
 refine aE (aA (mF rfl (aD (aC (aE (aA (mF rfl (aD (aC ?_)))))))))
 refine aE (aE (aA (iF rfl (bU rfl ?_))))
 refine aM rfl rfl rfl rfl rfl (by decide) ?_
 refine aM rfl rfl rfl rfl rfl (by decide) ?_
 refine aK rfl rfl rfl rfl ?_
 refine bz rfl rfl (by omega) (by omega) ?_
 refine bM rfl (aD (aC (ah ?_)))
 refine cU (fun (t : {t : Nat // t ≤ y.D + 1}) => live [(0, Ty.pp (eF y fl 1000 fl.length)), (1, Ty.int .i64 ((b : Nat) : Int)), (5, Ty.row dV 37 26 (qP fl (y.cells + 1) y b t.1)), (13, Ty.int .i64 (y.days + 1)), (14, Ty.int .i64 (t.1 : Nat))] [(1000, Cont.vec cm 3 (oz fl (y.cells + 1) y b a t.1))]) (fun t => y.D + 1 - t.1) (⟨0, by omega⟩) ?_ fun t => ?_
 ·(refine dD.mk' ?_ ?_ <;> (repeat' (first | exact aH | exact aI | refine aB ?_ (Ty.aW _) | refine aB ?_ (Ty.aF _) | refine aG rfl ?_ ?_ | refine aB ?_ ?_)))
  all_goals first | exact CI E8 | exact Cont.eP HM
 have hbl := Gf (fl := fl) (n := (y.cells + 1)) (y := y) (b := b) t.1
 have ht := t.2
 have hFt : lf y fl (oz fl (y.cells + 1) y b a t.1) := ⟨h.right, h.net, h.bd, (hft t.1).1, h.oX⟩
 refine aE (aA (bE rfl rfl rfl (aD (aC (aE ?_)))))
 refine av rfl (fun hc1 => ?_) (fun hc1 => ?_)
 ·
  refine ak (aC (aE (ah (aE (aA (bM rfl (cB rfl (aD (aC ?_)))))))))
  refine aE (aA (iF rfl (bM rfl (bM rfl ?_))))
  refine dg [] (w6 y h.right b t.1 hb (by omega)) rfl (aN (j5 (l1 := bk y) (l2 := [Ty.sl dZ fl, Ty.vs 1000 fl.length]) rfl rfl) (aN (af (bF rfl rfl)) (aN (af (bF rfl rfl)) bh))) (by exact dF _ _) ?_
  refine b8 rfl (by exact List.cons_ne_nil _ _) rfl ?_
  refine ct rfl rfl (by decide) rfl rfl (by exact (rfl : _ = Ty.int _ _)) rfl (by exact Nat.le_of_ble_eq_true rfl) rfl rfl (by exact (rfl : _ = [_])) ?_
  refine aD (aC ?_)
  refine jY (tg := 8) [(7, Ty.pp [Ty.int .i64 ((y.kept b t.1 : Nat) : Int)])] (by decide) rfl ⟨kD (T := 3) (off := 0) (l := [Ty.int .i64 ((y.kept b t.1 : Nat) : Int)]) rfl rfl rfl (by decide), trivial⟩ ?_
  refine aA (KV rfl (iF rfl (dH rfl ?_)))
  refine cI [(1000, 1000)] [] [(1000, Cont.vec cm 3 (yR fl (y.cells + 1) (hasB y b t.1) (oz fl (y.cells + 1) y b a t.1)))] (Co y fl (oz fl (y.cells + 1) y b a t.1) hFt (hft t.1) (Ty.jc 165 [Ty.pp [Ty.int .i64 ((y.kept b t.1 : Nat) : Int)]]) rfl rfl (hasB y b t.1) (fun i _ => by rw [← J5]; exact dN (E0 (i : Nat) _) rfl rfl rfl rfl rfl rfl) rfl) rfl rfl (aJ (aJ bO (aQ rfl rfl)) (eo (aJ (aJ (aJ (aJ (aJ (aJ bO (eT (by exact List.mem_cons_self))) (aQ rfl rfl)) (aQ rfl rfl)) (aQ rfl rfl)) (aQ rfl rfl)) (aQ rfl rfl)))) (cF (a := 1000) (b := 1000) (by exact List.mem_cons_self) rfl (cA (by exact List.mem_cons_self) rfl) pre_nil) (bN (a := 1000) (b := 1000) (by decide) rfl (cA (by decide) rfl) post_nil) (aQ rfl rfl) ?_
  refine bt (E := dV) (xs := [gb fl (y.cells + 1) (hasB y b t.1)]) rfl rfl rfl rfl rfl (by decide) (by decide) (by repeat (first | exact (aX.nil : aX _ _ [] _) | (show aX _ _ ((_, _) :: _) _; apply aX.agg; (· exact (rfl : _ = Ty.agg _))))) (by exact rfl) rfl ?_
  refine gH rfl rfl (by decide) rfl rfl rfl rfl rfl rfl (by decide) (by (simp <;> omega)) (by (simp <;> omega)) ?_
  refine Ir rfl (aD (bW (aC (aA ?_))))
  refine bz rfl rfl (by omega) (by omega) ?_
  refine bM rfl (aD ?_)
  refine bf (⟨t.1 + 1, by omega⟩) ?_ (by show y.D + 1 - (t.1 + 1) < y.D + 1 - t.1; omega)
  (refine dD.mk' ?_ ?_ <;> (repeat' (first | exact aH | exact aI | refine aB ?_ (Ty.aW _) | refine aB ?_ (Ty.aF _) | refine aG rfl ?_ ?_ | refine aB ?_ ?_)))
  all_goals skip
  all_goals first | exact Ty.gG (Fb _) | exact Cont.eP (IK _)
 refine cT (aR (aR (aq rfl (aC (aE (aA (KV rfl (Ir rfl (aD ?_)))))))))
 refine aC (az ?_)
 refine gW [1000] rfl rfl (by decide) ?_ ?_
 ·exact eN rfl (cA (by decide) (by rw [show t.1 = y.D + 1 by have := t.2; omega])) fO
 all_goals skip
 all_goals exact Fw (by decide) rfl (by rw [show t.1 = y.D + 1 by have := t.2; omega])
set_option maxRecDepth 100000 in
theorem BI (y : bB) (hs : y.Small) (q : Int) (ho : cy y ≠ 0) : dx Tryz.prog 22 [fH y, Ty.int .i64 q] (Ty.jv [Ty.sl dV (dh y q), Ty.int .i64 (ju y q)]) := by
 refine au Tryz.func22 rfl (by decide) Tryz.ntmps22 (by exact Nat.le_of_ble_eq_true rfl) fun w0 M0 => ?_
 refine aE (aA (bJ rfl (mF rfl (cB rfl (aD (aC (aE (aE (aA ?_)))))))))
 refine aY rfl rfl rfl (by exact Nat.le_of_ble_eq_true rfl) ?_
 refine bM rfl (aa (vQ y hs q) rfl rfl rfl rfl rfl (cB rfl (aD (aC (aE (aA (bM rfl (bE rfl rfl rfl (aD ?_)))))))))
 refine aC ?_
 refine cv rfl (fun hc1 => ?_) (fun hc1 => ?_)
 ·
  refine aE (aA (bM rfl (mF rfl (cB rfl (aD (aC (az (aV ?_))))))))
  refine fD rfl rfl rfl ?_ ?_
  all_goals skip
  all_goals first | exact fJ (z7 hc1).2.symm | exact ay rfl rfl (congrArg (Ty.int .i64) (z7 hc1).1)
 refine ak (aC (aE (aA ?_)))
 refine aY rfl rfl rfl (by exact Nat.le_of_ble_eq_true rfl) ?_
 refine aa (oa y hs ho) rfl rfl rfl rfl rfl (rH rfl (bS rfl rfl (bS rfl rfl (mF rfl (cB rfl (aD (aC (aE (aE ?_)))))))))
 refine aA (bM rfl (bE rfl rfl rfl (aD (aC ?_))))
 refine qA rfl (by rw [decide_eq_false ho]; rfl) ?_
 refine aE (aA (bM rfl (mF rfl (cB rfl (aD (aC (az (aV ?_))))))))
 refine fD rfl rfl rfl ?_ ?_
 all_goals skip
 all_goals first | exact fJ (GL hc1 ho).2.symm | exact ay rfl rfl (congrArg (Ty.int .i64) (GL hc1 ho).1)
set_option maxRecDepth 100000 in
theorem BU (y : bB) (hs : y.Small) (q : Int) (ho : cy y = 0) : dx Tryz.prog 22 [fH y, Ty.int .i64 q] (Ty.jv [Ty.sl dV (dh y q), Ty.int .i64 (ju y q)]) := by
 refine au Tryz.func22 rfl (by decide) Tryz.ntmps22 (by exact Nat.le_of_ble_eq_true rfl) fun w0 M0 => ?_
 have hck := eC ho
 have hr := c9 hck
 have hF : lf y (aP y (nth bP)) (kF y) := tC ho
 have hfe := p7 ho
 refine aE (aA (bJ rfl (mF rfl (cB rfl (aD (aC (aE (aE (aA ?_)))))))))
 refine aY rfl rfl rfl (by exact Nat.le_of_ble_eq_true rfl) ?_
 refine bM rfl (aa (vQ y hs q) rfl rfl rfl rfl rfl (cB rfl (aD (aC (aE (aA (bM rfl (bE rfl rfl rfl (aD ?_)))))))))
 refine aC ?_
 refine cv rfl (fun hc1 => ?_) (fun hc1 => ?_)
 ·
  refine aE (aA (bM rfl (mF rfl (cB rfl (aD (aC (az (aV ?_))))))))
  refine fD rfl rfl rfl ?_ ?_
  all_goals skip
  all_goals first | exact fJ (z7 hc1).2.symm | exact ay rfl rfl (congrArg (Ty.int .i64) (z7 hc1).1)
 refine ak (aC (aE (aA ?_)))
 refine aY rfl rfl rfl (by exact Nat.le_of_ble_eq_true rfl) ?_
 refine cI (res' := Ty.jv [Ty.pp (eF y (aP y (nth bP)) 1000 (aP y (nth bP)).length), Ty.int .i64 0]) [(1000, 1000)] [1000] [(1000, Cont.vec cm 3 (kF y))] (v9 y hs ho) rfl rfl (aJ bO (aQ rfl rfl)) pre_nil (bN (a := 1000) (b := 1000) (by decide) rfl (cA (by decide) rfl) post_nil) (Cw (aJ (aJ bO (aQ rfl rfl)) (eo (aJ (aJ (aJ (aJ (aJ (aJ bO (eT (by decide))) (aQ rfl rfl)) (aQ rfl rfl)) (aQ rfl rfl)) (aQ rfl rfl)) (aQ rfl rfl))))) ?_
 refine rH rfl (bS rfl rfl (bS rfl rfl (It rfl (cB rfl (aD (aC (aE (aE (aA ?_)))))))))
 refine bM rfl (bE rfl rfl rfl (aD (aC (iQ rfl (rfl) (ak (aC (aE ?_)))))))
 have hq := Ee hc1
 have hqn : ((q.toNat : Nat) : Int) = q := by omega
 refine gX (s := 1) rfl (Ty.bA hqn.symm) ?_
 refine aA (iF rfl (bM rfl ?_))
 refine cI [(1000, 1000)] [] [(1000, Cont.vec cm 3 (oz (aP y (nth bP)) (y.cells + 1) y q.toNat (kF y) (y.D + 1)))] (GS y (aP y (nth bP)) (kF y) hF hfe q.toNat (by omega)) rfl rfl (aJ (aJ bO (aQ rfl rfl)) (eo (aJ (aJ (aJ (aJ (aJ (aJ bO (eT (by exact List.mem_cons_self))) (aQ rfl rfl)) (aQ rfl rfl)) (aQ rfl rfl)) (aQ rfl rfl)) (aQ rfl rfl)))) (cF (a := 1000) (b := 1000) (by exact List.mem_cons_self) rfl (cA (by exact List.mem_cons_self) rfl) pre_nil) (bN (a := 1000) (b := 1000) (by decide) rfl (cA (by decide) rfl) post_nil) (aQ rfl rfl) ?_
 refine Bs rfl (cB rfl (aD (aC (az ?_))))
 refine fD rfl rfl rfl ?_ ?_
 all_goals skip
 all_goals first | exact ay rfl rfl (congrArg (Ty.sl dV) (zi hc1 ho).2) | exact ay rfl rfl (congrArg (Ty.int .i64) (zi hc1 ho).1)
set_option maxRecDepth 100000 in
theorem HC (f k : Int) : dx Tryz.prog 121 [Ty.int .i64 f, Ty.pp [Ty.int .i64 k]] (Ty.bool (decide (f = k))) := by
 refine au Tryz.func121 rfl (by decide) Tryz.ntmps121 (by exact Nat.le_of_ble_eq_true rfl) fun w0 M0 => ?_
 refine aE (aA (dY rfl (aD (aC (aE (aA (bM rfl (aK rfl rfl rfl rfl (bE rfl rfl rfl ?_)))))))))
 refine dY rfl (aD (aC (az (bq rfl rfl ?_))))
 all_goals exact cC rfl rfl
set_option maxRecDepth 100000 in
theorem C5 (y : bB) (hs : y.Small) (q : Int) (ho : cy y ≠ 0) : dx Tryz.prog 48 [fH y, Ty.int .i64 q] (Ty.jv [Ty.agg (dV.tys (nU y q)), Ty.int .i64 (kZ y q)]) := by
 refine au Tryz.func48 rfl (by decide) Tryz.ntmps48 (by exact Nat.le_of_ble_eq_true rfl) fun w0 M0 => ?_
 have hsm := hs.moves
 refine aE (aA (bJ rfl ?_))
 refine b8 rfl (by exact List.cons_ne_nil _ _) rfl ?_
 refine cB rfl (aD (aC (aE (aE (aA ?_)))))
 refine aY rfl rfl rfl (by exact Nat.le_of_ble_eq_true rfl) ?_
 refine aa (jf y hs) rfl rfl rfl rfl rfl (cB rfl (aD (aC (aE (aA (bM rfl (bE rfl rfl rfl (aD (aC ?_)))))))))
 refine cv rfl (fun hc1 => ?_) (fun hc1 => ?_)
 ·
  refine aE (aA ?_)
  refine dG rfl rfl (by exact List.cons_ne_nil _ _) rfl (by repeat (exact (aX.nil : aX _ _ [] _))) (by exact (rfl : _ = some [_, _])) ?_
  refine bM rfl ?_
  refine bp rfl rfl (by decide) rfl rfl rfl rfl rfl rfl ?_
  refine cB rfl (aD (aC (az (aV ?_))))
  refine gF rfl rfl rfl rfl rfl (by decide) rfl rfl rfl ?_ ?_
  all_goals skip
  all_goals first | exact ay rfl rfl (congrArg (fun s => Ty.agg (dV.tys s)) (EJ hc1).2) | exact ay rfl rfl (congrArg (Ty.int .i64) (EJ hc1).1)
 refine ak (aC (aE (aE (aA (bM rfl ?_)))))
 refine aM rfl rfl rfl rfl rfl (by decide) ?_
 refine aK rfl rfl rfl rfl (cx rfl rfl rfl ?_)
 refine gL rfl rfl (by omega) (by omega) ?_
 refine aa (qS _ _ _) rfl rfl rfl rfl rfl (dM rfl (aD (aC ?_)))
 refine cY rfl (fun hc2 => ?_) (fun hc2 => ?_)
 ·
  refine aE (aA ?_)
  refine dG rfl rfl (by exact List.cons_ne_nil _ _) rfl (by repeat (exact (aX.nil : aX _ _ [] _))) (by exact (rfl : _ = some [_, _])) ?_
  refine bp rfl rfl (by decide) rfl rfl rfl rfl rfl rfl ?_
  refine cB rfl (aD (aC (az (aV ?_))))
  refine gF rfl rfl rfl rfl rfl (by decide) rfl rfl rfl ?_ ?_
  all_goals skip
  all_goals first | exact ay rfl rfl (congrArg (fun s => Ty.agg (dV.tys s)) (ES hc1 hc2).2) | exact ay rfl rfl (congrArg (Ty.int .i64) (ES hc1 hc2).1)
 refine ak (aC (aE (aA ?_)))
 refine aY rfl rfl rfl (by exact Nat.le_of_ble_eq_true rfl) ?_
 refine aa (oa y hs ho) rfl rfl rfl rfl rfl (rH rfl (bS rfl rfl (bS rfl rfl (mF rfl (cB rfl (aD (aC (aE (aE ?_)))))))))
 refine aA (bM rfl (bE rfl rfl rfl (aD (aC ?_))))
 refine qA rfl (by rw [decide_eq_false ho]; rfl) ?_
 refine aE (aA ?_)
 refine dG rfl rfl (by exact List.cons_ne_nil _ _) rfl (by repeat (exact (aX.nil : aX _ _ [] _))) (by exact (rfl : _ = some [_, _])) ?_
 refine bM rfl ?_
 refine bp rfl rfl (by decide) rfl rfl rfl rfl rfl rfl ?_
 refine cB rfl (aD (aC (az (aV ?_))))
 refine gF rfl rfl rfl rfl rfl (by decide) rfl rfl rfl ?_ ?_
 all_goals skip
 all_goals first | exact ay rfl rfl (congrArg (fun s => Ty.agg (dV.tys s)) (KY hc1 hc2 ho).2) | exact ay rfl rfl (congrArg (Ty.int .i64) (KY hc1 hc2 ho).1)
set_option maxRecDepth 100000 in
theorem Cu (y : bB) (hs : y.Small) (q : Int) (ho : cy y = 0) : dx Tryz.prog 48 [fH y, Ty.int .i64 q] (Ty.jv [Ty.agg (dV.tys (nU y q)), Ty.int .i64 (kZ y q)]) := by
 refine au Tryz.func48 rfl (by decide) Tryz.ntmps48 (by exact Nat.le_of_ble_eq_true rfl) fun w0 M0 => ?_
 have hck := eC ho
 have hr := c9 hck
 have hF : lf y (aP y (nth bP)) (kF y) := tC ho
 have hfe := p7 ho
 have hsm := hs.moves
 have hfl := eS (y := y) (c := nth bP)
 have hf34 : (aP y (nth bP)).length ≤ 34 := iV hr
 refine aE (aA (bJ rfl ?_))
 refine b8 rfl (by exact List.cons_ne_nil _ _) rfl ?_
 refine cB rfl (aD (aC (aE (aE (aA ?_)))))
 refine aY rfl rfl rfl (by exact Nat.le_of_ble_eq_true rfl) ?_
 refine aa (jf y hs) rfl rfl rfl rfl rfl (cB rfl (aD (aC (aE (aA (bM rfl (bE rfl rfl rfl (aD (aC ?_)))))))))
 refine cv rfl (fun hc1 => ?_) (fun hc1 => ?_)
 ·
  refine aE (aA ?_)
  refine dG rfl rfl (by exact List.cons_ne_nil _ _) rfl (by repeat (exact (aX.nil : aX _ _ [] _))) (by exact (rfl : _ = some [_, _])) ?_
  refine bM rfl ?_
  refine bp rfl rfl (by decide) rfl rfl rfl rfl rfl rfl ?_
  refine cB rfl (aD (aC (az (aV ?_))))
  refine gF rfl rfl rfl rfl rfl (by decide) rfl rfl rfl ?_ ?_
  all_goals skip
  all_goals first | exact ay rfl rfl (congrArg (fun s => Ty.agg (dV.tys s)) (EJ hc1).2) | exact ay rfl rfl (congrArg (Ty.int .i64) (EJ hc1).1)
 refine ak (aC (aE (aE (aA (bM rfl ?_)))))
 refine aM rfl rfl rfl rfl rfl (by decide) ?_
 refine aK rfl rfl rfl rfl (cx rfl rfl rfl ?_)
 refine gL rfl rfl (by omega) (by omega) ?_
 refine aa (qS _ _ _) rfl rfl rfl rfl rfl (dM rfl (aD (aC ?_)))
 refine cY rfl (fun hc2 => ?_) (fun hc2 => ?_)
 ·
  refine aE (aA ?_)
  refine dG rfl rfl (by exact List.cons_ne_nil _ _) rfl (by repeat (exact (aX.nil : aX _ _ [] _))) (by exact (rfl : _ = some [_, _])) ?_
  refine bp rfl rfl (by decide) rfl rfl rfl rfl rfl rfl ?_
  refine cB rfl (aD (aC (az (aV ?_))))
  refine gF rfl rfl rfl rfl rfl (by decide) rfl rfl rfl ?_ ?_
  all_goals skip
  all_goals first | exact ay rfl rfl (congrArg (fun s => Ty.agg (dV.tys s)) (ES hc1 hc2).2) | exact ay rfl rfl (congrArg (Ty.int .i64) (ES hc1 hc2).1)
 refine ak (aC (aE (aA ?_)))
 refine aY rfl rfl rfl (by exact Nat.le_of_ble_eq_true rfl) ?_
 refine cI (res' := Ty.jv [Ty.pp (eF y (aP y (nth bP)) 1000 (aP y (nth bP)).length), Ty.int .i64 0]) [(1000, 1000)] [1000] [(1000, Cont.vec cm 3 (kF y))] (v9 y hs ho) rfl rfl (aJ bO (aQ rfl rfl)) pre_nil (bN (a := 1000) (b := 1000) (by decide) rfl (cA (by decide) rfl) post_nil) (Cw (aJ (aJ bO (aQ rfl rfl)) (eo (aJ (aJ (aJ (aJ (aJ (aJ bO (eT (by decide))) (aQ rfl rfl)) (aQ rfl rfl)) (aQ rfl rfl)) (aQ rfl rfl)) (aQ rfl rfl))))) ?_
 refine rH rfl (bS rfl rfl (bS rfl rfl (It rfl (cB rfl (aD (aC (aE (aE (aA ?_)))))))))
 refine bM rfl (bE rfl rfl rfl (aD (aC (iQ rfl (rfl) (ak (aC (aE ?_)))))))
 have hq := zG hc2
 refine cM mixed rfl (iF rfl (bU rfl ?_))
 refine aM rfl rfl rfl rfl rfl (by decide) ?_
 refine aK rfl rfl rfl rfl (cx rfl rfl rfl ?_)
 refine aM rfl rfl rfl rfl rfl (by decide) ?_
 refine aK rfl rfl rfl rfl (cx rfl rfl rfl ?_)
 refine gL rfl rfl (by omega) (by omega) ?_
 refine bM rfl ?_
 refine bz rfl rfl (by omega) (by omega) ?_
 refine b8 rfl (by exact List.cons_ne_nil _ _) rfl ?_
 refine ct rfl rfl (by decide) rfl rfl (by exact (rfl : _ = Ty.int _ _)) rfl (by exact Nat.le_of_ble_eq_true rfl) rfl rfl (by exact (rfl : _ = [_])) ?_
 refine aD ?_
 refine ⟨by kernel_rfl, ?_⟩
 refine aC (aE ?_)
 refine gX (s := 9) rfl (Ty.aF _) ?_
 refine fK (tg := 10) rfl (Cont.nQ (T := 3) (show [Ty.int .i64 (((aP y (nth bP)).length : Int) - (y.moves.length : Int) + q)] = [Ty.int .i64 ((y.bins.length * (y.D + 1) + q.toNat : Nat) : Int)] by congr 2; rw [hfl]; omega)) ?_
 refine jY (tg := 10) [(9, Ty.pp [Ty.int .i64 ((y.bins.length * (y.D + 1) + q.toNat : Nat) : Int)])] (by decide) rfl ⟨kD (T := 3) (off := 0) (l := [Ty.int .i64 ((y.bins.length * (y.D + 1) + q.toNat : Nat) : Int)]) rfl rfl rfl (by decide), trivial⟩ ?_
 refine aA (iF rfl (dH rfl ?_))
 refine cI [(1000, 1000)] [] [(1000, Cont.vec cm 3 (yR (aP y (nth bP)) (y.cells + 1) (tE (y.bins.length * (y.D + 1) + q.toNat)) (kF y)))] (Co y (aP y (nth bP)) (kF y) hF hfe (Ty.jc 121 [Ty.pp [Ty.int .i64 ((y.bins.length * (y.D + 1) + q.toNat : Nat) : Int)]]) rfl rfl (tE (y.bins.length * (y.D + 1) + q.toNat)) (fun i _ => by rw [← Jw]; exact dN (HC (i : Nat) _) rfl rfl rfl rfl rfl rfl) rfl) rfl rfl (aJ (aJ bO (aQ rfl rfl)) (eo (aJ (aJ (aJ (aJ (aJ (aJ bO (eT (by exact List.mem_cons_self))) (aQ rfl rfl)) (aQ rfl rfl)) (aQ rfl rfl)) (aQ rfl rfl)) (aQ rfl rfl)))) (cF (a := 1000) (b := 1000) (by exact List.mem_cons_self) rfl (cA (by exact List.mem_cons_self) rfl) pre_nil) (bN (a := 1000) (b := 1000) (by decide) rfl (cA (by decide) rfl) post_nil) (aQ rfl rfl) ?_
 refine bp rfl rfl (by decide) rfl rfl rfl rfl rfl rfl ?_
 refine cB rfl (aD (aC (az ?_)))
 refine gF rfl rfl rfl rfl rfl (by decide) rfl rfl rfl ?_ ?_
 all_goals skip
 all_goals first | exact ay rfl rfl (congrArg (fun s => Ty.agg (dV.tys s)) (Ea hc1 hc2 ho).2) | exact ay rfl rfl (congrArg (Ty.int .i64) (Ea hc1 hc2 ho).1)
theorem wJ (y : bB) (hs : y.Small) (q : Int) : dx Tryz.prog 22 [fH y, Ty.int .i64 q] (Ty.jv [Ty.sl dV (dh y q), Ty.int .i64 (ju y q)]) := by
 by_cases ho : cy y = 0
 ·exact BU y hs q ho
 exact BI y hs q ho
theorem JR (y : bB) (hs : y.Small) (q : Int) : dx Tryz.prog 48 [fH y, Ty.int .i64 q] (Ty.jv [Ty.agg (dV.tys (nU y q)), Ty.int .i64 (kZ y q)]) := by
 by_cases ho : cy y = 0
 ·exact Cu y hs q ho
 exact C5 y hs q ho
end Go.Proofs.YtelbollidfdcjaaGreat
namespace Go.T
open Go Go.RowKit
theorem Lx {ρ : List (Nat × Nat)} {l1 l2 : List Ty} (h1 : cE l1 = []) (h2 : bl l1 = []) : Conv ρ (.pp (l1 ++ l2)) (.pp l1) := fun w M M' v wf wf' hre ⟨b, off, e, hm, hlt, hd⟩ =>
 ⟨b, off, e, hre.none b hm, hlt, fun i t hi => by
  have hl := (List.getElem?_eq_some_iff.1 hi).1
  obtain ⟨x, hx, hdx⟩ := hd i t (by rw [List.getElem?_append_left hl]; exact hi)
  refine ⟨x, hx, aQ ?_ ?_ w M M' x wf wf' hre hdx⟩
  ·refine List.eq_nil_iff_forall_not_mem.2 fun u hu => ?_
   have : u ∈ cE l1 := List.mem_flatMap.2 ⟨t, List.mem_of_getElem? hi, hu⟩
   rw [h1] at this; cases this
  refine List.eq_nil_iff_forall_not_mem.2 fun u hu => ?_
  have : u ∈ bl l1 := List.mem_flatMap.2 ⟨t, List.mem_of_getElem? hi, hu⟩
  rw [h2] at this; cases this⟩
end Go.T
namespace Go.Proofs.YtelbollidfdcjaaGreat
open Go Go.T
set_option maxHeartbeats 16000000
def pQ (y : bB) (t : Nat) (i : Nat) : Bool := (List.range y.bins.length).any fun b => decide ((i : Int) = ((y.kept b t : Nat) : Int))
noncomputable def sK (fl : List b9) (n : Nat) (y : bB) (a : List Int) : Nat → List Int
  | 0 => a
  | t + 1 => yR fl n (pQ y t) (sK fl n y a t)
noncomputable def rC (fl : List b9) (n : Nat) (y : bB) (k : Nat) : List Span := (List.range k).map fun t => gb fl n (pQ y t)
noncomputable def tv (y : bB) : List Span := if cy y = 0 then rC (aP y (nth bP)) (y.cells + 1) y (y.D + 1) else []
noncomputable def kH (y : bB) (q s : Int) (p : Span → Bool) : Int :=
  if dO y q = 0 then (if (!(decide (s ≥ 0) && decide (s ≤ 300))) = true then 3 else if ju y q = 0 then (if fidx p (dh y q) < 0 then 6 else 0) else ju y q) else dO y q
noncomputable def nY (y : bB) (q s : Int) (p : Span → Bool) : Int := if kH y q s p = 0 then fidx p (dh y q) else 0
section
variable {y : bB} {fl : List b9} {a : List Int} {n b k : Nat} {q s : Int} {p : Span → Bool} {i t : Nat}
theorem CH (hN : Net fl n) (hn : 0 < n) (hB : Bd fl) (h : fU fl n a) : ∀ t, fU fl n (sK fl n y a t)
  | 0 => h
  | t + 1 => (sS hN hn hB (CH hN hn hB h t)).2.1
theorem H9 : a = sK fl n y a 0 := rfl
theorem HQ (t : Nat) : yR fl n (pQ y t) (sK fl n y a t) = sK fl n y a (t + 1) := rfl
theorem Fh (t : Nat) : rC fl n y t ++ [gb fl n (pQ y t)] = rC fl n y (t + 1) := by unfold rC; rw [List.range_succ, List.map_append]; rfl
theorem Gs (t : Nat) : (rC fl n y t).length = t := by unfold rC; rw [List.length_map, List.length_range]
theorem FB : rC fl n y 0 = [] := rfl
theorem GA (hb : b < y.bins.length) (h : (i : Int) = ((y.kept b t : Nat) : Int)) : true = pQ y t i := (List.any_eq_true.2 ⟨b, List.mem_range.2 hb, decide_eq_true h⟩).symm
theorem KN (h : ∀ b, b < y.bins.length → ¬ (i : Int) = ((y.kept b t : Nat) : Int)) : false = pQ y t i := by
 refine (List.any_eq_false.2 fun b hb => ?_).symm
 rw [decide_eq_true_eq]; exact h b (List.mem_range.1 hb)
theorem Jo (h : cy y ≠ 0) : [] = tv y := (if_neg h).symm
theorem Am (h : cy y = 0) : rC (aP y (nth bP)) (y.cells + 1) y (y.D + 1) = tv y := (if_pos h).symm
theorem Dg {e : Int} (h : e = kH y q s p) (h0 : e ≠ 0) : 0 = nY y q s p := by unfold nY; rw [← h, if_neg h0]
theorem K7 (h : ¬ dO y q = 0) : dO y q = kH y q s p ∧ 0 = nY y q s p := by
 have e : dO y q = kH y q s p := (if_neg h).symm
 exact ⟨e, Dg e h⟩
theorem Kb (h : dO y q = 0) (h2 : (!(decide (s ≥ 0) && decide (s ≤ 300))) = true) : 3 = kH y q s p ∧ 0 = nY y q s p := by
 have e : 3 = kH y q s p := by unfold kH; rw [if_pos h, if_pos h2]
 exact ⟨e, Dg e (by decide)⟩
theorem KX (h : dO y q = 0) (h2 : (!(decide (s ≥ 0) && decide (s ≤ 300))) = false) (h3 : ¬ ju y q = 0) : ju y q = kH y q s p ∧ 0 = nY y q s p := by
 have e : ju y q = kH y q s p := by unfold kH; rw [if_pos h, if_neg (by rw [h2]; decide), if_neg h3]
 exact ⟨e, Dg e h3⟩
theorem Ku (h : dO y q = 0) (h2 : (!(decide (s ≥ 0) && decide (s ≤ 300))) = false) (h3 : ju y q = 0) (h4 : fidx p (dh y q) < 0) : 6 = kH y q s p ∧ 0 = nY y q s p := by
 have e : 6 = kH y q s p := by unfold kH; rw [if_pos h, if_neg (by rw [h2]; decide), if_pos h3, if_pos h4]
 exact ⟨e, Dg e (by decide)⟩
theorem G8 (h : dO y q = 0) (h2 : (!(decide (s ≥ 0) && decide (s ≤ 300))) = false) (h3 : ju y q = 0) (h4 : ¬ fidx p (dh y q) < 0) : 0 = kH y q s p ∧ fidx p (dh y q) = nY y q s p := by
 have e : 0 = kH y q s p := by unfold kH; rw [if_pos h, if_neg (by rw [h2]; decide), if_pos h3, if_neg h4]
 exact ⟨e, by unfold nY; rw [← e]; rfl⟩
end
attribute [local irreducible] aP fT Way.gj Way.fin Way.room eX eI fE gR over bQ cQ dn eW jh fG gx kO cO fR fy fu dB cL gN pS iq jC jQ gb By yR gQ bB.kept bB.cells bZ dO bP fL kF cy oz qP ju dh kZ nU hasB tE sK rC tv pQ kH nY
attribute [local irreducible] iP fV m6 qX ig iw ia ij ir qN iy qQ eA ga qU gS qM nth fX dy aj dx bodyPost Exit.then Exit.inBlock Code.wp Code.wpIn qO iz qT qR iZ eR cW cZ bodyPostM eH
set_option maxRecDepth 100000 in
theorem GN (y : bB) (hr : y.cN) (i t : Nat) (ht : t ≤ y.D) : dx Tryz.prog 88 [Ty.int .i64 ((i : Nat) : Int), Ty.pp (bk y), Ty.pp [Ty.pp (bk y)], Ty.pp [Ty.int .i64 ((t : Nat) : Int)]] (Ty.bool (pQ y t i)) := by
 refine au Tryz.func88 rfl (by decide) Tryz.ntmps88 (by exact Nat.le_of_ble_eq_true rfl) fun w0 M0 => ?_
 have h1 := hr.bins
 refine aE (aA (dY rfl (aD (aC (aE (aE (aA ?_)))))))
 refine aM rfl rfl rfl rfl rfl (by decide) ?_
 refine aK rfl rfl rfl rfl (cx rfl rfl rfl (bM rfl (aD (aC (ah ?_)))))
 refine cU (fun (b : {b : Nat // b ≤ y.bins.length ∧ ∀ c, c < b → ¬ (i : Int) = ((y.kept c t : Nat) : Int)}) => live [(0, Ty.int .i64 ((i : Nat) : Int)), (1, Ty.pp (bk y)), (2, Ty.pp [Ty.pp (bk y)]), (3, Ty.pp [Ty.int .i64 ((t : Nat) : Int)]), (9, Ty.int .i64 y.bins.length), (10, Ty.int .i64 (b.1 : Nat))] []) (fun b => y.bins.length - b.1) (⟨0, Nat.zero_le _, fun c hc => absurd hc (Nat.not_lt_zero c)⟩) ?_ fun b => ?_
 ·(refine dD.mk' ?_ ?_ <;> (repeat' (first | exact aH | exact aI | refine aB ?_ (Ty.aW _) | refine aB ?_ (Ty.aF _))))
 have hb := b.2.1
 refine aE (aA (bE rfl rfl rfl (aD (aC (aE ?_)))))
 refine av rfl (fun hc1 => ?_) (fun hc1 => ?_)
 ·
  refine ak (aC (aE (ah (aE (aA (bM rfl (cB rfl (aD (aC ?_)))))))))
  refine aE (aA (bM rfl (aK rfl rfl rfl rfl (bM rfl (aK rfl rfl rfl rfl ?_)))))
  refine aa (w6 y hr b.1 t (by omega) ht) rfl rfl rfl rfl rfl ?_
  refine bE rfl rfl rfl (aD (aC ?_))
  refine av rfl (fun hc2 => ?_) (fun hc2 => ?_)
  ·
   refine aE (aA (dY rfl (aD (aC (az (bD (aV (aV (bD ?_)))))))))
   refine aV (bq rfl rfl ?_)
   all_goals skip
   all_goals exact ay rfl rfl (congrArg Ty.bool (GA (by omega) hc2))
  refine ak (bW (aC (aA ?_)))
  refine bz rfl rfl (by omega) (by omega) ?_
  refine bM rfl (aD ?_)
  refine bf (⟨b.1 + 1, by omega, fun c hc => by by_cases e : c = b.1; (subst e; exact hc2); exact b.2.2 c (by omega)⟩) ?_ (by show y.bins.length - (b.1 + 1) < y.bins.length - b.1; omega)
  (refine dD.mk' ?_ ?_ <;> (repeat' (first | exact aH | exact aI | refine aB ?_ (Ty.aW _) | refine aB ?_ (Ty.aF _))))
  all_goals skip
 refine cT (aR (aR (aq rfl (aC (aE (aA (dY rfl (aD (aC ?_)))))))))
 refine az (bq rfl rfl ?_)
 all_goals skip
 all_goals exact ay rfl rfl (congrArg Ty.bool (KN fun c hc => b.2.2 c (by have := b.2.1; omega)))
set_option maxRecDepth 100000 in
theorem C1 (y : bB) (hs : y.Small) (ho : cy y ≠ 0) : dx Tryz.prog 21 [fH y] (Ty.jv [Ty.sl dV (tv y), Ty.int .i64 (cy y)]) := by
 refine au Tryz.func21 rfl (by decide) Tryz.ntmps21 (by exact Nat.le_of_ble_eq_true rfl) fun w0 M0 => ?_
 refine aE (aA (bJ rfl (mF rfl (cB rfl (aD (aC (aE (aA ?_))))))))
 refine aY rfl rfl rfl (by exact Nat.le_of_ble_eq_true rfl) ?_
 refine aa (oa y hs ho) rfl rfl rfl rfl rfl (rH rfl (bS rfl rfl (bS rfl rfl ?_)))
 refine b8 rfl (by exact List.cons_ne_nil _ _) rfl ?_
 refine ct rfl rfl (by decide) rfl rfl (by exact (rfl : _ = Ty.ex _)) rfl (by exact Nat.le_of_ble_eq_true rfl) rfl rfl (by exact (rfl : _ = [_])) ?_
 refine cB rfl (aD (aC (aE (aE (aA (bM rfl (bE rfl rfl rfl (aD (aC ?_)))))))))
 refine qA rfl (by rw [decide_eq_false ho]; rfl) ?_
 refine aE (aA (bM rfl (mF rfl (cB rfl (aD (aC (az (aV ?_))))))))
 refine fD rfl rfl rfl ?_ ?_
 all_goals first | exact cC rfl rfl | skip
 all_goals exact fJ (Jo ho).symm
set_option maxRecDepth 100000 in
theorem CV (y : bB) (hs : y.Small) (ho : cy y = 0) : dx Tryz.prog 21 [fH y] (Ty.jv [Ty.sl dV (tv y), Ty.int .i64 (cy y)]) := by
 refine au Tryz.func21 rfl (by decide) Tryz.ntmps21 (by exact Nat.le_of_ble_eq_true rfl) fun w0 M0 => ?_
 have hck := eC ho
 have hr := c9 hck
 have hF : lf y (aP y (nth bP)) (kF y) := tC ho
 have hfe := p7 ho
 have h1 := hr.bins
 have h2 := hr.days
 have h3 := D_eq hr
 have hft := CH (y := y) hF.net (Nat.succ_pos _) hF.bd hfe
 refine aE (aA (bJ rfl (mF rfl (cB rfl (aD (aC (aE (aA ?_))))))))
 refine aY rfl rfl rfl (by exact Nat.le_of_ble_eq_true rfl) ?_
 refine cI (res' := Ty.jv [Ty.pp (eF y (aP y (nth bP)) 1000 (aP y (nth bP)).length), Ty.int .i64 0]) [(1000, 1000)] [1000] [(1000, Cont.vec cm 3 (kF y))] (v9 y hs ho) rfl rfl (aJ bO (aQ rfl rfl)) pre_nil (bN (a := 1000) (b := 1000) (by decide) rfl (cA (by decide) rfl) post_nil) (Cw (aJ (aJ bO (aQ rfl rfl)) (eo (aJ (aJ (aJ (aJ (aJ (aJ bO (eT (by decide))) (aQ rfl rfl)) (aQ rfl rfl)) (aQ rfl rfl)) (aQ rfl rfl)) (aQ rfl rfl))))) ?_
 refine rH rfl (bS rfl rfl (bS rfl rfl ?_))
 refine b8 rfl (by exact List.cons_ne_nil _ _) rfl ?_
 refine ct rfl rfl (by decide) rfl rfl (by exact (rfl : _ = Ty.pp _)) rfl (by exact Nat.le_of_ble_eq_true rfl) rfl rfl (by exact (rfl : _ = [_])) ?_
 refine cB rfl (aD (aC (aE (aE (aA (bM rfl (bE rfl rfl rfl (aD (aC ?_)))))))))
 refine iQ rfl (rfl) (ak (aC (aE ?_)))
 refine jY (tg := 5) [(4, Ty.pp [Ty.pp (eF y (aP y (nth bP)) 1000 (aP y (nth bP)).length)])] (by decide) rfl ⟨kD (T := 152) (off := 0) (l := [Ty.pp (eF y (aP y (nth bP)) 1000 (aP y (nth bP)).length)]) rfl rfl rfl (by decide), trivial⟩ ?_
 refine aA (mF rfl (aD (aC (aE (aE (aA ?_))))))
 refine aM rfl rfl rfl rfl rfl (by decide) ?_
 refine aK rfl rfl rfl rfl ?_
 refine bz rfl rfl (by omega) (by omega) ?_
 refine bM rfl (aD (aC (ah ?_)))
 refine cU (fun (t : {t : Nat // t ≤ y.D + 1}) => live [(1, Ty.pp (bk y)), (4, Ty.pp [Ty.pp (eF y (aP y (nth bP)) 1000 (aP y (nth bP)).length)]), (6, Ty.row dV 37 27 (rC (aP y (nth bP)) (y.cells + 1) y t.1)), (18, Ty.int .i64 (y.days + 1)), (19, Ty.int .i64 (t.1 : Nat))] [(1000, Cont.vec cm 3 (sK (aP y (nth bP)) (y.cells + 1) y (kF y) t.1))]) (fun t => y.D + 1 - t.1) (⟨0, by omega⟩) ?_ fun t => ?_
 ·(refine dD.mk' ?_ ?_ <;> (repeat' (first | exact aH | exact aI | refine aB ?_ (Ty.aW _) | refine aB ?_ (Ty.aF _) | refine aG rfl ?_ ?_ | refine aB ?_ ?_)))
  all_goals first | exact CI FB | exact Cont.eP H9
 have hbl := Gs (fl := (aP y (nth bP))) (n := (y.cells + 1)) (y := y) t.1
 have ht := t.2
 have hFt : lf y (aP y (nth bP)) (sK (aP y (nth bP)) (y.cells + 1) y (kF y) t.1) := ⟨hr, hF.net, hF.bd, (hft t.1).1, hF.oX⟩
 refine aE (aA (bE rfl rfl rfl (aD (aC (aE ?_)))))
 refine av rfl (fun hc2 => ?_) (fun hc2 => ?_)
 ·
  refine ak (aC (aE (ah (aE (aA (bM rfl ?_))))))
  refine b8 rfl (by exact List.cons_ne_nil _ _) rfl ?_
  refine ct rfl rfl (by decide) rfl rfl (by exact (rfl : _ = Ty.int _ _)) rfl (by exact Nat.le_of_ble_eq_true rfl) rfl rfl (by exact (rfl : _ = [_])) ?_
  refine aD (aC ?_)
  refine jY (tg := 8) [(7, Ty.pp [Ty.int .i64 ((t.1 : Nat) : Int)])] (by decide) rfl ⟨kD (T := 3) (off := 0) (l := [Ty.int .i64 ((t.1 : Nat) : Int)]) rfl rfl rfl (by decide), trivial⟩ ?_
  refine aA (KV rfl (aK rfl rfl rfl rfl (dH rfl ?_)))
  refine cI [(1000, 1000)] [] [(1000, Cont.vec cm 3 (yR (aP y (nth bP)) (y.cells + 1) (pQ y t.1) (sK (aP y (nth bP)) (y.cells + 1) y (kF y) t.1)))] (Co y (aP y (nth bP)) (sK (aP y (nth bP)) (y.cells + 1) y (kF y) t.1) hFt (hft t.1) (Ty.jc 88 [Ty.pp (bk y), Ty.pp [Ty.pp (bk y)], Ty.pp [Ty.int .i64 ((t.1 : Nat) : Int)]]) rfl rfl (pQ y t.1) (fun i _ => dN (GN y hr i t.1 (by omega)) rfl rfl rfl rfl rfl rfl) rfl) rfl rfl (aJ (aJ bO (tG (aJ (aJ (aJ bO (aQ rfl rfl)) (eo (aJ bO (Lx (l1 := bk y) (l2 := [Ty.sl dZ (aP y (nth bP)), Ty.vs 1000 (aP y (nth bP)).length]) rfl rfl)))) (aQ rfl rfl)))) (eo (aJ (aJ (aJ (aJ (aJ (aJ bO (eT (by exact List.mem_cons_self))) (aQ rfl rfl)) (aQ rfl rfl)) (aQ rfl rfl)) (aQ rfl rfl)) (aQ rfl rfl)))) (cF (a := 1000) (b := 1000) (by exact List.mem_cons_self) rfl (cA (by exact List.mem_cons_self) rfl) pre_nil) (bN (a := 1000) (b := 1000) (by decide) rfl (cA (by decide) rfl) post_nil) (aQ rfl rfl) ?_
  refine bt (E := dV) (xs := [gb (aP y (nth bP)) (y.cells + 1) (pQ y t.1)]) rfl rfl rfl rfl rfl (by decide) (by decide) (by repeat (first | exact (aX.nil : aX _ _ [] _) | (show aX _ _ ((_, _) :: _) _; apply aX.agg; (· exact (rfl : _ = Ty.agg _))))) (by exact rfl) rfl ?_
  refine gH rfl rfl (by decide) rfl rfl rfl rfl rfl rfl (by decide) (by (simp <;> omega)) (by (simp <;> omega)) ?_
  refine Ir rfl (aD (bW (aC (aA ?_))))
  refine bz rfl rfl (by omega) (by omega) ?_
  refine bM rfl (aD ?_)
  refine bf (⟨t.1 + 1, by omega⟩) ?_ (by show y.D + 1 - (t.1 + 1) < y.D + 1 - t.1; omega)
  (refine dD.mk' ?_ ?_ <;> (repeat' (first | exact aH | exact aI | refine aB ?_ (Ty.aW _) | refine aB ?_ (Ty.aF _) | refine aG rfl ?_ ?_ | refine aB ?_ ?_)))
  all_goals skip
  all_goals first | exact Ty.gG (Fh _) | exact Cont.eP (HQ _)
 refine cT (aR (aR (aq rfl (aC (aE (aA (KV rfl (Ir rfl (cB rfl ?_)))))))))
 refine aD (aC (az ?_))
 refine fD rfl rfl rfl ?_ ?_
 all_goals skip
 all_goals first | exact q6 (by decide) ((show _ = rC (aP y (nth bP)) (y.cells + 1) y (y.D + 1) by rw [show t.1 = y.D + 1 by have := t.2; omega]).trans (Am ho)) | exact ay rfl rfl (congrArg (Ty.int .i64) ho.symm)
set_option maxRecDepth 100000 in
theorem KP (y : bB) (hs : y.Small) (q s : Int) (t : Ty) (h1 : t.one = true) (p : Span → Bool) (hd : t.deps = []) (hc : t.cdeps = []) (hf : ∀ x ∈ dh y q, nj Tryz.prog t [Ty.agg (dV.tys x)] (Ty.bool (p x))) : dx Tryz.prog 100 [fH y, Ty.int .i64 q, Ty.int .i64 s, t] (Ty.jv [Ty.int .i64 (nY y q s p), Ty.int .i64 (kH y q s p)]) := by
 refine au Tryz.func100 rfl (by decide) Tryz.ntmps100 (by exact Nat.le_of_ble_eq_true rfl) fun w0 M0 => ?_
 refine aE (aA (bJ rfl (cB rfl (cB rfl (aD (aC (aE (aE (aA ?_)))))))))
 refine aY rfl rfl rfl (by exact Nat.le_of_ble_eq_true rfl) ?_
 refine bM rfl (aa (vQ y hs q) rfl rfl rfl rfl rfl (cB rfl (aD (aC (aE (aA (bM rfl (bE rfl rfl rfl (aD ?_)))))))))
 refine aC ?_
 refine cv rfl (fun hc1 => ?_) (fun hc1 => ?_)
 ·
  refine aE (aA (bM rfl (cB rfl (cB rfl (aD (aC (az (aV ?_))))))))
  refine fD rfl rfl rfl ?_ ?_
  all_goals skip
  all_goals first | exact ay rfl rfl (congrArg (Ty.int .i64) (K7 hc1).1) | exact ay rfl rfl (congrArg (Ty.int .i64) (K7 hc1).2)
 refine ak (aC (aE (aE (aA (bM rfl (aa (qS _ _ _) rfl rfl rfl rfl rfl (dM rfl (aD (aC ?_)))))))))
 refine cY rfl (fun hc2 => ?_) (fun hc2 => ?_)
 ·
  refine aE (aA (cB rfl (cB rfl (aD (aC (az (aV ?_)))))))
  refine fD rfl rfl rfl ?_ ?_
  all_goals skip
  all_goals first | exact ay rfl rfl (congrArg (Ty.int .i64) (Kb hc1 hc2).1) | exact ay rfl rfl (congrArg (Ty.int .i64) (Kb hc1 hc2).2)
 refine ak (aC (aE (aA ?_)))
 refine aY rfl rfl rfl (by exact Nat.le_of_ble_eq_true rfl) ?_
 refine bM rfl (aa (wJ y hs q) rfl rfl rfl rfl rfl (rH rfl (bS rfl rfl (bS rfl rfl (Bs rfl (cB rfl (aD (aC (aE ?_)))))))))
 refine aE (aA (bM rfl (bE rfl rfl rfl (aD (aC ?_)))))
 refine cv rfl (fun hc3 => ?_) (fun hc3 => ?_)
 ·
  refine aE (aA (bM rfl (cB rfl (cB rfl (aD (aC (az (aV ?_))))))))
  refine fD rfl rfl rfl ?_ ?_
  all_goals skip
  all_goals first | exact ay rfl rfl (congrArg (Ty.int .i64) (KX hc1 hc2 hc3).1) | exact ay rfl rfl (congrArg (Ty.int .i64) (KX hc1 hc2 hc3).2)
 refine ak (aC (aE (aA (gm rfl ?_))))
 refine eL (ty := t) rfl ?_
 refine aa (uw (dh y q) t h1 p hd hc hf) rfl (by exact bR rfl (bR hd rfl)) (by exact bH rfl (bH hc rfl)) rfl rfl ?_
 refine cB rfl (aD (aC (aE (aE (aA (bM rfl (bE rfl rfl rfl (aD (aC ?_)))))))))
 refine av rfl (fun hc4 => ?_) (fun hc4 => ?_)
 ·
  refine aE (aA (cB rfl (cB rfl (aD (aC (az (aV ?_)))))))
  refine fD rfl rfl rfl ?_ ?_
  all_goals skip
  all_goals first | exact ay rfl rfl (congrArg (Ty.int .i64) (Ku hc1 hc2 hc3 hc4).1) | exact ay rfl rfl (congrArg (Ty.int .i64) (Ku hc1 hc2 hc3 hc4).2)
 refine ak (aC (aE (aA (bM rfl (cB rfl (cB rfl (aD (aC (az ?_)))))))))
 refine fD rfl rfl rfl ?_ ?_
 all_goals skip
 all_goals first | exact ay rfl rfl (congrArg (Ty.int .i64) (G8 hc1 hc2 hc3 hc4).1) | exact ay rfl rfl (congrArg (Ty.int .i64) (G8 hc1 hc2 hc3 hc4).2)
set_option maxRecDepth 100000 in
theorem Eh (s : Span) (k : Int) : dx Tryz.prog 101 [Ty.agg (dV.tys s), Ty.pp [Ty.int .i64 k]] (Ty.bool (decide (s.lo ≥ k))) := by
 refine au Tryz.func101 rfl (by decide) Tryz.ntmps101 (by exact Nat.le_of_ble_eq_true rfl) fun w0 M0 => ?_
 refine aE (aA (bJ rfl (dY rfl (aD (aC (aE (aA ?_)))))))
 refine aM rfl rfl rfl rfl rfl (by decide) ?_
 refine aK rfl rfl rfl rfl (aK rfl rfl rfl rfl (bE rfl rfl rfl (dY rfl (aD (aC (az (bq rfl rfl ?_)))))))
 all_goals exact cC rfl rfl
set_option maxRecDepth 100000 in
theorem IN (y : bB) (hs : y.Small) (q s : Int) : dx Tryz.prog 33 [fH y, Ty.int .i64 q, Ty.int .i64 s] (Ty.jv [Ty.int .i64 (nY y q s fun x => decide (x.lo ≥ s)), Ty.int .i64 (kH y q s fun x => decide (x.lo ≥ s))]) := by
 refine au Tryz.func33 rfl (by decide) Tryz.ntmps33 (by exact Nat.le_of_ble_eq_true rfl) fun w0 M0 => ?_
 refine aE (aA (bJ rfl ?_))
 refine gB (by exact (rfl : _ = Ty.int _ _)) rfl ?_
 refine cB rfl (cB rfl (aD (aC (aE (aA ?_)))))
 refine aY rfl rfl rfl (by exact Nat.le_of_ble_eq_true rfl) ?_
 refine bM rfl (aK rfl rfl rfl rfl (dH rfl ?_))
 refine aa (KP y hs q s (Ty.jc 101 [Ty.pp [Ty.int .i64 s]]) rfl (fun x => decide (x.lo ≥ s)) rfl rfl fun x _ => dN (Eh x s) rfl rfl rfl rfl rfl rfl) rfl rfl rfl rfl rfl ?_
 refine bS rfl rfl (bS rfl rfl (cB rfl (cB rfl (aD (aC (az ?_))))))
 refine fD rfl rfl rfl ?_ ?_
 all_goals exact cC rfl rfl
theorem JV (y : bB) (hs : y.Small) : dx Tryz.prog 21 [fH y] (Ty.jv [Ty.sl dV (tv y), Ty.int .i64 (cy y)]) := by
 by_cases ho : cy y = 0
 ·exact CV y hs ho
 exact C1 y hs ho
end Go.Proofs.YtelbollidfdcjaaGreat
namespace Go.Proofs.YtelbollidfdcjaaGreat
open Go Go.T
set_option maxHeartbeats 16000000
structure EK where
  cells : List A9
  out : Bool
  deriving Inhabited
def mo (p : EK) : List Ty := [Ty.sl rG p.cells, Ty.bool p.out]
def kW (fl : List b9) : Int := fl.foldl (fun m f => max m (f.lo - f.hi)) (-300)
def xP (y : bB) (l : List A9) (c : Int) : Bool := l.any fun x => decide (y.cell x.bin x.day = c)
def HL (y : bB) (p : EK) (f : b9) : Bool := if p.out = true then (xP y p.cells f.src && !xP y p.cells f.dst) else (xP y p.cells f.dst && !xP y p.cells f.src)
def Eb (y : bB) (p : EK) (f : b9) : Bool := if p.out = true then (xP y p.cells f.dst && !xP y p.cells f.src) else (xP y p.cells f.src && !xP y p.cells f.dst)
def sR (y : bB) (p : EK) (m : Int) (f : b9) : Int := (m + if HL y p f = true then f.lo else 0) - if Eb y p f = true then f.hi else 0
def gP (y : bB) (fl : List b9) (p : EK) : Nat → Int
  | 0 => 0
  | k + 1 => sR y p (gP y fl p k) (nth fl k)
def jr (y : bB) (fl : List b9) (p : EK) : Int := if p.cells = [] then kW fl else gP y fl p fl.length
def mQ (a b : A9) : Bool := !decide (a = b) && (decide (a.bin < b.bin) || (decide (a.bin = b.bin) && decide (a.day < b.day)))
def HI (y : bB) (c : A9) : Bool := y.bin c.bin && (decide (c.day ≥ 0) && decide (c.day ≤ y.days - 1))
open Classical in
noncomputable def nM (y : bB) (p : EK) : Int := if bZ y = 0 then (if (p.cells.all (HI y)) = true then (if (∀ i, i + 1 < p.cells.length → mQ (nth p.cells i) (nth p.cells (i + 1)) = true) then (if jr y (aP y (nth bP)) p < 1 then 6 else 0) else 4) else 1) else bZ y
noncomputable def tA (y : bB) (p : EK) : Int := if nM y p = 0 then jr y (aP y (nth bP)) p else 0
section
variable {y : bB} {fl : List b9} {a : List Int} {n b k : Nat} {p : EK} {f : b9} {m : Int}
theorem Cg : -300 = kW (fl.take 0) := rfl
theorem CS (h : k < fl.length) : max (kW (fl.take k)) ((nth fl k).lo - (nth fl k).hi) = kW (fl.take (k + 1)) := by
 unfold kW; rw [eK h, List.foldl_append]; rfl
theorem F5 (h : p.out = true) : (xP y p.cells f.src && !xP y p.cells f.dst) = HL y p f ∧ (xP y p.cells f.dst && !xP y p.cells f.src) = Eb y p f := ⟨(if_pos h).symm, (if_pos h).symm⟩
theorem KU (h : p.out = false) : (xP y p.cells f.dst && !xP y p.cells f.src) = HL y p f ∧ (xP y p.cells f.src && !xP y p.cells f.dst) = Eb y p f := ⟨(if_neg (by rw [h]; decide)).symm, (if_neg (by rw [h]; decide)).symm⟩
def oS (y : bB) (p : EK) (m : Int) (f : b9) : Int := m + if HL y p f = true then f.lo else 0
theorem Ho (h : HL y p f = true) : m + f.lo = oS y p m f := by unfold oS; rw [if_pos h]
theorem JB (h : HL y p f = false) : m = oS y p m f := by unfold oS; rw [if_neg (by rw [h]; decide)]; omega
theorem Dr (h : 0 ≤ f.lo ∧ f.lo ≤ 300) : m ≤ oS y p m f ∧ oS y p m f ≤ m + 300 := by unfold oS; split <;> omega
theorem yX : 0 = gP y fl p 0 := rfl
theorem AY (h : Eb y p (nth fl k) = true) : oS y p (gP y fl p k) (nth fl k) - (nth fl k).hi = gP y fl p (k + 1) := by
 show _ = sR y p _ _; unfold sR; rw [if_pos h]; rfl
theorem Da (h : Eb y p (nth fl k) = false) : oS y p (gP y fl p k) (nth fl k) = gP y fl p (k + 1) := by
 have e : ¬ Eb y p (nth fl k) = true := by rw [h]; decide
 show _ = sR y p _ _; unfold sR; rw [if_neg e]; unfold oS; omega
theorem A5 (hb : ∀ i, i < fl.length → 0 ≤ (nth fl i).lo ∧ (nth fl i).lo ≤ 300 ∧ 0 ≤ (nth fl i).hi ∧ (nth fl i).hi ≤ 300) : ∀ k, k ≤ fl.length → -(300 * (k : Int)) ≤ gP y fl p k ∧ gP y fl p k ≤ 300 * (k : Int)
  | 0, _ => by rw [← yX]; omega
  | k + 1, h => by
    have ih := A5 hb k (by omega)
    have h1 := hb k (by omega)
    have h2 := Dr (y := y) (p := p) (m := gP y fl p k) (f := nth fl k) ⟨h1.1, h1.2.1⟩
    cases e : Eb y p (nth fl k) with
    | true => rw [← AY e]; omega
    | false => rw [← Da e]; omega
theorem Ck (h : p.cells = []) : kW fl = jr y fl p := (if_pos h).symm
theorem Bc (h : p.cells ≠ []) : gP y fl p fl.length = jr y fl p := (if_neg h).symm
theorem LU (h : (p.cells.length : Int) = 0) : p.cells = [] := List.length_eq_zero_iff.1 (by omega)
theorem Jz (h : ¬ (p.cells.length : Int) = 0) : p.cells ≠ [] := fun e => h (by rw [e]; rfl)
theorem EA {e : Int} (h : e = nM y p) (h0 : e ≠ 0) : 0 = tA y p := by unfold tA; rw [← h, if_neg h0]
theorem Ki (h : ¬ bZ y = 0) : bZ y = nM y p ∧ 0 = tA y p := by
 have e : bZ y = nM y p := (if_neg h).symm
 exact ⟨e, EA e h⟩
theorem Kr (h : bZ y = 0) (h2 : (p.cells.all (HI y)) = false) : 1 = nM y p ∧ 0 = tA y p := by
 have e : 1 = nM y p := by unfold nM; rw [if_pos h, if_neg (by rw [h2]; decide)]
 exact ⟨e, EA e (by decide)⟩
theorem NG (h : bZ y = 0) (h2 : (p.cells.all (HI y)) = true) {i : Nat} (hi : i + 1 < p.cells.length) (h3 : mQ (nth p.cells i) (nth p.cells (i + 1)) = false) : 4 = nM y p ∧ 0 = tA y p := by
 have e : 4 = nM y p := by
  unfold nM; rw [if_pos h, if_pos h2, if_neg fun hx => by rw [hx i hi] at h3; cases h3]
 exact ⟨e, EA e (by decide)⟩
theorem Fv (h : bZ y = 0) (h2 : (p.cells.all (HI y)) = true) {i : Nat} (h1 : 1 ≤ i) (hi : i < p.cells.length) (h3 : mQ (nth p.cells (i - 1)) (nth p.cells i) = false) : 4 = nM y p ∧ 0 = tA y p := by
 obtain ⟨j, rfl⟩ : ∃ j, i = j + 1 := ⟨i - 1, by omega⟩
 exact NG h h2 hi h3
theorem Kc (h : bZ y = 0) (h2 : (p.cells.all (HI y)) = true) (h3 : ∀ i, i + 1 < p.cells.length → mQ (nth p.cells i) (nth p.cells (i + 1)) = true) (h4 : jr y (aP y (nth bP)) p < 1) : 6 = nM y p ∧ 0 = tA y p := by
 have e : 6 = nM y p := by unfold nM; rw [if_pos h, if_pos h2, if_pos h3, if_pos h4]
 exact ⟨e, EA e (by decide)⟩
theorem Gp (h : bZ y = 0) (h2 : (p.cells.all (HI y)) = true) (h3 : ∀ i, i + 1 < p.cells.length → mQ (nth p.cells i) (nth p.cells (i + 1)) = true) (h4 : ¬ jr y (aP y (nth bP)) p < 1) : 0 = nM y p ∧ jr y (aP y (nth bP)) p = tA y p := by
 have e : 0 = nM y p := by unfold nM; rw [if_pos h, if_pos h2, if_pos h3, if_neg h4]
 exact ⟨e, by unfold tA; rw [← e]; rfl⟩
theorem LG (a b : A9) : (decide (a.bin = b.bin) && decide (a.day = b.day)) = decide (a = b) := by
 cases a; cases b; simp
theorem LJ {c : A9} (h : HI y c = true) : (-1 ≤ c.bin ∧ c.bin < y.bins.length) ∧ 0 ≤ c.day ∧ c.day ≤ y.days := by
 unfold HI bB.bin rJ at h
 simp only [Bool.and_eq_true, decide_eq_true_eq] at h; omega
theorem DT (hr : y.cN) {c : Nat → Bool} {t : Nat} {q : Span} (h : q.lo ≤ 300 ∧ 0 ≤ q.hi) : ∀ k, k ≤ y.levels.length → (gK y c b t q k).lo ≤ 300 ∧ 0 ≤ (gK y c b t q k).hi
  | 0, _ => h
  | k + 1, hk => by
    have ih := DT hr (c := c) (t := t) h k (by omega)
    have hl := hr.level _ (cV (xs := y.levels) (k := k) (by omega))
    unfold gK; split
    · show max _ _ ≤ 300 ∧ 0 ≤ min _ _; omega
    · exact ih
theorem HV (hr : y.cN) {c : Nat → Bool} {i : Nat} (hi : i < (aP y c).length) : 0 ≤ (nth (aP y c) i).lo ∧ (nth (aP y c) i).lo ≤ 300 ∧ 0 ≤ (nth (aP y c) i).hi ∧ (nth (aP y c) i).hi ≤ 300 := by
 have hB := qF hr (c := c) i hi
 suffices h : (nth (aP y c) i).lo ≤ 300 ∧ 0 ≤ (nth (aP y c) i).hi by omega
 rcases oF hi with ⟨b, t, hb, ht, rfl⟩ | ⟨k, hk, rfl⟩
 ·rw [iR hb ht]
  obtain ⟨h1, h2, h3⟩ := hr.bin _ (cV hb)
  refine DT hr (q := iC y b t) ?_ y.levels.length (Nat.le_refl _)
  unfold iC; split
  ·exact ⟨by show (0 : Int) ≤ 300; decide, h1.1⟩
  show max _ _ ≤ 300 ∧ 0 ≤ min _ _; omega
 rw [iS hk]
 have h := (hr.move _ (cV hk)).2.2.2.2
 show (nth y.moves k).sacks.lo ≤ 300 ∧ 0 ≤ (nth y.moves k).sacks.hi
 omega
theorem G1 (hr : y.cN) {c : Nat → Bool} : ∀ i, i < (aP y c).length → 0 ≤ (nth (aP y c) i).lo ∧ (nth (aP y c) i).lo ≤ 300 ∧ 0 ≤ (nth (aP y c) i).hi ∧ (nth (aP y c) i).hi ≤ 300 := fun i hi => HV hr hi
end
attribute [local irreducible] aP fT Way.gj Way.fin Way.room eX eI fE gR over bQ cQ dn eW jh fG gx kO cO fR fy fu dB cL gN pS iq jC jQ gb By yR gQ bB.kept bB.cells bZ dO bP fL kF cy oz qP ju dh kZ nU hasB tE sK rC tv pQ kH nY kW xP gP jr HL Eb sR
attribute [local irreducible] oS
attribute [local irreducible] iP fV m6 qX ig iw ia ij ir qN iy qQ eA ga qU gS qM nth fX dy aj dx bodyPost Exit.then Exit.inBlock Code.wp Code.wpIn qO iz qT qR iZ eR cW cZ bodyPostM eH
set_option maxRecDepth 100000 in
theorem FT (y : bB) (fl : List b9) (a : List Int) (hfl : fl.length ≤ 34) (hb : ∀ i, i < fl.length → 0 ≤ (nth fl i).lo ∧ (nth fl i).lo ≤ 300 ∧ 0 ≤ (nth fl i).hi ∧ (nth fl i).hi ≤ 300) : dx Tryz.prog 128 [Ty.pp (kQ y fl a)] (Ty.int .i64 (kW fl)) := by
 refine au Tryz.func128 rfl (by decide) Tryz.ntmps128 (by exact Nat.le_of_ble_eq_true rfl) fun w0 M0 => ?_
 refine aE (aA (cB rfl (aD (aC (aE (aA (cB rfl (aD (aC ?_)))))))))
 refine aE (aE (aA (iF rfl (bU rfl ?_))))
 refine aM rfl rfl rfl rfl rfl (by decide) ?_
 refine aK rfl rfl rfl rfl (cx rfl rfl rfl (bM rfl (aD (aC (ah ?_)))))
 refine cU (fun (k : {k : Nat // k ≤ fl.length}) => live [(0, Ty.pp (kQ y fl a)), (3, Ty.int .i64 (kW (fl.take k.1))), (9, Ty.sl dZ fl), (10, Ty.int .i64 fl.length), (11, Ty.int .i64 (k.1 : Nat))] []) (fun k => fl.length - k.1) (⟨0, by omega⟩) ?_ fun k => ?_
 ·(refine dD.mk' ?_ ?_ <;> (repeat' (first | exact aH | exact aI | refine aB ?_ (Ty.aW _) | refine aB ?_ (Ty.aF _) | refine aB ?_ ?_)))
  all_goals exact Ty.bA Cg
 have hk := k.2
 refine aE (aA (bE rfl rfl rfl (aD (aC (aE ?_)))))
 refine av rfl (fun hc1 => ?_) (fun hc1 => ?_)
 ·
  refine ak (aC (aE (ah (aE (aA ?_)))))
  refine bI rfl rfl rfl rfl rfl rfl (by omega) ?_
  refine aY rfl rfl rfl (by exact Nat.le_of_ble_eq_true rfl) ?_
  refine b8 rfl (by exact List.cons_ne_nil _ _) rfl ?_
  refine bp rfl rfl (by decide) rfl rfl rfl rfl rfl rfl ?_
  refine aD (aC ?_)
  have hbk := hb k.1 (by omega)
  refine aA (bM rfl ?_)
  refine aL rfl rfl rfl rfl rfl (by decide) ?_
  refine aU rfl rfl (by decide) rfl rfl rfl ?_
  refine aL rfl rfl rfl rfl rfl (by decide) ?_
  refine aU rfl rfl (by decide) rfl rfl rfl ?_
  refine gL rfl rfl (by omega) (by omega) ?_
  refine uN rfl rfl (cB rfl (aD (bW (aC (aA ?_)))))
  refine bz rfl rfl (by omega) (by omega) ?_
  refine bM rfl (aD ?_)
  refine bf (⟨k.1 + 1, by omega⟩) ?_ (by show fl.length - (k.1 + 1) < fl.length - k.1; omega)
  (refine dD.mk' ?_ ?_ <;> (repeat' (first | exact aH | exact aI | refine aB ?_ (Ty.aW _) | refine aB ?_ (Ty.aF _) | refine aB ?_ ?_)))
  all_goals skip
  all_goals exact Ty.bA (CS (by omega))
 refine cT (aR (aR (aq rfl (aC (aE (aA (bM rfl (cB rfl (aD ?_)))))))))
 refine aC (az (bq rfl rfl ?_))
 all_goals skip
 all_goals exact ay rfl rfl (congrArg (Ty.int .i64) (by rw [List.take_of_length_le (by have := k.2; omega)]))
set_option maxRecDepth 100000 in
theorem Fi (y : bB) (hr : y.cN) (fl : List b9) (a : List Int) (x : A9) (hx : (-1 ≤ x.bin ∧ x.bin < y.bins.length) ∧ 0 ≤ x.day ∧ x.day ≤ y.days) (c : Int) : dx Tryz.prog 188 [Ty.agg (rG.tys x), Ty.pp [Ty.pp (kQ y fl a)], Ty.pp [Ty.int .i64 c]] (Ty.bool (decide (y.cell x.bin x.day = c))) := by
 refine au Tryz.func188 rfl (by decide) Tryz.ntmps188 (by exact Nat.le_of_ble_eq_true rfl) fun w0 M0 => ?_
 refine aE (aA (bJ rfl (dY rfl (aD (aC (aE (cM mixed rfl (aK rfl rfl rfl rfl ?_))))))))
 refine aM rfl rfl rfl rfl rfl (by decide) ?_
 refine aK rfl rfl rfl rfl ?_
 refine aM rfl rfl rfl rfl rfl (by decide) ?_
 refine aK rfl rfl rfl rfl ?_
 refine dg [] (vV y hr x.bin x.day hx.1 hx.2) rfl (aN (j5 (l1 := bk y) (l2 := [Ty.sl dZ fl, Ty.sl cm a]) rfl rfl) (aN (af (bF rfl rfl)) (aN (af (bF rfl rfl)) bh))) (by exact dF _ _) ?_
 refine aK rfl rfl rfl rfl (bE rfl rfl rfl (dY rfl (aD ?_)))
 refine ⟨by kernel_rfl, ?_⟩
 refine aC (az (bq rfl rfl ?_))
 all_goals exact cC rfl rfl
set_option maxRecDepth 100000 in
theorem sG (y : bB) (hr : y.cN) (fl : List b9) (a : List Int) (p : EK) (hp : ∀ x ∈ p.cells, (-1 ≤ x.bin ∧ x.bin < y.bins.length) ∧ 0 ≤ x.day ∧ x.day ≤ y.days) (c : Int) : dx Tryz.prog 187 [Ty.int .i64 c, Ty.pp (mo p), Ty.pp [Ty.pp (kQ y fl a)]] (Ty.bool (xP y p.cells c)) := by
 refine au Tryz.func187 rfl (by decide) Tryz.ntmps187 (by exact Nat.le_of_ble_eq_true rfl) fun w0 M0 => ?_
 refine aE (aA ?_)
 refine gB (by exact (rfl : _ = Ty.int _ _)) rfl ?_
 refine dY rfl (aD (aC (aE (aA ?_))))
 refine aM rfl rfl rfl rfl rfl (by decide) ?_
 refine aK rfl rfl rfl rfl (dH rfl ?_)
 refine aa (mC p.cells (Ty.jc 188 [Ty.pp [Ty.pp (kQ y fl a)], Ty.pp [Ty.int .i64 c]]) rfl (fun x => decide (y.cell x.bin x.day = c)) rfl rfl fun x hx => dN (Fi y hr fl a x (hp x hx) c) rfl rfl rfl rfl rfl rfl) rfl rfl rfl rfl rfl ?_
 refine dY rfl (aD (aC (az (bq rfl rfl ?_))))
 all_goals skip
 all_goals exact ay rfl rfl (congrArg Ty.bool (by unfold xP; rfl))
set_option maxRecDepth 100000 in
theorem JQ (y : bB) (hr : y.cN) (fl : List b9) (a : List Int) (hfl : fl.length ≤ 34) (hb : ∀ i, i < fl.length → 0 ≤ (nth fl i).lo ∧ (nth fl i).lo ≤ 300 ∧ 0 ≤ (nth fl i).hi ∧ (nth fl i).hi ≤ 300) (p : EK) (hp : ∀ x ∈ p.cells, (-1 ≤ x.bin ∧ x.bin < y.bins.length) ∧ 0 ≤ x.day ∧ x.day ≤ y.days) : dx Tryz.prog 137 [Ty.pp (kQ y fl a), Ty.agg (mo p)] (Ty.int .i64 (jr y fl p)) := by
 refine au Tryz.func137 rfl (by decide) Tryz.ntmps137 (by exact Nat.le_of_ble_eq_true rfl) fun w0 M0 => ?_
 refine aE (aA ?_)
 refine gB (by exact (rfl : _ = Ty.pp _)) rfl ?_
 refine bJ rfl (cB rfl (aD (aC (aE (aE (aA ?_))))))
 refine aM rfl rfl rfl rfl rfl (by decide) ?_
 refine aK rfl rfl rfl rfl (cx rfl rfl rfl (bE rfl rfl rfl (aD (aC ?_))))
 refine av rfl (fun hc1 => ?_) (fun hc1 => ?_)
 ·
  refine aE (aA (aK rfl rfl rfl rfl (aa (FT y fl a hfl hb) rfl rfl rfl rfl rfl (cB rfl (aD (aC (az (aV (bq rfl rfl ?_)))))))))
  all_goals skip
  all_goals exact ay rfl rfl (congrArg (Ty.int .i64) (Ck (LU hc1)))
 refine ak (aC (aE (aA (dH rfl (Nw rfl (aD (aC (aE (aA ?_)))))))))
 refine cB rfl (aD (aC (aE (aE (aA (aK rfl rfl rfl rfl (bU rfl ?_)))))))
 refine aM rfl rfl rfl rfl rfl (by decide) ?_
 refine aK rfl rfl rfl rfl (cx rfl rfl rfl (bM rfl (aD (aC (ah ?_)))))
 refine cU (fun (k : {k : Nat // k ≤ fl.length}) => live [(3, Ty.pp (mo p)), (5, Ty.jc 187 [Ty.pp (mo p), Ty.pp [Ty.pp (kQ y fl a)]]), (6, Ty.int .i64 (gP y fl p k.1)), (21, Ty.sl dZ fl), (22, Ty.int .i64 fl.length), (23, Ty.int .i64 (k.1 : Nat))] []) (fun k => fl.length - k.1) (⟨0, by omega⟩) ?_ fun k => ?_
 ·(refine dD.mk' ?_ ?_ <;> (repeat' (first | exact aH | exact aI | refine aB ?_ (Ty.aW _) | refine aB ?_ (Ty.aF _) | refine aB ?_ ?_)))
  all_goals exact Ty.bA yX
 have hk := k.2
 have hup := A5 (y := y) (p := p) hb k.1 k.2
 refine aE (aA (bE rfl rfl rfl (aD (aC (aE ?_)))))
 refine av rfl (fun hc2 => ?_) (fun hc2 => ?_)
 ·
  refine ak (aC (aE (ah (aE (aA ?_)))))
  refine bI rfl rfl rfl rfl rfl rfl (by omega) ?_
  refine aY rfl rfl rfl (by exact Nat.le_of_ble_eq_true rfl) ?_
  refine b8 rfl (by exact List.cons_ne_nil _ _) rfl ?_
  refine bp rfl rfl (by decide) rfl rfl rfl rfl rfl rfl ?_
  refine aD (aC (aE ?_))
  have hbk := hb k.1 (by omega)
  have hhf := Dr (y := y) (p := p) (m := gP y fl p k.1) (f := (nth fl k.1)) ⟨hbk.1, hbk.2.1⟩
  refine cM mixed rfl (MT rfl ?_)
  refine aL rfl rfl rfl rfl rfl (by decide) ?_
  refine aU rfl rfl (by decide) rfl rfl rfl ?_
  refine eV rfl (dN (sG y hr fl a p hp (nth fl k.1).dst) rfl rfl rfl rfl rfl rfl) rfl (gU rfl ?_)
  apply aS (s := 31) rfl rfl rfl
  ·intro hg; apply aT; (refine MT rfl ?_); refine aD ?_; exact rfl
  ·exact rfl
  ·exact rfl
  apply aS (s := 31) rfl rfl rfl
  ·intro hg; apply aT; (refine aL rfl rfl rfl rfl rfl (by decide) ?_); refine aD ?_; exact rfl
  ·exact rfl
  ·exact rfl
  apply aS (s := 31) rfl rfl rfl
  ·intro hg; apply aO (s := 33) rfl (by (rw [hg]; rfl)); apply aT; (refine aU rfl rfl (by decide) rfl rfl rfl ?_); refine aD ?_; exact rfl
  ·exact rfl
  ·exact rfl
  apply aS (s := 31) rfl rfl rfl
  ·intro hg; apply aO (s := 32) rfl (by (rw [hg]; rfl)); apply aO (s := 34) rfl (by (rw [hg]; rfl)); apply aT; (refine eV rfl (dN (sG y hr fl a p hp (nth fl k.1).src) rfl rfl rfl rfl rfl rfl) rfl ?_); refine aD ?_; exact rfl
  ·exact rfl
  ·exact rfl
  apply aS (s := 31) rfl rfl rfl
  ·intro hg; apply aO (s := 35) rfl (by (rw [hg]; rfl)); apply aT; (refine dM rfl ?_); refine aD ?_; exact rfl
  ·exact rfl
  ·exact rfl
  refine fB rfl rfl (MT rfl ?_)
  refine aL rfl rfl rfl rfl rfl (by decide) ?_
  refine aU rfl rfl (by decide) rfl rfl rfl ?_
  refine eV rfl (dN (sG y hr fl a p hp (nth fl k.1).src) rfl rfl rfl rfl rfl rfl) rfl (gU rfl ?_)
  apply aS (s := 42) rfl rfl rfl
  ·intro hg; apply aT; (refine MT rfl ?_); refine aD ?_; exact rfl
  ·exact rfl
  ·exact rfl
  apply aS (s := 42) rfl rfl rfl
  ·intro hg; apply aT; (refine aL rfl rfl rfl rfl rfl (by decide) ?_); refine aD ?_; exact rfl
  ·exact rfl
  ·exact rfl
  apply aS (s := 42) rfl rfl rfl
  ·intro hg; apply aO (s := 44) rfl (by (rw [hg]; rfl)); apply aT; (refine aU rfl rfl (by decide) rfl rfl rfl ?_); refine aD ?_; exact rfl
  ·exact rfl
  ·exact rfl
  apply aS (s := 42) rfl rfl rfl
  ·intro hg; apply aO (s := 43) rfl (by (rw [hg]; rfl)); apply aO (s := 45) rfl (by (rw [hg]; rfl)); apply aT; (refine eV rfl (dN (sG y hr fl a p hp (nth fl k.1).dst) rfl rfl rfl rfl rfl rfl) rfl ?_); refine aD ?_; exact rfl
  ·exact rfl
  ·exact rfl
  apply aS (s := 42) rfl rfl rfl
  ·intro hg; apply aO (s := 46) rfl (by (rw [hg]; rfl)); apply aT; (refine dM rfl ?_); refine aD ?_; exact rfl
  ·exact rfl
  ·exact rfl
  refine fB rfl rfl (dY rfl (dY rfl (aD ?_)))
  refine ⟨by kernel_rfl, ?_⟩
  refine aC ?_
  refine kf (J := live [(3, Ty.pp (mo p)), (5, Ty.jc 187 [Ty.pp (mo p), Ty.pp [Ty.pp (kQ y fl a)]]), (6, Ty.int .i64 (gP y fl p k.1)), (8, Ty.ptr 9 0), (9, Ty.bool (HL y p (nth fl k.1))), (10, Ty.bool (Eb y p (nth fl k.1))), (21, Ty.sl dZ fl), (22, Ty.int .i64 fl.length), (23, Ty.int .i64 (k.1 : Nat))] [(9, Cont.cells 187 (dZ.tys (nth fl k.1)))]) ?_ ?_
  ·
   refine aE (aA ?_)
   refine aM rfl rfl rfl rfl rfl (by decide) ?_
   refine aK rfl rfl rfl rfl (aD (aC ?_))
   refine cY rfl (fun hc3 => ?_) (fun hc3 => ?_)
   ·
    refine aA (gU rfl (gU rfl (dY rfl (dY rfl (aD (fP ?_))))))
    (refine dD.mk' ?_ ?_ <;> (repeat' (first | exact aH | exact aI | refine aB ?_ (Ty.aW _) | refine aB ?_ (Ty.aF _) | refine aG rfl (Cont.aF _) ?_ | refine aB ?_ ?_)))
    all_goals first | exact Ty.pL (F5 (by assumption)).1 | exact Ty.pL (F5 (by assumption)).2
   refine ak (fP ?_)
   (refine dD.mk' ?_ ?_ <;> (repeat' (first | exact aH | exact aI | refine aB ?_ (Ty.aW _) | refine aB ?_ (Ty.aF _) | refine aG rfl (Cont.aF _) ?_ | refine aB ?_ ?_)))
   all_goals first | exact Ty.pL (KU (by assumption)).1 | exact Ty.pL (KU (by assumption)).2
  refine kf (J := live [(3, Ty.pp (mo p)), (5, Ty.jc 187 [Ty.pp (mo p), Ty.pp [Ty.pp (kQ y fl a)]]), (6, Ty.int .i64 (oS y p (gP y fl p k.1) (nth fl k.1))), (8, Ty.ptr 9 0), (10, Ty.bool (Eb y p (nth fl k.1))), (21, Ty.sl dZ fl), (22, Ty.int .i64 fl.length), (23, Ty.int .i64 (k.1 : Nat))] [(9, Cont.cells 187 (dZ.tys (nth fl k.1)))]) ?_ ?_
  ·
   refine aE (aA (gU rfl (aD (aC ?_))))
   refine cY rfl (fun hc4 => ?_) (fun hc4 => ?_)
   ·
    refine aA (bM rfl ?_)
    refine aL rfl rfl rfl rfl rfl (by decide) ?_
    refine aU rfl rfl (by decide) rfl rfl rfl ?_
    refine bz rfl rfl (by omega) (by omega) ?_
    refine cB rfl (aD (fP ?_))
    (refine dD.mk' ?_ ?_ <;> (repeat' (first | exact aH | exact aI | refine aB ?_ (Ty.aW _) | refine aB ?_ (Ty.aF _) | refine aG rfl (Cont.aF _) ?_ | refine aB ?_ ?_)))
    all_goals exact Ty.bA (Ho (by assumption))
   refine ak (fP ?_)
   (refine dD.mk' ?_ ?_ <;> (repeat' (first | exact aH | exact aI | refine aB ?_ (Ty.aW _) | refine aB ?_ (Ty.aF _) | refine aG rfl (Cont.aF _) ?_ | refine aB ?_ ?_)))
   all_goals exact Ty.bA (JB (by assumption))
  refine aE (aA (gU rfl (aD (aC ?_))))
  refine cY rfl (fun hc5 => ?_) (fun hc5 => ?_)
  ·
   refine aA (bM rfl ?_)
   refine aL rfl rfl rfl rfl rfl (by decide) ?_
   refine aU rfl rfl (by decide) rfl rfl rfl ?_
   refine gL rfl rfl (by omega) (by omega) ?_
   refine cB rfl (aD (bW (aC (aA ?_))))
   refine bz rfl rfl (by omega) (by omega) ?_
   refine bM rfl (aD ?_)
   refine bf (⟨k.1 + 1, by omega⟩) ?_ (by show fl.length - (k.1 + 1) < fl.length - k.1; omega)
   (refine dD.mk' ?_ ?_ <;> (repeat' (first | exact aH | exact aI | refine aB ?_ (Ty.aW _) | refine aB ?_ (Ty.aF _) | refine aB ?_ ?_)))
   all_goals skip
   all_goals exact Ty.bA (AY (by assumption))
  refine ak (bW (aC (aA ?_)))
  refine bz rfl rfl (by omega) (by omega) ?_
  refine bM rfl (aD ?_)
  refine bf (⟨k.1 + 1, by omega⟩) ?_ (by show fl.length - (k.1 + 1) < fl.length - k.1; omega)
  (refine dD.mk' ?_ ?_ <;> (repeat' (first | exact aH | exact aI | refine aB ?_ (Ty.aW _) | refine aB ?_ (Ty.aF _) | refine aB ?_ ?_)))
  all_goals skip
  all_goals exact Ty.bA (Da (by assumption))
 refine cT (aR (aR (aq rfl (aC (aE (aA (bM rfl (cB rfl (aD ?_)))))))))
 refine aC (az (bq rfl rfl ?_))
 all_goals skip
 all_goals exact ay rfl rfl (congrArg (Ty.int .i64) ((show _ = gP y fl p fl.length by rw [show k.1 = fl.length by have := k.2; omega]).trans (Bc (Jz hc1))))
set_option maxRecDepth 100000 in
theorem HZ (a b : A9) : dx Tryz.prog 136 [Ty.agg (rG.tys a), Ty.agg (rG.tys b)] (Ty.bool (mQ a b)) := by
 refine au Tryz.func136 rfl (by decide) Tryz.ntmps136 (by exact Nat.le_of_ble_eq_true rfl) fun w0 M0 => ?_
 refine aE (aA (bJ rfl (bJ rfl (dY rfl (aD (aC (aE (aA ?_))))))))
 refine aY rfl rfl rfl (by exact Nat.le_of_ble_eq_true rfl) ?_
 refine aY rfl rfl rfl (by exact Nat.le_of_ble_eq_true rfl) ?_
 refine D7 (Lo a.bin a.day b.bin b.day) rfl rfl (gU rfl ?_)
 apply aS (s := 8) rfl rfl rfl
 ·intro hg; apply aT; (refine aM rfl rfl rfl rfl rfl (by decide) ?_); refine aD ?_; exact rfl
 ·exact rfl
 ·exact rfl
 apply aS (s := 8) rfl rfl rfl
 ·intro hg; apply aO (s := 9) rfl (by (rw [hg]; rfl)); apply aT; (refine aK rfl rfl rfl rfl ?_); refine aD ?_; exact rfl
 ·exact rfl
 ·exact rfl
 apply aS (s := 8) rfl rfl rfl
 ·intro hg; apply aT; (refine aM rfl rfl rfl rfl rfl (by decide) ?_); refine aD ?_; exact rfl
 ·exact rfl
 ·exact rfl
 apply aS (s := 8) rfl rfl rfl
 ·intro hg; apply aO (s := 11) rfl (by (rw [hg]; rfl)); apply aT; (refine aK rfl rfl rfl rfl ?_); refine aD ?_; exact rfl
 ·exact rfl
 ·exact rfl
 apply aS (s := 8) rfl rfl rfl
 ·intro hg; apply aO (s := 10) rfl (by (rw [hg]; rfl)); apply aO (s := 12) rfl (by (rw [hg]; rfl)); apply aT; (refine bE rfl rfl rfl ?_); refine aD ?_; exact rfl
 ·exact rfl
 ·exact rfl
 apply aS (s := 8) rfl rfl rfl
 ·intro hg; apply aO (s := 13) rfl (by (rw [hg]; rfl)); apply aT; (refine gU rfl ?_); refine aD ?_; exact rfl
 ·exact rfl
 ·exact rfl
 apply dr (s := 14) rfl rfl rfl
 ·intro hg1 hg2; apply aT; (refine aM rfl rfl rfl rfl rfl (by decide) ?_); refine aD ?_; exact rfl
 ·exact rfl
 ·exact rfl
 apply dr (s := 14) rfl rfl rfl
 ·intro hg1 hg2; apply aO (s := 15) rfl (by (rw [hg1, hg2]; rfl)); apply aT; (refine aK rfl rfl rfl rfl ?_); refine aD ?_; exact rfl
 ·exact rfl
 ·exact rfl
 apply dr (s := 14) rfl rfl rfl
 ·intro hg1 hg2; apply aT; (refine aM rfl rfl rfl rfl rfl (by decide) ?_); refine aD ?_; exact rfl
 ·exact rfl
 ·exact rfl
 apply dr (s := 14) rfl rfl rfl
 ·intro hg1 hg2; apply aO (s := 17) rfl (by (rw [hg1, hg2]; rfl)); apply aT; (refine aK rfl rfl rfl rfl ?_); refine aD ?_; exact rfl
 ·exact rfl
 ·exact rfl
 apply dr (s := 14) rfl rfl rfl
 ·intro hg1 hg2; apply aO (s := 16) rfl (by (rw [hg1, hg2]; rfl)); apply aO (s := 18) rfl (by (rw [hg1, hg2]; rfl)); apply aT; (refine bE rfl rfl rfl ?_); refine aD ?_; exact rfl
 ·exact rfl
 ·exact rfl
 apply dr (s := 14) rfl rfl rfl
 ·intro hg1 hg2; apply aO (s := 19) rfl (by (rw [hg1, hg2]; rfl)); apply aT; (refine gU rfl ?_); refine aD ?_; exact rfl
 ·exact rfl
 ·exact rfl
 apply dr (s := 20) rfl rfl rfl
 ·intro hg1 hg2; apply aT; (refine aM rfl rfl rfl rfl rfl (by decide) ?_); refine aD ?_; exact rfl
 ·exact rfl
 ·exact rfl
 apply dr (s := 20) rfl rfl rfl
 ·intro hg1 hg2; apply aO (s := 21) rfl (by (rw [hg1, hg2]; rfl)); apply aT; (refine aK rfl rfl rfl rfl ?_); refine aD ?_; exact rfl
 ·exact rfl
 ·exact rfl
 apply dr (s := 20) rfl rfl rfl
 ·intro hg1 hg2; apply aT; (refine aM rfl rfl rfl rfl rfl (by decide) ?_); refine aD ?_; exact rfl
 ·exact rfl
 ·exact rfl
 apply dr (s := 20) rfl rfl rfl
 ·intro hg1 hg2; apply aO (s := 23) rfl (by (rw [hg1, hg2]; rfl)); apply aT; (refine aK rfl rfl rfl rfl ?_); refine aD ?_; exact rfl
 ·exact rfl
 ·exact rfl
 apply dr (s := 20) rfl rfl rfl
 ·intro hg1 hg2; apply aO (s := 22) rfl (by (rw [hg1, hg2]; rfl)); apply aO (s := 24) rfl (by (rw [hg1, hg2]; rfl)); apply aT; (refine bE rfl rfl rfl ?_); refine aD ?_; exact rfl
 ·exact rfl
 ·exact rfl
 apply dr (s := 14) rfl rfl rfl
 ·intro hg1 hg2; apply aO (s := 20) rfl (by (rw [hg1, hg2]; rfl)); apply lU (s := 25) rfl (by (rw [hg1, hg2]; rfl)); apply aT; (refine fB rfl rfl ?_); refine aD ?_; exact rfl
 ·exact rfl
 ·exact rfl
 apply aS (s := 8) rfl rfl rfl
 ·intro hg; apply aO (s := 14) rfl (by (rw [hg]; rfl)); apply lU (s := 26) rfl (by (rw [hg]; rfl)); apply aT; (refine kj rfl rfl ?_); refine aD ?_; exact rfl
 ·exact rfl
 ·exact rfl
 refine fB rfl rfl (dY rfl (aD (aC (az (bq rfl rfl ?_)))))
 all_goals skip
 all_goals exact ay rfl rfl (congrArg Ty.bool (by unfold mQ; rw [LG]))
set_option maxRecDepth 100000 in
theorem E7 (y : bB) (hr : y.cN) (hs : y.Small) (c : A9) : dx Tryz.prog 134 [Ty.agg (rG.tys c), Ty.pp (bk y)] (Ty.bool (HI y c)) := by
 refine au Tryz.func134 rfl (by decide) Tryz.ntmps134 (by exact Nat.le_of_ble_eq_true rfl) fun w0 M0 => ?_
 have h2 := hr.days
 refine aE (aA (bJ rfl (dY rfl (aD (aC (aE (aA ?_)))))))
 refine aY rfl rfl rfl (by exact Nat.le_of_ble_eq_true rfl) ?_
 refine aM rfl rfl rfl rfl rfl (by decide) ?_
 refine aK rfl rfl rfl rfl (aa (Dm y hs _) rfl rfl rfl rfl rfl (gU rfl ?_))
 apply aS (s := 8) rfl rfl rfl
 ·intro hg; apply aT; (refine aM rfl rfl rfl rfl rfl (by decide) ?_); refine aD ?_; exact rfl
 ·exact rfl
 ·exact rfl
 apply aS (s := 8) rfl rfl rfl
 ·intro hg; apply aO (s := 9) rfl (by (rw [hg]; rfl)); apply aT; (refine aK rfl rfl rfl rfl ?_); refine aD ?_; exact rfl
 ·exact rfl
 ·exact rfl
 apply aS (s := 8) rfl rfl rfl
 ·intro hg; apply aT; (refine aM rfl rfl rfl rfl rfl (by decide) ?_); refine aD ?_; exact rfl
 ·exact rfl
 ·exact rfl
 apply aS (s := 8) rfl rfl rfl
 ·intro hg; apply aO (s := 11) rfl (by (rw [hg]; rfl)); apply aT; (refine aK rfl rfl rfl rfl ?_); refine aD ?_; exact rfl
 ·exact rfl
 ·exact rfl
 apply aS (s := 8) rfl rfl rfl
 ·intro hg; apply aO (s := 12) rfl (by (rw [hg]; rfl)); apply aT; (refine gL rfl rfl (by omega) (by omega) ?_); refine aD ?_; exact rfl
 ·exact rfl
 ·exact rfl
 apply aS (s := 8) rfl rfl rfl
 ·intro hg; apply aO (s := 10) rfl (by (rw [hg]; rfl)); apply aO (s := 13) rfl (by (rw [hg]; rfl)); apply aT; (refine aa (qS _ _ _) rfl rfl rfl rfl rfl ?_); refine aD ?_; exact rfl
 ·exact rfl
 ·exact rfl
 refine fB rfl rfl (dY rfl (aD (aC (az (bq rfl rfl ?_)))))
 all_goals exact cC rfl rfl
 all_goals trace_state
set_option maxRecDepth 100000 in
theorem HJ (y : bB) (hs : y.Small) (p : EK) (hl : p.cells.length ≤ 1000) : dx Tryz.prog 61 [fH y, Ty.agg (mo p)] (Ty.jv [Ty.int .i64 (tA y p), Ty.int .i64 (nM y p)]) := by
 refine au Tryz.func61 rfl (by decide) Tryz.ntmps61 (by exact Nat.le_of_ble_eq_true rfl) fun w0 M0 => ?_
 refine aE (aA (bJ rfl (bJ rfl (cB rfl (cB rfl (aD (aC (aE (aE ?_)))))))))
 refine aA ?_
 refine aY rfl rfl rfl (by exact Nat.le_of_ble_eq_true rfl) ?_
 refine aa (jf y hs) rfl rfl rfl rfl rfl (cB rfl (aD (aC (aE (aA (bM rfl (bE rfl rfl rfl (aD (aC ?_)))))))))
 refine cv rfl (fun hc1 => ?_) (fun hc1 => ?_)
 ·
  refine aE (aA (bM rfl (cB rfl (cB rfl (aD (aC (az (aV ?_))))))))
  refine fD rfl rfl rfl ?_ ?_
  all_goals skip
  all_goals first | exact ay rfl rfl (congrArg (Ty.int .i64) (Ki hc1).1) | exact ay rfl rfl (congrArg (Ty.int .i64) (Ki hc1).2)
 refine ak (aC (aE (aE ?_)))
 have hck : bZ y = 0 := hc1
 have hr := c9 hck
 refine aA ?_
 refine aM rfl rfl rfl rfl rfl (by decide) ?_
 refine aK rfl rfl rfl rfl (dH rfl ?_)
 refine aa (CK p.cells (Ty.jc 134 [Ty.pp (bk y)]) rfl (HI y) rfl rfl fun c _ => dN (E7 y hr hs c) rfl rfl rfl rfl rfl rfl) rfl rfl rfl rfl rfl ?_
 refine dM rfl (aD (aC ?_))
 refine cY rfl (fun hc2 => ?_) (fun hc2 => ?_)
 ·
  refine aE (aA (cB rfl (cB rfl (aD (aC (az (aV ?_)))))))
  refine fD rfl rfl rfl ?_ ?_
  all_goals skip
  all_goals first | exact ay rfl rfl (congrArg (Ty.int .i64) (Kr hc1 (qd hc2)).1) | exact ay rfl rfl (congrArg (Ty.int .i64) (Kr hc1 (qd hc2)).2)
 refine ak (aC (aE (aE ?_)))
 have hall : (p.cells.all (HI y)) = true := fY hc2
 refine aA (cB rfl (aD (aC (ah ?_))))
 refine cU (fun (i : {i : Nat // 1 ≤ i ∧ ∀ j, j + 1 < i → j + 1 < p.cells.length → mQ (nth p.cells j) (nth p.cells (j + 1)) = true}) => live [(2, Ty.pp (bk y)), (3, Ty.pp (mo p)), (7, Ty.int .i64 (i.1 : Nat))] []) (fun i => p.cells.length - i.1) (⟨1, Nat.le_refl _, fun j hj => by omega⟩) ?_ fun i => ?_
 ·(refine dD.mk' ?_ ?_ <;> (repeat' (first | exact aH | exact aI | refine aB ?_ (Ty.aW _) | refine aB ?_ (Ty.aF _))))
 have hi1 := i.2.1
 refine aE (aE (aA (bM rfl ?_)))
 refine aM rfl rfl rfl rfl rfl (by decide) ?_
 refine aK rfl rfl rfl rfl (cx rfl rfl rfl (bE rfl rfl rfl (aD (aC ?_))))
 refine av rfl (fun hc3 => ?_) (fun hc3 => ?_)
 ·
  refine ak (aC (aE (ah (aE (cM mixed rfl ?_)))))
  refine aM rfl rfl rfl rfl rfl (by decide) ?_
  refine aK rfl rfl rfl rfl (bM rfl ?_)
  refine gL rfl rfl (by omega) (by omega) ?_
  refine bI (i := i.1 - 1) rfl (by exact congrArg (Ty.int .i64) (by omega : ((i.1 : Nat) : Int) - 1 = ((i.1 - 1 : Nat) : Int))) rfl rfl rfl rfl (by omega) ?_
  refine aY rfl rfl rfl (by exact Nat.le_of_ble_eq_true rfl) ?_
  refine aM rfl rfl rfl rfl rfl (by decide) ?_
  refine aK rfl rfl rfl rfl (bM rfl ?_)
  refine bI rfl rfl rfl rfl rfl rfl (by omega) ?_
  refine aY rfl rfl rfl (by exact Nat.le_of_ble_eq_true rfl) ?_
  refine aa (HZ _ _) rfl rfl rfl rfl rfl (dM rfl (aD ?_))
  refine ⟨by kernel_rfl, ?_⟩
  refine aC ?_
  refine cY rfl (fun hc4 => ?_) (fun hc4 => ?_)
  ·
   refine aE (aA (cB rfl (cB rfl (aD (aC (az (bD (aV (aV ?_)))))))))
   refine bD (aV ?_)
   refine fD rfl rfl rfl ?_ ?_
   all_goals skip
   all_goals first | exact ay rfl rfl (congrArg (Ty.int .i64) (Fv hc1 hall i.2.1 (by omega) (qd hc4)).1) | exact ay rfl rfl (congrArg (Ty.int .i64) (Fv hc1 hall i.2.1 (by omega) (qd hc4)).2)
  refine ak (bW (aC (aA (bM rfl ?_))))
  refine bz rfl rfl (by omega) (by omega) ?_
  refine cB rfl (aD ?_)
  refine bf (⟨i.1 + 1, by omega, fun j hj hj2 => by by_cases e : j + 1 = i.1; (have := fY hc4; rwa [show i.1 - 1 = j by omega, show i.1 = j + 1 by omega] at this); exact i.2.2 j (by omega) hj2⟩) ?_ (by show p.cells.length - (i.1 + 1) < p.cells.length - i.1; omega)
  (refine dD.mk' ?_ ?_ <;> (repeat' (first | exact aH | exact aI | refine aB ?_ (Ty.aW _) | refine aB ?_ (Ty.aF _))))
  all_goals skip
 refine cT (aR (aR (aq rfl (aC (aE (cM mixed rfl ?_))))))
 refine aY rfl rfl rfl (by exact Nat.le_of_ble_eq_true rfl) ?_
 refine aa (qZ) rfl rfl rfl rfl rfl ?_
 refine cI (res' := Ty.pp (l9 y 2000 1000 (aP y (nth bP)).length (aP y (nth bP)).length)) [(2000, 23), (1000, 31)] [2000, 1000] [(2000, Cont.vec dZ 187 (aP y (nth bP))), (1000, Cont.vec cm 3 (fT (aP y (nth bP))))] (oY y hr bP jA) rfl rfl (aJ (aJ bO (aQ rfl rfl)) (aQ rfl rfl)) pre_nil (bN (a := 2000) (b := 23) (by decide) rfl (cA (by decide) rfl) (bN (a := 1000) (b := 31) (by decide) rfl (cA (by decide) rfl) post_nil)) (eo (aJ (aJ (aJ (aJ (aJ (aJ bO (eT (by decide))) (eT (by decide))) (aQ rfl rfl)) (aQ rfl rfl)) (aQ rfl rfl)) (aQ rfl rfl))) ?_
 refine aY rfl rfl rfl (by exact Nat.le_of_ble_eq_true rfl) ?_
 refine dg [2000, 1000] (JQ y hr (aP y (nth bP)) (fT (aP y (nth bP))) (iV hr) (G1 hr) p (fun x hx => LJ (List.all_eq_true.1 hall x hx))) rfl (aN (kR (aN (af (bF rfl rfl)) (aN (af (bF rfl rfl)) (aN (af (bF rfl rfl)) (aN (af (bF rfl rfl)) (aN (jD rfl rfl (by decide) rfl) (aN (jD rfl (DI _) (by decide) rfl) bh))))))) (aN (af (bF rfl rfl)) bh)) (by exact dF _ _) ?_
 refine cB rfl (aD ?_)
 refine ⟨by kernel_rfl, ?_⟩
 refine aC (aE (aE (aA (bM rfl (bE rfl rfl rfl (aD (aC ?_)))))))
 refine av rfl (fun hc5 => ?_) (fun hc5 => ?_)
 ·
  refine aE (aA (cB rfl (cB rfl (aD (aC (az (aV ?_)))))))
  refine fD rfl rfl rfl ?_ ?_
  all_goals skip
  all_goals first | exact ay rfl rfl (congrArg (Ty.int .i64) (Kc hc1 hall (fun j hj => i.2.2 j (by omega) hj) hc5).1) | exact ay rfl rfl (congrArg (Ty.int .i64) (Kc hc1 hall (fun j hj => i.2.2 j (by omega) hj) hc5).2)
 refine ak (aC (aE (aA (bM rfl (cB rfl (cB rfl (aD (aC (az ?_)))))))))
 refine fD rfl rfl rfl ?_ ?_
 all_goals skip
 all_goals first | exact ay rfl rfl (congrArg (Ty.int .i64) (Gp hc1 hall (fun j hj => i.2.2 j (by omega) hj) hc5).1) | exact ay rfl rfl (congrArg (Ty.int .i64) (Gp hc1 hall (fun j hj => i.2.2 j (by omega) hj) hc5).2)
end Go.Proofs.YtelbollidfdcjaaGreat
namespace Go.Proofs.YtelbollidfdcjaaGreat
open Go Go.T
set_option maxHeartbeats 8000000
attribute [local irreducible] aP fT
attribute [local irreducible] iP fV m6 qX ig iw ia ij ir qN iy qQ eA ga qU gS qM nth fX dy aj dx bodyPost Exit.then Exit.inBlock Code.wp Code.wpIn qO iz qT qR iZ eR cW cZ bodyPostM eH
set_option maxRecDepth 100000 in
theorem sW (y : bB) (hr : y.cN) (c8 : List Bool) (hc8 : c8.length = 8) : eR Tryz.prog 117 [] [] [fH y, Ty.arr jG c8] [(31, Cont.vec cm 3 (fT (aP y (nth c8))))] (Ty.pp (eF y (aP y (nth c8)) 31 (aP y (nth c8)).length)) := by
 refine qo Tryz.func117 rfl (by decide) Tryz.ntmps117 (by exact Nat.le_of_ble_eq_true rfl) fun w0 M0 => ?_
 have hfl := iV (c := nth c8) hr
 refine aE (aA (bJ rfl (tB rfl (mF rfl (aD (aC (aE (aA ?_))))))))
 refine aY rfl rfl rfl (by exact Nat.le_of_ble_eq_true rfl) ?_
 refine dG rfl rfl (by exact List.cons_ne_nil _ _) rfl (by repeat (first | exact (aX.nil : aX _ _ [] _) | (show aX _ _ ((_, _) :: _) _; apply aX.agg; (· exact (rfl : _ = Ty.agg _))))) (by exact rfl) ?_
 refine sX rfl rfl rfl ?_
 refine b8 rfl (by exact List.cons_ne_nil _ _) rfl ?_
 refine ct rfl rfl (by decide) rfl rfl (by exact (rfl : _ = Ty.ptr _ _)) rfl (by exact Nat.le_of_ble_eq_true rfl) rfl rfl (by exact (rfl : _ = [_])) ?_
 refine aD (aC (aE (aE (aA ?_))))
 refine aU rfl rfl (by decide) rfl rfl rfl ?_
 refine vp rfl rfl rfl (by rw [hc8]; rfl) ?_
 refine cI (res' := Ty.jc 196 [Ty.pp [Ty.ptr 10 0], Ty.pa jG c8 0]) [(10, 1000)] [] [(10, Cont.cells 185 (D4 y))] (F1 y c8 hc8) rfl rfl (aJ (aJ bO (aQ rfl rfl)) (eE (by exact List.mem_cons_self))) (cF (a := 10) (b := 1000) (by exact List.mem_cons_self) rfl (bK (by exact List.mem_cons_self) rfl rfl rfl) pre_nil) (bN (a := 10) (b := 1000) (by exact List.mem_cons_self) rfl (bK (by exact List.mem_cons_self) rfl rfl rfl) post_nil) (tG (aJ (aJ bO (aQ rfl rfl)) (eo (aJ bO (eE (by exact List.mem_cons_self)))))) ?_
 refine aD (aC ?_)
 refine GD (D := 10) (Tb := 185) (tys := bk y) (r := [Ty.ex (.slice none 0 0), Ty.ex (.slice none 0 0)]) rfl rfl rfl (by decide) fun vs hvs => ?_
 obtain ⟨v0, v1, v2, v3, rfl⟩ := four hvs rfl
 refine ah ?_
 refine rL (ps := [13]) (lk [(5, Ty.ptr 6 0), (9, Ty.ptr 10 0)]) (fun k => [(6, Cont.cells 152 [Ty.ptr 10 0]), (10, Cont.cells 185 [Ty.ex v0, Ty.ex v1, Ty.ex v2, Ty.ex v3, Ty.row dZ 187 23 ((aP y (nth c8)).take k), Ty.row cm 3 31 ((fT (aP y (nth c8))).take k)]), (4000, Cont.fact (bk y) [v0, v1, v2, v3] rfl rfl)]) false [] [6, 10, 4000] rfl rfl ((vR y hr c8 hc8 0 10 (by decide) [v0, v1, v2, v3]).1) (Bx (D := 10) (n := 36) (sd := 9) (r := fun k => [Ty.row dZ 187 23 ((aP y (nth c8)).take k), Ty.row cm 3 31 ((fT (aP y (nth c8))).take k)]) (fun b => vR y hr c8 hc8 b 10 (by decide) [v0, v1, v2, v3]) (by decide) (by decide) rfl (fun k => List.mem_cons_of_mem _ List.mem_cons_self) (List.mem_cons_of_mem _ (List.mem_cons_of_mem _ List.mem_cons_self))) (vK rfl) (vK rfl) (by decide) (by intro t ht; obtain ⟨x, _, rfl⟩ := List.mem_map.1 ht; exact ⟨rfl, rfl, rfl⟩) rfl rfl (fun _ => rfl) rfl ?_ ?_ ?_ (by intro h; cases h)
 ·(refine dD.mk' ?_ ?_ <;> (repeat' (first | exact aH | exact aI | exact dK | refine aB ?_ (Ty.aW _) | refine aB ?_ (Ty.aF _) | refine aG rfl (Cont.aF _) ?_ | refine aG rfl (Cont.dL ?_) ?_ | refine bY ?_ (Ty.aF _) | refine bY ?_ Ty.mL)))
  all_goals trace_state
 ·intro k tys hk
  obtain ⟨hk1, rfl⟩ := Du hk
  refine ⟨live [(5, Ty.ptr 6 0), (6, Ty.ptr 7 0), (9, Ty.ptr 10 0)] [(6, Cont.cells 152 [Ty.ptr 10 0]), (7, Cont.cells 187 (dZ.tys (nth (aP y (nth c8)) k))), (10, Cont.cells 185 [Ty.ex v0, Ty.ex v1, Ty.ex v2, Ty.ex v3, Ty.row dZ 187 23 ((aP y (nth c8)).take k), Ty.row cm 3 31 ((fT (aP y (nth c8))).take k)]), (4000, Cont.fact (bk y) [v0, v1, v2, v3] rfl rfl)], fun l w M => ?_, fun l w M => ?_⟩
  ·
   refine aA ?_
   refine b8 rfl (by exact List.cons_ne_nil _ _) rfl ?_
   refine bp rfl rfl (by decide) rfl rfl rfl rfl rfl rfl ?_
   refine aD (fP ?_)
   (refine dD.mk' ?_ ?_ <;> (repeat' (first | exact aH | exact aI | refine aB ?_ (Ty.aW _) | refine aB ?_ (Ty.aF _) | refine aG rfl (Cont.aF _) ?_)))
  refine ah ?_
  refine vC (D := 10) (Tb := 185) (tg := 23) [Ty.ex v0, Ty.ex v1, Ty.ex v2, Ty.ex v3] rfl fun v4 => ?_
  refine vC (D := 10) (Tb := 185) (tg := 31) [Ty.ex v0, Ty.ex v1, Ty.ex v2, Ty.ex v3, Ty.ex v4] rfl fun v5 => ?_
  refine cM mixed rfl ?_
  refine aU rfl rfl (by decide) rfl rfl rfl ?_
  refine aU rfl rfl (by decide) rfl rfl rfl ?_
  refine aU rfl rfl (by decide) rfl rfl rfl ?_
  refine cP rfl ?_
  refine aL rfl rfl rfl rfl rfl (by decide) ?_
  refine aU rfl rfl (by decide) rfl rfl rfl ?_
  refine bG rfl rfl (by decide) rfl rfl (by exact Nat.le_of_ble_eq_true rfl) ?_
  refine bt (E := dZ) (xs := [_]) rfl rfl rfl rfl rfl (by decide) (by decide) (by repeat (first | exact (aX.nil : aX _ _ [] _) | (show aX _ _ ((_, _) :: _) _; apply aX.agg; (· exact (rfl : _ = Ty.agg _))))) (by exact rfl) rfl ?_
  refine pY (tg := 23) rfl rfl rfl rfl (by decide) rfl rfl rfl rfl rfl rfl (by decide) (by (simp <;> omega)) (by (simp <;> omega)) rfl rfl ?_
  refine aU rfl rfl (by decide) rfl rfl rfl ?_
  refine cP rfl ?_
  refine aL rfl rfl rfl rfl rfl (by decide) ?_
  refine aU rfl rfl (by decide) rfl rfl rfl ?_
  refine aL rfl rfl rfl rfl rfl (by decide) ?_
  refine aU rfl rfl (by decide) rfl rfl rfl ?_
  refine bt (E := cm) (xs := [_]) rfl rfl rfl rfl rfl (by decide) (by decide) (by repeat (first | exact (aX.nil : aX _ _ [] _) | (show aX _ _ ((_, _) :: _) _; apply aX.one; (· exact (rfl : _ = Ty.int _ _)); (· exact rfl)))) (by exact rfl) rfl ?_
  refine pY (tg := 31) rfl rfl rfl rfl (by decide) rfl rfl rfl rfl rfl rfl (by decide) (by (simp <;> omega)) (by (simp <;> omega)) rfl rfl ?_
  refine cP rfl ?_
  refine aL rfl rfl rfl rfl rfl (by decide) ?_
  refine ct rfl rfl (by decide) rfl rfl (by exact (rfl : _ = Ty.row _ _ _ _)) rfl (by exact Nat.le_of_ble_eq_true rfl) rfl rfl (by exact rfl) ?_
  refine cP rfl ?_
  refine aL rfl rfl rfl rfl rfl (by decide) ?_
  refine ct rfl rfl (by decide) rfl rfl (by exact (rfl : _ = Ty.row _ _ _ _)) rfl (by exact Nat.le_of_ble_eq_true rfl) rfl rfl (by exact rfl) ?_
  refine aD ?_
  refine ⟨by kernel_rfl, ?_⟩
  refine bW (Bj ?_)
  (refine dD.mk' ?_ ?_ <;> (repeat' (first | exact aH | exact aI | exact dK | refine aB ?_ (Ty.aW _) | refine aG rfl (Cont.aF _) ?_ | refine aG rfl (Cont.dL ?_) ?_ | refine bY ?_ (Ty.aF _) | refine bY ?_ ?_)))
  all_goals first | exact Ty.gG (eK hk1).symm | exact Ty.gG (EG hk1)
 refine bW (aC (aE ?_))
 refine B7 (D := 10) (Tb := 185) (vs := [v0, v1, v2, v3]) (tys := bk y) (r := [Ty.row dZ 187 23 ((aP y (nth c8)).take ((aP y (nth c8)).map jj).length), Ty.row cm 3 31 ((fT (aP y (nth c8))).take ((aP y (nth c8)).map jj).length)]) rfl rfl ?_
 refine fK (tg := 10) rfl (Cont.nQ (T := 185) (BV (y := y) (fl := aP y (nth c8)) (f := jj))) ?_
 refine m9 (c0 := 10) (tg := 23) 4 rfl rfl ?_
 refine m9 (c0 := 10) (tg := 31) 5 rfl rfl ?_
 refine fK (tg := 10) rfl (Cont.eB (l' := l9 y 23 31 (aP y (nth c8)).length (aP y (nth c8)).length) ⟨Ty.aF _, Ty.aF _, Ty.aF _, Ty.aF _, Ty.wT rfl, Ty.wT (DI _), trivial⟩) ?_
 refine mj (tg := 10) [] [(6, Cont.cells 152 [Ty.pp (l9 y 23 31 (aP y (nth c8)).length (aP y (nth c8)).length)])] (by decide) rfl trivial ⟨iE rfl rfl ⟨zC rfl rfl (by decide), trivial⟩, trivial⟩ ?_
 refine mj (tg := 23) [] [(6, Cont.cells 152 [Ty.pp (eF y (aP y (nth c8)) 31 (aP y (nth c8)).length)])] (by decide) rfl trivial ⟨iE rfl rfl ⟨B4 ⟨bg rfl, bg rfl, bg rfl, bg rfl, kM rfl rfl (by decide), bg rfl, trivial⟩, trivial⟩, trivial⟩ ?_
 refine aA ?_
 refine aU rfl rfl (by decide) rfl rfl rfl ?_
 refine It rfl (aD (aC (az (Gb rfl ?_))))
 refine gW [31] rfl rfl (by decide) (by repeat (first | exact fO | refine eN rfl (cA (by decide) rfl) ?_)) ?_
 all_goals skip
 all_goals exact fo (eo (aJ (aJ (aJ (aJ (aJ (aJ bO (eT (by decide))) (aQ rfl rfl)) (aQ rfl rfl)) (aQ rfl rfl)) (aQ rfl rfl)) (aQ rfl rfl)))
end Go.Proofs.YtelbollidfdcjaaGreat
namespace Go.Proofs.YtelbollidfdcjaaGreat
open Go Go.T
theorem LO : Tryz.prog.underlying 180 = some (.array 8 4) := by kernel_rfl
theorem LV (a0 a1 a2 a3 a4 a5 a6 a7 b0 b1 b2 b3 b4 b5 b6 b7 : Bool) (w : World) : (Op.equal 180 (.agg #[.bool a0, .bool a1, .bool a2, .bool a3, .bool a4, .bool a5, .bool a6, .bool a7]) (.agg #[.bool b0, .bool b1, .bool b2, .bool b3, .bool b4, .bool b5, .bool b6, .bool b7])).run Tryz.prog w = .ok ((decide (a0 = b0) && (decide (a1 = b1) && (decide (a2 = b2) && (decide (a3 = b3) && (decide (a4 = b4) && (decide (a5 = b5) && (decide (a6 = b6) && decide (a7 = b7))))))))) w := by
 have hs : Tryz.prog.stoodInHeld 180 = false := by kernel_rfl
 have e4 : ∀ (x y : Bool) (w : World), (Op.equalIn 9999 4 (.bool x) (.bool y)).run Tryz.prog w = .ok (decide (x = y)) w := fun x y w => by
  rw [Op.equalIn]
  simp only [Sem.run_bind, run_underlying Tryz.underlying4, Result.andThen_ok]
  rfl
 have g4 : ∀ w, (isAgg 4).run Tryz.prog w = .ok false w := fun w => by simp [isAgg, run_underlying Tryz.underlying4]
 unfold Op.equal Op.maxDepth
 rw [Op.equalIn]
 simp only [Sem.run_bind, run_underlying LO, Result.andThen_ok]
 simp [hs, part, g4, e4]
 rw [show List.range' 0 8 = [0, 1, 2, 3, 4, 5, 6, 7] from rfl]
 simp [List.forIn_cons, g4, e4]
 by_cases h0 : a0 = b0
 case neg => simp [h0]
 rw [if_pos h0]
 by_cases h1 : a1 = b1
 case neg => simp [h1]
 rw [if_pos h1]
 by_cases h2 : a2 = b2
 case neg => simp [h2]
 rw [if_pos h2]
 by_cases h3 : a3 = b3
 case neg => simp [h3]
 rw [if_pos h3]
 by_cases h4 : a4 = b4
 case neg => simp [h4]
 rw [if_pos h4]
 by_cases h5 : a5 = b5
 case neg => simp [h5]
 rw [if_pos h5]
 by_cases h6 : a6 = b6
 case neg => simp [h6]
 rw [if_pos h6]
 by_cases h7 : a7 = b7
 case neg => simp [h7]
 rw [if_pos h7]
 simp [h0, h1, h2, h3, h4, h5, h6, h7]
theorem GH (xs ys : List Bool) (hx : xs.length = 8) (hy : ys.length = 8) : K3 Tryz.prog 180 (xs.flatMap jG.tys) (ys.flatMap jG.tys) (decide (xs = ys)) := by
  match xs, ys, hx, hy with
  | [a0, a1, a2, a3, a4, a5, a6, a7], [b0, b1, b2, b3, b4, b5, b6, b7], _, _ =>
    refine ⟨by kernel_rfl, fun w M cs ds h1 h2 => ?_⟩
    obtain ⟨cs⟩ := cs
    obtain ⟨ds⟩ := ds
    match cs, ds, h1, h2 with
    | [u0, u1, u2, u3, u4, u5, u6, u7], [v0, v1, v2, v3, v4, v5, v6, v7], h1, h2 =>
      change cK w M [Ty.bool a0, Ty.bool a1, Ty.bool a2, Ty.bool a3, Ty.bool a4, Ty.bool a5, Ty.bool a6, Ty.bool a7] _ at h1
      change cK w M [Ty.bool b0, Ty.bool b1, Ty.bool b2, Ty.bool b3, Ty.bool b4, Ty.bool b5, Ty.bool b6, Ty.bool b7] _ at h2
      obtain ⟨e0, e1, e2, e3, e4, e5, e6, e7, _⟩ := h1
      obtain ⟨f0, f1, f2, f3, f4, f5, f6, f7, _⟩ := h2
      cases e0; cases e1; cases e2; cases e3; cases e4; cases e5; cases e6; cases e7
      cases f0; cases f1; cases f2; cases f3; cases f4; cases f5; cases f6; cases f7
      rw [LV]
      congr 1
      simp only [List.cons.injEq, and_true, Bool.decide_and]
end Go.Proofs.YtelbollidfdcjaaGreat
namespace Go.T
open Go Go.RowKit
section
variable {P : Program} {fr : Fr} {ops : Array Oper} {A : As} {rest : List Oper} {K : As → List (As × Fx) → Prop} {d : Nat} {t ty' ty2 : TypeId} {p : String} {e : Array Edge}
theorem zq {α : Type} [Inhabited α] {E : El α} {xs ys : List α} {x y : Operand} {c : Bool} (hE : K3 P ty' (xs.flatMap E.tys) (ys.flatMap E.tys) c) (hx : A.op fr x = .arr E xs) (hy : A.op fr y = .arr E ys)
 (h : aj P fr ops rest (A.set d (.bool (!c))) fun A' l' => K A' ((A, { d := some d, ty := .bool (!c), rs := cD x ++ cD y }) :: l')) : aj P fr ops (⟨some d, .binOp .neq ty' x y ty2, t, p, e, none⟩ :: rest) A K :=
 bL (bV rfl rfl fun a w M _ hrd _ => by
  have _ := (inferInstance : Inhabited α)
  obtain ⟨hdx, hdy⟩ := op2 hrd
  rw [hx] at hdx; rw [hy] at hdy
  obtain ⟨cs, ex, h1⟩ := hdx
  obtain ⟨ds, ey, h2⟩ := hdy
  exact ⟨.bool (!c), by simp only [execOp, ex, ey]; simp [eqGuard, hE.1, binOp, hE.2 w M cs ds h1 h2], rfl⟩) h
end
end Go.T
namespace Go.Proofs.YtelbollidfdcjaaGreat
open Go Go.T
set_option maxHeartbeats 16000000
def Hx (l : List Int) (x : Int) : Int := fidx (fun y => decide (x = y)) l
theorem zS (l : List Int) (x : Int) : decide (Hx l x ≥ 0) = decide (x ∈ l) := by
 unfold Hx
 rw [n7]
 rw [Bool.eq_iff_iff]; simp
def AP (l : List Int) (o : Bool) (i : Nat) : Bool := !(decide ((i : Int) ∈ l) == o)
def iM (l : List Int) (o : Bool) (k : Nat) : List Bool := (List.range k).map (AP l o) ++ List.replicate (8 - k) false
def cg (l : List Int) (o : Bool) : List Bool := (List.range 8).map (AP l o)
noncomputable def ep (y : bB) (c : List Bool) : Bool := !(cO (aP y (nth c)) (y.cells + 1) (fT (aP y (nth c)))).2.1
section
variable {y : bB} {l : List Int} {o : Bool} {k : Nat}
theorem zb (h : k ≤ 8) : (iM l o k).length = 8 := by unfold iM; rw [List.length_append, List.length_map, List.length_range, List.length_replicate]; omega
theorem Cd : (cg l o).length = 8 := by unfold cg; rw [List.length_map, List.length_range]
theorem xS : List.replicate 8 false = iM l o 0 := rfl
theorem zR : iM l o 8 = cg l o := List.append_nil _
theorem xe (h : k < 8) : (iM l o k).set k (!(decide ((k : Int) ∈ l) == o)) = iM l o (k + 1) := by
 unfold iM
 have e : ((List.range k).map (AP l o)).length = k := by rw [List.length_map, List.length_range]
 rw [List.set_append_right _ _ (by omega), e, Nat.sub_self, show 8 - k = (8 - (k + 1)) + 1 by omega, List.replicate_succ, List.set_cons_zero, List.range_succ, List.map_append, List.append_assoc]; rfl
theorem zn {xs ys : List Bool} {b : Bool} (hx : xs.length = 8) (hy : ys.length = 8) (h : decide (xs = ys) = b) : K3 Tryz.prog 180 (xs.flatMap jG.tys) (ys.flatMap jG.tys) b := h ▸ GH xs ys hx hy
theorem Me (h : decide (cg l o = bP) = true) (h2 : (!(cO (aP y (nth bP)) (y.cells + 1) (fT (aP y (nth bP)))).2.1) = true) : true = ep y (cg l o) := by rw [of_decide_eq_true h]; exact h2.symm
theorem NN (h : decide (cg l o = bP) = true) (h2 : (!(cO (aP y (nth bP)) (y.cells + 1) (fT (aP y (nth bP)))).2.1) = false) : false = ep y (cg l o) := by rw [of_decide_eq_true h]; exact h2.symm
theorem KW (y : bB) (c : List Bool) : (!(cO (aP y (nth c)) (y.cells + 1) (fT (aP y (nth c)))).2.1) = ep y c := rfl
end
attribute [local irreducible] aP fT Way.gj Way.fin Way.room eX eI fE gR over bQ cQ dn eW jh fG gx kO cO fR fy fu dB cL gN pS iq jC jQ gb By yR gQ bB.kept bB.cells bZ dO bP fL kF cy oz qP ju dh kZ nU hasB tE sK rC tv pQ kH nY kW xP gP jr HL Eb sR ep cg iM
attribute [local irreducible] iP fV m6 qX ig iw ia ij ir qN iy qQ eA ga qU gS qM nth fX dy aj dx bodyPost Exit.then Exit.inBlock Code.wp Code.wpIn qO iz qT qR iZ eR cW cZ bodyPostM eH
set_option maxRecDepth 100000 in
theorem Bz (l : List Int) (x : Int) : dx Tryz.prog 140 [Ty.sl cm l, Ty.int .i64 x] (Ty.int .i64 (Hx l x)) := by
 refine au Tryz.func140 rfl (by decide) Tryz.ntmps140 (by exact Nat.le_of_ble_eq_true rfl) fun w0 M0 => ?_
 refine kA (s := 0) rfl rfl j7 fun hl => ?_
 refine aE (aA (cB rfl (aD (aC (aE (aE (aA (gm rfl (cx rfl rfl rfl ?_)))))))))
 refine bM rfl (aD (aC (ah ?_)))
 refine cU (fun (k : {k : Nat // ∀ y ∈ l.take k, decide (x = y) = false}) => live [(0, Ty.sl cm l), (1, Ty.int .i64 x), (7, Ty.int .i64 l.length), (8, Ty.int .i64 (k.1 : Nat))] []) (fun k => l.length - k.1) (⟨0, by simp⟩) ?_ fun k => ?_
 ·(refine dD.mk' ?_ ?_ <;> (repeat' (first | exact aH | exact aI | refine aB ?_ (Ty.aW _) | refine aB ?_ (Ty.aF _))))
 refine aE (aA (bE rfl rfl rfl (aD (aC (aE ?_)))))
 refine av rfl (fun hc1 => ?_) (fun hc1 => ?_)
 ·
  refine ak (aC (aE (ah (aE (aA (bM rfl (cB rfl (aD (aC ?_)))))))))
  refine aE (aA (bM rfl (gm rfl (bM rfl ?_))))
  refine bI rfl rfl rfl rfl rfl rfl (by omega) ?_
  refine aK rfl rfl rfl rfl (bE rfl rfl rfl (aD (aC ?_)))
  refine av rfl (fun hc2 => ?_) (fun hc2 => ?_)
  ·
   refine aE (aA (bM rfl (cB rfl (aD (aC (az (bD (aV (aV ?_)))))))))
   refine bD (aV (bq rfl rfl ?_))
   all_goals skip
   exact ay rfl rfl (congrArg (Ty.int .i64) (by unfold Hx; rw [gk (k := k.1) (by omega) k.2 (by rw [← iA]; exact decide_eq_true hc2)]))
  refine ak (bW (aC (aA ?_)))
  refine bz rfl rfl (by omega) (by omega) ?_
  refine bM rfl (aD ?_)
  refine bf (⟨k.1 + 1, by rw [eK (by omega)]; intro y hy; rcases List.mem_append.1 hy with h | h; exact k.2 y h; rw [List.mem_singleton.1 h]; exact decide_eq_false hc2⟩) ?_ (by show l.length - (k.1 + 1) < l.length - k.1; omega)
  (refine dD.mk' ?_ ?_ <;> (repeat' (first | exact aH | exact aI | refine aB ?_ (Ty.aW _) | refine aB ?_ (Ty.aF _))))
  all_goals skip
 refine cT (aR (aR (aq rfl (aC (aE (aA (cB rfl (aD (aC ?_)))))))))
 refine az (bq rfl rfl ?_)
 all_goals skip
 exact ay rfl rfl (congrArg (Ty.int .i64) (by unfold Hx; rw [iY (by have := k.2; rwa [List.take_of_length_le (by omega)] at this)]))
set_option maxRecDepth 100000 in
theorem xC (l : List Int) (x : Int) : dx Tryz.prog 65 [Ty.sl cm l, Ty.int .i64 x] (Ty.bool (decide (x ∈ l))) := by
 refine au Tryz.func65 rfl (by decide) Tryz.ntmps65 (by exact Nat.le_of_ble_eq_true rfl) fun w0 M0 => ?_
 refine aE (aA (dY rfl (aD (aC (aE (aA (gm rfl (bM rfl (aa (Bz l x) rfl rfl rfl rfl rfl ?_)))))))))
 refine bE rfl rfl rfl (dY rfl (aD (aC (az (bq rfl rfl ?_)))))
 all_goals skip
 exact ay rfl rfl (congrArg Ty.bool (zS l x))
set_option maxRecDepth 100000 in
theorem Bg (y : bB) (hr : y.cN) (l : List Int) (o : Bool) : dx Tryz.prog 112 [fH y, Ty.sl cm l, Ty.bool o] (Ty.bool (ep y (cg l o))) := by
 refine au Tryz.func112 rfl (by decide) Tryz.ntmps112 (by exact Nat.le_of_ble_eq_true rfl) fun w0 M0 => ?_
 refine aE (aA (bJ rfl (dY rfl (aD (aC (aE (aA ?_)))))))
 refine AU (E := jG) (xs := List.replicate 8 false) rfl (by exact List.cons_ne_nil _ _) rfl rfl ?_
 refine aD (aC (aE (aE (aA (bM rfl (aD (aC (ah ?_))))))))
 refine cU (fun (k : {k : Nat // k ≤ 8}) => live [(1, Ty.sl cm l), (2, Ty.bool o), (3, Ty.pp (bk y)), (7, Ty.ptr 8 0), (9, Ty.int .i64 (k.1 : Nat))] [(8, Cont.vec jG 180 (iM l o k.1))]) (fun k => 8 - k.1) (⟨0, by omega⟩) ?_ fun k => ?_
 ·(refine dD.mk' ?_ ?_ <;> (repeat' (first | exact aH | exact aI | refine aB ?_ (Ty.aW _) | refine aB ?_ (Ty.aF _) | refine aG rfl ?_ ?_)))
  all_goals exact Cont.eP xS
 have hkl := zb (l := l) (o := o) k.2
 refine aE (aA (bE rfl rfl rfl (aD (aC (aE ?_)))))
 refine av rfl (fun hc1 => ?_) (fun hc1 => ?_)
 ·
  refine ak (aC (aE (ah (aE (aA (bM rfl (cB rfl (aD (aC ?_)))))))))
  refine aA (bM rfl (gm rfl (bM rfl (aa (xC _ _) rfl rfl rfl rfl rfl (gU rfl (D2 NQ rfl rfl ?_))))))
  refine sP (n := 8) rfl rfl rfl rfl rfl (by omega) (by omega) ?_
  refine ry rfl rfl rfl (by decide) rfl rfl (by exact (rfl : _ = Ty.bool _)) rfl (by omega) (by decide) rfl rfl ?_
  refine aD (bW (aC (aA ?_)))
  refine bz rfl rfl (by omega) (by omega) ?_
  refine bM rfl (aD ?_)
  refine bf (⟨k.1 + 1, by omega⟩) ?_ (by show 8 - (k.1 + 1) < 8 - k.1; omega)
  (refine dD.mk' ?_ ?_ <;> (repeat' (first | exact aH | exact aI | refine aB ?_ (Ty.aW _) | refine aB ?_ (Ty.aF _) | refine aG rfl ?_ ?_)))
  all_goals skip
  all_goals exact Cont.eP (xe (by omega))
 refine cT (aR (aR (aq rfl (aC (aE ?_)))))
 obtain ⟨k, hk⟩ := k
 obtain rfl : k = 8 := by have h1 : ¬ (k : Int) < 8 := hc1; have h2 : k ≤ 8 := hk; omega
 refine fK (tg := 8) rfl (Cont.eP zR) ?_
 have hcl : (cg l o).length = 8 := Cd
 refine cM mixed rfl ?_
 refine iL rfl rfl (by decide) rfl rfl (by rw [hcl]; rfl) (fun e => by rw [e] at hcl; cases hcl) ?_
 refine aa (qZ) rfl rfl rfl rfl rfl (LD (GH _ _ hcl jA) rfl rfl ?_)
 cases hsp : (decide ((cg l o) = bP))
 ·
  refine gU rfl (nC rfl rfl rfl rfl (nC rfl rfl rfl rfl (nC rfl rfl rfl rfl (nC rfl rfl rfl rfl (Dp rfl ?_)))))
  cases hsp : (!(cO (aP y (nth bP)) (y.cells + 1) (fT (aP y (nth bP)))).2.1)
  ·
   refine gU rfl ?_
   (refine j0 rfl rfl rfl (by apply aT; (refine iL rfl rfl (by decide) rfl rfl (by rw [hcl]; rfl) (fun e => by rw [e] at hcl; cases hcl) ?_); refine aD ?_; exact rfl) ?_)
   (refine j0 rfl rfl rfl (by apply aT; (refine aa (qZ) rfl rfl rfl rfl rfl ?_); refine aD ?_; exact rfl) ?_)
   (refine j0 rfl rfl rfl (by apply aT; (refine zq (zn hcl jA (by assumption)) rfl rfl ?_); refine aD ?_; exact rfl) ?_)
   (refine j0 rfl rfl rfl (by apply aT; (refine gU rfl ?_); refine aD ?_; exact rfl) ?_)
   (refine j0 rfl rfl rfl (by apply aT; (refine aY rfl rfl rfl (by exact Nat.le_of_ble_eq_true rfl) ?_); refine aD ?_; exact rfl) ?_)
   (refine j0 rfl rfl rfl (by apply aT; (refine iL rfl rfl (by decide) rfl rfl (by rw [hcl]; rfl) (fun e => by rw [e] at hcl; cases hcl) ?_); refine aD ?_; exact rfl) ?_)
   (refine j0 rfl rfl rfl (by apply aT; (refine cI (res' := Ty.pp (eF y (aP y (nth (cg l o))) 1000 (aP y (nth (cg l o))).length)) [(1000, 31)] [1000] [(1000, Cont.vec cm 3 (fT (aP y (nth (cg l o)))))] (sW y hr (cg l o) hcl) rfl rfl (aJ (aJ bO (aQ rfl rfl)) (aQ rfl rfl)) pre_nil (bN (a := 1000) (b := 31) (by decide) rfl (cA (by decide) rfl) post_nil) (eo (aJ (aJ (aJ (aJ (aJ (aJ bO (eT (by decide))) (aQ rfl rfl)) (aQ rfl rfl)) (aQ rfl rfl)) (aQ rfl rfl)) (aQ rfl rfl))) ?_); refine aD ?_; exact rfl) ?_)
   (refine j0 rfl rfl rfl (by apply aT; (refine cI [(1000, 1000)] [] [(1000, Cont.vec cm 3 (cO (aP y (nth (cg l o))) (y.cells + 1) (fT (aP y (nth (cg l o))))).2.2)] (mA y (aP y (nth (cg l o))) (fT (aP y (nth (cg l o)))) (kL hr)) rfl rfl (aJ bO (eo (aJ (aJ (aJ (aJ (aJ (aJ bO (eT (by exact List.mem_cons_self))) (aQ rfl rfl)) (aQ rfl rfl)) (aQ rfl rfl)) (aQ rfl rfl)) (aQ rfl rfl)))) (cF (a := 1000) (b := 1000) (by exact List.mem_cons_self) rfl (cA (by exact List.mem_cons_self) rfl) pre_nil) (bN (a := 1000) (b := 1000) (by decide) rfl (cA (by decide) rfl) post_nil) (aQ rfl rfl) ?_); refine aD ?_; exact rfl) ?_)
   (refine j0 rfl rfl rfl (by apply aT; (refine z5 rfl rfl ?_); refine aD ?_; exact rfl) ?_)
   refine AO rfl rfl (dY rfl (aD ?_))
   refine ⟨by kernel_rfl, ?_⟩
   refine aC (az (bq rfl rfl ?_))
   all_goals skip
   all_goals exact ay rfl rfl (congrArg Ty.bool (KW y _))
  refine gU rfl ?_
  (refine j0 rfl rfl rfl (by apply aT; (refine iL rfl rfl (by decide) rfl rfl (by rw [hcl]; rfl) (fun e => by rw [e] at hcl; cases hcl) ?_); refine aD ?_; exact rfl) ?_)
  (refine j0 rfl rfl rfl (by apply aT; (refine aa (qZ) rfl rfl rfl rfl rfl ?_); refine aD ?_; exact rfl) ?_)
  (refine j0 rfl rfl rfl (by apply aT; (refine zq (zn hcl jA (by assumption)) rfl rfl ?_); refine aD ?_; exact rfl) ?_)
  (refine j0 rfl rfl rfl (by apply aT; (refine gU rfl ?_); refine aD ?_; exact rfl) ?_)
  (refine j0 rfl rfl rfl (by apply aT; (refine aY rfl rfl rfl (by exact Nat.le_of_ble_eq_true rfl) ?_); refine aD ?_; exact rfl) ?_)
  (refine j0 rfl rfl rfl (by apply aT; (refine iL rfl rfl (by decide) rfl rfl (by rw [hcl]; rfl) (fun e => by rw [e] at hcl; cases hcl) ?_); refine aD ?_; exact rfl) ?_)
  (refine j0 rfl rfl rfl (by apply aT; (refine cI (res' := Ty.pp (eF y (aP y (nth (cg l o))) 1000 (aP y (nth (cg l o))).length)) [(1000, 31)] [1000] [(1000, Cont.vec cm 3 (fT (aP y (nth (cg l o)))))] (sW y hr (cg l o) hcl) rfl rfl (aJ (aJ bO (aQ rfl rfl)) (aQ rfl rfl)) pre_nil (bN (a := 1000) (b := 31) (by decide) rfl (cA (by decide) rfl) post_nil) (eo (aJ (aJ (aJ (aJ (aJ (aJ bO (eT (by decide))) (aQ rfl rfl)) (aQ rfl rfl)) (aQ rfl rfl)) (aQ rfl rfl)) (aQ rfl rfl))) ?_); refine aD ?_; exact rfl) ?_)
  (refine j0 rfl rfl rfl (by apply aT; (refine cI [(1000, 1000)] [] [(1000, Cont.vec cm 3 (cO (aP y (nth (cg l o))) (y.cells + 1) (fT (aP y (nth (cg l o))))).2.2)] (mA y (aP y (nth (cg l o))) (fT (aP y (nth (cg l o)))) (kL hr)) rfl rfl (aJ bO (eo (aJ (aJ (aJ (aJ (aJ (aJ bO (eT (by exact List.mem_cons_self))) (aQ rfl rfl)) (aQ rfl rfl)) (aQ rfl rfl)) (aQ rfl rfl)) (aQ rfl rfl)))) (cF (a := 1000) (b := 1000) (by exact List.mem_cons_self) rfl (cA (by exact List.mem_cons_self) rfl) pre_nil) (bN (a := 1000) (b := 1000) (by decide) rfl (cA (by decide) rfl) post_nil) (aQ rfl rfl) ?_); refine aD ?_; exact rfl) ?_)
  (refine j0 rfl rfl rfl (by apply aT; (refine z5 rfl rfl ?_); refine aD ?_; exact rfl) ?_)
  refine AO rfl rfl (dY rfl (aD ?_))
  refine ⟨by kernel_rfl, ?_⟩
  refine aC (az (bq rfl rfl ?_))
  all_goals skip
  all_goals exact ay rfl rfl (congrArg Ty.bool (KW y _))
 refine gU rfl ?_
 (refine j0 rfl rfl rfl (by apply aT; (refine aY rfl rfl rfl (by exact Nat.le_of_ble_eq_true rfl) ?_); refine aD ?_; exact rfl) ?_)
 (refine j0 rfl rfl rfl (by apply aT; (refine aa (qZ) rfl rfl rfl rfl rfl ?_); refine aD ?_; exact rfl) ?_)
 (refine j0 rfl rfl rfl (by apply aT; (refine cI (res' := Ty.pp (eF y (aP y (nth bP)) 1000 (aP y (nth bP)).length)) [(1000, 31)] [1000] [(1000, Cont.vec cm 3 (fT (aP y (nth bP))))] (sW y hr bP jA) rfl rfl (aJ (aJ bO (aQ rfl rfl)) (aQ rfl rfl)) pre_nil (bN (a := 1000) (b := 31) (by decide) rfl (cA (by decide) rfl) post_nil) (eo (aJ (aJ (aJ (aJ (aJ (aJ bO (eT (by decide))) (aQ rfl rfl)) (aQ rfl rfl)) (aQ rfl rfl)) (aQ rfl rfl)) (aQ rfl rfl))) ?_); refine aD ?_; exact rfl) ?_)
 (refine j0 rfl rfl rfl (by apply aT; (refine cI [(1000, 1000)] [] [(1000, Cont.vec cm 3 (cO (aP y (nth bP)) (y.cells + 1) (fT (aP y (nth bP)))).2.2)] (mA y (aP y (nth bP)) (fT (aP y (nth bP))) (kL hr)) rfl rfl (aJ bO (eo (aJ (aJ (aJ (aJ (aJ (aJ bO (eT (by exact List.mem_cons_self))) (aQ rfl rfl)) (aQ rfl rfl)) (aQ rfl rfl)) (aQ rfl rfl)) (aQ rfl rfl)))) (cF (a := 1000) (b := 1000) (by exact List.mem_cons_self) rfl (cA (by exact List.mem_cons_self) rfl) pre_nil) (bN (a := 1000) (b := 1000) (by decide) rfl (cA (by decide) rfl) post_nil) (aQ rfl rfl) ?_); refine aD ?_; exact rfl) ?_)
 refine z5 rfl rfl ?_
 cases hsp : (!(cO (aP y (nth bP)) (y.cells + 1) (fT (aP y (nth bP)))).2.1)
 ·
  refine gU rfl ?_
  (refine j0 rfl rfl rfl (by apply aT; (refine iL rfl rfl (by decide) rfl rfl (by rw [hcl]; rfl) (fun e => by rw [e] at hcl; cases hcl) ?_); refine aD ?_; exact rfl) ?_)
  (refine j0 rfl rfl rfl (by apply aT; (refine aa (qZ) rfl rfl rfl rfl rfl ?_); refine aD ?_; exact rfl) ?_)
  (refine j0 rfl rfl rfl (by apply aT; (refine zq (zn hcl jA (by assumption)) rfl rfl ?_); refine aD ?_; exact rfl) ?_)
  (refine j0 rfl rfl rfl (by apply aT; (refine gU rfl ?_); refine aD ?_; exact rfl) ?_)
  refine nC rfl rfl rfl rfl (nC rfl rfl rfl rfl (nC rfl rfl rfl rfl (nC rfl rfl rfl rfl ?_)))
  (refine j0 rfl rfl rfl (by apply aT; (refine Dp rfl ?_); refine aD ?_; exact rfl) ?_)
  refine AO rfl rfl (dY rfl (aD ?_))
  refine ⟨by kernel_rfl, ?_⟩
  refine aC (az (bq rfl rfl ?_))
  all_goals skip
  all_goals exact ay rfl rfl (congrArg Ty.bool (NN (by assumption) (by assumption)))
 refine gU rfl (nC rfl rfl rfl rfl (nC rfl rfl rfl rfl (nC rfl rfl rfl rfl (nC rfl rfl rfl rfl (AB rfl rfl rfl (AB rfl rfl rfl (AB rfl rfl rfl (AB rfl rfl rfl (nC rfl rfl rfl rfl ?_)))))))))
 refine KB rfl (dY rfl (aD ?_))
 refine ⟨by kernel_rfl, ?_⟩
 refine aC (az (bq rfl rfl ?_))
 all_goals skip
 all_goals exact ay rfl rfl (congrArg Ty.bool (Me (by assumption) (by assumption)))
end Go.Proofs.YtelbollidfdcjaaGreat
namespace Go.Proofs.YtelbollidfdcjaaGreat
open Go Go.T
set_option maxHeartbeats 16000000
section
variable {y : bB} {l : List Int} {i : Nat}
end
attribute [local irreducible] aP fT Way.gj Way.fin Way.room eX eI fE gR over bQ cQ dn eW jh fG gx kO cO fR fy fu dB cL gN pS iq jC jQ gb By yR gQ bB.kept bB.cells bZ dO bP fL kF cy oz qP ju dh kZ nU hasB tE sK rC tv pQ kH nY kW xP gP jr HL Eb sR ep cg iM
attribute [local irreducible] iP fV m6 qX ig iw ia ij ir qN iy qQ eA ga qU gS qM nth fX dy aj dx bodyPost Exit.then Exit.inBlock Code.wp Code.wpIn qO iz qT qR iZ eR cW cZ bodyPostM eH
end Go.Proofs.YtelbollidfdcjaaGreat
namespace Go.Proofs.YtelbollidfdcjaaGreat
open Go Go.T
def mz (h : List Int → Bool) (many : Nat) : Nat → List Int → Nat → List Int → Bool × List Int
  | 0, _, _, o => (false, o)
  | d + 1, l, i, o =>
    if (if (l ++ [(i : Int)]).length = many then (h (l ++ [(i : Int)]), l ++ [(i : Int)]) else mz h many d (l ++ [(i : Int)]) (i + 1) o).1 = true then (if (l ++ [(i : Int)]).length = many then (h (l ++ [(i : Int)]), l ++ [(i : Int)]) else mz h many d (l ++ [(i : Int)]) (i + 1) o)
    else mz h many d l (i + 1) (if (l ++ [(i : Int)]).length = many then (h (l ++ [(i : Int)]), l ++ [(i : Int)]) else mz h many d (l ++ [(i : Int)]) (i + 1) o).2
def uE (h : List Int → Bool) (many lim : Nat) (l : List Int) (i : Nat) (o : List Int) : Bool × List Int := if l.length = many then (h l, l) else mz h many (lim - i) l i o
def zM (many : Nat) : Nat → List Int → Nat → List (List Int)
  | 0, _, _ => []
  | d + 1, l, i => (if (l ++ [(i : Int)]).length = many then [l ++ [(i : Int)]] else zM many d (l ++ [(i : Int)]) (i + 1)) ++ zM many d l (i + 1)
def F7 (many lim : Nat) : List (List Int) := if many = 0 then [[]] else zM many lim [] 0
def lW (h : List Int → Bool) (lim : Nat) : Option (List Int) := ((List.range (lim + 1)).flatMap fun k => F7 k lim).find? h
section
variable {h : List Int → Bool} {many lim d i k : Nat} {l o : List Int}
theorem Ao (hi : i < lim) : mz h many (lim - i) l i o = if (uE h many lim (l ++ [(i : Int)]) (i + 1) o).1 = true then uE h many lim (l ++ [(i : Int)]) (i + 1) o else mz h many (lim - (i + 1)) l (i + 1) (uE h many lim (l ++ [(i : Int)]) (i + 1) o).2 := by
 rw [show lim - i = (lim - (i + 1)) + 1 by omega]; rfl
theorem JH (hi : ¬ i < lim) : mz h many (lim - i) l i o = (false, o) := by rw [show lim - i = 0 by omega]; rfl
theorem go_eq (e : l.length = many) : uE h many lim l i o = (h l, l) := if_pos e
theorem Kt (e : ¬ l.length = many) : uE h many lim l i o = mz h many (lim - i) l i o := if_neg e
theorem zZ : ∀ (d : Nat) (l : List Int) (i : Nat) (o : List Int), (mz h many d l i o).1 = (zM many d l i).any h ∧ ((mz h many d l i o).1 = true → (zM many d l i).find? h = some (mz h many d l i o).2)
  | 0, _, _, _ => ⟨rfl, fun e => by cases e⟩
  | d + 1, l, i, o => by
    have key : ∀ o, (if (l ++ [(i : Int)]).length = many then (h (l ++ [(i : Int)]), l ++ [(i : Int)]) else mz h many d (l ++ [(i : Int)]) (i + 1) o).1 = (if (l ++ [(i : Int)]).length = many then [l ++ [(i : Int)]] else zM many d (l ++ [(i : Int)]) (i + 1)).any h ∧ ((if (l ++ [(i : Int)]).length = many then (h (l ++ [(i : Int)]), l ++ [(i : Int)]) else mz h many d (l ++ [(i : Int)]) (i + 1) o).1 = true → (if (l ++ [(i : Int)]).length = many then [l ++ [(i : Int)]] else zM many d (l ++ [(i : Int)]) (i + 1)).find? h = some (if (l ++ [(i : Int)]).length = many then (h (l ++ [(i : Int)]), l ++ [(i : Int)]) else mz h many d (l ++ [(i : Int)]) (i + 1) o).2) := by
      intro o
      by_cases e : (l ++ [(i : Int)]).length = many
      · rw [if_pos e, if_pos e]
        refine ⟨by simp, fun h1 => ?_⟩
        have h1 : h (l ++ [(i : Int)]) = true := h1
        rw [List.find?_cons, h1]
      · rw [if_neg e, if_neg e]
        exact zZ d _ _ o
    unfold mz zM
    generalize (if (l ++ [(i : Int)]).length = many then [l ++ [(i : Int)]] else zM many d (l ++ [(i : Int)]) (i + 1)) = C at key ⊢
    obtain ⟨k1, k2⟩ := key o
    generalize (if (l ++ [(i : Int)]).length = many then (h (l ++ [(i : Int)]), l ++ [(i : Int)]) else mz h many d (l ++ [(i : Int)]) (i + 1) o) = r at k1 k2 ⊢
    rw [List.any_append, List.find?_append]
    cases e : r.1 with
    | true =>
      rw [if_pos rfl]
      refine ⟨by rw [e, ← k1, e]; rfl, fun _ => by rw [k2 e]; rfl⟩
    | false =>
      rw [if_neg (by decide)]
      obtain ⟨j1, j2⟩ := zZ d l (i + 1) r.2
      have hn : C.find? h = none := by
        rw [List.find?_eq_none]
        intro x hx h1
        have : C.any h = true := List.any_eq_true.2 ⟨x, hx, h1⟩
        rw [← k1, e] at this; cases this
      refine ⟨by rw [j1, ← k1, e, Bool.false_or], fun h1 => by rw [hn, j2 h1]; rfl⟩
theorem Gw : (uE h many lim [] 0 o).1 = (F7 many lim).any h ∧ ((uE h many lim [] 0 o).1 = true → (F7 many lim).find? h = some (uE h many lim [] 0 o).2) := by
 unfold uE F7
 by_cases e : many = 0
 ·rw [if_pos (show ([] : List Int).length = many from e.symm), if_pos e]
  refine ⟨by simp, fun h1 => ?_⟩
  have h1 : h [] = true := h1
  rw [List.find?_cons, h1]
 rw [if_neg (show ¬ ([] : List Int).length = many from fun h => e h.symm), if_neg e, Nat.sub_zero]
 exact zZ _ _ _ _
theorem E5 {C : List (List Int)} (h1 : C.any h = false) : C.find? h = none := by
 rw [List.find?_eq_none]
 intro x hx h2
 have : C.any h = true := List.any_eq_true.2 ⟨x, hx, h2⟩
 rw [h1] at this; cases this
def qb (h : List Int → Bool) (lim k : Nat) : Prop := ((List.range k).flatMap fun k => F7 k lim).find? h = none
theorem FP : qb h lim 0 := rfl
theorem Ej (h0 : qb h lim k) (h1 : (uE h k lim [] 0 []).1 = false) : qb h lim (k + 1) := by
 unfold qb at h0 ⊢
 rw [List.range_succ, List.flatMap_append, List.find?_append, h0, List.flatMap_singleton, E5 (by rw [← (Gw (o := [])).1, h1])]; rfl
theorem Cy (h0 : qb h lim k) (hk : k = lim + 1) : lW h lim = none := by subst hk; exact h0
theorem range_split {k n : Nat} (hk : k < n) : ∃ r, List.range n = List.range k ++ k :: r := by
 refine ⟨(List.range (n - k - 1)).map (fun x => k + 1 + x), ?_⟩
 rw [show List.range n = List.range (k + (1 + (n - k - 1))) by congr 1; omega, List.range_add, List.range_add, List.map_append]
 rw [List.map_map]
 congr 1
 show [k + 0] ++ _ = _
 rw [List.singleton_append, Nat.add_zero]
 congr 1
 refine List.map_congr_left fun x _ => ?_
 show k + (1 + x) = _; omega
theorem DN (h0 : qb h lim k) (hk : k ≤ lim) (h1 : (uE h k lim [] 0 []).1 = true) : lW h lim = some (uE h k lim [] 0 []).2 := by
 unfold qb at h0
 unfold lW
 obtain ⟨r, hr⟩ := range_split (show k < lim + 1 by omega)
 rw [hr, List.flatMap_append, List.find?_append, h0, List.flatMap_cons, List.find?_append, Gw.2 h1]; rfl
end
end Go.Proofs.YtelbollidfdcjaaGreat
namespace Go.Proofs.YtelbollidfdcjaaGreat
open Go Go.T
set_option maxHeartbeats 16000000
structure xR (h : List Int → Bool) (many lim : Nat) (l : List Int) (i0 : Nat) (o0 : List Int) where
  i : Nat
  o : List Int
  ge : i0 ≤ i
  le : i ≤ lim
  same : mz h many (lim - i0) l i0 o0 = mz h many (lim - i) l i o
section
variable {h : List Int → Bool} {many lim i0 k : Nat} {l o0 : List Int}
theorem xR.nat (x : xR h many lim l i0 o0) (hi : (x.i : Int) < (lim : Int)) : x.i < lim := by omega
def xR.next (x : xR h many lim l i0 o0) (hi : (x.i : Int) < (lim : Int)) (hg : (uE h many lim (l ++ [(x.i : Int)]) (x.i + 1) x.o).1 = false) : xR h many lim l i0 o0 :=
  ⟨x.i + 1, (uE h many lim (l ++ [(x.i : Int)]) (x.i + 1) x.o).2, by have := x.ge; omega, by omega, by rw [x.same, Ao (x.nat hi), if_neg (by rw [hg]; decide)]⟩
theorem xR.found (x : xR h many lim l i0 o0) (hm : ¬ l.length = many) (hi : (x.i : Int) < (lim : Int)) (hg : (uE h many lim (l ++ [(x.i : Int)]) (x.i + 1) x.o).1 = true) : uE h many lim l i0 o0 = uE h many lim (l ++ [(x.i : Int)]) (x.i + 1) x.o := by
 rw [Kt hm, x.same, Ao (x.nat hi), if_pos hg]
theorem xR.stop (x : xR h many lim l i0 o0) (hm : ¬ l.length = many) (hi : ¬ (x.i : Int) < (lim : Int)) : uE h many lim l i0 o0 = (false, x.o) := by
 rw [Kt hm, x.same, JH (by omega)]
def Ft (h : List Int → Bool) (lim : Nat) : Bool := (lW h lim).isSome
def EC (h : List Int → Bool) (lim : Nat) : List Int := (lW h lim).getD []
theorem HN {k : Nat} (h0 : qb h lim k) (hk : k ≤ lim) (h1 : (uE h k lim [] 0 []).1 = true) : true = Ft h lim ∧ (uE h k lim [] 0 []).2 = EC h lim := by
 unfold Ft EC; rw [DN h0 hk h1]; exact ⟨rfl, rfl⟩
theorem K2 {k : Nat} (h0 : qb h lim k) (hk : k ≤ lim + 1) (h1 : ¬ (k : Int) < (lim : Int) + 1) : false = Ft h lim ∧ [] = EC h lim := by
 unfold Ft EC; rw [Cy h0 (by omega)]; exact ⟨rfl, rfl⟩
theorem D1 (h : ((l.length : Nat) : Int) = (many : Nat)) : l.length = many := by omega
theorem Io (h : ¬ ((l.length : Nat) : Int) = (many : Nat)) : ¬ l.length = many := by omega
end
theorem qH {ρ : List (Nat × Nat)} {th : Ty} {h1 : th.deps = []} {h2 : th.cdeps = []} {many lim a b : Nat} (e0 : (a, 1000) ∈ ρ) (e1 : (b, 1001) ∈ ρ) : mX ρ [Ty.jc 171 [Ty.pp [Ty.int .i64 (many : Nat)], Ty.ptr a 0, Ty.pp [Ty.nd th h1 h2], Ty.pp [Ty.int .i64 (lim : Nat)], Ty.ptr b 0]] [Ty.jc 171 [Ty.pp [Ty.int .i64 (many : Nat)], Ty.ptr 1000 0, Ty.pp [Ty.nd th h1 h2], Ty.pp [Ty.int .i64 (lim : Nat)], Ty.ptr 1001 0]] :=
 aJ bO (tG (aJ (aJ (aJ (aJ (aJ bO (eE e1)) (aQ rfl rfl)) (aQ rfl rfl)) (eE e0)) (aQ rfl rfl)))
abbrev vA (th : Ty) (h1 : th.deps = []) (h2 : th.cdeps = []) (many lim : Nat) (o : List Int) : List (Nat × Cont) := [(1000, Cont.cells 28 [Ty.sl cm o]), (1001, Cont.cells 122 [Ty.jc 171 [Ty.pp [Ty.int .i64 (many : Nat)], Ty.ptr 1000 0, Ty.pp [Ty.nd th h1 h2], Ty.pp [Ty.int .i64 (lim : Nat)], Ty.ptr 1001 0]])]
theorem zU {A : As} {th : Ty} {h1 : th.deps = []} {h2 : th.cdeps = []} {many lim : Nat} {o o' : List Int} (e0 : A.tag 1000 = some (Cont.cells 28 [Ty.sl cm o])) (e1 : A.tag 1001 = some (Cont.cells 122 [Ty.jc 171 [Ty.pp [Ty.int .i64 (many : Nat)], Ty.ptr 1000 0, Ty.pp [Ty.nd th h1 h2], Ty.pp [Ty.int .i64 (lim : Nat)], Ty.ptr 1001 0]])) (e : o = o') : o9 A [1000, 1001] (vA th h1 h2 many lim o') := by
 subst e; exact eN e0 (jF (by decide) (aJ bO (aQ rfl rfl))) (eN e1 (jF (by decide) (qH (by decide) (by decide))) fO)
attribute [local irreducible] iP fV m6 qX ig iw ia ij ir qN iy qQ eA ga qU gS qM nth fX dy aj dx bodyPost Exit.then Exit.inBlock Code.wp Code.wpIn qO iz qT qR iZ eR cW cZ bodyPostM eH
attribute [local irreducible] uE mz
set_option maxRecDepth 100000 in
theorem Bq (l : List Int) (h : l.length ≤ 1000) : eR Tryz.prog 172 [] [] [Ty.sl cm l] [] (Ty.row cm 3 6 l) := by
 refine eG Tryz.func172 rfl (by decide) Tryz.ntmps172 (by exact Nat.le_of_ble_eq_true rfl) fun w0 M0 => ?_
 refine aE (aA (mF rfl (aD (aC (aE (aE (aA (gm rfl (Dq Kn rfl ?_)))))))))
 refine aD (aC ?_)
 refine yJ rfl (fun hc1 => ?_) (fun hc1 => ?_)
 ·
  refine aE (aA (mF rfl (aD (aC (az (aV ?_))))))
  refine gW [6] rfl rfl (by decide) (by repeat (exact fO)) ?_
  all_goals skip
  all_goals (obtain rfl : l = [] := hc1; exact fo x6)
 refine ak (aC (aE (aA ?_)))
 refine wF (E := cm) rfl rfl rfl rfl ?_
 refine gm rfl ?_
 refine gH rfl rfl (by decide) rfl rfl rfl rfl rfl rfl (by decide) (by (simp <;> omega)) (by (simp <;> omega)) ?_
 refine Ir rfl (aD (aC (az ?_)))
 refine gW [6] rfl rfl (by decide) (by repeat (exact fO)) ?_
 all_goals skip
 all_goals exact fo (Cs (by decide))
set_option maxRecDepth 100000 in
theorem Li (th : Ty) (h1 : th.deps = []) (h2 : th.cdeps = []) (h : List Int → Bool) (hf : ∀ l, nj Tryz.prog (Ty.nd th h1 h2) [Ty.sl cm l] (Ty.bool (h l))) (many lim : Nat) (hmn : many ≤ 1000) (hlm : lim ≤ 1000) (d : Nat) (l : List Int) (i : Nat) (o : List Int) (hi : i ≤ lim) (hll : l.length ≤ many) (hd : lim - i < d) : eR Tryz.prog 171 [1000, 1001] (vA th h1 h2 many lim o) [Ty.row cm 3 1002 l, Ty.int .i64 (i : Nat), Ty.pp [Ty.int .i64 (many : Nat)], Ty.ptr 1000 0, Ty.pp [Ty.nd th h1 h2], Ty.pp [Ty.int .i64 (lim : Nat)], Ty.ptr 1001 0] (vA th h1 h2 many lim (uE h many lim l i o).2) (Ty.bool (uE h many lim l i o).1) := by
 induction d generalizing l i o
 case zero => exact absurd hd (by omega)
 rename_i d ih
 refine eG Tryz.func171 rfl (by decide) Tryz.ntmps171 (by exact Nat.le_of_ble_eq_true rfl) fun w0 M0 => ?_
 refine aE ?_
 refine jY (tg := 1002) [(0, Ty.sl cm l)] (by decide) rfl ⟨Dk rfl, trivial⟩ ?_
 refine aA (dY rfl (aD (aC (aE (aE (aA (gm rfl (cx rfl rfl rfl (aK rfl rfl rfl rfl ?_)))))))))
 refine bE rfl rfl rfl (aD (aC ?_))
 refine av rfl (fun hc1 => ?_) (fun hc1 => ?_)
 ·
  refine aE (aA (gm rfl ?_))
  refine ct rfl rfl (by decide) rfl rfl (by exact (rfl : _ = Ty.sl _ _)) rfl (by exact Nat.le_of_ble_eq_true rfl) rfl rfl (by exact (rfl : _ = [_])) ?_
  refine aD (aC (aE (aA (aK rfl rfl rfl rfl (gm rfl (eV rfl (hf l) rfl (dY rfl (aD (aC ?_)))))))))
  refine az (aV ?_)
  refine gW [1000, 1001] rfl rfl (by decide) ?_ ?_
  ·exact zU rfl rfl (congrArg Prod.snd (go_eq (D1 hc1))).symm
  all_goals skip
  all_goals exact fo (oU rfl rfl (congrArg Ty.bool (congrArg Prod.fst (go_eq (D1 hc1))).symm))
 refine ak (aC (aE (aE ?_)))
 have hlm2 := Io hc1
 refine aA (bM rfl (cB rfl (aD (aC (ah ?_)))))
 refine cU (fun (x : xR h many lim l i o) => live [(0, Ty.sl cm l), (2, Ty.pp [Ty.int .i64 (many : Nat)]), (3, Ty.ptr 1000 0), (4, Ty.pp [Ty.nd th h1 h2]), (5, Ty.pp [Ty.int .i64 (lim : Nat)]), (6, Ty.ptr 1001 0), (10, Ty.int .i64 (x.i : Nat))] [(1000, Cont.cells 28 [Ty.sl cm x.o]), (1001, Cont.cells 122 [Ty.jc 171 [Ty.pp [Ty.int .i64 (many : Nat)], Ty.ptr 1000 0, Ty.pp [Ty.nd th h1 h2], Ty.pp [Ty.int .i64 (lim : Nat)], Ty.ptr 1001 0]])]) (fun x => lim - x.i) (⟨i, o, Nat.le_refl _, hi, rfl⟩) ?_ fun x => ?_
 ·(refine dD.mk' ?_ ?_ <;> (repeat' (first | exact aH | exact aI | refine aB ?_ (Ty.aW _) | refine aB ?_ (Ty.aF _) | refine aG rfl (Cont.aF _) ?_)))
 have hxl := x.le
 refine aE (aE (aA (bM rfl (aK rfl rfl rfl rfl (bE rfl rfl rfl (aD (aC ?_)))))))
 refine av rfl (fun hc2 => ?_) (fun hc2 => ?_)
 ·
  refine ak (aC (aE (ah (aE (cM mixed rfl ?_)))))
  refine aU rfl rfl (by decide) rfl rfl rfl ?_
  refine gm rfl ?_
  refine cI (res' := Ty.row cm 3 27 l) [(27, 6)] [27] [] (Bq l (by omega)) rfl rfl (by repeat (first | exact bO | refine aJ ?_ ?_ | exact aQ rfl rfl)) pre_nil post_nil (Cs (by exact List.mem_cons_self)) ?_
  refine bM rfl ?_
  refine bt (E := cm) (xs := [(x.i : Int)]) rfl rfl rfl rfl rfl (by decide) (by decide) (by repeat (first | exact (aX.nil : aX _ _ [] _) | (show aX _ _ ((_, _) :: _) _; apply aX.one; (· exact (rfl : _ = Ty.int _ _)); (· exact rfl)))) (by exact rfl) rfl ?_
  refine gH rfl rfl (by decide) rfl rfl rfl rfl rfl rfl (by decide) (by (simp <;> omega)) (by (simp <;> omega)) ?_
  refine bM rfl ?_
  refine bz rfl rfl (by omega) (by omega) ?_
  refine BC [(1000, 1000), (1001, 1001), (27, 1002)] [27] (vA th h1 h2 many lim (uE h many lim (l ++ [(x.i : Int)]) (x.i + 1) x.o).2) rfl (ih (l ++ [(x.i : Int)]) (x.i + 1) x.o (by omega) (by rw [List.length_append]; show l.length + 1 ≤ many; omega) (by have := x.ge; omega)) rfl rfl (aJ (aJ (aJ (aJ (aJ (aJ (aJ bO (eE (by decide))) (aQ rfl rfl)) (aQ rfl rfl)) (eE (by decide))) (aQ rfl rfl)) (aQ rfl rfl)) (Cs (by decide))) (cF (a := 1000) (b := 1000) (by decide) rfl (jF (by decide) (aJ bO (aQ rfl rfl))) (cF (a := 1001) (b := 1001) (by decide) rfl (jF (by decide) (qH (by decide) (by decide))) pre_nil)) (bN (a := 1000) (b := 1000) (by decide) rfl (jF (by decide) (aJ bO (aQ rfl rfl))) (bN (a := 1001) (b := 1001) (by decide) rfl (jF (by decide) (qH (by decide) (by decide))) post_nil)) (aQ rfl rfl) ?_
  refine aD ?_
  refine ⟨by kernel_rfl, ?_⟩
  refine aC ?_
  refine cY rfl (fun hc3 => ?_) (fun hc3 => ?_)
  ·
   refine aE (aA (dY rfl (aD (aC (az (bD (aV (aV (bD ?_)))))))))
   refine aV ?_
   refine gW [1000, 1001] rfl rfl (by decide) ?_ ?_
   ·exact zU rfl rfl (congrArg Prod.snd (x.found hlm2 hc2 hc3)).symm
   all_goals skip
   all_goals exact fo (oU rfl rfl (congrArg Ty.bool (hc3.symm.trans (congrArg Prod.fst (x.found hlm2 hc2 hc3)).symm)))
  refine ak (bW (aC (aA (bM rfl ?_))))
  refine bz rfl rfl (by omega) (by omega) ?_
  refine cB rfl (aD ?_)
  refine bf (x.next hc2 hc3) ?_ (by show lim - (x.i + 1) < lim - x.i; omega)
  (refine dD.mk' ?_ ?_ <;> (repeat' (first | exact aH | exact aI | refine aB ?_ (Ty.aW _) | refine aB ?_ (Ty.aF _) | refine aG rfl (Cont.aF _) ?_)))
  all_goals skip
 refine cT (aR (aR (aq rfl (aC (aE (aA (dY rfl (aD (aC ?_)))))))))
 refine az ?_
 refine gW [1000, 1001] rfl rfl (by decide) ?_ ?_
 ·exact zU rfl rfl (congrArg Prod.snd (x.stop hlm2 hc2)).symm
 all_goals skip
 all_goals exact fo (oU rfl rfl (congrArg Ty.bool (congrArg Prod.fst (x.stop hlm2 hc2)).symm))
set_option maxRecDepth 100000 in
theorem vl (th : Ty) (h1 : th.deps = []) (h2 : th.cdeps = []) (ho : th.one = true) (h : List Int → Bool) (hf : ∀ l, nj Tryz.prog (Ty.nd th h1 h2) [Ty.sl cm l] (Ty.bool (h l))) (lim : Nat) (hlm : lim ≤ 999) : dx Tryz.prog 113 [Ty.int .i64 (lim : Nat), Ty.nd th h1 h2] (Ty.jv [Ty.sl cm (EC h lim), Ty.bool (Ft h lim)]) := by
 refine au Tryz.func113 rfl (by decide) Tryz.ntmps113 (by exact Nat.le_of_ble_eq_true rfl) fun w0 M0 => ?_
 refine aE (aA ?_)
 refine gB (by exact (rfl : _ = Ty.int _ _)) rfl ?_
 refine gB (ty := Ty.nd th h1 h2) rfl ho ?_
 refine mF rfl (dY rfl (aD (aC (aE (aE (aA (aK rfl rfl rfl rfl ?_)))))))
 refine bz rfl rfl (by omega) (by omega) ?_
 refine bM rfl (aD (aC (ah ?_)))
 refine cU (fun (k : {k : Nat // k ≤ lim + 1 ∧ qb h lim k}) => live [(2, Ty.pp [Ty.int .i64 (lim : Nat)]), (3, Ty.pp [Ty.nd th h1 h2]), (10, Ty.int .i64 ((lim : Int) + 1)), (11, Ty.int .i64 (k.1 : Nat))] []) (fun k => lim + 1 - k.1) (⟨0, by omega, FP⟩) ?_ fun k => ?_
 ·(refine dD.mk' ?_ ?_ <;> (repeat' (first | exact aH | exact aI | refine aB ?_ (Ty.aW _) | refine aB ?_ (Ty.aF _))))
 have hk := k.2.1
 refine aE (aA (bE rfl rfl rfl (aD (aC (aE ?_)))))
 refine av rfl (fun hc1 => ?_) (fun hc1 => ?_)
 ·
  refine ak (aC (aE (ah (aE (aA (bM rfl ?_))))))
  refine b8 rfl (by exact List.cons_ne_nil _ _) rfl ?_
  refine ct rfl rfl (by decide) rfl rfl (by exact (rfl : _ = Ty.int _ _)) rfl (by exact Nat.le_of_ble_eq_true rfl) rfl rfl (by exact (rfl : _ = [_])) ?_
  refine aD (aC (aE ?_))
  refine jY (tg := 7) [(6, Ty.pp [Ty.int .i64 (k.1 : Nat)])] (by decide) rfl ⟨kD (T := 3) (off := 0) (l := [Ty.int .i64 (k.1 : Nat)]) rfl rfl rfl (by decide), trivial⟩ ?_
  refine aA ?_
  refine b8 rfl (by exact List.cons_ne_nil _ _) rfl ?_
  refine aD (aC (aE (aA ?_)))
  refine b8 rfl (by exact List.cons_ne_nil _ _) rfl ?_
  refine aD (aC (aE (aA (dH rfl ?_))))
  refine ct rfl rfl (by decide) rfl rfl (by exact (rfl : _ = Ty.jc _ _)) rfl (by exact Nat.le_of_ble_eq_true rfl) rfl rfl (by exact (rfl : _ = [_])) ?_
  refine aD (aC (aE ?_))
  refine fK (tg := 8) rfl (Cont.eB (l' := [Ty.sl cm ([] : List Int)]) ⟨Ty.vo, trivial⟩) ?_
  refine aA ?_
  refine aU rfl rfl (by decide) rfl rfl rfl ?_
  refine BC [(8, 1000), (9, 1001)] [] [(8, Cont.cells 28 [Ty.sl cm (uE h k.1 lim [] 0 []).2]), (9, Cont.cells 122 [Ty.jc 171 [Ty.pp [Ty.int .i64 (k.1 : Nat)], Ty.ptr 8 0, Ty.pp [Ty.nd th h1 h2], Ty.pp [Ty.int .i64 (lim : Nat)], Ty.ptr 9 0]])] rfl (Li th h1 h2 h hf k.1 lim (by omega) (by omega) (lim + 1) [] 0 [] (by omega) (Nat.zero_le _) (by omega)) rfl rfl (aJ (aJ (aJ (aJ (aJ (aJ (aJ bO (eE (by decide))) (aQ rfl rfl)) (aQ rfl rfl)) (eE (by decide))) (aQ rfl rfl)) (aQ rfl rfl)) x6) (cF (a := 8) (b := 1000) (by decide) rfl (jF (by decide) (aJ bO (aQ rfl rfl))) (cF (a := 9) (b := 1001) (by decide) rfl (jF (by decide) (qH (by decide) (by decide))) pre_nil)) (bN (a := 8) (b := 1000) (by decide) rfl (jF (by decide) (aJ bO (aQ rfl rfl))) (bN (a := 9) (b := 1001) (by decide) rfl (jF (by decide) (aJ bO (tG (aJ (aJ (aJ (aJ (aJ bO (eE (by decide))) (aQ rfl rfl)) (aQ rfl rfl)) (eE (by decide))) (aQ rfl rfl))))) post_nil)) (aQ rfl rfl) ?_
  refine aD (aC ?_)
  refine cY rfl (fun hc2 => ?_) (fun hc2 => ?_)
  ·
   refine aE (aA ?_)
   refine aU rfl rfl (by decide) rfl rfl rfl ?_
   refine Bs rfl (dY rfl (aD (aC (az (bD (aV (aV (bD (aV ?_)))))))))
   refine fD rfl rfl rfl ?_ ?_
   all_goals skip
   all_goals first | exact ay rfl rfl (congrArg Ty.bool (HN k.2.2 (by omega) hc2).1) | exact ay rfl rfl (congrArg (Ty.sl cm) (HN k.2.2 (by omega) hc2).2)
  refine ak (bW (aC (aA ?_)))
  refine bz rfl rfl (by omega) (by omega) ?_
  refine bM rfl (aD ?_)
  refine bf (⟨k.1 + 1, by omega, Ej k.2.2 hc2⟩) ?_ (by show lim + 1 - (k.1 + 1) < lim + 1 - k.1; omega)
  (refine dD.mk' ?_ ?_ <;> (repeat' (first | exact aH | exact aI | refine aB ?_ (Ty.aW _) | refine aB ?_ (Ty.aF _))))
  all_goals skip
 refine cT (aR (aR (aq rfl (aC (aE (aA (mF rfl (dY rfl (aD ?_)))))))))
 refine aC (az ?_)
 refine fD rfl rfl rfl ?_ ?_
 all_goals skip
 all_goals first | exact ay rfl rfl (congrArg Ty.bool (K2 k.2.2 k.2.1 hc1).1) | exact fJ (K2 k.2.2 k.2.1 hc1).2.symm
end Go.Proofs.YtelbollidfdcjaaGreat
namespace Go.Proofs.YtelbollidfdcjaaGreat
open Go Go.T
set_option maxHeartbeats 16000000
theorem DF {P : Program} {t : Ty} {h1 : t.deps = []} {h2 : t.cdeps = []} {args : List Ty} {res : Ty} (h : nj P t args res) : nj P (Ty.nd t h1 h2) args res := h
noncomputable def kX (y : bB) : Int := if bZ y = 0 then (if Ft (fun l => !ep y (cg l false)) y.levels.length = true then 0 else 6) else bZ y
noncomputable def mh (y : bB) : List Int := if kX y = 0 then EC (fun l => !ep y (cg l false)) y.levels.length else []
theorem Dd {y : bB} (h : ¬ bZ y = 0) : bZ y = kX y ∧ [] = mh y := by
 have e : bZ y = kX y := (if_neg h).symm
 exact ⟨e, by unfold mh; rw [← e, if_neg h]⟩
theorem EI {y : bB} (h : bZ y = 0) (h2 : (!Ft (fun l => !ep y (cg l false)) y.levels.length) = true) : 6 = kX y ∧ [] = mh y := by
 have e : 6 = kX y := by unfold kX; rw [if_pos h, if_neg (by rw [qd h2]; decide)]
 exact ⟨e, by unfold mh; rw [← e, if_neg (by decide)]⟩
theorem zo {y : bB} (h : bZ y = 0) (h2 : (!Ft (fun l => !ep y (cg l false)) y.levels.length) = false) : 0 = kX y ∧ EC (fun l => !ep y (cg l false)) y.levels.length = mh y := by
 have e : 0 = kX y := by unfold kX; rw [if_pos h, if_pos (fY h2)]
 exact ⟨e, by unfold mh; rw [← e, if_pos rfl]⟩
noncomputable def kV (y : bB) : Int := if bZ y = 0 then (if Ft (fun l => ep y (cg l true)) y.levels.length = true then 0 else 7) else bZ y
noncomputable def mw (y : bB) : List Int := if kV y = 0 then EC (fun l => ep y (cg l true)) y.levels.length else []
theorem DW {y : bB} (h : ¬ bZ y = 0) : bZ y = kV y ∧ [] = mw y := by
 have e : bZ y = kV y := (if_neg h).symm
 exact ⟨e, by unfold mw; rw [← e, if_neg h]⟩
theorem EP {y : bB} (h : bZ y = 0) (h2 : (!Ft (fun l => ep y (cg l true)) y.levels.length) = true) : 7 = kV y ∧ [] = mw y := by
 have e : 7 = kV y := by unfold kV; rw [if_pos h, if_neg (by rw [qd h2]; decide)]
 exact ⟨e, by unfold mw; rw [← e, if_neg (by decide)]⟩
theorem zO {y : bB} (h : bZ y = 0) (h2 : (!Ft (fun l => ep y (cg l true)) y.levels.length) = false) : 0 = kV y ∧ EC (fun l => ep y (cg l true)) y.levels.length = mw y := by
 have e : 0 = kV y := by unfold kV; rw [if_pos h, if_pos (fY h2)]
 exact ⟨e, by unfold mw; rw [← e, if_pos rfl]⟩
attribute [local irreducible] aP fT Way.gj Way.fin Way.room eX eI fE gR over bQ cQ dn eW jh fG gx kO cO fR fy fu dB cL gN pS iq jC jQ gb By yR gQ bB.kept bB.cells bZ dO bP fL kF cy oz qP ju dh kZ nU hasB tE sK rC tv pQ kH nY kW xP gP jr HL Eb sR ep cg iM uE mz Ft EC lW
attribute [local irreducible] iP fV m6 qX ig iw ia ij ir qN iy qQ eA ga qU gS qM nth fX dy aj dx bodyPost Exit.then Exit.inBlock Code.wp Code.wpIn qO iz qT qR iZ eR cW cZ bodyPostM eH
set_option maxRecDepth 100000 in
theorem G9 (y : bB) (hr : y.cN) (l : List Int) : dx Tryz.prog 114 [Ty.sl cm l, Ty.pp (bk y)] (Ty.bool ((fun l => !ep y (cg l false)) l)) := by
 refine au Tryz.func114 rfl (by decide) Tryz.ntmps114 (by exact Nat.le_of_ble_eq_true rfl) fun w0 M0 => ?_
 refine aE (aA (dY rfl (aD (aC (aE (aA ?_))))))
 refine aY rfl rfl rfl (by exact Nat.le_of_ble_eq_true rfl) ?_
 refine gm rfl (aa (Bg y hr l false) rfl rfl rfl rfl rfl (dM rfl (dY rfl (aD (aC (az (bq rfl rfl ?_)))))))
 all_goals exact cC rfl rfl
 all_goals trace_state
set_option maxRecDepth 100000 in
theorem Iw (y : bB) (hs : y.Small) : dx Tryz.prog 44 [fH y] (Ty.jv [Ty.sl cm (mh y), Ty.int .i64 (kX y)]) := by
 refine au Tryz.func44 rfl (by decide) Tryz.ntmps44 (by exact Nat.le_of_ble_eq_true rfl) fun w0 M0 => ?_
 refine aE (aA (bJ rfl (mF rfl (cB rfl (aD (aC (aE (aE (aA ?_)))))))))
 refine aY rfl rfl rfl (by exact Nat.le_of_ble_eq_true rfl) ?_
 refine aa (jf y hs) rfl rfl rfl rfl rfl (cB rfl (aD (aC (aE (aA (bM rfl (bE rfl rfl rfl (aD (aC ?_)))))))))
 refine cv rfl (fun hc1 => ?_) (fun hc1 => ?_)
 ·
  refine aE (aA (bM rfl (mF rfl (cB rfl (aD (aC (az (aV ?_))))))))
  refine fD rfl rfl rfl ?_ ?_
  all_goals skip
  all_goals first | exact fJ (Dd hc1).2.symm | exact ay rfl rfl (congrArg (Ty.int .i64) (Dd hc1).1)
 refine ak (aC (aE ?_))
 have hck : bZ y = 0 := hc1
 have hr := c9 hck
 have h8 := hr.levels
 refine aA ?_
 refine aM rfl rfl rfl rfl rfl (by decide) ?_
 refine aK rfl rfl rfl rfl (cx rfl rfl rfl (dH rfl ?_))
 refine aa (vl (Ty.jc 114 [Ty.pp (bk y)]) rfl rfl rfl (fun l => !ep y (cg l false)) (fun l => DF (dN (G9 y hr l) rfl rfl rfl rfl rfl rfl)) y.levels.length (by omega)) rfl rfl rfl rfl rfl ?_
 refine rH rfl (bS rfl rfl (bS rfl rfl (Bs rfl (dY rfl (aD (aC (aE (aE (aA ?_)))))))))
 refine gU rfl (dM rfl (aD (aC ?_)))
 refine cY rfl (fun hc2 => ?_) (fun hc2 => ?_)
 ·
  refine aE (aA (mF rfl (cB rfl (aD (aC (az (aV ?_)))))))
  refine fD rfl rfl rfl ?_ ?_
  all_goals skip
  all_goals first | exact fJ (EI hck hc2).2.symm | exact ay rfl rfl (congrArg (Ty.int .i64) (EI hck hc2).1)
 refine ak (aC (aE (aA (gm rfl (Bs rfl (cB rfl (aD (aC (az ?_)))))))))
 refine fD rfl rfl rfl ?_ ?_
 all_goals skip
 all_goals first | exact ay rfl rfl (congrArg (Ty.sl cm) (zo hck hc2).2) | exact ay rfl rfl (congrArg (Ty.int .i64) (zo hck hc2).1)
set_option maxRecDepth 100000 in
theorem G5 (y : bB) (hr : y.cN) (l : List Int) : dx Tryz.prog 115 [Ty.sl cm l, Ty.pp (bk y)] (Ty.bool ((fun l => ep y (cg l true)) l)) := by
 refine au Tryz.func115 rfl (by decide) Tryz.ntmps115 (by exact Nat.le_of_ble_eq_true rfl) fun w0 M0 => ?_
 refine aE (aA (dY rfl (aD (aC (aE (aA ?_))))))
 refine aY rfl rfl rfl (by exact Nat.le_of_ble_eq_true rfl) ?_
 refine gm rfl (aa (Bg y hr l true) rfl rfl rfl rfl rfl (dY rfl (aD (aC (az (bq rfl rfl ?_))))))
 all_goals exact cC rfl rfl
 all_goals trace_state
set_option maxRecDepth 100000 in
theorem Jq (y : bB) (hs : y.Small) : dx Tryz.prog 45 [fH y] (Ty.jv [Ty.sl cm (mw y), Ty.int .i64 (kV y)]) := by
 refine au Tryz.func45 rfl (by decide) Tryz.ntmps45 (by exact Nat.le_of_ble_eq_true rfl) fun w0 M0 => ?_
 refine aE (aA (bJ rfl (mF rfl (cB rfl (aD (aC (aE (aE (aA ?_)))))))))
 refine aY rfl rfl rfl (by exact Nat.le_of_ble_eq_true rfl) ?_
 refine aa (jf y hs) rfl rfl rfl rfl rfl (cB rfl (aD (aC (aE (aA (bM rfl (bE rfl rfl rfl (aD (aC ?_)))))))))
 refine cv rfl (fun hc1 => ?_) (fun hc1 => ?_)
 ·
  refine aE (aA (bM rfl (mF rfl (cB rfl (aD (aC (az (aV ?_))))))))
  refine fD rfl rfl rfl ?_ ?_
  all_goals skip
  all_goals first | exact fJ (DW hc1).2.symm | exact ay rfl rfl (congrArg (Ty.int .i64) (DW hc1).1)
 refine ak (aC (aE ?_))
 have hck : bZ y = 0 := hc1
 have hr := c9 hck
 have h8 := hr.levels
 refine aA ?_
 refine aM rfl rfl rfl rfl rfl (by decide) ?_
 refine aK rfl rfl rfl rfl (cx rfl rfl rfl (dH rfl ?_))
 refine aa (vl (Ty.jc 115 [Ty.pp (bk y)]) rfl rfl rfl (fun l => ep y (cg l true)) (fun l => DF (dN (G5 y hr l) rfl rfl rfl rfl rfl rfl)) y.levels.length (by omega)) rfl rfl rfl rfl rfl ?_
 refine rH rfl (bS rfl rfl (bS rfl rfl (Bs rfl (dY rfl (aD (aC (aE (aE (aA ?_)))))))))
 refine gU rfl (dM rfl (aD (aC ?_)))
 refine cY rfl (fun hc2 => ?_) (fun hc2 => ?_)
 ·
  refine aE (aA (mF rfl (cB rfl (aD (aC (az (aV ?_)))))))
  refine fD rfl rfl rfl ?_ ?_
  all_goals skip
  all_goals first | exact fJ (EP hck hc2).2.symm | exact ay rfl rfl (congrArg (Ty.int .i64) (EP hck hc2).1)
 refine ak (aC (aE (aA (gm rfl (Bs rfl (cB rfl (aD (aC (az ?_)))))))))
 refine fD rfl rfl rfl ?_ ?_
 all_goals skip
 all_goals first | exact ay rfl rfl (congrArg (Ty.sl cm) (zO hck hc2).2) | exact ay rfl rfl (congrArg (Ty.int .i64) (zO hck hc2).1)
end Go.Proofs.YtelbollidfdcjaaGreat
namespace Go.Proofs.YtelbollidfdcjaaGreat
open Go Go.T
def two (k : Nat) : bB := ⟨2, [⟨100, ⟨20, 30⟩⟩, ⟨50, ⟨0, 0⟩⟩], [⟨0, -1, 0, ⟨40, 60⟩⟩, ⟨1, 0, 1, ⟨10, 40⟩⟩, ⟨1, 1, -1, ⟨5, 10⟩⟩], ([⟨2, 1, ⟨20, 25⟩⟩, ⟨2, 0, ⟨10, 24⟩⟩] : List Level).take k⟩
def xW (p q u v w : Int) : dU := ⟨[p, q], [u, v, w]⟩
section
variable {k : Nat} {c : Nat → Bool} {a : dU} {p q u v w : Int}
theorem n5 (h : k ≤ 2) : bZ (two k) = 0 := by
 have : k = 0 ∨ k = 1 ∨ k = 2 := by omega
 rcases this with rfl | rfl | rfl <;> decide
theorem yz (h : k ≤ 2) : (two k).cN := c9 (n5 h)
theorem DE (h : wh (two k) a) : ∃ p q u v w, a = xW p q u v w := by
  obtain ⟨f, m⟩ := a
  have h1 : f.length = 2 := h.first
  have h2 : m.length = 3 := h.bT
  match f, m, h1, h2 with
  | [p, q], [u, v, w], _, _ => exact ⟨p, q, u, v, w, rfl⟩
theorem mm : cR (two k) (xW p q u v w) 0 0 = p := by simp [cR, c7, n6, ind, nth, two, xW]
theorem mg : cR (two k) (xW p q u v w) 0 1 = p + u := by simp [cR, c7, n6, ind, nth, two, xW]
theorem ke : cR (two k) (xW p q u v w) 0 2 = p + u - v := by simp [cR, c7, n6, ind, nth, two, xW]; omega
theorem AK : cR (two k) (xW p q u v w) 1 0 = q := by simp [cR, c7, n6, ind, nth, two, xW]
theorem zj : cR (two k) (xW p q u v w) 1 1 = q := by simp [cR, c7, n6, ind, nth, two, xW]
theorem tu : cR (two k) (xW p q u v w) 1 2 = q + v - w := by simp [cR, c7, n6, ind, nth, two, xW]; omega
structure Jn (k : Nat) (c : Nat → Bool) (p q u v w : Int) : Prop where
  hp : 20 ≤ p ∧ p ≤ 30
  hq : q = 0
  hu : 40 ≤ u ∧ u ≤ 60
  hv : 10 ≤ v ∧ v ≤ 40
  hw : 5 ≤ w ∧ w ≤ 10
  l0 : 0 < k → c 0 = true → 20 ≤ v - w ∧ v - w ≤ 25
  l1 : 1 < k → c 1 = true → 10 ≤ p + u - v ∧ p + u - v ≤ 24
theorem kI (hk : k ≤ 2) : e9 (two k) c (xW p q u v w) ↔ Jn k c p q u v w := by
 constructor
 ·intro h
  have f0 := h.first 0 (Nat.zero_lt_succ _)
  have f1 := h.first 1 (show 1 < 2 by decide)
  have m0 := h.bT 0 (Nat.zero_lt_succ _)
  have m1 := h.bT 1 (show 1 < 3 by decide)
  have m2 := h.bT 2 (show 2 < 3 by decide)
  have hq : (0 : Int) ≤ q ∧ q ≤ 0 := f1
  refine ⟨f0, by omega, m0, m1, m2, fun h0 hc => ?_, fun h1 hc => ?_⟩
  ·have e : nth (two k).levels 0 = ⟨2, 1, ⟨20, 25⟩⟩ := by
    obtain ⟨j, rfl⟩ : ∃ j, k = j + 1 := ⟨k - 1, by omega⟩
    rfl
   have hl : 0 < (two k).levels.length := by
    obtain ⟨j, rfl⟩ : ∃ j, k = j + 1 := ⟨k - 1, by omega⟩
    show 0 < (List.take (j + 1) _).length
    rw [List.take_succ_cons, List.length_cons]; omega
   have := h.level 0 hl hc
   rw [e] at this
   have := this
   change 20 ≤ cR _ _ 1 2 ∧ cR _ _ 1 2 ≤ 25 at this
   rw [tu] at this
   omega
  obtain rfl : k = 2 := by omega
  have := h.level 1 (by decide) hc
  change 10 ≤ cR _ _ 0 2 ∧ cR _ _ 0 2 ≤ 24 at this
  rw [ke] at this
  exact this
 intro ⟨hp, hq, hu, hv, hw, h0, h1⟩
 have hlen : (two k).levels.length = k := by
  show (List.take k _).length = k
  rw [List.length_take]; show min k 2 = k; omega
 refine ⟨⟨rfl, rfl⟩, fun b hb => ?_, fun b t hb ht => ?_, fun i hi => ?_, fun i hi hc => ?_⟩
 ·have hb : b < 2 := hb
  have : b = 0 ∨ b = 1 := by omega
  rcases this with rfl | rfl
  ·exact hp
  show 0 ≤ q ∧ q ≤ 0; omega
 ·have hb : b < 2 := hb
  have ht : t ≤ 2 := ht
  have e1 : b = 0 ∨ b = 1 := by omega
  have e2 : t = 0 ∨ t = 1 ∨ t = 2 := by omega
  rcases e1 with rfl | rfl <;> rcases e2 with rfl | rfl | rfl
  ·rw [mm]; show 0 ≤ p ∧ p ≤ 100; omega
  ·rw [mg]; show 0 ≤ p + u ∧ p + u ≤ 100; omega
  ·rw [ke]; show 0 ≤ p + u - v ∧ p + u - v ≤ 100; omega
  ·rw [AK]; show 0 ≤ q ∧ q ≤ 50; omega
  ·rw [zj]; show 0 ≤ q ∧ q ≤ 50; omega
  rw [tu]; show 0 ≤ q + v - w ∧ q + v - w ≤ 50; omega
 ·have hi : i < 3 := hi
  have : i = 0 ∨ i = 1 ∨ i = 2 := by omega
  rcases this with rfl | rfl | rfl
  ·exact hu
  ·exact hv
  exact hw
 rw [hlen] at hi
 have : i = 0 ∨ i = 1 := by omega
 rcases this with rfl | rfl
 ·have h := h0 hi hc
  have e : nth (two k).levels 0 = ⟨2, 1, ⟨20, 25⟩⟩ := by
   obtain ⟨j, rfl⟩ : ∃ j, k = j + 1 := ⟨k - 1, by omega⟩
   rfl
  rw [e]
  change 20 ≤ cR _ _ 1 2 ∧ cR _ _ 1 2 ≤ 25
  rw [tu]; omega
 obtain rfl : k = 2 := by omega
 have h := h1 (by omega) hc
 change 10 ≤ cR _ _ 0 2 ∧ cR _ _ 0 2 ≤ 24
 rw [ke]; exact h
theorem kC (hk : k ≤ 2) {f : dU → Int} {s : Span} (p0 q0 u0 v0 w0 p1 q1 u1 v1 w1 : Int) (h0 : Jn k c p0 q0 u0 v0 w0) (e0 : f (xW p0 q0 u0 v0 w0) = s.lo) (h1 : Jn k c p1 q1 u1 v1 w1) (e1 : f (xW p1 q1 u1 v1 w1) = s.hi)
 (h : ∀ p q u v w, Jn k c p q u v w → s.lo ≤ f (xW p q u v w) ∧ f (xW p q u v w) ≤ s.hi) : Bt (two k) c f s :=
 ⟨⟨_, (kI hk).2 h0, e0⟩, ⟨_, (kI hk).2 h1, e1⟩, fun a ha => by
  obtain ⟨p, q, u, v, w, rfl⟩ := DE ha.lens
  exact h p q u v w ((kI hk).1 ha)⟩
end
end Go.Proofs.YtelbollidfdcjaaGreat
namespace Go.Proofs.YtelbollidfdcjaaGreat
open Go Go.T
section
variable {y : bB} {c : Nat → Bool} {a : dU} {b t k : Nat} {s : Span}
theorem CD (h0 : bZ y = 0) (h : ∃ a, e9 y (nth bP) a) : cy y = 0 := (open_3 h0 ((lS (c9 h0)).2 h)).symm
theorem IA (h0 : bZ y = 0) (h : ¬ ∃ a, e9 y (nth bP) a) : cy y = 7 := by
  cases e : (cO (aP y (nth bP)) (y.cells + 1) (fT (aP y (nth bP)))).2.1 with
  | true => exact (vu h0 e).symm
  | false => exact absurd ((lS (c9 h0)).1 e) h
theorem qE (h : cy y = 0) : ∃ a, e9 y (nth bP) a := (lS (c9 (eC h))).1 (zJ h)
theorem yp (hr : y.cN) {l : List Bool} : ep y l = true ↔ ∃ a, e9 y (nth l) a := by
 unfold ep
 rw [Bool.not_eq_true', lS hr]
theorem nZ (ho : cy y = 0) (hb : b < y.bins.length) (ht : t ≤ y.D) : Bt y (nth bP) (fun a => cR y a b t) (gb (aP y (nth bP)) (y.cells + 1) (hasB y b t)) :=
 vk (c9 (eC ho)) (fun x hx => KL (c9 (eC ho)) hb ht hx) (qE ho)
theorem ze (ho : cy y = 0) (ht : t ≤ y.D) : Bt y (nth bP) (fun a => c7 (fun b => cR y a b t) y.bins.length) (gb (aP y (nth bP)) (y.cells + 1) (pQ y t)) :=
 vk (c9 (eC ho)) (fun x hx => Ey (c9 (eC ho)) ht hx) (qE ho)
theorem Iz (ho : cy y = 0) (hk : k < y.moves.length) : Bt y (nth bP) (fun a => nth a.bT k) (gb (aP y (nth bP)) (y.cells + 1) (tE (y.bins.length * (y.D + 1) + k))) :=
 vk (c9 (eC ho)) (fun x hx => ID hk) (qE ho)
theorem vN (h0 : bZ y = 0) (hb : b < y.bins.length) : dO y (b : Int) = 0 := by
 unfold dO
 rw [if_pos h0, if_pos (by unfold bB.bin; rw [dJ]; omega)]
theorem AN (ho : cy y = 0) (hb : b < y.bins.length) : ju y (b : Int) = 0 := (zi (vN (eC ho) hb) ho).1.symm
theorem vI (ho : cy y = 0) (hb : b < y.bins.length) : dh y (b : Int) = (List.range (y.D + 1)).map fun t => gb (aP y (nth bP)) (y.cells + 1) (hasB y b t) := (zi (vN (eC ho) hb) ho).2.symm
theorem KF (ho : cy y = 0) : tv y = (List.range (y.D + 1)).map fun t => gb (aP y (nth bP)) (y.cells + 1) (pQ y t) := (Am ho).symm
theorem CL (ho : cy y = 0) (hb : b < y.bins.length) : (dh y (b : Int)).length = y.D + 1 := by rw [vI ho hb, List.length_map, List.length_range]
theorem pV (ho : cy y = 0) (hb : b < y.bins.length) (ht : t ≤ y.D) : Bt y (nth bP) (fun a => cR y a b t) (nth (dh y (b : Int)) t) := by
 rw [vI ho hb, fI _ (by omega)]; exact nZ ho hb ht
theorem Jd (ho : cy y = 0) (hk : k < y.moves.length) : kZ y (k : Int) = 0 := (Ea (eC ho) (by rw [Bool.not_eq_false', Bool.and_eq_true, decide_eq_true_eq, decide_eq_true_eq]; omega) ho).1.symm
theorem HK (ho : cy y = 0) (hk : k < y.moves.length) : Bt y (nth bP) (fun a => nth a.bT k) (nU y (k : Int)) := by
 rw [← (Ea (eC ho) (by rw [Bool.not_eq_false', Bool.and_eq_true, decide_eq_true_eq, decide_eq_true_eq]; omega) ho).2]
 exact Iz ho hk
end
theorem Hl {α : Type} {a b c x y z : α} (h1 : a = x) (h2 : b = y) (h3 : c = z) : [a, b, c] = [x, y, z] := by subst h1; subst h2; subst h3; rfl
theorem kJ {k : Nat} (hk : k ≤ 1) : cy (two k) = 0 :=
 CD (n5 (by omega)) ⟨xW 20 0 40 25 5, (kI (by omega)).2 ⟨by omega, rfl, by omega, by omega, by omega, fun _ _ => by omega, fun _ _ => by omega⟩⟩
theorem NM : ju (two 0) 0 = 0 := AN (b := 0) (kJ (by omega)) (by decide)
theorem I9 : dh (two 0) 0 = [⟨20, 30⟩, ⟨60, 90⟩, ⟨20, 80⟩] := by
 have ho := kJ (k := 0) (by omega)
 have e := vI (b := 0) ho (by decide)
 have h0 := (nZ (b := 0) (t := 0) ho (by decide) (by decide)).one (kC (s := ⟨20, 30⟩) (by omega) 20 0 40 10 5 30 0 40 10 5 (by constructor <;> intros <;> omega) mm (by constructor <;> intros <;> omega) mm fun p q u v w h => by rw [mm]; exact h.hp)
 have h1 := (nZ (b := 0) (t := 1) ho (by decide) (by decide)).one (kC (s := ⟨60, 90⟩) (by omega) 20 0 40 10 5 30 0 60 10 5 (by constructor <;> intros <;> omega) mg (by constructor <;> intros <;> omega) mg fun p q u v w h => by rw [mg]; have := h.hp; have := h.hu; show 60 ≤ p + u ∧ p + u ≤ 90; omega)
 have h2 := (nZ (b := 0) (t := 2) ho (by decide) (by decide)).one (kC (s := ⟨20, 80⟩) (by omega) 20 0 40 40 5 30 0 60 10 5 (by constructor <;> intros <;> omega) ke (by constructor <;> intros <;> omega) ke fun p q u v w h => by rw [ke]; have := h.hp; have := h.hu; have := h.hv; show 20 ≤ p + u - v ∧ p + u - v ≤ 80; omega)
 show dh (two 0) ((0 : Nat) : Int) = _
 rw [e]
 exact Hl h0 h1 h2
theorem D0 : dh (two 1) 0 = [⟨20, 30⟩, ⟨60, 90⟩, ⟨25, 65⟩] := by
 have ho := kJ (k := 1) (by omega)
 have e := vI (b := 0) ho (by decide)
 have h0 := (nZ (b := 0) (t := 0) ho (by decide) (by decide)).one (kC (s := ⟨20, 30⟩) (by omega) 20 0 40 25 5 30 0 40 25 5 (by constructor <;> intros <;> omega) mm (by constructor <;> intros <;> omega) mm fun p q u v w h => by rw [mm]; exact h.hp)
 have h1 := (nZ (b := 0) (t := 1) ho (by decide) (by decide)).one (kC (s := ⟨60, 90⟩) (by omega) 20 0 40 25 5 30 0 60 25 5 (by constructor <;> intros <;> omega) mg (by constructor <;> intros <;> omega) mg fun p q u v w h => by rw [mg]; have := h.hp; have := h.hu; show 60 ≤ p + u ∧ p + u ≤ 90; omega)
 have h2 := (nZ (b := 0) (t := 2) ho (by decide) (by decide)).one (kC (s := ⟨25, 65⟩) (by omega) 20 0 40 35 10 30 0 60 25 5 (by constructor <;> intros <;> omega) ke (by constructor <;> intros <;> omega) ke fun p q u v w h => by rw [ke]; have := h.hp; have := h.hu; have := h.hw; have := h.l0 (by omega) rfl; show 25 ≤ p + u - v ∧ p + u - v ≤ 65; omega)
 show dh (two 1) ((0 : Nat) : Int) = _
 rw [e]
 exact Hl h0 h1 h2
theorem k9 {k : Nat} {a : dU} {t : Nat} : c7 (fun b => cR (two k) a b t) (two k).bins.length = cR (two k) a 0 t + cR (two k) a 1 t := by
 show (0 + cR (two k) a 0 t) + cR (two k) a 1 t = _; rw [Int.zero_add]
theorem LL : tv (two 0) = [⟨20, 30⟩, ⟨60, 90⟩, ⟨50, 85⟩] := by
 have ho := kJ (k := 0) (by omega)
 have e := KF ho
 have h0 := (ze (t := 0) ho (by decide)).one (kC (s := ⟨20, 30⟩) (by omega) 20 0 40 10 5 30 0 40 10 5 (by constructor <;> intros <;> omega) (by rw [k9, mm, AK]; rfl) (by constructor <;> intros <;> omega) (by rw [k9, mm, AK]; rfl) fun p q u v w h => by rw [k9, mm, AK]; have := h.hp; have := h.hq; show 20 ≤ p + q ∧ p + q ≤ 30; omega)
 have h1 := (ze (t := 1) ho (by decide)).one (kC (s := ⟨60, 90⟩) (by omega) 20 0 40 10 5 30 0 60 10 5 (by constructor <;> intros <;> omega) (by rw [k9, mg, zj]; rfl) (by constructor <;> intros <;> omega) (by rw [k9, mg, zj]; rfl) fun p q u v w h => by rw [k9, mg, zj]; have := h.hp; have := h.hq; have := h.hu; show 60 ≤ p + u + q ∧ p + u + q ≤ 90; omega)
 have h2 := (ze (t := 2) ho (by decide)).one (kC (s := ⟨50, 85⟩) (by omega) 20 0 40 10 10 30 0 60 10 5 (by constructor <;> intros <;> omega) (by rw [k9, ke, tu]; rfl) (by constructor <;> intros <;> omega) (by rw [k9, ke, tu]; rfl) fun p q u v w h => by rw [k9, ke, tu]; have := h.hp; have := h.hq; have := h.hu; have := h.hw; show 50 ≤ p + u - v + (q + v - w) ∧ p + u - v + (q + v - w) ≤ 85; omega)
 rw [e]
 exact Hl h0 h1 h2
theorem Mn : kZ (two 1) 1 = 0 := Jd (k := 1) (kJ (by omega)) (by decide)
theorem MQ : nU (two 1) 1 = ⟨25, 35⟩ :=
 (HK (k := 1) (kJ (k := 1) (by omega)) (by decide)).one (kC (s := ⟨25, 35⟩) (by omega) 20 0 40 25 5 20 0 40 35 10 (by constructor <;> intros <;> omega) rfl (by constructor <;> intros <;> omega) rfl fun p q u v w h => by have := h.hw; have := h.l0 (by omega) rfl; show 25 ≤ v ∧ v ≤ 35; omega)
theorem K5 : 0 = kH (two 1) 0 60 (fun x => decide (x.lo ≥ 60)) ∧ fidx (fun x : Span => decide (x.lo ≥ 60)) (dh (two 1) 0) = nY (two 1) 0 60 (fun x => decide (x.lo ≥ 60)) :=
 G8 (vN (b := 0) (n5 (by omega)) (by decide)) rfl (AN (b := 0) (kJ (by omega)) (by decide)) (by rw [D0]; decide)
theorem LK : nY (two 1) 0 60 (fun x => decide (x.lo ≥ 60)) = 1 := by rw [← K5.2, D0]; rfl
def wS : EK := ⟨[⟨0, 0⟩, ⟨0, 1⟩, ⟨1, 1⟩], false⟩
theorem Dh : jr (two 2) (aP (two 2) (nth bP)) wS = 1 := by kernel_rfl
theorem Ma : 0 = nM (two 2) wS ∧ jr (two 2) (aP (two 2) (nth bP)) wS = tA (two 2) wS :=
 Gp (n5 (by omega)) (by decide) (fun i hi => by
  have hi : i + 1 < 3 := hi
  have : i = 0 ∨ i = 1 := by omega
  rcases this with rfl | rfl <;> decide) (by rw [Dh]; decide)
theorem MN : tA (two 2) wS = 1 := by rw [← Ma.2, Dh]
theorem IQ : ¬ ∃ a, e9 (two 2) (nth bP) a := by
 rintro ⟨a, ha⟩
 obtain ⟨p, q, u, v, w, rfl⟩ := DE ha.lens
 have h := (kI (by omega)).1 ha
 have h0 := h.l0 (by omega) rfl
 have h1 := h.l1 (by omega) rfl
 have := h.hp; have := h.hu; have := h.hw
 omega
theorem JA : cy (two 2) = 7 := IA (n5 (by omega)) IQ
theorem vO {l : List Bool} (h : nth l 0 = false ∨ nth l 1 = false) : ep (two 2) l = true := by
  rw [yp (yz (by omega))]
  cases h1 : nth l 1 with
  | false => exact ⟨xW 20 0 40 25 5, (kI (by omega)).2 ⟨by omega, rfl, by omega, by omega, by omega, fun _ _ => by omega, fun _ hc => by rw [h1] at hc; cases hc⟩⟩
  | true =>
    have h0 : nth l 0 = false := h.resolve_right (by rw [h1]; decide)
    exact ⟨xW 20 0 40 40 5, (kI (by omega)).2 ⟨by omega, rfl, by omega, by omega, by omega, fun _ hc => absurd hc (by rw [h0]; decide), fun _ _ => by omega⟩⟩
theorem GB {l : List Bool} (h : nth l 0 = true ∧ nth l 1 = true) : ep (two 2) l = false := by
 rw [Bool.eq_false_iff]
 intro hc
 obtain ⟨a, ha⟩ := (yp (yz (by omega))).1 hc
 obtain ⟨p, q, u, v, w, rfl⟩ := DE ha.lens
 have hh := (kI (by omega)).1 ha
 have h0 := hh.l0 (by omega) h.1
 have h1 := hh.l1 (by omega) h.2
 have := hh.hp; have := hh.hu; have := hh.hw
 omega
theorem xh (h : List Int → Bool) : lW h 2 = [[], [0], [1], [0, 1]].find? h := rfl
theorem NO : lW (fun l => !ep (two 2) (cg l false)) 2 = some [0, 1] := by
 rw [xh, List.find?_cons, vO (.inl rfl)]
 show List.find? _ [[0], [1], [0, 1]] = _
 rw [List.find?_cons, vO (.inr rfl)]
 show List.find? _ [[1], [0, 1]] = _
 rw [List.find?_cons, vO (.inl rfl)]
 show List.find? _ [[0, 1]] = _
 rw [List.find?_cons, GB ⟨rfl, rfl⟩]; rfl
theorem MX : lW (fun l => ep (two 2) (cg l true)) 2 = some [0] := by
 rw [xh, List.find?_cons, GB ⟨rfl, rfl⟩]
 show List.find? _ [[0], [1], [0, 1]] = _
 rw [List.find?_cons, vO (.inl rfl)]
theorem Kw : 0 = kX (two 2) ∧ EC (fun l => !ep (two 2) (cg l false)) 2 = mh (two 2) :=
 zo (n5 (by omega)) (by show (!(lW _ 2).isSome) = false; rw [NO]; rfl)
theorem Ky : 0 = kV (two 2) ∧ EC (fun l => ep (two 2) (cg l true)) 2 = mw (two 2) :=
 zO (n5 (by omega)) (by show (!(lW _ 2).isSome) = false; rw [MX]; rfl)
theorem Ig : mh (two 2) = [0, 1] := by rw [← Kw.2]; unfold EC; rw [NO]; rfl
theorem Gi : mw (two 2) = [0] := by rw [← Ky.2]; unfold EC; rw [MX]; rfl
end Go.Proofs.YtelbollidfdcjaaGreat
namespace Go.Proofs.YtelbollidfdcjaaGreat
open Go Go.T
section
variable {y : bB} {c : Nat → Bool} {a : dU} {m : List Int} {b t n : Nat} {x : Int}
theorem Bt.same {f g : dU → Int} {s s' : Span} (h : Bt y c f s) (h' : Bt y c g s') (e : ∀ a, f a = g a) : s = s' := by
 have : f = g := funext e
 subst this; exact h.one h'
end
end Go.Proofs.YtelbollidfdcjaaGreat
namespace Go.Proofs.YtelbollidfdcjaaGreat
open Go Go.T
section
variable {y : bB} {a : dU} {c : Nat → Bool}
end
end Go.Proofs.YtelbollidfdcjaaGreat
namespace Go.Proofs.YtelbollidfdcjaaGreat
open Go Go.T
theorem GG (a b : Span) : (decide (a.lo = b.lo) && decide (a.hi = b.hi)) = decide (a = b) := by
 cases a; cases b; rw [Bool.eq_iff_iff]; simp
end Go.Proofs.YtelbollidfdcjaaGreat
namespace Go.Proofs.YtelbollidfdcjaaGreat
open Go Go.T
set_option maxHeartbeats 2000000
attribute [local irreducible] iP fV m6 qX ig iw ia ij ir qN iy qQ eA ga qU gS qM nth fX dy aj dx bodyPost Exit.then Exit.inBlock Code.wp Code.wpIn qO iz qT qR iZ eR cW cZ bodyPostM eH
set_option maxRecDepth 100000 in
theorem BL (a b : List Int) : dx Tryz.prog 116 [Ty.sl cm a, Ty.sl cm b] (Ty.bool (decide (a = b))) := by
 refine au Tryz.func116 rfl (by decide) Tryz.ntmps116 (by exact Nat.le_of_ble_eq_true rfl) fun w0 M0 => ?_
 refine kA (s := 0) rfl rfl j7 fun ha => ?_
 refine kA (s := 1) rfl rfl j7 fun hb => ?_
 refine aE (aA (dY rfl (aD (aC (aE (aE (aA (gm rfl (cx rfl rfl rfl ?_)))))))))
 refine gm rfl (cx rfl rfl rfl (bE rfl rfl rfl (aD (aC ?_))))
 refine cv rfl (fun hc1 => ?_) (fun hc1 => ?_)
 ·
  try (simp only [Classical.not_not] at hc1)
  refine aE (aA (dY rfl (aD (aC (az (aV (bq rfl rfl ?_)))))))
  all_goals skip
  exact ay rfl rfl (congrArg Ty.bool (by rw [eq_comm, decide_eq_false_iff_not]; intro e; subst e; exact hc1 rfl))
 try (simp only [Classical.not_not] at hc1)
 refine ak (aC (aE (aE (aA (gm rfl (cx rfl rfl rfl (bM rfl (aD (aC ?_)))))))))
 refine ah ?_
 refine cU (fun (k : {k : Nat // a.take k = b.take k}) => live [(0, Ty.sl cm a), (1, Ty.sl cm b), (12, Ty.int .i64 a.length), (13, Ty.int .i64 (k.1 : Nat))] []) (fun k => a.length - k.1) (⟨0, by simp⟩) ?_ fun k => ?_
 ·(refine dD.mk' ?_ ?_ <;> (repeat' (first | exact aH | exact aI | refine aB ?_ (Ty.aW _) | refine aB ?_ (Ty.aF _))))
 have hlen : a.length = b.length := by omega
 refine aE (aA (bE rfl rfl rfl (aD (aC (aE ?_)))))
 refine av rfl (fun hc2 => ?_) (fun hc2 => ?_)
 ·
  try (simp only [Classical.not_not] at hc2)
  refine ak (aC (aE (ah (aE (aA (bM rfl (cB rfl (aD (aC ?_)))))))))
  refine aE (cM mixed rfl (gm rfl (bM rfl ?_)))
  refine bI rfl rfl rfl rfl rfl rfl (by omega) ?_
  refine aK rfl rfl rfl rfl (gm rfl (bM rfl ?_))
  refine bI rfl rfl rfl rfl rfl rfl (by omega) ?_
  refine aK rfl rfl rfl rfl (bE rfl rfl rfl (aD ?_))
  refine ⟨by kernel_rfl, ?_⟩
  refine aC ?_
  refine cv rfl (fun hc3 => ?_) (fun hc3 => ?_)
  ·
   try (simp only [Classical.not_not] at hc3)
   refine aE (aA (dY rfl (aD (aC (az (bD (aV (aV (bD ?_)))))))))
   refine aV (bq rfl rfl ?_)
   all_goals skip
   exact ay rfl rfl (congrArg Ty.bool (by rw [eq_comm, decide_eq_false_iff_not]; exact yf (k := k.1) (hc3)))
  try (simp only [Classical.not_not] at hc3)
  refine ak (bW (aC (aA ?_)))
  refine bz rfl rfl (by omega) (by omega) ?_
  refine bM rfl (aD ?_)
  refine bf (⟨k.1 + 1, by rw [eK (by omega), eK (by omega), k.2, hc3]⟩) ?_ (by show a.length - (k.1 + 1) < a.length - k.1; omega)
  (refine dD.mk' ?_ ?_ <;> (repeat' (first | exact aH | exact aI | refine aB ?_ (Ty.aW _) | refine aB ?_ (Ty.aF _))))
  all_goals skip
 try (simp only [Classical.not_not] at hc2)
 refine cT (aR (aR (aq rfl (aC (aE (aA (dY rfl (aD (aC ?_)))))))))
 refine az (bq rfl rfl ?_)
 all_goals skip
 exact ay rfl rfl (congrArg Ty.bool (by rw [eq_comm, decide_eq_true_eq]; have := k.2; rwa [List.take_of_length_le (by omega), List.take_of_length_le (by omega)] at this))
set_option maxRecDepth 100000 in
theorem B0 (a b : List Int) : dx Tryz.prog 46 [Ty.sl cm a, Ty.sl cm b] (Ty.bool (decide (a = b))) := by
 refine au Tryz.func46 rfl (by decide) Tryz.ntmps46 (by exact Nat.le_of_ble_eq_true rfl) fun w0 M0 => ?_
 refine aE (aA (dY rfl (aD (aC (aE (aA (gm rfl (gm rfl (aa (BL _ _) rfl rfl rfl rfl rfl ?_)))))))))
 refine dY rfl (aD (aC (az (bq rfl rfl ?_))))
 all_goals exact cC rfl rfl
set_option maxRecDepth 100000 in
theorem Bk (a b : List Span) : dx Tryz.prog 123 [Ty.sl dV a, Ty.sl dV b] (Ty.bool (decide (a = b))) := by
 refine au Tryz.func123 rfl (by decide) Tryz.ntmps123 (by exact Nat.le_of_ble_eq_true rfl) fun w0 M0 => ?_
 refine kA (s := 0) rfl rfl j7 fun ha => ?_
 refine kA (s := 1) rfl rfl j7 fun hb => ?_
 refine aE (aA (dY rfl (aD (aC (aE (aE (aA (gm rfl (cx rfl rfl rfl ?_)))))))))
 refine gm rfl (cx rfl rfl rfl (bE rfl rfl rfl (aD (aC ?_))))
 refine cv rfl (fun hc1 => ?_) (fun hc1 => ?_)
 ·
  try (simp only [Classical.not_not] at hc1)
  refine aE (aA (dY rfl (aD (aC (az (aV (bq rfl rfl ?_)))))))
  all_goals skip
  exact ay rfl rfl (congrArg Ty.bool (by rw [eq_comm, decide_eq_false_iff_not]; intro e; subst e; exact hc1 rfl))
 try (simp only [Classical.not_not] at hc1)
 refine ak (aC (aE (aE (aA (gm rfl (cx rfl rfl rfl (bM rfl (aD (aC ?_)))))))))
 refine ah ?_
 refine cU (fun (k : {k : Nat // a.take k = b.take k}) => live [(0, Ty.sl dV a), (1, Ty.sl dV b), (12, Ty.int .i64 a.length), (13, Ty.int .i64 (k.1 : Nat))] []) (fun k => a.length - k.1) (⟨0, by simp⟩) ?_ fun k => ?_
 ·(refine dD.mk' ?_ ?_ <;> (repeat' (first | exact aH | exact aI | refine aB ?_ (Ty.aW _) | refine aB ?_ (Ty.aF _))))
 have hlen : a.length = b.length := by omega
 refine aE (aA (bE rfl rfl rfl (aD (aC (aE ?_)))))
 refine av rfl (fun hc2 => ?_) (fun hc2 => ?_)
 ·
  try (simp only [Classical.not_not] at hc2)
  refine ak (aC (aE (ah (aE (aA (bM rfl (cB rfl (aD (aC ?_)))))))))
  refine aE (cM mixed rfl (gm rfl (bM rfl ?_)))
  refine bI rfl rfl rfl rfl rfl rfl (by omega) ?_
  refine aY rfl rfl rfl (by exact Nat.le_of_ble_eq_true rfl) ?_
  refine gm rfl (bM rfl ?_)
  refine bI rfl rfl rfl rfl rfl rfl (by omega) ?_
  refine aY rfl rfl rfl (by exact Nat.le_of_ble_eq_true rfl) ?_
  refine D7 (KT _ _ _ _) rfl rfl (aD ?_)
  refine ⟨by kernel_rfl, ?_⟩
  refine aC ?_
  refine cY rfl (fun hc3 => ?_) (fun hc3 => ?_)
  ·
   try (simp only [Classical.not_not] at hc3)
   refine aE (aA (dY rfl (aD (aC (az (bD (aV (aV (bD ?_)))))))))
   refine aV (bq rfl rfl ?_)
   all_goals skip
   exact ay rfl rfl (congrArg Ty.bool (by rw [eq_comm, decide_eq_false_iff_not]; exact yf (k := k.1) (of_decide_eq_false (by rw [← GG]; exact qd hc3))))
  try (simp only [Classical.not_not] at hc3)
  refine ak (bW (aC (aA ?_)))
  refine bz rfl rfl (by omega) (by omega) ?_
  refine bM rfl (aD ?_)
  refine bf (⟨k.1 + 1, by have e : nth a k.1 = nth b k.1 := of_decide_eq_true (by rw [← GG]; exact fY hc3); rw [eK (by omega), eK (by omega), k.2, e]⟩) ?_ (by show a.length - (k.1 + 1) < a.length - k.1; omega)
  (refine dD.mk' ?_ ?_ <;> (repeat' (first | exact aH | exact aI | refine aB ?_ (Ty.aW _) | refine aB ?_ (Ty.aF _))))
  all_goals skip
 try (simp only [Classical.not_not] at hc2)
 refine cT (aR (aR (aq rfl (aC (aE (aA (dY rfl (aD (aC ?_)))))))))
 refine az (bq rfl rfl ?_)
 all_goals skip
 exact ay rfl rfl (congrArg Ty.bool (by rw [eq_comm, decide_eq_true_eq]; have := k.2; rwa [List.take_of_length_le (by omega), List.take_of_length_le (by omega)] at this))
set_option maxRecDepth 100000 in
theorem AV (a b : List Span) : dx Tryz.prog 50 [Ty.sl dV a, Ty.sl dV b] (Ty.bool (decide (a = b))) := by
 refine au Tryz.func50 rfl (by decide) Tryz.ntmps50 (by exact Nat.le_of_ble_eq_true rfl) fun w0 M0 => ?_
 refine aE (aA (dY rfl (aD (aC (aE (aA (gm rfl (gm rfl (aa (Bk _ _) rfl rfl rfl rfl rfl ?_)))))))))
 refine dY rfl (aD (aC (az (bq rfl rfl ?_))))
 all_goals exact cC rfl rfl
end Go.Proofs.YtelbollidfdcjaaGreat
namespace Go.Proofs.YtelbollidfdcjaaGreat
open Go Go.T
set_option maxHeartbeats 4000000
theorem lu {α : Type} {E : El α} {T tg : Nat} {xs : List α} (h : xs = []) : (Ty.ex (.slice none 0 0)).Sub (Ty.row E T tg xs) := by subst h; exact Ty.mL
theorem AG {A : As} {α : Type} {E : El α} {T tg : Nat} {xs ys : List α} (h : xs = ys) : uG A tg (Ty.row E T tg xs) (Ty.sl E ys) := by subst h; exact qB
theorem jS {k : Nat} (hk : k ≤ 2) : (two k).Small := ⟨by show 2 ≤ 1000; omega, by show 3 ≤ 1000; omega, by show (List.take k _).length ≤ 1000; rw [List.length_take]; show min k 2 ≤ 1000; omega⟩
attribute [local irreducible] dh ju tv cy nU kZ nY kH tA nM mh kX mw kV jX bZ
attribute [local irreducible] iP fV m6 qX ig iw ia ij ir qN iy qQ eA ga qU gS qM nth fX dy aj dx bodyPost Exit.then Exit.inBlock Code.wp Code.wpIn qO iz qT qR iZ eR cW cZ bodyPostM eH
set_option maxRecDepth 100000 in
theorem jN (a b : Int) : dx Tryz.prog 56 [Ty.int .i64 a, Ty.int .i64 b] (Ty.agg (dV.tys ⟨a, b⟩)) := by
 refine au Tryz.func56 rfl (by decide) Tryz.ntmps56 (by exact Nat.le_of_ble_eq_true rfl) fun w0 M0 => ?_
 refine aE (aA ?_)
 refine b8 rfl (by exact List.cons_ne_nil _ _) rfl ?_
 refine aD (aC (aE (aA (bM rfl (bM rfl ?_)))))
 refine dG rfl rfl (by exact List.cons_ne_nil _ _) rfl (by repeat (first | exact (aX.nil : aX _ _ [] _) | (show aX _ _ ((_, _) :: _) _; apply aX.one; (· exact (rfl : _ = Ty.int _ _)); (· exact rfl)))) (by exact (rfl : _ = some [_, _])) ?_
 refine bp rfl rfl (by decide) rfl rfl rfl rfl rfl rfl ?_
 refine aD (aC (az ?_))
 refine ux rfl rfl rfl rfl (by decide) rfl rfl rfl ?_
 all_goals exact ay rfl rfl rfl
set_option maxRecDepth 100000 in
theorem uc (k : Nat) (hk : k ≤ 2) : dx Tryz.prog 93 [Ty.int .i64 ((k : Nat) : Int)] (fH (two k)) := by
 refine au Tryz.func93 rfl (by decide) Tryz.ntmps93 (by exact Nat.le_of_ble_eq_true rfl) fun w0 M0 => ?_
 refine aE (aA ?_)
 refine b8 rfl (by exact List.cons_ne_nil _ _) rfl ?_
 refine aD (aC (aE (aA (aa (jN _ _) rfl rfl rfl rfl rfl ?_))))
 refine dG rfl rfl (by exact List.cons_ne_nil _ _) rfl (by repeat (first | exact (aX.nil : aX _ _ [] _) | (show aX _ _ ((_, _) :: _) _; apply aX.one; (· exact (rfl : _ = Ty.int _ _)); (· exact rfl)) | (show aX _ _ ((_, _) :: _) _; apply aX.agg; (· exact (rfl : _ = Ty.agg _))))) (by exact (rfl : _ = some [_, _, _, _])) ?_
 refine aa (jN _ _) rfl rfl rfl rfl rfl ?_
 refine dG rfl rfl (by exact List.cons_ne_nil _ _) rfl (by repeat (first | exact (aX.nil : aX _ _ [] _) | (show aX _ _ ((_, _) :: _) _; apply aX.one; (· exact (rfl : _ = Ty.int _ _)); (· exact rfl)) | (show aX _ _ ((_, _) :: _) _; apply aX.agg; (· exact (rfl : _ = Ty.agg _))))) (by exact (rfl : _ = some [_, _, _, _])) ?_
 refine bt (E := ef) (xs := [⟨2, 1, ⟨20, 25⟩⟩, ⟨2, 0, ⟨10, 24⟩⟩]) rfl rfl rfl rfl rfl (by decide) (by decide) (by repeat (first | exact (aX.nil : aX _ _ [] _) | (show aX _ _ ((_, _) :: _) _; apply aX.agg; (· exact (rfl : _ = Ty.agg _))))) (by exact rfl) rfl ?_
 refine Bs rfl (aD (aC (aE (cM mixed rfl (aa (jN _ _) rfl rfl rfl rfl rfl ?_)))))
 refine dG rfl rfl (by exact List.cons_ne_nil _ _) rfl (by repeat (first | exact (aX.nil : aX _ _ [] _) | (show aX _ _ ((_, _) :: _) _; apply aX.one; (· exact (rfl : _ = Ty.int _ _)); (· exact rfl)) | (show aX _ _ ((_, _) :: _) _; apply aX.agg; (· exact (rfl : _ = Ty.agg _))))) (by exact (rfl : _ = some [_, _, _])) ?_
 refine dG rfl rfl (by exact List.cons_ne_nil _ _) rfl (by repeat (first | exact (aX.nil : aX _ _ [] _) | (show aX _ _ ((_, _) :: _) _; apply aX.one; (· exact (rfl : _ = Ty.int _ _)); (· exact rfl)))) (by exact (rfl : _ = some [_, _, _])) ?_
 refine bt (E := eU) (xs := [⟨100, ⟨20, 30⟩⟩, ⟨50, ⟨0, 0⟩⟩]) rfl rfl rfl rfl rfl (by decide) (by decide) (by repeat (first | exact (aX.nil : aX _ _ [] _) | (show aX _ _ ((_, _) :: _) _; apply aX.agg; (· exact (rfl : _ = Ty.agg _))))) (by exact rfl) rfl ?_
 refine aa (jN _ _) rfl rfl rfl rfl rfl ?_
 refine dG rfl rfl (by exact List.cons_ne_nil _ _) rfl (by repeat (first | exact (aX.nil : aX _ _ [] _) | (show aX _ _ ((_, _) :: _) _; apply aX.one; (· exact (rfl : _ = Ty.int _ _)); (· exact rfl)) | (show aX _ _ ((_, _) :: _) _; apply aX.agg; (· exact (rfl : _ = Ty.agg _))))) (by exact rfl) ?_
 refine aa (jN _ _) rfl rfl rfl rfl rfl ?_
 refine dG rfl rfl (by exact List.cons_ne_nil _ _) rfl (by repeat (first | exact (aX.nil : aX _ _ [] _) | (show aX _ _ ((_, _) :: _) _; apply aX.one; (· exact (rfl : _ = Ty.int _ _)); (· exact rfl)) | (show aX _ _ ((_, _) :: _) _; apply aX.agg; (· exact (rfl : _ = Ty.agg _))))) (by exact rfl) ?_
 refine aa (jN _ _) rfl rfl rfl rfl rfl ?_
 refine dG rfl rfl (by exact List.cons_ne_nil _ _) rfl (by repeat (first | exact (aX.nil : aX _ _ [] _) | (show aX _ _ ((_, _) :: _) _; apply aX.one; (· exact (rfl : _ = Ty.int _ _)); (· exact rfl)) | (show aX _ _ ((_, _) :: _) _; apply aX.agg; (· exact (rfl : _ = Ty.agg _))))) (by exact rfl) ?_
 refine bt (E := dm) (xs := [⟨0, -1, 0, ⟨40, 60⟩⟩, ⟨1, 0, 1, ⟨10, 40⟩⟩, ⟨1, 1, -1, ⟨5, 10⟩⟩]) rfl rfl rfl rfl rfl (by decide) (by decide) (by repeat (first | exact (aX.nil : aX _ _ [] _) | (show aX _ _ ((_, _) :: _) _; apply aX.agg; (· exact (rfl : _ = Ty.agg _))))) (by exact rfl) rfl ?_
 refine gm rfl (bM rfl (gm rfl (cx rfl rfl rfl (uX rfl rfl (uN rfl rfl ?_)))))
 refine He (hi := k) rfl (show _ = Ty.int .i64 ((k : Nat) : Int) from congrArg (Ty.int .i64) (by show max 0 (min (k : Int) 2) = (k : Int); omega)) rfl rfl rfl rfl (by show k ≤ 2; exact hk) ?_
 refine dG rfl rfl (by exact List.cons_ne_nil _ _) rfl (by repeat (first | exact (aX.nil : aX _ _ [] _) | (show aX _ _ ((_, _) :: _) _; apply aX.one; (· first | exact (rfl : _ = Ty.int _ _) | exact (rfl : _ = Ty.sl _ _)); (· exact rfl)))) (by exact (rfl : _ = some [_, _, _, _])) ?_
 refine bp rfl rfl (by decide) rfl rfl rfl rfl rfl rfl ?_
 refine aD ?_
 refine ⟨by kernel_rfl, ?_⟩
 refine aC (az ?_)
 refine ux rfl rfl rfl rfl (by decide) rfl rfl rfl ?_
 all_goals exact ay rfl rfl rfl
set_option maxRecDepth 100000 in
theorem I0 : dx Tryz.prog 27 [] (Ty.bool true) := by
 refine au Tryz.func27 rfl (by decide) Tryz.ntmps27 (by exact Nat.le_of_ble_eq_true rfl) fun w0 M0 => ?_
 refine aE (aA (dY rfl (aD (aC (aE (aA ?_))))))
 refine aa (uc 0 (by decide)) rfl rfl rfl rfl rfl ?_
 refine aa (wJ (two 0) (jS (by decide)) 0) rfl rfl rfl rfl rfl ?_
 refine rH rfl (bS rfl rfl (bS rfl rfl (Bs rfl (cB rfl (aD (aC (aE (aA ?_))))))))
 refine aa (uc 0 (by decide)) rfl rfl rfl rfl rfl ?_
 refine aa (JV (two 0) (jS (by decide))) rfl rfl rfl rfl rfl ?_
 refine rH rfl (bS rfl rfl (bS rfl rfl (Bs rfl (cB rfl (aD (aC (aE (aA ?_))))))))
 refine aa (uc 1 (by decide)) rfl rfl rfl rfl rfl ?_
 refine aa (JR (two 1) (jS (by decide)) 1) rfl rfl rfl rfl rfl ?_
 refine rH rfl (bS rfl rfl (bS rfl rfl ?_))
 refine b8 rfl (by exact List.cons_ne_nil _ _) rfl ?_
 refine bp rfl rfl (by decide) rfl rfl rfl rfl rfl rfl ?_
 refine cB rfl (aD (aC (aE (aA ?_))))
 refine aa (uc 1 (by decide)) rfl rfl rfl rfl rfl ?_
 refine aa (IN (two 1) (jS (by decide)) 0 60) rfl rfl rfl rfl rfl ?_
 refine rH rfl (bS rfl rfl (bS rfl rfl (cB rfl (cB rfl (aD (aC (aE (aA ?_))))))))
 refine dG rfl rfl (by exact List.cons_ne_nil _ _) rfl (by repeat (exact (aX.nil : aX _ _ [] _))) (by exact (rfl : _ = some [_, _])) ?_
 refine dG rfl rfl (by exact List.cons_ne_nil _ _) rfl (by repeat (first | exact (aX.nil : aX _ _ [] _) | (show aX _ _ ((_, _) :: _) _; apply aX.one; (· exact (rfl : _ = Ty.int _ _)); (· exact rfl)))) (by exact (rfl : _ = some [_, _])) ?_
 refine dG rfl rfl (by exact List.cons_ne_nil _ _) rfl (by repeat (first | exact (aX.nil : aX _ _ [] _) | (show aX _ _ ((_, _) :: _) _; apply aX.one; (· exact (rfl : _ = Ty.int _ _)); (· exact rfl)))) (by exact (rfl : _ = some [_, _])) ?_
 refine bt (E := rG) (xs := wS.cells) rfl rfl rfl rfl rfl (by decide) (by decide) (by repeat (first | exact (aX.nil : aX _ _ [] _) | (show aX _ _ ((_, _) :: _) _; apply aX.agg; (· exact (rfl : _ = Ty.agg _))))) (by exact rfl) rfl ?_
 refine dG rfl rfl (by exact List.cons_ne_nil _ _) rfl (by repeat (first | exact (aX.nil : aX _ _ [] _) | (show aX _ _ ((_, _) :: _) _; apply aX.one; (· exact (rfl : _ = Ty.sl _ _)); (· exact rfl)))) (by exact (rfl : _ = some [_, _])) ?_
 refine b8 rfl (by exact List.cons_ne_nil _ _) rfl ?_
 refine bp rfl rfl (by decide) rfl rfl rfl rfl rfl rfl ?_
 refine aD (aC (aE (cM mixed rfl ?_)))
 refine aa (uc 2 (by decide)) rfl rfl rfl rfl rfl ?_
 refine bG rfl rfl (by decide) rfl rfl (by exact Nat.le_of_ble_eq_true rfl) ?_
 refine aa (HJ (two 2) (jS (by decide)) wS (by decide)) rfl rfl rfl rfl rfl ?_
 refine rH rfl (bS rfl rfl (bS rfl rfl (cB rfl (cB rfl (aD ?_)))))
 refine ⟨by kernel_rfl, ?_⟩
 refine aC (aE (aA ?_))
 refine aa (uc 2 (by decide)) rfl rfl rfl rfl rfl ?_
 refine aa (Iw (two 2) (jS (by decide))) rfl rfl rfl rfl rfl ?_
 refine rH rfl (bS rfl rfl (bS rfl rfl (Bs rfl (cB rfl (aD (aC (aE (aA ?_))))))))
 refine aa (uc 2 (by decide)) rfl rfl rfl rfl rfl ?_
 refine aa (Jq (two 2) (jS (by decide))) rfl rfl rfl rfl rfl ?_
 refine rH rfl (bS rfl rfl (bS rfl rfl (Bs rfl (cB rfl (aD (aC (aE (aA ?_))))))))
 refine aa (uc 2 (by decide)) rfl rfl rfl rfl rfl ?_
 refine aa (HA (two 2) (jS (by decide))) rfl rfl rfl rfl rfl ?_
 refine rH rfl (bS rfl rfl (bS rfl rfl ?_))
 refine b8 rfl (by exact List.cons_ne_nil _ _) rfl ?_
 refine bp rfl rfl (by decide) rfl rfl rfl rfl rfl rfl ?_
 refine cB rfl (aD (aC (aE ?_)))
 refine gX (s := 1) rfl (Ty.sub_eq (congrArg (Ty.sl dV) I9)) ?_
 refine gX (s := 2) rfl (Ty.bA NM) ?_
 refine gX (s := 3) rfl (Ty.sub_eq (congrArg (Ty.sl dV) LL)) ?_
 refine gX (s := 4) rfl (Ty.bA (kJ (k := 0) (by decide))) ?_
 refine fK (tg := 6) rfl (Cont.nQ (congrArg dV.tys MQ)) ?_
 refine gX (s := 6) rfl (Ty.bA Mn) ?_
 refine gX (s := 7) rfl (Ty.bA LK) ?_
 refine gX (s := 8) rfl (Ty.bA K5.1.symm) ?_
 refine gX (s := 10) rfl (Ty.bA MN) ?_
 refine gX (s := 11) rfl (Ty.bA Ma.1.symm) ?_
 refine gX (s := 12) rfl (Ty.sub_eq (congrArg (Ty.sl cm) Ig)) ?_
 refine gX (s := 13) rfl (Ty.bA Kw.1.symm) ?_
 refine gX (s := 14) rfl (Ty.sub_eq (congrArg (Ty.sl cm) Gi)) ?_
 refine gX (s := 15) rfl (Ty.bA Ky.1.symm) ?_
 refine gX (s := 17) rfl (Ty.bA JA) ?_
 refine dw (B := live [(1, Ty.sl dV [⟨20, 30⟩, ⟨60, 90⟩, ⟨20, 80⟩]), (2, Ty.int .i64 0), (3, Ty.sl dV [⟨20, 30⟩, ⟨60, 90⟩, ⟨50, 85⟩]), (4, Ty.int .i64 0), (5, Ty.ptr 6 0), (6, Ty.int .i64 0), (7, Ty.int .i64 1), (8, Ty.int .i64 0), (10, Ty.int .i64 1), (11, Ty.int .i64 0), (12, Ty.sl cm [0, 1]), (13, Ty.int .i64 0), (14, Ty.sl cm [0]), (15, Ty.int .i64 0), (17, Ty.int .i64 7)] [(6, Cont.cells 37 (dV.tys ⟨25, 35⟩))]) ?_ ?_
 ·(refine dD.mk' ?_ ?_ <;> (repeat' (first | exact aH | exact aI | refine aB ?_ (Ty.aW _) | refine aB ?_ (Ty.aF _) | refine aG rfl (Cont.aF _) ?_)))
 refine cM mixed rfl (bM rfl (bE rfl rfl rfl (gU rfl ?_)))
 apply aS (s := 66) rfl rfl rfl
 ·intro hg; apply aT; (refine bM rfl ?_); refine aD ?_; exact rfl
 ·exact rfl
 ·exact rfl
 apply aS (s := 66) rfl rfl rfl
 ·intro hg; apply aO (s := 67) rfl (by exact hg); apply aT; (refine bE rfl rfl rfl ?_); refine aD ?_; exact rfl
 ·exact rfl
 ·exact rfl
 refine fB rfl rfl (gU rfl ?_)
 apply aS (s := 70) rfl rfl rfl
 ·intro hg; apply aT; (refine bM rfl ?_); refine aD ?_; exact rfl
 ·exact rfl
 ·exact rfl
 apply aS (s := 70) rfl rfl rfl
 ·intro hg; apply aO (s := 71) rfl (by exact hg); apply aT; (refine bE rfl rfl rfl ?_); refine aD ?_; exact rfl
 ·exact rfl
 ·exact rfl
 refine fB rfl rfl (gU rfl ?_)
 apply aS (s := 74) rfl rfl rfl
 ·intro hg; apply aT; (refine bM rfl ?_); refine aD ?_; exact rfl
 ·exact rfl
 ·exact rfl
 apply aS (s := 74) rfl rfl rfl
 ·intro hg; apply aO (s := 75) rfl (by exact hg); apply aT; (refine bE rfl rfl rfl ?_); refine aD ?_; exact rfl
 ·exact rfl
 ·exact rfl
 refine fB rfl rfl (gU rfl ?_)
 apply aS (s := 78) rfl rfl rfl
 ·intro hg; apply aT; (refine bM rfl ?_); refine aD ?_; exact rfl
 ·exact rfl
 ·exact rfl
 apply aS (s := 78) rfl rfl rfl
 ·intro hg; apply aO (s := 79) rfl (by exact hg); apply aT; (refine bE rfl rfl rfl ?_); refine aD ?_; exact rfl
 ·exact rfl
 ·exact rfl
 refine fB rfl rfl (gU rfl ?_)
 apply aS (s := 82) rfl rfl rfl
 ·intro hg; apply aT; (refine bM rfl ?_); refine aD ?_; exact rfl
 ·exact rfl
 ·exact rfl
 apply aS (s := 82) rfl rfl rfl
 ·intro hg; apply aO (s := 83) rfl (by exact hg); apply aT; (refine bE rfl rfl rfl ?_); refine aD ?_; exact rfl
 ·exact rfl
 ·exact rfl
 refine fB rfl rfl (gU rfl ?_)
 apply aS (s := 86) rfl rfl rfl
 ·intro hg; apply aT; (refine bM rfl ?_); refine aD ?_; exact rfl
 ·exact rfl
 ·exact rfl
 apply aS (s := 86) rfl rfl rfl
 ·intro hg; apply aO (s := 87) rfl (by exact hg); apply aT; (refine bE rfl rfl rfl ?_); refine aD ?_; exact rfl
 ·exact rfl
 ·exact rfl
 refine fB rfl rfl (gU rfl ?_)
 apply aS (s := 90) rfl rfl rfl
 ·intro hg; apply aT; (refine bM rfl ?_); refine aD ?_; exact rfl
 ·exact rfl
 ·exact rfl
 apply aS (s := 90) rfl rfl rfl
 ·intro hg; apply aO (s := 91) rfl (by exact hg); apply aT; (refine bE rfl rfl rfl ?_); refine aD ?_; exact rfl
 ·exact rfl
 ·exact rfl
 refine fB rfl rfl (gU rfl ?_)
 apply aS (s := 94) rfl rfl rfl
 ·intro hg; apply aT; (refine gm rfl ?_); refine aD ?_; exact rfl
 ·exact rfl
 ·exact rfl
 apply aS (s := 94) rfl rfl rfl
 ·intro hg; apply aT; (refine aa (jN _ _) rfl rfl rfl rfl rfl ?_); refine aD ?_; exact rfl
 ·exact rfl
 ·exact rfl
 apply aS (s := 94) rfl rfl rfl
 ·intro hg; apply aT; (refine aa (jN _ _) rfl rfl rfl rfl rfl ?_); refine aD ?_; exact rfl
 ·exact rfl
 ·exact rfl
 apply aS (s := 94) rfl rfl rfl
 ·intro hg; apply aT; (refine aa (jN _ _) rfl rfl rfl rfl rfl ?_); refine aD ?_; exact rfl
 ·exact rfl
 ·exact rfl
 apply aS (s := 94) rfl rfl rfl
 ·intro hg; apply aO (s := 96) rfl (by exact hg); apply aO (s := 97) rfl (by exact hg); apply aO (s := 98) rfl (by exact hg); apply aT; (refine bt (E := dV) (xs := [⟨20, 30⟩, ⟨60, 90⟩, ⟨20, 80⟩]) rfl rfl rfl rfl rfl (by decide) (by decide) (by repeat (first | exact (aX.nil : aX _ _ [] _) | (show aX _ _ ((_, _) :: _) _; apply aX.agg; (· exact (rfl : _ = Ty.agg _))))) (by exact rfl) rfl ?_); refine aD ?_; exact rfl
 ·exact rfl
 ·exact rfl
 apply aS (s := 94) rfl rfl rfl
 ·intro hg; apply aO (s := 95) rfl (by exact hg); apply aO (s := 99) rfl (by exact hg); apply aT; (refine aa (AV _ _) rfl rfl rfl rfl rfl ?_); refine aD ?_; exact rfl
 ·exact rfl
 ·exact rfl
 refine fB rfl rfl (gU rfl ?_)
 apply aS (s := 102) rfl rfl rfl
 ·intro hg; apply aT; (refine gm rfl ?_); refine aD ?_; exact rfl
 ·exact rfl
 ·exact rfl
 apply aS (s := 102) rfl rfl rfl
 ·intro hg; apply aT; (refine aa (jN _ _) rfl rfl rfl rfl rfl ?_); refine aD ?_; exact rfl
 ·exact rfl
 ·exact rfl
 apply aS (s := 102) rfl rfl rfl
 ·intro hg; apply aT; (refine aa (jN _ _) rfl rfl rfl rfl rfl ?_); refine aD ?_; exact rfl
 ·exact rfl
 ·exact rfl
 apply aS (s := 102) rfl rfl rfl
 ·intro hg; apply aT; (refine aa (jN _ _) rfl rfl rfl rfl rfl ?_); refine aD ?_; exact rfl
 ·exact rfl
 ·exact rfl
 apply aS (s := 102) rfl rfl rfl
 ·intro hg; apply aO (s := 104) rfl (by exact hg); apply aO (s := 105) rfl (by exact hg); apply aO (s := 106) rfl (by exact hg); apply aT; (refine bt (E := dV) (xs := [⟨20, 30⟩, ⟨60, 90⟩, ⟨50, 85⟩]) rfl rfl rfl rfl rfl (by decide) (by decide) (by repeat (first | exact (aX.nil : aX _ _ [] _) | (show aX _ _ ((_, _) :: _) _; apply aX.agg; (· exact (rfl : _ = Ty.agg _))))) (by exact rfl) rfl ?_); refine aD ?_; exact rfl
 ·exact rfl
 ·exact rfl
 apply aS (s := 102) rfl rfl rfl
 ·intro hg; apply aO (s := 103) rfl (by exact hg); apply aO (s := 107) rfl (by exact hg); apply aT; (refine aa (AV _ _) rfl rfl rfl rfl rfl ?_); refine aD ?_; exact rfl
 ·exact rfl
 ·exact rfl
 refine fB rfl rfl (gU rfl ?_)
 apply aS (s := 110) rfl rfl rfl
 ·intro hg; apply aT; (refine bG rfl rfl (by decide) rfl rfl (by exact Nat.le_of_ble_eq_true rfl) ?_); refine aD ?_; exact rfl
 ·exact rfl
 ·exact rfl
 apply aS (s := 110) rfl rfl rfl
 ·intro hg; apply aT; (refine aa (jN _ _) rfl rfl rfl rfl rfl ?_); refine aD ?_; exact rfl
 ·exact rfl
 ·exact rfl
 apply aS (s := 110) rfl rfl rfl
 ·intro hg; apply aO (s := 111) rfl (by exact hg); apply aO (s := 112) rfl (by exact hg); apply aT; (refine Js (KT _ _ _ _) rfl rfl ?_); refine aD ?_; exact rfl
 ·exact rfl
 ·exact rfl
 refine fB rfl rfl (gU rfl ?_)
 apply aS (s := 115) rfl rfl rfl
 ·intro hg; apply aT; (refine bM rfl ?_); refine aD ?_; exact rfl
 ·exact rfl
 ·exact rfl
 apply aS (s := 115) rfl rfl rfl
 ·intro hg; apply aO (s := 116) rfl (by exact hg); apply aT; (refine bE rfl rfl rfl ?_); refine aD ?_; exact rfl
 ·exact rfl
 ·exact rfl
 refine fB rfl rfl (gU rfl ?_)
 apply aS (s := 119) rfl rfl rfl
 ·intro hg; apply aT; (refine bM rfl ?_); refine aD ?_; exact rfl
 ·exact rfl
 ·exact rfl
 apply aS (s := 119) rfl rfl rfl
 ·intro hg; apply aO (s := 120) rfl (by exact hg); apply aT; (refine bE rfl rfl rfl ?_); refine aD ?_; exact rfl
 ·exact rfl
 ·exact rfl
 refine fB rfl rfl (gU rfl ?_)
 apply aS (s := 123) rfl rfl rfl
 ·intro hg; apply aT; (refine gm rfl ?_); refine aD ?_; exact rfl
 ·exact rfl
 ·exact rfl
 apply aS (s := 123) rfl rfl rfl
 ·intro hg; apply aT; (refine bt (E := cm) (xs := [0, 1]) rfl rfl rfl rfl rfl (by decide) (by decide) (by repeat (first | exact (aX.nil : aX _ _ [] _) | (show aX _ _ ((_, _) :: _) _; apply aX.one; (· exact (rfl : _ = Ty.int _ _)); (· exact rfl)))) (by exact rfl) rfl ?_); refine aD ?_; exact rfl
 ·exact rfl
 ·exact rfl
 apply aS (s := 123) rfl rfl rfl
 ·intro hg; apply aO (s := 124) rfl (by exact hg); apply aO (s := 125) rfl (by exact hg); apply aT; (refine aa (B0 _ _) rfl rfl rfl rfl rfl ?_); refine aD ?_; exact rfl
 ·exact rfl
 ·exact rfl
 refine fB rfl rfl (gU rfl ?_)
 apply aS (s := 128) rfl rfl rfl
 ·intro hg; apply aT; (refine gm rfl ?_); refine aD ?_; exact rfl
 ·exact rfl
 ·exact rfl
 apply aS (s := 128) rfl rfl rfl
 ·intro hg; apply aT; (refine bt (E := cm) (xs := [0]) rfl rfl rfl rfl rfl (by decide) (by decide) (by repeat (first | exact (aX.nil : aX _ _ [] _) | (show aX _ _ ((_, _) :: _) _; apply aX.one; (· exact (rfl : _ = Ty.int _ _)); (· exact rfl)))) (by exact rfl) rfl ?_); refine aD ?_; exact rfl
 ·exact rfl
 ·exact rfl
 apply aS (s := 128) rfl rfl rfl
 ·intro hg; apply aO (s := 129) rfl (by exact hg); apply aO (s := 130) rfl (by exact hg); apply aT; (refine aa (B0 _ _) rfl rfl rfl rfl rfl ?_); refine aD ?_; exact rfl
 ·exact rfl
 ·exact rfl
 refine fB rfl rfl (dY rfl (aD ?_))
 refine ⟨by kernel_rfl, ?_⟩
 refine aC (az (bq rfl rfl ?_))
 all_goals exact cC rfl rfl
 all_goals trace_state
end Go.Proofs.YtelbollidfdcjaaGreat
namespace Go.Proofs.YtelbollidfdcjaaGreat
open Go Go.T
set_option maxHeartbeats 2000000
attribute [local irreducible] iP fV m6 qX ig iw ia ij ir qN iy qQ eA ga qU gS qM nth fX dy aj dx bodyPost Exit.then Exit.inBlock Code.wp Code.wpIn qO iz qT qR iZ eR cW cZ bodyPostM eH
set_option maxRecDepth 100000 in
theorem FV (s : Sk) (h : s.Ok 1) : eR Tryz.prog 139 [1000] [(1000, Cont.cells 149 (dc s))] [Ty.ptr 1000 0] [(1000, Cont.cells 149 (dc (aZ s)))] (Ty.int .i64 (mV (aZ s))) := by
 refine eG Tryz.func139 rfl (by decide) Tryz.ntmps139 (by exact Nat.le_of_ble_eq_true rfl) fun w0 M0 => ?_
 have h0 : 0 ≤ s.taken ∧ s.taken + 1 ≤ 4611686018427387904 := h
 refine aE (aA (cB rfl (aD (aC ?_))))
 refine kf (J := live [(0, Ty.ptr 1000 0)] [(1000, Cont.cells 149 (dc (iN s)))]) ?_ ?_
 ·
  refine aE (aA (q9 rfl (cP rfl ?_)))
  refine aL rfl rfl rfl rfl rfl (by decide) ?_
  refine aU rfl rfl (by decide) rfl rfl rfl ?_
  refine cx rfl rfl rfl (cB rfl (aD (aC (aE (aA (bM rfl (bE rfl rfl rfl (aD (aC ?_)))))))))
  refine av rfl (fun hc1 => ?_) (fun hc1 => ?_)
  ·
   have hm := Di (a := s.taken) (b := s.grain.length) h0.1 (by omega)
   refine cM mixed rfl (q9 rfl (q9 rfl (cP rfl ?_)))
   refine aL rfl rfl rfl rfl rfl (by decide) ?_
   refine aU rfl rfl (by decide) rfl rfl rfl ?_
   refine q9 rfl (cP rfl ?_)
   refine aL rfl rfl rfl rfl rfl (by decide) ?_
   refine aU rfl rfl (by decide) rfl rfl rfl ?_
   refine q9 rfl (cP rfl ?_)
   refine aL rfl rfl rfl rfl rfl (by decide) ?_
   refine aU rfl rfl (by decide) rfl rfl rfl ?_
   refine bM rfl ?_
   refine HU rfl rfl (by omega) ?_
   refine lX rfl rfl rfl rfl rfl rfl (by omega) (by omega) ?_
   refine aK rfl rfl rfl rfl (AI rfl rfl rfl rfl (bE rfl rfl rfl (bE rfl rfl rfl (cP rfl ?_))))
   refine aL rfl rfl rfl rfl rfl (by decide) ?_
   refine ct rfl rfl (by decide) rfl rfl (by exact (rfl : _ = Ty.int _ _)) rfl (by exact Nat.le_of_ble_eq_true rfl) rfl rfl (by exact rfl) ?_
   refine aD ?_
   refine ⟨by kernel_rfl, ?_⟩
   refine fP ?_
   (refine dD.mk' ?_ ?_ <;> (repeat' (first | exact aH | exact aI | exact dK | refine aB ?_ (Ty.aW _) | refine aB ?_ (Ty.aF _) | refine aG rfl (Cont.dL ?_) ?_ | refine bY ?_ ?_)))
   all_goals first | exact Ty.bA (congrArg Sk.mixed (DD hc1).symm) | exact Ty.bA (lD s).symm | exact Ty.gq (rX s).symm
  refine ak (fP ?_)
  (refine dD.mk' ?_ ?_ <;> (repeat' (first | exact aH | exact aI | exact dK | refine aB ?_ (Ty.aW _) | refine aB ?_ (Ty.aF _) | refine aG rfl (Cont.dL ?_) ?_ | refine bY ?_ ?_)))
  all_goals first | exact Ty.bA (congrArg Sk.mixed (Ca hc1).symm) | exact Ty.bA (lD s).symm | exact Ty.gq (rX s).symm
 refine aE ?_
 have h1 := lD s
 refine aA (q9 rfl (cP rfl ?_))
 refine aL rfl rfl rfl rfl rfl (by decide) ?_
 refine aU rfl rfl (by decide) rfl rfl rfl ?_
 refine bz rfl rfl (by omega) (by omega) ?_
 refine cP rfl ?_
 refine aL rfl rfl rfl rfl rfl (by decide) ?_
 refine ct rfl rfl (by decide) rfl rfl (by exact (rfl : _ = Ty.int _ _)) rfl (by exact Nat.le_of_ble_eq_true rfl) rfl rfl (by exact rfl) ?_
 refine aD (aC ?_)
 refine kf (J := live [(0, Ty.ptr 1000 0)] [(1000, Cont.cells 149 (dc (aZ s)))]) ?_ ?_
 ·
  refine aE (cM mixed rfl (q9 rfl (cP rfl ?_)))
  refine aL rfl rfl rfl rfl rfl (by decide) ?_
  refine aU rfl rfl (by decide) rfl rfl rfl ?_
  refine q9 rfl (cP rfl ?_)
  refine aL rfl rfl rfl rfl rfl (by decide) ?_
  refine aU rfl rfl (by decide) rfl rfl rfl ?_
  refine cx rfl rfl rfl (bE rfl rfl rfl (aD ?_))
  refine ⟨by kernel_rfl, ?_⟩
  refine aC ?_
  refine av rfl (fun hc2 => ?_) (fun hc2 => ?_)
  ·
   refine aA (q9 rfl (q9 rfl (cP rfl ?_)))
   refine aL rfl rfl rfl rfl rfl (by decide) ?_
   refine aU rfl rfl (by decide) rfl rfl rfl ?_
   refine bE rfl rfl rfl (bE rfl rfl rfl (cP rfl ?_))
   refine aL rfl rfl rfl rfl rfl (by decide) ?_
   refine ct rfl rfl (by decide) rfl rfl (by exact (rfl : _ = Ty.int _ _)) rfl (by exact Nat.le_of_ble_eq_true rfl) rfl rfl (by exact rfl) ?_
   refine aD (fP ?_)
   (refine dD.mk' ?_ ?_ <;> (repeat' (first | exact aH | exact aI | exact dK | refine aB ?_ (Ty.aW _) | refine aB ?_ (Ty.aF _) | refine aG rfl (Cont.dL ?_) ?_ | refine bY ?_ ?_)))
   all_goals first | exact Ty.bA (congrArg Sk.mixed (DA (s := oo (iN s)) hc2).symm) | exact Ty.bA (oC (oo (iN s))).symm | exact Ty.gq (rR (oo (iN s))).symm
  refine ak (fP ?_)
  (refine dD.mk' ?_ ?_ <;> (repeat' (first | exact aH | exact aI | exact dK | refine aB ?_ (Ty.aW _) | refine aB ?_ (Ty.aF _) | refine aG rfl (Cont.dL ?_) ?_ | refine bY ?_ ?_)))
  all_goals first | exact Ty.bA (Cx hc2) | exact Ty.bA (oC (oo (iN s))).symm | exact Ty.gq (rR (oo (iN s))).symm
 refine aE (cM mixed rfl (q9 rfl (cP rfl ?_)))
 refine aL rfl rfl rfl rfl rfl (by decide) ?_
 refine aU rfl rfl (by decide) rfl rfl rfl ?_
 refine q9 rfl (cP rfl ?_)
 refine aL rfl rfl rfl rfl rfl (by decide) ?_
 refine aU rfl rfl (by decide) rfl rfl rfl ?_
 refine Kk rfl rfl (by omega) (by decide) ?_
 refine bE rfl rfl rfl ?_
 refine Kk rfl rfl (by omega) (by decide) ?_
 refine bE rfl rfl rfl (AI rfl rfl rfl rfl (cB rfl (aD ?_)))
 refine ⟨by kernel_rfl, ?_⟩
 refine aC (az ?_)
 refine gW [1000] rfl rfl (by decide) (by repeat (first | exact fO | refine eN rfl (bK (by decide) rfl rfl rfl) ?_)) ?_
 all_goals exact fo (aQ rfl rfl)
 all_goals exact fo (oU rfl rfl rfl)
set_option maxRecDepth 100000 in
theorem ji (s : Sk) (h : s.Ok 1) (n : Int) : eR Tryz.prog 64 [1000] [(1000, Cont.cells 149 (dc s))] [Ty.ptr 1000 0, Ty.int .i64 n] [(1000, Cont.cells 149 (dc (aZ s)))] (Ty.int .i64 (bu s n)) := by
 refine eG Tryz.func64 rfl (by decide) Tryz.ntmps64 (by exact Nat.le_of_ble_eq_true rfl) fun w0 M0 => ?_
 refine aE (aA (cB rfl (aD (aC (aE (aA (q9 rfl ?_)))))))
 refine cI [(1000, 1000)] [] [(1000, Cont.cells 149 (dc (aZ s)))] (FV s h) rfl rfl (by repeat (first | exact bO | refine aJ ?_ ?_ | exact eE List.mem_cons_self)) (cF (a := 1000) (b := 1000) (by exact List.mem_cons_self) rfl (bK (by exact List.mem_cons_self) rfl rfl rfl) pre_nil) (bN (a := 1000) (b := 1000) (by exact List.mem_cons_self) rfl (bK (by exact List.mem_cons_self) rfl rfl rfl) post_nil) (aQ rfl rfl) ?_
 refine bM rfl (uN rfl rfl ?_)
 refine HU rfl rfl (by omega) ?_
 refine cB rfl (aD (aC (az ?_)))
 refine gW [1000] rfl rfl (by decide) (by repeat (first | exact fO | refine eN rfl (bK (by decide) rfl rfl rfl) ?_)) ?_
 all_goals exact fo (aQ rfl rfl)
set_option maxRecDepth 100000 in
theorem vB (s : Sk) (h : s.Ok 1) (lo hi : Int) (hlo : -1000000 ≤ lo ∧ lo ≤ 1000000) (hhi : -1000000 ≤ hi ∧ hi ≤ 1000000) : eR Tryz.prog 81 [1000] [(1000, Cont.cells 149 (dc s))] [Ty.ptr 1000 0, Ty.int .i64 lo, Ty.int .i64 hi] [(1000, Cont.cells 149 (dc (aZ s)))] (Ty.int .i64 (jK s lo hi)) := by
 refine eG Tryz.func81 rfl (by decide) Tryz.ntmps81 (by exact Nat.le_of_ble_eq_true rfl) fun w0 M0 => ?_
 have hb := cw s (hi - lo + 1)
 refine aE (aA (cB rfl (aD (aC (aE (aA (bM rfl (q9 rfl (bM rfl ?_)))))))))
 refine bM rfl ?_
 refine gL rfl rfl (by omega) (by omega) ?_
 refine bz rfl rfl (by omega) (by omega) ?_
 refine cI [(1000, 1000)] [] [(1000, Cont.cells 149 (dc (aZ s)))] (ji s h _) rfl rfl (by repeat (first | exact bO | refine aJ ?_ ?_ | exact eE List.mem_cons_self | exact aQ rfl rfl)) (cF (a := 1000) (b := 1000) (by exact List.mem_cons_self) rfl (bK (by exact List.mem_cons_self) rfl rfl rfl) pre_nil) (bN (a := 1000) (b := 1000) (by exact List.mem_cons_self) rfl (bK (by exact List.mem_cons_self) rfl rfl rfl) post_nil) (aQ rfl rfl) ?_
 refine bz rfl rfl (by omega) (by omega) ?_
 refine cB rfl (aD (aC (az ?_)))
 refine gW [1000] rfl rfl (by decide) (by repeat (first | exact fO | refine eN rfl (bK (by decide) rfl rfl rfl) ?_)) ?_
 all_goals exact fo (aQ rfl rfl)
set_option maxRecDepth 100000 in
theorem Lg (g : List Int) : eR Tryz.prog 18 [] [] [Ty.sl U8 g] [(10, Cont.cells 149 (dc (pP g)))] (Ty.ptr 10 0) := by
 refine eG Tryz.func18 rfl (by decide) Tryz.ntmps18 (by exact Nat.le_of_ble_eq_true rfl) fun w0 M0 => ?_
 refine aE (aA (mF rfl (aD (aC (aE ?_)))))
 skip
 refine aA (gm rfl (gm rfl (cx rfl rfl rfl (AI rfl rfl rfl rfl (bE rfl rfl rfl ?_)))))
 refine dG rfl rfl (by exact List.cons_ne_nil _ _) rfl (by repeat (first | exact (aX.nil : aX _ _ [] _) | (show aX _ _ ((_, _) :: _) _; apply aX.one; (· first | exact (rfl : _ = Ty.int _ _) | exact (rfl : _ = Ty.sl _ _)); (· exact rfl)))) (by exact (rfl : _ = some [_, _, _])) ?_
 refine sX rfl rfl rfl (OD rfl (aD (aC (az ?_))))
 refine gW [10] rfl rfl (by decide) (by repeat (first | exact fO | refine eN rfl (bK (by decide) rfl rfl rfl) ?_)) ?_
 all_goals skip
 exact fo (eE (by exact List.mem_cons_self))
end Go.Proofs.YtelbollidfdcjaaGreat
namespace Go.Proofs.YtelbollidfdcjaaGreat
open Go Go.T
set_option maxHeartbeats 4000000
def jt (n : Int) (s : Span) : Bool := decide (s.lo ≤ n) && decide (n ≤ s.hi)
structure Ip (y : bB) (a : dU) : Prop where
  len : y.moves.length ≤ a.bT.length
  oX : a.bT.length ≤ 1000
  first : ∀ x ∈ a.first, -1000 ≤ x ∧ x ≤ 1000
  bT : ∀ x ∈ a.bT, -1000 ≤ x ∧ x ≤ 1000
theorem Ip.up {y : bB} {a : dU} (h : Ip y a) {bin time : Int} (hb : bin.toNat < a.first.length) {k : Nat} (hk : k ≤ y.moves.length) : -3000000 ≤ eD y a bin time k ∧ eD y a bin time k ≤ 3000000 := by
 have h1 := h.len
 have h2 := h.oX
 have := HF (y := y) (bin := bin) (time := time) (B := 1000) (by omega) h.first h.bT hb k (by omega)
 omega
attribute [local irreducible] iP fV m6 qX ig iw ia ij ir qN iy qQ eA ga qU gS qM nth fX dy aj dx bodyPost Exit.then Exit.inBlock Code.wp Code.wpIn qO iz qT qR iZ eR cW cZ bodyPostM eH
set_option maxRecDepth 100000 in
theorem fk (y : bB) (a : dU) (ha : Ip y a) (bin time : Int) (h0 : 0 ≤ bin) (h1 : bin.toNat < a.first.length) : dx Tryz.prog 25 [fH y, kr a, Ty.int .i64 bin, Ty.int .i64 time] (Ty.int .i64 (cr y a bin time)) := by
 refine au Tryz.func25 rfl (by decide) Tryz.ntmps25 (by exact Nat.le_of_ble_eq_true rfl) fun w0 M0 => ?_
 have hl1 := ha.len
 have hl2 := ha.oX
 refine aE (aA (bJ rfl (bJ rfl (cB rfl (aD (aC (aE (aA ?_))))))))
 refine aM rfl rfl rfl rfl rfl (by decide) ?_
 refine aK rfl rfl rfl rfl (bM rfl (lX rfl rfl rfl rfl rfl rfl h0 h1 (aK rfl rfl rfl rfl (cB rfl (aD (aC (aE (aE (aA ?_)))))))))
 refine aM rfl rfl rfl rfl rfl (by decide) ?_
 refine aK rfl rfl rfl rfl (cx rfl rfl rfl (bM rfl (aD (aC (ah ?_)))))
 refine cU (fun (k : {k : Nat // k ≤ y.moves.length}) => live [(2, Ty.int .i64 bin), (3, Ty.int .i64 time), (4, Ty.pp (bk y)), (5, Ty.pp (dP a)), (9, Ty.int .i64 (eD y a bin time k.1)), (18, Ty.sl dm y.moves), (19, Ty.int .i64 y.moves.length), (20, Ty.int .i64 (k.1 : Nat))] []) (fun k => y.moves.length - k.1) (⟨0, by omega⟩) ?_ fun k => ?_
 ·(refine dD.mk' ?_ ?_ <;> (repeat' (first | exact aH | exact aI | refine aB ?_ (Ty.aW _) | refine aB ?_ (Ty.aF _))))
 have hk := k.2
 have hu := ha.up (time := time) h1 hk
 refine aE (aA (bE rfl rfl rfl (aD (aC (aE ?_)))))
 refine av rfl (fun hc1 => ?_) (fun hc1 => ?_)
 ·
  refine ak (aC (aE (ah (aE (aA (bM rfl ?_))))))
  refine bI rfl rfl rfl rfl rfl rfl (by omega) ?_
  refine aY rfl rfl rfl (by exact Nat.le_of_ble_eq_true rfl) ?_
  refine b8 rfl (by exact List.cons_ne_nil _ _) rfl ?_
  refine cB rfl ?_
  refine bp rfl rfl (by decide) rfl rfl rfl rfl rfl rfl ?_
  refine aD (aC (aE (aE (aA ?_))))
  refine aL rfl rfl rfl rfl rfl (by decide) ?_
  refine aU rfl rfl (by decide) rfl rfl rfl ?_
  refine bM rfl (bE rfl rfl rfl (gU rfl ?_))
  apply aS (s := 29) rfl rfl rfl
  ·intro hg; apply aT; (refine aL rfl rfl rfl rfl rfl (by decide) ?_); refine aD ?_; exact rfl
  ·exact rfl
  ·exact rfl
  apply aS (s := 29) rfl rfl rfl
  ·intro hg; apply aO (s := 30) rfl (by (rw [hg]; rfl)); apply aT; (refine aU rfl rfl (by decide) rfl rfl rfl ?_); refine aD ?_; exact rfl
  ·exact rfl
  ·exact rfl
  apply aS (s := 29) rfl rfl rfl
  ·intro hg; apply aT; (refine bM rfl ?_); refine aD ?_; exact rfl
  ·exact rfl
  ·exact rfl
  apply aS (s := 29) rfl rfl rfl
  ·intro hg; apply aO (s := 31) rfl (by (rw [hg]; rfl)); apply aO (s := 32) rfl (by (rw [hg]; rfl)); apply aT; (refine bE rfl rfl rfl ?_); refine aD ?_; exact rfl
  ·exact rfl
  ·exact rfl
  refine fB rfl rfl (aD (aC ?_))
  refine cY rfl (fun hc2 => ?_) (fun hc2 => ?_)
  ·
   have hm1 := ha.bT _ (cV (show k.1 < a.bT.length by omega))
   refine aA (bM rfl ?_)
   refine aM rfl rfl rfl rfl rfl (by decide) ?_
   refine aK rfl rfl rfl rfl (bM rfl ?_)
   refine bI rfl rfl rfl rfl rfl rfl (by omega) ?_
   refine aK rfl rfl rfl rfl ?_
   refine bz rfl rfl (by omega) (by omega) ?_
   refine cB rfl (aD (aC (aE (aA ?_))))
   refine aL rfl rfl rfl rfl rfl (by decide) ?_
   refine aU rfl rfl (by decide) rfl rfl rfl ?_
   refine bM rfl (bE rfl rfl rfl (gU rfl ?_))
   apply aS (s := 46) rfl rfl rfl
   ·intro hg; apply aT; (refine aL rfl rfl rfl rfl rfl (by decide) ?_); refine aD ?_; exact rfl
   ·exact rfl
   ·exact rfl
   apply aS (s := 46) rfl rfl rfl
   ·intro hg; apply aO (s := 47) rfl (by (rw [hg]; rfl)); apply aT; (refine aU rfl rfl (by decide) rfl rfl rfl ?_); refine aD ?_; exact rfl
   ·exact rfl
   ·exact rfl
   apply aS (s := 46) rfl rfl rfl
   ·intro hg; apply aT; (refine bM rfl ?_); refine aD ?_; exact rfl
   ·exact rfl
   ·exact rfl
   apply aS (s := 46) rfl rfl rfl
   ·intro hg; apply aO (s := 48) rfl (by (rw [hg]; rfl)); apply aO (s := 49) rfl (by (rw [hg]; rfl)); apply aT; (refine bE rfl rfl rfl ?_); refine aD ?_; exact rfl
   ·exact rfl
   ·exact rfl
   refine fB rfl rfl (aD (aC ?_))
   refine cY rfl (fun hc3 => ?_) (fun hc3 => ?_)
   ·
    have hm2 := ha.bT _ (cV (show k.1 < a.bT.length by omega))
    refine aA (bM rfl ?_)
    refine aM rfl rfl rfl rfl rfl (by decide) ?_
    refine aK rfl rfl rfl rfl (bM rfl ?_)
    refine bI rfl rfl rfl rfl rfl rfl (by omega) ?_
    refine aK rfl rfl rfl rfl ?_
    refine gL rfl rfl (by omega) (by omega) ?_
    refine cB rfl (aD (bW (aC (aA ?_))))
    refine bz rfl rfl (by omega) (by omega) ?_
    refine bM rfl (aD ?_)
    refine bf (⟨k.1 + 1, by omega⟩) ?_ (by show y.moves.length - (k.1 + 1) < y.moves.length - k.1; omega)
    (refine dD.mk' ?_ ?_ <;> (repeat' (first | exact aH | exact aI | refine aB ?_ (Ty.aW _) | refine aB ?_ (Ty.aF _) | refine aB ?_ ?_)))
    all_goals skip
    all_goals exact Ty.bA (NL hc2 hc3)
   refine ak (bW (aC (aA ?_)))
   refine bz rfl rfl (by omega) (by omega) ?_
   refine bM rfl (aD ?_)
   refine bf (⟨k.1 + 1, by omega⟩) ?_ (by show y.moves.length - (k.1 + 1) < y.moves.length - k.1; omega)
   (refine dD.mk' ?_ ?_ <;> (repeat' (first | exact aH | exact aI | refine aB ?_ (Ty.aW _) | refine aB ?_ (Ty.aF _) | refine aB ?_ ?_)))
   all_goals skip
   all_goals exact Ty.bA (Mf hc2 hc3)
  refine ak (aC (aE (aA ?_)))
  refine aL rfl rfl rfl rfl rfl (by decide) ?_
  refine aU rfl rfl (by decide) rfl rfl rfl ?_
  refine bM rfl (bE rfl rfl rfl (gU rfl ?_))
  apply aS (s := 46) rfl rfl rfl
  ·intro hg; apply aT; (refine aL rfl rfl rfl rfl rfl (by decide) ?_); refine aD ?_; exact rfl
  ·exact rfl
  ·exact rfl
  apply aS (s := 46) rfl rfl rfl
  ·intro hg; apply aO (s := 47) rfl (by (rw [hg]; rfl)); apply aT; (refine aU rfl rfl (by decide) rfl rfl rfl ?_); refine aD ?_; exact rfl
  ·exact rfl
  ·exact rfl
  apply aS (s := 46) rfl rfl rfl
  ·intro hg; apply aT; (refine bM rfl ?_); refine aD ?_; exact rfl
  ·exact rfl
  ·exact rfl
  apply aS (s := 46) rfl rfl rfl
  ·intro hg; apply aO (s := 48) rfl (by (rw [hg]; rfl)); apply aO (s := 49) rfl (by (rw [hg]; rfl)); apply aT; (refine bE rfl rfl rfl ?_); refine aD ?_; exact rfl
  ·exact rfl
  ·exact rfl
  refine fB rfl rfl (aD (aC ?_))
  refine cY rfl (fun hc4 => ?_) (fun hc4 => ?_)
  ·
   have hm2 := ha.bT _ (cV (show k.1 < a.bT.length by omega))
   refine aA (bM rfl ?_)
   refine aM rfl rfl rfl rfl rfl (by decide) ?_
   refine aK rfl rfl rfl rfl (bM rfl ?_)
   refine bI rfl rfl rfl rfl rfl rfl (by omega) ?_
   refine aK rfl rfl rfl rfl ?_
   refine gL rfl rfl (by omega) (by omega) ?_
   refine cB rfl (aD (bW (aC (aA ?_))))
   refine bz rfl rfl (by omega) (by omega) ?_
   refine bM rfl (aD ?_)
   refine bf (⟨k.1 + 1, by omega⟩) ?_ (by show y.moves.length - (k.1 + 1) < y.moves.length - k.1; omega)
   (refine dD.mk' ?_ ?_ <;> (repeat' (first | exact aH | exact aI | refine aB ?_ (Ty.aW _) | refine aB ?_ (Ty.aF _) | refine aB ?_ ?_)))
   all_goals skip
   all_goals exact Ty.bA (Mw hc2 hc4)
  refine ak (bW (aC (aA ?_)))
  refine bz rfl rfl (by omega) (by omega) ?_
  refine bM rfl (aD ?_)
  refine bf (⟨k.1 + 1, by omega⟩) ?_ (by show y.moves.length - (k.1 + 1) < y.moves.length - k.1; omega)
  (refine dD.mk' ?_ ?_ <;> (repeat' (first | exact aH | exact aI | refine aB ?_ (Ty.aW _) | refine aB ?_ (Ty.aF _) | refine aB ?_ ?_)))
  all_goals skip
  all_goals exact Ty.bA (Mx hc2 hc4)
 refine cT (aR (aR (aq rfl (aC (aE (aA (bM rfl (cB rfl (aD ?_)))))))))
 refine aC (az (bq rfl rfl ?_))
 all_goals skip
 all_goals exact ay rfl rfl (congrArg (Ty.int .i64) (by unfold cr; rw [show k.1 = y.moves.length by have := k.2; omega]))
set_option maxRecDepth 100000 in
theorem kS (n : Int) (s : Span) : dx Tryz.prog 26 [Ty.int .i64 n, Ty.agg (dV.tys s)] (Ty.bool (jt n s)) := by
 refine au Tryz.func26 rfl (by decide) Tryz.ntmps26 (by exact Nat.le_of_ble_eq_true rfl) fun w0 M0 => ?_
 refine aE (aA (bJ rfl (dY rfl (aD (aC (aE (aA ?_)))))))
 refine aM rfl rfl rfl rfl rfl (by decide) ?_
 refine aK rfl rfl rfl rfl (bM rfl (bE rfl rfl rfl (gU rfl ?_)))
 apply aS (s := 9) rfl rfl rfl
 ·intro hg; apply aT; (refine bM rfl ?_); refine aD ?_; exact rfl
 ·exact rfl
 ·exact rfl
 apply aS (s := 9) rfl rfl rfl
 ·intro hg; apply aT; (refine aM rfl rfl rfl rfl rfl (by decide) ?_); refine aD ?_; exact rfl
 ·exact rfl
 ·exact rfl
 apply aS (s := 9) rfl rfl rfl
 ·intro hg; apply aO (s := 11) rfl (by (rw [hg]; rfl)); apply aT; (refine aK rfl rfl rfl rfl ?_); refine aD ?_; exact rfl
 ·exact rfl
 ·exact rfl
 apply aS (s := 9) rfl rfl rfl
 ·intro hg; apply aO (s := 10) rfl (by (rw [hg]; rfl)); apply aO (s := 12) rfl (by (rw [hg]; rfl)); apply aT; (refine bE rfl rfl rfl ?_); refine aD ?_; exact rfl
 ·exact rfl
 ·exact rfl
 refine fB rfl rfl (dY rfl (aD (aC (az (bq rfl rfl ?_)))))
 all_goals exact cC rfl rfl
set_option maxRecDepth 100000 in
theorem DH (s : Sk) (h : s.Ok 2) (n w : Int) (hn : -1000000 ≤ n ∧ n ≤ 1000000) (hw : 0 ≤ w ∧ w ≤ 1000) : eR Tryz.prog 82 [1000] [(1000, Cont.cells 149 (dc s))] [Ty.ptr 1000 0, Ty.int .i64 n, Ty.int .i64 w] [(1000, Cont.cells 149 (dc (aZ (aZ s))))] (Ty.agg (dV.tys (iB s n w))) := by
 refine eG Tryz.func82 rfl (by decide) Tryz.ntmps82 (by exact Nat.le_of_ble_eq_true rfl) fun w0 M0 => ?_
 have h0 : 0 ≤ s.taken ∧ s.taken + 2 ≤ 4611686018427387904 := h
 have hb1 := cw s (w + 1)
 have hb2 := cw (aZ s) (w + 1)
 have ht := cq s
 refine aE (aA ?_)
 refine b8 rfl (by exact List.cons_ne_nil _ _) rfl ?_
 refine aD (aC (aE (aA (bM rfl (q9 rfl (bM rfl ?_))))))
 refine bz rfl rfl (by omega) (by omega) ?_
 refine cI [(1000, 1000)] [] [(1000, Cont.cells 149 (dc (aZ s)))] (ji s ⟨by omega, by omega⟩ _) rfl rfl (by repeat (first | exact bO | refine aJ ?_ ?_ | exact eE List.mem_cons_self | exact aQ rfl rfl)) (cF (a := 1000) (b := 1000) (by exact List.mem_cons_self) rfl (bK (by exact List.mem_cons_self) rfl rfl rfl) pre_nil) (bN (a := 1000) (b := 1000) (by exact List.mem_cons_self) rfl (bK (by exact List.mem_cons_self) rfl rfl rfl) post_nil) (aQ rfl rfl) ?_
 refine gL rfl rfl (by omega) (by omega) ?_
 refine uN rfl rfl (bM rfl (q9 rfl (bM rfl ?_)))
 refine bz rfl rfl (by omega) (by omega) ?_
 refine cI [(1000, 1000)] [] [(1000, Cont.cells 149 (dc (aZ (aZ s))))] (ji (aZ s) ⟨by omega, by omega⟩ _) rfl rfl (by repeat (first | exact bO | refine aJ ?_ ?_ | exact eE List.mem_cons_self | exact aQ rfl rfl)) (cF (a := 1000) (b := 1000) (by exact List.mem_cons_self) rfl (bK (by exact List.mem_cons_self) rfl rfl rfl) pre_nil) (bN (a := 1000) (b := 1000) (by exact List.mem_cons_self) rfl (bK (by exact List.mem_cons_self) rfl rfl rfl) post_nil) (aQ rfl rfl) ?_
 refine bz rfl rfl (by omega) (by omega) ?_
 refine uX rfl rfl (aa (jN _ _) rfl rfl rfl rfl rfl ?_)
 refine bp rfl rfl (by decide) rfl rfl rfl rfl rfl rfl ?_
 refine aD (aC (az ?_))
 refine DO [1000] rfl rfl rfl rfl (by decide) rfl rfl rfl (by decide) (by repeat (first | exact fO | refine eN rfl (bK (by decide) rfl rfl rfl) ?_)) ?_
 all_goals exact fo (aQ rfl rfl)
 all_goals trace_state
set_option maxRecDepth 100000 in
theorem JM (y : bB) (a : dU) (ha : Ip y a) (m : Move) (hd : -1000000 ≤ m.day ∧ m.day ≤ 1000000) (h1 : m.src ≠ -1 → 0 ≤ m.src ∧ m.src.toNat < a.first.length) : dx Tryz.prog 83 [fH y, kr a, Ty.agg (dm.tys m)] (Ty.int .i64 (Ax y a m)) := by
 refine au Tryz.func83 rfl (by decide) Tryz.ntmps83 (by exact Nat.le_of_ble_eq_true rfl) fun w0 M0 => ?_
 refine aE (aA (bJ rfl (bJ rfl (bJ rfl (cB rfl (aD (aC (aE (aE ?_)))))))))
 refine aA ?_
 refine aM rfl rfl rfl rfl rfl (by decide) ?_
 refine aK rfl rfl rfl rfl (bE rfl rfl rfl (aD (aC ?_)))
 refine av rfl (fun hc1 => ?_) (fun hc1 => ?_)
 ·
  refine aE (aA (cB rfl (aD (aC (az (aV (bq rfl rfl ?_)))))))
  all_goals skip
  exact ay rfl rfl (congrArg (Ty.int .i64) (if_pos hc1).symm)
 refine ak (aC (aE ?_))
 have hs := h1 hc1
 refine aA ?_
 refine aY rfl rfl rfl (by exact Nat.le_of_ble_eq_true rfl) ?_
 refine aY rfl rfl rfl (by exact Nat.le_of_ble_eq_true rfl) ?_
 refine aM rfl rfl rfl rfl rfl (by decide) ?_
 refine aK rfl rfl rfl rfl ?_
 refine aM rfl rfl rfl rfl rfl (by decide) ?_
 refine aK rfl rfl rfl rfl ?_
 refine bz rfl rfl (by omega) (by omega) ?_
 refine aa (fk y a ha m.src (m.day + 1) hs.1 hs.2) rfl rfl rfl rfl rfl (cB rfl (aD (aC (az (bq rfl rfl ?_)))))
 all_goals skip
 exact ay rfl rfl (congrArg (Ty.int .i64) (if_neg hc1).symm)
end Go.Proofs.YtelbollidfdcjaaGreat
namespace Go.T
open Go Go.RowKit
section
variable {P : Program} {fr : Fr} {ops : Array Oper} {A : As} {rest : List Oper} {K : As → List (As × Fx) → Prop} {d : Nat} {t ty' : TypeId} {p : String} {e : Array Edge} [T : kU P]
end
end Go.T
namespace Go.T
open Go Go.RowKit
section
variable {P : Program} {fr : Fr} {ops : Array Oper} {A : As} {rest : List Oper} {K : As → List (As × Fx) → Prop} {d : Nat} {t ty' : TypeId} {p : String} {e : Array Edge} [T : kU P]
end
end Go.T
namespace Go.T
open Go Go.RowKit
section
variable {P : Program} {fr : Fr} {A : As} {Q : Exit → Act → World → Prop} {c : Code}
end
section
variable {P : Program} {fr : Fr} {ops : Array Oper} {A : As} {rest : List Oper} {K : As → List (As × Fx) → Prop} {d : Nat} {t ty' : TypeId} {p : String} {e : Array Edge} [T : kU P]
end
end Go.T
namespace Go.T
open Go Go.RowKit
section
variable {P : Program} {A : As} {fn : Func} {n : Nat} {w0 : World} {M0 : bC} {F : List Nat} {post : List (Nat × Cont)} [T : kU P]
theorem yT {w : World} {M : bC} {tm ty tg Tb : Nat} {l : List Ty} {ti : TI} {tmps : Array Value} (wf : Wf w M) (htg : ∀ x ∈ A.tags, x.2.den w M x.1) (hd : (A.slots tm).den w M (tmps.getD tm undef)) (hx : A.slots tm = .ptr tg 0) (hc : A.tag tg = some (.cells Tb l)) (h1 : fS tg) (hT : T.eZ[ty]? = some ti) (ha : ti.k.agg = true) (hl : l.length = ti.size) :
 ∃ b cs, tmps.getD tm undef = .pointer (some ⟨b, 0, none⟩) ∧ (loadVar ty ⟨b, 0, none⟩).run P w = .ok (.agg cs) w ∧ cK w M l cs.toList := by
 rw [hx] at hd
 obtain ⟨b, hb, e⟩ := hd
 obtain ⟨b', cs, hb', hh, hds⟩ := htg _ (cj hc)
 obtain ⟨u, rfl⟩ : ∃ u, tg = u + 1 := ⟨tg - 1, by omega⟩
 have := wf.inj b b' u (by omega) hb hb'
 subst this
 have hlen := cG hds
 have hload := gT (P := P) hT ha (w := w) (b := b) (off := 0) (cs := cs.toList) (by rw [hlen, hl]) (fun j v hj => by simpa [World.cell?, hh] using hj)
 exact ⟨b, cs, e, by simpa [Instr.loadAt, Instr.sureAddr] using hload, hds⟩
theorem MH (L : List Nat) {tm ty tg Tb tm' ty' tg' Tb' : Nat} {l l' : List Ty} {ti ti' : TI} {r1 r2 : Ty} (hr : fn.results = #[.cell tm ty, .cell tm' ty']) (ht : Nat.blt tm n = true) (ht' : Nat.blt tm' n = true) (hx : A.slots tm = .ptr tg 0) (hc : A.tag tg = some (.cells Tb l)) (h1 : fS tg) (hT : T.eZ[ty]? = some ti) (ha : ti.k.agg = true) (hl : l.length = ti.size)
 (hx' : A.slots tm' = .ptr tg' 0) (hc' : A.tag tg' = some (.cells Tb' l')) (h1' : fS tg') (hT' : T.eZ[ty']? = some ti') (ha' : ti'.k.agg = true) (hl' : l'.length = ti'.size)
 (hL : ∀ t ∈ F, t ∈ L) (hp : o9 A L post) (hs : xX L (.agg l) r1) (hs2 : xX L (.agg l') r2) :
 dy ⟨n, w0, M0, F, .plain⟩ A (bodyPost P fn (cW F post w0 M0 (Ty.jv [r1, r2])) .ret) := by
 intro a w ⟨M, ok, hsl, htg⟩
 obtain ⟨b, cs, e, hload, hds⟩ := yT ok.wf htg (hsl tm (by simpa using ht)) hx hc h1 hT ha hl
 obtain ⟨b2, cs2, e2, hload2, hds2⟩ := yT ok.wf htg (hsl tm' (by simpa using ht')) hx' hc' h1' hT' ha' hl'
 refine ⟨ok.gZ (by simp), .tuple #[.agg cs, .agg cs2], ?_, _, oV L M, rfl, nX ok.wf, nH hL ok.base, ⟨_, rfl, hs _ _ _ ok.wf ⟨cs, rfl, hds⟩, hs2 _ _ _ ok.wf ⟨cs2, rfl, hds2⟩, trivial⟩, sY ok.wf htg hp⟩
 have e' : a.tmps[tm]?.getD undef = .pointer (some ⟨b, 0, none⟩) := by rw [← Array.getD_eq_getD_getElem?]; exact e
 have e2' : a.tmps[tm']?.getD undef = .pointer (some ⟨b2, 0, none⟩) := by rw [← Array.getD_eq_getD_getElem?]; exact e2
 simp [results, hr, e', e2', asAddr, hload, hload2]
end
end Go.T
namespace Go.T
open Go Go.RowKit
section
variable {P : Program} {fr : Fr} {ops : Array Oper} {A : As} {rest : List Oper} {K : As → List (As × Fx) → Prop} {d : Nat} {t ty' : TypeId} {p : String} {e : Array Edge} [T : kU P]
theorem zF {x y : Operand} {tg Tb off : Nat} {l l' lr : List Ty} {ti : TI} (hx : A.op fr x = .ptr tg off) (hc : A.tag tg = some (.cells Tb l)) (h1 : fS tg) (hT : T.eZ[ty']? = some ti) (hy : A.op fr y = .agg l') (hsz : ti.size = l'.length) (hlen : off + l'.length ≤ l.length) (ho : l'.all Ty.one = true) (hlr : l.take off ++ (l' ++ l.drop (off + l'.length)) = lr) (hdt : kg (bl lr) [tg] = true)
 (h : aj P fr ops rest (A.after { d := none, S := [tg], sets := [(tg, .cells Tb lr)], rs := cD x ++ cD y, rt := [tg] }) fun A' l'' => K A' ((A, { d := none, S := [tg], sets := [(tg, .cells Tb lr)], rs := cD x ++ cD y, rt := [tg] }) :: l'')) :
 aj P fr ops (⟨none, .store ty' x y, t, p, e, none⟩ :: rest) A K := by
 refine ⟨_, jE rfl rfl rfl (by simp) (by simpa using h1.1) (by simp) fun a w M wf hr ht => ?_, h⟩
 obtain ⟨hdx, hdy⟩ := op2 hr
 rw [hx] at hdx; rw [hy] at hdy
 obtain ⟨b, hb, ex⟩ := hdx
 obtain ⟨vs, ey, hvs⟩ := hdy
 obtain ⟨b', cs, hb', hh, hd⟩ := ht _ (cj hc) (by simp)
 obtain ⟨u, rfl⟩ : ∃ u, tg = u + 1 := ⟨tg - 1, by omega⟩
 have := wf.inj b b' u (by omega) hb hb'
 subst this
 have hl1 := cG hd
 have hl2 := cG hvs
 simp only [Array.length_toList] at hl1 hl2
 obtain ⟨h1', h2', h3'⟩ := gw (cs' := (cs.toList.take (off + 0) ++ vs.toList ++ cs.toList.drop (off + 0 + vs.toList.length)).toArray) (Tb := Tb) wf hb _ rfl
 have hones : ∀ v ∈ vs.toList, v.oneCell' = true := fun v hv => by
  obtain ⟨i, hi, hvi⟩ := List.getElem_of_mem hv
  have hlt : i < l'.length := by simp at hi; omega
  obtain ⟨u', hu', hdu⟩ := dQ hvs i l'[i] (List.getElem?_eq_getElem hlt)
  rw [List.getElem?_eq_getElem hi, hvi] at hu'
  injection hu' with hu'
  subst hu'
  exact (l'[i]).isOne (List.all_eq_true.1 ho _ (List.getElem_mem hlt)) hdu
 refine ⟨_, ?_, M, h1', h2', trivial, ?_⟩
 ·have hst := run_storeCells_at (P := P) b off Tb vs.toList 0 cs w hh (by simp; omega) hones
  rw [l8 _ hh] at hst
  have hsz' : vs.size = ti.size := by omega
  simp only [Nat.add_zero] at hst ⊢
  simp [execOp, Instr.storeAt, Instr.sureAddr, ex, ey, storeVar, Value.cells, dS hT, hsz'] at hst ⊢
  rw [hst]; rfl
 intro z hz
 simp only [List.mem_singleton] at hz
 subst hz
 refine ⟨b, _, hb, h3', bX h2' (by intro _ _ h; cases h) (gA hdt) ?_⟩
 subst hlr
 have hq := eO (m8 off hd) (eO hvs (lM (off + l'.length) hd))
 rw [show l'.length = vs.toList.length by simp; omega] at hq ⊢
 simpa using hq
end
end Go.T
namespace Go.Proofs.YtelbollidfdcjaaGreat
open Go Go.T
set_option maxHeartbeats 8000000
section
variable {d : Md} {s : Sk} {k i : Nat} {p : (List Move × List Int) × Sk} {y : bB} {a : dU} {m : Move} {n : Int}
theorem IU (d : Md) (k : Nat) : (((d.bs k).1.1 ++ [bu (d.bs k).2 60], (d.bs k).1.2 ++ [⟨300, iB (aZ (d.bs k).2) (bu (d.bs k).2 60) 12⟩]), aZ (aZ (aZ (d.bs k).2))) = d.bs (k + 1) := rfl
theorem Fu (d : Md) : (([], []), aZ (aZ d.s)) = d.bs 0 := rfl
theorem GR (d : Md) (i : Nat) : (((d.ms i).1.1 ++ [d.full (d.ms i) i], (d.ms i).1.2 ++ [d.num (d.ms i) i]), aZ (aZ (aZ (d.qL (d.ms i).2)))) = d.ms (i + 1) := rfl
theorem Hi (d : Md) : (([], []), aZ (d.bs d.nb).2) = d.ms 0 := rfl
theorem Iv (d : Md) (k : Nat) : ((d.ls k).1 ++ [d.NR (d.ls k).2], aZ (aZ (aZ (aZ (d.ls k).2)))) = d.ls (k + 1) := rfl
theorem JP (d : Md) : ([], aZ (d.hs d.nb).2) = d.ls 0 := rfl
theorem I2 (d : Md) (k : Nat) : ((d.hs k).1.set k ⟨min 300 (d.most k (d.D + 1).toNat + bu (d.hs k).2 30), (nth (d.hs k).1 k).first⟩, aZ (d.hs k).2) = d.hs (k + 1) := rfl
theorem JY (d : Md) : (d.gV, (d.ms d.many).2) = d.hs 0 := rfl
theorem pJ (hd : d.Ok) (hi : i ≤ d.many) (hp : Lc d i p) : Ip (d.yd p.1.1) (d.am p.1.2) := by
 have h := (d.rz d.nb).first
 have hl := hp.len1
 refine ⟨by have := hp.len2; show p.1.1.length ≤ p.1.2.length; omega, ?_, fun x hx => ?_, fun x hx => ?_⟩
 ·have h1 := (d.zl hd).1; have h2 := hp.len2; show p.1.2.length ≤ 1000; omega
 ·have := h x hx; omega
 have := hp.num x hx; omega
theorem NI (h : d.src s = -1) : n = lV y a (d.mv s i) n := (if_pos h).symm
theorem LC (h : ¬ d.src s = -1) : min n (cr y a (d.src s) (d.day i)) = lV y a (d.mv s i) n := (if_neg h).symm
theorem NC (h : d.dst s = -1) : n = nI y a (d.mv s i) n := (if_pos h).symm
theorem Ly (h : ¬ d.dst s = -1) : min n (300 - cr y a (d.dst s) (d.day i + 1)) = nI y a (d.mv s i) n := (if_neg h).symm
theorem Nb : n = mW y a m n 0 := rfl
theorem MP (h : ((decide ((nth y.moves k).day = m.day) && decide ((nth y.moves k).src = m.src)) && !decide (m.src = -1)) = true) : ¬ m.src = -1 := by simp only [Bool.and_eq_true, Bool.not_eq_true', decide_eq_false_iff_not] at h; exact h.2
theorem num_eq (d : Md) (p : (List Move × List Int) × Sk) (i : Nat) : max 0 (min (mW (d.yd p.1.1) (d.am p.1.2) (d.mv p.2 i) (nI (d.yd p.1.1) (d.am p.1.2) (d.mv p.2 i) (lV (d.yd p.1.1) (d.am p.1.2) (d.mv p.2 i) (bu (d.qL p.2) 40))) (d.yd p.1.1).moves.length) (Ax (d.yd p.1.1) (d.am p.1.2) (d.mv p.2 i))) = d.num p i := rfl
theorem Jf {α : Type} {E : El α} {T tg n : Nat} {xs : List α} (h : xs.length = n) : (Ty.row E T tg xs).Sub (Ty.vs tg n) := by subst h; exact Ty.wT rfl
theorem Lf (d : Md) (b : Nat) : 0 = d.most b 0 := rfl
theorem LZ (d : Md) (b t : Nat) {bs : List ve} : max (d.most b t) (cr ⟨d.D, bs, d.fM, []⟩ d.real (b : Nat) (t : Nat)) = d.most b (t + 1) := by
 have e : cr ⟨d.D, bs, d.fM, []⟩ d.real (b : Nat) (t : Nat) = cr d.y0 d.real (b : Nat) (t : Nat) := tK (y := d.y0)
 rw [e]; rfl
theorem wL (hd : d.Ok) {bs : List ve} {l : List Level} : Ip ⟨d.D, bs, d.fM, l⟩ d.real := by
 have h := pJ hd (Nat.le_refl _) (d.r6 hd d.many (Nat.le_refl _))
 exact ⟨h.len, h.oX, h.first, h.bT⟩
theorem NF (h : ((decide ((nth y.moves k).day = m.day) && decide ((nth y.moves k).src = m.src)) && !decide (m.src = -1)) = false) : mW y a m n k = mW y a m n (k + 1) := (if_neg (by rw [h]; decide)).symm
theorem MB (h : ((decide ((nth y.moves k).day = m.day) && decide ((nth y.moves k).src = m.src)) && !decide (m.src = -1)) = true) : min (mW y a m n k) (cr y a m.src m.day - nth a.bT k) = mW y a m n (k + 1) := (if_pos h).symm
theorem A8 (h : d.uk s = d.ur s) : (-1 = d.src s ∧ bu (aZ (aZ s)) d.nb = d.dst s) ∧ aZ (aZ (aZ s)) = d.qL s := ⟨⟨(if_pos h).symm, (if_pos h).symm⟩, (if_pos h).symm⟩
theorem Bl (h : ¬ d.uk s = d.ur s) : (d.uk s = d.src s ∧ d.ur s = d.dst s) ∧ aZ (aZ s) = d.qL s := ⟨⟨(if_neg h).symm, (if_neg h).symm⟩, (if_neg h).symm⟩
theorem zf {l : List Int} (hd : d.Ok) (h2 : ¬ d.src s = -1) (hl : l.length = d.nb) : 0 ≤ d.src s ∧ (d.src s).toNat < l.length := by
 have h1 := (d.zG (s := s) hd).1
 omega
theorem zI {l : List Int} (hd : d.Ok) (h2 : ¬ d.dst s = -1) (hl : l.length = d.nb) : 0 ≤ d.dst s ∧ (d.dst s).toNat < l.length := by
 have h1 := (d.zG (s := s) hd).2.1
 omega
end
attribute [local irreducible] Md.D Md.MV Md.nb Md.bs Md.first Md.gV Md.BY Md.many Md.src Md.dst Md.qL Md.day Md.num Md.ms Md.bT Md.fM Md.most Md.hs Md.jx Md.NP Md.nl Md.ls Md.u9 cr lV nI mW sC iB aZ bu jK Ax Md.uk Md.ur
attribute [local irreducible] iP fV m6 qX ig iw ia ij ir qN iy qQ eA ga qU gS qM nth fX dy aj dx bodyPost Exit.then Exit.inBlock Code.wp Code.wpIn qO iz qT qR iZ eR cW cZ bodyPostM eH
set_option maxRecDepth 100000 in
theorem ME (d : Md) (hd : d.Ok) (h : d.s.Ok 1000) : eR Tryz.prog 17 [1000] [(1000, Cont.cells 149 (dc d.s))] [Ty.ptr 1000 0, Ty.int .i64 d.days, Ty.int .i64 d.bins, Ty.int .i64 d.moves, Ty.int .i64 d.levels] [(1000, Cont.cells 149 (dc d.sk))] (Ty.jv [fH d.c6, kr d.real]) := by
 refine eG Tryz.func17 rfl (by decide) Tryz.ntmps17 (by exact Nat.le_of_ble_eq_true rfl) fun w0 M0 => ?_
 have h0 : 0 ≤ d.s.taken ∧ d.s.taken + 1000 ≤ 4611686018427387904 := h
 have o1 := hd.days
 have o2 := hd.bins
 have o3 := hd.moves
 have o4 := hd.levels
 have hD := d.IC hd
 have hnb := d.Dn hd
 have hmn := d.zl hd
 have hnl := d.Ks hd
 have hs1 := cq d.s
 have hs2 := cq (aZ d.s)
 have B := d.rz d.nb
 have b1 : d.first.length = d.nb := by unfold Md.first; exact B.len1
 have b2 : d.gV.length = d.nb := by unfold Md.gV; exact B.len2
 refine aE (aA ?_)
 refine b8 rfl (by exact List.cons_ne_nil _ _) rfl ?_
 refine b8 rfl (by exact List.cons_ne_nil _ _) rfl ?_
 refine aD (aC (aE (aA (q9 rfl (bM rfl ?_)))))
 refine cI [(1000, 1000)] [] [(1000, Cont.cells 149 (dc (aZ d.s)))] (vB d.s ⟨by omega, by omega⟩ 1 d.days (by omega) (by omega)) rfl rfl (by repeat (first | exact bO | refine aJ ?_ ?_ | exact eE List.mem_cons_self | exact aQ rfl rfl)) (cF (a := 1000) (b := 1000) (by exact List.mem_cons_self) rfl (bK (by exact List.mem_cons_self) rfl rfl rfl) pre_nil) (bN (a := 1000) (b := 1000) (by exact List.mem_cons_self) rfl (bK (by exact List.mem_cons_self) rfl rfl rfl) post_nil) (aQ rfl rfl) ?_
 refine dG rfl rfl (by exact List.cons_ne_nil _ _) rfl (by repeat (first | exact (aX.nil : aX _ _ [] _) | (show aX _ _ ((_, _) :: _) _; apply aX.one; (· exact (rfl : _ = Ty.int _ _)); (· exact rfl)))) (by exact (rfl : _ = some [_, _, _, _])) ?_
 refine b8 rfl (by exact List.cons_ne_nil _ _) rfl ?_
 refine bp rfl rfl (by decide) rfl rfl rfl rfl rfl rfl ?_
 refine aD (aC (aE ?_))
 refine dw (B := live [(0, Ty.ptr 1000 0), (2, Ty.int .i64 d.bins), (3, Ty.int .i64 d.moves), (4, Ty.int .i64 d.levels), (10, Ty.ptr 11 0), (11, Ty.ptr 12 0), (12, Ty.ptr 13 0)] [(11, Cont.cells 27 [Ty.int .i64 0, Ty.ex (.slice none 0 0), Ty.ex (.slice none 0 0), Ty.ex (.slice none 0 0)]), (12, Cont.cells 30 [Ty.ex (.slice none 0 0), Ty.ex (.slice none 0 0)]), (13, Cont.cells 27 [Ty.int .i64 (jK d.s 1 d.days), Ty.ex (.slice none 0 0), Ty.ex (.slice none 0 0), Ty.ex (.slice none 0 0)]), (1000, Cont.cells 149 (dc (aZ d.s)))]) ?_ ?_
 ·refine dD.mk' ?_ ?_
  ·(repeat (first | refine aB ?_ (Ty.aW _) | refine aB ?_ (Ty.aF _))); exact aH
  refine aG rfl (Cont.aF _) ?_; refine aG rfl (Cont.aF _) ?_; refine aG rfl (Cont.eB ⟨Ty.aF _, Ty.aF _, Ty.aF _, Ty.aF _, trivial⟩) ?_; refine aG rfl (Cont.aF _) ?_; exact aI
 refine aA ?_
 refine b8 rfl (by exact List.cons_ne_nil _ _) rfl ?_
 refine aD (aC (aE (aE ?_)))
 refine dw (B := live [(0, Ty.ptr 1000 0), (2, Ty.int .i64 d.bins), (3, Ty.int .i64 d.moves), (4, Ty.int .i64 d.levels), (10, Ty.ptr 11 0), (11, Ty.ptr 12 0), (12, Ty.ptr 13 0), (13, Ty.ptr 14 0)] [(11, Cont.cells 27 [Ty.int .i64 0, Ty.ex (.slice none 0 0), Ty.ex (.slice none 0 0), Ty.ex (.slice none 0 0)]), (12, Cont.cells 30 [Ty.ex (.slice none 0 0), Ty.ex (.slice none 0 0)]), (13, Cont.cells 27 [Ty.int .i64 (jK d.s 1 d.days), Ty.ex (.slice none 0 0), Ty.ex (.slice none 0 0), Ty.ex (.slice none 0 0)]), (14, Cont.cells 30 [Ty.ex (.slice none 0 0), Ty.ex (.slice none 0 0)]), (1000, Cont.cells 149 (dc (aZ d.s)))]) ?_ ?_
 ·refine dD.mk' ?_ ?_
  ·(repeat (first | refine aB ?_ (Ty.aW _) | refine aB ?_ (Ty.aF _))); exact aH
  refine aG rfl (Cont.aF _) ?_; refine aG rfl (Cont.aF _) ?_; refine aG rfl (Cont.aF _) ?_; refine aG rfl (Cont.aF _) ?_; refine aG rfl (Cont.aF _) ?_; exact aI
 refine aA (q9 rfl (bM rfl ?_))
 refine cI [(1000, 1000)] [] [(1000, Cont.cells 149 (dc (aZ (aZ d.s))))] (vB (aZ d.s) ⟨by omega, by omega⟩ 1 d.bins (by omega) (by omega)) rfl rfl (by repeat (first | exact bO | refine aJ ?_ ?_ | exact eE List.mem_cons_self | exact aQ rfl rfl)) (cF (a := 1000) (b := 1000) (by exact List.mem_cons_self) rfl (bK (by exact List.mem_cons_self) rfl rfl rfl) pre_nil) (bN (a := 1000) (b := 1000) (by exact List.mem_cons_self) rfl (bK (by exact List.mem_cons_self) rfl rfl rfl) post_nil) (aQ rfl rfl) ?_
 refine bM rfl (aD (aC ?_))
 refine gX (s := 31) rfl (Ty.bA (show jK (aZ d.s) 1 d.bins = ((d.nb : Nat) : Int) from (show d.MV = _ from hnb.2) ▸ (by unfold Md.MV; rfl))) ?_
 refine fK (tg := 13) rfl (Cont.eB (l' := [Ty.int .i64 d.D, Ty.ex (.slice none 0 0), Ty.ex (.slice none 0 0), Ty.ex (.slice none 0 0)]) ⟨Ty.bA (by unfold Md.D; rfl), Ty.aF _, Ty.aF _, Ty.aF _, trivial⟩) ?_
 refine ah ?_
 refine cU (fun (k : {k : Nat // k ≤ d.nb}) => live [(0, Ty.ptr 1000 0), (3, Ty.int .i64 d.moves), (4, Ty.int .i64 d.levels), (10, Ty.ptr 11 0), (11, Ty.ptr 12 0), (12, Ty.ptr 13 0), (13, Ty.ptr 14 0), (31, Ty.int .i64 (d.nb : Nat)), (32, Ty.int .i64 (k.1 : Nat))] [(11, Cont.cells 27 [Ty.int .i64 0, Ty.ex (.slice none 0 0), Ty.ex (.slice none 0 0), Ty.ex (.slice none 0 0)]), (12, Cont.cells 30 [Ty.ex (.slice none 0 0), Ty.ex (.slice none 0 0)]), (13, Cont.cells 27 [Ty.int .i64 d.D, Ty.row eU 39 49 (d.bs k.1).1.2, Ty.ex (.slice none 0 0), Ty.ex (.slice none 0 0)]), (14, Cont.cells 30 [Ty.row cm 3 40 (d.bs k.1).1.1, Ty.ex (.slice none 0 0)]), (1000, Cont.cells 149 (dc (d.bs k.1).2))]) (fun k => d.nb - k.1) (⟨0, by omega⟩) ?_ fun k => ?_
 ·(refine dD.mk' ?_ ?_ <;> (repeat' (first | exact aH | exact aI | exact dK | refine aB ?_ (Ty.aW _) | refine aB ?_ (Ty.aF _) | refine aG rfl (Cont.aF _) ?_ | refine aG rfl (Cont.dL ?_) ?_ | refine bY ?_ (Ty.aF _) | refine bY ?_ ?_)))
  all_goals first | exact Ty.bA (congrArg (fun p => p.2.mixed) (Fu d)) | exact Ty.bA (congrArg (fun p => p.2.taken) (Fu d)) | exact Ty.gq (congrArg (fun p => p.2.grain) (Fu d)) | exact lu (congrArg (fun p => p.1.1) (Fu d)).symm | exact lu (congrArg (fun p => p.1.2) (Fu d)).symm
 have hk := k.2
 have BK := d.rz k.1
 have c1 := BK.len1
 have c2 := BK.len2
 have c3 := BK.taken
 have c4 := cw (d.bs k.1).2 60
 have c5 := cq (d.bs k.1).2
 refine aE (aA (bE rfl rfl rfl (aD (aC (aE ?_)))))
 refine av rfl (fun hc1 => ?_) (fun hc1 => ?_)
 ·
  refine ak (aC (aE (ah (aE (aA (q9 rfl ?_))))))
  refine cI [(1000, 1000)] [] [(1000, Cont.cells 149 (dc (aZ (d.bs k.1).2)))] (ji (d.bs k.1).2 ⟨by omega, by omega⟩ 60) rfl rfl (by repeat (first | exact bO | refine aJ ?_ ?_ | exact eE List.mem_cons_self | exact aQ rfl rfl)) (cF (a := 1000) (b := 1000) (by exact List.mem_cons_self) rfl (bK (by exact List.mem_cons_self) rfl rfl rfl) pre_nil) (bN (a := 1000) (b := 1000) (by exact List.mem_cons_self) rfl (bK (by exact List.mem_cons_self) rfl rfl rfl) post_nil) (aQ rfl rfl) ?_
  refine cB rfl (aD (aC (aE (aA ?_))))
  refine aL rfl rfl rfl rfl rfl (by decide) ?_
  refine aU rfl rfl (by decide) rfl rfl rfl ?_
  refine bM rfl ?_
  refine bt (E := cm) (xs := [bu (d.bs k.1).2 60]) rfl rfl rfl rfl rfl (by decide) (by decide) (by repeat (first | exact (aX.nil : aX _ _ [] _) | (show aX _ _ ((_, _) :: _) _; apply aX.one; (· exact (rfl : _ = Ty.int _ _)); (· exact rfl)))) (by exact rfl) rfl ?_
  refine gH rfl rfl (by decide) rfl rfl rfl rfl rfl rfl (by decide) (by (simp <;> omega)) (by (simp <;> omega)) ?_
  refine aL rfl rfl rfl rfl rfl (by decide) ?_
  refine ct rfl rfl (by decide) rfl rfl (by exact (rfl : _ = Ty.row _ _ _ _)) rfl (by exact Nat.le_of_ble_eq_true rfl) rfl rfl (by exact rfl) ?_
  refine aD (aC ?_)
  refine dw (B := live [(0, Ty.ptr 1000 0), (3, Ty.int .i64 d.moves), (4, Ty.int .i64 d.levels), (10, Ty.ptr 11 0), (11, Ty.ptr 12 0), (12, Ty.ptr 13 0), (13, Ty.ptr 14 0), (14, Ty.int .i64 (bu (d.bs k.1).2 60)), (31, Ty.int .i64 (d.nb : Nat)), (32, Ty.int .i64 (k.1 : Nat))] [(11, Cont.cells 27 [Ty.int .i64 0, Ty.ex (.slice none 0 0), Ty.ex (.slice none 0 0), Ty.ex (.slice none 0 0)]), (12, Cont.cells 30 [Ty.ex (.slice none 0 0), Ty.ex (.slice none 0 0)]), (13, Cont.cells 27 [Ty.int .i64 d.D, Ty.row eU 39 49 (d.bs k.1).1.2, Ty.ex (.slice none 0 0), Ty.ex (.slice none 0 0)]), (14, Cont.cells 30 [Ty.row cm 3 40 ((d.bs k.1).1.1 ++ [bu (d.bs k.1).2 60]), Ty.ex (.slice none 0 0)]), (1000, Cont.cells 149 (dc (aZ (d.bs k.1).2)))]) ?_ ?_
  ·refine dD.mk' ?_ ?_
   ·(repeat (first | refine aB ?_ (Ty.aW _) | refine aB ?_ (Ty.aF _))); exact aH
   refine aG rfl (Cont.aF _) ?_; refine aG rfl (Cont.aF _) ?_; refine aG rfl (Cont.aF _) ?_; refine aG rfl (Cont.eB ⟨Ty.aF _, Ty.aF _, trivial⟩) ?_; refine aG rfl (Cont.aF _) ?_; exact aI
  refine cM mixed rfl ?_
  refine aL rfl rfl rfl rfl rfl (by decide) ?_
  refine aU rfl rfl (by decide) rfl rfl rfl ?_
  refine q9 rfl (bM rfl ?_)
  refine cI [(1000, 1000)] [] [(1000, Cont.cells 149 (dc (aZ (aZ (aZ (d.bs k.1).2)))))] (DH (aZ (d.bs k.1).2) ⟨by omega, by omega⟩ (bu (d.bs k.1).2 60) 12 (by omega) (by omega)) rfl rfl (by repeat (first | exact bO | refine aJ ?_ ?_ | exact eE List.mem_cons_self | exact aQ rfl rfl)) (cF (a := 1000) (b := 1000) (by exact List.mem_cons_self) rfl (bK (by exact List.mem_cons_self) rfl rfl rfl) pre_nil) (bN (a := 1000) (b := 1000) (by exact List.mem_cons_self) rfl (bK (by exact List.mem_cons_self) rfl rfl rfl) post_nil) (aQ rfl rfl) ?_
  refine dG rfl rfl (by exact List.cons_ne_nil _ _) rfl (by repeat (first | exact (aX.nil : aX _ _ [] _) | (show aX _ _ ((_, _) :: _) _; apply aX.one; (· exact (rfl : _ = Ty.int _ _)); (· exact rfl)) | (show aX _ _ ((_, _) :: _) _; apply aX.agg; (· exact (rfl : _ = Ty.agg _))))) (by exact (rfl : _ = some [_, _, _])) ?_
  refine bt (E := eU) (xs := [⟨300, iB (aZ (d.bs k.1).2) (bu (d.bs k.1).2 60) 12⟩]) rfl rfl rfl rfl rfl (by decide) (by decide) (by repeat (first | exact (aX.nil : aX _ _ [] _) | (show aX _ _ ((_, _) :: _) _; apply aX.agg; (· exact (rfl : _ = Ty.agg _))))) (by exact rfl) rfl ?_
  refine gH rfl rfl (by decide) rfl rfl rfl rfl rfl rfl (by decide) (by (simp <;> omega)) (by (simp <;> omega)) ?_
  refine aL rfl rfl rfl rfl rfl (by decide) ?_
  refine ct rfl rfl (by decide) rfl rfl (by exact (rfl : _ = Ty.row _ _ _ _)) rfl (by exact Nat.le_of_ble_eq_true rfl) rfl rfl (by exact rfl) ?_
  refine aD ?_
  refine ⟨by kernel_rfl, ?_⟩
  refine bW (aC (aA ?_))
  refine bz rfl rfl (by omega) (by omega) ?_
  refine bM rfl (aD ?_)
  refine bf (⟨k.1 + 1, by omega⟩) ?_ (by show d.nb - (k.1 + 1) < d.nb - k.1; omega)
  (refine dD.mk' ?_ ?_ <;> (repeat' (first | exact aH | exact aI | exact dK | refine aB ?_ (Ty.aW _) | refine aB ?_ (Ty.aF _) | refine aG rfl (Cont.aF _) ?_ | refine aG rfl (Cont.dL ?_) ?_ | refine bY ?_ (Ty.aF _) | refine bY ?_ ?_)))
  all_goals skip
  all_goals first | exact Ty.bA (congrArg (fun p => p.2.mixed) (IU d _)) | exact Ty.bA (congrArg (fun p => p.2.taken) (IU d _)) | exact Ty.gq (congrArg (fun p => p.2.grain) (IU d _)) | exact Ty.gG (congrArg (fun p => p.1.1) (IU d _)) | exact Ty.gG (congrArg (fun p => p.1.2) (IU d _))
 refine cT (aR (aR (aq rfl (aC (aE ?_)))))
 obtain ⟨k, hk⟩ := k
 obtain rfl : k = d.nb := by have h1 : ¬ (k : Int) < (d.nb : Int) := hc1; have h2 : k ≤ d.nb := hk; omega
 have b3 := B.taken
 have b4 := cq (d.bs d.nb).2
 refine aA (q9 rfl (bM rfl ?_))
 refine bz rfl rfl (by omega) (by omega) ?_
 refine cI [(1000, 1000)] [] [(1000, Cont.cells 149 (dc (aZ (d.bs d.nb).2)))] (ji (d.bs d.nb).2 ⟨by omega, by omega⟩ _) rfl rfl (by repeat (first | exact bO | refine aJ ?_ ?_ | exact eE List.mem_cons_self | exact aQ rfl rfl)) (cF (a := 1000) (b := 1000) (by exact List.mem_cons_self) rfl (bK (by exact List.mem_cons_self) rfl rfl rfl) pre_nil) (bN (a := 1000) (b := 1000) (by exact List.mem_cons_self) rfl (bK (by exact List.mem_cons_self) rfl rfl rfl) post_nil) (aQ rfl rfl) ?_
 refine cB rfl (aD (aC (aE (aE ?_))))
 refine gX (s := 15) rfl (Ty.bA (show bu (d.bs d.nb).2 (d.moves + 1) = ((d.many : Nat) : Int) from hmn.2 ▸ (by unfold Md.BY; rfl))) ?_
 refine fK (tg := 13) rfl (Cont.eB (l' := [Ty.int .i64 d.D, Ty.row eU 39 49 d.gV, Ty.ex (.slice none 0 0), Ty.ex (.slice none 0 0)]) ⟨Ty.aF _, Ty.gG (by unfold Md.gV; rfl), Ty.aF _, Ty.aF _, trivial⟩) ?_
 refine fK (tg := 14) rfl (Cont.eB (l' := [Ty.row cm 3 40 d.first, Ty.ex (.slice none 0 0)]) ⟨Ty.gG (by unfold Md.first; rfl), Ty.aF _, trivial⟩) ?_
 refine aA (bM rfl (bM rfl (aD (aC (ah ?_)))))
 refine cU (fun (i : {i : Nat // i ≤ d.many}) => live [(0, Ty.ptr 1000 0), (4, Ty.int .i64 d.levels), (10, Ty.ptr 11 0), (11, Ty.ptr 12 0), (12, Ty.ptr 13 0), (13, Ty.ptr 14 0), (15, Ty.int .i64 (d.many : Nat)), (56, Ty.int .i64 (d.many : Nat)), (57, Ty.int .i64 (i.1 : Nat))] [(11, Cont.cells 27 [Ty.int .i64 0, Ty.ex (.slice none 0 0), Ty.ex (.slice none 0 0), Ty.ex (.slice none 0 0)]), (12, Cont.cells 30 [Ty.ex (.slice none 0 0), Ty.ex (.slice none 0 0)]), (13, Cont.cells 27 [Ty.int .i64 d.D, Ty.row eU 39 49 d.gV, Ty.row dm 41 175 (d.ms i.1).1.1, Ty.ex (.slice none 0 0)]), (14, Cont.cells 30 [Ty.row cm 3 40 d.first, Ty.row cm 3 180 (d.ms i.1).1.2]), (1000, Cont.cells 149 (dc (d.ms i.1).2))]) (fun i => d.many - i.1) (⟨0, by omega⟩) ?_ fun i => ?_
 ·(refine dD.mk' ?_ ?_ <;> (repeat' (first | exact aH | exact aI | exact dK | refine aB ?_ (Ty.aW _) | refine aB ?_ (Ty.aF _) | refine aG rfl (Cont.aF _) ?_ | refine aG rfl (Cont.dL ?_) ?_ | refine bY ?_ (Ty.aF _) | refine bY ?_ ?_)))
  all_goals first | exact Ty.bA (congrArg (fun p => p.2.mixed) (Hi d)) | exact Ty.bA (congrArg (fun p => p.2.taken) (Hi d)) | exact Ty.gq (congrArg (fun p => p.2.grain) (Hi d)) | exact lu (congrArg (fun p => p.1.1) (Hi d)).symm | exact lu (congrArg (fun p => p.1.2) (Hi d)).symm
 have hi := i.2
 have hP := d.r6 hd i.1 hi
 have e1 := hP.len1
 have e2 := hP.len2
 have e3 := hP.taken
 have e4 := d.x8 (d.ms i.1).2
 have e5 := cq (d.qL (d.ms i.1).2)
 have e6 := cw (d.qL (d.ms i.1).2) 40
 have e7 := cq (d.ms i.1).2
 have e8 := cq (aZ (d.ms i.1).2)
 refine aE (aA (bE rfl rfl rfl (aD (aC (aE ?_)))))
 refine av rfl (fun hc2 => ?_) (fun hc2 => ?_)
 ·
  refine ak (aC (aE (ah (aE (aA (bM rfl (cB rfl (aD (aC ?_)))))))))
  refine aE ?_
  have hdv := xM (D := d.D) (i := i.1) (n := d.many) hD.1 (by omega)
  have hmul : 0 ≤ (i.1 : Int) * d.D ∧ (i.1 : Int) * d.D ≤ 10 * 5 := ⟨Int.mul_nonneg (by omega) (by omega), Int.mul_le_mul (by omega) hD.2 (by omega) (by omega)⟩
  have hday : 0 ≤ d.day i.1 ∧ d.day i.1 < d.D := by unfold Md.day; exact hdv.1
  have hCI : ∀ (b t : Int), 0 ≤ b → b.toNat < d.first.length → 0 ≤ cr (d.yd (d.ms i.1).1.1) (d.am (d.ms i.1).1.2) b t ∧ cr (d.yd (d.ms i.1).1.1) (d.am (d.ms i.1).1.2) b t ≤ 300 := fun b t g0 g1 => by
   have := hP.cont b.toNat t (by omega)
   rwa [Int.toNat_of_nonneg g0] at this
  refine cM mixed rfl (bM rfl ?_)
  refine aL rfl rfl rfl rfl rfl (by decide) ?_
  refine aU rfl rfl (by decide) rfl rfl rfl ?_
  refine DU rfl rfl (by omega) (by omega) ?_
  refine bM rfl ?_
  refine M8 rfl rfl (by omega) ?_
  refine q9 rfl ?_
  refine aL rfl rfl rfl rfl rfl (by decide) ?_
  refine aU rfl rfl (by decide) rfl rfl rfl ?_
  refine nG rfl rfl rfl ?_
  refine gL rfl rfl (by omega) (by omega) ?_
  refine cI [(1000, 1000)] [] [(1000, Cont.cells 149 (dc (aZ (d.ms i.1).2)))] (vB (d.ms i.1).2 ⟨by omega, by omega⟩ (-1) ((d.gV.length : Int) - 1) (by omega) (by omega)) rfl rfl (by repeat (first | exact bO | refine aJ ?_ ?_ | exact eE List.mem_cons_self | exact aQ rfl rfl)) (cF (a := 1000) (b := 1000) (by exact List.mem_cons_self) rfl (bK (by exact List.mem_cons_self) rfl rfl rfl) pre_nil) (bN (a := 1000) (b := 1000) (by exact List.mem_cons_self) rfl (bK (by exact List.mem_cons_self) rfl rfl rfl) post_nil) (aQ rfl rfl) ?_
  refine q9 rfl ?_
  refine aL rfl rfl rfl rfl rfl (by decide) ?_
  refine aU rfl rfl (by decide) rfl rfl rfl ?_
  refine nG rfl rfl rfl ?_
  refine gL rfl rfl (by omega) (by omega) ?_
  refine cI [(1000, 1000)] [] [(1000, Cont.cells 149 (dc (aZ (aZ (d.ms i.1).2))))] (vB (aZ (d.ms i.1).2) ⟨by omega, by omega⟩ (-1) ((d.gV.length : Int) - 1) (by omega) (by omega)) rfl rfl (by repeat (first | exact bO | refine aJ ?_ ?_ | exact eE List.mem_cons_self | exact aQ rfl rfl)) (cF (a := 1000) (b := 1000) (by exact List.mem_cons_self) rfl (bK (by exact List.mem_cons_self) rfl rfl rfl) pre_nil) (bN (a := 1000) (b := 1000) (by exact List.mem_cons_self) rfl (bK (by exact List.mem_cons_self) rfl rfl rfl) post_nil) (aQ rfl rfl) ?_
  refine dG rfl rfl (by exact List.cons_ne_nil _ _) rfl (by repeat (first | exact (aX.nil : aX _ _ [] _) | (show aX _ _ ((_, _) :: _) _; apply aX.one; (· exact (rfl : _ = Ty.int _ _)); (· exact rfl)))) (by exact rfl) ?_
  refine b8 rfl (by exact List.cons_ne_nil _ _) rfl ?_
  refine bp rfl rfl (by decide) rfl rfl rfl rfl rfl rfl ?_
  refine aD ?_
  refine ⟨by kernel_rfl, ?_⟩
  refine aC ?_
  refine kf (J := live [(0, Ty.ptr 1000 0), (4, Ty.int .i64 d.levels), (10, Ty.ptr 11 0), (11, Ty.ptr 12 0), (12, Ty.ptr 13 0), (13, Ty.ptr 14 0), (15, Ty.int .i64 (d.many : Nat)), (56, Ty.int .i64 (d.many : Nat)), (57, Ty.int .i64 (i.1 : Nat)), (17, Ty.ptr 18 0)] [(11, Cont.cells 27 [Ty.int .i64 0, Ty.ex (.slice none 0 0), Ty.ex (.slice none 0 0), Ty.ex (.slice none 0 0)]), (12, Cont.cells 30 [Ty.ex (.slice none 0 0), Ty.ex (.slice none 0 0)]), (13, Cont.cells 27 [Ty.int .i64 d.D, Ty.row eU 39 49 d.gV, Ty.row dm 41 175 (d.ms i.1).1.1, Ty.ex (.slice none 0 0)]), (14, Cont.cells 30 [Ty.row cm 3 40 d.first, Ty.row cm 3 180 (d.ms i.1).1.2]), (18, Cont.cells 41 [Ty.int .i64 (d.day i.1), Ty.int .i64 (d.src (d.ms i.1).2), Ty.int .i64 (d.dst (d.ms i.1).2), Ty.int .i64 0, Ty.int .i64 0]), (1000, Cont.cells 149 (dc (d.qL (d.ms i.1).2)))]) ?_ ?_
  ·
   refine aE ?_
   refine fK (tg := 18) rfl (Cont.eB (l' := [Ty.int .i64 (d.day i.1), Ty.int .i64 (d.uk (d.ms i.1).2), Ty.int .i64 (d.ur (d.ms i.1).2), Ty.int .i64 0, Ty.int .i64 0]) ⟨Ty.bA (by unfold Md.day; exact IntWalk.i64_in _ (by have := hdv.1; omega)), Ty.bA (by unfold Md.uk; rw [b2]), Ty.bA (by unfold Md.ur; rw [b2]), Ty.aF _, Ty.aF _, trivial⟩) ?_
   refine dw (B := live [(0, Ty.ptr 1000 0), (4, Ty.int .i64 d.levels), (10, Ty.ptr 11 0), (11, Ty.ptr 12 0), (12, Ty.ptr 13 0), (13, Ty.ptr 14 0), (15, Ty.int .i64 (d.many : Nat)), (56, Ty.int .i64 (d.many : Nat)), (57, Ty.int .i64 (i.1 : Nat)), (17, Ty.ptr 18 0)] [(11, Cont.cells 27 [Ty.int .i64 0, Ty.ex (.slice none 0 0), Ty.ex (.slice none 0 0), Ty.ex (.slice none 0 0)]), (12, Cont.cells 30 [Ty.ex (.slice none 0 0), Ty.ex (.slice none 0 0)]), (13, Cont.cells 27 [Ty.int .i64 d.D, Ty.row eU 39 49 d.gV, Ty.row dm 41 175 (d.ms i.1).1.1, Ty.ex (.slice none 0 0)]), (14, Cont.cells 30 [Ty.row cm 3 40 d.first, Ty.row cm 3 180 (d.ms i.1).1.2]), (18, Cont.cells 41 [Ty.int .i64 (d.day i.1), Ty.int .i64 (d.uk (d.ms i.1).2), Ty.int .i64 (d.ur (d.ms i.1).2), Ty.int .i64 0, Ty.int .i64 0]), (1000, Cont.cells 149 (dc (aZ (aZ (d.ms i.1).2))))]) ?_ ?_
   ·refine dD.mk' ?_ ?_
    ·(repeat (first | refine aB ?_ (Ty.aW _) | refine aB ?_ (Ty.aF _))); exact aH
    refine aG rfl (Cont.aF _) ?_; refine aG rfl (Cont.aF _) ?_; refine aG rfl (Cont.aF _) ?_; refine aG rfl (Cont.aF _) ?_; refine aG rfl (Cont.aF _) ?_; refine aG rfl (Cont.aF _) ?_; exact aI
   refine aA ?_
   refine aL rfl rfl rfl rfl rfl (by decide) ?_
   refine aU rfl rfl (by decide) rfl rfl rfl ?_
   refine aL rfl rfl rfl rfl rfl (by decide) ?_
   refine aU rfl rfl (by decide) rfl rfl rfl ?_
   refine bE rfl rfl rfl (aD (aC ?_))
   refine av rfl (fun hc3 => ?_) (fun hc3 => ?_)
   ·
    refine aA (q9 rfl ?_)
    refine aL rfl rfl rfl rfl rfl (by decide) ?_
    refine aU rfl rfl (by decide) rfl rfl rfl ?_
    refine nG rfl rfl rfl ?_
    refine cI [(1000, 1000)] [] [(1000, Cont.cells 149 (dc (aZ (aZ (aZ (d.ms i.1).2)))))] (ji (aZ (aZ (d.ms i.1).2)) ⟨by omega, by omega⟩ _) rfl rfl (by repeat (first | exact bO | refine aJ ?_ ?_ | exact eE List.mem_cons_self | exact aQ rfl rfl)) (cF (a := 1000) (b := 1000) (by exact List.mem_cons_self) rfl (bK (by exact List.mem_cons_self) rfl rfl rfl) pre_nil) (bN (a := 1000) (b := 1000) (by exact List.mem_cons_self) rfl (bK (by exact List.mem_cons_self) rfl rfl rfl) post_nil) (aQ rfl rfl) ?_
    refine aL rfl rfl rfl rfl rfl (by decide) ?_
    refine ct rfl rfl (by decide) rfl rfl (by exact (rfl : _ = Ty.int _ _)) rfl (by exact Nat.le_of_ble_eq_true rfl) rfl rfl (by exact rfl) ?_
    refine aL rfl rfl rfl rfl rfl (by decide) ?_
    refine ct rfl rfl (by decide) rfl rfl (by exact (rfl : _ = Ty.int _ _)) rfl (by exact Nat.le_of_ble_eq_true rfl) rfl rfl (by exact rfl) ?_
    refine aD (fP ?_)
    (refine dD.mk' ?_ ?_ <;> (repeat' (first | exact aH | exact aI | exact dK | refine aB ?_ (Ty.aW _) | refine aB ?_ (Ty.aF _) | refine aG rfl (Cont.aF _) ?_ | refine aG rfl (Cont.dL ?_) ?_ | refine bY ?_ (Ty.aF _) | refine bY ?_ ?_)))
    all_goals first | exact Ty.bA (A8 hc3).1.1 | exact Ty.bA (by rw [b2]; exact (A8 hc3).1.2) | exact Ty.bA (congrArg (fun p => p.mixed) (A8 hc3).2) | exact Ty.bA (congrArg (fun p => p.taken) (A8 hc3).2) | exact Ty.gq (congrArg (fun p => p.grain) (A8 hc3).2)
   refine ak (fP ?_)
   (refine dD.mk' ?_ ?_ <;> (repeat' (first | exact aH | exact aI | exact dK | refine aB ?_ (Ty.aW _) | refine aB ?_ (Ty.aF _) | refine aG rfl (Cont.aF _) ?_ | refine aG rfl (Cont.dL ?_) ?_ | refine bY ?_ (Ty.aF _) | refine bY ?_ ?_)))
   all_goals first | exact Ty.bA (Bl hc3).1.1 | exact Ty.bA (Bl hc3).1.2 | exact Ty.bA (congrArg (fun p => p.mixed) (Bl hc3).2) | exact Ty.bA (congrArg (fun p => p.taken) (Bl hc3).2) | exact Ty.gq (congrArg (fun p => p.grain) (Bl hc3).2)
  refine aE (aA (q9 rfl ?_))
  refine cI [(1000, 1000)] [] [(1000, Cont.cells 149 (dc (aZ (d.qL (d.ms i.1).2))))] (ji (d.qL (d.ms i.1).2) ⟨by omega, by omega⟩ 40) rfl rfl (by repeat (first | exact bO | refine aJ ?_ ?_ | exact eE List.mem_cons_self | exact aQ rfl rfl)) (cF (a := 1000) (b := 1000) (by exact List.mem_cons_self) rfl (bK (by exact List.mem_cons_self) rfl rfl rfl) pre_nil) (bN (a := 1000) (b := 1000) (by exact List.mem_cons_self) rfl (bK (by exact List.mem_cons_self) rfl rfl rfl) post_nil) (aQ rfl rfl) ?_
  refine cB rfl (aD (aC ?_))
  refine kf (J := live [(0, Ty.ptr 1000 0), (4, Ty.int .i64 d.levels), (10, Ty.ptr 11 0), (11, Ty.ptr 12 0), (12, Ty.ptr 13 0), (13, Ty.ptr 14 0), (15, Ty.int .i64 (d.many : Nat)), (56, Ty.int .i64 (d.many : Nat)), (57, Ty.int .i64 (i.1 : Nat)), (17, Ty.ptr 18 0), (18, Ty.int .i64 (lV (d.yd (d.ms i.1).1.1) (d.am (d.ms i.1).1.2) (d.mv (d.ms i.1).2 i.1) (bu (d.qL (d.ms i.1).2) 40)))] [(11, Cont.cells 27 [Ty.int .i64 0, Ty.ex (.slice none 0 0), Ty.ex (.slice none 0 0), Ty.ex (.slice none 0 0)]), (12, Cont.cells 30 [Ty.ex (.slice none 0 0), Ty.ex (.slice none 0 0)]), (13, Cont.cells 27 [Ty.int .i64 d.D, Ty.row eU 39 49 d.gV, Ty.row dm 41 175 (d.ms i.1).1.1, Ty.ex (.slice none 0 0)]), (14, Cont.cells 30 [Ty.row cm 3 40 d.first, Ty.row cm 3 180 (d.ms i.1).1.2]), (18, Cont.cells 41 [Ty.int .i64 (d.day i.1), Ty.int .i64 (d.src (d.ms i.1).2), Ty.int .i64 (d.dst (d.ms i.1).2), Ty.int .i64 0, Ty.int .i64 0]), (1000, Cont.cells 149 (dc (aZ (d.qL (d.ms i.1).2))))]) ?_ ?_
  ·
   refine aE (aA ?_)
   refine aL rfl rfl rfl rfl rfl (by decide) ?_
   refine aU rfl rfl (by decide) rfl rfl rfl ?_
   refine bE rfl rfl rfl (aD (aC ?_))
   refine cv rfl (fun hc4 => ?_) (fun hc4 => ?_)
   ·
    refine aA (bM rfl ?_)
    refine bG rfl rfl (by decide) rfl rfl (by exact Nat.le_of_ble_eq_true rfl) ?_
    refine bG rfl rfl (by decide) rfl rfl (by exact Nat.le_of_ble_eq_true rfl) ?_
    refine aL rfl rfl rfl rfl rfl (by decide) ?_
    refine aU rfl rfl (by decide) rfl rfl rfl ?_
    refine aL rfl rfl rfl rfl rfl (by decide) ?_
    refine aU rfl rfl (by decide) rfl rfl rfl ?_
    refine dg [49, 175, 40, 180] (fk (d.yd (d.ms i.1).1.1) (d.am (d.ms i.1).1.2) (pJ hd hi hP) (d.src (d.ms i.1).2) (d.day i.1) (zf hd hc4 b1).1 (zf hd hc4 b1).2) rfl (aN (hH (aN (af (bF rfl rfl)) (aN (af (fN rfl)) (aN (af (fN rfl)) (aN (af pW) bh))))) (aN (hH (aN (af (fN rfl)) (aN (af (fN rfl)) bh))) (aN (af (bF rfl rfl)) (aN (af (bF rfl rfl)) bh)))) (by exact dF _ _) ?_
    refine uX rfl rfl (cB rfl (aD (fP ?_)))
    (refine dD.mk' ?_ ?_ <;> (repeat' (first | exact aH | exact aI | refine aB ?_ (Ty.aW _) | refine aB ?_ (Ty.aF _) | refine aG rfl (Cont.aF _) ?_ | refine aB ?_ ?_)))
    all_goals exact Ty.bA (LC hc4)
   refine ak (fP ?_)
   (refine dD.mk' ?_ ?_ <;> (repeat' (first | exact aH | exact aI | refine aB ?_ (Ty.aW _) | refine aB ?_ (Ty.aF _) | refine aG rfl (Cont.aF _) ?_ | refine aB ?_ ?_)))
   all_goals exact Ty.bA (NI hc4)
  refine kf (J := live [(0, Ty.ptr 1000 0), (4, Ty.int .i64 d.levels), (10, Ty.ptr 11 0), (11, Ty.ptr 12 0), (12, Ty.ptr 13 0), (13, Ty.ptr 14 0), (15, Ty.int .i64 (d.many : Nat)), (56, Ty.int .i64 (d.many : Nat)), (57, Ty.int .i64 (i.1 : Nat)), (17, Ty.ptr 18 0), (18, Ty.int .i64 (nI (d.yd (d.ms i.1).1.1) (d.am (d.ms i.1).1.2) (d.mv (d.ms i.1).2 i.1) (lV (d.yd (d.ms i.1).1.1) (d.am (d.ms i.1).1.2) (d.mv (d.ms i.1).2 i.1) (bu (d.qL (d.ms i.1).2) 40))))] [(11, Cont.cells 27 [Ty.int .i64 0, Ty.ex (.slice none 0 0), Ty.ex (.slice none 0 0), Ty.ex (.slice none 0 0)]), (12, Cont.cells 30 [Ty.ex (.slice none 0 0), Ty.ex (.slice none 0 0)]), (13, Cont.cells 27 [Ty.int .i64 d.D, Ty.row eU 39 49 d.gV, Ty.row dm 41 175 (d.ms i.1).1.1, Ty.ex (.slice none 0 0)]), (14, Cont.cells 30 [Ty.row cm 3 40 d.first, Ty.row cm 3 180 (d.ms i.1).1.2]), (18, Cont.cells 41 [Ty.int .i64 (d.day i.1), Ty.int .i64 (d.src (d.ms i.1).2), Ty.int .i64 (d.dst (d.ms i.1).2), Ty.int .i64 0, Ty.int .i64 0]), (1000, Cont.cells 149 (dc (aZ (d.qL (d.ms i.1).2))))]) ?_ ?_
  ·
   refine aE (aA ?_)
   refine aL rfl rfl rfl rfl rfl (by decide) ?_
   refine aU rfl rfl (by decide) rfl rfl rfl ?_
   refine bE rfl rfl rfl (aD (aC ?_))
   refine cv rfl (fun hc5 => ?_) (fun hc5 => ?_)
   ·
    have hq := hCI (d.dst (d.ms i.1).2) (d.day i.1 + 1) (zI hd hc5 b1).1 (zI hd hc5 b1).2
    refine aA (bM rfl ?_)
    refine bG rfl rfl (by decide) rfl rfl (by exact Nat.le_of_ble_eq_true rfl) ?_
    refine bG rfl rfl (by decide) rfl rfl (by exact Nat.le_of_ble_eq_true rfl) ?_
    refine aL rfl rfl rfl rfl rfl (by decide) ?_
    refine aU rfl rfl (by decide) rfl rfl rfl ?_
    refine aL rfl rfl rfl rfl rfl (by decide) ?_
    refine aU rfl rfl (by decide) rfl rfl rfl ?_
    refine bz rfl rfl (by omega) (by omega) ?_
    refine dg [49, 175, 40, 180] (fk (d.yd (d.ms i.1).1.1) (d.am (d.ms i.1).1.2) (pJ hd hi hP) (d.dst (d.ms i.1).2) (d.day i.1 + 1) (zI hd hc5 b1).1 (zI hd hc5 b1).2) rfl (aN (hH (aN (af (bF rfl rfl)) (aN (af (fN rfl)) (aN (af (fN rfl)) (aN (af pW) bh))))) (aN (hH (aN (af (fN rfl)) (aN (af (fN rfl)) bh))) (aN (af (bF rfl rfl)) (aN (af (bF rfl rfl)) bh)))) (by exact dF _ _) ?_
    refine gL rfl rfl (by omega) (by omega) ?_
    refine uX rfl rfl (cB rfl (aD (fP ?_)))
    (refine dD.mk' ?_ ?_ <;> (repeat' (first | exact aH | exact aI | refine aB ?_ (Ty.aW _) | refine aB ?_ (Ty.aF _) | refine aG rfl (Cont.aF _) ?_ | refine aB ?_ ?_)))
    all_goals exact Ty.bA (Ly hc5)
   refine ak (fP ?_)
   (refine dD.mk' ?_ ?_ <;> (repeat' (first | exact aH | exact aI | refine aB ?_ (Ty.aW _) | refine aB ?_ (Ty.aF _) | refine aG rfl (Cont.aF _) ?_ | refine aB ?_ ?_)))
   all_goals exact Ty.bA (NC hc5)
  refine aE (aE (aA ?_))
  refine aL rfl rfl rfl rfl rfl (by decide) ?_
  refine aU rfl rfl (by decide) rfl rfl rfl ?_
  refine nG rfl rfl rfl (bM rfl (aD (aC (ah ?_))))
  refine cU (fun (k : {k : Nat // k ≤ (d.ms i.1).1.1.length}) => live [(0, Ty.ptr 1000 0), (4, Ty.int .i64 d.levels), (10, Ty.ptr 11 0), (11, Ty.ptr 12 0), (12, Ty.ptr 13 0), (13, Ty.ptr 14 0), (15, Ty.int .i64 (d.many : Nat)), (56, Ty.int .i64 (d.many : Nat)), (57, Ty.int .i64 (i.1 : Nat)), (17, Ty.ptr 18 0), (18, Ty.int .i64 (mW (d.yd (d.ms i.1).1.1) (d.am (d.ms i.1).1.2) (d.mv (d.ms i.1).2 i.1) (nI (d.yd (d.ms i.1).1.1) (d.am (d.ms i.1).1.2) (d.mv (d.ms i.1).2 i.1) (lV (d.yd (d.ms i.1).1.1) (d.am (d.ms i.1).1.2) (d.mv (d.ms i.1).2 i.1) (bu (d.qL (d.ms i.1).2) 40))) k.1)), (120, Ty.row dm 41 175 (d.ms i.1).1.1), (121, Ty.int .i64 (d.ms i.1).1.1.length), (122, Ty.int .i64 (k.1 : Nat))] [(11, Cont.cells 27 [Ty.int .i64 0, Ty.ex (.slice none 0 0), Ty.ex (.slice none 0 0), Ty.ex (.slice none 0 0)]), (12, Cont.cells 30 [Ty.ex (.slice none 0 0), Ty.ex (.slice none 0 0)]), (13, Cont.cells 27 [Ty.int .i64 d.D, Ty.row eU 39 49 d.gV, Ty.row dm 41 175 (d.ms i.1).1.1, Ty.ex (.slice none 0 0)]), (14, Cont.cells 30 [Ty.row cm 3 40 d.first, Ty.row cm 3 180 (d.ms i.1).1.2]), (18, Cont.cells 41 [Ty.int .i64 (d.day i.1), Ty.int .i64 (d.src (d.ms i.1).2), Ty.int .i64 (d.dst (d.ms i.1).2), Ty.int .i64 0, Ty.int .i64 0]), (1000, Cont.cells 149 (dc (aZ (d.qL (d.ms i.1).2))))]) (fun k => (d.ms i.1).1.1.length - k.1) (⟨0, by omega⟩) ?_ fun k => ?_
  ·(refine dD.mk' ?_ ?_ <;> (repeat' (first | exact aH | exact aI | refine aB ?_ (Ty.aW _) | refine aB ?_ (Ty.aF _) | refine aG rfl (Cont.aF _) ?_ | refine aB ?_ ?_)))
   all_goals exact Ty.bA Nb
  have hk := k.2
  refine aE (aA (bE rfl rfl rfl (aD (aC (aE ?_)))))
  refine av rfl (fun hc6 => ?_) (fun hc6 => ?_)
  ·
   refine ak (aC (aE (ah (aE (aA (bM rfl ?_))))))
   refine sO rfl rfl rfl rfl rfl rfl (by omega) ?_
   refine C7 rfl rfl rfl (by exact Nat.le_of_ble_eq_true rfl) ?_
   refine b8 rfl (by exact List.cons_ne_nil _ _) rfl ?_
   refine cB rfl ?_
   refine bp rfl rfl (by decide) rfl rfl rfl rfl rfl rfl ?_
   refine aD (aC (aE (aA ?_)))
   refine aL rfl rfl rfl rfl rfl (by decide) ?_
   refine aU rfl rfl (by decide) rfl rfl rfl ?_
   refine aL rfl rfl rfl rfl rfl (by decide) ?_
   refine aU rfl rfl (by decide) rfl rfl rfl ?_
   refine bE rfl rfl rfl (gU rfl ?_)
   apply aS (s := 132) rfl rfl rfl
   ·intro hg; apply aT; (refine aL rfl rfl rfl rfl rfl (by decide) ?_); refine aD ?_; exact rfl
   ·exact rfl
   ·exact rfl
   apply aS (s := 132) rfl rfl rfl
   ·intro hg; apply aO (s := 133) rfl (by (rw [hg]; rfl)); apply aT; (refine aU rfl rfl (by decide) rfl rfl rfl ?_); refine aD ?_; exact rfl
   ·exact rfl
   ·exact rfl
   apply aS (s := 132) rfl rfl rfl
   ·intro hg; apply aT; (refine aL rfl rfl rfl rfl rfl (by decide) ?_); refine aD ?_; exact rfl
   ·exact rfl
   ·exact rfl
   apply aS (s := 132) rfl rfl rfl
   ·intro hg; apply aO (s := 135) rfl (by (rw [hg]; rfl)); apply aT; (refine aU rfl rfl (by decide) rfl rfl rfl ?_); refine aD ?_; exact rfl
   ·exact rfl
   ·exact rfl
   apply aS (s := 132) rfl rfl rfl
   ·intro hg; apply aO (s := 134) rfl (by (rw [hg]; rfl)); apply aO (s := 136) rfl (by (rw [hg]; rfl)); apply aT; (refine bE rfl rfl rfl ?_); refine aD ?_; exact rfl
   ·exact rfl
   ·exact rfl
   refine fB rfl rfl (gU rfl ?_)
   apply aS (s := 139) rfl rfl rfl
   ·intro hg; apply aT; (refine aL rfl rfl rfl rfl rfl (by decide) ?_); refine aD ?_; exact rfl
   ·exact rfl
   ·exact rfl
   apply aS (s := 139) rfl rfl rfl
   ·intro hg; apply aO (s := 140) rfl (by (rw [hg]; rfl)); apply aT; (refine aU rfl rfl (by decide) rfl rfl rfl ?_); refine aD ?_; exact rfl
   ·exact rfl
   ·exact rfl
   apply aS (s := 139) rfl rfl rfl
   ·intro hg; apply aO (s := 141) rfl (by (rw [hg]; rfl)); apply aT; (refine bE rfl rfl rfl ?_); refine aD ?_; exact rfl
   ·exact rfl
   ·exact rfl
   refine fB rfl rfl (aD (aC ?_))
   refine cY rfl (fun hc7 => ?_) (fun hc7 => ?_)
   ·
    have hsr := zf hd (MP (y := (d.yd (d.ms i.1).1.1)) (m := (d.mv (d.ms i.1).2 i.1)) hc7) b1
    have hq := hCI (d.src (d.ms i.1).2) (d.day i.1) hsr.1 hsr.2
    have hmk := hP.num _ (cV (show k.1 < (d.ms i.1).1.2.length by omega))
    refine cM mixed rfl (bM rfl ?_)
    refine bG rfl rfl (by decide) rfl rfl (by exact Nat.le_of_ble_eq_true rfl) ?_
    refine bG rfl rfl (by decide) rfl rfl (by exact Nat.le_of_ble_eq_true rfl) ?_
    refine aL rfl rfl rfl rfl rfl (by decide) ?_
    refine aU rfl rfl (by decide) rfl rfl rfl ?_
    refine aL rfl rfl rfl rfl rfl (by decide) ?_
    refine aU rfl rfl (by decide) rfl rfl rfl ?_
    refine dg [49, 175, 40, 180] (fk (d.yd (d.ms i.1).1.1) (d.am (d.ms i.1).1.2) (pJ hd hi hP) (d.src (d.ms i.1).2) (d.day i.1) hsr.1 hsr.2) rfl (aN (hH (aN (af (bF rfl rfl)) (aN (af (fN rfl)) (aN (af (fN rfl)) (aN (af pW) bh))))) (aN (hH (aN (af (fN rfl)) (aN (af (fN rfl)) bh))) (aN (af (bF rfl rfl)) (aN (af (bF rfl rfl)) bh)))) (by exact dF _ _) ?_
    refine aL rfl rfl rfl rfl rfl (by decide) ?_
    refine aU rfl rfl (by decide) rfl rfl rfl ?_
    refine bM rfl ?_
    refine sO rfl rfl rfl rfl rfl rfl (by omega) ?_
    refine yq rfl rfl rfl rfl ?_
    refine gL rfl rfl (by omega) (by omega) ?_
    refine uX rfl rfl (cB rfl (aD ?_))
    refine ⟨by kernel_rfl, ?_⟩
    refine bW (aC (aA ?_))
    refine bz rfl rfl (by omega) (by omega) ?_
    refine bM rfl (aD ?_)
    refine bf (⟨k.1 + 1, by omega⟩) ?_ (by show (d.ms i.1).1.1.length - (k.1 + 1) < (d.ms i.1).1.1.length - k.1; omega)
    (refine dD.mk' ?_ ?_ <;> (repeat' (first | exact aH | exact aI | refine aB ?_ (Ty.aW _) | refine aB ?_ (Ty.aF _) | refine aG rfl (Cont.aF _) ?_ | refine aB ?_ ?_)))
    all_goals skip
    all_goals exact Ty.bA (MB (y := (d.yd (d.ms i.1).1.1)) (a := (d.am (d.ms i.1).1.2)) (m := (d.mv (d.ms i.1).2 i.1)) hc7)
   refine ak (bW (aC (aA ?_)))
   refine bz rfl rfl (by omega) (by omega) ?_
   refine bM rfl (aD ?_)
   refine bf (⟨k.1 + 1, by omega⟩) ?_ (by show (d.ms i.1).1.1.length - (k.1 + 1) < (d.ms i.1).1.1.length - k.1; omega)
   (refine dD.mk' ?_ ?_ <;> (repeat' (first | exact aH | exact aI | refine aB ?_ (Ty.aW _) | refine aB ?_ (Ty.aF _) | refine aG rfl (Cont.aF _) ?_ | refine aB ?_ ?_)))
   all_goals skip
   all_goals exact Ty.bA (NF (y := (d.yd (d.ms i.1).1.1)) (a := (d.am (d.ms i.1).1.2)) (m := (d.mv (d.ms i.1).2 i.1)) hc7)
  refine cT (aR (aR (aq rfl (aC (aE ?_)))))
  obtain ⟨k, hk⟩ := k
  obtain rfl : k = (d.ms i.1).1.1.length := by have h1 : ¬ (k : Int) < ((d.ms i.1).1.1.length : Int) := hc6; have h2 : k ≤ (d.ms i.1).1.1.length := hk; omega
  refine dw (B := live [(0, Ty.ptr 1000 0), (4, Ty.int .i64 d.levels), (10, Ty.ptr 11 0), (11, Ty.ptr 12 0), (12, Ty.ptr 13 0), (13, Ty.ptr 14 0), (15, Ty.int .i64 (d.many : Nat)), (56, Ty.int .i64 (d.many : Nat)), (57, Ty.int .i64 (i.1 : Nat)), (17, Ty.ptr 18 0), (18, Ty.int .i64 (mW (d.yd (d.ms i.1).1.1) (d.am (d.ms i.1).1.2) (d.mv (d.ms i.1).2 i.1) (nI (d.yd (d.ms i.1).1.1) (d.am (d.ms i.1).1.2) (d.mv (d.ms i.1).2 i.1) (lV (d.yd (d.ms i.1).1.1) (d.am (d.ms i.1).1.2) (d.mv (d.ms i.1).2 i.1) (bu (d.qL (d.ms i.1).2) 40))) (d.yd (d.ms i.1).1.1).moves.length))] [(11, Cont.cells 27 [Ty.int .i64 0, Ty.ex (.slice none 0 0), Ty.ex (.slice none 0 0), Ty.ex (.slice none 0 0)]), (12, Cont.cells 30 [Ty.ex (.slice none 0 0), Ty.ex (.slice none 0 0)]), (13, Cont.cells 27 [Ty.int .i64 d.D, Ty.row eU 39 49 d.gV, Ty.row dm 41 175 (d.ms i.1).1.1, Ty.ex (.slice none 0 0)]), (14, Cont.cells 30 [Ty.row cm 3 40 d.first, Ty.row cm 3 180 (d.ms i.1).1.2]), (18, Cont.cells 41 [Ty.int .i64 (d.day i.1), Ty.int .i64 (d.src (d.ms i.1).2), Ty.int .i64 (d.dst (d.ms i.1).2), Ty.int .i64 0, Ty.int .i64 0]), (1000, Cont.cells 149 (dc (aZ (d.qL (d.ms i.1).2))))]) ?_ ?_
  ·(refine dD.mk' ?_ ?_ <;> (repeat' (first | exact aH | exact aI | refine aB ?_ (Ty.aW _) | refine aB ?_ (Ty.aF _) | refine aG rfl (Cont.aF _) ?_)))
  refine aA (bM rfl ?_)
  refine bG rfl rfl (by decide) rfl rfl (by exact Nat.le_of_ble_eq_true rfl) ?_
  refine bG rfl rfl (by decide) rfl rfl (by exact Nat.le_of_ble_eq_true rfl) ?_
  refine bG rfl rfl (by decide) rfl rfl (by exact Nat.le_of_ble_eq_true rfl) ?_
  refine dg [49, 175, 40, 180] (JM (d.yd (d.ms i.1).1.1) (d.am (d.ms i.1).1.2) (pJ hd hi hP) (d.mv (d.ms i.1).2 i.1) (by show -1000000 ≤ d.day i.1 ∧ d.day i.1 ≤ 1000000; omega) (fun g => zf hd g b1)) rfl (aN (hH (aN (af (bF rfl rfl)) (aN (af (fN rfl)) (aN (af (fN rfl)) (aN (af pW) bh))))) (aN (hH (aN (af (fN rfl)) (aN (af (fN rfl)) bh))) (aN (af (bF rfl rfl)) bh))) (by exact dF _ _) ?_
  refine uX rfl rfl (uN rfl rfl (cB rfl (aD (aC (aE ?_)))))
  have hnm := d.H8 hd hP
  refine gX (s := 18) rfl (Ty.bA (num_eq d (d.ms i.1) i.1)) ?_
  refine dw (B := live [(0, Ty.ptr 1000 0), (4, Ty.int .i64 d.levels), (10, Ty.ptr 11 0), (11, Ty.ptr 12 0), (12, Ty.ptr 13 0), (13, Ty.ptr 14 0), (15, Ty.int .i64 (d.many : Nat)), (56, Ty.int .i64 (d.many : Nat)), (57, Ty.int .i64 (i.1 : Nat)), (17, Ty.ptr 18 0), (18, Ty.int .i64 (d.num (d.ms i.1) i.1))] [(11, Cont.cells 27 [Ty.int .i64 0, Ty.ex (.slice none 0 0), Ty.ex (.slice none 0 0), Ty.ex (.slice none 0 0)]), (12, Cont.cells 30 [Ty.ex (.slice none 0 0), Ty.ex (.slice none 0 0)]), (13, Cont.cells 27 [Ty.int .i64 d.D, Ty.row eU 39 49 d.gV, Ty.row dm 41 175 (d.ms i.1).1.1, Ty.ex (.slice none 0 0)]), (14, Cont.cells 30 [Ty.row cm 3 40 d.first, Ty.row cm 3 180 (d.ms i.1).1.2]), (18, Cont.cells 41 [Ty.int .i64 (d.day i.1), Ty.int .i64 (d.src (d.ms i.1).2), Ty.int .i64 (d.dst (d.ms i.1).2), Ty.int .i64 0, Ty.int .i64 0]), (1000, Cont.cells 149 (dc (aZ (d.qL (d.ms i.1).2))))]) ?_ ?_
  ·(refine dD.mk' ?_ ?_ <;> (repeat' (first | exact aH | exact aI | refine aB ?_ (Ty.aW _) | refine aB ?_ (Ty.aF _) | refine aG rfl (Cont.aF _) ?_)))
  refine aA (q9 rfl (bM rfl ?_))
  refine cI [(1000, 1000)] [] [(1000, Cont.cells 149 (dc (aZ (aZ (aZ (d.qL (d.ms i.1).2))))))] (DH (aZ (d.qL (d.ms i.1).2)) ⟨by omega, by omega⟩ (d.num (d.ms i.1) i.1) 15 (by omega) (by omega)) rfl rfl (by repeat (first | exact bO | refine aJ ?_ ?_ | exact eE List.mem_cons_self | exact aQ rfl rfl)) (cF (a := 1000) (b := 1000) (by exact List.mem_cons_self) rfl (bK (by exact List.mem_cons_self) rfl rfl rfl) pre_nil) (bN (a := 1000) (b := 1000) (by exact List.mem_cons_self) rfl (bK (by exact List.mem_cons_self) rfl rfl rfl) post_nil) (aQ rfl rfl) ?_
  refine aL rfl rfl rfl rfl rfl (by decide) ?_
  refine zF (lr := dm.tys (d.full (d.ms i.1) i.1)) rfl rfl (by decide) rfl rfl rfl (by exact Nat.le_of_ble_eq_true rfl) rfl rfl rfl ?_
  refine aD (aC ?_)
  refine dw (B := live [(0, Ty.ptr 1000 0), (4, Ty.int .i64 d.levels), (10, Ty.ptr 11 0), (11, Ty.ptr 12 0), (12, Ty.ptr 13 0), (13, Ty.ptr 14 0), (15, Ty.int .i64 (d.many : Nat)), (56, Ty.int .i64 (d.many : Nat)), (57, Ty.int .i64 (i.1 : Nat)), (17, Ty.ptr 18 0), (18, Ty.int .i64 (d.num (d.ms i.1) i.1))] [(11, Cont.cells 27 [Ty.int .i64 0, Ty.ex (.slice none 0 0), Ty.ex (.slice none 0 0), Ty.ex (.slice none 0 0)]), (12, Cont.cells 30 [Ty.ex (.slice none 0 0), Ty.ex (.slice none 0 0)]), (13, Cont.cells 27 [Ty.int .i64 d.D, Ty.row eU 39 49 d.gV, Ty.row dm 41 175 (d.ms i.1).1.1, Ty.ex (.slice none 0 0)]), (14, Cont.cells 30 [Ty.row cm 3 40 d.first, Ty.row cm 3 180 (d.ms i.1).1.2]), (18, Cont.cells 41 (dm.tys (d.full (d.ms i.1) i.1))), (1000, Cont.cells 149 (dc (aZ (aZ (aZ (d.qL (d.ms i.1).2))))))]) ?_ ?_
  ·(refine dD.mk' ?_ ?_ <;> (repeat' (first | exact aH | exact aI | refine aB ?_ (Ty.aW _) | refine aB ?_ (Ty.aF _) | refine aG rfl (Cont.aF _) ?_)))
  refine cM mixed rfl ?_
  refine aL rfl rfl rfl rfl rfl (by decide) ?_
  refine aU rfl rfl (by decide) rfl rfl rfl ?_
  refine bG rfl rfl (by decide) rfl rfl (by exact Nat.le_of_ble_eq_true rfl) ?_
  refine bt (E := dm) (xs := [d.full (d.ms i.1) i.1]) rfl rfl rfl rfl rfl (by decide) (by decide) (by repeat (first | exact (aX.nil : aX _ _ [] _) | (show aX _ _ ((_, _) :: _) _; apply aX.agg; (· exact (rfl : _ = Ty.agg _))))) (by exact rfl) rfl ?_
  refine gH rfl rfl (by decide) rfl rfl rfl rfl rfl rfl (by decide) (by (simp <;> omega)) (by (simp <;> omega)) ?_
  refine aL rfl rfl rfl rfl rfl (by decide) ?_
  refine aU rfl rfl (by decide) rfl rfl rfl ?_
  refine bM rfl ?_
  refine bt (E := cm) (xs := [d.num (d.ms i.1) i.1]) rfl rfl rfl rfl rfl (by decide) (by decide) (by repeat (first | exact (aX.nil : aX _ _ [] _) | (show aX _ _ ((_, _) :: _) _; apply aX.one; (· exact (rfl : _ = Ty.int _ _)); (· exact rfl)))) (by exact rfl) rfl ?_
  refine gH rfl rfl (by decide) rfl rfl rfl rfl rfl rfl (by decide) (by (simp <;> omega)) (by (simp <;> omega)) ?_
  refine aL rfl rfl rfl rfl rfl (by decide) ?_
  refine ct rfl rfl (by decide) rfl rfl (by exact (rfl : _ = Ty.row _ _ _ _)) rfl (by exact Nat.le_of_ble_eq_true rfl) rfl rfl (by exact rfl) ?_
  refine aL rfl rfl rfl rfl rfl (by decide) ?_
  refine ct rfl rfl (by decide) rfl rfl (by exact (rfl : _ = Ty.row _ _ _ _)) rfl (by exact Nat.le_of_ble_eq_true rfl) rfl rfl (by exact rfl) ?_
  refine aD ?_
  refine ⟨by kernel_rfl, ?_⟩
  refine bW (aC (aA ?_))
  refine bz rfl rfl (by omega) (by omega) ?_
  refine bM rfl (aD ?_)
  refine bf (⟨i.1 + 1, by omega⟩) ?_ (by show d.many - (i.1 + 1) < d.many - i.1; omega)
  (refine dD.mk' ?_ ?_ <;> (repeat' (first | exact aH | exact aI | exact dK | refine aB ?_ (Ty.aW _) | refine aB ?_ (Ty.aF _) | refine aG rfl (Cont.aF _) ?_ | refine aG rfl (Cont.dL ?_) ?_ | refine bY ?_ (Ty.aF _) | refine bY ?_ ?_)))
  all_goals skip
  all_goals first | exact Ty.bA (congrArg (fun p => p.2.mixed) (GR d _)) | exact Ty.bA (congrArg (fun p => p.2.taken) (GR d _)) | exact Ty.gq (congrArg (fun p => p.2.grain) (GR d _)) | exact Ty.gG (congrArg (fun p => p.1.1) (GR d _)) | exact Ty.gG (congrArg (fun p => p.1.2) (GR d _))
 refine cT (aR (aR (aq rfl (aC (aE (aE ?_))))))
 obtain ⟨i, hi⟩ := i
 obtain rfl : i = d.many := by have h1 : ¬ (i : Int) < (d.many : Int) := hc2; have h2 : i ≤ d.many := hi; omega
 have hP := d.r6 hd d.many (Nat.le_refl _)
 have e3 := hP.taken
 refine fK (tg := 13) rfl (Cont.eB (l' := [Ty.int .i64 d.D, Ty.row eU 39 49 d.gV, Ty.row dm 41 175 d.fM, Ty.ex (.slice none 0 0)]) ⟨Ty.aF _, Ty.aF _, Ty.gG (by unfold Md.fM; rfl), Ty.aF _, trivial⟩) ?_
 refine fK (tg := 14) rfl (Cont.eB (l' := [Ty.row cm 3 40 d.first, Ty.row cm 3 180 d.bT]) ⟨Ty.aF _, Ty.gG (by unfold Md.bT; rfl), trivial⟩) ?_
 refine mj (tg := 175) [] [(13, Cont.cells 27 [Ty.int .i64 d.D, Ty.row eU 39 49 d.gV, Ty.sl dm d.fM, Ty.ex (.slice none 0 0)])] (by decide) rfl trivial ⟨iE rfl rfl ⟨bg rfl, bg rfl, qB, bg rfl, trivial⟩, trivial⟩ ?_
 refine mj (tg := 40) [] [(14, Cont.cells 30 [Ty.sl cm d.first, Ty.row cm 3 180 d.bT])] (by decide) rfl trivial ⟨iE rfl rfl ⟨qB, bg rfl, trivial⟩, trivial⟩ ?_
 refine mj (tg := 180) [] [(14, Cont.cells 30 [Ty.sl cm d.first, Ty.sl cm d.bT])] (by decide) rfl trivial ⟨iE rfl rfl ⟨bg rfl, qB, trivial⟩, trivial⟩ ?_
 refine m9 (c0 := 13) 1 rfl rfl ?_
 refine fK (tg := 13) rfl (Cont.eB (l' := [Ty.int .i64 d.D, Ty.vs 49 d.nb, Ty.sl dm d.fM, Ty.ex (.slice none 0 0)]) ⟨Ty.aF _, Jf b2, Ty.aF _, Ty.aF _, trivial⟩) ?_
 refine dw (B := live [(0, Ty.ptr 1000 0), (4, Ty.int .i64 d.levels), (10, Ty.ptr 11 0), (11, Ty.ptr 12 0), (12, Ty.ptr 13 0), (13, Ty.ptr 14 0)] [(11, Cont.cells 27 [Ty.int .i64 0, Ty.ex (.slice none 0 0), Ty.ex (.slice none 0 0), Ty.ex (.slice none 0 0)]), (12, Cont.cells 30 [Ty.ex (.slice none 0 0), Ty.ex (.slice none 0 0)]), (13, Cont.cells 27 [Ty.int .i64 d.D, Ty.vs 49 d.nb, Ty.sl dm d.fM, Ty.ex (.slice none 0 0)]), (14, Cont.cells 30 [Ty.sl cm d.first, Ty.sl cm d.bT]), (49, Cont.vec eU 39 d.gV), (1000, Cont.cells 149 (dc (d.ms d.many).2))]) ?_ ?_
 ·(refine dD.mk' ?_ ?_ <;> (repeat' (first | exact aH | exact aI | refine aB ?_ (Ty.aW _) | refine aB ?_ (Ty.aF _) | refine aG rfl (Cont.aF _) ?_)))
 refine aA ?_
 refine aL rfl rfl rfl rfl rfl (by decide) ?_
 refine aU rfl rfl (by decide) rfl rfl rfl ?_
 refine rq rfl rfl rfl (bM rfl (aD (aC (ah ?_))))
 refine cU (fun (k : {k : Nat // k ≤ d.nb}) => live [(0, Ty.ptr 1000 0), (4, Ty.int .i64 d.levels), (10, Ty.ptr 11 0), (11, Ty.ptr 12 0), (12, Ty.ptr 13 0), (13, Ty.ptr 14 0), (186, Ty.int .i64 (d.nb : Nat)), (187, Ty.int .i64 (k.1 : Nat))] [(11, Cont.cells 27 [Ty.int .i64 0, Ty.ex (.slice none 0 0), Ty.ex (.slice none 0 0), Ty.ex (.slice none 0 0)]), (12, Cont.cells 30 [Ty.ex (.slice none 0 0), Ty.ex (.slice none 0 0)]), (13, Cont.cells 27 [Ty.int .i64 d.D, Ty.vs 49 d.nb, Ty.sl dm d.fM, Ty.ex (.slice none 0 0)]), (14, Cont.cells 30 [Ty.sl cm d.first, Ty.sl cm d.bT]), (49, Cont.vec eU 39 (d.hs k.1).1), (1000, Cont.cells 149 (dc (d.hs k.1).2))]) (fun k => d.nb - k.1) (⟨0, by omega⟩) ?_ fun k => ?_
 ·(refine dD.mk' ?_ ?_ <;> (repeat' (first | exact aH | exact aI | exact dK | refine aB ?_ (Ty.aW _) | refine aB ?_ (Ty.aF _) | refine aG rfl (Cont.aF _) ?_ | refine aG rfl (Cont.dL ?_) ?_ | refine bY ?_ ?_ | refine aG rfl ?_ ?_)))
  all_goals first | exact Cont.eP (congrArg Prod.fst (JY d)) | exact Ty.bA (congrArg (fun p => p.2.mixed) (JY d)) | exact Ty.bA (congrArg (fun p => p.2.taken) (JY d)) | exact Ty.gq (congrArg (fun p => p.2.grain) (JY d))
 have hk := k.2
 have H := d.y7 k.1 hk
 have g1 := H.len
 have g2 := H.taken
 have g3 := cw (d.hs k.1).2 30
 have g4 := (d.uz k.1 (d.D + 1).toNat)
 have g40 := g4.1
 refine aE (aA (bE rfl rfl rfl (aD (aC (aE ?_)))))
 refine av rfl (fun hc8 => ?_) (fun hc8 => ?_)
 ·
  refine ak (aC (aE (ah (aE (aA (bM rfl (cB rfl (aD (aC ?_)))))))))
  refine aE (aA (cB rfl (aD (aC (aE (aE (aA ?_)))))))
  refine aL rfl rfl rfl rfl rfl (by decide) ?_
  refine aU rfl rfl (by decide) rfl rfl rfl ?_
  refine bz rfl rfl (by omega) (by omega) ?_
  refine bM rfl (aD (aC (ah ?_)))
  refine cU (fun (t : {t : Nat // t ≤ (d.D + 1).toNat}) => live [(0, Ty.ptr 1000 0), (4, Ty.int .i64 d.levels), (10, Ty.ptr 11 0), (11, Ty.ptr 12 0), (12, Ty.ptr 13 0), (13, Ty.ptr 14 0), (21, Ty.int .i64 (k.1 : Nat)), (22, Ty.int .i64 (d.most k.1 t.1)), (186, Ty.int .i64 (d.nb : Nat)), (187, Ty.int .i64 (k.1 : Nat)), (192, Ty.int .i64 (d.D + 1)), (193, Ty.int .i64 (t.1 : Nat))] [(11, Cont.cells 27 [Ty.int .i64 0, Ty.ex (.slice none 0 0), Ty.ex (.slice none 0 0), Ty.ex (.slice none 0 0)]), (12, Cont.cells 30 [Ty.ex (.slice none 0 0), Ty.ex (.slice none 0 0)]), (13, Cont.cells 27 [Ty.int .i64 d.D, Ty.vs 49 d.nb, Ty.sl dm d.fM, Ty.ex (.slice none 0 0)]), (14, Cont.cells 30 [Ty.sl cm d.first, Ty.sl cm d.bT]), (49, Cont.vec eU 39 (d.hs k.1).1), (1000, Cont.cells 149 (dc (d.hs k.1).2))]) (fun t => (d.D + 1).toNat - t.1) (⟨0, by omega⟩) ?_ fun t => ?_
  ·(refine dD.mk' ?_ ?_ <;> (repeat' (first | exact aH | exact aI | refine aB ?_ (Ty.aW _) | refine aB ?_ (Ty.aF _) | refine aG rfl (Cont.aF _) ?_ | refine aB ?_ ?_)))
   all_goals exact Ty.bA (Lf d _)
  have ht := t.2
  refine aE (aA (bE rfl rfl rfl (aD (aC (aE ?_)))))
  refine av rfl (fun hc9 => ?_) (fun hc9 => ?_)
  ·
   refine ak (aC (aE (ah (aE (aA (bM rfl (cB rfl (aD (aC ?_)))))))))
   refine aA (bM rfl ?_)
   refine bG rfl rfl (by decide) rfl rfl (by exact Nat.le_of_ble_eq_true rfl) ?_
   refine bG rfl rfl (by decide) rfl rfl (by exact Nat.le_of_ble_eq_true rfl) ?_
   refine bM rfl (bM rfl ?_)
   refine dg [49] (fk ⟨d.D, (d.hs k.1).1, d.fM, []⟩ d.real (wL hd) ((k.1 : Nat) : Int) ((t.1 : Nat) : Int) (Int.natCast_nonneg _) (by show ((k.1 : Nat) : Int).toNat < d.first.length; omega)) rfl (aN (hH (aN (af (bF rfl rfl)) (aN (jD rfl g1 (by decide) rfl) (aN (af (bF rfl rfl)) (aN (af pW) bh))))) (aN (af (bF rfl rfl)) (aN (af (bF rfl rfl)) (aN (af (bF rfl rfl)) bh)))) (by exact dF _ _) ?_
   refine uN rfl rfl (cB rfl (aD (bW (aC (aA ?_)))))
   refine bz rfl rfl (by omega) (by omega) ?_
   refine bM rfl (aD ?_)
   refine bf (⟨t.1 + 1, by omega⟩) ?_ (by show (d.D + 1).toNat - (t.1 + 1) < (d.D + 1).toNat - t.1; omega)
   (refine dD.mk' ?_ ?_ <;> (repeat' (first | exact aH | exact aI | refine aB ?_ (Ty.aW _) | refine aB ?_ (Ty.aF _) | refine aG rfl (Cont.aF _) ?_ | refine aB ?_ ?_)))
   all_goals skip
   all_goals exact Ty.bA (LZ d _ _)
  refine cT (aR (aR (aq rfl (aC ?_))))
  obtain ⟨t, ht⟩ := t
  obtain rfl : t = (d.D + 1).toNat := by have h1 : ¬ (t : Int) < d.D + 1 := hc9; have h2 : t ≤ (d.D + 1).toNat := ht; omega
  refine gX (s := 22) rfl (Ty.bA (show d.most k.1 (d.D + 1).toNat = d.most k.1 (d.D + 1).toNat from rfl)) ?_
  have g5 := g4.2.2 fun t => (d.vP hd k.1 t (by omega)).2
  refine cM mixed rfl ?_
  refine aL rfl rfl rfl rfl rfl (by decide) ?_
  refine aU rfl rfl (by decide) rfl rfl rfl ?_
  refine bM rfl (bM rfl (q9 rfl ?_))
  refine cI [(1000, 1000)] [] [(1000, Cont.cells 149 (dc (aZ (d.hs k.1).2)))] (ji (d.hs k.1).2 ⟨by omega, by omega⟩ 30) rfl rfl (by repeat (first | exact bO | refine aJ ?_ ?_ | exact eE List.mem_cons_self | exact aQ rfl rfl)) (cF (a := 1000) (b := 1000) (by exact List.mem_cons_self) rfl (bK (by exact List.mem_cons_self) rfl rfl rfl) pre_nil) (bN (a := 1000) (b := 1000) (by exact List.mem_cons_self) rfl (bK (by exact List.mem_cons_self) rfl rfl rfl) post_nil) (aQ rfl rfl) ?_
  refine bz rfl rfl (by omega) (by omega) ?_
  refine uX rfl rfl ?_
  refine dA rfl rfl rfl rfl rfl (by omega) ?_
  refine aL rfl rfl rfl rfl rfl (by decide) ?_
  refine ni (E := eU) (z := ⟨min 300 (d.most k.1 (d.D + 1).toNat + bu (d.hs k.1).2 30), (nth (d.hs k.1).1 k.1).first⟩) rfl rfl rfl (by decide) rfl rfl (by exact (rfl : _ = Ty.int _ _)) rfl (by omega) (by decide) rfl rfl ?_
  refine aD ?_
  refine ⟨by kernel_rfl, ?_⟩
  refine bW (aC (aA ?_))
  refine bz rfl rfl (by omega) (by omega) ?_
  refine bM rfl (aD ?_)
  refine bf (⟨k.1 + 1, by omega⟩) ?_ (by show d.nb - (k.1 + 1) < d.nb - k.1; omega)
  (refine dD.mk' ?_ ?_ <;> (repeat' (first | exact aH | exact aI | exact dK | refine aB ?_ (Ty.aW _) | refine aB ?_ (Ty.aF _) | refine aG rfl (Cont.aF _) ?_ | refine aG rfl (Cont.dL ?_) ?_ | refine bY ?_ ?_ | refine aG rfl ?_ ?_)))
  all_goals skip
  all_goals first | exact Cont.eP (congrArg Prod.fst (I2 d _)) | exact Ty.bA (congrArg (fun p => p.2.mixed) (I2 d _)) | exact Ty.bA (congrArg (fun p => p.2.taken) (I2 d _)) | exact Ty.gq (congrArg (fun p => p.2.grain) (I2 d _))
 refine cT (aR (aR (aq rfl (aC (aE (aE ?_))))))
 obtain ⟨k, hk⟩ := k
 obtain rfl : k = d.nb := by have h1 : ¬ (k : Int) < (d.nb : Int) := hc8; have h2 : k ≤ d.nb := hk; omega
 have H := d.y7 d.nb (Nat.le_refl _)
 have g1 := H.len
 have g2 := H.taken
 have b5 : d.jx.length = d.nb := by unfold Md.jx; exact g1
 have g6 := cq (d.hs d.nb).2
 refine fK (tg := 49) rfl (Cont.eP (show (d.hs d.nb).1 = d.jx by unfold Md.jx; rfl)) ?_
 refine mj (tg := 49) [] [(13, Cont.cells 27 [Ty.int .i64 d.D, Ty.sl eU d.jx, Ty.sl dm d.fM, Ty.ex (.slice none 0 0)])] (by decide) rfl trivial ⟨iE rfl rfl ⟨bg rfl, kM rfl b5 (by decide), bg rfl, bg rfl, trivial⟩, trivial⟩ ?_
 refine dw (B := live [(0, Ty.ptr 1000 0), (4, Ty.int .i64 d.levels), (10, Ty.ptr 11 0), (11, Ty.ptr 12 0), (12, Ty.ptr 13 0), (13, Ty.ptr 14 0)] [(11, Cont.cells 27 [Ty.int .i64 0, Ty.ex (.slice none 0 0), Ty.ex (.slice none 0 0), Ty.ex (.slice none 0 0)]), (12, Cont.cells 30 [Ty.ex (.slice none 0 0), Ty.ex (.slice none 0 0)]), (13, Cont.cells 27 [Ty.int .i64 d.D, Ty.sl eU d.jx, Ty.sl dm d.fM, Ty.ex (.slice none 0 0)]), (14, Cont.cells 30 [Ty.sl cm d.first, Ty.sl cm d.bT]), (1000, Cont.cells 149 (dc (d.hs d.nb).2))]) ?_ ?_
 ·(refine dD.mk' ?_ ?_ <;> (repeat' (first | exact aH | exact aI | refine aB ?_ (Ty.aW _) | refine aB ?_ (Ty.aF _) | refine aG rfl (Cont.aF _) ?_)))
 refine aA (q9 rfl (bM rfl ?_))
 refine bz rfl rfl (by omega) (by omega) ?_
 refine cI [(1000, 1000)] [] [(1000, Cont.cells 149 (dc (aZ (d.hs d.nb).2)))] (ji (d.hs d.nb).2 ⟨by omega, by omega⟩ _) rfl rfl (by repeat (first | exact bO | refine aJ ?_ ?_ | exact eE List.mem_cons_self | exact aQ rfl rfl)) (cF (a := 1000) (b := 1000) (by exact List.mem_cons_self) rfl (bK (by exact List.mem_cons_self) rfl rfl rfl) pre_nil) (bN (a := 1000) (b := 1000) (by exact List.mem_cons_self) rfl (bK (by exact List.mem_cons_self) rfl rfl rfl) post_nil) (aQ rfl rfl) ?_
 refine bM rfl (aD (aC ?_))
 refine gX (s := 218) rfl (Ty.bA (show bu (d.hs d.nb).2 (d.levels + 1) = ((d.nl : Nat) : Int) from hnl.2 ▸ (by unfold Md.NP; rfl))) ?_
 refine ah ?_
 refine cU (fun (k : {k : Nat // k ≤ d.nl}) => live [(0, Ty.ptr 1000 0), (10, Ty.ptr 11 0), (11, Ty.ptr 12 0), (12, Ty.ptr 13 0), (13, Ty.ptr 14 0), (218, Ty.int .i64 (d.nl : Nat)), (219, Ty.int .i64 (k.1 : Nat))] [(11, Cont.cells 27 [Ty.int .i64 0, Ty.ex (.slice none 0 0), Ty.ex (.slice none 0 0), Ty.ex (.slice none 0 0)]), (12, Cont.cells 30 [Ty.ex (.slice none 0 0), Ty.ex (.slice none 0 0)]), (13, Cont.cells 27 [Ty.int .i64 d.D, Ty.sl eU d.jx, Ty.sl dm d.fM, Ty.row ef 102 246 (d.ls k.1).1]), (14, Cont.cells 30 [Ty.sl cm d.first, Ty.sl cm d.bT]), (1000, Cont.cells 149 (dc (d.ls k.1).2))]) (fun k => d.nl - k.1) (⟨0, by omega⟩) ?_ fun k => ?_
 ·(refine dD.mk' ?_ ?_ <;> (repeat' (first | exact aH | exact aI | exact dK | refine aB ?_ (Ty.aW _) | refine aB ?_ (Ty.aF _) | refine aG rfl (Cont.aF _) ?_ | refine aG rfl (Cont.dL ?_) ?_ | refine bY ?_ (Ty.aF _) | refine bY ?_ ?_)))
  all_goals first | exact Ty.bA (congrArg (fun p => p.2.mixed) (JP d)) | exact Ty.bA (congrArg (fun p => p.2.taken) (JP d)) | exact Ty.gq (congrArg (fun p => p.2.grain) (JP d)) | exact lu (congrArg Prod.fst (JP d)).symm
 have hk := k.2
 have L := d.Bw hd k.1
 have f1 := L.len
 have f2 := L.taken
 have f3 := cq (d.ls k.1).2
 have f4 := cq (aZ (d.ls k.1).2)
 have f5 := cw (d.ls k.1).2 (d.D + 1)
 have f6 := cw (aZ (d.ls k.1).2) d.nb
 refine aE (aA (bE rfl rfl rfl (aD (aC (aE ?_)))))
 refine av rfl (fun hc10 => ?_) (fun hc10 => ?_)
 ·
  refine ak (aC (aE (ah (aE (cM mixed rfl (q9 rfl ?_))))))
  refine aL rfl rfl rfl rfl rfl (by decide) ?_
  refine aU rfl rfl (by decide) rfl rfl rfl ?_
  refine bz rfl rfl (by omega) (by omega) ?_
  refine cI [(1000, 1000)] [] [(1000, Cont.cells 149 (dc (aZ (d.ls k.1).2)))] (ji (d.ls k.1).2 ⟨by omega, by omega⟩ _) rfl rfl (by repeat (first | exact bO | refine aJ ?_ ?_ | exact eE List.mem_cons_self | exact aQ rfl rfl)) (cF (a := 1000) (b := 1000) (by exact List.mem_cons_self) rfl (bK (by exact List.mem_cons_self) rfl rfl rfl) pre_nil) (bN (a := 1000) (b := 1000) (by exact List.mem_cons_self) rfl (bK (by exact List.mem_cons_self) rfl rfl rfl) post_nil) (aQ rfl rfl) ?_
  refine q9 rfl ?_
  refine aL rfl rfl rfl rfl rfl (by decide) ?_
  refine aU rfl rfl (by decide) rfl rfl rfl ?_
  refine cx rfl rfl rfl ?_
  refine cI [(1000, 1000)] [] [(1000, Cont.cells 149 (dc (aZ (aZ (d.ls k.1).2))))] (ji (aZ (d.ls k.1).2) ⟨by omega, by omega⟩ _) rfl rfl (by repeat (first | exact bO | refine aJ ?_ ?_ | exact eE List.mem_cons_self | exact aQ rfl rfl)) (cF (a := 1000) (b := 1000) (by exact List.mem_cons_self) rfl (bK (by exact List.mem_cons_self) rfl rfl rfl) pre_nil) (bN (a := 1000) (b := 1000) (by exact List.mem_cons_self) rfl (bK (by exact List.mem_cons_self) rfl rfl rfl) post_nil) (aQ rfl rfl) ?_
  refine dG rfl rfl (by exact List.cons_ne_nil _ _) rfl (by repeat (first | exact (aX.nil : aX _ _ [] _) | (show aX _ _ ((_, _) :: _) _; apply aX.one; (· exact (rfl : _ = Ty.int _ _)); (· exact rfl)))) (by exact (rfl : _ = some [_, _, _, _])) ?_
  refine b8 rfl (by exact List.cons_ne_nil _ _) rfl ?_
  refine bp rfl rfl (by decide) rfl rfl rfl rfl rfl rfl ?_
  refine aD ?_
  refine ⟨by kernel_rfl, ?_⟩
  refine aC (aE ?_)
  have hcl : 0 ≤ cr d.y0 d.real (bu (aZ (d.ls k.1).2) d.nb) (bu (d.ls k.1).2 (d.D + 1)) ∧ cr d.y0 d.real (bu (aZ (d.ls k.1).2) d.nb) (bu (d.ls k.1).2 (d.D + 1)) ≤ 300 := by
   have := d.vP hd (bu (aZ (d.ls k.1).2) d.nb).toNat (bu (d.ls k.1).2 (d.D + 1)) (by omega)
   rwa [Int.toNat_of_nonneg f6.1] at this
  have hce : ∀ b t, cr ⟨d.D, d.jx, d.fM, (d.ls k.1).1⟩ d.real b t = cr d.y0 d.real b t := fun b t => tK (y := d.y0)
  have hcb : -1000000 ≤ cr ⟨d.D, d.jx, d.fM, (d.ls k.1).1⟩ d.real (bu (aZ (d.ls k.1).2) d.nb) (bu (d.ls k.1).2 (d.D + 1)) ∧ cr ⟨d.D, d.jx, d.fM, (d.ls k.1).1⟩ d.real (bu (aZ (d.ls k.1).2) d.nb) (bu (d.ls k.1).2 (d.D + 1)) ≤ 1000000 := by rw [hce]; omega
  refine fK (tg := 25) rfl (Cont.eB (l' := [Ty.int .i64 (bu (d.ls k.1).2 (d.D + 1)), Ty.int .i64 (bu (aZ (d.ls k.1).2) d.nb), Ty.int .i64 0, Ty.int .i64 0]) ⟨Ty.aF _, Ty.bA (by rw [b5]), Ty.aF _, Ty.aF _, trivial⟩) ?_
  refine dw (B := live [(0, Ty.ptr 1000 0), (10, Ty.ptr 11 0), (11, Ty.ptr 12 0), (12, Ty.ptr 13 0), (13, Ty.ptr 14 0), (24, Ty.ptr 25 0), (218, Ty.int .i64 (d.nl : Nat)), (219, Ty.int .i64 (k.1 : Nat))] [(11, Cont.cells 27 [Ty.int .i64 0, Ty.ex (.slice none 0 0), Ty.ex (.slice none 0 0), Ty.ex (.slice none 0 0)]), (12, Cont.cells 30 [Ty.ex (.slice none 0 0), Ty.ex (.slice none 0 0)]), (13, Cont.cells 27 [Ty.int .i64 d.D, Ty.sl eU d.jx, Ty.sl dm d.fM, Ty.row ef 102 246 (d.ls k.1).1]), (14, Cont.cells 30 [Ty.sl cm d.first, Ty.sl cm d.bT]), (25, Cont.cells 102 [Ty.int .i64 (bu (d.ls k.1).2 (d.D + 1)), Ty.int .i64 (bu (aZ (d.ls k.1).2) d.nb), Ty.int .i64 0, Ty.int .i64 0]), (1000, Cont.cells 149 (dc (aZ (aZ (d.ls k.1).2))))]) ?_ ?_
  ·refine dD.mk' ?_ ?_
   ·(repeat (first | refine aB ?_ (Ty.aW _) | refine aB ?_ (Ty.aF _))); exact aH
   refine aG rfl (Cont.aF _) ?_; refine aG rfl (Cont.aF _) ?_; refine aG rfl (Cont.aF _) ?_; refine aG rfl (Cont.aF _) ?_; refine aG rfl (Cont.aF _) ?_; refine aG rfl (Cont.aF _) ?_; exact aI
  refine aA (q9 rfl ?_)
  refine bG rfl rfl (by decide) rfl rfl (by exact Nat.le_of_ble_eq_true rfl) ?_
  refine bG rfl rfl (by decide) rfl rfl (by exact Nat.le_of_ble_eq_true rfl) ?_
  refine aL rfl rfl rfl rfl rfl (by decide) ?_
  refine aU rfl rfl (by decide) rfl rfl rfl ?_
  refine aL rfl rfl rfl rfl rfl (by decide) ?_
  refine aU rfl rfl (by decide) rfl rfl rfl ?_
  refine dg [246] (fk ⟨d.D, d.jx, d.fM, (d.ls k.1).1⟩ d.real (wL hd) (bu (aZ (d.ls k.1).2) d.nb) (bu (d.ls k.1).2 (d.D + 1)) f6.1 (by show _ < d.first.length; omega)) rfl (aN (hH (aN (af (bF rfl rfl)) (aN (af (bF rfl rfl)) (aN (af (bF rfl rfl)) (aN (af (fN rfl)) bh))))) (aN (af (bF rfl rfl)) (aN (af (bF rfl rfl)) (aN (af (bF rfl rfl)) bh)))) (by exact dF _ _) ?_
  refine cI [(1000, 1000)] [] [(1000, Cont.cells 149 (dc (aZ (aZ (aZ (aZ (d.ls k.1).2))))))] (DH (aZ (aZ (d.ls k.1).2)) ⟨by omega, by omega⟩ (cr ⟨d.D, d.jx, d.fM, (d.ls k.1).1⟩ d.real (bu (aZ (d.ls k.1).2) d.nb) (bu (d.ls k.1).2 (d.D + 1))) 8 hcb (by omega)) rfl rfl (by repeat (first | exact bO | refine aJ ?_ ?_ | exact eE List.mem_cons_self | exact aQ rfl rfl)) (cF (a := 1000) (b := 1000) (by exact List.mem_cons_self) rfl (bK (by exact List.mem_cons_self) rfl rfl rfl) pre_nil) (bN (a := 1000) (b := 1000) (by exact List.mem_cons_self) rfl (bK (by exact List.mem_cons_self) rfl rfl rfl) post_nil) (aQ rfl rfl) ?_
  refine aL rfl rfl rfl rfl rfl (by decide) ?_
  refine zF (lr := [Ty.int .i64 (bu (d.ls k.1).2 (d.D + 1)), Ty.int .i64 (bu (aZ (d.ls k.1).2) d.nb), Ty.int .i64 (iB (aZ (aZ (d.ls k.1).2)) (cr ⟨d.D, d.jx, d.fM, (d.ls k.1).1⟩ d.real (bu (aZ (d.ls k.1).2) d.nb) (bu (d.ls k.1).2 (d.D + 1))) 8).lo, Ty.int .i64 (iB (aZ (aZ (d.ls k.1).2)) (cr ⟨d.D, d.jx, d.fM, (d.ls k.1).1⟩ d.real (bu (aZ (d.ls k.1).2) d.nb) (bu (d.ls k.1).2 (d.D + 1))) 8).hi]) rfl rfl (by decide) rfl rfl rfl (by exact Nat.le_of_ble_eq_true rfl) rfl rfl rfl ?_
  refine aD (aC ?_)
  refine fK (tg := 25) rfl (Cont.eB (l' := ef.tys (d.NR (d.ls k.1).2)) ⟨Ty.aF _, Ty.aF _, Ty.bA (by rw [hce]; rfl), Ty.bA (by rw [hce]; rfl), trivial⟩) ?_
  refine dw (B := live [(0, Ty.ptr 1000 0), (10, Ty.ptr 11 0), (11, Ty.ptr 12 0), (12, Ty.ptr 13 0), (13, Ty.ptr 14 0), (24, Ty.ptr 25 0), (218, Ty.int .i64 (d.nl : Nat)), (219, Ty.int .i64 (k.1 : Nat))] [(11, Cont.cells 27 [Ty.int .i64 0, Ty.ex (.slice none 0 0), Ty.ex (.slice none 0 0), Ty.ex (.slice none 0 0)]), (12, Cont.cells 30 [Ty.ex (.slice none 0 0), Ty.ex (.slice none 0 0)]), (13, Cont.cells 27 [Ty.int .i64 d.D, Ty.sl eU d.jx, Ty.sl dm d.fM, Ty.row ef 102 246 (d.ls k.1).1]), (14, Cont.cells 30 [Ty.sl cm d.first, Ty.sl cm d.bT]), (25, Cont.cells 102 (ef.tys (d.NR (d.ls k.1).2))), (1000, Cont.cells 149 (dc (aZ (aZ (aZ (aZ (d.ls k.1).2))))))]) ?_ ?_
  ·refine dD.mk' ?_ ?_
   ·(repeat (first | refine aB ?_ (Ty.aW _) | refine aB ?_ (Ty.aF _))); exact aH
   refine aG rfl (Cont.aF _) ?_; refine aG rfl (Cont.aF _) ?_; refine aG rfl (Cont.aF _) ?_; refine aG rfl (Cont.aF _) ?_; refine aG rfl (Cont.aF _) ?_; refine aG rfl (Cont.aF _) ?_; exact aI
  refine aA ?_
  refine aL rfl rfl rfl rfl rfl (by decide) ?_
  refine aU rfl rfl (by decide) rfl rfl rfl ?_
  refine bG rfl rfl (by decide) rfl rfl (by exact Nat.le_of_ble_eq_true rfl) ?_
  refine bt (E := ef) (xs := [d.NR (d.ls k.1).2]) rfl rfl rfl rfl rfl (by decide) (by decide) (by repeat (first | exact (aX.nil : aX _ _ [] _) | (show aX _ _ ((_, _) :: _) _; apply aX.agg; (· exact (rfl : _ = Ty.agg _))))) (by exact rfl) rfl ?_
  refine gH rfl rfl (by decide) rfl rfl rfl rfl rfl rfl (by decide) (by (simp <;> omega)) (by (simp <;> omega)) ?_
  refine aL rfl rfl rfl rfl rfl (by decide) ?_
  refine ct rfl rfl (by decide) rfl rfl (by exact (rfl : _ = Ty.row _ _ _ _)) rfl (by exact Nat.le_of_ble_eq_true rfl) rfl rfl (by exact rfl) ?_
  refine aD (bW (aC (aA ?_)))
  refine bz rfl rfl (by omega) (by omega) ?_
  refine bM rfl (aD ?_)
  refine bf (⟨k.1 + 1, by omega⟩) ?_ (by show d.nl - (k.1 + 1) < d.nl - k.1; omega)
  (refine dD.mk' ?_ ?_ <;> (repeat' (first | exact aH | exact aI | exact dK | refine aB ?_ (Ty.aW _) | refine aB ?_ (Ty.aF _) | refine aG rfl (Cont.aF _) ?_ | refine aG rfl (Cont.dL ?_) ?_ | refine bY ?_ (Ty.aF _) | refine bY ?_ ?_)))
  all_goals skip
  all_goals first | exact Ty.bA (congrArg (fun p => p.2.mixed) (Iv d _)) | exact Ty.bA (congrArg (fun p => p.2.taken) (Iv d _)) | exact Ty.gq (congrArg (fun p => p.2.grain) (Iv d _)) | exact Ty.gG (congrArg Prod.fst (Iv d _))
 refine cT (aR (aR (aq rfl (aC (aE ?_)))))
 obtain ⟨k, hk⟩ := k
 obtain rfl : k = d.nl := by have h1 : ¬ (k : Int) < (d.nl : Int) := hc10; have h2 : k ≤ d.nl := hk; omega
 refine mj (tg := 246) [] [(13, Cont.cells 27 (bk d.c6))] (by decide) rfl trivial ⟨iE rfl rfl ⟨bg rfl, bg rfl, bg rfl, AG (show (d.ls d.nl).1 = d.u9 by unfold Md.u9; rfl), trivial⟩, trivial⟩ ?_
 refine cM mixed rfl ?_
 refine bG rfl rfl (by decide) rfl rfl (by exact Nat.le_of_ble_eq_true rfl) ?_
 refine bG rfl rfl (by decide) rfl rfl (by exact Nat.le_of_ble_eq_true rfl) ?_
 refine bp rfl rfl (by decide) rfl rfl rfl rfl rfl rfl ?_
 refine bp rfl rfl (by decide) rfl rfl rfl rfl rfl rfl ?_
 refine aD ?_
 refine ⟨by kernel_rfl, ?_⟩
 refine aC (az ?_)
 refine MH [1000] rfl rfl rfl rfl rfl (by decide) rfl rfl rfl rfl rfl (by decide) rfl rfl rfl (by decide) (by repeat (first | exact fO | refine eN rfl (bK (by decide) rfl rfl rfl) ?_)) ?_ ?_
 all_goals exact fo (aQ rfl rfl)
 all_goals trace_state
end Go.Proofs.YtelbollidfdcjaaGreat
