/- Lemmas: the program and the reference walked, plain laws. -/
import Derived.Test.YtelbollidfdcjaaGreatFc
namespace Go.Proofs.YtelbollidfdcjaaGreat
open Go Go.T
set_option maxHeartbeats 16000000
noncomputable def kP (y : bD) : List Int := (cY (aO y (nth bg)) (y.cells + 1) (gk (aO y (nth bg)))).2.2
noncomputable def cV (y : bD) : Int := if bX y = 0 then (if (cY (aO y (nth bg)) (y.cells + 1) (gk (aO y (nth bg)))).2.1 = true then 7 else 0) else bX y
noncomputable def r5 (y : bD) : ep := if cV y = 0 then gL y (kP y) else ⟨[], []⟩
theorem jf : bg.length = 8 := rfl
theorem lp {y : bD} (hr : y.cm) {c : Nat → Bool} : Hz y (aO y c) (gk (aO y c)) := ⟨hr, lg hr, uw hr, fun e => G3 (yY e), j7 hr⟩
section
variable {y : bD}
theorem open_1 (h : ¬ bX y = 0) : bX y = cV y := (if_neg h).symm
theorem vq (h : bX y = 0) (h2 : (cY (aO y (nth bg)) (y.cells + 1) (gk (aO y (nth bg)))).2.1 = true) : 7 = cV y := by unfold cV; rw [if_pos h, if_pos h2]
theorem open_3 (h : bX y = 0) (h2 : (cY (aO y (nth bg)) (y.cells + 1) (gk (aO y (nth bg)))).2.1 = false) : 0 = cV y := by unfold cV; rw [if_pos h, if_neg (by rw [h2]; decide)]
theorem eW (h : cV y = 0) : bX y = 0 := by
 by_cases e : bX y = 0
 ·exact e
 rw [← open_1 e] at h; exact absurd h e
theorem zP (h : cV y = 0) : (cY (aO y (nth bg)) (y.cells + 1) (gk (aO y (nth bg)))).2.1 = false := by
  cases e : (cY (aO y (nth bg)) (y.cells + 1) (gk (aO y (nth bg)))).2.1 with
  | false => rfl
  | true => rw [← vq (eW h) e] at h; cases h
theorem EJ (hr : y.cm) (h2 : (cY (aO y (nth bg)) (y.cells + 1) (gk (aO y (nth bg)))).2.1 = false) : gb (aO y (nth bg)) (y.cells + 1) (cY (aO y (nth bg)) (y.cells + 1) (gk (aO y (nth bg)))).2.2 := yu (lg hr) (lp hr).inb h2
theorem pX (h : cV y = 0) : gb (aO y (nth bg)) (y.cells + 1) (kP y) := EJ (dV (eW h)) (zP h)
theorem LW (h : ¬ bX y = 0) : (⟨[], []⟩ : ep) = r5 y := by unfold r5; rw [← open_1 h, if_neg h]
theorem Lg (h : bX y = 0) (h2 : (cY (aO y (nth bg)) (y.cells + 1) (gk (aO y (nth bg)))).2.1 = true) : (⟨[], []⟩ : ep) = r5 y := by unfold r5; rw [← vq h h2]; rfl
theorem K0 (h : bX y = 0) (h2 : (cY (aO y (nth bg)) (y.cells + 1) (gk (aO y (nth bg)))).2.1 = false) : gL y (cY (aO y (nth bg)) (y.cells + 1) (gk (aO y (nth bg)))).2.2 = r5 y := by unfold r5; rw [if_pos (open_3 h h2).symm]; rfl
theorem yh {a : ep} (e : ⟨[], []⟩ = a) : iM (Ty.agg [Ty.kK (.slice none 0 0), Ty.kK (.slice none 0 0)]) (qM a) := by subst e; exact DX (ts := eB ⟨[], []⟩) (pS z4 (pS z4 Ap))
theorem CF {b : Bool} (h : (!!b) = true) : b = true := by cases b <;> first | rfl | cases h
theorem DZ {b : Bool} (h : (!!b) = false) : b = false := by cases b <;> first | rfl | cases h
theorem LZ (y : bD) : (cY (aO y (nth bg)) (y.cells + 1) (gk (aO y (nth bg)))).2.2 = kP y := rfl
end
attribute [local irreducible] aO gk Way.gu Way.fin Way.room ef eI fA gU over bO cR dh eY jW fE gy kO cY gP gA gC dB cL gQ oZ iX iq jB gj BO yZ iH bD.kept bD.cells bX eP bg gL kP cV
attribute [local irreducible] iY fX nD qR jG jJ jI jK jF qu jD qw eJ gm qF gx ql nth fU dn af dy bodyPost Exit.then Exit.inBlock Code.wp Code.wpIn qh jH qi qX jC eT cZ cq bodyPostM eR
set_option maxRecDepth 100000 in
theorem GL (y : bD) (hs : y.Small) : dy Tryz.prog 47 [ff y] (Ty.jq [qM (r5 y), Ty.int .i64 (cV y)]) := by
 refine av Tryz.func47 rfl (by decide) Tryz.ntmps47 (by exact Nat.le_of_ble_eq_true rfl) fun w0 M0 => ?_
 refine aE (aA (bR rfl ?_))
 refine cH rfl (by exact List.cons_ne_nil _ _) rfl ?_
 refine cF rfl (aD (aC (aE (aE (aA ?_)))))
 refine aZ rfl rfl rfl (by exact Nat.le_of_ble_eq_true rfl) ?_
 refine aj (kB y hs) rfl rfl rfl rfl rfl (cF rfl (aD (aC (aE (aA (bQ rfl (bE rfl rfl rfl (aD (aC ?_)))))))))
 refine dJ rfl (fun hc1 => ?_) (fun hc1 => ?_)
 ·
  refine aE (aA ?_)
  refine dS rfl rfl (by exact List.cons_ne_nil _ _) rfl (by repeat (exact (aY.nil : aY _ _ [] _))) (by exact (rfl : _ = some [_, _])) ?_
  refine bQ rfl ?_
  refine cJ rfl rfl (by decide) rfl rfl rfl rfl rfl rfl ?_
  refine cF rfl (aD (aC (ay (aV ?_))))
  refine jZ rfl rfl rfl rfl rfl (by decide) rfl rfl rfl ?_ ?_
  all_goals skip
  all_goals first | exact yh (LW hc1) | exact az rfl rfl (congrArg (Ty.int .i64) (open_1 hc1))
 refine ak (aC (aE ?_))
 have hck : bX y = 0 := hc1
 have hr := dV hck
 refine cW mixed rfl ?_
 refine aZ rfl rfl rfl (by exact Nat.le_of_ble_eq_true rfl) ?_
 refine aj (q5) rfl rfl rfl rfl rfl ?_
 refine bt (res' := Ty.pp (rK y 2000 1000 (aO y (nth bg)).length (aO y (nth bg)).length)) [(2000, 23), (1000, 31)] [2000, 1000] [(2000, Cont.vec eA 187 (aO y (nth bg))), (1000, Cont.vec cT 3 (gk (aO y (nth bg))))] (r6 y hr bg jf) rfl rfl (aH (aH bL (aM rfl rfl)) (aM rfl rfl)) pre_nil (bJ (a := 2000) (b := 23) (by decide) rfl (cA (by decide) rfl) (bJ (a := 1000) (b := 31) (by decide) rfl (cA (by decide) rfl) post_nil)) (fD (aH (aH (aH (aH (aH (aH bL (eM (by decide))) (eM (by decide))) (aM rfl rfl)) (aM rfl rfl)) (aM rfl rfl)) (aM rfl rfl))) ?_
 refine Ii rfl (aD ?_)
 refine ⟨by kernel_rfl, ?_⟩
 refine aC (aE (aE ?_))
 refine kF (tg := 2000) [(5, Ty.pp (eO y (aO y (nth bg)) 1000 (aO y (nth bg)).length))] (by decide) rfl ⟨zl rfl ⟨cB rfl, cB rfl, cB rfl, cB rfl, lP rfl rfl (by decide), cB rfl, trivial⟩, trivial⟩ ?_
 refine aA (jo rfl ?_)
 refine bt [(1000, 1000)] [] [(1000, Cont.vec cT 3 (cY (aO y (nth bg)) (y.cells + 1) (gk (aO y (nth bg)))).2.2)] (mj y (aO y (nth bg)) (gk (aO y (nth bg))) (lp hr)) rfl rfl (aH bL (fD (aH (aH (aH (aH (aH (aH bL (eM (by exact List.mem_cons_self))) (aM rfl rfl)) (aM rfl rfl)) (aM rfl rfl)) (aM rfl rfl)) (aM rfl rfl)))) (b8 (a := 1000) (b := 1000) (by exact List.mem_cons_self) rfl (cA (by exact List.mem_cons_self) rfl) pre_nil) (bJ (a := 1000) (b := 1000) (by decide) rfl (cA (by decide) rfl) post_nil) (aM rfl rfl) ?_
 refine dm rfl (aD (aC ?_))
 refine cv rfl (fun hc2 => ?_) (fun hc2 => ?_)
 ·
  refine aE (aA ?_)
  refine dS rfl rfl (by exact List.cons_ne_nil _ _) rfl (by repeat (exact (aY.nil : aY _ _ [] _))) (by exact (rfl : _ = some [_, _])) ?_
  refine cJ rfl rfl (by decide) rfl rfl rfl rfl rfl rfl ?_
  refine cF rfl (aD (aC (ay (aV ?_))))
  refine jZ rfl rfl rfl rfl rfl (by decide) rfl rfl rfl ?_ ?_
  all_goals skip
  all_goals first | exact yh (Lg hck (CF hc2)) | exact az rfl rfl (congrArg (Ty.int .i64) (vq hck (CF hc2)))
 refine ak (aC (aE ?_))
 have hfe := EJ hr (DZ hc2)
 refine kF (tg := 1000) [(5, Ty.pp (l9 y (aO y (nth bg)) (cY (aO y (nth bg)) (y.cells + 1) (gk (aO y (nth bg)))).2.2))] (by decide) rfl ⟨zl rfl ⟨cB rfl, cB rfl, cB rfl, cB rfl, cB rfl, lP rfl hfe.1.1 (by decide), trivial⟩, trivial⟩ ?_
 refine aA (jo rfl (aj (K9 y (nth bg) (cY (aO y (nth bg)) (y.cells + 1) (gk (aO y (nth bg)))).2.2 hr hfe.1.1) rfl rfl rfl rfl rfl ?_))
 refine cJ rfl rfl (by decide) rfl rfl rfl rfl rfl rfl ?_
 refine cF rfl (aD (aC (ay ?_)))
 refine jZ rfl rfl rfl rfl rfl (by decide) rfl rfl rfl ?_ ?_
 all_goals skip
 all_goals first | exact az rfl rfl (congrArg qM (K0 hck (DZ hc2))) | exact az rfl rfl (congrArg (Ty.int .i64) (open_3 hck (DZ hc2)))
set_option maxRecDepth 100000 in
theorem vn (y : bD) (hs : y.Small) (h : cV y = 0) : eT Tryz.prog 86 [] [] [ff y] [(1000, Cont.vec cT 3 (kP y))] (Ty.jq [Ty.pp (eO y (aO y (nth bg)) 1000 (aO y (nth bg)).length), Ty.int .i64 0]) := by
 refine qS Tryz.func86 rfl (by decide) Tryz.ntmps86 (by exact Nat.le_of_ble_eq_true rfl) fun w0 M0 => ?_
 have hck := eW h
 have hr := dV hck
 have hst := zP h
 refine aE (aA (bR rfl (mP rfl (cF rfl (aD (aC (aE (aE (aA ?_)))))))))
 refine aZ rfl rfl rfl (by exact Nat.le_of_ble_eq_true rfl) ?_
 refine aj (kB y hs) rfl rfl rfl rfl rfl (cF rfl (aD (aC (aE (aA (bQ rfl (bE rfl rfl rfl (aD (aC ?_)))))))))
 refine gD rfl (by rw [hck]; rfl) ?_
 refine ak (aC (aE (cW mixed rfl ?_)))
 refine aZ rfl rfl rfl (by exact Nat.le_of_ble_eq_true rfl) ?_
 refine aj (q5) rfl rfl rfl rfl rfl ?_
 refine bt (res' := Ty.pp (rK y 2000 1000 (aO y (nth bg)).length (aO y (nth bg)).length)) [(2000, 23), (1000, 31)] [2000, 1000] [(2000, Cont.vec eA 187 (aO y (nth bg))), (1000, Cont.vec cT 3 (gk (aO y (nth bg))))] (r6 y hr bg jf) rfl rfl (aH (aH bL (aM rfl rfl)) (aM rfl rfl)) pre_nil (bJ (a := 2000) (b := 23) (by decide) rfl (cA (by decide) rfl) (bJ (a := 1000) (b := 31) (by decide) rfl (cA (by decide) rfl) post_nil)) (fD (aH (aH (aH (aH (aH (aH bL (eM (by decide))) (eM (by decide))) (aM rfl rfl)) (aM rfl rfl)) (aM rfl rfl)) (aM rfl rfl))) ?_
 refine Ii rfl (aD ?_)
 refine ⟨by kernel_rfl, ?_⟩
 refine aC (aE (aE ?_))
 refine kF (tg := 2000) [(5, Ty.pp (eO y (aO y (nth bg)) 1000 (aO y (nth bg)).length))] (by decide) rfl ⟨zl rfl ⟨cB rfl, cB rfl, cB rfl, cB rfl, lP rfl rfl (by decide), cB rfl, trivial⟩, trivial⟩ ?_
 refine aA (jo rfl ?_)
 refine bt [(1000, 1000)] [] [(1000, Cont.vec cT 3 (cY (aO y (nth bg)) (y.cells + 1) (gk (aO y (nth bg)))).2.2)] (mj y (aO y (nth bg)) (gk (aO y (nth bg))) (lp hr)) rfl rfl (aH bL (fD (aH (aH (aH (aH (aH (aH bL (eM (by exact List.mem_cons_self))) (aM rfl rfl)) (aM rfl rfl)) (aM rfl rfl)) (aM rfl rfl)) (aM rfl rfl)))) (b8 (a := 1000) (b := 1000) (by exact List.mem_cons_self) rfl (cA (by exact List.mem_cons_self) rfl) pre_nil) (bJ (a := 1000) (b := 1000) (by decide) rfl (cA (by decide) rfl) post_nil) (aM rfl rfl) ?_
 refine dm rfl (aD (aC ?_))
 refine gD rfl (by rw [hst]; rfl) ?_
 refine ak (aC (aE (aA (jo rfl (Ii rfl (cF rfl (aD (aC (ay ?_)))))))))
 refine IA rfl ?_
 refine zC [1000] rfl rfl rfl (by decide) ?_ ?_ ?_
 ·exact dx rfl (cA (by decide) (LZ y)) ej
 all_goals first | exact fK (aM rfl rfl) | skip
 all_goals exact fK (fD (aH (aH (aH (aH (aH (aH bL (eM (by decide))) (aM rfl rfl)) (aM rfl rfl)) (aM rfl rfl)) (aM rfl rfl)) (aM rfl rfl)))
set_option maxRecDepth 100000 in
theorem o8 (y : bD) (hs : y.Small) (h : cV y ≠ 0) : dy Tryz.prog 86 [ff y] (Ty.jq [Ty.ex (.pointer none), Ty.int .i64 (cV y)]) := by
 refine av Tryz.func86 rfl (by decide) Tryz.ntmps86 (by exact Nat.le_of_ble_eq_true rfl) fun w0 M0 => ?_
 refine aE (aA (bR rfl (mP rfl (cF rfl (aD (aC (aE (aE (aA ?_)))))))))
 refine aZ rfl rfl rfl (by exact Nat.le_of_ble_eq_true rfl) ?_
 refine aj (kB y hs) rfl rfl rfl rfl rfl (cF rfl (aD (aC (aE (aA (bQ rfl (bE rfl rfl rfl (aD (aC ?_)))))))))
 refine dJ rfl (fun hc1 => ?_) (fun hc1 => ?_)
 ·
  refine aE (aA (bQ rfl (mP rfl (cF rfl (aD (aC (ay (aV ?_))))))))
  refine fM rfl rfl rfl ?_ ?_
  all_goals first | exact cM rfl rfl | skip
  all_goals exact az rfl rfl (congrArg (Ty.int .i64) (open_1 hc1))
 refine ak (aC (aE ?_))
 have hck : bX y = 0 := hc1
 have hr := dV hck
 refine cW mixed rfl ?_
 refine aZ rfl rfl rfl (by exact Nat.le_of_ble_eq_true rfl) ?_
 refine aj (q5) rfl rfl rfl rfl rfl ?_
 refine bt (res' := Ty.pp (rK y 2000 1000 (aO y (nth bg)).length (aO y (nth bg)).length)) [(2000, 23), (1000, 31)] [2000, 1000] [(2000, Cont.vec eA 187 (aO y (nth bg))), (1000, Cont.vec cT 3 (gk (aO y (nth bg))))] (r6 y hr bg jf) rfl rfl (aH (aH bL (aM rfl rfl)) (aM rfl rfl)) pre_nil (bJ (a := 2000) (b := 23) (by decide) rfl (cA (by decide) rfl) (bJ (a := 1000) (b := 31) (by decide) rfl (cA (by decide) rfl) post_nil)) (fD (aH (aH (aH (aH (aH (aH bL (eM (by decide))) (eM (by decide))) (aM rfl rfl)) (aM rfl rfl)) (aM rfl rfl)) (aM rfl rfl))) ?_
 refine Ii rfl (aD ?_)
 refine ⟨by kernel_rfl, ?_⟩
 refine aC (aE (aE ?_))
 refine kF (tg := 2000) [(5, Ty.pp (eO y (aO y (nth bg)) 1000 (aO y (nth bg)).length))] (by decide) rfl ⟨zl rfl ⟨cB rfl, cB rfl, cB rfl, cB rfl, lP rfl rfl (by decide), cB rfl, trivial⟩, trivial⟩ ?_
 refine aA (jo rfl ?_)
 refine bt [(1000, 1000)] [] [(1000, Cont.vec cT 3 (cY (aO y (nth bg)) (y.cells + 1) (gk (aO y (nth bg)))).2.2)] (mj y (aO y (nth bg)) (gk (aO y (nth bg))) (lp hr)) rfl rfl (aH bL (fD (aH (aH (aH (aH (aH (aH bL (eM (by exact List.mem_cons_self))) (aM rfl rfl)) (aM rfl rfl)) (aM rfl rfl)) (aM rfl rfl)) (aM rfl rfl)))) (b8 (a := 1000) (b := 1000) (by exact List.mem_cons_self) rfl (cA (by exact List.mem_cons_self) rfl) pre_nil) (bJ (a := 1000) (b := 1000) (by decide) rfl (cA (by decide) rfl) post_nil) (aM rfl rfl) ?_
 refine dm rfl (aD (aC ?_))
 refine cv rfl (fun hc2 => ?_) (fun hc2 => ?_)
 ·
  refine aE (aA (mP rfl (cF rfl (aD (aC (ay (aV ?_)))))))
  refine fM rfl rfl rfl ?_ ?_
  all_goals first | exact cM rfl rfl | skip
  all_goals exact az rfl rfl (congrArg (Ty.int .i64) (vq hck (CF hc2)))
 refine ak (aC (aE (aA (jo rfl (Ii rfl (cF rfl (aD (aC (ay ?_)))))))))
 refine fM rfl rfl rfl ?_ ?_
 all_goals skip
 all_goals exact absurd (open_3 hck (DZ hc2)).symm h
end Go.Proofs.YtelbollidfdcjaaGreat
namespace Go.Proofs.YtelbollidfdcjaaGreat
open Go Go.T
set_option maxHeartbeats 16000000
def tA (k : Nat) (i : Nat) : Bool := decide ((i : Int) = (k : Int))
def hasB (y : bD) (b t : Nat) : Nat → Bool := tA (y.kept b t)
noncomputable def oS (fl : List bz) (n : Nat) (y : bD) (b : Nat) (a : List Int) : Nat → List Int
  | 0 => a
  | t + 1 => yZ fl n (hasB y b t) (oS fl n y b a t)
noncomputable def p6 (fl : List bz) (n : Nat) (y : bD) (b k : Nat) : List Span := (List.range k).map fun t => gj fl n (hasB y b t)
noncomputable def kI (y : bD) (b : Int) : Int := if eP y b = 0 then cV y else eP y b
noncomputable def ji (y : bD) (b : Int) : List Span := if kI y b = 0 then p6 (aO y (nth bg)) (y.cells + 1) y b.toNat (y.D + 1) else []
def I5 (y : bD) (k : Int) : Int := if bX y = 0 then (if (decide (k ≥ 0) && decide (k ≤ (y.moves.length : Int) - 1)) = true then 0 else 1) else bX y
noncomputable def kZ (y : bD) (k : Int) : Int := if I5 y k = 0 then cV y else I5 y k
noncomputable def mY (y : bD) (k : Int) : Span := if kZ y k = 0 then gj (aO y (nth bg)) (y.cells + 1) (tA (y.bins.length * (y.D + 1) + k.toNat)) else ⟨0, 0⟩
theorem sX {y : bD} (h : cV y = 0) : lK y (aO y (nth bg)) (kP y) := ⟨dV (eW h), lg (dV (eW h)), uw (dV (eW h)), (pX h).1, j7 (dV (eW h))⟩
section
variable {y : bD} {fl : List bz} {a : List Int} {n b k : Nat} {q : Int}
theorem AV (hN : Net fl n) (hn : 0 < n) (hB : Bd fl) (h : gb fl n a) : ∀ t, gb fl n (oS fl n y b a t)
  | 0 => h
  | t + 1 => (rW hN hn hB (AV hN hn hB h t)).2.1
theorem HJ : a = oS fl n y b a 0 := rfl
theorem Hi (t : Nat) : yZ fl n (hasB y b t) (oS fl n y b a t) = oS fl n y b a (t + 1) := rfl
theorem Ed (t : Nat) : p6 fl n y b t ++ [gj fl n (hasB y b t)] = p6 fl n y b (t + 1) := by unfold p6; rw [List.range_succ, List.map_append]; rfl
theorem HP (t : Nat) : (p6 fl n y b t).length = t := by unfold p6; rw [List.length_map, List.length_range]
theorem E5 : p6 fl n y b 0 = [] := rfl
theorem BA {T tg : Nat} {xs : List Span} (h : xs = []) : (Ty.ex (.slice none 0 0)).Sub (Ty.row dz T tg xs) := by subst h; exact Ty.l8
theorem JA (k : Nat) (i : Nat) : decide ((i : Int) = (k : Int)) = tA k i := rfl
theorem JL (b t i : Nat) : decide ((i : Int) = ((y.kept b t : Nat) : Int)) = hasB y b t i := rfl
theorem za (h : ¬ eP y q = 0) : eP y q = kI y q ∧ [] = ji y q := by
 have e : eP y q = kI y q := (if_neg h).symm
 exact ⟨e, by unfold ji; rw [← e, if_neg h]⟩
theorem IC (h : eP y q = 0) (ho : cV y ≠ 0) : cV y = kI y q ∧ [] = ji y q := by
 have e : cV y = kI y q := (if_pos h).symm
 exact ⟨e, by unfold ji; rw [← e, if_neg ho]⟩
theorem zB (h : eP y q = 0) (ho : cV y = 0) : 0 = kI y q ∧ p6 (aO y (nth bg)) (y.cells + 1) y q.toNat (y.D + 1) = ji y q := by
 have e : cV y = kI y q := (if_pos h).symm
 exact ⟨by rw [← e, ho], by unfold ji; rw [← e, if_pos ho]⟩
theorem FB (h : eP y q = 0) : 0 ≤ q ∧ q < y.bins.length := by
 unfold eP at h
 by_cases e : bX y = 0
 ·rw [if_pos e] at h
  by_cases c : y.bin q = true
  ·unfold bD.bin Bo at c
   rw [Bool.and_eq_true, decide_eq_true_eq, decide_eq_true_eq] at c; omega
  rw [if_neg c] at h; cases h
 rw [if_neg e] at h; exact absurd h e
theorem ED (h : ¬ bX y = 0) : bX y = kZ y q ∧ (⟨0, 0⟩ : Span) = mY y q := by
 have e1 : I5 y q = bX y := if_neg h
 have e : bX y = kZ y q := by unfold kZ; rw [e1, if_neg h]
 exact ⟨e, by unfold mY; rw [← e, if_neg h]⟩
theorem D1 (h : bX y = 0) (h2 : (!(decide (q ≥ 0) && decide (q ≤ (y.moves.length : Int) - 1))) = true) : 1 = kZ y q ∧ (⟨0, 0⟩ : Span) = mY y q := by
 have e1 : I5 y q = 1 := by unfold I5; rw [if_pos h, if_neg (by rw [n5 h2]; decide)]
 have e : 1 = kZ y q := by unfold kZ; rw [e1]; rfl
 exact ⟨e, by unfold mY; rw [← e]; rfl⟩
theorem xV (h2 : (!(decide (q ≥ 0) && decide (q ≤ (y.moves.length : Int) - 1))) = false) : 0 ≤ q ∧ q < y.moves.length := by
 have := fV h2
 rw [Bool.and_eq_true, decide_eq_true_eq, decide_eq_true_eq] at this; omega
theorem KT (h : bX y = 0) (h2 : (!(decide (q ≥ 0) && decide (q ≤ (y.moves.length : Int) - 1))) = false) (ho : cV y ≠ 0) : cV y = kZ y q ∧ (⟨0, 0⟩ : Span) = mY y q := by
 have e1 : I5 y q = 0 := by unfold I5; rw [if_pos h, if_pos (fV h2)]
 have e : cV y = kZ y q := by unfold kZ; rw [e1]; rfl
 exact ⟨e, by unfold mY; rw [← e, if_neg ho]⟩
theorem DH (h : bX y = 0) (h2 : (!(decide (q ≥ 0) && decide (q ≤ (y.moves.length : Int) - 1))) = false) (ho : cV y = 0) : 0 = kZ y q ∧ gj (aO y (nth bg)) (y.cells + 1) (tA (y.bins.length * (y.D + 1) + q.toNat)) = mY y q := by
 have e1 : I5 y q = 0 := by unfold I5; rw [if_pos h, if_pos (fV h2)]
 have e : cV y = kZ y q := by unfold kZ; rw [e1]; rfl
 exact ⟨by rw [← e, ho], by unfold mY; rw [← e, if_pos ho]⟩
end
attribute [local irreducible] aO gk Way.gu Way.fin Way.room ef eI fA gU over bO cR dh eY jW fE gy kO cY gP gA gC dB cL gQ oZ iX iq jB gj BO yZ iH bD.kept bD.cells bX eP bg gL kP cV oS p6 kI ji kZ mY hasB tA
attribute [local irreducible] iY fX nD qR jG jJ jI jK jF qu jD qw eJ gm qF gx ql nth fU dn af dy bodyPost Exit.then Exit.inBlock Code.wp Code.wpIn qh jH qi qX jC eT cZ cq bodyPostM eR
set_option maxRecDepth 100000 in
theorem Ev (f k : Int) : dy Tryz.prog 165 [Ty.int .i64 f, Ty.pp [Ty.int .i64 k]] (Ty.bool (decide (f = k))) := by
 refine av Tryz.func165 rfl (by decide) Tryz.ntmps165 (by exact Nat.le_of_ble_eq_true rfl) fun w0 M0 => ?_
 refine aE (aA (dX rfl (aD (aC (aE (aA (bQ rfl (aL rfl rfl rfl rfl (bE rfl rfl rfl ?_)))))))))
 refine dX rfl (aD (aC (ay (bh rfl rfl ?_))))
 all_goals exact cM rfl rfl
set_option maxRecDepth 100000 in
theorem Ge (y : bD) (fl : List bz) (a : List Int) (h : lK y fl a) (hfe : gb fl (y.cells + 1) a) (b : Nat) (hb : b < y.bins.length) : eT Tryz.prog 91 [1000] [(1000, Cont.vec cT 3 a)] [Ty.pp (eO y fl 1000 fl.length), Ty.int .i64 ((b : Nat) : Int)] [(1000, Cont.vec cT 3 (oS fl (y.cells + 1) y b a (y.D + 1)))] (Ty.sl dz (p6 fl (y.cells + 1) y b (y.D + 1))) := by
 refine dc Tryz.func91 rfl (by decide) Tryz.ntmps91 (by exact Nat.le_of_ble_eq_true rfl) fun w0 M0 => ?_
 have h1 := h.right.bins
 have h2 := h.right.days
 have h3 := D_eq h.right
 have hft := AV (y := y) (b := b) h.net (Nat.succ_pos _) h.bd hfe
 refine aE (aA (mP rfl (aD (aC (aE (aA (mP rfl (aD (aC ?_)))))))))
 refine aE (aE (aA (jo rfl (bq rfl ?_))))
 refine aQ rfl rfl rfl rfl rfl (by decide) ?_
 refine aQ rfl rfl rfl rfl rfl (by decide) ?_
 refine aL rfl rfl rfl rfl ?_
 refine b9 rfl rfl (by omega) (by omega) ?_
 refine bQ rfl (aD (aC (aq ?_)))
 refine cj (fun (t : {t : Nat // t ≤ y.D + 1}) => live [(0, Ty.pp (eO y fl 1000 fl.length)), (1, Ty.int .i64 ((b : Nat) : Int)), (5, Ty.row dz 37 26 (p6 fl (y.cells + 1) y b t.1)), (13, Ty.int .i64 (y.days + 1)), (14, Ty.int .i64 (t.1 : Nat))] [(1000, Cont.vec cT 3 (oS fl (y.cells + 1) y b a t.1))]) (fun t => y.D + 1 - t.1) (⟨0, by omega⟩) ?_ fun t => ?_
 ·(refine dK.mk' ?_ ?_ <;> (repeat' (first | exact aJ | exact aI | refine aB ?_ (Ty.aW _) | refine aB ?_ (Ty.aF _) | refine aG rfl ?_ ?_ | refine aB ?_ ?_)))
  all_goals first | exact BA E5 | exact Cont.eF HJ
 have hbl := HP (fl := fl) (n := (y.cells + 1)) (y := y) (b := b) t.1
 have ht := t.2
 have hFt : lK y fl (oS fl (y.cells + 1) y b a t.1) := ⟨h.right, h.net, h.bd, (hft t.1).1, h.ou⟩
 refine aE (aA (bE rfl rfl rfl (aD (aC (aE ?_)))))
 refine au rfl (fun hc1 => ?_) (fun hc1 => ?_)
 ·
  refine ak (aC (aE (aq (aE (aA (bQ rfl (cF rfl (aD (aC ?_)))))))))
  refine aE (aA (jo rfl (bQ rfl (bQ rfl ?_))))
  refine dW [] (DC y h.right b t.1 hb (by omega)) rfl (aK (mg (l1 := bl y) (l2 := [Ty.sl eA fl, Ty.vs 1000 fl.length]) rfl rfl) (aK (aa (bH rfl rfl)) (aK (aa (bH rfl rfl)) bW))) (by exact dF _ _) ?_
  refine cH rfl (by exact List.cons_ne_nil _ _) rfl ?_
  refine cx rfl rfl (by decide) rfl rfl (by exact (rfl : _ = Ty.int _ _)) rfl (by exact Nat.le_of_ble_eq_true rfl) rfl rfl (by exact (rfl : _ = [_])) ?_
  refine aD (aC ?_)
  refine kF (tg := 8) [(7, Ty.pp [Ty.int .i64 ((y.kept b t.1 : Nat) : Int)])] (by decide) rfl ⟨k6 (T := 3) (off := 0) (l := [Ty.int .i64 ((y.kept b t.1 : Nat) : Int)]) rfl rfl rfl (by decide), trivial⟩ ?_
  refine aA (Jo rfl (jo rfl (dL rfl ?_)))
  refine bt [(1000, 1000)] [] [(1000, Cont.vec cT 3 (yZ fl (y.cells + 1) (hasB y b t.1) (oS fl (y.cells + 1) y b a t.1)))] (Ch y fl (oS fl (y.cells + 1) y b a t.1) hFt (hft t.1) (Ty.jX 165 [Ty.pp [Ty.int .i64 ((y.kept b t.1 : Nat) : Int)]]) rfl rfl (hasB y b t.1) (fun i _ => by rw [← JL]; exact dU (Ev (i : Nat) _) rfl rfl rfl rfl rfl rfl) rfl) rfl rfl (aH (aH bL (aM rfl rfl)) (fD (aH (aH (aH (aH (aH (aH bL (eM (by exact List.mem_cons_self))) (aM rfl rfl)) (aM rfl rfl)) (aM rfl rfl)) (aM rfl rfl)) (aM rfl rfl)))) (b8 (a := 1000) (b := 1000) (by exact List.mem_cons_self) rfl (cA (by exact List.mem_cons_self) rfl) pre_nil) (bJ (a := 1000) (b := 1000) (by decide) rfl (cA (by decide) rfl) post_nil) (aM rfl rfl) ?_
  refine bp (E := dz) (xs := [gj fl (y.cells + 1) (hasB y b t.1)]) rfl rfl rfl rfl rfl (by decide) (by decide) (by repeat (first | exact (aY.nil : aY _ _ [] _) | (show aY _ _ ((_, _) :: _) _; apply aY.agg; (· exact (rfl : _ = Ty.agg _))))) (by exact rfl) rfl ?_
  refine fP rfl rfl (by decide) rfl rfl rfl rfl rfl rfl (by decide) (by (simp <;> omega)) (by (simp <;> omega)) ?_
  refine Fb rfl (aD (bV (aC (aA ?_))))
  refine b9 rfl rfl (by omega) (by omega) ?_
  refine bQ rfl (aD ?_)
  refine bZ (⟨t.1 + 1, by omega⟩) ?_ (by show y.D + 1 - (t.1 + 1) < y.D + 1 - t.1; omega)
  (refine dK.mk' ?_ ?_ <;> (repeat' (first | exact aJ | exact aI | refine aB ?_ (Ty.aW _) | refine aB ?_ (Ty.aF _) | refine aG rfl ?_ ?_ | refine aB ?_ ?_)))
  all_goals skip
  all_goals first | exact Ty.fo (Ed _) | exact Cont.eF (Hi _)
 refine cg (aR (aR (bA rfl (aC (aE (aA (Jo rfl (Fb rfl (aD ?_)))))))))
 refine aC (ay ?_)
 refine fZ [1000] rfl rfl (by decide) ?_ ?_
 ·exact dx rfl (cA (by decide) (by rw [show t.1 = y.D + 1 by have := t.2; omega])) ej
 all_goals skip
 all_goals exact Fo (by decide) rfl (by rw [show t.1 = y.D + 1 by have := t.2; omega])
set_option maxRecDepth 100000 in
theorem AQ (y : bD) (hs : y.Small) (q : Int) (ho : cV y ≠ 0) : dy Tryz.prog 22 [ff y, Ty.int .i64 q] (Ty.jq [Ty.sl dz (ji y q), Ty.int .i64 (kI y q)]) := by
 refine av Tryz.func22 rfl (by decide) Tryz.ntmps22 (by exact Nat.le_of_ble_eq_true rfl) fun w0 M0 => ?_
 refine aE (aA (bR rfl (mP rfl (cF rfl (aD (aC (aE (aE (aA ?_)))))))))
 refine aZ rfl rfl rfl (by exact Nat.le_of_ble_eq_true rfl) ?_
 refine bQ rfl (aj (zn y hs q) rfl rfl rfl rfl rfl (cF rfl (aD (aC (aE (aA (bQ rfl (bE rfl rfl rfl (aD ?_)))))))))
 refine aC ?_
 refine dJ rfl (fun hc1 => ?_) (fun hc1 => ?_)
 ·
  refine aE (aA (bQ rfl (mP rfl (cF rfl (aD (aC (ay (aV ?_))))))))
  refine fM rfl rfl rfl ?_ ?_
  all_goals skip
  all_goals first | exact gK (za hc1).2.symm | exact az rfl rfl (congrArg (Ty.int .i64) (za hc1).1)
 refine ak (aC (aE (aA ?_)))
 refine aZ rfl rfl rfl (by exact Nat.le_of_ble_eq_true rfl) ?_
 refine aj (o8 y hs ho) rfl rfl rfl rfl rfl (p8 rfl (bM rfl rfl (bM rfl rfl (mP rfl (cF rfl (aD (aC (aE (aE ?_)))))))))
 refine aA (bQ rfl (bE rfl rfl rfl (aD (aC ?_))))
 refine pF rfl (by rw [decide_eq_false ho]; rfl) ?_
 refine aE (aA (bQ rfl (mP rfl (cF rfl (aD (aC (ay (aV ?_))))))))
 refine fM rfl rfl rfl ?_ ?_
 all_goals skip
 all_goals first | exact gK (IC hc1 ho).2.symm | exact az rfl rfl (congrArg (Ty.int .i64) (IC hc1 ho).1)
set_option maxRecDepth 100000 in
theorem B3 (y : bD) (hs : y.Small) (q : Int) (ho : cV y = 0) : dy Tryz.prog 22 [ff y, Ty.int .i64 q] (Ty.jq [Ty.sl dz (ji y q), Ty.int .i64 (kI y q)]) := by
 refine av Tryz.func22 rfl (by decide) Tryz.ntmps22 (by exact Nat.le_of_ble_eq_true rfl) fun w0 M0 => ?_
 have hck := eW ho
 have hr := dV hck
 have hF : lK y (aO y (nth bg)) (kP y) := sX ho
 have hfe := pX ho
 refine aE (aA (bR rfl (mP rfl (cF rfl (aD (aC (aE (aE (aA ?_)))))))))
 refine aZ rfl rfl rfl (by exact Nat.le_of_ble_eq_true rfl) ?_
 refine bQ rfl (aj (zn y hs q) rfl rfl rfl rfl rfl (cF rfl (aD (aC (aE (aA (bQ rfl (bE rfl rfl rfl (aD ?_)))))))))
 refine aC ?_
 refine dJ rfl (fun hc1 => ?_) (fun hc1 => ?_)
 ·
  refine aE (aA (bQ rfl (mP rfl (cF rfl (aD (aC (ay (aV ?_))))))))
  refine fM rfl rfl rfl ?_ ?_
  all_goals skip
  all_goals first | exact gK (za hc1).2.symm | exact az rfl rfl (congrArg (Ty.int .i64) (za hc1).1)
 refine ak (aC (aE (aA ?_)))
 refine aZ rfl rfl rfl (by exact Nat.le_of_ble_eq_true rfl) ?_
 refine bt (res' := Ty.jq [Ty.pp (eO y (aO y (nth bg)) 1000 (aO y (nth bg)).length), Ty.int .i64 0]) [(1000, 1000)] [1000] [(1000, Cont.vec cT 3 (kP y))] (vn y hs ho) rfl rfl (aH bL (aM rfl rfl)) pre_nil (bJ (a := 1000) (b := 1000) (by decide) rfl (cA (by decide) rfl) post_nil) (zK (aH (aH bL (aM rfl rfl)) (fD (aH (aH (aH (aH (aH (aH bL (eM (by decide))) (aM rfl rfl)) (aM rfl rfl)) (aM rfl rfl)) (aM rfl rfl)) (aM rfl rfl))))) ?_
 refine p8 rfl (bM rfl rfl (bM rfl rfl (Ii rfl (cF rfl (aD (aC (aE (aE (aA ?_)))))))))
 refine bQ rfl (bE rfl rfl rfl (aD (aC (gD rfl (rfl) (ak (aC (aE ?_)))))))
 have hq := FB hc1
 have hqn : ((q.toNat : Nat) : Int) = q := by omega
 refine fW (s := 1) rfl (Ty.ah hqn.symm) ?_
 refine aA (jo rfl (bQ rfl ?_))
 refine bt [(1000, 1000)] [] [(1000, Cont.vec cT 3 (oS (aO y (nth bg)) (y.cells + 1) y q.toNat (kP y) (y.D + 1)))] (Ge y (aO y (nth bg)) (kP y) hF hfe q.toNat (by omega)) rfl rfl (aH (aH bL (aM rfl rfl)) (fD (aH (aH (aH (aH (aH (aH bL (eM (by exact List.mem_cons_self))) (aM rfl rfl)) (aM rfl rfl)) (aM rfl rfl)) (aM rfl rfl)) (aM rfl rfl)))) (b8 (a := 1000) (b := 1000) (by exact List.mem_cons_self) rfl (cA (by exact List.mem_cons_self) rfl) pre_nil) (bJ (a := 1000) (b := 1000) (by decide) rfl (cA (by decide) rfl) post_nil) (aM rfl rfl) ?_
 refine DE rfl (cF rfl (aD (aC (ay ?_))))
 refine fM rfl rfl rfl ?_ ?_
 all_goals skip
 all_goals first | exact az rfl rfl (congrArg (Ty.sl dz) (zB hc1 ho).2) | exact az rfl rfl (congrArg (Ty.int .i64) (zB hc1 ho).1)
set_option maxRecDepth 100000 in
theorem Hp (f k : Int) : dy Tryz.prog 121 [Ty.int .i64 f, Ty.pp [Ty.int .i64 k]] (Ty.bool (decide (f = k))) := by
 refine av Tryz.func121 rfl (by decide) Tryz.ntmps121 (by exact Nat.le_of_ble_eq_true rfl) fun w0 M0 => ?_
 refine aE (aA (dX rfl (aD (aC (aE (aA (bQ rfl (aL rfl rfl rfl rfl (bE rfl rfl rfl ?_)))))))))
 refine dX rfl (aD (aC (ay (bh rfl rfl ?_))))
 all_goals exact cM rfl rfl
set_option maxRecDepth 100000 in
theorem CS (y : bD) (hs : y.Small) (q : Int) (ho : cV y ≠ 0) : dy Tryz.prog 48 [ff y, Ty.int .i64 q] (Ty.jq [Ty.agg (dz.tys (mY y q)), Ty.int .i64 (kZ y q)]) := by
 refine av Tryz.func48 rfl (by decide) Tryz.ntmps48 (by exact Nat.le_of_ble_eq_true rfl) fun w0 M0 => ?_
 have hsm := hs.moves
 refine aE (aA (bR rfl ?_))
 refine cH rfl (by exact List.cons_ne_nil _ _) rfl ?_
 refine cF rfl (aD (aC (aE (aE (aA ?_)))))
 refine aZ rfl rfl rfl (by exact Nat.le_of_ble_eq_true rfl) ?_
 refine aj (kB y hs) rfl rfl rfl rfl rfl (cF rfl (aD (aC (aE (aA (bQ rfl (bE rfl rfl rfl (aD (aC ?_)))))))))
 refine dJ rfl (fun hc1 => ?_) (fun hc1 => ?_)
 ·
  refine aE (aA ?_)
  refine dS rfl rfl (by exact List.cons_ne_nil _ _) rfl (by repeat (exact (aY.nil : aY _ _ [] _))) (by exact (rfl : _ = some [_, _])) ?_
  refine bQ rfl ?_
  refine cJ rfl rfl (by decide) rfl rfl rfl rfl rfl rfl ?_
  refine cF rfl (aD (aC (ay (aV ?_))))
  refine jZ rfl rfl rfl rfl rfl (by decide) rfl rfl rfl ?_ ?_
  all_goals skip
  all_goals first | exact az rfl rfl (congrArg (fun s => Ty.agg (dz.tys s)) (ED hc1).2) | exact az rfl rfl (congrArg (Ty.int .i64) (ED hc1).1)
 refine ak (aC (aE (aE (aA (bQ rfl ?_)))))
 refine aQ rfl rfl rfl rfl rfl (by decide) ?_
 refine aL rfl rfl rfl rfl (c9 rfl rfl rfl ?_)
 refine gw rfl rfl (by omega) (by omega) ?_
 refine aj (tR _ _ _) rfl rfl rfl rfl rfl (dm rfl (aD (aC ?_)))
 refine cv rfl (fun hc2 => ?_) (fun hc2 => ?_)
 ·
  refine aE (aA ?_)
  refine dS rfl rfl (by exact List.cons_ne_nil _ _) rfl (by repeat (exact (aY.nil : aY _ _ [] _))) (by exact (rfl : _ = some [_, _])) ?_
  refine cJ rfl rfl (by decide) rfl rfl rfl rfl rfl rfl ?_
  refine cF rfl (aD (aC (ay (aV ?_))))
  refine jZ rfl rfl rfl rfl rfl (by decide) rfl rfl rfl ?_ ?_
  all_goals skip
  all_goals first | exact az rfl rfl (congrArg (fun s => Ty.agg (dz.tys s)) (D1 hc1 hc2).2) | exact az rfl rfl (congrArg (Ty.int .i64) (D1 hc1 hc2).1)
 refine ak (aC (aE (aA ?_)))
 refine aZ rfl rfl rfl (by exact Nat.le_of_ble_eq_true rfl) ?_
 refine aj (o8 y hs ho) rfl rfl rfl rfl rfl (p8 rfl (bM rfl rfl (bM rfl rfl (mP rfl (cF rfl (aD (aC (aE (aE ?_)))))))))
 refine aA (bQ rfl (bE rfl rfl rfl (aD (aC ?_))))
 refine pF rfl (by rw [decide_eq_false ho]; rfl) ?_
 refine aE (aA ?_)
 refine dS rfl rfl (by exact List.cons_ne_nil _ _) rfl (by repeat (exact (aY.nil : aY _ _ [] _))) (by exact (rfl : _ = some [_, _])) ?_
 refine bQ rfl ?_
 refine cJ rfl rfl (by decide) rfl rfl rfl rfl rfl rfl ?_
 refine cF rfl (aD (aC (ay (aV ?_))))
 refine jZ rfl rfl rfl rfl rfl (by decide) rfl rfl rfl ?_ ?_
 all_goals skip
 all_goals first | exact az rfl rfl (congrArg (fun s => Ty.agg (dz.tys s)) (KT hc1 hc2 ho).2) | exact az rfl rfl (congrArg (Ty.int .i64) (KT hc1 hc2 ho).1)
set_option maxRecDepth 100000 in
theorem Cn (y : bD) (hs : y.Small) (q : Int) (ho : cV y = 0) : dy Tryz.prog 48 [ff y, Ty.int .i64 q] (Ty.jq [Ty.agg (dz.tys (mY y q)), Ty.int .i64 (kZ y q)]) := by
 refine av Tryz.func48 rfl (by decide) Tryz.ntmps48 (by exact Nat.le_of_ble_eq_true rfl) fun w0 M0 => ?_
 have hck := eW ho
 have hr := dV hck
 have hF : lK y (aO y (nth bg)) (kP y) := sX ho
 have hfe := pX ho
 have hsm := hs.moves
 have hfl := fH (y := y) (c := nth bg)
 have hf34 : (aO y (nth bg)).length ≤ 34 := j7 hr
 refine aE (aA (bR rfl ?_))
 refine cH rfl (by exact List.cons_ne_nil _ _) rfl ?_
 refine cF rfl (aD (aC (aE (aE (aA ?_)))))
 refine aZ rfl rfl rfl (by exact Nat.le_of_ble_eq_true rfl) ?_
 refine aj (kB y hs) rfl rfl rfl rfl rfl (cF rfl (aD (aC (aE (aA (bQ rfl (bE rfl rfl rfl (aD (aC ?_)))))))))
 refine dJ rfl (fun hc1 => ?_) (fun hc1 => ?_)
 ·
  refine aE (aA ?_)
  refine dS rfl rfl (by exact List.cons_ne_nil _ _) rfl (by repeat (exact (aY.nil : aY _ _ [] _))) (by exact (rfl : _ = some [_, _])) ?_
  refine bQ rfl ?_
  refine cJ rfl rfl (by decide) rfl rfl rfl rfl rfl rfl ?_
  refine cF rfl (aD (aC (ay (aV ?_))))
  refine jZ rfl rfl rfl rfl rfl (by decide) rfl rfl rfl ?_ ?_
  all_goals skip
  all_goals first | exact az rfl rfl (congrArg (fun s => Ty.agg (dz.tys s)) (ED hc1).2) | exact az rfl rfl (congrArg (Ty.int .i64) (ED hc1).1)
 refine ak (aC (aE (aE (aA (bQ rfl ?_)))))
 refine aQ rfl rfl rfl rfl rfl (by decide) ?_
 refine aL rfl rfl rfl rfl (c9 rfl rfl rfl ?_)
 refine gw rfl rfl (by omega) (by omega) ?_
 refine aj (tR _ _ _) rfl rfl rfl rfl rfl (dm rfl (aD (aC ?_)))
 refine cv rfl (fun hc2 => ?_) (fun hc2 => ?_)
 ·
  refine aE (aA ?_)
  refine dS rfl rfl (by exact List.cons_ne_nil _ _) rfl (by repeat (exact (aY.nil : aY _ _ [] _))) (by exact (rfl : _ = some [_, _])) ?_
  refine cJ rfl rfl (by decide) rfl rfl rfl rfl rfl rfl ?_
  refine cF rfl (aD (aC (ay (aV ?_))))
  refine jZ rfl rfl rfl rfl rfl (by decide) rfl rfl rfl ?_ ?_
  all_goals skip
  all_goals first | exact az rfl rfl (congrArg (fun s => Ty.agg (dz.tys s)) (D1 hc1 hc2).2) | exact az rfl rfl (congrArg (Ty.int .i64) (D1 hc1 hc2).1)
 refine ak (aC (aE (aA ?_)))
 refine aZ rfl rfl rfl (by exact Nat.le_of_ble_eq_true rfl) ?_
 refine bt (res' := Ty.jq [Ty.pp (eO y (aO y (nth bg)) 1000 (aO y (nth bg)).length), Ty.int .i64 0]) [(1000, 1000)] [1000] [(1000, Cont.vec cT 3 (kP y))] (vn y hs ho) rfl rfl (aH bL (aM rfl rfl)) pre_nil (bJ (a := 1000) (b := 1000) (by decide) rfl (cA (by decide) rfl) post_nil) (zK (aH (aH bL (aM rfl rfl)) (fD (aH (aH (aH (aH (aH (aH bL (eM (by decide))) (aM rfl rfl)) (aM rfl rfl)) (aM rfl rfl)) (aM rfl rfl)) (aM rfl rfl))))) ?_
 refine p8 rfl (bM rfl rfl (bM rfl rfl (Ii rfl (cF rfl (aD (aC (aE (aE (aA ?_)))))))))
 refine bQ rfl (bE rfl rfl rfl (aD (aC (gD rfl (rfl) (ak (aC (aE ?_)))))))
 have hq := xV hc2
 refine cW mixed rfl (jo rfl (bq rfl ?_))
 refine aQ rfl rfl rfl rfl rfl (by decide) ?_
 refine aL rfl rfl rfl rfl (c9 rfl rfl rfl ?_)
 refine aQ rfl rfl rfl rfl rfl (by decide) ?_
 refine aL rfl rfl rfl rfl (c9 rfl rfl rfl ?_)
 refine gw rfl rfl (by omega) (by omega) ?_
 refine bQ rfl ?_
 refine b9 rfl rfl (by omega) (by omega) ?_
 refine cH rfl (by exact List.cons_ne_nil _ _) rfl ?_
 refine cx rfl rfl (by decide) rfl rfl (by exact (rfl : _ = Ty.int _ _)) rfl (by exact Nat.le_of_ble_eq_true rfl) rfl rfl (by exact (rfl : _ = [_])) ?_
 refine aD ?_
 refine ⟨by kernel_rfl, ?_⟩
 refine aC (aE ?_)
 refine fW (s := 9) rfl (Ty.aF _) ?_
 refine gM (tg := 10) rfl (Cont.m8 (T := 3) (show [Ty.int .i64 (((aO y (nth bg)).length : Int) - (y.moves.length : Int) + q)] = [Ty.int .i64 ((y.bins.length * (y.D + 1) + q.toNat : Nat) : Int)] by congr 2; rw [hfl]; omega)) ?_
 refine kF (tg := 10) [(9, Ty.pp [Ty.int .i64 ((y.bins.length * (y.D + 1) + q.toNat : Nat) : Int)])] (by decide) rfl ⟨k6 (T := 3) (off := 0) (l := [Ty.int .i64 ((y.bins.length * (y.D + 1) + q.toNat : Nat) : Int)]) rfl rfl rfl (by decide), trivial⟩ ?_
 refine aA (jo rfl (dL rfl ?_))
 refine bt [(1000, 1000)] [] [(1000, Cont.vec cT 3 (yZ (aO y (nth bg)) (y.cells + 1) (tA (y.bins.length * (y.D + 1) + q.toNat)) (kP y)))] (Ch y (aO y (nth bg)) (kP y) hF hfe (Ty.jX 121 [Ty.pp [Ty.int .i64 ((y.bins.length * (y.D + 1) + q.toNat : Nat) : Int)]]) rfl rfl (tA (y.bins.length * (y.D + 1) + q.toNat)) (fun i _ => by rw [← JA]; exact dU (Hp (i : Nat) _) rfl rfl rfl rfl rfl rfl) rfl) rfl rfl (aH (aH bL (aM rfl rfl)) (fD (aH (aH (aH (aH (aH (aH bL (eM (by exact List.mem_cons_self))) (aM rfl rfl)) (aM rfl rfl)) (aM rfl rfl)) (aM rfl rfl)) (aM rfl rfl)))) (b8 (a := 1000) (b := 1000) (by exact List.mem_cons_self) rfl (cA (by exact List.mem_cons_self) rfl) pre_nil) (bJ (a := 1000) (b := 1000) (by decide) rfl (cA (by decide) rfl) post_nil) (aM rfl rfl) ?_
 refine cJ rfl rfl (by decide) rfl rfl rfl rfl rfl rfl ?_
 refine cF rfl (aD (aC (ay ?_)))
 refine jZ rfl rfl rfl rfl rfl (by decide) rfl rfl rfl ?_ ?_
 all_goals skip
 all_goals first | exact az rfl rfl (congrArg (fun s => Ty.agg (dz.tys s)) (DH hc1 hc2 ho).2) | exact az rfl rfl (congrArg (Ty.int .i64) (DH hc1 hc2 ho).1)
theorem BF (y : bD) (hs : y.Small) (q : Int) : dy Tryz.prog 22 [ff y, Ty.int .i64 q] (Ty.jq [Ty.sl dz (ji y q), Ty.int .i64 (kI y q)]) := by
 by_cases ho : cV y = 0
 ·exact B3 y hs q ho
 exact AQ y hs q ho
theorem JS (y : bD) (hs : y.Small) (q : Int) : dy Tryz.prog 48 [ff y, Ty.int .i64 q] (Ty.jq [Ty.agg (dz.tys (mY y q)), Ty.int .i64 (kZ y q)]) := by
 by_cases ho : cV y = 0
 ·exact Cn y hs q ho
 exact CS y hs q ho
end Go.Proofs.YtelbollidfdcjaaGreat
namespace Go.T
open Go Go.RowKit
theorem K4 {ρ : List (Nat × Nat)} {l1 l2 : List Ty} (h1 : cI l1 = []) (h2 : bk l1 = []) : Conv ρ (.pp (l1 ++ l2)) (.pp l1) := fun w M M' v wf wf' hre ⟨b, off, e, hm, hlt, hd⟩ =>
 ⟨b, off, e, hre.none b hm, hlt, fun i t hi => by
  have hl := (List.getElem?_eq_some_iff.1 hi).1
  obtain ⟨x, hx, hdx⟩ := hd i t (by rw [List.getElem?_append_left hl]; exact hi)
  refine ⟨x, hx, aM ?_ ?_ w M M' x wf wf' hre hdx⟩
  ·refine List.eq_nil_iff_forall_not_mem.2 fun u hu => ?_
   have : u ∈ cI l1 := List.mem_flatMap.2 ⟨t, List.mem_of_getElem? hi, hu⟩
   rw [h1] at this; cases this
  refine List.eq_nil_iff_forall_not_mem.2 fun u hu => ?_
  have : u ∈ bk l1 := List.mem_flatMap.2 ⟨t, List.mem_of_getElem? hi, hu⟩
  rw [h2] at this; cases this⟩
end Go.T
namespace Go.Proofs.YtelbollidfdcjaaGreat
open Go Go.T
set_option maxHeartbeats 16000000
def o9 (y : bD) (t : Nat) (i : Nat) : Bool := (List.range y.bins.length).any fun b => decide ((i : Int) = ((y.kept b t : Nat) : Int))
noncomputable def rE (fl : List bz) (n : Nat) (y : bD) (a : List Int) : Nat → List Int
  | 0 => a
  | t + 1 => yZ fl n (o9 y t) (rE fl n y a t)
noncomputable def qW (fl : List bz) (n : Nat) (y : bD) (k : Nat) : List Span := (List.range k).map fun t => gj fl n (o9 y t)
noncomputable def s6 (y : bD) : List Span := if cV y = 0 then qW (aO y (nth bg)) (y.cells + 1) y (y.D + 1) else []
noncomputable def kW (y : bD) (q s : Int) (p : Span → Bool) : Int :=
  if eP y q = 0 then (if (!(decide (s ≥ 0) && decide (s ≤ 300))) = true then 3 else if kI y q = 0 then (if fidx p (ji y q) < 0 then 6 else 0) else kI y q) else eP y q
noncomputable def oB (y : bD) (q s : Int) (p : Span → Bool) : Int := if kW y q s p = 0 then fidx p (ji y q) else 0
section
variable {y : bD} {fl : List bz} {a : List Int} {n b k : Nat} {q s : Int} {p : Span → Bool} {i t : Nat}
theorem BU (hN : Net fl n) (hn : 0 < n) (hB : Bd fl) (h : gb fl n a) : ∀ t, gb fl n (rE fl n y a t)
  | 0 => h
  | t + 1 => (rW hN hn hB (BU hN hn hB h t)).2.1
theorem IN : a = rE fl n y a 0 := rfl
theorem Gk (t : Nat) : yZ fl n (o9 y t) (rE fl n y a t) = rE fl n y a (t + 1) := rfl
theorem FA (t : Nat) : qW fl n y t ++ [gj fl n (o9 y t)] = qW fl n y (t + 1) := by unfold qW; rw [List.range_succ, List.map_append]; rfl
theorem HQ (t : Nat) : (qW fl n y t).length = t := by unfold qW; rw [List.length_map, List.length_range]
theorem E2 : qW fl n y 0 = [] := rfl
theorem HN (hb : b < y.bins.length) (h : (i : Int) = ((y.kept b t : Nat) : Int)) : true = o9 y t i := (List.any_eq_true.2 ⟨b, List.mem_range.2 hb, decide_eq_true h⟩).symm
theorem Io (h : ∀ b, b < y.bins.length → ¬ (i : Int) = ((y.kept b t : Nat) : Int)) : false = o9 y t i := by
 refine (List.any_eq_false.2 fun b hb => ?_).symm
 rw [decide_eq_true_eq]; exact h b (List.mem_range.1 hb)
theorem Iz (h : cV y ≠ 0) : [] = s6 y := (if_neg h).symm
theorem AO (h : cV y = 0) : qW (aO y (nth bg)) (y.cells + 1) y (y.D + 1) = s6 y := (if_pos h).symm
theorem D5 {e : Int} (h : e = kW y q s p) (h0 : e ≠ 0) : 0 = oB y q s p := by unfold oB; rw [← h, if_neg h0]
theorem Jv (h : ¬ eP y q = 0) : eP y q = kW y q s p ∧ 0 = oB y q s p := by
 have e : eP y q = kW y q s p := (if_neg h).symm
 exact ⟨e, D5 e h⟩
theorem KR (h : eP y q = 0) (h2 : (!(decide (s ≥ 0) && decide (s ≤ 300))) = true) : 3 = kW y q s p ∧ 0 = oB y q s p := by
 have e : 3 = kW y q s p := by unfold kW; rw [if_pos h, if_pos h2]
 exact ⟨e, D5 e (by decide)⟩
theorem KB (h : eP y q = 0) (h2 : (!(decide (s ≥ 0) && decide (s ≤ 300))) = false) (h3 : ¬ kI y q = 0) : kI y q = kW y q s p ∧ 0 = oB y q s p := by
 have e : kI y q = kW y q s p := by unfold kW; rw [if_pos h, if_neg (by rw [h2]; decide), if_neg h3]
 exact ⟨e, D5 e h3⟩
theorem KH (h : eP y q = 0) (h2 : (!(decide (s ≥ 0) && decide (s ≤ 300))) = false) (h3 : kI y q = 0) (h4 : fidx p (ji y q) < 0) : 6 = kW y q s p ∧ 0 = oB y q s p := by
 have e : 6 = kW y q s p := by unfold kW; rw [if_pos h, if_neg (by rw [h2]; decide), if_pos h3, if_pos h4]
 exact ⟨e, D5 e (by decide)⟩
theorem Hy (h : eP y q = 0) (h2 : (!(decide (s ≥ 0) && decide (s ≤ 300))) = false) (h3 : kI y q = 0) (h4 : ¬ fidx p (ji y q) < 0) : 0 = kW y q s p ∧ fidx p (ji y q) = oB y q s p := by
 have e : 0 = kW y q s p := by unfold kW; rw [if_pos h, if_neg (by rw [h2]; decide), if_pos h3, if_neg h4]
 exact ⟨e, by unfold oB; rw [← e]; rfl⟩
end
attribute [local irreducible] aO gk Way.gu Way.fin Way.room ef eI fA gU over bO cR dh eY jW fE gy kO cY gP gA gC dB cL gQ oZ iX iq jB gj BO yZ iH bD.kept bD.cells bX eP bg gL kP cV oS p6 kI ji kZ mY hasB tA rE qW s6 o9 kW oB
attribute [local irreducible] iY fX nD qR jG jJ jI jK jF qu jD qw eJ gm qF gx ql nth fU dn af dy bodyPost Exit.then Exit.inBlock Code.wp Code.wpIn qh jH qi qX jC eT cZ cq bodyPostM eR
set_option maxRecDepth 100000 in
theorem HW (y : bD) (hr : y.cm) (i t : Nat) (ht : t ≤ y.D) : dy Tryz.prog 88 [Ty.int .i64 ((i : Nat) : Int), Ty.pp (bl y), Ty.pp [Ty.pp (bl y)], Ty.pp [Ty.int .i64 ((t : Nat) : Int)]] (Ty.bool (o9 y t i)) := by
 refine av Tryz.func88 rfl (by decide) Tryz.ntmps88 (by exact Nat.le_of_ble_eq_true rfl) fun w0 M0 => ?_
 have h1 := hr.bins
 refine aE (aA (dX rfl (aD (aC (aE (aE (aA ?_)))))))
 refine aQ rfl rfl rfl rfl rfl (by decide) ?_
 refine aL rfl rfl rfl rfl (c9 rfl rfl rfl (bQ rfl (aD (aC (aq ?_)))))
 refine cj (fun (b : {b : Nat // b ≤ y.bins.length ∧ ∀ c, c < b → ¬ (i : Int) = ((y.kept c t : Nat) : Int)}) => live [(0, Ty.int .i64 ((i : Nat) : Int)), (1, Ty.pp (bl y)), (2, Ty.pp [Ty.pp (bl y)]), (3, Ty.pp [Ty.int .i64 ((t : Nat) : Int)]), (9, Ty.int .i64 y.bins.length), (10, Ty.int .i64 (b.1 : Nat))] []) (fun b => y.bins.length - b.1) (⟨0, Nat.zero_le _, fun c hc => absurd hc (Nat.not_lt_zero c)⟩) ?_ fun b => ?_
 ·(refine dK.mk' ?_ ?_ <;> (repeat' (first | exact aJ | exact aI | refine aB ?_ (Ty.aW _) | refine aB ?_ (Ty.aF _))))
 have hb := b.2.1
 refine aE (aA (bE rfl rfl rfl (aD (aC (aE ?_)))))
 refine au rfl (fun hc1 => ?_) (fun hc1 => ?_)
 ·
  refine ak (aC (aE (aq (aE (aA (bQ rfl (cF rfl (aD (aC ?_)))))))))
  refine aE (aA (bQ rfl (aL rfl rfl rfl rfl (bQ rfl (aL rfl rfl rfl rfl ?_)))))
  refine aj (DC y hr b.1 t (by omega) ht) rfl rfl rfl rfl rfl ?_
  refine bE rfl rfl rfl (aD (aC ?_))
  refine au rfl (fun hc2 => ?_) (fun hc2 => ?_)
  ·
   refine aE (aA (dX rfl (aD (aC (ay (bG (aV (aV (bG ?_)))))))))
   refine aV (bh rfl rfl ?_)
   all_goals skip
   all_goals exact az rfl rfl (congrArg Ty.bool (HN (by omega) hc2))
  refine ak (bV (aC (aA ?_)))
  refine b9 rfl rfl (by omega) (by omega) ?_
  refine bQ rfl (aD ?_)
  refine bZ (⟨b.1 + 1, by omega, fun c hc => by by_cases e : c = b.1; (subst e; exact hc2); exact b.2.2 c (by omega)⟩) ?_ (by show y.bins.length - (b.1 + 1) < y.bins.length - b.1; omega)
  (refine dK.mk' ?_ ?_ <;> (repeat' (first | exact aJ | exact aI | refine aB ?_ (Ty.aW _) | refine aB ?_ (Ty.aF _))))
  all_goals skip
 refine cg (aR (aR (bA rfl (aC (aE (aA (dX rfl (aD (aC ?_)))))))))
 refine ay (bh rfl rfl ?_)
 all_goals skip
 all_goals exact az rfl rfl (congrArg Ty.bool (Io fun c hc => b.2.2 c (by have := b.2.1; omega)))
set_option maxRecDepth 100000 in
theorem CC (y : bD) (hs : y.Small) (ho : cV y ≠ 0) : dy Tryz.prog 21 [ff y] (Ty.jq [Ty.sl dz (s6 y), Ty.int .i64 (cV y)]) := by
 refine av Tryz.func21 rfl (by decide) Tryz.ntmps21 (by exact Nat.le_of_ble_eq_true rfl) fun w0 M0 => ?_
 refine aE (aA (bR rfl (mP rfl (cF rfl (aD (aC (aE (aA ?_))))))))
 refine aZ rfl rfl rfl (by exact Nat.le_of_ble_eq_true rfl) ?_
 refine aj (o8 y hs ho) rfl rfl rfl rfl rfl (p8 rfl (bM rfl rfl (bM rfl rfl ?_)))
 refine cH rfl (by exact List.cons_ne_nil _ _) rfl ?_
 refine cx rfl rfl (by decide) rfl rfl (by exact (rfl : _ = Ty.ex _)) rfl (by exact Nat.le_of_ble_eq_true rfl) rfl rfl (by exact (rfl : _ = [_])) ?_
 refine cF rfl (aD (aC (aE (aE (aA (bQ rfl (bE rfl rfl rfl (aD (aC ?_)))))))))
 refine pF rfl (by rw [decide_eq_false ho]; rfl) ?_
 refine aE (aA (bQ rfl (mP rfl (cF rfl (aD (aC (ay (aV ?_))))))))
 refine fM rfl rfl rfl ?_ ?_
 all_goals first | exact cM rfl rfl | skip
 all_goals exact gK (Iz ho).symm
set_option maxRecDepth 100000 in
theorem CJ (y : bD) (hs : y.Small) (ho : cV y = 0) : dy Tryz.prog 21 [ff y] (Ty.jq [Ty.sl dz (s6 y), Ty.int .i64 (cV y)]) := by
 refine av Tryz.func21 rfl (by decide) Tryz.ntmps21 (by exact Nat.le_of_ble_eq_true rfl) fun w0 M0 => ?_
 have hck := eW ho
 have hr := dV hck
 have hF : lK y (aO y (nth bg)) (kP y) := sX ho
 have hfe := pX ho
 have h1 := hr.bins
 have h2 := hr.days
 have h3 := D_eq hr
 have hft := BU (y := y) hF.net (Nat.succ_pos _) hF.bd hfe
 refine aE (aA (bR rfl (mP rfl (cF rfl (aD (aC (aE (aA ?_))))))))
 refine aZ rfl rfl rfl (by exact Nat.le_of_ble_eq_true rfl) ?_
 refine bt (res' := Ty.jq [Ty.pp (eO y (aO y (nth bg)) 1000 (aO y (nth bg)).length), Ty.int .i64 0]) [(1000, 1000)] [1000] [(1000, Cont.vec cT 3 (kP y))] (vn y hs ho) rfl rfl (aH bL (aM rfl rfl)) pre_nil (bJ (a := 1000) (b := 1000) (by decide) rfl (cA (by decide) rfl) post_nil) (zK (aH (aH bL (aM rfl rfl)) (fD (aH (aH (aH (aH (aH (aH bL (eM (by decide))) (aM rfl rfl)) (aM rfl rfl)) (aM rfl rfl)) (aM rfl rfl)) (aM rfl rfl))))) ?_
 refine p8 rfl (bM rfl rfl (bM rfl rfl ?_))
 refine cH rfl (by exact List.cons_ne_nil _ _) rfl ?_
 refine cx rfl rfl (by decide) rfl rfl (by exact (rfl : _ = Ty.pp _)) rfl (by exact Nat.le_of_ble_eq_true rfl) rfl rfl (by exact (rfl : _ = [_])) ?_
 refine cF rfl (aD (aC (aE (aE (aA (bQ rfl (bE rfl rfl rfl (aD (aC ?_)))))))))
 refine gD rfl (rfl) (ak (aC (aE ?_)))
 refine kF (tg := 5) [(4, Ty.pp [Ty.pp (eO y (aO y (nth bg)) 1000 (aO y (nth bg)).length)])] (by decide) rfl ⟨k6 (T := 152) (off := 0) (l := [Ty.pp (eO y (aO y (nth bg)) 1000 (aO y (nth bg)).length)]) rfl rfl rfl (by decide), trivial⟩ ?_
 refine aA (mP rfl (aD (aC (aE (aE (aA ?_))))))
 refine aQ rfl rfl rfl rfl rfl (by decide) ?_
 refine aL rfl rfl rfl rfl ?_
 refine b9 rfl rfl (by omega) (by omega) ?_
 refine bQ rfl (aD (aC (aq ?_)))
 refine cj (fun (t : {t : Nat // t ≤ y.D + 1}) => live [(1, Ty.pp (bl y)), (4, Ty.pp [Ty.pp (eO y (aO y (nth bg)) 1000 (aO y (nth bg)).length)]), (6, Ty.row dz 37 27 (qW (aO y (nth bg)) (y.cells + 1) y t.1)), (18, Ty.int .i64 (y.days + 1)), (19, Ty.int .i64 (t.1 : Nat))] [(1000, Cont.vec cT 3 (rE (aO y (nth bg)) (y.cells + 1) y (kP y) t.1))]) (fun t => y.D + 1 - t.1) (⟨0, by omega⟩) ?_ fun t => ?_
 ·(refine dK.mk' ?_ ?_ <;> (repeat' (first | exact aJ | exact aI | refine aB ?_ (Ty.aW _) | refine aB ?_ (Ty.aF _) | refine aG rfl ?_ ?_ | refine aB ?_ ?_)))
  all_goals first | exact BA E2 | exact Cont.eF IN
 have hbl := HQ (fl := (aO y (nth bg))) (n := (y.cells + 1)) (y := y) t.1
 have ht := t.2
 have hFt : lK y (aO y (nth bg)) (rE (aO y (nth bg)) (y.cells + 1) y (kP y) t.1) := ⟨hr, hF.net, hF.bd, (hft t.1).1, hF.ou⟩
 refine aE (aA (bE rfl rfl rfl (aD (aC (aE ?_)))))
 refine au rfl (fun hc2 => ?_) (fun hc2 => ?_)
 ·
  refine ak (aC (aE (aq (aE (aA (bQ rfl ?_))))))
  refine cH rfl (by exact List.cons_ne_nil _ _) rfl ?_
  refine cx rfl rfl (by decide) rfl rfl (by exact (rfl : _ = Ty.int _ _)) rfl (by exact Nat.le_of_ble_eq_true rfl) rfl rfl (by exact (rfl : _ = [_])) ?_
  refine aD (aC ?_)
  refine kF (tg := 8) [(7, Ty.pp [Ty.int .i64 ((t.1 : Nat) : Int)])] (by decide) rfl ⟨k6 (T := 3) (off := 0) (l := [Ty.int .i64 ((t.1 : Nat) : Int)]) rfl rfl rfl (by decide), trivial⟩ ?_
  refine aA (Jo rfl (aL rfl rfl rfl rfl (dL rfl ?_)))
  refine bt [(1000, 1000)] [] [(1000, Cont.vec cT 3 (yZ (aO y (nth bg)) (y.cells + 1) (o9 y t.1) (rE (aO y (nth bg)) (y.cells + 1) y (kP y) t.1)))] (Ch y (aO y (nth bg)) (rE (aO y (nth bg)) (y.cells + 1) y (kP y) t.1) hFt (hft t.1) (Ty.jX 88 [Ty.pp (bl y), Ty.pp [Ty.pp (bl y)], Ty.pp [Ty.int .i64 ((t.1 : Nat) : Int)]]) rfl rfl (o9 y t.1) (fun i _ => dU (HW y hr i t.1 (by omega)) rfl rfl rfl rfl rfl rfl) rfl) rfl rfl (aH (aH bL (s9 (aH (aH (aH bL (aM rfl rfl)) (fD (aH bL (K4 (l1 := bl y) (l2 := [Ty.sl eA (aO y (nth bg)), Ty.vs 1000 (aO y (nth bg)).length]) rfl rfl)))) (aM rfl rfl)))) (fD (aH (aH (aH (aH (aH (aH bL (eM (by exact List.mem_cons_self))) (aM rfl rfl)) (aM rfl rfl)) (aM rfl rfl)) (aM rfl rfl)) (aM rfl rfl)))) (b8 (a := 1000) (b := 1000) (by exact List.mem_cons_self) rfl (cA (by exact List.mem_cons_self) rfl) pre_nil) (bJ (a := 1000) (b := 1000) (by decide) rfl (cA (by decide) rfl) post_nil) (aM rfl rfl) ?_
  refine bp (E := dz) (xs := [gj (aO y (nth bg)) (y.cells + 1) (o9 y t.1)]) rfl rfl rfl rfl rfl (by decide) (by decide) (by repeat (first | exact (aY.nil : aY _ _ [] _) | (show aY _ _ ((_, _) :: _) _; apply aY.agg; (· exact (rfl : _ = Ty.agg _))))) (by exact rfl) rfl ?_
  refine fP rfl rfl (by decide) rfl rfl rfl rfl rfl rfl (by decide) (by (simp <;> omega)) (by (simp <;> omega)) ?_
  refine Fb rfl (aD (bV (aC (aA ?_))))
  refine b9 rfl rfl (by omega) (by omega) ?_
  refine bQ rfl (aD ?_)
  refine bZ (⟨t.1 + 1, by omega⟩) ?_ (by show y.D + 1 - (t.1 + 1) < y.D + 1 - t.1; omega)
  (refine dK.mk' ?_ ?_ <;> (repeat' (first | exact aJ | exact aI | refine aB ?_ (Ty.aW _) | refine aB ?_ (Ty.aF _) | refine aG rfl ?_ ?_ | refine aB ?_ ?_)))
  all_goals skip
  all_goals first | exact Ty.fo (FA _) | exact Cont.eF (Gk _)
 refine cg (aR (aR (bA rfl (aC (aE (aA (Jo rfl (Fb rfl (cF rfl ?_)))))))))
 refine aD (aC (ay ?_))
 refine fM rfl rfl rfl ?_ ?_
 all_goals skip
 all_goals first | exact vD (by decide) ((show _ = qW (aO y (nth bg)) (y.cells + 1) y (y.D + 1) by rw [show t.1 = y.D + 1 by have := t.2; omega]).trans (AO ho)) | exact az rfl rfl (congrArg (Ty.int .i64) ho.symm)
set_option maxRecDepth 100000 in
theorem Jb (y : bD) (hs : y.Small) (q s : Int) (t : Ty) (h1 : t.one = true) (p : Span → Bool) (hd : t.deps = []) (hc : t.cdeps = []) (hf : ∀ x ∈ ji y q, nW Tryz.prog t [Ty.agg (dz.tys x)] (Ty.bool (p x))) : dy Tryz.prog 100 [ff y, Ty.int .i64 q, Ty.int .i64 s, t] (Ty.jq [Ty.int .i64 (oB y q s p), Ty.int .i64 (kW y q s p)]) := by
 refine av Tryz.func100 rfl (by decide) Tryz.ntmps100 (by exact Nat.le_of_ble_eq_true rfl) fun w0 M0 => ?_
 refine aE (aA (bR rfl (cF rfl (cF rfl (aD (aC (aE (aE (aA ?_)))))))))
 refine aZ rfl rfl rfl (by exact Nat.le_of_ble_eq_true rfl) ?_
 refine bQ rfl (aj (zn y hs q) rfl rfl rfl rfl rfl (cF rfl (aD (aC (aE (aA (bQ rfl (bE rfl rfl rfl (aD ?_)))))))))
 refine aC ?_
 refine dJ rfl (fun hc1 => ?_) (fun hc1 => ?_)
 ·
  refine aE (aA (bQ rfl (cF rfl (cF rfl (aD (aC (ay (aV ?_))))))))
  refine fM rfl rfl rfl ?_ ?_
  all_goals skip
  all_goals first | exact az rfl rfl (congrArg (Ty.int .i64) (Jv hc1).1) | exact az rfl rfl (congrArg (Ty.int .i64) (Jv hc1).2)
 refine ak (aC (aE (aE (aA (bQ rfl (aj (tR _ _ _) rfl rfl rfl rfl rfl (dm rfl (aD (aC ?_)))))))))
 refine cv rfl (fun hc2 => ?_) (fun hc2 => ?_)
 ·
  refine aE (aA (cF rfl (cF rfl (aD (aC (ay (aV ?_)))))))
  refine fM rfl rfl rfl ?_ ?_
  all_goals skip
  all_goals first | exact az rfl rfl (congrArg (Ty.int .i64) (KR hc1 hc2).1) | exact az rfl rfl (congrArg (Ty.int .i64) (KR hc1 hc2).2)
 refine ak (aC (aE (aA ?_)))
 refine aZ rfl rfl rfl (by exact Nat.le_of_ble_eq_true rfl) ?_
 refine bQ rfl (aj (BF y hs q) rfl rfl rfl rfl rfl (p8 rfl (bM rfl rfl (bM rfl rfl (DE rfl (cF rfl (aD (aC (aE ?_)))))))))
 refine aE (aA (bQ rfl (bE rfl rfl rfl (aD (aC ?_)))))
 refine dJ rfl (fun hc3 => ?_) (fun hc3 => ?_)
 ·
  refine aE (aA (bQ rfl (cF rfl (cF rfl (aD (aC (ay (aV ?_))))))))
  refine fM rfl rfl rfl ?_ ?_
  all_goals skip
  all_goals first | exact az rfl rfl (congrArg (Ty.int .i64) (KB hc1 hc2 hc3).1) | exact az rfl rfl (congrArg (Ty.int .i64) (KB hc1 hc2 hc3).2)
 refine ak (aC (aE (aA (gB rfl ?_))))
 refine eE (ty := t) rfl ?_
 refine aj (uQ (ji y q) t h1 p hd hc hf) rfl (by exact bP rfl (bP hd rfl)) (by exact bI rfl (bI hc rfl)) rfl rfl ?_
 refine cF rfl (aD (aC (aE (aE (aA (bQ rfl (bE rfl rfl rfl (aD (aC ?_)))))))))
 refine au rfl (fun hc4 => ?_) (fun hc4 => ?_)
 ·
  refine aE (aA (cF rfl (cF rfl (aD (aC (ay (aV ?_)))))))
  refine fM rfl rfl rfl ?_ ?_
  all_goals skip
  all_goals first | exact az rfl rfl (congrArg (Ty.int .i64) (KH hc1 hc2 hc3 hc4).1) | exact az rfl rfl (congrArg (Ty.int .i64) (KH hc1 hc2 hc3 hc4).2)
 refine ak (aC (aE (aA (bQ rfl (cF rfl (cF rfl (aD (aC (ay ?_)))))))))
 refine fM rfl rfl rfl ?_ ?_
 all_goals skip
 all_goals first | exact az rfl rfl (congrArg (Ty.int .i64) (Hy hc1 hc2 hc3 hc4).1) | exact az rfl rfl (congrArg (Ty.int .i64) (Hy hc1 hc2 hc3 hc4).2)
set_option maxRecDepth 100000 in
theorem Ek (s : Span) (k : Int) : dy Tryz.prog 101 [Ty.agg (dz.tys s), Ty.pp [Ty.int .i64 k]] (Ty.bool (decide (s.lo ≥ k))) := by
 refine av Tryz.func101 rfl (by decide) Tryz.ntmps101 (by exact Nat.le_of_ble_eq_true rfl) fun w0 M0 => ?_
 refine aE (aA (bR rfl (dX rfl (aD (aC (aE (aA ?_)))))))
 refine aQ rfl rfl rfl rfl rfl (by decide) ?_
 refine aL rfl rfl rfl rfl (aL rfl rfl rfl rfl (bE rfl rfl rfl (dX rfl (aD (aC (ay (bh rfl rfl ?_)))))))
 all_goals exact cM rfl rfl
set_option maxRecDepth 100000 in
theorem H9 (y : bD) (hs : y.Small) (q s : Int) : dy Tryz.prog 33 [ff y, Ty.int .i64 q, Ty.int .i64 s] (Ty.jq [Ty.int .i64 (oB y q s fun x => decide (x.lo ≥ s)), Ty.int .i64 (kW y q s fun x => decide (x.lo ≥ s))]) := by
 refine av Tryz.func33 rfl (by decide) Tryz.ntmps33 (by exact Nat.le_of_ble_eq_true rfl) fun w0 M0 => ?_
 refine aE (aA (bR rfl ?_))
 refine gF (by exact (rfl : _ = Ty.int _ _)) rfl ?_
 refine cF rfl (cF rfl (aD (aC (aE (aA ?_)))))
 refine aZ rfl rfl rfl (by exact Nat.le_of_ble_eq_true rfl) ?_
 refine bQ rfl (aL rfl rfl rfl rfl (dL rfl ?_))
 refine aj (Jb y hs q s (Ty.jX 101 [Ty.pp [Ty.int .i64 s]]) rfl (fun x => decide (x.lo ≥ s)) rfl rfl fun x _ => dU (Ek x s) rfl rfl rfl rfl rfl rfl) rfl rfl rfl rfl rfl ?_
 refine bM rfl rfl (bM rfl rfl (cF rfl (cF rfl (aD (aC (ay ?_))))))
 refine fM rfl rfl rfl ?_ ?_
 all_goals exact cM rfl rfl
theorem JC (y : bD) (hs : y.Small) : dy Tryz.prog 21 [ff y] (Ty.jq [Ty.sl dz (s6 y), Ty.int .i64 (cV y)]) := by
 by_cases ho : cV y = 0
 ·exact CJ y hs ho
 exact CC y hs ho
end Go.Proofs.YtelbollidfdcjaaGreat
namespace Go.Proofs.YtelbollidfdcjaaGreat
open Go Go.T
set_option maxHeartbeats 16000000
structure D9 where
  cells : List An
  out : Bool
  deriving Inhabited
def mT (p : D9) : List Ty := [Ty.sl qd p.cells, Ty.bool p.out]
def kU (fl : List bz) : Int := fl.foldl (fun m f => max m (f.lo - f.hi)) (-300)
def wv (y : bD) (l : List An) (c : Int) : Bool := l.any fun x => decide (y.cell x.bin x.day = c)
def GM (y : bD) (p : D9) (f : bz) : Bool := if p.out = true then (wv y p.cells f.src && !wv y p.cells f.dst) else (wv y p.cells f.dst && !wv y p.cells f.src)
def E0 (y : bD) (p : D9) (f : bz) : Bool := if p.out = true then (wv y p.cells f.dst && !wv y p.cells f.src) else (wv y p.cells f.src && !wv y p.cells f.dst)
def q7 (y : bD) (p : D9) (m : Int) (f : bz) : Int := (m + if GM y p f = true then f.lo else 0) - if E0 y p f = true then f.hi else 0
def ga (y : bD) (fl : List bz) (p : D9) : Nat → Int
  | 0 => 0
  | k + 1 => q7 y p (ga y fl p k) (nth fl k)
def je (y : bD) (fl : List bz) (p : D9) : Int := if p.cells = [] then kU fl else ga y fl p fl.length
def mJ (a b : An) : Bool := !decide (a = b) && (decide (a.bin < b.bin) || (decide (a.bin = b.bin) && decide (a.day < b.day)))
def GQ (y : bD) (c : An) : Bool := y.bin c.bin && (decide (c.day ≥ 0) && decide (c.day ≤ y.days - 1))
open Classical in
noncomputable def m5 (y : bD) (p : D9) : Int := if bX y = 0 then (if (p.cells.all (GQ y)) = true then (if (∀ i, i + 1 < p.cells.length → mJ (nth p.cells i) (nth p.cells (i + 1)) = true) then (if je y (aO y (nth bg)) p < 1 then 6 else 0) else 4) else 1) else bX y
noncomputable def tF (y : bD) (p : D9) : Int := if m5 y p = 0 then je y (aO y (nth bg)) p else 0
section
variable {y : bD} {fl : List bz} {a : List Int} {n b k : Nat} {p : D9} {f : bz} {m : Int}
theorem Cm : -300 = kU (fl.take 0) := rfl
theorem Cl (h : k < fl.length) : max (kU (fl.take k)) ((nth fl k).lo - (nth fl k).hi) = kU (fl.take (k + 1)) := by
 unfold kU; rw [dw h, List.foldl_append]; rfl
theorem IV (h : p.out = true) : (wv y p.cells f.src && !wv y p.cells f.dst) = GM y p f ∧ (wv y p.cells f.dst && !wv y p.cells f.src) = E0 y p f := ⟨(if_pos h).symm, (if_pos h).symm⟩
theorem KM (h : p.out = false) : (wv y p.cells f.dst && !wv y p.cells f.src) = GM y p f ∧ (wv y p.cells f.src && !wv y p.cells f.dst) = E0 y p f := ⟨(if_neg (by rw [h]; decide)).symm, (if_neg (by rw [h]; decide)).symm⟩
def nv (y : bD) (p : D9) (m : Int) (f : bz) : Int := m + if GM y p f = true then f.lo else 0
theorem HO (h : GM y p f = true) : m + f.lo = nv y p m f := by unfold nv; rw [if_pos h]
theorem JI (h : GM y p f = false) : m = nv y p m f := by unfold nv; rw [if_neg (by rw [h]; decide)]; omega
theorem DR (h : 0 ≤ f.lo ∧ f.lo ≤ 300) : m ≤ nv y p m f ∧ nv y p m f ≤ m + 300 := by unfold nv; split <;> omega
theorem xu : 0 = ga y fl p 0 := rfl
theorem BH (h : E0 y p (nth fl k) = true) : nv y p (ga y fl p k) (nth fl k) - (nth fl k).hi = ga y fl p (k + 1) := by
 show _ = q7 y p _ _; unfold q7; rw [if_pos h]; rfl
theorem DS (h : E0 y p (nth fl k) = false) : nv y p (ga y fl p k) (nth fl k) = ga y fl p (k + 1) := by
 have e : ¬ E0 y p (nth fl k) = true := by rw [h]; decide
 show _ = q7 y p _ _; unfold q7; rw [if_neg e]; unfold nv; omega
theorem Bw (hb : ∀ i, i < fl.length → 0 ≤ (nth fl i).lo ∧ (nth fl i).lo ≤ 300 ∧ 0 ≤ (nth fl i).hi ∧ (nth fl i).hi ≤ 300) : ∀ k, k ≤ fl.length → -(300 * (k : Int)) ≤ ga y fl p k ∧ ga y fl p k ≤ 300 * (k : Int)
  | 0, _ => by rw [← xu]; omega
  | k + 1, h => by
    have ih := Bw hb k (by omega)
    have h1 := hb k (by omega)
    have h2 := DR (y := y) (p := p) (m := ga y fl p k) (f := nth fl k) ⟨h1.1, h1.2.1⟩
    cases e : E0 y p (nth fl k) with
    | true => rw [← BH e]; omega
    | false => rw [← DS e]; omega
theorem C5 (h : p.cells = []) : kU fl = je y fl p := (if_pos h).symm
theorem Be (h : p.cells ≠ []) : ga y fl p fl.length = je y fl p := (if_neg h).symm
theorem Kv (h : (p.cells.length : Int) = 0) : p.cells = [] := List.length_eq_zero_iff.1 (by omega)
theorem Jc (h : ¬ (p.cells.length : Int) = 0) : p.cells ≠ [] := fun e => h (by rw [e]; rfl)
theorem DQ {e : Int} (h : e = m5 y p) (h0 : e ≠ 0) : 0 = tF y p := by unfold tF; rw [← h, if_neg h0]
theorem KA (h : ¬ bX y = 0) : bX y = m5 y p ∧ 0 = tF y p := by
 have e : bX y = m5 y p := (if_neg h).symm
 exact ⟨e, DQ e h⟩
theorem KS (h : bX y = 0) (h2 : (p.cells.all (GQ y)) = false) : 1 = m5 y p ∧ 0 = tF y p := by
 have e : 1 = m5 y p := by unfold m5; rw [if_pos h, if_neg (by rw [h2]; decide)]
 exact ⟨e, DQ e (by decide)⟩
theorem Ms (h : bX y = 0) (h2 : (p.cells.all (GQ y)) = true) {i : Nat} (hi : i + 1 < p.cells.length) (h3 : mJ (nth p.cells i) (nth p.cells (i + 1)) = false) : 4 = m5 y p ∧ 0 = tF y p := by
 have e : 4 = m5 y p := by
  unfold m5; rw [if_pos h, if_pos h2, if_neg fun hx => by rw [hx i hi] at h3; cases h3]
 exact ⟨e, DQ e (by decide)⟩
theorem HB (h : bX y = 0) (h2 : (p.cells.all (GQ y)) = true) {i : Nat} (h1 : 1 ≤ i) (hi : i < p.cells.length) (h3 : mJ (nth p.cells (i - 1)) (nth p.cells i) = false) : 4 = m5 y p ∧ 0 = tF y p := by
 obtain ⟨j, rfl⟩ : ∃ j, i = j + 1 := ⟨i - 1, by omega⟩
 exact Ms h h2 hi h3
theorem KN (h : bX y = 0) (h2 : (p.cells.all (GQ y)) = true) (h3 : ∀ i, i + 1 < p.cells.length → mJ (nth p.cells i) (nth p.cells (i + 1)) = true) (h4 : je y (aO y (nth bg)) p < 1) : 6 = m5 y p ∧ 0 = tF y p := by
 have e : 6 = m5 y p := by unfold m5; rw [if_pos h, if_pos h2, if_pos h3, if_pos h4]
 exact ⟨e, DQ e (by decide)⟩
theorem Gp (h : bX y = 0) (h2 : (p.cells.all (GQ y)) = true) (h3 : ∀ i, i + 1 < p.cells.length → mJ (nth p.cells i) (nth p.cells (i + 1)) = true) (h4 : ¬ je y (aO y (nth bg)) p < 1) : 0 = m5 y p ∧ je y (aO y (nth bg)) p = tF y p := by
 have e : 0 = m5 y p := by unfold m5; rw [if_pos h, if_pos h2, if_pos h3, if_neg h4]
 exact ⟨e, by unfold tF; rw [← e]; rfl⟩
theorem LS (a b : An) : (decide (a.bin = b.bin) && decide (a.day = b.day)) = decide (a = b) := by
 cases a; cases b; simp
theorem LD {c : An} (h : GQ y c = true) : (-1 ≤ c.bin ∧ c.bin < y.bins.length) ∧ 0 ≤ c.day ∧ c.day ≤ y.days := by
 unfold GQ bD.bin Bo at h
 simp only [Bool.and_eq_true, decide_eq_true_eq] at h; omega
theorem Df (hr : y.cm) {c : Nat → Bool} {t : Nat} {q : Span} (h : q.lo ≤ 300 ∧ 0 ≤ q.hi) : ∀ k, k ≤ y.levels.length → (gO y c b t q k).lo ≤ 300 ∧ 0 ≤ (gO y c b t q k).hi
  | 0, _ => h
  | k + 1, hk => by
    have ih := Df hr (c := c) (t := t) h k (by omega)
    have hl := hr.level _ (dD (xs := y.levels) (k := k) (by omega))
    unfold gO; split
    · show max _ _ ≤ 300 ∧ 0 ≤ min _ _; omega
    · exact ih
theorem Gn (hr : y.cm) {c : Nat → Bool} {i : Nat} (hi : i < (aO y c).length) : 0 ≤ (nth (aO y c) i).lo ∧ (nth (aO y c) i).lo ≤ 300 ∧ 0 ≤ (nth (aO y c) i).hi ∧ (nth (aO y c) i).hi ≤ 300 := by
 have hB := uw hr (c := c) i hi
 suffices h : (nth (aO y c) i).lo ≤ 300 ∧ 0 ≤ (nth (aO y c) i).hi by omega
 rcases nR hi with ⟨b, t, hb, ht, rfl⟩ | ⟨k, hk, rfl⟩
 ·rw [iQ hb ht]
  obtain ⟨h1, h2, h3⟩ := hr.bin _ (dD hb)
  refine Df hr (q := hH y b t) ?_ y.levels.length (Nat.le_refl _)
  unfold hH; split
  ·exact ⟨by show (0 : Int) ≤ 300; decide, h1.1⟩
  show max _ _ ≤ 300 ∧ 0 ≤ min _ _; omega
 rw [iV hk]
 have h := (hr.move _ (dD hk)).2.2.2.2
 show (nth y.moves k).sacks.lo ≤ 300 ∧ 0 ≤ (nth y.moves k).sacks.hi
 omega
theorem Gy (hr : y.cm) {c : Nat → Bool} : ∀ i, i < (aO y c).length → 0 ≤ (nth (aO y c) i).lo ∧ (nth (aO y c) i).lo ≤ 300 ∧ 0 ≤ (nth (aO y c) i).hi ∧ (nth (aO y c) i).hi ≤ 300 := fun i hi => Gn hr hi
end
attribute [local irreducible] aO gk Way.gu Way.fin Way.room ef eI fA gU over bO cR dh eY jW fE gy kO cY gP gA gC dB cL gQ oZ iX iq jB gj BO yZ iH bD.kept bD.cells bX eP bg gL kP cV oS p6 kI ji kZ mY hasB tA rE qW s6 o9 kW oB kU wv ga je GM E0 q7
attribute [local irreducible] nv
attribute [local irreducible] iY fX nD qR jG jJ jI jK jF qu jD qw eJ gm qF gx ql nth fU dn af dy bodyPost Exit.then Exit.inBlock Code.wp Code.wpIn qh jH qi qX jC eT cZ cq bodyPostM eR
set_option maxRecDepth 100000 in
theorem Ez (y : bD) (fl : List bz) (a : List Int) (hfl : fl.length ≤ 34) (hb : ∀ i, i < fl.length → 0 ≤ (nth fl i).lo ∧ (nth fl i).lo ≤ 300 ∧ 0 ≤ (nth fl i).hi ∧ (nth fl i).hi ≤ 300) : dy Tryz.prog 128 [Ty.pp (l9 y fl a)] (Ty.int .i64 (kU fl)) := by
 refine av Tryz.func128 rfl (by decide) Tryz.ntmps128 (by exact Nat.le_of_ble_eq_true rfl) fun w0 M0 => ?_
 refine aE (aA (cF rfl (aD (aC (aE (aA (cF rfl (aD (aC ?_)))))))))
 refine aE (aE (aA (jo rfl (bq rfl ?_))))
 refine aQ rfl rfl rfl rfl rfl (by decide) ?_
 refine aL rfl rfl rfl rfl (c9 rfl rfl rfl (bQ rfl (aD (aC (aq ?_)))))
 refine cj (fun (k : {k : Nat // k ≤ fl.length}) => live [(0, Ty.pp (l9 y fl a)), (3, Ty.int .i64 (kU (fl.take k.1))), (9, Ty.sl eA fl), (10, Ty.int .i64 fl.length), (11, Ty.int .i64 (k.1 : Nat))] []) (fun k => fl.length - k.1) (⟨0, by omega⟩) ?_ fun k => ?_
 ·(refine dK.mk' ?_ ?_ <;> (repeat' (first | exact aJ | exact aI | refine aB ?_ (Ty.aW _) | refine aB ?_ (Ty.aF _) | refine aB ?_ ?_)))
  all_goals exact Ty.ah Cm
 have hk := k.2
 refine aE (aA (bE rfl rfl rfl (aD (aC (aE ?_)))))
 refine au rfl (fun hc1 => ?_) (fun hc1 => ?_)
 ·
  refine ak (aC (aE (aq (aE (aA ?_)))))
  refine bT rfl rfl rfl rfl rfl rfl (by omega) ?_
  refine aZ rfl rfl rfl (by exact Nat.le_of_ble_eq_true rfl) ?_
  refine cH rfl (by exact List.cons_ne_nil _ _) rfl ?_
  refine cJ rfl rfl (by decide) rfl rfl rfl rfl rfl rfl ?_
  refine aD (aC ?_)
  have hbk := hb k.1 (by omega)
  refine aA (bQ rfl ?_)
  refine aN rfl rfl rfl rfl rfl (by decide) ?_
  refine aX rfl rfl (by decide) rfl rfl rfl ?_
  refine aN rfl rfl rfl rfl rfl (by decide) ?_
  refine aX rfl rfl (by decide) rfl rfl rfl ?_
  refine gw rfl rfl (by omega) (by omega) ?_
  refine td rfl rfl (cF rfl (aD (bV (aC (aA ?_)))))
  refine b9 rfl rfl (by omega) (by omega) ?_
  refine bQ rfl (aD ?_)
  refine bZ (⟨k.1 + 1, by omega⟩) ?_ (by show fl.length - (k.1 + 1) < fl.length - k.1; omega)
  (refine dK.mk' ?_ ?_ <;> (repeat' (first | exact aJ | exact aI | refine aB ?_ (Ty.aW _) | refine aB ?_ (Ty.aF _) | refine aB ?_ ?_)))
  all_goals skip
  all_goals exact Ty.ah (Cl (by omega))
 refine cg (aR (aR (bA rfl (aC (aE (aA (bQ rfl (cF rfl (aD ?_)))))))))
 refine aC (ay (bh rfl rfl ?_))
 all_goals skip
 all_goals exact az rfl rfl (congrArg (Ty.int .i64) (by rw [List.take_of_length_le (by have := k.2; omega)]))
set_option maxRecDepth 100000 in
theorem E6 (y : bD) (hr : y.cm) (fl : List bz) (a : List Int) (x : An) (hx : (-1 ≤ x.bin ∧ x.bin < y.bins.length) ∧ 0 ≤ x.day ∧ x.day ≤ y.days) (c : Int) : dy Tryz.prog 188 [Ty.agg (qd.tys x), Ty.pp [Ty.pp (l9 y fl a)], Ty.pp [Ty.int .i64 c]] (Ty.bool (decide (y.cell x.bin x.day = c))) := by
 refine av Tryz.func188 rfl (by decide) Tryz.ntmps188 (by exact Nat.le_of_ble_eq_true rfl) fun w0 M0 => ?_
 refine aE (aA (bR rfl (dX rfl (aD (aC (aE (cW mixed rfl (aL rfl rfl rfl rfl ?_))))))))
 refine aQ rfl rfl rfl rfl rfl (by decide) ?_
 refine aL rfl rfl rfl rfl ?_
 refine aQ rfl rfl rfl rfl rfl (by decide) ?_
 refine aL rfl rfl rfl rfl ?_
 refine dW [] (we y hr x.bin x.day hx.1 hx.2) rfl (aK (mg (l1 := bl y) (l2 := [Ty.sl eA fl, Ty.sl cT a]) rfl rfl) (aK (aa (bH rfl rfl)) (aK (aa (bH rfl rfl)) bW))) (by exact dF _ _) ?_
 refine aL rfl rfl rfl rfl (bE rfl rfl rfl (dX rfl (aD ?_)))
 refine ⟨by kernel_rfl, ?_⟩
 refine aC (ay (bh rfl rfl ?_))
 all_goals exact cM rfl rfl
set_option maxRecDepth 100000 in
theorem rJ (y : bD) (hr : y.cm) (fl : List bz) (a : List Int) (p : D9) (hp : ∀ x ∈ p.cells, (-1 ≤ x.bin ∧ x.bin < y.bins.length) ∧ 0 ≤ x.day ∧ x.day ≤ y.days) (c : Int) : dy Tryz.prog 187 [Ty.int .i64 c, Ty.pp (mT p), Ty.pp [Ty.pp (l9 y fl a)]] (Ty.bool (wv y p.cells c)) := by
 refine av Tryz.func187 rfl (by decide) Tryz.ntmps187 (by exact Nat.le_of_ble_eq_true rfl) fun w0 M0 => ?_
 refine aE (aA ?_)
 refine gF (by exact (rfl : _ = Ty.int _ _)) rfl ?_
 refine dX rfl (aD (aC (aE (aA ?_))))
 refine aQ rfl rfl rfl rfl rfl (by decide) ?_
 refine aL rfl rfl rfl rfl (dL rfl ?_)
 refine aj (lX p.cells (Ty.jX 188 [Ty.pp [Ty.pp (l9 y fl a)], Ty.pp [Ty.int .i64 c]]) rfl (fun x => decide (y.cell x.bin x.day = c)) rfl rfl fun x hx => dU (E6 y hr fl a x (hp x hx) c) rfl rfl rfl rfl rfl rfl) rfl rfl rfl rfl rfl ?_
 refine dX rfl (aD (aC (ay (bh rfl rfl ?_))))
 all_goals skip
 all_goals exact az rfl rfl (congrArg Ty.bool (by unfold wv; rfl))
set_option maxRecDepth 100000 in
theorem Jl (y : bD) (hr : y.cm) (fl : List bz) (a : List Int) (hfl : fl.length ≤ 34) (hb : ∀ i, i < fl.length → 0 ≤ (nth fl i).lo ∧ (nth fl i).lo ≤ 300 ∧ 0 ≤ (nth fl i).hi ∧ (nth fl i).hi ≤ 300) (p : D9) (hp : ∀ x ∈ p.cells, (-1 ≤ x.bin ∧ x.bin < y.bins.length) ∧ 0 ≤ x.day ∧ x.day ≤ y.days) : dy Tryz.prog 137 [Ty.pp (l9 y fl a), Ty.agg (mT p)] (Ty.int .i64 (je y fl p)) := by
 refine av Tryz.func137 rfl (by decide) Tryz.ntmps137 (by exact Nat.le_of_ble_eq_true rfl) fun w0 M0 => ?_
 refine aE (aA ?_)
 refine gF (by exact (rfl : _ = Ty.pp _)) rfl ?_
 refine bR rfl (cF rfl (aD (aC (aE (aE (aA ?_))))))
 refine aQ rfl rfl rfl rfl rfl (by decide) ?_
 refine aL rfl rfl rfl rfl (c9 rfl rfl rfl (bE rfl rfl rfl (aD (aC ?_))))
 refine au rfl (fun hc1 => ?_) (fun hc1 => ?_)
 ·
  refine aE (aA (aL rfl rfl rfl rfl (aj (Ez y fl a hfl hb) rfl rfl rfl rfl rfl (cF rfl (aD (aC (ay (aV (bh rfl rfl ?_)))))))))
  all_goals skip
  all_goals exact az rfl rfl (congrArg (Ty.int .i64) (C5 (Kv hc1)))
 refine ak (aC (aE (aA (dL rfl (Na rfl (aD (aC (aE (aA ?_)))))))))
 refine cF rfl (aD (aC (aE (aE (aA (aL rfl rfl rfl rfl (bq rfl ?_)))))))
 refine aQ rfl rfl rfl rfl rfl (by decide) ?_
 refine aL rfl rfl rfl rfl (c9 rfl rfl rfl (bQ rfl (aD (aC (aq ?_)))))
 refine cj (fun (k : {k : Nat // k ≤ fl.length}) => live [(3, Ty.pp (mT p)), (5, Ty.jX 187 [Ty.pp (mT p), Ty.pp [Ty.pp (l9 y fl a)]]), (6, Ty.int .i64 (ga y fl p k.1)), (21, Ty.sl eA fl), (22, Ty.int .i64 fl.length), (23, Ty.int .i64 (k.1 : Nat))] []) (fun k => fl.length - k.1) (⟨0, by omega⟩) ?_ fun k => ?_
 ·(refine dK.mk' ?_ ?_ <;> (repeat' (first | exact aJ | exact aI | refine aB ?_ (Ty.aW _) | refine aB ?_ (Ty.aF _) | refine aB ?_ ?_)))
  all_goals exact Ty.ah xu
 have hk := k.2
 have hup := Bw (y := y) (p := p) hb k.1 k.2
 refine aE (aA (bE rfl rfl rfl (aD (aC (aE ?_)))))
 refine au rfl (fun hc2 => ?_) (fun hc2 => ?_)
 ·
  refine ak (aC (aE (aq (aE (aA ?_)))))
  refine bT rfl rfl rfl rfl rfl rfl (by omega) ?_
  refine aZ rfl rfl rfl (by exact Nat.le_of_ble_eq_true rfl) ?_
  refine cH rfl (by exact List.cons_ne_nil _ _) rfl ?_
  refine cJ rfl rfl (by decide) rfl rfl rfl rfl rfl rfl ?_
  refine aD (aC (aE ?_))
  have hbk := hb k.1 (by omega)
  have hhf := DR (y := y) (p := p) (m := ga y fl p k.1) (f := (nth fl k.1)) ⟨hbk.1, hbk.2.1⟩
  refine cW mixed rfl (NC rfl ?_)
  refine aN rfl rfl rfl rfl rfl (by decide) ?_
  refine aX rfl rfl (by decide) rfl rfl rfl ?_
  refine eX rfl (dU (rJ y hr fl a p hp (nth fl k.1).dst) rfl rfl rfl rfl rfl rfl) rfl (gR rfl ?_)
  apply aS (s := 31) rfl rfl rfl
  ·intro hg; apply aU; (refine NC rfl ?_); refine aD ?_; exact rfl
  ·exact rfl
  ·exact rfl
  apply aS (s := 31) rfl rfl rfl
  ·intro hg; apply aU; (refine aN rfl rfl rfl rfl rfl (by decide) ?_); refine aD ?_; exact rfl
  ·exact rfl
  ·exact rfl
  apply aS (s := 31) rfl rfl rfl
  ·intro hg; apply aP (s := 33) rfl (by (rw [hg]; rfl)); apply aU; (refine aX rfl rfl (by decide) rfl rfl rfl ?_); refine aD ?_; exact rfl
  ·exact rfl
  ·exact rfl
  apply aS (s := 31) rfl rfl rfl
  ·intro hg; apply aP (s := 32) rfl (by (rw [hg]; rfl)); apply aP (s := 34) rfl (by (rw [hg]; rfl)); apply aU; (refine eX rfl (dU (rJ y hr fl a p hp (nth fl k.1).src) rfl rfl rfl rfl rfl rfl) rfl ?_); refine aD ?_; exact rfl
  ·exact rfl
  ·exact rfl
  apply aS (s := 31) rfl rfl rfl
  ·intro hg; apply aP (s := 35) rfl (by (rw [hg]; rfl)); apply aU; (refine dm rfl ?_); refine aD ?_; exact rfl
  ·exact rfl
  ·exact rfl
  refine eo rfl rfl (NC rfl ?_)
  refine aN rfl rfl rfl rfl rfl (by decide) ?_
  refine aX rfl rfl (by decide) rfl rfl rfl ?_
  refine eX rfl (dU (rJ y hr fl a p hp (nth fl k.1).src) rfl rfl rfl rfl rfl rfl) rfl (gR rfl ?_)
  apply aS (s := 42) rfl rfl rfl
  ·intro hg; apply aU; (refine NC rfl ?_); refine aD ?_; exact rfl
  ·exact rfl
  ·exact rfl
  apply aS (s := 42) rfl rfl rfl
  ·intro hg; apply aU; (refine aN rfl rfl rfl rfl rfl (by decide) ?_); refine aD ?_; exact rfl
  ·exact rfl
  ·exact rfl
  apply aS (s := 42) rfl rfl rfl
  ·intro hg; apply aP (s := 44) rfl (by (rw [hg]; rfl)); apply aU; (refine aX rfl rfl (by decide) rfl rfl rfl ?_); refine aD ?_; exact rfl
  ·exact rfl
  ·exact rfl
  apply aS (s := 42) rfl rfl rfl
  ·intro hg; apply aP (s := 43) rfl (by (rw [hg]; rfl)); apply aP (s := 45) rfl (by (rw [hg]; rfl)); apply aU; (refine eX rfl (dU (rJ y hr fl a p hp (nth fl k.1).dst) rfl rfl rfl rfl rfl rfl) rfl ?_); refine aD ?_; exact rfl
  ·exact rfl
  ·exact rfl
  apply aS (s := 42) rfl rfl rfl
  ·intro hg; apply aP (s := 46) rfl (by (rw [hg]; rfl)); apply aU; (refine dm rfl ?_); refine aD ?_; exact rfl
  ·exact rfl
  ·exact rfl
  refine eo rfl rfl (dX rfl (dX rfl (aD ?_)))
  refine ⟨by kernel_rfl, ?_⟩
  refine aC ?_
  refine lN (J := live [(3, Ty.pp (mT p)), (5, Ty.jX 187 [Ty.pp (mT p), Ty.pp [Ty.pp (l9 y fl a)]]), (6, Ty.int .i64 (ga y fl p k.1)), (8, Ty.ptr 9 0), (9, Ty.bool (GM y p (nth fl k.1))), (10, Ty.bool (E0 y p (nth fl k.1))), (21, Ty.sl eA fl), (22, Ty.int .i64 fl.length), (23, Ty.int .i64 (k.1 : Nat))] [(9, Cont.cells 187 (eA.tys (nth fl k.1)))]) ?_ ?_
  ·
   refine aE (aA ?_)
   refine aQ rfl rfl rfl rfl rfl (by decide) ?_
   refine aL rfl rfl rfl rfl (aD (aC ?_))
   refine cv rfl (fun hc3 => ?_) (fun hc3 => ?_)
   ·
    refine aA (gR rfl (gR rfl (dX rfl (dX rfl (aD (fT ?_))))))
    (refine dK.mk' ?_ ?_ <;> (repeat' (first | exact aJ | exact aI | refine aB ?_ (Ty.aW _) | refine aB ?_ (Ty.aF _) | refine aG rfl (Cont.aF _) ?_ | refine aB ?_ ?_)))
    all_goals first | exact Ty.kL (IV (by assumption)).1 | exact Ty.kL (IV (by assumption)).2
   refine ak (fT ?_)
   (refine dK.mk' ?_ ?_ <;> (repeat' (first | exact aJ | exact aI | refine aB ?_ (Ty.aW _) | refine aB ?_ (Ty.aF _) | refine aG rfl (Cont.aF _) ?_ | refine aB ?_ ?_)))
   all_goals first | exact Ty.kL (KM (by assumption)).1 | exact Ty.kL (KM (by assumption)).2
  refine lN (J := live [(3, Ty.pp (mT p)), (5, Ty.jX 187 [Ty.pp (mT p), Ty.pp [Ty.pp (l9 y fl a)]]), (6, Ty.int .i64 (nv y p (ga y fl p k.1) (nth fl k.1))), (8, Ty.ptr 9 0), (10, Ty.bool (E0 y p (nth fl k.1))), (21, Ty.sl eA fl), (22, Ty.int .i64 fl.length), (23, Ty.int .i64 (k.1 : Nat))] [(9, Cont.cells 187 (eA.tys (nth fl k.1)))]) ?_ ?_
  ·
   refine aE (aA (gR rfl (aD (aC ?_))))
   refine cv rfl (fun hc4 => ?_) (fun hc4 => ?_)
   ·
    refine aA (bQ rfl ?_)
    refine aN rfl rfl rfl rfl rfl (by decide) ?_
    refine aX rfl rfl (by decide) rfl rfl rfl ?_
    refine b9 rfl rfl (by omega) (by omega) ?_
    refine cF rfl (aD (fT ?_))
    (refine dK.mk' ?_ ?_ <;> (repeat' (first | exact aJ | exact aI | refine aB ?_ (Ty.aW _) | refine aB ?_ (Ty.aF _) | refine aG rfl (Cont.aF _) ?_ | refine aB ?_ ?_)))
    all_goals exact Ty.ah (HO (by assumption))
   refine ak (fT ?_)
   (refine dK.mk' ?_ ?_ <;> (repeat' (first | exact aJ | exact aI | refine aB ?_ (Ty.aW _) | refine aB ?_ (Ty.aF _) | refine aG rfl (Cont.aF _) ?_ | refine aB ?_ ?_)))
   all_goals exact Ty.ah (JI (by assumption))
  refine aE (aA (gR rfl (aD (aC ?_))))
  refine cv rfl (fun hc5 => ?_) (fun hc5 => ?_)
  ·
   refine aA (bQ rfl ?_)
   refine aN rfl rfl rfl rfl rfl (by decide) ?_
   refine aX rfl rfl (by decide) rfl rfl rfl ?_
   refine gw rfl rfl (by omega) (by omega) ?_
   refine cF rfl (aD (bV (aC (aA ?_))))
   refine b9 rfl rfl (by omega) (by omega) ?_
   refine bQ rfl (aD ?_)
   refine bZ (⟨k.1 + 1, by omega⟩) ?_ (by show fl.length - (k.1 + 1) < fl.length - k.1; omega)
   (refine dK.mk' ?_ ?_ <;> (repeat' (first | exact aJ | exact aI | refine aB ?_ (Ty.aW _) | refine aB ?_ (Ty.aF _) | refine aB ?_ ?_)))
   all_goals skip
   all_goals exact Ty.ah (BH (by assumption))
  refine ak (bV (aC (aA ?_)))
  refine b9 rfl rfl (by omega) (by omega) ?_
  refine bQ rfl (aD ?_)
  refine bZ (⟨k.1 + 1, by omega⟩) ?_ (by show fl.length - (k.1 + 1) < fl.length - k.1; omega)
  (refine dK.mk' ?_ ?_ <;> (repeat' (first | exact aJ | exact aI | refine aB ?_ (Ty.aW _) | refine aB ?_ (Ty.aF _) | refine aB ?_ ?_)))
  all_goals skip
  all_goals exact Ty.ah (DS (by assumption))
 refine cg (aR (aR (bA rfl (aC (aE (aA (bQ rfl (cF rfl (aD ?_)))))))))
 refine aC (ay (bh rfl rfl ?_))
 all_goals skip
 all_goals exact az rfl rfl (congrArg (Ty.int .i64) ((show _ = ga y fl p fl.length by rw [show k.1 = fl.length by have := k.2; omega]).trans (Be (Jc hc1))))
set_option maxRecDepth 100000 in
theorem Fu (a b : An) : dy Tryz.prog 136 [Ty.agg (qd.tys a), Ty.agg (qd.tys b)] (Ty.bool (mJ a b)) := by
 refine av Tryz.func136 rfl (by decide) Tryz.ntmps136 (by exact Nat.le_of_ble_eq_true rfl) fun w0 M0 => ?_
 refine aE (aA (bR rfl (bR rfl (dX rfl (aD (aC (aE (aA ?_))))))))
 refine aZ rfl rfl rfl (by exact Nat.le_of_ble_eq_true rfl) ?_
 refine aZ rfl rfl rfl (by exact Nat.le_of_ble_eq_true rfl) ?_
 refine EH (LV a.bin a.day b.bin b.day) rfl rfl (gR rfl ?_)
 apply aS (s := 8) rfl rfl rfl
 ·intro hg; apply aU; (refine aQ rfl rfl rfl rfl rfl (by decide) ?_); refine aD ?_; exact rfl
 ·exact rfl
 ·exact rfl
 apply aS (s := 8) rfl rfl rfl
 ·intro hg; apply aP (s := 9) rfl (by (rw [hg]; rfl)); apply aU; (refine aL rfl rfl rfl rfl ?_); refine aD ?_; exact rfl
 ·exact rfl
 ·exact rfl
 apply aS (s := 8) rfl rfl rfl
 ·intro hg; apply aU; (refine aQ rfl rfl rfl rfl rfl (by decide) ?_); refine aD ?_; exact rfl
 ·exact rfl
 ·exact rfl
 apply aS (s := 8) rfl rfl rfl
 ·intro hg; apply aP (s := 11) rfl (by (rw [hg]; rfl)); apply aU; (refine aL rfl rfl rfl rfl ?_); refine aD ?_; exact rfl
 ·exact rfl
 ·exact rfl
 apply aS (s := 8) rfl rfl rfl
 ·intro hg; apply aP (s := 10) rfl (by (rw [hg]; rfl)); apply aP (s := 12) rfl (by (rw [hg]; rfl)); apply aU; (refine bE rfl rfl rfl ?_); refine aD ?_; exact rfl
 ·exact rfl
 ·exact rfl
 apply aS (s := 8) rfl rfl rfl
 ·intro hg; apply aP (s := 13) rfl (by (rw [hg]; rfl)); apply aU; (refine gR rfl ?_); refine aD ?_; exact rfl
 ·exact rfl
 ·exact rfl
 apply fR (s := 14) rfl rfl rfl
 ·intro hg1 hg2; apply aU; (refine aQ rfl rfl rfl rfl rfl (by decide) ?_); refine aD ?_; exact rfl
 ·exact rfl
 ·exact rfl
 apply fR (s := 14) rfl rfl rfl
 ·intro hg1 hg2; apply aP (s := 15) rfl (by (rw [hg1, hg2]; rfl)); apply aU; (refine aL rfl rfl rfl rfl ?_); refine aD ?_; exact rfl
 ·exact rfl
 ·exact rfl
 apply fR (s := 14) rfl rfl rfl
 ·intro hg1 hg2; apply aU; (refine aQ rfl rfl rfl rfl rfl (by decide) ?_); refine aD ?_; exact rfl
 ·exact rfl
 ·exact rfl
 apply fR (s := 14) rfl rfl rfl
 ·intro hg1 hg2; apply aP (s := 17) rfl (by (rw [hg1, hg2]; rfl)); apply aU; (refine aL rfl rfl rfl rfl ?_); refine aD ?_; exact rfl
 ·exact rfl
 ·exact rfl
 apply fR (s := 14) rfl rfl rfl
 ·intro hg1 hg2; apply aP (s := 16) rfl (by (rw [hg1, hg2]; rfl)); apply aP (s := 18) rfl (by (rw [hg1, hg2]; rfl)); apply aU; (refine bE rfl rfl rfl ?_); refine aD ?_; exact rfl
 ·exact rfl
 ·exact rfl
 apply fR (s := 14) rfl rfl rfl
 ·intro hg1 hg2; apply aP (s := 19) rfl (by (rw [hg1, hg2]; rfl)); apply aU; (refine gR rfl ?_); refine aD ?_; exact rfl
 ·exact rfl
 ·exact rfl
 apply fR (s := 20) rfl rfl rfl
 ·intro hg1 hg2; apply aU; (refine aQ rfl rfl rfl rfl rfl (by decide) ?_); refine aD ?_; exact rfl
 ·exact rfl
 ·exact rfl
 apply fR (s := 20) rfl rfl rfl
 ·intro hg1 hg2; apply aP (s := 21) rfl (by (rw [hg1, hg2]; rfl)); apply aU; (refine aL rfl rfl rfl rfl ?_); refine aD ?_; exact rfl
 ·exact rfl
 ·exact rfl
 apply fR (s := 20) rfl rfl rfl
 ·intro hg1 hg2; apply aU; (refine aQ rfl rfl rfl rfl rfl (by decide) ?_); refine aD ?_; exact rfl
 ·exact rfl
 ·exact rfl
 apply fR (s := 20) rfl rfl rfl
 ·intro hg1 hg2; apply aP (s := 23) rfl (by (rw [hg1, hg2]; rfl)); apply aU; (refine aL rfl rfl rfl rfl ?_); refine aD ?_; exact rfl
 ·exact rfl
 ·exact rfl
 apply fR (s := 20) rfl rfl rfl
 ·intro hg1 hg2; apply aP (s := 22) rfl (by (rw [hg1, hg2]; rfl)); apply aP (s := 24) rfl (by (rw [hg1, hg2]; rfl)); apply aU; (refine bE rfl rfl rfl ?_); refine aD ?_; exact rfl
 ·exact rfl
 ·exact rfl
 apply fR (s := 14) rfl rfl rfl
 ·intro hg1 hg2; apply aP (s := 20) rfl (by (rw [hg1, hg2]; rfl)); apply nG (s := 25) rfl (by (rw [hg1, hg2]; rfl)); apply aU; (refine eo rfl rfl ?_); refine aD ?_; exact rfl
 ·exact rfl
 ·exact rfl
 apply aS (s := 8) rfl rfl rfl
 ·intro hg; apply aP (s := 14) rfl (by (rw [hg]; rfl)); apply nG (s := 26) rfl (by (rw [hg]; rfl)); apply aU; (refine mQ rfl rfl ?_); refine aD ?_; exact rfl
 ·exact rfl
 ·exact rfl
 refine eo rfl rfl (dX rfl (aD (aC (ay (bh rfl rfl ?_)))))
 all_goals skip
 all_goals exact az rfl rfl (congrArg Ty.bool (by unfold mJ; rw [LS]))
set_option maxRecDepth 100000 in
theorem FE (y : bD) (hr : y.cm) (hs : y.Small) (c : An) : dy Tryz.prog 134 [Ty.agg (qd.tys c), Ty.pp (bl y)] (Ty.bool (GQ y c)) := by
 refine av Tryz.func134 rfl (by decide) Tryz.ntmps134 (by exact Nat.le_of_ble_eq_true rfl) fun w0 M0 => ?_
 have h2 := hr.days
 refine aE (aA (bR rfl (dX rfl (aD (aC (aE (aA ?_)))))))
 refine aZ rfl rfl rfl (by exact Nat.le_of_ble_eq_true rfl) ?_
 refine aQ rfl rfl rfl rfl rfl (by decide) ?_
 refine aL rfl rfl rfl rfl (aj (DL y hs _) rfl rfl rfl rfl rfl (gR rfl ?_))
 apply aS (s := 8) rfl rfl rfl
 ·intro hg; apply aU; (refine aQ rfl rfl rfl rfl rfl (by decide) ?_); refine aD ?_; exact rfl
 ·exact rfl
 ·exact rfl
 apply aS (s := 8) rfl rfl rfl
 ·intro hg; apply aP (s := 9) rfl (by (rw [hg]; rfl)); apply aU; (refine aL rfl rfl rfl rfl ?_); refine aD ?_; exact rfl
 ·exact rfl
 ·exact rfl
 apply aS (s := 8) rfl rfl rfl
 ·intro hg; apply aU; (refine aQ rfl rfl rfl rfl rfl (by decide) ?_); refine aD ?_; exact rfl
 ·exact rfl
 ·exact rfl
 apply aS (s := 8) rfl rfl rfl
 ·intro hg; apply aP (s := 11) rfl (by (rw [hg]; rfl)); apply aU; (refine aL rfl rfl rfl rfl ?_); refine aD ?_; exact rfl
 ·exact rfl
 ·exact rfl
 apply aS (s := 8) rfl rfl rfl
 ·intro hg; apply aP (s := 12) rfl (by (rw [hg]; rfl)); apply aU; (refine gw rfl rfl (by omega) (by omega) ?_); refine aD ?_; exact rfl
 ·exact rfl
 ·exact rfl
 apply aS (s := 8) rfl rfl rfl
 ·intro hg; apply aP (s := 10) rfl (by (rw [hg]; rfl)); apply aP (s := 13) rfl (by (rw [hg]; rfl)); apply aU; (refine aj (tR _ _ _) rfl rfl rfl rfl rfl ?_); refine aD ?_; exact rfl
 ·exact rfl
 ·exact rfl
 refine eo rfl rfl (dX rfl (aD (aC (ay (bh rfl rfl ?_)))))
 all_goals exact cM rfl rfl
 all_goals trace_state
set_option maxRecDepth 100000 in
theorem ID (y : bD) (hs : y.Small) (p : D9) (hl : p.cells.length ≤ 1000) : dy Tryz.prog 61 [ff y, Ty.agg (mT p)] (Ty.jq [Ty.int .i64 (tF y p), Ty.int .i64 (m5 y p)]) := by
 refine av Tryz.func61 rfl (by decide) Tryz.ntmps61 (by exact Nat.le_of_ble_eq_true rfl) fun w0 M0 => ?_
 refine aE (aA (bR rfl (bR rfl (cF rfl (cF rfl (aD (aC (aE (aE ?_)))))))))
 refine aA ?_
 refine aZ rfl rfl rfl (by exact Nat.le_of_ble_eq_true rfl) ?_
 refine aj (kB y hs) rfl rfl rfl rfl rfl (cF rfl (aD (aC (aE (aA (bQ rfl (bE rfl rfl rfl (aD (aC ?_)))))))))
 refine dJ rfl (fun hc1 => ?_) (fun hc1 => ?_)
 ·
  refine aE (aA (bQ rfl (cF rfl (cF rfl (aD (aC (ay (aV ?_))))))))
  refine fM rfl rfl rfl ?_ ?_
  all_goals skip
  all_goals first | exact az rfl rfl (congrArg (Ty.int .i64) (KA hc1).1) | exact az rfl rfl (congrArg (Ty.int .i64) (KA hc1).2)
 refine ak (aC (aE (aE ?_)))
 have hck : bX y = 0 := hc1
 have hr := dV hck
 refine aA ?_
 refine aQ rfl rfl rfl rfl rfl (by decide) ?_
 refine aL rfl rfl rfl rfl (dL rfl ?_)
 refine aj (BB p.cells (Ty.jX 134 [Ty.pp (bl y)]) rfl (GQ y) rfl rfl fun c _ => dU (FE y hr hs c) rfl rfl rfl rfl rfl rfl) rfl rfl rfl rfl rfl ?_
 refine dm rfl (aD (aC ?_))
 refine cv rfl (fun hc2 => ?_) (fun hc2 => ?_)
 ·
  refine aE (aA (cF rfl (cF rfl (aD (aC (ay (aV ?_)))))))
  refine fM rfl rfl rfl ?_ ?_
  all_goals skip
  all_goals first | exact az rfl rfl (congrArg (Ty.int .i64) (KS hc1 (n5 hc2)).1) | exact az rfl rfl (congrArg (Ty.int .i64) (KS hc1 (n5 hc2)).2)
 refine ak (aC (aE (aE ?_)))
 have hall : (p.cells.all (GQ y)) = true := fV hc2
 refine aA (cF rfl (aD (aC (aq ?_))))
 refine cj (fun (i : {i : Nat // 1 ≤ i ∧ ∀ j, j + 1 < i → j + 1 < p.cells.length → mJ (nth p.cells j) (nth p.cells (j + 1)) = true}) => live [(2, Ty.pp (bl y)), (3, Ty.pp (mT p)), (7, Ty.int .i64 (i.1 : Nat))] []) (fun i => p.cells.length - i.1) (⟨1, Nat.le_refl _, fun j hj => by omega⟩) ?_ fun i => ?_
 ·(refine dK.mk' ?_ ?_ <;> (repeat' (first | exact aJ | exact aI | refine aB ?_ (Ty.aW _) | refine aB ?_ (Ty.aF _))))
 have hi1 := i.2.1
 refine aE (aE (aA (bQ rfl ?_)))
 refine aQ rfl rfl rfl rfl rfl (by decide) ?_
 refine aL rfl rfl rfl rfl (c9 rfl rfl rfl (bE rfl rfl rfl (aD (aC ?_))))
 refine au rfl (fun hc3 => ?_) (fun hc3 => ?_)
 ·
  refine ak (aC (aE (aq (aE (cW mixed rfl ?_)))))
  refine aQ rfl rfl rfl rfl rfl (by decide) ?_
  refine aL rfl rfl rfl rfl (bQ rfl ?_)
  refine gw rfl rfl (by omega) (by omega) ?_
  refine bT (i := i.1 - 1) rfl (by exact congrArg (Ty.int .i64) (by omega : ((i.1 : Nat) : Int) - 1 = ((i.1 - 1 : Nat) : Int))) rfl rfl rfl rfl (by omega) ?_
  refine aZ rfl rfl rfl (by exact Nat.le_of_ble_eq_true rfl) ?_
  refine aQ rfl rfl rfl rfl rfl (by decide) ?_
  refine aL rfl rfl rfl rfl (bQ rfl ?_)
  refine bT rfl rfl rfl rfl rfl rfl (by omega) ?_
  refine aZ rfl rfl rfl (by exact Nat.le_of_ble_eq_true rfl) ?_
  refine aj (Fu _ _) rfl rfl rfl rfl rfl (dm rfl (aD ?_))
  refine ⟨by kernel_rfl, ?_⟩
  refine aC ?_
  refine cv rfl (fun hc4 => ?_) (fun hc4 => ?_)
  ·
   refine aE (aA (cF rfl (cF rfl (aD (aC (ay (bG (aV (aV ?_)))))))))
   refine bG (aV ?_)
   refine fM rfl rfl rfl ?_ ?_
   all_goals skip
   all_goals first | exact az rfl rfl (congrArg (Ty.int .i64) (HB hc1 hall i.2.1 (by omega) (n5 hc4)).1) | exact az rfl rfl (congrArg (Ty.int .i64) (HB hc1 hall i.2.1 (by omega) (n5 hc4)).2)
  refine ak (bV (aC (aA (bQ rfl ?_))))
  refine b9 rfl rfl (by omega) (by omega) ?_
  refine cF rfl (aD ?_)
  refine bZ (⟨i.1 + 1, by omega, fun j hj hj2 => by by_cases e : j + 1 = i.1; (have := fV hc4; rwa [show i.1 - 1 = j by omega, show i.1 = j + 1 by omega] at this); exact i.2.2 j (by omega) hj2⟩) ?_ (by show p.cells.length - (i.1 + 1) < p.cells.length - i.1; omega)
  (refine dK.mk' ?_ ?_ <;> (repeat' (first | exact aJ | exact aI | refine aB ?_ (Ty.aW _) | refine aB ?_ (Ty.aF _))))
  all_goals skip
 refine cg (aR (aR (bA rfl (aC (aE (cW mixed rfl ?_))))))
 refine aZ rfl rfl rfl (by exact Nat.le_of_ble_eq_true rfl) ?_
 refine aj (q5) rfl rfl rfl rfl rfl ?_
 refine bt (res' := Ty.pp (rK y 2000 1000 (aO y (nth bg)).length (aO y (nth bg)).length)) [(2000, 23), (1000, 31)] [2000, 1000] [(2000, Cont.vec eA 187 (aO y (nth bg))), (1000, Cont.vec cT 3 (gk (aO y (nth bg))))] (r6 y hr bg jf) rfl rfl (aH (aH bL (aM rfl rfl)) (aM rfl rfl)) pre_nil (bJ (a := 2000) (b := 23) (by decide) rfl (cA (by decide) rfl) (bJ (a := 1000) (b := 31) (by decide) rfl (cA (by decide) rfl) post_nil)) (fD (aH (aH (aH (aH (aH (aH bL (eM (by decide))) (eM (by decide))) (aM rfl rfl)) (aM rfl rfl)) (aM rfl rfl)) (aM rfl rfl))) ?_
 refine aZ rfl rfl rfl (by exact Nat.le_of_ble_eq_true rfl) ?_
 refine dW [2000, 1000] (Jl y hr (aO y (nth bg)) (gk (aO y (nth bg))) (j7 hr) (Gy hr) p (fun x hx => LD (List.all_eq_true.1 hall x hx))) rfl (aK (kQ (aK (aa (bH rfl rfl)) (aK (aa (bH rfl rfl)) (aK (aa (bH rfl rfl)) (aK (aa (bH rfl rfl)) (aK (gY rfl rfl (by decide) rfl) (aK (gY rfl (CU _) (by decide) rfl) bW))))))) (aK (aa (bH rfl rfl)) bW)) (by exact dF _ _) ?_
 refine cF rfl (aD ?_)
 refine ⟨by kernel_rfl, ?_⟩
 refine aC (aE (aE (aA (bQ rfl (bE rfl rfl rfl (aD (aC ?_)))))))
 refine au rfl (fun hc5 => ?_) (fun hc5 => ?_)
 ·
  refine aE (aA (cF rfl (cF rfl (aD (aC (ay (aV ?_)))))))
  refine fM rfl rfl rfl ?_ ?_
  all_goals skip
  all_goals first | exact az rfl rfl (congrArg (Ty.int .i64) (KN hc1 hall (fun j hj => i.2.2 j (by omega) hj) hc5).1) | exact az rfl rfl (congrArg (Ty.int .i64) (KN hc1 hall (fun j hj => i.2.2 j (by omega) hj) hc5).2)
 refine ak (aC (aE (aA (bQ rfl (cF rfl (cF rfl (aD (aC (ay ?_)))))))))
 refine fM rfl rfl rfl ?_ ?_
 all_goals skip
 all_goals first | exact az rfl rfl (congrArg (Ty.int .i64) (Gp hc1 hall (fun j hj => i.2.2 j (by omega) hj) hc5).1) | exact az rfl rfl (congrArg (Ty.int .i64) (Gp hc1 hall (fun j hj => i.2.2 j (by omega) hj) hc5).2)
end Go.Proofs.YtelbollidfdcjaaGreat
namespace Go.Proofs.YtelbollidfdcjaaGreat
open Go Go.T
set_option maxHeartbeats 8000000
attribute [local irreducible] aO gk
attribute [local irreducible] iY fX nD qR jG jJ jI jK jF qu jD qw eJ gm qF gx ql nth fU dn af dy bodyPost Exit.then Exit.inBlock Code.wp Code.wpIn qh jH qi qX jC eT cZ cq bodyPostM eR
set_option maxRecDepth 100000 in
theorem tK (y : bD) (hr : y.cm) (c8 : List Bool) (hc8 : c8.length = 8) : eT Tryz.prog 117 [] [] [ff y, Ty.arr iZ c8] [(31, Cont.vec cT 3 (gk (aO y (nth c8))))] (Ty.pp (eO y (aO y (nth c8)) 31 (aO y (nth c8)).length)) := by
 refine qS Tryz.func117 rfl (by decide) Tryz.ntmps117 (by exact Nat.le_of_ble_eq_true rfl) fun w0 M0 => ?_
 have hfl := j7 (c := nth c8) hr
 refine aE (aA (bR rfl (sP rfl (mP rfl (aD (aC (aE (aA ?_))))))))
 refine aZ rfl rfl rfl (by exact Nat.le_of_ble_eq_true rfl) ?_
 refine dS rfl rfl (by exact List.cons_ne_nil _ _) rfl (by repeat (first | exact (aY.nil : aY _ _ [] _) | (show aY _ _ ((_, _) :: _) _; apply aY.agg; (· exact (rfl : _ = Ty.agg _))))) (by exact rfl) ?_
 refine tS rfl rfl rfl ?_
 refine cH rfl (by exact List.cons_ne_nil _ _) rfl ?_
 refine cx rfl rfl (by decide) rfl rfl (by exact (rfl : _ = Ty.ptr _ _)) rfl (by exact Nat.le_of_ble_eq_true rfl) rfl rfl (by exact (rfl : _ = [_])) ?_
 refine aD (aC (aE (aE (aA ?_))))
 refine aX rfl rfl (by decide) rfl rfl rfl ?_
 refine vM rfl rfl rfl (by rw [hc8]; rfl) ?_
 refine bt (res' := Ty.jX 196 [Ty.pp [Ty.ptr 10 0], Ty.pa iZ c8 0]) [(10, 1000)] [] [(10, Cont.cells 185 (EC y))] (Gv y c8 hc8) rfl rfl (aH (aH bL (aM rfl rfl)) (dZ (by exact List.mem_cons_self))) (b8 (a := 10) (b := 1000) (by exact List.mem_cons_self) rfl (bC (by exact List.mem_cons_self) rfl rfl rfl) pre_nil) (bJ (a := 10) (b := 1000) (by exact List.mem_cons_self) rfl (bC (by exact List.mem_cons_self) rfl rfl rfl) post_nil) (s9 (aH (aH bL (aM rfl rfl)) (fD (aH bL (dZ (by exact List.mem_cons_self)))))) ?_
 refine aD (aC ?_)
 refine IT (D := 10) (Tb := 185) (tys := bl y) (r := [Ty.ex (.slice none 0 0), Ty.ex (.slice none 0 0)]) rfl rfl rfl (by decide) fun vs hvs => ?_
 obtain ⟨v0, v1, v2, v3, rfl⟩ := four hvs rfl
 refine aq ?_
 refine rL (ps := [13]) (lk [(5, Ty.ptr 6 0), (9, Ty.ptr 10 0)]) (fun k => [(6, Cont.cells 152 [Ty.ptr 10 0]), (10, Cont.cells 185 [Ty.ex v0, Ty.ex v1, Ty.ex v2, Ty.ex v3, Ty.row eA 187 23 ((aO y (nth c8)).take k), Ty.row cT 3 31 ((gk (aO y (nth c8))).take k)]), (4000, Cont.fact (bl y) [v0, v1, v2, v3] rfl rfl)]) false [] [6, 10, 4000] rfl rfl ((uy y hr c8 hc8 0 10 (by decide) [v0, v1, v2, v3]).1) (AL (D := 10) (n := 36) (sd := 9) (r := fun k => [Ty.row eA 187 23 ((aO y (nth c8)).take k), Ty.row cT 3 31 ((gk (aO y (nth c8))).take k)]) (fun b => uy y hr c8 hc8 b 10 (by decide) [v0, v1, v2, v3]) (by decide) (by decide) rfl (fun k => List.mem_cons_of_mem _ List.mem_cons_self) (List.mem_cons_of_mem _ (List.mem_cons_of_mem _ List.mem_cons_self))) (uf rfl) (uf rfl) (by decide) (by intro t ht; obtain ⟨x, _, rfl⟩ := List.mem_map.1 ht; exact ⟨rfl, rfl, rfl⟩) rfl rfl (fun _ => rfl) rfl ?_ ?_ ?_ (by intro h; cases h)
 ·(refine dK.mk' ?_ ?_ <;> (repeat' (first | exact aJ | exact aI | exact dO | refine aB ?_ (Ty.aW _) | refine aB ?_ (Ty.aF _) | refine aG rfl (Cont.aF _) ?_ | refine aG rfl (Cont.dM ?_) ?_ | refine bY ?_ (Ty.aF _) | refine bY ?_ Ty.l8)))
  all_goals trace_state
 ·intro k tys hk
  obtain ⟨hk1, rfl⟩ := Dq hk
  refine ⟨live [(5, Ty.ptr 6 0), (6, Ty.ptr 7 0), (9, Ty.ptr 10 0)] [(6, Cont.cells 152 [Ty.ptr 10 0]), (7, Cont.cells 187 (eA.tys (nth (aO y (nth c8)) k))), (10, Cont.cells 185 [Ty.ex v0, Ty.ex v1, Ty.ex v2, Ty.ex v3, Ty.row eA 187 23 ((aO y (nth c8)).take k), Ty.row cT 3 31 ((gk (aO y (nth c8))).take k)]), (4000, Cont.fact (bl y) [v0, v1, v2, v3] rfl rfl)], fun l w M => ?_, fun l w M => ?_⟩
  ·
   refine aA ?_
   refine cH rfl (by exact List.cons_ne_nil _ _) rfl ?_
   refine cJ rfl rfl (by decide) rfl rfl rfl rfl rfl rfl ?_
   refine aD (fT ?_)
   (refine dK.mk' ?_ ?_ <;> (repeat' (first | exact aJ | exact aI | refine aB ?_ (Ty.aW _) | refine aB ?_ (Ty.aF _) | refine aG rfl (Cont.aF _) ?_)))
  refine aq ?_
  refine um (D := 10) (Tb := 185) (tg := 23) [Ty.ex v0, Ty.ex v1, Ty.ex v2, Ty.ex v3] rfl fun v4 => ?_
  refine um (D := 10) (Tb := 185) (tg := 31) [Ty.ex v0, Ty.ex v1, Ty.ex v2, Ty.ex v3, Ty.ex v4] rfl fun v5 => ?_
  refine cW mixed rfl ?_
  refine aX rfl rfl (by decide) rfl rfl rfl ?_
  refine aX rfl rfl (by decide) rfl rfl rfl ?_
  refine aX rfl rfl (by decide) rfl rfl rfl ?_
  refine cP rfl ?_
  refine aN rfl rfl rfl rfl rfl (by decide) ?_
  refine aX rfl rfl (by decide) rfl rfl rfl ?_
  refine bU rfl rfl (by decide) rfl rfl (by exact Nat.le_of_ble_eq_true rfl) ?_
  refine bp (E := eA) (xs := [_]) rfl rfl rfl rfl rfl (by decide) (by decide) (by repeat (first | exact (aY.nil : aY _ _ [] _) | (show aY _ _ ((_, _) :: _) _; apply aY.agg; (· exact (rfl : _ = Ty.agg _))))) (by exact rfl) rfl ?_
  refine pN (tg := 23) rfl rfl rfl rfl (by decide) rfl rfl rfl rfl rfl rfl (by decide) (by (simp <;> omega)) (by (simp <;> omega)) rfl rfl ?_
  refine aX rfl rfl (by decide) rfl rfl rfl ?_
  refine cP rfl ?_
  refine aN rfl rfl rfl rfl rfl (by decide) ?_
  refine aX rfl rfl (by decide) rfl rfl rfl ?_
  refine aN rfl rfl rfl rfl rfl (by decide) ?_
  refine aX rfl rfl (by decide) rfl rfl rfl ?_
  refine bp (E := cT) (xs := [_]) rfl rfl rfl rfl rfl (by decide) (by decide) (by repeat (first | exact (aY.nil : aY _ _ [] _) | (show aY _ _ ((_, _) :: _) _; apply aY.one; (· exact (rfl : _ = Ty.int _ _)); (· exact rfl)))) (by exact rfl) rfl ?_
  refine pN (tg := 31) rfl rfl rfl rfl (by decide) rfl rfl rfl rfl rfl rfl (by decide) (by (simp <;> omega)) (by (simp <;> omega)) rfl rfl ?_
  refine cP rfl ?_
  refine aN rfl rfl rfl rfl rfl (by decide) ?_
  refine cx rfl rfl (by decide) rfl rfl (by exact (rfl : _ = Ty.row _ _ _ _)) rfl (by exact Nat.le_of_ble_eq_true rfl) rfl rfl (by exact rfl) ?_
  refine cP rfl ?_
  refine aN rfl rfl rfl rfl rfl (by decide) ?_
  refine cx rfl rfl (by decide) rfl rfl (by exact (rfl : _ = Ty.row _ _ _ _)) rfl (by exact Nat.le_of_ble_eq_true rfl) rfl rfl (by exact rfl) ?_
  refine aD ?_
  refine ⟨by kernel_rfl, ?_⟩
  refine bV (Bg ?_)
  (refine dK.mk' ?_ ?_ <;> (repeat' (first | exact aJ | exact aI | exact dO | refine aB ?_ (Ty.aW _) | refine aG rfl (Cont.aF _) ?_ | refine aG rfl (Cont.dM ?_) ?_ | refine bY ?_ (Ty.aF _) | refine bY ?_ ?_)))
  all_goals first | exact Ty.fo (dw hk1).symm | exact Ty.fo (DM hk1)
 refine bV (aC (aE ?_))
 refine AR (D := 10) (Tb := 185) (vs := [v0, v1, v2, v3]) (tys := bl y) (r := [Ty.row eA 187 23 ((aO y (nth c8)).take ((aO y (nth c8)).map jV).length), Ty.row cT 3 31 ((gk (aO y (nth c8))).take ((aO y (nth c8)).map jV).length)]) rfl rfl ?_
 refine gM (tg := 10) rfl (Cont.m8 (T := 185) (B4 (y := y) (fl := aO y (nth c8)) (f := jV))) ?_
 refine lH (c0 := 10) (tg := 23) 4 rfl rfl ?_
 refine lH (c0 := 10) (tg := 31) 5 rfl rfl ?_
 refine gM (tg := 10) rfl (Cont.eC (l' := rK y 23 31 (aO y (nth c8)).length (aO y (nth c8)).length) ⟨Ty.aF _, Ty.aF _, Ty.aF _, Ty.aF _, Ty.vL rfl, Ty.vL (CU _), trivial⟩) ?_
 refine ni (tg := 10) [] [(6, Cont.cells 152 [Ty.pp (rK y 23 31 (aO y (nth c8)).length (aO y (nth c8)).length)])] (by decide) rfl trivial ⟨iN rfl rfl ⟨yP rfl rfl (by decide), trivial⟩, trivial⟩ ?_
 refine ni (tg := 23) [] [(6, Cont.cells 152 [Ty.pp (eO y (aO y (nth c8)) 31 (aO y (nth c8)).length)])] (by decide) rfl trivial ⟨iN rfl rfl ⟨Bq ⟨cB rfl, cB rfl, cB rfl, cB rfl, lP rfl rfl (by decide), cB rfl, trivial⟩, trivial⟩, trivial⟩ ?_
 refine aA ?_
 refine aX rfl rfl (by decide) rfl rfl rfl ?_
 refine Ii rfl (aD (aC (ay (IA rfl ?_))))
 refine fZ [31] rfl rfl (by decide) (by repeat (first | exact ej | refine dx rfl (cA (by decide) rfl) ?_)) ?_
 all_goals skip
 all_goals exact fK (fD (aH (aH (aH (aH (aH (aH bL (eM (by decide))) (aM rfl rfl)) (aM rfl rfl)) (aM rfl rfl)) (aM rfl rfl)) (aM rfl rfl)))
end Go.Proofs.YtelbollidfdcjaaGreat
namespace Go.Proofs.YtelbollidfdcjaaGreat
open Go Go.T
theorem Ka : Tryz.prog.underlying 180 = some (.array 8 4) := by kernel_rfl
theorem Kb (a0 a1 a2 a3 a4 a5 a6 a7 b0 b1 b2 b3 b4 b5 b6 b7 : Bool) (w : World) : (Op.equal 180 (.agg #[.bool a0, .bool a1, .bool a2, .bool a3, .bool a4, .bool a5, .bool a6, .bool a7]) (.agg #[.bool b0, .bool b1, .bool b2, .bool b3, .bool b4, .bool b5, .bool b6, .bool b7])).run Tryz.prog w = .ok ((decide (a0 = b0) && (decide (a1 = b1) && (decide (a2 = b2) && (decide (a3 = b3) && (decide (a4 = b4) && (decide (a5 = b5) && (decide (a6 = b6) && decide (a7 = b7))))))))) w := by
 have hs : Tryz.prog.stoodInHeld 180 = false := by kernel_rfl
 have e4 : ∀ (x y : Bool) (w : World), (Op.equalIn 9999 4 (.bool x) (.bool y)).run Tryz.prog w = .ok (decide (x = y)) w := fun x y w => by
  rw [Op.equalIn]
  simp only [Sem.run_bind, run_underlying Tryz.underlying4, Result.andThen_ok]
  rfl
 have g4 : ∀ w, (isAgg 4).run Tryz.prog w = .ok false w := fun w => by simp [isAgg, run_underlying Tryz.underlying4]
 unfold Op.equal Op.maxDepth
 rw [Op.equalIn]
 simp only [Sem.run_bind, run_underlying Ka, Result.andThen_ok]
 simp [hs, part, g4, e4]
 rw [show List.range' 0 8 = [0, 1, 2, 3, 4, 5, 6, 7] from rfl]
 simp [List.forIn_cons, g4, e4]
 by_cases h0 : a0 = b0
 case neg => simp [h0]
 rw [if_pos h0]
 by_cases h1 : a1 = b1
 case neg => simp [h1]
 rw [if_pos h1]
 by_cases h2 : a2 = b2
 case neg => simp [h2]
 rw [if_pos h2]
 by_cases h3 : a3 = b3
 case neg => simp [h3]
 rw [if_pos h3]
 by_cases h4 : a4 = b4
 case neg => simp [h4]
 rw [if_pos h4]
 by_cases h5 : a5 = b5
 case neg => simp [h5]
 rw [if_pos h5]
 by_cases h6 : a6 = b6
 case neg => simp [h6]
 rw [if_pos h6]
 by_cases h7 : a7 = b7
 case neg => simp [h7]
 rw [if_pos h7]
 simp [h0, h1, h2, h3, h4, h5, h6, h7]
theorem G2 (xs ys : List Bool) (hx : xs.length = 8) (hy : ys.length = 8) : J9 Tryz.prog 180 (xs.flatMap iZ.tys) (ys.flatMap iZ.tys) (decide (xs = ys)) := by
  match xs, ys, hx, hy with
  | [a0, a1, a2, a3, a4, a5, a6, a7], [b0, b1, b2, b3, b4, b5, b6, b7], _, _ =>
    refine ⟨by kernel_rfl, fun w M cs ds h1 h2 => ?_⟩
    obtain ⟨cs⟩ := cs
    obtain ⟨ds⟩ := ds
    match cs, ds, h1, h2 with
    | [u0, u1, u2, u3, u4, u5, u6, u7], [v0, v1, v2, v3, v4, v5, v6, v7], h1, h2 =>
      change cN w M [Ty.bool a0, Ty.bool a1, Ty.bool a2, Ty.bool a3, Ty.bool a4, Ty.bool a5, Ty.bool a6, Ty.bool a7] _ at h1
      change cN w M [Ty.bool b0, Ty.bool b1, Ty.bool b2, Ty.bool b3, Ty.bool b4, Ty.bool b5, Ty.bool b6, Ty.bool b7] _ at h2
      obtain ⟨e0, e1, e2, e3, e4, e5, e6, e7, _⟩ := h1
      obtain ⟨f0, f1, f2, f3, f4, f5, f6, f7, _⟩ := h2
      cases e0; cases e1; cases e2; cases e3; cases e4; cases e5; cases e6; cases e7
      cases f0; cases f1; cases f2; cases f3; cases f4; cases f5; cases f6; cases f7
      rw [Kb]
      congr 1
      simp only [List.cons.injEq, and_true, Bool.decide_and]
end Go.Proofs.YtelbollidfdcjaaGreat
namespace Go.T
open Go Go.RowKit
section
variable {P : Program} {fr : Fr} {ops : Array Oper} {A : As} {rest : List Oper} {K : As → List (As × Fx) → Prop} {d : Nat} {t ty' ty2 : TypeId} {p : String} {e : Array Edge}
theorem zf {α : Type} [Inhabited α] {E : El α} {xs ys : List α} {x y : Operand} {c : Bool} (hE : J9 P ty' (xs.flatMap E.tys) (ys.flatMap E.tys) c) (hx : A.op fr x = .arr E xs) (hy : A.op fr y = .arr E ys)
 (h : af P fr ops rest (A.set d (.bool (!c))) fun A' l' => K A' ((A, { d := some d, ty := .bool (!c), rs := cC x ++ cC y }) :: l')) : af P fr ops (⟨some d, .binOp .neq ty' x y ty2, t, p, e, none⟩ :: rest) A K :=
 bK (bS rfl rfl fun a w M _ hrd _ => by
  have _ := (inferInstance : Inhabited α)
  obtain ⟨hdx, hdy⟩ := op2 hrd
  rw [hx] at hdx; rw [hy] at hdy
  obtain ⟨cs, ex, h1⟩ := hdx
  obtain ⟨ds, ey, h2⟩ := hdy
  exact ⟨.bool (!c), by simp only [execOp, ex, ey]; simp [eqGuard, hE.1, binOp, hE.2 w M cs ds h1 h2], rfl⟩) h
end
end Go.T
namespace Go.Proofs.YtelbollidfdcjaaGreat
open Go Go.T
set_option maxHeartbeats 16000000
def HZ (l : List Int) (x : Int) : Int := fidx (fun y => decide (x = y)) l
theorem zo (l : List Int) (x : Int) : decide (HZ l x ≥ 0) = decide (x ∈ l) := by
 unfold HZ
 rw [nP]
 rw [Bool.eq_iff_iff]; simp
def iS (l : List Int) (o : Bool) (i : Nat) : Bool := !(decide ((i : Int) ∈ l) == o)
def iA (l : List Int) (o : Bool) (k : Nat) : List Bool := (List.range k).map (iS l o) ++ List.replicate (8 - k) false
def bf (l : List Int) (o : Bool) : List Bool := (List.range 8).map (iS l o)
noncomputable def dI (y : bD) (c : List Bool) : Bool := !(cY (aO y (nth c)) (y.cells + 1) (gk (aO y (nth c)))).2.1
section
variable {y : bD} {l : List Int} {o : Bool} {k : Nat}
theorem zk (h : k ≤ 8) : (iA l o k).length = 8 := by unfold iA; rw [List.length_append, List.length_map, List.length_range, List.length_replicate]; omega
theorem Cd : (bf l o).length = 8 := by unfold bf; rw [List.length_map, List.length_range]
theorem xB : List.replicate 8 false = iA l o 0 := rfl
theorem zU : iA l o 8 = bf l o := List.append_nil _
theorem xE (h : k < 8) : (iA l o k).set k (!(decide ((k : Int) ∈ l) == o)) = iA l o (k + 1) := by
 unfold iA
 have e : ((List.range k).map (iS l o)).length = k := by rw [List.length_map, List.length_range]
 rw [List.set_append_right _ _ (by omega), e, Nat.sub_self, show 8 - k = (8 - (k + 1)) + 1 by omega, List.replicate_succ, List.set_cons_zero, List.range_succ, List.map_append, List.append_assoc]; rfl
theorem zG {xs ys : List Bool} {b : Bool} (hx : xs.length = 8) (hy : ys.length = 8) (h : decide (xs = ys) = b) : J9 Tryz.prog 180 (xs.flatMap iZ.tys) (ys.flatMap iZ.tys) b := h ▸ G2 xs ys hx hy
theorem Mn (h : decide (bf l o = bg) = true) (h2 : (!(cY (aO y (nth bg)) (y.cells + 1) (gk (aO y (nth bg)))).2.1) = true) : true = dI y (bf l o) := by rw [of_decide_eq_true h]; exact h2.symm
theorem My (h : decide (bf l o = bg) = true) (h2 : (!(cY (aO y (nth bg)) (y.cells + 1) (gk (aO y (nth bg)))).2.1) = false) : false = dI y (bf l o) := by rw [of_decide_eq_true h]; exact h2.symm
theorem KJ (y : bD) (c : List Bool) : (!(cY (aO y (nth c)) (y.cells + 1) (gk (aO y (nth c)))).2.1) = dI y c := rfl
end
attribute [local irreducible] aO gk Way.gu Way.fin Way.room ef eI fA gU over bO cR dh eY jW fE gy kO cY gP gA gC dB cL gQ oZ iX iq jB gj BO yZ iH bD.kept bD.cells bX eP bg gL kP cV oS p6 kI ji kZ mY hasB tA rE qW s6 o9 kW oB kU wv ga je GM E0 q7 dI bf iA
attribute [local irreducible] iY fX nD qR jG jJ jI jK jF qu jD qw eJ gm qF gx ql nth fU dn af dy bodyPost Exit.then Exit.inBlock Code.wp Code.wpIn qh jH qi qX jC eT cZ cq bodyPostM eR
set_option maxRecDepth 100000 in
theorem A3 (l : List Int) (x : Int) : dy Tryz.prog 140 [Ty.sl cT l, Ty.int .i64 x] (Ty.int .i64 (HZ l x)) := by
 refine av Tryz.func140 rfl (by decide) Tryz.ntmps140 (by exact Nat.le_of_ble_eq_true rfl) fun w0 M0 => ?_
 refine jc (s := 0) rfl rfl jd fun hl => ?_
 refine aE (aA (cF rfl (aD (aC (aE (aE (aA (gB rfl (c9 rfl rfl rfl ?_)))))))))
 refine bQ rfl (aD (aC (aq ?_)))
 refine cj (fun (k : {k : Nat // ∀ y ∈ l.take k, decide (x = y) = false}) => live [(0, Ty.sl cT l), (1, Ty.int .i64 x), (7, Ty.int .i64 l.length), (8, Ty.int .i64 (k.1 : Nat))] []) (fun k => l.length - k.1) (⟨0, by simp⟩) ?_ fun k => ?_
 ·(refine dK.mk' ?_ ?_ <;> (repeat' (first | exact aJ | exact aI | refine aB ?_ (Ty.aW _) | refine aB ?_ (Ty.aF _))))
 refine aE (aA (bE rfl rfl rfl (aD (aC (aE ?_)))))
 refine au rfl (fun hc1 => ?_) (fun hc1 => ?_)
 ·
  refine ak (aC (aE (aq (aE (aA (bQ rfl (cF rfl (aD (aC ?_)))))))))
  refine aE (aA (bQ rfl (gB rfl (bQ rfl ?_))))
  refine bT rfl rfl rfl rfl rfl rfl (by omega) ?_
  refine aL rfl rfl rfl rfl (bE rfl rfl rfl (aD (aC ?_)))
  refine au rfl (fun hc2 => ?_) (fun hc2 => ?_)
  ·
   refine aE (aA (bQ rfl (cF rfl (aD (aC (ay (bG (aV (aV ?_)))))))))
   refine bG (aV (bh rfl rfl ?_))
   all_goals skip
   exact az rfl rfl (congrArg (Ty.int .i64) (by unfold HZ; rw [gr (k := k.1) (by omega) k.2 (by rw [← iE]; exact decide_eq_true hc2)]))
  refine ak (bV (aC (aA ?_)))
  refine b9 rfl rfl (by omega) (by omega) ?_
  refine bQ rfl (aD ?_)
  refine bZ (⟨k.1 + 1, by rw [dw (by omega)]; intro y hy; rcases List.mem_append.1 hy with h | h; exact k.2 y h; rw [List.mem_singleton.1 h]; exact decide_eq_false hc2⟩) ?_ (by show l.length - (k.1 + 1) < l.length - k.1; omega)
  (refine dK.mk' ?_ ?_ <;> (repeat' (first | exact aJ | exact aI | refine aB ?_ (Ty.aW _) | refine aB ?_ (Ty.aF _))))
  all_goals skip
 refine cg (aR (aR (bA rfl (aC (aE (aA (cF rfl (aD (aC ?_)))))))))
 refine ay (bh rfl rfl ?_)
 all_goals skip
 exact az rfl rfl (congrArg (Ty.int .i64) (by unfold HZ; rw [iP (by have := k.2; rwa [List.take_of_length_le (by omega)] at this)]))
set_option maxRecDepth 100000 in
theorem jh (l : List Int) (x : Int) : dy Tryz.prog 65 [Ty.sl cT l, Ty.int .i64 x] (Ty.bool (decide (x ∈ l))) := by
 refine av Tryz.func65 rfl (by decide) Tryz.ntmps65 (by exact Nat.le_of_ble_eq_true rfl) fun w0 M0 => ?_
 refine aE (aA (dX rfl (aD (aC (aE (aA (gB rfl (bQ rfl (aj (A3 l x) rfl rfl rfl rfl rfl ?_)))))))))
 refine bE rfl rfl rfl (dX rfl (aD (aC (ay (bh rfl rfl ?_)))))
 all_goals skip
 exact az rfl rfl (congrArg Ty.bool (zo l x))
set_option maxRecDepth 100000 in
theorem wS (y : bD) (hr : y.cm) (l : List Int) (o : Bool) : dy Tryz.prog 112 [ff y, Ty.sl cT l, Ty.bool o] (Ty.bool (dI y (bf l o))) := by
 refine av Tryz.func112 rfl (by decide) Tryz.ntmps112 (by exact Nat.le_of_ble_eq_true rfl) fun w0 M0 => ?_
 refine aE (aA (bR rfl (dX rfl (aD (aC (aE (aA ?_)))))))
 refine Ao (E := iZ) (xs := List.replicate 8 false) rfl (by exact List.cons_ne_nil _ _) rfl rfl ?_
 refine aD (aC (aE (aE (aA (bQ rfl (aD (aC (aq ?_))))))))
 refine cj (fun (k : {k : Nat // k ≤ 8}) => live [(1, Ty.sl cT l), (2, Ty.bool o), (3, Ty.pp (bl y)), (7, Ty.ptr 8 0), (9, Ty.int .i64 (k.1 : Nat))] [(8, Cont.vec iZ 180 (iA l o k.1))]) (fun k => 8 - k.1) (⟨0, by omega⟩) ?_ fun k => ?_
 ·(refine dK.mk' ?_ ?_ <;> (repeat' (first | exact aJ | exact aI | refine aB ?_ (Ty.aW _) | refine aB ?_ (Ty.aF _) | refine aG rfl ?_ ?_)))
  all_goals exact Cont.eF xB
 have hkl := zk (l := l) (o := o) k.2
 refine aE (aA (bE rfl rfl rfl (aD (aC (aE ?_)))))
 refine au rfl (fun hc1 => ?_) (fun hc1 => ?_)
 ·
  refine ak (aC (aE (aq (aE (aA (bQ rfl (cF rfl (aD (aC ?_)))))))))
  refine aA (bQ rfl (gB rfl (bQ rfl (aj (jh _ _) rfl rfl rfl rfl rfl (gR rfl (uc I0 rfl rfl ?_))))))
  refine rC (n := 8) rfl rfl rfl rfl rfl (by omega) (by omega) ?_
  refine r9 rfl rfl rfl (by decide) rfl rfl (by exact (rfl : _ = Ty.bool _)) rfl (by omega) (by decide) rfl rfl ?_
  refine aD (bV (aC (aA ?_)))
  refine b9 rfl rfl (by omega) (by omega) ?_
  refine bQ rfl (aD ?_)
  refine bZ (⟨k.1 + 1, by omega⟩) ?_ (by show 8 - (k.1 + 1) < 8 - k.1; omega)
  (refine dK.mk' ?_ ?_ <;> (repeat' (first | exact aJ | exact aI | refine aB ?_ (Ty.aW _) | refine aB ?_ (Ty.aF _) | refine aG rfl ?_ ?_)))
  all_goals skip
  all_goals exact Cont.eF (xE (by omega))
 refine cg (aR (aR (bA rfl (aC (aE ?_)))))
 obtain ⟨k, hk⟩ := k
 obtain rfl : k = 8 := by have h1 : ¬ (k : Int) < 8 := hc1; have h2 : k ≤ 8 := hk; omega
 refine gM (tg := 8) rfl (Cont.eF zU) ?_
 have hcl : (bf l o).length = 8 := Cd
 refine cW mixed rfl ?_
 refine iK rfl rfl (by decide) rfl rfl (by rw [hcl]; rfl) (fun e => by rw [e] at hcl; cases hcl) ?_
 refine aj (q5) rfl rfl rfl rfl rfl (K6 (G2 _ _ hcl jf) rfl rfl ?_)
 cases hsp : (decide ((bf l o) = bg))
 ·
  refine gR rfl (m4 rfl rfl rfl rfl (m4 rfl rfl rfl rfl (m4 rfl rfl rfl rfl (m4 rfl rfl rfl rfl (DP rfl ?_)))))
  cases hsp : (!(cY (aO y (nth bg)) (y.cells + 1) (gk (aO y (nth bg)))).2.1)
  ·
   refine gR rfl ?_
   (refine j5 rfl rfl rfl (by apply aU; (refine iK rfl rfl (by decide) rfl rfl (by rw [hcl]; rfl) (fun e => by rw [e] at hcl; cases hcl) ?_); refine aD ?_; exact rfl) ?_)
   (refine j5 rfl rfl rfl (by apply aU; (refine aj (q5) rfl rfl rfl rfl rfl ?_); refine aD ?_; exact rfl) ?_)
   (refine j5 rfl rfl rfl (by apply aU; (refine zf (zG hcl jf (by assumption)) rfl rfl ?_); refine aD ?_; exact rfl) ?_)
   (refine j5 rfl rfl rfl (by apply aU; (refine gR rfl ?_); refine aD ?_; exact rfl) ?_)
   (refine j5 rfl rfl rfl (by apply aU; (refine aZ rfl rfl rfl (by exact Nat.le_of_ble_eq_true rfl) ?_); refine aD ?_; exact rfl) ?_)
   (refine j5 rfl rfl rfl (by apply aU; (refine iK rfl rfl (by decide) rfl rfl (by rw [hcl]; rfl) (fun e => by rw [e] at hcl; cases hcl) ?_); refine aD ?_; exact rfl) ?_)
   (refine j5 rfl rfl rfl (by apply aU; (refine bt (res' := Ty.pp (eO y (aO y (nth (bf l o))) 1000 (aO y (nth (bf l o))).length)) [(1000, 31)] [1000] [(1000, Cont.vec cT 3 (gk (aO y (nth (bf l o)))))] (tK y hr (bf l o) hcl) rfl rfl (aH (aH bL (aM rfl rfl)) (aM rfl rfl)) pre_nil (bJ (a := 1000) (b := 31) (by decide) rfl (cA (by decide) rfl) post_nil) (fD (aH (aH (aH (aH (aH (aH bL (eM (by decide))) (aM rfl rfl)) (aM rfl rfl)) (aM rfl rfl)) (aM rfl rfl)) (aM rfl rfl))) ?_); refine aD ?_; exact rfl) ?_)
   (refine j5 rfl rfl rfl (by apply aU; (refine bt [(1000, 1000)] [] [(1000, Cont.vec cT 3 (cY (aO y (nth (bf l o))) (y.cells + 1) (gk (aO y (nth (bf l o))))).2.2)] (mj y (aO y (nth (bf l o))) (gk (aO y (nth (bf l o)))) (lp hr)) rfl rfl (aH bL (fD (aH (aH (aH (aH (aH (aH bL (eM (by exact List.mem_cons_self))) (aM rfl rfl)) (aM rfl rfl)) (aM rfl rfl)) (aM rfl rfl)) (aM rfl rfl)))) (b8 (a := 1000) (b := 1000) (by exact List.mem_cons_self) rfl (cA (by exact List.mem_cons_self) rfl) pre_nil) (bJ (a := 1000) (b := 1000) (by decide) rfl (cA (by decide) rfl) post_nil) (aM rfl rfl) ?_); refine aD ?_; exact rfl) ?_)
   (refine j5 rfl rfl rfl (by apply aU; (refine y6 rfl rfl ?_); refine aD ?_; exact rfl) ?_)
   refine zD rfl rfl (dX rfl (aD ?_))
   refine ⟨by kernel_rfl, ?_⟩
   refine aC (ay (bh rfl rfl ?_))
   all_goals skip
   all_goals exact az rfl rfl (congrArg Ty.bool (KJ y _))
  refine gR rfl ?_
  (refine j5 rfl rfl rfl (by apply aU; (refine iK rfl rfl (by decide) rfl rfl (by rw [hcl]; rfl) (fun e => by rw [e] at hcl; cases hcl) ?_); refine aD ?_; exact rfl) ?_)
  (refine j5 rfl rfl rfl (by apply aU; (refine aj (q5) rfl rfl rfl rfl rfl ?_); refine aD ?_; exact rfl) ?_)
  (refine j5 rfl rfl rfl (by apply aU; (refine zf (zG hcl jf (by assumption)) rfl rfl ?_); refine aD ?_; exact rfl) ?_)
  (refine j5 rfl rfl rfl (by apply aU; (refine gR rfl ?_); refine aD ?_; exact rfl) ?_)
  (refine j5 rfl rfl rfl (by apply aU; (refine aZ rfl rfl rfl (by exact Nat.le_of_ble_eq_true rfl) ?_); refine aD ?_; exact rfl) ?_)
  (refine j5 rfl rfl rfl (by apply aU; (refine iK rfl rfl (by decide) rfl rfl (by rw [hcl]; rfl) (fun e => by rw [e] at hcl; cases hcl) ?_); refine aD ?_; exact rfl) ?_)
  (refine j5 rfl rfl rfl (by apply aU; (refine bt (res' := Ty.pp (eO y (aO y (nth (bf l o))) 1000 (aO y (nth (bf l o))).length)) [(1000, 31)] [1000] [(1000, Cont.vec cT 3 (gk (aO y (nth (bf l o)))))] (tK y hr (bf l o) hcl) rfl rfl (aH (aH bL (aM rfl rfl)) (aM rfl rfl)) pre_nil (bJ (a := 1000) (b := 31) (by decide) rfl (cA (by decide) rfl) post_nil) (fD (aH (aH (aH (aH (aH (aH bL (eM (by decide))) (aM rfl rfl)) (aM rfl rfl)) (aM rfl rfl)) (aM rfl rfl)) (aM rfl rfl))) ?_); refine aD ?_; exact rfl) ?_)
  (refine j5 rfl rfl rfl (by apply aU; (refine bt [(1000, 1000)] [] [(1000, Cont.vec cT 3 (cY (aO y (nth (bf l o))) (y.cells + 1) (gk (aO y (nth (bf l o))))).2.2)] (mj y (aO y (nth (bf l o))) (gk (aO y (nth (bf l o)))) (lp hr)) rfl rfl (aH bL (fD (aH (aH (aH (aH (aH (aH bL (eM (by exact List.mem_cons_self))) (aM rfl rfl)) (aM rfl rfl)) (aM rfl rfl)) (aM rfl rfl)) (aM rfl rfl)))) (b8 (a := 1000) (b := 1000) (by exact List.mem_cons_self) rfl (cA (by exact List.mem_cons_self) rfl) pre_nil) (bJ (a := 1000) (b := 1000) (by decide) rfl (cA (by decide) rfl) post_nil) (aM rfl rfl) ?_); refine aD ?_; exact rfl) ?_)
  (refine j5 rfl rfl rfl (by apply aU; (refine y6 rfl rfl ?_); refine aD ?_; exact rfl) ?_)
  refine zD rfl rfl (dX rfl (aD ?_))
  refine ⟨by kernel_rfl, ?_⟩
  refine aC (ay (bh rfl rfl ?_))
  all_goals skip
  all_goals exact az rfl rfl (congrArg Ty.bool (KJ y _))
 refine gR rfl ?_
 (refine j5 rfl rfl rfl (by apply aU; (refine aZ rfl rfl rfl (by exact Nat.le_of_ble_eq_true rfl) ?_); refine aD ?_; exact rfl) ?_)
 (refine j5 rfl rfl rfl (by apply aU; (refine aj (q5) rfl rfl rfl rfl rfl ?_); refine aD ?_; exact rfl) ?_)
 (refine j5 rfl rfl rfl (by apply aU; (refine bt (res' := Ty.pp (eO y (aO y (nth bg)) 1000 (aO y (nth bg)).length)) [(1000, 31)] [1000] [(1000, Cont.vec cT 3 (gk (aO y (nth bg))))] (tK y hr bg jf) rfl rfl (aH (aH bL (aM rfl rfl)) (aM rfl rfl)) pre_nil (bJ (a := 1000) (b := 31) (by decide) rfl (cA (by decide) rfl) post_nil) (fD (aH (aH (aH (aH (aH (aH bL (eM (by decide))) (aM rfl rfl)) (aM rfl rfl)) (aM rfl rfl)) (aM rfl rfl)) (aM rfl rfl))) ?_); refine aD ?_; exact rfl) ?_)
 (refine j5 rfl rfl rfl (by apply aU; (refine bt [(1000, 1000)] [] [(1000, Cont.vec cT 3 (cY (aO y (nth bg)) (y.cells + 1) (gk (aO y (nth bg)))).2.2)] (mj y (aO y (nth bg)) (gk (aO y (nth bg))) (lp hr)) rfl rfl (aH bL (fD (aH (aH (aH (aH (aH (aH bL (eM (by exact List.mem_cons_self))) (aM rfl rfl)) (aM rfl rfl)) (aM rfl rfl)) (aM rfl rfl)) (aM rfl rfl)))) (b8 (a := 1000) (b := 1000) (by exact List.mem_cons_self) rfl (cA (by exact List.mem_cons_self) rfl) pre_nil) (bJ (a := 1000) (b := 1000) (by decide) rfl (cA (by decide) rfl) post_nil) (aM rfl rfl) ?_); refine aD ?_; exact rfl) ?_)
 refine y6 rfl rfl ?_
 cases hsp : (!(cY (aO y (nth bg)) (y.cells + 1) (gk (aO y (nth bg)))).2.1)
 ·
  refine gR rfl ?_
  (refine j5 rfl rfl rfl (by apply aU; (refine iK rfl rfl (by decide) rfl rfl (by rw [hcl]; rfl) (fun e => by rw [e] at hcl; cases hcl) ?_); refine aD ?_; exact rfl) ?_)
  (refine j5 rfl rfl rfl (by apply aU; (refine aj (q5) rfl rfl rfl rfl rfl ?_); refine aD ?_; exact rfl) ?_)
  (refine j5 rfl rfl rfl (by apply aU; (refine zf (zG hcl jf (by assumption)) rfl rfl ?_); refine aD ?_; exact rfl) ?_)
  (refine j5 rfl rfl rfl (by apply aU; (refine gR rfl ?_); refine aD ?_; exact rfl) ?_)
  refine m4 rfl rfl rfl rfl (m4 rfl rfl rfl rfl (m4 rfl rfl rfl rfl (m4 rfl rfl rfl rfl ?_)))
  (refine j5 rfl rfl rfl (by apply aU; (refine DP rfl ?_); refine aD ?_; exact rfl) ?_)
  refine zD rfl rfl (dX rfl (aD ?_))
  refine ⟨by kernel_rfl, ?_⟩
  refine aC (ay (bh rfl rfl ?_))
  all_goals skip
  all_goals exact az rfl rfl (congrArg Ty.bool (My (by assumption) (by assumption)))
 refine gR rfl (m4 rfl rfl rfl rfl (m4 rfl rfl rfl rfl (m4 rfl rfl rfl rfl (m4 rfl rfl rfl rfl (ze rfl rfl rfl (ze rfl rfl rfl (ze rfl rfl rfl (ze rfl rfl rfl (m4 rfl rfl rfl rfl ?_)))))))))
 refine Jr rfl (dX rfl (aD ?_))
 refine ⟨by kernel_rfl, ?_⟩
 refine aC (ay (bh rfl rfl ?_))
 all_goals skip
 all_goals exact az rfl rfl (congrArg Ty.bool (Mn (by assumption) (by assumption)))
end Go.Proofs.YtelbollidfdcjaaGreat
namespace Go.Proofs.YtelbollidfdcjaaGreat
open Go Go.T
set_option maxHeartbeats 16000000
def Fj (y : bD) (i : Int) : Bool := decide (i ≥ 0) && decide (i ≤ (y.levels.length : Int) - 1)
def wz (y : bD) (l : List Int) : Int := if bX y = 0 then (if (l.all (Fj y)) = true then (if l.Nodup then 0 else 5) else 1) else bX y
noncomputable def CB (y : bD) (l : List Int) : Bool := if wz y l = 0 then dI y (bf l false) else false
section
variable {y : bD} {l : List Int} {i : Nat}
theorem v8 {α : Type} {l : List α} {x : α} (h : l.Nodup) (hx : x ∉ l) : (l ++ [x]).Nodup := by
 rw [List.nodup_append]
 refine ⟨h, List.nodup_cons.2 ⟨List.not_mem_nil, List.nodup_nil⟩, fun a ha b hb e => ?_⟩
 rw [List.mem_singleton] at hb
 subst hb; subst e; exact hx ha
theorem yX (h : (l.take i).Nodup) (hi : l.length ≤ i) : l.Nodup := by rwa [List.take_of_length_le hi] at h
theorem C0 (h : (l.take i).Nodup) (hi : i < l.length) (hx : ¬ nth l i ∈ l.take i) : (l.take (i + 1)).Nodup := by rw [dw hi]; exact v8 h hx
theorem Lm (hi : i < l.length) (hx : nth l i ∈ l.take i) : ¬ l.Nodup := fun h => by
 have h1 : (l.take (i + 1)).Nodup := h.sublist (List.take_sublist _ _)
 rw [dw hi, List.nodup_append] at h1
 exact h1.2.2 _ hx _ List.mem_cons_self rfl
theorem Ku {e : Int} (h : e = wz y l) (h0 : e ≠ 0) : false = CB y l := by unfold CB; rw [← h, if_neg h0]
theorem MJ (h : ¬ bX y = 0) : bX y = wz y l ∧ false = CB y l := by
 have e : bX y = wz y l := (if_neg h).symm
 exact ⟨e, Ku e h⟩
theorem MZ (h : bX y = 0) (h2 : (l.all (Fj y)) = false) : 1 = wz y l ∧ false = CB y l := by
 have e : 1 = wz y l := by unfold wz; rw [if_pos h, if_neg (by rw [h2]; decide)]
 exact ⟨e, Ku e (by decide)⟩
theorem MT (h : bX y = 0) (h2 : (l.all (Fj y)) = true) (hi : i < l.length) (h3 : nth l i ∈ l.take i) : 5 = wz y l ∧ false = CB y l := by
 have e : 5 = wz y l := by unfold wz; rw [if_pos h, if_pos h2, if_neg (Lm hi h3)]
 exact ⟨e, Ku e (by decide)⟩
theorem LJ (h : bX y = 0) (h2 : (l.all (Fj y)) = true) (h3 : l.Nodup) : 0 = wz y l ∧ dI y (bf l false) = CB y l := by
 have e : 0 = wz y l := by unfold wz; rw [if_pos h, if_pos h2, if_pos h3]
 exact ⟨e, by unfold CB; rw [← e]; rfl⟩
end
attribute [local irreducible] aO gk Way.gu Way.fin Way.room ef eI fA gU over bO cR dh eY jW fE gy kO cY gP gA gC dB cL gQ oZ iX iq jB gj BO yZ iH bD.kept bD.cells bX eP bg gL kP cV oS p6 kI ji kZ mY hasB tA rE qW s6 o9 kW oB kU wv ga je GM E0 q7 dI bf iA Fj wz CB
attribute [local irreducible] iY fX nD qR jG jJ jI jK jF qu jD qw eJ gm qF gx ql nth fU dn af dy bodyPost Exit.then Exit.inBlock Code.wp Code.wpIn qh jH qi qX jC eT cZ cq bodyPostM eR
set_option maxRecDepth 100000 in
theorem IP (y : bD) (hs : y.Small) (i : Int) : dy Tryz.prog 110 [Ty.int .i64 i, Ty.pp (bl y)] (Ty.bool (Fj y i)) := by
 refine av Tryz.func110 rfl (by decide) Tryz.ntmps110 (by exact Nat.le_of_ble_eq_true rfl) fun w0 M0 => ?_
 have h3 := hs.levels
 refine aE (aA (dX rfl (aD (aC (aE (aA (bQ rfl ?_)))))))
 refine aQ rfl rfl rfl rfl rfl (by decide) ?_
 refine aL rfl rfl rfl rfl (c9 rfl rfl rfl ?_)
 refine gw rfl rfl (by omega) (by omega) ?_
 refine aj (tR _ _ _) rfl rfl rfl rfl rfl (dX rfl (aD (aC (ay (bh rfl rfl ?_)))))
 all_goals skip
 all_goals exact az rfl rfl (congrArg Ty.bool (by unfold Fj; rfl))
set_option maxRecDepth 100000 in
theorem uh (y : bD) (hs : y.Small) (l : List Int) : dy Tryz.prog 43 [ff y, Ty.sl cT l] (Ty.jq [Ty.bool (CB y l), Ty.int .i64 (wz y l)]) := by
 refine av Tryz.func43 rfl (by decide) Tryz.ntmps43 (by exact Nat.le_of_ble_eq_true rfl) fun w0 M0 => ?_
 refine jc (s := 1) rfl rfl jd fun hl => ?_
 refine aE (aA (bR rfl (dX rfl (cF rfl (aD (aC (aE (aA ?_))))))))
 refine aZ rfl rfl rfl (by exact Nat.le_of_ble_eq_true rfl) ?_
 refine aj (kB y hs) rfl rfl rfl rfl rfl (cF rfl (aD (aC (aE (aq (aE (aA (bQ rfl (bE rfl rfl rfl ?_)))))))))
 refine dX rfl (aD (aC ?_))
 refine dJ rfl (fun hc1 => ?_) (fun hc1 => ?_)
 ·
  refine aE (aA (bQ rfl (dX rfl (cF rfl (aD (aC (ay (bG (aV ?_)))))))))
  refine fM rfl rfl rfl ?_ ?_
  all_goals skip
  all_goals first | exact az rfl rfl (congrArg (Ty.int .i64) (MJ hc1).1) | exact az rfl rfl (congrArg Ty.bool (MJ hc1).2)
 refine aE ?_
 have hck : bX y = 0 := hc1
 have hr := dV hck
 refine aA (gB rfl (dL rfl ?_))
 refine aj (B2 l (Ty.jX 110 [Ty.pp (bl y)]) rfl (Fj y) rfl rfl fun c _ => dU (IP y hs c) rfl rfl rfl rfl rfl rfl) rfl rfl rfl rfl rfl ?_
 refine dm rfl (dX rfl (aD (aC ?_)))
 refine cv rfl (fun hc2 => ?_) (fun hc2 => ?_)
 ·
  refine aE (aA (dX rfl (cF rfl (aD (aC (ay (bG (aV ?_))))))))
  refine fM rfl rfl rfl ?_ ?_
  all_goals skip
  all_goals first | exact az rfl rfl (congrArg (Ty.int .i64) (MZ hc1 (n5 hc2)).1) | exact az rfl rfl (congrArg Ty.bool (MZ hc1 (n5 hc2)).2)
 refine ak (bV (aC (aE (aE ?_))))
 have hall : (l.all (Fj y)) = true := fV hc2
 refine aA (gB rfl (c9 rfl rfl rfl (bQ rfl (aD (aC (aq ?_))))))
 refine cj (fun (i : {i : Nat // i ≤ l.length ∧ (l.take i).Nodup}) => live [(1, Ty.sl cT l), (2, Ty.pp (bl y)), (20, Ty.sl cT l), (21, Ty.int .i64 l.length), (22, Ty.int .i64 (i.1 : Nat))] []) (fun i => l.length - i.1) (⟨0, Nat.zero_le _, List.nodup_nil⟩) ?_ fun i => ?_
 ·(refine dK.mk' ?_ ?_ <;> (repeat' (first | exact aJ | exact aI | refine aB ?_ (Ty.aW _) | refine aB ?_ (Ty.aF _))))
 have hi1 := i.2.1
 refine aE (aA (bE rfl rfl rfl (aD (aC (aE ?_)))))
 refine au rfl (fun hc3 => ?_) (fun hc3 => ?_)
 ·
  refine ak (aC (aE (aq (aE (aA (bQ rfl ?_))))))
  refine bT rfl rfl rfl rfl rfl rfl (by omega) ?_
  refine aL rfl rfl rfl rfl (cF rfl (cF rfl (aD (aC (aE (aA (gB rfl (bQ rfl ?_))))))))
  refine Am rfl rfl rfl rfl rfl rfl (by omega) ?_
  refine bQ rfl (aj (jh _ _) rfl rfl rfl rfl rfl (aD (aC ?_)))
  refine au rfl (fun hc4 => ?_) (fun hc4 => ?_)
  ·
   refine aE (aA (dX rfl (cF rfl (aD (aC (ay (bG (aV (aV ?_)))))))))
   refine bG (aV ?_)
   refine fM rfl rfl rfl ?_ ?_
   all_goals skip
   all_goals first | exact az rfl rfl (congrArg (Ty.int .i64) (MT hc1 hall (by omega) hc4).1) | exact az rfl rfl (congrArg Ty.bool (MT hc1 hall (by omega) hc4).2)
  refine ak (bV (aC (aA ?_)))
  refine b9 rfl rfl (by omega) (by omega) ?_
  refine bQ rfl (aD ?_)
  refine bZ (⟨i.1 + 1, by omega, C0 i.2.2 (by omega) hc4⟩) ?_ (by show l.length - (i.1 + 1) < l.length - i.1; omega)
  (refine dK.mk' ?_ ?_ <;> (repeat' (first | exact aJ | exact aI | refine aB ?_ (Ty.aW _) | refine aB ?_ (Ty.aF _))))
  all_goals skip
 refine cg (aR (aR (bA rfl (aC (aE (aA ?_))))))
 refine aZ rfl rfl rfl (by exact Nat.le_of_ble_eq_true rfl) ?_
 refine gB rfl (aj (wS y hr l false) rfl rfl rfl rfl rfl (dX rfl (cF rfl (aD (aC (ay ?_))))))
 refine fM rfl rfl rfl ?_ ?_
 all_goals skip
 all_goals first | exact az rfl rfl (congrArg (Ty.int .i64) (LJ hc1 hall (yX i.2.2 (by have := i.2.1; omega))).1) | exact az rfl rfl (congrArg Ty.bool (LJ hc1 hall (yX i.2.2 (by have := i.2.1; omega))).2)
end Go.Proofs.YtelbollidfdcjaaGreat
namespace Go.Proofs.YtelbollidfdcjaaGreat
open Go Go.T
def mN (h : List Int → Bool) (many : Nat) : Nat → List Int → Nat → List Int → Bool × List Int
  | 0, _, _, o => (false, o)
  | d + 1, l, i, o =>
    if (if (l ++ [(i : Int)]).length = many then (h (l ++ [(i : Int)]), l ++ [(i : Int)]) else mN h many d (l ++ [(i : Int)]) (i + 1) o).1 = true then (if (l ++ [(i : Int)]).length = many then (h (l ++ [(i : Int)]), l ++ [(i : Int)]) else mN h many d (l ++ [(i : Int)]) (i + 1) o)
    else mN h many d l (i + 1) (if (l ++ [(i : Int)]).length = many then (h (l ++ [(i : Int)]), l ++ [(i : Int)]) else mN h many d (l ++ [(i : Int)]) (i + 1) o).2
def tY (h : List Int → Bool) (many lim : Nat) (l : List Int) (i : Nat) (o : List Int) : Bool × List Int := if l.length = many then (h l, l) else mN h many (lim - i) l i o
def wQ (many : Nat) : Nat → List Int → Nat → List (List Int)
  | 0, _, _ => []
  | d + 1, l, i => (if (l ++ [(i : Int)]).length = many then [l ++ [(i : Int)]] else wQ many d (l ++ [(i : Int)]) (i + 1)) ++ wQ many d l (i + 1)
def zY (many lim : Nat) : List (List Int) := if many = 0 then [[]] else wQ many lim [] 0
def fN (h : List Int → Bool) (lim : Nat) : Option (List Int) := ((List.range (lim + 1)).flatMap fun k => zY k lim).find? h
section
variable {h : List Int → Bool} {many lim d i k : Nat} {l o : List Int}
theorem By (hi : i < lim) : mN h many (lim - i) l i o = if (tY h many lim (l ++ [(i : Int)]) (i + 1) o).1 = true then tY h many lim (l ++ [(i : Int)]) (i + 1) o else mN h many (lim - (i + 1)) l (i + 1) (tY h many lim (l ++ [(i : Int)]) (i + 1) o).2 := by
 rw [show lim - i = (lim - (i + 1)) + 1 by omega]; rfl
theorem Iu (hi : ¬ i < lim) : mN h many (lim - i) l i o = (false, o) := by rw [show lim - i = 0 by omega]; rfl
theorem go_eq (e : l.length = many) : tY h many lim l i o = (h l, l) := if_pos e
theorem KF (e : ¬ l.length = many) : tY h many lim l i o = mN h many (lim - i) l i o := if_neg e
theorem zL : ∀ (d : Nat) (l : List Int) (i : Nat) (o : List Int), (mN h many d l i o).1 = (wQ many d l i).any h ∧ ((mN h many d l i o).1 = true → (wQ many d l i).find? h = some (mN h many d l i o).2)
  | 0, _, _, _ => ⟨rfl, fun e => by cases e⟩
  | d + 1, l, i, o => by
    have key : ∀ o, (if (l ++ [(i : Int)]).length = many then (h (l ++ [(i : Int)]), l ++ [(i : Int)]) else mN h many d (l ++ [(i : Int)]) (i + 1) o).1 = (if (l ++ [(i : Int)]).length = many then [l ++ [(i : Int)]] else wQ many d (l ++ [(i : Int)]) (i + 1)).any h ∧ ((if (l ++ [(i : Int)]).length = many then (h (l ++ [(i : Int)]), l ++ [(i : Int)]) else mN h many d (l ++ [(i : Int)]) (i + 1) o).1 = true → (if (l ++ [(i : Int)]).length = many then [l ++ [(i : Int)]] else wQ many d (l ++ [(i : Int)]) (i + 1)).find? h = some (if (l ++ [(i : Int)]).length = many then (h (l ++ [(i : Int)]), l ++ [(i : Int)]) else mN h many d (l ++ [(i : Int)]) (i + 1) o).2) := by
      intro o
      by_cases e : (l ++ [(i : Int)]).length = many
      · rw [if_pos e, if_pos e]
        refine ⟨by simp, fun h1 => ?_⟩
        have h1 : h (l ++ [(i : Int)]) = true := h1
        rw [List.find?_cons, h1]
      · rw [if_neg e, if_neg e]
        exact zL d _ _ o
    unfold mN wQ
    generalize (if (l ++ [(i : Int)]).length = many then [l ++ [(i : Int)]] else wQ many d (l ++ [(i : Int)]) (i + 1)) = C at key ⊢
    obtain ⟨k1, k2⟩ := key o
    generalize (if (l ++ [(i : Int)]).length = many then (h (l ++ [(i : Int)]), l ++ [(i : Int)]) else mN h many d (l ++ [(i : Int)]) (i + 1) o) = r at k1 k2 ⊢
    rw [List.any_append, List.find?_append]
    cases e : r.1 with
    | true =>
      rw [if_pos rfl]
      refine ⟨by rw [e, ← k1, e]; rfl, fun _ => by rw [k2 e]; rfl⟩
    | false =>
      rw [if_neg (by decide)]
      obtain ⟨j1, j2⟩ := zL d l (i + 1) r.2
      have hn : C.find? h = none := by
        rw [List.find?_eq_none]
        intro x hx h1
        have : C.any h = true := List.any_eq_true.2 ⟨x, hx, h1⟩
        rw [← k1, e] at this; cases this
      refine ⟨by rw [j1, ← k1, e, Bool.false_or], fun h1 => by rw [hn, j2 h1]; rfl⟩
theorem Gu : (tY h many lim [] 0 o).1 = (zY many lim).any h ∧ ((tY h many lim [] 0 o).1 = true → (zY many lim).find? h = some (tY h many lim [] 0 o).2) := by
 unfold tY zY
 by_cases e : many = 0
 ·rw [if_pos (show ([] : List Int).length = many from e.symm), if_pos e]
  refine ⟨by simp, fun h1 => ?_⟩
  have h1 : h [] = true := h1
  rw [List.find?_cons, h1]
 rw [if_neg (show ¬ ([] : List Int).length = many from fun h => e h.symm), if_neg e, Nat.sub_zero]
 exact zL _ _ _ _
theorem Ex {C : List (List Int)} (h1 : C.any h = false) : C.find? h = none := by
 rw [List.find?_eq_none]
 intro x hx h2
 have : C.any h = true := List.any_eq_true.2 ⟨x, hx, h2⟩
 rw [h1] at this; cases this
def qI (h : List Int → Bool) (lim k : Nat) : Prop := ((List.range k).flatMap fun k => zY k lim).find? h = none
theorem En : qI h lim 0 := rfl
theorem FL (h0 : qI h lim k) (h1 : (tY h k lim [] 0 []).1 = false) : qI h lim (k + 1) := by
 unfold qI at h0 ⊢
 rw [List.range_succ, List.flatMap_append, List.find?_append, h0, List.flatMap_singleton, Ex (by rw [← (Gu (o := [])).1, h1])]; rfl
theorem C2 (h0 : qI h lim k) (hk : k = lim + 1) : fN h lim = none := by subst hk; exact h0
theorem range_split {k n : Nat} (hk : k < n) : ∃ r, List.range n = List.range k ++ k :: r := by
 refine ⟨(List.range (n - k - 1)).map (fun x => k + 1 + x), ?_⟩
 rw [show List.range n = List.range (k + (1 + (n - k - 1))) by congr 1; omega, List.range_add, List.range_add, List.map_append]
 rw [List.map_map]
 congr 1
 show [k + 0] ++ _ = _
 rw [List.singleton_append, Nat.add_zero]
 congr 1
 refine List.map_congr_left fun x _ => ?_
 show k + (1 + x) = _; omega
theorem Cj (h0 : qI h lim k) (hk : k ≤ lim) (h1 : (tY h k lim [] 0 []).1 = true) : fN h lim = some (tY h k lim [] 0 []).2 := by
 unfold qI at h0
 unfold fN
 obtain ⟨r, hr⟩ := range_split (show k < lim + 1 by omega)
 rw [hr, List.flatMap_append, List.find?_append, h0, List.flatMap_cons, List.find?_append, Gu.2 h1]; rfl
end
end Go.Proofs.YtelbollidfdcjaaGreat
namespace Go.Proofs.YtelbollidfdcjaaGreat
open Go Go.T
set_option maxHeartbeats 16000000
structure w8 (h : List Int → Bool) (many lim : Nat) (l : List Int) (i0 : Nat) (o0 : List Int) where
  i : Nat
  o : List Int
  ge : i0 ≤ i
  le : i ≤ lim
  same : mN h many (lim - i0) l i0 o0 = mN h many (lim - i) l i o
section
variable {h : List Int → Bool} {many lim i0 k : Nat} {l o0 : List Int}
theorem w8.nat (x : w8 h many lim l i0 o0) (hi : (x.i : Int) < (lim : Int)) : x.i < lim := by omega
def w8.next (x : w8 h many lim l i0 o0) (hi : (x.i : Int) < (lim : Int)) (hg : (tY h many lim (l ++ [(x.i : Int)]) (x.i + 1) x.o).1 = false) : w8 h many lim l i0 o0 :=
  ⟨x.i + 1, (tY h many lim (l ++ [(x.i : Int)]) (x.i + 1) x.o).2, by have := x.ge; omega, by omega, by rw [x.same, By (x.nat hi), if_neg (by rw [hg]; decide)]⟩
theorem w8.found (x : w8 h many lim l i0 o0) (hm : ¬ l.length = many) (hi : (x.i : Int) < (lim : Int)) (hg : (tY h many lim (l ++ [(x.i : Int)]) (x.i + 1) x.o).1 = true) : tY h many lim l i0 o0 = tY h many lim (l ++ [(x.i : Int)]) (x.i + 1) x.o := by
 rw [KF hm, x.same, By (x.nat hi), if_pos hg]
theorem w8.stop (x : w8 h many lim l i0 o0) (hm : ¬ l.length = many) (hi : ¬ (x.i : Int) < (lim : Int)) : tY h many lim l i0 o0 = (false, x.o) := by
 rw [KF hm, x.same, Iu (by omega)]
def Fe (h : List Int → Bool) (lim : Nat) : Bool := (fN h lim).isSome
def AD (h : List Int → Bool) (lim : Nat) : List Int := (fN h lim).getD []
theorem HT {k : Nat} (h0 : qI h lim k) (hk : k ≤ lim) (h1 : (tY h k lim [] 0 []).1 = true) : true = Fe h lim ∧ (tY h k lim [] 0 []).2 = AD h lim := by
 unfold Fe AD; rw [Cj h0 hk h1]; exact ⟨rfl, rfl⟩
theorem KO {k : Nat} (h0 : qI h lim k) (hk : k ≤ lim + 1) (h1 : ¬ (k : Int) < (lim : Int) + 1) : false = Fe h lim ∧ [] = AD h lim := by
 unfold Fe AD; rw [C2 h0 (by omega)]; exact ⟨rfl, rfl⟩
theorem Dj (h : ((l.length : Nat) : Int) = (many : Nat)) : l.length = many := by omega
theorem Hw (h : ¬ ((l.length : Nat) : Int) = (many : Nat)) : ¬ l.length = many := by omega
end
theorem pG {ρ : List (Nat × Nat)} {th : Ty} {h1 : th.deps = []} {h2 : th.cdeps = []} {many lim a b : Nat} (e0 : (a, 1000) ∈ ρ) (e1 : (b, 1001) ∈ ρ) : lU ρ [Ty.jX 171 [Ty.pp [Ty.int .i64 (many : Nat)], Ty.ptr a 0, Ty.pp [Ty.nd th h1 h2], Ty.pp [Ty.int .i64 (lim : Nat)], Ty.ptr b 0]] [Ty.jX 171 [Ty.pp [Ty.int .i64 (many : Nat)], Ty.ptr 1000 0, Ty.pp [Ty.nd th h1 h2], Ty.pp [Ty.int .i64 (lim : Nat)], Ty.ptr 1001 0]] :=
 aH bL (s9 (aH (aH (aH (aH (aH bL (dZ e1)) (aM rfl rfl)) (aM rfl rfl)) (dZ e0)) (aM rfl rfl)))
abbrev uo (th : Ty) (h1 : th.deps = []) (h2 : th.cdeps = []) (many lim : Nat) (o : List Int) : List (Nat × Cont) := [(1000, Cont.cells 28 [Ty.sl cT o]), (1001, Cont.cells 122 [Ty.jX 171 [Ty.pp [Ty.int .i64 (many : Nat)], Ty.ptr 1000 0, Ty.pp [Ty.nd th h1 h2], Ty.pp [Ty.int .i64 (lim : Nat)], Ty.ptr 1001 0]])]
theorem zQ {A : As} {th : Ty} {h1 : th.deps = []} {h2 : th.cdeps = []} {many lim : Nat} {o o' : List Int} (e0 : A.tag 1000 = some (Cont.cells 28 [Ty.sl cT o])) (e1 : A.tag 1001 = some (Cont.cells 122 [Ty.jX 171 [Ty.pp [Ty.int .i64 (many : Nat)], Ty.ptr 1000 0, Ty.pp [Ty.nd th h1 h2], Ty.pp [Ty.int .i64 (lim : Nat)], Ty.ptr 1001 0]])) (e : o = o') : oJ A [1000, 1001] (uo th h1 h2 many lim o') := by
 subst e; exact dx e0 (ir (by decide) (aH bL (aM rfl rfl))) (dx e1 (ir (by decide) (pG (by decide) (by decide))) ej)
attribute [local irreducible] iY fX nD qR jG jJ jI jK jF qu jD qw eJ gm qF gx ql nth fU dn af dy bodyPost Exit.then Exit.inBlock Code.wp Code.wpIn qh jH qi qX jC eT cZ cq bodyPostM eR
attribute [local irreducible] tY mN
set_option maxRecDepth 100000 in
theorem AU (l : List Int) (h : l.length ≤ 1000) : eT Tryz.prog 172 [] [] [Ty.sl cT l] [] (Ty.row cT 3 6 l) := by
 refine dc Tryz.func172 rfl (by decide) Tryz.ntmps172 (by exact Nat.le_of_ble_eq_true rfl) fun w0 M0 => ?_
 refine aE (aA (mP rfl (aD (aC (aE (aE (aA (gB rfl (DV J5 rfl ?_)))))))))
 refine aD (aC ?_)
 refine yO rfl (fun hc1 => ?_) (fun hc1 => ?_)
 ·
  refine aE (aA (mP rfl (aD (aC (ay (aV ?_))))))
  refine fZ [6] rfl rfl (by decide) (by repeat (exact ej)) ?_
  all_goals skip
  all_goals (obtain rfl : l = [] := hc1; exact fK yQ)
 refine ak (aC (aE (aA ?_)))
 refine vc (E := cT) rfl rfl rfl rfl ?_
 refine gB rfl ?_
 refine fP rfl rfl (by decide) rfl rfl rfl rfl rfl rfl (by decide) (by (simp <;> omega)) (by (simp <;> omega)) ?_
 refine Fb rfl (aD (aC (ay ?_)))
 refine fZ [6] rfl rfl (by decide) (by repeat (exact ej)) ?_
 all_goals skip
 all_goals exact fK (qU (by decide))
set_option maxRecDepth 100000 in
theorem KX (th : Ty) (h1 : th.deps = []) (h2 : th.cdeps = []) (h : List Int → Bool) (hf : ∀ l, nW Tryz.prog (Ty.nd th h1 h2) [Ty.sl cT l] (Ty.bool (h l))) (many lim : Nat) (hmn : many ≤ 1000) (hlm : lim ≤ 1000) (d : Nat) (l : List Int) (i : Nat) (o : List Int) (hi : i ≤ lim) (hll : l.length ≤ many) (hd : lim - i < d) : eT Tryz.prog 171 [1000, 1001] (uo th h1 h2 many lim o) [Ty.row cT 3 1002 l, Ty.int .i64 (i : Nat), Ty.pp [Ty.int .i64 (many : Nat)], Ty.ptr 1000 0, Ty.pp [Ty.nd th h1 h2], Ty.pp [Ty.int .i64 (lim : Nat)], Ty.ptr 1001 0] (uo th h1 h2 many lim (tY h many lim l i o).2) (Ty.bool (tY h many lim l i o).1) := by
 induction d generalizing l i o
 case zero => exact absurd hd (by omega)
 rename_i d ih
 refine dc Tryz.func171 rfl (by decide) Tryz.ntmps171 (by exact Nat.le_of_ble_eq_true rfl) fun w0 M0 => ?_
 refine aE ?_
 refine kF (tg := 1002) [(0, Ty.sl cT l)] (by decide) rfl ⟨zb rfl, trivial⟩ ?_
 refine aA (dX rfl (aD (aC (aE (aE (aA (gB rfl (c9 rfl rfl rfl (aL rfl rfl rfl rfl ?_)))))))))
 refine bE rfl rfl rfl (aD (aC ?_))
 refine au rfl (fun hc1 => ?_) (fun hc1 => ?_)
 ·
  refine aE (aA (gB rfl ?_))
  refine cx rfl rfl (by decide) rfl rfl (by exact (rfl : _ = Ty.sl _ _)) rfl (by exact Nat.le_of_ble_eq_true rfl) rfl rfl (by exact (rfl : _ = [_])) ?_
  refine aD (aC (aE (aA (aL rfl rfl rfl rfl (gB rfl (eX rfl (hf l) rfl (dX rfl (aD (aC ?_)))))))))
  refine ay (aV ?_)
  refine fZ [1000, 1001] rfl rfl (by decide) ?_ ?_
  ·exact zQ rfl rfl (congrArg Prod.snd (go_eq (Dj hc1))).symm
  all_goals skip
  all_goals exact fK (n4 rfl rfl (congrArg Ty.bool (congrArg Prod.fst (go_eq (Dj hc1))).symm))
 refine ak (aC (aE (aE ?_)))
 have hlm2 := Hw hc1
 refine aA (bQ rfl (cF rfl (aD (aC (aq ?_)))))
 refine cj (fun (x : w8 h many lim l i o) => live [(0, Ty.sl cT l), (2, Ty.pp [Ty.int .i64 (many : Nat)]), (3, Ty.ptr 1000 0), (4, Ty.pp [Ty.nd th h1 h2]), (5, Ty.pp [Ty.int .i64 (lim : Nat)]), (6, Ty.ptr 1001 0), (10, Ty.int .i64 (x.i : Nat))] [(1000, Cont.cells 28 [Ty.sl cT x.o]), (1001, Cont.cells 122 [Ty.jX 171 [Ty.pp [Ty.int .i64 (many : Nat)], Ty.ptr 1000 0, Ty.pp [Ty.nd th h1 h2], Ty.pp [Ty.int .i64 (lim : Nat)], Ty.ptr 1001 0]])]) (fun x => lim - x.i) (⟨i, o, Nat.le_refl _, hi, rfl⟩) ?_ fun x => ?_
 ·(refine dK.mk' ?_ ?_ <;> (repeat' (first | exact aJ | exact aI | refine aB ?_ (Ty.aW _) | refine aB ?_ (Ty.aF _) | refine aG rfl (Cont.aF _) ?_)))
 have hxl := x.le
 refine aE (aE (aA (bQ rfl (aL rfl rfl rfl rfl (bE rfl rfl rfl (aD (aC ?_)))))))
 refine au rfl (fun hc2 => ?_) (fun hc2 => ?_)
 ·
  refine ak (aC (aE (aq (aE (cW mixed rfl ?_)))))
  refine aX rfl rfl (by decide) rfl rfl rfl ?_
  refine gB rfl ?_
  refine bt (res' := Ty.row cT 3 27 l) [(27, 6)] [27] [] (AU l (by omega)) rfl rfl (by repeat (first | exact bL | refine aH ?_ ?_ | exact aM rfl rfl)) pre_nil post_nil (qU (by exact List.mem_cons_self)) ?_
  refine bQ rfl ?_
  refine bp (E := cT) (xs := [(x.i : Int)]) rfl rfl rfl rfl rfl (by decide) (by decide) (by repeat (first | exact (aY.nil : aY _ _ [] _) | (show aY _ _ ((_, _) :: _) _; apply aY.one; (· exact (rfl : _ = Ty.int _ _)); (· exact rfl)))) (by exact rfl) rfl ?_
  refine fP rfl rfl (by decide) rfl rfl rfl rfl rfl rfl (by decide) (by (simp <;> omega)) (by (simp <;> omega)) ?_
  refine bQ rfl ?_
  refine b9 rfl rfl (by omega) (by omega) ?_
  refine BQ [(1000, 1000), (1001, 1001), (27, 1002)] [27] (uo th h1 h2 many lim (tY h many lim (l ++ [(x.i : Int)]) (x.i + 1) x.o).2) rfl (ih (l ++ [(x.i : Int)]) (x.i + 1) x.o (by omega) (by rw [List.length_append]; show l.length + 1 ≤ many; omega) (by have := x.ge; omega)) rfl rfl (aH (aH (aH (aH (aH (aH (aH bL (dZ (by decide))) (aM rfl rfl)) (aM rfl rfl)) (dZ (by decide))) (aM rfl rfl)) (aM rfl rfl)) (qU (by decide))) (b8 (a := 1000) (b := 1000) (by decide) rfl (ir (by decide) (aH bL (aM rfl rfl))) (b8 (a := 1001) (b := 1001) (by decide) rfl (ir (by decide) (pG (by decide) (by decide))) pre_nil)) (bJ (a := 1000) (b := 1000) (by decide) rfl (ir (by decide) (aH bL (aM rfl rfl))) (bJ (a := 1001) (b := 1001) (by decide) rfl (ir (by decide) (pG (by decide) (by decide))) post_nil)) (aM rfl rfl) ?_
  refine aD ?_
  refine ⟨by kernel_rfl, ?_⟩
  refine aC ?_
  refine cv rfl (fun hc3 => ?_) (fun hc3 => ?_)
  ·
   refine aE (aA (dX rfl (aD (aC (ay (bG (aV (aV (bG ?_)))))))))
   refine aV ?_
   refine fZ [1000, 1001] rfl rfl (by decide) ?_ ?_
   ·exact zQ rfl rfl (congrArg Prod.snd (x.found hlm2 hc2 hc3)).symm
   all_goals skip
   all_goals exact fK (n4 rfl rfl (congrArg Ty.bool (hc3.symm.trans (congrArg Prod.fst (x.found hlm2 hc2 hc3)).symm)))
  refine ak (bV (aC (aA (bQ rfl ?_))))
  refine b9 rfl rfl (by omega) (by omega) ?_
  refine cF rfl (aD ?_)
  refine bZ (x.next hc2 hc3) ?_ (by show lim - (x.i + 1) < lim - x.i; omega)
  (refine dK.mk' ?_ ?_ <;> (repeat' (first | exact aJ | exact aI | refine aB ?_ (Ty.aW _) | refine aB ?_ (Ty.aF _) | refine aG rfl (Cont.aF _) ?_)))
  all_goals skip
 refine cg (aR (aR (bA rfl (aC (aE (aA (dX rfl (aD (aC ?_)))))))))
 refine ay ?_
 refine fZ [1000, 1001] rfl rfl (by decide) ?_ ?_
 ·exact zQ rfl rfl (congrArg Prod.snd (x.stop hlm2 hc2)).symm
 all_goals skip
 all_goals exact fK (n4 rfl rfl (congrArg Ty.bool (congrArg Prod.fst (x.stop hlm2 hc2)).symm))
set_option maxRecDepth 100000 in
theorem vY (th : Ty) (h1 : th.deps = []) (h2 : th.cdeps = []) (ho : th.one = true) (h : List Int → Bool) (hf : ∀ l, nW Tryz.prog (Ty.nd th h1 h2) [Ty.sl cT l] (Ty.bool (h l))) (lim : Nat) (hlm : lim ≤ 999) : dy Tryz.prog 113 [Ty.int .i64 (lim : Nat), Ty.nd th h1 h2] (Ty.jq [Ty.sl cT (AD h lim), Ty.bool (Fe h lim)]) := by
 refine av Tryz.func113 rfl (by decide) Tryz.ntmps113 (by exact Nat.le_of_ble_eq_true rfl) fun w0 M0 => ?_
 refine aE (aA ?_)
 refine gF (by exact (rfl : _ = Ty.int _ _)) rfl ?_
 refine gF (ty := Ty.nd th h1 h2) rfl ho ?_
 refine mP rfl (dX rfl (aD (aC (aE (aE (aA (aL rfl rfl rfl rfl ?_)))))))
 refine b9 rfl rfl (by omega) (by omega) ?_
 refine bQ rfl (aD (aC (aq ?_)))
 refine cj (fun (k : {k : Nat // k ≤ lim + 1 ∧ qI h lim k}) => live [(2, Ty.pp [Ty.int .i64 (lim : Nat)]), (3, Ty.pp [Ty.nd th h1 h2]), (10, Ty.int .i64 ((lim : Int) + 1)), (11, Ty.int .i64 (k.1 : Nat))] []) (fun k => lim + 1 - k.1) (⟨0, by omega, En⟩) ?_ fun k => ?_
 ·(refine dK.mk' ?_ ?_ <;> (repeat' (first | exact aJ | exact aI | refine aB ?_ (Ty.aW _) | refine aB ?_ (Ty.aF _))))
 have hk := k.2.1
 refine aE (aA (bE rfl rfl rfl (aD (aC (aE ?_)))))
 refine au rfl (fun hc1 => ?_) (fun hc1 => ?_)
 ·
  refine ak (aC (aE (aq (aE (aA (bQ rfl ?_))))))
  refine cH rfl (by exact List.cons_ne_nil _ _) rfl ?_
  refine cx rfl rfl (by decide) rfl rfl (by exact (rfl : _ = Ty.int _ _)) rfl (by exact Nat.le_of_ble_eq_true rfl) rfl rfl (by exact (rfl : _ = [_])) ?_
  refine aD (aC (aE ?_))
  refine kF (tg := 7) [(6, Ty.pp [Ty.int .i64 (k.1 : Nat)])] (by decide) rfl ⟨k6 (T := 3) (off := 0) (l := [Ty.int .i64 (k.1 : Nat)]) rfl rfl rfl (by decide), trivial⟩ ?_
  refine aA ?_
  refine cH rfl (by exact List.cons_ne_nil _ _) rfl ?_
  refine aD (aC (aE (aA ?_)))
  refine cH rfl (by exact List.cons_ne_nil _ _) rfl ?_
  refine aD (aC (aE (aA (dL rfl ?_))))
  refine cx rfl rfl (by decide) rfl rfl (by exact (rfl : _ = Ty.jX _ _)) rfl (by exact Nat.le_of_ble_eq_true rfl) rfl rfl (by exact (rfl : _ = [_])) ?_
  refine aD (aC (aE ?_))
  refine gM (tg := 8) rfl (Cont.eC (l' := [Ty.sl cT ([] : List Int)]) ⟨Ty.u9, trivial⟩) ?_
  refine aA ?_
  refine aX rfl rfl (by decide) rfl rfl rfl ?_
  refine BQ [(8, 1000), (9, 1001)] [] [(8, Cont.cells 28 [Ty.sl cT (tY h k.1 lim [] 0 []).2]), (9, Cont.cells 122 [Ty.jX 171 [Ty.pp [Ty.int .i64 (k.1 : Nat)], Ty.ptr 8 0, Ty.pp [Ty.nd th h1 h2], Ty.pp [Ty.int .i64 (lim : Nat)], Ty.ptr 9 0]])] rfl (KX th h1 h2 h hf k.1 lim (by omega) (by omega) (lim + 1) [] 0 [] (by omega) (Nat.zero_le _) (by omega)) rfl rfl (aH (aH (aH (aH (aH (aH (aH bL (dZ (by decide))) (aM rfl rfl)) (aM rfl rfl)) (dZ (by decide))) (aM rfl rfl)) (aM rfl rfl)) yQ) (b8 (a := 8) (b := 1000) (by decide) rfl (ir (by decide) (aH bL (aM rfl rfl))) (b8 (a := 9) (b := 1001) (by decide) rfl (ir (by decide) (pG (by decide) (by decide))) pre_nil)) (bJ (a := 8) (b := 1000) (by decide) rfl (ir (by decide) (aH bL (aM rfl rfl))) (bJ (a := 9) (b := 1001) (by decide) rfl (ir (by decide) (aH bL (s9 (aH (aH (aH (aH (aH bL (dZ (by decide))) (aM rfl rfl)) (aM rfl rfl)) (dZ (by decide))) (aM rfl rfl))))) post_nil)) (aM rfl rfl) ?_
  refine aD (aC ?_)
  refine cv rfl (fun hc2 => ?_) (fun hc2 => ?_)
  ·
   refine aE (aA ?_)
   refine aX rfl rfl (by decide) rfl rfl rfl ?_
   refine DE rfl (dX rfl (aD (aC (ay (bG (aV (aV (bG (aV ?_)))))))))
   refine fM rfl rfl rfl ?_ ?_
   all_goals skip
   all_goals first | exact az rfl rfl (congrArg Ty.bool (HT k.2.2 (by omega) hc2).1) | exact az rfl rfl (congrArg (Ty.sl cT) (HT k.2.2 (by omega) hc2).2)
  refine ak (bV (aC (aA ?_)))
  refine b9 rfl rfl (by omega) (by omega) ?_
  refine bQ rfl (aD ?_)
  refine bZ (⟨k.1 + 1, by omega, FL k.2.2 hc2⟩) ?_ (by show lim + 1 - (k.1 + 1) < lim + 1 - k.1; omega)
  (refine dK.mk' ?_ ?_ <;> (repeat' (first | exact aJ | exact aI | refine aB ?_ (Ty.aW _) | refine aB ?_ (Ty.aF _))))
  all_goals skip
 refine cg (aR (aR (bA rfl (aC (aE (aA (mP rfl (dX rfl (aD ?_)))))))))
 refine aC (ay ?_)
 refine fM rfl rfl rfl ?_ ?_
 all_goals skip
 all_goals first | exact az rfl rfl (congrArg Ty.bool (KO k.2.2 k.2.1 hc1).1) | exact gK (KO k.2.2 k.2.1 hc1).2.symm
end Go.Proofs.YtelbollidfdcjaaGreat
namespace Go.Proofs.YtelbollidfdcjaaGreat
open Go Go.T
set_option maxHeartbeats 16000000
theorem Cz {P : Program} {t : Ty} {h1 : t.deps = []} {h2 : t.cdeps = []} {args : List Ty} {res : Ty} (h : nW P t args res) : nW P (Ty.nd t h1 h2) args res := h
noncomputable def eU (y : bD) : Int := if bX y = 0 then (if Fe (fun l => !dI y (bf l false)) y.levels.length = true then 0 else 6) else bX y
noncomputable def cr (y : bD) : List Int := if eU y = 0 then AD (fun l => !dI y (bf l false)) y.levels.length else []
theorem Di {y : bD} (h : ¬ bX y = 0) : bX y = eU y ∧ [] = cr y := by
 have e : bX y = eU y := (if_neg h).symm
 exact ⟨e, by unfold cr; rw [← e, if_neg h]⟩
theorem uj {y : bD} (h : bX y = 0) (h2 : (!Fe (fun l => !dI y (bf l false)) y.levels.length) = true) : 6 = eU y ∧ [] = cr y := by
 have e : 6 = eU y := by unfold eU; rw [if_pos h, if_neg (by rw [n5 h2]; decide)]
 exact ⟨e, by unfold cr; rw [← e, if_neg (by decide)]⟩
theorem uZ {y : bD} (h : bX y = 0) (h2 : (!Fe (fun l => !dI y (bf l false)) y.levels.length) = false) : 0 = eU y ∧ AD (fun l => !dI y (bf l false)) y.levels.length = cr y := by
 have e : 0 = eU y := by unfold eU; rw [if_pos h, if_pos (fV h2)]
 exact ⟨e, by unfold cr; rw [← e, if_pos rfl]⟩
noncomputable def jk (y : bD) : Int := if bX y = 0 then (if Fe (fun l => dI y (bf l true)) y.levels.length = true then 0 else 7) else bX y
noncomputable def bw (y : bD) : List Int := if jk y = 0 then AD (fun l => dI y (bf l true)) y.levels.length else []
theorem Dt {y : bD} (h : ¬ bX y = 0) : bX y = jk y ∧ [] = bw y := by
 have e : bX y = jk y := (if_neg h).symm
 exact ⟨e, by unfold bw; rw [← e, if_neg h]⟩
theorem DW {y : bD} (h : bX y = 0) (h2 : (!Fe (fun l => dI y (bf l true)) y.levels.length) = true) : 7 = jk y ∧ [] = bw y := by
 have e : 7 = jk y := by unfold jk; rw [if_pos h, if_neg (by rw [n5 h2]; decide)]
 exact ⟨e, by unfold bw; rw [← e, if_neg (by decide)]⟩
theorem ue {y : bD} (h : bX y = 0) (h2 : (!Fe (fun l => dI y (bf l true)) y.levels.length) = false) : 0 = jk y ∧ AD (fun l => dI y (bf l true)) y.levels.length = bw y := by
 have e : 0 = jk y := by unfold jk; rw [if_pos h, if_pos (fV h2)]
 exact ⟨e, by unfold bw; rw [← e, if_pos rfl]⟩
attribute [local irreducible] aO gk Way.gu Way.fin Way.room ef eI fA gU over bO cR dh eY jW fE gy kO cY gP gA gC dB cL gQ oZ iX iq jB gj BO yZ iH bD.kept bD.cells bX eP bg gL kP cV oS p6 kI ji kZ mY hasB tA rE qW s6 o9 kW oB kU wv ga je GM E0 q7 dI bf iA Fj wz CB tY mN Fe AD fN
attribute [local irreducible] iY fX nD qR jG jJ jI jK jF qu jD qw eJ gm qF gx ql nth fU dn af dy bodyPost Exit.then Exit.inBlock Code.wp Code.wpIn qh jH qi qX jC eT cZ cq bodyPostM eR
set_option maxRecDepth 100000 in
theorem GI (y : bD) (hr : y.cm) (l : List Int) : dy Tryz.prog 114 [Ty.sl cT l, Ty.pp (bl y)] (Ty.bool ((fun l => !dI y (bf l false)) l)) := by
 refine av Tryz.func114 rfl (by decide) Tryz.ntmps114 (by exact Nat.le_of_ble_eq_true rfl) fun w0 M0 => ?_
 refine aE (aA (dX rfl (aD (aC (aE (aA ?_))))))
 refine aZ rfl rfl rfl (by exact Nat.le_of_ble_eq_true rfl) ?_
 refine gB rfl (aj (wS y hr l false) rfl rfl rfl rfl rfl (dm rfl (dX rfl (aD (aC (ay (bh rfl rfl ?_)))))))
 all_goals exact cM rfl rfl
 all_goals trace_state
set_option maxRecDepth 100000 in
theorem zW (y : bD) (hs : y.Small) : dy Tryz.prog 44 [ff y] (Ty.jq [Ty.sl cT (cr y), Ty.int .i64 (eU y)]) := by
 refine av Tryz.func44 rfl (by decide) Tryz.ntmps44 (by exact Nat.le_of_ble_eq_true rfl) fun w0 M0 => ?_
 refine aE (aA (bR rfl (mP rfl (cF rfl (aD (aC (aE (aE (aA ?_)))))))))
 refine aZ rfl rfl rfl (by exact Nat.le_of_ble_eq_true rfl) ?_
 refine aj (kB y hs) rfl rfl rfl rfl rfl (cF rfl (aD (aC (aE (aA (bQ rfl (bE rfl rfl rfl (aD (aC ?_)))))))))
 refine dJ rfl (fun hc1 => ?_) (fun hc1 => ?_)
 ·
  refine aE (aA (bQ rfl (mP rfl (cF rfl (aD (aC (ay (aV ?_))))))))
  refine fM rfl rfl rfl ?_ ?_
  all_goals skip
  all_goals first | exact gK (Di hc1).2.symm | exact az rfl rfl (congrArg (Ty.int .i64) (Di hc1).1)
 refine ak (aC (aE ?_))
 have hck : bX y = 0 := hc1
 have hr := dV hck
 have h8 := hr.levels
 refine aA ?_
 refine aQ rfl rfl rfl rfl rfl (by decide) ?_
 refine aL rfl rfl rfl rfl (c9 rfl rfl rfl (dL rfl ?_))
 refine aj (vY (Ty.jX 114 [Ty.pp (bl y)]) rfl rfl rfl (fun l => !dI y (bf l false)) (fun l => Cz (dU (GI y hr l) rfl rfl rfl rfl rfl rfl)) y.levels.length (by omega)) rfl rfl rfl rfl rfl ?_
 refine p8 rfl (bM rfl rfl (bM rfl rfl (DE rfl (dX rfl (aD (aC (aE (aE (aA ?_)))))))))
 refine gR rfl (dm rfl (aD (aC ?_)))
 refine cv rfl (fun hc2 => ?_) (fun hc2 => ?_)
 ·
  refine aE (aA (mP rfl (cF rfl (aD (aC (ay (aV ?_)))))))
  refine fM rfl rfl rfl ?_ ?_
  all_goals skip
  all_goals first | exact gK (uj hck hc2).2.symm | exact az rfl rfl (congrArg (Ty.int .i64) (uj hck hc2).1)
 refine ak (aC (aE (aA (gB rfl (DE rfl (cF rfl (aD (aC (ay ?_)))))))))
 refine fM rfl rfl rfl ?_ ?_
 all_goals skip
 all_goals first | exact az rfl rfl (congrArg (Ty.sl cT) (uZ hck hc2).2) | exact az rfl rfl (congrArg (Ty.int .i64) (uZ hck hc2).1)
set_option maxRecDepth 100000 in
theorem IW (y : bD) (hr : y.cm) (l : List Int) : dy Tryz.prog 115 [Ty.sl cT l, Ty.pp (bl y)] (Ty.bool ((fun l => dI y (bf l true)) l)) := by
 refine av Tryz.func115 rfl (by decide) Tryz.ntmps115 (by exact Nat.le_of_ble_eq_true rfl) fun w0 M0 => ?_
 refine aE (aA (dX rfl (aD (aC (aE (aA ?_))))))
 refine aZ rfl rfl rfl (by exact Nat.le_of_ble_eq_true rfl) ?_
 refine gB rfl (aj (wS y hr l true) rfl rfl rfl rfl rfl (dX rfl (aD (aC (ay (bh rfl rfl ?_))))))
 all_goals exact cM rfl rfl
 all_goals trace_state
set_option maxRecDepth 100000 in
theorem Dn (y : bD) (hs : y.Small) : dy Tryz.prog 45 [ff y] (Ty.jq [Ty.sl cT (bw y), Ty.int .i64 (jk y)]) := by
 refine av Tryz.func45 rfl (by decide) Tryz.ntmps45 (by exact Nat.le_of_ble_eq_true rfl) fun w0 M0 => ?_
 refine aE (aA (bR rfl (mP rfl (cF rfl (aD (aC (aE (aE (aA ?_)))))))))
 refine aZ rfl rfl rfl (by exact Nat.le_of_ble_eq_true rfl) ?_
 refine aj (kB y hs) rfl rfl rfl rfl rfl (cF rfl (aD (aC (aE (aA (bQ rfl (bE rfl rfl rfl (aD (aC ?_)))))))))
 refine dJ rfl (fun hc1 => ?_) (fun hc1 => ?_)
 ·
  refine aE (aA (bQ rfl (mP rfl (cF rfl (aD (aC (ay (aV ?_))))))))
  refine fM rfl rfl rfl ?_ ?_
  all_goals skip
  all_goals first | exact gK (Dt hc1).2.symm | exact az rfl rfl (congrArg (Ty.int .i64) (Dt hc1).1)
 refine ak (aC (aE ?_))
 have hck : bX y = 0 := hc1
 have hr := dV hck
 have h8 := hr.levels
 refine aA ?_
 refine aQ rfl rfl rfl rfl rfl (by decide) ?_
 refine aL rfl rfl rfl rfl (c9 rfl rfl rfl (dL rfl ?_))
 refine aj (vY (Ty.jX 115 [Ty.pp (bl y)]) rfl rfl rfl (fun l => dI y (bf l true)) (fun l => Cz (dU (IW y hr l) rfl rfl rfl rfl rfl rfl)) y.levels.length (by omega)) rfl rfl rfl rfl rfl ?_
 refine p8 rfl (bM rfl rfl (bM rfl rfl (DE rfl (dX rfl (aD (aC (aE (aE (aA ?_)))))))))
 refine gR rfl (dm rfl (aD (aC ?_)))
 refine cv rfl (fun hc2 => ?_) (fun hc2 => ?_)
 ·
  refine aE (aA (mP rfl (cF rfl (aD (aC (ay (aV ?_)))))))
  refine fM rfl rfl rfl ?_ ?_
  all_goals skip
  all_goals first | exact gK (DW hck hc2).2.symm | exact az rfl rfl (congrArg (Ty.int .i64) (DW hck hc2).1)
 refine ak (aC (aE (aA (gB rfl (DE rfl (cF rfl (aD (aC (ay ?_)))))))))
 refine fM rfl rfl rfl ?_ ?_
 all_goals skip
 all_goals first | exact az rfl rfl (congrArg (Ty.sl cT) (ue hck hc2).2) | exact az rfl rfl (congrArg (Ty.int .i64) (ue hck hc2).1)
end Go.Proofs.YtelbollidfdcjaaGreat
namespace Go.Proofs.YtelbollidfdcjaaGreat
open Go Go.T
def two (k : Nat) : bD := ⟨2, [⟨100, ⟨20, 30⟩⟩, ⟨50, ⟨0, 0⟩⟩], [⟨0, -1, 0, ⟨40, 60⟩⟩, ⟨1, 0, 1, ⟨10, 40⟩⟩, ⟨1, 1, -1, ⟨5, 10⟩⟩], ([⟨2, 1, ⟨20, 25⟩⟩, ⟨2, 0, ⟨10, 24⟩⟩] : List Level).take k⟩
def w7 (p q u v w : Int) : ep := ⟨[p, q], [u, v, w]⟩
section
variable {k : Nat} {c : Nat → Bool} {a : ep} {p q u v w : Int}
theorem nL (h : k ≤ 2) : bX (two k) = 0 := by
 have : k = 0 ∨ k = 1 ∨ k = 2 := by omega
 rcases this with rfl | rfl | rfl <;> decide
theorem yL (h : k ≤ 2) : (two k).cm := dV (nL h)
theorem Cy (h : zx (two k) a) : ∃ p q u v w, a = w7 p q u v w := by
  obtain ⟨f, m⟩ := a
  have h1 : f.length = 2 := h.first
  have h2 : m.length = 3 := h.cD
  match f, m, h1, h2 with
  | [p, q], [u, v, w], _, _ => exact ⟨p, q, u, v, w, rfl⟩
theorem mM : dg (two k) (w7 p q u v w) 0 0 = p := by simp [dg, dH, uP, ind, nth, two, w7]
theorem mV : dg (two k) (w7 p q u v w) 0 1 = p + u := by simp [dg, dH, uP, ind, nth, two, w7]
theorem kV : dg (two k) (w7 p q u v w) 0 2 = p + u - v := by simp [dg, dH, uP, ind, nth, two, w7]; omega
theorem zE : dg (two k) (w7 p q u v w) 1 0 = q := by simp [dg, dH, uP, ind, nth, two, w7]
theorem zm : dg (two k) (w7 p q u v w) 1 1 = q := by simp [dg, dH, uP, ind, nth, two, w7]
theorem tB : dg (two k) (w7 p q u v w) 1 2 = q + v - w := by simp [dg, dH, uP, ind, nth, two, w7]; omega
structure JG (k : Nat) (c : Nat → Bool) (p q u v w : Int) : Prop where
  hp : 20 ≤ p ∧ p ≤ 30
  hq : q = 0
  hu : 40 ≤ u ∧ u ≤ 60
  hv : 10 ≤ v ∧ v ≤ 40
  hw : 5 ≤ w ∧ w ≤ 10
  l0 : 0 < k → c 0 = true → 20 ≤ v - w ∧ v - w ≤ 25
  l1 : 1 < k → c 1 = true → 10 ≤ p + u - v ∧ p + u - v ≤ 24
theorem kJ (hk : k ≤ 2) : fL (two k) c (w7 p q u v w) ↔ JG k c p q u v w := by
 constructor
 ·intro h
  have f0 := h.first 0 (Nat.zero_lt_succ _)
  have f1 := h.first 1 (show 1 < 2 by decide)
  have m0 := h.cD 0 (Nat.zero_lt_succ _)
  have m1 := h.cD 1 (show 1 < 3 by decide)
  have m2 := h.cD 2 (show 2 < 3 by decide)
  have hq : (0 : Int) ≤ q ∧ q ≤ 0 := f1
  refine ⟨f0, by omega, m0, m1, m2, fun h0 hc => ?_, fun h1 hc => ?_⟩
  ·have e : nth (two k).levels 0 = ⟨2, 1, ⟨20, 25⟩⟩ := by
    obtain ⟨j, rfl⟩ : ∃ j, k = j + 1 := ⟨k - 1, by omega⟩
    rfl
   have hl : 0 < (two k).levels.length := by
    obtain ⟨j, rfl⟩ : ∃ j, k = j + 1 := ⟨k - 1, by omega⟩
    show 0 < (List.take (j + 1) _).length
    rw [List.take_succ_cons, List.length_cons]; omega
   have := h.level 0 hl hc
   rw [e] at this
   have := this
   change 20 ≤ dg _ _ 1 2 ∧ dg _ _ 1 2 ≤ 25 at this
   rw [tB] at this
   omega
  obtain rfl : k = 2 := by omega
  have := h.level 1 (by decide) hc
  change 10 ≤ dg _ _ 0 2 ∧ dg _ _ 0 2 ≤ 24 at this
  rw [kV] at this
  exact this
 intro ⟨hp, hq, hu, hv, hw, h0, h1⟩
 have hlen : (two k).levels.length = k := by
  show (List.take k _).length = k
  rw [List.length_take]; show min k 2 = k; omega
 refine ⟨⟨rfl, rfl⟩, fun b hb => ?_, fun b t hb ht => ?_, fun i hi => ?_, fun i hi hc => ?_⟩
 ·have hb : b < 2 := hb
  have : b = 0 ∨ b = 1 := by omega
  rcases this with rfl | rfl
  ·exact hp
  show 0 ≤ q ∧ q ≤ 0; omega
 ·have hb : b < 2 := hb
  have ht : t ≤ 2 := ht
  have e1 : b = 0 ∨ b = 1 := by omega
  have e2 : t = 0 ∨ t = 1 ∨ t = 2 := by omega
  rcases e1 with rfl | rfl <;> rcases e2 with rfl | rfl | rfl
  ·rw [mM]; show 0 ≤ p ∧ p ≤ 100; omega
  ·rw [mV]; show 0 ≤ p + u ∧ p + u ≤ 100; omega
  ·rw [kV]; show 0 ≤ p + u - v ∧ p + u - v ≤ 100; omega
  ·rw [zE]; show 0 ≤ q ∧ q ≤ 50; omega
  ·rw [zm]; show 0 ≤ q ∧ q ≤ 50; omega
  rw [tB]; show 0 ≤ q + v - w ∧ q + v - w ≤ 50; omega
 ·have hi : i < 3 := hi
  have : i = 0 ∨ i = 1 ∨ i = 2 := by omega
  rcases this with rfl | rfl | rfl
  ·exact hu
  ·exact hv
  exact hw
 rw [hlen] at hi
 have : i = 0 ∨ i = 1 := by omega
 rcases this with rfl | rfl
 ·have h := h0 hi hc
  have e : nth (two k).levels 0 = ⟨2, 1, ⟨20, 25⟩⟩ := by
   obtain ⟨j, rfl⟩ : ∃ j, k = j + 1 := ⟨k - 1, by omega⟩
   rfl
  rw [e]
  change 20 ≤ dg _ _ 1 2 ∧ dg _ _ 1 2 ≤ 25
  rw [tB]; omega
 obtain rfl : k = 2 := by omega
 have h := h1 (by omega) hc
 change 10 ≤ dg _ _ 0 2 ∧ dg _ _ 0 2 ≤ 24
 rw [kV]; exact h
theorem j9 (hk : k ≤ 2) {f : ep → Int} {s : Span} (p0 q0 u0 v0 w0 p1 q1 u1 v1 w1 : Int) (h0 : JG k c p0 q0 u0 v0 w0) (e0 : f (w7 p0 q0 u0 v0 w0) = s.lo) (h1 : JG k c p1 q1 u1 v1 w1) (e1 : f (w7 p1 q1 u1 v1 w1) = s.hi)
 (h : ∀ p q u v w, JG k c p q u v w → s.lo ≤ f (w7 p q u v w) ∧ f (w7 p q u v w) ≤ s.hi) : CA (two k) c f s :=
 ⟨⟨_, (kJ hk).2 h0, e0⟩, ⟨_, (kJ hk).2 h1, e1⟩, fun a ha => by
  obtain ⟨p, q, u, v, w, rfl⟩ := Cy ha.lens
  exact h p q u v w ((kJ hk).1 ha)⟩
end
end Go.Proofs.YtelbollidfdcjaaGreat
namespace Go.Proofs.YtelbollidfdcjaaGreat
open Go Go.T
section
variable {y : bD} {c : Nat → Bool} {a : ep} {b t k : Nat} {s : Span}
theorem lR (h0 : bX y = 0) (h : ∃ a, fL y (nth bg) a) : cV y = 0 := (open_3 h0 ((nI (dV h0)).2 h)).symm
theorem HR (h0 : bX y = 0) (h : ¬ ∃ a, fL y (nth bg) a) : cV y = 7 := by
  cases e : (cY (aO y (nth bg)) (y.cells + 1) (gk (aO y (nth bg)))).2.1 with
  | true => exact (vq h0 e).symm
  | false => exact absurd ((nI (dV h0)).1 e) h
theorem pP (h : cV y = 0) : ∃ a, fL y (nth bg) a := (nI (dV (eW h))).1 (zP h)
theorem F7 (h0 : bX y = 0) : cV y = 0 ↔ ∃ a, fL y (nth bg) a := ⟨pP, lR h0⟩
theorem sO (hr : y.cm) {l : List Bool} : dI y l = true ↔ ∃ a, fL y (nth l) a := by
 unfold dI
 rw [Bool.not_eq_true', nI hr]
theorem pO (ho : cV y = 0) (hb : b < y.bins.length) (ht : t ≤ y.D) : CA y (nth bg) (fun a => dg y a b t) (gj (aO y (nth bg)) (y.cells + 1) (hasB y b t)) :=
 wY (dV (eW ho)) (fun x hx => Ig (dV (eW ho)) hb ht hx) (pP ho)
theorem zu (ho : cV y = 0) (ht : t ≤ y.D) : CA y (nth bg) (fun a => dH (fun b => dg y a b t) y.bins.length) (gj (aO y (nth bg)) (y.cells + 1) (o9 y t)) :=
 wY (dV (eW ho)) (fun x hx => EX (dV (eW ho)) ht hx) (pP ho)
theorem It (ho : cV y = 0) (hk : k < y.moves.length) : CA y (nth bg) (fun a => nth a.cD k) (gj (aO y (nth bg)) (y.cells + 1) (tA (y.bins.length * (y.D + 1) + k))) :=
 wY (dV (eW ho)) (fun x hx => Ff hk) (pP ho)
theorem zj (h0 : bX y = 0) (hb : b < y.bins.length) : eP y (b : Int) = 0 := by
 unfold eP
 rw [if_pos h0, if_pos (by unfold bD.bin; rw [iL]; omega)]
theorem D3 (ho : cV y = 0) (hb : b < y.bins.length) : kI y (b : Int) = 0 := (zB (zj (eW ho) hb) ho).1.symm
theorem Du (ho : cV y = 0) (hb : b < y.bins.length) : ji y (b : Int) = (List.range (y.D + 1)).map fun t => gj (aO y (nth bg)) (y.cells + 1) (hasB y b t) := (zB (zj (eW ho) hb) ho).2.symm
theorem JD (ho : cV y = 0) : s6 y = (List.range (y.D + 1)).map fun t => gj (aO y (nth bg)) (y.cells + 1) (o9 y t) := (AO ho).symm
theorem JP (ho : cV y = 0) (hk : k < y.moves.length) : kZ y (k : Int) = 0 := (DH (eW ho) (by rw [Bool.not_eq_false', Bool.and_eq_true, decide_eq_true_eq, decide_eq_true_eq]; omega) ho).1.symm
theorem Fm (ho : cV y = 0) (hk : k < y.moves.length) : CA y (nth bg) (fun a => nth a.cD k) (mY y (k : Int)) := by
 rw [← (DH (eW ho) (by rw [Bool.not_eq_false', Bool.and_eq_true, decide_eq_true_eq, decide_eq_true_eq]; omega) ho).2]
 exact It ho hk
end
theorem H6 {α : Type} {a b c x y z : α} (h1 : a = x) (h2 : b = y) (h3 : c = z) : [a, b, c] = [x, y, z] := by subst h1; subst h2; subst h3; rfl
theorem kH {k : Nat} (hk : k ≤ 1) : cV (two k) = 0 :=
 lR (nL (by omega)) ⟨w7 20 0 40 25 5, (kJ (by omega)).2 ⟨by omega, rfl, by omega, by omega, by omega, fun _ _ => by omega, fun _ _ => by omega⟩⟩
theorem Mj : kI (two 0) 0 = 0 := D3 (b := 0) (kH (by omega)) (by decide)
theorem Jh : ji (two 0) 0 = [⟨20, 30⟩, ⟨60, 90⟩, ⟨20, 80⟩] := by
 have ho := kH (k := 0) (by omega)
 have e := Du (b := 0) ho (by decide)
 have h0 := (pO (b := 0) (t := 0) ho (by decide) (by decide)).one (j9 (s := ⟨20, 30⟩) (by omega) 20 0 40 10 5 30 0 40 10 5 (by constructor <;> intros <;> omega) mM (by constructor <;> intros <;> omega) mM fun p q u v w h => by rw [mM]; exact h.hp)
 have h1 := (pO (b := 0) (t := 1) ho (by decide) (by decide)).one (j9 (s := ⟨60, 90⟩) (by omega) 20 0 40 10 5 30 0 60 10 5 (by constructor <;> intros <;> omega) mV (by constructor <;> intros <;> omega) mV fun p q u v w h => by rw [mV]; have := h.hp; have := h.hu; show 60 ≤ p + u ∧ p + u ≤ 90; omega)
 have h2 := (pO (b := 0) (t := 2) ho (by decide) (by decide)).one (j9 (s := ⟨20, 80⟩) (by omega) 20 0 40 40 5 30 0 60 10 5 (by constructor <;> intros <;> omega) kV (by constructor <;> intros <;> omega) kV fun p q u v w h => by rw [kV]; have := h.hp; have := h.hu; have := h.hv; show 20 ≤ p + u - v ∧ p + u - v ≤ 80; omega)
 show ji (two 0) ((0 : Nat) : Int) = _
 rw [e]
 exact H6 h0 h1 h2
theorem De : ji (two 1) 0 = [⟨20, 30⟩, ⟨60, 90⟩, ⟨25, 65⟩] := by
 have ho := kH (k := 1) (by omega)
 have e := Du (b := 0) ho (by decide)
 have h0 := (pO (b := 0) (t := 0) ho (by decide) (by decide)).one (j9 (s := ⟨20, 30⟩) (by omega) 20 0 40 25 5 30 0 40 25 5 (by constructor <;> intros <;> omega) mM (by constructor <;> intros <;> omega) mM fun p q u v w h => by rw [mM]; exact h.hp)
 have h1 := (pO (b := 0) (t := 1) ho (by decide) (by decide)).one (j9 (s := ⟨60, 90⟩) (by omega) 20 0 40 25 5 30 0 60 25 5 (by constructor <;> intros <;> omega) mV (by constructor <;> intros <;> omega) mV fun p q u v w h => by rw [mV]; have := h.hp; have := h.hu; show 60 ≤ p + u ∧ p + u ≤ 90; omega)
 have h2 := (pO (b := 0) (t := 2) ho (by decide) (by decide)).one (j9 (s := ⟨25, 65⟩) (by omega) 20 0 40 35 10 30 0 60 25 5 (by constructor <;> intros <;> omega) kV (by constructor <;> intros <;> omega) kV fun p q u v w h => by rw [kV]; have := h.hp; have := h.hu; have := h.hw; have := h.l0 (by omega) rfl; show 25 ≤ p + u - v ∧ p + u - v ≤ 65; omega)
 show ji (two 1) ((0 : Nat) : Int) = _
 rw [e]
 exact H6 h0 h1 h2
theorem k9 {k : Nat} {a : ep} {t : Nat} : dH (fun b => dg (two k) a b t) (two k).bins.length = dg (two k) a 0 t + dg (two k) a 1 t := by
 show (0 + dg (two k) a 0 t) + dg (two k) a 1 t = _; rw [Int.zero_add]
theorem LR : s6 (two 0) = [⟨20, 30⟩, ⟨60, 90⟩, ⟨50, 85⟩] := by
 have ho := kH (k := 0) (by omega)
 have e := JD ho
 have h0 := (zu (t := 0) ho (by decide)).one (j9 (s := ⟨20, 30⟩) (by omega) 20 0 40 10 5 30 0 40 10 5 (by constructor <;> intros <;> omega) (by rw [k9, mM, zE]; rfl) (by constructor <;> intros <;> omega) (by rw [k9, mM, zE]; rfl) fun p q u v w h => by rw [k9, mM, zE]; have := h.hp; have := h.hq; show 20 ≤ p + q ∧ p + q ≤ 30; omega)
 have h1 := (zu (t := 1) ho (by decide)).one (j9 (s := ⟨60, 90⟩) (by omega) 20 0 40 10 5 30 0 60 10 5 (by constructor <;> intros <;> omega) (by rw [k9, mV, zm]; rfl) (by constructor <;> intros <;> omega) (by rw [k9, mV, zm]; rfl) fun p q u v w h => by rw [k9, mV, zm]; have := h.hp; have := h.hq; have := h.hu; show 60 ≤ p + u + q ∧ p + u + q ≤ 90; omega)
 have h2 := (zu (t := 2) ho (by decide)).one (j9 (s := ⟨50, 85⟩) (by omega) 20 0 40 10 10 30 0 60 10 5 (by constructor <;> intros <;> omega) (by rw [k9, kV, tB]; rfl) (by constructor <;> intros <;> omega) (by rw [k9, kV, tB]; rfl) fun p q u v w h => by rw [k9, kV, tB]; have := h.hp; have := h.hq; have := h.hu; have := h.hw; show 50 ≤ p + u - v + (q + v - w) ∧ p + u - v + (q + v - w) ≤ 85; omega)
 rw [e]
 exact H6 h0 h1 h2
theorem ML : kZ (two 1) 1 = 0 := JP (k := 1) (kH (by omega)) (by decide)
theorem LQ : mY (two 1) 1 = ⟨25, 35⟩ :=
 (Fm (k := 1) (kH (k := 1) (by omega)) (by decide)).one (j9 (s := ⟨25, 35⟩) (by omega) 20 0 40 25 5 20 0 40 35 10 (by constructor <;> intros <;> omega) rfl (by constructor <;> intros <;> omega) rfl fun p q u v w h => by have := h.hw; have := h.l0 (by omega) rfl; show 25 ≤ v ∧ v ≤ 35; omega)
theorem KD : 0 = kW (two 1) 0 60 (fun x => decide (x.lo ≥ 60)) ∧ fidx (fun x : Span => decide (x.lo ≥ 60)) (ji (two 1) 0) = oB (two 1) 0 60 (fun x => decide (x.lo ≥ 60)) :=
 Hy (zj (b := 0) (nL (by omega)) (by decide)) rfl (D3 (b := 0) (kH (by omega)) (by decide)) (by rw [De]; decide)
theorem Lt : oB (two 1) 0 60 (fun x => decide (x.lo ≥ 60)) = 1 := by rw [← KD.2, De]; rfl
def vu : D9 := ⟨[⟨0, 0⟩, ⟨0, 1⟩, ⟨1, 1⟩], false⟩
theorem Dx : je (two 2) (aO (two 2) (nth bg)) vu = 1 := by kernel_rfl
theorem Mr : 0 = m5 (two 2) vu ∧ je (two 2) (aO (two 2) (nth bg)) vu = tF (two 2) vu :=
 Gp (nL (by omega)) (by decide) (fun i hi => by
  have hi : i + 1 < 3 := hi
  have : i = 0 ∨ i = 1 := by omega
  rcases this with rfl | rfl <;> decide) (by rw [Dx]; decide)
theorem Kj : tF (two 2) vu = 1 := by rw [← Mr.2, Dx]
theorem Gd : ¬ ∃ a, fL (two 2) (nth bg) a := by
 rintro ⟨a, ha⟩
 obtain ⟨p, q, u, v, w, rfl⟩ := Cy ha.lens
 have h := (kJ (by omega)).1 ha
 have h0 := h.l0 (by omega) rfl
 have h1 := h.l1 (by omega) rfl
 have := h.hp; have := h.hu; have := h.hw
 omega
theorem JM : cV (two 2) = 7 := HR (nL (by omega)) Gd
theorem ud {l : List Bool} (h : nth l 0 = false ∨ nth l 1 = false) : dI (two 2) l = true := by
  rw [sO (yL (by omega))]
  cases h1 : nth l 1 with
  | false => exact ⟨w7 20 0 40 25 5, (kJ (by omega)).2 ⟨by omega, rfl, by omega, by omega, by omega, fun _ _ => by omega, fun _ hc => by rw [h1] at hc; cases hc⟩⟩
  | true =>
    have h0 : nth l 0 = false := h.resolve_right (by rw [h1]; decide)
    exact ⟨w7 20 0 40 40 5, (kJ (by omega)).2 ⟨by omega, rfl, by omega, by omega, by omega, fun _ hc => absurd hc (by rw [h0]; decide), fun _ _ => by omega⟩⟩
theorem F3 {l : List Bool} (h : nth l 0 = true ∧ nth l 1 = true) : dI (two 2) l = false := by
 rw [Bool.eq_false_iff]
 intro hc
 obtain ⟨a, ha⟩ := (sO (yL (by omega))).1 hc
 obtain ⟨p, q, u, v, w, rfl⟩ := Cy ha.lens
 have hh := (kJ (by omega)).1 ha
 have h0 := hh.l0 (by omega) h.1
 have h1 := hh.l1 (by omega) h.2
 have := hh.hp; have := hh.hu; have := hh.hw
 omega
theorem yl (h : List Int → Bool) : fN h 2 = [[], [0], [1], [0, 1]].find? h := rfl
theorem MK : fN (fun l => !dI (two 2) (bf l false)) 2 = some [0, 1] := by
 rw [yl, List.find?_cons, ud (.inl rfl)]
 show List.find? _ [[0], [1], [0, 1]] = _
 rw [List.find?_cons, ud (.inr rfl)]
 show List.find? _ [[1], [0, 1]] = _
 rw [List.find?_cons, ud (.inl rfl)]
 show List.find? _ [[0, 1]] = _
 rw [List.find?_cons, F3 ⟨rfl, rfl⟩]; rfl
theorem Mf : fN (fun l => dI (two 2) (bf l true)) 2 = some [0] := by
 rw [yl, List.find?_cons, F3 ⟨rfl, rfl⟩]
 show List.find? _ [[0], [1], [0, 1]] = _
 rw [List.find?_cons, ud (.inl rfl)]
theorem J4 : 0 = eU (two 2) ∧ AD (fun l => !dI (two 2) (bf l false)) 2 = cr (two 2) :=
 uZ (nL (by omega)) (by show (!(fN _ 2).isSome) = false; rw [MK]; rfl)
theorem Jz : 0 = jk (two 2) ∧ AD (fun l => dI (two 2) (bf l true)) 2 = bw (two 2) :=
 ue (nL (by omega)) (by show (!(fN _ 2).isSome) = false; rw [Mf]; rfl)
theorem Hj : cr (two 2) = [0, 1] := by rw [← J4.2]; unfold AD; rw [MK]; rfl
theorem Gi : bw (two 2) = [0] := by rw [← Jz.2]; unfold AD; rw [Mf]; rfl
end Go.Proofs.YtelbollidfdcjaaGreat
namespace Go.Proofs.YtelbollidfdcjaaGreat
open Go Go.T
section
variable {y : bD} {c : Nat → Bool} {a : ep} {m : List Int} {b t n : Nat} {x : Int}
theorem CA.same {f g : ep → Int} {s s' : Span} (h : CA y c f s) (h' : CA y c g s') (e : ∀ a, f a = g a) : s = s' := by
 have : f = g := funext e
 subst this; exact h.one h'
end
end Go.Proofs.YtelbollidfdcjaaGreat
namespace Go.Proofs.YtelbollidfdcjaaGreat
open Go Go.T
def NS (m : Move) : Bool := !decide (m.src = -1) && !decide (m.dst = -1)
def NV (m : Move) : Move := { m with sacks := ⟨0, m.sacks.hi⟩ }
def Ki (l : List Move) : List Move := (l.filter NS).map NV
def NH (y : bD) (a : ep) : ep := ⟨a.first, List.replicate (Ki y.moves).length 0⟩
section
variable {y : bD} {a : ep} {c : Nat → Bool}
theorem F0 (l : List Move) : (Ki l).length ≤ l.length := by
 unfold Ki; rw [List.length_map]; exact List.length_filter_le _ _
end
end Go.Proofs.YtelbollidfdcjaaGreat
namespace Go.Proofs.YtelbollidfdcjaaGreat
open Go Go.T
theorem HM (a b : Span) : (decide (a.lo = b.lo) && decide (a.hi = b.hi)) = decide (a = b) := by
 cases a; cases b; rw [Bool.eq_iff_iff]; simp
end Go.Proofs.YtelbollidfdcjaaGreat
namespace Go.Proofs.YtelbollidfdcjaaGreat
open Go Go.T
set_option maxHeartbeats 2000000
attribute [local irreducible] iY fX nD qR jG jJ jI jK jF qu jD qw eJ gm qF gx ql nth fU dn af dy bodyPost Exit.then Exit.inBlock Code.wp Code.wpIn qh jH qi qX jC eT cZ cq bodyPostM eR
set_option maxRecDepth 100000 in
theorem A5 (a b : List Int) : dy Tryz.prog 116 [Ty.sl cT a, Ty.sl cT b] (Ty.bool (decide (a = b))) := by
 refine av Tryz.func116 rfl (by decide) Tryz.ntmps116 (by exact Nat.le_of_ble_eq_true rfl) fun w0 M0 => ?_
 refine jc (s := 0) rfl rfl jd fun ha => ?_
 refine jc (s := 1) rfl rfl jd fun hb => ?_
 refine aE (aA (dX rfl (aD (aC (aE (aE (aA (gB rfl (c9 rfl rfl rfl ?_)))))))))
 refine gB rfl (c9 rfl rfl rfl (bE rfl rfl rfl (aD (aC ?_))))
 refine dJ rfl (fun hc1 => ?_) (fun hc1 => ?_)
 ·
  try (simp only [Classical.not_not] at hc1)
  refine aE (aA (dX rfl (aD (aC (ay (aV (bh rfl rfl ?_)))))))
  all_goals skip
  exact az rfl rfl (congrArg Ty.bool (by rw [eq_comm, decide_eq_false_iff_not]; intro e; subst e; exact hc1 rfl))
 try (simp only [Classical.not_not] at hc1)
 refine ak (aC (aE (aE (aA (gB rfl (c9 rfl rfl rfl (bQ rfl (aD (aC ?_)))))))))
 refine aq ?_
 refine cj (fun (k : {k : Nat // a.take k = b.take k}) => live [(0, Ty.sl cT a), (1, Ty.sl cT b), (12, Ty.int .i64 a.length), (13, Ty.int .i64 (k.1 : Nat))] []) (fun k => a.length - k.1) (⟨0, by simp⟩) ?_ fun k => ?_
 ·(refine dK.mk' ?_ ?_ <;> (repeat' (first | exact aJ | exact aI | refine aB ?_ (Ty.aW _) | refine aB ?_ (Ty.aF _))))
 have hlen : a.length = b.length := by omega
 refine aE (aA (bE rfl rfl rfl (aD (aC (aE ?_)))))
 refine au rfl (fun hc2 => ?_) (fun hc2 => ?_)
 ·
  try (simp only [Classical.not_not] at hc2)
  refine ak (aC (aE (aq (aE (aA (bQ rfl (cF rfl (aD (aC ?_)))))))))
  refine aE (cW mixed rfl (gB rfl (bQ rfl ?_)))
  refine bT rfl rfl rfl rfl rfl rfl (by omega) ?_
  refine aL rfl rfl rfl rfl (gB rfl (bQ rfl ?_))
  refine bT rfl rfl rfl rfl rfl rfl (by omega) ?_
  refine aL rfl rfl rfl rfl (bE rfl rfl rfl (aD ?_))
  refine ⟨by kernel_rfl, ?_⟩
  refine aC ?_
  refine dJ rfl (fun hc3 => ?_) (fun hc3 => ?_)
  ·
   try (simp only [Classical.not_not] at hc3)
   refine aE (aA (dX rfl (aD (aC (ay (bG (aV (aV (bG ?_)))))))))
   refine aV (bh rfl rfl ?_)
   all_goals skip
   exact az rfl rfl (congrArg Ty.bool (by rw [eq_comm, decide_eq_false_iff_not]; exact yI (k := k.1) (hc3)))
  try (simp only [Classical.not_not] at hc3)
  refine ak (bV (aC (aA ?_)))
  refine b9 rfl rfl (by omega) (by omega) ?_
  refine bQ rfl (aD ?_)
  refine bZ (⟨k.1 + 1, by rw [dw (by omega), dw (by omega), k.2, hc3]⟩) ?_ (by show a.length - (k.1 + 1) < a.length - k.1; omega)
  (refine dK.mk' ?_ ?_ <;> (repeat' (first | exact aJ | exact aI | refine aB ?_ (Ty.aW _) | refine aB ?_ (Ty.aF _))))
  all_goals skip
 try (simp only [Classical.not_not] at hc2)
 refine cg (aR (aR (bA rfl (aC (aE (aA (dX rfl (aD (aC ?_)))))))))
 refine ay (bh rfl rfl ?_)
 all_goals skip
 exact az rfl rfl (congrArg Ty.bool (by rw [eq_comm, decide_eq_true_eq]; have := k.2; rwa [List.take_of_length_le (by omega), List.take_of_length_le (by omega)] at this))
set_option maxRecDepth 100000 in
theorem Ak (a b : List Int) : dy Tryz.prog 46 [Ty.sl cT a, Ty.sl cT b] (Ty.bool (decide (a = b))) := by
 refine av Tryz.func46 rfl (by decide) Tryz.ntmps46 (by exact Nat.le_of_ble_eq_true rfl) fun w0 M0 => ?_
 refine aE (aA (dX rfl (aD (aC (aE (aA (gB rfl (gB rfl (aj (A5 _ _) rfl rfl rfl rfl rfl ?_)))))))))
 refine dX rfl (aD (aC (ay (bh rfl rfl ?_))))
 all_goals exact cM rfl rfl
set_option maxRecDepth 100000 in
theorem BJ (a b : List Span) : dy Tryz.prog 123 [Ty.sl dz a, Ty.sl dz b] (Ty.bool (decide (a = b))) := by
 refine av Tryz.func123 rfl (by decide) Tryz.ntmps123 (by exact Nat.le_of_ble_eq_true rfl) fun w0 M0 => ?_
 refine jc (s := 0) rfl rfl jd fun ha => ?_
 refine jc (s := 1) rfl rfl jd fun hb => ?_
 refine aE (aA (dX rfl (aD (aC (aE (aE (aA (gB rfl (c9 rfl rfl rfl ?_)))))))))
 refine gB rfl (c9 rfl rfl rfl (bE rfl rfl rfl (aD (aC ?_))))
 refine dJ rfl (fun hc1 => ?_) (fun hc1 => ?_)
 ·
  try (simp only [Classical.not_not] at hc1)
  refine aE (aA (dX rfl (aD (aC (ay (aV (bh rfl rfl ?_)))))))
  all_goals skip
  exact az rfl rfl (congrArg Ty.bool (by rw [eq_comm, decide_eq_false_iff_not]; intro e; subst e; exact hc1 rfl))
 try (simp only [Classical.not_not] at hc1)
 refine ak (aC (aE (aE (aA (gB rfl (c9 rfl rfl rfl (bQ rfl (aD (aC ?_)))))))))
 refine aq ?_
 refine cj (fun (k : {k : Nat // a.take k = b.take k}) => live [(0, Ty.sl dz a), (1, Ty.sl dz b), (12, Ty.int .i64 a.length), (13, Ty.int .i64 (k.1 : Nat))] []) (fun k => a.length - k.1) (⟨0, by simp⟩) ?_ fun k => ?_
 ·(refine dK.mk' ?_ ?_ <;> (repeat' (first | exact aJ | exact aI | refine aB ?_ (Ty.aW _) | refine aB ?_ (Ty.aF _))))
 have hlen : a.length = b.length := by omega
 refine aE (aA (bE rfl rfl rfl (aD (aC (aE ?_)))))
 refine au rfl (fun hc2 => ?_) (fun hc2 => ?_)
 ·
  try (simp only [Classical.not_not] at hc2)
  refine ak (aC (aE (aq (aE (aA (bQ rfl (cF rfl (aD (aC ?_)))))))))
  refine aE (cW mixed rfl (gB rfl (bQ rfl ?_)))
  refine bT rfl rfl rfl rfl rfl rfl (by omega) ?_
  refine aZ rfl rfl rfl (by exact Nat.le_of_ble_eq_true rfl) ?_
  refine gB rfl (bQ rfl ?_)
  refine bT rfl rfl rfl rfl rfl rfl (by omega) ?_
  refine aZ rfl rfl rfl (by exact Nat.le_of_ble_eq_true rfl) ?_
  refine EH (J8 _ _ _ _) rfl rfl (aD ?_)
  refine ⟨by kernel_rfl, ?_⟩
  refine aC ?_
  refine cv rfl (fun hc3 => ?_) (fun hc3 => ?_)
  ·
   try (simp only [Classical.not_not] at hc3)
   refine aE (aA (dX rfl (aD (aC (ay (bG (aV (aV (bG ?_)))))))))
   refine aV (bh rfl rfl ?_)
   all_goals skip
   exact az rfl rfl (congrArg Ty.bool (by rw [eq_comm, decide_eq_false_iff_not]; exact yI (k := k.1) (of_decide_eq_false (by rw [← HM]; exact n5 hc3))))
  try (simp only [Classical.not_not] at hc3)
  refine ak (bV (aC (aA ?_)))
  refine b9 rfl rfl (by omega) (by omega) ?_
  refine bQ rfl (aD ?_)
  refine bZ (⟨k.1 + 1, by have e : nth a k.1 = nth b k.1 := of_decide_eq_true (by rw [← HM]; exact fV hc3); rw [dw (by omega), dw (by omega), k.2, e]⟩) ?_ (by show a.length - (k.1 + 1) < a.length - k.1; omega)
  (refine dK.mk' ?_ ?_ <;> (repeat' (first | exact aJ | exact aI | refine aB ?_ (Ty.aW _) | refine aB ?_ (Ty.aF _))))
  all_goals skip
 try (simp only [Classical.not_not] at hc2)
 refine cg (aR (aR (bA rfl (aC (aE (aA (dX rfl (aD (aC ?_)))))))))
 refine ay (bh rfl rfl ?_)
 all_goals skip
 exact az rfl rfl (congrArg Ty.bool (by rw [eq_comm, decide_eq_true_eq]; have := k.2; rwa [List.take_of_length_le (by omega), List.take_of_length_le (by omega)] at this))
set_option maxRecDepth 100000 in
theorem A4 (a b : List Span) : dy Tryz.prog 50 [Ty.sl dz a, Ty.sl dz b] (Ty.bool (decide (a = b))) := by
 refine av Tryz.func50 rfl (by decide) Tryz.ntmps50 (by exact Nat.le_of_ble_eq_true rfl) fun w0 M0 => ?_
 refine aE (aA (dX rfl (aD (aC (aE (aA (gB rfl (gB rfl (aj (BJ _ _) rfl rfl rfl rfl rfl ?_)))))))))
 refine dX rfl (aD (aC (ay (bh rfl rfl ?_))))
 all_goals exact cM rfl rfl
end Go.Proofs.YtelbollidfdcjaaGreat
namespace Go.Proofs.YtelbollidfdcjaaGreat
open Go Go.T
set_option maxHeartbeats 4000000
theorem jw {α : Type} {E : El α} {T tg : Nat} {xs : List α} (h : xs = []) : (Ty.ex (.slice none 0 0)).Sub (Ty.row E T tg xs) := by subst h; exact Ty.l8
theorem jR {k : Nat} (hk : k ≤ 2) : (two k).Small := ⟨by show 2 ≤ 1000; omega, by show 3 ≤ 1000; omega, by show (List.take k _).length ≤ 1000; rw [List.length_take]; show min k 2 ≤ 1000; omega⟩
attribute [local irreducible] ji kI s6 cV mY kZ oB kW tF m5 cr eU bw jk r5 bX
attribute [local irreducible] iY fX nD qR jG jJ jI jK jF qu jD qw eJ gm qF gx ql nth fU dn af dy bodyPost Exit.then Exit.inBlock Code.wp Code.wpIn qh jH qi qX jC eT cZ cq bodyPostM eR
set_option maxRecDepth 100000 in
theorem iW (a b : Int) : dy Tryz.prog 56 [Ty.int .i64 a, Ty.int .i64 b] (Ty.agg (dz.tys ⟨a, b⟩)) := by
 refine av Tryz.func56 rfl (by decide) Tryz.ntmps56 (by exact Nat.le_of_ble_eq_true rfl) fun w0 M0 => ?_
 refine aE (aA ?_)
 refine cH rfl (by exact List.cons_ne_nil _ _) rfl ?_
 refine aD (aC (aE (aA (bQ rfl (bQ rfl ?_)))))
 refine dS rfl rfl (by exact List.cons_ne_nil _ _) rfl (by repeat (first | exact (aY.nil : aY _ _ [] _) | (show aY _ _ ((_, _) :: _) _; apply aY.one; (· exact (rfl : _ = Ty.int _ _)); (· exact rfl)))) (by exact (rfl : _ = some [_, _])) ?_
 refine cJ rfl rfl (by decide) rfl rfl rfl rfl rfl rfl ?_
 refine aD (aC (ay ?_))
 refine zg rfl rfl rfl rfl (by decide) rfl rfl rfl ?_
 all_goals exact az rfl rfl rfl
set_option maxRecDepth 100000 in
theorem tj (k : Nat) (hk : k ≤ 2) : dy Tryz.prog 93 [Ty.int .i64 ((k : Nat) : Int)] (ff (two k)) := by
 refine av Tryz.func93 rfl (by decide) Tryz.ntmps93 (by exact Nat.le_of_ble_eq_true rfl) fun w0 M0 => ?_
 refine aE (aA ?_)
 refine cH rfl (by exact List.cons_ne_nil _ _) rfl ?_
 refine aD (aC (aE (aA (aj (iW _ _) rfl rfl rfl rfl rfl ?_))))
 refine dS rfl rfl (by exact List.cons_ne_nil _ _) rfl (by repeat (first | exact (aY.nil : aY _ _ [] _) | (show aY _ _ ((_, _) :: _) _; apply aY.one; (· exact (rfl : _ = Ty.int _ _)); (· exact rfl)) | (show aY _ _ ((_, _) :: _) _; apply aY.agg; (· exact (rfl : _ = Ty.agg _))))) (by exact (rfl : _ = some [_, _, _, _])) ?_
 refine aj (iW _ _) rfl rfl rfl rfl rfl ?_
 refine dS rfl rfl (by exact List.cons_ne_nil _ _) rfl (by repeat (first | exact (aY.nil : aY _ _ [] _) | (show aY _ _ ((_, _) :: _) _; apply aY.one; (· exact (rfl : _ = Ty.int _ _)); (· exact rfl)) | (show aY _ _ ((_, _) :: _) _; apply aY.agg; (· exact (rfl : _ = Ty.agg _))))) (by exact (rfl : _ = some [_, _, _, _])) ?_
 refine bp (E := dY) (xs := [⟨2, 1, ⟨20, 25⟩⟩, ⟨2, 0, ⟨10, 24⟩⟩]) rfl rfl rfl rfl rfl (by decide) (by decide) (by repeat (first | exact (aY.nil : aY _ _ [] _) | (show aY _ _ ((_, _) :: _) _; apply aY.agg; (· exact (rfl : _ = Ty.agg _))))) (by exact rfl) rfl ?_
 refine DE rfl (aD (aC (aE (cW mixed rfl (aj (iW _ _) rfl rfl rfl rfl rfl ?_)))))
 refine dS rfl rfl (by exact List.cons_ne_nil _ _) rfl (by repeat (first | exact (aY.nil : aY _ _ [] _) | (show aY _ _ ((_, _) :: _) _; apply aY.one; (· exact (rfl : _ = Ty.int _ _)); (· exact rfl)) | (show aY _ _ ((_, _) :: _) _; apply aY.agg; (· exact (rfl : _ = Ty.agg _))))) (by exact (rfl : _ = some [_, _, _])) ?_
 refine dS rfl rfl (by exact List.cons_ne_nil _ _) rfl (by repeat (first | exact (aY.nil : aY _ _ [] _) | (show aY _ _ ((_, _) :: _) _; apply aY.one; (· exact (rfl : _ = Ty.int _ _)); (· exact rfl)))) (by exact (rfl : _ = some [_, _, _])) ?_
 refine bp (E := eH) (xs := [⟨100, ⟨20, 30⟩⟩, ⟨50, ⟨0, 0⟩⟩]) rfl rfl rfl rfl rfl (by decide) (by decide) (by repeat (first | exact (aY.nil : aY _ _ [] _) | (show aY _ _ ((_, _) :: _) _; apply aY.agg; (· exact (rfl : _ = Ty.agg _))))) (by exact rfl) rfl ?_
 refine aj (iW _ _) rfl rfl rfl rfl rfl ?_
 refine dS rfl rfl (by exact List.cons_ne_nil _ _) rfl (by repeat (first | exact (aY.nil : aY _ _ [] _) | (show aY _ _ ((_, _) :: _) _; apply aY.one; (· exact (rfl : _ = Ty.int _ _)); (· exact rfl)) | (show aY _ _ ((_, _) :: _) _; apply aY.agg; (· exact (rfl : _ = Ty.agg _))))) (by exact rfl) ?_
 refine aj (iW _ _) rfl rfl rfl rfl rfl ?_
 refine dS rfl rfl (by exact List.cons_ne_nil _ _) rfl (by repeat (first | exact (aY.nil : aY _ _ [] _) | (show aY _ _ ((_, _) :: _) _; apply aY.one; (· exact (rfl : _ = Ty.int _ _)); (· exact rfl)) | (show aY _ _ ((_, _) :: _) _; apply aY.agg; (· exact (rfl : _ = Ty.agg _))))) (by exact rfl) ?_
 refine aj (iW _ _) rfl rfl rfl rfl rfl ?_
 refine dS rfl rfl (by exact List.cons_ne_nil _ _) rfl (by repeat (first | exact (aY.nil : aY _ _ [] _) | (show aY _ _ ((_, _) :: _) _; apply aY.one; (· exact (rfl : _ = Ty.int _ _)); (· exact rfl)) | (show aY _ _ ((_, _) :: _) _; apply aY.agg; (· exact (rfl : _ = Ty.agg _))))) (by exact rfl) ?_
 refine bp (E := dQ) (xs := [⟨0, -1, 0, ⟨40, 60⟩⟩, ⟨1, 0, 1, ⟨10, 40⟩⟩, ⟨1, 1, -1, ⟨5, 10⟩⟩]) rfl rfl rfl rfl rfl (by decide) (by decide) (by repeat (first | exact (aY.nil : aY _ _ [] _) | (show aY _ _ ((_, _) :: _) _; apply aY.agg; (· exact (rfl : _ = Ty.agg _))))) (by exact rfl) rfl ?_
 refine gB rfl (bQ rfl (gB rfl (c9 rfl rfl rfl (uH rfl rfl (td rfl rfl ?_)))))
 refine Am (hi := k) rfl (show _ = Ty.int .i64 ((k : Nat) : Int) from congrArg (Ty.int .i64) (by show max 0 (min (k : Int) 2) = (k : Int); omega)) rfl rfl rfl rfl (by show k ≤ 2; exact hk) ?_
 refine dS rfl rfl (by exact List.cons_ne_nil _ _) rfl (by repeat (first | exact (aY.nil : aY _ _ [] _) | (show aY _ _ ((_, _) :: _) _; apply aY.one; (· first | exact (rfl : _ = Ty.int _ _) | exact (rfl : _ = Ty.sl _ _)); (· exact rfl)))) (by exact (rfl : _ = some [_, _, _, _])) ?_
 refine cJ rfl rfl (by decide) rfl rfl rfl rfl rfl rfl ?_
 refine aD ?_
 refine ⟨by kernel_rfl, ?_⟩
 refine aC (ay ?_)
 refine zg rfl rfl rfl rfl (by decide) rfl rfl rfl ?_
 all_goals exact az rfl rfl rfl
set_option maxRecDepth 100000 in
theorem EA : dy Tryz.prog 27 [] (Ty.bool true) := by
 refine av Tryz.func27 rfl (by decide) Tryz.ntmps27 (by exact Nat.le_of_ble_eq_true rfl) fun w0 M0 => ?_
 refine aE (aA (dX rfl (aD (aC (aE (aA ?_))))))
 refine aj (tj 0 (by decide)) rfl rfl rfl rfl rfl ?_
 refine aj (BF (two 0) (jR (by decide)) 0) rfl rfl rfl rfl rfl ?_
 refine p8 rfl (bM rfl rfl (bM rfl rfl (DE rfl (cF rfl (aD (aC (aE (aA ?_))))))))
 refine aj (tj 0 (by decide)) rfl rfl rfl rfl rfl ?_
 refine aj (JC (two 0) (jR (by decide))) rfl rfl rfl rfl rfl ?_
 refine p8 rfl (bM rfl rfl (bM rfl rfl (DE rfl (cF rfl (aD (aC (aE (aA ?_))))))))
 refine aj (tj 1 (by decide)) rfl rfl rfl rfl rfl ?_
 refine aj (JS (two 1) (jR (by decide)) 1) rfl rfl rfl rfl rfl ?_
 refine p8 rfl (bM rfl rfl (bM rfl rfl ?_))
 refine cH rfl (by exact List.cons_ne_nil _ _) rfl ?_
 refine cJ rfl rfl (by decide) rfl rfl rfl rfl rfl rfl ?_
 refine cF rfl (aD (aC (aE (aA ?_))))
 refine aj (tj 1 (by decide)) rfl rfl rfl rfl rfl ?_
 refine aj (H9 (two 1) (jR (by decide)) 0 60) rfl rfl rfl rfl rfl ?_
 refine p8 rfl (bM rfl rfl (bM rfl rfl (cF rfl (cF rfl (aD (aC (aE (aA ?_))))))))
 refine dS rfl rfl (by exact List.cons_ne_nil _ _) rfl (by repeat (exact (aY.nil : aY _ _ [] _))) (by exact (rfl : _ = some [_, _])) ?_
 refine dS rfl rfl (by exact List.cons_ne_nil _ _) rfl (by repeat (first | exact (aY.nil : aY _ _ [] _) | (show aY _ _ ((_, _) :: _) _; apply aY.one; (· exact (rfl : _ = Ty.int _ _)); (· exact rfl)))) (by exact (rfl : _ = some [_, _])) ?_
 refine dS rfl rfl (by exact List.cons_ne_nil _ _) rfl (by repeat (first | exact (aY.nil : aY _ _ [] _) | (show aY _ _ ((_, _) :: _) _; apply aY.one; (· exact (rfl : _ = Ty.int _ _)); (· exact rfl)))) (by exact (rfl : _ = some [_, _])) ?_
 refine bp (E := qd) (xs := vu.cells) rfl rfl rfl rfl rfl (by decide) (by decide) (by repeat (first | exact (aY.nil : aY _ _ [] _) | (show aY _ _ ((_, _) :: _) _; apply aY.agg; (· exact (rfl : _ = Ty.agg _))))) (by exact rfl) rfl ?_
 refine dS rfl rfl (by exact List.cons_ne_nil _ _) rfl (by repeat (first | exact (aY.nil : aY _ _ [] _) | (show aY _ _ ((_, _) :: _) _; apply aY.one; (· exact (rfl : _ = Ty.sl _ _)); (· exact rfl)))) (by exact (rfl : _ = some [_, _])) ?_
 refine cH rfl (by exact List.cons_ne_nil _ _) rfl ?_
 refine cJ rfl rfl (by decide) rfl rfl rfl rfl rfl rfl ?_
 refine aD (aC (aE (cW mixed rfl ?_)))
 refine aj (tj 2 (by decide)) rfl rfl rfl rfl rfl ?_
 refine bU rfl rfl (by decide) rfl rfl (by exact Nat.le_of_ble_eq_true rfl) ?_
 refine aj (ID (two 2) (jR (by decide)) vu (by decide)) rfl rfl rfl rfl rfl ?_
 refine p8 rfl (bM rfl rfl (bM rfl rfl (cF rfl (cF rfl (aD ?_)))))
 refine ⟨by kernel_rfl, ?_⟩
 refine aC (aE (aA ?_))
 refine aj (tj 2 (by decide)) rfl rfl rfl rfl rfl ?_
 refine aj (zW (two 2) (jR (by decide))) rfl rfl rfl rfl rfl ?_
 refine p8 rfl (bM rfl rfl (bM rfl rfl (DE rfl (cF rfl (aD (aC (aE (aA ?_))))))))
 refine aj (tj 2 (by decide)) rfl rfl rfl rfl rfl ?_
 refine aj (Dn (two 2) (jR (by decide))) rfl rfl rfl rfl rfl ?_
 refine p8 rfl (bM rfl rfl (bM rfl rfl (DE rfl (cF rfl (aD (aC (aE (aA ?_))))))))
 refine aj (tj 2 (by decide)) rfl rfl rfl rfl rfl ?_
 refine aj (GL (two 2) (jR (by decide))) rfl rfl rfl rfl rfl ?_
 refine p8 rfl (bM rfl rfl (bM rfl rfl ?_))
 refine cH rfl (by exact List.cons_ne_nil _ _) rfl ?_
 refine cJ rfl rfl (by decide) rfl rfl rfl rfl rfl rfl ?_
 refine cF rfl (aD (aC (aE ?_)))
 refine fW (s := 1) rfl (Ty.sub_eq (congrArg (Ty.sl dz) Jh)) ?_
 refine fW (s := 2) rfl (Ty.ah Mj) ?_
 refine fW (s := 3) rfl (Ty.sub_eq (congrArg (Ty.sl dz) LR)) ?_
 refine fW (s := 4) rfl (Ty.ah (kH (k := 0) (by decide))) ?_
 refine gM (tg := 6) rfl (Cont.m8 (congrArg dz.tys LQ)) ?_
 refine fW (s := 6) rfl (Ty.ah ML) ?_
 refine fW (s := 7) rfl (Ty.ah Lt) ?_
 refine fW (s := 8) rfl (Ty.ah KD.1.symm) ?_
 refine fW (s := 10) rfl (Ty.ah Kj) ?_
 refine fW (s := 11) rfl (Ty.ah Mr.1.symm) ?_
 refine fW (s := 12) rfl (Ty.sub_eq (congrArg (Ty.sl cT) Hj)) ?_
 refine fW (s := 13) rfl (Ty.ah J4.1.symm) ?_
 refine fW (s := 14) rfl (Ty.sub_eq (congrArg (Ty.sl cT) Gi)) ?_
 refine fW (s := 15) rfl (Ty.ah Jz.1.symm) ?_
 refine fW (s := 17) rfl (Ty.ah JM) ?_
 refine dN (B := live [(1, Ty.sl dz [⟨20, 30⟩, ⟨60, 90⟩, ⟨20, 80⟩]), (2, Ty.int .i64 0), (3, Ty.sl dz [⟨20, 30⟩, ⟨60, 90⟩, ⟨50, 85⟩]), (4, Ty.int .i64 0), (5, Ty.ptr 6 0), (6, Ty.int .i64 0), (7, Ty.int .i64 1), (8, Ty.int .i64 0), (10, Ty.int .i64 1), (11, Ty.int .i64 0), (12, Ty.sl cT [0, 1]), (13, Ty.int .i64 0), (14, Ty.sl cT [0]), (15, Ty.int .i64 0), (17, Ty.int .i64 7)] [(6, Cont.cells 37 (dz.tys ⟨25, 35⟩))]) ?_ ?_
 ·(refine dK.mk' ?_ ?_ <;> (repeat' (first | exact aJ | exact aI | refine aB ?_ (Ty.aW _) | refine aB ?_ (Ty.aF _) | refine aG rfl (Cont.aF _) ?_)))
 refine cW mixed rfl (bQ rfl (bE rfl rfl rfl (gR rfl ?_)))
 apply aS (s := 66) rfl rfl rfl
 ·intro hg; apply aU; (refine bQ rfl ?_); refine aD ?_; exact rfl
 ·exact rfl
 ·exact rfl
 apply aS (s := 66) rfl rfl rfl
 ·intro hg; apply aP (s := 67) rfl (by exact hg); apply aU; (refine bE rfl rfl rfl ?_); refine aD ?_; exact rfl
 ·exact rfl
 ·exact rfl
 refine eo rfl rfl (gR rfl ?_)
 apply aS (s := 70) rfl rfl rfl
 ·intro hg; apply aU; (refine bQ rfl ?_); refine aD ?_; exact rfl
 ·exact rfl
 ·exact rfl
 apply aS (s := 70) rfl rfl rfl
 ·intro hg; apply aP (s := 71) rfl (by exact hg); apply aU; (refine bE rfl rfl rfl ?_); refine aD ?_; exact rfl
 ·exact rfl
 ·exact rfl
 refine eo rfl rfl (gR rfl ?_)
 apply aS (s := 74) rfl rfl rfl
 ·intro hg; apply aU; (refine bQ rfl ?_); refine aD ?_; exact rfl
 ·exact rfl
 ·exact rfl
 apply aS (s := 74) rfl rfl rfl
 ·intro hg; apply aP (s := 75) rfl (by exact hg); apply aU; (refine bE rfl rfl rfl ?_); refine aD ?_; exact rfl
 ·exact rfl
 ·exact rfl
 refine eo rfl rfl (gR rfl ?_)
 apply aS (s := 78) rfl rfl rfl
 ·intro hg; apply aU; (refine bQ rfl ?_); refine aD ?_; exact rfl
 ·exact rfl
 ·exact rfl
 apply aS (s := 78) rfl rfl rfl
 ·intro hg; apply aP (s := 79) rfl (by exact hg); apply aU; (refine bE rfl rfl rfl ?_); refine aD ?_; exact rfl
 ·exact rfl
 ·exact rfl
 refine eo rfl rfl (gR rfl ?_)
 apply aS (s := 82) rfl rfl rfl
 ·intro hg; apply aU; (refine bQ rfl ?_); refine aD ?_; exact rfl
 ·exact rfl
 ·exact rfl
 apply aS (s := 82) rfl rfl rfl
 ·intro hg; apply aP (s := 83) rfl (by exact hg); apply aU; (refine bE rfl rfl rfl ?_); refine aD ?_; exact rfl
 ·exact rfl
 ·exact rfl
 refine eo rfl rfl (gR rfl ?_)
 apply aS (s := 86) rfl rfl rfl
 ·intro hg; apply aU; (refine bQ rfl ?_); refine aD ?_; exact rfl
 ·exact rfl
 ·exact rfl
 apply aS (s := 86) rfl rfl rfl
 ·intro hg; apply aP (s := 87) rfl (by exact hg); apply aU; (refine bE rfl rfl rfl ?_); refine aD ?_; exact rfl
 ·exact rfl
 ·exact rfl
 refine eo rfl rfl (gR rfl ?_)
 apply aS (s := 90) rfl rfl rfl
 ·intro hg; apply aU; (refine bQ rfl ?_); refine aD ?_; exact rfl
 ·exact rfl
 ·exact rfl
 apply aS (s := 90) rfl rfl rfl
 ·intro hg; apply aP (s := 91) rfl (by exact hg); apply aU; (refine bE rfl rfl rfl ?_); refine aD ?_; exact rfl
 ·exact rfl
 ·exact rfl
 refine eo rfl rfl (gR rfl ?_)
 apply aS (s := 94) rfl rfl rfl
 ·intro hg; apply aU; (refine gB rfl ?_); refine aD ?_; exact rfl
 ·exact rfl
 ·exact rfl
 apply aS (s := 94) rfl rfl rfl
 ·intro hg; apply aU; (refine aj (iW _ _) rfl rfl rfl rfl rfl ?_); refine aD ?_; exact rfl
 ·exact rfl
 ·exact rfl
 apply aS (s := 94) rfl rfl rfl
 ·intro hg; apply aU; (refine aj (iW _ _) rfl rfl rfl rfl rfl ?_); refine aD ?_; exact rfl
 ·exact rfl
 ·exact rfl
 apply aS (s := 94) rfl rfl rfl
 ·intro hg; apply aU; (refine aj (iW _ _) rfl rfl rfl rfl rfl ?_); refine aD ?_; exact rfl
 ·exact rfl
 ·exact rfl
 apply aS (s := 94) rfl rfl rfl
 ·intro hg; apply aP (s := 96) rfl (by exact hg); apply aP (s := 97) rfl (by exact hg); apply aP (s := 98) rfl (by exact hg); apply aU; (refine bp (E := dz) (xs := [⟨20, 30⟩, ⟨60, 90⟩, ⟨20, 80⟩]) rfl rfl rfl rfl rfl (by decide) (by decide) (by repeat (first | exact (aY.nil : aY _ _ [] _) | (show aY _ _ ((_, _) :: _) _; apply aY.agg; (· exact (rfl : _ = Ty.agg _))))) (by exact rfl) rfl ?_); refine aD ?_; exact rfl
 ·exact rfl
 ·exact rfl
 apply aS (s := 94) rfl rfl rfl
 ·intro hg; apply aP (s := 95) rfl (by exact hg); apply aP (s := 99) rfl (by exact hg); apply aU; (refine aj (A4 _ _) rfl rfl rfl rfl rfl ?_); refine aD ?_; exact rfl
 ·exact rfl
 ·exact rfl
 refine eo rfl rfl (gR rfl ?_)
 apply aS (s := 102) rfl rfl rfl
 ·intro hg; apply aU; (refine gB rfl ?_); refine aD ?_; exact rfl
 ·exact rfl
 ·exact rfl
 apply aS (s := 102) rfl rfl rfl
 ·intro hg; apply aU; (refine aj (iW _ _) rfl rfl rfl rfl rfl ?_); refine aD ?_; exact rfl
 ·exact rfl
 ·exact rfl
 apply aS (s := 102) rfl rfl rfl
 ·intro hg; apply aU; (refine aj (iW _ _) rfl rfl rfl rfl rfl ?_); refine aD ?_; exact rfl
 ·exact rfl
 ·exact rfl
 apply aS (s := 102) rfl rfl rfl
 ·intro hg; apply aU; (refine aj (iW _ _) rfl rfl rfl rfl rfl ?_); refine aD ?_; exact rfl
 ·exact rfl
 ·exact rfl
 apply aS (s := 102) rfl rfl rfl
 ·intro hg; apply aP (s := 104) rfl (by exact hg); apply aP (s := 105) rfl (by exact hg); apply aP (s := 106) rfl (by exact hg); apply aU; (refine bp (E := dz) (xs := [⟨20, 30⟩, ⟨60, 90⟩, ⟨50, 85⟩]) rfl rfl rfl rfl rfl (by decide) (by decide) (by repeat (first | exact (aY.nil : aY _ _ [] _) | (show aY _ _ ((_, _) :: _) _; apply aY.agg; (· exact (rfl : _ = Ty.agg _))))) (by exact rfl) rfl ?_); refine aD ?_; exact rfl
 ·exact rfl
 ·exact rfl
 apply aS (s := 102) rfl rfl rfl
 ·intro hg; apply aP (s := 103) rfl (by exact hg); apply aP (s := 107) rfl (by exact hg); apply aU; (refine aj (A4 _ _) rfl rfl rfl rfl rfl ?_); refine aD ?_; exact rfl
 ·exact rfl
 ·exact rfl
 refine eo rfl rfl (gR rfl ?_)
 apply aS (s := 110) rfl rfl rfl
 ·intro hg; apply aU; (refine bU rfl rfl (by decide) rfl rfl (by exact Nat.le_of_ble_eq_true rfl) ?_); refine aD ?_; exact rfl
 ·exact rfl
 ·exact rfl
 apply aS (s := 110) rfl rfl rfl
 ·intro hg; apply aU; (refine aj (iW _ _) rfl rfl rfl rfl rfl ?_); refine aD ?_; exact rfl
 ·exact rfl
 ·exact rfl
 apply aS (s := 110) rfl rfl rfl
 ·intro hg; apply aP (s := 111) rfl (by exact hg); apply aP (s := 112) rfl (by exact hg); apply aU; (refine I9 (J8 _ _ _ _) rfl rfl ?_); refine aD ?_; exact rfl
 ·exact rfl
 ·exact rfl
 refine eo rfl rfl (gR rfl ?_)
 apply aS (s := 115) rfl rfl rfl
 ·intro hg; apply aU; (refine bQ rfl ?_); refine aD ?_; exact rfl
 ·exact rfl
 ·exact rfl
 apply aS (s := 115) rfl rfl rfl
 ·intro hg; apply aP (s := 116) rfl (by exact hg); apply aU; (refine bE rfl rfl rfl ?_); refine aD ?_; exact rfl
 ·exact rfl
 ·exact rfl
 refine eo rfl rfl (gR rfl ?_)
 apply aS (s := 119) rfl rfl rfl
 ·intro hg; apply aU; (refine bQ rfl ?_); refine aD ?_; exact rfl
 ·exact rfl
 ·exact rfl
 apply aS (s := 119) rfl rfl rfl
 ·intro hg; apply aP (s := 120) rfl (by exact hg); apply aU; (refine bE rfl rfl rfl ?_); refine aD ?_; exact rfl
 ·exact rfl
 ·exact rfl
 refine eo rfl rfl (gR rfl ?_)
 apply aS (s := 123) rfl rfl rfl
 ·intro hg; apply aU; (refine gB rfl ?_); refine aD ?_; exact rfl
 ·exact rfl
 ·exact rfl
 apply aS (s := 123) rfl rfl rfl
 ·intro hg; apply aU; (refine bp (E := cT) (xs := [0, 1]) rfl rfl rfl rfl rfl (by decide) (by decide) (by repeat (first | exact (aY.nil : aY _ _ [] _) | (show aY _ _ ((_, _) :: _) _; apply aY.one; (· exact (rfl : _ = Ty.int _ _)); (· exact rfl)))) (by exact rfl) rfl ?_); refine aD ?_; exact rfl
 ·exact rfl
 ·exact rfl
 apply aS (s := 123) rfl rfl rfl
 ·intro hg; apply aP (s := 124) rfl (by exact hg); apply aP (s := 125) rfl (by exact hg); apply aU; (refine aj (Ak _ _) rfl rfl rfl rfl rfl ?_); refine aD ?_; exact rfl
 ·exact rfl
 ·exact rfl
 refine eo rfl rfl (gR rfl ?_)
 apply aS (s := 128) rfl rfl rfl
 ·intro hg; apply aU; (refine gB rfl ?_); refine aD ?_; exact rfl
 ·exact rfl
 ·exact rfl
 apply aS (s := 128) rfl rfl rfl
 ·intro hg; apply aU; (refine bp (E := cT) (xs := [0]) rfl rfl rfl rfl rfl (by decide) (by decide) (by repeat (first | exact (aY.nil : aY _ _ [] _) | (show aY _ _ ((_, _) :: _) _; apply aY.one; (· exact (rfl : _ = Ty.int _ _)); (· exact rfl)))) (by exact rfl) rfl ?_); refine aD ?_; exact rfl
 ·exact rfl
 ·exact rfl
 apply aS (s := 128) rfl rfl rfl
 ·intro hg; apply aP (s := 129) rfl (by exact hg); apply aP (s := 130) rfl (by exact hg); apply aU; (refine aj (Ak _ _) rfl rfl rfl rfl rfl ?_); refine aD ?_; exact rfl
 ·exact rfl
 ·exact rfl
 refine eo rfl rfl (dX rfl (aD ?_))
 refine ⟨by kernel_rfl, ?_⟩
 refine aC (ay (bh rfl rfl ?_))
 all_goals exact cM rfl rfl
 all_goals trace_state
end Go.Proofs.YtelbollidfdcjaaGreat
namespace Go.Proofs.YtelbollidfdcjaaGreat
open Go Go.T
set_option maxHeartbeats 2000000
attribute [local irreducible] iY fX nD qR jG jJ jI jK jF qu jD qw eJ gm qF gx ql nth fU dn af dy bodyPost Exit.then Exit.inBlock Code.wp Code.wpIn qh jH qi qX jC eT cZ cq bodyPostM eR
set_option maxRecDepth 100000 in
theorem Et (s : Sk) (h : s.Ok 1) : eT Tryz.prog 139 [1000] [(1000, Cont.cells 149 (dA s))] [Ty.ptr 1000 0] [(1000, Cont.cells 149 (dA (aT s)))] (Ty.int .i64 (l7 (aT s))) := by
 refine dc Tryz.func139 rfl (by decide) Tryz.ntmps139 (by exact Nat.le_of_ble_eq_true rfl) fun w0 M0 => ?_
 have h0 : 0 ≤ s.taken ∧ s.taken + 1 ≤ 4611686018427387904 := h
 refine aE (aA (cF rfl (aD (aC ?_))))
 refine lN (J := live [(0, Ty.ptr 1000 0)] [(1000, Cont.cells 149 (dA (iC s)))]) ?_ ?_
 ·
  refine aE (aA (oT rfl (cP rfl ?_)))
  refine aN rfl rfl rfl rfl rfl (by decide) ?_
  refine aX rfl rfl (by decide) rfl rfl rfl ?_
  refine c9 rfl rfl rfl (cF rfl (aD (aC (aE (aA (bQ rfl (bE rfl rfl rfl (aD (aC ?_)))))))))
  refine au rfl (fun hc1 => ?_) (fun hc1 => ?_)
  ·
   have hm := Iv (a := s.taken) (b := s.grain.length) h0.1 (by omega)
   refine cW mixed rfl (oT rfl (oT rfl (cP rfl ?_)))
   refine aN rfl rfl rfl rfl rfl (by decide) ?_
   refine aX rfl rfl (by decide) rfl rfl rfl ?_
   refine oT rfl (cP rfl ?_)
   refine aN rfl rfl rfl rfl rfl (by decide) ?_
   refine aX rfl rfl (by decide) rfl rfl rfl ?_
   refine oT rfl (cP rfl ?_)
   refine aN rfl rfl rfl rfl rfl (by decide) ?_
   refine aX rfl rfl (by decide) rfl rfl rfl ?_
   refine bQ rfl ?_
   refine J6 rfl rfl (by omega) ?_
   refine lS rfl rfl rfl rfl rfl rfl (by omega) (by omega) ?_
   refine aL rfl rfl rfl rfl (C7 rfl rfl rfl rfl (bE rfl rfl rfl (bE rfl rfl rfl (cP rfl ?_))))
   refine aN rfl rfl rfl rfl rfl (by decide) ?_
   refine cx rfl rfl (by decide) rfl rfl (by exact (rfl : _ = Ty.int _ _)) rfl (by exact Nat.le_of_ble_eq_true rfl) rfl rfl (by exact rfl) ?_
   refine aD ?_
   refine ⟨by kernel_rfl, ?_⟩
   refine fT ?_
   (refine dK.mk' ?_ ?_ <;> (repeat' (first | exact aJ | exact aI | exact dO | refine aB ?_ (Ty.aW _) | refine aB ?_ (Ty.aF _) | refine aG rfl (Cont.dM ?_) ?_ | refine bY ?_ ?_)))
   all_goals first | exact Ty.ah (congrArg Sk.mixed (CD hc1).symm) | exact Ty.ah (k8 s).symm | exact Ty.fY (rD s).symm
  refine ak (fT ?_)
  (refine dK.mk' ?_ ?_ <;> (repeat' (first | exact aJ | exact aI | exact dO | refine aB ?_ (Ty.aW _) | refine aB ?_ (Ty.aF _) | refine aG rfl (Cont.dM ?_) ?_ | refine bY ?_ ?_)))
  all_goals first | exact Ty.ah (congrArg Sk.mixed (Ck hc1).symm) | exact Ty.ah (k8 s).symm | exact Ty.fY (rD s).symm
 refine aE ?_
 have h1 := k8 s
 refine aA (oT rfl (cP rfl ?_))
 refine aN rfl rfl rfl rfl rfl (by decide) ?_
 refine aX rfl rfl (by decide) rfl rfl rfl ?_
 refine b9 rfl rfl (by omega) (by omega) ?_
 refine cP rfl ?_
 refine aN rfl rfl rfl rfl rfl (by decide) ?_
 refine cx rfl rfl (by decide) rfl rfl (by exact (rfl : _ = Ty.int _ _)) rfl (by exact Nat.le_of_ble_eq_true rfl) rfl rfl (by exact rfl) ?_
 refine aD (aC ?_)
 refine lN (J := live [(0, Ty.ptr 1000 0)] [(1000, Cont.cells 149 (dA (aT s)))]) ?_ ?_
 ·
  refine aE (cW mixed rfl (oT rfl (cP rfl ?_)))
  refine aN rfl rfl rfl rfl rfl (by decide) ?_
  refine aX rfl rfl (by decide) rfl rfl rfl ?_
  refine oT rfl (cP rfl ?_)
  refine aN rfl rfl rfl rfl rfl (by decide) ?_
  refine aX rfl rfl (by decide) rfl rfl rfl ?_
  refine c9 rfl rfl rfl (bE rfl rfl rfl (aD ?_))
  refine ⟨by kernel_rfl, ?_⟩
  refine aC ?_
  refine au rfl (fun hc2 => ?_) (fun hc2 => ?_)
  ·
   refine aA (oT rfl (oT rfl (cP rfl ?_)))
   refine aN rfl rfl rfl rfl rfl (by decide) ?_
   refine aX rfl rfl (by decide) rfl rfl rfl ?_
   refine bE rfl rfl rfl (bE rfl rfl rfl (cP rfl ?_))
   refine aN rfl rfl rfl rfl rfl (by decide) ?_
   refine cx rfl rfl (by decide) rfl rfl (by exact (rfl : _ = Ty.int _ _)) rfl (by exact Nat.le_of_ble_eq_true rfl) rfl rfl (by exact rfl) ?_
   refine aD (fT ?_)
   (refine dK.mk' ?_ ?_ <;> (repeat' (first | exact aJ | exact aI | exact dO | refine aB ?_ (Ty.aW _) | refine aB ?_ (Ty.aF _) | refine aG rfl (Cont.dM ?_) ?_ | refine bY ?_ ?_)))
   all_goals first | exact Ty.ah (congrArg Sk.mixed (DD (s := oQ (iC s)) hc2).symm) | exact Ty.ah (nX (oQ (iC s))).symm | exact Ty.fY (rq (oQ (iC s))).symm
  refine ak (fT ?_)
  (refine dK.mk' ?_ ?_ <;> (repeat' (first | exact aJ | exact aI | exact dO | refine aB ?_ (Ty.aW _) | refine aB ?_ (Ty.aF _) | refine aG rfl (Cont.dM ?_) ?_ | refine bY ?_ ?_)))
  all_goals first | exact Ty.ah (CI hc2) | exact Ty.ah (nX (oQ (iC s))).symm | exact Ty.fY (rq (oQ (iC s))).symm
 refine aE (cW mixed rfl (oT rfl (cP rfl ?_)))
 refine aN rfl rfl rfl rfl rfl (by decide) ?_
 refine aX rfl rfl (by decide) rfl rfl rfl ?_
 refine oT rfl (cP rfl ?_)
 refine aN rfl rfl rfl rfl rfl (by decide) ?_
 refine aX rfl rfl (by decide) rfl rfl rfl ?_
 refine KC rfl rfl (by omega) (by decide) ?_
 refine bE rfl rfl rfl ?_
 refine KC rfl rfl (by omega) (by decide) ?_
 refine bE rfl rfl rfl (C7 rfl rfl rfl rfl (cF rfl (aD ?_)))
 refine ⟨by kernel_rfl, ?_⟩
 refine aC (ay ?_)
 refine fZ [1000] rfl rfl (by decide) (by repeat (first | exact ej | refine dx rfl (bC (by decide) rfl rfl rfl) ?_)) ?_
 all_goals exact fK (aM rfl rfl)
 all_goals exact fK (n4 rfl rfl rfl)
set_option maxRecDepth 100000 in
theorem g9 (s : Sk) (h : s.Ok 1) (n : Int) : eT Tryz.prog 64 [1000] [(1000, Cont.cells 149 (dA s))] [Ty.ptr 1000 0, Ty.int .i64 n] [(1000, Cont.cells 149 (dA (aT s)))] (Ty.int .i64 (bN s n)) := by
 refine dc Tryz.func64 rfl (by decide) Tryz.ntmps64 (by exact Nat.le_of_ble_eq_true rfl) fun w0 M0 => ?_
 refine aE (aA (cF rfl (aD (aC (aE (aA (oT rfl ?_)))))))
 refine bt [(1000, 1000)] [] [(1000, Cont.cells 149 (dA (aT s)))] (Et s h) rfl rfl (by repeat (first | exact bL | refine aH ?_ ?_ | exact dZ List.mem_cons_self)) (b8 (a := 1000) (b := 1000) (by exact List.mem_cons_self) rfl (bC (by exact List.mem_cons_self) rfl rfl rfl) pre_nil) (bJ (a := 1000) (b := 1000) (by exact List.mem_cons_self) rfl (bC (by exact List.mem_cons_self) rfl rfl rfl) post_nil) (aM rfl rfl) ?_
 refine bQ rfl (td rfl rfl ?_)
 refine J6 rfl rfl (by omega) ?_
 refine cF rfl (aD (aC (ay ?_)))
 refine fZ [1000] rfl rfl (by decide) (by repeat (first | exact ej | refine dx rfl (bC (by decide) rfl rfl rfl) ?_)) ?_
 all_goals exact fK (aM rfl rfl)
set_option maxRecDepth 100000 in
theorem ur (s : Sk) (h : s.Ok 1) (lo hi : Int) (hlo : -1000000 ≤ lo ∧ lo ≤ 1000000) (hhi : -1000000 ≤ hi ∧ hi ≤ 1000000) : eT Tryz.prog 81 [1000] [(1000, Cont.cells 149 (dA s))] [Ty.ptr 1000 0, Ty.int .i64 lo, Ty.int .i64 hi] [(1000, Cont.cells 149 (dA (aT s)))] (Ty.int .i64 (iO s lo hi)) := by
 refine dc Tryz.func81 rfl (by decide) Tryz.ntmps81 (by exact Nat.le_of_ble_eq_true rfl) fun w0 M0 => ?_
 have hb := cQ s (hi - lo + 1)
 refine aE (aA (cF rfl (aD (aC (aE (aA (bQ rfl (oT rfl (bQ rfl ?_)))))))))
 refine bQ rfl ?_
 refine gw rfl rfl (by omega) (by omega) ?_
 refine b9 rfl rfl (by omega) (by omega) ?_
 refine bt [(1000, 1000)] [] [(1000, Cont.cells 149 (dA (aT s)))] (g9 s h _) rfl rfl (by repeat (first | exact bL | refine aH ?_ ?_ | exact dZ List.mem_cons_self | exact aM rfl rfl)) (b8 (a := 1000) (b := 1000) (by exact List.mem_cons_self) rfl (bC (by exact List.mem_cons_self) rfl rfl rfl) pre_nil) (bJ (a := 1000) (b := 1000) (by exact List.mem_cons_self) rfl (bC (by exact List.mem_cons_self) rfl rfl rfl) post_nil) (aM rfl rfl) ?_
 refine b9 rfl rfl (by omega) (by omega) ?_
 refine cF rfl (aD (aC (ay ?_)))
 refine fZ [1000] rfl rfl (by decide) (by repeat (first | exact ej | refine dx rfl (bC (by decide) rfl rfl rfl) ?_)) ?_
 all_goals exact fK (aM rfl rfl)
set_option maxRecDepth 100000 in
theorem LN (s : Sk) (h : s.Ok 1) (n : Int) : eT Tryz.prog 63 [1000] [(1000, Cont.cells 149 (dA s))] [Ty.ptr 1000 0, Ty.int .i64 n] [(1000, Cont.cells 149 (dA (aT s)))] (Ty.bool (jj s n)) := by
 refine dc Tryz.func63 rfl (by decide) Tryz.ntmps63 (by exact Nat.le_of_ble_eq_true rfl) fun w0 M0 => ?_
 refine aE (aA (dX rfl (aD (aC (aE (aA (oT rfl (bQ rfl ?_))))))))
 refine bt [(1000, 1000)] [] [(1000, Cont.cells 149 (dA (aT s)))] (g9 s h n) rfl rfl (by repeat (first | exact bL | refine aH ?_ ?_ | exact dZ List.mem_cons_self | exact aM rfl rfl)) (b8 (a := 1000) (b := 1000) (by exact List.mem_cons_self) rfl (bC (by exact List.mem_cons_self) rfl rfl rfl) pre_nil) (bJ (a := 1000) (b := 1000) (by exact List.mem_cons_self) rfl (bC (by exact List.mem_cons_self) rfl rfl rfl) post_nil) (aM rfl rfl) ?_
 refine bE rfl rfl rfl (dX rfl (aD (aC (ay ?_))))
 refine fZ [1000] rfl rfl (by decide) (by repeat (first | exact ej | refine dx rfl (bC (by decide) rfl rfl rfl) ?_)) ?_
 all_goals exact fK (aM rfl rfl)
set_option maxRecDepth 100000 in
theorem Fh (g : List Int) : eT Tryz.prog 18 [] [] [Ty.sl U8 g] [(10, Cont.cells 149 (dA (dP g)))] (Ty.ptr 10 0) := by
 refine dc Tryz.func18 rfl (by decide) Tryz.ntmps18 (by exact Nat.le_of_ble_eq_true rfl) fun w0 M0 => ?_
 refine aE (aA (mP rfl (aD (aC (aE ?_)))))
 skip
 refine aA (gB rfl (gB rfl (c9 rfl rfl rfl (C7 rfl rfl rfl rfl (bE rfl rfl rfl ?_)))))
 refine dS rfl rfl (by exact List.cons_ne_nil _ _) rfl (by repeat (first | exact (aY.nil : aY _ _ [] _) | (show aY _ _ ((_, _) :: _) _; apply aY.one; (· first | exact (rfl : _ = Ty.int _ _) | exact (rfl : _ = Ty.sl _ _)); (· exact rfl)))) (by exact (rfl : _ = some [_, _, _])) ?_
 refine tS rfl rfl rfl (Nf rfl (aD (aC (ay ?_))))
 refine fZ [10] rfl rfl (by decide) (by repeat (first | exact ej | refine dx rfl (bC (by decide) rfl rfl rfl) ?_)) ?_
 all_goals skip
 exact fK (dZ (by exact List.mem_cons_self))
end Go.Proofs.YtelbollidfdcjaaGreat
namespace Go.Proofs.YtelbollidfdcjaaGreat
open Go Go.T
set_option maxHeartbeats 4000000
def sv (n : Int) (s : Span) : Bool := decide (s.lo ≤ n) && decide (n ≤ s.hi)
structure J2 (y : bD) (a : ep) : Prop where
  len : y.moves.length ≤ a.cD.length
  ou : a.cD.length ≤ 1000
  first : ∀ x ∈ a.first, -1000 ≤ x ∧ x ≤ 1000
  cD : ∀ x ∈ a.cD, -1000 ≤ x ∧ x ≤ 1000
theorem J2.up {y : bD} {a : ep} (h : J2 y a) {bin time : Int} (hb : bin.toNat < a.first.length) {k : Nat} (hk : k ≤ y.moves.length) : -3000000 ≤ eD y a bin time k ∧ eD y a bin time k ≤ 3000000 := by
 have h1 := h.len
 have h2 := h.ou
 have := Gr (y := y) (bin := bin) (time := time) (B := 1000) (by omega) h.first h.cD hb k (by omega)
 omega
attribute [local irreducible] iY fX nD qR jG jJ jI jK jF qu jD qw eJ gm qF gx ql nth fU dn af dy bodyPost Exit.then Exit.inBlock Code.wp Code.wpIn qh jH qi qX jC eT cZ cq bodyPostM eR
set_option maxRecDepth 100000 in
theorem iF (y : bD) (a : ep) (ha : J2 y a) (bin time : Int) (h0 : 0 ≤ bin) (h1 : bin.toNat < a.first.length) : dy Tryz.prog 25 [ff y, qM a, Ty.int .i64 bin, Ty.int .i64 time] (Ty.int .i64 (cw y a bin time)) := by
 refine av Tryz.func25 rfl (by decide) Tryz.ntmps25 (by exact Nat.le_of_ble_eq_true rfl) fun w0 M0 => ?_
 have hl1 := ha.len
 have hl2 := ha.ou
 refine aE (aA (bR rfl (bR rfl (cF rfl (aD (aC (aE (aA ?_))))))))
 refine aQ rfl rfl rfl rfl rfl (by decide) ?_
 refine aL rfl rfl rfl rfl (bQ rfl (lS rfl rfl rfl rfl rfl rfl h0 h1 (aL rfl rfl rfl rfl (cF rfl (aD (aC (aE (aE (aA ?_)))))))))
 refine aQ rfl rfl rfl rfl rfl (by decide) ?_
 refine aL rfl rfl rfl rfl (c9 rfl rfl rfl (bQ rfl (aD (aC (aq ?_)))))
 refine cj (fun (k : {k : Nat // k ≤ y.moves.length}) => live [(2, Ty.int .i64 bin), (3, Ty.int .i64 time), (4, Ty.pp (bl y)), (5, Ty.pp (eB a)), (9, Ty.int .i64 (eD y a bin time k.1)), (18, Ty.sl dQ y.moves), (19, Ty.int .i64 y.moves.length), (20, Ty.int .i64 (k.1 : Nat))] []) (fun k => y.moves.length - k.1) (⟨0, by omega⟩) ?_ fun k => ?_
 ·(refine dK.mk' ?_ ?_ <;> (repeat' (first | exact aJ | exact aI | refine aB ?_ (Ty.aW _) | refine aB ?_ (Ty.aF _))))
 have hk := k.2
 have hu := ha.up (time := time) h1 hk
 refine aE (aA (bE rfl rfl rfl (aD (aC (aE ?_)))))
 refine au rfl (fun hc1 => ?_) (fun hc1 => ?_)
 ·
  refine ak (aC (aE (aq (aE (aA (bQ rfl ?_))))))
  refine bT rfl rfl rfl rfl rfl rfl (by omega) ?_
  refine aZ rfl rfl rfl (by exact Nat.le_of_ble_eq_true rfl) ?_
  refine cH rfl (by exact List.cons_ne_nil _ _) rfl ?_
  refine cF rfl ?_
  refine cJ rfl rfl (by decide) rfl rfl rfl rfl rfl rfl ?_
  refine aD (aC (aE (aE (aA ?_))))
  refine aN rfl rfl rfl rfl rfl (by decide) ?_
  refine aX rfl rfl (by decide) rfl rfl rfl ?_
  refine bQ rfl (bE rfl rfl rfl (gR rfl ?_))
  apply aS (s := 29) rfl rfl rfl
  ·intro hg; apply aU; (refine aN rfl rfl rfl rfl rfl (by decide) ?_); refine aD ?_; exact rfl
  ·exact rfl
  ·exact rfl
  apply aS (s := 29) rfl rfl rfl
  ·intro hg; apply aP (s := 30) rfl (by (rw [hg]; rfl)); apply aU; (refine aX rfl rfl (by decide) rfl rfl rfl ?_); refine aD ?_; exact rfl
  ·exact rfl
  ·exact rfl
  apply aS (s := 29) rfl rfl rfl
  ·intro hg; apply aU; (refine bQ rfl ?_); refine aD ?_; exact rfl
  ·exact rfl
  ·exact rfl
  apply aS (s := 29) rfl rfl rfl
  ·intro hg; apply aP (s := 31) rfl (by (rw [hg]; rfl)); apply aP (s := 32) rfl (by (rw [hg]; rfl)); apply aU; (refine bE rfl rfl rfl ?_); refine aD ?_; exact rfl
  ·exact rfl
  ·exact rfl
  refine eo rfl rfl (aD (aC ?_))
  refine cv rfl (fun hc2 => ?_) (fun hc2 => ?_)
  ·
   have hm1 := ha.cD _ (dD (show k.1 < a.cD.length by omega))
   refine aA (bQ rfl ?_)
   refine aQ rfl rfl rfl rfl rfl (by decide) ?_
   refine aL rfl rfl rfl rfl (bQ rfl ?_)
   refine bT rfl rfl rfl rfl rfl rfl (by omega) ?_
   refine aL rfl rfl rfl rfl ?_
   refine b9 rfl rfl (by omega) (by omega) ?_
   refine cF rfl (aD (aC (aE (aA ?_))))
   refine aN rfl rfl rfl rfl rfl (by decide) ?_
   refine aX rfl rfl (by decide) rfl rfl rfl ?_
   refine bQ rfl (bE rfl rfl rfl (gR rfl ?_))
   apply aS (s := 46) rfl rfl rfl
   ·intro hg; apply aU; (refine aN rfl rfl rfl rfl rfl (by decide) ?_); refine aD ?_; exact rfl
   ·exact rfl
   ·exact rfl
   apply aS (s := 46) rfl rfl rfl
   ·intro hg; apply aP (s := 47) rfl (by (rw [hg]; rfl)); apply aU; (refine aX rfl rfl (by decide) rfl rfl rfl ?_); refine aD ?_; exact rfl
   ·exact rfl
   ·exact rfl
   apply aS (s := 46) rfl rfl rfl
   ·intro hg; apply aU; (refine bQ rfl ?_); refine aD ?_; exact rfl
   ·exact rfl
   ·exact rfl
   apply aS (s := 46) rfl rfl rfl
   ·intro hg; apply aP (s := 48) rfl (by (rw [hg]; rfl)); apply aP (s := 49) rfl (by (rw [hg]; rfl)); apply aU; (refine bE rfl rfl rfl ?_); refine aD ?_; exact rfl
   ·exact rfl
   ·exact rfl
   refine eo rfl rfl (aD (aC ?_))
   refine cv rfl (fun hc3 => ?_) (fun hc3 => ?_)
   ·
    have hm2 := ha.cD _ (dD (show k.1 < a.cD.length by omega))
    refine aA (bQ rfl ?_)
    refine aQ rfl rfl rfl rfl rfl (by decide) ?_
    refine aL rfl rfl rfl rfl (bQ rfl ?_)
    refine bT rfl rfl rfl rfl rfl rfl (by omega) ?_
    refine aL rfl rfl rfl rfl ?_
    refine gw rfl rfl (by omega) (by omega) ?_
    refine cF rfl (aD (bV (aC (aA ?_))))
    refine b9 rfl rfl (by omega) (by omega) ?_
    refine bQ rfl (aD ?_)
    refine bZ (⟨k.1 + 1, by omega⟩) ?_ (by show y.moves.length - (k.1 + 1) < y.moves.length - k.1; omega)
    (refine dK.mk' ?_ ?_ <;> (repeat' (first | exact aJ | exact aI | refine aB ?_ (Ty.aW _) | refine aB ?_ (Ty.aF _) | refine aB ?_ ?_)))
    all_goals skip
    all_goals exact Ty.ah (MY hc2 hc3)
   refine ak (bV (aC (aA ?_)))
   refine b9 rfl rfl (by omega) (by omega) ?_
   refine bQ rfl (aD ?_)
   refine bZ (⟨k.1 + 1, by omega⟩) ?_ (by show y.moves.length - (k.1 + 1) < y.moves.length - k.1; omega)
   (refine dK.mk' ?_ ?_ <;> (repeat' (first | exact aJ | exact aI | refine aB ?_ (Ty.aW _) | refine aB ?_ (Ty.aF _) | refine aB ?_ ?_)))
   all_goals skip
   all_goals exact Ty.ah (MP hc2 hc3)
  refine ak (aC (aE (aA ?_)))
  refine aN rfl rfl rfl rfl rfl (by decide) ?_
  refine aX rfl rfl (by decide) rfl rfl rfl ?_
  refine bQ rfl (bE rfl rfl rfl (gR rfl ?_))
  apply aS (s := 46) rfl rfl rfl
  ·intro hg; apply aU; (refine aN rfl rfl rfl rfl rfl (by decide) ?_); refine aD ?_; exact rfl
  ·exact rfl
  ·exact rfl
  apply aS (s := 46) rfl rfl rfl
  ·intro hg; apply aP (s := 47) rfl (by (rw [hg]; rfl)); apply aU; (refine aX rfl rfl (by decide) rfl rfl rfl ?_); refine aD ?_; exact rfl
  ·exact rfl
  ·exact rfl
  apply aS (s := 46) rfl rfl rfl
  ·intro hg; apply aU; (refine bQ rfl ?_); refine aD ?_; exact rfl
  ·exact rfl
  ·exact rfl
  apply aS (s := 46) rfl rfl rfl
  ·intro hg; apply aP (s := 48) rfl (by (rw [hg]; rfl)); apply aP (s := 49) rfl (by (rw [hg]; rfl)); apply aU; (refine bE rfl rfl rfl ?_); refine aD ?_; exact rfl
  ·exact rfl
  ·exact rfl
  refine eo rfl rfl (aD (aC ?_))
  refine cv rfl (fun hc4 => ?_) (fun hc4 => ?_)
  ·
   have hm2 := ha.cD _ (dD (show k.1 < a.cD.length by omega))
   refine aA (bQ rfl ?_)
   refine aQ rfl rfl rfl rfl rfl (by decide) ?_
   refine aL rfl rfl rfl rfl (bQ rfl ?_)
   refine bT rfl rfl rfl rfl rfl rfl (by omega) ?_
   refine aL rfl rfl rfl rfl ?_
   refine gw rfl rfl (by omega) (by omega) ?_
   refine cF rfl (aD (bV (aC (aA ?_))))
   refine b9 rfl rfl (by omega) (by omega) ?_
   refine bQ rfl (aD ?_)
   refine bZ (⟨k.1 + 1, by omega⟩) ?_ (by show y.moves.length - (k.1 + 1) < y.moves.length - k.1; omega)
   (refine dK.mk' ?_ ?_ <;> (repeat' (first | exact aJ | exact aI | refine aB ?_ (Ty.aW _) | refine aB ?_ (Ty.aF _) | refine aB ?_ ?_)))
   all_goals skip
   all_goals exact Ty.ah (L7 hc2 hc4)
  refine ak (bV (aC (aA ?_)))
  refine b9 rfl rfl (by omega) (by omega) ?_
  refine bQ rfl (aD ?_)
  refine bZ (⟨k.1 + 1, by omega⟩) ?_ (by show y.moves.length - (k.1 + 1) < y.moves.length - k.1; omega)
  (refine dK.mk' ?_ ?_ <;> (repeat' (first | exact aJ | exact aI | refine aB ?_ (Ty.aW _) | refine aB ?_ (Ty.aF _) | refine aB ?_ ?_)))
  all_goals skip
  all_goals exact Ty.ah (L6 hc2 hc4)
 refine cg (aR (aR (bA rfl (aC (aE (aA (bQ rfl (cF rfl (aD ?_)))))))))
 refine aC (ay (bh rfl rfl ?_))
 all_goals skip
 all_goals exact az rfl rfl (congrArg (Ty.int .i64) (by unfold cw; rw [show k.1 = y.moves.length by have := k.2; omega]))
set_option maxRecDepth 100000 in
theorem sC (n : Int) (s : Span) : dy Tryz.prog 26 [Ty.int .i64 n, Ty.agg (dz.tys s)] (Ty.bool (sv n s)) := by
 refine av Tryz.func26 rfl (by decide) Tryz.ntmps26 (by exact Nat.le_of_ble_eq_true rfl) fun w0 M0 => ?_
 refine aE (aA (bR rfl (dX rfl (aD (aC (aE (aA ?_)))))))
 refine aQ rfl rfl rfl rfl rfl (by decide) ?_
 refine aL rfl rfl rfl rfl (bQ rfl (bE rfl rfl rfl (gR rfl ?_)))
 apply aS (s := 9) rfl rfl rfl
 ·intro hg; apply aU; (refine bQ rfl ?_); refine aD ?_; exact rfl
 ·exact rfl
 ·exact rfl
 apply aS (s := 9) rfl rfl rfl
 ·intro hg; apply aU; (refine aQ rfl rfl rfl rfl rfl (by decide) ?_); refine aD ?_; exact rfl
 ·exact rfl
 ·exact rfl
 apply aS (s := 9) rfl rfl rfl
 ·intro hg; apply aP (s := 11) rfl (by (rw [hg]; rfl)); apply aU; (refine aL rfl rfl rfl rfl ?_); refine aD ?_; exact rfl
 ·exact rfl
 ·exact rfl
 apply aS (s := 9) rfl rfl rfl
 ·intro hg; apply aP (s := 10) rfl (by (rw [hg]; rfl)); apply aP (s := 12) rfl (by (rw [hg]; rfl)); apply aU; (refine bE rfl rfl rfl ?_); refine aD ?_; exact rfl
 ·exact rfl
 ·exact rfl
 refine eo rfl rfl (dX rfl (aD (aC (ay (bh rfl rfl ?_)))))
 all_goals exact cM rfl rfl
set_option maxRecDepth 100000 in
theorem CP (s : Sk) (h : s.Ok 2) (n w : Int) (hn : -1000000 ≤ n ∧ n ≤ 1000000) (hw : 0 ≤ w ∧ w ≤ 1000) : eT Tryz.prog 82 [1000] [(1000, Cont.cells 149 (dA s))] [Ty.ptr 1000 0, Ty.int .i64 n, Ty.int .i64 w] [(1000, Cont.cells 149 (dA (aT (aT s))))] (Ty.agg (dz.tys (gq s n w))) := by
 refine dc Tryz.func82 rfl (by decide) Tryz.ntmps82 (by exact Nat.le_of_ble_eq_true rfl) fun w0 M0 => ?_
 have h0 : 0 ≤ s.taken ∧ s.taken + 2 ≤ 4611686018427387904 := h
 have hb1 := cQ s (w + 1)
 have hb2 := cQ (aT s) (w + 1)
 have ht := cE s
 refine aE (aA ?_)
 refine cH rfl (by exact List.cons_ne_nil _ _) rfl ?_
 refine aD (aC (aE (aA (bQ rfl (oT rfl (bQ rfl ?_))))))
 refine b9 rfl rfl (by omega) (by omega) ?_
 refine bt [(1000, 1000)] [] [(1000, Cont.cells 149 (dA (aT s)))] (g9 s ⟨by omega, by omega⟩ _) rfl rfl (by repeat (first | exact bL | refine aH ?_ ?_ | exact dZ List.mem_cons_self | exact aM rfl rfl)) (b8 (a := 1000) (b := 1000) (by exact List.mem_cons_self) rfl (bC (by exact List.mem_cons_self) rfl rfl rfl) pre_nil) (bJ (a := 1000) (b := 1000) (by exact List.mem_cons_self) rfl (bC (by exact List.mem_cons_self) rfl rfl rfl) post_nil) (aM rfl rfl) ?_
 refine gw rfl rfl (by omega) (by omega) ?_
 refine td rfl rfl (bQ rfl (oT rfl (bQ rfl ?_)))
 refine b9 rfl rfl (by omega) (by omega) ?_
 refine bt [(1000, 1000)] [] [(1000, Cont.cells 149 (dA (aT (aT s))))] (g9 (aT s) ⟨by omega, by omega⟩ _) rfl rfl (by repeat (first | exact bL | refine aH ?_ ?_ | exact dZ List.mem_cons_self | exact aM rfl rfl)) (b8 (a := 1000) (b := 1000) (by exact List.mem_cons_self) rfl (bC (by exact List.mem_cons_self) rfl rfl rfl) pre_nil) (bJ (a := 1000) (b := 1000) (by exact List.mem_cons_self) rfl (bC (by exact List.mem_cons_self) rfl rfl rfl) post_nil) (aM rfl rfl) ?_
 refine b9 rfl rfl (by omega) (by omega) ?_
 refine uH rfl rfl (aj (iW _ _) rfl rfl rfl rfl rfl ?_)
 refine cJ rfl rfl (by decide) rfl rfl rfl rfl rfl rfl ?_
 refine aD (aC (ay ?_))
 refine DK [1000] rfl rfl rfl rfl (by decide) rfl rfl rfl (by decide) (by repeat (first | exact ej | refine dx rfl (bC (by decide) rfl rfl rfl) ?_)) ?_
 all_goals exact fK (aM rfl rfl)
 all_goals trace_state
set_option maxRecDepth 100000 in
theorem Js (y : bD) (a : ep) (ha : J2 y a) (m : Move) (hd : -1000000 ≤ m.day ∧ m.day ≤ 1000000) (h1 : m.src ≠ -1 → 0 ≤ m.src ∧ m.src.toNat < a.first.length) : dy Tryz.prog 83 [ff y, qM a, Ty.agg (dQ.tys m)] (Ty.int .i64 (x7 y a m)) := by
 refine av Tryz.func83 rfl (by decide) Tryz.ntmps83 (by exact Nat.le_of_ble_eq_true rfl) fun w0 M0 => ?_
 refine aE (aA (bR rfl (bR rfl (bR rfl (cF rfl (aD (aC (aE (aE ?_)))))))))
 refine aA ?_
 refine aQ rfl rfl rfl rfl rfl (by decide) ?_
 refine aL rfl rfl rfl rfl (bE rfl rfl rfl (aD (aC ?_)))
 refine au rfl (fun hc1 => ?_) (fun hc1 => ?_)
 ·
  refine aE (aA (cF rfl (aD (aC (ay (aV (bh rfl rfl ?_)))))))
  all_goals skip
  exact az rfl rfl (congrArg (Ty.int .i64) (if_pos hc1).symm)
 refine ak (aC (aE ?_))
 have hs := h1 hc1
 refine aA ?_
 refine aZ rfl rfl rfl (by exact Nat.le_of_ble_eq_true rfl) ?_
 refine aZ rfl rfl rfl (by exact Nat.le_of_ble_eq_true rfl) ?_
 refine aQ rfl rfl rfl rfl rfl (by decide) ?_
 refine aL rfl rfl rfl rfl ?_
 refine aQ rfl rfl rfl rfl rfl (by decide) ?_
 refine aL rfl rfl rfl rfl ?_
 refine b9 rfl rfl (by omega) (by omega) ?_
 refine aj (iF y a ha m.src (m.day + 1) hs.1 hs.2) rfl rfl rfl rfl rfl (cF rfl (aD (aC (ay (bh rfl rfl ?_)))))
 all_goals skip
 exact az rfl rfl (congrArg (Ty.int .i64) (if_neg hc1).symm)
end Go.Proofs.YtelbollidfdcjaaGreat
namespace Go.T
open Go Go.RowKit
section
variable {P : Program} {fr : Fr} {ops : Array Oper} {A : As} {rest : List Oper} {K : As → List (As × Fx) → Prop} {d : Nat} {t ty' : TypeId} {p : String} {e : Array Edge} [T : kr P]
end
end Go.T
namespace Go.T
open Go Go.RowKit
section
variable {P : Program} {fr : Fr} {ops : Array Oper} {A : As} {rest : List Oper} {K : As → List (As × Fx) → Prop} {d : Nat} {t ty' : TypeId} {p : String} {e : Array Edge} [T : kr P]
end
end Go.T
namespace Go.T
open Go Go.RowKit
section
variable {P : Program} {fr : Fr} {A : As} {Q : Exit → Act → World → Prop} {c : Code}
end
section
variable {P : Program} {fr : Fr} {ops : Array Oper} {A : As} {rest : List Oper} {K : As → List (As × Fx) → Prop} {d : Nat} {t ty' : TypeId} {p : String} {e : Array Edge} [T : kr P]
end
end Go.T
namespace Go.T
open Go Go.RowKit
section
variable {P : Program} {A : As} {fn : Func} {n : Nat} {w0 : World} {M0 : bB} {F : List Nat} {post : List (Nat × Cont)} [T : kr P]
theorem xy {w : World} {M : bB} {tm ty tg Tb : Nat} {l : List Ty} {ti : TI} {tmps : Array Value} (wf : Wf w M) (htg : ∀ x ∈ A.tags, x.2.den w M x.1) (hd : (A.slots tm).den w M (tmps.getD tm undef)) (hx : A.slots tm = .ptr tg 0) (hc : A.tag tg = some (.cells Tb l)) (h1 : fu tg) (hT : T.eS[ty]? = some ti) (ha : ti.k.agg = true) (hl : l.length = ti.size) :
 ∃ b cs, tmps.getD tm undef = .pointer (some ⟨b, 0, none⟩) ∧ (loadVar ty ⟨b, 0, none⟩).run P w = .ok (.agg cs) w ∧ cN w M l cs.toList := by
 rw [hx] at hd
 obtain ⟨b, hb, e⟩ := hd
 obtain ⟨b', cs, hb', hh, hds⟩ := htg _ (cy hc)
 obtain ⟨u, rfl⟩ : ∃ u, tg = u + 1 := ⟨tg - 1, by omega⟩
 have := wf.inj b b' u (by omega) hb hb'
 subst this
 have hlen := cO hds
 have hload := gT (P := P) hT ha (w := w) (b := b) (off := 0) (cs := cs.toList) (by rw [hlen, hl]) (fun j v hj => by simpa [World.cell?, hh] using hj)
 exact ⟨b, cs, e, by simpa [Instr.loadAt, Instr.sureAddr] using hload, hds⟩
theorem Lx (L : List Nat) {tm ty tg Tb tm' ty' tg' Tb' : Nat} {l l' : List Ty} {ti ti' : TI} {r1 r2 : Ty} (hr : fn.results = #[.cell tm ty, .cell tm' ty']) (ht : Nat.blt tm n = true) (ht' : Nat.blt tm' n = true) (hx : A.slots tm = .ptr tg 0) (hc : A.tag tg = some (.cells Tb l)) (h1 : fu tg) (hT : T.eS[ty]? = some ti) (ha : ti.k.agg = true) (hl : l.length = ti.size)
 (hx' : A.slots tm' = .ptr tg' 0) (hc' : A.tag tg' = some (.cells Tb' l')) (h1' : fu tg') (hT' : T.eS[ty']? = some ti') (ha' : ti'.k.agg = true) (hl' : l'.length = ti'.size)
 (hL : ∀ t ∈ F, t ∈ L) (hp : oJ A L post) (hs : xF L (.agg l) r1) (hs2 : xF L (.agg l') r2) :
 dn ⟨n, w0, M0, F, .plain⟩ A (bodyPost P fn (cZ F post w0 M0 (Ty.jq [r1, r2])) .ret) := by
 intro a w ⟨M, ok, hsl, htg⟩
 obtain ⟨b, cs, e, hload, hds⟩ := xy ok.wf htg (hsl tm (by simpa using ht)) hx hc h1 hT ha hl
 obtain ⟨b2, cs2, e2, hload2, hds2⟩ := xy ok.wf htg (hsl tm' (by simpa using ht')) hx' hc' h1' hT' ha' hl'
 refine ⟨ok.gW (by simp), .tuple #[.agg cs, .agg cs2], ?_, _, oC L M, rfl, nO ok.wf, mw hL ok.base, ⟨_, rfl, hs _ _ _ ok.wf ⟨cs, rfl, hds⟩, hs2 _ _ _ ok.wf ⟨cs2, rfl, hds2⟩, trivial⟩, tD ok.wf htg hp⟩
 have e' : a.tmps[tm]?.getD undef = .pointer (some ⟨b, 0, none⟩) := by rw [← Array.getD_eq_getD_getElem?]; exact e
 have e2' : a.tmps[tm']?.getD undef = .pointer (some ⟨b2, 0, none⟩) := by rw [← Array.getD_eq_getD_getElem?]; exact e2
 simp [results, hr, e', e2', asAddr, hload, hload2]
end
end Go.T
namespace Go.T
open Go Go.RowKit
section
variable {P : Program} {fr : Fr} {ops : Array Oper} {A : As} {rest : List Oper} {K : As → List (As × Fx) → Prop} {d : Nat} {t ty' : TypeId} {p : String} {e : Array Edge} [T : kr P]
theorem xS {x y : Operand} {tg Tb off : Nat} {l l' lr : List Ty} {ti : TI} (hx : A.op fr x = .ptr tg off) (hc : A.tag tg = some (.cells Tb l)) (h1 : fu tg) (hT : T.eS[ty']? = some ti) (hy : A.op fr y = .agg l') (hsz : ti.size = l'.length) (hlen : off + l'.length ≤ l.length) (ho : l'.all Ty.one = true) (hlr : l.take off ++ (l' ++ l.drop (off + l'.length)) = lr) (hdt : kX (bk lr) [tg] = true)
 (h : af P fr ops rest (A.after { d := none, S := [tg], sets := [(tg, .cells Tb lr)], rs := cC x ++ cC y, rt := [tg] }) fun A' l'' => K A' ((A, { d := none, S := [tg], sets := [(tg, .cells Tb lr)], rs := cC x ++ cC y, rt := [tg] }) :: l'')) :
 af P fr ops (⟨none, .store ty' x y, t, p, e, none⟩ :: rest) A K := by
 refine ⟨_, kM rfl rfl rfl (by simp) (by simpa using h1.1) (by simp) fun a w M wf hr ht => ?_, h⟩
 obtain ⟨hdx, hdy⟩ := op2 hr
 rw [hx] at hdx; rw [hy] at hdy
 obtain ⟨b, hb, ex⟩ := hdx
 obtain ⟨vs, ey, hvs⟩ := hdy
 obtain ⟨b', cs, hb', hh, hd⟩ := ht _ (cy hc) (by simp)
 obtain ⟨u, rfl⟩ : ∃ u, tg = u + 1 := ⟨tg - 1, by omega⟩
 have := wf.inj b b' u (by omega) hb hb'
 subst this
 have hl1 := cO hd
 have hl2 := cO hvs
 simp only [Array.length_toList] at hl1 hl2
 obtain ⟨h1', h2', h3'⟩ := iD (cs' := (cs.toList.take (off + 0) ++ vs.toList ++ cs.toList.drop (off + 0 + vs.toList.length)).toArray) (Tb := Tb) wf hb _ rfl
 have hones : ∀ v ∈ vs.toList, v.oneCell' = true := fun v hv => by
  obtain ⟨i, hi, hvi⟩ := List.getElem_of_mem hv
  have hlt : i < l'.length := by simp at hi; omega
  obtain ⟨u', hu', hdu⟩ := dj hvs i l'[i] (List.getElem?_eq_getElem hlt)
  rw [List.getElem?_eq_getElem hi, hvi] at hu'
  injection hu' with hu'
  subst hu'
  exact (l'[i]).isOne (List.all_eq_true.1 ho _ (List.getElem_mem hlt)) hdu
 refine ⟨_, ?_, M, h1', h2', trivial, ?_⟩
 ·have hst := run_storeCells_at (P := P) b off Tb vs.toList 0 cs w hh (by simp; omega) hones
  rw [jE _ hh] at hst
  have hsz' : vs.size = ti.size := by omega
  simp only [Nat.add_zero] at hst ⊢
  simp [execOp, Instr.storeAt, Instr.sureAddr, ex, ey, storeVar, Value.cells, dR hT, hsz'] at hst ⊢
  rw [hst]; rfl
 intro z hz
 simp only [List.mem_singleton] at hz
 subst hz
 refine ⟨b, _, hb, h3', bu h2' (by intro _ _ h; cases h) (gE hdt) ?_⟩
 subst hlr
 have hq := eN (m6 off hd) (eN hvs (lE (off + l'.length) hd))
 rw [show l'.length = vs.toList.length by simp; omega] at hq ⊢
 simpa using hq
end
end Go.T
namespace Go.Proofs.YtelbollidfdcjaaGreat
open Go Go.T
set_option maxHeartbeats 8000000
section
variable {d : Md} {s : Sk} {k i : Nat} {p : (List Move × List Int) × Sk} {y : bD} {a : ep} {m : Move} {n : Int}
theorem IG (d : Md) (k : Nat) : (((d.bs k).1.1 ++ [bN (d.bs k).2 60], (d.bs k).1.2 ++ [⟨300, gq (aT (d.bs k).2) (bN (d.bs k).2 60) 12⟩]), aT (aT (aT (d.bs k).2))) = d.bs (k + 1) := rfl
theorem F5 (d : Md) : (([], []), aT (aT d.s)) = d.bs 0 := rfl
theorem Gj (d : Md) (i : Nat) : (((d.ms i).1.1 ++ [d.full (d.ms i) i], (d.ms i).1.2 ++ [d.num (d.ms i) i]), aT (aT (aT (d.pH (d.ms i).2)))) = d.ms (i + 1) := rfl
theorem IS (d : Md) : (([], []), aT (d.bs d.nb).2) = d.ms 0 := rfl
theorem Iq (d : Md) (k : Nat) : ((d.ls k).1 ++ [d.IX (d.ls k).2], aT (aT (aT (aT (d.ls k).2)))) = d.ls (k + 1) := rfl
theorem Ih (d : Md) : ([], aT (d.hs d.nb).2) = d.ls 0 := rfl
theorem Jt (d : Md) (k : Nat) : ((d.hs k).1.set k ⟨min 300 (d.most k (d.D + 1).toNat + bN (d.hs k).2 30), (nth (d.hs k).1 k).first⟩, aT (d.hs k).2) = d.hs (k + 1) := rfl
theorem Ik (d : Md) : (d.gN, (d.ms d.many).2) = d.hs 0 := rfl
theorem oc (hd : d.Ok) (hi : i ≤ d.many) (hp : Li d i p) : J2 (d.yd p.1.1) (d.am p.1.2) := by
 have h := (d.qE d.nb).first
 have hl := hp.len1
 refine ⟨by have := hp.len2; show p.1.1.length ≤ p.1.2.length; omega, ?_, fun x hx => ?_, fun x hx => ?_⟩
 ·have h1 := (d.uT hd).1; have h2 := hp.len2; show p.1.2.length ≤ 1000; omega
 ·have := h x hx; omega
 have := hp.num x hx; omega
theorem Mq (h : d.src s = -1) : n = ko y a (d.mv s i) n := (if_pos h).symm
theorem LC (h : ¬ d.src s = -1) : min n (cw y a (d.src s) (d.day i)) = ko y a (d.mv s i) n := (if_neg h).symm
theorem MD (h : d.dst s = -1) : n = mF y a (d.mv s i) n := (if_pos h).symm
theorem Kf (h : ¬ d.dst s = -1) : min n (300 - cw y a (d.dst s) (d.day i + 1)) = mF y a (d.mv s i) n := (if_neg h).symm
theorem NG : n = lM y a m n 0 := rfl
theorem Lw (h : ((decide ((nth y.moves k).day = m.day) && decide ((nth y.moves k).src = m.src)) && !decide (m.src = -1)) = true) : ¬ m.src = -1 := by simp only [Bool.and_eq_true, Bool.not_eq_true', decide_eq_false_iff_not] at h; exact h.2
theorem num_eq (d : Md) (p : (List Move × List Int) × Sk) (i : Nat) : max 0 (min (lM (d.yd p.1.1) (d.am p.1.2) (d.mv p.2 i) (mF (d.yd p.1.1) (d.am p.1.2) (d.mv p.2 i) (ko (d.yd p.1.1) (d.am p.1.2) (d.mv p.2 i) (bN (d.pH p.2) 40))) (d.yd p.1.1).moves.length) (x7 (d.yd p.1.1) (d.am p.1.2) (d.mv p.2 i))) = d.num p i := rfl
theorem Dd {α : Type} {E : El α} {T tg n : Nat} {xs : List α} (h : xs.length = n) : (Ty.row E T tg xs).Sub (Ty.vs tg n) := by subst h; exact Ty.vL rfl
theorem Lo (d : Md) (b : Nat) : 0 = d.most b 0 := rfl
theorem Lp (d : Md) (b t : Nat) {bs : List w5} : max (d.most b t) (cw ⟨d.D, bs, d.fF, []⟩ d.real (b : Nat) (t : Nat)) = d.most b (t + 1) := by
 have e : cw ⟨d.D, bs, d.fF, []⟩ d.real (b : Nat) (t : Nat) = cw d.y0 d.real (b : Nat) (t : Nat) := tJ (y := d.y0)
 rw [e]; rfl
theorem wE (hd : d.Ok) {bs : List w5} {l : List Level} : J2 ⟨d.D, bs, d.fF, l⟩ d.real := by
 have h := oc hd (Nat.le_refl _) (d.qH hd d.many (Nat.le_refl _))
 exact ⟨h.len, h.ou, h.first, h.cD⟩
theorem MB (h : ((decide ((nth y.moves k).day = m.day) && decide ((nth y.moves k).src = m.src)) && !decide (m.src = -1)) = false) : lM y a m n k = lM y a m n (k + 1) := (if_neg (by rw [h]; decide)).symm
theorem Kx (h : ((decide ((nth y.moves k).day = m.day) && decide ((nth y.moves k).src = m.src)) && !decide (m.src = -1)) = true) : min (lM y a m n k) (cw y a m.src m.day - nth a.cD k) = lM y a m n (k + 1) := (if_pos h).symm
theorem Bi (h : d.sJ s = d.s8 s) : (-1 = d.src s ∧ bN (aT (aT s)) d.nb = d.dst s) ∧ aT (aT (aT s)) = d.pH s := ⟨⟨(if_pos h).symm, (if_pos h).symm⟩, (if_pos h).symm⟩
theorem Av (h : ¬ d.sJ s = d.s8 s) : (d.sJ s = d.src s ∧ d.s8 s = d.dst s) ∧ aT (aT s) = d.pH s := ⟨⟨(if_neg h).symm, (if_neg h).symm⟩, (if_neg h).symm⟩
theorem zS {l : List Int} (hd : d.Ok) (h2 : ¬ d.src s = -1) (hl : l.length = d.nb) : 0 ≤ d.src s ∧ (d.src s).toNat < l.length := by
 have h1 := (d.xV (s := s) hd).1
 omega
theorem z3 {l : List Int} (hd : d.Ok) (h2 : ¬ d.dst s = -1) (hl : l.length = d.nb) : 0 ≤ d.dst s ∧ (d.dst s).toNat < l.length := by
 have h1 := (d.xV (s := s) hd).2.1
 omega
end
attribute [local irreducible] Md.D Md.Kw Md.nb Md.bs Md.first Md.gN Md.x9 Md.many Md.src Md.dst Md.pH Md.day Md.num Md.ms Md.cD Md.fF Md.most Md.hs Md.hU Md.L5 Md.nl Md.ls Md.mE cw ko mF lM qJ gq aT bN iO x7 Md.sJ Md.s8
attribute [local irreducible] iY fX nD qR jG jJ jI jK jF qu jD qw eJ gm qF gx ql nth fU dn af dy bodyPost Exit.then Exit.inBlock Code.wp Code.wpIn qh jH qi qX jC eT cZ cq bodyPostM eR
end Go.Proofs.YtelbollidfdcjaaGreat
namespace Go.Proofs.YtelbollidfdcjaaGreat
open Go Go.T
set_option maxHeartbeats 8000000
structure NI (a : ep) : Prop where
  ou : a.cD.length ≤ 1000
  first : ∀ x ∈ a.first, -1000 ≤ x ∧ x ≤ 1000
  cD : ∀ x ∈ a.cD, -1000 ≤ x ∧ x ≤ 1000
open Classical in
noncomputable def kD (y : bD) (a : ep) : Bool := decide (fL y (fun _ => true) a)
section
variable {y : bD} {a : ep} {b t k : Nat}
open Classical in
theorem Es (h : fL y (fun _ => true) a) : kD y a = true := by unfold kD; exact decide_eq_true h
open Classical in
theorem lZ (h : ¬ fL y (fun _ => true) a) : kD y a = false := by unfold kD; exact decide_eq_false h
open Classical in
theorem JR (h : kD y a = true) : fL y (fun _ => true) a := by unfold kD at h; exact of_decide_eq_true h
theorem ug {n : Int} {s : Span} (h : (!sv n s) = false) : s.lo ≤ n ∧ n ≤ s.hi := by
 unfold sv at h; simpa using h
theorem zy {n : Int} {s : Span} (h : (!sv n s) = true) : ¬ (s.lo ≤ n ∧ n ≤ s.hi) := by
 unfold sv at h; simp at h; omega
theorem MS (h : (!decide ((a.first.length : Int) = y.bins.length) || !decide ((a.cD.length : Int) = y.moves.length)) = true) : false = kD y a := by
 refine (lZ fun hf => ?_).symm
 have h1 := hf.lens.first
 have h2 := hf.lens.cD
 rw [decide_eq_true (by omega), decide_eq_true (by omega)] at h; cases h
theorem G9 (h : (!decide ((a.first.length : Int) = y.bins.length) || !decide ((a.cD.length : Int) = y.moves.length)) = false) : zx y a := by
 rw [Bool.or_eq_false_iff, Bool.not_eq_false', Bool.not_eq_false', decide_eq_true_eq, decide_eq_true_eq] at h
 exact ⟨by omega, by omega⟩
theorem Mk (hb : b < y.bins.length) (h : (!sv (nth a.first b) (nth y.bins b).first) = true) : false = kD y a :=
 (lZ fun hf => zy h (hf.first b hb)).symm
theorem Mg (hb : b < y.bins.length) (ht : t ≤ y.D) (h : (!sv (cw y a (b : Nat) (t : Nat)) ⟨0, (nth y.bins b).holds⟩) = true) : false = kD y a :=
 (lZ fun hf => zy h (by rw [oH]; exact hf.cont b t hb ht)).symm
theorem Mi (hk : k < y.moves.length) (h : (!sv (nth a.cD k) (nth y.moves k).sacks) = true) : false = kD y a :=
 (lZ fun hf => zy h (hf.cD k hk)).symm
theorem Mw (hr : y.cm) (hl : zx y a) (h1 : ∀ b, b < y.bins.length → ((nth y.bins b).first.lo ≤ nth a.first b ∧ nth a.first b ≤ (nth y.bins b).first.hi) ∧ ∀ t : Nat, t ≤ y.D → 0 ≤ cw y a (b : Nat) (t : Nat) ∧ cw y a (b : Nat) (t : Nat) ≤ (nth y.bins b).holds)
    (h2 : ∀ k, k < y.moves.length → (nth y.moves k).sacks.lo ≤ nth a.cD k ∧ nth a.cD k ≤ (nth y.moves k).sacks.hi) : (!(y.levels.any fun l => !sv (cw y a l.bin l.day) l.sacks)) = kD y a := by
  have key : ∀ i, i < y.levels.length → cw y a (nth y.levels i).bin (nth y.levels i).day = dg y a (nth y.levels i).bin.toNat (nth y.levels i).day.toNat := fun i hi => by
    obtain ⟨g1, g2, _⟩ := hr.level _ (dD hi)
    rw [← oH, Int.toNat_of_nonneg g1.1, Int.toNat_of_nonneg g2.1]
  cases e : y.levels.any fun l => !sv (cw y a l.bin l.day) l.sacks with
  | true =>
    refine (lZ fun hf => ?_).symm
    obtain ⟨l, hl', h⟩ := List.any_eq_true.1 e
    obtain ⟨i, hi, rfl⟩ := pW hl'
    exact zy h (by rw [key i hi]; exact hf.level i hi rfl)
  | false =>
    refine (Es ⟨hl, fun b hb => (h1 b hb).1, fun b t hb ht => by rw [← oH]; exact (h1 b hb).2 t ht, h2, fun i hi _ => ?_⟩).symm
    rw [List.any_eq_false] at e
    rw [← key i hi]
    exact ug (by rw [← Bool.not_eq_true]; exact e _ (dD hi))
end
attribute [local irreducible] cw sv kD
attribute [local irreducible] iY fX nD qR jG jJ jI jK jF qu jD qw eJ gm qF gx ql nth fU dn af dy bodyPost Exit.then Exit.inBlock Code.wp Code.wpIn qh jH qi qX jC eT cZ cq bodyPostM eR
set_option maxRecDepth 100000 in
theorem Il (y : bD) (a : ep) (ha : J2 y a) (l : Level) (h0 : 0 ≤ l.bin) (h1 : l.bin.toNat < a.first.length) : dy Tryz.prog 85 [Ty.agg (dY.tys l), Ty.pp (bl y), Ty.pp (eB a)] (Ty.bool (!sv (cw y a l.bin l.day) l.sacks)) := by
 refine av Tryz.func85 rfl (by decide) Tryz.ntmps85 (by exact Nat.le_of_ble_eq_true rfl) fun w0 M0 => ?_
 refine aE (aA (bR rfl (dX rfl (aD (aC (aE (cW mixed rfl ?_)))))))
 refine aZ rfl rfl rfl (by exact Nat.le_of_ble_eq_true rfl) ?_
 refine aZ rfl rfl rfl (by exact Nat.le_of_ble_eq_true rfl) ?_
 refine aQ rfl rfl rfl rfl rfl (by decide) ?_
 refine aL rfl rfl rfl rfl ?_
 refine aQ rfl rfl rfl rfl rfl (by decide) ?_
 refine aL rfl rfl rfl rfl (aj (iF y a ha l.bin l.day h0 h1) rfl rfl rfl rfl rfl ?_)
 refine aQ rfl rfl rfl rfl rfl (by decide) ?_
 refine aZ rfl rfl rfl (by exact Nat.le_of_ble_eq_true rfl) ?_
 refine aj (sC _ _) rfl rfl rfl rfl rfl (dm rfl (dX rfl (aD ?_)))
 refine ⟨by kernel_rfl, ?_⟩
 refine aC (ay (bh rfl rfl ?_))
 all_goals exact cM rfl rfl
set_option maxRecDepth 100000 in
theorem Ll (y : bD) (a : ep) (hr : y.cm) (hb : NI a) : dy Tryz.prog 20 [ff y, qM a] (Ty.bool (kD y a)) := by
 refine av Tryz.func20 rfl (by decide) Tryz.ntmps20 (by exact Nat.le_of_ble_eq_true rfl) fun w0 M0 => ?_
 have hs1 := hr.bins
 have hs2 := hr.moves
 have hs3 := hr.days
 have hs4 := hr.levels
 have hD := D_eq hr
 have hfew := hb.ou
 refine aE (aA (bR rfl (bR rfl (dX rfl (aD (aC (aE (aE (aA ?_)))))))))
 refine aQ rfl rfl rfl rfl rfl (by decide) ?_
 refine aL rfl rfl rfl rfl (c9 rfl rfl rfl ?_)
 refine aQ rfl rfl rfl rfl rfl (by decide) ?_
 refine aL rfl rfl rfl rfl (c9 rfl rfl rfl (bE rfl rfl rfl (gR rfl ?_)))
 apply aS (s := 17) rfl rfl rfl
 ·intro hg; apply aU; (refine aQ rfl rfl rfl rfl rfl (by decide) ?_); refine aD ?_; exact rfl
 ·exact rfl
 ·exact rfl
 apply aS (s := 17) rfl rfl rfl
 ·intro hg; apply aP (s := 18) rfl (by (rw [hg]; rfl)); apply aU; (refine aL rfl rfl rfl rfl ?_); refine aD ?_; exact rfl
 ·exact rfl
 ·exact rfl
 apply aS (s := 17) rfl rfl rfl
 ·intro hg; apply aP (s := 19) rfl (by (rw [hg]; rfl)); apply aU; (refine c9 rfl rfl rfl ?_); refine aD ?_; exact rfl
 ·exact rfl
 ·exact rfl
 apply aS (s := 17) rfl rfl rfl
 ·intro hg; apply aU; (refine aQ rfl rfl rfl rfl rfl (by decide) ?_); refine aD ?_; exact rfl
 ·exact rfl
 ·exact rfl
 apply aS (s := 17) rfl rfl rfl
 ·intro hg; apply aP (s := 21) rfl (by (rw [hg]; rfl)); apply aU; (refine aL rfl rfl rfl rfl ?_); refine aD ?_; exact rfl
 ·exact rfl
 ·exact rfl
 apply aS (s := 17) rfl rfl rfl
 ·intro hg; apply aP (s := 22) rfl (by (rw [hg]; rfl)); apply aU; (refine c9 rfl rfl rfl ?_); refine aD ?_; exact rfl
 ·exact rfl
 ·exact rfl
 apply aS (s := 17) rfl rfl rfl
 ·intro hg; apply aP (s := 20) rfl (by (rw [hg]; rfl)); apply aP (s := 23) rfl (by (rw [hg]; rfl)); apply aU; (refine bE rfl rfl rfl ?_); refine aD ?_; exact rfl
 ·exact rfl
 ·exact rfl
 refine mQ rfl rfl (aD (aC ?_))
 refine cv rfl (fun hc1 => ?_) (fun hc1 => ?_)
 ·
  refine aE (aA (dX rfl (aD (aC (ay (aV (bh rfl rfl ?_)))))))
  all_goals skip
  exact az rfl rfl (congrArg Ty.bool (MS hc1))
 refine ak (aC (aE (aE ?_)))
 have hl := G9 hc1
 have hl1 := hl.first
 have hl2 := hl.cD
 have ha : J2 y a := ⟨by omega, hb.ou, hb.first, hb.cD⟩
 refine aA ?_
 refine aQ rfl rfl rfl rfl rfl (by decide) ?_
 refine aL rfl rfl rfl rfl (c9 rfl rfl rfl (bQ rfl (aD (aC (aq ?_)))))
 refine cj (fun (k : {k : Nat // k ≤ y.bins.length ∧ ∀ b, b < k → ((nth y.bins b).first.lo ≤ nth a.first b ∧ nth a.first b ≤ (nth y.bins b).first.hi) ∧ ∀ t : Nat, t ≤ y.D → 0 ≤ cw y a (b : Nat) (t : Nat) ∧ cw y a (b : Nat) (t : Nat) ≤ (nth y.bins b).holds}) => live [(2, Ty.pp (bl y)), (3, Ty.pp (eB a)), (27, Ty.sl eH y.bins), (28, Ty.int .i64 y.bins.length), (29, Ty.int .i64 (k.1 : Nat))] []) (fun k => y.bins.length - k.1) (⟨0, Nat.zero_le _, fun b h => absurd h (Nat.not_lt_zero b)⟩) ?_ fun k => ?_
 ·(refine dK.mk' ?_ ?_ <;> (repeat' (first | exact aJ | exact aI | refine aB ?_ (Ty.aW _) | refine aB ?_ (Ty.aF _))))
 have hk := k.2.1
 refine aE (aA (bE rfl rfl rfl (aD (aC (aE ?_)))))
 refine au rfl (fun hc2 => ?_) (fun hc2 => ?_)
 ·
  refine ak (aC (aE (aq (aE (aA (bQ rfl ?_))))))
  refine bT rfl rfl rfl rfl rfl rfl (by omega) ?_
  refine aZ rfl rfl rfl (by exact Nat.le_of_ble_eq_true rfl) ?_
  refine cH rfl (by exact List.cons_ne_nil _ _) rfl ?_
  refine cF rfl ?_
  refine cJ rfl rfl (by decide) rfl rfl rfl rfl rfl rfl ?_
  refine aD (aC (aE (aE (cW mixed rfl ?_))))
  refine aQ rfl rfl rfl rfl rfl (by decide) ?_
  refine aL rfl rfl rfl rfl (bQ rfl ?_)
  refine bT rfl rfl rfl rfl rfl rfl (by omega) ?_
  refine aL rfl rfl rfl rfl ?_
  refine aN rfl rfl rfl rfl rfl (by decide) ?_
  refine bU rfl rfl (by decide) rfl rfl (by exact Nat.le_of_ble_eq_true rfl) ?_
  refine aj (sC _ _) rfl rfl rfl rfl rfl (dm rfl (aD ?_))
  refine ⟨by kernel_rfl, ?_⟩
  refine aC ?_
  refine cv rfl (fun hc3 => ?_) (fun hc3 => ?_)
  ·
   refine aE (aA (dX rfl (aD (aC (ay (aV (bG (aV (aV ?_)))))))))
   refine bG (aV (bh rfl rfl ?_))
   all_goals skip
   exact az rfl rfl (congrArg Ty.bool (Mk (b := k.1) (by omega) hc3))
  refine ak (aC (aE (aA ?_)))
  refine aQ rfl rfl rfl rfl rfl (by decide) ?_
  refine aL rfl rfl rfl rfl ?_
  refine b9 rfl rfl (by omega) (by omega) ?_
  refine bQ rfl (aD (aC (aq ?_)))
  refine cj (fun (t : {t : Nat // t ≤ y.D + 1 ∧ ∀ s : Nat, s < t → 0 ≤ cw y a (k.1 : Nat) (s : Nat) ∧ cw y a (k.1 : Nat) (s : Nat) ≤ (nth y.bins k.1).holds}) => live [(2, Ty.pp (bl y)), (3, Ty.pp (eB a)), (5, Ty.int .i64 (k.1 : Nat)), (6, Ty.ptr 7 0), (27, Ty.sl eH y.bins), (28, Ty.int .i64 y.bins.length), (29, Ty.int .i64 (k.1 : Nat)), (45, Ty.int .i64 (y.days + 1)), (46, Ty.int .i64 (t.1 : Nat))] [(7, Cont.cells 39 (eH.tys (nth y.bins k.1)))]) (fun t => y.D + 1 - t.1) (⟨0, Nat.zero_le _, fun s h => absurd h (Nat.not_lt_zero s)⟩) ?_ fun t => ?_
  ·(refine dK.mk' ?_ ?_ <;> (repeat' (first | exact aJ | exact aI | refine aB ?_ (Ty.aW _) | refine aB ?_ (Ty.aF _) | refine aG rfl (Cont.aF _) ?_)))
  have ht := t.2.1
  refine aE (aA (bE rfl rfl rfl (aD (aC (aE ?_)))))
  refine au rfl (fun hc4 => ?_) (fun hc4 => ?_)
  ·
   refine ak (aC (aE (aq (aE (aA (bQ rfl (cF rfl (aD (aC ?_)))))))))
   refine aE (cW mixed rfl ?_)
   refine aZ rfl rfl rfl (by exact Nat.le_of_ble_eq_true rfl) ?_
   refine aZ rfl rfl rfl (by exact Nat.le_of_ble_eq_true rfl) ?_
   refine bQ rfl (bQ rfl ?_)
   refine aj (iF y a ha ((k.1 : Nat) : Int) ((t.1 : Nat) : Int) (Int.natCast_nonneg _) (by omega)) rfl rfl rfl rfl rfl ?_
   refine aN rfl rfl rfl rfl rfl (by decide) ?_
   refine aX rfl rfl (by decide) rfl rfl rfl ?_
   refine aj (iW _ _) rfl rfl rfl rfl rfl (aj (sC _ _) rfl rfl rfl rfl rfl (dm rfl (aD ?_)))
   refine ⟨by kernel_rfl, ?_⟩
   refine aC ?_
   refine cv rfl (fun hc5 => ?_) (fun hc5 => ?_)
   ·
    refine aE (aA (dX rfl (aD (aC (ay (bG (aV (aV (bG ?_)))))))))
    refine bG (aV (aV (bG (aV (bh rfl rfl ?_)))))
    all_goals skip
    exact az rfl rfl (congrArg Ty.bool (Mg (b := k.1) (t := t.1) (by omega) (by omega) hc5))
   refine ak (bV (aC (aA ?_)))
   refine b9 rfl rfl (by omega) (by omega) ?_
   refine bQ rfl (aD ?_)
   refine bZ (⟨t.1 + 1, by omega, fun s h => (Nat.lt_succ_iff_lt_or_eq.1 h).elim (t.2.2 s) fun e => by subst e; exact ug hc5⟩) ?_ (by show y.D + 1 - (t.1 + 1) < y.D + 1 - t.1; omega)
   (refine dK.mk' ?_ ?_ <;> (repeat' (first | exact aJ | exact aI | refine aB ?_ (Ty.aW _) | refine aB ?_ (Ty.aF _) | refine aG rfl (Cont.aF _) ?_)))
   all_goals skip
  refine cg (aR (aR (bA rfl (bV (aC (aA ?_))))))
  refine b9 rfl rfl (by omega) (by omega) ?_
  refine bQ rfl (aD ?_)
  refine bZ (⟨k.1 + 1, by omega, fun b h => (Nat.lt_succ_iff_lt_or_eq.1 h).elim (k.2.2 b) fun e => by subst e; exact ⟨ug hc3, fun s h => t.2.2 s (by omega)⟩⟩) ?_ (by show y.bins.length - (k.1 + 1) < y.bins.length - k.1; omega)
  (refine dK.mk' ?_ ?_ <;> (repeat' (first | exact aJ | exact aI | refine aB ?_ (Ty.aW _) | refine aB ?_ (Ty.aF _))))
  all_goals skip
 refine cg (aR (aR (bA rfl (aC (aE (aE (aA ?_)))))))
 refine aQ rfl rfl rfl rfl rfl (by decide) ?_
 refine aL rfl rfl rfl rfl (c9 rfl rfl rfl (bQ rfl (aD (aC (aq ?_)))))
 refine cj (fun (m : {k : Nat // k ≤ y.moves.length ∧ ∀ i, i < k → (nth y.moves i).sacks.lo ≤ nth a.cD i ∧ nth a.cD i ≤ (nth y.moves i).sacks.hi}) => live [(2, Ty.pp (bl y)), (3, Ty.pp (eB a)), (62, Ty.sl dQ y.moves), (63, Ty.int .i64 y.moves.length), (64, Ty.int .i64 (m.1 : Nat))] []) (fun m => y.moves.length - m.1) (⟨0, Nat.zero_le _, fun b h => absurd h (Nat.not_lt_zero b)⟩) ?_ fun m => ?_
 ·(refine dK.mk' ?_ ?_ <;> (repeat' (first | exact aJ | exact aI | refine aB ?_ (Ty.aW _) | refine aB ?_ (Ty.aF _))))
 have hm := m.2.1
 refine aE (aA (bE rfl rfl rfl (aD (aC (aE ?_)))))
 refine au rfl (fun hc6 => ?_) (fun hc6 => ?_)
 ·
  refine ak (aC (aE (aq (aE (aA (bQ rfl ?_))))))
  refine bT rfl rfl rfl rfl rfl rfl (by omega) ?_
  refine aZ rfl rfl rfl (by exact Nat.le_of_ble_eq_true rfl) ?_
  refine cH rfl (by exact List.cons_ne_nil _ _) rfl ?_
  refine cF rfl ?_
  refine cJ rfl rfl (by decide) rfl rfl rfl rfl rfl rfl ?_
  refine aD (aC (aE (cW mixed rfl ?_)))
  refine aQ rfl rfl rfl rfl rfl (by decide) ?_
  refine aL rfl rfl rfl rfl (bQ rfl ?_)
  refine bT rfl rfl rfl rfl rfl rfl (by omega) ?_
  refine aL rfl rfl rfl rfl ?_
  refine aN rfl rfl rfl rfl rfl (by decide) ?_
  refine bU rfl rfl (by decide) rfl rfl (by exact Nat.le_of_ble_eq_true rfl) ?_
  refine aj (sC _ _) rfl rfl rfl rfl rfl (dm rfl (aD ?_))
  refine ⟨by kernel_rfl, ?_⟩
  refine aC ?_
  refine cv rfl (fun hc7 => ?_) (fun hc7 => ?_)
  ·
   refine aE (aA (dX rfl (aD (aC (ay (bG (aV (aV (bG ?_)))))))))
   refine aV (bh rfl rfl ?_)
   all_goals skip
   exact az rfl rfl (congrArg Ty.bool (Mi (k := m.1) (by omega) hc7))
  refine ak (bV (aC (aA ?_)))
  refine b9 rfl rfl (by omega) (by omega) ?_
  refine bQ rfl (aD ?_)
  refine bZ (⟨m.1 + 1, by omega, fun i h => (Nat.lt_succ_iff_lt_or_eq.1 h).elim (m.2.2 i) fun e => by subst e; exact ug hc7⟩) ?_ (by show y.moves.length - (m.1 + 1) < y.moves.length - m.1; omega)
  (refine dK.mk' ?_ ?_ <;> (repeat' (first | exact aJ | exact aI | refine aB ?_ (Ty.aW _) | refine aB ?_ (Ty.aF _))))
  all_goals skip
 refine cg (aR (aR (bA rfl (aC (aE (aA ?_))))))
 refine aQ rfl rfl rfl rfl rfl (by decide) ?_
 refine aL rfl rfl rfl rfl (dL rfl ?_)
 refine aj (lf y.levels (Ty.jX 85 [Ty.pp (bl y), Ty.pp (eB a)]) rfl (fun l => !sv (cw y a l.bin l.day) l.sacks) rfl rfl (fun l h => dU (Il y a ha l (hr.level l h).2.1.1 (by have := (hr.level l h).2.1; omega)) rfl rfl rfl rfl rfl rfl)) rfl rfl rfl rfl rfl ?_
 refine dm rfl (dX rfl (aD (aC (ay (bh rfl rfl ?_)))))
 all_goals skip
 exact az rfl rfl (congrArg Ty.bool (Mw hr hl (fun b hb => k.2.2 b (by omega)) (fun i hi => m.2.2 i (by omega))))
end Go.Proofs.YtelbollidfdcjaaGreat
namespace Go.Proofs.YtelbollidfdcjaaGreat
open Go Go.T
def wA (v : Bool) (d : Md) : ep := if v = true then NH d.cU d.real else d.real
section
variable {d : Md} {v : Bool} {c : Nat → Bool} {y : bD} {b t k n : Nat} {l : List w5}
theorem Cu (d : Md) : ∀ x ∈ d.real.first, 0 ≤ x ∧ x ≤ 59 := (d.qE d.nb).first
theorem C6 (hd : d.Ok) : ∀ x ∈ d.real.cD, 0 ≤ x ∧ x ≤ 39 := (d.qH hd d.many (Nat.le_refl _)).num
theorem NU (hd : d.Ok) : NI (wA v d) := by
  have h1 := Cu d
  have h2 := C6 hd
  have h3 := (d.lens hd).2.2.2
  have h4 := (d.uT hd).1
  have h5 := (d.lens hd).1.2
  cases v with
  | true =>
    refine ⟨?_, fun x hx => ?_, fun x hx => ?_⟩
    · show (List.replicate _ 0).length ≤ 1000; rw [List.length_replicate]; have := F0 d.cU.moves; omega
    · have := h1 x hx; omega
    · have := (List.mem_replicate.1 hx).2; omega
  | false =>
    refine ⟨?_, fun x hx => ?_, fun x hx => ?_⟩
    · show d.real.cD.length ≤ 1000; omega
    · have := h1 x hx; omega
    · have := h2 x hx; omega
variable {f : Nat → Nat → Int}
end
end Go.Proofs.YtelbollidfdcjaaGreat
namespace Go.Proofs.YtelbollidfdcjaaGreat
open Go Go.T
set_option maxHeartbeats 4000000
section
variable {α : Type} {p : α → Bool} {l : List α} {k : Nat}
end
section
variable {y : bD} {b c : Bool}
end
attribute [local irreducible] iY fX nD qR jG jJ jI jK jF qu jD qw eJ gm qF gx ql nth fU dn af dy bodyPost Exit.then Exit.inBlock Code.wp Code.wpIn qh jH qi qX jC eT cZ cq bodyPostM eR
end Go.Proofs.YtelbollidfdcjaaGreat
namespace Go.Proofs.YtelbollidfdcjaaGreat
open Go Go.T
set_option maxHeartbeats 6000000
section
variable {y : bD} {l : Level}
end
section
variable {y : bD} {m : Move}
end
attribute [local irreducible] bX
attribute [local irreducible] iY fX nD qR jG jJ jI jK jF qu jD qw eJ gm qF gx ql nth fU dn af dy bodyPost Exit.then Exit.inBlock Code.wp Code.wpIn qh jH qi qX jC eT cZ cq bodyPostM eR
end Go.Proofs.YtelbollidfdcjaaGreat
namespace Go.Proofs.YtelbollidfdcjaaGreat
open Go Go.T
section
variable {y : bD} {c : Nat → Bool} {a : ep} {l : Level} {b t k : Nat} {s s' : Span} {f : ep → Int}
theorem A2 {i : Nat} (h : i < 8) : nth bg i = true := by
 unfold bg; rw [iE (by rw [List.length_replicate]; exact h), List.getElem_replicate]
theorem Ai (hr : y.cm) : fL y (nth bg) a ↔ fL y (fun _ => true) a := by
 have h8 := hr.levels
 refine ⟨fun h => ⟨h.lens, h.first, h.cont, h.cD, fun i hi _ => h.level i hi (A2 (by omega))⟩, fun h => ⟨h.lens, h.first, h.cont, h.cD, fun i hi _ => h.level i hi rfl⟩⟩
structure Ng (y : bD) (l : Level) : Prop where
  day : 0 ≤ l.day ∧ l.day ≤ y.days
  bin : 0 ≤ l.bin ∧ l.bin < y.bins.length
  num : 0 ≤ l.sacks.lo ∧ l.sacks.hi ≤ 300
  ord : l.sacks.lo ≤ l.sacks.hi
theorem CA.le {y' : bD} {c' : Nat → Bool} {g : ep → Int} (h : CA y c f s) (h' : CA y' c' g s') (sub : ∀ a, fL y' c' a → fL y c a ∧ g a = f a) : s.lo ≤ s'.lo ∧ s'.hi ≤ s.hi := by
 obtain ⟨a1, f1, e1⟩ := h'.lo
 obtain ⟨a2, f2, e2⟩ := h'.hi
 have h1 := h.all a1 (sub a1 f1).1
 have h2 := h.all a2 (sub a2 f2).1
 rw [← (sub a1 f1).2] at h1
 rw [← (sub a2 f2).2] at h2
 omega
structure xQ (y z : bD) : Prop where
  days : z.days = y.days
  bins : z.bins = y.bins
  moves : z.moves = y.moves
  less : ∀ a, fL z (fun _ => true) a → fL y (fun _ => true) a
variable {z : bD}
theorem xQ.D (h : xQ y z) : z.D = y.D := by unfold bD.D; rw [h.days]
theorem xQ.cont (h : xQ y z) : dg z a b t = dg y a b t := by unfold dg uP; rw [h.moves]
theorem xQ.fits (h : xQ y z) (hy : y.cm) (hz : z.cm) (ha : fL z (nth bg) a) : fL y (nth bg) a := (Ai hy).2 (h.less a ((Ai hz).1 ha))
theorem rj (hr : y.cm) (hf : fL y c a) (hb : b < y.bins.length) (ht : t ≤ y.D) : 0 ≤ dg y a b t ∧ dg y a b t ≤ 300 := by
 have h := hf.cont b t hb ht
 have hh := (hr.bin _ (dD hb)).1
 omega
end
end Go.Proofs.YtelbollidfdcjaaGreat
namespace Go.Proofs.YtelbollidfdcjaaGreat
open Go Go.T
def fq : Nat → Nat → List Int → Prop
  | _, _, [] => True
  | i, n, x :: xs => ∃ k : Nat, x = k ∧ i ≤ k ∧ k < n ∧ fq (k + 1) n xs
section
variable {h : List Int → Bool} {many lim n d i k : Nat} {l o w s x : List Int} {v : Int}
theorem fq.low : ∀ {l : List Int} {i : Nat}, fq (i + 1) n l → fq i n l
  | [], _, _ => trivial
  | _ :: _, _, ⟨k, e, h1, h2, h3⟩ => ⟨k, e, by omega, h2, h3⟩
theorem fq.low' : ∀ {l : List Int} {i k : Nat}, i ≤ k → fq k n l → fq i n l
  | [], _, _, _, _ => trivial
  | _ :: _, _, _, h, ⟨k, e, h1, h2, h3⟩ => ⟨k, e, by omega, h2, h3⟩
theorem fq.len : ∀ {l : List Int} {i : Nat}, fq i n l → l.length ≤ n - i
  | [], _, _ => Nat.zero_le _
  | _ :: xs, i, ⟨k, _, h1, h2, h3⟩ => by
    have := fq.len h3
    show xs.length + 1 ≤ n - i; omega
theorem fq.mem : ∀ {l : List Int} {i : Nat}, fq i n l → ∀ v ∈ l, ∃ k : Nat, v = k ∧ i ≤ k ∧ k < n
  | [], _, _, _, hv => by cases hv
  | _ :: _, i, ⟨k, e, h1, h2, h3⟩, v, hv => by
    rcases List.mem_cons.1 hv with rfl | hv
    · exact ⟨k, e, h1, h2⟩
    · obtain ⟨j, e, h4, h5⟩ := fq.mem h3 v hv
      exact ⟨j, e, by omega, h5⟩
theorem fq.nodup : ∀ {l : List Int} {i : Nat}, fq i n l → l.Nodup
  | [], _, _ => List.nodup_nil
  | x :: xs, i, ⟨k, e, h1, h2, h3⟩ => by
    refine List.nodup_cons.2 ⟨fun hm => ?_, fq.nodup h3⟩
    obtain ⟨j, e2, h4, _⟩ := fq.mem h3 _ hm
    omega
theorem fq.sub : ∀ {l k : List Int} {i : Nat}, k.Sublist l → fq i n l → fq i n k
  | _, _, _, .slnil, _ => trivial
  | _ :: _, _, _, .cons _ h, ⟨k, _, h1, _, h3⟩ => (fq.sub h h3).low' (by omega)
  | _ :: _, _ :: _, _, .cons_cons _ h, ⟨k, e, h1, h2, h3⟩ => ⟨k, e, h1, h2, fq.sub h h3⟩
theorem oO : ∀ (d : Nat) (l : List Int) (i : Nat), l.length < many → (x ∈ wQ many d l i ↔ ∃ s, fq i (i + d) s ∧ x = l ++ s ∧ x.length = many)
  | 0, l, i, hl => by
    constructor
    · intro h; exact absurd h List.not_mem_nil
    · rintro ⟨s, hs, rfl, e⟩
      have := hs.len
      rw [List.length_append] at e; omega
  | d + 1, l, i, hl => by
    unfold wQ
    rw [List.mem_append]
    constructor
    · rintro (h1 | h1)
      · by_cases e : (l ++ [(i : Int)]).length = many
        · rw [if_pos e] at h1
          have h1 := List.mem_singleton.1 h1
          exact ⟨[(i : Int)], ⟨i, rfl, Nat.le_refl _, by omega, trivial⟩, h1, by rw [h1]; exact e⟩
        · rw [if_neg e] at h1
          obtain ⟨s, hs, e1, e2⟩ := (oO d _ (i + 1) (by rw [List.length_append] at e ⊢; have e : ¬ l.length + 1 = many := e; show l.length + 1 < many; omega)).1 h1
          refine ⟨(i : Int) :: s, ⟨i, rfl, Nat.le_refl _, by omega, ?_⟩, by rw [e1, List.append_assoc]; rfl, e2⟩
          rwa [show i + (d + 1) = i + 1 + d by omega]
      · obtain ⟨s, hs, e1, e2⟩ := (oO d l (i + 1) hl).1 h1
        refine ⟨s, ?_, e1, e2⟩
        rw [show i + (d + 1) = i + 1 + d by omega]
        exact hs.low
    · rintro ⟨s, hs, ex, e0⟩
      have e2 : (l ++ s).length = many := by rw [← ex]; exact e0
      match s, hs, ex, e2 with
      | [], _, _, e2 => rw [List.append_nil] at e2; omega
      | y :: s, ⟨k, e, h1, h2, h3⟩, ex, e2 =>
        by_cases e3 : k = i
        · refine .inl ?_
          rw [← e3]
          rw [e] at ex
          by_cases e4 : (l ++ [(k : Int)]).length = many
          · rw [if_pos e4]
            have : s = [] := by
              rw [List.length_append] at e2 e4
              have e2 : l.length + (s.length + 1) = many := e2
              have e4 : l.length + 1 = many := e4
              exact List.length_eq_zero_iff.1 (by omega)
            rw [ex, this]
            exact List.mem_singleton.2 rfl
          · rw [if_neg e4]
            refine (oO d _ (k + 1) ?_).2 ⟨s, ?_, by rw [ex, List.append_assoc]; rfl, e0⟩
            · rw [List.length_append] at e2 e4 ⊢
              have e2 : l.length + (s.length + 1) = many := e2
              have e4 : ¬ l.length + 1 = many := e4
              show l.length + 1 < many; omega
            · rwa [show k + 1 + d = i + (d + 1) by omega]
        · refine .inr ((oO d l (i + 1) hl).2 ⟨y :: s, ⟨k, e, by omega, by omega, ?_⟩, ex, e0⟩)
          rwa [show i + 1 + d = i + (d + 1) by omega]
theorem BN : x ∈ zY many lim ↔ fq 0 lim x ∧ x.length = many := by
 unfold zY
 by_cases e : many = 0
 ·rw [if_pos e, List.mem_singleton]
  subst e
  exact ⟨fun h => by subst h; exact ⟨trivial, rfl⟩, fun h => List.length_eq_zero_iff.1 h.2⟩
 rw [if_neg e, oO lim [] 0 (by show 0 < many; omega), Nat.zero_add]
 exact ⟨fun ⟨s, h1, h2, h3⟩ => by rw [List.nil_append] at h2; subst h2; exact ⟨h1, h3⟩, fun h => ⟨x, h.1, rfl, h.2⟩⟩
theorem sF : x ∈ (List.range k).flatMap (fun k => zY k lim) ↔ fq 0 lim x ∧ x.length < k := by
 rw [List.mem_flatMap]
 refine ⟨fun ⟨j, hj, h1⟩ => ?_, fun ⟨h1, h2⟩ => ⟨x.length, List.mem_range.2 h2, BN.2 ⟨h1, rfl⟩⟩⟩
 have h2 := BN.1 h1
 exact ⟨h2.1, by rw [h2.2]; exact List.mem_range.1 hj⟩
theorem Bm (hs : fN h lim = some l) : fq 0 lim l ∧ h l = true ∧ ∀ x, fq 0 lim x → h x = true → l.length ≤ x.length := by
  unfold fN at hs
  have h1 := sF.1 (List.mem_of_find?_eq_some hs)
  refine ⟨h1.1, List.find?_some hs, fun x hx e => ?_⟩
  refine Decidable.byContradiction fun hn => ?_
  obtain ⟨r, hr⟩ := range_split (show l.length < lim + 1 from h1.2)
  rw [hr, List.flatMap_append, List.find?_append] at hs
  cases e2 : List.find? h ((List.range l.length).flatMap fun k => zY k lim) with
  | some u =>
    rw [e2] at hs
    have hs : some u = some l := hs
    cases hs
    have := (sF.1 (List.mem_of_find?_eq_some e2)).2
    omega
  | none =>
    have := List.find?_eq_none.1 e2 x (sF.2 ⟨hx, by omega⟩)
    exact this e
theorem xj (hs : fN h lim = none) : ∀ x, fq 0 lim x → h x = false := fun x hx => by
 unfold fN at hs
 have := List.find?_eq_none.1 hs x (sF.2 ⟨hx, by have := hx.len; omega⟩)
 exact Bool.eq_false_iff.2 this
theorem xH (hh : ∀ x, fq 0 lim x → h x = false) : fN h lim = none := by
 unfold fN
 rw [List.find?_eq_none]
 intro x hx e
 rw [hh x (sF.1 hx).1] at e; cases e
def fI (w : List Int) (n : Nat) : List Int := ((List.range n).filter fun i : Nat => !decide ((i : Int) ∈ w)).map fun i : Nat => (i : Int)
theorem CQ : fI w 0 = [] := rfl
theorem xm (h : (n : Int) ∈ w) : fI w (n + 1) = fI w n := by
 unfold fI; rw [List.range_succ, List.filter_append, List.filter_cons_of_neg (by simp [h]), List.filter_nil, List.append_nil]
theorem Al (h : ¬ (n : Int) ∈ w) : fI w (n + 1) = fI w n ++ [(n : Int)] := by
 unfold fI; rw [List.range_succ, List.filter_append, List.filter_cons_of_pos (by simp [h]), List.filter_nil, List.map_append]; rfl
theorem jy : v ∈ fI w n ↔ (∃ k : Nat, v = k ∧ k < n) ∧ ¬ v ∈ w := by
 unfold fI
 rw [List.mem_map]
 constructor
 ·rintro ⟨k, hk, rfl⟩
  rw [List.mem_filter, List.mem_range] at hk
  exact ⟨⟨k, rfl, hk.1⟩, by simpa using hk.2⟩
 rintro ⟨⟨k, rfl, hk⟩, h2⟩
 exact ⟨k, List.mem_filter.2 ⟨List.mem_range.2 hk, by simpa using h2⟩, rfl⟩
theorem B5 (n : Nat) : (fI w n).length ≤ n := by
 unfold fI; rw [List.length_map]
 exact Nat.le_trans (List.length_filter_le _ _) (by rw [List.length_range]; exact Nat.le_refl _)
theorem rm : ∀ {l : List Int} {i : Nat}, fq i n l → i ≤ n → fq i (n + 1) (l ++ [(n : Int)])
  | [], _, _, h => ⟨n, rfl, h, by omega, trivial⟩
  | _ :: _, _, ⟨k, e, h1, h2, h3⟩, _ => ⟨k, e, h1, by omega, rm h3 (by omega)⟩
theorem fq.up : ∀ {l : List Int} {i : Nat}, fq i n l → fq i (n + 1) l
  | [], _, _ => trivial
  | _ :: _, _, ⟨k, e, h1, h2, h3⟩ => ⟨k, e, h1, by omega, fq.up h3⟩
theorem kN : ∀ n, fq 0 n (fI w n)
  | 0 => trivial
  | n + 1 => by
    by_cases h : (n : Int) ∈ w
    · rw [xm h]; exact (kN n).up
    · rw [Al h]; exact rm (kN n) (by omega)
theorem uz {α : Type} [DecidableEq α] : ∀ {l k : List α}, l.Nodup → (∀ x ∈ l, x ∈ k) → l.length ≤ k.length
  | [], _, _, _ => Nat.zero_le _
  | x :: l, k, h, hs => by
    have h1 := List.nodup_cons.1 h
    have h2 : x ∈ k := hs x List.mem_cons_self
    have h3 := uz (l := l) (k := k.erase x) h1.2 fun z hz => (List.mem_erase_of_ne (fun e => h1.1 (by rw [← e]; exact hz))).2 (hs z (List.mem_cons_of_mem _ hz))
    rw [List.length_erase_of_mem h2] at h3
    have := List.length_pos_of_mem h2
    show l.length + 1 ≤ k.length; omega
theorem HK (hw : fq 0 n w) : (fI w n).length + w.length = n := by
  have h1 : (fI w n ++ w).length ≤ ((List.range n).map fun i : Nat => (i : Int)).length := by
    refine uz (List.nodup_append.2 ⟨(kN n).nodup, hw.nodup, fun a ha b hb e => ?_⟩) fun x hx => ?_
    · subst e; exact (jy.1 ha).2 hb
    · rw [List.mem_map]
      rcases List.mem_append.1 hx with h | h
      · obtain ⟨⟨k, rfl, hk⟩, _⟩ := jy.1 h
        exact ⟨k, List.mem_range.2 hk, rfl⟩
      · obtain ⟨k, rfl, _, hk⟩ := hw.mem x h
        exact ⟨k, List.mem_range.2 hk, rfl⟩
  have h2 : ((List.range n).map fun i : Nat => (i : Int)).length ≤ (fI w n ++ w).length := by
    have hnd : ∀ n, fq 0 n ((List.range n).map fun i : Nat => (i : Int)) := fun n => by
      induction n with
      | zero => exact trivial
      | succ n ih => rw [List.range_succ, List.map_append]; exact rm ih (by omega)
    refine uz (hnd n).nodup fun x hx => ?_
    obtain ⟨k, hk, rfl⟩ := List.mem_map.1 hx
    rw [List.mem_append]
    by_cases e : (k : Int) ∈ w
    · exact .inr e
    · exact .inl (jy.2 ⟨⟨k, rfl, List.mem_range.1 hk⟩, e⟩)
  rw [List.length_append, List.length_map, List.length_range] at h1 h2
  omega
end
section
variable {y : bD} {l k w : List Int} {o o' : Bool} {i n : Nat} {a : ep} {v : Int}
theorem yR (h : i < 8) : nth (bf l o) i = iS l o i := by unfold bf; rw [lG _ h]
theorem oM (hr : y.cm) : dI y (bf l o) = true ↔ ∃ a, fL y (iS l o) a := by
 have h8 := hr.levels
 rw [sO hr]
 constructor
 ·exact fun ⟨a, h⟩ => ⟨a, h.lens, h.first, h.cont, h.cD, fun i hi e => h.level i hi (by rw [yR (by omega)]; exact e)⟩
 exact fun ⟨a, h⟩ => ⟨a, h.lens, h.first, h.cont, h.cD, fun i hi e => h.level i hi (by rw [yR (by omega)] at e; exact e)⟩
theorem mo (hr : y.cm) (h : ∀ i, i < y.levels.length → iS k o' i = true → iS l o i = true) (ha : dI y (bf l o) = true) : dI y (bf k o') = true := by
 obtain ⟨a, f⟩ := (oM hr).1 ha
 exact (oM hr).2 ⟨a, f.lens, f.first, f.cont, f.cD, fun i hi e => f.level i hi (h i hi e)⟩
theorem AW : iS l false i = decide ((i : Int) ∈ l) := by unfold iS; cases decide ((i : Int) ∈ l) <;> rfl
theorem tP : iS l true i = !decide ((i : Int) ∈ l) := by unfold iS; cases decide ((i : Int) ∈ l) <;> rfl
theorem nE (hr : y.cm) : cV y = 0 ↔ dI y (bf [] true) = true := by
 rw [F7 (jM hr), oM hr]
 have h8 := hr.levels
 constructor
 ·exact fun ⟨a, h⟩ => ⟨a, h.lens, h.first, h.cont, h.cD, fun i hi _ => h.level i hi (A2 (by omega))⟩
 exact fun ⟨a, h⟩ => ⟨a, h.lens, h.first, h.cont, h.cD, fun i hi _ => h.level i hi (by rw [tP]; rfl)⟩
noncomputable def ld (y : bD) (l : List Int) : Bool := !dI y (bf l false)
noncomputable def CL (y : bD) (l : List Int) : Bool := dI y (bf l true)
theorem wW (hr : y.cm) (ho : cV y = 0) : fN (ld y) y.levels.length = none :=
 xH fun x _ => by
  unfold ld
  rw [mo hr (fun i hi _ => by rw [tP]; rfl) ((nE hr).1 ho)]; rfl
theorem C1 (hr : y.cm) (ho : ¬ cV y = 0) : ∃ l, fN (ld y) y.levels.length = some l := by
  cases e : fN (ld y) y.levels.length with
  | some l => exact ⟨l, rfl⟩
  | none =>
    have h1 := xj e _ (kN (w := []) y.levels.length)
    unfold ld at h1
    have h1 : dI y (bf (fI [] y.levels.length) false) = true := by
      cases h2 : dI y (bf (fI [] y.levels.length) false) with
      | true => rfl
      | false => rw [h2] at h1; cases h1
    exact absurd ((nE hr).2 (mo hr (fun i hi _ => by rw [AW, decide_eq_true_eq]; exact jy.2 ⟨⟨i, rfl, hi⟩, List.not_mem_nil⟩) h1)) ho
end
end Go.Proofs.YtelbollidfdcjaaGreat
namespace Go.Proofs.YtelbollidfdcjaaGreat
open Go Go.T
structure uV where
  ls : List Level
  q : Sk
  bad : Nat
def GH (s : uV) (k : Nat) : Level := ⟨(nth s.ls k).day, (nth s.ls k).bin, ⟨bN (aT s.q) 100, bN (aT s.q) 100 + bN (aT (aT s.q)) 9⟩⟩
def Bz (k : Nat) (s : uV) : uV := if jj s.q 2 = true then ⟨s.ls.set k (GH s k), aT (aT (aT s.q)), s.bad + 1⟩ else ⟨s.ls, aT s.q, s.bad⟩
def cS (ls : List Level) (q : Sk) : Nat → uV
  | 0 => ⟨ls, q, 0⟩
  | k + 1 => Bz k (cS ls q k)
section
variable {ls : List Level} {q : Sk} {k i n : Nat} {s : uV}
theorem oW : (⟨ls, q, 0⟩ : uV) = cS ls q 0 := rfl
theorem rR (h : jj (cS ls q k).q 2 = true) : (⟨(cS ls q k).ls.set k (GH (cS ls q k) k), aT (aT (aT (cS ls q k).q)), (cS ls q k).bad + 1⟩ : uV) = cS ls q (k + 1) := by
 show _ = Bz k (cS ls q k); unfold Bz; rw [if_pos h]
theorem wH (h : jj (cS ls q k).q 2 = false) : (⟨(cS ls q k).ls, aT (cS ls q k).q, (cS ls q k).bad⟩ : uV) = cS ls q (k + 1) := by
 show _ = Bz k (cS ls q k); unfold Bz; rw [if_neg (by rw [h]; decide)]
structure HA (ls : List Level) (q : Sk) (k : Nat) (s : uV) : Prop where
  len : s.ls.length = ls.length
  low : q.taken ≤ s.q.taken
  high : s.q.taken ≤ q.taken + 3 * k
  IX : ∀ i, i < ls.length → ((nth s.ls i).day = (nth ls i).day ∧ (nth s.ls i).bin = (nth ls i).bin) ∧ ((nth s.ls i).sacks = (nth ls i).sacks ∨ (0 ≤ (nth s.ls i).sacks.lo ∧ (nth s.ls i).sacks.hi ≤ 300) ∧ (nth s.ls i).sacks.lo ≤ (nth s.ls i).sacks.hi)
  diff : ∃ B : List Int, fq 0 k B ∧ B.length = s.bad ∧ ∀ i, i < ls.length → ¬ (i : Int) ∈ B → nth s.ls i = nth ls i
theorem sM : ∀ k, k ≤ ls.length → HA ls q k (cS ls q k)
  | 0, _ => ⟨rfl, Int.le_refl _, by show q.taken ≤ q.taken + _; omega, fun _ _ => ⟨⟨rfl, rfl⟩, .inl rfl⟩, [], trivial, rfl, fun _ _ _ => rfl⟩
  | k + 1, hk => by
    have h : HA ls q k (cS ls q k) := sM k (by omega)
    obtain ⟨B, hB, hl, hd⟩ := h.diff
    have h1 := h.low; have h2 := h.high
    show HA ls q (k + 1) (Bz k (cS ls q k))
    generalize cS ls q k = s at h hB hl hd h1 h2
    have hlen := h.len
    unfold Bz
    split
    · have g1 := cE s.q
      have g2 := cE (aT s.q)
      have g3 := cE (aT (aT s.q))
      have v1 := cQ (aT s.q) 100
      have v2 := cQ (aT (aT s.q)) 9
      refine ⟨by rw [List.length_set]; exact hlen, by show _ ≤ (aT _).taken; omega, by show (aT _).taken ≤ _; omega, fun i hi => ?_, B ++ [(k : Int)], rm hB (Nat.zero_le _), by rw [List.length_append, hl]; rfl, fun i hi hn => ?_⟩
      · show ((nth (s.ls.set k _) i).day = _ ∧ _) ∧ _
        rw [ij (by omega)]
        by_cases e : k = i
        · subst e
          rw [if_pos rfl]
          exact ⟨(h.IX k hi).1, .inr ⟨⟨v1.1, by show bN _ 100 + bN _ 9 ≤ 300; omega⟩, by show bN _ 100 ≤ bN _ 100 + bN _ 9; omega⟩⟩
        · rw [if_neg e]; exact h.IX i hi
      · have hn' : ¬ (i : Int) ∈ B := fun hm => hn (List.mem_append_left _ hm)
        have hne : ¬ k = i := fun e => hn (by subst e; exact List.mem_append_right _ (List.mem_singleton.2 rfl))
        show nth (s.ls.set k _) i = _
        rw [ij (by omega), if_neg hne]
        exact hd i hi hn'
    · have g1 := cE s.q
      exact ⟨hlen, by show _ ≤ (aT _).taken; omega, by show (aT _).taken ≤ _; omega, h.IX, B, hB.up, hl, hd⟩
end
def qZ (y : bD) (q : Sk) : bD := ⟨y.days, y.bins, y.moves, (cS y.levels q y.levels.length).ls⟩
section
variable {y : bD} {q : Sk} {a : ep} {l w : List Int} {k i : Nat} {v : Int}
theorem vo : (qZ y q).levels.length = y.levels.length := (sM (ls := y.levels) (q := q) _ (Nat.le_refl _)).len
theorem CX (hr : y.cm) : (qZ y q).cm := by
 have h := sM (ls := y.levels) (q := q) _ (Nat.le_refl _)
 have hl := vo (y := y) (q := q)
 refine ⟨hr.days, hr.bins, hr.moves, by rw [hl]; exact hr.levels, hr.bin, hr.move, fun x hx => ?_⟩
 obtain ⟨i, hi, rfl⟩ := pW hx
 rw [hl] at hi
 obtain ⟨⟨e1, e2⟩, e3⟩ := h.IX i hi
 have h0 := hr.level _ (dD hi)
 have e1 : (nth (qZ y q).levels i).day = _ := e1
 have e2 : (nth (qZ y q).levels i).bin = _ := e2
 rw [e1, e2]
 refine ⟨h0.1, h0.2.1, ?_⟩
 rcases e3 with e3 | e3
 ·have e3 : (nth (qZ y q).levels i).sacks = _ := e3
  rw [e3]; exact h0.2.2
 exact e3
theorem Ey (hf : fL y (fun _ => true) a) : ∃ B, fq 0 y.levels.length B ∧ B.length = (cS y.levels q y.levels.length).bad ∧ fL (qZ y q) (iS B true) a := by
 obtain ⟨B, h1, h2, h3⟩ := (sM (ls := y.levels) (q := q) _ (Nat.le_refl _)).diff
 refine ⟨B, h1, h2, ⟨hf.lens.first, hf.lens.cD⟩, hf.first, hf.cont, hf.cD, fun i hi hc => ?_⟩
 rw [tP] at hc
 rw [vo] at hi
 have e : nth (qZ y q).levels i = nth y.levels i := h3 i hi (by simpa using hc)
 rw [e]
 exact hf.level i hi rfl
theorem Dw (hr : y.cm) (hn : l.Nodup) (hm : ∀ x ∈ l, ∃ k : Nat, x = k ∧ k < y.levels.length) : wz y l = 0 ∧ CB y l = dI y (bf l false) := by
 have h := LJ (jM hr) (l := l) (List.all_eq_true.2 fun x hx => by
  obtain ⟨k, rfl, hk⟩ := hm x hx
  unfold Fj
  rw [Bool.and_eq_true, decide_eq_true_eq, decide_eq_true_eq]; omega) hn
 exact ⟨h.1.symm, h.2.symm⟩
structure k7 (z : bD) (n bad : Nat) : Prop where
  right : z.cm
  len : z.levels.length = n
  free : ∃ B a, fq 0 n B ∧ B.length = bad ∧ fL z (iS B true) a
variable {z : bD} {n bad : Nat}
theorem k7.vQ (h : k7 z n bad) : jk z = 0 ∧ fq 0 n (bw z) ∧ dI z (bf (bw z) true) = true ∧ (∀ x, fq 0 n x → dI z (bf x true) = true → (bw z).length ≤ x.length) ∧ (bw z).length ≤ bad := by
  obtain ⟨B, a, hB, hl, hf⟩ := h.free
  have hag : dI z (bf B true) = true := (oM h.right).2 ⟨a, hf⟩
  have hn := h.len
  cases e : fN (CL z) z.levels.length with
  | none =>
    have h1 := xj e B (by rw [hn]; exact hB)
    have h1 : dI z (bf B true) = false := h1
    rw [hag] at h1; cases h1
  | some w =>
    have hw := ue (jM h.right) (by
      show (!(fN (CL z) z.levels.length).isSome) = false
      rw [e]; rfl)
    have e2 : bw z = w := by
      rw [← hw.2]
      show AD (CL z) z.levels.length = w
      unfold AD; rw [e]; rfl
    have hs := Bm e
    rw [hn] at hs
    rw [e2]
    exact ⟨hw.1.symm, hs.1, hs.2.1, hs.2.2, by rw [← hl]; exact hs.2.2 B hB hag⟩
theorem k7.lR (h : k7 z n bad) (ho : cV z = 0) : (eU z = 6 ∧ cr z = []) ∧ (bw z).length = 0 := by
 have h1 := wW h.right ho
 have h2 := uj (jM h.right) (by show (!(fN (ld z) z.levels.length).isSome) = true; rw [h1]; rfl)
 have h3 := h.vQ.2.2.2.1 [] trivial ((nE h.right).1 ho)
 exact ⟨⟨h2.1.symm, h2.2.symm⟩, Nat.le_zero.1 h3⟩
theorem k7.pI (h : k7 z n bad) (ho : ¬ cV z = 0) : eU z = 0 ∧ (fq 0 n (cr z) ∧ dI z (bf (cr z) false) = false ∧ ∀ x, fq 0 n x → x.length < (cr z).length → dI z (bf x false) = true) ∧ ¬ (bw z).length = 0 ∧ ¬ (cr z).length = 0 := by
  obtain ⟨l, e⟩ := C1 h.right ho
  have hw := uZ (jM h.right) (by show (!(fN (ld z) z.levels.length).isSome) = false; rw [e]; rfl)
  have e2 : cr z = l := by
    rw [← hw.2]
    show AD (ld z) z.levels.length = l
    unfold AD; rw [e]; rfl
  have hs := Bm e
  rw [h.len] at hs
  have hb : ∀ x, ld z x = true ↔ dI z (bf x false) = false := fun x => by unfold ld; cases dI z (bf x false) <;> simp
  have h0 : ¬ l.length = 0 := fun hl => by
    obtain rfl := List.length_eq_zero_iff.1 hl
    obtain ⟨B, a, _, _, hf⟩ := h.free
    have h1 := (hb []).1 hs.2.1
    rw [mo (l := B) (o := true) h.right (fun i _ hc => by rw [AW] at hc; simp at hc) ((oM h.right).2 ⟨a, hf⟩)] at h1
    cases h1
  rw [e2]
  refine ⟨hw.1.symm, ⟨hs.1, (hb l).1 hs.2.1, fun x hx hlt => ?_⟩, fun hl => ?_, h0⟩
  · cases e3 : dI z (bf x false) with
    | true => rfl
    | false => have := hs.2.2 x hx ((hb x).2 e3); omega
  · have := h.vQ.2.2.1
    rw [List.length_eq_zero_iff.1 hl] at this
    exact ho ((nE h.right).2 this)
theorem k7.rest (h : k7 z n bad) : wz z (fI (bw z) n) = 0 ∧ CB z (fI (bw z) n) = true ∧ (fI (bw z) n).length + (bw z).length = n := by
 have hw := h.vQ
 have h1 := Dw h.right (kN (w := bw z) n).nodup fun x hx => by
  obtain ⟨k, e, _, hk⟩ := (kN n).mem x hx
  exact ⟨k, e, by rw [h.len]; exact hk⟩
 refine ⟨h1.1, ?_, HK hw.2.1⟩
 rw [h1.2]
 exact mo h.right (fun i _ hc => by
  rw [AW, decide_eq_true_eq] at hc
  rw [tP]
  simpa using (jy.1 hc).2) hw.2.2.1
theorem k7.more (h : k7 z n bad) (hv : v ∈ bw z) : wz z (fI (bw z) n ++ [v]) = 0 ∧ CB z (fI (bw z) n ++ [v]) = false := by
 have hw := h.vQ
 have hna := hw.2.1.nodup
 have h1 := Dw (l := fI (bw z) n ++ [v]) h.right (v8 (kN (w := bw z) n).nodup fun hm => (jy.1 hm).2 hv) fun x hx => by
  rcases List.mem_append.1 hx with hx | hx
  ·obtain ⟨k, e, _, hk⟩ := (kN n).mem x hx
   exact ⟨k, e, by rw [h.len]; exact hk⟩
  obtain rfl := List.mem_singleton.1 hx
  obtain ⟨k, e, _, hk⟩ := hw.2.1.mem x hv
  exact ⟨k, e, by rw [h.len]; exact hk⟩
 refine ⟨h1.1, ?_⟩
 rw [h1.2, Bool.eq_false_iff]
 intro hc
 have h2 := hw.2.2.2.1 ((bw z).erase v) (hw.2.1.sub List.erase_sublist) (mo h.right (fun i hi hc => by
  rw [h.len] at hi
  rw [tP] at hc
  have hc : ¬ (i : Int) ∈ (bw z).erase v := by simpa using hc
  rw [AW, decide_eq_true_eq, List.mem_append]
  by_cases e : (i : Int) = v
  ·exact .inr (List.mem_singleton.2 e)
  exact .inl (jy.2 ⟨⟨i, rfl, hi⟩, fun hm => hc ((List.mem_erase_of_ne e).2 hm)⟩)) hc)
 rw [List.length_erase_of_mem hv] at h2
 have := List.length_pos_of_mem hv
 omega
theorem k7.Mx (h : k7 z n bad) (ho : ¬ cV z = 0) : wz z (cr z) = 0 ∧ CB z (cr z) = false := by
 have hc := (h.pI ho).2.1
 have h1 := Dw (l := cr z) h.right hc.1.nodup fun x hx => by
  obtain ⟨k, e, _, hk⟩ := hc.1.mem x hx
  exact ⟨k, e, by rw [h.len]; exact hk⟩
 exact ⟨h1.1, by rw [h1.2]; exact hc.2.1⟩
theorem k7.less (h : k7 z n bad) (ho : ¬ cV z = 0) (hk : k < (cr z).length) : wz z ((cr z).eraseIdx k) = 0 ∧ CB z ((cr z).eraseIdx k) = true := by
 have hc := (h.pI ho).2.1
 have hs := hc.1.sub (List.eraseIdx_sublist (cr z) k)
 have h1 := Dw (l := (cr z).eraseIdx k) h.right hs.nodup fun x hx => by
  obtain ⟨k, e, _, hk⟩ := hs.mem x hx
  exact ⟨k, e, by rw [h.len]; exact hk⟩
 exact ⟨h1.1, by rw [h1.2]; exact hc.2.2 _ hs (by rw [List.length_eraseIdx_of_lt hk]; omega)⟩
theorem k7.meet (h : k7 z n bad) (ho : ¬ cV z = 0) : ((cr z).any fun x => decide (x ∈ bw z)) = true := by
  have hc := (h.pI ho).2.1
  cases e : (cr z).any fun x => decide (x ∈ bw z) with
  | true => rfl
  | false =>
    rw [List.any_eq_false] at e
    have := mo h.right (l := bw z) (o := true) (k := cr z) (o' := false) (fun i _ hi => by
      rw [AW, decide_eq_true_eq] at hi
      have := e _ hi
      rw [tP]
      simpa using this) h.vQ.2.2.1
    rw [hc.2.1] at this; cases this
end
end Go.Proofs.YtelbollidfdcjaaGreat
