/- Lemmas: the program and the reference walked, plain laws. -/
import Derived.Test.YtelbollidfdcjaaGreatLc
namespace Go.Proofs.YtelbollidfdcjaaGreat
open Go Go.T
set_option maxHeartbeats 16000000
noncomputable def kr (y : aj) : List Int := (bh (aO y (nth bE)) (y.cells + 1) (fN (aO y (nth bE)))).2.2
noncomputable def cX (y : aj) : Int := if bO y = 0 then (if (bh (aO y (nth bE)) (y.cells + 1) (fN (aO y (nth bE)))).2.1 = true then 7 else 0) else bO y
noncomputable def tC (y : aj) : dg := if cX y = 0 then gN y (kr y) else ⟨[], []⟩
theorem jO : bE.length = 8 := rfl
theorem kA {y : aj} (hr : y.bY) {c : Nat → Bool} : K3 y (aO y c) (fN (aO y c)) := ⟨hr, jK hr, tL hr, fun e => K6 (AS e), iV hr⟩
section
variable {y : aj}
theorem open_1 (h : ¬ bO y = 0) : bO y = cX y := (if_neg h).symm
theorem yU (h : bO y = 0) (h2 : (bh (aO y (nth bE)) (y.cells + 1) (fN (aO y (nth bE)))).2.1 = true) : 7 = cX y := by unfold cX; rw [if_pos h, if_pos h2]
theorem open_3 (h : bO y = 0) (h2 : (bh (aO y (nth bE)) (y.cells + 1) (fN (aO y (nth bE)))).2.1 = false) : 0 = cX y := by unfold cX; rw [if_pos h, if_neg (by rw [h2]; decide)]
theorem ef (h : cX y = 0) : bO y = 0 := by
 by_cases e : bO y = 0
 ·exact e
 rw [← open_1 e] at h; exact absurd h e
theorem BU (h : cX y = 0) : (bh (aO y (nth bE)) (y.cells + 1) (fN (aO y (nth bE)))).2.1 = false := by
  cases e : (bh (aO y (nth bE)) (y.cells + 1) (fN (aO y (nth bE)))).2.1 with
  | false => rfl
  | true => rw [← yU (ef h) e] at h; cases h
theorem FG (hr : y.bY) (h2 : (bh (aO y (nth bE)) (y.cells + 1) (fN (aO y (nth bE)))).2.1 = false) : iG (aO y (nth bE)) (y.cells + 1) (bh (aO y (nth bE)) (y.cells + 1) (fN (aO y (nth bE)))).2.2 := zS (jK hr) (kA hr).inb h2
theorem q6 (h : cX y = 0) : iG (aO y (nth bE)) (y.cells + 1) (kr y) := FG (cZ (ef h)) (BU h)
theorem Ph (h : ¬ bO y = 0) : (⟨[], []⟩ : dg) = tC y := by unfold tC; rw [← open_1 h, if_neg h]
theorem QM (h : bO y = 0) (h2 : (bh (aO y (nth bE)) (y.cells + 1) (fN (aO y (nth bE)))).2.1 = true) : (⟨[], []⟩ : dg) = tC y := by unfold tC; rw [← yU h h2]; rfl
theorem Pp (h : bO y = 0) (h2 : (bh (aO y (nth bE)) (y.cells + 1) (fN (aO y (nth bE)))).2.1 = false) : gN y (bh (aO y (nth bE)) (y.cells + 1) (fN (aO y (nth bE)))).2.2 = tC y := by unfold tC; rw [if_pos (open_3 h h2).symm]; rfl
theorem za {a : dg} (e : ⟨[], []⟩ = a) : iO (Ty.agg [Ty.fP (.slice none 0 0), Ty.fP (.slice none 0 0)]) (AD a) := by subst e; exact wB (ts := m7 ⟨[], []⟩) (jf v8 (jf v8 tK))
theorem E4 {b : Bool} (h : (!!b) = true) : b = true := by cases b <;> first | rfl | cases h
theorem Gx {b : Bool} (h : (!!b) = false) : b = false := by cases b <;> first | rfl | cases h
theorem P2 (y : aj) : (bh (aO y (nth bE)) (y.cells + 1) (fN (aO y (nth bE)))).2.2 = kr y := rfl
end
attribute [local irreducible] aO fN Way.iH Way.fin Way.room eY eD fA gq over bP cJ dc eZ jt fK iJ kM bh gV gH gM cy cQ gu pG iq jH jM iF Bj yp iM aj.kept aj.cells bO eE bE gN kr cX
attribute [local irreducible] gF eX lq nY g7 gx g9 g5 g8 nW gz nT dM fj nM gC oB nth fW dR ay dK bodyPost Exit.then Exit.inBlock Code.wp Code.wpIn n9 hO nO ni gy eU cM cN bodyPostM dO
set_option maxRecDepth 100000 in
theorem PI (y : aj) (hs : y.Small) : dK Tryz.prog 47 [eA y] (Ty.lD [AD (tC y), Ty.int .i64 (cX y)]) := by
 refine au Tryz.func47 rfl (by decide) Tryz.ntmps47 (by exact Nat.le_of_ble_eq_true rfl) fun w0 M0 => ?_
 refine aE (aB (bH rfl ?_))
 refine bf rfl (by exact List.cons_ne_nil _ _) rfl ?_
 refine bZ rfl (aD (aC (aE (aE (aB ?_)))))
 refine aY rfl rfl rfl (by exact Nat.le_of_ble_eq_true rfl) ?_
 refine ak (lF y hs) rfl rfl rfl rfl rfl (bZ rfl (aD (aC (aE (aB (bG rfl (bA rfl rfl rfl (aD (aC ?_)))))))))
 refine c9 rfl (fun hc1 => ?_) (fun hc1 => ?_)
 ·
  refine aE (aB ?_)
  refine cq rfl rfl (by exact List.cons_ne_nil _ _) rfl (by repeat (exact (aV.nil : aV _ _ [] _))) (by exact (rfl : _ = some [_, _])) ?_
  refine bG rfl ?_
  refine bS rfl rfl (by decide) rfl rfl rfl rfl rfl rfl ?_
  refine bZ rfl (aD (aC (az (aS ?_))))
  refine iA rfl rfl rfl rfl rfl (by decide) rfl rfl rfl ?_ ?_
  all_goals skip
  all_goals first | exact za (Ph hc1) | exact av rfl rfl (congrArg (Ty.int .i64) (open_1 hc1))
 refine af (aC (aE ?_))
 have hck : bO y = 0 := hc1
 have hr := cZ hck
 refine cH mixed rfl ?_
 refine aY rfl rfl rfl (by exact Nat.le_of_ble_eq_true rfl) ?_
 refine ak (rR) rfl rfl rfl rfl rfl ?_
 refine dI (res' := Ty.pp (sW y 2000 1000 (aO y (nth bE)).length (aO y (nth bE)).length)) [(2000, 23), (1000, 31)] [2000, 1000] [(2000, Cont.vec dw 187 (aO y (nth bE))), (1000, Cont.vec c7 3 (fN (aO y (nth bE))))] (tJ y hr bE jO) rfl rfl (aN (aN bW (aU rfl rfl)) (aU rfl rfl)) pre_nil (bk (a := 2000) (b := 23) (by decide) rfl (bt (by decide) rfl) (bk (a := 1000) (b := 31) (by decide) rfl (bt (by decide) rfl) post_nil)) (e9 (aN (aN (aN (aN (aN (aN bW (dV (by decide))) (dV (by decide))) (aU rfl rfl)) (aU rfl rfl)) (aU rfl rfl)) (aU rfl rfl))) ?_
 refine MY rfl (aD ?_)
 refine ⟨by kernel_rfl, ?_⟩
 refine aC (aE (aE ?_))
 refine lP (tg := 2000) [(5, Ty.pp (dZ y (aO y (nth bE)) 1000 (aO y (nth bE)).length))] (by decide) rfl ⟨A4 rfl ⟨bK rfl, bK rfl, bK rfl, bK rfl, j7 rfl rfl (by decide), bK rfl, trivial⟩, trivial⟩ ?_
 refine aB (jV rfl ?_)
 refine dI [(1000, 1000)] [] [(1000, Cont.vec c7 3 (bh (aO y (nth bE)) (y.cells + 1) (fN (aO y (nth bE)))).2.2)] (n6 y (aO y (nth bE)) (fN (aO y (nth bE))) (kA hr)) rfl rfl (aN bW (e9 (aN (aN (aN (aN (aN (aN bW (dV (by exact List.mem_cons_self))) (aU rfl rfl)) (aU rfl rfl)) (aU rfl rfl)) (aU rfl rfl)) (aU rfl rfl)))) (cz (a := 1000) (b := 1000) (by exact List.mem_cons_self) rfl (bt (by exact List.mem_cons_self) rfl) pre_nil) (bk (a := 1000) (b := 1000) (by decide) rfl (bt (by decide) rfl) post_nil) (aU rfl rfl) ?_
 refine eJ rfl (aD (aC ?_))
 refine cF rfl (fun hc2 => ?_) (fun hc2 => ?_)
 ·
  refine aE (aB ?_)
  refine cq rfl rfl (by exact List.cons_ne_nil _ _) rfl (by repeat (exact (aV.nil : aV _ _ [] _))) (by exact (rfl : _ = some [_, _])) ?_
  refine bS rfl rfl (by decide) rfl rfl rfl rfl rfl rfl ?_
  refine bZ rfl (aD (aC (az (aS ?_))))
  refine iA rfl rfl rfl rfl rfl (by decide) rfl rfl rfl ?_ ?_
  all_goals skip
  all_goals first | exact za (QM hck (E4 hc2)) | exact av rfl rfl (congrArg (Ty.int .i64) (yU hck (E4 hc2)))
 refine af (aC (aE ?_))
 have hfe := FG hr (Gx hc2)
 refine lP (tg := 1000) [(5, Ty.pp (mm y (aO y (nth bE)) (bh (aO y (nth bE)) (y.cells + 1) (fN (aO y (nth bE)))).2.2))] (by decide) rfl ⟨A4 rfl ⟨bK rfl, bK rfl, bK rfl, bK rfl, bK rfl, j7 rfl hfe.1.1 (by decide), trivial⟩, trivial⟩ ?_
 refine aB (jV rfl (ak (P4 y (nth bE) (bh (aO y (nth bE)) (y.cells + 1) (fN (aO y (nth bE)))).2.2 hr hfe.1.1) rfl rfl rfl rfl rfl ?_))
 refine bS rfl rfl (by decide) rfl rfl rfl rfl rfl rfl ?_
 refine bZ rfl (aD (aC (az ?_)))
 refine iA rfl rfl rfl rfl rfl (by decide) rfl rfl rfl ?_ ?_
 all_goals skip
 all_goals first | exact av rfl rfl (congrArg AD (Pp hck (Gx hc2))) | exact av rfl rfl (congrArg (Ty.int .i64) (open_3 hck (Gx hc2)))
set_option maxRecDepth 100000 in
theorem xX (y : aj) (hs : y.Small) (h : cX y = 0) : eU Tryz.prog 86 [] [] [eA y] [(1000, Cont.vec c7 3 (kr y))] (Ty.lD [Ty.pp (dZ y (aO y (nth bE)) 1000 (aO y (nth bE)).length), Ty.int .i64 0]) := by
 refine sA Tryz.func86 rfl (by decide) Tryz.ntmps86 (by exact Nat.le_of_ble_eq_true rfl) fun w0 M0 => ?_
 have hck := ef h
 have hr := cZ hck
 have hst := BU h
 refine aE (aB (bH rfl (mK rfl (bZ rfl (aD (aC (aE (aE (aB ?_)))))))))
 refine aY rfl rfl rfl (by exact Nat.le_of_ble_eq_true rfl) ?_
 refine ak (lF y hs) rfl rfl rfl rfl rfl (bZ rfl (aD (aC (aE (aB (bG rfl (bA rfl rfl rfl (aD (aC ?_)))))))))
 refine jm rfl (by rw [hck]; rfl) ?_
 refine af (aC (aE (cH mixed rfl ?_)))
 refine aY rfl rfl rfl (by exact Nat.le_of_ble_eq_true rfl) ?_
 refine ak (rR) rfl rfl rfl rfl rfl ?_
 refine dI (res' := Ty.pp (sW y 2000 1000 (aO y (nth bE)).length (aO y (nth bE)).length)) [(2000, 23), (1000, 31)] [2000, 1000] [(2000, Cont.vec dw 187 (aO y (nth bE))), (1000, Cont.vec c7 3 (fN (aO y (nth bE))))] (tJ y hr bE jO) rfl rfl (aN (aN bW (aU rfl rfl)) (aU rfl rfl)) pre_nil (bk (a := 2000) (b := 23) (by decide) rfl (bt (by decide) rfl) (bk (a := 1000) (b := 31) (by decide) rfl (bt (by decide) rfl) post_nil)) (e9 (aN (aN (aN (aN (aN (aN bW (dV (by decide))) (dV (by decide))) (aU rfl rfl)) (aU rfl rfl)) (aU rfl rfl)) (aU rfl rfl))) ?_
 refine MY rfl (aD ?_)
 refine ⟨by kernel_rfl, ?_⟩
 refine aC (aE (aE ?_))
 refine lP (tg := 2000) [(5, Ty.pp (dZ y (aO y (nth bE)) 1000 (aO y (nth bE)).length))] (by decide) rfl ⟨A4 rfl ⟨bK rfl, bK rfl, bK rfl, bK rfl, j7 rfl rfl (by decide), bK rfl, trivial⟩, trivial⟩ ?_
 refine aB (jV rfl ?_)
 refine dI [(1000, 1000)] [] [(1000, Cont.vec c7 3 (bh (aO y (nth bE)) (y.cells + 1) (fN (aO y (nth bE)))).2.2)] (n6 y (aO y (nth bE)) (fN (aO y (nth bE))) (kA hr)) rfl rfl (aN bW (e9 (aN (aN (aN (aN (aN (aN bW (dV (by exact List.mem_cons_self))) (aU rfl rfl)) (aU rfl rfl)) (aU rfl rfl)) (aU rfl rfl)) (aU rfl rfl)))) (cz (a := 1000) (b := 1000) (by exact List.mem_cons_self) rfl (bt (by exact List.mem_cons_self) rfl) pre_nil) (bk (a := 1000) (b := 1000) (by decide) rfl (bt (by decide) rfl) post_nil) (aU rfl rfl) ?_
 refine eJ rfl (aD (aC ?_))
 refine jm rfl (by rw [hst]; rfl) ?_
 refine af (aC (aE (aB (jV rfl (MY rfl (bZ rfl (aD (aC (az ?_)))))))))
 refine Ly rfl ?_
 refine Af [1000] rfl rfl rfl (by decide) ?_ ?_ ?_
 ·exact eO rfl (bt (by decide) (P2 y)) gm
 all_goals first | exact iw (aU rfl rfl) | skip
 all_goals exact iw (e9 (aN (aN (aN (aN (aN (aN bW (dV (by decide))) (aU rfl rfl)) (aU rfl rfl)) (aU rfl rfl)) (aU rfl rfl)) (aU rfl rfl)))
set_option maxRecDepth 100000 in
theorem pX (y : aj) (hs : y.Small) (h : cX y ≠ 0) : dK Tryz.prog 86 [eA y] (Ty.lD [Ty.ex (.pointer none), Ty.int .i64 (cX y)]) := by
 refine au Tryz.func86 rfl (by decide) Tryz.ntmps86 (by exact Nat.le_of_ble_eq_true rfl) fun w0 M0 => ?_
 refine aE (aB (bH rfl (mK rfl (bZ rfl (aD (aC (aE (aE (aB ?_)))))))))
 refine aY rfl rfl rfl (by exact Nat.le_of_ble_eq_true rfl) ?_
 refine ak (lF y hs) rfl rfl rfl rfl rfl (bZ rfl (aD (aC (aE (aB (bG rfl (bA rfl rfl rfl (aD (aC ?_)))))))))
 refine c9 rfl (fun hc1 => ?_) (fun hc1 => ?_)
 ·
  refine aE (aB (bG rfl (mK rfl (bZ rfl (aD (aC (az (aS ?_))))))))
  refine fY rfl rfl rfl ?_ ?_
  all_goals first | exact cI rfl rfl | skip
  all_goals exact av rfl rfl (congrArg (Ty.int .i64) (open_1 hc1))
 refine af (aC (aE ?_))
 have hck : bO y = 0 := hc1
 have hr := cZ hck
 refine cH mixed rfl ?_
 refine aY rfl rfl rfl (by exact Nat.le_of_ble_eq_true rfl) ?_
 refine ak (rR) rfl rfl rfl rfl rfl ?_
 refine dI (res' := Ty.pp (sW y 2000 1000 (aO y (nth bE)).length (aO y (nth bE)).length)) [(2000, 23), (1000, 31)] [2000, 1000] [(2000, Cont.vec dw 187 (aO y (nth bE))), (1000, Cont.vec c7 3 (fN (aO y (nth bE))))] (tJ y hr bE jO) rfl rfl (aN (aN bW (aU rfl rfl)) (aU rfl rfl)) pre_nil (bk (a := 2000) (b := 23) (by decide) rfl (bt (by decide) rfl) (bk (a := 1000) (b := 31) (by decide) rfl (bt (by decide) rfl) post_nil)) (e9 (aN (aN (aN (aN (aN (aN bW (dV (by decide))) (dV (by decide))) (aU rfl rfl)) (aU rfl rfl)) (aU rfl rfl)) (aU rfl rfl))) ?_
 refine MY rfl (aD ?_)
 refine ⟨by kernel_rfl, ?_⟩
 refine aC (aE (aE ?_))
 refine lP (tg := 2000) [(5, Ty.pp (dZ y (aO y (nth bE)) 1000 (aO y (nth bE)).length))] (by decide) rfl ⟨A4 rfl ⟨bK rfl, bK rfl, bK rfl, bK rfl, j7 rfl rfl (by decide), bK rfl, trivial⟩, trivial⟩ ?_
 refine aB (jV rfl ?_)
 refine dI [(1000, 1000)] [] [(1000, Cont.vec c7 3 (bh (aO y (nth bE)) (y.cells + 1) (fN (aO y (nth bE)))).2.2)] (n6 y (aO y (nth bE)) (fN (aO y (nth bE))) (kA hr)) rfl rfl (aN bW (e9 (aN (aN (aN (aN (aN (aN bW (dV (by exact List.mem_cons_self))) (aU rfl rfl)) (aU rfl rfl)) (aU rfl rfl)) (aU rfl rfl)) (aU rfl rfl)))) (cz (a := 1000) (b := 1000) (by exact List.mem_cons_self) rfl (bt (by exact List.mem_cons_self) rfl) pre_nil) (bk (a := 1000) (b := 1000) (by decide) rfl (bt (by decide) rfl) post_nil) (aU rfl rfl) ?_
 refine eJ rfl (aD (aC ?_))
 refine cF rfl (fun hc2 => ?_) (fun hc2 => ?_)
 ·
  refine aE (aB (mK rfl (bZ rfl (aD (aC (az (aS ?_)))))))
  refine fY rfl rfl rfl ?_ ?_
  all_goals first | exact cI rfl rfl | skip
  all_goals exact av rfl rfl (congrArg (Ty.int .i64) (yU hck (E4 hc2)))
 refine af (aC (aE (aB (jV rfl (MY rfl (bZ rfl (aD (aC (az ?_)))))))))
 refine fY rfl rfl rfl ?_ ?_
 all_goals skip
 all_goals exact absurd (open_3 hck (Gx hc2)).symm h
end Go.Proofs.YtelbollidfdcjaaGreat
namespace Go.Proofs.YtelbollidfdcjaaGreat
open Go Go.T
set_option maxHeartbeats 16000000
def tY (k : Nat) (i : Nat) : Bool := decide ((i : Int) = (k : Int))
def hasB (y : aj) (b t : Nat) : Nat → Bool := tY (y.kept b t)
noncomputable def pH (fl : List cB) (n : Nat) (y : aj) (b : Nat) (a : List Int) : Nat → List Int
  | 0 => a
  | t + 1 => yp fl n (hasB y b t) (pH fl n y b a t)
noncomputable def p8 (fl : List cB) (n : Nat) (y : aj) (b k : Nat) : List Span := (List.range k).map fun t => iF fl n (hasB y b t)
noncomputable def kF (y : aj) (b : Int) : Int := if eE y b = 0 then cX y else eE y b
noncomputable def jR (y : aj) (b : Int) : List Span := if kF y b = 0 then p8 (aO y (nth bE)) (y.cells + 1) y b.toNat (y.D + 1) else []
def N4 (y : aj) (k : Int) : Int := if bO y = 0 then (if (decide (k ≥ 0) && decide (k ≤ (y.moves.length : Int) - 1)) = true then 0 else 1) else bO y
noncomputable def lQ (y : aj) (k : Int) : Int := if N4 y k = 0 then cX y else N4 y k
noncomputable def nE (y : aj) (k : Int) : Span := if lQ y k = 0 then iF (aO y (nth bE)) (y.cells + 1) (tY (y.bins.length * (y.D + 1) + k.toNat)) else ⟨0, 0⟩
theorem uO {y : aj} (h : cX y = 0) : l8 y (aO y (nth bE)) (kr y) := ⟨cZ (ef h), jK (cZ (ef h)), tL (cZ (ef h)), (q6 h).1, iV (cZ (ef h))⟩
section
variable {y : aj} {fl : List cB} {a : List Int} {n b k : Nat} {q : Int}
theorem Cx (hN : Net fl n) (hn : 0 < n) (hB : Bd fl) (h : iG fl n a) : ∀ t, iG fl n (pH fl n y b a t)
  | 0 => h
  | t + 1 => (sP hN hn hB (Cx hN hn hB h t)).2.1
theorem JI : a = pH fl n y b a 0 := rfl
theorem KW (t : Nat) : yp fl n (hasB y b t) (pH fl n y b a t) = pH fl n y b a (t + 1) := rfl
theorem Hg (t : Nat) : p8 fl n y b t ++ [iF fl n (hasB y b t)] = p8 fl n y b (t + 1) := by unfold p8; rw [List.range_succ, List.map_append]; rfl
theorem MQ (t : Nat) : (p8 fl n y b t).length = t := by unfold p8; rw [List.length_map, List.length_range]
theorem Hx : p8 fl n y b 0 = [] := rfl
theorem B0 {T tg : Nat} {xs : List Span} (h : xs = []) : (Ty.ex (.slice none 0 0)).Sub (Ty.row cA T tg xs) := by subst h; exact Ty.gU
theorem Nt (k : Nat) (i : Nat) : decide ((i : Int) = (k : Int)) = tY k i := rfl
theorem NP (b t i : Nat) : decide ((i : Int) = ((y.kept b t : Nat) : Int)) = hasB y b t i := rfl
theorem Ae (h : ¬ eE y q = 0) : eE y q = kF y q ∧ [] = jR y q := by
 have e : eE y q = kF y q := (if_neg h).symm
 exact ⟨e, by unfold jR; rw [← e, if_neg h]⟩
theorem Jh (h : eE y q = 0) (ho : cX y ≠ 0) : cX y = kF y q ∧ [] = jR y q := by
 have e : cX y = kF y q := (if_pos h).symm
 exact ⟨e, by unfold jR; rw [← e, if_neg ho]⟩
theorem Au (h : eE y q = 0) (ho : cX y = 0) : 0 = kF y q ∧ p8 (aO y (nth bE)) (y.cells + 1) y q.toNat (y.D + 1) = jR y q := by
 have e : cX y = kF y q := (if_pos h).symm
 exact ⟨by rw [← e, ho], by unfold jR; rw [← e, if_pos ho]⟩
theorem ID (h : eE y q = 0) : 0 ≤ q ∧ q < y.bins.length := by
 unfold eE at h
 by_cases e : bO y = 0
 ·rw [if_pos e] at h
  by_cases c : y.bin q = true
  ·unfold aj.bin zh at c
   rw [Bool.and_eq_true, decide_eq_true_eq, decide_eq_true_eq] at c; omega
  rw [if_neg c] at h; cases h
 rw [if_neg e] at h; exact absurd h e
theorem Gw (h : ¬ bO y = 0) : bO y = lQ y q ∧ (⟨0, 0⟩ : Span) = nE y q := by
 have e1 : N4 y q = bO y := if_neg h
 have e : bO y = lQ y q := by unfold lQ; rw [e1, if_neg h]
 exact ⟨e, by unfold nE; rw [← e, if_neg h]⟩
theorem Gp (h : bO y = 0) (h2 : (!(decide (q ≥ 0) && decide (q ≤ (y.moves.length : Int) - 1))) = true) : 1 = lQ y q ∧ (⟨0, 0⟩ : Span) = nE y q := by
 have e1 : N4 y q = 1 := by unfold N4; rw [if_pos h, if_neg (by rw [lp h2]; decide)]
 have e : 1 = lQ y q := by unfold lQ; rw [e1]; rfl
 exact ⟨e, by unfold nE; rw [← e]; rfl⟩
theorem Gv (h2 : (!(decide (q ≥ 0) && decide (q ≤ (y.moves.length : Int) - 1))) = false) : 0 ≤ q ∧ q < y.moves.length := by
 have := eo h2
 rw [Bool.and_eq_true, decide_eq_true_eq, decide_eq_true_eq] at this; omega
theorem Oq (h : bO y = 0) (h2 : (!(decide (q ≥ 0) && decide (q ≤ (y.moves.length : Int) - 1))) = false) (ho : cX y ≠ 0) : cX y = lQ y q ∧ (⟨0, 0⟩ : Span) = nE y q := by
 have e1 : N4 y q = 0 := by unfold N4; rw [if_pos h, if_pos (eo h2)]
 have e : cX y = lQ y q := by unfold lQ; rw [e1]; rfl
 exact ⟨e, by unfold nE; rw [← e, if_neg ho]⟩
theorem Fo (h : bO y = 0) (h2 : (!(decide (q ≥ 0) && decide (q ≤ (y.moves.length : Int) - 1))) = false) (ho : cX y = 0) : 0 = lQ y q ∧ iF (aO y (nth bE)) (y.cells + 1) (tY (y.bins.length * (y.D + 1) + q.toNat)) = nE y q := by
 have e1 : N4 y q = 0 := by unfold N4; rw [if_pos h, if_pos (eo h2)]
 have e : cX y = lQ y q := by unfold lQ; rw [e1]; rfl
 exact ⟨by rw [← e, ho], by unfold nE; rw [← e, if_pos ho]⟩
end
attribute [local irreducible] aO fN Way.iH Way.fin Way.room eY eD fA gq over bP cJ dc eZ jt fK iJ kM bh gV gH gM cy cQ gu pG iq jH jM iF Bj yp iM aj.kept aj.cells bO eE bE gN kr cX pH p8 kF jR lQ nE hasB tY
attribute [local irreducible] gF eX lq nY g7 gx g9 g5 g8 nW gz nT dM fj nM gC oB nth fW dR ay dK bodyPost Exit.then Exit.inBlock Code.wp Code.wpIn n9 hO nO ni gy eU cM cN bodyPostM dO
set_option maxRecDepth 100000 in
theorem HL (f k : Int) : dK Tryz.prog 165 [Ty.int .i64 f, Ty.pp [Ty.int .i64 k]] (Ty.bool (decide (f = k))) := by
 refine au Tryz.func165 rfl (by decide) Tryz.ntmps165 (by exact Nat.le_of_ble_eq_true rfl) fun w0 M0 => ?_
 refine aE (aB (dF rfl (aD (aC (aE (aB (bG rfl (aL rfl rfl rfl rfl (bA rfl rfl rfl ?_)))))))))
 refine dF rfl (aD (aC (az (bU rfl rfl ?_))))
 all_goals exact cI rfl rfl
set_option maxRecDepth 100000 in
theorem MF (y : aj) (fl : List cB) (a : List Int) (h : l8 y fl a) (hfe : iG fl (y.cells + 1) a) (b : Nat) (hb : b < y.bins.length) : eU Tryz.prog 91 [1000] [(1000, Cont.vec c7 3 a)] [Ty.pp (dZ y fl 1000 fl.length), Ty.int .i64 ((b : Nat) : Int)] [(1000, Cont.vec c7 3 (pH fl (y.cells + 1) y b a (y.D + 1)))] (Ty.sl cA (p8 fl (y.cells + 1) y b (y.D + 1))) := by
 refine ff Tryz.func91 rfl (by decide) Tryz.ntmps91 (by exact Nat.le_of_ble_eq_true rfl) fun w0 M0 => ?_
 have h1 := h.right.bins
 have h2 := h.right.days
 have h3 := D_eq h.right
 have hft := Cx (y := y) (b := b) h.net (Nat.succ_pos _) h.bd hfe
 refine aE (aB (mK rfl (aD (aC (aE (aB (mK rfl (aD (aC ?_)))))))))
 refine aE (aE (aB (jV rfl (cC rfl ?_))))
 refine aJ rfl rfl rfl rfl rfl (by decide) ?_
 refine aJ rfl rfl rfl rfl rfl (by decide) ?_
 refine aL rfl rfl rfl rfl ?_
 refine bp rfl rfl (by omega) (by omega) ?_
 refine bG rfl (aD (aC (aZ ?_)))
 refine bz (fun (t : {t : Nat // t ≤ y.D + 1}) => live [(0, Ty.pp (dZ y fl 1000 fl.length)), (1, Ty.int .i64 ((b : Nat) : Int)), (5, Ty.row cA 37 26 (p8 fl (y.cells + 1) y b t.1)), (13, Ty.int .i64 (y.days + 1)), (14, Ty.int .i64 (t.1 : Nat))] [(1000, Cont.vec c7 3 (pH fl (y.cells + 1) y b a t.1))]) (fun t => y.D + 1 - t.1) (⟨0, by omega⟩) ?_ fun t => ?_
 ·(refine cV.mk' ?_ ?_ <;> (repeat' (first | exact aH | exact aI | refine aA ?_ (Ty.aT _) | refine aA ?_ (Ty.aF _) | refine aG rfl ?_ ?_ | refine aA ?_ ?_)))
  all_goals first | exact B0 Hx | exact Cont.dA JI
 have hbl := MQ (fl := fl) (n := (y.cells + 1)) (y := y) (b := b) t.1
 have ht := t.2
 have hFt : l8 y fl (pH fl (y.cells + 1) y b a t.1) := ⟨h.right, h.net, h.bd, (hft t.1).1, h.rE⟩
 refine aE (aB (bA rfl rfl rfl (aD (aC (aE ?_)))))
 refine ah rfl (fun hc1 => ?_) (fun hc1 => ?_)
 ·
  refine af (aC (aE (aZ (aE (aB (bG rfl (bZ rfl (aD (aC ?_)))))))))
  refine aE (aB (jV rfl (bG rfl (bG rfl ?_))))
  refine dr [] (D5 y h.right b t.1 hb (by omega)) rfl (aW (jk (l1 := bC y) (l2 := [Ty.sl dw fl, Ty.vs 1000 fl.length]) rfl rfl) (aW (bQ (bR rfl rfl)) (aW (bQ (bR rfl rfl)) cL))) (by exact dJ _ _) ?_
  refine bf rfl (by exact List.cons_ne_nil _ _) rfl ?_
  refine cv rfl rfl (by decide) rfl rfl (by exact (rfl : _ = Ty.int _ _)) rfl (by exact Nat.le_of_ble_eq_true rfl) rfl rfl (by exact (rfl : _ = [_])) ?_
  refine aD (aC ?_)
  refine lP (tg := 8) [(7, Ty.pp [Ty.int .i64 ((y.kept b t.1 : Nat) : Int)])] (by decide) rfl ⟨m5 (T := 3) (off := 0) (l := [Ty.int .i64 ((y.kept b t.1 : Nat) : Int)]) rfl rfl rfl (by decide), trivial⟩ ?_
  refine aB (D2 rfl (jV rfl (dW rfl ?_)))
  refine dI [(1000, 1000)] [] [(1000, Cont.vec c7 3 (yp fl (y.cells + 1) (hasB y b t.1) (pH fl (y.cells + 1) y b a t.1)))] (ES y fl (pH fl (y.cells + 1) y b a t.1) hFt (hft t.1) (Ty.kP 165 [Ty.pp [Ty.int .i64 ((y.kept b t.1 : Nat) : Int)]]) rfl rfl (hasB y b t.1) (fun i _ => by rw [← NP]; exact dx (HL (i : Nat) _) rfl rfl rfl rfl rfl rfl) rfl) rfl rfl (aN (aN bW (aU rfl rfl)) (e9 (aN (aN (aN (aN (aN (aN bW (dV (by exact List.mem_cons_self))) (aU rfl rfl)) (aU rfl rfl)) (aU rfl rfl)) (aU rfl rfl)) (aU rfl rfl)))) (cz (a := 1000) (b := 1000) (by exact List.mem_cons_self) rfl (bt (by exact List.mem_cons_self) rfl) pre_nil) (bk (a := 1000) (b := 1000) (by decide) rfl (bt (by decide) rfl) post_nil) (aU rfl rfl) ?_
  refine bX (E := cA) (xs := [iF fl (y.cells + 1) (hasB y b t.1)]) rfl rfl rfl rfl rfl (by decide) (by decide) (by repeat (first | exact (aV.nil : aV _ _ [] _) | (show aV _ _ ((_, _) :: _) _; apply aV.agg; (· exact (rfl : _ = Ty.agg _))))) (by exact rfl) rfl ?_
  refine dh rfl rfl (by decide) rfl rfl rfl rfl rfl rfl (by decide) (by (simp <;> omega)) (by (simp <;> omega)) ?_
  refine yg rfl (aD (bI (aC (aB ?_))))
  refine bp rfl rfl (by omega) (by omega) ?_
  refine bG rfl (aD ?_)
  refine bL (⟨t.1 + 1, by omega⟩) ?_ (by show y.D + 1 - (t.1 + 1) < y.D + 1 - t.1; omega)
  (refine cV.mk' ?_ ?_ <;> (repeat' (first | exact aH | exact aI | refine aA ?_ (Ty.aT _) | refine aA ?_ (Ty.aF _) | refine aG rfl ?_ ?_ | refine aA ?_ ?_)))
  all_goals skip
  all_goals first | exact Ty.eG (Hg _) | exact Cont.dA (KW _)
 refine b8 (aQ (aQ (aa rfl (aC (aE (aB (D2 rfl (yg rfl (aD ?_)))))))))
 refine aC (az ?_)
 refine jJ [1000] rfl rfl (by decide) ?_ ?_
 ·exact eO rfl (bt (by decide) (by rw [show t.1 = y.D + 1 by have := t.2; omega])) gm
 all_goals skip
 all_goals exact Jf (by decide) rfl (by rw [show t.1 = y.D + 1 by have := t.2; omega])
set_option maxRecDepth 100000 in
theorem CF (y : aj) (hs : y.Small) (q : Int) (ho : cX y ≠ 0) : dK Tryz.prog 22 [eA y, Ty.int .i64 q] (Ty.lD [Ty.sl cA (jR y q), Ty.int .i64 (kF y q)]) := by
 refine au Tryz.func22 rfl (by decide) Tryz.ntmps22 (by exact Nat.le_of_ble_eq_true rfl) fun w0 M0 => ?_
 refine aE (aB (bH rfl (mK rfl (bZ rfl (aD (aC (aE (aE (aB ?_)))))))))
 refine aY rfl rfl rfl (by exact Nat.le_of_ble_eq_true rfl) ?_
 refine bG rfl (ak (BN y hs q) rfl rfl rfl rfl rfl (bZ rfl (aD (aC (aE (aB (bG rfl (bA rfl rfl rfl (aD ?_)))))))))
 refine aC ?_
 refine c9 rfl (fun hc1 => ?_) (fun hc1 => ?_)
 ·
  refine aE (aB (bG rfl (mK rfl (bZ rfl (aD (aC (az (aS ?_))))))))
  refine fY rfl rfl rfl ?_ ?_
  all_goals skip
  all_goals first | exact gZ (Ae hc1).2.symm | exact av rfl rfl (congrArg (Ty.int .i64) (Ae hc1).1)
 refine af (aC (aE (aB ?_)))
 refine aY rfl rfl rfl (by exact Nat.le_of_ble_eq_true rfl) ?_
 refine ak (pX y hs ho) rfl rfl rfl rfl rfl (rH rfl (bN rfl rfl (bN rfl rfl (mK rfl (bZ rfl (aD (aC (aE (aE ?_)))))))))
 refine aB (bG rfl (bA rfl rfl rfl (aD (aC ?_))))
 refine qn rfl (by rw [decide_eq_false ho]; rfl) ?_
 refine aE (aB (bG rfl (mK rfl (bZ rfl (aD (aC (az (aS ?_))))))))
 refine fY rfl rfl rfl ?_ ?_
 all_goals skip
 all_goals first | exact gZ (Jh hc1 ho).2.symm | exact av rfl rfl (congrArg (Ty.int .i64) (Jh hc1 ho).1)
set_option maxRecDepth 100000 in
theorem Dk (y : aj) (hs : y.Small) (q : Int) (ho : cX y = 0) : dK Tryz.prog 22 [eA y, Ty.int .i64 q] (Ty.lD [Ty.sl cA (jR y q), Ty.int .i64 (kF y q)]) := by
 refine au Tryz.func22 rfl (by decide) Tryz.ntmps22 (by exact Nat.le_of_ble_eq_true rfl) fun w0 M0 => ?_
 have hck := ef ho
 have hr := cZ hck
 have hF : l8 y (aO y (nth bE)) (kr y) := uO ho
 have hfe := q6 ho
 refine aE (aB (bH rfl (mK rfl (bZ rfl (aD (aC (aE (aE (aB ?_)))))))))
 refine aY rfl rfl rfl (by exact Nat.le_of_ble_eq_true rfl) ?_
 refine bG rfl (ak (BN y hs q) rfl rfl rfl rfl rfl (bZ rfl (aD (aC (aE (aB (bG rfl (bA rfl rfl rfl (aD ?_)))))))))
 refine aC ?_
 refine c9 rfl (fun hc1 => ?_) (fun hc1 => ?_)
 ·
  refine aE (aB (bG rfl (mK rfl (bZ rfl (aD (aC (az (aS ?_))))))))
  refine fY rfl rfl rfl ?_ ?_
  all_goals skip
  all_goals first | exact gZ (Ae hc1).2.symm | exact av rfl rfl (congrArg (Ty.int .i64) (Ae hc1).1)
 refine af (aC (aE (aB ?_)))
 refine aY rfl rfl rfl (by exact Nat.le_of_ble_eq_true rfl) ?_
 refine dI (res' := Ty.lD [Ty.pp (dZ y (aO y (nth bE)) 1000 (aO y (nth bE)).length), Ty.int .i64 0]) [(1000, 1000)] [1000] [(1000, Cont.vec c7 3 (kr y))] (xX y hs ho) rfl rfl (aN bW (aU rfl rfl)) pre_nil (bk (a := 1000) (b := 1000) (by decide) rfl (bt (by decide) rfl) post_nil) (EI (aN (aN bW (aU rfl rfl)) (e9 (aN (aN (aN (aN (aN (aN bW (dV (by decide))) (aU rfl rfl)) (aU rfl rfl)) (aU rfl rfl)) (aU rfl rfl)) (aU rfl rfl))))) ?_
 refine rH rfl (bN rfl rfl (bN rfl rfl (MY rfl (bZ rfl (aD (aC (aE (aE (aB ?_)))))))))
 refine bG rfl (bA rfl rfl rfl (aD (aC (jm rfl (rfl) (af (aC (aE ?_)))))))
 have hq := ID hc1
 have hqn : ((q.toNat : Nat) : Int) = q := by omega
 refine gl (s := 1) rfl (Ty.bD hqn.symm) ?_
 refine aB (jV rfl (bG rfl ?_))
 refine dI [(1000, 1000)] [] [(1000, Cont.vec c7 3 (pH (aO y (nth bE)) (y.cells + 1) y q.toNat (kr y) (y.D + 1)))] (MF y (aO y (nth bE)) (kr y) hF hfe q.toNat (by omega)) rfl rfl (aN (aN bW (aU rfl rfl)) (e9 (aN (aN (aN (aN (aN (aN bW (dV (by exact List.mem_cons_self))) (aU rfl rfl)) (aU rfl rfl)) (aU rfl rfl)) (aU rfl rfl)) (aU rfl rfl)))) (cz (a := 1000) (b := 1000) (by exact List.mem_cons_self) rfl (bt (by exact List.mem_cons_self) rfl) pre_nil) (bk (a := 1000) (b := 1000) (by decide) rfl (bt (by decide) rfl) post_nil) (aU rfl rfl) ?_
 refine F8 rfl (bZ rfl (aD (aC (az ?_))))
 refine fY rfl rfl rfl ?_ ?_
 all_goals skip
 all_goals first | exact av rfl rfl (congrArg (Ty.sl cA) (Au hc1 ho).2) | exact av rfl rfl (congrArg (Ty.int .i64) (Au hc1 ho).1)
set_option maxRecDepth 100000 in
theorem Kg (f k : Int) : dK Tryz.prog 121 [Ty.int .i64 f, Ty.pp [Ty.int .i64 k]] (Ty.bool (decide (f = k))) := by
 refine au Tryz.func121 rfl (by decide) Tryz.ntmps121 (by exact Nat.le_of_ble_eq_true rfl) fun w0 M0 => ?_
 refine aE (aB (dF rfl (aD (aC (aE (aB (bG rfl (aL rfl rfl rfl rfl (bA rfl rfl rfl ?_)))))))))
 refine dF rfl (aD (aC (az (bU rfl rfl ?_))))
 all_goals exact cI rfl rfl
set_option maxRecDepth 100000 in
theorem EC (y : aj) (hs : y.Small) (q : Int) (ho : cX y ≠ 0) : dK Tryz.prog 48 [eA y, Ty.int .i64 q] (Ty.lD [Ty.agg (cA.tys (nE y q)), Ty.int .i64 (lQ y q)]) := by
 refine au Tryz.func48 rfl (by decide) Tryz.ntmps48 (by exact Nat.le_of_ble_eq_true rfl) fun w0 M0 => ?_
 have hsm := hs.moves
 refine aE (aB (bH rfl ?_))
 refine bf rfl (by exact List.cons_ne_nil _ _) rfl ?_
 refine bZ rfl (aD (aC (aE (aE (aB ?_)))))
 refine aY rfl rfl rfl (by exact Nat.le_of_ble_eq_true rfl) ?_
 refine ak (lF y hs) rfl rfl rfl rfl rfl (bZ rfl (aD (aC (aE (aB (bG rfl (bA rfl rfl rfl (aD (aC ?_)))))))))
 refine c9 rfl (fun hc1 => ?_) (fun hc1 => ?_)
 ·
  refine aE (aB ?_)
  refine cq rfl rfl (by exact List.cons_ne_nil _ _) rfl (by repeat (exact (aV.nil : aV _ _ [] _))) (by exact (rfl : _ = some [_, _])) ?_
  refine bG rfl ?_
  refine bS rfl rfl (by decide) rfl rfl rfl rfl rfl rfl ?_
  refine bZ rfl (aD (aC (az (aS ?_))))
  refine iA rfl rfl rfl rfl rfl (by decide) rfl rfl rfl ?_ ?_
  all_goals skip
  all_goals first | exact av rfl rfl (congrArg (fun s => Ty.agg (cA.tys s)) (Gw hc1).2) | exact av rfl rfl (congrArg (Ty.int .i64) (Gw hc1).1)
 refine af (aC (aE (aE (aB (bG rfl ?_)))))
 refine aJ rfl rfl rfl rfl rfl (by decide) ?_
 refine aL rfl rfl rfl rfl (b9 rfl rfl rfl ?_)
 refine fk rfl rfl (by omega) (by omega) ?_
 refine ak (vV _ _ _) rfl rfl rfl rfl rfl (eJ rfl (aD (aC ?_)))
 refine cF rfl (fun hc2 => ?_) (fun hc2 => ?_)
 ·
  refine aE (aB ?_)
  refine cq rfl rfl (by exact List.cons_ne_nil _ _) rfl (by repeat (exact (aV.nil : aV _ _ [] _))) (by exact (rfl : _ = some [_, _])) ?_
  refine bS rfl rfl (by decide) rfl rfl rfl rfl rfl rfl ?_
  refine bZ rfl (aD (aC (az (aS ?_))))
  refine iA rfl rfl rfl rfl rfl (by decide) rfl rfl rfl ?_ ?_
  all_goals skip
  all_goals first | exact av rfl rfl (congrArg (fun s => Ty.agg (cA.tys s)) (Gp hc1 hc2).2) | exact av rfl rfl (congrArg (Ty.int .i64) (Gp hc1 hc2).1)
 refine af (aC (aE (aB ?_)))
 refine aY rfl rfl rfl (by exact Nat.le_of_ble_eq_true rfl) ?_
 refine ak (pX y hs ho) rfl rfl rfl rfl rfl (rH rfl (bN rfl rfl (bN rfl rfl (mK rfl (bZ rfl (aD (aC (aE (aE ?_)))))))))
 refine aB (bG rfl (bA rfl rfl rfl (aD (aC ?_))))
 refine qn rfl (by rw [decide_eq_false ho]; rfl) ?_
 refine aE (aB ?_)
 refine cq rfl rfl (by exact List.cons_ne_nil _ _) rfl (by repeat (exact (aV.nil : aV _ _ [] _))) (by exact (rfl : _ = some [_, _])) ?_
 refine bG rfl ?_
 refine bS rfl rfl (by decide) rfl rfl rfl rfl rfl rfl ?_
 refine bZ rfl (aD (aC (az (aS ?_))))
 refine iA rfl rfl rfl rfl rfl (by decide) rfl rfl rfl ?_ ?_
 all_goals skip
 all_goals first | exact av rfl rfl (congrArg (fun s => Ty.agg (cA.tys s)) (Oq hc1 hc2 ho).2) | exact av rfl rfl (congrArg (Ty.int .i64) (Oq hc1 hc2 ho).1)
set_option maxRecDepth 100000 in
theorem EB (y : aj) (hs : y.Small) (q : Int) (ho : cX y = 0) : dK Tryz.prog 48 [eA y, Ty.int .i64 q] (Ty.lD [Ty.agg (cA.tys (nE y q)), Ty.int .i64 (lQ y q)]) := by
 refine au Tryz.func48 rfl (by decide) Tryz.ntmps48 (by exact Nat.le_of_ble_eq_true rfl) fun w0 M0 => ?_
 have hck := ef ho
 have hr := cZ hck
 have hF : l8 y (aO y (nth bE)) (kr y) := uO ho
 have hfe := q6 ho
 have hsm := hs.moves
 have hfl := fH (y := y) (c := nth bE)
 have hf34 : (aO y (nth bE)).length ≤ 34 := iV hr
 refine aE (aB (bH rfl ?_))
 refine bf rfl (by exact List.cons_ne_nil _ _) rfl ?_
 refine bZ rfl (aD (aC (aE (aE (aB ?_)))))
 refine aY rfl rfl rfl (by exact Nat.le_of_ble_eq_true rfl) ?_
 refine ak (lF y hs) rfl rfl rfl rfl rfl (bZ rfl (aD (aC (aE (aB (bG rfl (bA rfl rfl rfl (aD (aC ?_)))))))))
 refine c9 rfl (fun hc1 => ?_) (fun hc1 => ?_)
 ·
  refine aE (aB ?_)
  refine cq rfl rfl (by exact List.cons_ne_nil _ _) rfl (by repeat (exact (aV.nil : aV _ _ [] _))) (by exact (rfl : _ = some [_, _])) ?_
  refine bG rfl ?_
  refine bS rfl rfl (by decide) rfl rfl rfl rfl rfl rfl ?_
  refine bZ rfl (aD (aC (az (aS ?_))))
  refine iA rfl rfl rfl rfl rfl (by decide) rfl rfl rfl ?_ ?_
  all_goals skip
  all_goals first | exact av rfl rfl (congrArg (fun s => Ty.agg (cA.tys s)) (Gw hc1).2) | exact av rfl rfl (congrArg (Ty.int .i64) (Gw hc1).1)
 refine af (aC (aE (aE (aB (bG rfl ?_)))))
 refine aJ rfl rfl rfl rfl rfl (by decide) ?_
 refine aL rfl rfl rfl rfl (b9 rfl rfl rfl ?_)
 refine fk rfl rfl (by omega) (by omega) ?_
 refine ak (vV _ _ _) rfl rfl rfl rfl rfl (eJ rfl (aD (aC ?_)))
 refine cF rfl (fun hc2 => ?_) (fun hc2 => ?_)
 ·
  refine aE (aB ?_)
  refine cq rfl rfl (by exact List.cons_ne_nil _ _) rfl (by repeat (exact (aV.nil : aV _ _ [] _))) (by exact (rfl : _ = some [_, _])) ?_
  refine bS rfl rfl (by decide) rfl rfl rfl rfl rfl rfl ?_
  refine bZ rfl (aD (aC (az (aS ?_))))
  refine iA rfl rfl rfl rfl rfl (by decide) rfl rfl rfl ?_ ?_
  all_goals skip
  all_goals first | exact av rfl rfl (congrArg (fun s => Ty.agg (cA.tys s)) (Gp hc1 hc2).2) | exact av rfl rfl (congrArg (Ty.int .i64) (Gp hc1 hc2).1)
 refine af (aC (aE (aB ?_)))
 refine aY rfl rfl rfl (by exact Nat.le_of_ble_eq_true rfl) ?_
 refine dI (res' := Ty.lD [Ty.pp (dZ y (aO y (nth bE)) 1000 (aO y (nth bE)).length), Ty.int .i64 0]) [(1000, 1000)] [1000] [(1000, Cont.vec c7 3 (kr y))] (xX y hs ho) rfl rfl (aN bW (aU rfl rfl)) pre_nil (bk (a := 1000) (b := 1000) (by decide) rfl (bt (by decide) rfl) post_nil) (EI (aN (aN bW (aU rfl rfl)) (e9 (aN (aN (aN (aN (aN (aN bW (dV (by decide))) (aU rfl rfl)) (aU rfl rfl)) (aU rfl rfl)) (aU rfl rfl)) (aU rfl rfl))))) ?_
 refine rH rfl (bN rfl rfl (bN rfl rfl (MY rfl (bZ rfl (aD (aC (aE (aE (aB ?_)))))))))
 refine bG rfl (bA rfl rfl rfl (aD (aC (jm rfl (rfl) (af (aC (aE ?_)))))))
 have hq := Gv hc2
 refine cH mixed rfl (jV rfl (cC rfl ?_))
 refine aJ rfl rfl rfl rfl rfl (by decide) ?_
 refine aL rfl rfl rfl rfl (b9 rfl rfl rfl ?_)
 refine aJ rfl rfl rfl rfl rfl (by decide) ?_
 refine aL rfl rfl rfl rfl (b9 rfl rfl rfl ?_)
 refine fk rfl rfl (by omega) (by omega) ?_
 refine bG rfl ?_
 refine bp rfl rfl (by omega) (by omega) ?_
 refine bf rfl (by exact List.cons_ne_nil _ _) rfl ?_
 refine cv rfl rfl (by decide) rfl rfl (by exact (rfl : _ = Ty.int _ _)) rfl (by exact Nat.le_of_ble_eq_true rfl) rfl rfl (by exact (rfl : _ = [_])) ?_
 refine aD ?_
 refine ⟨by kernel_rfl, ?_⟩
 refine aC (aE ?_)
 refine gl (s := 9) rfl (Ty.aF _) ?_
 refine jz (tg := 10) rfl (Cont.nU (T := 3) (show [Ty.int .i64 (((aO y (nth bE)).length : Int) - (y.moves.length : Int) + q)] = [Ty.int .i64 ((y.bins.length * (y.D + 1) + q.toNat : Nat) : Int)] by congr 2; rw [hfl]; omega)) ?_
 refine lP (tg := 10) [(9, Ty.pp [Ty.int .i64 ((y.bins.length * (y.D + 1) + q.toNat : Nat) : Int)])] (by decide) rfl ⟨m5 (T := 3) (off := 0) (l := [Ty.int .i64 ((y.bins.length * (y.D + 1) + q.toNat : Nat) : Int)]) rfl rfl rfl (by decide), trivial⟩ ?_
 refine aB (jV rfl (dW rfl ?_))
 refine dI [(1000, 1000)] [] [(1000, Cont.vec c7 3 (yp (aO y (nth bE)) (y.cells + 1) (tY (y.bins.length * (y.D + 1) + q.toNat)) (kr y)))] (ES y (aO y (nth bE)) (kr y) hF hfe (Ty.kP 121 [Ty.pp [Ty.int .i64 ((y.bins.length * (y.D + 1) + q.toNat : Nat) : Int)]]) rfl rfl (tY (y.bins.length * (y.D + 1) + q.toNat)) (fun i _ => by rw [← Nt]; exact dx (Kg (i : Nat) _) rfl rfl rfl rfl rfl rfl) rfl) rfl rfl (aN (aN bW (aU rfl rfl)) (e9 (aN (aN (aN (aN (aN (aN bW (dV (by exact List.mem_cons_self))) (aU rfl rfl)) (aU rfl rfl)) (aU rfl rfl)) (aU rfl rfl)) (aU rfl rfl)))) (cz (a := 1000) (b := 1000) (by exact List.mem_cons_self) rfl (bt (by exact List.mem_cons_self) rfl) pre_nil) (bk (a := 1000) (b := 1000) (by decide) rfl (bt (by decide) rfl) post_nil) (aU rfl rfl) ?_
 refine bS rfl rfl (by decide) rfl rfl rfl rfl rfl rfl ?_
 refine bZ rfl (aD (aC (az ?_)))
 refine iA rfl rfl rfl rfl rfl (by decide) rfl rfl rfl ?_ ?_
 all_goals skip
 all_goals first | exact av rfl rfl (congrArg (fun s => Ty.agg (cA.tys s)) (Fo hc1 hc2 ho).2) | exact av rfl rfl (congrArg (Ty.int .i64) (Fo hc1 hc2 ho).1)
theorem DJ (y : aj) (hs : y.Small) (q : Int) : dK Tryz.prog 22 [eA y, Ty.int .i64 q] (Ty.lD [Ty.sl cA (jR y q), Ty.int .i64 (kF y q)]) := by
 by_cases ho : cX y = 0
 ·exact Dk y hs q ho
 exact CF y hs q ho
theorem NK (y : aj) (hs : y.Small) (q : Int) : dK Tryz.prog 48 [eA y, Ty.int .i64 q] (Ty.lD [Ty.agg (cA.tys (nE y q)), Ty.int .i64 (lQ y q)]) := by
 by_cases ho : cX y = 0
 ·exact EB y hs q ho
 exact EC y hs q ho
end Go.Proofs.YtelbollidfdcjaaGreat
namespace Go.T
open Go Go.RowKit
theorem PJ {ρ : List (Nat × Nat)} {l1 l2 : List Ty} (h1 : cG l1 = []) (h2 : bl l1 = []) : Conv ρ (.pp (l1 ++ l2)) (.pp l1) := fun w M M' v wf wf' hre ⟨b, off, e, hm, hlt, hd⟩ =>
 ⟨b, off, e, hre.none b hm, hlt, fun i t hi => by
  have hl := (List.getElem?_eq_some_iff.1 hi).1
  obtain ⟨x, hx, hdx⟩ := hd i t (by rw [List.getElem?_append_left hl]; exact hi)
  refine ⟨x, hx, aU ?_ ?_ w M M' x wf wf' hre hdx⟩
  ·refine List.eq_nil_iff_forall_not_mem.2 fun u hu => ?_
   have : u ∈ cG l1 := List.mem_flatMap.2 ⟨t, List.mem_of_getElem? hi, hu⟩
   rw [h1] at this; cases this
  refine List.eq_nil_iff_forall_not_mem.2 fun u hu => ?_
  have : u ∈ bl l1 := List.mem_flatMap.2 ⟨t, List.mem_of_getElem? hi, hu⟩
  rw [h2] at this; cases this⟩
end Go.T
namespace Go.Proofs.YtelbollidfdcjaaGreat
open Go Go.T
set_option maxHeartbeats 16000000
def pF (y : aj) (t : Nat) (i : Nat) : Bool := (List.range y.bins.length).any fun b => decide ((i : Int) = ((y.kept b t : Nat) : Int))
noncomputable def rz (fl : List cB) (n : Nat) (y : aj) (a : List Int) : Nat → List Int
  | 0 => a
  | t + 1 => yp fl n (pF y t) (rz fl n y a t)
noncomputable def rD (fl : List cB) (n : Nat) (y : aj) (k : Nat) : List Span := (List.range k).map fun t => iF fl n (pF y t)
noncomputable def sY (y : aj) : List Span := if cX y = 0 then rD (aO y (nth bE)) (y.cells + 1) y (y.D + 1) else []
noncomputable def lB (y : aj) (q s : Int) (p : Span → Bool) : Int :=
  if eE y q = 0 then (if (!(decide (s ≥ 0) && decide (s ≤ 300))) = true then 3 else if kF y q = 0 then (if fidx p (jR y q) < 0 then 6 else 0) else kF y q) else eE y q
noncomputable def nh (y : aj) (q s : Int) (p : Span → Bool) : Int := if lB y q s p = 0 then fidx p (jR y q) else 0
section
variable {y : aj} {fl : List cB} {a : List Int} {n b k : Nat} {q s : Int} {p : Span → Bool} {i t : Nat}
theorem CI (hN : Net fl n) (hn : 0 < n) (hB : Bd fl) (h : iG fl n a) : ∀ t, iG fl n (rz fl n y a t)
  | 0 => h
  | t + 1 => (sP hN hn hB (CI hN hn hB h t)).2.1
theorem KO : a = rz fl n y a 0 := rfl
theorem MU (t : Nat) : yp fl n (pF y t) (rz fl n y a t) = rz fl n y a (t + 1) := rfl
theorem Ic (t : Nat) : rD fl n y t ++ [iF fl n (pF y t)] = rD fl n y (t + 1) := by unfold rD; rw [List.range_succ, List.map_append]; rfl
theorem Jc (t : Nat) : (rD fl n y t).length = t := by unfold rD; rw [List.length_map, List.length_range]
theorem IK : rD fl n y 0 = [] := rfl
theorem KF (hb : b < y.bins.length) (h : (i : Int) = ((y.kept b t : Nat) : Int)) : true = pF y t i := (List.any_eq_true.2 ⟨b, List.mem_range.2 hb, decide_eq_true h⟩).symm
theorem N9 (h : ∀ b, b < y.bins.length → ¬ (i : Int) = ((y.kept b t : Nat) : Int)) : false = pF y t i := by
 refine (List.any_eq_false.2 fun b hb => ?_).symm
 rw [decide_eq_true_eq]; exact h b (List.mem_range.1 hb)
theorem OG (h : cX y ≠ 0) : [] = sY y := (if_neg h).symm
theorem CR (h : cX y = 0) : rD (aO y (nth bE)) (y.cells + 1) y (y.D + 1) = sY y := (if_pos h).symm
theorem GI {e : Int} (h : e = lB y q s p) (h0 : e ≠ 0) : 0 = nh y q s p := by unfold nh; rw [← h, if_neg h0]
theorem OU (h : ¬ eE y q = 0) : eE y q = lB y q s p ∧ 0 = nh y q s p := by
 have e : eE y q = lB y q s p := (if_neg h).symm
 exact ⟨e, GI e h⟩
theorem Og (h : eE y q = 0) (h2 : (!(decide (s ≥ 0) && decide (s ≤ 300))) = true) : 3 = lB y q s p ∧ 0 = nh y q s p := by
 have e : 3 = lB y q s p := by unfold lB; rw [if_pos h, if_pos h2]
 exact ⟨e, GI e (by decide)⟩
theorem Oz (h : eE y q = 0) (h2 : (!(decide (s ≥ 0) && decide (s ≤ 300))) = false) (h3 : ¬ kF y q = 0) : kF y q = lB y q s p ∧ 0 = nh y q s p := by
 have e : kF y q = lB y q s p := by unfold lB; rw [if_pos h, if_neg (by rw [h2]; decide), if_neg h3]
 exact ⟨e, GI e h3⟩
theorem Ov (h : eE y q = 0) (h2 : (!(decide (s ≥ 0) && decide (s ≤ 300))) = false) (h3 : kF y q = 0) (h4 : fidx p (jR y q) < 0) : 6 = lB y q s p ∧ 0 = nh y q s p := by
 have e : 6 = lB y q s p := by unfold lB; rw [if_pos h, if_neg (by rw [h2]; decide), if_pos h3, if_pos h4]
 exact ⟨e, GI e (by decide)⟩
theorem Ke (h : eE y q = 0) (h2 : (!(decide (s ≥ 0) && decide (s ≤ 300))) = false) (h3 : kF y q = 0) (h4 : ¬ fidx p (jR y q) < 0) : 0 = lB y q s p ∧ fidx p (jR y q) = nh y q s p := by
 have e : 0 = lB y q s p := by unfold lB; rw [if_pos h, if_neg (by rw [h2]; decide), if_pos h3, if_neg h4]
 exact ⟨e, by unfold nh; rw [← e]; rfl⟩
end
attribute [local irreducible] aO fN Way.iH Way.fin Way.room eY eD fA gq over bP cJ dc eZ jt fK iJ kM bh gV gH gM cy cQ gu pG iq jH jM iF Bj yp iM aj.kept aj.cells bO eE bE gN kr cX pH p8 kF jR lQ nE hasB tY rz rD sY pF lB nh
attribute [local irreducible] gF eX lq nY g7 gx g9 g5 g8 nW gz nT dM fj nM gC oB nth fW dR ay dK bodyPost Exit.then Exit.inBlock Code.wp Code.wpIn n9 hO nO ni gy eU cM cN bodyPostM dO
set_option maxRecDepth 100000 in
theorem Kv (y : aj) (hr : y.bY) (i t : Nat) (ht : t ≤ y.D) : dK Tryz.prog 88 [Ty.int .i64 ((i : Nat) : Int), Ty.pp (bC y), Ty.pp [Ty.pp (bC y)], Ty.pp [Ty.int .i64 ((t : Nat) : Int)]] (Ty.bool (pF y t i)) := by
 refine au Tryz.func88 rfl (by decide) Tryz.ntmps88 (by exact Nat.le_of_ble_eq_true rfl) fun w0 M0 => ?_
 have h1 := hr.bins
 refine aE (aB (dF rfl (aD (aC (aE (aE (aB ?_)))))))
 refine aJ rfl rfl rfl rfl rfl (by decide) ?_
 refine aL rfl rfl rfl rfl (b9 rfl rfl rfl (bG rfl (aD (aC (aZ ?_)))))
 refine bz (fun (b : {b : Nat // b ≤ y.bins.length ∧ ∀ c, c < b → ¬ (i : Int) = ((y.kept c t : Nat) : Int)}) => live [(0, Ty.int .i64 ((i : Nat) : Int)), (1, Ty.pp (bC y)), (2, Ty.pp [Ty.pp (bC y)]), (3, Ty.pp [Ty.int .i64 ((t : Nat) : Int)]), (9, Ty.int .i64 y.bins.length), (10, Ty.int .i64 (b.1 : Nat))] []) (fun b => y.bins.length - b.1) (⟨0, Nat.zero_le _, fun c hc => absurd hc (Nat.not_lt_zero c)⟩) ?_ fun b => ?_
 ·(refine cV.mk' ?_ ?_ <;> (repeat' (first | exact aH | exact aI | refine aA ?_ (Ty.aT _) | refine aA ?_ (Ty.aF _))))
 have hb := b.2.1
 refine aE (aB (bA rfl rfl rfl (aD (aC (aE ?_)))))
 refine ah rfl (fun hc1 => ?_) (fun hc1 => ?_)
 ·
  refine af (aC (aE (aZ (aE (aB (bG rfl (bZ rfl (aD (aC ?_)))))))))
  refine aE (aB (bG rfl (aL rfl rfl rfl rfl (bG rfl (aL rfl rfl rfl rfl ?_)))))
  refine ak (D5 y hr b.1 t (by omega) ht) rfl rfl rfl rfl rfl ?_
  refine bA rfl rfl rfl (aD (aC ?_))
  refine ah rfl (fun hc2 => ?_) (fun hc2 => ?_)
  ·
   refine aE (aB (dF rfl (aD (aC (az (bB (aS (aS (bB ?_)))))))))
   refine aS (bU rfl rfl ?_)
   all_goals skip
   all_goals exact av rfl rfl (congrArg Ty.bool (KF (by omega) hc2))
  refine af (bI (aC (aB ?_)))
  refine bp rfl rfl (by omega) (by omega) ?_
  refine bG rfl (aD ?_)
  refine bL (⟨b.1 + 1, by omega, fun c hc => by by_cases e : c = b.1; (subst e; exact hc2); exact b.2.2 c (by omega)⟩) ?_ (by show y.bins.length - (b.1 + 1) < y.bins.length - b.1; omega)
  (refine cV.mk' ?_ ?_ <;> (repeat' (first | exact aH | exact aI | refine aA ?_ (Ty.aT _) | refine aA ?_ (Ty.aF _))))
  all_goals skip
 refine b8 (aQ (aQ (aa rfl (aC (aE (aB (dF rfl (aD (aC ?_)))))))))
 refine az (bU rfl rfl ?_)
 all_goals skip
 all_goals exact av rfl rfl (congrArg Ty.bool (N9 fun c hc => b.2.2 c (by have := b.2.1; omega)))
set_option maxRecDepth 100000 in
theorem Es (y : aj) (hs : y.Small) (ho : cX y ≠ 0) : dK Tryz.prog 21 [eA y] (Ty.lD [Ty.sl cA (sY y), Ty.int .i64 (cX y)]) := by
 refine au Tryz.func21 rfl (by decide) Tryz.ntmps21 (by exact Nat.le_of_ble_eq_true rfl) fun w0 M0 => ?_
 refine aE (aB (bH rfl (mK rfl (bZ rfl (aD (aC (aE (aB ?_))))))))
 refine aY rfl rfl rfl (by exact Nat.le_of_ble_eq_true rfl) ?_
 refine ak (pX y hs ho) rfl rfl rfl rfl rfl (rH rfl (bN rfl rfl (bN rfl rfl ?_)))
 refine bf rfl (by exact List.cons_ne_nil _ _) rfl ?_
 refine cv rfl rfl (by decide) rfl rfl (by exact (rfl : _ = Ty.ex _)) rfl (by exact Nat.le_of_ble_eq_true rfl) rfl rfl (by exact (rfl : _ = [_])) ?_
 refine bZ rfl (aD (aC (aE (aE (aB (bG rfl (bA rfl rfl rfl (aD (aC ?_)))))))))
 refine qn rfl (by rw [decide_eq_false ho]; rfl) ?_
 refine aE (aB (bG rfl (mK rfl (bZ rfl (aD (aC (az (aS ?_))))))))
 refine fY rfl rfl rfl ?_ ?_
 all_goals first | exact cI rfl rfl | skip
 all_goals exact gZ (OG ho).symm
set_option maxRecDepth 100000 in
theorem EF (y : aj) (hs : y.Small) (ho : cX y = 0) : dK Tryz.prog 21 [eA y] (Ty.lD [Ty.sl cA (sY y), Ty.int .i64 (cX y)]) := by
 refine au Tryz.func21 rfl (by decide) Tryz.ntmps21 (by exact Nat.le_of_ble_eq_true rfl) fun w0 M0 => ?_
 have hck := ef ho
 have hr := cZ hck
 have hF : l8 y (aO y (nth bE)) (kr y) := uO ho
 have hfe := q6 ho
 have h1 := hr.bins
 have h2 := hr.days
 have h3 := D_eq hr
 have hft := CI (y := y) hF.net (Nat.succ_pos _) hF.bd hfe
 refine aE (aB (bH rfl (mK rfl (bZ rfl (aD (aC (aE (aB ?_))))))))
 refine aY rfl rfl rfl (by exact Nat.le_of_ble_eq_true rfl) ?_
 refine dI (res' := Ty.lD [Ty.pp (dZ y (aO y (nth bE)) 1000 (aO y (nth bE)).length), Ty.int .i64 0]) [(1000, 1000)] [1000] [(1000, Cont.vec c7 3 (kr y))] (xX y hs ho) rfl rfl (aN bW (aU rfl rfl)) pre_nil (bk (a := 1000) (b := 1000) (by decide) rfl (bt (by decide) rfl) post_nil) (EI (aN (aN bW (aU rfl rfl)) (e9 (aN (aN (aN (aN (aN (aN bW (dV (by decide))) (aU rfl rfl)) (aU rfl rfl)) (aU rfl rfl)) (aU rfl rfl)) (aU rfl rfl))))) ?_
 refine rH rfl (bN rfl rfl (bN rfl rfl ?_))
 refine bf rfl (by exact List.cons_ne_nil _ _) rfl ?_
 refine cv rfl rfl (by decide) rfl rfl (by exact (rfl : _ = Ty.pp _)) rfl (by exact Nat.le_of_ble_eq_true rfl) rfl rfl (by exact (rfl : _ = [_])) ?_
 refine bZ rfl (aD (aC (aE (aE (aB (bG rfl (bA rfl rfl rfl (aD (aC ?_)))))))))
 refine jm rfl (rfl) (af (aC (aE ?_)))
 refine lP (tg := 5) [(4, Ty.pp [Ty.pp (dZ y (aO y (nth bE)) 1000 (aO y (nth bE)).length)])] (by decide) rfl ⟨m5 (T := 152) (off := 0) (l := [Ty.pp (dZ y (aO y (nth bE)) 1000 (aO y (nth bE)).length)]) rfl rfl rfl (by decide), trivial⟩ ?_
 refine aB (mK rfl (aD (aC (aE (aE (aB ?_))))))
 refine aJ rfl rfl rfl rfl rfl (by decide) ?_
 refine aL rfl rfl rfl rfl ?_
 refine bp rfl rfl (by omega) (by omega) ?_
 refine bG rfl (aD (aC (aZ ?_)))
 refine bz (fun (t : {t : Nat // t ≤ y.D + 1}) => live [(1, Ty.pp (bC y)), (4, Ty.pp [Ty.pp (dZ y (aO y (nth bE)) 1000 (aO y (nth bE)).length)]), (6, Ty.row cA 37 27 (rD (aO y (nth bE)) (y.cells + 1) y t.1)), (18, Ty.int .i64 (y.days + 1)), (19, Ty.int .i64 (t.1 : Nat))] [(1000, Cont.vec c7 3 (rz (aO y (nth bE)) (y.cells + 1) y (kr y) t.1))]) (fun t => y.D + 1 - t.1) (⟨0, by omega⟩) ?_ fun t => ?_
 ·(refine cV.mk' ?_ ?_ <;> (repeat' (first | exact aH | exact aI | refine aA ?_ (Ty.aT _) | refine aA ?_ (Ty.aF _) | refine aG rfl ?_ ?_ | refine aA ?_ ?_)))
  all_goals first | exact B0 IK | exact Cont.dA KO
 have hbl := Jc (fl := (aO y (nth bE))) (n := (y.cells + 1)) (y := y) t.1
 have ht := t.2
 have hFt : l8 y (aO y (nth bE)) (rz (aO y (nth bE)) (y.cells + 1) y (kr y) t.1) := ⟨hr, hF.net, hF.bd, (hft t.1).1, hF.rE⟩
 refine aE (aB (bA rfl rfl rfl (aD (aC (aE ?_)))))
 refine ah rfl (fun hc2 => ?_) (fun hc2 => ?_)
 ·
  refine af (aC (aE (aZ (aE (aB (bG rfl ?_))))))
  refine bf rfl (by exact List.cons_ne_nil _ _) rfl ?_
  refine cv rfl rfl (by decide) rfl rfl (by exact (rfl : _ = Ty.int _ _)) rfl (by exact Nat.le_of_ble_eq_true rfl) rfl rfl (by exact (rfl : _ = [_])) ?_
  refine aD (aC ?_)
  refine lP (tg := 8) [(7, Ty.pp [Ty.int .i64 ((t.1 : Nat) : Int)])] (by decide) rfl ⟨m5 (T := 3) (off := 0) (l := [Ty.int .i64 ((t.1 : Nat) : Int)]) rfl rfl rfl (by decide), trivial⟩ ?_
  refine aB (D2 rfl (aL rfl rfl rfl rfl (dW rfl ?_)))
  refine dI [(1000, 1000)] [] [(1000, Cont.vec c7 3 (yp (aO y (nth bE)) (y.cells + 1) (pF y t.1) (rz (aO y (nth bE)) (y.cells + 1) y (kr y) t.1)))] (ES y (aO y (nth bE)) (rz (aO y (nth bE)) (y.cells + 1) y (kr y) t.1) hFt (hft t.1) (Ty.kP 88 [Ty.pp (bC y), Ty.pp [Ty.pp (bC y)], Ty.pp [Ty.int .i64 ((t.1 : Nat) : Int)]]) rfl rfl (pF y t.1) (fun i _ => dx (Kv y hr i t.1 (by omega)) rfl rfl rfl rfl rfl rfl) rfl) rfl rfl (aN (aN bW (uc (aN (aN (aN bW (aU rfl rfl)) (e9 (aN bW (PJ (l1 := bC y) (l2 := [Ty.sl dw (aO y (nth bE)), Ty.vs 1000 (aO y (nth bE)).length]) rfl rfl)))) (aU rfl rfl)))) (e9 (aN (aN (aN (aN (aN (aN bW (dV (by exact List.mem_cons_self))) (aU rfl rfl)) (aU rfl rfl)) (aU rfl rfl)) (aU rfl rfl)) (aU rfl rfl)))) (cz (a := 1000) (b := 1000) (by exact List.mem_cons_self) rfl (bt (by exact List.mem_cons_self) rfl) pre_nil) (bk (a := 1000) (b := 1000) (by decide) rfl (bt (by decide) rfl) post_nil) (aU rfl rfl) ?_
  refine bX (E := cA) (xs := [iF (aO y (nth bE)) (y.cells + 1) (pF y t.1)]) rfl rfl rfl rfl rfl (by decide) (by decide) (by repeat (first | exact (aV.nil : aV _ _ [] _) | (show aV _ _ ((_, _) :: _) _; apply aV.agg; (· exact (rfl : _ = Ty.agg _))))) (by exact rfl) rfl ?_
  refine dh rfl rfl (by decide) rfl rfl rfl rfl rfl rfl (by decide) (by (simp <;> omega)) (by (simp <;> omega)) ?_
  refine yg rfl (aD (bI (aC (aB ?_))))
  refine bp rfl rfl (by omega) (by omega) ?_
  refine bG rfl (aD ?_)
  refine bL (⟨t.1 + 1, by omega⟩) ?_ (by show y.D + 1 - (t.1 + 1) < y.D + 1 - t.1; omega)
  (refine cV.mk' ?_ ?_ <;> (repeat' (first | exact aH | exact aI | refine aA ?_ (Ty.aT _) | refine aA ?_ (Ty.aF _) | refine aG rfl ?_ ?_ | refine aA ?_ ?_)))
  all_goals skip
  all_goals first | exact Ty.eG (Ic _) | exact Cont.dA (MU _)
 refine b8 (aQ (aQ (aa rfl (aC (aE (aB (D2 rfl (yg rfl (bZ rfl ?_)))))))))
 refine aD (aC (az ?_))
 refine fY rfl rfl rfl ?_ ?_
 all_goals skip
 all_goals first | exact wR (by decide) ((show _ = rD (aO y (nth bE)) (y.cells + 1) y (y.D + 1) by rw [show t.1 = y.D + 1 by have := t.2; omega]).trans (CR ho)) | exact av rfl rfl (congrArg (Ty.int .i64) ho.symm)
set_option maxRecDepth 100000 in
theorem N5 (y : aj) (hs : y.Small) (q s : Int) (t : Ty) (h1 : t.one = true) (p : Span → Bool) (hd : t.deps = []) (hc : t.cdeps = []) (hf : ∀ x ∈ jR y q, pJ Tryz.prog t [Ty.agg (cA.tys x)] (Ty.bool (p x))) : dK Tryz.prog 100 [eA y, Ty.int .i64 q, Ty.int .i64 s, t] (Ty.lD [Ty.int .i64 (nh y q s p), Ty.int .i64 (lB y q s p)]) := by
 refine au Tryz.func100 rfl (by decide) Tryz.ntmps100 (by exact Nat.le_of_ble_eq_true rfl) fun w0 M0 => ?_
 refine aE (aB (bH rfl (bZ rfl (bZ rfl (aD (aC (aE (aE (aB ?_)))))))))
 refine aY rfl rfl rfl (by exact Nat.le_of_ble_eq_true rfl) ?_
 refine bG rfl (ak (BN y hs q) rfl rfl rfl rfl rfl (bZ rfl (aD (aC (aE (aB (bG rfl (bA rfl rfl rfl (aD ?_)))))))))
 refine aC ?_
 refine c9 rfl (fun hc1 => ?_) (fun hc1 => ?_)
 ·
  refine aE (aB (bG rfl (bZ rfl (bZ rfl (aD (aC (az (aS ?_))))))))
  refine fY rfl rfl rfl ?_ ?_
  all_goals skip
  all_goals first | exact av rfl rfl (congrArg (Ty.int .i64) (OU hc1).1) | exact av rfl rfl (congrArg (Ty.int .i64) (OU hc1).2)
 refine af (aC (aE (aE (aB (bG rfl (ak (vV _ _ _) rfl rfl rfl rfl rfl (eJ rfl (aD (aC ?_)))))))))
 refine cF rfl (fun hc2 => ?_) (fun hc2 => ?_)
 ·
  refine aE (aB (bZ rfl (bZ rfl (aD (aC (az (aS ?_)))))))
  refine fY rfl rfl rfl ?_ ?_
  all_goals skip
  all_goals first | exact av rfl rfl (congrArg (Ty.int .i64) (Og hc1 hc2).1) | exact av rfl rfl (congrArg (Ty.int .i64) (Og hc1 hc2).2)
 refine af (aC (aE (aB ?_)))
 refine aY rfl rfl rfl (by exact Nat.le_of_ble_eq_true rfl) ?_
 refine bG rfl (ak (DJ y hs q) rfl rfl rfl rfl rfl (rH rfl (bN rfl rfl (bN rfl rfl (F8 rfl (bZ rfl (aD (aC (aE ?_)))))))))
 refine aE (aB (bG rfl (bA rfl rfl rfl (aD (aC ?_)))))
 refine c9 rfl (fun hc3 => ?_) (fun hc3 => ?_)
 ·
  refine aE (aB (bG rfl (bZ rfl (bZ rfl (aD (aC (az (aS ?_))))))))
  refine fY rfl rfl rfl ?_ ?_
  all_goals skip
  all_goals first | exact av rfl rfl (congrArg (Ty.int .i64) (Oz hc1 hc2 hc3).1) | exact av rfl rfl (congrArg (Ty.int .i64) (Oz hc1 hc2 hc3).2)
 refine af (aC (aE (aB (ew rfl ?_))))
 refine eL (ty := t) rfl ?_
 refine ak (vf (jR y q) t h1 p hd hc hf) rfl (by exact bg rfl (bg hd rfl)) (by exact bT rfl (bT hc rfl)) rfl rfl ?_
 refine bZ rfl (aD (aC (aE (aE (aB (bG rfl (bA rfl rfl rfl (aD (aC ?_)))))))))
 refine ah rfl (fun hc4 => ?_) (fun hc4 => ?_)
 ·
  refine aE (aB (bZ rfl (bZ rfl (aD (aC (az (aS ?_)))))))
  refine fY rfl rfl rfl ?_ ?_
  all_goals skip
  all_goals first | exact av rfl rfl (congrArg (Ty.int .i64) (Ov hc1 hc2 hc3 hc4).1) | exact av rfl rfl (congrArg (Ty.int .i64) (Ov hc1 hc2 hc3 hc4).2)
 refine af (aC (aE (aB (bG rfl (bZ rfl (bZ rfl (aD (aC (az ?_)))))))))
 refine fY rfl rfl rfl ?_ ?_
 all_goals skip
 all_goals first | exact av rfl rfl (congrArg (Ty.int .i64) (Ke hc1 hc2 hc3 hc4).1) | exact av rfl rfl (congrArg (Ty.int .i64) (Ke hc1 hc2 hc3 hc4).2)
set_option maxRecDepth 100000 in
theorem G8 (s : Span) (k : Int) : dK Tryz.prog 101 [Ty.agg (cA.tys s), Ty.pp [Ty.int .i64 k]] (Ty.bool (decide (s.lo ≥ k))) := by
 refine au Tryz.func101 rfl (by decide) Tryz.ntmps101 (by exact Nat.le_of_ble_eq_true rfl) fun w0 M0 => ?_
 refine aE (aB (bH rfl (dF rfl (aD (aC (aE (aB ?_)))))))
 refine aJ rfl rfl rfl rfl rfl (by decide) ?_
 refine aL rfl rfl rfl rfl (aL rfl rfl rfl rfl (bA rfl rfl rfl (dF rfl (aD (aC (az (bU rfl rfl ?_)))))))
 all_goals exact cI rfl rfl
set_option maxRecDepth 100000 in
theorem Kw (y : aj) (hs : y.Small) (q s : Int) : dK Tryz.prog 33 [eA y, Ty.int .i64 q, Ty.int .i64 s] (Ty.lD [Ty.int .i64 (nh y q s fun x => decide (x.lo ≥ s)), Ty.int .i64 (lB y q s fun x => decide (x.lo ≥ s))]) := by
 refine au Tryz.func33 rfl (by decide) Tryz.ntmps33 (by exact Nat.le_of_ble_eq_true rfl) fun w0 M0 => ?_
 refine aE (aB (bH rfl ?_))
 refine iD (by exact (rfl : _ = Ty.int _ _)) rfl ?_
 refine bZ rfl (bZ rfl (aD (aC (aE (aB ?_)))))
 refine aY rfl rfl rfl (by exact Nat.le_of_ble_eq_true rfl) ?_
 refine bG rfl (aL rfl rfl rfl rfl (dW rfl ?_))
 refine ak (N5 y hs q s (Ty.kP 101 [Ty.pp [Ty.int .i64 s]]) rfl (fun x => decide (x.lo ≥ s)) rfl rfl fun x _ => dx (G8 x s) rfl rfl rfl rfl rfl rfl) rfl rfl rfl rfl rfl ?_
 refine bN rfl rfl (bN rfl rfl (bZ rfl (bZ rfl (aD (aC (az ?_))))))
 refine fY rfl rfl rfl ?_ ?_
 all_goals exact cI rfl rfl
theorem NB (y : aj) (hs : y.Small) : dK Tryz.prog 21 [eA y] (Ty.lD [Ty.sl cA (sY y), Ty.int .i64 (cX y)]) := by
 by_cases ho : cX y = 0
 ·exact EF y hs ho
 exact Es y hs ho
end Go.Proofs.YtelbollidfdcjaaGreat
namespace Go.Proofs.YtelbollidfdcjaaGreat
open Go Go.T
set_option maxHeartbeats 16000000
structure rm where
  cells : List lH
  out : Bool
  deriving Inhabited
def dn (p : rm) : List Ty := [Ty.sl fq p.cells, Ty.bool p.out]
def e8 (fl : List cB) : Int := fl.foldl (fun m f => max m (f.lo - f.hi)) (-300)
def kK (y : aj) (l : List lH) (c : Int) : Bool := l.any fun x => decide (y.cell x.bin x.day = c)
def Dt (y : aj) (p : rm) (f : cB) : Bool := if p.out = true then (kK y p.cells f.src && !kK y p.cells f.dst) else (kK y p.cells f.dst && !kK y p.cells f.src)
def Bl (y : aj) (p : rm) (f : cB) : Bool := if p.out = true then (kK y p.cells f.dst && !kK y p.cells f.src) else (kK y p.cells f.src && !kK y p.cells f.dst)
def ox (y : aj) (p : rm) (m : Int) (f : cB) : Int := (m + if Dt y p f = true then f.lo else 0) - if Bl y p f = true then f.hi else 0
def fM (y : aj) (fl : List cB) (p : rm) : Nat → Int
  | 0 => 0
  | k + 1 => ox y p (fM y fl p k) (nth fl k)
def gE (y : aj) (fl : List cB) (p : rm) : Int := if p.cells = [] then e8 fl else fM y fl p fl.length
def eW (a b : lH) : Bool := !decide (a = b) && (decide (a.bin < b.bin) || (decide (a.bin = b.bin) && decide (a.day < b.day)))
def qJ (y : aj) (c : lH) : Bool := y.bin c.bin && (decide (c.day ≥ 0) && decide (c.day ≤ y.days - 1))
open Classical in
noncomputable def iz (y : aj) (p : rm) : Int := if bO y = 0 then (if (p.cells.all (qJ y)) = true then (if (∀ i, i + 1 < p.cells.length → eW (nth p.cells i) (nth p.cells (i + 1)) = true) then (if gE y (aO y (nth bE)) p < 1 then 6 else 0) else 4) else 1) else bO y
noncomputable def kQ (y : aj) (p : rm) : Int := if iz y p = 0 then gE y (aO y (nth bE)) p else 0
section
variable {y : aj} {fl : List cB} {a : List Int} {n b k : Nat} {p : rm} {f : cB} {m : Int}
theorem oI : -300 = e8 (fl.take 0) := rfl
theorem mN (h : k < fl.length) : max (e8 (fl.take k)) ((nth fl k).lo - (nth fl k).hi) = e8 (fl.take (k + 1)) := by
 unfold e8; rw [cR h, List.foldl_append]; rfl
theorem z8 (hb : ∀ i, i < fl.length → 0 ≤ (nth fl i).lo ∧ (nth fl i).lo ≤ 300 ∧ 0 ≤ (nth fl i).hi ∧ (nth fl i).hi ≤ 300) : ∀ k, k ≤ fl.length → -300 ≤ e8 (fl.take k) ∧ e8 (fl.take k) ≤ 300
  | 0, _ => by rw [← oI]; omega
  | k + 1, h => by
    have ih := z8 hb k (by omega)
    have := hb k (by omega)
    rw [← mN (by omega)]; omega
theorem Jo (h : p.out = true) : (kK y p.cells f.src && !kK y p.cells f.dst) = Dt y p f ∧ (kK y p.cells f.dst && !kK y p.cells f.src) = Bl y p f := ⟨(if_pos h).symm, (if_pos h).symm⟩
theorem OV (h : p.out = false) : (kK y p.cells f.dst && !kK y p.cells f.src) = Dt y p f ∧ (kK y p.cells f.src && !kK y p.cells f.dst) = Bl y p f := ⟨(if_neg (by rw [h]; decide)).symm, (if_neg (by rw [h]; decide)).symm⟩
def pE (y : aj) (p : rm) (m : Int) (f : cB) : Int := m + if Dt y p f = true then f.lo else 0
theorem MK (h : Dt y p f = true) : m + f.lo = pE y p m f := by unfold pE; rw [if_pos h]
theorem Mm (h : Dt y p f = false) : m = pE y p m f := by unfold pE; rw [if_neg (by rw [h]; decide)]; omega
theorem GC (h : 0 ≤ f.lo ∧ f.lo ≤ 300) : m ≤ pE y p m f ∧ pE y p m f ≤ m + 300 := by unfold pE; split <;> omega
theorem zJ : 0 = fM y fl p 0 := rfl
theorem Bo (h : Bl y p (nth fl k) = true) : pE y p (fM y fl p k) (nth fl k) - (nth fl k).hi = fM y fl p (k + 1) := by
 show _ = ox y p _ _; unfold ox; rw [if_pos h]; rfl
theorem Gc (h : Bl y p (nth fl k) = false) : pE y p (fM y fl p k) (nth fl k) = fM y fl p (k + 1) := by
 have e : ¬ Bl y p (nth fl k) = true := by rw [h]; decide
 show _ = ox y p _ _; unfold ox; rw [if_neg e]; unfold pE; omega
theorem Bz (hb : ∀ i, i < fl.length → 0 ≤ (nth fl i).lo ∧ (nth fl i).lo ≤ 300 ∧ 0 ≤ (nth fl i).hi ∧ (nth fl i).hi ≤ 300) : ∀ k, k ≤ fl.length → -(300 * (k : Int)) ≤ fM y fl p k ∧ fM y fl p k ≤ 300 * (k : Int)
  | 0, _ => by rw [← zJ]; omega
  | k + 1, h => by
    have ih := Bz hb k (by omega)
    have h1 := hb k (by omega)
    have h2 := GC (y := y) (p := p) (m := fM y fl p k) (f := nth fl k) ⟨h1.1, h1.2.1⟩
    cases e : Bl y p (nth fl k) with
    | true => rw [← Bo e]; omega
    | false => rw [← Gc e]; omega
theorem yF (h : p.cells = []) : e8 fl = gE y fl p := (if_pos h).symm
theorem uq (h : p.cells ≠ []) : fM y fl p fl.length = gE y fl p := (if_neg h).symm
theorem QE (h : (p.cells.length : Int) = 0) : p.cells = [] := List.length_eq_zero_iff.1 (by omega)
theorem Me (h : ¬ (p.cells.length : Int) = 0) : p.cells ≠ [] := fun e => h (by rw [e]; rfl)
theorem Gr {e : Int} (h : e = iz y p) (h0 : e ≠ 0) : 0 = kQ y p := by unfold kQ; rw [← h, if_neg h0]
theorem Fe (h : ¬ bO y = 0) : bO y = iz y p ∧ 0 = kQ y p := by
 have e : bO y = iz y p := (if_neg h).symm
 exact ⟨e, Gr e h⟩
theorem I8 (h : bO y = 0) (h2 : (p.cells.all (qJ y)) = false) : 1 = iz y p ∧ 0 = kQ y p := by
 have e : 1 = iz y p := by unfold iz; rw [if_pos h, if_neg (by rw [h2]; decide)]
 exact ⟨e, Gr e (by decide)⟩
theorem OY (h : bO y = 0) (h2 : (p.cells.all (qJ y)) = true) {i : Nat} (hi : i + 1 < p.cells.length) (h3 : eW (nth p.cells i) (nth p.cells (i + 1)) = false) : 4 = iz y p ∧ 0 = kQ y p := by
 have e : 4 = iz y p := by
  unfold iz; rw [if_pos h, if_pos h2, if_neg fun hx => by rw [hx i hi] at h3; cases h3]
 exact ⟨e, Gr e (by decide)⟩
theorem J4 (h : bO y = 0) (h2 : (p.cells.all (qJ y)) = true) {i : Nat} (h1 : 1 ≤ i) (hi : i < p.cells.length) (h3 : eW (nth p.cells (i - 1)) (nth p.cells i) = false) : 4 = iz y p ∧ 0 = kQ y p := by
 obtain ⟨j, rfl⟩ : ∃ j, i = j + 1 := ⟨i - 1, by omega⟩
 exact OY h h2 hi h3
theorem Lw (h : bO y = 0) (h2 : (p.cells.all (qJ y)) = true) (h3 : ∀ i, i + 1 < p.cells.length → eW (nth p.cells i) (nth p.cells (i + 1)) = true) (h4 : gE y (aO y (nth bE)) p < 1) : 6 = iz y p ∧ 0 = kQ y p := by
 have e : 6 = iz y p := by unfold iz; rw [if_pos h, if_pos h2, if_pos h3, if_pos h4]
 exact ⟨e, Gr e (by decide)⟩
theorem AO (h : bO y = 0) (h2 : (p.cells.all (qJ y)) = true) (h3 : ∀ i, i + 1 < p.cells.length → eW (nth p.cells i) (nth p.cells (i + 1)) = true) (h4 : ¬ gE y (aO y (nth bE)) p < 1) : 0 = iz y p ∧ gE y (aO y (nth bE)) p = kQ y p := by
 have e : 0 = iz y p := by unfold iz; rw [if_pos h, if_pos h2, if_pos h3, if_neg h4]
 exact ⟨e, by unfold kQ; rw [← e]; rfl⟩
theorem EW (a b : lH) : (decide (a.bin = b.bin) && decide (a.day = b.day)) = decide (a = b) := by
 cases a; cases b; simp
theorem PW {c : lH} (h : qJ y c = true) : (-1 ≤ c.bin ∧ c.bin < y.bins.length) ∧ 0 ≤ c.day ∧ c.day ≤ y.days := by
 unfold qJ aj.bin zh at h
 simp only [Bool.and_eq_true, decide_eq_true_eq] at h; omega
theorem Gl (hr : y.bY) {c : Nat → Bool} {t : Nat} {q : Span} (h : q.lo ≤ 300 ∧ 0 ≤ q.hi) : ∀ k, k ≤ y.levels.length → (dz y c b t q k).lo ≤ 300 ∧ 0 ≤ (dz y c b t q k).hi
  | 0, _ => h
  | k + 1, hk => by
    have ih := Gl hr (c := c) (t := t) h k (by omega)
    have hl := hr.level _ (cT (xs := y.levels) (k := k) (by omega))
    unfold dz; split
    · show max _ _ ≤ 300 ∧ 0 ≤ min _ _; omega
    · exact ih
theorem Lm (hr : y.bY) {c : Nat → Bool} {i : Nat} (hi : i < (aO y c).length) : 0 ≤ (nth (aO y c) i).lo ∧ (nth (aO y c) i).lo ≤ 300 ∧ 0 ≤ (nth (aO y c) i).hi ∧ (nth (aO y c) i).hi ≤ 300 := by
 have hB := tL hr (c := c) i hi
 suffices h : (nth (aO y c) i).lo ≤ 300 ∧ 0 ≤ (nth (aO y c) i).hi by omega
 rcases oP hi with ⟨b, t, hb, ht, rfl⟩ | ⟨k, hk, rfl⟩
 ·rw [gR hb ht]
  obtain ⟨h1, h2, h3⟩ := hr.bin _ (cT hb)
  refine Gl hr (q := dj y b t) ?_ y.levels.length (Nat.le_refl _)
  unfold dj; split
  ·exact ⟨by show (0 : Int) ≤ 300; decide, h1.1⟩
  show max _ _ ≤ 300 ∧ 0 ≤ min _ _; omega
 rw [gT hk]
 have h := (hr.move _ (cT hk)).2.2.2.2
 show (nth y.moves k).sacks.lo ≤ 300 ∧ 0 ≤ (nth y.moves k).sacks.hi
 omega
theorem yT (hr : y.bY) {c : Nat → Bool} : ∀ i, i < (aO y c).length → 0 ≤ (nth (aO y c) i).lo ∧ (nth (aO y c) i).lo ≤ 300 ∧ 0 ≤ (nth (aO y c) i).hi ∧ (nth (aO y c) i).hi ≤ 300 := fun i hi => Lm hr hi
end
attribute [local irreducible] aO fN Way.iH Way.fin Way.room eY eD fA gq over bP cJ dc eZ jt fK iJ kM bh gV gH gM cy cQ gu pG iq jH jM iF Bj yp iM aj.kept aj.cells bO eE bE gN kr cX pH p8 kF jR lQ nE hasB tY rz rD sY pF lB nh e8 kK fM gE Dt Bl ox
attribute [local irreducible] pE
attribute [local irreducible] gF eX lq nY g7 gx g9 g5 g8 nW gz nT dM fj nM gC oB nth fW dR ay dK bodyPost Exit.then Exit.inBlock Code.wp Code.wpIn n9 hO nO ni gy eU cM cN bodyPostM dO
set_option maxRecDepth 100000 in
theorem AK (y : aj) (fl : List cB) (a : List Int) (hfl : fl.length ≤ 34) (hb : ∀ i, i < fl.length → 0 ≤ (nth fl i).lo ∧ (nth fl i).lo ≤ 300 ∧ 0 ≤ (nth fl i).hi ∧ (nth fl i).hi ≤ 300) : dK Tryz.prog 128 [Ty.pp (mm y fl a)] (Ty.int .i64 (e8 fl)) := by
 refine au Tryz.func128 rfl (by decide) Tryz.ntmps128 (by exact Nat.le_of_ble_eq_true rfl) fun w0 M0 => ?_
 refine aE (aB (bZ rfl (aD (aC (aE (aB (bZ rfl (aD (aC ?_)))))))))
 refine aE (aE (aB (jV rfl (cC rfl ?_))))
 refine aJ rfl rfl rfl rfl rfl (by decide) ?_
 refine aL rfl rfl rfl rfl (b9 rfl rfl rfl (bG rfl (aD (aC (aZ ?_)))))
 refine bz (fun (k : {k : Nat // k ≤ fl.length}) => live [(0, Ty.pp (mm y fl a)), (3, Ty.int .i64 (e8 (fl.take k.1))), (9, Ty.sl dw fl), (10, Ty.int .i64 fl.length), (11, Ty.int .i64 (k.1 : Nat))] []) (fun k => fl.length - k.1) (⟨0, by omega⟩) ?_ fun k => ?_
 ·(refine cV.mk' ?_ ?_ <;> (repeat' (first | exact aH | exact aI | refine aA ?_ (Ty.aT _) | refine aA ?_ (Ty.aF _) | refine aA ?_ ?_)))
  all_goals exact Ty.bD oI
 have hk := k.2
 refine aE (aB (bA rfl rfl rfl (aD (aC (aE ?_)))))
 refine ah rfl (fun hc1 => ?_) (fun hc1 => ?_)
 ·
  refine af (aC (aE (aZ (aE (aB ?_)))))
  refine aq rfl rfl rfl rfl rfl rfl (by omega) ?_
  refine aY rfl rfl rfl (by exact Nat.le_of_ble_eq_true rfl) ?_
  refine bf rfl (by exact List.cons_ne_nil _ _) rfl ?_
  refine bS rfl rfl (by decide) rfl rfl rfl rfl rfl rfl ?_
  refine aD (aC ?_)
  have hbk := hb k.1 (by omega)
  refine aB (bG rfl ?_)
  refine aR rfl rfl rfl rfl rfl (by decide) ?_
  refine aX rfl rfl (by decide) rfl rfl rfl ?_
  refine aR rfl rfl rfl rfl rfl (by decide) ?_
  refine aX rfl rfl (by decide) rfl rfl rfl ?_
  refine fk rfl rfl (by omega) (by omega) ?_
  refine vA rfl rfl (bZ rfl (aD (bI (aC (aB ?_)))))
  refine bp rfl rfl (by omega) (by omega) ?_
  refine bG rfl (aD ?_)
  refine bL (⟨k.1 + 1, by omega⟩) ?_ (by show fl.length - (k.1 + 1) < fl.length - k.1; omega)
  (refine cV.mk' ?_ ?_ <;> (repeat' (first | exact aH | exact aI | refine aA ?_ (Ty.aT _) | refine aA ?_ (Ty.aF _) | refine aA ?_ ?_)))
  all_goals skip
  all_goals exact Ty.bD (mN (by omega))
 refine b8 (aQ (aQ (aa rfl (aC (aE (aB (bG rfl (bZ rfl (aD ?_)))))))))
 refine aC (az (bU rfl rfl ?_))
 all_goals skip
 all_goals exact av rfl rfl (congrArg (Ty.int .i64) (by rw [List.take_of_length_le (by have := k.2; omega)]))
set_option maxRecDepth 100000 in
theorem Hv (y : aj) (hr : y.bY) (fl : List cB) (a : List Int) (x : lH) (hx : (-1 ≤ x.bin ∧ x.bin < y.bins.length) ∧ 0 ≤ x.day ∧ x.day ≤ y.days) (c : Int) : dK Tryz.prog 188 [Ty.agg (fq.tys x), Ty.pp [Ty.pp (mm y fl a)], Ty.pp [Ty.int .i64 c]] (Ty.bool (decide (y.cell x.bin x.day = c))) := by
 refine au Tryz.func188 rfl (by decide) Tryz.ntmps188 (by exact Nat.le_of_ble_eq_true rfl) fun w0 M0 => ?_
 refine aE (aB (bH rfl (dF rfl (aD (aC (aE (cH mixed rfl (aL rfl rfl rfl rfl ?_))))))))
 refine aJ rfl rfl rfl rfl rfl (by decide) ?_
 refine aL rfl rfl rfl rfl ?_
 refine aJ rfl rfl rfl rfl rfl (by decide) ?_
 refine aL rfl rfl rfl rfl ?_
 refine dr [] (uf y hr x.bin x.day hx.1 hx.2) rfl (aW (jk (l1 := bC y) (l2 := [Ty.sl dw fl, Ty.sl c7 a]) rfl rfl) (aW (bQ (bR rfl rfl)) (aW (bQ (bR rfl rfl)) cL))) (by exact dJ _ _) ?_
 refine aL rfl rfl rfl rfl (bA rfl rfl rfl (dF rfl (aD ?_)))
 refine ⟨by kernel_rfl, ?_⟩
 refine aC (az (bU rfl rfl ?_))
 all_goals exact cI rfl rfl
set_option maxRecDepth 100000 in
theorem tX (y : aj) (hr : y.bY) (fl : List cB) (a : List Int) (p : rm) (hp : ∀ x ∈ p.cells, (-1 ≤ x.bin ∧ x.bin < y.bins.length) ∧ 0 ≤ x.day ∧ x.day ≤ y.days) (c : Int) : dK Tryz.prog 187 [Ty.int .i64 c, Ty.pp (dn p), Ty.pp [Ty.pp (mm y fl a)]] (Ty.bool (kK y p.cells c)) := by
 refine au Tryz.func187 rfl (by decide) Tryz.ntmps187 (by exact Nat.le_of_ble_eq_true rfl) fun w0 M0 => ?_
 refine aE (aB ?_)
 refine iD (by exact (rfl : _ = Ty.int _ _)) rfl ?_
 refine dF rfl (aD (aC (aE (aB ?_))))
 refine aJ rfl rfl rfl rfl rfl (by decide) ?_
 refine aL rfl rfl rfl rfl (dW rfl ?_)
 refine ak (mT p.cells (Ty.kP 188 [Ty.pp [Ty.pp (mm y fl a)], Ty.pp [Ty.int .i64 c]]) rfl (fun x => decide (y.cell x.bin x.day = c)) rfl rfl fun x hx => dx (Hv y hr fl a x (hp x hx) c) rfl rfl rfl rfl rfl rfl) rfl rfl rfl rfl rfl ?_
 refine dF rfl (aD (aC (az (bU rfl rfl ?_))))
 all_goals skip
 all_goals exact av rfl rfl (congrArg Ty.bool (by unfold kK; rfl))
set_option maxRecDepth 100000 in
theorem N0 (y : aj) (hr : y.bY) (fl : List cB) (a : List Int) (hfl : fl.length ≤ 34) (hb : ∀ i, i < fl.length → 0 ≤ (nth fl i).lo ∧ (nth fl i).lo ≤ 300 ∧ 0 ≤ (nth fl i).hi ∧ (nth fl i).hi ≤ 300) (p : rm) (hp : ∀ x ∈ p.cells, (-1 ≤ x.bin ∧ x.bin < y.bins.length) ∧ 0 ≤ x.day ∧ x.day ≤ y.days) : dK Tryz.prog 137 [Ty.pp (mm y fl a), Ty.agg (dn p)] (Ty.int .i64 (gE y fl p)) := by
 refine au Tryz.func137 rfl (by decide) Tryz.ntmps137 (by exact Nat.le_of_ble_eq_true rfl) fun w0 M0 => ?_
 refine aE (aB ?_)
 refine iD (by exact (rfl : _ = Ty.pp _)) rfl ?_
 refine bH rfl (bZ rfl (aD (aC (aE (aE (aB ?_))))))
 refine aJ rfl rfl rfl rfl rfl (by decide) ?_
 refine aL rfl rfl rfl rfl (b9 rfl rfl rfl (bA rfl rfl rfl (aD (aC ?_))))
 refine ah rfl (fun hc1 => ?_) (fun hc1 => ?_)
 ·
  refine aE (aB (aL rfl rfl rfl rfl (ak (AK y fl a hfl hb) rfl rfl rfl rfl rfl (bZ rfl (aD (aC (az (aS (bU rfl rfl ?_)))))))))
  all_goals skip
  all_goals exact av rfl rfl (congrArg (Ty.int .i64) (yF (QE hc1)))
 refine af (aC (aE (aB (dW rfl (SP rfl (aD (aC (aE (aB ?_)))))))))
 refine bZ rfl (aD (aC (aE (aE (aB (aL rfl rfl rfl rfl (cC rfl ?_)))))))
 refine aJ rfl rfl rfl rfl rfl (by decide) ?_
 refine aL rfl rfl rfl rfl (b9 rfl rfl rfl (bG rfl (aD (aC (aZ ?_)))))
 refine bz (fun (k : {k : Nat // k ≤ fl.length}) => live [(3, Ty.pp (dn p)), (5, Ty.kP 187 [Ty.pp (dn p), Ty.pp [Ty.pp (mm y fl a)]]), (6, Ty.int .i64 (fM y fl p k.1)), (21, Ty.sl dw fl), (22, Ty.int .i64 fl.length), (23, Ty.int .i64 (k.1 : Nat))] []) (fun k => fl.length - k.1) (⟨0, by omega⟩) ?_ fun k => ?_
 ·(refine cV.mk' ?_ ?_ <;> (repeat' (first | exact aH | exact aI | refine aA ?_ (Ty.aT _) | refine aA ?_ (Ty.aF _) | refine aA ?_ ?_)))
  all_goals exact Ty.bD zJ
 have hk := k.2
 have hup := Bz (y := y) (p := p) hb k.1 k.2
 refine aE (aB (bA rfl rfl rfl (aD (aC (aE ?_)))))
 refine ah rfl (fun hc2 => ?_) (fun hc2 => ?_)
 ·
  refine af (aC (aE (aZ (aE (aB ?_)))))
  refine aq rfl rfl rfl rfl rfl rfl (by omega) ?_
  refine aY rfl rfl rfl (by exact Nat.le_of_ble_eq_true rfl) ?_
  refine bf rfl (by exact List.cons_ne_nil _ _) rfl ?_
  refine bS rfl rfl (by decide) rfl rfl rfl rfl rfl rfl ?_
  refine aD (aC (aE ?_))
  have hbk := hb k.1 (by omega)
  have hhf := GC (y := y) (p := p) (m := fM y fl p k.1) (f := (nth fl k.1)) ⟨hbk.1, hbk.2.1⟩
  refine cH mixed rfl (Ro rfl ?_)
  refine aR rfl rfl rfl rfl rfl (by decide) ?_
  refine aX rfl rfl (by decide) rfl rfl rfl ?_
  refine fC rfl (dx (tX y hr fl a p hp (nth fl k.1).dst) rfl rfl rfl rfl rfl rfl) rfl (eF rfl ?_)
  apply aM (s := 31) rfl rfl rfl
  ·intro hg; apply aP; (refine Ro rfl ?_); refine aD ?_; exact rfl
  ·exact rfl
  ·exact rfl
  apply aM (s := 31) rfl rfl rfl
  ·intro hg; apply aP; (refine aR rfl rfl rfl rfl rfl (by decide) ?_); refine aD ?_; exact rfl
  ·exact rfl
  ·exact rfl
  apply aM (s := 31) rfl rfl rfl
  ·intro hg; apply aK (s := 33) rfl (by (rw [hg]; rfl)); apply aP; (refine aX rfl rfl (by decide) rfl rfl rfl ?_); refine aD ?_; exact rfl
  ·exact rfl
  ·exact rfl
  apply aM (s := 31) rfl rfl rfl
  ·intro hg; apply aK (s := 32) rfl (by (rw [hg]; rfl)); apply aK (s := 34) rfl (by (rw [hg]; rfl)); apply aP; (refine fC rfl (dx (tX y hr fl a p hp (nth fl k.1).src) rfl rfl rfl rfl rfl rfl) rfl ?_); refine aD ?_; exact rfl
  ·exact rfl
  ·exact rfl
  apply aM (s := 31) rfl rfl rfl
  ·intro hg; apply aK (s := 35) rfl (by (rw [hg]; rfl)); apply aP; (refine eJ rfl ?_); refine aD ?_; exact rfl
  ·exact rfl
  ·exact rfl
  refine dm rfl rfl (Ro rfl ?_)
  refine aR rfl rfl rfl rfl rfl (by decide) ?_
  refine aX rfl rfl (by decide) rfl rfl rfl ?_
  refine fC rfl (dx (tX y hr fl a p hp (nth fl k.1).src) rfl rfl rfl rfl rfl rfl) rfl (eF rfl ?_)
  apply aM (s := 42) rfl rfl rfl
  ·intro hg; apply aP; (refine Ro rfl ?_); refine aD ?_; exact rfl
  ·exact rfl
  ·exact rfl
  apply aM (s := 42) rfl rfl rfl
  ·intro hg; apply aP; (refine aR rfl rfl rfl rfl rfl (by decide) ?_); refine aD ?_; exact rfl
  ·exact rfl
  ·exact rfl
  apply aM (s := 42) rfl rfl rfl
  ·intro hg; apply aK (s := 44) rfl (by (rw [hg]; rfl)); apply aP; (refine aX rfl rfl (by decide) rfl rfl rfl ?_); refine aD ?_; exact rfl
  ·exact rfl
  ·exact rfl
  apply aM (s := 42) rfl rfl rfl
  ·intro hg; apply aK (s := 43) rfl (by (rw [hg]; rfl)); apply aK (s := 45) rfl (by (rw [hg]; rfl)); apply aP; (refine fC rfl (dx (tX y hr fl a p hp (nth fl k.1).dst) rfl rfl rfl rfl rfl rfl) rfl ?_); refine aD ?_; exact rfl
  ·exact rfl
  ·exact rfl
  apply aM (s := 42) rfl rfl rfl
  ·intro hg; apply aK (s := 46) rfl (by (rw [hg]; rfl)); apply aP; (refine eJ rfl ?_); refine aD ?_; exact rfl
  ·exact rfl
  ·exact rfl
  refine dm rfl rfl (dF rfl (dF rfl (aD ?_)))
  refine ⟨by kernel_rfl, ?_⟩
  refine aC ?_
  refine iZ (J := live [(3, Ty.pp (dn p)), (5, Ty.kP 187 [Ty.pp (dn p), Ty.pp [Ty.pp (mm y fl a)]]), (6, Ty.int .i64 (fM y fl p k.1)), (8, Ty.ptr 9 0), (9, Ty.bool (Dt y p (nth fl k.1))), (10, Ty.bool (Bl y p (nth fl k.1))), (21, Ty.sl dw fl), (22, Ty.int .i64 fl.length), (23, Ty.int .i64 (k.1 : Nat))] [(9, Cont.cells 187 (dw.tys (nth fl k.1)))]) ?_ ?_
  ·
   refine aE (aB ?_)
   refine aJ rfl rfl rfl rfl rfl (by decide) ?_
   refine aL rfl rfl rfl rfl (aD (aC ?_))
   refine cF rfl (fun hc3 => ?_) (fun hc3 => ?_)
   ·
    refine aB (eF rfl (eF rfl (dF rfl (dF rfl (aD (dX ?_))))))
    (refine cV.mk' ?_ ?_ <;> (repeat' (first | exact aH | exact aI | refine aA ?_ (Ty.aT _) | refine aA ?_ (Ty.aF _) | refine aG rfl (Cont.aF _) ?_ | refine aA ?_ ?_)))
    all_goals first | exact Ty.dN (Jo (by assumption)).1 | exact Ty.dN (Jo (by assumption)).2
   refine af (dX ?_)
   (refine cV.mk' ?_ ?_ <;> (repeat' (first | exact aH | exact aI | refine aA ?_ (Ty.aT _) | refine aA ?_ (Ty.aF _) | refine aG rfl (Cont.aF _) ?_ | refine aA ?_ ?_)))
   all_goals first | exact Ty.dN (OV (by assumption)).1 | exact Ty.dN (OV (by assumption)).2
  refine iZ (J := live [(3, Ty.pp (dn p)), (5, Ty.kP 187 [Ty.pp (dn p), Ty.pp [Ty.pp (mm y fl a)]]), (6, Ty.int .i64 (pE y p (fM y fl p k.1) (nth fl k.1))), (8, Ty.ptr 9 0), (10, Ty.bool (Bl y p (nth fl k.1))), (21, Ty.sl dw fl), (22, Ty.int .i64 fl.length), (23, Ty.int .i64 (k.1 : Nat))] [(9, Cont.cells 187 (dw.tys (nth fl k.1)))]) ?_ ?_
  ·
   refine aE (aB (eF rfl (aD (aC ?_))))
   refine cF rfl (fun hc4 => ?_) (fun hc4 => ?_)
   ·
    refine aB (bG rfl ?_)
    refine aR rfl rfl rfl rfl rfl (by decide) ?_
    refine aX rfl rfl (by decide) rfl rfl rfl ?_
    refine bp rfl rfl (by omega) (by omega) ?_
    refine bZ rfl (aD (dX ?_))
    (refine cV.mk' ?_ ?_ <;> (repeat' (first | exact aH | exact aI | refine aA ?_ (Ty.aT _) | refine aA ?_ (Ty.aF _) | refine aG rfl (Cont.aF _) ?_ | refine aA ?_ ?_)))
    all_goals exact Ty.bD (MK (by assumption))
   refine af (dX ?_)
   (refine cV.mk' ?_ ?_ <;> (repeat' (first | exact aH | exact aI | refine aA ?_ (Ty.aT _) | refine aA ?_ (Ty.aF _) | refine aG rfl (Cont.aF _) ?_ | refine aA ?_ ?_)))
   all_goals exact Ty.bD (Mm (by assumption))
  refine aE (aB (eF rfl (aD (aC ?_))))
  refine cF rfl (fun hc5 => ?_) (fun hc5 => ?_)
  ·
   refine aB (bG rfl ?_)
   refine aR rfl rfl rfl rfl rfl (by decide) ?_
   refine aX rfl rfl (by decide) rfl rfl rfl ?_
   refine fk rfl rfl (by omega) (by omega) ?_
   refine bZ rfl (aD (bI (aC (aB ?_))))
   refine bp rfl rfl (by omega) (by omega) ?_
   refine bG rfl (aD ?_)
   refine bL (⟨k.1 + 1, by omega⟩) ?_ (by show fl.length - (k.1 + 1) < fl.length - k.1; omega)
   (refine cV.mk' ?_ ?_ <;> (repeat' (first | exact aH | exact aI | refine aA ?_ (Ty.aT _) | refine aA ?_ (Ty.aF _) | refine aA ?_ ?_)))
   all_goals skip
   all_goals exact Ty.bD (Bo (by assumption))
  refine af (bI (aC (aB ?_)))
  refine bp rfl rfl (by omega) (by omega) ?_
  refine bG rfl (aD ?_)
  refine bL (⟨k.1 + 1, by omega⟩) ?_ (by show fl.length - (k.1 + 1) < fl.length - k.1; omega)
  (refine cV.mk' ?_ ?_ <;> (repeat' (first | exact aH | exact aI | refine aA ?_ (Ty.aT _) | refine aA ?_ (Ty.aF _) | refine aA ?_ ?_)))
  all_goals skip
  all_goals exact Ty.bD (Gc (by assumption))
 refine b8 (aQ (aQ (aa rfl (aC (aE (aB (bG rfl (bZ rfl (aD ?_)))))))))
 refine aC (az (bU rfl rfl ?_))
 all_goals skip
 all_goals exact av rfl rfl (congrArg (Ty.int .i64) ((show _ = fM y fl p fl.length by rw [show k.1 = fl.length by have := k.2; omega]).trans (uq (Me hc1))))
set_option maxRecDepth 100000 in
theorem Lt (a b : lH) : dK Tryz.prog 136 [Ty.agg (fq.tys a), Ty.agg (fq.tys b)] (Ty.bool (eW a b)) := by
 refine au Tryz.func136 rfl (by decide) Tryz.ntmps136 (by exact Nat.le_of_ble_eq_true rfl) fun w0 M0 => ?_
 refine aE (aB (bH rfl (bH rfl (dF rfl (aD (aC (aE (aB ?_))))))))
 refine aY rfl rfl rfl (by exact Nat.le_of_ble_eq_true rfl) ?_
 refine aY rfl rfl rfl (by exact Nat.le_of_ble_eq_true rfl) ?_
 refine q5 (JL a.bin a.day b.bin b.day) rfl rfl (eF rfl ?_)
 apply aM (s := 8) rfl rfl rfl
 ·intro hg; apply aP; (refine aJ rfl rfl rfl rfl rfl (by decide) ?_); refine aD ?_; exact rfl
 ·exact rfl
 ·exact rfl
 apply aM (s := 8) rfl rfl rfl
 ·intro hg; apply aK (s := 9) rfl (by (rw [hg]; rfl)); apply aP; (refine aL rfl rfl rfl rfl ?_); refine aD ?_; exact rfl
 ·exact rfl
 ·exact rfl
 apply aM (s := 8) rfl rfl rfl
 ·intro hg; apply aP; (refine aJ rfl rfl rfl rfl rfl (by decide) ?_); refine aD ?_; exact rfl
 ·exact rfl
 ·exact rfl
 apply aM (s := 8) rfl rfl rfl
 ·intro hg; apply aK (s := 11) rfl (by (rw [hg]; rfl)); apply aP; (refine aL rfl rfl rfl rfl ?_); refine aD ?_; exact rfl
 ·exact rfl
 ·exact rfl
 apply aM (s := 8) rfl rfl rfl
 ·intro hg; apply aK (s := 10) rfl (by (rw [hg]; rfl)); apply aK (s := 12) rfl (by (rw [hg]; rfl)); apply aP; (refine bA rfl rfl rfl ?_); refine aD ?_; exact rfl
 ·exact rfl
 ·exact rfl
 apply aM (s := 8) rfl rfl rfl
 ·intro hg; apply aK (s := 13) rfl (by (rw [hg]; rfl)); apply aP; (refine eF rfl ?_); refine aD ?_; exact rfl
 ·exact rfl
 ·exact rfl
 apply eI (s := 14) rfl rfl rfl
 ·intro hg1 hg2; apply aP; (refine aJ rfl rfl rfl rfl rfl (by decide) ?_); refine aD ?_; exact rfl
 ·exact rfl
 ·exact rfl
 apply eI (s := 14) rfl rfl rfl
 ·intro hg1 hg2; apply aK (s := 15) rfl (by (rw [hg1, hg2]; rfl)); apply aP; (refine aL rfl rfl rfl rfl ?_); refine aD ?_; exact rfl
 ·exact rfl
 ·exact rfl
 apply eI (s := 14) rfl rfl rfl
 ·intro hg1 hg2; apply aP; (refine aJ rfl rfl rfl rfl rfl (by decide) ?_); refine aD ?_; exact rfl
 ·exact rfl
 ·exact rfl
 apply eI (s := 14) rfl rfl rfl
 ·intro hg1 hg2; apply aK (s := 17) rfl (by (rw [hg1, hg2]; rfl)); apply aP; (refine aL rfl rfl rfl rfl ?_); refine aD ?_; exact rfl
 ·exact rfl
 ·exact rfl
 apply eI (s := 14) rfl rfl rfl
 ·intro hg1 hg2; apply aK (s := 16) rfl (by (rw [hg1, hg2]; rfl)); apply aK (s := 18) rfl (by (rw [hg1, hg2]; rfl)); apply aP; (refine bA rfl rfl rfl ?_); refine aD ?_; exact rfl
 ·exact rfl
 ·exact rfl
 apply eI (s := 14) rfl rfl rfl
 ·intro hg1 hg2; apply aK (s := 19) rfl (by (rw [hg1, hg2]; rfl)); apply aP; (refine eF rfl ?_); refine aD ?_; exact rfl
 ·exact rfl
 ·exact rfl
 apply eI (s := 20) rfl rfl rfl
 ·intro hg1 hg2; apply aP; (refine aJ rfl rfl rfl rfl rfl (by decide) ?_); refine aD ?_; exact rfl
 ·exact rfl
 ·exact rfl
 apply eI (s := 20) rfl rfl rfl
 ·intro hg1 hg2; apply aK (s := 21) rfl (by (rw [hg1, hg2]; rfl)); apply aP; (refine aL rfl rfl rfl rfl ?_); refine aD ?_; exact rfl
 ·exact rfl
 ·exact rfl
 apply eI (s := 20) rfl rfl rfl
 ·intro hg1 hg2; apply aP; (refine aJ rfl rfl rfl rfl rfl (by decide) ?_); refine aD ?_; exact rfl
 ·exact rfl
 ·exact rfl
 apply eI (s := 20) rfl rfl rfl
 ·intro hg1 hg2; apply aK (s := 23) rfl (by (rw [hg1, hg2]; rfl)); apply aP; (refine aL rfl rfl rfl rfl ?_); refine aD ?_; exact rfl
 ·exact rfl
 ·exact rfl
 apply eI (s := 20) rfl rfl rfl
 ·intro hg1 hg2; apply aK (s := 22) rfl (by (rw [hg1, hg2]; rfl)); apply aK (s := 24) rfl (by (rw [hg1, hg2]; rfl)); apply aP; (refine bA rfl rfl rfl ?_); refine aD ?_; exact rfl
 ·exact rfl
 ·exact rfl
 apply eI (s := 14) rfl rfl rfl
 ·intro hg1 hg2; apply aK (s := 20) rfl (by (rw [hg1, hg2]; rfl)); apply mZ (s := 25) rfl (by (rw [hg1, hg2]; rfl)); apply aP; (refine dm rfl rfl ?_); refine aD ?_; exact rfl
 ·exact rfl
 ·exact rfl
 apply aM (s := 8) rfl rfl rfl
 ·intro hg; apply aK (s := 14) rfl (by (rw [hg]; rfl)); apply mZ (s := 26) rfl (by (rw [hg]; rfl)); apply aP; (refine iK rfl rfl ?_); refine aD ?_; exact rfl
 ·exact rfl
 ·exact rfl
 refine dm rfl rfl (dF rfl (aD (aC (az (bU rfl rfl ?_)))))
 all_goals skip
 all_goals exact av rfl rfl (congrArg Ty.bool (by unfold eW; rw [EW]))
set_option maxRecDepth 100000 in
theorem Io (y : aj) (hr : y.bY) (hs : y.Small) (c : lH) : dK Tryz.prog 134 [Ty.agg (fq.tys c), Ty.pp (bC y)] (Ty.bool (qJ y c)) := by
 refine au Tryz.func134 rfl (by decide) Tryz.ntmps134 (by exact Nat.le_of_ble_eq_true rfl) fun w0 M0 => ?_
 have h2 := hr.days
 refine aE (aB (bH rfl (dF rfl (aD (aC (aE (aB ?_)))))))
 refine aY rfl rfl rfl (by exact Nat.le_of_ble_eq_true rfl) ?_
 refine aJ rfl rfl rfl rfl rfl (by decide) ?_
 refine aL rfl rfl rfl rfl (ak (GW y hs _) rfl rfl rfl rfl rfl (eF rfl ?_))
 apply aM (s := 8) rfl rfl rfl
 ·intro hg; apply aP; (refine aJ rfl rfl rfl rfl rfl (by decide) ?_); refine aD ?_; exact rfl
 ·exact rfl
 ·exact rfl
 apply aM (s := 8) rfl rfl rfl
 ·intro hg; apply aK (s := 9) rfl (by (rw [hg]; rfl)); apply aP; (refine aL rfl rfl rfl rfl ?_); refine aD ?_; exact rfl
 ·exact rfl
 ·exact rfl
 apply aM (s := 8) rfl rfl rfl
 ·intro hg; apply aP; (refine aJ rfl rfl rfl rfl rfl (by decide) ?_); refine aD ?_; exact rfl
 ·exact rfl
 ·exact rfl
 apply aM (s := 8) rfl rfl rfl
 ·intro hg; apply aK (s := 11) rfl (by (rw [hg]; rfl)); apply aP; (refine aL rfl rfl rfl rfl ?_); refine aD ?_; exact rfl
 ·exact rfl
 ·exact rfl
 apply aM (s := 8) rfl rfl rfl
 ·intro hg; apply aK (s := 12) rfl (by (rw [hg]; rfl)); apply aP; (refine fk rfl rfl (by omega) (by omega) ?_); refine aD ?_; exact rfl
 ·exact rfl
 ·exact rfl
 apply aM (s := 8) rfl rfl rfl
 ·intro hg; apply aK (s := 10) rfl (by (rw [hg]; rfl)); apply aK (s := 13) rfl (by (rw [hg]; rfl)); apply aP; (refine ak (vV _ _ _) rfl rfl rfl rfl rfl ?_); refine aD ?_; exact rfl
 ·exact rfl
 ·exact rfl
 refine dm rfl rfl (dF rfl (aD (aC (az (bU rfl rfl ?_)))))
 all_goals exact cI rfl rfl
 all_goals trace_state
set_option maxRecDepth 100000 in
theorem B6 (y : aj) (hs : y.Small) (p : rm) (hl : p.cells.length ≤ 1000) : dK Tryz.prog 61 [eA y, Ty.agg (dn p)] (Ty.lD [Ty.int .i64 (kQ y p), Ty.int .i64 (iz y p)]) := by
 refine au Tryz.func61 rfl (by decide) Tryz.ntmps61 (by exact Nat.le_of_ble_eq_true rfl) fun w0 M0 => ?_
 refine aE (aB (bH rfl (bH rfl (bZ rfl (bZ rfl (aD (aC (aE (aE ?_)))))))))
 refine aB ?_
 refine aY rfl rfl rfl (by exact Nat.le_of_ble_eq_true rfl) ?_
 refine ak (lF y hs) rfl rfl rfl rfl rfl (bZ rfl (aD (aC (aE (aB (bG rfl (bA rfl rfl rfl (aD (aC ?_)))))))))
 refine c9 rfl (fun hc1 => ?_) (fun hc1 => ?_)
 ·
  refine aE (aB (bG rfl (bZ rfl (bZ rfl (aD (aC (az (aS ?_))))))))
  refine fY rfl rfl rfl ?_ ?_
  all_goals skip
  all_goals first | exact av rfl rfl (congrArg (Ty.int .i64) (Fe hc1).1) | exact av rfl rfl (congrArg (Ty.int .i64) (Fe hc1).2)
 refine af (aC (aE (aE ?_)))
 have hck : bO y = 0 := hc1
 have hr := cZ hck
 refine aB ?_
 refine aJ rfl rfl rfl rfl rfl (by decide) ?_
 refine aL rfl rfl rfl rfl (dW rfl ?_)
 refine ak (Ct p.cells (Ty.kP 134 [Ty.pp (bC y)]) rfl (qJ y) rfl rfl fun c _ => dx (Io y hr hs c) rfl rfl rfl rfl rfl rfl) rfl rfl rfl rfl rfl ?_
 refine eJ rfl (aD (aC ?_))
 refine cF rfl (fun hc2 => ?_) (fun hc2 => ?_)
 ·
  refine aE (aB (bZ rfl (bZ rfl (aD (aC (az (aS ?_)))))))
  refine fY rfl rfl rfl ?_ ?_
  all_goals skip
  all_goals first | exact av rfl rfl (congrArg (Ty.int .i64) (I8 hc1 (lp hc2)).1) | exact av rfl rfl (congrArg (Ty.int .i64) (I8 hc1 (lp hc2)).2)
 refine af (aC (aE (aE ?_)))
 have hall : (p.cells.all (qJ y)) = true := eo hc2
 refine aB (bZ rfl (aD (aC (aZ ?_))))
 refine bz (fun (i : {i : Nat // 1 ≤ i ∧ ∀ j, j + 1 < i → j + 1 < p.cells.length → eW (nth p.cells j) (nth p.cells (j + 1)) = true}) => live [(2, Ty.pp (bC y)), (3, Ty.pp (dn p)), (7, Ty.int .i64 (i.1 : Nat))] []) (fun i => p.cells.length - i.1) (⟨1, Nat.le_refl _, fun j hj => by omega⟩) ?_ fun i => ?_
 ·(refine cV.mk' ?_ ?_ <;> (repeat' (first | exact aH | exact aI | refine aA ?_ (Ty.aT _) | refine aA ?_ (Ty.aF _))))
 have hi1 := i.2.1
 refine aE (aE (aB (bG rfl ?_)))
 refine aJ rfl rfl rfl rfl rfl (by decide) ?_
 refine aL rfl rfl rfl rfl (b9 rfl rfl rfl (bA rfl rfl rfl (aD (aC ?_))))
 refine ah rfl (fun hc3 => ?_) (fun hc3 => ?_)
 ·
  refine af (aC (aE (aZ (aE (cH mixed rfl ?_)))))
  refine aJ rfl rfl rfl rfl rfl (by decide) ?_
  refine aL rfl rfl rfl rfl (bG rfl ?_)
  refine fk rfl rfl (by omega) (by omega) ?_
  refine aq (i := i.1 - 1) rfl (by exact congrArg (Ty.int .i64) (by omega : ((i.1 : Nat) : Int) - 1 = ((i.1 - 1 : Nat) : Int))) rfl rfl rfl rfl (by omega) ?_
  refine aY rfl rfl rfl (by exact Nat.le_of_ble_eq_true rfl) ?_
  refine aJ rfl rfl rfl rfl rfl (by decide) ?_
  refine aL rfl rfl rfl rfl (bG rfl ?_)
  refine aq rfl rfl rfl rfl rfl rfl (by omega) ?_
  refine aY rfl rfl rfl (by exact Nat.le_of_ble_eq_true rfl) ?_
  refine ak (Lt _ _) rfl rfl rfl rfl rfl (eJ rfl (aD ?_))
  refine ⟨by kernel_rfl, ?_⟩
  refine aC ?_
  refine cF rfl (fun hc4 => ?_) (fun hc4 => ?_)
  ·
   refine aE (aB (bZ rfl (bZ rfl (aD (aC (az (bB (aS (aS ?_)))))))))
   refine bB (aS ?_)
   refine fY rfl rfl rfl ?_ ?_
   all_goals skip
   all_goals first | exact av rfl rfl (congrArg (Ty.int .i64) (J4 hc1 hall i.2.1 (by omega) (lp hc4)).1) | exact av rfl rfl (congrArg (Ty.int .i64) (J4 hc1 hall i.2.1 (by omega) (lp hc4)).2)
  refine af (bI (aC (aB (bG rfl ?_))))
  refine bp rfl rfl (by omega) (by omega) ?_
  refine bZ rfl (aD ?_)
  refine bL (⟨i.1 + 1, by omega, fun j hj hj2 => by by_cases e : j + 1 = i.1; (have := eo hc4; rwa [show i.1 - 1 = j by omega, show i.1 = j + 1 by omega] at this); exact i.2.2 j (by omega) hj2⟩) ?_ (by show p.cells.length - (i.1 + 1) < p.cells.length - i.1; omega)
  (refine cV.mk' ?_ ?_ <;> (repeat' (first | exact aH | exact aI | refine aA ?_ (Ty.aT _) | refine aA ?_ (Ty.aF _))))
  all_goals skip
 refine b8 (aQ (aQ (aa rfl (aC (aE (cH mixed rfl ?_))))))
 refine aY rfl rfl rfl (by exact Nat.le_of_ble_eq_true rfl) ?_
 refine ak (rR) rfl rfl rfl rfl rfl ?_
 refine dI (res' := Ty.pp (sW y 2000 1000 (aO y (nth bE)).length (aO y (nth bE)).length)) [(2000, 23), (1000, 31)] [2000, 1000] [(2000, Cont.vec dw 187 (aO y (nth bE))), (1000, Cont.vec c7 3 (fN (aO y (nth bE))))] (tJ y hr bE jO) rfl rfl (aN (aN bW (aU rfl rfl)) (aU rfl rfl)) pre_nil (bk (a := 2000) (b := 23) (by decide) rfl (bt (by decide) rfl) (bk (a := 1000) (b := 31) (by decide) rfl (bt (by decide) rfl) post_nil)) (e9 (aN (aN (aN (aN (aN (aN bW (dV (by decide))) (dV (by decide))) (aU rfl rfl)) (aU rfl rfl)) (aU rfl rfl)) (aU rfl rfl))) ?_
 refine aY rfl rfl rfl (by exact Nat.le_of_ble_eq_true rfl) ?_
 refine dr [2000, 1000] (N0 y hr (aO y (nth bE)) (fN (aO y (nth bE))) (iV hr) (yT hr) p (fun x hx => PW (List.all_eq_true.1 hall x hx))) rfl (aW (jy (aW (bQ (bR rfl rfl)) (aW (bQ (bR rfl rfl)) (aW (bQ (bR rfl rfl)) (aW (bQ (bR rfl rfl)) (aW (jS rfl rfl (by decide) rfl) (aW (jS rfl (Aq _) (by decide) rfl) cL))))))) (aW (bQ (bR rfl rfl)) cL)) (by exact dJ _ _) ?_
 refine bZ rfl (aD ?_)
 refine ⟨by kernel_rfl, ?_⟩
 refine aC (aE (aE (aB (bG rfl (bA rfl rfl rfl (aD (aC ?_)))))))
 refine ah rfl (fun hc5 => ?_) (fun hc5 => ?_)
 ·
  refine aE (aB (bZ rfl (bZ rfl (aD (aC (az (aS ?_)))))))
  refine fY rfl rfl rfl ?_ ?_
  all_goals skip
  all_goals first | exact av rfl rfl (congrArg (Ty.int .i64) (Lw hc1 hall (fun j hj => i.2.2 j (by omega) hj) hc5).1) | exact av rfl rfl (congrArg (Ty.int .i64) (Lw hc1 hall (fun j hj => i.2.2 j (by omega) hj) hc5).2)
 refine af (aC (aE (aB (bG rfl (bZ rfl (bZ rfl (aD (aC (az ?_)))))))))
 refine fY rfl rfl rfl ?_ ?_
 all_goals skip
 all_goals first | exact av rfl rfl (congrArg (Ty.int .i64) (AO hc1 hall (fun j hj => i.2.2 j (by omega) hj) hc5).1) | exact av rfl rfl (congrArg (Ty.int .i64) (AO hc1 hall (fun j hj => i.2.2 j (by omega) hj) hc5).2)
end Go.Proofs.YtelbollidfdcjaaGreat
namespace Go.Proofs.YtelbollidfdcjaaGreat
open Go Go.T
set_option maxHeartbeats 8000000
attribute [local irreducible] aO fN
attribute [local irreducible] gF eX lq nY g7 gx g9 g5 g8 nW gz nT dM fj nM gC oB nth fW dR ay dK bodyPost Exit.then Exit.inBlock Code.wp Code.wpIn n9 hO nO ni gy eU cM cN bodyPostM dO
set_option maxRecDepth 100000 in
theorem qU (y : aj) (hr : y.bY) (c8 : List Bool) (hc8 : c8.length = 8) : eU Tryz.prog 117 [] [] [eA y, Ty.arr fE c8] [(31, Cont.vec c7 3 (fN (aO y (nth c8))))] (Ty.pp (dZ y (aO y (nth c8)) 31 (aO y (nth c8)).length)) := by
 refine sA Tryz.func117 rfl (by decide) Tryz.ntmps117 (by exact Nat.le_of_ble_eq_true rfl) fun w0 M0 => ?_
 have hfl := iV (c := nth c8) hr
 refine aE (aB (bH rfl (uC rfl (mK rfl (aD (aC (aE (aB ?_))))))))
 refine aY rfl rfl rfl (by exact Nat.le_of_ble_eq_true rfl) ?_
 refine cq rfl rfl (by exact List.cons_ne_nil _ _) rfl (by repeat (first | exact (aV.nil : aV _ _ [] _) | (show aV _ _ ((_, _) :: _) _; apply aV.agg; (· exact (rfl : _ = Ty.agg _))))) (by exact rfl) ?_
 refine z3 rfl rfl rfl ?_
 refine bf rfl (by exact List.cons_ne_nil _ _) rfl ?_
 refine cv rfl rfl (by decide) rfl rfl (by exact (rfl : _ = Ty.ptr _ _)) rfl (by exact Nat.le_of_ble_eq_true rfl) rfl rfl (by exact (rfl : _ = [_])) ?_
 refine aD (aC (aE (aE (aB ?_))))
 refine aX rfl rfl (by decide) rfl rfl rfl ?_
 refine xD rfl rfl rfl (by rw [hc8]; rfl) ?_
 refine dI (res' := Ty.kP 196 [Ty.pp [Ty.ptr 10 0], Ty.pa fE c8 0]) [(10, 1000)] [] [(10, Cont.cells 185 (Fp y))] (MV y c8 hc8) rfl rfl (aN (aN bW (aU rfl rfl)) (kC (by exact List.mem_cons_self))) (cz (a := 10) (b := 1000) (by exact List.mem_cons_self) rfl (lU (by exact List.mem_cons_self) rfl rfl rfl) pre_nil) (bk (a := 10) (b := 1000) (by exact List.mem_cons_self) rfl (lU (by exact List.mem_cons_self) rfl rfl rfl) post_nil) (uc (aN (aN bW (aU rfl rfl)) (e9 (aN bW (kC (by exact List.mem_cons_self)))))) ?_
 refine aD (aC ?_)
 refine KC (D := 10) (Tb := 185) (tys := bC y) (r := [Ty.ex (.slice none 0 0), Ty.ex (.slice none 0 0)]) rfl rfl rfl (by decide) fun vs hvs => ?_
 obtain ⟨v0, v1, v2, v3, rfl⟩ := four hvs rfl
 refine aZ ?_
 refine sy (ps := [13]) (lk [(5, Ty.ptr 6 0), (9, Ty.ptr 10 0)]) (fun k => [(6, Cont.cells 152 [Ty.ptr 10 0]), (10, Cont.cells 185 [Ty.ex v0, Ty.ex v1, Ty.ex v2, Ty.ex v3, Ty.row dw 187 23 ((aO y (nth c8)).take k), Ty.row c7 3 31 ((fN (aO y (nth c8))).take k)]), (4000, Cont.fact (bC y) [v0, v1, v2, v3] rfl rfl)]) false [] [6, 10, 4000] rfl rfl ((vn y hr c8 hc8 0 10 (by decide) [v0, v1, v2, v3]).1) (Da (D := 10) (n := 36) (sd := 9) (r := fun k => [Ty.row dw 187 23 ((aO y (nth c8)).take k), Ty.row c7 3 31 ((fN (aO y (nth c8))).take k)]) (fun b => vn y hr c8 hc8 b 10 (by decide) [v0, v1, v2, v3]) (by decide) (by decide) rfl (fun k => List.mem_cons_of_mem _ List.mem_cons_self) (List.mem_cons_of_mem _ (List.mem_cons_of_mem _ List.mem_cons_self))) (v9 rfl) (v9 rfl) (by decide) (by intro t ht; obtain ⟨x, _, rfl⟩ := List.mem_map.1 ht; exact ⟨rfl, rfl, rfl⟩) rfl rfl (fun _ => rfl) rfl ?_ ?_ ?_ (by intro h; cases h)
 ·(refine cV.mk' ?_ ?_ <;> (repeat' (first | exact aH | exact aI | exact cr | refine aA ?_ (Ty.aT _) | refine aA ?_ (Ty.aF _) | refine aG rfl (Cont.aF _) ?_ | refine aG rfl (Cont.ct ?_) ?_ | refine bJ ?_ (Ty.aF _) | refine bJ ?_ Ty.gU)))
  all_goals trace_state
 ·intro k tys hk
  obtain ⟨hk1, rfl⟩ := FB hk
  refine ⟨live [(5, Ty.ptr 6 0), (6, Ty.ptr 7 0), (9, Ty.ptr 10 0)] [(6, Cont.cells 152 [Ty.ptr 10 0]), (7, Cont.cells 187 (dw.tys (nth (aO y (nth c8)) k))), (10, Cont.cells 185 [Ty.ex v0, Ty.ex v1, Ty.ex v2, Ty.ex v3, Ty.row dw 187 23 ((aO y (nth c8)).take k), Ty.row c7 3 31 ((fN (aO y (nth c8))).take k)]), (4000, Cont.fact (bC y) [v0, v1, v2, v3] rfl rfl)], fun l w M => ?_, fun l w M => ?_⟩
  ·
   refine aB ?_
   refine bf rfl (by exact List.cons_ne_nil _ _) rfl ?_
   refine bS rfl rfl (by decide) rfl rfl rfl rfl rfl rfl ?_
   refine aD (dX ?_)
   (refine cV.mk' ?_ ?_ <;> (repeat' (first | exact aH | exact aI | refine aA ?_ (Ty.aT _) | refine aA ?_ (Ty.aF _) | refine aG rfl (Cont.aF _) ?_)))
  refine aZ ?_
  refine wC (D := 10) (Tb := 185) (tg := 23) [Ty.ex v0, Ty.ex v1, Ty.ex v2, Ty.ex v3] rfl fun v4 => ?_
  refine wC (D := 10) (Tb := 185) (tg := 31) [Ty.ex v0, Ty.ex v1, Ty.ex v2, Ty.ex v3, Ty.ex v4] rfl fun v5 => ?_
  refine cH mixed rfl ?_
  refine aX rfl rfl (by decide) rfl rfl rfl ?_
  refine aX rfl rfl (by decide) rfl rfl rfl ?_
  refine aX rfl rfl (by decide) rfl rfl rfl ?_
  refine cg rfl ?_
  refine aR rfl rfl rfl rfl rfl (by decide) ?_
  refine aX rfl rfl (by decide) rfl rfl rfl ?_
  refine bu rfl rfl (by decide) rfl rfl (by exact Nat.le_of_ble_eq_true rfl) ?_
  refine bX (E := dw) (xs := [_]) rfl rfl rfl rfl rfl (by decide) (by decide) (by repeat (first | exact (aV.nil : aV _ _ [] _) | (show aV _ _ ((_, _) :: _) _; apply aV.agg; (· exact (rfl : _ = Ty.agg _))))) (by exact rfl) rfl ?_
  refine qT (tg := 23) rfl rfl rfl rfl (by decide) rfl rfl rfl rfl rfl rfl (by decide) (by (simp <;> omega)) (by (simp <;> omega)) rfl rfl ?_
  refine aX rfl rfl (by decide) rfl rfl rfl ?_
  refine cg rfl ?_
  refine aR rfl rfl rfl rfl rfl (by decide) ?_
  refine aX rfl rfl (by decide) rfl rfl rfl ?_
  refine aR rfl rfl rfl rfl rfl (by decide) ?_
  refine aX rfl rfl (by decide) rfl rfl rfl ?_
  refine bX (E := c7) (xs := [_]) rfl rfl rfl rfl rfl (by decide) (by decide) (by repeat (first | exact (aV.nil : aV _ _ [] _) | (show aV _ _ ((_, _) :: _) _; apply aV.one; (· exact (rfl : _ = Ty.int _ _)); (· exact rfl)))) (by exact rfl) rfl ?_
  refine qT (tg := 31) rfl rfl rfl rfl (by decide) rfl rfl rfl rfl rfl rfl (by decide) (by (simp <;> omega)) (by (simp <;> omega)) rfl rfl ?_
  refine cg rfl ?_
  refine aR rfl rfl rfl rfl rfl (by decide) ?_
  refine cv rfl rfl (by decide) rfl rfl (by exact (rfl : _ = Ty.row _ _ _ _)) rfl (by exact Nat.le_of_ble_eq_true rfl) rfl rfl (by exact rfl) ?_
  refine cg rfl ?_
  refine aR rfl rfl rfl rfl rfl (by decide) ?_
  refine cv rfl rfl (by decide) rfl rfl (by exact (rfl : _ = Ty.row _ _ _ _)) rfl (by exact Nat.le_of_ble_eq_true rfl) rfl rfl (by exact rfl) ?_
  refine aD ?_
  refine ⟨by kernel_rfl, ?_⟩
  refine bI (B4 ?_)
  (refine cV.mk' ?_ ?_ <;> (repeat' (first | exact aH | exact aI | exact cr | refine aA ?_ (Ty.aT _) | refine aG rfl (Cont.aF _) ?_ | refine aG rfl (Cont.ct ?_) ?_ | refine bJ ?_ (Ty.aF _) | refine bJ ?_ ?_)))
  all_goals first | exact Ty.eG (cR hk1).symm | exact Ty.eG (GF hk1)
 refine bI (aC (aE ?_))
 refine CH (D := 10) (Tb := 185) (vs := [v0, v1, v2, v3]) (tys := bC y) (r := [Ty.row dw 187 23 ((aO y (nth c8)).take ((aO y (nth c8)).map kB).length), Ty.row c7 3 31 ((fN (aO y (nth c8))).take ((aO y (nth c8)).map kB).length)]) rfl rfl ?_
 refine jz (tg := 10) rfl (Cont.nU (T := 185) (De (y := y) (fl := aO y (nth c8)) (f := kB))) ?_
 refine qx (c0 := 10) (tg := 23) 4 rfl rfl ?_
 refine qx (c0 := 10) (tg := 31) 5 rfl rfl ?_
 refine jz (tg := 10) rfl (Cont.kY (l' := sW y 23 31 (aO y (nth c8)).length (aO y (nth c8)).length) ⟨Ty.aF _, Ty.aF _, Ty.aF _, Ty.aF _, Ty.BE rfl, Ty.BE (Aq _), trivial⟩) ?_
 refine jY (tg := 10) [] [(6, Cont.cells 152 [Ty.pp (sW y 23 31 (aO y (nth c8)).length (aO y (nth c8)).length)])] (by decide) rfl trivial ⟨fV rfl rfl ⟨zO rfl rfl (by decide), trivial⟩, trivial⟩ ?_
 refine jY (tg := 23) [] [(6, Cont.cells 152 [Ty.pp (dZ y (aO y (nth c8)) 31 (aO y (nth c8)).length)])] (by decide) rfl trivial ⟨fV rfl rfl ⟨DQ ⟨bK rfl, bK rfl, bK rfl, bK rfl, j7 rfl rfl (by decide), bK rfl, trivial⟩, trivial⟩, trivial⟩ ?_
 refine aB ?_
 refine aX rfl rfl (by decide) rfl rfl rfl ?_
 refine MY rfl (aD (aC (az (Ly rfl ?_))))
 refine jJ [31] rfl rfl (by decide) (by repeat (first | exact gm | refine eO rfl (bt (by decide) rfl) ?_)) ?_
 all_goals skip
 all_goals exact iw (e9 (aN (aN (aN (aN (aN (aN bW (dV (by decide))) (aU rfl rfl)) (aU rfl rfl)) (aU rfl rfl)) (aU rfl rfl)) (aU rfl rfl)))
end Go.Proofs.YtelbollidfdcjaaGreat
namespace Go.Proofs.YtelbollidfdcjaaGreat
open Go Go.T
theorem O3 : Tryz.prog.underlying 180 = some (.array 8 4) := by kernel_rfl
theorem O6 (a0 a1 a2 a3 a4 a5 a6 a7 b0 b1 b2 b3 b4 b5 b6 b7 : Bool) (w : World) : (Op.equal 180 (.agg #[.bool a0, .bool a1, .bool a2, .bool a3, .bool a4, .bool a5, .bool a6, .bool a7]) (.agg #[.bool b0, .bool b1, .bool b2, .bool b3, .bool b4, .bool b5, .bool b6, .bool b7])).run Tryz.prog w = .ok ((decide (a0 = b0) && (decide (a1 = b1) && (decide (a2 = b2) && (decide (a3 = b3) && (decide (a4 = b4) && (decide (a5 = b5) && (decide (a6 = b6) && decide (a7 = b7))))))))) w := by
 have hs : Tryz.prog.stoodInHeld 180 = false := by kernel_rfl
 have e4 : ∀ (x y : Bool) (w : World), (Op.equalIn 9999 4 (.bool x) (.bool y)).run Tryz.prog w = .ok (decide (x = y)) w := fun x y w => by
  rw [Op.equalIn]
  simp only [Sem.run_bind, run_underlying Tryz.underlying4, Result.andThen_ok]
  rfl
 have g4 : ∀ w, (isAgg 4).run Tryz.prog w = .ok false w := fun w => by simp [isAgg, run_underlying Tryz.underlying4]
 unfold Op.equal Op.maxDepth
 rw [Op.equalIn]
 simp only [Sem.run_bind, run_underlying O3, Result.andThen_ok]
 simp [hs, part, g4, e4]
 rw [show List.range' 0 8 = [0, 1, 2, 3, 4, 5, 6, 7] from rfl]
 simp [List.forIn_cons, g4, e4]
 by_cases h0 : a0 = b0
 case neg => simp [h0]
 rw [if_pos h0]
 by_cases h1 : a1 = b1
 case neg => simp [h1]
 rw [if_pos h1]
 by_cases h2 : a2 = b2
 case neg => simp [h2]
 rw [if_pos h2]
 by_cases h3 : a3 = b3
 case neg => simp [h3]
 rw [if_pos h3]
 by_cases h4 : a4 = b4
 case neg => simp [h4]
 rw [if_pos h4]
 by_cases h5 : a5 = b5
 case neg => simp [h5]
 rw [if_pos h5]
 by_cases h6 : a6 = b6
 case neg => simp [h6]
 rw [if_pos h6]
 by_cases h7 : a7 = b7
 case neg => simp [h7]
 rw [if_pos h7]
 simp [h0, h1, h2, h3, h4, h5, h6, h7]
theorem Ln (xs ys : List Bool) (hx : xs.length = 8) (hy : ys.length = 8) : I0 Tryz.prog 180 (xs.flatMap fE.tys) (ys.flatMap fE.tys) (decide (xs = ys)) := by
  match xs, ys, hx, hy with
  | [a0, a1, a2, a3, a4, a5, a6, a7], [b0, b1, b2, b3, b4, b5, b6, b7], _, _ =>
    refine ⟨by kernel_rfl, fun w M cs ds h1 h2 => ?_⟩
    obtain ⟨cs⟩ := cs
    obtain ⟨ds⟩ := ds
    match cs, ds, h1, h2 with
    | [u0, u1, u2, u3, u4, u5, u6, u7], [v0, v1, v2, v3, v4, v5, v6, v7], h1, h2 =>
      change cK w M [Ty.bool a0, Ty.bool a1, Ty.bool a2, Ty.bool a3, Ty.bool a4, Ty.bool a5, Ty.bool a6, Ty.bool a7] _ at h1
      change cK w M [Ty.bool b0, Ty.bool b1, Ty.bool b2, Ty.bool b3, Ty.bool b4, Ty.bool b5, Ty.bool b6, Ty.bool b7] _ at h2
      obtain ⟨e0, e1, e2, e3, e4, e5, e6, e7, _⟩ := h1
      obtain ⟨f0, f1, f2, f3, f4, f5, f6, f7, _⟩ := h2
      cases e0; cases e1; cases e2; cases e3; cases e4; cases e5; cases e6; cases e7
      cases f0; cases f1; cases f2; cases f3; cases f4; cases f5; cases f6; cases f7
      rw [O6]
      congr 1
      simp only [List.cons.injEq, and_true, Bool.decide_and]
end Go.Proofs.YtelbollidfdcjaaGreat
namespace Go.T
open Go Go.RowKit
section
variable {P : Program} {fr : Fr} {ops : Array Oper} {A : As} {rest : List Oper} {K : As → List (As × Fx) → Prop} {d : Nat} {t ty' ty2 : TypeId} {p : String} {e : Array Edge}
theorem BK {α : Type} [Inhabited α] {E : El α} {xs ys : List α} {x y : Operand} {c : Bool} (hE : I0 P ty' (xs.flatMap E.tys) (ys.flatMap E.tys) c) (hx : A.op fr x = .arr E xs) (hy : A.op fr y = .arr E ys)
 (h : ay P fr ops rest (A.set d (.bool (!c))) fun A' l' => K A' ((A, { d := some d, ty := .bool (!c), rs := cO x ++ cO y }) :: l')) : ay P fr ops (⟨some d, .binOp .neq ty' x y ty2, t, p, e, none⟩ :: rest) A K :=
 bM (bV rfl rfl fun a w M _ hrd _ => by
  have _ := (inferInstance : Inhabited α)
  obtain ⟨hdx, hdy⟩ := op2 hrd
  rw [hx] at hdx; rw [hy] at hdy
  obtain ⟨cs, ex, h1⟩ := hdx
  obtain ⟨ds, ey, h2⟩ := hdy
  exact ⟨.bool (!c), by simp only [execOp, ex, ey]; simp [eqGuard, hE.1, binOp, hE.2 w M cs ds h1 h2], rfl⟩) h
end
end Go.T
namespace Go.Proofs.YtelbollidfdcjaaGreat
open Go Go.T
set_option maxHeartbeats 16000000
def Km (l : List Int) (x : Int) : Int := fidx (fun y => decide (x = y)) l
theorem BO (l : List Int) (x : Int) : decide (Km l x ≥ 0) = decide (x ∈ l) := by
 unfold Km
 rw [qy]
 rw [Bool.eq_iff_iff]; simp
def jT (l : List Int) (o : Bool) (i : Nat) : Bool := !(decide ((i : Int) ∈ l) == o)
def iS (l : List Int) (o : Bool) (k : Nat) : List Bool := (List.range k).map (jT l o) ++ List.replicate (8 - k) false
def bq (l : List Int) (o : Bool) : List Bool := (List.range 8).map (jT l o)
noncomputable def dD (y : aj) (c : List Bool) : Bool := !(bh (aO y (nth c)) (y.cells + 1) (fN (aO y (nth c)))).2.1
section
variable {y : aj} {l : List Int} {o : Bool} {k : Nat}
theorem BF (h : k ≤ 8) : (iS l o k).length = 8 := by unfold iS; rw [List.length_append, List.length_map, List.length_range, List.length_replicate]; omega
theorem Dz : (bq l o).length = 8 := by unfold bq; rw [List.length_map, List.length_range]
theorem yj : List.replicate 8 false = iS l o 0 := rfl
theorem Bi : iS l o 8 = bq l o := List.append_nil _
theorem yl (h : k < 8) : (iS l o k).set k (!(decide ((k : Int) ∈ l) == o)) = iS l o (k + 1) := by
 unfold iS
 have e : ((List.range k).map (jT l o)).length = k := by rw [List.length_map, List.length_range]
 rw [List.set_append_right _ _ (by omega), e, Nat.sub_self, show 8 - k = (8 - (k + 1)) + 1 by omega, List.replicate_succ, List.set_cons_zero, List.range_succ, List.map_append, List.append_assoc]; rfl
theorem Ai {xs ys : List Bool} {b : Bool} (hx : xs.length = 8) (hy : ys.length = 8) (h : decide (xs = ys) = b) : I0 Tryz.prog 180 (xs.flatMap fE.tys) (ys.flatMap fE.tys) b := h ▸ Ln xs ys hx hy
theorem RP (h : decide (bq l o = bE) = true) (h2 : (!(bh (aO y (nth bE)) (y.cells + 1) (fN (aO y (nth bE)))).2.1) = true) : true = dD y (bq l o) := by rw [of_decide_eq_true h]; exact h2.symm
theorem RB (h : decide (bq l o = bE) = true) (h2 : (!(bh (aO y (nth bE)) (y.cells + 1) (fN (aO y (nth bE)))).2.1) = false) : false = dD y (bq l o) := by rw [of_decide_eq_true h]; exact h2.symm
theorem OS (y : aj) (c : List Bool) : (!(bh (aO y (nth c)) (y.cells + 1) (fN (aO y (nth c)))).2.1) = dD y c := rfl
end
attribute [local irreducible] aO fN Way.iH Way.fin Way.room eY eD fA gq over bP cJ dc eZ jt fK iJ kM bh gV gH gM cy cQ gu pG iq jH jM iF Bj yp iM aj.kept aj.cells bO eE bE gN kr cX pH p8 kF jR lQ nE hasB tY rz rD sY pF lB nh e8 kK fM gE Dt Bl ox dD bq iS
attribute [local irreducible] gF eX lq nY g7 gx g9 g5 g8 nW gz nT dM fj nM gC oB nth fW dR ay dK bodyPost Exit.then Exit.inBlock Code.wp Code.wpIn n9 hO nO ni gy eU cM cN bodyPostM dO
set_option maxRecDepth 100000 in
theorem Dd (l : List Int) (x : Int) : dK Tryz.prog 140 [Ty.sl c7 l, Ty.int .i64 x] (Ty.int .i64 (Km l x)) := by
 refine au Tryz.func140 rfl (by decide) Tryz.ntmps140 (by exact Nat.le_of_ble_eq_true rfl) fun w0 M0 => ?_
 refine gP (s := 0) rfl rfl gO fun hl => ?_
 refine aE (aB (bZ rfl (aD (aC (aE (aE (aB (ew rfl (b9 rfl rfl rfl ?_)))))))))
 refine bG rfl (aD (aC (aZ ?_)))
 refine bz (fun (k : {k : Nat // ∀ y ∈ l.take k, decide (x = y) = false}) => live [(0, Ty.sl c7 l), (1, Ty.int .i64 x), (7, Ty.int .i64 l.length), (8, Ty.int .i64 (k.1 : Nat))] []) (fun k => l.length - k.1) (⟨0, by simp⟩) ?_ fun k => ?_
 ·(refine cV.mk' ?_ ?_ <;> (repeat' (first | exact aH | exact aI | refine aA ?_ (Ty.aT _) | refine aA ?_ (Ty.aF _))))
 refine aE (aB (bA rfl rfl rfl (aD (aC (aE ?_)))))
 refine ah rfl (fun hc1 => ?_) (fun hc1 => ?_)
 ·
  refine af (aC (aE (aZ (aE (aB (bG rfl (bZ rfl (aD (aC ?_)))))))))
  refine aE (aB (bG rfl (ew rfl (bG rfl ?_))))
  refine aq rfl rfl rfl rfl rfl rfl (by omega) ?_
  refine aL rfl rfl rfl rfl (bA rfl rfl rfl (aD (aC ?_)))
  refine ah rfl (fun hc2 => ?_) (fun hc2 => ?_)
  ·
   refine aE (aB (bG rfl (bZ rfl (aD (aC (az (bB (aS (aS ?_)))))))))
   refine bB (aS (bU rfl rfl ?_))
   all_goals skip
   exact av rfl rfl (congrArg (Ty.int .i64) (by unfold Km; rw [iQ (k := k.1) (by omega) k.2 (by rw [← gA]; exact decide_eq_true hc2)]))
  refine af (bI (aC (aB ?_)))
  refine bp rfl rfl (by omega) (by omega) ?_
  refine bG rfl (aD ?_)
  refine bL (⟨k.1 + 1, by rw [cR (by omega)]; intro y hy; rcases List.mem_append.1 hy with h | h; exact k.2 y h; rw [List.mem_singleton.1 h]; exact decide_eq_false hc2⟩) ?_ (by show l.length - (k.1 + 1) < l.length - k.1; omega)
  (refine cV.mk' ?_ ?_ <;> (repeat' (first | exact aH | exact aI | refine aA ?_ (Ty.aT _) | refine aA ?_ (Ty.aF _))))
  all_goals skip
 refine b8 (aQ (aQ (aa rfl (aC (aE (aB (bZ rfl (aD (aC ?_)))))))))
 refine az (bU rfl rfl ?_)
 all_goals skip
 exact av rfl rfl (congrArg (Ty.int .i64) (by unfold Km; rw [jE (by have := k.2; rwa [List.take_of_length_le (by omega)] at this)]))
set_option maxRecDepth 100000 in
theorem xu (l : List Int) (x : Int) : dK Tryz.prog 65 [Ty.sl c7 l, Ty.int .i64 x] (Ty.bool (decide (x ∈ l))) := by
 refine au Tryz.func65 rfl (by decide) Tryz.ntmps65 (by exact Nat.le_of_ble_eq_true rfl) fun w0 M0 => ?_
 refine aE (aB (dF rfl (aD (aC (aE (aB (ew rfl (bG rfl (ak (Dd l x) rfl rfl rfl rfl rfl ?_)))))))))
 refine bA rfl rfl rfl (dF rfl (aD (aC (az (bU rfl rfl ?_)))))
 all_goals skip
 exact av rfl rfl (congrArg Ty.bool (BO l x))
set_option maxRecDepth 100000 in
theorem CG (y : aj) (hr : y.bY) (l : List Int) (o : Bool) : dK Tryz.prog 112 [eA y, Ty.sl c7 l, Ty.bool o] (Ty.bool (dD y (bq l o))) := by
 refine au Tryz.func112 rfl (by decide) Tryz.ntmps112 (by exact Nat.le_of_ble_eq_true rfl) fun w0 M0 => ?_
 refine aE (aB (bH rfl (dF rfl (aD (aC (aE (aB ?_)))))))
 refine Co (E := fE) (xs := List.replicate 8 false) rfl (by exact List.cons_ne_nil _ _) rfl rfl ?_
 refine aD (aC (aE (aE (aB (bG rfl (aD (aC (aZ ?_))))))))
 refine bz (fun (k : {k : Nat // k ≤ 8}) => live [(1, Ty.sl c7 l), (2, Ty.bool o), (3, Ty.pp (bC y)), (7, Ty.ptr 8 0), (9, Ty.int .i64 (k.1 : Nat))] [(8, Cont.vec fE 180 (iS l o k.1))]) (fun k => 8 - k.1) (⟨0, by omega⟩) ?_ fun k => ?_
 ·(refine cV.mk' ?_ ?_ <;> (repeat' (first | exact aH | exact aI | refine aA ?_ (Ty.aT _) | refine aA ?_ (Ty.aF _) | refine aG rfl ?_ ?_)))
  all_goals exact Cont.dA yj
 have hkl := BF (l := l) (o := o) k.2
 refine aE (aB (bA rfl rfl rfl (aD (aC (aE ?_)))))
 refine ah rfl (fun hc1 => ?_) (fun hc1 => ?_)
 ·
  refine af (aC (aE (aZ (aE (aB (bG rfl (bZ rfl (aD (aC ?_)))))))))
  refine aB (bG rfl (ew rfl (bG rfl (ak (xu _ _) rfl rfl rfl rfl rfl (eF rfl (BZ QN rfl rfl ?_))))))
  refine su (n := 8) rfl rfl rfl rfl rfl (by omega) (by omega) ?_
  refine tE rfl rfl rfl (by decide) rfl rfl (by exact (rfl : _ = Ty.bool _)) rfl (by omega) (by decide) rfl rfl ?_
  refine aD (bI (aC (aB ?_)))
  refine bp rfl rfl (by omega) (by omega) ?_
  refine bG rfl (aD ?_)
  refine bL (⟨k.1 + 1, by omega⟩) ?_ (by show 8 - (k.1 + 1) < 8 - k.1; omega)
  (refine cV.mk' ?_ ?_ <;> (repeat' (first | exact aH | exact aI | refine aA ?_ (Ty.aT _) | refine aA ?_ (Ty.aF _) | refine aG rfl ?_ ?_)))
  all_goals skip
  all_goals exact Cont.dA (yl (by omega))
 refine b8 (aQ (aQ (aa rfl (aC (aE ?_)))))
 obtain ⟨k, hk⟩ := k
 obtain rfl : k = 8 := by have h1 : ¬ (k : Int) < 8 := hc1; have h2 : k ≤ 8 := hk; omega
 refine jz (tg := 8) rfl (Cont.dA Bi) ?_
 have hcl : (bq l o).length = 8 := Dz
 refine cH mixed rfl ?_
 refine ir rfl rfl (by decide) rfl rfl (by rw [hcl]; rfl) (fun e => by rw [e] at hcl; cases hcl) ?_
 refine ak (rR) rfl rfl rfl rfl rfl (QA (Ln _ _ hcl jO) rfl rfl ?_)
 cases hsp : (decide ((bq l o) = bE))
 ·
  refine eF rfl (nv rfl rfl rfl rfl (nv rfl rfl rfl rfl (nv rfl rfl rfl rfl (nv rfl rfl rfl rfl (FM rfl ?_)))))
  cases hsp : (!(bh (aO y (nth bE)) (y.cells + 1) (fN (aO y (nth bE)))).2.1)
  ·
   refine eF rfl ?_
   (refine k9 rfl rfl rfl (by apply aP; (refine ir rfl rfl (by decide) rfl rfl (by rw [hcl]; rfl) (fun e => by rw [e] at hcl; cases hcl) ?_); refine aD ?_; exact rfl) ?_)
   (refine k9 rfl rfl rfl (by apply aP; (refine ak (rR) rfl rfl rfl rfl rfl ?_); refine aD ?_; exact rfl) ?_)
   (refine k9 rfl rfl rfl (by apply aP; (refine BK (Ai hcl jO (by assumption)) rfl rfl ?_); refine aD ?_; exact rfl) ?_)
   (refine k9 rfl rfl rfl (by apply aP; (refine eF rfl ?_); refine aD ?_; exact rfl) ?_)
   (refine k9 rfl rfl rfl (by apply aP; (refine aY rfl rfl rfl (by exact Nat.le_of_ble_eq_true rfl) ?_); refine aD ?_; exact rfl) ?_)
   (refine k9 rfl rfl rfl (by apply aP; (refine ir rfl rfl (by decide) rfl rfl (by rw [hcl]; rfl) (fun e => by rw [e] at hcl; cases hcl) ?_); refine aD ?_; exact rfl) ?_)
   (refine k9 rfl rfl rfl (by apply aP; (refine dI (res' := Ty.pp (dZ y (aO y (nth (bq l o))) 1000 (aO y (nth (bq l o))).length)) [(1000, 31)] [1000] [(1000, Cont.vec c7 3 (fN (aO y (nth (bq l o)))))] (qU y hr (bq l o) hcl) rfl rfl (aN (aN bW (aU rfl rfl)) (aU rfl rfl)) pre_nil (bk (a := 1000) (b := 31) (by decide) rfl (bt (by decide) rfl) post_nil) (e9 (aN (aN (aN (aN (aN (aN bW (dV (by decide))) (aU rfl rfl)) (aU rfl rfl)) (aU rfl rfl)) (aU rfl rfl)) (aU rfl rfl))) ?_); refine aD ?_; exact rfl) ?_)
   (refine k9 rfl rfl rfl (by apply aP; (refine dI [(1000, 1000)] [] [(1000, Cont.vec c7 3 (bh (aO y (nth (bq l o))) (y.cells + 1) (fN (aO y (nth (bq l o))))).2.2)] (n6 y (aO y (nth (bq l o))) (fN (aO y (nth (bq l o)))) (kA hr)) rfl rfl (aN bW (e9 (aN (aN (aN (aN (aN (aN bW (dV (by exact List.mem_cons_self))) (aU rfl rfl)) (aU rfl rfl)) (aU rfl rfl)) (aU rfl rfl)) (aU rfl rfl)))) (cz (a := 1000) (b := 1000) (by exact List.mem_cons_self) rfl (bt (by exact List.mem_cons_self) rfl) pre_nil) (bk (a := 1000) (b := 1000) (by decide) rfl (bt (by decide) rfl) post_nil) (aU rfl rfl) ?_); refine aD ?_; exact rfl) ?_)
   (refine k9 rfl rfl rfl (by apply aP; (refine Ap rfl rfl ?_); refine aD ?_; exact rfl) ?_)
   refine Aj rfl rfl (dF rfl (aD ?_))
   refine ⟨by kernel_rfl, ?_⟩
   refine aC (az (bU rfl rfl ?_))
   all_goals skip
   all_goals exact av rfl rfl (congrArg Ty.bool (OS y _))
  refine eF rfl ?_
  (refine k9 rfl rfl rfl (by apply aP; (refine ir rfl rfl (by decide) rfl rfl (by rw [hcl]; rfl) (fun e => by rw [e] at hcl; cases hcl) ?_); refine aD ?_; exact rfl) ?_)
  (refine k9 rfl rfl rfl (by apply aP; (refine ak (rR) rfl rfl rfl rfl rfl ?_); refine aD ?_; exact rfl) ?_)
  (refine k9 rfl rfl rfl (by apply aP; (refine BK (Ai hcl jO (by assumption)) rfl rfl ?_); refine aD ?_; exact rfl) ?_)
  (refine k9 rfl rfl rfl (by apply aP; (refine eF rfl ?_); refine aD ?_; exact rfl) ?_)
  (refine k9 rfl rfl rfl (by apply aP; (refine aY rfl rfl rfl (by exact Nat.le_of_ble_eq_true rfl) ?_); refine aD ?_; exact rfl) ?_)
  (refine k9 rfl rfl rfl (by apply aP; (refine ir rfl rfl (by decide) rfl rfl (by rw [hcl]; rfl) (fun e => by rw [e] at hcl; cases hcl) ?_); refine aD ?_; exact rfl) ?_)
  (refine k9 rfl rfl rfl (by apply aP; (refine dI (res' := Ty.pp (dZ y (aO y (nth (bq l o))) 1000 (aO y (nth (bq l o))).length)) [(1000, 31)] [1000] [(1000, Cont.vec c7 3 (fN (aO y (nth (bq l o)))))] (qU y hr (bq l o) hcl) rfl rfl (aN (aN bW (aU rfl rfl)) (aU rfl rfl)) pre_nil (bk (a := 1000) (b := 31) (by decide) rfl (bt (by decide) rfl) post_nil) (e9 (aN (aN (aN (aN (aN (aN bW (dV (by decide))) (aU rfl rfl)) (aU rfl rfl)) (aU rfl rfl)) (aU rfl rfl)) (aU rfl rfl))) ?_); refine aD ?_; exact rfl) ?_)
  (refine k9 rfl rfl rfl (by apply aP; (refine dI [(1000, 1000)] [] [(1000, Cont.vec c7 3 (bh (aO y (nth (bq l o))) (y.cells + 1) (fN (aO y (nth (bq l o))))).2.2)] (n6 y (aO y (nth (bq l o))) (fN (aO y (nth (bq l o)))) (kA hr)) rfl rfl (aN bW (e9 (aN (aN (aN (aN (aN (aN bW (dV (by exact List.mem_cons_self))) (aU rfl rfl)) (aU rfl rfl)) (aU rfl rfl)) (aU rfl rfl)) (aU rfl rfl)))) (cz (a := 1000) (b := 1000) (by exact List.mem_cons_self) rfl (bt (by exact List.mem_cons_self) rfl) pre_nil) (bk (a := 1000) (b := 1000) (by decide) rfl (bt (by decide) rfl) post_nil) (aU rfl rfl) ?_); refine aD ?_; exact rfl) ?_)
  (refine k9 rfl rfl rfl (by apply aP; (refine Ap rfl rfl ?_); refine aD ?_; exact rfl) ?_)
  refine Aj rfl rfl (dF rfl (aD ?_))
  refine ⟨by kernel_rfl, ?_⟩
  refine aC (az (bU rfl rfl ?_))
  all_goals skip
  all_goals exact av rfl rfl (congrArg Ty.bool (OS y _))
 refine eF rfl ?_
 (refine k9 rfl rfl rfl (by apply aP; (refine aY rfl rfl rfl (by exact Nat.le_of_ble_eq_true rfl) ?_); refine aD ?_; exact rfl) ?_)
 (refine k9 rfl rfl rfl (by apply aP; (refine ak (rR) rfl rfl rfl rfl rfl ?_); refine aD ?_; exact rfl) ?_)
 (refine k9 rfl rfl rfl (by apply aP; (refine dI (res' := Ty.pp (dZ y (aO y (nth bE)) 1000 (aO y (nth bE)).length)) [(1000, 31)] [1000] [(1000, Cont.vec c7 3 (fN (aO y (nth bE))))] (qU y hr bE jO) rfl rfl (aN (aN bW (aU rfl rfl)) (aU rfl rfl)) pre_nil (bk (a := 1000) (b := 31) (by decide) rfl (bt (by decide) rfl) post_nil) (e9 (aN (aN (aN (aN (aN (aN bW (dV (by decide))) (aU rfl rfl)) (aU rfl rfl)) (aU rfl rfl)) (aU rfl rfl)) (aU rfl rfl))) ?_); refine aD ?_; exact rfl) ?_)
 (refine k9 rfl rfl rfl (by apply aP; (refine dI [(1000, 1000)] [] [(1000, Cont.vec c7 3 (bh (aO y (nth bE)) (y.cells + 1) (fN (aO y (nth bE)))).2.2)] (n6 y (aO y (nth bE)) (fN (aO y (nth bE))) (kA hr)) rfl rfl (aN bW (e9 (aN (aN (aN (aN (aN (aN bW (dV (by exact List.mem_cons_self))) (aU rfl rfl)) (aU rfl rfl)) (aU rfl rfl)) (aU rfl rfl)) (aU rfl rfl)))) (cz (a := 1000) (b := 1000) (by exact List.mem_cons_self) rfl (bt (by exact List.mem_cons_self) rfl) pre_nil) (bk (a := 1000) (b := 1000) (by decide) rfl (bt (by decide) rfl) post_nil) (aU rfl rfl) ?_); refine aD ?_; exact rfl) ?_)
 refine Ap rfl rfl ?_
 cases hsp : (!(bh (aO y (nth bE)) (y.cells + 1) (fN (aO y (nth bE)))).2.1)
 ·
  refine eF rfl ?_
  (refine k9 rfl rfl rfl (by apply aP; (refine ir rfl rfl (by decide) rfl rfl (by rw [hcl]; rfl) (fun e => by rw [e] at hcl; cases hcl) ?_); refine aD ?_; exact rfl) ?_)
  (refine k9 rfl rfl rfl (by apply aP; (refine ak (rR) rfl rfl rfl rfl rfl ?_); refine aD ?_; exact rfl) ?_)
  (refine k9 rfl rfl rfl (by apply aP; (refine BK (Ai hcl jO (by assumption)) rfl rfl ?_); refine aD ?_; exact rfl) ?_)
  (refine k9 rfl rfl rfl (by apply aP; (refine eF rfl ?_); refine aD ?_; exact rfl) ?_)
  refine nv rfl rfl rfl rfl (nv rfl rfl rfl rfl (nv rfl rfl rfl rfl (nv rfl rfl rfl rfl ?_)))
  (refine k9 rfl rfl rfl (by apply aP; (refine FM rfl ?_); refine aD ?_; exact rfl) ?_)
  refine Aj rfl rfl (dF rfl (aD ?_))
  refine ⟨by kernel_rfl, ?_⟩
  refine aC (az (bU rfl rfl ?_))
  all_goals skip
  all_goals exact av rfl rfl (congrArg Ty.bool (RB (by assumption) (by assumption)))
 refine eF rfl (nv rfl rfl rfl rfl (nv rfl rfl rfl rfl (nv rfl rfl rfl rfl (nv rfl rfl rfl rfl (Be rfl rfl rfl (Be rfl rfl rfl (Be rfl rfl rfl (Be rfl rfl rfl (nv rfl rfl rfl rfl ?_)))))))))
 refine N6 rfl (dF rfl (aD ?_))
 refine ⟨by kernel_rfl, ?_⟩
 refine aC (az (bU rfl rfl ?_))
 all_goals skip
 all_goals exact av rfl rfl (congrArg Ty.bool (RP (by assumption) (by assumption)))
end Go.Proofs.YtelbollidfdcjaaGreat
namespace Go.Proofs.YtelbollidfdcjaaGreat
open Go Go.T
set_option maxHeartbeats 16000000
def QV (y : aj) (i : Int) : Bool := decide (i ≥ 0) && decide (i ≤ (y.levels.length : Int) - 1)
def J3 (y : aj) (l : List Int) : Int := if bO y = 0 then (if (l.all (QV y)) = true then (if l.Nodup then 0 else 5) else 1) else bO y
noncomputable def Nq (y : aj) (l : List Int) : Bool := if J3 y l = 0 then dD y (bq l false) else false
section
variable {y : aj} {l : List Int} {i : Nat}
theorem Ek {α : Type} {l : List α} {x : α} (h : l.Nodup) (hx : x ∉ l) : (l ++ [x]).Nodup := by
 rw [List.nodup_append]
 refine ⟨h, List.nodup_cons.2 ⟨List.not_mem_nil, List.nodup_nil⟩, fun a ha b hb e => ?_⟩
 rw [List.mem_singleton] at hb
 subst hb; subst e; exact hx ha
theorem Rr (h : bO y = 0) (h2 : (l.all (QV y)) = true) (h3 : l.Nodup) : 0 = J3 y l ∧ dD y (bq l false) = Nq y l := by
 have e : 0 = J3 y l := by unfold J3; rw [if_pos h, if_pos h2, if_pos h3]
 exact ⟨e, by unfold Nq; rw [← e]; rfl⟩
end
attribute [local irreducible] aO fN Way.iH Way.fin Way.room eY eD fA gq over bP cJ dc eZ jt fK iJ kM bh gV gH gM cy cQ gu pG iq jH jM iF Bj yp iM aj.kept aj.cells bO eE bE gN kr cX pH p8 kF jR lQ nE hasB tY rz rD sY pF lB nh e8 kK fM gE Dt Bl ox dD bq iS QV J3 Nq
attribute [local irreducible] gF eX lq nY g7 gx g9 g5 g8 nW gz nT dM fj nM gC oB nth fW dR ay dK bodyPost Exit.then Exit.inBlock Code.wp Code.wpIn n9 hO nO ni gy eU cM cN bodyPostM dO
end Go.Proofs.YtelbollidfdcjaaGreat
namespace Go.Proofs.YtelbollidfdcjaaGreat
open Go Go.T
def nJ (h : List Int → Bool) (many : Nat) : Nat → List Int → Nat → List Int → Bool × List Int
  | 0, _, _, o => (false, o)
  | d + 1, l, i, o =>
    if (if (l ++ [(i : Int)]).length = many then (h (l ++ [(i : Int)]), l ++ [(i : Int)]) else nJ h many d (l ++ [(i : Int)]) (i + 1) o).1 = true then (if (l ++ [(i : Int)]).length = many then (h (l ++ [(i : Int)]), l ++ [(i : Int)]) else nJ h many d (l ++ [(i : Int)]) (i + 1) o)
    else nJ h many d l (i + 1) (if (l ++ [(i : Int)]).length = many then (h (l ++ [(i : Int)]), l ++ [(i : Int)]) else nJ h many d (l ++ [(i : Int)]) (i + 1) o).2
def vC (h : List Int → Bool) (many lim : Nat) (l : List Int) (i : Nat) (o : List Int) : Bool × List Int := if l.length = many then (h l, l) else nJ h many (lim - i) l i o
def xC (many : Nat) : Nat → List Int → Nat → List (List Int)
  | 0, _, _ => []
  | d + 1, l, i => (if (l ++ [(i : Int)]).length = many then [l ++ [(i : Int)]] else xC many d (l ++ [(i : Int)]) (i + 1)) ++ xC many d l (i + 1)
def BL (many lim : Nat) : List (List Int) := if many = 0 then [[]] else xC many lim [] 0
def fy (h : List Int → Bool) (lim : Nat) : Option (List Int) := ((List.range (lim + 1)).flatMap fun k => BL k lim).find? h
section
variable {h : List Int → Bool} {many lim d i k : Nat} {l o : List Int}
theorem Dp (hi : i < lim) : nJ h many (lim - i) l i o = if (vC h many lim (l ++ [(i : Int)]) (i + 1) o).1 = true then vC h many lim (l ++ [(i : Int)]) (i + 1) o else nJ h many (lim - (i + 1)) l (i + 1) (vC h many lim (l ++ [(i : Int)]) (i + 1) o).2 := by
 rw [show lim - i = (lim - (i + 1)) + 1 by omega]; rfl
theorem NV (hi : ¬ i < lim) : nJ h many (lim - i) l i o = (false, o) := by rw [show lim - i = 0 by omega]; rfl
theorem go_eq (e : l.length = many) : vC h many lim l i o = (h l, l) := if_pos e
theorem O1 (e : ¬ l.length = many) : vC h many lim l i o = nJ h many (lim - i) l i o := if_neg e
theorem Aw : ∀ (d : Nat) (l : List Int) (i : Nat) (o : List Int), (nJ h many d l i o).1 = (xC many d l i).any h ∧ ((nJ h many d l i o).1 = true → (xC many d l i).find? h = some (nJ h many d l i o).2)
  | 0, _, _, _ => ⟨rfl, fun e => by cases e⟩
  | d + 1, l, i, o => by
    have key : ∀ o, (if (l ++ [(i : Int)]).length = many then (h (l ++ [(i : Int)]), l ++ [(i : Int)]) else nJ h many d (l ++ [(i : Int)]) (i + 1) o).1 = (if (l ++ [(i : Int)]).length = many then [l ++ [(i : Int)]] else xC many d (l ++ [(i : Int)]) (i + 1)).any h ∧ ((if (l ++ [(i : Int)]).length = many then (h (l ++ [(i : Int)]), l ++ [(i : Int)]) else nJ h many d (l ++ [(i : Int)]) (i + 1) o).1 = true → (if (l ++ [(i : Int)]).length = many then [l ++ [(i : Int)]] else xC many d (l ++ [(i : Int)]) (i + 1)).find? h = some (if (l ++ [(i : Int)]).length = many then (h (l ++ [(i : Int)]), l ++ [(i : Int)]) else nJ h many d (l ++ [(i : Int)]) (i + 1) o).2) := by
      intro o
      by_cases e : (l ++ [(i : Int)]).length = many
      · rw [if_pos e, if_pos e]
        refine ⟨by simp, fun h1 => ?_⟩
        have h1 : h (l ++ [(i : Int)]) = true := h1
        rw [List.find?_cons, h1]
      · rw [if_neg e, if_neg e]
        exact Aw d _ _ o
    unfold nJ xC
    generalize (if (l ++ [(i : Int)]).length = many then [l ++ [(i : Int)]] else xC many d (l ++ [(i : Int)]) (i + 1)) = C at key ⊢
    obtain ⟨k1, k2⟩ := key o
    generalize (if (l ++ [(i : Int)]).length = many then (h (l ++ [(i : Int)]), l ++ [(i : Int)]) else nJ h many d (l ++ [(i : Int)]) (i + 1) o) = r at k1 k2 ⊢
    rw [List.any_append, List.find?_append]
    cases e : r.1 with
    | true =>
      rw [if_pos rfl]
      refine ⟨by rw [e, ← k1, e]; rfl, fun _ => by rw [k2 e]; rfl⟩
    | false =>
      rw [if_neg (by decide)]
      obtain ⟨j1, j2⟩ := Aw d l (i + 1) r.2
      have hn : C.find? h = none := by
        rw [List.find?_eq_none]
        intro x hx h1
        have : C.any h = true := List.any_eq_true.2 ⟨x, hx, h1⟩
        rw [← k1, e] at this; cases this
      refine ⟨by rw [j1, ← k1, e, Bool.false_or], fun h1 => by rw [hn, j2 h1]; rfl⟩
theorem I5 : (vC h many lim [] 0 o).1 = (BL many lim).any h ∧ ((vC h many lim [] 0 o).1 = true → (BL many lim).find? h = some (vC h many lim [] 0 o).2) := by
 unfold vC BL
 by_cases e : many = 0
 ·rw [if_pos (show ([] : List Int).length = many from e.symm), if_pos e]
  refine ⟨by simp, fun h1 => ?_⟩
  have h1 : h [] = true := h1
  rw [List.find?_cons, h1]
 rw [if_neg (show ¬ ([] : List Int).length = many from fun h => e h.symm), if_neg e, Nat.sub_zero]
 exact Aw _ _ _ _
theorem Ig {C : List (List Int)} (h1 : C.any h = false) : C.find? h = none := by
 rw [List.find?_eq_none]
 intro x hx h2
 have : C.any h = true := List.any_eq_true.2 ⟨x, hx, h2⟩
 rw [h1] at this; cases this
def rG (h : List Int → Bool) (lim k : Nat) : Prop := ((List.range k).flatMap fun k => BL k lim).find? h = none
theorem HF : rG h lim 0 := rfl
theorem IA (h0 : rG h lim k) (h1 : (vC h k lim [] 0 []).1 = false) : rG h lim (k + 1) := by
 unfold rG at h0 ⊢
 rw [List.range_succ, List.flatMap_append, List.find?_append, h0, List.flatMap_singleton, Ig (by rw [← (I5 (o := [])).1, h1])]; rfl
theorem Dv (h0 : rG h lim k) (hk : k = lim + 1) : fy h lim = none := by subst hk; exact h0
theorem range_split {k n : Nat} (hk : k < n) : ∃ r, List.range n = List.range k ++ k :: r := by
 refine ⟨(List.range (n - k - 1)).map (fun x => k + 1 + x), ?_⟩
 rw [show List.range n = List.range (k + (1 + (n - k - 1))) by congr 1; omega, List.range_add, List.range_add, List.map_append]
 rw [List.map_map]
 congr 1
 show [k + 0] ++ _ = _
 rw [List.singleton_append, Nat.add_zero]
 congr 1
 refine List.map_congr_left fun x _ => ?_
 show k + (1 + x) = _; omega
theorem EZ (h0 : rG h lim k) (hk : k ≤ lim) (h1 : (vC h k lim [] 0 []).1 = true) : fy h lim = some (vC h k lim [] 0 []).2 := by
 unfold rG at h0
 unfold fy
 obtain ⟨r, hr⟩ := range_split (show k < lim + 1 by omega)
 rw [hr, List.flatMap_append, List.find?_append, h0, List.flatMap_cons, List.find?_append, I5.2 h1]; rfl
end
end Go.Proofs.YtelbollidfdcjaaGreat
namespace Go.Proofs.YtelbollidfdcjaaGreat
open Go Go.T
set_option maxHeartbeats 16000000
structure yu (h : List Int → Bool) (many lim : Nat) (l : List Int) (i0 : Nat) (o0 : List Int) where
  i : Nat
  o : List Int
  ge : i0 ≤ i
  le : i ≤ lim
  same : nJ h many (lim - i0) l i0 o0 = nJ h many (lim - i) l i o
section
variable {h : List Int → Bool} {many lim i0 k : Nat} {l o0 : List Int}
theorem yu.nat (x : yu h many lim l i0 o0) (hi : (x.i : Int) < (lim : Int)) : x.i < lim := by omega
def yu.next (x : yu h many lim l i0 o0) (hi : (x.i : Int) < (lim : Int)) (hg : (vC h many lim (l ++ [(x.i : Int)]) (x.i + 1) x.o).1 = false) : yu h many lim l i0 o0 :=
  ⟨x.i + 1, (vC h many lim (l ++ [(x.i : Int)]) (x.i + 1) x.o).2, by have := x.ge; omega, by omega, by rw [x.same, Dp (x.nat hi), if_neg (by rw [hg]; decide)]⟩
theorem yu.found (x : yu h many lim l i0 o0) (hm : ¬ l.length = many) (hi : (x.i : Int) < (lim : Int)) (hg : (vC h many lim (l ++ [(x.i : Int)]) (x.i + 1) x.o).1 = true) : vC h many lim l i0 o0 = vC h many lim (l ++ [(x.i : Int)]) (x.i + 1) x.o := by
 rw [O1 hm, x.same, Dp (x.nat hi), if_pos hg]
theorem yu.stop (x : yu h many lim l i0 o0) (hm : ¬ l.length = many) (hi : ¬ (x.i : Int) < (lim : Int)) : vC h many lim l i0 o0 = (false, x.o) := by
 rw [O1 hm, x.same, NV (by omega)]
def Iy (h : List Int → Bool) (lim : Nat) : Bool := (fy h lim).isSome
def Bk (h : List Int → Bool) (lim : Nat) : List Int := (fy h lim).getD []
theorem MN {k : Nat} (h0 : rG h lim k) (hk : k ≤ lim) (h1 : (vC h k lim [] 0 []).1 = true) : true = Iy h lim ∧ (vC h k lim [] 0 []).2 = Bk h lim := by
 unfold Iy Bk; rw [EZ h0 hk h1]; exact ⟨rfl, rfl⟩
theorem Od {k : Nat} (h0 : rG h lim k) (hk : k ≤ lim + 1) (h1 : ¬ (k : Int) < (lim : Int) + 1) : false = Iy h lim ∧ [] = Bk h lim := by
 unfold Iy Bk; rw [Dv h0 (by omega)]; exact ⟨rfl, rfl⟩
theorem Fi (h : ((l.length : Nat) : Int) = (many : Nat)) : l.length = many := by omega
theorem KZ (h : ¬ ((l.length : Nat) : Int) = (many : Nat)) : ¬ l.length = many := by omega
end
theorem qt {ρ : List (Nat × Nat)} {th : Ty} {h1 : th.deps = []} {h2 : th.cdeps = []} {many lim a b : Nat} (e0 : (a, 1000) ∈ ρ) (e1 : (b, 1001) ∈ ρ) : mW ρ [Ty.kP 171 [Ty.pp [Ty.int .i64 (many : Nat)], Ty.ptr a 0, Ty.pp [Ty.nd th h1 h2], Ty.pp [Ty.int .i64 (lim : Nat)], Ty.ptr b 0]] [Ty.kP 171 [Ty.pp [Ty.int .i64 (many : Nat)], Ty.ptr 1000 0, Ty.pp [Ty.nd th h1 h2], Ty.pp [Ty.int .i64 (lim : Nat)], Ty.ptr 1001 0]] :=
 aN bW (uc (aN (aN (aN (aN (aN bW (kC e1)) (aU rfl rfl)) (aU rfl rfl)) (kC e0)) (aU rfl rfl)))
abbrev vu (th : Ty) (h1 : th.deps = []) (h2 : th.cdeps = []) (many lim : Nat) (o : List Int) : List (Nat × Cont) := [(1000, Cont.cells 28 [Ty.sl c7 o]), (1001, Cont.cells 122 [Ty.kP 171 [Ty.pp [Ty.int .i64 (many : Nat)], Ty.ptr 1000 0, Ty.pp [Ty.nd th h1 h2], Ty.pp [Ty.int .i64 (lim : Nat)], Ty.ptr 1001 0]])]
theorem BG {A : As} {th : Ty} {h1 : th.deps = []} {h2 : th.cdeps = []} {many lim : Nat} {o o' : List Int} (e0 : A.tag 1000 = some (Cont.cells 28 [Ty.sl c7 o])) (e1 : A.tag 1001 = some (Cont.cells 122 [Ty.kP 171 [Ty.pp [Ty.int .i64 (many : Nat)], Ty.ptr 1000 0, Ty.pp [Ty.nd th h1 h2], Ty.pp [Ty.int .i64 (lim : Nat)], Ty.ptr 1001 0]])) (e : o = o') : rO A [1000, 1001] (vu th h1 h2 many lim o') := by
 subst e; exact eO e0 (hH (by decide) (aN bW (aU rfl rfl))) (eO e1 (hH (by decide) (qt (by decide) (by decide))) gm)
attribute [local irreducible] gF eX lq nY g7 gx g9 g5 g8 nW gz nT dM fj nM gC oB nth fW dR ay dK bodyPost Exit.then Exit.inBlock Code.wp Code.wpIn n9 hO nO ni gy eU cM cN bodyPostM dO
attribute [local irreducible] vC nJ
set_option maxRecDepth 100000 in
theorem DF (l : List Int) (h : l.length ≤ 1000) : eU Tryz.prog 172 [] [] [Ty.sl c7 l] [] (Ty.row c7 3 6 l) := by
 refine ff Tryz.func172 rfl (by decide) Tryz.ntmps172 (by exact Nat.le_of_ble_eq_true rfl) fun w0 M0 => ?_
 refine aE (aB (mK rfl (aD (aC (aE (aE (aB (ew rfl (FY Ox rfl ?_)))))))))
 refine aD (aC ?_)
 refine zW rfl (fun hc1 => ?_) (fun hc1 => ?_)
 ·
  refine aE (aB (mK rfl (aD (aC (az (aS ?_))))))
  refine jJ [6] rfl rfl (by decide) (by repeat (exact gm)) ?_
  all_goals skip
  all_goals (obtain rfl : l = [] := hc1; exact iw zB)
 refine af (aC (aE (aB ?_)))
 refine xx (E := c7) rfl rfl rfl rfl ?_
 refine ew rfl ?_
 refine dh rfl rfl (by decide) rfl rfl rfl rfl rfl rfl (by decide) (by (simp <;> omega)) (by (simp <;> omega)) ?_
 refine yg rfl (aD (aC (az ?_)))
 refine jJ [6] rfl rfl (by decide) (by repeat (exact gm)) ?_
 all_goals skip
 all_goals exact iw (EP (by decide))
set_option maxRecDepth 100000 in
theorem P9 (th : Ty) (h1 : th.deps = []) (h2 : th.cdeps = []) (h : List Int → Bool) (hf : ∀ l, pJ Tryz.prog (Ty.nd th h1 h2) [Ty.sl c7 l] (Ty.bool (h l))) (many lim : Nat) (hmn : many ≤ 1000) (hlm : lim ≤ 1000) (d : Nat) (l : List Int) (i : Nat) (o : List Int) (hi : i ≤ lim) (hll : l.length ≤ many) (hd : lim - i < d) : eU Tryz.prog 171 [1000, 1001] (vu th h1 h2 many lim o) [Ty.row c7 3 1002 l, Ty.int .i64 (i : Nat), Ty.pp [Ty.int .i64 (many : Nat)], Ty.ptr 1000 0, Ty.pp [Ty.nd th h1 h2], Ty.pp [Ty.int .i64 (lim : Nat)], Ty.ptr 1001 0] (vu th h1 h2 many lim (vC h many lim l i o).2) (Ty.bool (vC h many lim l i o).1) := by
 induction d generalizing l i o
 case zero => exact absurd hd (by omega)
 rename_i d ih
 refine ff Tryz.func171 rfl (by decide) Tryz.ntmps171 (by exact Nat.le_of_ble_eq_true rfl) fun w0 M0 => ?_
 refine aE ?_
 refine lP (tg := 1002) [(0, Ty.sl c7 l)] (by decide) rfl ⟨vl rfl, trivial⟩ ?_
 refine aB (dF rfl (aD (aC (aE (aE (aB (ew rfl (b9 rfl rfl rfl (aL rfl rfl rfl rfl ?_)))))))))
 refine bA rfl rfl rfl (aD (aC ?_))
 refine ah rfl (fun hc1 => ?_) (fun hc1 => ?_)
 ·
  refine aE (aB (ew rfl ?_))
  refine cv rfl rfl (by decide) rfl rfl (by exact (rfl : _ = Ty.sl _ _)) rfl (by exact Nat.le_of_ble_eq_true rfl) rfl rfl (by exact (rfl : _ = [_])) ?_
  refine aD (aC (aE (aB (aL rfl rfl rfl rfl (ew rfl (fC rfl (hf l) rfl (dF rfl (aD (aC ?_)))))))))
  refine az (aS ?_)
  refine jJ [1000, 1001] rfl rfl (by decide) ?_ ?_
  ·exact BG rfl rfl (congrArg Prod.snd (go_eq (Fi hc1))).symm
  all_goals skip
  all_goals exact iw (qD rfl rfl (congrArg Ty.bool (congrArg Prod.fst (go_eq (Fi hc1))).symm))
 refine af (aC (aE (aE ?_)))
 have hlm2 := KZ hc1
 refine aB (bG rfl (bZ rfl (aD (aC (aZ ?_)))))
 refine bz (fun (x : yu h many lim l i o) => live [(0, Ty.sl c7 l), (2, Ty.pp [Ty.int .i64 (many : Nat)]), (3, Ty.ptr 1000 0), (4, Ty.pp [Ty.nd th h1 h2]), (5, Ty.pp [Ty.int .i64 (lim : Nat)]), (6, Ty.ptr 1001 0), (10, Ty.int .i64 (x.i : Nat))] [(1000, Cont.cells 28 [Ty.sl c7 x.o]), (1001, Cont.cells 122 [Ty.kP 171 [Ty.pp [Ty.int .i64 (many : Nat)], Ty.ptr 1000 0, Ty.pp [Ty.nd th h1 h2], Ty.pp [Ty.int .i64 (lim : Nat)], Ty.ptr 1001 0]])]) (fun x => lim - x.i) (⟨i, o, Nat.le_refl _, hi, rfl⟩) ?_ fun x => ?_
 ·(refine cV.mk' ?_ ?_ <;> (repeat' (first | exact aH | exact aI | refine aA ?_ (Ty.aT _) | refine aA ?_ (Ty.aF _) | refine aG rfl (Cont.aF _) ?_)))
 have hxl := x.le
 refine aE (aE (aB (bG rfl (aL rfl rfl rfl rfl (bA rfl rfl rfl (aD (aC ?_)))))))
 refine ah rfl (fun hc2 => ?_) (fun hc2 => ?_)
 ·
  refine af (aC (aE (aZ (aE (cH mixed rfl ?_)))))
  refine aX rfl rfl (by decide) rfl rfl rfl ?_
  refine ew rfl ?_
  refine dI (res' := Ty.row c7 3 27 l) [(27, 6)] [27] [] (DF l (by omega)) rfl rfl (by repeat (first | exact bW | refine aN ?_ ?_ | exact aU rfl rfl)) pre_nil post_nil (EP (by exact List.mem_cons_self)) ?_
  refine bG rfl ?_
  refine bX (E := c7) (xs := [(x.i : Int)]) rfl rfl rfl rfl rfl (by decide) (by decide) (by repeat (first | exact (aV.nil : aV _ _ [] _) | (show aV _ _ ((_, _) :: _) _; apply aV.one; (· exact (rfl : _ = Ty.int _ _)); (· exact rfl)))) (by exact rfl) rfl ?_
  refine dh rfl rfl (by decide) rfl rfl rfl rfl rfl rfl (by decide) (by (simp <;> omega)) (by (simp <;> omega)) ?_
  refine bG rfl ?_
  refine bp rfl rfl (by omega) (by omega) ?_
  refine CU [(1000, 1000), (1001, 1001), (27, 1002)] [27] (vu th h1 h2 many lim (vC h many lim (l ++ [(x.i : Int)]) (x.i + 1) x.o).2) rfl (ih (l ++ [(x.i : Int)]) (x.i + 1) x.o (by omega) (by rw [List.length_append]; show l.length + 1 ≤ many; omega) (by have := x.ge; omega)) rfl rfl (aN (aN (aN (aN (aN (aN (aN bW (kC (by decide))) (aU rfl rfl)) (aU rfl rfl)) (kC (by decide))) (aU rfl rfl)) (aU rfl rfl)) (EP (by decide))) (cz (a := 1000) (b := 1000) (by decide) rfl (hH (by decide) (aN bW (aU rfl rfl))) (cz (a := 1001) (b := 1001) (by decide) rfl (hH (by decide) (qt (by decide) (by decide))) pre_nil)) (bk (a := 1000) (b := 1000) (by decide) rfl (hH (by decide) (aN bW (aU rfl rfl))) (bk (a := 1001) (b := 1001) (by decide) rfl (hH (by decide) (qt (by decide) (by decide))) post_nil)) (aU rfl rfl) ?_
  refine aD ?_
  refine ⟨by kernel_rfl, ?_⟩
  refine aC ?_
  refine cF rfl (fun hc3 => ?_) (fun hc3 => ?_)
  ·
   refine aE (aB (dF rfl (aD (aC (az (bB (aS (aS (bB ?_)))))))))
   refine aS ?_
   refine jJ [1000, 1001] rfl rfl (by decide) ?_ ?_
   ·exact BG rfl rfl (congrArg Prod.snd (x.found hlm2 hc2 hc3)).symm
   all_goals skip
   all_goals exact iw (qD rfl rfl (congrArg Ty.bool (hc3.symm.trans (congrArg Prod.fst (x.found hlm2 hc2 hc3)).symm)))
  refine af (bI (aC (aB (bG rfl ?_))))
  refine bp rfl rfl (by omega) (by omega) ?_
  refine bZ rfl (aD ?_)
  refine bL (x.next hc2 hc3) ?_ (by show lim - (x.i + 1) < lim - x.i; omega)
  (refine cV.mk' ?_ ?_ <;> (repeat' (first | exact aH | exact aI | refine aA ?_ (Ty.aT _) | refine aA ?_ (Ty.aF _) | refine aG rfl (Cont.aF _) ?_)))
  all_goals skip
 refine b8 (aQ (aQ (aa rfl (aC (aE (aB (dF rfl (aD (aC ?_)))))))))
 refine az ?_
 refine jJ [1000, 1001] rfl rfl (by decide) ?_ ?_
 ·exact BG rfl rfl (congrArg Prod.snd (x.stop hlm2 hc2)).symm
 all_goals skip
 all_goals exact iw (qD rfl rfl (congrArg Ty.bool (congrArg Prod.fst (x.stop hlm2 hc2)).symm))
set_option maxRecDepth 100000 in
theorem xd (th : Ty) (h1 : th.deps = []) (h2 : th.cdeps = []) (ho : th.one = true) (h : List Int → Bool) (hf : ∀ l, pJ Tryz.prog (Ty.nd th h1 h2) [Ty.sl c7 l] (Ty.bool (h l))) (lim : Nat) (hlm : lim ≤ 999) : dK Tryz.prog 113 [Ty.int .i64 (lim : Nat), Ty.nd th h1 h2] (Ty.lD [Ty.sl c7 (Bk h lim), Ty.bool (Iy h lim)]) := by
 refine au Tryz.func113 rfl (by decide) Tryz.ntmps113 (by exact Nat.le_of_ble_eq_true rfl) fun w0 M0 => ?_
 refine aE (aB ?_)
 refine iD (by exact (rfl : _ = Ty.int _ _)) rfl ?_
 refine iD (ty := Ty.nd th h1 h2) rfl ho ?_
 refine mK rfl (dF rfl (aD (aC (aE (aE (aB (aL rfl rfl rfl rfl ?_)))))))
 refine bp rfl rfl (by omega) (by omega) ?_
 refine bG rfl (aD (aC (aZ ?_)))
 refine bz (fun (k : {k : Nat // k ≤ lim + 1 ∧ rG h lim k}) => live [(2, Ty.pp [Ty.int .i64 (lim : Nat)]), (3, Ty.pp [Ty.nd th h1 h2]), (10, Ty.int .i64 ((lim : Int) + 1)), (11, Ty.int .i64 (k.1 : Nat))] []) (fun k => lim + 1 - k.1) (⟨0, by omega, HF⟩) ?_ fun k => ?_
 ·(refine cV.mk' ?_ ?_ <;> (repeat' (first | exact aH | exact aI | refine aA ?_ (Ty.aT _) | refine aA ?_ (Ty.aF _))))
 have hk := k.2.1
 refine aE (aB (bA rfl rfl rfl (aD (aC (aE ?_)))))
 refine ah rfl (fun hc1 => ?_) (fun hc1 => ?_)
 ·
  refine af (aC (aE (aZ (aE (aB (bG rfl ?_))))))
  refine bf rfl (by exact List.cons_ne_nil _ _) rfl ?_
  refine cv rfl rfl (by decide) rfl rfl (by exact (rfl : _ = Ty.int _ _)) rfl (by exact Nat.le_of_ble_eq_true rfl) rfl rfl (by exact (rfl : _ = [_])) ?_
  refine aD (aC (aE ?_))
  refine lP (tg := 7) [(6, Ty.pp [Ty.int .i64 (k.1 : Nat)])] (by decide) rfl ⟨m5 (T := 3) (off := 0) (l := [Ty.int .i64 (k.1 : Nat)]) rfl rfl rfl (by decide), trivial⟩ ?_
  refine aB ?_
  refine bf rfl (by exact List.cons_ne_nil _ _) rfl ?_
  refine aD (aC (aE (aB ?_)))
  refine bf rfl (by exact List.cons_ne_nil _ _) rfl ?_
  refine aD (aC (aE (aB (dW rfl ?_))))
  refine cv rfl rfl (by decide) rfl rfl (by exact (rfl : _ = Ty.kP _ _)) rfl (by exact Nat.le_of_ble_eq_true rfl) rfl rfl (by exact (rfl : _ = [_])) ?_
  refine aD (aC (aE ?_))
  refine jz (tg := 8) rfl (Cont.kY (l' := [Ty.sl c7 ([] : List Int)]) ⟨Ty.An, trivial⟩) ?_
  refine aB ?_
  refine aX rfl rfl (by decide) rfl rfl rfl ?_
  refine CU [(8, 1000), (9, 1001)] [] [(8, Cont.cells 28 [Ty.sl c7 (vC h k.1 lim [] 0 []).2]), (9, Cont.cells 122 [Ty.kP 171 [Ty.pp [Ty.int .i64 (k.1 : Nat)], Ty.ptr 8 0, Ty.pp [Ty.nd th h1 h2], Ty.pp [Ty.int .i64 (lim : Nat)], Ty.ptr 9 0]])] rfl (P9 th h1 h2 h hf k.1 lim (by omega) (by omega) (lim + 1) [] 0 [] (by omega) (Nat.zero_le _) (by omega)) rfl rfl (aN (aN (aN (aN (aN (aN (aN bW (kC (by decide))) (aU rfl rfl)) (aU rfl rfl)) (kC (by decide))) (aU rfl rfl)) (aU rfl rfl)) zB) (cz (a := 8) (b := 1000) (by decide) rfl (hH (by decide) (aN bW (aU rfl rfl))) (cz (a := 9) (b := 1001) (by decide) rfl (hH (by decide) (qt (by decide) (by decide))) pre_nil)) (bk (a := 8) (b := 1000) (by decide) rfl (hH (by decide) (aN bW (aU rfl rfl))) (bk (a := 9) (b := 1001) (by decide) rfl (hH (by decide) (aN bW (uc (aN (aN (aN (aN (aN bW (kC (by decide))) (aU rfl rfl)) (aU rfl rfl)) (kC (by decide))) (aU rfl rfl))))) post_nil)) (aU rfl rfl) ?_
  refine aD (aC ?_)
  refine cF rfl (fun hc2 => ?_) (fun hc2 => ?_)
  ·
   refine aE (aB ?_)
   refine aX rfl rfl (by decide) rfl rfl rfl ?_
   refine F8 rfl (dF rfl (aD (aC (az (bB (aS (aS (bB (aS ?_)))))))))
   refine fY rfl rfl rfl ?_ ?_
   all_goals skip
   all_goals first | exact av rfl rfl (congrArg Ty.bool (MN k.2.2 (by omega) hc2).1) | exact av rfl rfl (congrArg (Ty.sl c7) (MN k.2.2 (by omega) hc2).2)
  refine af (bI (aC (aB ?_)))
  refine bp rfl rfl (by omega) (by omega) ?_
  refine bG rfl (aD ?_)
  refine bL (⟨k.1 + 1, by omega, IA k.2.2 hc2⟩) ?_ (by show lim + 1 - (k.1 + 1) < lim + 1 - k.1; omega)
  (refine cV.mk' ?_ ?_ <;> (repeat' (first | exact aH | exact aI | refine aA ?_ (Ty.aT _) | refine aA ?_ (Ty.aF _))))
  all_goals skip
 refine b8 (aQ (aQ (aa rfl (aC (aE (aB (mK rfl (dF rfl (aD ?_)))))))))
 refine aC (az ?_)
 refine fY rfl rfl rfl ?_ ?_
 all_goals skip
 all_goals first | exact av rfl rfl (congrArg Ty.bool (Od k.2.2 k.2.1 hc1).1) | exact gZ (Od k.2.2 k.2.1 hc1).2.symm
end Go.Proofs.YtelbollidfdcjaaGreat
namespace Go.Proofs.YtelbollidfdcjaaGreat
open Go Go.T
set_option maxHeartbeats 16000000
theorem EX {P : Program} {t : Ty} {h1 : t.deps = []} {h2 : t.cdeps = []} {args : List Ty} {res : Ty} (h : pJ P t args res) : pJ P (Ty.nd t h1 h2) args res := h
noncomputable def kH (y : aj) : Int := if bO y = 0 then (if Iy (fun l => !dD y (bq l false)) y.levels.length = true then 0 else 6) else bO y
noncomputable def gp (y : aj) : List Int := if kH y = 0 then Bk (fun l => !dD y (bq l false)) y.levels.length else []
theorem F4 {y : aj} (h : ¬ bO y = 0) : bO y = kH y ∧ [] = gp y := by
 have e : bO y = kH y := (if_neg h).symm
 exact ⟨e, by unfold gp; rw [← e, if_neg h]⟩
theorem Ao {y : aj} (h : bO y = 0) (h2 : (!Iy (fun l => !dD y (bq l false)) y.levels.length) = true) : 6 = kH y ∧ [] = gp y := by
 have e : 6 = kH y := by unfold kH; rw [if_pos h, if_neg (by rw [lp h2]; decide)]
 exact ⟨e, by unfold gp; rw [← e, if_neg (by decide)]⟩
theorem vr {y : aj} (h : bO y = 0) (h2 : (!Iy (fun l => !dD y (bq l false)) y.levels.length) = false) : 0 = kH y ∧ Bk (fun l => !dD y (bq l false)) y.levels.length = gp y := by
 have e : 0 = kH y := by unfold kH; rw [if_pos h, if_pos (eo h2)]
 exact ⟨e, by unfold gp; rw [← e, if_pos rfl]⟩
noncomputable def kU (y : aj) : Int := if bO y = 0 then (if Iy (fun l => dD y (bq l true)) y.levels.length = true then 0 else 7) else bO y
noncomputable def fD (y : aj) : List Int := if kU y = 0 then Bk (fun l => dD y (bq l true)) y.levels.length else []
theorem FC {y : aj} (h : ¬ bO y = 0) : bO y = kU y ∧ [] = fD y := by
 have e : bO y = kU y := (if_neg h).symm
 exact ⟨e, by unfold fD; rw [← e, if_neg h]⟩
theorem GH {y : aj} (h : bO y = 0) (h2 : (!Iy (fun l => dD y (bq l true)) y.levels.length) = true) : 7 = kU y ∧ [] = fD y := by
 have e : 7 = kU y := by unfold kU; rw [if_pos h, if_neg (by rw [lp h2]; decide)]
 exact ⟨e, by unfold fD; rw [← e, if_neg (by decide)]⟩
theorem wF {y : aj} (h : bO y = 0) (h2 : (!Iy (fun l => dD y (bq l true)) y.levels.length) = false) : 0 = kU y ∧ Bk (fun l => dD y (bq l true)) y.levels.length = fD y := by
 have e : 0 = kU y := by unfold kU; rw [if_pos h, if_pos (eo h2)]
 exact ⟨e, by unfold fD; rw [← e, if_pos rfl]⟩
attribute [local irreducible] aO fN Way.iH Way.fin Way.room eY eD fA gq over bP cJ dc eZ jt fK iJ kM bh gV gH gM cy cQ gu pG iq jH jM iF Bj yp iM aj.kept aj.cells bO eE bE gN kr cX pH p8 kF jR lQ nE hasB tY rz rD sY pF lB nh e8 kK fM gE Dt Bl ox dD bq iS QV J3 Nq vC nJ Iy Bk fy
attribute [local irreducible] gF eX lq nY g7 gx g9 g5 g8 nW gz nT dM fj nM gC oB nth fW dR ay dK bodyPost Exit.then Exit.inBlock Code.wp Code.wpIn n9 hO nO ni gy eU cM cN bodyPostM dO
set_option maxRecDepth 100000 in
theorem Jb (y : aj) (hr : y.bY) (l : List Int) : dK Tryz.prog 114 [Ty.sl c7 l, Ty.pp (bC y)] (Ty.bool ((fun l => !dD y (bq l false)) l)) := by
 refine au Tryz.func114 rfl (by decide) Tryz.ntmps114 (by exact Nat.le_of_ble_eq_true rfl) fun w0 M0 => ?_
 refine aE (aB (dF rfl (aD (aC (aE (aB ?_))))))
 refine aY rfl rfl rfl (by exact Nat.le_of_ble_eq_true rfl) ?_
 refine ew rfl (ak (CG y hr l false) rfl rfl rfl rfl rfl (eJ rfl (dF rfl (aD (aC (az (bU rfl rfl ?_)))))))
 all_goals exact cI rfl rfl
 all_goals trace_state
set_option maxRecDepth 100000 in
theorem Mi (y : aj) (hs : y.Small) : dK Tryz.prog 44 [eA y] (Ty.lD [Ty.sl c7 (gp y), Ty.int .i64 (kH y)]) := by
 refine au Tryz.func44 rfl (by decide) Tryz.ntmps44 (by exact Nat.le_of_ble_eq_true rfl) fun w0 M0 => ?_
 refine aE (aB (bH rfl (mK rfl (bZ rfl (aD (aC (aE (aE (aB ?_)))))))))
 refine aY rfl rfl rfl (by exact Nat.le_of_ble_eq_true rfl) ?_
 refine ak (lF y hs) rfl rfl rfl rfl rfl (bZ rfl (aD (aC (aE (aB (bG rfl (bA rfl rfl rfl (aD (aC ?_)))))))))
 refine c9 rfl (fun hc1 => ?_) (fun hc1 => ?_)
 ·
  refine aE (aB (bG rfl (mK rfl (bZ rfl (aD (aC (az (aS ?_))))))))
  refine fY rfl rfl rfl ?_ ?_
  all_goals skip
  all_goals first | exact gZ (F4 hc1).2.symm | exact av rfl rfl (congrArg (Ty.int .i64) (F4 hc1).1)
 refine af (aC (aE ?_))
 have hck : bO y = 0 := hc1
 have hr := cZ hck
 have h8 := hr.levels
 refine aB ?_
 refine aJ rfl rfl rfl rfl rfl (by decide) ?_
 refine aL rfl rfl rfl rfl (b9 rfl rfl rfl (dW rfl ?_))
 refine ak (xd (Ty.kP 114 [Ty.pp (bC y)]) rfl rfl rfl (fun l => !dD y (bq l false)) (fun l => EX (dx (Jb y hr l) rfl rfl rfl rfl rfl rfl)) y.levels.length (by omega)) rfl rfl rfl rfl rfl ?_
 refine rH rfl (bN rfl rfl (bN rfl rfl (F8 rfl (dF rfl (aD (aC (aE (aE (aB ?_)))))))))
 refine eF rfl (eJ rfl (aD (aC ?_)))
 refine cF rfl (fun hc2 => ?_) (fun hc2 => ?_)
 ·
  refine aE (aB (mK rfl (bZ rfl (aD (aC (az (aS ?_)))))))
  refine fY rfl rfl rfl ?_ ?_
  all_goals skip
  all_goals first | exact gZ (Ao hck hc2).2.symm | exact av rfl rfl (congrArg (Ty.int .i64) (Ao hck hc2).1)
 refine af (aC (aE (aB (ew rfl (F8 rfl (bZ rfl (aD (aC (az ?_)))))))))
 refine fY rfl rfl rfl ?_ ?_
 all_goals skip
 all_goals first | exact av rfl rfl (congrArg (Ty.sl c7) (vr hck hc2).2) | exact av rfl rfl (congrArg (Ty.int .i64) (vr hck hc2).1)
set_option maxRecDepth 100000 in
theorem MP (y : aj) (hr : y.bY) (l : List Int) : dK Tryz.prog 115 [Ty.sl c7 l, Ty.pp (bC y)] (Ty.bool ((fun l => dD y (bq l true)) l)) := by
 refine au Tryz.func115 rfl (by decide) Tryz.ntmps115 (by exact Nat.le_of_ble_eq_true rfl) fun w0 M0 => ?_
 refine aE (aB (dF rfl (aD (aC (aE (aB ?_))))))
 refine aY rfl rfl rfl (by exact Nat.le_of_ble_eq_true rfl) ?_
 refine ew rfl (ak (CG y hr l true) rfl rfl rfl rfl rfl (dF rfl (aD (aC (az (bU rfl rfl ?_))))))
 all_goals exact cI rfl rfl
 all_goals trace_state
set_option maxRecDepth 100000 in
theorem NT (y : aj) (hs : y.Small) : dK Tryz.prog 45 [eA y] (Ty.lD [Ty.sl c7 (fD y), Ty.int .i64 (kU y)]) := by
 refine au Tryz.func45 rfl (by decide) Tryz.ntmps45 (by exact Nat.le_of_ble_eq_true rfl) fun w0 M0 => ?_
 refine aE (aB (bH rfl (mK rfl (bZ rfl (aD (aC (aE (aE (aB ?_)))))))))
 refine aY rfl rfl rfl (by exact Nat.le_of_ble_eq_true rfl) ?_
 refine ak (lF y hs) rfl rfl rfl rfl rfl (bZ rfl (aD (aC (aE (aB (bG rfl (bA rfl rfl rfl (aD (aC ?_)))))))))
 refine c9 rfl (fun hc1 => ?_) (fun hc1 => ?_)
 ·
  refine aE (aB (bG rfl (mK rfl (bZ rfl (aD (aC (az (aS ?_))))))))
  refine fY rfl rfl rfl ?_ ?_
  all_goals skip
  all_goals first | exact gZ (FC hc1).2.symm | exact av rfl rfl (congrArg (Ty.int .i64) (FC hc1).1)
 refine af (aC (aE ?_))
 have hck : bO y = 0 := hc1
 have hr := cZ hck
 have h8 := hr.levels
 refine aB ?_
 refine aJ rfl rfl rfl rfl rfl (by decide) ?_
 refine aL rfl rfl rfl rfl (b9 rfl rfl rfl (dW rfl ?_))
 refine ak (xd (Ty.kP 115 [Ty.pp (bC y)]) rfl rfl rfl (fun l => dD y (bq l true)) (fun l => EX (dx (MP y hr l) rfl rfl rfl rfl rfl rfl)) y.levels.length (by omega)) rfl rfl rfl rfl rfl ?_
 refine rH rfl (bN rfl rfl (bN rfl rfl (F8 rfl (dF rfl (aD (aC (aE (aE (aB ?_)))))))))
 refine eF rfl (eJ rfl (aD (aC ?_)))
 refine cF rfl (fun hc2 => ?_) (fun hc2 => ?_)
 ·
  refine aE (aB (mK rfl (bZ rfl (aD (aC (az (aS ?_)))))))
  refine fY rfl rfl rfl ?_ ?_
  all_goals skip
  all_goals first | exact gZ (GH hck hc2).2.symm | exact av rfl rfl (congrArg (Ty.int .i64) (GH hck hc2).1)
 refine af (aC (aE (aB (ew rfl (F8 rfl (bZ rfl (aD (aC (az ?_)))))))))
 refine fY rfl rfl rfl ?_ ?_
 all_goals skip
 all_goals first | exact av rfl rfl (congrArg (Ty.sl c7) (wF hck hc2).2) | exact av rfl rfl (congrArg (Ty.int .i64) (wF hck hc2).1)
end Go.Proofs.YtelbollidfdcjaaGreat
namespace Go.Proofs.YtelbollidfdcjaaGreat
open Go Go.T
def two (k : Nat) : aj := ⟨2, [⟨100, ⟨20, 30⟩⟩, ⟨50, ⟨0, 0⟩⟩], [⟨0, -1, 0, ⟨40, 60⟩⟩, ⟨1, 0, 1, ⟨10, 40⟩⟩, ⟨1, 1, -1, ⟨5, 10⟩⟩], ([⟨2, 1, ⟨20, 25⟩⟩, ⟨2, 0, ⟨10, 24⟩⟩] : List Level).take k⟩
def yt (p q u v w : Int) : dg := ⟨[p, q], [u, v, w]⟩
section
variable {k : Nat} {c : Nat → Bool} {a : dg} {p q u v w : Int}
theorem oo (h : k ≤ 2) : bO (two k) = 0 := by
 have : k = 0 ∨ k = 1 ∨ k = 2 := by omega
 rcases this with rfl | rfl | rfl <;> decide
theorem z9 (h : k ≤ 2) : (two k).bY := cZ (oo h)
theorem EJ (h : yz (two k) a) : ∃ p q u v w, a = yt p q u v w := by
  obtain ⟨f, m⟩ := a
  have h1 : f.length = 2 := h.first
  have h2 : m.length = 3 := h.cD
  match f, m, h1, h2 with
  | [p, q], [u, v, w], _, _ => exact ⟨p, q, u, v, w, rfl⟩
theorem nF : dL (two k) (yt p q u v w) 0 0 = p := by simp [dL, cw, rC, ind, nth, two, yt]
theorem nG : dL (two k) (yt p q u v w) 0 1 = p + u := by simp [dL, cw, rC, ind, nth, two, yt]
theorem lY : dL (two k) (yt p q u v w) 0 2 = p + u - v := by simp [dL, cw, rC, ind, nth, two, yt]; omega
theorem BS : dL (two k) (yt p q u v w) 1 0 = q := by simp [dL, cw, rC, ind, nth, two, yt]
theorem BR : dL (two k) (yt p q u v w) 1 1 = q := by simp [dL, cw, rC, ind, nth, two, yt]
theorem ue : dL (two k) (yt p q u v w) 1 2 = q + v - w := by simp [dL, cw, rC, ind, nth, two, yt]; omega
structure NA (k : Nat) (c : Nat → Bool) (p q u v w : Int) : Prop where
  hp : 20 ≤ p ∧ p ≤ 30
  hq : q = 0
  hu : 40 ≤ u ∧ u ≤ 60
  hv : 10 ≤ v ∧ v ≤ 40
  hw : 5 ≤ w ∧ w ≤ 10
  l0 : 0 < k → c 0 = true → 20 ≤ v - w ∧ v - w ≤ 25
  l1 : 1 < k → c 1 = true → 10 ≤ p + u - v ∧ p + u - v ≤ 24
theorem lS (hk : k ≤ 2) : eP (two k) c (yt p q u v w) ↔ NA k c p q u v w := by
 constructor
 ·intro h
  have f0 := h.first 0 (Nat.zero_lt_succ _)
  have f1 := h.first 1 (show 1 < 2 by decide)
  have m0 := h.cD 0 (Nat.zero_lt_succ _)
  have m1 := h.cD 1 (show 1 < 3 by decide)
  have m2 := h.cD 2 (show 2 < 3 by decide)
  have hq : (0 : Int) ≤ q ∧ q ≤ 0 := f1
  refine ⟨f0, by omega, m0, m1, m2, fun h0 hc => ?_, fun h1 hc => ?_⟩
  ·have e : nth (two k).levels 0 = ⟨2, 1, ⟨20, 25⟩⟩ := by
    obtain ⟨j, rfl⟩ : ∃ j, k = j + 1 := ⟨k - 1, by omega⟩
    rfl
   have hl : 0 < (two k).levels.length := by
    obtain ⟨j, rfl⟩ : ∃ j, k = j + 1 := ⟨k - 1, by omega⟩
    show 0 < (List.take (j + 1) _).length
    rw [List.take_succ_cons, List.length_cons]; omega
   have := h.level 0 hl hc
   rw [e] at this
   have := this
   change 20 ≤ dL _ _ 1 2 ∧ dL _ _ 1 2 ≤ 25 at this
   rw [ue] at this
   omega
  obtain rfl : k = 2 := by omega
  have := h.level 1 (by decide) hc
  change 10 ≤ dL _ _ 0 2 ∧ dL _ _ 0 2 ≤ 24 at this
  rw [lY] at this
  exact this
 intro ⟨hp, hq, hu, hv, hw, h0, h1⟩
 have hlen : (two k).levels.length = k := by
  show (List.take k _).length = k
  rw [List.length_take]; show min k 2 = k; omega
 refine ⟨⟨rfl, rfl⟩, fun b hb => ?_, fun b t hb ht => ?_, fun i hi => ?_, fun i hi hc => ?_⟩
 ·have hb : b < 2 := hb
  have : b = 0 ∨ b = 1 := by omega
  rcases this with rfl | rfl
  ·exact hp
  show 0 ≤ q ∧ q ≤ 0; omega
 ·have hb : b < 2 := hb
  have ht : t ≤ 2 := ht
  have e1 : b = 0 ∨ b = 1 := by omega
  have e2 : t = 0 ∨ t = 1 ∨ t = 2 := by omega
  rcases e1 with rfl | rfl <;> rcases e2 with rfl | rfl | rfl
  ·rw [nF]; show 0 ≤ p ∧ p ≤ 100; omega
  ·rw [nG]; show 0 ≤ p + u ∧ p + u ≤ 100; omega
  ·rw [lY]; show 0 ≤ p + u - v ∧ p + u - v ≤ 100; omega
  ·rw [BS]; show 0 ≤ q ∧ q ≤ 50; omega
  ·rw [BR]; show 0 ≤ q ∧ q ≤ 50; omega
  rw [ue]; show 0 ≤ q + v - w ∧ q + v - w ≤ 50; omega
 ·have hi : i < 3 := hi
  have : i = 0 ∨ i = 1 ∨ i = 2 := by omega
  rcases this with rfl | rfl | rfl
  ·exact hu
  ·exact hv
  exact hw
 rw [hlen] at hi
 have : i = 0 ∨ i = 1 := by omega
 rcases this with rfl | rfl
 ·have h := h0 hi hc
  have e : nth (two k).levels 0 = ⟨2, 1, ⟨20, 25⟩⟩ := by
   obtain ⟨j, rfl⟩ : ∃ j, k = j + 1 := ⟨k - 1, by omega⟩
   rfl
  rw [e]
  change 20 ≤ dL _ _ 1 2 ∧ dL _ _ 1 2 ≤ 25
  rw [ue]; omega
 obtain rfl : k = 2 := by omega
 have h := h1 (by omega) hc
 change 10 ≤ dL _ _ 0 2 ∧ dL _ _ 0 2 ≤ 24
 rw [lY]; exact h
theorem lI (hk : k ≤ 2) {f : dg → Int} {s : Span} (p0 q0 u0 v0 w0 p1 q1 u1 v1 w1 : Int) (h0 : NA k c p0 q0 u0 v0 w0) (e0 : f (yt p0 q0 u0 v0 w0) = s.lo) (h1 : NA k c p1 q1 u1 v1 w1) (e1 : f (yt p1 q1 u1 v1 w1) = s.hi)
 (h : ∀ p q u v w, NA k c p q u v w → s.lo ≤ f (yt p q u v w) ∧ f (yt p q u v w) ≤ s.hi) : Ds (two k) c f s :=
 ⟨⟨_, (lS hk).2 h0, e0⟩, ⟨_, (lS hk).2 h1, e1⟩, fun a ha => by
  obtain ⟨p, q, u, v, w, rfl⟩ := EJ ha.lens
  exact h p q u v w ((lS hk).1 ha)⟩
end
end Go.Proofs.YtelbollidfdcjaaGreat
namespace Go.Proofs.YtelbollidfdcjaaGreat
open Go Go.T
section
variable {y : aj} {c : Nat → Bool} {a : dg} {b t k : Nat} {s : Span}
theorem s8 (h0 : bO y = 0) (h : ∃ a, eP y (nth bE) a) : cX y = 0 := (open_3 h0 ((kj (cZ h0)).2 h)).symm
theorem CW (h0 : bO y = 0) (h : ¬ ∃ a, eP y (nth bE) a) : cX y = 7 := by
  cases e : (bh (aO y (nth bE)) (y.cells + 1) (fN (aO y (nth bE)))).2.1 with
  | true => exact (yU h0 e).symm
  | false => exact absurd ((kj (cZ h0)).1 e) h
theorem nS (h : cX y = 0) : ∃ a, eP y (nth bE) a := (kj (cZ (ef h))).1 (BU h)
theorem CM (h0 : bO y = 0) : cX y = 0 ↔ ∃ a, eP y (nth bE) a := ⟨nS, s8 h0⟩
theorem uW (hr : y.bY) {l : List Bool} : dD y l = true ↔ ∃ a, eP y (nth l) a := by
 unfold dD
 rw [Bool.not_eq_true', kj hr]
theorem qb (ho : cX y = 0) (hb : b < y.bins.length) (ht : t ≤ y.D) : Ds y (nth bE) (fun a => dL y a b t) (iF (aO y (nth bE)) (y.cells + 1) (hasB y b t)) :=
 yR (cZ (ef ho)) (fun x hx => NZ (cZ (ef ho)) hb ht hx) (nS ho)
theorem BV (ho : cX y = 0) (ht : t ≤ y.D) : Ds y (nth bE) (fun a => cw (fun b => dL y a b t) y.bins.length) (iF (aO y (nth bE)) (y.cells + 1) (pF y t)) :=
 yR (cZ (ef ho)) (fun x hx => HC (cZ (ef ho)) ht hx) (nS ho)
theorem Mu (ho : cX y = 0) (hk : k < y.moves.length) : Ds y (nth bE) (fun a => nth a.cD k) (iF (aO y (nth bE)) (y.cells + 1) (tY (y.bins.length * (y.D + 1) + k))) :=
 yR (cZ (ef ho)) (fun x hx => JF hk) (nS ho)
theorem A2 (h0 : bO y = 0) (hb : b < y.bins.length) : eE y (b : Int) = 0 := by
 unfold eE
 rw [if_pos h0, if_pos (by unfold aj.bin; rw [fB]; omega)]
theorem Gs (ho : cX y = 0) (hb : b < y.bins.length) : kF y (b : Int) = 0 := (Au (A2 (ef ho) hb) ho).1.symm
theorem Gk (ho : cX y = 0) (hb : b < y.bins.length) : jR y (b : Int) = (List.range (y.D + 1)).map fun t => iF (aO y (nth bE)) (y.cells + 1) (hasB y b t) := (Au (A2 (ef ho) hb) ho).2.symm
theorem ND (ho : cX y = 0) : sY y = (List.range (y.D + 1)).map fun t => iF (aO y (nth bE)) (y.cells + 1) (pF y t) := (CR ho).symm
theorem My (ho : cX y = 0) (hk : k < y.moves.length) : lQ y (k : Int) = 0 := (Fo (ef ho) (by rw [Bool.not_eq_false', Bool.and_eq_true, decide_eq_true_eq, decide_eq_true_eq]; omega) ho).1.symm
theorem L4 (ho : cX y = 0) (hk : k < y.moves.length) : Ds y (nth bE) (fun a => nth a.cD k) (nE y (k : Int)) := by
 rw [← (Fo (ef ho) (by rw [Bool.not_eq_false', Bool.and_eq_true, decide_eq_true_eq, decide_eq_true_eq]; omega) ho).2]
 exact Mu ho hk
end
theorem JT {α : Type} {a b c x y z : α} (h1 : a = x) (h2 : b = y) (h3 : c = z) : [a, b, c] = [x, y, z] := by subst h1; subst h2; subst h3; rfl
theorem lM {k : Nat} (hk : k ≤ 1) : cX (two k) = 0 :=
 s8 (oo (by omega)) ⟨yt 20 0 40 25 5, (lS (by omega)).2 ⟨by omega, rfl, by omega, by omega, by omega, fun _ _ => by omega, fun _ _ => by omega⟩⟩
theorem Qh : kF (two 0) 0 = 0 := Gs (b := 0) (lM (by omega)) (by decide)
theorem OF : jR (two 0) 0 = [⟨20, 30⟩, ⟨60, 90⟩, ⟨20, 80⟩] := by
 have ho := lM (k := 0) (by omega)
 have e := Gk (b := 0) ho (by decide)
 have h0 := (qb (b := 0) (t := 0) ho (by decide) (by decide)).one (lI (s := ⟨20, 30⟩) (by omega) 20 0 40 10 5 30 0 40 10 5 (by constructor <;> intros <;> omega) nF (by constructor <;> intros <;> omega) nF fun p q u v w h => by rw [nF]; exact h.hp)
 have h1 := (qb (b := 0) (t := 1) ho (by decide) (by decide)).one (lI (s := ⟨60, 90⟩) (by omega) 20 0 40 10 5 30 0 60 10 5 (by constructor <;> intros <;> omega) nG (by constructor <;> intros <;> omega) nG fun p q u v w h => by rw [nG]; have := h.hp; have := h.hu; show 60 ≤ p + u ∧ p + u ≤ 90; omega)
 have h2 := (qb (b := 0) (t := 2) ho (by decide) (by decide)).one (lI (s := ⟨20, 80⟩) (by omega) 20 0 40 40 5 30 0 60 10 5 (by constructor <;> intros <;> omega) lY (by constructor <;> intros <;> omega) lY fun p q u v w h => by rw [lY]; have := h.hp; have := h.hu; have := h.hv; show 20 ≤ p + u - v ∧ p + u - v ≤ 80; omega)
 show jR (two 0) ((0 : Nat) : Int) = _
 rw [e]
 exact JT h0 h1 h2
theorem FX : jR (two 1) 0 = [⟨20, 30⟩, ⟨60, 90⟩, ⟨25, 65⟩] := by
 have ho := lM (k := 1) (by omega)
 have e := Gk (b := 0) ho (by decide)
 have h0 := (qb (b := 0) (t := 0) ho (by decide) (by decide)).one (lI (s := ⟨20, 30⟩) (by omega) 20 0 40 25 5 30 0 40 25 5 (by constructor <;> intros <;> omega) nF (by constructor <;> intros <;> omega) nF fun p q u v w h => by rw [nF]; exact h.hp)
 have h1 := (qb (b := 0) (t := 1) ho (by decide) (by decide)).one (lI (s := ⟨60, 90⟩) (by omega) 20 0 40 25 5 30 0 60 25 5 (by constructor <;> intros <;> omega) nG (by constructor <;> intros <;> omega) nG fun p q u v w h => by rw [nG]; have := h.hp; have := h.hu; show 60 ≤ p + u ∧ p + u ≤ 90; omega)
 have h2 := (qb (b := 0) (t := 2) ho (by decide) (by decide)).one (lI (s := ⟨25, 65⟩) (by omega) 20 0 40 35 10 30 0 60 25 5 (by constructor <;> intros <;> omega) lY (by constructor <;> intros <;> omega) lY fun p q u v w h => by rw [lY]; have := h.hp; have := h.hu; have := h.hw; have := h.l0 (by omega) rfl; show 25 ≤ p + u - v ∧ p + u - v ≤ 65; omega)
 show jR (two 1) ((0 : Nat) : Int) = _
 rw [e]
 exact JT h0 h1 h2
theorem mB {k : Nat} {a : dg} {t : Nat} : cw (fun b => dL (two k) a b t) (two k).bins.length = dL (two k) a 0 t + dL (two k) a 1 t := by
 show (0 + dL (two k) a 0 t) + dL (two k) a 1 t = _; rw [Int.zero_add]
theorem QG : sY (two 0) = [⟨20, 30⟩, ⟨60, 90⟩, ⟨50, 85⟩] := by
 have ho := lM (k := 0) (by omega)
 have e := ND ho
 have h0 := (BV (t := 0) ho (by decide)).one (lI (s := ⟨20, 30⟩) (by omega) 20 0 40 10 5 30 0 40 10 5 (by constructor <;> intros <;> omega) (by rw [mB, nF, BS]; rfl) (by constructor <;> intros <;> omega) (by rw [mB, nF, BS]; rfl) fun p q u v w h => by rw [mB, nF, BS]; have := h.hp; have := h.hq; show 20 ≤ p + q ∧ p + q ≤ 30; omega)
 have h1 := (BV (t := 1) ho (by decide)).one (lI (s := ⟨60, 90⟩) (by omega) 20 0 40 10 5 30 0 60 10 5 (by constructor <;> intros <;> omega) (by rw [mB, nG, BR]; rfl) (by constructor <;> intros <;> omega) (by rw [mB, nG, BR]; rfl) fun p q u v w h => by rw [mB, nG, BR]; have := h.hp; have := h.hq; have := h.hu; show 60 ≤ p + u + q ∧ p + u + q ≤ 90; omega)
 have h2 := (BV (t := 2) ho (by decide)).one (lI (s := ⟨50, 85⟩) (by omega) 20 0 40 10 10 30 0 60 10 5 (by constructor <;> intros <;> omega) (by rw [mB, lY, ue]; rfl) (by constructor <;> intros <;> omega) (by rw [mB, lY, ue]; rfl) fun p q u v w h => by rw [mB, lY, ue]; have := h.hp; have := h.hq; have := h.hu; have := h.hw; show 50 ≤ p + u - v + (q + v - w) ∧ p + u - v + (q + v - w) ≤ 85; omega)
 rw [e]
 exact JT h0 h1 h2
theorem RL : lQ (two 1) 1 = 0 := My (k := 1) (lM (by omega)) (by decide)
theorem QK : nE (two 1) 1 = ⟨25, 35⟩ :=
 (L4 (k := 1) (lM (k := 1) (by omega)) (by decide)).one (lI (s := ⟨25, 35⟩) (by omega) 20 0 40 25 5 20 0 40 35 10 (by constructor <;> intros <;> omega) rfl (by constructor <;> intros <;> omega) rfl fun p q u v w h => by have := h.hw; have := h.l0 (by omega) rfl; show 25 ≤ v ∧ v ≤ 35; omega)
theorem Oo : 0 = lB (two 1) 0 60 (fun x => decide (x.lo ≥ 60)) ∧ fidx (fun x : Span => decide (x.lo ≥ 60)) (jR (two 1) 0) = nh (two 1) 0 60 (fun x => decide (x.lo ≥ 60)) :=
 Ke (A2 (b := 0) (oo (by omega)) (by decide)) rfl (Gs (b := 0) (lM (by omega)) (by decide)) (by rw [FX]; decide)
theorem QH : nh (two 1) 0 60 (fun x => decide (x.lo ≥ 60)) = 1 := by rw [← Oo.2, FX]; rfl
def yH : rm := ⟨[⟨0, 0⟩, ⟨0, 1⟩, ⟨1, 1⟩], false⟩
theorem Gi : gE (two 2) (aO (two 2) (nth bE)) yH = 1 := by kernel_rfl
theorem Q1 : 0 = iz (two 2) yH ∧ gE (two 2) (aO (two 2) (nth bE)) yH = kQ (two 2) yH :=
 AO (oo (by omega)) (by decide) (fun i hi => by
  have hi : i + 1 < 3 := hi
  have : i = 0 ∨ i = 1 := by omega
  rcases this with rfl | rfl <;> decide) (by rw [Gi]; decide)
theorem PV : kQ (two 2) yH = 1 := by rw [← Q1.2, Gi]
theorem Jy : ¬ ∃ a, eP (two 2) (nth bE) a := by
 rintro ⟨a, ha⟩
 obtain ⟨p, q, u, v, w, rfl⟩ := EJ ha.lens
 have h := (lS (by omega)).1 ha
 have h0 := h.l0 (by omega) rfl
 have h1 := h.l1 (by omega) rfl
 have := h.hp; have := h.hu; have := h.hw
 omega
theorem M6 : cX (two 2) = 7 := CW (oo (by omega)) Jy
theorem wA {l : List Bool} (h : nth l 0 = false ∨ nth l 1 = false) : dD (two 2) l = true := by
  rw [uW (z9 (by omega))]
  cases h1 : nth l 1 with
  | false => exact ⟨yt 20 0 40 25 5, (lS (by omega)).2 ⟨by omega, rfl, by omega, by omega, by omega, fun _ _ => by omega, fun _ hc => by rw [h1] at hc; cases hc⟩⟩
  | true =>
    have h0 : nth l 0 = false := h.resolve_right (by rw [h1]; decide)
    exact ⟨yt 20 0 40 40 5, (lS (by omega)).2 ⟨by omega, rfl, by omega, by omega, by omega, fun _ hc => absurd hc (by rw [h0]; decide), fun _ _ => by omega⟩⟩
theorem KX {l : List Bool} (h : nth l 0 = true ∧ nth l 1 = true) : dD (two 2) l = false := by
 rw [Bool.eq_false_iff]
 intro hc
 obtain ⟨a, ha⟩ := (uW (z9 (by omega))).1 hc
 obtain ⟨p, q, u, v, w, rfl⟩ := EJ ha.lens
 have hh := (lS (by omega)).1 ha
 have h0 := hh.l0 (by omega) h.1
 have h1 := hh.l1 (by omega) h.2
 have := hh.hp; have := hh.hu; have := hh.hw
 omega
theorem Ad (h : List Int → Bool) : fy h 2 = [[], [0], [1], [0, 1]].find? h := rfl
theorem Qg : fy (fun l => !dD (two 2) (bq l false)) 2 = some [0, 1] := by
 rw [Ad, List.find?_cons, wA (.inl rfl)]
 show List.find? _ [[0], [1], [0, 1]] = _
 rw [List.find?_cons, wA (.inr rfl)]
 show List.find? _ [[1], [0, 1]] = _
 rw [List.find?_cons, wA (.inl rfl)]
 show List.find? _ [[0, 1]] = _
 rw [List.find?_cons, KX ⟨rfl, rfl⟩]; rfl
theorem RC : fy (fun l => dD (two 2) (bq l true)) 2 = some [0] := by
 rw [Ad, List.find?_cons, KX ⟨rfl, rfl⟩]
 show List.find? _ [[0], [1], [0, 1]] = _
 rw [List.find?_cons, wA (.inl rfl)]
theorem Ot : 0 = kH (two 2) ∧ Bk (fun l => !dD (two 2) (bq l false)) 2 = gp (two 2) :=
 vr (oo (by omega)) (by show (!(fy _ 2).isSome) = false; rw [Qg]; rfl)
theorem Of : 0 = kU (two 2) ∧ Bk (fun l => dD (two 2) (bq l true)) 2 = fD (two 2) :=
 wF (oo (by omega)) (by show (!(fy _ 2).isSome) = false; rw [RC]; rfl)
theorem LQ : gp (two 2) = [0, 1] := by rw [← Ot.2]; unfold Bk; rw [Qg]; rfl
theorem Jt : fD (two 2) = [0] := by rw [← Of.2]; unfold Bk; rw [RC]; rfl
end Go.Proofs.YtelbollidfdcjaaGreat
namespace Go.Proofs.YtelbollidfdcjaaGreat
open Go Go.T
section
variable {y : aj} {c : Nat → Bool} {a : dg} {m : List Int} {b t n : Nat} {x : Int}
theorem Ds.same {f g : dg → Int} {s s' : Span} (h : Ds y c f s) (h' : Ds y c g s') (e : ∀ a, f a = g a) : s = s' := by
 have : f = g := funext e
 subst this; exact h.one h'
end
end Go.Proofs.YtelbollidfdcjaaGreat
namespace Go.Proofs.YtelbollidfdcjaaGreat
open Go Go.T
section
variable {y : aj} {a : dg} {c : Nat → Bool}
end
end Go.Proofs.YtelbollidfdcjaaGreat
namespace Go.Proofs.YtelbollidfdcjaaGreat
open Go Go.T
theorem PM (a b c d : Int) (w : World) : (Op.equalIn 9999 37 (.agg #[.int .i64 a, .int .i64 b]) (.agg #[.int .i64 c, .int .i64 d])).run Tryz.prog w = .ok (decide (a = c) && decide (b = d)) w := by
 have hs : Tryz.prog.stoodInHeld 37 = false := by kernel_rfl
 have e3 : ∀ (x y : Int) (w : World), (Op.equalIn 9998 3 (.int .i64 x) (.int .i64 y)).run Tryz.prog w = .ok (decide (x = y)) w := fun x y w => mR 9997 Tryz.underlying3
 have g3 : ∀ w, (isAgg 3).run Tryz.prog w = .ok false w := fun w => by simp [isAgg, run_underlying Tryz.underlying3]
 rw [Op.equalIn]
 simp only [Sem.run_bind, run_underlying Tryz.underlying37, Result.andThen_ok]
 simp [hs, part, g3, e3]
 by_cases h0 : a = c <;> by_cases h1 : b = d <;> simp [h0, h1]
theorem KG (w : World) : (isAgg 37).run Tryz.prog w = .ok true w := by simp [isAgg, run_underlying Tryz.underlying37]
theorem Kb (w : World) : (sizeOf 37).run Tryz.prog w = .ok 2 w := by
 have h : (Tryz.prog.info? 37).map (·.size) = some 2 := by kernel_rfl
 obtain ⟨ti, h1, h2⟩ := Option.map_eq_some_iff.1 h
 simp [sizeOf, typeInfo, h1, h2]
theorem Qf (a0 a1 a2 b0 b1 b2 : Int) (w : World) : (Op.equal 39 (.agg #[.int .i64 a0, .int .i64 a1, .int .i64 a2]) (.agg #[.int .i64 b0, .int .i64 b1, .int .i64 b2])).run Tryz.prog w = .ok (decide (a0 = b0) && (decide (a1 = b1) && decide (a2 = b2))) w := by
 have hs : Tryz.prog.stoodInHeld 39 = false := by kernel_rfl
 have e3 : ∀ (x y : Int) (w : World), (Op.equalIn 9999 3 (.int .i64 x) (.int .i64 y)).run Tryz.prog w = .ok (decide (x = y)) w := fun x y w => mR 9998 Tryz.underlying3
 have g3 : ∀ w, (isAgg 3).run Tryz.prog w = .ok false w := fun w => by simp [isAgg, run_underlying Tryz.underlying3]
 unfold Op.equal Op.maxDepth
 rw [Op.equalIn]
 simp only [Sem.run_bind, run_underlying Tryz.underlying39, Result.andThen_ok]
 simp [hs, part, g3, e3, KG, Kb, PM]
 by_cases h0 : a0 = b0
 case neg => simp [h0]
 cases hq : (decide (a1 = b1) && decide (a2 = b2)) <;> simp_all
theorem Qo (a0 a1 a2 b0 b1 b2 : Int) : I0 Tryz.prog 39 [Ty.int .i64 a0, Ty.int .i64 a1, Ty.int .i64 a2] [Ty.int .i64 b0, Ty.int .i64 b1, Ty.int .i64 b2] (decide (a0 = b0) && (decide (a1 = b1) && decide (a2 = b2))) :=
  ⟨by kernel_rfl, fun w M cs ds h1 h2 => by
    obtain ⟨cs⟩ := cs
    obtain ⟨ds⟩ := ds
    match cs, ds, h1, h2 with
    | [u0, u1, u2], [v0, v1, v2], h1, h2 =>
      simp only [cK, Ty.int, gF, and_true] at h1 h2
      obtain ⟨rfl, rfl, rfl⟩ := h1
      obtain ⟨rfl, rfl, rfl⟩ := h2
      exact Qf _ _ _ _ _ _ w⟩
theorem RO (a0 a1 a2 a3 a4 b0 b1 b2 b3 b4 : Int) (w : World) : (Op.equal 41 (.agg #[.int .i64 a0, .int .i64 a1, .int .i64 a2, .int .i64 a3, .int .i64 a4]) (.agg #[.int .i64 b0, .int .i64 b1, .int .i64 b2, .int .i64 b3, .int .i64 b4])).run Tryz.prog w = .ok (decide (a0 = b0) && (decide (a1 = b1) && (decide (a2 = b2) && (decide (a3 = b3) && decide (a4 = b4))))) w := by
 have hs : Tryz.prog.stoodInHeld 41 = false := by kernel_rfl
 have e3 : ∀ (x y : Int) (w : World), (Op.equalIn 9999 3 (.int .i64 x) (.int .i64 y)).run Tryz.prog w = .ok (decide (x = y)) w := fun x y w => mR 9998 Tryz.underlying3
 have g3 : ∀ w, (isAgg 3).run Tryz.prog w = .ok false w := fun w => by simp [isAgg, run_underlying Tryz.underlying3]
 unfold Op.equal Op.maxDepth
 rw [Op.equalIn]
 simp only [Sem.run_bind, run_underlying Tryz.underlying41, Result.andThen_ok]
 simp [hs, part, g3, e3, KG, Kb, PM]
 by_cases h0 : a0 = b0
 case neg => simp [h0]
 by_cases h1 : a1 = b1
 case neg => simp [h1]
 by_cases h2 : a2 = b2
 case neg => simp [h2]
 cases hq : (decide (a3 = b3) && decide (a4 = b4)) <;> simp_all
theorem RQ (a0 a1 a2 a3 a4 b0 b1 b2 b3 b4 : Int) : I0 Tryz.prog 41 [Ty.int .i64 a0, Ty.int .i64 a1, Ty.int .i64 a2, Ty.int .i64 a3, Ty.int .i64 a4] [Ty.int .i64 b0, Ty.int .i64 b1, Ty.int .i64 b2, Ty.int .i64 b3, Ty.int .i64 b4] (decide (a0 = b0) && (decide (a1 = b1) && (decide (a2 = b2) && (decide (a3 = b3) && decide (a4 = b4))))) :=
  ⟨by kernel_rfl, fun w M cs ds h1 h2 => by
    obtain ⟨cs⟩ := cs
    obtain ⟨ds⟩ := ds
    match cs, ds, h1, h2 with
    | [u0, u1, u2, u3, u4], [v0, v1, v2, v3, v4], h1, h2 =>
      simp only [cK, Ty.int, gF, and_true] at h1 h2
      obtain ⟨rfl, rfl, rfl, rfl, rfl⟩ := h1
      obtain ⟨rfl, rfl, rfl, rfl, rfl⟩ := h2
      exact RO _ _ _ _ _ _ _ _ _ _ w⟩
theorem PA (a0 a1 a2 a3 b0 b1 b2 b3 : Int) (w : World) : (Op.equal 102 (.agg #[.int .i64 a0, .int .i64 a1, .int .i64 a2, .int .i64 a3]) (.agg #[.int .i64 b0, .int .i64 b1, .int .i64 b2, .int .i64 b3])).run Tryz.prog w = .ok (decide (a0 = b0) && (decide (a1 = b1) && (decide (a2 = b2) && decide (a3 = b3)))) w := by
 have hs : Tryz.prog.stoodInHeld 102 = false := by kernel_rfl
 have e3 : ∀ (x y : Int) (w : World), (Op.equalIn 9999 3 (.int .i64 x) (.int .i64 y)).run Tryz.prog w = .ok (decide (x = y)) w := fun x y w => mR 9998 Tryz.underlying3
 have g3 : ∀ w, (isAgg 3).run Tryz.prog w = .ok false w := fun w => by simp [isAgg, run_underlying Tryz.underlying3]
 unfold Op.equal Op.maxDepth
 rw [Op.equalIn]
 simp only [Sem.run_bind, run_underlying Tryz.underlying102, Result.andThen_ok]
 simp [hs, part, g3, e3, KG, Kb, PM]
 by_cases h0 : a0 = b0
 case neg => simp [h0]
 by_cases h1 : a1 = b1
 case neg => simp [h1]
 cases hq : (decide (a2 = b2) && decide (a3 = b3)) <;> simp_all
theorem Pr (a0 a1 a2 a3 b0 b1 b2 b3 : Int) : I0 Tryz.prog 102 [Ty.int .i64 a0, Ty.int .i64 a1, Ty.int .i64 a2, Ty.int .i64 a3] [Ty.int .i64 b0, Ty.int .i64 b1, Ty.int .i64 b2, Ty.int .i64 b3] (decide (a0 = b0) && (decide (a1 = b1) && (decide (a2 = b2) && decide (a3 = b3)))) :=
  ⟨by kernel_rfl, fun w M cs ds h1 h2 => by
    obtain ⟨cs⟩ := cs
    obtain ⟨ds⟩ := ds
    match cs, ds, h1, h2 with
    | [u0, u1, u2, u3], [v0, v1, v2, v3], h1, h2 =>
      simp only [cK, Ty.int, gF, and_true] at h1 h2
      obtain ⟨rfl, rfl, rfl, rfl⟩ := h1
      obtain ⟨rfl, rfl, rfl, rfl⟩ := h2
      exact PA _ _ _ _ _ _ _ _ w⟩
theorem wk (a b : Span) : (decide (a.lo = b.lo) && decide (a.hi = b.hi)) = decide (a = b) := by
 cases a; cases b; rw [Bool.eq_iff_iff]; simp
theorem MS (a b : tM) : (decide (a.holds = b.holds) && (decide (a.first.lo = b.first.lo) && decide (a.first.hi = b.first.hi))) = decide (a = b) := by
 rw [wk]; cases a; cases b; rw [Bool.eq_iff_iff]; simp
theorem LA (a b : Move) : (decide (a.day = b.day) && (decide (a.src = b.src) && (decide (a.dst = b.dst) && (decide (a.sacks.lo = b.sacks.lo) && decide (a.sacks.hi = b.sacks.hi))))) = decide (a = b) := by
 rw [wk]; cases a; cases b; rw [Bool.eq_iff_iff]; simp
theorem J0 (a b : Level) : (decide (a.day = b.day) && (decide (a.bin = b.bin) && (decide (a.sacks.lo = b.sacks.lo) && decide (a.sacks.hi = b.sacks.hi)))) = decide (a = b) := by
 rw [wk]; cases a; cases b; rw [Bool.eq_iff_iff]; simp
end Go.Proofs.YtelbollidfdcjaaGreat
namespace Go.Proofs.YtelbollidfdcjaaGreat
open Go Go.T
set_option maxHeartbeats 2000000
attribute [local irreducible] gF eX lq nY g7 gx g9 g5 g8 nW gz nT dM fj nM gC oB nth fW dR ay dK bodyPost Exit.then Exit.inBlock Code.wp Code.wpIn n9 hO nO ni gy eU cM cN bodyPostM dO
set_option maxRecDepth 100000 in
theorem DL (a b : List Int) : dK Tryz.prog 116 [Ty.sl c7 a, Ty.sl c7 b] (Ty.bool (decide (a = b))) := by
 refine au Tryz.func116 rfl (by decide) Tryz.ntmps116 (by exact Nat.le_of_ble_eq_true rfl) fun w0 M0 => ?_
 refine gP (s := 0) rfl rfl gO fun ha => ?_
 refine gP (s := 1) rfl rfl gO fun hb => ?_
 refine aE (aB (dF rfl (aD (aC (aE (aE (aB (ew rfl (b9 rfl rfl rfl ?_)))))))))
 refine ew rfl (b9 rfl rfl rfl (bA rfl rfl rfl (aD (aC ?_))))
 refine c9 rfl (fun hc1 => ?_) (fun hc1 => ?_)
 ·
  try (simp only [Classical.not_not] at hc1)
  refine aE (aB (dF rfl (aD (aC (az (aS (bU rfl rfl ?_)))))))
  all_goals skip
  exact av rfl rfl (congrArg Ty.bool (by rw [eq_comm, decide_eq_false_iff_not]; intro e; subst e; exact hc1 rfl))
 try (simp only [Classical.not_not] at hc1)
 refine af (aC (aE (aE (aB (ew rfl (b9 rfl rfl rfl (bG rfl (aD (aC ?_)))))))))
 refine aZ ?_
 refine bz (fun (k : {k : Nat // a.take k = b.take k}) => live [(0, Ty.sl c7 a), (1, Ty.sl c7 b), (12, Ty.int .i64 a.length), (13, Ty.int .i64 (k.1 : Nat))] []) (fun k => a.length - k.1) (⟨0, by simp⟩) ?_ fun k => ?_
 ·(refine cV.mk' ?_ ?_ <;> (repeat' (first | exact aH | exact aI | refine aA ?_ (Ty.aT _) | refine aA ?_ (Ty.aF _))))
 have hlen : a.length = b.length := by omega
 refine aE (aB (bA rfl rfl rfl (aD (aC (aE ?_)))))
 refine ah rfl (fun hc2 => ?_) (fun hc2 => ?_)
 ·
  try (simp only [Classical.not_not] at hc2)
  refine af (aC (aE (aZ (aE (aB (bG rfl (bZ rfl (aD (aC ?_)))))))))
  refine aE (cH mixed rfl (ew rfl (bG rfl ?_)))
  refine aq rfl rfl rfl rfl rfl rfl (by omega) ?_
  refine aL rfl rfl rfl rfl (ew rfl (bG rfl ?_))
  refine aq rfl rfl rfl rfl rfl rfl (by omega) ?_
  refine aL rfl rfl rfl rfl (bA rfl rfl rfl (aD ?_))
  refine ⟨by kernel_rfl, ?_⟩
  refine aC ?_
  refine c9 rfl (fun hc3 => ?_) (fun hc3 => ?_)
  ·
   try (simp only [Classical.not_not] at hc3)
   refine aE (aB (dF rfl (aD (aC (az (bB (aS (aS (bB ?_)))))))))
   refine aS (bU rfl rfl ?_)
   all_goals skip
   exact av rfl rfl (congrArg Ty.bool (by rw [eq_comm, decide_eq_false_iff_not]; exact mL (k := k.1) (hc3)))
  try (simp only [Classical.not_not] at hc3)
  refine af (bI (aC (aB ?_)))
  refine bp rfl rfl (by omega) (by omega) ?_
  refine bG rfl (aD ?_)
  refine bL (⟨k.1 + 1, by rw [cR (by omega), cR (by omega), k.2, hc3]⟩) ?_ (by show a.length - (k.1 + 1) < a.length - k.1; omega)
  (refine cV.mk' ?_ ?_ <;> (repeat' (first | exact aH | exact aI | refine aA ?_ (Ty.aT _) | refine aA ?_ (Ty.aF _))))
  all_goals skip
 try (simp only [Classical.not_not] at hc2)
 refine b8 (aQ (aQ (aa rfl (aC (aE (aB (dF rfl (aD (aC ?_)))))))))
 refine az (bU rfl rfl ?_)
 all_goals skip
 exact av rfl rfl (congrArg Ty.bool (by rw [eq_comm, decide_eq_true_eq]; have := k.2; rwa [List.take_of_length_le (by omega), List.take_of_length_le (by omega)] at this))
set_option maxRecDepth 100000 in
theorem C5 (a b : List Int) : dK Tryz.prog 46 [Ty.sl c7 a, Ty.sl c7 b] (Ty.bool (decide (a = b))) := by
 refine au Tryz.func46 rfl (by decide) Tryz.ntmps46 (by exact Nat.le_of_ble_eq_true rfl) fun w0 M0 => ?_
 refine aE (aB (dF rfl (aD (aC (aE (aB (ew rfl (ew rfl (ak (DL _ _) rfl rfl rfl rfl rfl ?_)))))))))
 refine dF rfl (aD (aC (az (bU rfl rfl ?_))))
 all_goals exact cI rfl rfl
set_option maxRecDepth 100000 in
theorem CO (a b : List Span) : dK Tryz.prog 123 [Ty.sl cA a, Ty.sl cA b] (Ty.bool (decide (a = b))) := by
 refine au Tryz.func123 rfl (by decide) Tryz.ntmps123 (by exact Nat.le_of_ble_eq_true rfl) fun w0 M0 => ?_
 refine gP (s := 0) rfl rfl gO fun ha => ?_
 refine gP (s := 1) rfl rfl gO fun hb => ?_
 refine aE (aB (dF rfl (aD (aC (aE (aE (aB (ew rfl (b9 rfl rfl rfl ?_)))))))))
 refine ew rfl (b9 rfl rfl rfl (bA rfl rfl rfl (aD (aC ?_))))
 refine c9 rfl (fun hc1 => ?_) (fun hc1 => ?_)
 ·
  try (simp only [Classical.not_not] at hc1)
  refine aE (aB (dF rfl (aD (aC (az (aS (bU rfl rfl ?_)))))))
  all_goals skip
  exact av rfl rfl (congrArg Ty.bool (by rw [eq_comm, decide_eq_false_iff_not]; intro e; subst e; exact hc1 rfl))
 try (simp only [Classical.not_not] at hc1)
 refine af (aC (aE (aE (aB (ew rfl (b9 rfl rfl rfl (bG rfl (aD (aC ?_)))))))))
 refine aZ ?_
 refine bz (fun (k : {k : Nat // a.take k = b.take k}) => live [(0, Ty.sl cA a), (1, Ty.sl cA b), (12, Ty.int .i64 a.length), (13, Ty.int .i64 (k.1 : Nat))] []) (fun k => a.length - k.1) (⟨0, by simp⟩) ?_ fun k => ?_
 ·(refine cV.mk' ?_ ?_ <;> (repeat' (first | exact aH | exact aI | refine aA ?_ (Ty.aT _) | refine aA ?_ (Ty.aF _))))
 have hlen : a.length = b.length := by omega
 refine aE (aB (bA rfl rfl rfl (aD (aC (aE ?_)))))
 refine ah rfl (fun hc2 => ?_) (fun hc2 => ?_)
 ·
  try (simp only [Classical.not_not] at hc2)
  refine af (aC (aE (aZ (aE (aB (bG rfl (bZ rfl (aD (aC ?_)))))))))
  refine aE (cH mixed rfl (ew rfl (bG rfl ?_)))
  refine aq rfl rfl rfl rfl rfl rfl (by omega) ?_
  refine aY rfl rfl rfl (by exact Nat.le_of_ble_eq_true rfl) ?_
  refine ew rfl (bG rfl ?_)
  refine aq rfl rfl rfl rfl rfl rfl (by omega) ?_
  refine aY rfl rfl rfl (by exact Nat.le_of_ble_eq_true rfl) ?_
  refine q5 (Oy _ _ _ _) rfl rfl (aD ?_)
  refine ⟨by kernel_rfl, ?_⟩
  refine aC ?_
  refine cF rfl (fun hc3 => ?_) (fun hc3 => ?_)
  ·
   try (simp only [Classical.not_not] at hc3)
   refine aE (aB (dF rfl (aD (aC (az (bB (aS (aS (bB ?_)))))))))
   refine aS (bU rfl rfl ?_)
   all_goals skip
   exact av rfl rfl (congrArg Ty.bool (by rw [eq_comm, decide_eq_false_iff_not]; exact mL (k := k.1) (of_decide_eq_false (by rw [← wk]; exact lp hc3))))
  try (simp only [Classical.not_not] at hc3)
  refine af (bI (aC (aB ?_)))
  refine bp rfl rfl (by omega) (by omega) ?_
  refine bG rfl (aD ?_)
  refine bL (⟨k.1 + 1, by have e : nth a k.1 = nth b k.1 := of_decide_eq_true (by rw [← wk]; exact eo hc3); rw [cR (by omega), cR (by omega), k.2, e]⟩) ?_ (by show a.length - (k.1 + 1) < a.length - k.1; omega)
  (refine cV.mk' ?_ ?_ <;> (repeat' (first | exact aH | exact aI | refine aA ?_ (Ty.aT _) | refine aA ?_ (Ty.aF _))))
  all_goals skip
 try (simp only [Classical.not_not] at hc2)
 refine b8 (aQ (aQ (aa rfl (aC (aE (aB (dF rfl (aD (aC ?_)))))))))
 refine az (bU rfl rfl ?_)
 all_goals skip
 exact av rfl rfl (congrArg Ty.bool (by rw [eq_comm, decide_eq_true_eq]; have := k.2; rwa [List.take_of_length_le (by omega), List.take_of_length_le (by omega)] at this))
set_option maxRecDepth 100000 in
theorem DV (a b : List Span) : dK Tryz.prog 50 [Ty.sl cA a, Ty.sl cA b] (Ty.bool (decide (a = b))) := by
 refine au Tryz.func50 rfl (by decide) Tryz.ntmps50 (by exact Nat.le_of_ble_eq_true rfl) fun w0 M0 => ?_
 refine aE (aB (dF rfl (aD (aC (aE (aB (ew rfl (ew rfl (ak (CO _ _) rfl rfl rfl rfl rfl ?_)))))))))
 refine dF rfl (aD (aC (az (bU rfl rfl ?_))))
 all_goals exact cI rfl rfl
set_option maxRecDepth 100000 in
theorem Iq (l : List tM) (h : l.length ≤ 1000) : dK Tryz.prog 19 [Ty.sl fO l] (Ty.sl fO l) := by
 refine au Tryz.func19 rfl (by decide) Tryz.ntmps19 (by exact Nat.le_of_ble_eq_true rfl) fun w0 M0 => ?_
 refine aE (aB (mK rfl (aD (aC (aE (aB (ew rfl (b9 rfl rfl rfl ?_))))))))
 refine wG (E := fO) rfl rfl rfl rfl rfl rfl rfl (by decide) rfl (by omega) (by (dsimp only; omega)) (by omega) ?_
 refine ew rfl ?_
 refine dh rfl rfl (by decide) rfl rfl rfl rfl rfl rfl (by decide) (by (simp <;> omega)) (by (simp <;> omega)) ?_
 refine yg rfl (aD (aC (az (bU rfl rfl ?_))))
 all_goals exact nB (by decide)
set_option maxRecDepth 100000 in
theorem Bq (a b : List tM) : dK Tryz.prog 167 [Ty.sl fO a, Ty.sl fO b] (Ty.bool (decide (a = b))) := by
 refine au Tryz.func167 rfl (by decide) Tryz.ntmps167 (by exact Nat.le_of_ble_eq_true rfl) fun w0 M0 => ?_
 refine gP (s := 0) rfl rfl gO fun ha => ?_
 refine gP (s := 1) rfl rfl gO fun hb => ?_
 refine aE (aB (dF rfl (aD (aC (aE (aE (aB (ew rfl (b9 rfl rfl rfl ?_)))))))))
 refine ew rfl (b9 rfl rfl rfl (bA rfl rfl rfl (aD (aC ?_))))
 refine c9 rfl (fun hc1 => ?_) (fun hc1 => ?_)
 ·
  try (simp only [Classical.not_not] at hc1)
  refine aE (aB (dF rfl (aD (aC (az (aS (bU rfl rfl ?_)))))))
  all_goals skip
  exact av rfl rfl (congrArg Ty.bool (by rw [eq_comm, decide_eq_false_iff_not]; intro e; subst e; exact hc1 rfl))
 try (simp only [Classical.not_not] at hc1)
 refine af (aC (aE (aE (aB (ew rfl (b9 rfl rfl rfl (bG rfl (aD (aC ?_)))))))))
 refine aZ ?_
 refine bz (fun (k : {k : Nat // a.take k = b.take k}) => live [(0, Ty.sl fO a), (1, Ty.sl fO b), (12, Ty.int .i64 a.length), (13, Ty.int .i64 (k.1 : Nat))] []) (fun k => a.length - k.1) (⟨0, by simp⟩) ?_ fun k => ?_
 ·(refine cV.mk' ?_ ?_ <;> (repeat' (first | exact aH | exact aI | refine aA ?_ (Ty.aT _) | refine aA ?_ (Ty.aF _))))
 have hlen : a.length = b.length := by omega
 refine aE (aB (bA rfl rfl rfl (aD (aC (aE ?_)))))
 refine ah rfl (fun hc2 => ?_) (fun hc2 => ?_)
 ·
  try (simp only [Classical.not_not] at hc2)
  refine af (aC (aE (aZ (aE (aB (bG rfl (bZ rfl (aD (aC ?_)))))))))
  refine aE (cH mixed rfl (ew rfl (bG rfl ?_)))
  refine aq rfl rfl rfl rfl rfl rfl (by omega) ?_
  refine aY rfl rfl rfl (by exact Nat.le_of_ble_eq_true rfl) ?_
  refine ew rfl (bG rfl ?_)
  refine aq rfl rfl rfl rfl rfl rfl (by omega) ?_
  refine aY rfl rfl rfl (by exact Nat.le_of_ble_eq_true rfl) ?_
  refine q5 (Qo _ _ _ _ _ _) rfl rfl (aD ?_)
  refine ⟨by kernel_rfl, ?_⟩
  refine aC ?_
  refine cF rfl (fun hc3 => ?_) (fun hc3 => ?_)
  ·
   try (simp only [Classical.not_not] at hc3)
   refine aE (aB (dF rfl (aD (aC (az (bB (aS (aS (bB ?_)))))))))
   refine aS (bU rfl rfl ?_)
   all_goals skip
   exact av rfl rfl (congrArg Ty.bool (by rw [eq_comm, decide_eq_false_iff_not]; exact mL (k := k.1) (of_decide_eq_false (by rw [← MS]; exact lp hc3))))
  try (simp only [Classical.not_not] at hc3)
  refine af (bI (aC (aB ?_)))
  refine bp rfl rfl (by omega) (by omega) ?_
  refine bG rfl (aD ?_)
  refine bL (⟨k.1 + 1, by have e : nth a k.1 = nth b k.1 := of_decide_eq_true (by rw [← MS]; exact eo hc3); rw [cR (by omega), cR (by omega), k.2, e]⟩) ?_ (by show a.length - (k.1 + 1) < a.length - k.1; omega)
  (refine cV.mk' ?_ ?_ <;> (repeat' (first | exact aH | exact aI | refine aA ?_ (Ty.aT _) | refine aA ?_ (Ty.aF _))))
  all_goals skip
 try (simp only [Classical.not_not] at hc2)
 refine b8 (aQ (aQ (aa rfl (aC (aE (aB (dF rfl (aD (aC ?_)))))))))
 refine az (bU rfl rfl ?_)
 all_goals skip
 exact av rfl rfl (congrArg Ty.bool (by rw [eq_comm, decide_eq_true_eq]; have := k.2; rwa [List.take_of_length_le (by omega), List.take_of_length_le (by omega)] at this))
set_option maxRecDepth 100000 in
theorem Ka (a b : List tM) : dK Tryz.prog 103 [Ty.sl fO a, Ty.sl fO b] (Ty.bool (decide (a = b))) := by
 refine au Tryz.func103 rfl (by decide) Tryz.ntmps103 (by exact Nat.le_of_ble_eq_true rfl) fun w0 M0 => ?_
 refine aE (aB (dF rfl (aD (aC (aE (aB (ew rfl (ew rfl (ak (Bq _ _) rfl rfl rfl rfl rfl ?_)))))))))
 refine dF rfl (aD (aC (az (bU rfl rfl ?_))))
 all_goals exact cI rfl rfl
set_option maxRecDepth 100000 in
theorem IX (l : List Move) (h : l.length ≤ 1000) : dK Tryz.prog 95 [Ty.sl eH l] (Ty.sl eH l) := by
 refine au Tryz.func95 rfl (by decide) Tryz.ntmps95 (by exact Nat.le_of_ble_eq_true rfl) fun w0 M0 => ?_
 refine aE (aB (mK rfl (aD (aC (aE (aB (ew rfl (b9 rfl rfl rfl ?_))))))))
 refine wG (E := eH) rfl rfl rfl rfl rfl rfl rfl (by decide) rfl (by omega) (by (dsimp only; omega)) (by omega) ?_
 refine ew rfl ?_
 refine dh rfl rfl (by decide) rfl rfl rfl rfl rfl rfl (by decide) (by (simp <;> omega)) (by (simp <;> omega)) ?_
 refine yg rfl (aD (aC (az (bU rfl rfl ?_))))
 all_goals exact nB (by decide)
set_option maxRecDepth 100000 in
theorem Bt (a b : List Move) : dK Tryz.prog 168 [Ty.sl eH a, Ty.sl eH b] (Ty.bool (decide (a = b))) := by
 refine au Tryz.func168 rfl (by decide) Tryz.ntmps168 (by exact Nat.le_of_ble_eq_true rfl) fun w0 M0 => ?_
 refine gP (s := 0) rfl rfl gO fun ha => ?_
 refine gP (s := 1) rfl rfl gO fun hb => ?_
 refine aE (aB (dF rfl (aD (aC (aE (aE (aB (ew rfl (b9 rfl rfl rfl ?_)))))))))
 refine ew rfl (b9 rfl rfl rfl (bA rfl rfl rfl (aD (aC ?_))))
 refine c9 rfl (fun hc1 => ?_) (fun hc1 => ?_)
 ·
  try (simp only [Classical.not_not] at hc1)
  refine aE (aB (dF rfl (aD (aC (az (aS (bU rfl rfl ?_)))))))
  all_goals skip
  exact av rfl rfl (congrArg Ty.bool (by rw [eq_comm, decide_eq_false_iff_not]; intro e; subst e; exact hc1 rfl))
 try (simp only [Classical.not_not] at hc1)
 refine af (aC (aE (aE (aB (ew rfl (b9 rfl rfl rfl (bG rfl (aD (aC ?_)))))))))
 refine aZ ?_
 refine bz (fun (k : {k : Nat // a.take k = b.take k}) => live [(0, Ty.sl eH a), (1, Ty.sl eH b), (12, Ty.int .i64 a.length), (13, Ty.int .i64 (k.1 : Nat))] []) (fun k => a.length - k.1) (⟨0, by simp⟩) ?_ fun k => ?_
 ·(refine cV.mk' ?_ ?_ <;> (repeat' (first | exact aH | exact aI | refine aA ?_ (Ty.aT _) | refine aA ?_ (Ty.aF _))))
 have hlen : a.length = b.length := by omega
 refine aE (aB (bA rfl rfl rfl (aD (aC (aE ?_)))))
 refine ah rfl (fun hc2 => ?_) (fun hc2 => ?_)
 ·
  try (simp only [Classical.not_not] at hc2)
  refine af (aC (aE (aZ (aE (aB (bG rfl (bZ rfl (aD (aC ?_)))))))))
  refine aE (cH mixed rfl (ew rfl (bG rfl ?_)))
  refine aq rfl rfl rfl rfl rfl rfl (by omega) ?_
  refine aY rfl rfl rfl (by exact Nat.le_of_ble_eq_true rfl) ?_
  refine ew rfl (bG rfl ?_)
  refine aq rfl rfl rfl rfl rfl rfl (by omega) ?_
  refine aY rfl rfl rfl (by exact Nat.le_of_ble_eq_true rfl) ?_
  refine q5 (RQ _ _ _ _ _ _ _ _ _ _) rfl rfl (aD ?_)
  refine ⟨by kernel_rfl, ?_⟩
  refine aC ?_
  refine cF rfl (fun hc3 => ?_) (fun hc3 => ?_)
  ·
   try (simp only [Classical.not_not] at hc3)
   refine aE (aB (dF rfl (aD (aC (az (bB (aS (aS (bB ?_)))))))))
   refine aS (bU rfl rfl ?_)
   all_goals skip
   exact av rfl rfl (congrArg Ty.bool (by rw [eq_comm, decide_eq_false_iff_not]; exact mL (k := k.1) (of_decide_eq_false (by rw [← LA]; exact lp hc3))))
  try (simp only [Classical.not_not] at hc3)
  refine af (bI (aC (aB ?_)))
  refine bp rfl rfl (by omega) (by omega) ?_
  refine bG rfl (aD ?_)
  refine bL (⟨k.1 + 1, by have e : nth a k.1 = nth b k.1 := of_decide_eq_true (by rw [← LA]; exact eo hc3); rw [cR (by omega), cR (by omega), k.2, e]⟩) ?_ (by show a.length - (k.1 + 1) < a.length - k.1; omega)
  (refine cV.mk' ?_ ?_ <;> (repeat' (first | exact aH | exact aI | refine aA ?_ (Ty.aT _) | refine aA ?_ (Ty.aF _))))
  all_goals skip
 try (simp only [Classical.not_not] at hc2)
 refine b8 (aQ (aQ (aa rfl (aC (aE (aB (dF rfl (aD (aC ?_)))))))))
 refine az (bU rfl rfl ?_)
 all_goals skip
 exact av rfl rfl (congrArg Ty.bool (by rw [eq_comm, decide_eq_true_eq]; have := k.2; rwa [List.take_of_length_le (by omega), List.take_of_length_le (by omega)] at this))
set_option maxRecDepth 100000 in
theorem JQ (a b : List Move) : dK Tryz.prog 104 [Ty.sl eH a, Ty.sl eH b] (Ty.bool (decide (a = b))) := by
 refine au Tryz.func104 rfl (by decide) Tryz.ntmps104 (by exact Nat.le_of_ble_eq_true rfl) fun w0 M0 => ?_
 refine aE (aB (dF rfl (aD (aC (aE (aB (ew rfl (ew rfl (ak (Bt _ _) rfl rfl rfl rfl rfl ?_)))))))))
 refine dF rfl (aD (aC (az (bU rfl rfl ?_))))
 all_goals exact cI rfl rfl
set_option maxRecDepth 100000 in
theorem HO (l : List Level) (h : l.length ≤ 1000) : dK Tryz.prog 96 [Ty.sl dY l] (Ty.sl dY l) := by
 refine au Tryz.func96 rfl (by decide) Tryz.ntmps96 (by exact Nat.le_of_ble_eq_true rfl) fun w0 M0 => ?_
 refine aE (aB (mK rfl (aD (aC (aE (aB (ew rfl (b9 rfl rfl rfl ?_))))))))
 refine wG (E := dY) rfl rfl rfl rfl rfl rfl rfl (by decide) rfl (by omega) (by (dsimp only; omega)) (by omega) ?_
 refine ew rfl ?_
 refine dh rfl rfl (by decide) rfl rfl rfl rfl rfl rfl (by decide) (by (simp <;> omega)) (by (simp <;> omega)) ?_
 refine yg rfl (aD (aC (az (bU rfl rfl ?_))))
 all_goals exact nB (by decide)
set_option maxRecDepth 100000 in
theorem Dc (a b : List Level) : dK Tryz.prog 169 [Ty.sl dY a, Ty.sl dY b] (Ty.bool (decide (a = b))) := by
 refine au Tryz.func169 rfl (by decide) Tryz.ntmps169 (by exact Nat.le_of_ble_eq_true rfl) fun w0 M0 => ?_
 refine gP (s := 0) rfl rfl gO fun ha => ?_
 refine gP (s := 1) rfl rfl gO fun hb => ?_
 refine aE (aB (dF rfl (aD (aC (aE (aE (aB (ew rfl (b9 rfl rfl rfl ?_)))))))))
 refine ew rfl (b9 rfl rfl rfl (bA rfl rfl rfl (aD (aC ?_))))
 refine c9 rfl (fun hc1 => ?_) (fun hc1 => ?_)
 ·
  try (simp only [Classical.not_not] at hc1)
  refine aE (aB (dF rfl (aD (aC (az (aS (bU rfl rfl ?_)))))))
  all_goals skip
  exact av rfl rfl (congrArg Ty.bool (by rw [eq_comm, decide_eq_false_iff_not]; intro e; subst e; exact hc1 rfl))
 try (simp only [Classical.not_not] at hc1)
 refine af (aC (aE (aE (aB (ew rfl (b9 rfl rfl rfl (bG rfl (aD (aC ?_)))))))))
 refine aZ ?_
 refine bz (fun (k : {k : Nat // a.take k = b.take k}) => live [(0, Ty.sl dY a), (1, Ty.sl dY b), (12, Ty.int .i64 a.length), (13, Ty.int .i64 (k.1 : Nat))] []) (fun k => a.length - k.1) (⟨0, by simp⟩) ?_ fun k => ?_
 ·(refine cV.mk' ?_ ?_ <;> (repeat' (first | exact aH | exact aI | refine aA ?_ (Ty.aT _) | refine aA ?_ (Ty.aF _))))
 have hlen : a.length = b.length := by omega
 refine aE (aB (bA rfl rfl rfl (aD (aC (aE ?_)))))
 refine ah rfl (fun hc2 => ?_) (fun hc2 => ?_)
 ·
  try (simp only [Classical.not_not] at hc2)
  refine af (aC (aE (aZ (aE (aB (bG rfl (bZ rfl (aD (aC ?_)))))))))
  refine aE (cH mixed rfl (ew rfl (bG rfl ?_)))
  refine aq rfl rfl rfl rfl rfl rfl (by omega) ?_
  refine aY rfl rfl rfl (by exact Nat.le_of_ble_eq_true rfl) ?_
  refine ew rfl (bG rfl ?_)
  refine aq rfl rfl rfl rfl rfl rfl (by omega) ?_
  refine aY rfl rfl rfl (by exact Nat.le_of_ble_eq_true rfl) ?_
  refine q5 (Pr _ _ _ _ _ _ _ _) rfl rfl (aD ?_)
  refine ⟨by kernel_rfl, ?_⟩
  refine aC ?_
  refine cF rfl (fun hc3 => ?_) (fun hc3 => ?_)
  ·
   try (simp only [Classical.not_not] at hc3)
   refine aE (aB (dF rfl (aD (aC (az (bB (aS (aS (bB ?_)))))))))
   refine aS (bU rfl rfl ?_)
   all_goals skip
   exact av rfl rfl (congrArg Ty.bool (by rw [eq_comm, decide_eq_false_iff_not]; exact mL (k := k.1) (of_decide_eq_false (by rw [← J0]; exact lp hc3))))
  try (simp only [Classical.not_not] at hc3)
  refine af (bI (aC (aB ?_)))
  refine bp rfl rfl (by omega) (by omega) ?_
  refine bG rfl (aD ?_)
  refine bL (⟨k.1 + 1, by have e : nth a k.1 = nth b k.1 := of_decide_eq_true (by rw [← J0]; exact eo hc3); rw [cR (by omega), cR (by omega), k.2, e]⟩) ?_ (by show a.length - (k.1 + 1) < a.length - k.1; omega)
  (refine cV.mk' ?_ ?_ <;> (repeat' (first | exact aH | exact aI | refine aA ?_ (Ty.aT _) | refine aA ?_ (Ty.aF _))))
  all_goals skip
 try (simp only [Classical.not_not] at hc2)
 refine b8 (aQ (aQ (aa rfl (aC (aE (aB (dF rfl (aD (aC ?_)))))))))
 refine az (bU rfl rfl ?_)
 all_goals skip
 exact av rfl rfl (congrArg Ty.bool (by rw [eq_comm, decide_eq_true_eq]; have := k.2; rwa [List.take_of_length_le (by omega), List.take_of_length_le (by omega)] at this))
set_option maxRecDepth 100000 in
theorem K4 (a b : List Level) : dK Tryz.prog 105 [Ty.sl dY a, Ty.sl dY b] (Ty.bool (decide (a = b))) := by
 refine au Tryz.func105 rfl (by decide) Tryz.ntmps105 (by exact Nat.le_of_ble_eq_true rfl) fun w0 M0 => ?_
 refine aE (aB (dF rfl (aD (aC (aE (aB (ew rfl (ew rfl (ak (Dc _ _) rfl rfl rfl rfl rfl ?_)))))))))
 refine dF rfl (aD (aC (az (bU rfl rfl ?_))))
 all_goals exact cI rfl rfl
set_option maxRecDepth 100000 in
theorem Ia (l : List lH) (h : l.length ≤ 1000) : dK Tryz.prog 57 [Ty.sl fq l] (Ty.sl fq l) := by
 refine au Tryz.func57 rfl (by decide) Tryz.ntmps57 (by exact Nat.le_of_ble_eq_true rfl) fun w0 M0 => ?_
 refine aE (aB (mK rfl (aD (aC (aE (aB (ew rfl (b9 rfl rfl rfl ?_))))))))
 refine wG (E := fq) rfl rfl rfl rfl rfl rfl rfl (by decide) rfl (by omega) (by (dsimp only; omega)) (by omega) ?_
 refine ew rfl ?_
 refine dh rfl rfl (by decide) rfl rfl rfl rfl rfl rfl (by decide) (by (simp <;> omega)) (by (simp <;> omega)) ?_
 refine yg rfl (aD (aC (az (bU rfl rfl ?_))))
 all_goals exact nB (by decide)
set_option maxRecDepth 100000 in
theorem CB (a b : List lH) : dK Tryz.prog 138 [Ty.sl fq a, Ty.sl fq b] (Ty.bool (decide (a = b))) := by
 refine au Tryz.func138 rfl (by decide) Tryz.ntmps138 (by exact Nat.le_of_ble_eq_true rfl) fun w0 M0 => ?_
 refine gP (s := 0) rfl rfl gO fun ha => ?_
 refine gP (s := 1) rfl rfl gO fun hb => ?_
 refine aE (aB (dF rfl (aD (aC (aE (aE (aB (ew rfl (b9 rfl rfl rfl ?_)))))))))
 refine ew rfl (b9 rfl rfl rfl (bA rfl rfl rfl (aD (aC ?_))))
 refine c9 rfl (fun hc1 => ?_) (fun hc1 => ?_)
 ·
  try (simp only [Classical.not_not] at hc1)
  refine aE (aB (dF rfl (aD (aC (az (aS (bU rfl rfl ?_)))))))
  all_goals skip
  exact av rfl rfl (congrArg Ty.bool (by rw [eq_comm, decide_eq_false_iff_not]; intro e; subst e; exact hc1 rfl))
 try (simp only [Classical.not_not] at hc1)
 refine af (aC (aE (aE (aB (ew rfl (b9 rfl rfl rfl (bG rfl (aD (aC ?_)))))))))
 refine aZ ?_
 refine bz (fun (k : {k : Nat // a.take k = b.take k}) => live [(0, Ty.sl fq a), (1, Ty.sl fq b), (12, Ty.int .i64 a.length), (13, Ty.int .i64 (k.1 : Nat))] []) (fun k => a.length - k.1) (⟨0, by simp⟩) ?_ fun k => ?_
 ·(refine cV.mk' ?_ ?_ <;> (repeat' (first | exact aH | exact aI | refine aA ?_ (Ty.aT _) | refine aA ?_ (Ty.aF _))))
 have hlen : a.length = b.length := by omega
 refine aE (aB (bA rfl rfl rfl (aD (aC (aE ?_)))))
 refine ah rfl (fun hc2 => ?_) (fun hc2 => ?_)
 ·
  try (simp only [Classical.not_not] at hc2)
  refine af (aC (aE (aZ (aE (aB (bG rfl (bZ rfl (aD (aC ?_)))))))))
  refine aE (cH mixed rfl (ew rfl (bG rfl ?_)))
  refine aq rfl rfl rfl rfl rfl rfl (by omega) ?_
  refine aY rfl rfl rfl (by exact Nat.le_of_ble_eq_true rfl) ?_
  refine ew rfl (bG rfl ?_)
  refine aq rfl rfl rfl rfl rfl rfl (by omega) ?_
  refine aY rfl rfl rfl (by exact Nat.le_of_ble_eq_true rfl) ?_
  refine q5 (JL _ _ _ _) rfl rfl (aD ?_)
  refine ⟨by kernel_rfl, ?_⟩
  refine aC ?_
  refine cF rfl (fun hc3 => ?_) (fun hc3 => ?_)
  ·
   try (simp only [Classical.not_not] at hc3)
   refine aE (aB (dF rfl (aD (aC (az (bB (aS (aS (bB ?_)))))))))
   refine aS (bU rfl rfl ?_)
   all_goals skip
   exact av rfl rfl (congrArg Ty.bool (by rw [eq_comm, decide_eq_false_iff_not]; exact mL (k := k.1) (of_decide_eq_false (by rw [← EW]; exact lp hc3))))
  try (simp only [Classical.not_not] at hc3)
  refine af (bI (aC (aB ?_)))
  refine bp rfl rfl (by omega) (by omega) ?_
  refine bG rfl (aD ?_)
  refine bL (⟨k.1 + 1, by have e : nth a k.1 = nth b k.1 := of_decide_eq_true (by rw [← EW]; exact eo hc3); rw [cR (by omega), cR (by omega), k.2, e]⟩) ?_ (by show a.length - (k.1 + 1) < a.length - k.1; omega)
  (refine cV.mk' ?_ ?_ <;> (repeat' (first | exact aH | exact aI | refine aA ?_ (Ty.aT _) | refine aA ?_ (Ty.aF _))))
  all_goals skip
 try (simp only [Classical.not_not] at hc2)
 refine b8 (aQ (aQ (aa rfl (aC (aE (aB (dF rfl (aD (aC ?_)))))))))
 refine az (bU rfl rfl ?_)
 all_goals skip
 exact av rfl rfl (congrArg Ty.bool (by rw [eq_comm, decide_eq_true_eq]; have := k.2; rwa [List.take_of_length_le (by omega), List.take_of_length_le (by omega)] at this))
set_option maxRecDepth 100000 in
theorem L0 (a b : List lH) : dK Tryz.prog 62 [Ty.sl fq a, Ty.sl fq b] (Ty.bool (decide (a = b))) := by
 refine au Tryz.func62 rfl (by decide) Tryz.ntmps62 (by exact Nat.le_of_ble_eq_true rfl) fun w0 M0 => ?_
 refine aE (aB (dF rfl (aD (aC (aE (aB (ew rfl (ew rfl (ak (CB _ _) rfl rfl rfl rfl rfl ?_)))))))))
 refine dF rfl (aD (aC (az (bU rfl rfl ?_))))
 all_goals exact cI rfl rfl
end Go.Proofs.YtelbollidfdcjaaGreat
namespace Go.Proofs.YtelbollidfdcjaaGreat
open Go Go.T
set_option maxHeartbeats 4000000
def Lq (a b : aj) : Bool := ((decide (a.days = b.days) && decide (a.bins = b.bins)) && decide (a.moves = b.moves)) && decide (a.levels = b.levels)
theorem Eh (y : aj) : Lq y y = true := by unfold Lq; simp
def qP (y : aj) : Bool := (decide ((y.bins.length : Int) > 8) || decide ((y.moves.length : Int) > 14)) || decide ((y.levels.length : Int) > 12)
theorem uk {y : aj} (h : qP y = false) : y.Small := by
 unfold qP at h
 simp only [Bool.or_eq_false_iff, decide_eq_false_iff_not] at h
 exact ⟨by omega, by omega, by omega⟩
theorem jC {A : As} {α : Type} {E : El α} {T tg : Nat} {xs ys : List α} (h : xs = ys) : vJ A tg (Ty.row E T tg xs) (Ty.sl E ys) := by subst h; exact Im
theorem jr {k : Nat} (hk : k ≤ 2) : (two k).Small := ⟨by show 2 ≤ 1000; omega, by show 3 ≤ 1000; omega, by show (List.take k _).length ≤ 1000; rw [List.length_take]; show min k 2 ≤ 1000; omega⟩
attribute [local irreducible] jR kF sY cX nE lQ nh lB kQ iz gp kH fD kU tC bO
attribute [local irreducible] gF eX lq nY g7 gx g9 g5 g8 nW gz nT dM fj nM gC oB nth fW dR ay dK bodyPost Exit.then Exit.inBlock Code.wp Code.wpIn n9 hO nO ni gy eU cM cN bodyPostM dO
set_option maxRecDepth 100000 in
theorem k7 (a b : Int) : dK Tryz.prog 56 [Ty.int .i64 a, Ty.int .i64 b] (Ty.agg (cA.tys ⟨a, b⟩)) := by
 refine au Tryz.func56 rfl (by decide) Tryz.ntmps56 (by exact Nat.le_of_ble_eq_true rfl) fun w0 M0 => ?_
 refine aE (aB ?_)
 refine bf rfl (by exact List.cons_ne_nil _ _) rfl ?_
 refine aD (aC (aE (aB (bG rfl (bG rfl ?_)))))
 refine cq rfl rfl (by exact List.cons_ne_nil _ _) rfl (by repeat (first | exact (aV.nil : aV _ _ [] _) | (show aV _ _ ((_, _) :: _) _; apply aV.one; (· exact (rfl : _ = Ty.int _ _)); (· exact rfl)))) (by exact (rfl : _ = some [_, _])) ?_
 refine bS rfl rfl (by decide) rfl rfl rfl rfl rfl rfl ?_
 refine aD (aC (az ?_))
 refine mC rfl rfl rfl rfl (by decide) rfl rfl rfl ?_
 all_goals exact av rfl rfl rfl
set_option maxRecDepth 100000 in
theorem vP (k : Nat) (hk : k ≤ 2) : dK Tryz.prog 93 [Ty.int .i64 ((k : Nat) : Int)] (eA (two k)) := by
 refine au Tryz.func93 rfl (by decide) Tryz.ntmps93 (by exact Nat.le_of_ble_eq_true rfl) fun w0 M0 => ?_
 refine aE (aB ?_)
 refine bf rfl (by exact List.cons_ne_nil _ _) rfl ?_
 refine aD (aC (aE (aB (ak (k7 _ _) rfl rfl rfl rfl rfl ?_))))
 refine cq rfl rfl (by exact List.cons_ne_nil _ _) rfl (by repeat (first | exact (aV.nil : aV _ _ [] _) | (show aV _ _ ((_, _) :: _) _; apply aV.one; (· exact (rfl : _ = Ty.int _ _)); (· exact rfl)) | (show aV _ _ ((_, _) :: _) _; apply aV.agg; (· exact (rfl : _ = Ty.agg _))))) (by exact (rfl : _ = some [_, _, _, _])) ?_
 refine ak (k7 _ _) rfl rfl rfl rfl rfl ?_
 refine cq rfl rfl (by exact List.cons_ne_nil _ _) rfl (by repeat (first | exact (aV.nil : aV _ _ [] _) | (show aV _ _ ((_, _) :: _) _; apply aV.one; (· exact (rfl : _ = Ty.int _ _)); (· exact rfl)) | (show aV _ _ ((_, _) :: _) _; apply aV.agg; (· exact (rfl : _ = Ty.agg _))))) (by exact (rfl : _ = some [_, _, _, _])) ?_
 refine bX (E := dY) (xs := [⟨2, 1, ⟨20, 25⟩⟩, ⟨2, 0, ⟨10, 24⟩⟩]) rfl rfl rfl rfl rfl (by decide) (by decide) (by repeat (first | exact (aV.nil : aV _ _ [] _) | (show aV _ _ ((_, _) :: _) _; apply aV.agg; (· exact (rfl : _ = Ty.agg _))))) (by exact rfl) rfl ?_
 refine F8 rfl (aD (aC (aE (cH mixed rfl (ak (k7 _ _) rfl rfl rfl rfl rfl ?_)))))
 refine cq rfl rfl (by exact List.cons_ne_nil _ _) rfl (by repeat (first | exact (aV.nil : aV _ _ [] _) | (show aV _ _ ((_, _) :: _) _; apply aV.one; (· exact (rfl : _ = Ty.int _ _)); (· exact rfl)) | (show aV _ _ ((_, _) :: _) _; apply aV.agg; (· exact (rfl : _ = Ty.agg _))))) (by exact (rfl : _ = some [_, _, _])) ?_
 refine cq rfl rfl (by exact List.cons_ne_nil _ _) rfl (by repeat (first | exact (aV.nil : aV _ _ [] _) | (show aV _ _ ((_, _) :: _) _; apply aV.one; (· exact (rfl : _ = Ty.int _ _)); (· exact rfl)))) (by exact (rfl : _ = some [_, _, _])) ?_
 refine bX (E := fO) (xs := [⟨100, ⟨20, 30⟩⟩, ⟨50, ⟨0, 0⟩⟩]) rfl rfl rfl rfl rfl (by decide) (by decide) (by repeat (first | exact (aV.nil : aV _ _ [] _) | (show aV _ _ ((_, _) :: _) _; apply aV.agg; (· exact (rfl : _ = Ty.agg _))))) (by exact rfl) rfl ?_
 refine ak (k7 _ _) rfl rfl rfl rfl rfl ?_
 refine cq rfl rfl (by exact List.cons_ne_nil _ _) rfl (by repeat (first | exact (aV.nil : aV _ _ [] _) | (show aV _ _ ((_, _) :: _) _; apply aV.one; (· exact (rfl : _ = Ty.int _ _)); (· exact rfl)) | (show aV _ _ ((_, _) :: _) _; apply aV.agg; (· exact (rfl : _ = Ty.agg _))))) (by exact rfl) ?_
 refine ak (k7 _ _) rfl rfl rfl rfl rfl ?_
 refine cq rfl rfl (by exact List.cons_ne_nil _ _) rfl (by repeat (first | exact (aV.nil : aV _ _ [] _) | (show aV _ _ ((_, _) :: _) _; apply aV.one; (· exact (rfl : _ = Ty.int _ _)); (· exact rfl)) | (show aV _ _ ((_, _) :: _) _; apply aV.agg; (· exact (rfl : _ = Ty.agg _))))) (by exact rfl) ?_
 refine ak (k7 _ _) rfl rfl rfl rfl rfl ?_
 refine cq rfl rfl (by exact List.cons_ne_nil _ _) rfl (by repeat (first | exact (aV.nil : aV _ _ [] _) | (show aV _ _ ((_, _) :: _) _; apply aV.one; (· exact (rfl : _ = Ty.int _ _)); (· exact rfl)) | (show aV _ _ ((_, _) :: _) _; apply aV.agg; (· exact (rfl : _ = Ty.agg _))))) (by exact rfl) ?_
 refine bX (E := eH) (xs := [⟨0, -1, 0, ⟨40, 60⟩⟩, ⟨1, 0, 1, ⟨10, 40⟩⟩, ⟨1, 1, -1, ⟨5, 10⟩⟩]) rfl rfl rfl rfl rfl (by decide) (by decide) (by repeat (first | exact (aV.nil : aV _ _ [] _) | (show aV _ _ ((_, _) :: _) _; apply aV.agg; (· exact (rfl : _ = Ty.agg _))))) (by exact rfl) rfl ?_
 refine ew rfl (bG rfl (ew rfl (b9 rfl rfl rfl (Cc rfl rfl (vA rfl rfl ?_)))))
 refine Lg (hi := k) rfl (show _ = Ty.int .i64 ((k : Nat) : Int) from congrArg (Ty.int .i64) (by show max 0 (min (k : Int) 2) = (k : Int); omega)) rfl rfl rfl rfl (by show k ≤ 2; exact hk) ?_
 refine cq rfl rfl (by exact List.cons_ne_nil _ _) rfl (by repeat (first | exact (aV.nil : aV _ _ [] _) | (show aV _ _ ((_, _) :: _) _; apply aV.one; (· first | exact (rfl : _ = Ty.int _ _) | exact (rfl : _ = Ty.sl _ _)); (· exact rfl)))) (by exact (rfl : _ = some [_, _, _, _])) ?_
 refine bS rfl rfl (by decide) rfl rfl rfl rfl rfl rfl ?_
 refine aD ?_
 refine ⟨by kernel_rfl, ?_⟩
 refine aC (az ?_)
 refine mC rfl rfl rfl rfl (by decide) rfl rfl rfl ?_
 all_goals exact av rfl rfl rfl
set_option maxRecDepth 100000 in
theorem Qx (y : aj) (hs : y.Small) : dK Tryz.prog 29 [eA y] (eA y) := by
 refine au Tryz.func29 rfl (by decide) Tryz.ntmps29 (by exact Nat.le_of_ble_eq_true rfl) fun w0 M0 => ?_
 have hs1 := hs.bins
 have hs2 := hs.moves
 have hs3 := hs.levels
 refine aE (aB (bH rfl ?_))
 refine bf rfl (by exact List.cons_ne_nil _ _) rfl ?_
 refine aD (aC (aE (cH mixed rfl ?_)))
 refine aJ rfl rfl rfl rfl rfl (by decide) ?_
 refine aL rfl rfl rfl rfl ?_
 refine aJ rfl rfl rfl rfl rfl (by decide) ?_
 refine aL rfl rfl rfl rfl (ak (Iq y.bins hs1) rfl rfl rfl rfl rfl ?_)
 refine aJ rfl rfl rfl rfl rfl (by decide) ?_
 refine aL rfl rfl rfl rfl (ak (IX y.moves hs2) rfl rfl rfl rfl rfl ?_)
 refine aJ rfl rfl rfl rfl rfl (by decide) ?_
 refine aL rfl rfl rfl rfl (ak (HO y.levels hs3) rfl rfl rfl rfl rfl ?_)
 refine cq rfl rfl (by exact List.cons_ne_nil _ _) rfl (by repeat (first | exact (aV.nil : aV _ _ [] _) | (show aV _ _ ((_, _) :: _) _; apply aV.one; (· first | exact (rfl : _ = Ty.int _ _) | exact (rfl : _ = Ty.sl _ _)); (· exact rfl)))) (by exact (rfl : _ = some [_, _, _, _])) ?_
 refine bS rfl rfl (by decide) rfl rfl rfl rfl rfl rfl ?_
 refine aD ?_
 refine ⟨by kernel_rfl, ?_⟩
 refine aC (az ?_)
 refine mC rfl rfl rfl rfl (by decide) rfl rfl rfl ?_
 all_goals exact av rfl rfl rfl
set_option maxRecDepth 100000 in
theorem PL (a b : aj) : dK Tryz.prog 35 [eA a, eA b] (Ty.bool (Lq a b)) := by
 refine au Tryz.func35 rfl (by decide) Tryz.ntmps35 (by exact Nat.le_of_ble_eq_true rfl) fun w0 M0 => ?_
 refine aE (aB (bH rfl (bH rfl (dF rfl (aD (aC (aE (aB ?_))))))))
 refine aJ rfl rfl rfl rfl rfl (by decide) ?_
 refine aL rfl rfl rfl rfl ?_
 refine aJ rfl rfl rfl rfl rfl (by decide) ?_
 refine aL rfl rfl rfl rfl (bA rfl rfl rfl (eF rfl ?_))
 apply aM (s := 10) rfl rfl rfl
 ·intro hg; apply aP; (refine aJ rfl rfl rfl rfl rfl (by decide) ?_); refine aD ?_; exact rfl
 ·exact rfl
 ·exact rfl
 apply aM (s := 10) rfl rfl rfl
 ·intro hg; apply aK (s := 11) rfl (by (rw [hg]; rfl)); apply aP; (refine aL rfl rfl rfl rfl ?_); refine aD ?_; exact rfl
 ·exact rfl
 ·exact rfl
 apply aM (s := 10) rfl rfl rfl
 ·intro hg; apply aP; (refine aJ rfl rfl rfl rfl rfl (by decide) ?_); refine aD ?_; exact rfl
 ·exact rfl
 ·exact rfl
 apply aM (s := 10) rfl rfl rfl
 ·intro hg; apply aK (s := 13) rfl (by (rw [hg]; rfl)); apply aP; (refine aL rfl rfl rfl rfl ?_); refine aD ?_; exact rfl
 ·exact rfl
 ·exact rfl
 apply aM (s := 10) rfl rfl rfl
 ·intro hg; apply aK (s := 12) rfl (by (rw [hg]; rfl)); apply aK (s := 14) rfl (by (rw [hg]; rfl)); apply aP; (refine ak (Ka _ _) rfl rfl rfl rfl rfl ?_); refine aD ?_; exact rfl
 ·exact rfl
 ·exact rfl
 refine dm rfl rfl (eF rfl ?_)
 apply aM (s := 17) rfl rfl rfl
 ·intro hg; apply aP; (refine aJ rfl rfl rfl rfl rfl (by decide) ?_); refine aD ?_; exact rfl
 ·exact rfl
 ·exact rfl
 apply aM (s := 17) rfl rfl rfl
 ·intro hg; apply aK (s := 18) rfl (by (rw [hg]; rfl)); apply aP; (refine aL rfl rfl rfl rfl ?_); refine aD ?_; exact rfl
 ·exact rfl
 ·exact rfl
 apply aM (s := 17) rfl rfl rfl
 ·intro hg; apply aP; (refine aJ rfl rfl rfl rfl rfl (by decide) ?_); refine aD ?_; exact rfl
 ·exact rfl
 ·exact rfl
 apply aM (s := 17) rfl rfl rfl
 ·intro hg; apply aK (s := 20) rfl (by (rw [hg]; rfl)); apply aP; (refine aL rfl rfl rfl rfl ?_); refine aD ?_; exact rfl
 ·exact rfl
 ·exact rfl
 apply aM (s := 17) rfl rfl rfl
 ·intro hg; apply aK (s := 19) rfl (by (rw [hg]; rfl)); apply aK (s := 21) rfl (by (rw [hg]; rfl)); apply aP; (refine ak (JQ _ _) rfl rfl rfl rfl rfl ?_); refine aD ?_; exact rfl
 ·exact rfl
 ·exact rfl
 refine dm rfl rfl (eF rfl ?_)
 apply aM (s := 24) rfl rfl rfl
 ·intro hg; apply aP; (refine aJ rfl rfl rfl rfl rfl (by decide) ?_); refine aD ?_; exact rfl
 ·exact rfl
 ·exact rfl
 apply aM (s := 24) rfl rfl rfl
 ·intro hg; apply aK (s := 25) rfl (by (rw [hg]; rfl)); apply aP; (refine aL rfl rfl rfl rfl ?_); refine aD ?_; exact rfl
 ·exact rfl
 ·exact rfl
 apply aM (s := 24) rfl rfl rfl
 ·intro hg; apply aP; (refine aJ rfl rfl rfl rfl rfl (by decide) ?_); refine aD ?_; exact rfl
 ·exact rfl
 ·exact rfl
 apply aM (s := 24) rfl rfl rfl
 ·intro hg; apply aK (s := 27) rfl (by (rw [hg]; rfl)); apply aP; (refine aL rfl rfl rfl rfl ?_); refine aD ?_; exact rfl
 ·exact rfl
 ·exact rfl
 apply aM (s := 24) rfl rfl rfl
 ·intro hg; apply aK (s := 26) rfl (by (rw [hg]; rfl)); apply aK (s := 28) rfl (by (rw [hg]; rfl)); apply aP; (refine ak (K4 _ _) rfl rfl rfl rfl rfl ?_); refine aD ?_; exact rfl
 ·exact rfl
 ·exact rfl
 refine dm rfl rfl (dF rfl (aD (aC (az (bU rfl rfl ?_)))))
 all_goals exact cI rfl rfl
 all_goals trace_state
set_option maxRecDepth 100000 in
theorem JG (y : aj) (hs : y.Small) : dK Tryz.prog 30 [eA y] (eA y) := by
 refine au Tryz.func30 rfl (by decide) Tryz.ntmps30 (by exact Nat.le_of_ble_eq_true rfl) fun w0 M0 => ?_
 have hs1 := hs.bins
 have hs2 := hs.moves
 have hs3 := hs.levels
 refine aE (aB (bH rfl ?_))
 refine bf rfl (by exact List.cons_ne_nil _ _) rfl ?_
 refine aD (aC (aE (aB ?_)))
 refine aJ rfl rfl rfl rfl rfl (by decide) ?_
 refine aL rfl rfl rfl rfl ?_
 refine cq rfl rfl (by exact List.cons_ne_nil _ _) rfl (by repeat (first | exact (aV.nil : aV _ _ [] _) | (show aV _ _ ((_, _) :: _) _; apply aV.one; (· exact (rfl : _ = Ty.int _ _)); (· exact rfl)))) (by exact (rfl : _ = some [_, _, _, _])) ?_
 refine bf rfl (by exact List.cons_ne_nil _ _) rfl ?_
 refine bS rfl rfl (by decide) rfl rfl rfl rfl rfl rfl ?_
 refine aD (aC (aE (aE (aB ?_))))
 refine aJ rfl rfl rfl rfl rfl (by decide) ?_
 refine aL rfl rfl rfl rfl (b9 rfl rfl rfl (bG rfl (aD (aC (aZ ?_)))))
 refine bz (fun (k : {k : Nat // k ≤ y.bins.length}) => live [(1, Ty.pp (bC y)), (2, Ty.ptr 3 0), (3, Ty.ptr 4 0), (14, Ty.sl fO y.bins), (15, Ty.int .i64 y.bins.length), (16, Ty.int .i64 (k.1 : Nat))] [(3, Cont.cells 60 [Ty.int .i64 0, Ty.ex (.slice none 0 0), Ty.ex (.slice none 0 0), Ty.ex (.slice none 0 0)]), (4, Cont.cells 60 [Ty.int .i64 y.days, Ty.row fO 163 24 (y.bins.take k.1), Ty.ex (.slice none 0 0), Ty.ex (.slice none 0 0)])]) (fun k => y.bins.length - k.1) (⟨0, by omega⟩) ?_ fun k => ?_
 ·(refine cV.mk' ?_ ?_ <;> (repeat' (first | exact aH | exact aI | exact cr | refine aA ?_ (Ty.aT _) | refine aA ?_ (Ty.aF _) | refine aG rfl (Cont.aF _) ?_ | refine aG rfl (Cont.ct ?_) ?_ | refine bJ ?_ (Ty.aF _) | refine bJ ?_ Ty.gU)))
  all_goals trace_state
 have hk := k.2
 refine aE (aB (bA rfl rfl rfl (aD (aC (aE ?_)))))
 refine ah rfl (fun hc1 => ?_) (fun hc1 => ?_)
 ·
  refine af (aC (aE (aZ (aE (aB ?_)))))
  refine aq rfl rfl rfl rfl rfl rfl (by omega) ?_
  refine aY rfl rfl rfl (by exact Nat.le_of_ble_eq_true rfl) ?_
  refine bf rfl (by exact List.cons_ne_nil _ _) rfl ?_
  refine bS rfl rfl (by decide) rfl rfl rfl rfl rfl rfl ?_
  refine aD (aC (aB ?_))
  refine aR rfl rfl rfl rfl rfl (by decide) ?_
  refine aX rfl rfl (by decide) rfl rfl rfl ?_
  refine bu rfl rfl (by decide) rfl rfl (by exact Nat.le_of_ble_eq_true rfl) ?_
  refine bX (E := fO) (xs := [nth y.bins k.1]) rfl rfl rfl rfl rfl (by decide) (by decide) (by repeat (first | exact (aV.nil : aV _ _ [] _) | (show aV _ _ ((_, _) :: _) _; apply aV.agg; (· exact (rfl : _ = Ty.agg _))))) (by exact rfl) rfl ?_
  refine dh rfl rfl (by decide) rfl rfl rfl rfl rfl rfl (by decide) (by (simp <;> omega)) (by (simp <;> omega)) ?_
  refine aR rfl rfl rfl rfl rfl (by decide) ?_
  refine cv rfl rfl (by decide) rfl rfl (by exact (rfl : _ = Ty.row _ _ _ _)) rfl (by exact Nat.le_of_ble_eq_true rfl) rfl rfl (by exact rfl) ?_
  refine aD (bI (aC (aB ?_)))
  refine bp rfl rfl (by omega) (by omega) ?_
  refine bG rfl (aD ?_)
  refine bL (⟨k.1 + 1, by omega⟩) ?_ (by show y.bins.length - (k.1 + 1) < y.bins.length - k.1; omega)
  (refine cV.mk' ?_ ?_ <;> (repeat' (first | exact aH | exact aI | exact cr | refine aA ?_ (Ty.aT _) | refine aA ?_ (Ty.aF _) | refine aG rfl (Cont.aF _) ?_ | refine aG rfl (Cont.ct ?_) ?_ | refine bJ ?_ (Ty.aF _) | refine bJ ?_ ?_)))
  all_goals exact Ty.eG (cR (by omega)).symm
  all_goals trace_state
 refine b8 (aQ (aQ (aa rfl (aC (aE (aE ?_))))))
 refine jY (tg := 24) [] [(4, Cont.cells 60 [Ty.int .i64 y.days, Ty.sl fO y.bins, Ty.ex (.slice none 0 0), Ty.ex (.slice none 0 0)])] (by decide) rfl trivial ⟨fV rfl rfl ⟨bK rfl, jC (List.take_of_length_le (by have := k.2; omega)), bK rfl, bK rfl, trivial⟩, trivial⟩ ?_
 refine aB ?_
 refine aJ rfl rfl rfl rfl rfl (by decide) ?_
 refine aL rfl rfl rfl rfl (b9 rfl rfl rfl (bG rfl (aD (aC (aZ ?_)))))
 refine bz (fun (m : {k : Nat // k ≤ y.moves.length}) => live [(1, Ty.pp (bC y)), (2, Ty.ptr 3 0), (3, Ty.ptr 4 0), (28, Ty.sl eH y.moves), (29, Ty.int .i64 y.moves.length), (30, Ty.int .i64 (m.1 : Nat))] [(3, Cont.cells 60 [Ty.int .i64 0, Ty.ex (.slice none 0 0), Ty.ex (.slice none 0 0), Ty.ex (.slice none 0 0)]), (4, Cont.cells 60 [Ty.int .i64 y.days, Ty.sl fO y.bins, Ty.row eH 164 38 (y.moves.take m.1), Ty.ex (.slice none 0 0)])]) (fun m => y.moves.length - m.1) (⟨0, by omega⟩) ?_ fun m => ?_
 ·(refine cV.mk' ?_ ?_ <;> (repeat' (first | exact aH | exact aI | exact cr | refine aA ?_ (Ty.aT _) | refine aA ?_ (Ty.aF _) | refine aG rfl (Cont.aF _) ?_ | refine aG rfl (Cont.ct ?_) ?_ | refine bJ ?_ (Ty.aF _) | refine bJ ?_ Ty.gU)))
  all_goals trace_state
 have hm := m.2
 refine aE (aB (bA rfl rfl rfl (aD (aC (aE ?_)))))
 refine ah rfl (fun hc2 => ?_) (fun hc2 => ?_)
 ·
  refine af (aC (aE (aZ (aE (aB ?_)))))
  refine aq rfl rfl rfl rfl rfl rfl (by omega) ?_
  refine aY rfl rfl rfl (by exact Nat.le_of_ble_eq_true rfl) ?_
  refine bf rfl (by exact List.cons_ne_nil _ _) rfl ?_
  refine bS rfl rfl (by decide) rfl rfl rfl rfl rfl rfl ?_
  refine aD (aC (aB ?_))
  refine aR rfl rfl rfl rfl rfl (by decide) ?_
  refine aX rfl rfl (by decide) rfl rfl rfl ?_
  refine bu rfl rfl (by decide) rfl rfl (by exact Nat.le_of_ble_eq_true rfl) ?_
  refine bX (E := eH) (xs := [nth y.moves m.1]) rfl rfl rfl rfl rfl (by decide) (by decide) (by repeat (first | exact (aV.nil : aV _ _ [] _) | (show aV _ _ ((_, _) :: _) _; apply aV.agg; (· exact (rfl : _ = Ty.agg _))))) (by exact rfl) rfl ?_
  refine dh rfl rfl (by decide) rfl rfl rfl rfl rfl rfl (by decide) (by (simp <;> omega)) (by (simp <;> omega)) ?_
  refine aR rfl rfl rfl rfl rfl (by decide) ?_
  refine cv rfl rfl (by decide) rfl rfl (by exact (rfl : _ = Ty.row _ _ _ _)) rfl (by exact Nat.le_of_ble_eq_true rfl) rfl rfl (by exact rfl) ?_
  refine aD (bI (aC (aB ?_)))
  refine bp rfl rfl (by omega) (by omega) ?_
  refine bG rfl (aD ?_)
  refine bL (⟨m.1 + 1, by omega⟩) ?_ (by show y.moves.length - (m.1 + 1) < y.moves.length - m.1; omega)
  (refine cV.mk' ?_ ?_ <;> (repeat' (first | exact aH | exact aI | exact cr | refine aA ?_ (Ty.aT _) | refine aA ?_ (Ty.aF _) | refine aG rfl (Cont.aF _) ?_ | refine aG rfl (Cont.ct ?_) ?_ | refine bJ ?_ (Ty.aF _) | refine bJ ?_ ?_)))
  all_goals exact Ty.eG (cR (by omega)).symm
  all_goals trace_state
 refine b8 (aQ (aQ (aa rfl (aC (aE (aE ?_))))))
 refine jY (tg := 38) [] [(4, Cont.cells 60 [Ty.int .i64 y.days, Ty.sl fO y.bins, Ty.sl eH y.moves, Ty.ex (.slice none 0 0)])] (by decide) rfl trivial ⟨fV rfl rfl ⟨bK rfl, bK rfl, jC (List.take_of_length_le (by have := m.2; omega)), bK rfl, trivial⟩, trivial⟩ ?_
 refine aB ?_
 refine aJ rfl rfl rfl rfl rfl (by decide) ?_
 refine aL rfl rfl rfl rfl (b9 rfl rfl rfl (bG rfl (aD (aC (aZ ?_)))))
 refine bz (fun (n : {k : Nat // k ≤ y.levels.length}) => live [(1, Ty.pp (bC y)), (2, Ty.ptr 3 0), (3, Ty.ptr 4 0), (42, Ty.sl dY y.levels), (43, Ty.int .i64 y.levels.length), (44, Ty.int .i64 (n.1 : Nat))] [(3, Cont.cells 60 [Ty.int .i64 0, Ty.ex (.slice none 0 0), Ty.ex (.slice none 0 0), Ty.ex (.slice none 0 0)]), (4, Cont.cells 60 [Ty.int .i64 y.days, Ty.sl fO y.bins, Ty.sl eH y.moves, Ty.row dY 165 52 (y.levels.take n.1)])]) (fun n => y.levels.length - n.1) (⟨0, by omega⟩) ?_ fun n => ?_
 ·(refine cV.mk' ?_ ?_ <;> (repeat' (first | exact aH | exact aI | exact cr | refine aA ?_ (Ty.aT _) | refine aA ?_ (Ty.aF _) | refine aG rfl (Cont.aF _) ?_ | refine aG rfl (Cont.ct ?_) ?_ | refine bJ ?_ (Ty.aF _) | refine bJ ?_ Ty.gU)))
  all_goals trace_state
 have hn := n.2
 refine aE (aB (bA rfl rfl rfl (aD (aC (aE ?_)))))
 refine ah rfl (fun hc3 => ?_) (fun hc3 => ?_)
 ·
  refine af (aC (aE (aZ (aE (aB ?_)))))
  refine aq rfl rfl rfl rfl rfl rfl (by omega) ?_
  refine aY rfl rfl rfl (by exact Nat.le_of_ble_eq_true rfl) ?_
  refine bf rfl (by exact List.cons_ne_nil _ _) rfl ?_
  refine bS rfl rfl (by decide) rfl rfl rfl rfl rfl rfl ?_
  refine aD (aC (aB ?_))
  refine aR rfl rfl rfl rfl rfl (by decide) ?_
  refine aX rfl rfl (by decide) rfl rfl rfl ?_
  refine bu rfl rfl (by decide) rfl rfl (by exact Nat.le_of_ble_eq_true rfl) ?_
  refine bX (E := dY) (xs := [nth y.levels n.1]) rfl rfl rfl rfl rfl (by decide) (by decide) (by repeat (first | exact (aV.nil : aV _ _ [] _) | (show aV _ _ ((_, _) :: _) _; apply aV.agg; (· exact (rfl : _ = Ty.agg _))))) (by exact rfl) rfl ?_
  refine dh rfl rfl (by decide) rfl rfl rfl rfl rfl rfl (by decide) (by (simp <;> omega)) (by (simp <;> omega)) ?_
  refine aR rfl rfl rfl rfl rfl (by decide) ?_
  refine cv rfl rfl (by decide) rfl rfl (by exact (rfl : _ = Ty.row _ _ _ _)) rfl (by exact Nat.le_of_ble_eq_true rfl) rfl rfl (by exact rfl) ?_
  refine aD (bI (aC (aB ?_)))
  refine bp rfl rfl (by omega) (by omega) ?_
  refine bG rfl (aD ?_)
  refine bL (⟨n.1 + 1, by omega⟩) ?_ (by show y.levels.length - (n.1 + 1) < y.levels.length - n.1; omega)
  (refine cV.mk' ?_ ?_ <;> (repeat' (first | exact aH | exact aI | exact cr | refine aA ?_ (Ty.aT _) | refine aA ?_ (Ty.aF _) | refine aG rfl (Cont.aF _) ?_ | refine aG rfl (Cont.ct ?_) ?_ | refine bJ ?_ (Ty.aF _) | refine bJ ?_ ?_)))
  all_goals exact Ty.eG (cR (by omega)).symm
  all_goals trace_state
 refine b8 (aQ (aQ (aa rfl (aC (aE ?_)))))
 refine jY (tg := 52) [] [(4, Cont.cells 60 [Ty.int .i64 y.days, Ty.sl fO y.bins, Ty.sl eH y.moves, Ty.sl dY y.levels])] (by decide) rfl trivial ⟨fV rfl rfl ⟨bK rfl, bK rfl, bK rfl, jC (List.take_of_length_le (by have := n.2; omega)), trivial⟩, trivial⟩ ?_
 refine aB ?_
 refine bu rfl rfl (by decide) rfl rfl (by exact Nat.le_of_ble_eq_true rfl) ?_
 refine bS rfl rfl (by decide) rfl rfl rfl rfl rfl rfl ?_
 refine aD (aC (az ?_))
 refine mC rfl rfl rfl rfl (by decide) rfl rfl rfl ?_
 all_goals exact av rfl rfl rfl
set_option maxRecDepth 100000 in
theorem Mh (y : aj) : dK Tryz.prog 69 [eA y] (Ty.bool (qP y)) := by
 refine au Tryz.func69 rfl (by decide) Tryz.ntmps69 (by exact Nat.le_of_ble_eq_true rfl) fun w0 M0 => ?_
 refine aE (aB (bH rfl (dF rfl (aD (aC (aE (aB ?_)))))))
 refine aJ rfl rfl rfl rfl rfl (by decide) ?_
 refine aL rfl rfl rfl rfl (b9 rfl rfl rfl (bA rfl rfl rfl (eF rfl ?_)))
 apply aM (s := 7) rfl rfl rfl
 ·intro hg; apply aP; (refine aJ rfl rfl rfl rfl rfl (by decide) ?_); refine aD ?_; exact rfl
 ·exact rfl
 ·exact rfl
 apply aM (s := 7) rfl rfl rfl
 ·intro hg; apply aK (s := 8) rfl (by (rw [hg]; rfl)); apply aP; (refine aL rfl rfl rfl rfl ?_); refine aD ?_; exact rfl
 ·exact rfl
 ·exact rfl
 apply aM (s := 7) rfl rfl rfl
 ·intro hg; apply aK (s := 9) rfl (by (rw [hg]; rfl)); apply aP; (refine b9 rfl rfl rfl ?_); refine aD ?_; exact rfl
 ·exact rfl
 ·exact rfl
 apply aM (s := 7) rfl rfl rfl
 ·intro hg; apply aK (s := 10) rfl (by (rw [hg]; rfl)); apply aP; (refine bA rfl rfl rfl ?_); refine aD ?_; exact rfl
 ·exact rfl
 ·exact rfl
 refine iK rfl rfl (eF rfl ?_)
 apply aM (s := 13) rfl rfl rfl
 ·intro hg; apply aP; (refine aJ rfl rfl rfl rfl rfl (by decide) ?_); refine aD ?_; exact rfl
 ·exact rfl
 ·exact rfl
 apply aM (s := 13) rfl rfl rfl
 ·intro hg; apply aK (s := 14) rfl (by (rw [hg]; rfl)); apply aP; (refine aL rfl rfl rfl rfl ?_); refine aD ?_; exact rfl
 ·exact rfl
 ·exact rfl
 apply aM (s := 13) rfl rfl rfl
 ·intro hg; apply aK (s := 15) rfl (by (rw [hg]; rfl)); apply aP; (refine b9 rfl rfl rfl ?_); refine aD ?_; exact rfl
 ·exact rfl
 ·exact rfl
 apply aM (s := 13) rfl rfl rfl
 ·intro hg; apply aK (s := 16) rfl (by (rw [hg]; rfl)); apply aP; (refine bA rfl rfl rfl ?_); refine aD ?_; exact rfl
 ·exact rfl
 ·exact rfl
 refine iK rfl rfl (dF rfl (aD (aC (az (bU rfl rfl ?_)))))
 all_goals exact cI rfl rfl
 all_goals trace_state
set_option maxRecDepth 100000 in
theorem F7 : dK Tryz.prog 27 [] (Ty.bool true) := by
 refine au Tryz.func27 rfl (by decide) Tryz.ntmps27 (by exact Nat.le_of_ble_eq_true rfl) fun w0 M0 => ?_
 refine aE (aB (dF rfl (aD (aC (aE (aB ?_))))))
 refine ak (vP 0 (by decide)) rfl rfl rfl rfl rfl ?_
 refine ak (DJ (two 0) (jr (by decide)) 0) rfl rfl rfl rfl rfl ?_
 refine rH rfl (bN rfl rfl (bN rfl rfl (F8 rfl (bZ rfl (aD (aC (aE (aB ?_))))))))
 refine ak (vP 0 (by decide)) rfl rfl rfl rfl rfl ?_
 refine ak (NB (two 0) (jr (by decide))) rfl rfl rfl rfl rfl ?_
 refine rH rfl (bN rfl rfl (bN rfl rfl (F8 rfl (bZ rfl (aD (aC (aE (aB ?_))))))))
 refine ak (vP 1 (by decide)) rfl rfl rfl rfl rfl ?_
 refine ak (NK (two 1) (jr (by decide)) 1) rfl rfl rfl rfl rfl ?_
 refine rH rfl (bN rfl rfl (bN rfl rfl ?_))
 refine bf rfl (by exact List.cons_ne_nil _ _) rfl ?_
 refine bS rfl rfl (by decide) rfl rfl rfl rfl rfl rfl ?_
 refine bZ rfl (aD (aC (aE (aB ?_))))
 refine ak (vP 1 (by decide)) rfl rfl rfl rfl rfl ?_
 refine ak (Kw (two 1) (jr (by decide)) 0 60) rfl rfl rfl rfl rfl ?_
 refine rH rfl (bN rfl rfl (bN rfl rfl (bZ rfl (bZ rfl (aD (aC (aE (aB ?_))))))))
 refine cq rfl rfl (by exact List.cons_ne_nil _ _) rfl (by repeat (exact (aV.nil : aV _ _ [] _))) (by exact (rfl : _ = some [_, _])) ?_
 refine cq rfl rfl (by exact List.cons_ne_nil _ _) rfl (by repeat (first | exact (aV.nil : aV _ _ [] _) | (show aV _ _ ((_, _) :: _) _; apply aV.one; (· exact (rfl : _ = Ty.int _ _)); (· exact rfl)))) (by exact (rfl : _ = some [_, _])) ?_
 refine cq rfl rfl (by exact List.cons_ne_nil _ _) rfl (by repeat (first | exact (aV.nil : aV _ _ [] _) | (show aV _ _ ((_, _) :: _) _; apply aV.one; (· exact (rfl : _ = Ty.int _ _)); (· exact rfl)))) (by exact (rfl : _ = some [_, _])) ?_
 refine bX (E := fq) (xs := yH.cells) rfl rfl rfl rfl rfl (by decide) (by decide) (by repeat (first | exact (aV.nil : aV _ _ [] _) | (show aV _ _ ((_, _) :: _) _; apply aV.agg; (· exact (rfl : _ = Ty.agg _))))) (by exact rfl) rfl ?_
 refine cq rfl rfl (by exact List.cons_ne_nil _ _) rfl (by repeat (first | exact (aV.nil : aV _ _ [] _) | (show aV _ _ ((_, _) :: _) _; apply aV.one; (· exact (rfl : _ = Ty.sl _ _)); (· exact rfl)))) (by exact (rfl : _ = some [_, _])) ?_
 refine bf rfl (by exact List.cons_ne_nil _ _) rfl ?_
 refine bS rfl rfl (by decide) rfl rfl rfl rfl rfl rfl ?_
 refine aD (aC (aE (cH mixed rfl ?_)))
 refine ak (vP 2 (by decide)) rfl rfl rfl rfl rfl ?_
 refine bu rfl rfl (by decide) rfl rfl (by exact Nat.le_of_ble_eq_true rfl) ?_
 refine ak (B6 (two 2) (jr (by decide)) yH (by decide)) rfl rfl rfl rfl rfl ?_
 refine rH rfl (bN rfl rfl (bN rfl rfl (bZ rfl (bZ rfl (aD ?_)))))
 refine ⟨by kernel_rfl, ?_⟩
 refine aC (aE (aB ?_))
 refine ak (vP 2 (by decide)) rfl rfl rfl rfl rfl ?_
 refine ak (Mi (two 2) (jr (by decide))) rfl rfl rfl rfl rfl ?_
 refine rH rfl (bN rfl rfl (bN rfl rfl (F8 rfl (bZ rfl (aD (aC (aE (aB ?_))))))))
 refine ak (vP 2 (by decide)) rfl rfl rfl rfl rfl ?_
 refine ak (NT (two 2) (jr (by decide))) rfl rfl rfl rfl rfl ?_
 refine rH rfl (bN rfl rfl (bN rfl rfl (F8 rfl (bZ rfl (aD (aC (aE (aB ?_))))))))
 refine ak (vP 2 (by decide)) rfl rfl rfl rfl rfl ?_
 refine ak (PI (two 2) (jr (by decide))) rfl rfl rfl rfl rfl ?_
 refine rH rfl (bN rfl rfl (bN rfl rfl ?_))
 refine bf rfl (by exact List.cons_ne_nil _ _) rfl ?_
 refine bS rfl rfl (by decide) rfl rfl rfl rfl rfl rfl ?_
 refine bZ rfl (aD (aC (aE ?_)))
 refine gl (s := 1) rfl (Ty.sub_eq (congrArg (Ty.sl cA) OF)) ?_
 refine gl (s := 2) rfl (Ty.bD Qh) ?_
 refine gl (s := 3) rfl (Ty.sub_eq (congrArg (Ty.sl cA) QG)) ?_
 refine gl (s := 4) rfl (Ty.bD (lM (k := 0) (by decide))) ?_
 refine jz (tg := 6) rfl (Cont.nU (congrArg cA.tys QK)) ?_
 refine gl (s := 6) rfl (Ty.bD RL) ?_
 refine gl (s := 7) rfl (Ty.bD QH) ?_
 refine gl (s := 8) rfl (Ty.bD Oo.1.symm) ?_
 refine gl (s := 10) rfl (Ty.bD PV) ?_
 refine gl (s := 11) rfl (Ty.bD Q1.1.symm) ?_
 refine gl (s := 12) rfl (Ty.sub_eq (congrArg (Ty.sl c7) LQ)) ?_
 refine gl (s := 13) rfl (Ty.bD Ot.1.symm) ?_
 refine gl (s := 14) rfl (Ty.sub_eq (congrArg (Ty.sl c7) Jt)) ?_
 refine gl (s := 15) rfl (Ty.bD Of.1.symm) ?_
 refine gl (s := 17) rfl (Ty.bD M6) ?_
 refine fR (B := live [(1, Ty.sl cA [⟨20, 30⟩, ⟨60, 90⟩, ⟨20, 80⟩]), (2, Ty.int .i64 0), (3, Ty.sl cA [⟨20, 30⟩, ⟨60, 90⟩, ⟨50, 85⟩]), (4, Ty.int .i64 0), (5, Ty.ptr 6 0), (6, Ty.int .i64 0), (7, Ty.int .i64 1), (8, Ty.int .i64 0), (10, Ty.int .i64 1), (11, Ty.int .i64 0), (12, Ty.sl c7 [0, 1]), (13, Ty.int .i64 0), (14, Ty.sl c7 [0]), (15, Ty.int .i64 0), (17, Ty.int .i64 7)] [(6, Cont.cells 37 (cA.tys ⟨25, 35⟩))]) ?_ ?_
 ·(refine cV.mk' ?_ ?_ <;> (repeat' (first | exact aH | exact aI | refine aA ?_ (Ty.aT _) | refine aA ?_ (Ty.aF _) | refine aG rfl (Cont.aF _) ?_)))
 refine cH mixed rfl (bG rfl (bA rfl rfl rfl (eF rfl ?_)))
 apply aM (s := 66) rfl rfl rfl
 ·intro hg; apply aP; (refine bG rfl ?_); refine aD ?_; exact rfl
 ·exact rfl
 ·exact rfl
 apply aM (s := 66) rfl rfl rfl
 ·intro hg; apply aK (s := 67) rfl (by exact hg); apply aP; (refine bA rfl rfl rfl ?_); refine aD ?_; exact rfl
 ·exact rfl
 ·exact rfl
 refine dm rfl rfl (eF rfl ?_)
 apply aM (s := 70) rfl rfl rfl
 ·intro hg; apply aP; (refine bG rfl ?_); refine aD ?_; exact rfl
 ·exact rfl
 ·exact rfl
 apply aM (s := 70) rfl rfl rfl
 ·intro hg; apply aK (s := 71) rfl (by exact hg); apply aP; (refine bA rfl rfl rfl ?_); refine aD ?_; exact rfl
 ·exact rfl
 ·exact rfl
 refine dm rfl rfl (eF rfl ?_)
 apply aM (s := 74) rfl rfl rfl
 ·intro hg; apply aP; (refine bG rfl ?_); refine aD ?_; exact rfl
 ·exact rfl
 ·exact rfl
 apply aM (s := 74) rfl rfl rfl
 ·intro hg; apply aK (s := 75) rfl (by exact hg); apply aP; (refine bA rfl rfl rfl ?_); refine aD ?_; exact rfl
 ·exact rfl
 ·exact rfl
 refine dm rfl rfl (eF rfl ?_)
 apply aM (s := 78) rfl rfl rfl
 ·intro hg; apply aP; (refine bG rfl ?_); refine aD ?_; exact rfl
 ·exact rfl
 ·exact rfl
 apply aM (s := 78) rfl rfl rfl
 ·intro hg; apply aK (s := 79) rfl (by exact hg); apply aP; (refine bA rfl rfl rfl ?_); refine aD ?_; exact rfl
 ·exact rfl
 ·exact rfl
 refine dm rfl rfl (eF rfl ?_)
 apply aM (s := 82) rfl rfl rfl
 ·intro hg; apply aP; (refine bG rfl ?_); refine aD ?_; exact rfl
 ·exact rfl
 ·exact rfl
 apply aM (s := 82) rfl rfl rfl
 ·intro hg; apply aK (s := 83) rfl (by exact hg); apply aP; (refine bA rfl rfl rfl ?_); refine aD ?_; exact rfl
 ·exact rfl
 ·exact rfl
 refine dm rfl rfl (eF rfl ?_)
 apply aM (s := 86) rfl rfl rfl
 ·intro hg; apply aP; (refine bG rfl ?_); refine aD ?_; exact rfl
 ·exact rfl
 ·exact rfl
 apply aM (s := 86) rfl rfl rfl
 ·intro hg; apply aK (s := 87) rfl (by exact hg); apply aP; (refine bA rfl rfl rfl ?_); refine aD ?_; exact rfl
 ·exact rfl
 ·exact rfl
 refine dm rfl rfl (eF rfl ?_)
 apply aM (s := 90) rfl rfl rfl
 ·intro hg; apply aP; (refine bG rfl ?_); refine aD ?_; exact rfl
 ·exact rfl
 ·exact rfl
 apply aM (s := 90) rfl rfl rfl
 ·intro hg; apply aK (s := 91) rfl (by exact hg); apply aP; (refine bA rfl rfl rfl ?_); refine aD ?_; exact rfl
 ·exact rfl
 ·exact rfl
 refine dm rfl rfl (eF rfl ?_)
 apply aM (s := 94) rfl rfl rfl
 ·intro hg; apply aP; (refine ew rfl ?_); refine aD ?_; exact rfl
 ·exact rfl
 ·exact rfl
 apply aM (s := 94) rfl rfl rfl
 ·intro hg; apply aP; (refine ak (k7 _ _) rfl rfl rfl rfl rfl ?_); refine aD ?_; exact rfl
 ·exact rfl
 ·exact rfl
 apply aM (s := 94) rfl rfl rfl
 ·intro hg; apply aP; (refine ak (k7 _ _) rfl rfl rfl rfl rfl ?_); refine aD ?_; exact rfl
 ·exact rfl
 ·exact rfl
 apply aM (s := 94) rfl rfl rfl
 ·intro hg; apply aP; (refine ak (k7 _ _) rfl rfl rfl rfl rfl ?_); refine aD ?_; exact rfl
 ·exact rfl
 ·exact rfl
 apply aM (s := 94) rfl rfl rfl
 ·intro hg; apply aK (s := 96) rfl (by exact hg); apply aK (s := 97) rfl (by exact hg); apply aK (s := 98) rfl (by exact hg); apply aP; (refine bX (E := cA) (xs := [⟨20, 30⟩, ⟨60, 90⟩, ⟨20, 80⟩]) rfl rfl rfl rfl rfl (by decide) (by decide) (by repeat (first | exact (aV.nil : aV _ _ [] _) | (show aV _ _ ((_, _) :: _) _; apply aV.agg; (· exact (rfl : _ = Ty.agg _))))) (by exact rfl) rfl ?_); refine aD ?_; exact rfl
 ·exact rfl
 ·exact rfl
 apply aM (s := 94) rfl rfl rfl
 ·intro hg; apply aK (s := 95) rfl (by exact hg); apply aK (s := 99) rfl (by exact hg); apply aP; (refine ak (DV _ _) rfl rfl rfl rfl rfl ?_); refine aD ?_; exact rfl
 ·exact rfl
 ·exact rfl
 refine dm rfl rfl (eF rfl ?_)
 apply aM (s := 102) rfl rfl rfl
 ·intro hg; apply aP; (refine ew rfl ?_); refine aD ?_; exact rfl
 ·exact rfl
 ·exact rfl
 apply aM (s := 102) rfl rfl rfl
 ·intro hg; apply aP; (refine ak (k7 _ _) rfl rfl rfl rfl rfl ?_); refine aD ?_; exact rfl
 ·exact rfl
 ·exact rfl
 apply aM (s := 102) rfl rfl rfl
 ·intro hg; apply aP; (refine ak (k7 _ _) rfl rfl rfl rfl rfl ?_); refine aD ?_; exact rfl
 ·exact rfl
 ·exact rfl
 apply aM (s := 102) rfl rfl rfl
 ·intro hg; apply aP; (refine ak (k7 _ _) rfl rfl rfl rfl rfl ?_); refine aD ?_; exact rfl
 ·exact rfl
 ·exact rfl
 apply aM (s := 102) rfl rfl rfl
 ·intro hg; apply aK (s := 104) rfl (by exact hg); apply aK (s := 105) rfl (by exact hg); apply aK (s := 106) rfl (by exact hg); apply aP; (refine bX (E := cA) (xs := [⟨20, 30⟩, ⟨60, 90⟩, ⟨50, 85⟩]) rfl rfl rfl rfl rfl (by decide) (by decide) (by repeat (first | exact (aV.nil : aV _ _ [] _) | (show aV _ _ ((_, _) :: _) _; apply aV.agg; (· exact (rfl : _ = Ty.agg _))))) (by exact rfl) rfl ?_); refine aD ?_; exact rfl
 ·exact rfl
 ·exact rfl
 apply aM (s := 102) rfl rfl rfl
 ·intro hg; apply aK (s := 103) rfl (by exact hg); apply aK (s := 107) rfl (by exact hg); apply aP; (refine ak (DV _ _) rfl rfl rfl rfl rfl ?_); refine aD ?_; exact rfl
 ·exact rfl
 ·exact rfl
 refine dm rfl rfl (eF rfl ?_)
 apply aM (s := 110) rfl rfl rfl
 ·intro hg; apply aP; (refine bu rfl rfl (by decide) rfl rfl (by exact Nat.le_of_ble_eq_true rfl) ?_); refine aD ?_; exact rfl
 ·exact rfl
 ·exact rfl
 apply aM (s := 110) rfl rfl rfl
 ·intro hg; apply aP; (refine ak (k7 _ _) rfl rfl rfl rfl rfl ?_); refine aD ?_; exact rfl
 ·exact rfl
 ·exact rfl
 apply aM (s := 110) rfl rfl rfl
 ·intro hg; apply aK (s := 111) rfl (by exact hg); apply aK (s := 112) rfl (by exact hg); apply aP; (refine FQ (Oy _ _ _ _) rfl rfl ?_); refine aD ?_; exact rfl
 ·exact rfl
 ·exact rfl
 refine dm rfl rfl (eF rfl ?_)
 apply aM (s := 115) rfl rfl rfl
 ·intro hg; apply aP; (refine bG rfl ?_); refine aD ?_; exact rfl
 ·exact rfl
 ·exact rfl
 apply aM (s := 115) rfl rfl rfl
 ·intro hg; apply aK (s := 116) rfl (by exact hg); apply aP; (refine bA rfl rfl rfl ?_); refine aD ?_; exact rfl
 ·exact rfl
 ·exact rfl
 refine dm rfl rfl (eF rfl ?_)
 apply aM (s := 119) rfl rfl rfl
 ·intro hg; apply aP; (refine bG rfl ?_); refine aD ?_; exact rfl
 ·exact rfl
 ·exact rfl
 apply aM (s := 119) rfl rfl rfl
 ·intro hg; apply aK (s := 120) rfl (by exact hg); apply aP; (refine bA rfl rfl rfl ?_); refine aD ?_; exact rfl
 ·exact rfl
 ·exact rfl
 refine dm rfl rfl (eF rfl ?_)
 apply aM (s := 123) rfl rfl rfl
 ·intro hg; apply aP; (refine ew rfl ?_); refine aD ?_; exact rfl
 ·exact rfl
 ·exact rfl
 apply aM (s := 123) rfl rfl rfl
 ·intro hg; apply aP; (refine bX (E := c7) (xs := [0, 1]) rfl rfl rfl rfl rfl (by decide) (by decide) (by repeat (first | exact (aV.nil : aV _ _ [] _) | (show aV _ _ ((_, _) :: _) _; apply aV.one; (· exact (rfl : _ = Ty.int _ _)); (· exact rfl)))) (by exact rfl) rfl ?_); refine aD ?_; exact rfl
 ·exact rfl
 ·exact rfl
 apply aM (s := 123) rfl rfl rfl
 ·intro hg; apply aK (s := 124) rfl (by exact hg); apply aK (s := 125) rfl (by exact hg); apply aP; (refine ak (C5 _ _) rfl rfl rfl rfl rfl ?_); refine aD ?_; exact rfl
 ·exact rfl
 ·exact rfl
 refine dm rfl rfl (eF rfl ?_)
 apply aM (s := 128) rfl rfl rfl
 ·intro hg; apply aP; (refine ew rfl ?_); refine aD ?_; exact rfl
 ·exact rfl
 ·exact rfl
 apply aM (s := 128) rfl rfl rfl
 ·intro hg; apply aP; (refine bX (E := c7) (xs := [0]) rfl rfl rfl rfl rfl (by decide) (by decide) (by repeat (first | exact (aV.nil : aV _ _ [] _) | (show aV _ _ ((_, _) :: _) _; apply aV.one; (· exact (rfl : _ = Ty.int _ _)); (· exact rfl)))) (by exact rfl) rfl ?_); refine aD ?_; exact rfl
 ·exact rfl
 ·exact rfl
 apply aM (s := 128) rfl rfl rfl
 ·intro hg; apply aK (s := 129) rfl (by exact hg); apply aK (s := 130) rfl (by exact hg); apply aP; (refine ak (C5 _ _) rfl rfl rfl rfl rfl ?_); refine aD ?_; exact rfl
 ·exact rfl
 ·exact rfl
 refine dm rfl rfl (dF rfl (aD ?_))
 refine ⟨by kernel_rfl, ?_⟩
 refine aC (az (bU rfl rfl ?_))
 all_goals exact cI rfl rfl
 all_goals trace_state
end Go.Proofs.YtelbollidfdcjaaGreat
namespace Go.Proofs.YtelbollidfdcjaaGreat
open Go Go.T
set_option maxHeartbeats 2000000
attribute [local irreducible] gF eX lq nY g7 gx g9 g5 g8 nW gz nT dM fj nM gC oB nth fW dR ay dK bodyPost Exit.then Exit.inBlock Code.wp Code.wpIn n9 hO nO ni gy eU cM cN bodyPostM dO
end Go.Proofs.YtelbollidfdcjaaGreat
namespace Go.Proofs.YtelbollidfdcjaaGreat
open Go Go.T
set_option maxHeartbeats 4000000
structure Q5 (y : aj) (a : dg) : Prop where
  len : y.moves.length ≤ a.cD.length
  rE : a.cD.length ≤ 1000
  first : ∀ x ∈ a.first, -1000 ≤ x ∧ x ≤ 1000
  cD : ∀ x ∈ a.cD, -1000 ≤ x ∧ x ≤ 1000
theorem Q5.up {y : aj} {a : dg} (h : Q5 y a) {bin time : Int} (hb : bin.toNat < a.first.length) {k : Nat} (hk : k ≤ y.moves.length) : -3000000 ≤ eB y a bin time k ∧ eB y a bin time k ≤ 3000000 := by
 have h1 := h.len
 have h2 := h.rE
 have := J2 (y := y) (bin := bin) (time := time) (B := 1000) (by omega) h.first h.cD hb k (by omega)
 omega
attribute [local irreducible] gF eX lq nY g7 gx g9 g5 g8 nW gz nT dM fj nM gC oB nth fW dR ay dK bodyPost Exit.then Exit.inBlock Code.wp Code.wpIn n9 hO nO ni gy eU cM cN bodyPostM dO
end Go.Proofs.YtelbollidfdcjaaGreat
namespace Go.T
open Go Go.RowKit
section
variable {P : Program} {fr : Fr} {ops : Array Oper} {A : As} {rest : List Oper} {K : As → List (As × Fx) → Prop} {d : Nat} {t ty' : TypeId} {p : String} {e : Array Edge} [T : lX P]
end
end Go.T
namespace Go.T
open Go Go.RowKit
section
variable {P : Program} {fr : Fr} {ops : Array Oper} {A : As} {rest : List Oper} {K : As → List (As × Fx) → Prop} {d : Nat} {t ty' : TypeId} {p : String} {e : Array Edge} [T : lX P]
end
end Go.T
namespace Go.T
open Go Go.RowKit
section
variable {P : Program} {fr : Fr} {A : As} {Q : Exit → Act → World → Prop} {c : Code}
end
section
variable {P : Program} {fr : Fr} {ops : Array Oper} {A : As} {rest : List Oper} {K : As → List (As × Fx) → Prop} {d : Nat} {t ty' : TypeId} {p : String} {e : Array Edge} [T : lX P]
end
end Go.T
namespace Go.T
open Go Go.RowKit
section
variable {P : Program} {A : As} {fn : Func} {n : Nat} {w0 : World} {M0 : bF} {F : List Nat} {post : List (Nat × Cont)} [T : lX P]
end
end Go.T
namespace Go.T
open Go Go.RowKit
section
variable {P : Program} {fr : Fr} {ops : Array Oper} {A : As} {rest : List Oper} {K : As → List (As × Fx) → Prop} {d : Nat} {t ty' : TypeId} {p : String} {e : Array Edge} [T : lX P]
end
end Go.T
namespace Go.Proofs.YtelbollidfdcjaaGreat
open Go Go.T
set_option maxHeartbeats 8000000
section
variable {d : Md} {s : Sk} {k i : Nat} {p : (List Move × List Int) × Sk} {y : aj} {a : dg} {m : Move} {n : Int}
end
attribute [local irreducible] Md.D Md.Rm Md.nb Md.bs Md.first Md.vB Md.Ff Md.many Md.src Md.dst Md.Iw Md.day Md.num Md.ms Md.cD Md.EV Md.most Md.hs Md.OX Md.Rl Md.nl Md.ls Md.Gu cx vT yJ zy sQ lA cE eR m8 I4 Md.IW Md.G9
attribute [local irreducible] gF eX lq nY g7 gx g9 g5 g8 nW gz nT dM fj nM gC oB nth fW dR ay dK bodyPost Exit.then Exit.inBlock Code.wp Code.wpIn n9 hO nO ni gy eU cM cN bodyPostM dO
end Go.Proofs.YtelbollidfdcjaaGreat
namespace Go.Proofs.YtelbollidfdcjaaGreat
open Go Go.T
set_option maxHeartbeats 8000000
structure Sf (a : dg) : Prop where
  rE : a.cD.length ≤ 1000
  first : ∀ x ∈ a.first, -1000 ≤ x ∧ x ≤ 1000
  cD : ∀ x ∈ a.cD, -1000 ≤ x ∧ x ≤ 1000
open Classical in
noncomputable def rN (y : aj) (a : dg) : Bool := decide (eP y (fun _ => true) a)
section
variable {y : aj} {a : dg} {b t k : Nat}
open Classical in
theorem AL (h : eP y (fun _ => true) a) : rN y a = true := by unfold rN; exact decide_eq_true h
open Classical in
theorem xF (h : ¬ eP y (fun _ => true) a) : rN y a = false := by unfold rN; exact decide_eq_false h
open Classical in
theorem Mw (h : rN y a = true) : eP y (fun _ => true) a := by unfold rN at h; exact of_decide_eq_true h
end
attribute [local irreducible] cx rN
attribute [local irreducible] gF eX lq nY g7 gx g9 g5 g8 nW gz nT dM fj nM gC oB nth fW dR ay dK bodyPost Exit.then Exit.inBlock Code.wp Code.wpIn n9 hO nO ni gy eU cM cN bodyPostM dO
end Go.Proofs.YtelbollidfdcjaaGreat
namespace Go.Proofs.YtelbollidfdcjaaGreat
open Go Go.T
section
variable {d : Md} {v : Bool} {c : Nat → Bool} {y : aj} {b t k n : Nat} {l : List tM}
variable {f : Nat → Nat → Int}
end
end Go.Proofs.YtelbollidfdcjaaGreat
namespace Go.Proofs.YtelbollidfdcjaaGreat
open Go Go.T
set_option maxHeartbeats 4000000
theorem jX (n lo hi : Int) : j5 n lo hi = !zh n lo hi := by
 rw [Bool.eq_iff_iff]
 simp only [j5, Bool.or_eq_true, decide_eq_true_eq, Bool.not_eq_true', Bool.eq_false_iff, ne_eq, fB]
 omega
def AE (s : Span) : Bool := j5 s.lo 0 300 || j5 s.hi 0 300
def p4 (y : aj) : Bool := ((j5 y.days 1 5 || j5 y.bins.length 1 4) || decide ((y.moves.length : Int) > 10)) || decide ((y.levels.length : Int) > 8)
def uw (b : tM) : Bool := j5 b.holds 0 300 || AE b.first
def Ce (b : tM) : Bool := decide (b.first.lo > b.first.hi)
def zn (m : Move) : Bool := AE m.sacks
def notM (y : aj) (m : Move) : Bool := (j5 m.day 0 (y.days - 1) || j5 m.src (-1) ((y.bins.length : Int) - 1)) || j5 m.dst (-1) ((y.bins.length : Int) - 1)
def Mf (m : Move) : Bool := decide (m.src = m.dst)
def IP (m : Move) : Bool := decide (m.sacks.lo > m.sacks.hi)
def Fv (l : Level) : Bool := AE l.sacks
def LS (y : aj) (l : Level) : Bool := j5 l.day 0 y.days || j5 l.bin 0 ((y.bins.length : Int) - 1)
def Nw (l : Level) : Bool := decide (l.sacks.lo > l.sacks.hi)
def mw {α : Type} (p : α → Bool) (l : List α) (k : Nat) : Bool := (l.take k).any p
section
variable {α : Type} {p : α → Bool} {l : List α} {k : Nat}
theorem iL [Inhabited α] (h : k < l.length) : (mw p l k || p (nth l k)) = mw p l (k + 1) := by
 unfold mw; rw [cR h, List.any_append]; simp
theorem fT (h : ¬ (k : Int) < (l.length : Int)) : mw p l k = l.any p := by
 unfold mw; rw [List.take_of_length_le (by omega)]
end
def OZ (y : aj) : Bool := (y.bins.any uw || y.moves.any zn) || y.levels.any Fv
def PT (y : aj) : Bool := y.moves.any (notM y) || y.levels.any (LS y)
def PK (y : aj) : Bool := y.moves.any Mf
def Q7 (y : aj) : Bool := (y.bins.any Ce || y.moves.any IP) || y.levels.any Nw
def jI (y : aj) : Int := if p4 y = true then 2 else if OZ y = true then 3 else if PT y = true then 1 else if PK y = true then 5 else if Q7 y = true then 4 else 0
theorem mD {α : Type} {p q : α → Bool} {l : List α} (h : ∀ x ∈ l, p x = !q x) : l.any p = !l.all q := by
  induction l with
  | nil => rfl
  | cons x l ih => rw [List.any_cons, List.all_cons, ih fun y hy => h y (List.mem_cons_of_mem _ hy), h x List.mem_cons_self, Bool.not_and]
theorem oG (s : Span) : AE s = !fQ s := by unfold AE fQ; rw [jX, jX, Bool.not_and]
theorem Nj (y : aj) : p4 y = lO y := by unfold p4 lO; rw [jX, jX]
theorem RR (y : aj) : OZ y = (kX y || jB y) := by
 unfold OZ kX jB
 rw [mD (q := fun b : tM => zh b.holds 0 300 && fQ b.first) fun b _ => by unfold uw; rw [jX, oG, Bool.not_and],
  mD (p := zn) (q := fun m : Move => fQ m.sacks) fun m _ => oG _, mD (p := Fv) (q := fun m : Level => fQ m.sacks) fun m _ => oG _, Bool.or_assoc]
theorem Ga (y : aj) (n : Int) : j5 n (-1) ((y.bins.length : Int) - 1) = !y.fin n := by
 unfold aj.fin aj.bin
 rw [jX]
 congr 1
 rw [Bool.eq_iff_iff]
 simp only [Bool.or_eq_true, decide_eq_true_eq, fB]
 omega
theorem Qs (y : aj) : PT y = (xZ y || rQ y) := by
 unfold PT xZ rQ
 rw [mD (q := fun m : Move => (zh m.day 0 (y.days - 1) && y.fin m.src) && y.fin m.dst) fun m _ => by unfold notM; rw [jX, Ga, Ga, Bool.not_and, Bool.not_and],
  mD (p := LS y) (q := fun l : Level => y.time l.day && y.bin l.bin) fun l _ => by unfold LS aj.time aj.bin; rw [jX, jX, Bool.not_and]]
theorem Qj (y : aj) : PK y = qB y := by
 unfold PK qB
 exact mD fun m _ => by unfold Mf; rw [Bool.not_not]
theorem or_eq (y : aj) : Q7 y = qM y := by
 have e : ∀ s : Span, decide (s.lo > s.hi) = !fu s := fun s => by
  unfold fu; rw [Bool.eq_iff_iff]; simp only [decide_eq_true_eq, Bool.not_eq_true', decide_eq_false_iff_not]; omega
 unfold Q7 qM
 rw [mD (p := Ce) (q := fun b : tM => fu b.first) fun b _ => e _, mD (p := IP) (q := fun b : Move => fu b.sacks) fun b _ => e _, mD (p := Nw) (q := fun b : Level => fu b.sacks) fun b _ => e _]
theorem check_eq (y : aj) : jI y = bO y := by
 unfold jI bO
 rw [Nj, RR, Qs, Qj, or_eq]
 cases lO y <;> cases kX y <;> cases jB y <;> cases xZ y <;> cases rQ y <;> rfl
theorem Se (a b c d : Bool) : (((a || b) || c) || d) = (a || ((b || c) || d)) := by cases a <;> rfl
theorem SC (a b c d : Bool) : (((a || b) || c) || d) = (a || (b || (c || d))) := by cases a <;> cases b <;> rfl
section
variable {y : aj} {b c : Bool}
theorem SE (h : p4 y = true) : 2 = jI y := (if_pos h).symm
theorem Ru (h : p4 y = false) (h1 : b = true) (e : b = OZ y) : 3 = jI y := by unfold jI; rw [if_neg (ng h), if_pos (e ▸ h1)]
theorem SF (h : p4 y = false) (h1 : b = false) (e : b = OZ y) {b2 : Bool} (h2 : b2 = true) (e2 : b2 = PT y) : 1 = jI y := by
 subst e; subst e2; unfold jI; rw [if_neg (ng h), if_neg (ng h1), if_pos h2]
theorem R6 (h : p4 y = false) (h1 : b = false) (e : b = OZ y) {b2 b3 : Bool} (h2 : b2 = false) (e2 : b2 = PT y) (h3 : b3 = true) (e3 : b3 = PK y) : 5 = jI y := by
 subst e; subst e2; subst e3; unfold jI; rw [if_neg (ng h), if_neg (ng h1), if_neg (ng h2), if_pos h3]
theorem R5 (h : p4 y = false) (h1 : b = false) (e : b = OZ y) {b2 b3 b4 : Bool} (h2 : b2 = false) (e2 : b2 = PT y) (h3 : b3 = false) (e3 : b3 = PK y) (h4 : b4 = true) (e4 : b4 = Q7 y) : 4 = jI y := by
 subst e; subst e2; subst e3; subst e4; unfold jI; rw [if_neg (ng h), if_neg (ng h1), if_neg (ng h2), if_neg (ng h3), if_pos h4]
theorem Rs (h : p4 y = false) (h1 : b = false) (e : b = OZ y) {b2 b3 b4 : Bool} (h2 : b2 = false) (e2 : b2 = PT y) (h3 : b3 = false) (e3 : b3 = PK y) (h4 : b4 = false) (e4 : b4 = Q7 y) : 0 = jI y := by
 subst e; subst e2; subst e3; subst e4; unfold jI; rw [if_neg (ng h), if_neg (ng h1), if_neg (ng h2), if_neg (ng h3), if_neg (ng h4)]
theorem EO (h : p4 y = false) : (1 ≤ y.days ∧ y.days ≤ 5) ∧ (1 ≤ (y.bins.length : Int) ∧ (y.bins.length : Int) ≤ 4) := by
 unfold p4 at h
 simp only [Bool.or_eq_false_iff, jX, Bool.not_eq_false', fB] at h
 exact h.1.1
end
attribute [local irreducible] gF eX lq nY g7 gx g9 g5 g8 nW gz nT dM fj nM gC oB nth fW dR ay dK bodyPost Exit.then Exit.inBlock Code.wp Code.wpIn n9 hO nO ni gy eU cM cN bodyPostM dO
set_option maxRecDepth 100000 in
theorem lz (n lo hi : Int) : dK Tryz.prog 97 [Ty.int .i64 n, Ty.int .i64 lo, Ty.int .i64 hi] (Ty.bool (j5 n lo hi)) := by
 refine au Tryz.func97 rfl (by decide) Tryz.ntmps97 (by exact Nat.le_of_ble_eq_true rfl) fun w0 M0 => ?_
 refine aE (aB (dF rfl (aD (aC (aE (aB (bG rfl (bG rfl (bA rfl rfl rfl ?_)))))))))
 refine eF rfl ?_
 apply aM (s := 10) rfl rfl rfl
 ·intro hg; apply aP; (refine bG rfl ?_); refine aD ?_; exact rfl
 ·exact rfl
 ·exact rfl
 apply aM (s := 10) rfl rfl rfl
 ·intro hg; apply aP; (refine bG rfl ?_); refine aD ?_; exact rfl
 ·exact rfl
 ·exact rfl
 apply aM (s := 10) rfl rfl rfl
 ·intro hg; apply aK (s := 11) rfl (by (rw [hg]; rfl)); apply aK (s := 12) rfl (by (rw [hg]; rfl)); apply aP; (refine bA rfl rfl rfl ?_); refine aD ?_; exact rfl
 ·exact rfl
 ·exact rfl
 refine iK rfl rfl (dF rfl (aD (aC (az (bU rfl rfl ?_)))))
 all_goals exact cI rfl rfl
set_option maxRecDepth 100000 in
theorem Ax (s : Span) : dK Tryz.prog 98 [Ty.agg (cA.tys s)] (Ty.bool (AE s)) := by
 refine au Tryz.func98 rfl (by decide) Tryz.ntmps98 (by exact Nat.le_of_ble_eq_true rfl) fun w0 M0 => ?_
 refine aE (aB (bH rfl (dF rfl (aD (aC (aE (aB ?_)))))))
 refine aJ rfl rfl rfl rfl rfl (by decide) ?_
 refine aL rfl rfl rfl rfl (ak (lz _ _ _) rfl rfl rfl rfl rfl (eF rfl ?_))
 apply aM (s := 6) rfl rfl rfl
 ·intro hg; apply aP; (refine aJ rfl rfl rfl rfl rfl (by decide) ?_); refine aD ?_; exact rfl
 ·exact rfl
 ·exact rfl
 apply aM (s := 6) rfl rfl rfl
 ·intro hg; apply aK (s := 7) rfl (by (rw [hg]; rfl)); apply aP; (refine aL rfl rfl rfl rfl ?_); refine aD ?_; exact rfl
 ·exact rfl
 ·exact rfl
 apply aM (s := 6) rfl rfl rfl
 ·intro hg; apply aK (s := 8) rfl (by (rw [hg]; rfl)); apply aP; (refine ak (lz _ _ _) rfl rfl rfl rfl rfl ?_); refine aD ?_; exact rfl
 ·exact rfl
 ·exact rfl
 refine iK rfl rfl (dF rfl (aD (aC (az (bU rfl rfl ?_)))))
 all_goals exact cI rfl rfl
set_option maxRecDepth 100000 in
theorem C4 (y : aj) (hs : y.Small) : dK Tryz.prog 31 [eA y] (Ty.int .i64 (jI y)) := by
 refine au Tryz.func31 rfl (by decide) Tryz.ntmps31 (by exact Nat.le_of_ble_eq_true rfl) fun w0 M0 => ?_
 have hs1 := hs.bins
 have hs2 := hs.moves
 have hs3 := hs.levels
 refine aE (aB (bH rfl (bZ rfl (aD (aC (aE (aE (aB ?_))))))))
 refine aJ rfl rfl rfl rfl rfl (by decide) ?_
 refine aL rfl rfl rfl rfl (ak (lz _ _ _) rfl rfl rfl rfl rfl (eF rfl ?_))
 apply aM (s := 15) rfl rfl rfl
 ·intro hg; apply aP; (refine aJ rfl rfl rfl rfl rfl (by decide) ?_); refine aD ?_; exact rfl
 ·exact rfl
 ·exact rfl
 apply aM (s := 15) rfl rfl rfl
 ·intro hg; apply aK (s := 16) rfl (by (rw [hg]; rfl)); apply aP; (refine aL rfl rfl rfl rfl ?_); refine aD ?_; exact rfl
 ·exact rfl
 ·exact rfl
 apply aM (s := 15) rfl rfl rfl
 ·intro hg; apply aK (s := 17) rfl (by (rw [hg]; rfl)); apply aP; (refine b9 rfl rfl rfl ?_); refine aD ?_; exact rfl
 ·exact rfl
 ·exact rfl
 apply aM (s := 15) rfl rfl rfl
 ·intro hg; apply aK (s := 18) rfl (by (rw [hg]; rfl)); apply aP; (refine ak (lz _ _ _) rfl rfl rfl rfl rfl ?_); refine aD ?_; exact rfl
 ·exact rfl
 ·exact rfl
 refine iK rfl rfl (eF rfl ?_)
 apply aM (s := 21) rfl rfl rfl
 ·intro hg; apply aP; (refine aJ rfl rfl rfl rfl rfl (by decide) ?_); refine aD ?_; exact rfl
 ·exact rfl
 ·exact rfl
 apply aM (s := 21) rfl rfl rfl
 ·intro hg; apply aK (s := 22) rfl (by (rw [hg]; rfl)); apply aP; (refine aL rfl rfl rfl rfl ?_); refine aD ?_; exact rfl
 ·exact rfl
 ·exact rfl
 apply aM (s := 21) rfl rfl rfl
 ·intro hg; apply aK (s := 23) rfl (by (rw [hg]; rfl)); apply aP; (refine b9 rfl rfl rfl ?_); refine aD ?_; exact rfl
 ·exact rfl
 ·exact rfl
 apply aM (s := 21) rfl rfl rfl
 ·intro hg; apply aK (s := 24) rfl (by (rw [hg]; rfl)); apply aP; (refine bA rfl rfl rfl ?_); refine aD ?_; exact rfl
 ·exact rfl
 ·exact rfl
 refine iK rfl rfl (eF rfl ?_)
 apply aM (s := 27) rfl rfl rfl
 ·intro hg; apply aP; (refine aJ rfl rfl rfl rfl rfl (by decide) ?_); refine aD ?_; exact rfl
 ·exact rfl
 ·exact rfl
 apply aM (s := 27) rfl rfl rfl
 ·intro hg; apply aK (s := 28) rfl (by (rw [hg]; rfl)); apply aP; (refine aL rfl rfl rfl rfl ?_); refine aD ?_; exact rfl
 ·exact rfl
 ·exact rfl
 apply aM (s := 27) rfl rfl rfl
 ·intro hg; apply aK (s := 29) rfl (by (rw [hg]; rfl)); apply aP; (refine b9 rfl rfl rfl ?_); refine aD ?_; exact rfl
 ·exact rfl
 ·exact rfl
 apply aM (s := 27) rfl rfl rfl
 ·intro hg; apply aK (s := 30) rfl (by (rw [hg]; rfl)); apply aP; (refine bA rfl rfl rfl ?_); refine aD ?_; exact rfl
 ·exact rfl
 ·exact rfl
 refine iK rfl rfl (aD (aC ?_))
 refine cF rfl (fun hc1 => ?_) (fun hc1 => ?_)
 ·
  refine aE (aB (bZ rfl (aD (aC (az (aS (bU rfl rfl ?_)))))))
  all_goals skip
  exact av rfl rfl (congrArg (Ty.int .i64) (SE hc1))
 refine af (aC (aE ?_))
 have hmy := EO hc1
 refine aB (dF rfl (dF rfl (dF rfl (dF rfl (aD (aC (aE (aE (aB ?_)))))))))
 refine bZ rfl (aD (aC (aZ ?_)))
 refine bz (fun (k : {k : Nat // k ≤ y.bins.length}) => live [(1, Ty.pp (bC y)), (3, Ty.bool (mw uw y.bins k.1)), (4, Ty.bool false), (5, Ty.bool false), (6, Ty.bool (mw Ce y.bins k.1)), (7, Ty.int .i64 (k.1 : Nat))] []) (fun k => y.bins.length - k.1) (⟨0, by omega⟩) ?_ fun k => ?_
 ·(refine cV.mk' ?_ ?_ <;> (repeat' (first | exact aH | exact aI | refine aA ?_ (Ty.aT _) | refine aA ?_ (Ty.aF _))))
  all_goals trace_state
 have hk := k.2
 refine aE (aE (aB (bG rfl ?_)))
 refine aJ rfl rfl rfl rfl rfl (by decide) ?_
 refine aL rfl rfl rfl rfl (b9 rfl rfl rfl (bA rfl rfl rfl (aD (aC ?_))))
 refine ah rfl (fun hc2 => ?_) (fun hc2 => ?_)
 ·
  refine af (aC (aE (aZ (aE (aB (eF rfl (eF rfl ?_)))))))
  apply aM (s := 41) rfl rfl rfl
  ·intro hg; apply aP; (refine aJ rfl rfl rfl rfl rfl (by decide) ?_); refine aD ?_; exact rfl
  ·exact rfl
  ·exact rfl
  apply aM (s := 41) rfl rfl rfl
  ·intro hg; apply aK (s := 42) rfl (by (rw [hg]; rfl)); apply aP; (refine aL rfl rfl rfl rfl ?_); refine aD ?_; exact rfl
  ·exact rfl
  ·exact rfl
  apply aM (s := 41) rfl rfl rfl
  ·intro hg; apply aP; (refine bG rfl ?_); refine aD ?_; exact rfl
  ·exact rfl
  ·exact rfl
  apply aM (s := 41) rfl rfl rfl
  ·intro hg; apply aK (s := 43) rfl (by (rw [hg]; rfl)); apply aK (s := 44) rfl (by (rw [hg]; rfl)); apply aP; (refine aq rfl rfl rfl rfl rfl rfl (by omega) ?_); refine aD ?_; exact rfl
  ·exact rfl
  ·exact rfl
  apply aM (s := 41) rfl rfl rfl
  ·intro hg; apply aK (s := 45) rfl (by (rw [hg]; rfl)); apply aP; (refine aJ rfl rfl rfl rfl rfl (by decide) ?_); refine aD ?_; exact rfl
  ·exact rfl
  ·exact rfl
  apply aM (s := 41) rfl rfl rfl
  ·intro hg; apply aK (s := 46) rfl (by (rw [hg]; rfl)); apply aP; (refine aL rfl rfl rfl rfl ?_); refine aD ?_; exact rfl
  ·exact rfl
  ·exact rfl
  apply aM (s := 41) rfl rfl rfl
  ·intro hg; apply aK (s := 47) rfl (by (rw [hg]; rfl)); apply aP; (refine ak (lz _ _ _) rfl rfl rfl rfl rfl ?_); refine aD ?_; exact rfl
  ·exact rfl
  ·exact rfl
  refine iK rfl rfl (eF rfl ?_)
  apply aM (s := 50) rfl rfl rfl
  ·intro hg; apply aP; (refine aJ rfl rfl rfl rfl rfl (by decide) ?_); refine aD ?_; exact rfl
  ·exact rfl
  ·exact rfl
  apply aM (s := 50) rfl rfl rfl
  ·intro hg; apply aK (s := 51) rfl (by (rw [hg]; rfl)); apply aP; (refine aL rfl rfl rfl rfl ?_); refine aD ?_; exact rfl
  ·exact rfl
  ·exact rfl
  apply aM (s := 50) rfl rfl rfl
  ·intro hg; apply aP; (refine bG rfl ?_); refine aD ?_; exact rfl
  ·exact rfl
  ·exact rfl
  apply aM (s := 50) rfl rfl rfl
  ·intro hg; apply aK (s := 52) rfl (by (rw [hg]; rfl)); apply aK (s := 53) rfl (by (rw [hg]; rfl)); apply aP; (refine aq rfl rfl rfl rfl rfl rfl (by omega) ?_); refine aD ?_; exact rfl
  ·exact rfl
  ·exact rfl
  apply aM (s := 50) rfl rfl rfl
  ·intro hg; apply aK (s := 54) rfl (by (rw [hg]; rfl)); apply aP; (refine aJ rfl rfl rfl rfl rfl (by decide) ?_); refine aD ?_; exact rfl
  ·exact rfl
  ·exact rfl
  apply aM (s := 50) rfl rfl rfl
  ·intro hg; apply aK (s := 55) rfl (by (rw [hg]; rfl)); apply aP; (refine aY rfl rfl rfl (by exact Nat.le_of_ble_eq_true rfl) ?_); refine aD ?_; exact rfl
  ·exact rfl
  ·exact rfl
  apply aM (s := 50) rfl rfl rfl
  ·intro hg; apply aK (s := 56) rfl (by (rw [hg]; rfl)); apply aP; (refine ak (Ax _) rfl rfl rfl rfl rfl ?_); refine aD ?_; exact rfl
  ·exact rfl
  ·exact rfl
  refine iK rfl rfl (dF rfl (aD (aC (cH mixed rfl (eF rfl (eF rfl ?_))))))
  apply aM (s := 60) rfl rfl rfl
  ·intro hg; apply aP; (refine aJ rfl rfl rfl rfl rfl (by decide) ?_); refine aD ?_; exact rfl
  ·exact rfl
  ·exact rfl
  apply aM (s := 60) rfl rfl rfl
  ·intro hg; apply aK (s := 61) rfl (by (rw [hg]; rfl)); apply aP; (refine aL rfl rfl rfl rfl ?_); refine aD ?_; exact rfl
  ·exact rfl
  ·exact rfl
  apply aM (s := 60) rfl rfl rfl
  ·intro hg; apply aP; (refine bG rfl ?_); refine aD ?_; exact rfl
  ·exact rfl
  ·exact rfl
  apply aM (s := 60) rfl rfl rfl
  ·intro hg; apply aK (s := 62) rfl (by (rw [hg]; rfl)); apply aK (s := 63) rfl (by (rw [hg]; rfl)); apply aP; (refine aq rfl rfl rfl rfl rfl rfl (by omega) ?_); refine aD ?_; exact rfl
  ·exact rfl
  ·exact rfl
  apply aM (s := 60) rfl rfl rfl
  ·intro hg; apply aK (s := 64) rfl (by (rw [hg]; rfl)); apply aP; (refine aJ rfl rfl rfl rfl rfl (by decide) ?_); refine aD ?_; exact rfl
  ·exact rfl
  ·exact rfl
  apply aM (s := 60) rfl rfl rfl
  ·intro hg; apply aK (s := 65) rfl (by (rw [hg]; rfl)); apply aP; (refine aJ rfl rfl rfl rfl rfl (by decide) ?_); refine aD ?_; exact rfl
  ·exact rfl
  ·exact rfl
  apply aM (s := 60) rfl rfl rfl
  ·intro hg; apply aK (s := 66) rfl (by (rw [hg]; rfl)); apply aP; (refine aL rfl rfl rfl rfl ?_); refine aD ?_; exact rfl
  ·exact rfl
  ·exact rfl
  apply aM (s := 60) rfl rfl rfl
  ·intro hg; apply aP; (refine aJ rfl rfl rfl rfl rfl (by decide) ?_); refine aD ?_; exact rfl
  ·exact rfl
  ·exact rfl
  apply aM (s := 60) rfl rfl rfl
  ·intro hg; apply aK (s := 68) rfl (by (rw [hg]; rfl)); apply aP; (refine aL rfl rfl rfl rfl ?_); refine aD ?_; exact rfl
  ·exact rfl
  ·exact rfl
  apply aM (s := 60) rfl rfl rfl
  ·intro hg; apply aP; (refine bG rfl ?_); refine aD ?_; exact rfl
  ·exact rfl
  ·exact rfl
  apply aM (s := 60) rfl rfl rfl
  ·intro hg; apply aK (s := 69) rfl (by (rw [hg]; rfl)); apply aK (s := 70) rfl (by (rw [hg]; rfl)); apply aP; (refine aq rfl rfl rfl rfl rfl rfl (by omega) ?_); refine aD ?_; exact rfl
  ·exact rfl
  ·exact rfl
  apply aM (s := 60) rfl rfl rfl
  ·intro hg; apply aK (s := 71) rfl (by (rw [hg]; rfl)); apply aP; (refine aJ rfl rfl rfl rfl rfl (by decide) ?_); refine aD ?_; exact rfl
  ·exact rfl
  ·exact rfl
  apply aM (s := 60) rfl rfl rfl
  ·intro hg; apply aK (s := 72) rfl (by (rw [hg]; rfl)); apply aP; (refine aJ rfl rfl rfl rfl rfl (by decide) ?_); refine aD ?_; exact rfl
  ·exact rfl
  ·exact rfl
  apply aM (s := 60) rfl rfl rfl
  ·intro hg; apply aK (s := 73) rfl (by (rw [hg]; rfl)); apply aP; (refine aL rfl rfl rfl rfl ?_); refine aD ?_; exact rfl
  ·exact rfl
  ·exact rfl
  apply aM (s := 60) rfl rfl rfl
  ·intro hg; apply aK (s := 67) rfl (by (rw [hg]; rfl)); apply aK (s := 74) rfl (by (rw [hg]; rfl)); apply aP; (refine bA rfl rfl rfl ?_); refine aD ?_; exact rfl
  ·exact rfl
  ·exact rfl
  refine iK rfl rfl (dF rfl (aD ?_))
  refine ⟨by kernel_rfl, ?_⟩
  refine bI (aC (aB (bG rfl ?_)))
  refine bp rfl rfl (by omega) (by omega) ?_
  refine bZ rfl (aD ?_)
  refine bL (⟨k.1 + 1, by omega⟩) ?_ (by show y.bins.length - (k.1 + 1) < y.bins.length - k.1; omega)
  (refine cV.mk' ?_ ?_ <;> (repeat' (first | exact aH | exact aI | refine aA ?_ (Ty.aT _) | refine aA ?_ (Ty.aF _) | refine aA ?_ ?_)))
  all_goals skip
  all_goals first | exact Ty.dN ((Bool.or_assoc _ _ _).trans (iL (p := uw) (by omega))) | exact Ty.dN (iL (p := Ce) (by omega))
 refine b8 (aQ (aQ (aa rfl (aC (aE (aE (aB (bZ rfl (aD ?_)))))))))
 refine aC (aZ ?_)
 refine bz (fun (m : {k : Nat // k ≤ y.moves.length}) => live [(1, Ty.pp (bC y)), (3, Ty.bool (y.bins.any uw || mw zn y.moves m.1)), (4, Ty.bool (mw (notM y) y.moves m.1)), (5, Ty.bool (mw Mf y.moves m.1)), (6, Ty.bool (y.bins.any Ce || mw IP y.moves m.1)), (8, Ty.int .i64 (m.1 : Nat))] []) (fun m => y.moves.length - m.1) (⟨0, by omega⟩) ?_ fun m => ?_
 ·(refine cV.mk' ?_ ?_ <;> (repeat' (first | exact aH | exact aI | refine aA ?_ (Ty.aT _) | refine aA ?_ (Ty.aF _) | refine aA ?_ ?_)))
  all_goals exact Ty.dN ((fT hc2).trans (Bool.or_false _).symm)
 have hm := m.2
 refine aE (aE (aB (bG rfl ?_)))
 refine aJ rfl rfl rfl rfl rfl (by decide) ?_
 refine aL rfl rfl rfl rfl (b9 rfl rfl rfl (bA rfl rfl rfl (aD (aC ?_))))
 refine ah rfl (fun hc3 => ?_) (fun hc3 => ?_)
 ·
  refine af (aC (aE (aZ (aE (aB ?_)))))
  refine aJ rfl rfl rfl rfl rfl (by decide) ?_
  refine aL rfl rfl rfl rfl (bG rfl ?_)
  refine aq rfl rfl rfl rfl rfl rfl (by omega) ?_
  refine aY rfl rfl rfl (by exact Nat.le_of_ble_eq_true rfl) ?_
  refine bf rfl (by exact List.cons_ne_nil _ _) rfl ?_
  refine bS rfl rfl (by decide) rfl rfl rfl rfl rfl rfl ?_
  refine aD (aC (aE (aB (eF rfl (eF rfl ?_)))))
  apply aM (s := 90) rfl rfl rfl
  ·intro hg; apply aP; (refine aR rfl rfl rfl rfl rfl (by decide) ?_); refine aD ?_; exact rfl
  ·exact rfl
  ·exact rfl
  apply aM (s := 90) rfl rfl rfl
  ·intro hg; apply aK (s := 91) rfl (by (rw [hg]; rfl)); apply aP; (refine bu rfl rfl (by decide) rfl rfl (by exact Nat.le_of_ble_eq_true rfl) ?_); refine aD ?_; exact rfl
  ·exact rfl
  ·exact rfl
  apply aM (s := 90) rfl rfl rfl
  ·intro hg; apply aK (s := 92) rfl (by (rw [hg]; rfl)); apply aP; (refine ak (Ax _) rfl rfl rfl rfl rfl ?_); refine aD ?_; exact rfl
  ·exact rfl
  ·exact rfl
  refine iK rfl rfl (dF rfl (aD (aC (aE (aB (eF rfl (eF rfl ?_)))))))
  apply aM (s := 96) rfl rfl rfl
  ·intro hg; apply aP; (refine aR rfl rfl rfl rfl rfl (by decide) ?_); refine aD ?_; exact rfl
  ·exact rfl
  ·exact rfl
  apply aM (s := 96) rfl rfl rfl
  ·intro hg; apply aK (s := 97) rfl (by (rw [hg]; rfl)); apply aP; (refine aX rfl rfl (by decide) rfl rfl rfl ?_); refine aD ?_; exact rfl
  ·exact rfl
  ·exact rfl
  apply aM (s := 96) rfl rfl rfl
  ·intro hg; apply aP; (refine aJ rfl rfl rfl rfl rfl (by decide) ?_); refine aD ?_; exact rfl
  ·exact rfl
  ·exact rfl
  apply aM (s := 96) rfl rfl rfl
  ·intro hg; apply aK (s := 99) rfl (by (rw [hg]; rfl)); apply aP; (refine aL rfl rfl rfl rfl ?_); refine aD ?_; exact rfl
  ·exact rfl
  ·exact rfl
  apply aM (s := 96) rfl rfl rfl
  ·intro hg; apply aK (s := 100) rfl (by (rw [hg]; rfl)); apply aP; (refine fk rfl rfl (by omega) (by omega) ?_); refine aD ?_; exact rfl
  ·exact rfl
  ·exact rfl
  apply aM (s := 96) rfl rfl rfl
  ·intro hg; apply aK (s := 98) rfl (by (rw [hg]; rfl)); apply aK (s := 101) rfl (by (rw [hg]; rfl)); apply aP; (refine ak (lz _ _ _) rfl rfl rfl rfl rfl ?_); refine aD ?_; exact rfl
  ·exact rfl
  ·exact rfl
  refine iK rfl rfl (eF rfl ?_)
  apply aM (s := 104) rfl rfl rfl
  ·intro hg; apply aP; (refine aR rfl rfl rfl rfl rfl (by decide) ?_); refine aD ?_; exact rfl
  ·exact rfl
  ·exact rfl
  apply aM (s := 104) rfl rfl rfl
  ·intro hg; apply aK (s := 105) rfl (by (rw [hg]; rfl)); apply aP; (refine aX rfl rfl (by decide) rfl rfl rfl ?_); refine aD ?_; exact rfl
  ·exact rfl
  ·exact rfl
  apply aM (s := 104) rfl rfl rfl
  ·intro hg; apply aP; (refine aJ rfl rfl rfl rfl rfl (by decide) ?_); refine aD ?_; exact rfl
  ·exact rfl
  ·exact rfl
  apply aM (s := 104) rfl rfl rfl
  ·intro hg; apply aK (s := 107) rfl (by (rw [hg]; rfl)); apply aP; (refine aL rfl rfl rfl rfl ?_); refine aD ?_; exact rfl
  ·exact rfl
  ·exact rfl
  apply aM (s := 104) rfl rfl rfl
  ·intro hg; apply aK (s := 108) rfl (by (rw [hg]; rfl)); apply aP; (refine b9 rfl rfl rfl ?_); refine aD ?_; exact rfl
  ·exact rfl
  ·exact rfl
  apply aM (s := 104) rfl rfl rfl
  ·intro hg; apply aK (s := 109) rfl (by (rw [hg]; rfl)); apply aP; (refine fk rfl rfl (by omega) (by omega) ?_); refine aD ?_; exact rfl
  ·exact rfl
  ·exact rfl
  apply aM (s := 104) rfl rfl rfl
  ·intro hg; apply aK (s := 106) rfl (by (rw [hg]; rfl)); apply aK (s := 110) rfl (by (rw [hg]; rfl)); apply aP; (refine ak (lz _ _ _) rfl rfl rfl rfl rfl ?_); refine aD ?_; exact rfl
  ·exact rfl
  ·exact rfl
  refine iK rfl rfl (eF rfl ?_)
  apply aM (s := 113) rfl rfl rfl
  ·intro hg; apply aP; (refine aR rfl rfl rfl rfl rfl (by decide) ?_); refine aD ?_; exact rfl
  ·exact rfl
  ·exact rfl
  apply aM (s := 113) rfl rfl rfl
  ·intro hg; apply aK (s := 114) rfl (by (rw [hg]; rfl)); apply aP; (refine aX rfl rfl (by decide) rfl rfl rfl ?_); refine aD ?_; exact rfl
  ·exact rfl
  ·exact rfl
  apply aM (s := 113) rfl rfl rfl
  ·intro hg; apply aP; (refine aJ rfl rfl rfl rfl rfl (by decide) ?_); refine aD ?_; exact rfl
  ·exact rfl
  ·exact rfl
  apply aM (s := 113) rfl rfl rfl
  ·intro hg; apply aK (s := 116) rfl (by (rw [hg]; rfl)); apply aP; (refine aL rfl rfl rfl rfl ?_); refine aD ?_; exact rfl
  ·exact rfl
  ·exact rfl
  apply aM (s := 113) rfl rfl rfl
  ·intro hg; apply aK (s := 117) rfl (by (rw [hg]; rfl)); apply aP; (refine b9 rfl rfl rfl ?_); refine aD ?_; exact rfl
  ·exact rfl
  ·exact rfl
  apply aM (s := 113) rfl rfl rfl
  ·intro hg; apply aK (s := 118) rfl (by (rw [hg]; rfl)); apply aP; (refine fk rfl rfl (by omega) (by omega) ?_); refine aD ?_; exact rfl
  ·exact rfl
  ·exact rfl
  apply aM (s := 113) rfl rfl rfl
  ·intro hg; apply aK (s := 115) rfl (by (rw [hg]; rfl)); apply aK (s := 119) rfl (by (rw [hg]; rfl)); apply aP; (refine ak (lz _ _ _) rfl rfl rfl rfl rfl ?_); refine aD ?_; exact rfl
  ·exact rfl
  ·exact rfl
  refine iK rfl rfl (dF rfl (aD (aC (aE (aB (eF rfl (eF rfl ?_)))))))
  apply aM (s := 123) rfl rfl rfl
  ·intro hg; apply aP; (refine aR rfl rfl rfl rfl rfl (by decide) ?_); refine aD ?_; exact rfl
  ·exact rfl
  ·exact rfl
  apply aM (s := 123) rfl rfl rfl
  ·intro hg; apply aK (s := 124) rfl (by (rw [hg]; rfl)); apply aP; (refine aX rfl rfl (by decide) rfl rfl rfl ?_); refine aD ?_; exact rfl
  ·exact rfl
  ·exact rfl
  apply aM (s := 123) rfl rfl rfl
  ·intro hg; apply aP; (refine aR rfl rfl rfl rfl rfl (by decide) ?_); refine aD ?_; exact rfl
  ·exact rfl
  ·exact rfl
  apply aM (s := 123) rfl rfl rfl
  ·intro hg; apply aK (s := 126) rfl (by (rw [hg]; rfl)); apply aP; (refine aX rfl rfl (by decide) rfl rfl rfl ?_); refine aD ?_; exact rfl
  ·exact rfl
  ·exact rfl
  apply aM (s := 123) rfl rfl rfl
  ·intro hg; apply aK (s := 125) rfl (by (rw [hg]; rfl)); apply aK (s := 127) rfl (by (rw [hg]; rfl)); apply aP; (refine bA rfl rfl rfl ?_); refine aD ?_; exact rfl
  ·exact rfl
  ·exact rfl
  refine iK rfl rfl (dF rfl (aD (aC (aB (eF rfl (eF rfl ?_))))))
  apply aM (s := 131) rfl rfl rfl
  ·intro hg; apply aP; (refine aR rfl rfl rfl rfl rfl (by decide) ?_); refine aD ?_; exact rfl
  ·exact rfl
  ·exact rfl
  apply aM (s := 131) rfl rfl rfl
  ·intro hg; apply aK (s := 132) rfl (by (rw [hg]; rfl)); apply aP; (refine aR rfl rfl rfl rfl rfl (by decide) ?_); refine aD ?_; exact rfl
  ·exact rfl
  ·exact rfl
  apply aM (s := 131) rfl rfl rfl
  ·intro hg; apply aK (s := 133) rfl (by (rw [hg]; rfl)); apply aP; (refine aX rfl rfl (by decide) rfl rfl rfl ?_); refine aD ?_; exact rfl
  ·exact rfl
  ·exact rfl
  apply aM (s := 131) rfl rfl rfl
  ·intro hg; apply aP; (refine aR rfl rfl rfl rfl rfl (by decide) ?_); refine aD ?_; exact rfl
  ·exact rfl
  ·exact rfl
  apply aM (s := 131) rfl rfl rfl
  ·intro hg; apply aK (s := 135) rfl (by (rw [hg]; rfl)); apply aP; (refine aR rfl rfl rfl rfl rfl (by decide) ?_); refine aD ?_; exact rfl
  ·exact rfl
  ·exact rfl
  apply aM (s := 131) rfl rfl rfl
  ·intro hg; apply aK (s := 136) rfl (by (rw [hg]; rfl)); apply aP; (refine aX rfl rfl (by decide) rfl rfl rfl ?_); refine aD ?_; exact rfl
  ·exact rfl
  ·exact rfl
  apply aM (s := 131) rfl rfl rfl
  ·intro hg; apply aK (s := 134) rfl (by (rw [hg]; rfl)); apply aK (s := 137) rfl (by (rw [hg]; rfl)); apply aP; (refine bA rfl rfl rfl ?_); refine aD ?_; exact rfl
  ·exact rfl
  ·exact rfl
  refine iK rfl rfl (dF rfl (aD (bI (aC (aB (bG rfl ?_))))))
  refine bp rfl rfl (by omega) (by omega) ?_
  refine bZ rfl (aD ?_)
  refine bL (⟨m.1 + 1, by omega⟩) ?_ (by show y.moves.length - (m.1 + 1) < y.moves.length - m.1; omega)
  (refine cV.mk' ?_ ?_ <;> (repeat' (first | exact aH | exact aI | refine aA ?_ (Ty.aT _) | refine aA ?_ (Ty.aF _) | refine aA ?_ ?_)))
  all_goals skip
  all_goals first | exact Ty.dN ((Bool.or_assoc _ _ _).trans (congrArg (y.bins.any uw || ·) (iL (p := zn) (by omega)))) | exact Ty.dN ((Bool.or_assoc _ _ _).trans (congrArg (y.bins.any Ce || ·) (iL (p := IP) (by omega)))) | exact Ty.dN ((Se _ _ _ _).trans (iL (p := notM y) (by omega))) | exact Ty.dN (iL (p := Mf) (by omega))
 refine b8 (aQ (aQ (aa rfl (aC (aE (aE (aB (bZ rfl (aD ?_)))))))))
 refine aC (aZ ?_)
 refine bz (fun (n : {k : Nat // k ≤ y.levels.length}) => live [(1, Ty.pp (bC y)), (3, Ty.bool ((y.bins.any uw || y.moves.any zn) || mw Fv y.levels n.1)), (4, Ty.bool (y.moves.any (notM y) || mw (LS y) y.levels n.1)), (5, Ty.bool (PK y)), (6, Ty.bool ((y.bins.any Ce || y.moves.any IP) || mw Nw y.levels n.1)), (10, Ty.int .i64 (n.1 : Nat))] []) (fun n => y.levels.length - n.1) (⟨0, by omega⟩) ?_ fun n => ?_
 ·(refine cV.mk' ?_ ?_ <;> (repeat' (first | exact aH | exact aI | refine aA ?_ (Ty.aT _) | refine aA ?_ (Ty.aF _) | refine aA ?_ ?_)))
  all_goals first | exact Ty.dN ((congrArg (_ || ·) (fT hc3)).trans (Bool.or_false _).symm) | exact Ty.dN ((fT hc3).trans (Bool.or_false _).symm) | exact Ty.dN (fT hc3)
 have hn := n.2
 refine aE (aE (aB (bG rfl ?_)))
 refine aJ rfl rfl rfl rfl rfl (by decide) ?_
 refine aL rfl rfl rfl rfl (b9 rfl rfl rfl (bA rfl rfl rfl (aD (aC ?_))))
 refine ah rfl (fun hc4 => ?_) (fun hc4 => ?_)
 ·
  refine af (aC (aE (aZ (aE (aB ?_)))))
  refine aJ rfl rfl rfl rfl rfl (by decide) ?_
  refine aL rfl rfl rfl rfl (bG rfl ?_)
  refine aq rfl rfl rfl rfl rfl rfl (by omega) ?_
  refine aY rfl rfl rfl (by exact Nat.le_of_ble_eq_true rfl) ?_
  refine bf rfl (by exact List.cons_ne_nil _ _) rfl ?_
  refine bS rfl rfl (by decide) rfl rfl rfl rfl rfl rfl ?_
  refine aD (aC (aE (aB (eF rfl (eF rfl ?_)))))
  apply aM (s := 153) rfl rfl rfl
  ·intro hg; apply aP; (refine aR rfl rfl rfl rfl rfl (by decide) ?_); refine aD ?_; exact rfl
  ·exact rfl
  ·exact rfl
  apply aM (s := 153) rfl rfl rfl
  ·intro hg; apply aK (s := 154) rfl (by (rw [hg]; rfl)); apply aP; (refine bu rfl rfl (by decide) rfl rfl (by exact Nat.le_of_ble_eq_true rfl) ?_); refine aD ?_; exact rfl
  ·exact rfl
  ·exact rfl
  apply aM (s := 153) rfl rfl rfl
  ·intro hg; apply aK (s := 155) rfl (by (rw [hg]; rfl)); apply aP; (refine ak (Ax _) rfl rfl rfl rfl rfl ?_); refine aD ?_; exact rfl
  ·exact rfl
  ·exact rfl
  refine iK rfl rfl (dF rfl (aD (aC (aE (aB (eF rfl (eF rfl ?_)))))))
  apply aM (s := 159) rfl rfl rfl
  ·intro hg; apply aP; (refine aR rfl rfl rfl rfl rfl (by decide) ?_); refine aD ?_; exact rfl
  ·exact rfl
  ·exact rfl
  apply aM (s := 159) rfl rfl rfl
  ·intro hg; apply aK (s := 160) rfl (by (rw [hg]; rfl)); apply aP; (refine aX rfl rfl (by decide) rfl rfl rfl ?_); refine aD ?_; exact rfl
  ·exact rfl
  ·exact rfl
  apply aM (s := 159) rfl rfl rfl
  ·intro hg; apply aP; (refine aJ rfl rfl rfl rfl rfl (by decide) ?_); refine aD ?_; exact rfl
  ·exact rfl
  ·exact rfl
  apply aM (s := 159) rfl rfl rfl
  ·intro hg; apply aK (s := 162) rfl (by (rw [hg]; rfl)); apply aP; (refine aL rfl rfl rfl rfl ?_); refine aD ?_; exact rfl
  ·exact rfl
  ·exact rfl
  apply aM (s := 159) rfl rfl rfl
  ·intro hg; apply aK (s := 161) rfl (by (rw [hg]; rfl)); apply aK (s := 163) rfl (by (rw [hg]; rfl)); apply aP; (refine ak (lz _ _ _) rfl rfl rfl rfl rfl ?_); refine aD ?_; exact rfl
  ·exact rfl
  ·exact rfl
  refine iK rfl rfl (eF rfl ?_)
  apply aM (s := 166) rfl rfl rfl
  ·intro hg; apply aP; (refine aR rfl rfl rfl rfl rfl (by decide) ?_); refine aD ?_; exact rfl
  ·exact rfl
  ·exact rfl
  apply aM (s := 166) rfl rfl rfl
  ·intro hg; apply aK (s := 167) rfl (by (rw [hg]; rfl)); apply aP; (refine aX rfl rfl (by decide) rfl rfl rfl ?_); refine aD ?_; exact rfl
  ·exact rfl
  ·exact rfl
  apply aM (s := 166) rfl rfl rfl
  ·intro hg; apply aP; (refine aJ rfl rfl rfl rfl rfl (by decide) ?_); refine aD ?_; exact rfl
  ·exact rfl
  ·exact rfl
  apply aM (s := 166) rfl rfl rfl
  ·intro hg; apply aK (s := 169) rfl (by (rw [hg]; rfl)); apply aP; (refine aL rfl rfl rfl rfl ?_); refine aD ?_; exact rfl
  ·exact rfl
  ·exact rfl
  apply aM (s := 166) rfl rfl rfl
  ·intro hg; apply aK (s := 170) rfl (by (rw [hg]; rfl)); apply aP; (refine b9 rfl rfl rfl ?_); refine aD ?_; exact rfl
  ·exact rfl
  ·exact rfl
  apply aM (s := 166) rfl rfl rfl
  ·intro hg; apply aK (s := 171) rfl (by (rw [hg]; rfl)); apply aP; (refine fk rfl rfl (by omega) (by omega) ?_); refine aD ?_; exact rfl
  ·exact rfl
  ·exact rfl
  apply aM (s := 166) rfl rfl rfl
  ·intro hg; apply aK (s := 168) rfl (by (rw [hg]; rfl)); apply aK (s := 172) rfl (by (rw [hg]; rfl)); apply aP; (refine ak (lz _ _ _) rfl rfl rfl rfl rfl ?_); refine aD ?_; exact rfl
  ·exact rfl
  ·exact rfl
  refine iK rfl rfl (dF rfl (aD (aC (aB (eF rfl (eF rfl ?_))))))
  apply aM (s := 176) rfl rfl rfl
  ·intro hg; apply aP; (refine aR rfl rfl rfl rfl rfl (by decide) ?_); refine aD ?_; exact rfl
  ·exact rfl
  ·exact rfl
  apply aM (s := 176) rfl rfl rfl
  ·intro hg; apply aK (s := 177) rfl (by (rw [hg]; rfl)); apply aP; (refine aR rfl rfl rfl rfl rfl (by decide) ?_); refine aD ?_; exact rfl
  ·exact rfl
  ·exact rfl
  apply aM (s := 176) rfl rfl rfl
  ·intro hg; apply aK (s := 178) rfl (by (rw [hg]; rfl)); apply aP; (refine aX rfl rfl (by decide) rfl rfl rfl ?_); refine aD ?_; exact rfl
  ·exact rfl
  ·exact rfl
  apply aM (s := 176) rfl rfl rfl
  ·intro hg; apply aP; (refine aR rfl rfl rfl rfl rfl (by decide) ?_); refine aD ?_; exact rfl
  ·exact rfl
  ·exact rfl
  apply aM (s := 176) rfl rfl rfl
  ·intro hg; apply aK (s := 180) rfl (by (rw [hg]; rfl)); apply aP; (refine aR rfl rfl rfl rfl rfl (by decide) ?_); refine aD ?_; exact rfl
  ·exact rfl
  ·exact rfl
  apply aM (s := 176) rfl rfl rfl
  ·intro hg; apply aK (s := 181) rfl (by (rw [hg]; rfl)); apply aP; (refine aX rfl rfl (by decide) rfl rfl rfl ?_); refine aD ?_; exact rfl
  ·exact rfl
  ·exact rfl
  apply aM (s := 176) rfl rfl rfl
  ·intro hg; apply aK (s := 179) rfl (by (rw [hg]; rfl)); apply aK (s := 182) rfl (by (rw [hg]; rfl)); apply aP; (refine bA rfl rfl rfl ?_); refine aD ?_; exact rfl
  ·exact rfl
  ·exact rfl
  refine iK rfl rfl (dF rfl (aD (bI (aC (aB (bG rfl ?_))))))
  refine bp rfl rfl (by omega) (by omega) ?_
  refine bZ rfl (aD ?_)
  refine bL (⟨n.1 + 1, by omega⟩) ?_ (by show y.levels.length - (n.1 + 1) < y.levels.length - n.1; omega)
  (refine cV.mk' ?_ ?_ <;> (repeat' (first | exact aH | exact aI | refine aA ?_ (Ty.aT _) | refine aA ?_ (Ty.aF _) | refine aA ?_ ?_)))
  all_goals skip
  all_goals first | exact Ty.dN ((Bool.or_assoc _ _ _).trans (congrArg ((y.bins.any uw || y.moves.any zn) || ·) (iL (p := Fv) (by omega)))) | exact Ty.dN ((Bool.or_assoc _ _ _).trans (congrArg ((y.bins.any Ce || y.moves.any IP) || ·) (iL (p := Nw) (by omega)))) | exact Ty.dN ((SC _ _ _ _).trans (congrArg (y.moves.any (notM y) || ·) (iL (p := LS y) (by omega))))
 refine b8 (aQ (aQ (aa rfl (aC (aE (aE (aB (eF rfl (aD ?_)))))))))
 refine aC ?_
 refine cF rfl (fun hc5 => ?_) (fun hc5 => ?_)
 ·
  refine aE (aB (bZ rfl (aD (aC (az (aS (bU rfl rfl ?_)))))))
  all_goals skip
  exact av rfl rfl (congrArg (Ty.int .i64) (Ru hc1 hc5 (congrArg (_ || ·) (fT hc4))))
 refine af (aC (aE (aE (aB (eF rfl (aD (aC ?_)))))))
 refine cF rfl (fun hc6 => ?_) (fun hc6 => ?_)
 ·
  refine aE (aB (bZ rfl (aD (aC (az (aS (bU rfl rfl ?_)))))))
  all_goals skip
  exact av rfl rfl (congrArg (Ty.int .i64) (SF hc1 hc5 (congrArg (_ || ·) (fT hc4)) hc6 (congrArg (_ || ·) (fT hc4))))
 refine af (aC (aE (aE (aB (eF rfl (aD (aC ?_)))))))
 refine cF rfl (fun hc7 => ?_) (fun hc7 => ?_)
 ·
  refine aE (aB (bZ rfl (aD (aC (az (aS (bU rfl rfl ?_)))))))
  all_goals skip
  exact av rfl rfl (congrArg (Ty.int .i64) (R6 hc1 hc5 (congrArg (_ || ·) (fT hc4)) hc6 (congrArg (_ || ·) (fT hc4)) hc7 rfl))
 refine af (aC (aE (aE (aB (eF rfl (aD (aC ?_)))))))
 refine cF rfl (fun hc8 => ?_) (fun hc8 => ?_)
 ·
  refine aE (aB (bZ rfl (aD (aC (az (aS (bU rfl rfl ?_)))))))
  all_goals skip
  exact av rfl rfl (congrArg (Ty.int .i64) (R5 hc1 hc5 (congrArg (_ || ·) (fT hc4)) hc6 (congrArg (_ || ·) (fT hc4)) hc7 rfl hc8 (congrArg (_ || ·) (fT hc4))))
 refine af (aC (aE (aB (bZ rfl (aD (aC (az (bU rfl rfl ?_))))))))
 all_goals skip
 exact av rfl rfl (congrArg (Ty.int .i64) (Rs hc1 hc5 (congrArg (_ || ·) (fT hc4)) hc6 (congrArg (_ || ·) (fT hc4)) hc7 rfl hc8 (congrArg (_ || ·) (fT hc4))))
end Go.Proofs.YtelbollidfdcjaaGreat
namespace Go.Proofs.YtelbollidfdcjaaGreat
open Go Go.T
set_option maxHeartbeats 6000000
section
variable {y : aj} {l : Level}
end
section
variable {y : aj} {m : Move}
end
attribute [local irreducible] bO
attribute [local irreducible] gF eX lq nY g7 gx g9 g5 g8 nW gz nT dM fj nM gC oB nth fW dR ay dK bodyPost Exit.then Exit.inBlock Code.wp Code.wpIn n9 hO nO ni gy eU cM cN bodyPostM dO
end Go.Proofs.YtelbollidfdcjaaGreat
namespace Go.Proofs.YtelbollidfdcjaaGreat
open Go Go.T
section
variable {y : aj} {c : Nat → Bool} {a : dg} {l : Level} {b t k : Nat} {s s' : Span} {f : dg → Int}
theorem xO {i : Nat} (h : i < 8) : nth bE i = true := by
 unfold bE; rw [gA (by rw [List.length_replicate]; exact h), List.getElem_replicate]
theorem sv (hr : y.bY) : eP y (nth bE) a ↔ eP y (fun _ => true) a := by
 have h8 := hr.levels
 refine ⟨fun h => ⟨h.lens, h.first, h.cont, h.cD, fun i hi _ => h.level i hi (xO (by omega))⟩, fun h => ⟨h.lens, h.first, h.cont, h.cD, fun i hi _ => h.level i hi rfl⟩⟩
structure SQ (y : aj) (l : Level) : Prop where
  day : 0 ≤ l.day ∧ l.day ≤ y.days
  bin : 0 ≤ l.bin ∧ l.bin < y.bins.length
  num : 0 ≤ l.sacks.lo ∧ l.sacks.hi ≤ 300
  ord : l.sacks.lo ≤ l.sacks.hi
theorem Ds.le {y' : aj} {c' : Nat → Bool} {g : dg → Int} (h : Ds y c f s) (h' : Ds y' c' g s') (sub : ∀ a, eP y' c' a → eP y c a ∧ g a = f a) : s.lo ≤ s'.lo ∧ s'.hi ≤ s.hi := by
 obtain ⟨a1, f1, e1⟩ := h'.lo
 obtain ⟨a2, f2, e2⟩ := h'.hi
 have h1 := h.all a1 (sub a1 f1).1
 have h2 := h.all a2 (sub a2 f2).1
 rw [← (sub a1 f1).2] at h1
 rw [← (sub a2 f2).2] at h2
 omega
structure AB (y z : aj) : Prop where
  days : z.days = y.days
  bins : z.bins = y.bins
  moves : z.moves = y.moves
  less : ∀ a, eP z (fun _ => true) a → eP y (fun _ => true) a
variable {z : aj}
theorem AB.D (h : AB y z) : z.D = y.D := by unfold aj.D; rw [h.days]
theorem AB.cont (h : AB y z) : dL z a b t = dL y a b t := by unfold dL rC; rw [h.moves]
theorem AB.fits (h : AB y z) (hy : y.bY) (hz : z.bY) (ha : eP z (nth bE) a) : eP y (nth bE) a := (sv hy).2 (h.less a ((sv hz).1 ha))
end
end Go.Proofs.YtelbollidfdcjaaGreat
namespace Go.Proofs.YtelbollidfdcjaaGreat
open Go Go.T
section
variable {y : aj} {b t : Nat} {v : Int} {p q : Int}
end
end Go.Proofs.YtelbollidfdcjaaGreat
namespace Go.Proofs.YtelbollidfdcjaaGreat
open Go Go.T
section
variable {fl : List cB} {a x1 x2 : List Int} {n k : Nat} {v : Int}
end
section
variable {y : aj} {b t : Nat} {v : Int}
end
end Go.Proofs.YtelbollidfdcjaaGreat
namespace Go.Proofs.YtelbollidfdcjaaGreat
open Go Go.T
def dG : List Int → List Int → Nat
  | l :: ls, h :: hs => (h - l + 1).toNat * dG ls hs
  | _, _ => 1
def I1 : List Int → List Int → Nat → List Int
  | l :: ls, h :: hs, k => (l + (k / dG ls hs : Nat)) :: I1 ls hs (k % dG ls hs)
  | _, _, _ => []
def jq : List Int → List Int → List Int → Nat
  | l :: ls, h :: hs, x :: xs => (x - l).toNat * dG ls hs + jq ls hs xs
  | _, _, _ => 0
def sC : List Int → List Int → List Int → Prop
  | [], [], [] => True
  | l :: ls, h :: hs, x :: xs => (l ≤ x ∧ x ≤ h) ∧ sC ls hs xs
  | _, _, _ => False
def jc : List Int → List Int → Prop
  | [], [] => True
  | l :: ls, h :: hs => l ≤ h ∧ jc ls hs
  | _, _ => False
theorem size_pos : ∀ {lo hi : List Int}, jc lo hi → 0 < dG lo hi
  | [], [], _ => Nat.one_pos
  | l :: ls, h :: hs, ⟨h1, h2⟩ => by
    have := size_pos h2
    unfold dG
    exact Nat.mul_pos (by omega) this
theorem yE : ∀ {lo hi x : List Int}, sC lo hi x → x.length = lo.length ∧ hi.length = lo.length
  | [], [], [], _ => ⟨rfl, rfl⟩
  | _ :: _, _ :: _, _ :: _, ⟨_, h⟩ => by have := yE h; simp only [List.length_cons]; omega
theorem Fl : ∀ {lo hi : List Int}, jc lo hi → sC lo hi lo
  | [], [], _ => trivial
  | _ :: _, _ :: _, ⟨h1, h2⟩ => ⟨⟨Int.le_refl _, h1⟩, Fl h2⟩
theorem tw : ∀ {lo hi : List Int} (_ : jc lo hi) {k : Nat}, k < dG lo hi → sC lo hi (I1 lo hi k) ∧ jq lo hi (I1 lo hi k) = k
  | [], [], _, k, hk => ⟨trivial, by unfold dG at hk; show 0 = k; omega⟩
  | l :: ls, h :: hs, ⟨h1, h2⟩, k, hk => by
    have hp := size_pos h2
    unfold dG at hk
    have hq : k / dG ls hs < (h - l + 1).toNat := (Nat.div_lt_iff_lt_mul hp).2 hk
    obtain ⟨g1, g2⟩ := tw h2 (k := k % dG ls hs) (Nat.mod_lt _ hp)
    have hin : l ≤ l + (k / dG ls hs : Nat) ∧ l + (k / dG ls hs : Nat) ≤ h := by
      generalize k / dG ls hs = q at hq
      omega
    refine ⟨⟨hin, g1⟩, ?_⟩
    show (l + (k / dG ls hs : Nat) - l).toNat * dG ls hs + jq ls hs (I1 ls hs (k % dG ls hs)) = k
    rw [g2, show l + ((k / dG ls hs : Nat) : Int) - l = ((k / dG ls hs : Nat) : Int) by omega, Int.toNat_natCast, Nat.mul_comm]
    exact Nat.div_add_mod _ _
theorem oF : ∀ {lo hi x : List Int}, sC lo hi x → jq lo hi x < dG lo hi
  | [], [], [], _ => Nat.one_pos
  | l :: ls, h :: hs, x :: xs, ⟨h1, h2⟩ => by
    have ih := oF h2
    show (x - l).toNat * dG ls hs + jq ls hs xs < (h - l + 1).toNat * dG ls hs
    have : ((x - l).toNat + 1) * dG ls hs ≤ (h - l + 1).toNat * dG ls hs := Nat.mul_le_mul_right _ (by omega)
    rw [Nat.succ_mul] at this; omega
theorem CY : ∀ {lo hi x x' : List Int}, sC lo hi x → sC lo hi x' → jq lo hi x = jq lo hi x' → x = x'
  | [], [], [], [], _, _, _ => rfl
  | l :: ls, h :: hs, x :: xs, x' :: xs', ⟨h1, h2⟩, ⟨h1', h2'⟩, e => by
    have e : (x - l).toNat * dG ls hs + jq ls hs xs = (x' - l).toNat * dG ls hs + jq ls hs xs' := e
    obtain ⟨a, b⟩ := nN (oF h2) (oF h2') e
    rw [CY h2 h2' b]
    congr 1; omega
theorem yI {lo hi x : List Int} (hr : jc lo hi) (h : sC lo hi x) : I1 lo hi (jq lo hi x) = x := by
 obtain ⟨a, b⟩ := tw hr (oF h)
 exact CY a h b
theorem A8 : ∀ {lo hi : List Int}, jc lo hi → jq lo hi lo = 0
  | [], [], _ => rfl
  | l :: ls, h :: hs, ⟨_, h2⟩ => by show (l - l).toNat * dG ls hs + jq ls hs ls = 0; rw [A8 h2, Int.sub_self]; simp
theorem Av : ∀ {lo hi : List Int}, jc lo hi → jq lo hi hi + 1 = dG lo hi
  | [], [], _ => rfl
  | l :: ls, h :: hs, ⟨h1, h2⟩ => by
    have ih := Av h2
    show (h - l).toNat * dG ls hs + jq ls hs hs + 1 = (h - l + 1).toNat * dG ls hs
    rw [show (h - l + 1).toNat = (h - l).toNat + 1 by omega, Nat.succ_mul]; omega
def kV (lo x : List Int) (k : Nat) : List Int := x.take k ++ lo.drop k
theorem y8 : ∀ {lo hi x : List Int} {k : Nat}, jc lo hi → sC lo hi x → k < x.length → x.drop (k + 1) = hi.drop (k + 1) → nth x k ≠ nth hi k →
    sC lo hi ((kV lo x (k + 1)).set k (nth x k + 1)) ∧ jq lo hi ((kV lo x (k + 1)).set k (nth x k + 1)) = jq lo hi x + 1
  | [], [], [], _, _, _, hk, _, _ => absurd hk (Nat.not_lt_zero _)
  | l :: ls, h :: hs, x :: xs, 0, ⟨h1, h2⟩, ⟨h3, h4⟩, _, he, hn => by
    have he : xs = hs := he
    have hn : x ≠ h := hn
    subst he
    refine ⟨⟨⟨by show l ≤ x + 1; omega, by show x + 1 ≤ h; omega⟩, Fl h2⟩, ?_⟩
    show (x + 1 - l).toNat * dG ls xs + jq ls xs ls = (x - l).toNat * dG ls xs + jq ls xs xs + 1
    have := Av h2
    rw [A8 h2, show (x + 1 - l).toNat = (x - l).toNat + 1 by omega, Nat.succ_mul]; omega
  | l :: ls, h :: hs, x :: xs, k + 1, ⟨h1, h2⟩, ⟨h3, h4⟩, hk, he, hn => by
    obtain ⟨a, b⟩ := y8 h2 h4 (k := k) (by simp only [List.length_cons] at hk; omega) he hn
    refine ⟨⟨h3, a⟩, ?_⟩
    show (x - l).toNat * dG ls hs + jq ls hs ((kV ls xs (k + 1)).set k (nth xs k + 1)) = (x - l).toNat * dG ls hs + jq ls hs xs + 1
    rw [b]; omega
section
variable {lo hi x : List Int} {k : Nat}
theorem ON (hr : jc lo hi) (hk : k < dG lo hi) {i : Nat} (hx : I1 lo hi k = x) (hi' : i < x.length) (he : x.drop (i + 1) = hi.drop (i + 1)) (hn : nth x i ≠ nth hi i) : k + 1 < dG lo hi ∧ (kV lo x (i + 1)).set i (nth x i + 1) = I1 lo hi (k + 1) := by
 obtain ⟨a, b⟩ := tw hr hk
 rw [hx] at a b
 obtain ⟨c, d⟩ := y8 hr a hi' he hn
 have := oF c
 rw [d, b] at this
 exact ⟨this, by rw [← yI hr c, d, b]⟩
theorem Nl (hr : jc lo hi) (hk : k < dG lo hi) (he : I1 lo hi k = hi) : k + 1 = dG lo hi := by
 have b := (tw hr hk).2
 rw [he] at b
 rw [← b]; exact Av hr
theorem Np (h : x.length = lo.length) (hk : k ≤ x.length) : (kV lo x k).length = x.length := by
 unfold kV; rw [List.length_append, List.length_take, List.length_drop]; omega
theorem Na (h : x.length = lo.length) : x = kV lo x x.length := by
 unfold kV; rw [List.take_length, List.drop_of_length_le (by omega), List.append_nil]
theorem Nf (hk : k < x.length) : nth (kV lo x (k + 1)) k = nth x k := by
 unfold kV
 rw [hU (by rw [List.length_take]; omega)]
 unfold nth
 rw [List.getD_eq_getElem?_getD, List.getD_eq_getElem?_getD, List.getElem?_take, if_pos (Nat.lt_succ_self k)]
theorem NN (h : x.length = lo.length) (hk : k < x.length) : (kV lo x (k + 1)).set k (nth lo k) = kV lo x k := by
 unfold kV
 have e1 : x.take (k + 1) = x.take k ++ [nth x k] := by rw [gA hk]; exact List.take_succ_eq_append_getElem hk
 have e2 : lo.drop k = nth lo k :: lo.drop (k + 1) := by rw [gA (by omega)]; exact List.drop_eq_getElem_cons (by omega)
 rw [e1, e2, List.append_assoc, List.set_append_right _ _ (by rw [List.length_take]; omega), List.length_take, Nat.min_eq_left (by omega), Nat.sub_self]
 rfl
theorem Kn (h : hi.length = x.length) (hk : k < x.length) (he : x.drop (k + 1) = hi.drop (k + 1)) (hn : nth x k = nth hi k) : x.drop k = hi.drop k := by
 rw [List.drop_eq_getElem_cons hk, List.drop_eq_getElem_cons (show k < hi.length by omega), he, ← gA hk, ← gA (show k < hi.length by omega), hn]
end
def kJ (s : Span) (n : Int) (is : Bool) : Span := if is = true then ⟨min s.lo n, max s.hi n⟩ else ⟨n, n⟩
structure Nx (good : Nat → Prop) (v : Nat → Int) (k : Nat) (s : Span) : Prop where
  lo : ∃ j, j < k ∧ good j ∧ v j = s.lo
  hi : ∃ j, j < k ∧ good j ∧ v j = s.hi
  all : ∀ j, j < k → good j → s.lo ≤ v j ∧ v j ≤ s.hi
theorem Gn {good : Nat → Prop} {v : Nat → Int} {s : Nat → Span} {is : Nat → Bool} {n : Nat} (h0 : is 0 = false) (h1 : ∀ k, k < n → good k → is (k + 1) = true ∧ s (k + 1) = kJ (s k) (v k) (is k)) (h2 : ∀ k, k < n → ¬ good k → is (k + 1) = is k ∧ s (k + 1) = s k) :
    ∀ k, k ≤ n → (is k = true ↔ ∃ j, j < k ∧ good j) ∧ (is k = true → Nx good v k (s k))
  | 0, _ => ⟨⟨fun h => (by rw [h0] at h; cases h), fun ⟨j, hj, _⟩ => absurd hj (Nat.not_lt_zero j)⟩, fun h => by rw [h0] at h; cases h⟩
  | k + 1, hk => by
    obtain ⟨ih1, ih2⟩ := Gn h0 h1 h2 k (by omega)
    by_cases hg : good k
    · obtain ⟨e1, e2⟩ := h1 k (by omega) hg
      refine ⟨⟨fun _ => ⟨k, Nat.lt_succ_self k, hg⟩, fun _ => e1⟩, fun _ => ?_⟩
      rw [e2]
      unfold kJ
      cases e : is k with
      | false =>
        have hno : ∀ j, j < k → ¬ good j := fun j hj hgj => by rw [ih1.2 ⟨j, hj, hgj⟩] at e; cases e
        refine ⟨⟨k, Nat.lt_succ_self k, hg, rfl⟩, ⟨k, Nat.lt_succ_self k, hg, rfl⟩, fun j hj hgj => ?_⟩
        rcases Nat.lt_succ_iff_lt_or_eq.1 hj with h | h
        · exact absurd hgj (hno j h)
        · rw [h]; exact ⟨Int.le_refl _, Int.le_refl _⟩
      | true =>
        obtain ⟨⟨a, ha, ga, ea⟩, ⟨b, hb, gb, eb⟩, hall⟩ := ih2 e
        refine ⟨?_, ?_, fun j hj hgj => ?_⟩
        · show ∃ j, j < k + 1 ∧ good j ∧ v j = min (s k).lo (v k)
          by_cases c : (s k).lo ≤ v k
          · exact ⟨a, by omega, ga, by rw [ea]; omega⟩
          · exact ⟨k, by omega, hg, by omega⟩
        · show ∃ j, j < k + 1 ∧ good j ∧ v j = max (s k).hi (v k)
          by_cases c : v k ≤ (s k).hi
          · exact ⟨b, by omega, gb, by rw [eb]; omega⟩
          · exact ⟨k, by omega, hg, by omega⟩
        · show min (s k).lo (v k) ≤ v j ∧ v j ≤ max (s k).hi (v k)
          rcases Nat.lt_succ_iff_lt_or_eq.1 hj with h | h
          · have := hall j h hgj; omega
          · rw [h]; omega
    · obtain ⟨e1, e2⟩ := h2 k (by omega) hg
      have hne : ∀ j, j < k + 1 → good j → j < k := fun j hj hgj => by
        rcases Nat.lt_succ_iff_lt_or_eq.1 hj with h | h
        · exact h
        · subst h; exact absurd hgj hg
      rw [e1, e2]
      refine ⟨⟨fun h => ?_, fun ⟨j, hj, hgj⟩ => ih1.2 ⟨j, hne j hj hgj, hgj⟩⟩, fun h => ?_⟩
      · obtain ⟨j, hj, hgj⟩ := ih1.1 h; exact ⟨j, by omega, hgj⟩
      · obtain ⟨⟨a, ha, ga, ea⟩, ⟨b, hb, gb, eb⟩, hall⟩ := ih2 h
        exact ⟨⟨a, by omega, ga, ea⟩, ⟨b, by omega, gb, eb⟩, fun j hj hgj => hall j (hne j hj hgj) hgj⟩
end Go.Proofs.YtelbollidfdcjaaGreat
