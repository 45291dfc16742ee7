/- Lemmas: the program and the reference walked, plain laws. -/
import Derived.Test.YtelbollidfdcjaaGreatKc
namespace Go.Proofs.YtelbollidfdcjaaGreat
open Go Go.T
set_option maxHeartbeats 16000000
noncomputable def kV (y : ak) : List Int := (cQ (aQ y (nth bY)) (y.cells + 1) (gZ (aQ y (nth bY)))).2.2
noncomputable def cX (y : ak) : Int := if bL y = 0 then (if (cQ (aQ y (nth bY)) (y.cells + 1) (gZ (aQ y (nth bY)))).2.1 = true then 7 else 0) else bL y
noncomputable def r6 (y : ak) : dY := if cX y = 0 then gB y (kV y) else ⟨[], []⟩
theorem jh : bY.length = 8 := rfl
theorem lU {y : ak} (hr : y.cG) {c : Nat → Bool} : J0 y (aQ y c) (gZ (aQ y c)) := ⟨hr, lP hr, vD hr, fun e => J3 (yI e), j6 hr⟩
section
variable {y : ak}
theorem open_1 (h : ¬ bL y = 0) : bL y = cX y := (if_neg h).symm
theorem wN (h : bL y = 0) (h2 : (cQ (aQ y (nth bY)) (y.cells + 1) (gZ (aQ y (nth bY)))).2.1 = true) : 7 = cX y := by unfold cX; rw [if_pos h, if_pos h2]
theorem open_3 (h : bL y = 0) (h2 : (cQ (aQ y (nth bY)) (y.cells + 1) (gZ (aQ y (nth bY)))).2.1 = false) : 0 = cX y := by unfold cX; rw [if_pos h, if_neg (by rw [h2]; decide)]
theorem eG (h : cX y = 0) : bL y = 0 := by
 by_cases e : bL y = 0
 ·exact e
 rw [← open_1 e] at h; exact absurd h e
theorem AG (h : cX y = 0) : (cQ (aQ y (nth bY)) (y.cells + 1) (gZ (aQ y (nth bY)))).2.1 = false := by
  cases e : (cQ (aQ y (nth bY)) (y.cells + 1) (gZ (aQ y (nth bY)))).2.1 with
  | false => rfl
  | true => rw [← wN (eG h) e] at h; cases h
theorem Dy (hr : y.cG) (h2 : (cQ (aQ y (nth bY)) (y.cells + 1) (gZ (aQ y (nth bY)))).2.1 = false) : gX (aQ y (nth bY)) (y.cells + 1) (cQ (aQ y (nth bY)) (y.cells + 1) (gZ (aQ y (nth bY)))).2.2 := zD (lP hr) (lU hr).inb h2
theorem p7 (h : cX y = 0) : gX (aQ y (nth bY)) (y.cells + 1) (kV y) := Dy (c6 (eG h)) (AG h)
theorem Nh (h : ¬ bL y = 0) : (⟨[], []⟩ : dY) = r6 y := by unfold r6; rw [← open_1 h, if_neg h]
theorem OF (h : bL y = 0) (h2 : (cQ (aQ y (nth bY)) (y.cells + 1) (gZ (aQ y (nth bY)))).2.1 = true) : (⟨[], []⟩ : dY) = r6 y := by unfold r6; rw [← wN h h2]; rfl
theorem Na (h : bL y = 0) (h2 : (cQ (aQ y (nth bY)) (y.cells + 1) (gZ (aQ y (nth bY)))).2.1 = false) : gB y (cQ (aQ y (nth bY)) (y.cells + 1) (gZ (aQ y (nth bY)))).2.2 = r6 y := by unfold r6; rw [if_pos (open_3 h h2).symm]; rfl
theorem x8 {a : dY} (e : ⟨[], []⟩ = a) : iL (Ty.agg [Ty.jI (.slice none 0 0), Ty.jI (.slice none 0 0)]) (yD a) := by subst e; exact EG (ts := mG ⟨[], []⟩) (pU zx (pU zx CQ))
theorem Ck {b : Bool} (h : (!!b) = true) : b = true := by cases b <;> first | rfl | cases h
theorem ET {b : Bool} (h : (!!b) = false) : b = false := by cases b <;> first | rfl | cases h
theorem NB (y : ak) : (cQ (aQ y (nth bY)) (y.cells + 1) (gZ (aQ y (nth bY)))).2.2 = kV y := rfl
end
attribute [local irreducible] aQ gZ Way.hH Way.fin Way.room eR dr ep gQ over bK cM dW eP jj e9 hO kP cQ gK fk fo cq cL gV oy iZ ij jD gk BD yl iE ak.kept ak.cells bL dU bY gB kV cX
attribute [local irreducible] gA eU lH nR gy gl g5 gr g9 nU gx nZ dN fS nJ ff nQ nth fI dQ au dK bodyPost Exit.then Exit.inBlock Code.wp Code.wpIn nY gm oC n9 g7 eM cJ cH bodyPostM dP
set_option maxRecDepth 100000 in
theorem Nf (y : ak) (hs : y.Small) : dK Tryz.prog 47 [dn y] (Ty.kY [yD (r6 y), Ty.int .i64 (cX y)]) := by
 refine ah Tryz.func47 rfl (by decide) Tryz.ntmps47 (by exact Nat.le_of_ble_eq_true rfl) fun w0 M0 => ?_
 refine aE (aA (bD rfl ?_))
 refine bp rfl (by exact List.cons_ne_nil _ _) rfl ?_
 refine bk rfl (aD (aC (aE (aE (aA ?_)))))
 refine aX rfl rfl rfl (by exact Nat.le_of_ble_eq_true rfl) ?_
 refine af (lE y hs) rfl rfl rfl rfl rfl (bk rfl (aD (aC (aE (aA (bG rfl (bB rfl rfl rfl (aD (aC ?_)))))))))
 refine dH rfl (fun hc1 => ?_) (fun hc1 => ?_)
 ·
  refine aE (aA ?_)
  refine dG rfl rfl (by exact List.cons_ne_nil _ _) rfl (by repeat (exact (aV.nil : aV _ _ [] _))) (by exact (rfl : _ = some [_, _])) ?_
  refine bG rfl ?_
  refine bZ rfl rfl (by decide) rfl rfl rfl rfl rfl rfl ?_
  refine bk rfl (aD (aC (ay (aS ?_))))
  refine jk rfl rfl rfl rfl rfl (by decide) rfl rfl rfl ?_ ?_
  all_goals skip
  all_goals first | exact x8 (Nh hc1) | exact az rfl rfl (congrArg (Ty.int .i64) (open_1 hc1))
 refine aq (aC (aE ?_))
 have hck : bL y = 0 := hc1
 have hr := c6 hck
 refine cP mixed rfl ?_
 refine aX rfl rfl rfl (by exact Nat.le_of_ble_eq_true rfl) ?_
 refine af (sG) rfl rfl rfl rfl rfl ?_
 refine dI (res' := Ty.pp (rP y 2000 1000 (aQ y (nth bY)).length (aQ y (nth bY)).length)) [(2000, 23), (1000, 31)] [2000, 1000] [(2000, Cont.vec dg 187 (aQ y (nth bY))), (1000, Cont.vec cy 3 (gZ (aQ y (nth bY))))] (rV y hr bY jh) rfl rfl (aM (aM bU (aT rfl rfl)) (aT rfl rfl)) pre_nil (bg (a := 2000) (b := 23) (by decide) rfl (bh (by decide) rfl) (bg (a := 1000) (b := 31) (by decide) rfl (bh (by decide) rfl) post_nil)) (e8 (aM (aM (aM (aM (aM (aM bU (dZ (by decide))) (dZ (by decide))) (aT rfl rfl)) (aT rfl rfl)) (aT rfl rfl)) (aT rfl rfl))) ?_
 refine LR rfl (aD ?_)
 refine ⟨by kernel_rfl, ?_⟩
 refine aC (aE (aE ?_))
 refine kK (tg := 2000) [(5, Ty.pp (eF y (aQ y (nth bY)) 1000 (aQ y (nth bY)).length))] (by decide) rfl ⟨zl rfl ⟨bF rfl, bF rfl, bF rfl, bF rfl, jc rfl rfl (by decide), bF rfl, trivial⟩, trivial⟩ ?_
 refine aA (jo rfl ?_)
 refine dI [(1000, 1000)] [] [(1000, Cont.vec cy 3 (cQ (aQ y (nth bY)) (y.cells + 1) (gZ (aQ y (nth bY)))).2.2)] (m5 y (aQ y (nth bY)) (gZ (aQ y (nth bY))) (lU hr)) rfl rfl (aM bU (e8 (aM (aM (aM (aM (aM (aM bU (dZ (by exact List.mem_cons_self))) (aT rfl rfl)) (aT rfl rfl)) (aT rfl rfl)) (aT rfl rfl)) (aT rfl rfl)))) (cz (a := 1000) (b := 1000) (by exact List.mem_cons_self) rfl (bh (by exact List.mem_cons_self) rfl) pre_nil) (bg (a := 1000) (b := 1000) (by decide) rfl (bh (by decide) rfl) post_nil) (aT rfl rfl) ?_
 refine eN rfl (aD (aC ?_))
 refine cI rfl (fun hc2 => ?_) (fun hc2 => ?_)
 ·
  refine aE (aA ?_)
  refine dG rfl rfl (by exact List.cons_ne_nil _ _) rfl (by repeat (exact (aV.nil : aV _ _ [] _))) (by exact (rfl : _ = some [_, _])) ?_
  refine bZ rfl rfl (by decide) rfl rfl rfl rfl rfl rfl ?_
  refine bk rfl (aD (aC (ay (aS ?_))))
  refine jk rfl rfl rfl rfl rfl (by decide) rfl rfl rfl ?_ ?_
  all_goals skip
  all_goals first | exact x8 (OF hck (Ck hc2)) | exact az rfl rfl (congrArg (Ty.int .i64) (wN hck (Ck hc2)))
 refine aq (aC (aE ?_))
 have hfe := Dy hr (ET hc2)
 refine kK (tg := 1000) [(5, Ty.pp (mB y (aQ y (nth bY)) (cQ (aQ y (nth bY)) (y.cells + 1) (gZ (aQ y (nth bY)))).2.2))] (by decide) rfl ⟨zl rfl ⟨bF rfl, bF rfl, bF rfl, bF rfl, bF rfl, jc rfl hfe.1.1 (by decide), trivial⟩, trivial⟩ ?_
 refine aA (jo rfl (af (Nm y (nth bY) (cQ (aQ y (nth bY)) (y.cells + 1) (gZ (aQ y (nth bY)))).2.2 hr hfe.1.1) rfl rfl rfl rfl rfl ?_))
 refine bZ rfl rfl (by decide) rfl rfl rfl rfl rfl rfl ?_
 refine bk rfl (aD (aC (ay ?_)))
 refine jk rfl rfl rfl rfl rfl (by decide) rfl rfl rfl ?_ ?_
 all_goals skip
 all_goals first | exact az rfl rfl (congrArg yD (Na hck (ET hc2))) | exact az rfl rfl (congrArg (Ty.int .i64) (open_3 hck (ET hc2)))
set_option maxRecDepth 100000 in
theorem wQ (y : ak) (hs : y.Small) (h : cX y = 0) : eM Tryz.prog 86 [] [] [dn y] [(1000, Cont.vec cy 3 (kV y))] (Ty.kY [Ty.pp (eF y (aQ y (nth bY)) 1000 (aQ y (nth bY)).length), Ty.int .i64 0]) := by
 refine qn Tryz.func86 rfl (by decide) Tryz.ntmps86 (by exact Nat.le_of_ble_eq_true rfl) fun w0 M0 => ?_
 have hck := eG h
 have hr := c6 hck
 have hst := AG h
 refine aE (aA (bD rfl (lq rfl (bk rfl (aD (aC (aE (aE (aA ?_)))))))))
 refine aX rfl rfl rfl (by exact Nat.le_of_ble_eq_true rfl) ?_
 refine af (lE y hs) rfl rfl rfl rfl rfl (bk rfl (aD (aC (aE (aA (bG rfl (bB rfl rfl rfl (aD (aC ?_)))))))))
 refine m7 rfl (by rw [hck]; rfl) ?_
 refine aq (aC (aE (cP mixed rfl ?_)))
 refine aX rfl rfl rfl (by exact Nat.le_of_ble_eq_true rfl) ?_
 refine af (sG) rfl rfl rfl rfl rfl ?_
 refine dI (res' := Ty.pp (rP y 2000 1000 (aQ y (nth bY)).length (aQ y (nth bY)).length)) [(2000, 23), (1000, 31)] [2000, 1000] [(2000, Cont.vec dg 187 (aQ y (nth bY))), (1000, Cont.vec cy 3 (gZ (aQ y (nth bY))))] (rV y hr bY jh) rfl rfl (aM (aM bU (aT rfl rfl)) (aT rfl rfl)) pre_nil (bg (a := 2000) (b := 23) (by decide) rfl (bh (by decide) rfl) (bg (a := 1000) (b := 31) (by decide) rfl (bh (by decide) rfl) post_nil)) (e8 (aM (aM (aM (aM (aM (aM bU (dZ (by decide))) (dZ (by decide))) (aT rfl rfl)) (aT rfl rfl)) (aT rfl rfl)) (aT rfl rfl))) ?_
 refine LR rfl (aD ?_)
 refine ⟨by kernel_rfl, ?_⟩
 refine aC (aE (aE ?_))
 refine kK (tg := 2000) [(5, Ty.pp (eF y (aQ y (nth bY)) 1000 (aQ y (nth bY)).length))] (by decide) rfl ⟨zl rfl ⟨bF rfl, bF rfl, bF rfl, bF rfl, jc rfl rfl (by decide), bF rfl, trivial⟩, trivial⟩ ?_
 refine aA (jo rfl ?_)
 refine dI [(1000, 1000)] [] [(1000, Cont.vec cy 3 (cQ (aQ y (nth bY)) (y.cells + 1) (gZ (aQ y (nth bY)))).2.2)] (m5 y (aQ y (nth bY)) (gZ (aQ y (nth bY))) (lU hr)) rfl rfl (aM bU (e8 (aM (aM (aM (aM (aM (aM bU (dZ (by exact List.mem_cons_self))) (aT rfl rfl)) (aT rfl rfl)) (aT rfl rfl)) (aT rfl rfl)) (aT rfl rfl)))) (cz (a := 1000) (b := 1000) (by exact List.mem_cons_self) rfl (bh (by exact List.mem_cons_self) rfl) pre_nil) (bg (a := 1000) (b := 1000) (by decide) rfl (bh (by decide) rfl) post_nil) (aT rfl rfl) ?_
 refine eN rfl (aD (aC ?_))
 refine m7 rfl (by rw [hst]; rfl) ?_
 refine aq (aC (aE (aA (jo rfl (LR rfl (bk rfl (aD (aC (ay ?_)))))))))
 refine JX rfl ?_
 refine Ah [1000] rfl rfl rfl (by decide) ?_ ?_ ?_
 ·exact eC rfl (bh (by decide) (NB y)) gE
 all_goals first | exact iO (aT rfl rfl) | skip
 all_goals exact iO (e8 (aM (aM (aM (aM (aM (aM bU (dZ (by decide))) (aT rfl rfl)) (aT rfl rfl)) (aT rfl rfl)) (aT rfl rfl)) (aT rfl rfl)))
set_option maxRecDepth 100000 in
theorem oY (y : ak) (hs : y.Small) (h : cX y ≠ 0) : dK Tryz.prog 86 [dn y] (Ty.kY [Ty.ex (.pointer none), Ty.int .i64 (cX y)]) := by
 refine ah Tryz.func86 rfl (by decide) Tryz.ntmps86 (by exact Nat.le_of_ble_eq_true rfl) fun w0 M0 => ?_
 refine aE (aA (bD rfl (lq rfl (bk rfl (aD (aC (aE (aE (aA ?_)))))))))
 refine aX rfl rfl rfl (by exact Nat.le_of_ble_eq_true rfl) ?_
 refine af (lE y hs) rfl rfl rfl rfl rfl (bk rfl (aD (aC (aE (aA (bG rfl (bB rfl rfl rfl (aD (aC ?_)))))))))
 refine dH rfl (fun hc1 => ?_) (fun hc1 => ?_)
 ·
  refine aE (aA (bG rfl (lq rfl (bk rfl (aD (aC (ay (aS ?_))))))))
  refine fV rfl rfl rfl ?_ ?_
  all_goals first | exact b9 rfl rfl | skip
  all_goals exact az rfl rfl (congrArg (Ty.int .i64) (open_1 hc1))
 refine aq (aC (aE ?_))
 have hck : bL y = 0 := hc1
 have hr := c6 hck
 refine cP mixed rfl ?_
 refine aX rfl rfl rfl (by exact Nat.le_of_ble_eq_true rfl) ?_
 refine af (sG) rfl rfl rfl rfl rfl ?_
 refine dI (res' := Ty.pp (rP y 2000 1000 (aQ y (nth bY)).length (aQ y (nth bY)).length)) [(2000, 23), (1000, 31)] [2000, 1000] [(2000, Cont.vec dg 187 (aQ y (nth bY))), (1000, Cont.vec cy 3 (gZ (aQ y (nth bY))))] (rV y hr bY jh) rfl rfl (aM (aM bU (aT rfl rfl)) (aT rfl rfl)) pre_nil (bg (a := 2000) (b := 23) (by decide) rfl (bh (by decide) rfl) (bg (a := 1000) (b := 31) (by decide) rfl (bh (by decide) rfl) post_nil)) (e8 (aM (aM (aM (aM (aM (aM bU (dZ (by decide))) (dZ (by decide))) (aT rfl rfl)) (aT rfl rfl)) (aT rfl rfl)) (aT rfl rfl))) ?_
 refine LR rfl (aD ?_)
 refine ⟨by kernel_rfl, ?_⟩
 refine aC (aE (aE ?_))
 refine kK (tg := 2000) [(5, Ty.pp (eF y (aQ y (nth bY)) 1000 (aQ y (nth bY)).length))] (by decide) rfl ⟨zl rfl ⟨bF rfl, bF rfl, bF rfl, bF rfl, jc rfl rfl (by decide), bF rfl, trivial⟩, trivial⟩ ?_
 refine aA (jo rfl ?_)
 refine dI [(1000, 1000)] [] [(1000, Cont.vec cy 3 (cQ (aQ y (nth bY)) (y.cells + 1) (gZ (aQ y (nth bY)))).2.2)] (m5 y (aQ y (nth bY)) (gZ (aQ y (nth bY))) (lU hr)) rfl rfl (aM bU (e8 (aM (aM (aM (aM (aM (aM bU (dZ (by exact List.mem_cons_self))) (aT rfl rfl)) (aT rfl rfl)) (aT rfl rfl)) (aT rfl rfl)) (aT rfl rfl)))) (cz (a := 1000) (b := 1000) (by exact List.mem_cons_self) rfl (bh (by exact List.mem_cons_self) rfl) pre_nil) (bg (a := 1000) (b := 1000) (by decide) rfl (bh (by decide) rfl) post_nil) (aT rfl rfl) ?_
 refine eN rfl (aD (aC ?_))
 refine cI rfl (fun hc2 => ?_) (fun hc2 => ?_)
 ·
  refine aE (aA (lq rfl (bk rfl (aD (aC (ay (aS ?_)))))))
  refine fV rfl rfl rfl ?_ ?_
  all_goals first | exact b9 rfl rfl | skip
  all_goals exact az rfl rfl (congrArg (Ty.int .i64) (wN hck (Ck hc2)))
 refine aq (aC (aE (aA (jo rfl (LR rfl (bk rfl (aD (aC (ay ?_)))))))))
 refine fV rfl rfl rfl ?_ ?_
 all_goals skip
 all_goals exact absurd (open_3 hck (ET hc2)).symm h
end Go.Proofs.YtelbollidfdcjaaGreat
namespace Go.Proofs.YtelbollidfdcjaaGreat
open Go Go.T
set_option maxHeartbeats 16000000
def tK (k : Nat) (i : Nat) : Bool := decide ((i : Int) = (k : Int))
def hasB (y : ak) (b t : Nat) : Nat → Bool := tK (y.kept b t)
noncomputable def oN (fl : List bu) (n : Nat) (y : ak) (b : Nat) (a : List Int) : Nat → List Int
  | 0 => a
  | t + 1 => yl fl n (hasB y b t) (oN fl n y b a t)
noncomputable def qR (fl : List bu) (n : Nat) (y : ak) (b k : Nat) : List Span := (List.range k).map fun t => gk fl n (hasB y b t)
noncomputable def iW (y : ak) (b : Int) : Int := if dU y b = 0 then cX y else dU y b
noncomputable def iH (y : ak) (b : Int) : List Span := if iW y b = 0 then qR (aQ y (nth bY)) (y.cells + 1) y b.toNat (y.D + 1) else []
def L4 (y : ak) (k : Int) : Int := if bL y = 0 then (if (decide (k ≥ 0) && decide (k ≤ (y.moves.length : Int) - 1)) = true then 0 else 1) else bL y
noncomputable def kJ (y : ak) (k : Int) : Int := if L4 y k = 0 then cX y else L4 y k
noncomputable def mT (y : ak) (k : Int) : Span := if kJ y k = 0 then gk (aQ y (nth bY)) (y.cells + 1) (tK (y.bins.length * (y.D + 1) + k.toNat)) else ⟨0, 0⟩
theorem s7 {y : ak} (h : cX y = 0) : lN y (aQ y (nth bY)) (kV y) := ⟨c6 (eG h), lP (c6 (eG h)), vD (c6 (eG h)), (p7 h).1, j6 (c6 (eG h))⟩
section
variable {y : ak} {fl : List bu} {a : List Int} {n b k : Nat} {q : Int}
theorem Ar (hN : Net fl n) (hn : 0 < n) (hB : Bd fl) (h : gX fl n a) : ∀ t, gX fl n (oN fl n y b a t)
  | 0 => h
  | t + 1 => (rm hN hn hB (Ar hN hn hB h t)).2.1
theorem Hu : a = oN fl n y b a 0 := rfl
theorem Ik (t : Nat) : yl fl n (hasB y b t) (oN fl n y b a t) = oN fl n y b a (t + 1) := rfl
theorem F5 (t : Nat) : qR fl n y b t ++ [gk fl n (hasB y b t)] = qR fl n y b (t + 1) := by unfold qR; rw [List.range_succ, List.map_append]; rfl
theorem KX (t : Nat) : (qR fl n y b t).length = t := by unfold qR; rw [List.length_map, List.length_range]
theorem GK : qR fl n y b 0 = [] := rfl
theorem BZ {T tg : Nat} {xs : List Span} (h : xs = []) : (Ty.ex (.slice none 0 0)).Sub (Ty.row bl T tg xs) := by subst h; exact Ty.gq
theorem MC (k : Nat) (i : Nat) : decide ((i : Int) = (k : Int)) = tK k i := rfl
theorem Lo (b t i : Nat) : decide ((i : Int) = ((y.kept b t : Nat) : Int)) = hasB y b t i := rfl
theorem zZ (h : ¬ dU y q = 0) : dU y q = iW y q ∧ [] = iH y q := by
 have e : dU y q = iW y q := (if_neg h).symm
 exact ⟨e, by unfold iH; rw [← e, if_neg h]⟩
theorem Hw (h : dU y q = 0) (ho : cX y ≠ 0) : cX y = iW y q ∧ [] = iH y q := by
 have e : cX y = iW y q := (if_pos h).symm
 exact ⟨e, by unfold iH; rw [← e, if_neg ho]⟩
theorem zo (h : dU y q = 0) (ho : cX y = 0) : 0 = iW y q ∧ qR (aQ y (nth bY)) (y.cells + 1) y q.toNat (y.D + 1) = iH y q := by
 have e : cX y = iW y q := (if_pos h).symm
 exact ⟨by rw [← e, ho], by unfold iH; rw [← e, if_pos ho]⟩
theorem GX (h : dU y q = 0) : 0 ≤ q ∧ q < y.bins.length := by
 unfold dU at h
 by_cases e : bL y = 0
 ·rw [if_pos e] at h
  by_cases c : y.bin q = true
  ·unfold ak.bin x6 at c
   rw [Bool.and_eq_true, decide_eq_true_eq, decide_eq_true_eq] at c; omega
  rw [if_neg c] at h; cases h
 rw [if_neg e] at h; exact absurd h e
theorem FH (h : ¬ bL y = 0) : bL y = kJ y q ∧ (⟨0, 0⟩ : Span) = mT y q := by
 have e1 : L4 y q = bL y := if_neg h
 have e : bL y = kJ y q := by unfold kJ; rw [e1, if_neg h]
 exact ⟨e, by unfold mT; rw [← e, if_neg h]⟩
theorem EH (h : bL y = 0) (h2 : (!(decide (q ≥ 0) && decide (q ≤ (y.moves.length : Int) - 1))) = true) : 1 = kJ y q ∧ (⟨0, 0⟩ : Span) = mT y q := by
 have e1 : L4 y q = 1 := by unfold L4; rw [if_pos h, if_neg (by rw [nA h2]; decide)]
 have e : 1 = kJ y q := by unfold kJ; rw [e1]; rfl
 exact ⟨e, by unfold mT; rw [← e]; rfl⟩
theorem EU (h2 : (!(decide (q ≥ 0) && decide (q ≤ (y.moves.length : Int) - 1))) = false) : 0 ≤ q ∧ q < y.moves.length := by
 have := eX h2
 rw [Bool.and_eq_true, decide_eq_true_eq, decide_eq_true_eq] at this; omega
theorem Mp (h : bL y = 0) (h2 : (!(decide (q ≥ 0) && decide (q ≤ (y.moves.length : Int) - 1))) = false) (ho : cX y ≠ 0) : cX y = kJ y q ∧ (⟨0, 0⟩ : Span) = mT y q := by
 have e1 : L4 y q = 0 := by unfold L4; rw [if_pos h, if_pos (eX h2)]
 have e : cX y = kJ y q := by unfold kJ; rw [e1]; rfl
 exact ⟨e, by unfold mT; rw [← e, if_neg ho]⟩
theorem En (h : bL y = 0) (h2 : (!(decide (q ≥ 0) && decide (q ≤ (y.moves.length : Int) - 1))) = false) (ho : cX y = 0) : 0 = kJ y q ∧ gk (aQ y (nth bY)) (y.cells + 1) (tK (y.bins.length * (y.D + 1) + q.toNat)) = mT y q := by
 have e1 : L4 y q = 0 := by unfold L4; rw [if_pos h, if_pos (eX h2)]
 have e : cX y = kJ y q := by unfold kJ; rw [e1]; rfl
 exact ⟨by rw [← e, ho], by unfold mT; rw [← e, if_pos ho]⟩
end
attribute [local irreducible] aQ gZ Way.hH Way.fin Way.room eR dr ep gQ over bK cM dW eP jj e9 hO kP cQ gK fk fo cq cL gV oy iZ ij jD gk BD yl iE ak.kept ak.cells bL dU bY gB kV cX oN qR iW iH kJ mT hasB tK
attribute [local irreducible] gA eU lH nR gy gl g5 gr g9 nU gx nZ dN fS nJ ff nQ nth fI dQ au dK bodyPost Exit.then Exit.inBlock Code.wp Code.wpIn nY gm oC n9 g7 eM cJ cH bodyPostM dP
set_option maxRecDepth 100000 in
theorem F8 (f k : Int) : dK Tryz.prog 165 [Ty.int .i64 f, Ty.pp [Ty.int .i64 k]] (Ty.bool (decide (f = k))) := by
 refine ah Tryz.func165 rfl (by decide) Tryz.ntmps165 (by exact Nat.le_of_ble_eq_true rfl) fun w0 M0 => ?_
 refine aE (aA (dA rfl (aD (aC (aE (aA (bG rfl (aI rfl rfl rfl rfl (bB rfl rfl rfl ?_)))))))))
 refine dA rfl (aD (aC (ay (bP rfl rfl ?_))))
 all_goals exact b9 rfl rfl
set_option maxRecDepth 100000 in
theorem I2 (y : ak) (fl : List bu) (a : List Int) (h : lN y fl a) (hfe : gX fl (y.cells + 1) a) (b : Nat) (hb : b < y.bins.length) : eM Tryz.prog 91 [1000] [(1000, Cont.vec cy 3 a)] [Ty.pp (eF y fl 1000 fl.length), Ty.int .i64 ((b : Nat) : Int)] [(1000, Cont.vec cy 3 (oN fl (y.cells + 1) y b a (y.D + 1)))] (Ty.sl bl (qR fl (y.cells + 1) y b (y.D + 1))) := by
 refine fL Tryz.func91 rfl (by decide) Tryz.ntmps91 (by exact Nat.le_of_ble_eq_true rfl) fun w0 M0 => ?_
 have h1 := h.right.bins
 have h2 := h.right.days
 have h3 := D_eq h.right
 have hft := Ar (y := y) (b := b) h.net (Nat.succ_pos _) h.bd hfe
 refine aE (aA (lq rfl (aD (aC (aE (aA (lq rfl (aD (aC ?_)))))))))
 refine aE (aE (aA (jo rfl (bq rfl ?_))))
 refine aH rfl rfl rfl rfl rfl (by decide) ?_
 refine aH rfl rfl rfl rfl rfl (by decide) ?_
 refine aI rfl rfl rfl rfl ?_
 refine cA rfl rfl (by omega) (by omega) ?_
 refine bG rfl (aD (aC (aZ ?_)))
 refine cF (fun (t : {t : Nat // t ≤ y.D + 1}) => live [(0, Ty.pp (eF y fl 1000 fl.length)), (1, Ty.int .i64 ((b : Nat) : Int)), (5, Ty.row bl 37 26 (qR fl (y.cells + 1) y b t.1)), (13, Ty.int .i64 (y.days + 1)), (14, Ty.int .i64 (t.1 : Nat))] [(1000, Cont.vec cy 3 (oN fl (y.cells + 1) y b a t.1))]) (fun t => y.D + 1 - t.1) (⟨0, by omega⟩) ?_ fun t => ?_
 ·(refine cx.mk' ?_ ?_ <;> (repeat' (first | exact aJ | exact aK | refine aB ?_ (Ty.aU _) | refine aB ?_ (Ty.aF _) | refine aG rfl ?_ ?_ | refine aB ?_ ?_)))
  all_goals first | exact BZ GK | exact Cont.cr Hu
 have hbl := KX (fl := fl) (n := (y.cells + 1)) (y := y) (b := b) t.1
 have ht := t.2
 have hFt : lN y fl (oN fl (y.cells + 1) y b a t.1) := ⟨h.right, h.net, h.bd, (hft t.1).1, h.qb⟩
 refine aE (aA (bB rfl rfl rfl (aD (aC (aE ?_)))))
 refine aj rfl (fun hc1 => ?_) (fun hc1 => ?_)
 ·
  refine aq (aC (aE (aZ (aE (aA (bG rfl (bk rfl (aD (aC ?_)))))))))
  refine aE (aA (jo rfl (bG rfl (bG rfl ?_))))
  refine eI [] (Cv y h.right b t.1 hb (by omega)) rfl (aW (mV (l1 := bH y) (l2 := [Ty.sl dg fl, Ty.vs 1000 fl.length]) rfl rfl) (aW (bT (bR rfl rfl)) (aW (bT (bR rfl rfl)) cN))) (by exact dX _ _) ?_
  refine bp rfl (by exact List.cons_ne_nil _ _) rfl ?_
  refine cm rfl rfl (by decide) rfl rfl (by exact (rfl : _ = Ty.int _ _)) rfl (by exact Nat.le_of_ble_eq_true rfl) rfl rfl (by exact (rfl : _ = [_])) ?_
  refine aD (aC ?_)
  refine kK (tg := 8) [(7, Ty.pp [Ty.int .i64 ((y.kept b t.1 : Nat) : Int)])] (by decide) rfl ⟨l8 (T := 3) (off := 0) (l := [Ty.int .i64 ((y.kept b t.1 : Nat) : Int)]) rfl rfl rfl (by decide), trivial⟩ ?_
  refine aA (GR rfl (jo rfl (dL rfl ?_)))
  refine dI [(1000, 1000)] [] [(1000, Cont.vec cy 3 (yl fl (y.cells + 1) (hasB y b t.1) (oN fl (y.cells + 1) y b a t.1)))] (DG y fl (oN fl (y.cells + 1) y b a t.1) hFt (hft t.1) (Ty.ju 165 [Ty.pp [Ty.int .i64 ((y.kept b t.1 : Nat) : Int)]]) rfl rfl (hasB y b t.1) (fun i _ => by rw [← Lo]; exact dS (F8 (i : Nat) _) rfl rfl rfl rfl rfl rfl) rfl) rfl rfl (aM (aM bU (aT rfl rfl)) (e8 (aM (aM (aM (aM (aM (aM bU (dZ (by exact List.mem_cons_self))) (aT rfl rfl)) (aT rfl rfl)) (aT rfl rfl)) (aT rfl rfl)) (aT rfl rfl)))) (cz (a := 1000) (b := 1000) (by exact List.mem_cons_self) rfl (bh (by exact List.mem_cons_self) rfl) pre_nil) (bg (a := 1000) (b := 1000) (by decide) rfl (bh (by decide) rfl) post_nil) (aT rfl rfl) ?_
  refine bW (E := bl) (xs := [gk fl (y.cells + 1) (hasB y b t.1)]) rfl rfl rfl rfl rfl (by decide) (by decide) (by repeat (first | exact (aV.nil : aV _ _ [] _) | (show aV _ _ ((_, _) :: _) _; apply aV.agg; (· exact (rfl : _ = Ty.agg _))))) (by exact rfl) rfl ?_
  refine dw rfl rfl (by decide) rfl rfl rfl rfl rfl rfl (by decide) (by (simp <;> omega)) (by (simp <;> omega)) ?_
  refine Aj rfl (aD (bI (aC (aA ?_))))
  refine cA rfl rfl (by omega) (by omega) ?_
  refine bG rfl (aD ?_)
  refine bO (⟨t.1 + 1, by omega⟩) ?_ (by show y.D + 1 - (t.1 + 1) < y.D + 1 - t.1; omega)
  (refine cx.mk' ?_ ?_ <;> (repeat' (first | exact aJ | exact aK | refine aB ?_ (Ty.aU _) | refine aB ?_ (Ty.aF _) | refine aG rfl ?_ ?_ | refine aB ?_ ?_)))
  all_goals skip
  all_goals first | exact Ty.fH (F5 _) | exact Cont.cr (Ik _)
 refine cE (aP (aP (aa rfl (aC (aE (aA (GR rfl (Aj rfl (aD ?_)))))))))
 refine aC (ay ?_)
 refine iX [1000] rfl rfl (by decide) ?_ ?_
 ·exact eC rfl (bh (by decide) (by rw [show t.1 = y.D + 1 by have := t.2; omega])) gE
 all_goals skip
 all_goals exact Iv (by decide) rfl (by rw [show t.1 = y.D + 1 by have := t.2; omega])
set_option maxRecDepth 100000 in
theorem Ao (y : ak) (hs : y.Small) (q : Int) (ho : cX y ≠ 0) : dK Tryz.prog 22 [dn y, Ty.int .i64 q] (Ty.kY [Ty.sl bl (iH y q), Ty.int .i64 (iW y q)]) := by
 refine ah Tryz.func22 rfl (by decide) Tryz.ntmps22 (by exact Nat.le_of_ble_eq_true rfl) fun w0 M0 => ?_
 refine aE (aA (bD rfl (lq rfl (bk rfl (aD (aC (aE (aE (aA ?_)))))))))
 refine aX rfl rfl rfl (by exact Nat.le_of_ble_eq_true rfl) ?_
 refine bG rfl (af (AO y hs q) rfl rfl rfl rfl rfl (bk rfl (aD (aC (aE (aA (bG rfl (bB rfl rfl rfl (aD ?_)))))))))
 refine aC ?_
 refine dH rfl (fun hc1 => ?_) (fun hc1 => ?_)
 ·
  refine aE (aA (bG rfl (lq rfl (bk rfl (aD (aC (ay (aS ?_))))))))
  refine fV rfl rfl rfl ?_ ?_
  all_goals skip
  all_goals first | exact gG (zZ hc1).2.symm | exact az rfl rfl (congrArg (Ty.int .i64) (zZ hc1).1)
 refine aq (aC (aE (aA ?_)))
 refine aX rfl rfl rfl (by exact Nat.le_of_ble_eq_true rfl) ?_
 refine af (oY y hs ho) rfl rfl rfl rfl rfl (uH rfl (bQ rfl rfl (bQ rfl rfl (lq rfl (bk rfl (aD (aC (aE (aE ?_)))))))))
 refine aA (bG rfl (bB rfl rfl rfl (aD (aC ?_))))
 refine qE rfl (by rw [decide_eq_false ho]; rfl) ?_
 refine aE (aA (bG rfl (lq rfl (bk rfl (aD (aC (ay (aS ?_))))))))
 refine fV rfl rfl rfl ?_ ?_
 all_goals skip
 all_goals first | exact gG (Hw hc1 ho).2.symm | exact az rfl rfl (congrArg (Ty.int .i64) (Hw hc1 ho).1)
set_option maxRecDepth 100000 in
theorem BW (y : ak) (hs : y.Small) (q : Int) (ho : cX y = 0) : dK Tryz.prog 22 [dn y, Ty.int .i64 q] (Ty.kY [Ty.sl bl (iH y q), Ty.int .i64 (iW y q)]) := by
 refine ah Tryz.func22 rfl (by decide) Tryz.ntmps22 (by exact Nat.le_of_ble_eq_true rfl) fun w0 M0 => ?_
 have hck := eG ho
 have hr := c6 hck
 have hF : lN y (aQ y (nth bY)) (kV y) := s7 ho
 have hfe := p7 ho
 refine aE (aA (bD rfl (lq rfl (bk rfl (aD (aC (aE (aE (aA ?_)))))))))
 refine aX rfl rfl rfl (by exact Nat.le_of_ble_eq_true rfl) ?_
 refine bG rfl (af (AO y hs q) rfl rfl rfl rfl rfl (bk rfl (aD (aC (aE (aA (bG rfl (bB rfl rfl rfl (aD ?_)))))))))
 refine aC ?_
 refine dH rfl (fun hc1 => ?_) (fun hc1 => ?_)
 ·
  refine aE (aA (bG rfl (lq rfl (bk rfl (aD (aC (ay (aS ?_))))))))
  refine fV rfl rfl rfl ?_ ?_
  all_goals skip
  all_goals first | exact gG (zZ hc1).2.symm | exact az rfl rfl (congrArg (Ty.int .i64) (zZ hc1).1)
 refine aq (aC (aE (aA ?_)))
 refine aX rfl rfl rfl (by exact Nat.le_of_ble_eq_true rfl) ?_
 refine dI (res' := Ty.kY [Ty.pp (eF y (aQ y (nth bY)) 1000 (aQ y (nth bY)).length), Ty.int .i64 0]) [(1000, 1000)] [1000] [(1000, Cont.vec cy 3 (kV y))] (wQ y hs ho) rfl rfl (aM bU (aT rfl rfl)) pre_nil (bg (a := 1000) (b := 1000) (by decide) rfl (bh (by decide) rfl) post_nil) (DY (aM (aM bU (aT rfl rfl)) (e8 (aM (aM (aM (aM (aM (aM bU (dZ (by decide))) (aT rfl rfl)) (aT rfl rfl)) (aT rfl rfl)) (aT rfl rfl)) (aT rfl rfl))))) ?_
 refine uH rfl (bQ rfl rfl (bQ rfl rfl (LR rfl (bk rfl (aD (aC (aE (aE (aA ?_)))))))))
 refine bG rfl (bB rfl rfl rfl (aD (aC (m7 rfl (rfl) (aq (aC (aE ?_)))))))
 have hq := GX hc1
 have hqn : ((q.toNat : Nat) : Int) = q := by omega
 refine iV (s := 1) rfl (Ty.bE hqn.symm) ?_
 refine aA (jo rfl (bG rfl ?_))
 refine dI [(1000, 1000)] [] [(1000, Cont.vec cy 3 (oN (aQ y (nth bY)) (y.cells + 1) y q.toNat (kV y) (y.D + 1)))] (I2 y (aQ y (nth bY)) (kV y) hF hfe q.toNat (by omega)) rfl rfl (aM (aM bU (aT rfl rfl)) (e8 (aM (aM (aM (aM (aM (aM bU (dZ (by exact List.mem_cons_self))) (aT rfl rfl)) (aT rfl rfl)) (aT rfl rfl)) (aT rfl rfl)) (aT rfl rfl)))) (cz (a := 1000) (b := 1000) (by exact List.mem_cons_self) rfl (bh (by exact List.mem_cons_self) rfl) pre_nil) (bg (a := 1000) (b := 1000) (by decide) rfl (bh (by decide) rfl) post_nil) (aT rfl rfl) ?_
 refine Ez rfl (bk rfl (aD (aC (ay ?_))))
 refine fV rfl rfl rfl ?_ ?_
 all_goals skip
 all_goals first | exact az rfl rfl (congrArg (Ty.sl bl) (zo hc1 ho).2) | exact az rfl rfl (congrArg (Ty.int .i64) (zo hc1 ho).1)
set_option maxRecDepth 100000 in
theorem Km (f k : Int) : dK Tryz.prog 121 [Ty.int .i64 f, Ty.pp [Ty.int .i64 k]] (Ty.bool (decide (f = k))) := by
 refine ah Tryz.func121 rfl (by decide) Tryz.ntmps121 (by exact Nat.le_of_ble_eq_true rfl) fun w0 M0 => ?_
 refine aE (aA (dA rfl (aD (aC (aE (aA (bG rfl (aI rfl rfl rfl rfl (bB rfl rfl rfl ?_)))))))))
 refine dA rfl (aD (aC (ay (bP rfl rfl ?_))))
 all_goals exact b9 rfl rfl
set_option maxRecDepth 100000 in
theorem DH (y : ak) (hs : y.Small) (q : Int) (ho : cX y ≠ 0) : dK Tryz.prog 48 [dn y, Ty.int .i64 q] (Ty.kY [Ty.agg (bl.tys (mT y q)), Ty.int .i64 (kJ y q)]) := by
 refine ah Tryz.func48 rfl (by decide) Tryz.ntmps48 (by exact Nat.le_of_ble_eq_true rfl) fun w0 M0 => ?_
 have hsm := hs.moves
 refine aE (aA (bD rfl ?_))
 refine bp rfl (by exact List.cons_ne_nil _ _) rfl ?_
 refine bk rfl (aD (aC (aE (aE (aA ?_)))))
 refine aX rfl rfl rfl (by exact Nat.le_of_ble_eq_true rfl) ?_
 refine af (lE y hs) rfl rfl rfl rfl rfl (bk rfl (aD (aC (aE (aA (bG rfl (bB rfl rfl rfl (aD (aC ?_)))))))))
 refine dH rfl (fun hc1 => ?_) (fun hc1 => ?_)
 ·
  refine aE (aA ?_)
  refine dG rfl rfl (by exact List.cons_ne_nil _ _) rfl (by repeat (exact (aV.nil : aV _ _ [] _))) (by exact (rfl : _ = some [_, _])) ?_
  refine bG rfl ?_
  refine bZ rfl rfl (by decide) rfl rfl rfl rfl rfl rfl ?_
  refine bk rfl (aD (aC (ay (aS ?_))))
  refine jk rfl rfl rfl rfl rfl (by decide) rfl rfl rfl ?_ ?_
  all_goals skip
  all_goals first | exact az rfl rfl (congrArg (fun s => Ty.agg (bl.tys s)) (FH hc1).2) | exact az rfl rfl (congrArg (Ty.int .i64) (FH hc1).1)
 refine aq (aC (aE (aE (aA (bG rfl ?_)))))
 refine aH rfl rfl rfl rfl rfl (by decide) ?_
 refine aI rfl rfl rfl rfl (cK rfl rfl rfl ?_)
 refine gR rfl rfl (by omega) (by omega) ?_
 refine af (uX _ _ _) rfl rfl rfl rfl rfl (eN rfl (aD (aC ?_)))
 refine cI rfl (fun hc2 => ?_) (fun hc2 => ?_)
 ·
  refine aE (aA ?_)
  refine dG rfl rfl (by exact List.cons_ne_nil _ _) rfl (by repeat (exact (aV.nil : aV _ _ [] _))) (by exact (rfl : _ = some [_, _])) ?_
  refine bZ rfl rfl (by decide) rfl rfl rfl rfl rfl rfl ?_
  refine bk rfl (aD (aC (ay (aS ?_))))
  refine jk rfl rfl rfl rfl rfl (by decide) rfl rfl rfl ?_ ?_
  all_goals skip
  all_goals first | exact az rfl rfl (congrArg (fun s => Ty.agg (bl.tys s)) (EH hc1 hc2).2) | exact az rfl rfl (congrArg (Ty.int .i64) (EH hc1 hc2).1)
 refine aq (aC (aE (aA ?_)))
 refine aX rfl rfl rfl (by exact Nat.le_of_ble_eq_true rfl) ?_
 refine af (oY y hs ho) rfl rfl rfl rfl rfl (uH rfl (bQ rfl rfl (bQ rfl rfl (lq rfl (bk rfl (aD (aC (aE (aE ?_)))))))))
 refine aA (bG rfl (bB rfl rfl rfl (aD (aC ?_))))
 refine qE rfl (by rw [decide_eq_false ho]; rfl) ?_
 refine aE (aA ?_)
 refine dG rfl rfl (by exact List.cons_ne_nil _ _) rfl (by repeat (exact (aV.nil : aV _ _ [] _))) (by exact (rfl : _ = some [_, _])) ?_
 refine bG rfl ?_
 refine bZ rfl rfl (by decide) rfl rfl rfl rfl rfl rfl ?_
 refine bk rfl (aD (aC (ay (aS ?_))))
 refine jk rfl rfl rfl rfl rfl (by decide) rfl rfl rfl ?_ ?_
 all_goals skip
 all_goals first | exact az rfl rfl (congrArg (fun s => Ty.agg (bl.tys s)) (Mp hc1 hc2 ho).2) | exact az rfl rfl (congrArg (Ty.int .i64) (Mp hc1 hc2 ho).1)
set_option maxRecDepth 100000 in
theorem C2 (y : ak) (hs : y.Small) (q : Int) (ho : cX y = 0) : dK Tryz.prog 48 [dn y, Ty.int .i64 q] (Ty.kY [Ty.agg (bl.tys (mT y q)), Ty.int .i64 (kJ y q)]) := by
 refine ah Tryz.func48 rfl (by decide) Tryz.ntmps48 (by exact Nat.le_of_ble_eq_true rfl) fun w0 M0 => ?_
 have hck := eG ho
 have hr := c6 hck
 have hF : lN y (aQ y (nth bY)) (kV y) := s7 ho
 have hfe := p7 ho
 have hsm := hs.moves
 have hfl := fF (y := y) (c := nth bY)
 have hf34 : (aQ y (nth bY)).length ≤ 34 := j6 hr
 refine aE (aA (bD rfl ?_))
 refine bp rfl (by exact List.cons_ne_nil _ _) rfl ?_
 refine bk rfl (aD (aC (aE (aE (aA ?_)))))
 refine aX rfl rfl rfl (by exact Nat.le_of_ble_eq_true rfl) ?_
 refine af (lE y hs) rfl rfl rfl rfl rfl (bk rfl (aD (aC (aE (aA (bG rfl (bB rfl rfl rfl (aD (aC ?_)))))))))
 refine dH rfl (fun hc1 => ?_) (fun hc1 => ?_)
 ·
  refine aE (aA ?_)
  refine dG rfl rfl (by exact List.cons_ne_nil _ _) rfl (by repeat (exact (aV.nil : aV _ _ [] _))) (by exact (rfl : _ = some [_, _])) ?_
  refine bG rfl ?_
  refine bZ rfl rfl (by decide) rfl rfl rfl rfl rfl rfl ?_
  refine bk rfl (aD (aC (ay (aS ?_))))
  refine jk rfl rfl rfl rfl rfl (by decide) rfl rfl rfl ?_ ?_
  all_goals skip
  all_goals first | exact az rfl rfl (congrArg (fun s => Ty.agg (bl.tys s)) (FH hc1).2) | exact az rfl rfl (congrArg (Ty.int .i64) (FH hc1).1)
 refine aq (aC (aE (aE (aA (bG rfl ?_)))))
 refine aH rfl rfl rfl rfl rfl (by decide) ?_
 refine aI rfl rfl rfl rfl (cK rfl rfl rfl ?_)
 refine gR rfl rfl (by omega) (by omega) ?_
 refine af (uX _ _ _) rfl rfl rfl rfl rfl (eN rfl (aD (aC ?_)))
 refine cI rfl (fun hc2 => ?_) (fun hc2 => ?_)
 ·
  refine aE (aA ?_)
  refine dG rfl rfl (by exact List.cons_ne_nil _ _) rfl (by repeat (exact (aV.nil : aV _ _ [] _))) (by exact (rfl : _ = some [_, _])) ?_
  refine bZ rfl rfl (by decide) rfl rfl rfl rfl rfl rfl ?_
  refine bk rfl (aD (aC (ay (aS ?_))))
  refine jk rfl rfl rfl rfl rfl (by decide) rfl rfl rfl ?_ ?_
  all_goals skip
  all_goals first | exact az rfl rfl (congrArg (fun s => Ty.agg (bl.tys s)) (EH hc1 hc2).2) | exact az rfl rfl (congrArg (Ty.int .i64) (EH hc1 hc2).1)
 refine aq (aC (aE (aA ?_)))
 refine aX rfl rfl rfl (by exact Nat.le_of_ble_eq_true rfl) ?_
 refine dI (res' := Ty.kY [Ty.pp (eF y (aQ y (nth bY)) 1000 (aQ y (nth bY)).length), Ty.int .i64 0]) [(1000, 1000)] [1000] [(1000, Cont.vec cy 3 (kV y))] (wQ y hs ho) rfl rfl (aM bU (aT rfl rfl)) pre_nil (bg (a := 1000) (b := 1000) (by decide) rfl (bh (by decide) rfl) post_nil) (DY (aM (aM bU (aT rfl rfl)) (e8 (aM (aM (aM (aM (aM (aM bU (dZ (by decide))) (aT rfl rfl)) (aT rfl rfl)) (aT rfl rfl)) (aT rfl rfl)) (aT rfl rfl))))) ?_
 refine uH rfl (bQ rfl rfl (bQ rfl rfl (LR rfl (bk rfl (aD (aC (aE (aE (aA ?_)))))))))
 refine bG rfl (bB rfl rfl rfl (aD (aC (m7 rfl (rfl) (aq (aC (aE ?_)))))))
 have hq := EU hc2
 refine cP mixed rfl (jo rfl (bq rfl ?_))
 refine aH rfl rfl rfl rfl rfl (by decide) ?_
 refine aI rfl rfl rfl rfl (cK rfl rfl rfl ?_)
 refine aH rfl rfl rfl rfl rfl (by decide) ?_
 refine aI rfl rfl rfl rfl (cK rfl rfl rfl ?_)
 refine gR rfl rfl (by omega) (by omega) ?_
 refine bG rfl ?_
 refine cA rfl rfl (by omega) (by omega) ?_
 refine bp rfl (by exact List.cons_ne_nil _ _) rfl ?_
 refine cm rfl rfl (by decide) rfl rfl (by exact (rfl : _ = Ty.int _ _)) rfl (by exact Nat.le_of_ble_eq_true rfl) rfl rfl (by exact (rfl : _ = [_])) ?_
 refine aD ?_
 refine ⟨by kernel_rfl, ?_⟩
 refine aC (aE ?_)
 refine iV (s := 9) rfl (Ty.aF _) ?_
 refine jW (tg := 10) rfl (Cont.m9 (T := 3) (show [Ty.int .i64 (((aQ y (nth bY)).length : Int) - (y.moves.length : Int) + q)] = [Ty.int .i64 ((y.bins.length * (y.D + 1) + q.toNat : Nat) : Int)] by congr 2; rw [hfl]; omega)) ?_
 refine kK (tg := 10) [(9, Ty.pp [Ty.int .i64 ((y.bins.length * (y.D + 1) + q.toNat : Nat) : Int)])] (by decide) rfl ⟨l8 (T := 3) (off := 0) (l := [Ty.int .i64 ((y.bins.length * (y.D + 1) + q.toNat : Nat) : Int)]) rfl rfl rfl (by decide), trivial⟩ ?_
 refine aA (jo rfl (dL rfl ?_))
 refine dI [(1000, 1000)] [] [(1000, Cont.vec cy 3 (yl (aQ y (nth bY)) (y.cells + 1) (tK (y.bins.length * (y.D + 1) + q.toNat)) (kV y)))] (DG y (aQ y (nth bY)) (kV y) hF hfe (Ty.ju 121 [Ty.pp [Ty.int .i64 ((y.bins.length * (y.D + 1) + q.toNat : Nat) : Int)]]) rfl rfl (tK (y.bins.length * (y.D + 1) + q.toNat)) (fun i _ => by rw [← MC]; exact dS (Km (i : Nat) _) rfl rfl rfl rfl rfl rfl) rfl) rfl rfl (aM (aM bU (aT rfl rfl)) (e8 (aM (aM (aM (aM (aM (aM bU (dZ (by exact List.mem_cons_self))) (aT rfl rfl)) (aT rfl rfl)) (aT rfl rfl)) (aT rfl rfl)) (aT rfl rfl)))) (cz (a := 1000) (b := 1000) (by exact List.mem_cons_self) rfl (bh (by exact List.mem_cons_self) rfl) pre_nil) (bg (a := 1000) (b := 1000) (by decide) rfl (bh (by decide) rfl) post_nil) (aT rfl rfl) ?_
 refine bZ rfl rfl (by decide) rfl rfl rfl rfl rfl rfl ?_
 refine bk rfl (aD (aC (ay ?_)))
 refine jk rfl rfl rfl rfl rfl (by decide) rfl rfl rfl ?_ ?_
 all_goals skip
 all_goals first | exact az rfl rfl (congrArg (fun s => Ty.agg (bl.tys s)) (En hc1 hc2 ho).2) | exact az rfl rfl (congrArg (Ty.int .i64) (En hc1 hc2 ho).1)
theorem Bl (y : ak) (hs : y.Small) (q : Int) : dK Tryz.prog 22 [dn y, Ty.int .i64 q] (Ty.kY [Ty.sl bl (iH y q), Ty.int .i64 (iW y q)]) := by
 by_cases ho : cX y = 0
 ·exact BW y hs q ho
 exact Ao y hs q ho
theorem Ln (y : ak) (hs : y.Small) (q : Int) : dK Tryz.prog 48 [dn y, Ty.int .i64 q] (Ty.kY [Ty.agg (bl.tys (mT y q)), Ty.int .i64 (kJ y q)]) := by
 by_cases ho : cX y = 0
 ·exact C2 y hs q ho
 exact DH y hs q ho
end Go.Proofs.YtelbollidfdcjaaGreat
namespace Go.T
open Go Go.RowKit
theorem M7 {ρ : List (Nat × Nat)} {l1 l2 : List Ty} (h1 : bw l1 = []) (h2 : bX l1 = []) : Conv ρ (.pp (l1 ++ l2)) (.pp l1) := fun w M M' v wf wf' hre ⟨b, off, e, hm, hlt, hd⟩ =>
 ⟨b, off, e, hre.none b hm, hlt, fun i t hi => by
  have hl := (List.getElem?_eq_some_iff.1 hi).1
  obtain ⟨x, hx, hdx⟩ := hd i t (by rw [List.getElem?_append_left hl]; exact hi)
  refine ⟨x, hx, aT ?_ ?_ w M M' x wf wf' hre hdx⟩
  ·refine List.eq_nil_iff_forall_not_mem.2 fun u hu => ?_
   have : u ∈ bw l1 := List.mem_flatMap.2 ⟨t, List.mem_of_getElem? hi, hu⟩
   rw [h1] at this; cases this
  refine List.eq_nil_iff_forall_not_mem.2 fun u hu => ?_
  have : u ∈ bX l1 := List.mem_flatMap.2 ⟨t, List.mem_of_getElem? hi, hu⟩
  rw [h2] at this; cases this⟩
end Go.T
namespace Go.Proofs.YtelbollidfdcjaaGreat
open Go Go.T
set_option maxHeartbeats 16000000
def pK (y : ak) (t : Nat) (i : Nat) : Bool := (List.range y.bins.length).any fun b => decide ((i : Int) = ((y.kept b t : Nat) : Int))
noncomputable def sO (fl : List bu) (n : Nat) (y : ak) (a : List Int) : Nat → List Int
  | 0 => a
  | t + 1 => yl fl n (pK y t) (sO fl n y a t)
noncomputable def rA (fl : List bu) (n : Nat) (y : ak) (k : Nat) : List Span := (List.range k).map fun t => gk fl n (pK y t)
noncomputable def sJ (y : ak) : List Span := if cX y = 0 then rA (aQ y (nth bY)) (y.cells + 1) y (y.D + 1) else []
noncomputable def iM (y : ak) (q s : Int) (p : Span → Bool) : Int :=
  if dU y q = 0 then (if (!(decide (s ≥ 0) && decide (s ≤ 300))) = true then 3 else if iW y q = 0 then (if fidx p (iH y q) < 0 then 6 else 0) else iW y q) else dU y q
noncomputable def jr (y : ak) (q s : Int) (p : Span → Bool) : Int := if iM y q s p = 0 then fidx p (iH y q) else 0
section
variable {y : ak} {fl : List bu} {a : List Int} {n b k : Nat} {q s : Int} {p : Span → Bool} {i t : Nat}
theorem A4 (hN : Net fl n) (hn : 0 < n) (hB : Bd fl) (h : gX fl n a) : ∀ t, gX fl n (sO fl n y a t)
  | 0 => h
  | t + 1 => (rm hN hn hB (A4 hN hn hB h t)).2.1
theorem KV : a = sO fl n y a 0 := rfl
theorem Ja (t : Nat) : yl fl n (pK y t) (sO fl n y a t) = sO fl n y a (t + 1) := rfl
theorem Fp (t : Nat) : rA fl n y t ++ [gk fl n (pK y t)] = rA fl n y (t + 1) := by unfold rA; rw [List.range_succ, List.map_append]; rfl
theorem Hz (t : Nat) : (rA fl n y t).length = t := by unfold rA; rw [List.length_map, List.length_range]
theorem F9 : rA fl n y 0 = [] := rfl
theorem JA (hb : b < y.bins.length) (h : (i : Int) = ((y.kept b t : Nat) : Int)) : true = pK y t i := (List.any_eq_true.2 ⟨b, List.mem_range.2 hb, decide_eq_true h⟩).symm
theorem Ld (h : ∀ b, b < y.bins.length → ¬ (i : Int) = ((y.kept b t : Nat) : Int)) : false = pK y t i := by
 refine (List.any_eq_false.2 fun b hb => ?_).symm
 rw [decide_eq_true_eq]; exact h b (List.mem_range.1 hb)
theorem LH (h : cX y ≠ 0) : [] = sJ y := (if_neg h).symm
theorem B1 (h : cX y = 0) : rA (aQ y (nth bY)) (y.cells + 1) y (y.D + 1) = sJ y := (if_pos h).symm
theorem Er {e : Int} (h : e = iM y q s p) (h0 : e ≠ 0) : 0 = jr y q s p := by unfold jr; rw [← h, if_neg h0]
theorem Dt (h : ¬ dU y q = 0) : dU y q = iM y q s p ∧ 0 = jr y q s p := by
 have e : dU y q = iM y q s p := (if_neg h).symm
 exact ⟨e, Er e h⟩
theorem JY (h : dU y q = 0) (h2 : (!(decide (s ≥ 0) && decide (s ≤ 300))) = true) : 3 = iM y q s p ∧ 0 = jr y q s p := by
 have e : 3 = iM y q s p := by unfold iM; rw [if_pos h, if_pos h2]
 exact ⟨e, Er e (by decide)⟩
theorem KE (h : dU y q = 0) (h2 : (!(decide (s ≥ 0) && decide (s ≤ 300))) = false) (h3 : ¬ iW y q = 0) : iW y q = iM y q s p ∧ 0 = jr y q s p := by
 have e : iW y q = iM y q s p := by unfold iM; rw [if_pos h, if_neg (by rw [h2]; decide), if_neg h3]
 exact ⟨e, Er e h3⟩
theorem HL (h : dU y q = 0) (h2 : (!(decide (s ≥ 0) && decide (s ≤ 300))) = false) (h3 : iW y q = 0) (h4 : fidx p (iH y q) < 0) : 6 = iM y q s p ∧ 0 = jr y q s p := by
 have e : 6 = iM y q s p := by unfold iM; rw [if_pos h, if_neg (by rw [h2]; decide), if_pos h3, if_pos h4]
 exact ⟨e, Er e (by decide)⟩
theorem Et (h : dU y q = 0) (h2 : (!(decide (s ≥ 0) && decide (s ≤ 300))) = false) (h3 : iW y q = 0) (h4 : ¬ fidx p (iH y q) < 0) : 0 = iM y q s p ∧ fidx p (iH y q) = jr y q s p := by
 have e : 0 = iM y q s p := by unfold iM; rw [if_pos h, if_neg (by rw [h2]; decide), if_pos h3, if_neg h4]
 exact ⟨e, by unfold jr; rw [← e]; rfl⟩
end
attribute [local irreducible] aQ gZ Way.hH Way.fin Way.room eR dr ep gQ over bK cM dW eP jj e9 hO kP cQ gK fk fo cq cL gV oy iZ ij jD gk BD yl iE ak.kept ak.cells bL dU bY gB kV cX oN qR iW iH kJ mT hasB tK sO rA sJ pK iM jr
attribute [local irreducible] gA eU lH nR gy gl g5 gr g9 nU gx nZ dN fS nJ ff nQ nth fI dQ au dK bodyPost Exit.then Exit.inBlock Code.wp Code.wpIn nY gm oC n9 g7 eM cJ cH bodyPostM dP
set_option maxRecDepth 100000 in
theorem HF (y : ak) (hr : y.cG) (i t : Nat) (ht : t ≤ y.D) : dK Tryz.prog 88 [Ty.int .i64 ((i : Nat) : Int), Ty.pp (bH y), Ty.pp [Ty.pp (bH y)], Ty.pp [Ty.int .i64 ((t : Nat) : Int)]] (Ty.bool (pK y t i)) := by
 refine ah Tryz.func88 rfl (by decide) Tryz.ntmps88 (by exact Nat.le_of_ble_eq_true rfl) fun w0 M0 => ?_
 have h1 := hr.bins
 refine aE (aA (dA rfl (aD (aC (aE (aE (aA ?_)))))))
 refine aH rfl rfl rfl rfl rfl (by decide) ?_
 refine aI rfl rfl rfl rfl (cK rfl rfl rfl (bG rfl (aD (aC (aZ ?_)))))
 refine cF (fun (b : {b : Nat // b ≤ y.bins.length ∧ ∀ c, c < b → ¬ (i : Int) = ((y.kept c t : Nat) : Int)}) => live [(0, Ty.int .i64 ((i : Nat) : Int)), (1, Ty.pp (bH y)), (2, Ty.pp [Ty.pp (bH y)]), (3, Ty.pp [Ty.int .i64 ((t : Nat) : Int)]), (9, Ty.int .i64 y.bins.length), (10, Ty.int .i64 (b.1 : Nat))] []) (fun b => y.bins.length - b.1) (⟨0, Nat.zero_le _, fun c hc => absurd hc (Nat.not_lt_zero c)⟩) ?_ fun b => ?_
 ·(refine cx.mk' ?_ ?_ <;> (repeat' (first | exact aJ | exact aK | refine aB ?_ (Ty.aU _) | refine aB ?_ (Ty.aF _))))
 have hb := b.2.1
 refine aE (aA (bB rfl rfl rfl (aD (aC (aE ?_)))))
 refine aj rfl (fun hc1 => ?_) (fun hc1 => ?_)
 ·
  refine aq (aC (aE (aZ (aE (aA (bG rfl (bk rfl (aD (aC ?_)))))))))
  refine aE (aA (bG rfl (aI rfl rfl rfl rfl (bG rfl (aI rfl rfl rfl rfl ?_)))))
  refine af (Cv y hr b.1 t (by omega) ht) rfl rfl rfl rfl rfl ?_
  refine bB rfl rfl rfl (aD (aC ?_))
  refine aj rfl (fun hc2 => ?_) (fun hc2 => ?_)
  ·
   refine aE (aA (dA rfl (aD (aC (ay (bC (aS (aS (bC ?_)))))))))
   refine aS (bP rfl rfl ?_)
   all_goals skip
   all_goals exact az rfl rfl (congrArg Ty.bool (JA (by omega) hc2))
  refine aq (bI (aC (aA ?_)))
  refine cA rfl rfl (by omega) (by omega) ?_
  refine bG rfl (aD ?_)
  refine bO (⟨b.1 + 1, by omega, fun c hc => by by_cases e : c = b.1; (subst e; exact hc2); exact b.2.2 c (by omega)⟩) ?_ (by show y.bins.length - (b.1 + 1) < y.bins.length - b.1; omega)
  (refine cx.mk' ?_ ?_ <;> (repeat' (first | exact aJ | exact aK | refine aB ?_ (Ty.aU _) | refine aB ?_ (Ty.aF _))))
  all_goals skip
 refine cE (aP (aP (aa rfl (aC (aE (aA (dA rfl (aD (aC ?_)))))))))
 refine ay (bP rfl rfl ?_)
 all_goals skip
 all_goals exact az rfl rfl (congrArg Ty.bool (Ld fun c hc => b.2.2 c (by have := b.2.1; omega)))
set_option maxRecDepth 100000 in
theorem DL (y : ak) (hs : y.Small) (ho : cX y ≠ 0) : dK Tryz.prog 21 [dn y] (Ty.kY [Ty.sl bl (sJ y), Ty.int .i64 (cX y)]) := by
 refine ah Tryz.func21 rfl (by decide) Tryz.ntmps21 (by exact Nat.le_of_ble_eq_true rfl) fun w0 M0 => ?_
 refine aE (aA (bD rfl (lq rfl (bk rfl (aD (aC (aE (aA ?_))))))))
 refine aX rfl rfl rfl (by exact Nat.le_of_ble_eq_true rfl) ?_
 refine af (oY y hs ho) rfl rfl rfl rfl rfl (uH rfl (bQ rfl rfl (bQ rfl rfl ?_)))
 refine bp rfl (by exact List.cons_ne_nil _ _) rfl ?_
 refine cm rfl rfl (by decide) rfl rfl (by exact (rfl : _ = Ty.ex _)) rfl (by exact Nat.le_of_ble_eq_true rfl) rfl rfl (by exact (rfl : _ = [_])) ?_
 refine bk rfl (aD (aC (aE (aE (aA (bG rfl (bB rfl rfl rfl (aD (aC ?_)))))))))
 refine qE rfl (by rw [decide_eq_false ho]; rfl) ?_
 refine aE (aA (bG rfl (lq rfl (bk rfl (aD (aC (ay (aS ?_))))))))
 refine fV rfl rfl rfl ?_ ?_
 all_goals first | exact b9 rfl rfl | skip
 all_goals exact gG (LH ho).symm
set_option maxRecDepth 100000 in
theorem Ct (y : ak) (hs : y.Small) (ho : cX y = 0) : dK Tryz.prog 21 [dn y] (Ty.kY [Ty.sl bl (sJ y), Ty.int .i64 (cX y)]) := by
 refine ah Tryz.func21 rfl (by decide) Tryz.ntmps21 (by exact Nat.le_of_ble_eq_true rfl) fun w0 M0 => ?_
 have hck := eG ho
 have hr := c6 hck
 have hF : lN y (aQ y (nth bY)) (kV y) := s7 ho
 have hfe := p7 ho
 have h1 := hr.bins
 have h2 := hr.days
 have h3 := D_eq hr
 have hft := A4 (y := y) hF.net (Nat.succ_pos _) hF.bd hfe
 refine aE (aA (bD rfl (lq rfl (bk rfl (aD (aC (aE (aA ?_))))))))
 refine aX rfl rfl rfl (by exact Nat.le_of_ble_eq_true rfl) ?_
 refine dI (res' := Ty.kY [Ty.pp (eF y (aQ y (nth bY)) 1000 (aQ y (nth bY)).length), Ty.int .i64 0]) [(1000, 1000)] [1000] [(1000, Cont.vec cy 3 (kV y))] (wQ y hs ho) rfl rfl (aM bU (aT rfl rfl)) pre_nil (bg (a := 1000) (b := 1000) (by decide) rfl (bh (by decide) rfl) post_nil) (DY (aM (aM bU (aT rfl rfl)) (e8 (aM (aM (aM (aM (aM (aM bU (dZ (by decide))) (aT rfl rfl)) (aT rfl rfl)) (aT rfl rfl)) (aT rfl rfl)) (aT rfl rfl))))) ?_
 refine uH rfl (bQ rfl rfl (bQ rfl rfl ?_))
 refine bp rfl (by exact List.cons_ne_nil _ _) rfl ?_
 refine cm rfl rfl (by decide) rfl rfl (by exact (rfl : _ = Ty.pp _)) rfl (by exact Nat.le_of_ble_eq_true rfl) rfl rfl (by exact (rfl : _ = [_])) ?_
 refine bk rfl (aD (aC (aE (aE (aA (bG rfl (bB rfl rfl rfl (aD (aC ?_)))))))))
 refine m7 rfl (rfl) (aq (aC (aE ?_)))
 refine kK (tg := 5) [(4, Ty.pp [Ty.pp (eF y (aQ y (nth bY)) 1000 (aQ y (nth bY)).length)])] (by decide) rfl ⟨l8 (T := 152) (off := 0) (l := [Ty.pp (eF y (aQ y (nth bY)) 1000 (aQ y (nth bY)).length)]) rfl rfl rfl (by decide), trivial⟩ ?_
 refine aA (lq rfl (aD (aC (aE (aE (aA ?_))))))
 refine aH rfl rfl rfl rfl rfl (by decide) ?_
 refine aI rfl rfl rfl rfl ?_
 refine cA rfl rfl (by omega) (by omega) ?_
 refine bG rfl (aD (aC (aZ ?_)))
 refine cF (fun (t : {t : Nat // t ≤ y.D + 1}) => live [(1, Ty.pp (bH y)), (4, Ty.pp [Ty.pp (eF y (aQ y (nth bY)) 1000 (aQ y (nth bY)).length)]), (6, Ty.row bl 37 27 (rA (aQ y (nth bY)) (y.cells + 1) y t.1)), (18, Ty.int .i64 (y.days + 1)), (19, Ty.int .i64 (t.1 : Nat))] [(1000, Cont.vec cy 3 (sO (aQ y (nth bY)) (y.cells + 1) y (kV y) t.1))]) (fun t => y.D + 1 - t.1) (⟨0, by omega⟩) ?_ fun t => ?_
 ·(refine cx.mk' ?_ ?_ <;> (repeat' (first | exact aJ | exact aK | refine aB ?_ (Ty.aU _) | refine aB ?_ (Ty.aF _) | refine aG rfl ?_ ?_ | refine aB ?_ ?_)))
  all_goals first | exact BZ F9 | exact Cont.cr KV
 have hbl := Hz (fl := (aQ y (nth bY))) (n := (y.cells + 1)) (y := y) t.1
 have ht := t.2
 have hFt : lN y (aQ y (nth bY)) (sO (aQ y (nth bY)) (y.cells + 1) y (kV y) t.1) := ⟨hr, hF.net, hF.bd, (hft t.1).1, hF.qb⟩
 refine aE (aA (bB rfl rfl rfl (aD (aC (aE ?_)))))
 refine aj rfl (fun hc2 => ?_) (fun hc2 => ?_)
 ·
  refine aq (aC (aE (aZ (aE (aA (bG rfl ?_))))))
  refine bp rfl (by exact List.cons_ne_nil _ _) rfl ?_
  refine cm rfl rfl (by decide) rfl rfl (by exact (rfl : _ = Ty.int _ _)) rfl (by exact Nat.le_of_ble_eq_true rfl) rfl rfl (by exact (rfl : _ = [_])) ?_
  refine aD (aC ?_)
  refine kK (tg := 8) [(7, Ty.pp [Ty.int .i64 ((t.1 : Nat) : Int)])] (by decide) rfl ⟨l8 (T := 3) (off := 0) (l := [Ty.int .i64 ((t.1 : Nat) : Int)]) rfl rfl rfl (by decide), trivial⟩ ?_
  refine aA (GR rfl (aI rfl rfl rfl rfl (dL rfl ?_)))
  refine dI [(1000, 1000)] [] [(1000, Cont.vec cy 3 (yl (aQ y (nth bY)) (y.cells + 1) (pK y t.1) (sO (aQ y (nth bY)) (y.cells + 1) y (kV y) t.1)))] (DG y (aQ y (nth bY)) (sO (aQ y (nth bY)) (y.cells + 1) y (kV y) t.1) hFt (hft t.1) (Ty.ju 88 [Ty.pp (bH y), Ty.pp [Ty.pp (bH y)], Ty.pp [Ty.int .i64 ((t.1 : Nat) : Int)]]) rfl rfl (pK y t.1) (fun i _ => dS (HF y hr i t.1 (by omega)) rfl rfl rfl rfl rfl rfl) rfl) rfl rfl (aM (aM bU (tJ (aM (aM (aM bU (aT rfl rfl)) (e8 (aM bU (M7 (l1 := bH y) (l2 := [Ty.sl dg (aQ y (nth bY)), Ty.vs 1000 (aQ y (nth bY)).length]) rfl rfl)))) (aT rfl rfl)))) (e8 (aM (aM (aM (aM (aM (aM bU (dZ (by exact List.mem_cons_self))) (aT rfl rfl)) (aT rfl rfl)) (aT rfl rfl)) (aT rfl rfl)) (aT rfl rfl)))) (cz (a := 1000) (b := 1000) (by exact List.mem_cons_self) rfl (bh (by exact List.mem_cons_self) rfl) pre_nil) (bg (a := 1000) (b := 1000) (by decide) rfl (bh (by decide) rfl) post_nil) (aT rfl rfl) ?_
  refine bW (E := bl) (xs := [gk (aQ y (nth bY)) (y.cells + 1) (pK y t.1)]) rfl rfl rfl rfl rfl (by decide) (by decide) (by repeat (first | exact (aV.nil : aV _ _ [] _) | (show aV _ _ ((_, _) :: _) _; apply aV.agg; (· exact (rfl : _ = Ty.agg _))))) (by exact rfl) rfl ?_
  refine dw rfl rfl (by decide) rfl rfl rfl rfl rfl rfl (by decide) (by (simp <;> omega)) (by (simp <;> omega)) ?_
  refine Aj rfl (aD (bI (aC (aA ?_))))
  refine cA rfl rfl (by omega) (by omega) ?_
  refine bG rfl (aD ?_)
  refine bO (⟨t.1 + 1, by omega⟩) ?_ (by show y.D + 1 - (t.1 + 1) < y.D + 1 - t.1; omega)
  (refine cx.mk' ?_ ?_ <;> (repeat' (first | exact aJ | exact aK | refine aB ?_ (Ty.aU _) | refine aB ?_ (Ty.aF _) | refine aG rfl ?_ ?_ | refine aB ?_ ?_)))
  all_goals skip
  all_goals first | exact Ty.fH (Fp _) | exact Cont.cr (Ja _)
 refine cE (aP (aP (aa rfl (aC (aE (aA (GR rfl (Aj rfl (bk rfl ?_)))))))))
 refine aD (aC (ay ?_))
 refine fV rfl rfl rfl ?_ ?_
 all_goals skip
 all_goals first | exact xG (by decide) ((show _ = rA (aQ y (nth bY)) (y.cells + 1) y (y.D + 1) by rw [show t.1 = y.D + 1 by have := t.2; omega]).trans (B1 ho)) | exact az rfl rfl (congrArg (Ty.int .i64) ho.symm)
set_option maxRecDepth 100000 in
theorem Ec (y : ak) (hs : y.Small) (q s : Int) (t : Ty) (h1 : t.one = true) (p : Span → Bool) (hd : t.deps = []) (hc : t.cdeps = []) (hf : ∀ x ∈ iH y q, oM Tryz.prog t [Ty.agg (bl.tys x)] (Ty.bool (p x))) : dK Tryz.prog 100 [dn y, Ty.int .i64 q, Ty.int .i64 s, t] (Ty.kY [Ty.int .i64 (jr y q s p), Ty.int .i64 (iM y q s p)]) := by
 refine ah Tryz.func100 rfl (by decide) Tryz.ntmps100 (by exact Nat.le_of_ble_eq_true rfl) fun w0 M0 => ?_
 refine aE (aA (bD rfl (bk rfl (bk rfl (aD (aC (aE (aE (aA ?_)))))))))
 refine aX rfl rfl rfl (by exact Nat.le_of_ble_eq_true rfl) ?_
 refine bG rfl (af (AO y hs q) rfl rfl rfl rfl rfl (bk rfl (aD (aC (aE (aA (bG rfl (bB rfl rfl rfl (aD ?_)))))))))
 refine aC ?_
 refine dH rfl (fun hc1 => ?_) (fun hc1 => ?_)
 ·
  refine aE (aA (bG rfl (bk rfl (bk rfl (aD (aC (ay (aS ?_))))))))
  refine fV rfl rfl rfl ?_ ?_
  all_goals skip
  all_goals first | exact az rfl rfl (congrArg (Ty.int .i64) (Dt hc1).1) | exact az rfl rfl (congrArg (Ty.int .i64) (Dt hc1).2)
 refine aq (aC (aE (aE (aA (bG rfl (af (uX _ _ _) rfl rfl rfl rfl rfl (eN rfl (aD (aC ?_)))))))))
 refine cI rfl (fun hc2 => ?_) (fun hc2 => ?_)
 ·
  refine aE (aA (bk rfl (bk rfl (aD (aC (ay (aS ?_)))))))
  refine fV rfl rfl rfl ?_ ?_
  all_goals skip
  all_goals first | exact az rfl rfl (congrArg (Ty.int .i64) (JY hc1 hc2).1) | exact az rfl rfl (congrArg (Ty.int .i64) (JY hc1 hc2).2)
 refine aq (aC (aE (aA ?_)))
 refine aX rfl rfl rfl (by exact Nat.le_of_ble_eq_true rfl) ?_
 refine bG rfl (af (Bl y hs q) rfl rfl rfl rfl rfl (uH rfl (bQ rfl rfl (bQ rfl rfl (Ez rfl (bk rfl (aD (aC (aE ?_)))))))))
 refine aE (aA (bG rfl (bB rfl rfl rfl (aD (aC ?_)))))
 refine dH rfl (fun hc3 => ?_) (fun hc3 => ?_)
 ·
  refine aE (aA (bG rfl (bk rfl (bk rfl (aD (aC (ay (aS ?_))))))))
  refine fV rfl rfl rfl ?_ ?_
  all_goals skip
  all_goals first | exact az rfl rfl (congrArg (Ty.int .i64) (KE hc1 hc2 hc3).1) | exact az rfl rfl (congrArg (Ty.int .i64) (KE hc1 hc2 hc3).2)
 refine aq (aC (aE (aA (fN rfl ?_))))
 refine eA (ty := t) rfl ?_
 refine af (ug (iH y q) t h1 p hd hc hf) rfl (by exact bV rfl (bV hd rfl)) (by exact bN rfl (bN hc rfl)) rfl rfl ?_
 refine bk rfl (aD (aC (aE (aE (aA (bG rfl (bB rfl rfl rfl (aD (aC ?_)))))))))
 refine aj rfl (fun hc4 => ?_) (fun hc4 => ?_)
 ·
  refine aE (aA (bk rfl (bk rfl (aD (aC (ay (aS ?_)))))))
  refine fV rfl rfl rfl ?_ ?_
  all_goals skip
  all_goals first | exact az rfl rfl (congrArg (Ty.int .i64) (HL hc1 hc2 hc3 hc4).1) | exact az rfl rfl (congrArg (Ty.int .i64) (HL hc1 hc2 hc3 hc4).2)
 refine aq (aC (aE (aA (bG rfl (bk rfl (bk rfl (aD (aC (ay ?_)))))))))
 refine fV rfl rfl rfl ?_ ?_
 all_goals skip
 all_goals first | exact az rfl rfl (congrArg (Ty.int .i64) (Et hc1 hc2 hc3 hc4).1) | exact az rfl rfl (congrArg (Ty.int .i64) (Et hc1 hc2 hc3 hc4).2)
set_option maxRecDepth 100000 in
theorem G0 (s : Span) (k : Int) : dK Tryz.prog 101 [Ty.agg (bl.tys s), Ty.pp [Ty.int .i64 k]] (Ty.bool (decide (s.lo ≥ k))) := by
 refine ah Tryz.func101 rfl (by decide) Tryz.ntmps101 (by exact Nat.le_of_ble_eq_true rfl) fun w0 M0 => ?_
 refine aE (aA (bD rfl (dA rfl (aD (aC (aE (aA ?_)))))))
 refine aH rfl rfl rfl rfl rfl (by decide) ?_
 refine aI rfl rfl rfl rfl (aI rfl rfl rfl rfl (bB rfl rfl rfl (dA rfl (aD (aC (ay (bP rfl rfl ?_)))))))
 all_goals exact b9 rfl rfl
set_option maxRecDepth 100000 in
theorem Bs (y : ak) (hs : y.Small) (q s : Int) : dK Tryz.prog 33 [dn y, Ty.int .i64 q, Ty.int .i64 s] (Ty.kY [Ty.int .i64 (jr y q s fun x => decide (x.lo ≥ s)), Ty.int .i64 (iM y q s fun x => decide (x.lo ≥ s))]) := by
 refine ah Tryz.func33 rfl (by decide) Tryz.ntmps33 (by exact Nat.le_of_ble_eq_true rfl) fun w0 M0 => ?_
 refine aE (aA (bD rfl ?_))
 refine fu (by exact (rfl : _ = Ty.int _ _)) rfl ?_
 refine bk rfl (bk rfl (aD (aC (aE (aA ?_)))))
 refine aX rfl rfl rfl (by exact Nat.le_of_ble_eq_true rfl) ?_
 refine bG rfl (aI rfl rfl rfl rfl (dL rfl ?_))
 refine af (Ec y hs q s (Ty.ju 101 [Ty.pp [Ty.int .i64 s]]) rfl (fun x => decide (x.lo ≥ s)) rfl rfl fun x _ => dS (G0 x s) rfl rfl rfl rfl rfl rfl) rfl rfl rfl rfl rfl ?_
 refine bQ rfl rfl (bQ rfl rfl (bk rfl (bk rfl (aD (aC (ay ?_))))))
 refine fV rfl rfl rfl ?_ ?_
 all_goals exact b9 rfl rfl
set_option maxRecDepth 100000 in
theorem DW (s : Span) (k : Int) : dK Tryz.prog 102 [Ty.agg (bl.tys s), Ty.pp [Ty.int .i64 k]] (Ty.bool (decide (s.hi ≥ k))) := by
 refine ah Tryz.func102 rfl (by decide) Tryz.ntmps102 (by exact Nat.le_of_ble_eq_true rfl) fun w0 M0 => ?_
 refine aE (aA (bD rfl (dA rfl (aD (aC (aE (aA ?_)))))))
 refine aH rfl rfl rfl rfl rfl (by decide) ?_
 refine aI rfl rfl rfl rfl (aI rfl rfl rfl rfl (bB rfl rfl rfl (dA rfl (aD (aC (ay (bP rfl rfl ?_)))))))
 all_goals exact b9 rfl rfl
set_option maxRecDepth 100000 in
theorem Fe (y : ak) (hs : y.Small) (q s : Int) : dK Tryz.prog 34 [dn y, Ty.int .i64 q, Ty.int .i64 s] (Ty.kY [Ty.int .i64 (jr y q s fun x => decide (x.hi ≥ s)), Ty.int .i64 (iM y q s fun x => decide (x.hi ≥ s))]) := by
 refine ah Tryz.func34 rfl (by decide) Tryz.ntmps34 (by exact Nat.le_of_ble_eq_true rfl) fun w0 M0 => ?_
 refine aE (aA (bD rfl ?_))
 refine fu (by exact (rfl : _ = Ty.int _ _)) rfl ?_
 refine bk rfl (bk rfl (aD (aC (aE (aA ?_)))))
 refine aX rfl rfl rfl (by exact Nat.le_of_ble_eq_true rfl) ?_
 refine bG rfl (aI rfl rfl rfl rfl (dL rfl ?_))
 refine af (Ec y hs q s (Ty.ju 102 [Ty.pp [Ty.int .i64 s]]) rfl (fun x => decide (x.hi ≥ s)) rfl rfl fun x _ => dS (DW x s) rfl rfl rfl rfl rfl rfl) rfl rfl rfl rfl rfl ?_
 refine bQ rfl rfl (bQ rfl rfl (bk rfl (bk rfl (aD (aC (ay ?_))))))
 refine fV rfl rfl rfl ?_ ?_
 all_goals exact b9 rfl rfl
theorem ML (y : ak) (hs : y.Small) : dK Tryz.prog 21 [dn y] (Ty.kY [Ty.sl bl (sJ y), Ty.int .i64 (cX y)]) := by
 by_cases ho : cX y = 0
 ·exact Ct y hs ho
 exact DL y hs ho
end Go.Proofs.YtelbollidfdcjaaGreat
namespace Go.Proofs.YtelbollidfdcjaaGreat
open Go Go.T
set_option maxHeartbeats 16000000
structure Dx where
  cells : List BL
  out : Bool
  deriving Inhabited
def mU (p : Dx) : List Ty := [Ty.sl qh p.cells, Ty.bool p.out]
def ke (fl : List bu) : Int := fl.foldl (fun m f => max m (f.lo - f.hi)) (-300)
def xN (y : ak) (l : List BL) (c : Int) : Bool := l.any fun x => decide (y.cell x.bin x.day = c)
def HN (y : ak) (p : Dx) (f : bu) : Bool := if p.out = true then (xN y p.cells f.src && !xN y p.cells f.dst) else (xN y p.cells f.dst && !xN y p.cells f.src)
def Fq (y : ak) (p : Dx) (f : bu) : Bool := if p.out = true then (xN y p.cells f.dst && !xN y p.cells f.src) else (xN y p.cells f.src && !xN y p.cells f.dst)
def rq (y : ak) (p : Dx) (m : Int) (f : bu) : Int := (m + if HN y p f = true then f.lo else 0) - if Fq y p f = true then f.hi else 0
def gT (y : ak) (fl : List bu) (p : Dx) : Nat → Int
  | 0 => 0
  | k + 1 => rq y p (gT y fl p k) (nth fl k)
def jS (y : ak) (fl : List bu) (p : Dx) : Int := if p.cells = [] then ke fl else gT y fl p fl.length
def lu (a b : BL) : Bool := !decide (a = b) && (decide (a.bin < b.bin) || (decide (a.bin = b.bin) && decide (a.day < b.day)))
def HZ (y : ak) (c : BL) : Bool := y.bin c.bin && (decide (c.day ≥ 0) && decide (c.day ≤ y.days - 1))
open Classical in
noncomputable def nG (y : ak) (p : Dx) : Int := if bL y = 0 then (if (p.cells.all (HZ y)) = true then (if (∀ i, i + 1 < p.cells.length → lu (nth p.cells i) (nth p.cells (i + 1)) = true) then (if jS y (aQ y (nth bY)) p < 1 then 6 else 0) else 4) else 1) else bL y
noncomputable def tW (y : ak) (p : Dx) : Int := if nG y p = 0 then jS y (aQ y (nth bY)) p else 0
section
variable {y : ak} {fl : List bu} {a : List Int} {n b k : Nat} {p : Dx} {f : bu} {m : Int}
theorem Da : -300 = ke (fl.take 0) := rfl
theorem DX (h : k < fl.length) : max (ke (fl.take k)) ((nth fl k).lo - (nth fl k).hi) = ke (fl.take (k + 1)) := by
 unfold ke; rw [cT h, List.foldl_append]; rfl
theorem KN (h : p.out = true) : (xN y p.cells f.src && !xN y p.cells f.dst) = HN y p f ∧ (xN y p.cells f.dst && !xN y p.cells f.src) = Fq y p f := ⟨(if_pos h).symm, (if_pos h).symm⟩
theorem MV (h : p.out = false) : (xN y p.cells f.dst && !xN y p.cells f.src) = HN y p f ∧ (xN y p.cells f.src && !xN y p.cells f.dst) = Fq y p f := ⟨(if_neg (by rw [h]; decide)).symm, (if_neg (by rw [h]; decide)).symm⟩
def oJ (y : ak) (p : Dx) (m : Int) (f : bu) : Int := m + if HN y p f = true then f.lo else 0
theorem HP (h : HN y p f = true) : m + f.lo = oJ y p m f := by unfold oJ; rw [if_pos h]
theorem Ky (h : HN y p f = false) : m = oJ y p m f := by unfold oJ; rw [if_neg (by rw [h]; decide)]; omega
theorem E2 (h : 0 ≤ f.lo ∧ f.lo ≤ 300) : m ≤ oJ y p m f ∧ oJ y p m f ≤ m + 300 := by unfold oJ; split <;> omega
theorem zO : 0 = gT y fl p 0 := rfl
theorem Cg (h : Fq y p (nth fl k) = true) : oJ y p (gT y fl p k) (nth fl k) - (nth fl k).hi = gT y fl p (k + 1) := by
 show _ = rq y p _ _; unfold rq; rw [if_pos h]; rfl
theorem E3 (h : Fq y p (nth fl k) = false) : oJ y p (gT y fl p k) (nth fl k) = gT y fl p (k + 1) := by
 have e : ¬ Fq y p (nth fl k) = true := by rw [h]; decide
 show _ = rq y p _ _; unfold rq; rw [if_neg e]; unfold oJ; omega
theorem CA (hb : ∀ i, i < fl.length → 0 ≤ (nth fl i).lo ∧ (nth fl i).lo ≤ 300 ∧ 0 ≤ (nth fl i).hi ∧ (nth fl i).hi ≤ 300) : ∀ k, k ≤ fl.length → -(300 * (k : Int)) ≤ gT y fl p k ∧ gT y fl p k ≤ 300 * (k : Int)
  | 0, _ => by rw [← zO]; omega
  | k + 1, h => by
    have ih := CA hb k (by omega)
    have h1 := hb k (by omega)
    have h2 := E2 (y := y) (p := p) (m := gT y fl p k) (f := nth fl k) ⟨h1.1, h1.2.1⟩
    cases e : Fq y p (nth fl k) with
    | true => rw [← Cg e]; omega
    | false => rw [← E3 e]; omega
theorem Ci (h : p.cells = []) : ke fl = jS y fl p := (if_pos h).symm
theorem CH (h : p.cells ≠ []) : gT y fl p fl.length = jS y fl p := (if_neg h).symm
theorem Nw (h : (p.cells.length : Int) = 0) : p.cells = [] := List.length_eq_zero_iff.1 (by omega)
theorem LS (h : ¬ (p.cells.length : Int) = 0) : p.cells ≠ [] := fun e => h (by rw [e]; rfl)
theorem EB {e : Int} (h : e = nG y p) (h0 : e ≠ 0) : 0 = tW y p := by unfold tW; rw [← h, if_neg h0]
theorem Mn (h : ¬ bL y = 0) : bL y = nG y p ∧ 0 = tW y p := by
 have e : bL y = nG y p := (if_neg h).symm
 exact ⟨e, EB e h⟩
theorem Me (h : bL y = 0) (h2 : (p.cells.all (HZ y)) = false) : 1 = nG y p ∧ 0 = tW y p := by
 have e : 1 = nG y p := by unfold nG; rw [if_pos h, if_neg (by rw [h2]; decide)]
 exact ⟨e, EB e (by decide)⟩
theorem Oa (h : bL y = 0) (h2 : (p.cells.all (HZ y)) = true) {i : Nat} (hi : i + 1 < p.cells.length) (h3 : lu (nth p.cells i) (nth p.cells (i + 1)) = false) : 4 = nG y p ∧ 0 = tW y p := by
 have e : 4 = nG y p := by
  unfold nG; rw [if_pos h, if_pos h2, if_neg fun hx => by rw [hx i hi] at h3; cases h3]
 exact ⟨e, EB e (by decide)⟩
theorem Jb (h : bL y = 0) (h2 : (p.cells.all (HZ y)) = true) {i : Nat} (h1 : 1 ≤ i) (hi : i < p.cells.length) (h3 : lu (nth p.cells (i - 1)) (nth p.cells i) = false) : 4 = nG y p ∧ 0 = tW y p := by
 obtain ⟨j, rfl⟩ : ∃ j, i = j + 1 := ⟨i - 1, by omega⟩
 exact Oa h h2 hi h3
theorem MW (h : bL y = 0) (h2 : (p.cells.all (HZ y)) = true) (h3 : ∀ i, i + 1 < p.cells.length → lu (nth p.cells i) (nth p.cells (i + 1)) = true) (h4 : jS y (aQ y (nth bY)) p < 1) : 6 = nG y p ∧ 0 = tW y p := by
 have e : 6 = nG y p := by unfold nG; rw [if_pos h, if_pos h2, if_pos h3, if_pos h4]
 exact ⟨e, EB e (by decide)⟩
theorem Jv (h : bL y = 0) (h2 : (p.cells.all (HZ y)) = true) (h3 : ∀ i, i + 1 < p.cells.length → lu (nth p.cells i) (nth p.cells (i + 1)) = true) (h4 : ¬ jS y (aQ y (nth bY)) p < 1) : 0 = nG y p ∧ jS y (aQ y (nth bY)) p = tW y p := by
 have e : 0 = nG y p := by unfold nG; rw [if_pos h, if_pos h2, if_pos h3, if_neg h4]
 exact ⟨e, by unfold tW; rw [← e]; rfl⟩
theorem OD (a b : BL) : (decide (a.bin = b.bin) && decide (a.day = b.day)) = decide (a = b) := by
 cases a; cases b; simp
theorem OB {c : BL} (h : HZ y c = true) : (-1 ≤ c.bin ∧ c.bin < y.bins.length) ∧ 0 ≤ c.day ∧ c.day ≤ y.days := by
 unfold HZ ak.bin x6 at h
 simp only [Bool.and_eq_true, decide_eq_true_eq] at h; omega
theorem EV (hr : y.cG) {c : Nat → Bool} {t : Nat} {q : Span} (h : q.lo ≤ 300 ∧ 0 ≤ q.hi) : ∀ k, k ≤ y.levels.length → (gH y c b t q k).lo ≤ 300 ∧ 0 ≤ (gH y c b t q k).hi
  | 0, _ => h
  | k + 1, hk => by
    have ih := EV hr (c := c) (t := t) h k (by omega)
    have hl := hr.level _ (cW (xs := y.levels) (k := k) (by omega))
    unfold gH; split
    · show max _ _ ≤ 300 ∧ 0 ≤ min _ _; omega
    · exact ih
theorem I5 (hr : y.cG) {c : Nat → Bool} {i : Nat} (hi : i < (aQ y c).length) : 0 ≤ (nth (aQ y c) i).lo ∧ (nth (aQ y c) i).lo ≤ 300 ∧ 0 ≤ (nth (aQ y c) i).hi ∧ (nth (aQ y c) i).hi ≤ 300 := by
 have hB := vD hr (c := c) i hi
 suffices h : (nth (aQ y c) i).lo ≤ 300 ∧ 0 ≤ (nth (aQ y c) i).hi by omega
 rcases nL hi with ⟨b, t, hb, ht, rfl⟩ | ⟨k, hk, rfl⟩
 ·rw [iT hb ht]
  obtain ⟨h1, h2, h3⟩ := hr.bin _ (cW hb)
  refine EV hr (q := iF y b t) ?_ y.levels.length (Nat.le_refl _)
  unfold iF; split
  ·exact ⟨by show (0 : Int) ≤ 300; decide, h1.1⟩
  show max _ _ ≤ 300 ∧ 0 ≤ min _ _; omega
 rw [iS hk]
 have h := (hr.move _ (cW hk)).2.2.2.2
 show (nth y.moves k).sacks.lo ≤ 300 ∧ 0 ≤ (nth y.moves k).sacks.hi
 omega
theorem KT (hr : y.cG) {c : Nat → Bool} : ∀ i, i < (aQ y c).length → 0 ≤ (nth (aQ y c) i).lo ∧ (nth (aQ y c) i).lo ≤ 300 ∧ 0 ≤ (nth (aQ y c) i).hi ∧ (nth (aQ y c) i).hi ≤ 300 := fun i hi => I5 hr hi
end
attribute [local irreducible] aQ gZ Way.hH Way.fin Way.room eR dr ep gQ over bK cM dW eP jj e9 hO kP cQ gK fk fo cq cL gV oy iZ ij jD gk BD yl iE ak.kept ak.cells bL dU bY gB kV cX oN qR iW iH kJ mT hasB tK sO rA sJ pK iM jr ke xN gT jS HN Fq rq
attribute [local irreducible] oJ
attribute [local irreducible] gA eU lH nR gy gl g5 gr g9 nU gx nZ dN fS nJ ff nQ nth fI dQ au dK bodyPost Exit.then Exit.inBlock Code.wp Code.wpIn nY gm oC n9 g7 eM cJ cH bodyPostM dP
set_option maxRecDepth 100000 in
theorem Gt (y : ak) (fl : List bu) (a : List Int) (hfl : fl.length ≤ 34) (hb : ∀ i, i < fl.length → 0 ≤ (nth fl i).lo ∧ (nth fl i).lo ≤ 300 ∧ 0 ≤ (nth fl i).hi ∧ (nth fl i).hi ≤ 300) : dK Tryz.prog 128 [Ty.pp (mB y fl a)] (Ty.int .i64 (ke fl)) := by
 refine ah Tryz.func128 rfl (by decide) Tryz.ntmps128 (by exact Nat.le_of_ble_eq_true rfl) fun w0 M0 => ?_
 refine aE (aA (bk rfl (aD (aC (aE (aA (bk rfl (aD (aC ?_)))))))))
 refine aE (aE (aA (jo rfl (bq rfl ?_))))
 refine aH rfl rfl rfl rfl rfl (by decide) ?_
 refine aI rfl rfl rfl rfl (cK rfl rfl rfl (bG rfl (aD (aC (aZ ?_)))))
 refine cF (fun (k : {k : Nat // k ≤ fl.length}) => live [(0, Ty.pp (mB y fl a)), (3, Ty.int .i64 (ke (fl.take k.1))), (9, Ty.sl dg fl), (10, Ty.int .i64 fl.length), (11, Ty.int .i64 (k.1 : Nat))] []) (fun k => fl.length - k.1) (⟨0, by omega⟩) ?_ fun k => ?_
 ·(refine cx.mk' ?_ ?_ <;> (repeat' (first | exact aJ | exact aK | refine aB ?_ (Ty.aU _) | refine aB ?_ (Ty.aF _) | refine aB ?_ ?_)))
  all_goals exact Ty.bE Da
 have hk := k.2
 refine aE (aA (bB rfl rfl rfl (aD (aC (aE ?_)))))
 refine aj rfl (fun hc1 => ?_) (fun hc1 => ?_)
 ·
  refine aq (aC (aE (aZ (aE (aA ?_)))))
  refine av rfl rfl rfl rfl rfl rfl (by omega) ?_
  refine aX rfl rfl rfl (by exact Nat.le_of_ble_eq_true rfl) ?_
  refine bp rfl (by exact List.cons_ne_nil _ _) rfl ?_
  refine bZ rfl rfl (by decide) rfl rfl rfl rfl rfl rfl ?_
  refine aD (aC ?_)
  have hbk := hb k.1 (by omega)
  refine aA (bG rfl ?_)
  refine aR rfl rfl rfl rfl rfl (by decide) ?_
  refine aY rfl rfl (by decide) rfl rfl rfl ?_
  refine aR rfl rfl rfl rfl rfl (by decide) ?_
  refine aY rfl rfl (by decide) rfl rfl rfl ?_
  refine gR rfl rfl (by omega) (by omega) ?_
  refine CV rfl rfl (bk rfl (aD (bI (aC (aA ?_)))))
  refine cA rfl rfl (by omega) (by omega) ?_
  refine bG rfl (aD ?_)
  refine bO (⟨k.1 + 1, by omega⟩) ?_ (by show fl.length - (k.1 + 1) < fl.length - k.1; omega)
  (refine cx.mk' ?_ ?_ <;> (repeat' (first | exact aJ | exact aK | refine aB ?_ (Ty.aU _) | refine aB ?_ (Ty.aF _) | refine aB ?_ ?_)))
  all_goals skip
  all_goals exact Ty.bE (DX (by omega))
 refine cE (aP (aP (aa rfl (aC (aE (aA (bG rfl (bk rfl (aD ?_)))))))))
 refine aC (ay (bP rfl rfl ?_))
 all_goals skip
 all_goals exact az rfl rfl (congrArg (Ty.int .i64) (by rw [List.take_of_length_le (by have := k.2; omega)]))
set_option maxRecDepth 100000 in
theorem G9 (y : ak) (hr : y.cG) (fl : List bu) (a : List Int) (x : BL) (hx : (-1 ≤ x.bin ∧ x.bin < y.bins.length) ∧ 0 ≤ x.day ∧ x.day ≤ y.days) (c : Int) : dK Tryz.prog 188 [Ty.agg (qh.tys x), Ty.pp [Ty.pp (mB y fl a)], Ty.pp [Ty.int .i64 c]] (Ty.bool (decide (y.cell x.bin x.day = c))) := by
 refine ah Tryz.func188 rfl (by decide) Tryz.ntmps188 (by exact Nat.le_of_ble_eq_true rfl) fun w0 M0 => ?_
 refine aE (aA (bD rfl (dA rfl (aD (aC (aE (cP mixed rfl (aI rfl rfl rfl rfl ?_))))))))
 refine aH rfl rfl rfl rfl rfl (by decide) ?_
 refine aI rfl rfl rfl rfl ?_
 refine aH rfl rfl rfl rfl rfl (by decide) ?_
 refine aI rfl rfl rfl rfl ?_
 refine eI [] (wO y hr x.bin x.day hx.1 hx.2) rfl (aW (mV (l1 := bH y) (l2 := [Ty.sl dg fl, Ty.sl cy a]) rfl rfl) (aW (bT (bR rfl rfl)) (aW (bT (bR rfl rfl)) cN))) (by exact dX _ _) ?_
 refine aI rfl rfl rfl rfl (bB rfl rfl rfl (dA rfl (aD ?_)))
 refine ⟨by kernel_rfl, ?_⟩
 refine aC (ay (bP rfl rfl ?_))
 all_goals exact b9 rfl rfl
set_option maxRecDepth 100000 in
theorem sC (y : ak) (hr : y.cG) (fl : List bu) (a : List Int) (p : Dx) (hp : ∀ x ∈ p.cells, (-1 ≤ x.bin ∧ x.bin < y.bins.length) ∧ 0 ≤ x.day ∧ x.day ≤ y.days) (c : Int) : dK Tryz.prog 187 [Ty.int .i64 c, Ty.pp (mU p), Ty.pp [Ty.pp (mB y fl a)]] (Ty.bool (xN y p.cells c)) := by
 refine ah Tryz.func187 rfl (by decide) Tryz.ntmps187 (by exact Nat.le_of_ble_eq_true rfl) fun w0 M0 => ?_
 refine aE (aA ?_)
 refine fu (by exact (rfl : _ = Ty.int _ _)) rfl ?_
 refine dA rfl (aD (aC (aE (aA ?_))))
 refine aH rfl rfl rfl rfl rfl (by decide) ?_
 refine aI rfl rfl rfl rfl (dL rfl ?_)
 refine af (lX p.cells (Ty.ju 188 [Ty.pp [Ty.pp (mB y fl a)], Ty.pp [Ty.int .i64 c]]) rfl (fun x => decide (y.cell x.bin x.day = c)) rfl rfl fun x hx => dS (G9 y hr fl a x (hp x hx) c) rfl rfl rfl rfl rfl rfl) rfl rfl rfl rfl rfl ?_
 refine dA rfl (aD (aC (ay (bP rfl rfl ?_))))
 all_goals skip
 all_goals exact az rfl rfl (congrArg Ty.bool (by unfold xN; rfl))
set_option maxRecDepth 100000 in
theorem K5 (y : ak) (hr : y.cG) (fl : List bu) (a : List Int) (hfl : fl.length ≤ 34) (hb : ∀ i, i < fl.length → 0 ≤ (nth fl i).lo ∧ (nth fl i).lo ≤ 300 ∧ 0 ≤ (nth fl i).hi ∧ (nth fl i).hi ≤ 300) (p : Dx) (hp : ∀ x ∈ p.cells, (-1 ≤ x.bin ∧ x.bin < y.bins.length) ∧ 0 ≤ x.day ∧ x.day ≤ y.days) : dK Tryz.prog 137 [Ty.pp (mB y fl a), Ty.agg (mU p)] (Ty.int .i64 (jS y fl p)) := by
 refine ah Tryz.func137 rfl (by decide) Tryz.ntmps137 (by exact Nat.le_of_ble_eq_true rfl) fun w0 M0 => ?_
 refine aE (aA ?_)
 refine fu (by exact (rfl : _ = Ty.pp _)) rfl ?_
 refine bD rfl (bk rfl (aD (aC (aE (aE (aA ?_))))))
 refine aH rfl rfl rfl rfl rfl (by decide) ?_
 refine aI rfl rfl rfl rfl (cK rfl rfl rfl (bB rfl rfl rfl (aD (aC ?_))))
 refine aj rfl (fun hc1 => ?_) (fun hc1 => ?_)
 ·
  refine aE (aA (aI rfl rfl rfl rfl (af (Gt y fl a hfl hb) rfl rfl rfl rfl rfl (bk rfl (aD (aC (ay (aS (bP rfl rfl ?_)))))))))
  all_goals skip
  all_goals exact az rfl rfl (congrArg (Ty.int .i64) (Ci (Nw hc1)))
 refine aq (aC (aE (aA (dL rfl (QF rfl (aD (aC (aE (aA ?_)))))))))
 refine bk rfl (aD (aC (aE (aE (aA (aI rfl rfl rfl rfl (bq rfl ?_)))))))
 refine aH rfl rfl rfl rfl rfl (by decide) ?_
 refine aI rfl rfl rfl rfl (cK rfl rfl rfl (bG rfl (aD (aC (aZ ?_)))))
 refine cF (fun (k : {k : Nat // k ≤ fl.length}) => live [(3, Ty.pp (mU p)), (5, Ty.ju 187 [Ty.pp (mU p), Ty.pp [Ty.pp (mB y fl a)]]), (6, Ty.int .i64 (gT y fl p k.1)), (21, Ty.sl dg fl), (22, Ty.int .i64 fl.length), (23, Ty.int .i64 (k.1 : Nat))] []) (fun k => fl.length - k.1) (⟨0, by omega⟩) ?_ fun k => ?_
 ·(refine cx.mk' ?_ ?_ <;> (repeat' (first | exact aJ | exact aK | refine aB ?_ (Ty.aU _) | refine aB ?_ (Ty.aF _) | refine aB ?_ ?_)))
  all_goals exact Ty.bE zO
 have hk := k.2
 have hup := CA (y := y) (p := p) hb k.1 k.2
 refine aE (aA (bB rfl rfl rfl (aD (aC (aE ?_)))))
 refine aj rfl (fun hc2 => ?_) (fun hc2 => ?_)
 ·
  refine aq (aC (aE (aZ (aE (aA ?_)))))
  refine av rfl rfl rfl rfl rfl rfl (by omega) ?_
  refine aX rfl rfl rfl (by exact Nat.le_of_ble_eq_true rfl) ?_
  refine bp rfl (by exact List.cons_ne_nil _ _) rfl ?_
  refine bZ rfl rfl (by decide) rfl rfl rfl rfl rfl rfl ?_
  refine aD (aC (aE ?_))
  have hbk := hb k.1 (by omega)
  have hhf := E2 (y := y) (p := p) (m := gT y fl p k.1) (f := (nth fl k.1)) ⟨hbk.1, hbk.2.1⟩
  refine cP mixed rfl (Ph rfl ?_)
  refine aR rfl rfl rfl rfl rfl (by decide) ?_
  refine aY rfl rfl (by decide) rfl rfl rfl ?_
  refine eS rfl (dS (sC y hr fl a p hp (nth fl k.1).dst) rfl rfl rfl rfl rfl rfl) rfl (fB rfl ?_)
  apply aN (s := 31) rfl rfl rfl
  ·intro hg; apply aO; (refine Ph rfl ?_); refine aD ?_; exact rfl
  ·exact rfl
  ·exact rfl
  apply aN (s := 31) rfl rfl rfl
  ·intro hg; apply aO; (refine aR rfl rfl rfl rfl rfl (by decide) ?_); refine aD ?_; exact rfl
  ·exact rfl
  ·exact rfl
  apply aN (s := 31) rfl rfl rfl
  ·intro hg; apply aL (s := 33) rfl (by (rw [hg]; rfl)); apply aO; (refine aY rfl rfl (by decide) rfl rfl rfl ?_); refine aD ?_; exact rfl
  ·exact rfl
  ·exact rfl
  apply aN (s := 31) rfl rfl rfl
  ·intro hg; apply aL (s := 32) rfl (by (rw [hg]; rfl)); apply aL (s := 34) rfl (by (rw [hg]; rfl)); apply aO; (refine eS rfl (dS (sC y hr fl a p hp (nth fl k.1).src) rfl rfl rfl rfl rfl rfl) rfl ?_); refine aD ?_; exact rfl
  ·exact rfl
  ·exact rfl
  apply aN (s := 31) rfl rfl rfl
  ·intro hg; apply aL (s := 35) rfl (by (rw [hg]; rfl)); apply aO; (refine eN rfl ?_); refine aD ?_; exact rfl
  ·exact rfl
  ·exact rfl
  refine dy rfl rfl (Ph rfl ?_)
  refine aR rfl rfl rfl rfl rfl (by decide) ?_
  refine aY rfl rfl (by decide) rfl rfl rfl ?_
  refine eS rfl (dS (sC y hr fl a p hp (nth fl k.1).src) rfl rfl rfl rfl rfl rfl) rfl (fB rfl ?_)
  apply aN (s := 42) rfl rfl rfl
  ·intro hg; apply aO; (refine Ph rfl ?_); refine aD ?_; exact rfl
  ·exact rfl
  ·exact rfl
  apply aN (s := 42) rfl rfl rfl
  ·intro hg; apply aO; (refine aR rfl rfl rfl rfl rfl (by decide) ?_); refine aD ?_; exact rfl
  ·exact rfl
  ·exact rfl
  apply aN (s := 42) rfl rfl rfl
  ·intro hg; apply aL (s := 44) rfl (by (rw [hg]; rfl)); apply aO; (refine aY rfl rfl (by decide) rfl rfl rfl ?_); refine aD ?_; exact rfl
  ·exact rfl
  ·exact rfl
  apply aN (s := 42) rfl rfl rfl
  ·intro hg; apply aL (s := 43) rfl (by (rw [hg]; rfl)); apply aL (s := 45) rfl (by (rw [hg]; rfl)); apply aO; (refine eS rfl (dS (sC y hr fl a p hp (nth fl k.1).dst) rfl rfl rfl rfl rfl rfl) rfl ?_); refine aD ?_; exact rfl
  ·exact rfl
  ·exact rfl
  apply aN (s := 42) rfl rfl rfl
  ·intro hg; apply aL (s := 46) rfl (by (rw [hg]; rfl)); apply aO; (refine eN rfl ?_); refine aD ?_; exact rfl
  ·exact rfl
  ·exact rfl
  refine dy rfl rfl (dA rfl (dA rfl (aD ?_)))
  refine ⟨by kernel_rfl, ?_⟩
  refine aC ?_
  refine mJ (J := live [(3, Ty.pp (mU p)), (5, Ty.ju 187 [Ty.pp (mU p), Ty.pp [Ty.pp (mB y fl a)]]), (6, Ty.int .i64 (gT y fl p k.1)), (8, Ty.ptr 9 0), (9, Ty.bool (HN y p (nth fl k.1))), (10, Ty.bool (Fq y p (nth fl k.1))), (21, Ty.sl dg fl), (22, Ty.int .i64 fl.length), (23, Ty.int .i64 (k.1 : Nat))] [(9, Cont.cells 187 (dg.tys (nth fl k.1)))]) ?_ ?_
  ·
   refine aE (aA ?_)
   refine aH rfl rfl rfl rfl rfl (by decide) ?_
   refine aI rfl rfl rfl rfl (aD (aC ?_))
   refine cI rfl (fun hc3 => ?_) (fun hc3 => ?_)
   ·
    refine aA (fB rfl (fB rfl (dA rfl (dA rfl (aD (fJ ?_))))))
    (refine cx.mk' ?_ ?_ <;> (repeat' (first | exact aJ | exact aK | refine aB ?_ (Ty.aU _) | refine aB ?_ (Ty.aF _) | refine aG rfl (Cont.aF _) ?_ | refine aB ?_ ?_)))
    all_goals first | exact Ty.dm (KN (by assumption)).1 | exact Ty.dm (KN (by assumption)).2
   refine aq (fJ ?_)
   (refine cx.mk' ?_ ?_ <;> (repeat' (first | exact aJ | exact aK | refine aB ?_ (Ty.aU _) | refine aB ?_ (Ty.aF _) | refine aG rfl (Cont.aF _) ?_ | refine aB ?_ ?_)))
   all_goals first | exact Ty.dm (MV (by assumption)).1 | exact Ty.dm (MV (by assumption)).2
  refine mJ (J := live [(3, Ty.pp (mU p)), (5, Ty.ju 187 [Ty.pp (mU p), Ty.pp [Ty.pp (mB y fl a)]]), (6, Ty.int .i64 (oJ y p (gT y fl p k.1) (nth fl k.1))), (8, Ty.ptr 9 0), (10, Ty.bool (Fq y p (nth fl k.1))), (21, Ty.sl dg fl), (22, Ty.int .i64 fl.length), (23, Ty.int .i64 (k.1 : Nat))] [(9, Cont.cells 187 (dg.tys (nth fl k.1)))]) ?_ ?_
  ·
   refine aE (aA (fB rfl (aD (aC ?_))))
   refine cI rfl (fun hc4 => ?_) (fun hc4 => ?_)
   ·
    refine aA (bG rfl ?_)
    refine aR rfl rfl rfl rfl rfl (by decide) ?_
    refine aY rfl rfl (by decide) rfl rfl rfl ?_
    refine cA rfl rfl (by omega) (by omega) ?_
    refine bk rfl (aD (fJ ?_))
    (refine cx.mk' ?_ ?_ <;> (repeat' (first | exact aJ | exact aK | refine aB ?_ (Ty.aU _) | refine aB ?_ (Ty.aF _) | refine aG rfl (Cont.aF _) ?_ | refine aB ?_ ?_)))
    all_goals exact Ty.bE (HP (by assumption))
   refine aq (fJ ?_)
   (refine cx.mk' ?_ ?_ <;> (repeat' (first | exact aJ | exact aK | refine aB ?_ (Ty.aU _) | refine aB ?_ (Ty.aF _) | refine aG rfl (Cont.aF _) ?_ | refine aB ?_ ?_)))
   all_goals exact Ty.bE (Ky (by assumption))
  refine aE (aA (fB rfl (aD (aC ?_))))
  refine cI rfl (fun hc5 => ?_) (fun hc5 => ?_)
  ·
   refine aA (bG rfl ?_)
   refine aR rfl rfl rfl rfl rfl (by decide) ?_
   refine aY rfl rfl (by decide) rfl rfl rfl ?_
   refine gR rfl rfl (by omega) (by omega) ?_
   refine bk rfl (aD (bI (aC (aA ?_))))
   refine cA rfl rfl (by omega) (by omega) ?_
   refine bG rfl (aD ?_)
   refine bO (⟨k.1 + 1, by omega⟩) ?_ (by show fl.length - (k.1 + 1) < fl.length - k.1; omega)
   (refine cx.mk' ?_ ?_ <;> (repeat' (first | exact aJ | exact aK | refine aB ?_ (Ty.aU _) | refine aB ?_ (Ty.aF _) | refine aB ?_ ?_)))
   all_goals skip
   all_goals exact Ty.bE (Cg (by assumption))
  refine aq (bI (aC (aA ?_)))
  refine cA rfl rfl (by omega) (by omega) ?_
  refine bG rfl (aD ?_)
  refine bO (⟨k.1 + 1, by omega⟩) ?_ (by show fl.length - (k.1 + 1) < fl.length - k.1; omega)
  (refine cx.mk' ?_ ?_ <;> (repeat' (first | exact aJ | exact aK | refine aB ?_ (Ty.aU _) | refine aB ?_ (Ty.aF _) | refine aB ?_ ?_)))
  all_goals skip
  all_goals exact Ty.bE (E3 (by assumption))
 refine cE (aP (aP (aa rfl (aC (aE (aA (bG rfl (bk rfl (aD ?_)))))))))
 refine aC (ay (bP rfl rfl ?_))
 all_goals skip
 all_goals exact az rfl rfl (congrArg (Ty.int .i64) ((show _ = gT y fl p fl.length by rw [show k.1 = fl.length by have := k.2; omega]).trans (CH (LS hc1))))
set_option maxRecDepth 100000 in
theorem Hj (a b : BL) : dK Tryz.prog 136 [Ty.agg (qh.tys a), Ty.agg (qh.tys b)] (Ty.bool (lu a b)) := by
 refine ah Tryz.func136 rfl (by decide) Tryz.ntmps136 (by exact Nat.le_of_ble_eq_true rfl) fun w0 M0 => ?_
 refine aE (aA (bD rfl (bD rfl (dA rfl (aD (aC (aE (aA ?_))))))))
 refine aX rfl rfl rfl (by exact Nat.le_of_ble_eq_true rfl) ?_
 refine aX rfl rfl rfl (by exact Nat.le_of_ble_eq_true rfl) ?_
 refine sQ (Nc a.bin a.day b.bin b.day) rfl rfl (fB rfl ?_)
 apply aN (s := 8) rfl rfl rfl
 ·intro hg; apply aO; (refine aH rfl rfl rfl rfl rfl (by decide) ?_); refine aD ?_; exact rfl
 ·exact rfl
 ·exact rfl
 apply aN (s := 8) rfl rfl rfl
 ·intro hg; apply aL (s := 9) rfl (by (rw [hg]; rfl)); apply aO; (refine aI rfl rfl rfl rfl ?_); refine aD ?_; exact rfl
 ·exact rfl
 ·exact rfl
 apply aN (s := 8) rfl rfl rfl
 ·intro hg; apply aO; (refine aH rfl rfl rfl rfl rfl (by decide) ?_); refine aD ?_; exact rfl
 ·exact rfl
 ·exact rfl
 apply aN (s := 8) rfl rfl rfl
 ·intro hg; apply aL (s := 11) rfl (by (rw [hg]; rfl)); apply aO; (refine aI rfl rfl rfl rfl ?_); refine aD ?_; exact rfl
 ·exact rfl
 ·exact rfl
 apply aN (s := 8) rfl rfl rfl
 ·intro hg; apply aL (s := 10) rfl (by (rw [hg]; rfl)); apply aL (s := 12) rfl (by (rw [hg]; rfl)); apply aO; (refine bB rfl rfl rfl ?_); refine aD ?_; exact rfl
 ·exact rfl
 ·exact rfl
 apply aN (s := 8) rfl rfl rfl
 ·intro hg; apply aL (s := 13) rfl (by (rw [hg]; rfl)); apply aO; (refine fB rfl ?_); refine aD ?_; exact rfl
 ·exact rfl
 ·exact rfl
 apply fT (s := 14) rfl rfl rfl
 ·intro hg1 hg2; apply aO; (refine aH rfl rfl rfl rfl rfl (by decide) ?_); refine aD ?_; exact rfl
 ·exact rfl
 ·exact rfl
 apply fT (s := 14) rfl rfl rfl
 ·intro hg1 hg2; apply aL (s := 15) rfl (by (rw [hg1, hg2]; rfl)); apply aO; (refine aI rfl rfl rfl rfl ?_); refine aD ?_; exact rfl
 ·exact rfl
 ·exact rfl
 apply fT (s := 14) rfl rfl rfl
 ·intro hg1 hg2; apply aO; (refine aH rfl rfl rfl rfl rfl (by decide) ?_); refine aD ?_; exact rfl
 ·exact rfl
 ·exact rfl
 apply fT (s := 14) rfl rfl rfl
 ·intro hg1 hg2; apply aL (s := 17) rfl (by (rw [hg1, hg2]; rfl)); apply aO; (refine aI rfl rfl rfl rfl ?_); refine aD ?_; exact rfl
 ·exact rfl
 ·exact rfl
 apply fT (s := 14) rfl rfl rfl
 ·intro hg1 hg2; apply aL (s := 16) rfl (by (rw [hg1, hg2]; rfl)); apply aL (s := 18) rfl (by (rw [hg1, hg2]; rfl)); apply aO; (refine bB rfl rfl rfl ?_); refine aD ?_; exact rfl
 ·exact rfl
 ·exact rfl
 apply fT (s := 14) rfl rfl rfl
 ·intro hg1 hg2; apply aL (s := 19) rfl (by (rw [hg1, hg2]; rfl)); apply aO; (refine fB rfl ?_); refine aD ?_; exact rfl
 ·exact rfl
 ·exact rfl
 apply fT (s := 20) rfl rfl rfl
 ·intro hg1 hg2; apply aO; (refine aH rfl rfl rfl rfl rfl (by decide) ?_); refine aD ?_; exact rfl
 ·exact rfl
 ·exact rfl
 apply fT (s := 20) rfl rfl rfl
 ·intro hg1 hg2; apply aL (s := 21) rfl (by (rw [hg1, hg2]; rfl)); apply aO; (refine aI rfl rfl rfl rfl ?_); refine aD ?_; exact rfl
 ·exact rfl
 ·exact rfl
 apply fT (s := 20) rfl rfl rfl
 ·intro hg1 hg2; apply aO; (refine aH rfl rfl rfl rfl rfl (by decide) ?_); refine aD ?_; exact rfl
 ·exact rfl
 ·exact rfl
 apply fT (s := 20) rfl rfl rfl
 ·intro hg1 hg2; apply aL (s := 23) rfl (by (rw [hg1, hg2]; rfl)); apply aO; (refine aI rfl rfl rfl rfl ?_); refine aD ?_; exact rfl
 ·exact rfl
 ·exact rfl
 apply fT (s := 20) rfl rfl rfl
 ·intro hg1 hg2; apply aL (s := 22) rfl (by (rw [hg1, hg2]; rfl)); apply aL (s := 24) rfl (by (rw [hg1, hg2]; rfl)); apply aO; (refine bB rfl rfl rfl ?_); refine aD ?_; exact rfl
 ·exact rfl
 ·exact rfl
 apply fT (s := 14) rfl rfl rfl
 ·intro hg1 hg2; apply aL (s := 20) rfl (by (rw [hg1, hg2]; rfl)); apply qz (s := 25) rfl (by (rw [hg1, hg2]; rfl)); apply aO; (refine dy rfl rfl ?_); refine aD ?_; exact rfl
 ·exact rfl
 ·exact rfl
 apply aN (s := 8) rfl rfl rfl
 ·intro hg; apply aL (s := 14) rfl (by (rw [hg]; rfl)); apply qz (s := 26) rfl (by (rw [hg]; rfl)); apply aO; (refine ig rfl rfl ?_); refine aD ?_; exact rfl
 ·exact rfl
 ·exact rfl
 refine dy rfl rfl (dA rfl (aD (aC (ay (bP rfl rfl ?_)))))
 all_goals skip
 all_goals exact az rfl rfl (congrArg Ty.bool (by unfold lu; rw [OD]))
set_option maxRecDepth 100000 in
theorem Gl (y : ak) (hr : y.cG) (hs : y.Small) (c : BL) : dK Tryz.prog 134 [Ty.agg (qh.tys c), Ty.pp (bH y)] (Ty.bool (HZ y c)) := by
 refine ah Tryz.func134 rfl (by decide) Tryz.ntmps134 (by exact Nat.le_of_ble_eq_true rfl) fun w0 M0 => ?_
 have h2 := hr.days
 refine aE (aA (bD rfl (dA rfl (aD (aC (aE (aA ?_)))))))
 refine aX rfl rfl rfl (by exact Nat.le_of_ble_eq_true rfl) ?_
 refine aH rfl rfl rfl rfl rfl (by decide) ?_
 refine aI rfl rfl rfl rfl (af (Ef y hs _) rfl rfl rfl rfl rfl (fB rfl ?_))
 apply aN (s := 8) rfl rfl rfl
 ·intro hg; apply aO; (refine aH rfl rfl rfl rfl rfl (by decide) ?_); refine aD ?_; exact rfl
 ·exact rfl
 ·exact rfl
 apply aN (s := 8) rfl rfl rfl
 ·intro hg; apply aL (s := 9) rfl (by (rw [hg]; rfl)); apply aO; (refine aI rfl rfl rfl rfl ?_); refine aD ?_; exact rfl
 ·exact rfl
 ·exact rfl
 apply aN (s := 8) rfl rfl rfl
 ·intro hg; apply aO; (refine aH rfl rfl rfl rfl rfl (by decide) ?_); refine aD ?_; exact rfl
 ·exact rfl
 ·exact rfl
 apply aN (s := 8) rfl rfl rfl
 ·intro hg; apply aL (s := 11) rfl (by (rw [hg]; rfl)); apply aO; (refine aI rfl rfl rfl rfl ?_); refine aD ?_; exact rfl
 ·exact rfl
 ·exact rfl
 apply aN (s := 8) rfl rfl rfl
 ·intro hg; apply aL (s := 12) rfl (by (rw [hg]; rfl)); apply aO; (refine gR rfl rfl (by omega) (by omega) ?_); refine aD ?_; exact rfl
 ·exact rfl
 ·exact rfl
 apply aN (s := 8) rfl rfl rfl
 ·intro hg; apply aL (s := 10) rfl (by (rw [hg]; rfl)); apply aL (s := 13) rfl (by (rw [hg]; rfl)); apply aO; (refine af (uX _ _ _) rfl rfl rfl rfl rfl ?_); refine aD ?_; exact rfl
 ·exact rfl
 ·exact rfl
 refine dy rfl rfl (dA rfl (aD (aC (ay (bP rfl rfl ?_)))))
 all_goals exact b9 rfl rfl
 all_goals trace_state
set_option maxRecDepth 100000 in
theorem JL (y : ak) (hs : y.Small) (p : Dx) (hl : p.cells.length ≤ 1000) : dK Tryz.prog 61 [dn y, Ty.agg (mU p)] (Ty.kY [Ty.int .i64 (tW y p), Ty.int .i64 (nG y p)]) := by
 refine ah Tryz.func61 rfl (by decide) Tryz.ntmps61 (by exact Nat.le_of_ble_eq_true rfl) fun w0 M0 => ?_
 refine aE (aA (bD rfl (bD rfl (bk rfl (bk rfl (aD (aC (aE (aE ?_)))))))))
 refine aA ?_
 refine aX rfl rfl rfl (by exact Nat.le_of_ble_eq_true rfl) ?_
 refine af (lE y hs) rfl rfl rfl rfl rfl (bk rfl (aD (aC (aE (aA (bG rfl (bB rfl rfl rfl (aD (aC ?_)))))))))
 refine dH rfl (fun hc1 => ?_) (fun hc1 => ?_)
 ·
  refine aE (aA (bG rfl (bk rfl (bk rfl (aD (aC (ay (aS ?_))))))))
  refine fV rfl rfl rfl ?_ ?_
  all_goals skip
  all_goals first | exact az rfl rfl (congrArg (Ty.int .i64) (Mn hc1).1) | exact az rfl rfl (congrArg (Ty.int .i64) (Mn hc1).2)
 refine aq (aC (aE (aE ?_)))
 have hck : bL y = 0 := hc1
 have hr := c6 hck
 refine aA ?_
 refine aH rfl rfl rfl rfl rfl (by decide) ?_
 refine aI rfl rfl rfl rfl (dL rfl ?_)
 refine af (B8 p.cells (Ty.ju 134 [Ty.pp (bH y)]) rfl (HZ y) rfl rfl fun c _ => dS (Gl y hr hs c) rfl rfl rfl rfl rfl rfl) rfl rfl rfl rfl rfl ?_
 refine eN rfl (aD (aC ?_))
 refine cI rfl (fun hc2 => ?_) (fun hc2 => ?_)
 ·
  refine aE (aA (bk rfl (bk rfl (aD (aC (ay (aS ?_)))))))
  refine fV rfl rfl rfl ?_ ?_
  all_goals skip
  all_goals first | exact az rfl rfl (congrArg (Ty.int .i64) (Me hc1 (nA hc2)).1) | exact az rfl rfl (congrArg (Ty.int .i64) (Me hc1 (nA hc2)).2)
 refine aq (aC (aE (aE ?_)))
 have hall : (p.cells.all (HZ y)) = true := eX hc2
 refine aA (bk rfl (aD (aC (aZ ?_))))
 refine cF (fun (i : {i : Nat // 1 ≤ i ∧ ∀ j, j + 1 < i → j + 1 < p.cells.length → lu (nth p.cells j) (nth p.cells (j + 1)) = true}) => live [(2, Ty.pp (bH y)), (3, Ty.pp (mU p)), (7, Ty.int .i64 (i.1 : Nat))] []) (fun i => p.cells.length - i.1) (⟨1, Nat.le_refl _, fun j hj => by omega⟩) ?_ fun i => ?_
 ·(refine cx.mk' ?_ ?_ <;> (repeat' (first | exact aJ | exact aK | refine aB ?_ (Ty.aU _) | refine aB ?_ (Ty.aF _))))
 have hi1 := i.2.1
 refine aE (aE (aA (bG rfl ?_)))
 refine aH rfl rfl rfl rfl rfl (by decide) ?_
 refine aI rfl rfl rfl rfl (cK rfl rfl rfl (bB rfl rfl rfl (aD (aC ?_))))
 refine aj rfl (fun hc3 => ?_) (fun hc3 => ?_)
 ·
  refine aq (aC (aE (aZ (aE (cP mixed rfl ?_)))))
  refine aH rfl rfl rfl rfl rfl (by decide) ?_
  refine aI rfl rfl rfl rfl (bG rfl ?_)
  refine gR rfl rfl (by omega) (by omega) ?_
  refine av (i := i.1 - 1) rfl (by exact congrArg (Ty.int .i64) (by omega : ((i.1 : Nat) : Int) - 1 = ((i.1 - 1 : Nat) : Int))) rfl rfl rfl rfl (by omega) ?_
  refine aX rfl rfl rfl (by exact Nat.le_of_ble_eq_true rfl) ?_
  refine aH rfl rfl rfl rfl rfl (by decide) ?_
  refine aI rfl rfl rfl rfl (bG rfl ?_)
  refine av rfl rfl rfl rfl rfl rfl (by omega) ?_
  refine aX rfl rfl rfl (by exact Nat.le_of_ble_eq_true rfl) ?_
  refine af (Hj _ _) rfl rfl rfl rfl rfl (eN rfl (aD ?_))
  refine ⟨by kernel_rfl, ?_⟩
  refine aC ?_
  refine cI rfl (fun hc4 => ?_) (fun hc4 => ?_)
  ·
   refine aE (aA (bk rfl (bk rfl (aD (aC (ay (bC (aS (aS ?_)))))))))
   refine bC (aS ?_)
   refine fV rfl rfl rfl ?_ ?_
   all_goals skip
   all_goals first | exact az rfl rfl (congrArg (Ty.int .i64) (Jb hc1 hall i.2.1 (by omega) (nA hc4)).1) | exact az rfl rfl (congrArg (Ty.int .i64) (Jb hc1 hall i.2.1 (by omega) (nA hc4)).2)
  refine aq (bI (aC (aA (bG rfl ?_))))
  refine cA rfl rfl (by omega) (by omega) ?_
  refine bk rfl (aD ?_)
  refine bO (⟨i.1 + 1, by omega, fun j hj hj2 => by by_cases e : j + 1 = i.1; (have := eX hc4; rwa [show i.1 - 1 = j by omega, show i.1 = j + 1 by omega] at this); exact i.2.2 j (by omega) hj2⟩) ?_ (by show p.cells.length - (i.1 + 1) < p.cells.length - i.1; omega)
  (refine cx.mk' ?_ ?_ <;> (repeat' (first | exact aJ | exact aK | refine aB ?_ (Ty.aU _) | refine aB ?_ (Ty.aF _))))
  all_goals skip
 refine cE (aP (aP (aa rfl (aC (aE (cP mixed rfl ?_))))))
 refine aX rfl rfl rfl (by exact Nat.le_of_ble_eq_true rfl) ?_
 refine af (sG) rfl rfl rfl rfl rfl ?_
 refine dI (res' := Ty.pp (rP y 2000 1000 (aQ y (nth bY)).length (aQ y (nth bY)).length)) [(2000, 23), (1000, 31)] [2000, 1000] [(2000, Cont.vec dg 187 (aQ y (nth bY))), (1000, Cont.vec cy 3 (gZ (aQ y (nth bY))))] (rV y hr bY jh) rfl rfl (aM (aM bU (aT rfl rfl)) (aT rfl rfl)) pre_nil (bg (a := 2000) (b := 23) (by decide) rfl (bh (by decide) rfl) (bg (a := 1000) (b := 31) (by decide) rfl (bh (by decide) rfl) post_nil)) (e8 (aM (aM (aM (aM (aM (aM bU (dZ (by decide))) (dZ (by decide))) (aT rfl rfl)) (aT rfl rfl)) (aT rfl rfl)) (aT rfl rfl))) ?_
 refine aX rfl rfl rfl (by exact Nat.le_of_ble_eq_true rfl) ?_
 refine eI [2000, 1000] (K5 y hr (aQ y (nth bY)) (gZ (aQ y (nth bY))) (j6 hr) (KT hr) p (fun x hx => OB (List.all_eq_true.1 hall x hx))) rfl (aW (kN (aW (bT (bR rfl rfl)) (aW (bT (bR rfl rfl)) (aW (bT (bR rfl rfl)) (aW (bT (bR rfl rfl)) (aW (jV rfl rfl (by decide) rfl) (aW (jV rfl (DS _) (by decide) rfl) cN))))))) (aW (bT (bR rfl rfl)) cN)) (by exact dX _ _) ?_
 refine bk rfl (aD ?_)
 refine ⟨by kernel_rfl, ?_⟩
 refine aC (aE (aE (aA (bG rfl (bB rfl rfl rfl (aD (aC ?_)))))))
 refine aj rfl (fun hc5 => ?_) (fun hc5 => ?_)
 ·
  refine aE (aA (bk rfl (bk rfl (aD (aC (ay (aS ?_)))))))
  refine fV rfl rfl rfl ?_ ?_
  all_goals skip
  all_goals first | exact az rfl rfl (congrArg (Ty.int .i64) (MW hc1 hall (fun j hj => i.2.2 j (by omega) hj) hc5).1) | exact az rfl rfl (congrArg (Ty.int .i64) (MW hc1 hall (fun j hj => i.2.2 j (by omega) hj) hc5).2)
 refine aq (aC (aE (aA (bG rfl (bk rfl (bk rfl (aD (aC (ay ?_)))))))))
 refine fV rfl rfl rfl ?_ ?_
 all_goals skip
 all_goals first | exact az rfl rfl (congrArg (Ty.int .i64) (Jv hc1 hall (fun j hj => i.2.2 j (by omega) hj) hc5).1) | exact az rfl rfl (congrArg (Ty.int .i64) (Jv hc1 hall (fun j hj => i.2.2 j (by omega) hj) hc5).2)
end Go.Proofs.YtelbollidfdcjaaGreat
namespace Go.Proofs.YtelbollidfdcjaaGreat
open Go Go.T
set_option maxHeartbeats 8000000
attribute [local irreducible] aQ gZ
attribute [local irreducible] gA eU lH nR gy gl g5 gr g9 nU gx nZ dN fS nJ ff nQ nth fI dQ au dK bodyPost Exit.then Exit.inBlock Code.wp Code.wpIn nY gm oC n9 g7 eM cJ cH bodyPostM dP
set_option maxRecDepth 100000 in
theorem tX (y : ak) (hr : y.cG) (c8 : List Bool) (hc8 : c8.length = 8) : eM Tryz.prog 117 [] [] [dn y, Ty.arr eV c8] [(31, Cont.vec cy 3 (gZ (aQ y (nth c8))))] (Ty.pp (eF y (aQ y (nth c8)) 31 (aQ y (nth c8)).length)) := by
 refine qn Tryz.func117 rfl (by decide) Tryz.ntmps117 (by exact Nat.le_of_ble_eq_true rfl) fun w0 M0 => ?_
 have hfl := j6 (c := nth c8) hr
 refine aE (aA (bD rfl (tM rfl (lq rfl (aD (aC (aE (aA ?_))))))))
 refine aX rfl rfl rfl (by exact Nat.le_of_ble_eq_true rfl) ?_
 refine dG rfl rfl (by exact List.cons_ne_nil _ _) rfl (by repeat (first | exact (aV.nil : aV _ _ [] _) | (show aV _ _ ((_, _) :: _) _; apply aV.agg; (· exact (rfl : _ = Ty.agg _))))) (by exact rfl) ?_
 refine y4 rfl rfl rfl ?_
 refine bp rfl (by exact List.cons_ne_nil _ _) rfl ?_
 refine cm rfl rfl (by decide) rfl rfl (by exact (rfl : _ = Ty.ptr _ _)) rfl (by exact Nat.le_of_ble_eq_true rfl) rfl rfl (by exact (rfl : _ = [_])) ?_
 refine aD (aC (aE (aE (aA ?_))))
 refine aY rfl rfl (by decide) rfl rfl rfl ?_
 refine vq rfl rfl rfl (by rw [hc8]; rfl) ?_
 refine dI (res' := Ty.ju 196 [Ty.pp [Ty.ptr 10 0], Ty.pa eV c8 0]) [(10, 1000)] [] [(10, Cont.cells 185 (E8 y))] (JM y c8 hc8) rfl rfl (aM (aM bU (aT rfl rfl)) (jm (by exact List.mem_cons_self))) (cz (a := 10) (b := 1000) (by exact List.mem_cons_self) rfl (kS (by exact List.mem_cons_self) rfl rfl rfl) pre_nil) (bg (a := 10) (b := 1000) (by exact List.mem_cons_self) rfl (kS (by exact List.mem_cons_self) rfl rfl rfl) post_nil) (tJ (aM (aM bU (aT rfl rfl)) (e8 (aM bU (jm (by exact List.mem_cons_self)))))) ?_
 refine aD (aC ?_)
 refine IL (D := 10) (Tb := 185) (tys := bH y) (r := [Ty.ex (.slice none 0 0), Ty.ex (.slice none 0 0)]) rfl rfl rfl (by decide) fun vs hvs => ?_
 obtain ⟨v0, v1, v2, v3, rfl⟩ := four hvs rfl
 refine aZ ?_
 refine rO (ps := [13]) (lk [(5, Ty.ptr 6 0), (9, Ty.ptr 10 0)]) (fun k => [(6, Cont.cells 152 [Ty.ptr 10 0]), (10, Cont.cells 185 [Ty.ex v0, Ty.ex v1, Ty.ex v2, Ty.ex v3, Ty.row dg 187 23 ((aQ y (nth c8)).take k), Ty.row cy 3 31 ((gZ (aQ y (nth c8))).take k)]), (4000, Cont.fact (bH y) [v0, v1, v2, v3] rfl rfl)]) false [] [6, 10, 4000] rfl rfl ((vC y hr c8 hc8 0 10 (by decide) [v0, v1, v2, v3]).1) (Bq (D := 10) (n := 36) (sd := 9) (r := fun k => [Ty.row dg 187 23 ((aQ y (nth c8)).take k), Ty.row cy 3 31 ((gZ (aQ y (nth c8))).take k)]) (fun b => vC y hr c8 hc8 b 10 (by decide) [v0, v1, v2, v3]) (by decide) (by decide) rfl (fun k => List.mem_cons_of_mem _ List.mem_cons_self) (List.mem_cons_of_mem _ (List.mem_cons_of_mem _ List.mem_cons_self))) (uz rfl) (uz rfl) (by decide) (by intro t ht; obtain ⟨x, _, rfl⟩ := List.mem_map.1 ht; exact ⟨rfl, rfl, rfl⟩) rfl rfl (fun _ => rfl) rfl ?_ ?_ ?_ (by intro h; cases h)
 ·(refine cx.mk' ?_ ?_ <;> (repeat' (first | exact aJ | exact aK | exact dD | refine aB ?_ (Ty.aU _) | refine aB ?_ (Ty.aF _) | refine aG rfl (Cont.aF _) ?_ | refine aG rfl (Cont.dF ?_) ?_ | refine bM ?_ (Ty.aF _) | refine bM ?_ Ty.gq)))
  all_goals trace_state
 ·intro k tys hk
  obtain ⟨hk1, rfl⟩ := E4 hk
  refine ⟨live [(5, Ty.ptr 6 0), (6, Ty.ptr 7 0), (9, Ty.ptr 10 0)] [(6, Cont.cells 152 [Ty.ptr 10 0]), (7, Cont.cells 187 (dg.tys (nth (aQ y (nth c8)) k))), (10, Cont.cells 185 [Ty.ex v0, Ty.ex v1, Ty.ex v2, Ty.ex v3, Ty.row dg 187 23 ((aQ y (nth c8)).take k), Ty.row cy 3 31 ((gZ (aQ y (nth c8))).take k)]), (4000, Cont.fact (bH y) [v0, v1, v2, v3] rfl rfl)], fun l w M => ?_, fun l w M => ?_⟩
  ·
   refine aA ?_
   refine bp rfl (by exact List.cons_ne_nil _ _) rfl ?_
   refine bZ rfl rfl (by decide) rfl rfl rfl rfl rfl rfl ?_
   refine aD (fJ ?_)
   (refine cx.mk' ?_ ?_ <;> (repeat' (first | exact aJ | exact aK | refine aB ?_ (Ty.aU _) | refine aB ?_ (Ty.aF _) | refine aG rfl (Cont.aF _) ?_)))
  refine aZ ?_
  refine uw (D := 10) (Tb := 185) (tg := 23) [Ty.ex v0, Ty.ex v1, Ty.ex v2, Ty.ex v3] rfl fun v4 => ?_
  refine uw (D := 10) (Tb := 185) (tg := 31) [Ty.ex v0, Ty.ex v1, Ty.ex v2, Ty.ex v3, Ty.ex v4] rfl fun v5 => ?_
  refine cP mixed rfl ?_
  refine aY rfl rfl (by decide) rfl rfl rfl ?_
  refine aY rfl rfl (by decide) rfl rfl rfl ?_
  refine aY rfl rfl (by decide) rfl rfl rfl ?_
  refine cY rfl ?_
  refine aR rfl rfl rfl rfl rfl (by decide) ?_
  refine aY rfl rfl (by decide) rfl rfl rfl ?_
  refine bz rfl rfl (by decide) rfl rfl (by exact Nat.le_of_ble_eq_true rfl) ?_
  refine bW (E := dg) (xs := [_]) rfl rfl rfl rfl rfl (by decide) (by decide) (by repeat (first | exact (aV.nil : aV _ _ [] _) | (show aV _ _ ((_, _) :: _) _; apply aV.agg; (· exact (rfl : _ = Ty.agg _))))) (by exact rfl) rfl ?_
  refine qD (tg := 23) rfl rfl rfl rfl (by decide) rfl rfl rfl rfl rfl rfl (by decide) (by (simp <;> omega)) (by (simp <;> omega)) rfl rfl ?_
  refine aY rfl rfl (by decide) rfl rfl rfl ?_
  refine cY rfl ?_
  refine aR rfl rfl rfl rfl rfl (by decide) ?_
  refine aY rfl rfl (by decide) rfl rfl rfl ?_
  refine aR rfl rfl rfl rfl rfl (by decide) ?_
  refine aY rfl rfl (by decide) rfl rfl rfl ?_
  refine bW (E := cy) (xs := [_]) rfl rfl rfl rfl rfl (by decide) (by decide) (by repeat (first | exact (aV.nil : aV _ _ [] _) | (show aV _ _ ((_, _) :: _) _; apply aV.one; (· exact (rfl : _ = Ty.int _ _)); (· exact rfl)))) (by exact rfl) rfl ?_
  refine qD (tg := 31) rfl rfl rfl rfl (by decide) rfl rfl rfl rfl rfl rfl (by decide) (by (simp <;> omega)) (by (simp <;> omega)) rfl rfl ?_
  refine cY rfl ?_
  refine aR rfl rfl rfl rfl rfl (by decide) ?_
  refine cm rfl rfl (by decide) rfl rfl (by exact (rfl : _ = Ty.row _ _ _ _)) rfl (by exact Nat.le_of_ble_eq_true rfl) rfl rfl (by exact rfl) ?_
  refine cY rfl ?_
  refine aR rfl rfl rfl rfl rfl (by decide) ?_
  refine cm rfl rfl (by decide) rfl rfl (by exact (rfl : _ = Ty.row _ _ _ _)) rfl (by exact Nat.le_of_ble_eq_true rfl) rfl rfl (by exact rfl) ?_
  refine aD ?_
  refine ⟨by kernel_rfl, ?_⟩
  refine bI (B2 ?_)
  (refine cx.mk' ?_ ?_ <;> (repeat' (first | exact aJ | exact aK | exact dD | refine aB ?_ (Ty.aU _) | refine aG rfl (Cont.aF _) ?_ | refine aG rfl (Cont.dF ?_) ?_ | refine bM ?_ (Ty.aF _) | refine bM ?_ ?_)))
  all_goals first | exact Ty.fH (cT hk1).symm | exact Ty.fH (Ee hk1)
 refine bI (aC (aE ?_))
 refine Ca (D := 10) (Tb := 185) (vs := [v0, v1, v2, v3]) (tys := bH y) (r := [Ty.row dg 187 23 ((aQ y (nth c8)).take ((aQ y (nth c8)).map je).length), Ty.row cy 3 31 ((gZ (aQ y (nth c8))).take ((aQ y (nth c8)).map je).length)]) rfl rfl ?_
 refine jW (tg := 10) rfl (Cont.m9 (T := 185) (A8 (y := y) (fl := aQ y (nth c8)) (f := je))) ?_
 refine qN (c0 := 10) (tg := 23) 4 rfl rfl ?_
 refine qN (c0 := 10) (tg := 31) 5 rfl rfl ?_
 refine jW (tg := 10) rfl (Cont.jz (l' := rP y 23 31 (aQ y (nth c8)).length (aQ y (nth c8)).length) ⟨Ty.aF _, Ty.aF _, Ty.aF _, Ty.aF _, Ty.z4 rfl, Ty.z4 (DS _), trivial⟩) ?_
 refine jA (tg := 10) [] [(6, Cont.cells 152 [Ty.pp (rP y 23 31 (aQ y (nth c8)).length (aQ y (nth c8)).length)])] (by decide) rfl trivial ⟨fD rfl rfl ⟨xh rfl rfl (by decide), trivial⟩, trivial⟩ ?_
 refine jA (tg := 23) [] [(6, Cont.cells 152 [Ty.pp (eF y (aQ y (nth c8)) 31 (aQ y (nth c8)).length)])] (by decide) rfl trivial ⟨fD rfl rfl ⟨Bw ⟨bF rfl, bF rfl, bF rfl, bF rfl, jc rfl rfl (by decide), bF rfl, trivial⟩, trivial⟩, trivial⟩ ?_
 refine aA ?_
 refine aY rfl rfl (by decide) rfl rfl rfl ?_
 refine LR rfl (aD (aC (ay (JX rfl ?_))))
 refine iX [31] rfl rfl (by decide) (by repeat (first | exact gE | refine eC rfl (bh (by decide) rfl) ?_)) ?_
 all_goals skip
 all_goals exact iO (e8 (aM (aM (aM (aM (aM (aM bU (dZ (by decide))) (aT rfl rfl)) (aT rfl rfl)) (aT rfl rfl)) (aT rfl rfl)) (aT rfl rfl)))
end Go.Proofs.YtelbollidfdcjaaGreat
namespace Go.Proofs.YtelbollidfdcjaaGreat
open Go Go.T
theorem NU : Tryz.prog.underlying 180 = some (.array 8 4) := by kernel_rfl
theorem NO (a0 a1 a2 a3 a4 a5 a6 a7 b0 b1 b2 b3 b4 b5 b6 b7 : Bool) (w : World) : (Op.equal 180 (.agg #[.bool a0, .bool a1, .bool a2, .bool a3, .bool a4, .bool a5, .bool a6, .bool a7]) (.agg #[.bool b0, .bool b1, .bool b2, .bool b3, .bool b4, .bool b5, .bool b6, .bool b7])).run Tryz.prog w = .ok ((decide (a0 = b0) && (decide (a1 = b1) && (decide (a2 = b2) && (decide (a3 = b3) && (decide (a4 = b4) && (decide (a5 = b5) && (decide (a6 = b6) && decide (a7 = b7))))))))) w := by
 have hs : Tryz.prog.stoodInHeld 180 = false := by kernel_rfl
 have e4 : ∀ (x y : Bool) (w : World), (Op.equalIn 9999 4 (.bool x) (.bool y)).run Tryz.prog w = .ok (decide (x = y)) w := fun x y w => by
  rw [Op.equalIn]
  simp only [Sem.run_bind, run_underlying Tryz.underlying4, Result.andThen_ok]
  rfl
 have g4 : ∀ w, (isAgg 4).run Tryz.prog w = .ok false w := fun w => by simp [isAgg, run_underlying Tryz.underlying4]
 unfold Op.equal Op.maxDepth
 rw [Op.equalIn]
 simp only [Sem.run_bind, run_underlying NU, Result.andThen_ok]
 simp [hs, part, g4, e4]
 rw [show List.range' 0 8 = [0, 1, 2, 3, 4, 5, 6, 7] from rfl]
 simp [List.forIn_cons, g4, e4]
 by_cases h0 : a0 = b0
 case neg => simp [h0]
 rw [if_pos h0]
 by_cases h1 : a1 = b1
 case neg => simp [h1]
 rw [if_pos h1]
 by_cases h2 : a2 = b2
 case neg => simp [h2]
 rw [if_pos h2]
 by_cases h3 : a3 = b3
 case neg => simp [h3]
 rw [if_pos h3]
 by_cases h4 : a4 = b4
 case neg => simp [h4]
 rw [if_pos h4]
 by_cases h5 : a5 = b5
 case neg => simp [h5]
 rw [if_pos h5]
 by_cases h6 : a6 = b6
 case neg => simp [h6]
 rw [if_pos h6]
 by_cases h7 : a7 = b7
 case neg => simp [h7]
 rw [if_pos h7]
 simp [h0, h1, h2, h3, h4, h5, h6, h7]
theorem Ii (xs ys : List Bool) (hx : xs.length = 8) (hy : ys.length = 8) : Ho Tryz.prog 180 (xs.flatMap eV.tys) (ys.flatMap eV.tys) (decide (xs = ys)) := by
  match xs, ys, hx, hy with
  | [a0, a1, a2, a3, a4, a5, a6, a7], [b0, b1, b2, b3, b4, b5, b6, b7], _, _ =>
    refine ⟨by kernel_rfl, fun w M cs ds h1 h2 => ?_⟩
    obtain ⟨cs⟩ := cs
    obtain ⟨ds⟩ := ds
    match cs, ds, h1, h2 with
    | [u0, u1, u2, u3, u4, u5, u6, u7], [v0, v1, v2, v3, v4, v5, v6, v7], h1, h2 =>
      change cB w M [Ty.bool a0, Ty.bool a1, Ty.bool a2, Ty.bool a3, Ty.bool a4, Ty.bool a5, Ty.bool a6, Ty.bool a7] _ at h1
      change cB w M [Ty.bool b0, Ty.bool b1, Ty.bool b2, Ty.bool b3, Ty.bool b4, Ty.bool b5, Ty.bool b6, Ty.bool b7] _ at h2
      obtain ⟨e0, e1, e2, e3, e4, e5, e6, e7, _⟩ := h1
      obtain ⟨f0, f1, f2, f3, f4, f5, f6, f7, _⟩ := h2
      cases e0; cases e1; cases e2; cases e3; cases e4; cases e5; cases e6; cases e7
      cases f0; cases f1; cases f2; cases f3; cases f4; cases f5; cases f6; cases f7
      rw [NO]
      congr 1
      simp only [List.cons.injEq, and_true, Bool.decide_and]
end Go.Proofs.YtelbollidfdcjaaGreat
namespace Go.T
open Go Go.RowKit
section
variable {P : Program} {fr : Fr} {ops : Array Oper} {A : As} {rest : List Oper} {K : As → List (As × Fx) → Prop} {d : Nat} {t ty' ty2 : TypeId} {p : String} {e : Array Edge}
theorem AR {α : Type} [Inhabited α] {E : El α} {xs ys : List α} {x y : Operand} {c : Bool} (hE : Ho P ty' (xs.flatMap E.tys) (ys.flatMap E.tys) c) (hx : A.op fr x = .arr E xs) (hy : A.op fr y = .arr E ys)
 (h : au P fr ops rest (A.set d (.bool (!c))) fun A' l' => K A' ((A, { d := some d, ty := .bool (!c), rs := cC x ++ cC y }) :: l')) : au P fr ops (⟨some d, .binOp .neq ty' x y ty2, t, p, e, none⟩ :: rest) A K :=
 bJ (bS rfl rfl fun a w M _ hrd _ => by
  have _ := (inferInstance : Inhabited α)
  obtain ⟨hdx, hdy⟩ := op2 hrd
  rw [hx] at hdx; rw [hy] at hdy
  obtain ⟨cs, ex, h1⟩ := hdx
  obtain ⟨ds, ey, h2⟩ := hdy
  exact ⟨.bool (!c), by simp only [execOp, ex, ey]; simp [eqGuard, hE.1, binOp, hE.2 w M cs ds h1 h2], rfl⟩) h
end
end Go.T
namespace Go.Proofs.YtelbollidfdcjaaGreat
open Go Go.T
set_option maxHeartbeats 16000000
def IE (l : List Int) (x : Int) : Int := fidx (fun y => decide (x = y)) l
theorem AX (l : List Int) (x : Int) : decide (IE l x ≥ 0) = decide (x ∈ l) := by
 unfold IE
 rw [pR]
 rw [Bool.eq_iff_iff]; simp
def zq (l : List Int) (o : Bool) (i : Nat) : Bool := !(decide ((i : Int) ∈ l) == o)
def iJ (l : List Int) (o : Bool) (k : Nat) : List Bool := (List.range k).map (zq l o) ++ List.replicate (8 - k) false
def cS (l : List Int) (o : Bool) : List Bool := (List.range 8).map (zq l o)
noncomputable def eW (y : ak) (c : List Bool) : Bool := !(cQ (aQ y (nth c)) (y.cells + 1) (gZ (aQ y (nth c)))).2.1
section
variable {y : ak} {l : List Int} {o : Bool} {k : Nat}
theorem zh (h : k ≤ 8) : (iJ l o k).length = 8 := by unfold iJ; rw [List.length_append, List.length_map, List.length_range, List.length_replicate]; omega
theorem Dr : (cS l o).length = 8 := by unfold cS; rw [List.length_map, List.length_range]
theorem xd : List.replicate 8 false = iJ l o 0 := rfl
theorem z3 : iJ l o 8 = cS l o := List.append_nil _
theorem xW (h : k < 8) : (iJ l o k).set k (!(decide ((k : Int) ∈ l) == o)) = iJ l o (k + 1) := by
 unfold iJ
 have e : ((List.range k).map (zq l o)).length = k := by rw [List.length_map, List.length_range]
 rw [List.set_append_right _ _ (by omega), e, Nat.sub_self, show 8 - k = (8 - (k + 1)) + 1 by omega, List.replicate_succ, List.set_cons_zero, List.range_succ, List.map_append, List.append_assoc]; rfl
theorem Ad {xs ys : List Bool} {b : Bool} (hx : xs.length = 8) (hy : ys.length = 8) (h : decide (xs = ys) = b) : Ho Tryz.prog 180 (xs.flatMap eV.tys) (ys.flatMap eV.tys) b := h ▸ Ii xs ys hx hy
theorem O1 (h : decide (cS l o = bY) = true) (h2 : (!(cQ (aQ y (nth bY)) (y.cells + 1) (gZ (aQ y (nth bY)))).2.1) = true) : true = eW y (cS l o) := by rw [of_decide_eq_true h]; exact h2.symm
theorem PS (h : decide (cS l o = bY) = true) (h2 : (!(cQ (aQ y (nth bY)) (y.cells + 1) (gZ (aQ y (nth bY)))).2.1) = false) : false = eW y (cS l o) := by rw [of_decide_eq_true h]; exact h2.symm
theorem Mt (y : ak) (c : List Bool) : (!(cQ (aQ y (nth c)) (y.cells + 1) (gZ (aQ y (nth c)))).2.1) = eW y c := rfl
end
attribute [local irreducible] aQ gZ Way.hH Way.fin Way.room eR dr ep gQ over bK cM dW eP jj e9 hO kP cQ gK fk fo cq cL gV oy iZ ij jD gk BD yl iE ak.kept ak.cells bL dU bY gB kV cX oN qR iW iH kJ mT hasB tK sO rA sJ pK iM jr ke xN gT jS HN Fq rq eW cS iJ
attribute [local irreducible] gA eU lH nR gy gl g5 gr g9 nU gx nZ dN fS nJ ff nQ nth fI dQ au dK bodyPost Exit.then Exit.inBlock Code.wp Code.wpIn nY gm oC n9 g7 eM cJ cH bodyPostM dP
set_option maxRecDepth 100000 in
theorem At (l : List Int) (x : Int) : dK Tryz.prog 140 [Ty.sl cy l, Ty.int .i64 x] (Ty.int .i64 (IE l x)) := by
 refine ah Tryz.func140 rfl (by decide) Tryz.ntmps140 (by exact Nat.le_of_ble_eq_true rfl) fun w0 M0 => ?_
 refine g6 (s := 0) rfl rfl g8 fun hl => ?_
 refine aE (aA (bk rfl (aD (aC (aE (aE (aA (fN rfl (cK rfl rfl rfl ?_)))))))))
 refine bG rfl (aD (aC (aZ ?_)))
 refine cF (fun (k : {k : Nat // ∀ y ∈ l.take k, decide (x = y) = false}) => live [(0, Ty.sl cy l), (1, Ty.int .i64 x), (7, Ty.int .i64 l.length), (8, Ty.int .i64 (k.1 : Nat))] []) (fun k => l.length - k.1) (⟨0, by simp⟩) ?_ fun k => ?_
 ·(refine cx.mk' ?_ ?_ <;> (repeat' (first | exact aJ | exact aK | refine aB ?_ (Ty.aU _) | refine aB ?_ (Ty.aF _))))
 refine aE (aA (bB rfl rfl rfl (aD (aC (aE ?_)))))
 refine aj rfl (fun hc1 => ?_) (fun hc1 => ?_)
 ·
  refine aq (aC (aE (aZ (aE (aA (bG rfl (bk rfl (aD (aC ?_)))))))))
  refine aE (aA (bG rfl (fN rfl (bG rfl ?_))))
  refine av rfl rfl rfl rfl rfl rfl (by omega) ?_
  refine aI rfl rfl rfl rfl (bB rfl rfl rfl (aD (aC ?_)))
  refine aj rfl (fun hc2 => ?_) (fun hc2 => ?_)
  ·
   refine aE (aA (bG rfl (bk rfl (aD (aC (ay (bC (aS (aS ?_)))))))))
   refine bC (aS (bP rfl rfl ?_))
   all_goals skip
   exact az rfl rfl (congrArg (Ty.int .i64) (by unfold IE; rw [gw (k := k.1) (by omega) k.2 (by rw [← fY]; exact decide_eq_true hc2)]))
  refine aq (bI (aC (aA ?_)))
  refine cA rfl rfl (by omega) (by omega) ?_
  refine bG rfl (aD ?_)
  refine bO (⟨k.1 + 1, by rw [cT (by omega)]; intro y hy; rcases List.mem_append.1 hy with h | h; exact k.2 y h; rw [List.mem_singleton.1 h]; exact decide_eq_false hc2⟩) ?_ (by show l.length - (k.1 + 1) < l.length - k.1; omega)
  (refine cx.mk' ?_ ?_ <;> (repeat' (first | exact aJ | exact aK | refine aB ?_ (Ty.aU _) | refine aB ?_ (Ty.aF _))))
  all_goals skip
 refine cE (aP (aP (aa rfl (aC (aE (aA (bk rfl (aD (aC ?_)))))))))
 refine ay (bP rfl rfl ?_)
 all_goals skip
 exact az rfl rfl (congrArg (Ty.int .i64) (by unfold IE; rw [iU (by have := k.2; rwa [List.take_of_length_le (by omega)] at this)]))
set_option maxRecDepth 100000 in
theorem vJ (l : List Int) (x : Int) : dK Tryz.prog 65 [Ty.sl cy l, Ty.int .i64 x] (Ty.bool (decide (x ∈ l))) := by
 refine ah Tryz.func65 rfl (by decide) Tryz.ntmps65 (by exact Nat.le_of_ble_eq_true rfl) fun w0 M0 => ?_
 refine aE (aA (dA rfl (aD (aC (aE (aA (fN rfl (bG rfl (af (At l x) rfl rfl rfl rfl rfl ?_)))))))))
 refine bB rfl rfl rfl (dA rfl (aD (aC (ay (bP rfl rfl ?_)))))
 all_goals skip
 exact az rfl rfl (congrArg Ty.bool (AX l x))
set_option maxRecDepth 100000 in
theorem Bt (y : ak) (hr : y.cG) (l : List Int) (o : Bool) : dK Tryz.prog 112 [dn y, Ty.sl cy l, Ty.bool o] (Ty.bool (eW y (cS l o))) := by
 refine ah Tryz.func112 rfl (by decide) Tryz.ntmps112 (by exact Nat.le_of_ble_eq_true rfl) fun w0 M0 => ?_
 refine aE (aA (bD rfl (dA rfl (aD (aC (aE (aA ?_)))))))
 refine BN (E := eV) (xs := List.replicate 8 false) rfl (by exact List.cons_ne_nil _ _) rfl rfl ?_
 refine aD (aC (aE (aE (aA (bG rfl (aD (aC (aZ ?_))))))))
 refine cF (fun (k : {k : Nat // k ≤ 8}) => live [(1, Ty.sl cy l), (2, Ty.bool o), (3, Ty.pp (bH y)), (7, Ty.ptr 8 0), (9, Ty.int .i64 (k.1 : Nat))] [(8, Cont.vec eV 180 (iJ l o k.1))]) (fun k => 8 - k.1) (⟨0, by omega⟩) ?_ fun k => ?_
 ·(refine cx.mk' ?_ ?_ <;> (repeat' (first | exact aJ | exact aK | refine aB ?_ (Ty.aU _) | refine aB ?_ (Ty.aF _) | refine aG rfl ?_ ?_)))
  all_goals exact Cont.cr xd
 have hkl := zh (l := l) (o := o) k.2
 refine aE (aA (bB rfl rfl rfl (aD (aC (aE ?_)))))
 refine aj rfl (fun hc1 => ?_) (fun hc1 => ?_)
 ·
  refine aq (aC (aE (aZ (aE (aA (bG rfl (bk rfl (aD (aC ?_)))))))))
  refine aA (bG rfl (fN rfl (bG rfl (af (vJ _ _) rfl rfl rfl rfl rfl (fB rfl (Ex Ox rfl rfl ?_))))))
  refine sR (n := 8) rfl rfl rfl rfl rfl (by omega) (by omega) ?_
  refine rK rfl rfl rfl (by decide) rfl rfl (by exact (rfl : _ = Ty.bool _)) rfl (by omega) (by decide) rfl rfl ?_
  refine aD (bI (aC (aA ?_)))
  refine cA rfl rfl (by omega) (by omega) ?_
  refine bG rfl (aD ?_)
  refine bO (⟨k.1 + 1, by omega⟩) ?_ (by show 8 - (k.1 + 1) < 8 - k.1; omega)
  (refine cx.mk' ?_ ?_ <;> (repeat' (first | exact aJ | exact aK | refine aB ?_ (Ty.aU _) | refine aB ?_ (Ty.aF _) | refine aG rfl ?_ ?_)))
  all_goals skip
  all_goals exact Cont.cr (xW (by omega))
 refine cE (aP (aP (aa rfl (aC (aE ?_)))))
 obtain ⟨k, hk⟩ := k
 obtain rfl : k = 8 := by have h1 : ¬ (k : Int) < 8 := hc1; have h2 : k ≤ 8 := hk; omega
 refine jW (tg := 8) rfl (Cont.cr z3) ?_
 have hcl : (cS l o).length = 8 := Dr
 refine cP mixed rfl ?_
 refine iI rfl rfl (by decide) rfl rfl (by rw [hcl]; rfl) (fun e => by rw [e] at hcl; cases hcl) ?_
 refine af (sG) rfl rfl rfl rfl rfl (NM (Ii _ _ hcl jh) rfl rfl ?_)
 cases hsp : (decide ((cS l o) = bY))
 ·
  refine fB rfl (mj rfl rfl rfl rfl (mj rfl rfl rfl rfl (mj rfl rfl rfl rfl (mj rfl rfl rfl rfl (FN rfl ?_)))))
  cases hsp : (!(cQ (aQ y (nth bY)) (y.cells + 1) (gZ (aQ y (nth bY)))).2.1)
  ·
   refine fB rfl ?_
   (refine jx rfl rfl rfl (by apply aO; (refine iI rfl rfl (by decide) rfl rfl (by rw [hcl]; rfl) (fun e => by rw [e] at hcl; cases hcl) ?_); refine aD ?_; exact rfl) ?_)
   (refine jx rfl rfl rfl (by apply aO; (refine af (sG) rfl rfl rfl rfl rfl ?_); refine aD ?_; exact rfl) ?_)
   (refine jx rfl rfl rfl (by apply aO; (refine AR (Ad hcl jh (by assumption)) rfl rfl ?_); refine aD ?_; exact rfl) ?_)
   (refine jx rfl rfl rfl (by apply aO; (refine fB rfl ?_); refine aD ?_; exact rfl) ?_)
   (refine jx rfl rfl rfl (by apply aO; (refine aX rfl rfl rfl (by exact Nat.le_of_ble_eq_true rfl) ?_); refine aD ?_; exact rfl) ?_)
   (refine jx rfl rfl rfl (by apply aO; (refine iI rfl rfl (by decide) rfl rfl (by rw [hcl]; rfl) (fun e => by rw [e] at hcl; cases hcl) ?_); refine aD ?_; exact rfl) ?_)
   (refine jx rfl rfl rfl (by apply aO; (refine dI (res' := Ty.pp (eF y (aQ y (nth (cS l o))) 1000 (aQ y (nth (cS l o))).length)) [(1000, 31)] [1000] [(1000, Cont.vec cy 3 (gZ (aQ y (nth (cS l o)))))] (tX y hr (cS l o) hcl) rfl rfl (aM (aM bU (aT rfl rfl)) (aT rfl rfl)) pre_nil (bg (a := 1000) (b := 31) (by decide) rfl (bh (by decide) rfl) post_nil) (e8 (aM (aM (aM (aM (aM (aM bU (dZ (by decide))) (aT rfl rfl)) (aT rfl rfl)) (aT rfl rfl)) (aT rfl rfl)) (aT rfl rfl))) ?_); refine aD ?_; exact rfl) ?_)
   (refine jx rfl rfl rfl (by apply aO; (refine dI [(1000, 1000)] [] [(1000, Cont.vec cy 3 (cQ (aQ y (nth (cS l o))) (y.cells + 1) (gZ (aQ y (nth (cS l o))))).2.2)] (m5 y (aQ y (nth (cS l o))) (gZ (aQ y (nth (cS l o)))) (lU hr)) rfl rfl (aM bU (e8 (aM (aM (aM (aM (aM (aM bU (dZ (by exact List.mem_cons_self))) (aT rfl rfl)) (aT rfl rfl)) (aT rfl rfl)) (aT rfl rfl)) (aT rfl rfl)))) (cz (a := 1000) (b := 1000) (by exact List.mem_cons_self) rfl (bh (by exact List.mem_cons_self) rfl) pre_nil) (bg (a := 1000) (b := 1000) (by decide) rfl (bh (by decide) rfl) post_nil) (aT rfl rfl) ?_); refine aD ?_; exact rfl) ?_)
   (refine jx rfl rfl rfl (by apply aO; (refine AW rfl rfl ?_); refine aD ?_; exact rfl) ?_)
   refine AS rfl rfl (dA rfl (aD ?_))
   refine ⟨by kernel_rfl, ?_⟩
   refine aC (ay (bP rfl rfl ?_))
   all_goals skip
   all_goals exact az rfl rfl (congrArg Ty.bool (Mt y _))
  refine fB rfl ?_
  (refine jx rfl rfl rfl (by apply aO; (refine iI rfl rfl (by decide) rfl rfl (by rw [hcl]; rfl) (fun e => by rw [e] at hcl; cases hcl) ?_); refine aD ?_; exact rfl) ?_)
  (refine jx rfl rfl rfl (by apply aO; (refine af (sG) rfl rfl rfl rfl rfl ?_); refine aD ?_; exact rfl) ?_)
  (refine jx rfl rfl rfl (by apply aO; (refine AR (Ad hcl jh (by assumption)) rfl rfl ?_); refine aD ?_; exact rfl) ?_)
  (refine jx rfl rfl rfl (by apply aO; (refine fB rfl ?_); refine aD ?_; exact rfl) ?_)
  (refine jx rfl rfl rfl (by apply aO; (refine aX rfl rfl rfl (by exact Nat.le_of_ble_eq_true rfl) ?_); refine aD ?_; exact rfl) ?_)
  (refine jx rfl rfl rfl (by apply aO; (refine iI rfl rfl (by decide) rfl rfl (by rw [hcl]; rfl) (fun e => by rw [e] at hcl; cases hcl) ?_); refine aD ?_; exact rfl) ?_)
  (refine jx rfl rfl rfl (by apply aO; (refine dI (res' := Ty.pp (eF y (aQ y (nth (cS l o))) 1000 (aQ y (nth (cS l o))).length)) [(1000, 31)] [1000] [(1000, Cont.vec cy 3 (gZ (aQ y (nth (cS l o)))))] (tX y hr (cS l o) hcl) rfl rfl (aM (aM bU (aT rfl rfl)) (aT rfl rfl)) pre_nil (bg (a := 1000) (b := 31) (by decide) rfl (bh (by decide) rfl) post_nil) (e8 (aM (aM (aM (aM (aM (aM bU (dZ (by decide))) (aT rfl rfl)) (aT rfl rfl)) (aT rfl rfl)) (aT rfl rfl)) (aT rfl rfl))) ?_); refine aD ?_; exact rfl) ?_)
  (refine jx rfl rfl rfl (by apply aO; (refine dI [(1000, 1000)] [] [(1000, Cont.vec cy 3 (cQ (aQ y (nth (cS l o))) (y.cells + 1) (gZ (aQ y (nth (cS l o))))).2.2)] (m5 y (aQ y (nth (cS l o))) (gZ (aQ y (nth (cS l o)))) (lU hr)) rfl rfl (aM bU (e8 (aM (aM (aM (aM (aM (aM bU (dZ (by exact List.mem_cons_self))) (aT rfl rfl)) (aT rfl rfl)) (aT rfl rfl)) (aT rfl rfl)) (aT rfl rfl)))) (cz (a := 1000) (b := 1000) (by exact List.mem_cons_self) rfl (bh (by exact List.mem_cons_self) rfl) pre_nil) (bg (a := 1000) (b := 1000) (by decide) rfl (bh (by decide) rfl) post_nil) (aT rfl rfl) ?_); refine aD ?_; exact rfl) ?_)
  (refine jx rfl rfl rfl (by apply aO; (refine AW rfl rfl ?_); refine aD ?_; exact rfl) ?_)
  refine AS rfl rfl (dA rfl (aD ?_))
  refine ⟨by kernel_rfl, ?_⟩
  refine aC (ay (bP rfl rfl ?_))
  all_goals skip
  all_goals exact az rfl rfl (congrArg Ty.bool (Mt y _))
 refine fB rfl ?_
 (refine jx rfl rfl rfl (by apply aO; (refine aX rfl rfl rfl (by exact Nat.le_of_ble_eq_true rfl) ?_); refine aD ?_; exact rfl) ?_)
 (refine jx rfl rfl rfl (by apply aO; (refine af (sG) rfl rfl rfl rfl rfl ?_); refine aD ?_; exact rfl) ?_)
 (refine jx rfl rfl rfl (by apply aO; (refine dI (res' := Ty.pp (eF y (aQ y (nth bY)) 1000 (aQ y (nth bY)).length)) [(1000, 31)] [1000] [(1000, Cont.vec cy 3 (gZ (aQ y (nth bY))))] (tX y hr bY jh) rfl rfl (aM (aM bU (aT rfl rfl)) (aT rfl rfl)) pre_nil (bg (a := 1000) (b := 31) (by decide) rfl (bh (by decide) rfl) post_nil) (e8 (aM (aM (aM (aM (aM (aM bU (dZ (by decide))) (aT rfl rfl)) (aT rfl rfl)) (aT rfl rfl)) (aT rfl rfl)) (aT rfl rfl))) ?_); refine aD ?_; exact rfl) ?_)
 (refine jx rfl rfl rfl (by apply aO; (refine dI [(1000, 1000)] [] [(1000, Cont.vec cy 3 (cQ (aQ y (nth bY)) (y.cells + 1) (gZ (aQ y (nth bY)))).2.2)] (m5 y (aQ y (nth bY)) (gZ (aQ y (nth bY))) (lU hr)) rfl rfl (aM bU (e8 (aM (aM (aM (aM (aM (aM bU (dZ (by exact List.mem_cons_self))) (aT rfl rfl)) (aT rfl rfl)) (aT rfl rfl)) (aT rfl rfl)) (aT rfl rfl)))) (cz (a := 1000) (b := 1000) (by exact List.mem_cons_self) rfl (bh (by exact List.mem_cons_self) rfl) pre_nil) (bg (a := 1000) (b := 1000) (by decide) rfl (bh (by decide) rfl) post_nil) (aT rfl rfl) ?_); refine aD ?_; exact rfl) ?_)
 refine AW rfl rfl ?_
 cases hsp : (!(cQ (aQ y (nth bY)) (y.cells + 1) (gZ (aQ y (nth bY)))).2.1)
 ·
  refine fB rfl ?_
  (refine jx rfl rfl rfl (by apply aO; (refine iI rfl rfl (by decide) rfl rfl (by rw [hcl]; rfl) (fun e => by rw [e] at hcl; cases hcl) ?_); refine aD ?_; exact rfl) ?_)
  (refine jx rfl rfl rfl (by apply aO; (refine af (sG) rfl rfl rfl rfl rfl ?_); refine aD ?_; exact rfl) ?_)
  (refine jx rfl rfl rfl (by apply aO; (refine AR (Ad hcl jh (by assumption)) rfl rfl ?_); refine aD ?_; exact rfl) ?_)
  (refine jx rfl rfl rfl (by apply aO; (refine fB rfl ?_); refine aD ?_; exact rfl) ?_)
  refine mj rfl rfl rfl rfl (mj rfl rfl rfl rfl (mj rfl rfl rfl rfl (mj rfl rfl rfl rfl ?_)))
  (refine jx rfl rfl rfl (by apply aO; (refine FN rfl ?_); refine aD ?_; exact rfl) ?_)
  refine AS rfl rfl (dA rfl (aD ?_))
  refine ⟨by kernel_rfl, ?_⟩
  refine aC (ay (bP rfl rfl ?_))
  all_goals skip
  all_goals exact az rfl rfl (congrArg Ty.bool (PS (by assumption) (by assumption)))
 refine fB rfl (mj rfl rfl rfl rfl (mj rfl rfl rfl rfl (mj rfl rfl rfl rfl (mj rfl rfl rfl rfl (AH rfl rfl rfl (AH rfl rfl rfl (AH rfl rfl rfl (AH rfl rfl rfl (mj rfl rfl rfl rfl ?_)))))))))
 refine K2 rfl (dA rfl (aD ?_))
 refine ⟨by kernel_rfl, ?_⟩
 refine aC (ay (bP rfl rfl ?_))
 all_goals skip
 all_goals exact az rfl rfl (congrArg Ty.bool (O1 (by assumption) (by assumption)))
end Go.Proofs.YtelbollidfdcjaaGreat
namespace Go.Proofs.YtelbollidfdcjaaGreat
open Go Go.T
set_option maxHeartbeats 16000000
section
variable {y : ak} {l : List Int} {i : Nat}
end
attribute [local irreducible] aQ gZ Way.hH Way.fin Way.room eR dr ep gQ over bK cM dW eP jj e9 hO kP cQ gK fk fo cq cL gV oy iZ ij jD gk BD yl iE ak.kept ak.cells bL dU bY gB kV cX oN qR iW iH kJ mT hasB tK sO rA sJ pK iM jr ke xN gT jS HN Fq rq eW cS iJ
attribute [local irreducible] gA eU lH nR gy gl g5 gr g9 nU gx nZ dN fS nJ ff nQ nth fI dQ au dK bodyPost Exit.then Exit.inBlock Code.wp Code.wpIn nY gm oC n9 g7 eM cJ cH bodyPostM dP
end Go.Proofs.YtelbollidfdcjaaGreat
namespace Go.Proofs.YtelbollidfdcjaaGreat
open Go Go.T
def mQ (h : List Int → Bool) (many : Nat) : Nat → List Int → Nat → List Int → Bool × List Int
  | 0, _, _, o => (false, o)
  | d + 1, l, i, o =>
    if (if (l ++ [(i : Int)]).length = many then (h (l ++ [(i : Int)]), l ++ [(i : Int)]) else mQ h many d (l ++ [(i : Int)]) (i + 1) o).1 = true then (if (l ++ [(i : Int)]).length = many then (h (l ++ [(i : Int)]), l ++ [(i : Int)]) else mQ h many d (l ++ [(i : Int)]) (i + 1) o)
    else mQ h many d l (i + 1) (if (l ++ [(i : Int)]).length = many then (h (l ++ [(i : Int)]), l ++ [(i : Int)]) else mQ h many d (l ++ [(i : Int)]) (i + 1) o).2
def uG (h : List Int → Bool) (many lim : Nat) (l : List Int) (i : Nat) (o : List Int) : Bool × List Int := if l.length = many then (h l, l) else mQ h many (lim - i) l i o
def zg (many : Nat) : Nat → List Int → Nat → List (List Int)
  | 0, _, _ => []
  | d + 1, l, i => (if (l ++ [(i : Int)]).length = many then [l ++ [(i : Int)]] else zg many d (l ++ [(i : Int)]) (i + 1)) ++ zg many d l (i + 1)
def Hv (many lim : Nat) : List (List Int) := if many = 0 then [[]] else zg many lim [] 0
def ld (h : List Int → Bool) (lim : Nat) : Option (List Int) := ((List.range (lim + 1)).flatMap fun k => Hv k lim).find? h
section
variable {h : List Int → Bool} {many lim d i k : Nat} {l o : List Int}
theorem A3 (hi : i < lim) : mQ h many (lim - i) l i o = if (uG h many lim (l ++ [(i : Int)]) (i + 1) o).1 = true then uG h many lim (l ++ [(i : Int)]) (i + 1) o else mQ h many (lim - (i + 1)) l (i + 1) (uG h many lim (l ++ [(i : Int)]) (i + 1) o).2 := by
 rw [show lim - i = (lim - (i + 1)) + 1 by omega]; rfl
theorem MM (hi : ¬ i < lim) : mQ h many (lim - i) l i o = (false, o) := by rw [show lim - i = 0 by omega]; rfl
theorem go_eq (e : l.length = many) : uG h many lim l i o = (h l, l) := if_pos e
theorem MY (e : ¬ l.length = many) : uG h many lim l i o = mQ h many (lim - i) l i o := if_neg e
theorem zk : ∀ (d : Nat) (l : List Int) (i : Nat) (o : List Int), (mQ h many d l i o).1 = (zg many d l i).any h ∧ ((mQ h many d l i o).1 = true → (zg many d l i).find? h = some (mQ h many d l i o).2)
  | 0, _, _, _ => ⟨rfl, fun e => by cases e⟩
  | d + 1, l, i, o => by
    have key : ∀ o, (if (l ++ [(i : Int)]).length = many then (h (l ++ [(i : Int)]), l ++ [(i : Int)]) else mQ h many d (l ++ [(i : Int)]) (i + 1) o).1 = (if (l ++ [(i : Int)]).length = many then [l ++ [(i : Int)]] else zg many d (l ++ [(i : Int)]) (i + 1)).any h ∧ ((if (l ++ [(i : Int)]).length = many then (h (l ++ [(i : Int)]), l ++ [(i : Int)]) else mQ h many d (l ++ [(i : Int)]) (i + 1) o).1 = true → (if (l ++ [(i : Int)]).length = many then [l ++ [(i : Int)]] else zg many d (l ++ [(i : Int)]) (i + 1)).find? h = some (if (l ++ [(i : Int)]).length = many then (h (l ++ [(i : Int)]), l ++ [(i : Int)]) else mQ h many d (l ++ [(i : Int)]) (i + 1) o).2) := by
      intro o
      by_cases e : (l ++ [(i : Int)]).length = many
      · rw [if_pos e, if_pos e]
        refine ⟨by simp, fun h1 => ?_⟩
        have h1 : h (l ++ [(i : Int)]) = true := h1
        rw [List.find?_cons, h1]
      · rw [if_neg e, if_neg e]
        exact zk d _ _ o
    unfold mQ zg
    generalize (if (l ++ [(i : Int)]).length = many then [l ++ [(i : Int)]] else zg many d (l ++ [(i : Int)]) (i + 1)) = C at key ⊢
    obtain ⟨k1, k2⟩ := key o
    generalize (if (l ++ [(i : Int)]).length = many then (h (l ++ [(i : Int)]), l ++ [(i : Int)]) else mQ h many d (l ++ [(i : Int)]) (i + 1) o) = r at k1 k2 ⊢
    rw [List.any_append, List.find?_append]
    cases e : r.1 with
    | true =>
      rw [if_pos rfl]
      refine ⟨by rw [e, ← k1, e]; rfl, fun _ => by rw [k2 e]; rfl⟩
    | false =>
      rw [if_neg (by decide)]
      obtain ⟨j1, j2⟩ := zk d l (i + 1) r.2
      have hn : C.find? h = none := by
        rw [List.find?_eq_none]
        intro x hx h1
        have : C.any h = true := List.any_eq_true.2 ⟨x, hx, h1⟩
        rw [← k1, e] at this; cases this
      refine ⟨by rw [j1, ← k1, e, Bool.false_or], fun h1 => by rw [hn, j2 h1]; rfl⟩
theorem IM : (uG h many lim [] 0 o).1 = (Hv many lim).any h ∧ ((uG h many lim [] 0 o).1 = true → (Hv many lim).find? h = some (uG h many lim [] 0 o).2) := by
 unfold uG Hv
 by_cases e : many = 0
 ·rw [if_pos (show ([] : List Int).length = many from e.symm), if_pos e]
  refine ⟨by simp, fun h1 => ?_⟩
  have h1 : h [] = true := h1
  rw [List.find?_cons, h1]
 rw [if_neg (show ¬ ([] : List Int).length = many from fun h => e h.symm), if_neg e, Nat.sub_zero]
 exact zk _ _ _ _
theorem GY {C : List (List Int)} (h1 : C.any h = false) : C.find? h = none := by
 rw [List.find?_eq_none]
 intro x hx h2
 have : C.any h = true := List.any_eq_true.2 ⟨x, hx, h2⟩
 rw [h1] at this; cases this
def qX (h : List Int → Bool) (lim k : Nat) : Prop := ((List.range k).flatMap fun k => Hv k lim).find? h = none
theorem G3 : qX h lim 0 := rfl
theorem G8 (h0 : qX h lim k) (h1 : (uG h k lim [] 0 []).1 = false) : qX h lim (k + 1) := by
 unfold qX at h0 ⊢
 rw [List.range_succ, List.flatMap_append, List.find?_append, h0, List.flatMap_singleton, GY (by rw [← (IM (o := [])).1, h1])]; rfl
theorem DP (h0 : qX h lim k) (hk : k = lim + 1) : ld h lim = none := by subst hk; exact h0
theorem range_split {k n : Nat} (hk : k < n) : ∃ r, List.range n = List.range k ++ k :: r := by
 refine ⟨(List.range (n - k - 1)).map (fun x => k + 1 + x), ?_⟩
 rw [show List.range n = List.range (k + (1 + (n - k - 1))) by congr 1; omega, List.range_add, List.range_add, List.map_append]
 rw [List.map_map]
 congr 1
 show [k + 0] ++ _ = _
 rw [List.singleton_append, Nat.add_zero]
 congr 1
 refine List.map_congr_left fun x _ => ?_
 show k + (1 + x) = _; omega
theorem Cu (h0 : qX h lim k) (hk : k ≤ lim) (h1 : (uG h k lim [] 0 []).1 = true) : ld h lim = some (uG h k lim [] 0 []).2 := by
 unfold qX at h0
 unfold ld
 obtain ⟨r, hr⟩ := range_split (show k < lim + 1 by omega)
 rw [hr, List.flatMap_append, List.find?_append, h0, List.flatMap_cons, List.find?_append, IM.2 h1]; rfl
end
end Go.Proofs.YtelbollidfdcjaaGreat
namespace Go.Proofs.YtelbollidfdcjaaGreat
open Go Go.T
set_option maxHeartbeats 16000000
structure xQ (h : List Int → Bool) (many lim : Nat) (l : List Int) (i0 : Nat) (o0 : List Int) where
  i : Nat
  o : List Int
  ge : i0 ≤ i
  le : i ≤ lim
  same : mQ h many (lim - i0) l i0 o0 = mQ h many (lim - i) l i o
section
variable {h : List Int → Bool} {many lim i0 k : Nat} {l o0 : List Int}
theorem xQ.nat (x : xQ h many lim l i0 o0) (hi : (x.i : Int) < (lim : Int)) : x.i < lim := by omega
def xQ.next (x : xQ h many lim l i0 o0) (hi : (x.i : Int) < (lim : Int)) (hg : (uG h many lim (l ++ [(x.i : Int)]) (x.i + 1) x.o).1 = false) : xQ h many lim l i0 o0 :=
  ⟨x.i + 1, (uG h many lim (l ++ [(x.i : Int)]) (x.i + 1) x.o).2, by have := x.ge; omega, by omega, by rw [x.same, A3 (x.nat hi), if_neg (by rw [hg]; decide)]⟩
theorem xQ.found (x : xQ h many lim l i0 o0) (hm : ¬ l.length = many) (hi : (x.i : Int) < (lim : Int)) (hg : (uG h many lim (l ++ [(x.i : Int)]) (x.i + 1) x.o).1 = true) : uG h many lim l i0 o0 = uG h many lim (l ++ [(x.i : Int)]) (x.i + 1) x.o := by
 rw [MY hm, x.same, A3 (x.nat hi), if_pos hg]
theorem xQ.stop (x : xQ h many lim l i0 o0) (hm : ¬ l.length = many) (hi : ¬ (x.i : Int) < (lim : Int)) : uG h many lim l i0 o0 = (false, x.o) := by
 rw [MY hm, x.same, MM (by omega)]
def HE (h : List Int → Bool) (lim : Nat) : Bool := (ld h lim).isSome
def E0 (h : List Int → Bool) (lim : Nat) : List Int := (ld h lim).getD []
theorem Hp {k : Nat} (h0 : qX h lim k) (hk : k ≤ lim) (h1 : (uG h k lim [] 0 []).1 = true) : true = HE h lim ∧ (uG h k lim [] 0 []).2 = E0 h lim := by
 unfold HE E0; rw [Cu h0 hk h1]; exact ⟨rfl, rfl⟩
theorem Mv {k : Nat} (h0 : qX h lim k) (hk : k ≤ lim + 1) (h1 : ¬ (k : Int) < (lim : Int) + 1) : false = HE h lim ∧ [] = E0 h lim := by
 unfold HE E0; rw [DP h0 (by omega)]; exact ⟨rfl, rfl⟩
theorem EY (h : ((l.length : Nat) : Int) = (many : Nat)) : l.length = many := by omega
theorem IJ (h : ¬ ((l.length : Nat) : Int) = (many : Nat)) : ¬ l.length = many := by omega
end
theorem qJ {ρ : List (Nat × Nat)} {th : Ty} {h1 : th.deps = []} {h2 : th.cdeps = []} {many lim a b : Nat} (e0 : (a, 1000) ∈ ρ) (e1 : (b, 1001) ∈ ρ) : lW ρ [Ty.ju 171 [Ty.pp [Ty.int .i64 (many : Nat)], Ty.ptr a 0, Ty.pp [Ty.nd th h1 h2], Ty.pp [Ty.int .i64 (lim : Nat)], Ty.ptr b 0]] [Ty.ju 171 [Ty.pp [Ty.int .i64 (many : Nat)], Ty.ptr 1000 0, Ty.pp [Ty.nd th h1 h2], Ty.pp [Ty.int .i64 (lim : Nat)], Ty.ptr 1001 0]] :=
 aM bU (tJ (aM (aM (aM (aM (aM bU (jm e1)) (aT rfl rfl)) (aT rfl rfl)) (jm e0)) (aT rfl rfl)))
abbrev uo (th : Ty) (h1 : th.deps = []) (h2 : th.cdeps = []) (many lim : Nat) (o : List Int) : List (Nat × Cont) := [(1000, Cont.cells 28 [Ty.sl cy o]), (1001, Cont.cells 122 [Ty.ju 171 [Ty.pp [Ty.int .i64 (many : Nat)], Ty.ptr 1000 0, Ty.pp [Ty.nd th h1 h2], Ty.pp [Ty.int .i64 (lim : Nat)], Ty.ptr 1001 0]])]
theorem zi {A : As} {th : Ty} {h1 : th.deps = []} {h2 : th.cdeps = []} {many lim : Nat} {o o' : List Int} (e0 : A.tag 1000 = some (Cont.cells 28 [Ty.sl cy o])) (e1 : A.tag 1001 = some (Cont.cells 122 [Ty.ju 171 [Ty.pp [Ty.int .i64 (many : Nat)], Ty.ptr 1000 0, Ty.pp [Ty.nd th h1 h2], Ty.pp [Ty.int .i64 (lim : Nat)], Ty.ptr 1001 0]])) (e : o = o') : qV A [1000, 1001] (uo th h1 h2 many lim o') := by
 subst e; exact eC e0 (gN (by decide) (aM bU (aT rfl rfl))) (eC e1 (gN (by decide) (qJ (by decide) (by decide))) gE)
attribute [local irreducible] gA eU lH nR gy gl g5 gr g9 nU gx nZ dN fS nJ ff nQ nth fI dQ au dK bodyPost Exit.then Exit.inBlock Code.wp Code.wpIn nY gm oC n9 g7 eM cJ cH bodyPostM dP
attribute [local irreducible] uG mQ
set_option maxRecDepth 100000 in
theorem Am (l : List Int) (h : l.length ≤ 1000) : eM Tryz.prog 172 [] [] [Ty.sl cy l] [] (Ty.row cy 3 6 l) := by
 refine fL Tryz.func172 rfl (by decide) Tryz.ntmps172 (by exact Nat.le_of_ble_eq_true rfl) fun w0 M0 => ?_
 refine aE (aA (lq rfl (aD (aC (aE (aE (aA (fN rfl (EI Mx rfl ?_)))))))))
 refine aD (aC ?_)
 refine yN rfl (fun hc1 => ?_) (fun hc1 => ?_)
 ·
  refine aE (aA (lq rfl (aD (aC (ay (aS ?_))))))
  refine iX [6] rfl rfl (by decide) (by repeat (exact gE)) ?_
  all_goals skip
  all_goals (obtain rfl : l = [] := hc1; exact iO yJ)
 refine aq (aC (aE (aA ?_)))
 refine w9 (E := cy) rfl rfl rfl rfl ?_
 refine fN rfl ?_
 refine dw rfl rfl (by decide) rfl rfl rfl rfl rfl rfl (by decide) (by (simp <;> omega)) (by (simp <;> omega)) ?_
 refine Aj rfl (aD (aC (ay ?_)))
 refine iX [6] rfl rfl (by decide) (by repeat (exact gE)) ?_
 all_goals skip
 all_goals exact iO (DO (by decide))
set_option maxRecDepth 100000 in
theorem Nz (th : Ty) (h1 : th.deps = []) (h2 : th.cdeps = []) (h : List Int → Bool) (hf : ∀ l, oM Tryz.prog (Ty.nd th h1 h2) [Ty.sl cy l] (Ty.bool (h l))) (many lim : Nat) (hmn : many ≤ 1000) (hlm : lim ≤ 1000) (d : Nat) (l : List Int) (i : Nat) (o : List Int) (hi : i ≤ lim) (hll : l.length ≤ many) (hd : lim - i < d) : eM Tryz.prog 171 [1000, 1001] (uo th h1 h2 many lim o) [Ty.row cy 3 1002 l, Ty.int .i64 (i : Nat), Ty.pp [Ty.int .i64 (many : Nat)], Ty.ptr 1000 0, Ty.pp [Ty.nd th h1 h2], Ty.pp [Ty.int .i64 (lim : Nat)], Ty.ptr 1001 0] (uo th h1 h2 many lim (uG h many lim l i o).2) (Ty.bool (uG h many lim l i o).1) := by
 induction d generalizing l i o
 case zero => exact absurd hd (by omega)
 rename_i d ih
 refine fL Tryz.func171 rfl (by decide) Tryz.ntmps171 (by exact Nat.le_of_ble_eq_true rfl) fun w0 M0 => ?_
 refine aE ?_
 refine kK (tg := 1002) [(0, Ty.sl cy l)] (by decide) rfl ⟨vF rfl, trivial⟩ ?_
 refine aA (dA rfl (aD (aC (aE (aE (aA (fN rfl (cK rfl rfl rfl (aI rfl rfl rfl rfl ?_)))))))))
 refine bB rfl rfl rfl (aD (aC ?_))
 refine aj rfl (fun hc1 => ?_) (fun hc1 => ?_)
 ·
  refine aE (aA (fN rfl ?_))
  refine cm rfl rfl (by decide) rfl rfl (by exact (rfl : _ = Ty.sl _ _)) rfl (by exact Nat.le_of_ble_eq_true rfl) rfl rfl (by exact (rfl : _ = [_])) ?_
  refine aD (aC (aE (aA (aI rfl rfl rfl rfl (fN rfl (eS rfl (hf l) rfl (dA rfl (aD (aC ?_)))))))))
  refine ay (aS ?_)
  refine iX [1000, 1001] rfl rfl (by decide) ?_ ?_
  ·exact zi rfl rfl (congrArg Prod.snd (go_eq (EY hc1))).symm
  all_goals skip
  all_goals exact iO (oq rfl rfl (congrArg Ty.bool (congrArg Prod.fst (go_eq (EY hc1))).symm))
 refine aq (aC (aE (aE ?_)))
 have hlm2 := IJ hc1
 refine aA (bG rfl (bk rfl (aD (aC (aZ ?_)))))
 refine cF (fun (x : xQ h many lim l i o) => live [(0, Ty.sl cy l), (2, Ty.pp [Ty.int .i64 (many : Nat)]), (3, Ty.ptr 1000 0), (4, Ty.pp [Ty.nd th h1 h2]), (5, Ty.pp [Ty.int .i64 (lim : Nat)]), (6, Ty.ptr 1001 0), (10, Ty.int .i64 (x.i : Nat))] [(1000, Cont.cells 28 [Ty.sl cy x.o]), (1001, Cont.cells 122 [Ty.ju 171 [Ty.pp [Ty.int .i64 (many : Nat)], Ty.ptr 1000 0, Ty.pp [Ty.nd th h1 h2], Ty.pp [Ty.int .i64 (lim : Nat)], Ty.ptr 1001 0]])]) (fun x => lim - x.i) (⟨i, o, Nat.le_refl _, hi, rfl⟩) ?_ fun x => ?_
 ·(refine cx.mk' ?_ ?_ <;> (repeat' (first | exact aJ | exact aK | refine aB ?_ (Ty.aU _) | refine aB ?_ (Ty.aF _) | refine aG rfl (Cont.aF _) ?_)))
 have hxl := x.le
 refine aE (aE (aA (bG rfl (aI rfl rfl rfl rfl (bB rfl rfl rfl (aD (aC ?_)))))))
 refine aj rfl (fun hc2 => ?_) (fun hc2 => ?_)
 ·
  refine aq (aC (aE (aZ (aE (cP mixed rfl ?_)))))
  refine aY rfl rfl (by decide) rfl rfl rfl ?_
  refine fN rfl ?_
  refine dI (res' := Ty.row cy 3 27 l) [(27, 6)] [27] [] (Am l (by omega)) rfl rfl (by repeat (first | exact bU | refine aM ?_ ?_ | exact aT rfl rfl)) pre_nil post_nil (DO (by exact List.mem_cons_self)) ?_
  refine bG rfl ?_
  refine bW (E := cy) (xs := [(x.i : Int)]) rfl rfl rfl rfl rfl (by decide) (by decide) (by repeat (first | exact (aV.nil : aV _ _ [] _) | (show aV _ _ ((_, _) :: _) _; apply aV.one; (· exact (rfl : _ = Ty.int _ _)); (· exact rfl)))) (by exact rfl) rfl ?_
  refine dw rfl rfl (by decide) rfl rfl rfl rfl rfl rfl (by decide) (by (simp <;> omega)) (by (simp <;> omega)) ?_
  refine bG rfl ?_
  refine cA rfl rfl (by omega) (by omega) ?_
  refine CL [(1000, 1000), (1001, 1001), (27, 1002)] [27] (uo th h1 h2 many lim (uG h many lim (l ++ [(x.i : Int)]) (x.i + 1) x.o).2) rfl (ih (l ++ [(x.i : Int)]) (x.i + 1) x.o (by omega) (by rw [List.length_append]; show l.length + 1 ≤ many; omega) (by have := x.ge; omega)) rfl rfl (aM (aM (aM (aM (aM (aM (aM bU (jm (by decide))) (aT rfl rfl)) (aT rfl rfl)) (jm (by decide))) (aT rfl rfl)) (aT rfl rfl)) (DO (by decide))) (cz (a := 1000) (b := 1000) (by decide) rfl (gN (by decide) (aM bU (aT rfl rfl))) (cz (a := 1001) (b := 1001) (by decide) rfl (gN (by decide) (qJ (by decide) (by decide))) pre_nil)) (bg (a := 1000) (b := 1000) (by decide) rfl (gN (by decide) (aM bU (aT rfl rfl))) (bg (a := 1001) (b := 1001) (by decide) rfl (gN (by decide) (qJ (by decide) (by decide))) post_nil)) (aT rfl rfl) ?_
  refine aD ?_
  refine ⟨by kernel_rfl, ?_⟩
  refine aC ?_
  refine cI rfl (fun hc3 => ?_) (fun hc3 => ?_)
  ·
   refine aE (aA (dA rfl (aD (aC (ay (bC (aS (aS (bC ?_)))))))))
   refine aS ?_
   refine iX [1000, 1001] rfl rfl (by decide) ?_ ?_
   ·exact zi rfl rfl (congrArg Prod.snd (x.found hlm2 hc2 hc3)).symm
   all_goals skip
   all_goals exact iO (oq rfl rfl (congrArg Ty.bool (hc3.symm.trans (congrArg Prod.fst (x.found hlm2 hc2 hc3)).symm)))
  refine aq (bI (aC (aA (bG rfl ?_))))
  refine cA rfl rfl (by omega) (by omega) ?_
  refine bk rfl (aD ?_)
  refine bO (x.next hc2 hc3) ?_ (by show lim - (x.i + 1) < lim - x.i; omega)
  (refine cx.mk' ?_ ?_ <;> (repeat' (first | exact aJ | exact aK | refine aB ?_ (Ty.aU _) | refine aB ?_ (Ty.aF _) | refine aG rfl (Cont.aF _) ?_)))
  all_goals skip
 refine cE (aP (aP (aa rfl (aC (aE (aA (dA rfl (aD (aC ?_)))))))))
 refine ay ?_
 refine iX [1000, 1001] rfl rfl (by decide) ?_ ?_
 ·exact zi rfl rfl (congrArg Prod.snd (x.stop hlm2 hc2)).symm
 all_goals skip
 all_goals exact iO (oq rfl rfl (congrArg Ty.bool (congrArg Prod.fst (x.stop hlm2 hc2)).symm))
set_option maxRecDepth 100000 in
theorem wj (th : Ty) (h1 : th.deps = []) (h2 : th.cdeps = []) (ho : th.one = true) (h : List Int → Bool) (hf : ∀ l, oM Tryz.prog (Ty.nd th h1 h2) [Ty.sl cy l] (Ty.bool (h l))) (lim : Nat) (hlm : lim ≤ 999) : dK Tryz.prog 113 [Ty.int .i64 (lim : Nat), Ty.nd th h1 h2] (Ty.kY [Ty.sl cy (E0 h lim), Ty.bool (HE h lim)]) := by
 refine ah Tryz.func113 rfl (by decide) Tryz.ntmps113 (by exact Nat.le_of_ble_eq_true rfl) fun w0 M0 => ?_
 refine aE (aA ?_)
 refine fu (by exact (rfl : _ = Ty.int _ _)) rfl ?_
 refine fu (ty := Ty.nd th h1 h2) rfl ho ?_
 refine lq rfl (dA rfl (aD (aC (aE (aE (aA (aI rfl rfl rfl rfl ?_)))))))
 refine cA rfl rfl (by omega) (by omega) ?_
 refine bG rfl (aD (aC (aZ ?_)))
 refine cF (fun (k : {k : Nat // k ≤ lim + 1 ∧ qX h lim k}) => live [(2, Ty.pp [Ty.int .i64 (lim : Nat)]), (3, Ty.pp [Ty.nd th h1 h2]), (10, Ty.int .i64 ((lim : Int) + 1)), (11, Ty.int .i64 (k.1 : Nat))] []) (fun k => lim + 1 - k.1) (⟨0, by omega, G3⟩) ?_ fun k => ?_
 ·(refine cx.mk' ?_ ?_ <;> (repeat' (first | exact aJ | exact aK | refine aB ?_ (Ty.aU _) | refine aB ?_ (Ty.aF _))))
 have hk := k.2.1
 refine aE (aA (bB rfl rfl rfl (aD (aC (aE ?_)))))
 refine aj rfl (fun hc1 => ?_) (fun hc1 => ?_)
 ·
  refine aq (aC (aE (aZ (aE (aA (bG rfl ?_))))))
  refine bp rfl (by exact List.cons_ne_nil _ _) rfl ?_
  refine cm rfl rfl (by decide) rfl rfl (by exact (rfl : _ = Ty.int _ _)) rfl (by exact Nat.le_of_ble_eq_true rfl) rfl rfl (by exact (rfl : _ = [_])) ?_
  refine aD (aC (aE ?_))
  refine kK (tg := 7) [(6, Ty.pp [Ty.int .i64 (k.1 : Nat)])] (by decide) rfl ⟨l8 (T := 3) (off := 0) (l := [Ty.int .i64 (k.1 : Nat)]) rfl rfl rfl (by decide), trivial⟩ ?_
  refine aA ?_
  refine bp rfl (by exact List.cons_ne_nil _ _) rfl ?_
  refine aD (aC (aE (aA ?_)))
  refine bp rfl (by exact List.cons_ne_nil _ _) rfl ?_
  refine aD (aC (aE (aA (dL rfl ?_))))
  refine cm rfl rfl (by decide) rfl rfl (by exact (rfl : _ = Ty.ju _ _)) rfl (by exact Nat.le_of_ble_eq_true rfl) rfl rfl (by exact (rfl : _ = [_])) ?_
  refine aD (aC (aE ?_))
  refine jW (tg := 8) rfl (Cont.jz (l' := [Ty.sl cy ([] : List Int)]) ⟨Ty.AP, trivial⟩) ?_
  refine aA ?_
  refine aY rfl rfl (by decide) rfl rfl rfl ?_
  refine CL [(8, 1000), (9, 1001)] [] [(8, Cont.cells 28 [Ty.sl cy (uG h k.1 lim [] 0 []).2]), (9, Cont.cells 122 [Ty.ju 171 [Ty.pp [Ty.int .i64 (k.1 : Nat)], Ty.ptr 8 0, Ty.pp [Ty.nd th h1 h2], Ty.pp [Ty.int .i64 (lim : Nat)], Ty.ptr 9 0]])] rfl (Nz th h1 h2 h hf k.1 lim (by omega) (by omega) (lim + 1) [] 0 [] (by omega) (Nat.zero_le _) (by omega)) rfl rfl (aM (aM (aM (aM (aM (aM (aM bU (jm (by decide))) (aT rfl rfl)) (aT rfl rfl)) (jm (by decide))) (aT rfl rfl)) (aT rfl rfl)) yJ) (cz (a := 8) (b := 1000) (by decide) rfl (gN (by decide) (aM bU (aT rfl rfl))) (cz (a := 9) (b := 1001) (by decide) rfl (gN (by decide) (qJ (by decide) (by decide))) pre_nil)) (bg (a := 8) (b := 1000) (by decide) rfl (gN (by decide) (aM bU (aT rfl rfl))) (bg (a := 9) (b := 1001) (by decide) rfl (gN (by decide) (aM bU (tJ (aM (aM (aM (aM (aM bU (jm (by decide))) (aT rfl rfl)) (aT rfl rfl)) (jm (by decide))) (aT rfl rfl))))) post_nil)) (aT rfl rfl) ?_
  refine aD (aC ?_)
  refine cI rfl (fun hc2 => ?_) (fun hc2 => ?_)
  ·
   refine aE (aA ?_)
   refine aY rfl rfl (by decide) rfl rfl rfl ?_
   refine Ez rfl (dA rfl (aD (aC (ay (bC (aS (aS (bC (aS ?_)))))))))
   refine fV rfl rfl rfl ?_ ?_
   all_goals skip
   all_goals first | exact az rfl rfl (congrArg Ty.bool (Hp k.2.2 (by omega) hc2).1) | exact az rfl rfl (congrArg (Ty.sl cy) (Hp k.2.2 (by omega) hc2).2)
  refine aq (bI (aC (aA ?_)))
  refine cA rfl rfl (by omega) (by omega) ?_
  refine bG rfl (aD ?_)
  refine bO (⟨k.1 + 1, by omega, G8 k.2.2 hc2⟩) ?_ (by show lim + 1 - (k.1 + 1) < lim + 1 - k.1; omega)
  (refine cx.mk' ?_ ?_ <;> (repeat' (first | exact aJ | exact aK | refine aB ?_ (Ty.aU _) | refine aB ?_ (Ty.aF _))))
  all_goals skip
 refine cE (aP (aP (aa rfl (aC (aE (aA (lq rfl (dA rfl (aD ?_)))))))))
 refine aC (ay ?_)
 refine fV rfl rfl rfl ?_ ?_
 all_goals skip
 all_goals first | exact az rfl rfl (congrArg Ty.bool (Mv k.2.2 k.2.1 hc1).1) | exact gG (Mv k.2.2 k.2.1 hc1).2.symm
end Go.Proofs.YtelbollidfdcjaaGreat
namespace Go.Proofs.YtelbollidfdcjaaGreat
open Go Go.T
set_option maxHeartbeats 16000000
theorem Cp {P : Program} {t : Ty} {h1 : t.deps = []} {h2 : t.cdeps = []} {args : List Ty} {res : Ty} (h : oM P t args res) : oM P (Ty.nd t h1 h2) args res := h
noncomputable def ku (y : ak) : Int := if bL y = 0 then (if HE (fun l => !eW y (cS l false)) y.levels.length = true then 0 else 6) else bL y
noncomputable def mR (y : ak) : List Int := if ku y = 0 then E0 (fun l => !eW y (cS l false)) y.levels.length else []
theorem EO {y : ak} (h : ¬ bL y = 0) : bL y = ku y ∧ [] = mR y := by
 have e : bL y = ku y := (if_neg h).symm
 exact ⟨e, by unfold mR; rw [← e, if_neg h]⟩
theorem Em {y : ak} (h : bL y = 0) (h2 : (!HE (fun l => !eW y (cS l false)) y.levels.length) = true) : 6 = ku y ∧ [] = mR y := by
 have e : 6 = ku y := by unfold ku; rw [if_pos h, if_neg (by rw [nA h2]; decide)]
 exact ⟨e, by unfold mR; rw [← e, if_neg (by decide)]⟩
theorem Ai {y : ak} (h : bL y = 0) (h2 : (!HE (fun l => !eW y (cS l false)) y.levels.length) = false) : 0 = ku y ∧ E0 (fun l => !eW y (cS l false)) y.levels.length = mR y := by
 have e : 0 = ku y := by unfold ku; rw [if_pos h, if_pos (eX h2)]
 exact ⟨e, by unfold mR; rw [← e, if_pos rfl]⟩
noncomputable def kj (y : ak) : Int := if bL y = 0 then (if HE (fun l => eW y (cS l true)) y.levels.length = true then 0 else 7) else bL y
noncomputable def mK (y : ak) : List Int := if kj y = 0 then E0 (fun l => eW y (cS l true)) y.levels.length else []
theorem EF {y : ak} (h : ¬ bL y = 0) : bL y = kj y ∧ [] = mK y := by
 have e : bL y = kj y := (if_neg h).symm
 exact ⟨e, by unfold mK; rw [← e, if_neg h]⟩
theorem FC {y : ak} (h : bL y = 0) (h2 : (!HE (fun l => eW y (cS l true)) y.levels.length) = true) : 7 = kj y ∧ [] = mK y := by
 have e : 7 = kj y := by unfold kj; rw [if_pos h, if_neg (by rw [nA h2]; decide)]
 exact ⟨e, by unfold mK; rw [← e, if_neg (by decide)]⟩
theorem za {y : ak} (h : bL y = 0) (h2 : (!HE (fun l => eW y (cS l true)) y.levels.length) = false) : 0 = kj y ∧ E0 (fun l => eW y (cS l true)) y.levels.length = mK y := by
 have e : 0 = kj y := by unfold kj; rw [if_pos h, if_pos (eX h2)]
 exact ⟨e, by unfold mK; rw [← e, if_pos rfl]⟩
attribute [local irreducible] aQ gZ Way.hH Way.fin Way.room eR dr ep gQ over bK cM dW eP jj e9 hO kP cQ gK fk fo cq cL gV oy iZ ij jD gk BD yl iE ak.kept ak.cells bL dU bY gB kV cX oN qR iW iH kJ mT hasB tK sO rA sJ pK iM jr ke xN gT jS HN Fq rq eW cS iJ uG mQ HE E0 ld
attribute [local irreducible] gA eU lH nR gy gl g5 gr g9 nU gx nZ dN fS nJ ff nQ nth fI dQ au dK bodyPost Exit.then Exit.inBlock Code.wp Code.wpIn nY gm oC n9 g7 eM cJ cH bodyPostM dP
set_option maxRecDepth 100000 in
theorem Il (y : ak) (hr : y.cG) (l : List Int) : dK Tryz.prog 114 [Ty.sl cy l, Ty.pp (bH y)] (Ty.bool ((fun l => !eW y (cS l false)) l)) := by
 refine ah Tryz.func114 rfl (by decide) Tryz.ntmps114 (by exact Nat.le_of_ble_eq_true rfl) fun w0 M0 => ?_
 refine aE (aA (dA rfl (aD (aC (aE (aA ?_))))))
 refine aX rfl rfl rfl (by exact Nat.le_of_ble_eq_true rfl) ?_
 refine fN rfl (af (Bt y hr l false) rfl rfl rfl rfl rfl (eN rfl (dA rfl (aD (aC (ay (bP rfl rfl ?_)))))))
 all_goals exact b9 rfl rfl
 all_goals trace_state
set_option maxRecDepth 100000 in
theorem MQ (y : ak) (hs : y.Small) : dK Tryz.prog 44 [dn y] (Ty.kY [Ty.sl cy (mR y), Ty.int .i64 (ku y)]) := by
 refine ah Tryz.func44 rfl (by decide) Tryz.ntmps44 (by exact Nat.le_of_ble_eq_true rfl) fun w0 M0 => ?_
 refine aE (aA (bD rfl (lq rfl (bk rfl (aD (aC (aE (aE (aA ?_)))))))))
 refine aX rfl rfl rfl (by exact Nat.le_of_ble_eq_true rfl) ?_
 refine af (lE y hs) rfl rfl rfl rfl rfl (bk rfl (aD (aC (aE (aA (bG rfl (bB rfl rfl rfl (aD (aC ?_)))))))))
 refine dH rfl (fun hc1 => ?_) (fun hc1 => ?_)
 ·
  refine aE (aA (bG rfl (lq rfl (bk rfl (aD (aC (ay (aS ?_))))))))
  refine fV rfl rfl rfl ?_ ?_
  all_goals skip
  all_goals first | exact gG (EO hc1).2.symm | exact az rfl rfl (congrArg (Ty.int .i64) (EO hc1).1)
 refine aq (aC (aE ?_))
 have hck : bL y = 0 := hc1
 have hr := c6 hck
 have h8 := hr.levels
 refine aA ?_
 refine aH rfl rfl rfl rfl rfl (by decide) ?_
 refine aI rfl rfl rfl rfl (cK rfl rfl rfl (dL rfl ?_))
 refine af (wj (Ty.ju 114 [Ty.pp (bH y)]) rfl rfl rfl (fun l => !eW y (cS l false)) (fun l => Cp (dS (Il y hr l) rfl rfl rfl rfl rfl rfl)) y.levels.length (by omega)) rfl rfl rfl rfl rfl ?_
 refine uH rfl (bQ rfl rfl (bQ rfl rfl (Ez rfl (dA rfl (aD (aC (aE (aE (aA ?_)))))))))
 refine fB rfl (eN rfl (aD (aC ?_)))
 refine cI rfl (fun hc2 => ?_) (fun hc2 => ?_)
 ·
  refine aE (aA (lq rfl (bk rfl (aD (aC (ay (aS ?_)))))))
  refine fV rfl rfl rfl ?_ ?_
  all_goals skip
  all_goals first | exact gG (Em hck hc2).2.symm | exact az rfl rfl (congrArg (Ty.int .i64) (Em hck hc2).1)
 refine aq (aC (aE (aA (fN rfl (Ez rfl (bk rfl (aD (aC (ay ?_)))))))))
 refine fV rfl rfl rfl ?_ ?_
 all_goals skip
 all_goals first | exact az rfl rfl (congrArg (Ty.sl cy) (Ai hck hc2).2) | exact az rfl rfl (congrArg (Ty.int .i64) (Ai hck hc2).1)
set_option maxRecDepth 100000 in
theorem Ke (y : ak) (hr : y.cG) (l : List Int) : dK Tryz.prog 115 [Ty.sl cy l, Ty.pp (bH y)] (Ty.bool ((fun l => eW y (cS l true)) l)) := by
 refine ah Tryz.func115 rfl (by decide) Tryz.ntmps115 (by exact Nat.le_of_ble_eq_true rfl) fun w0 M0 => ?_
 refine aE (aA (dA rfl (aD (aC (aE (aA ?_))))))
 refine aX rfl rfl rfl (by exact Nat.le_of_ble_eq_true rfl) ?_
 refine fN rfl (af (Bt y hr l true) rfl rfl rfl rfl rfl (dA rfl (aD (aC (ay (bP rfl rfl ?_))))))
 all_goals exact b9 rfl rfl
 all_goals trace_state
set_option maxRecDepth 100000 in
theorem K1 (y : ak) (hs : y.Small) : dK Tryz.prog 45 [dn y] (Ty.kY [Ty.sl cy (mK y), Ty.int .i64 (kj y)]) := by
 refine ah Tryz.func45 rfl (by decide) Tryz.ntmps45 (by exact Nat.le_of_ble_eq_true rfl) fun w0 M0 => ?_
 refine aE (aA (bD rfl (lq rfl (bk rfl (aD (aC (aE (aE (aA ?_)))))))))
 refine aX rfl rfl rfl (by exact Nat.le_of_ble_eq_true rfl) ?_
 refine af (lE y hs) rfl rfl rfl rfl rfl (bk rfl (aD (aC (aE (aA (bG rfl (bB rfl rfl rfl (aD (aC ?_)))))))))
 refine dH rfl (fun hc1 => ?_) (fun hc1 => ?_)
 ·
  refine aE (aA (bG rfl (lq rfl (bk rfl (aD (aC (ay (aS ?_))))))))
  refine fV rfl rfl rfl ?_ ?_
  all_goals skip
  all_goals first | exact gG (EF hc1).2.symm | exact az rfl rfl (congrArg (Ty.int .i64) (EF hc1).1)
 refine aq (aC (aE ?_))
 have hck : bL y = 0 := hc1
 have hr := c6 hck
 have h8 := hr.levels
 refine aA ?_
 refine aH rfl rfl rfl rfl rfl (by decide) ?_
 refine aI rfl rfl rfl rfl (cK rfl rfl rfl (dL rfl ?_))
 refine af (wj (Ty.ju 115 [Ty.pp (bH y)]) rfl rfl rfl (fun l => eW y (cS l true)) (fun l => Cp (dS (Ke y hr l) rfl rfl rfl rfl rfl rfl)) y.levels.length (by omega)) rfl rfl rfl rfl rfl ?_
 refine uH rfl (bQ rfl rfl (bQ rfl rfl (Ez rfl (dA rfl (aD (aC (aE (aE (aA ?_)))))))))
 refine fB rfl (eN rfl (aD (aC ?_)))
 refine cI rfl (fun hc2 => ?_) (fun hc2 => ?_)
 ·
  refine aE (aA (lq rfl (bk rfl (aD (aC (ay (aS ?_)))))))
  refine fV rfl rfl rfl ?_ ?_
  all_goals skip
  all_goals first | exact gG (FC hck hc2).2.symm | exact az rfl rfl (congrArg (Ty.int .i64) (FC hck hc2).1)
 refine aq (aC (aE (aA (fN rfl (Ez rfl (bk rfl (aD (aC (ay ?_)))))))))
 refine fV rfl rfl rfl ?_ ?_
 all_goals skip
 all_goals first | exact az rfl rfl (congrArg (Ty.sl cy) (za hck hc2).2) | exact az rfl rfl (congrArg (Ty.int .i64) (za hck hc2).1)
end Go.Proofs.YtelbollidfdcjaaGreat
namespace Go.Proofs.YtelbollidfdcjaaGreat
open Go Go.T
def two (k : Nat) : ak := ⟨2, [⟨100, ⟨20, 30⟩⟩, ⟨50, ⟨0, 0⟩⟩], [⟨0, -1, 0, ⟨40, 60⟩⟩, ⟨1, 0, 1, ⟨10, 40⟩⟩, ⟨1, 1, -1, ⟨5, 10⟩⟩], ([⟨2, 1, ⟨20, 25⟩⟩, ⟨2, 0, ⟨10, 24⟩⟩] : List Level).take k⟩
def xe (p q u v w : Int) : dY := ⟨[p, q], [u, v, w]⟩
section
variable {k : Nat} {c : Nat → Bool} {a : dY} {p q u v w : Int}
theorem n4 (h : k ≤ 2) : bL (two k) = 0 := by
 have : k = 0 ∨ k = 1 ∨ k = 2 := by omega
 rcases this with rfl | rfl | rfl <;> decide
theorem zR (h : k ≤ 2) : (two k).cG := c6 (n4 h)
theorem C4 (h : xY (two k) a) : ∃ p q u v w, a = xe p q u v w := by
  obtain ⟨f, m⟩ := a
  have h1 : f.length = 2 := h.first
  have h2 : m.length = 3 := h.b8
  match f, m, h1, h2 with
  | [p, q], [u, v, w], _, _ => exact ⟨p, q, u, v, w, rfl⟩
theorem mN : dB (two k) (xe p q u v w) 0 0 = p := by simp [dB, cw, qT, ind, nth, two, xe]
theorem mO : dB (two k) (xe p q u v w) 0 1 = p + u := by simp [dB, cw, qT, ind, nth, two, xe]
theorem kg : dB (two k) (xe p q u v w) 0 2 = p + u - v := by simp [dB, cw, qT, ind, nth, two, xe]; omega
theorem z6 : dB (two k) (xe p q u v w) 1 0 = q := by simp [dB, cw, qT, ind, nth, two, xe]
theorem AA : dB (two k) (xe p q u v w) 1 1 = q := by simp [dB, cw, qT, ind, nth, two, xe]
theorem sy : dB (two k) (xe p q u v w) 1 2 = q + v - w := by simp [dB, cw, qT, ind, nth, two, xe]; omega
structure MP (k : Nat) (c : Nat → Bool) (p q u v w : Int) : Prop where
  hp : 20 ≤ p ∧ p ≤ 30
  hq : q = 0
  hu : 40 ≤ u ∧ u ≤ 60
  hv : 10 ≤ v ∧ v ≤ 40
  hw : 5 ≤ w ∧ w ≤ 10
  l0 : 0 < k → c 0 = true → 20 ≤ v - w ∧ v - w ≤ 25
  l1 : 1 < k → c 1 = true → 10 ≤ p + u - v ∧ p + u - v ≤ 24
theorem kM (hk : k ≤ 2) : eO (two k) c (xe p q u v w) ↔ MP k c p q u v w := by
 constructor
 ·intro h
  have f0 := h.first 0 (Nat.zero_lt_succ _)
  have f1 := h.first 1 (show 1 < 2 by decide)
  have m0 := h.b8 0 (Nat.zero_lt_succ _)
  have m1 := h.b8 1 (show 1 < 3 by decide)
  have m2 := h.b8 2 (show 2 < 3 by decide)
  have hq : (0 : Int) ≤ q ∧ q ≤ 0 := f1
  refine ⟨f0, by omega, m0, m1, m2, fun h0 hc => ?_, fun h1 hc => ?_⟩
  ·have e : nth (two k).levels 0 = ⟨2, 1, ⟨20, 25⟩⟩ := by
    obtain ⟨j, rfl⟩ : ∃ j, k = j + 1 := ⟨k - 1, by omega⟩
    rfl
   have hl : 0 < (two k).levels.length := by
    obtain ⟨j, rfl⟩ : ∃ j, k = j + 1 := ⟨k - 1, by omega⟩
    show 0 < (List.take (j + 1) _).length
    rw [List.take_succ_cons, List.length_cons]; omega
   have := h.level 0 hl hc
   rw [e] at this
   have := this
   change 20 ≤ dB _ _ 1 2 ∧ dB _ _ 1 2 ≤ 25 at this
   rw [sy] at this
   omega
  obtain rfl : k = 2 := by omega
  have := h.level 1 (by decide) hc
  change 10 ≤ dB _ _ 0 2 ∧ dB _ _ 0 2 ≤ 24 at this
  rw [kg] at this
  exact this
 intro ⟨hp, hq, hu, hv, hw, h0, h1⟩
 have hlen : (two k).levels.length = k := by
  show (List.take k _).length = k
  rw [List.length_take]; show min k 2 = k; omega
 refine ⟨⟨rfl, rfl⟩, fun b hb => ?_, fun b t hb ht => ?_, fun i hi => ?_, fun i hi hc => ?_⟩
 ·have hb : b < 2 := hb
  have : b = 0 ∨ b = 1 := by omega
  rcases this with rfl | rfl
  ·exact hp
  show 0 ≤ q ∧ q ≤ 0; omega
 ·have hb : b < 2 := hb
  have ht : t ≤ 2 := ht
  have e1 : b = 0 ∨ b = 1 := by omega
  have e2 : t = 0 ∨ t = 1 ∨ t = 2 := by omega
  rcases e1 with rfl | rfl <;> rcases e2 with rfl | rfl | rfl
  ·rw [mN]; show 0 ≤ p ∧ p ≤ 100; omega
  ·rw [mO]; show 0 ≤ p + u ∧ p + u ≤ 100; omega
  ·rw [kg]; show 0 ≤ p + u - v ∧ p + u - v ≤ 100; omega
  ·rw [z6]; show 0 ≤ q ∧ q ≤ 50; omega
  ·rw [AA]; show 0 ≤ q ∧ q ≤ 50; omega
  rw [sy]; show 0 ≤ q + v - w ∧ q + v - w ≤ 50; omega
 ·have hi : i < 3 := hi
  have : i = 0 ∨ i = 1 ∨ i = 2 := by omega
  rcases this with rfl | rfl | rfl
  ·exact hu
  ·exact hv
  exact hw
 rw [hlen] at hi
 have : i = 0 ∨ i = 1 := by omega
 rcases this with rfl | rfl
 ·have h := h0 hi hc
  have e : nth (two k).levels 0 = ⟨2, 1, ⟨20, 25⟩⟩ := by
   obtain ⟨j, rfl⟩ : ∃ j, k = j + 1 := ⟨k - 1, by omega⟩
   rfl
  rw [e]
  change 20 ≤ dB _ _ 1 2 ∧ dB _ _ 1 2 ≤ 25
  rw [sy]; omega
 obtain rfl : k = 2 := by omega
 have h := h1 (by omega) hc
 change 10 ≤ dB _ _ 0 2 ∧ dB _ _ 0 2 ≤ 24
 rw [kg]; exact h
theorem kH (hk : k ≤ 2) {f : dY → Int} {s : Span} (p0 q0 u0 v0 w0 p1 q1 u1 v1 w1 : Int) (h0 : MP k c p0 q0 u0 v0 w0) (e0 : f (xe p0 q0 u0 v0 w0) = s.lo) (h1 : MP k c p1 q1 u1 v1 w1) (e1 : f (xe p1 q1 u1 v1 w1) = s.hi)
 (h : ∀ p q u v w, MP k c p q u v w → s.lo ≤ f (xe p q u v w) ∧ f (xe p q u v w) ≤ s.hi) : xL (two k) c f s :=
 ⟨⟨_, (kM hk).2 h0, e0⟩, ⟨_, (kM hk).2 h1, e1⟩, fun a ha => by
  obtain ⟨p, q, u, v, w, rfl⟩ := C4 ha.lens
  exact h p q u v w ((kM hk).1 ha)⟩
end
end Go.Proofs.YtelbollidfdcjaaGreat
namespace Go.Proofs.YtelbollidfdcjaaGreat
open Go Go.T
section
variable {y : ak} {c : Nat → Bool} {a : dY} {b t k : Nat} {s : Span}
theorem va (h0 : bL y = 0) (h : ∃ a, eO y (nth bY) a) : cX y = 0 := (open_3 h0 ((oE (c6 h0)).2 h)).symm
theorem BF (h0 : bL y = 0) (h : ¬ ∃ a, eO y (nth bY) a) : cX y = 7 := by
  cases e : (cQ (aQ y (nth bY)) (y.cells + 1) (gZ (aQ y (nth bY)))).2.1 with
  | true => exact (wN h0 e).symm
  | false => exact absurd ((oE (c6 h0)).1 e) h
theorem pX (h : cX y = 0) : ∃ a, eO y (nth bY) a := (oE (c6 (eG h))).1 (AG h)
theorem H7 (h0 : bL y = 0) : cX y = 0 ↔ ∃ a, eO y (nth bY) a := ⟨pX, va h0⟩
theorem ya (hr : y.cG) {l : List Bool} : eW y l = true ↔ ∃ a, eO y (nth l) a := by
 unfold eW
 rw [Bool.not_eq_true', oE hr]
theorem nT (ho : cX y = 0) (hb : b < y.bins.length) (ht : t ≤ y.D) : xL y (nth bY) (fun a => dB y a b t) (gk (aQ y (nth bY)) (y.cells + 1) (hasB y b t)) :=
 vK (c6 (eG ho)) (fun x hx => LX (c6 (eG ho)) hb ht hx) (pX ho)
theorem zU (ho : cX y = 0) (ht : t ≤ y.D) : xL y (nth bY) (fun a => cw (fun b => dB y a b t) y.bins.length) (gk (aQ y (nth bY)) (y.cells + 1) (pK y t)) :=
 vK (c6 (eG ho)) (fun x hx => Fg (c6 (eG ho)) ht hx) (pX ho)
theorem LZ (ho : cX y = 0) (hk : k < y.moves.length) : xL y (nth bY) (fun a => nth a.b8 k) (gk (aQ y (nth bY)) (y.cells + 1) (tK (y.bins.length * (y.D + 1) + k))) :=
 vK (c6 (eG ho)) (fun x hx => HJ hk) (pX ho)
theorem AF (h0 : bL y = 0) (hb : b < y.bins.length) : dU y (b : Int) = 0 := by
 unfold dU
 rw [if_pos h0, if_pos (by unfold ak.bin; rw [iN]; omega)]
theorem FM (ho : cX y = 0) (hb : b < y.bins.length) : iW y (b : Int) = 0 := (zo (AF (eG ho) hb) ho).1.symm
theorem ur (ho : cX y = 0) (hb : b < y.bins.length) : iH y (b : Int) = (List.range (y.D + 1)).map fun t => gk (aQ y (nth bY)) (y.cells + 1) (hasB y b t) := (zo (AF (eG ho) hb) ho).2.symm
theorem MR (ho : cX y = 0) : sJ y = (List.range (y.D + 1)).map fun t => gk (aQ y (nth bY)) (y.cells + 1) (pK y t) := (B1 ho).symm
theorem HM (ho : cX y = 0) (hb : b < y.bins.length) : (iH y (b : Int)).length = y.D + 1 := by rw [ur ho hb, List.length_map, List.length_range]
theorem Hl (ho : cX y = 0) (hb : b < y.bins.length) (ht : t ≤ y.D) : xL y (nth bY) (fun a => dB y a b t) (nth (iH y (b : Int)) t) := by
 rw [ur ho hb, eY _ (by omega)]; exact nT ho hb ht
theorem Ls (ho : cX y = 0) (hk : k < y.moves.length) : kJ y (k : Int) = 0 := (En (eG ho) (by rw [Bool.not_eq_false', Bool.and_eq_true, decide_eq_true_eq, decide_eq_true_eq]; omega) ho).1.symm
theorem JQ (ho : cX y = 0) (hk : k < y.moves.length) : xL y (nth bY) (fun a => nth a.b8 k) (mT y (k : Int)) := by
 rw [← (En (eG ho) (by rw [Bool.not_eq_false', Bool.and_eq_true, decide_eq_true_eq, decide_eq_true_eq]; omega) ho).2]
 exact LZ ho hk
end
theorem Ip {α : Type} {a b c x y z : α} (h1 : a = x) (h2 : b = y) (h3 : c = z) : [a, b, c] = [x, y, z] := by subst h1; subst h2; subst h3; rfl
theorem kQ {k : Nat} (hk : k ≤ 1) : cX (two k) = 0 :=
 va (n4 (by omega)) ⟨xe 20 0 40 25 5, (kM (by omega)).2 ⟨by omega, rfl, by omega, by omega, by omega, fun _ _ => by omega, fun _ _ => by omega⟩⟩
theorem Oz : iW (two 0) 0 = 0 := FM (b := 0) (kQ (by omega)) (by decide)
theorem Lg : iH (two 0) 0 = [⟨20, 30⟩, ⟨60, 90⟩, ⟨20, 80⟩] := by
 have ho := kQ (k := 0) (by omega)
 have e := ur (b := 0) ho (by decide)
 have h0 := (nT (b := 0) (t := 0) ho (by decide) (by decide)).one (kH (s := ⟨20, 30⟩) (by omega) 20 0 40 10 5 30 0 40 10 5 (by constructor <;> intros <;> omega) mN (by constructor <;> intros <;> omega) mN fun p q u v w h => by rw [mN]; exact h.hp)
 have h1 := (nT (b := 0) (t := 1) ho (by decide) (by decide)).one (kH (s := ⟨60, 90⟩) (by omega) 20 0 40 10 5 30 0 60 10 5 (by constructor <;> intros <;> omega) mO (by constructor <;> intros <;> omega) mO fun p q u v w h => by rw [mO]; have := h.hp; have := h.hu; show 60 ≤ p + u ∧ p + u ≤ 90; omega)
 have h2 := (nT (b := 0) (t := 2) ho (by decide) (by decide)).one (kH (s := ⟨20, 80⟩) (by omega) 20 0 40 40 5 30 0 60 10 5 (by constructor <;> intros <;> omega) kg (by constructor <;> intros <;> omega) kg fun p q u v w h => by rw [kg]; have := h.hp; have := h.hu; have := h.hv; show 20 ≤ p + u - v ∧ p + u - v ≤ 80; omega)
 show iH (two 0) ((0 : Nat) : Int) = _
 rw [e]
 exact Ip h0 h1 h2
theorem EP : iH (two 1) 0 = [⟨20, 30⟩, ⟨60, 90⟩, ⟨25, 65⟩] := by
 have ho := kQ (k := 1) (by omega)
 have e := ur (b := 0) ho (by decide)
 have h0 := (nT (b := 0) (t := 0) ho (by decide) (by decide)).one (kH (s := ⟨20, 30⟩) (by omega) 20 0 40 25 5 30 0 40 25 5 (by constructor <;> intros <;> omega) mN (by constructor <;> intros <;> omega) mN fun p q u v w h => by rw [mN]; exact h.hp)
 have h1 := (nT (b := 0) (t := 1) ho (by decide) (by decide)).one (kH (s := ⟨60, 90⟩) (by omega) 20 0 40 25 5 30 0 60 25 5 (by constructor <;> intros <;> omega) mO (by constructor <;> intros <;> omega) mO fun p q u v w h => by rw [mO]; have := h.hp; have := h.hu; show 60 ≤ p + u ∧ p + u ≤ 90; omega)
 have h2 := (nT (b := 0) (t := 2) ho (by decide) (by decide)).one (kH (s := ⟨25, 65⟩) (by omega) 20 0 40 35 10 30 0 60 25 5 (by constructor <;> intros <;> omega) kg (by constructor <;> intros <;> omega) kg fun p q u v w h => by rw [kg]; have := h.hp; have := h.hu; have := h.hw; have := h.l0 (by omega) rfl; show 25 ≤ p + u - v ∧ p + u - v ≤ 65; omega)
 show iH (two 1) ((0 : Nat) : Int) = _
 rw [e]
 exact Ip h0 h1 h2
theorem lD {k : Nat} {a : dY} {t : Nat} : cw (fun b => dB (two k) a b t) (two k).bins.length = dB (two k) a 0 t + dB (two k) a 1 t := by
 show (0 + dB (two k) a 0 t) + dB (two k) a 1 t = _; rw [Int.zero_add]
theorem Ni : sJ (two 0) = [⟨20, 30⟩, ⟨60, 90⟩, ⟨50, 85⟩] := by
 have ho := kQ (k := 0) (by omega)
 have e := MR ho
 have h0 := (zU (t := 0) ho (by decide)).one (kH (s := ⟨20, 30⟩) (by omega) 20 0 40 10 5 30 0 40 10 5 (by constructor <;> intros <;> omega) (by rw [lD, mN, z6]; rfl) (by constructor <;> intros <;> omega) (by rw [lD, mN, z6]; rfl) fun p q u v w h => by rw [lD, mN, z6]; have := h.hp; have := h.hq; show 20 ≤ p + q ∧ p + q ≤ 30; omega)
 have h1 := (zU (t := 1) ho (by decide)).one (kH (s := ⟨60, 90⟩) (by omega) 20 0 40 10 5 30 0 60 10 5 (by constructor <;> intros <;> omega) (by rw [lD, mO, AA]; rfl) (by constructor <;> intros <;> omega) (by rw [lD, mO, AA]; rfl) fun p q u v w h => by rw [lD, mO, AA]; have := h.hp; have := h.hq; have := h.hu; show 60 ≤ p + u + q ∧ p + u + q ≤ 90; omega)
 have h2 := (zU (t := 2) ho (by decide)).one (kH (s := ⟨50, 85⟩) (by omega) 20 0 40 10 10 30 0 60 10 5 (by constructor <;> intros <;> omega) (by rw [lD, kg, sy]; rfl) (by constructor <;> intros <;> omega) (by rw [lD, kg, sy]; rfl) fun p q u v w h => by rw [lD, kg, sy]; have := h.hp; have := h.hq; have := h.hu; have := h.hw; show 50 ≤ p + u - v + (q + v - w) ∧ p + u - v + (q + v - w) ≤ 85; omega)
 rw [e]
 exact Ip h0 h1 h2
theorem Oj : kJ (two 1) 1 = 0 := Ls (k := 1) (kQ (by omega)) (by decide)
theorem N0 : mT (two 1) 1 = ⟨25, 35⟩ :=
 (JQ (k := 1) (kQ (k := 1) (by omega)) (by decide)).one (kH (s := ⟨25, 35⟩) (by omega) 20 0 40 25 5 20 0 40 35 10 (by constructor <;> intros <;> omega) rfl (by constructor <;> intros <;> omega) rfl fun p q u v w h => by have := h.hw; have := h.l0 (by omega) rfl; show 25 ≤ v ∧ v ≤ 35; omega)
theorem My : 0 = iM (two 1) 0 60 (fun x => decide (x.lo ≥ 60)) ∧ fidx (fun x : Span => decide (x.lo ≥ 60)) (iH (two 1) 0) = jr (two 1) 0 60 (fun x => decide (x.lo ≥ 60)) :=
 Et (AF (b := 0) (n4 (by omega)) (by decide)) rfl (FM (b := 0) (kQ (by omega)) (by decide)) (by rw [EP]; decide)
theorem Nk : jr (two 1) 0 60 (fun x => decide (x.lo ≥ 60)) = 1 := by rw [← My.2, EP]; rfl
def xD : Dx := ⟨[⟨0, 0⟩, ⟨0, 1⟩, ⟨1, 1⟩], false⟩
theorem EX : jS (two 2) (aQ (two 2) (nth bY)) xD = 1 := by kernel_rfl
theorem OS : 0 = nG (two 2) xD ∧ jS (two 2) (aQ (two 2) (nth bY)) xD = tW (two 2) xD :=
 Jv (n4 (by omega)) (by decide) (fun i hi => by
  have hi : i + 1 < 3 := hi
  have : i = 0 ∨ i = 1 := by omega
  rcases this with rfl | rfl <;> decide) (by rw [EX]; decide)
theorem Nr : tW (two 2) xD = 1 := by rw [← OS.2, EX]
theorem Kn : ¬ ∃ a, eO (two 2) (nth bY) a := by
 rintro ⟨a, ha⟩
 obtain ⟨p, q, u, v, w, rfl⟩ := C4 ha.lens
 have h := (kM (by omega)).1 ha
 have h0 := h.l0 (by omega) rfl
 have h1 := h.l1 (by omega) rfl
 have := h.hp; have := h.hu; have := h.hw
 omega
theorem K9 : cX (two 2) = 7 := BF (n4 (by omega)) Kn
theorem u9 {l : List Bool} (h : nth l 0 = false ∨ nth l 1 = false) : eW (two 2) l = true := by
  rw [ya (zR (by omega))]
  cases h1 : nth l 1 with
  | false => exact ⟨xe 20 0 40 25 5, (kM (by omega)).2 ⟨by omega, rfl, by omega, by omega, by omega, fun _ _ => by omega, fun _ hc => by rw [h1] at hc; cases hc⟩⟩
  | true =>
    have h0 : nth l 0 = false := h.resolve_right (by rw [h1]; decide)
    exact ⟨xe 20 0 40 40 5, (kM (by omega)).2 ⟨by omega, rfl, by omega, by omega, by omega, fun _ hc => absurd hc (by rw [h0]; decide), fun _ _ => by omega⟩⟩
theorem II {l : List Bool} (h : nth l 0 = true ∧ nth l 1 = true) : eW (two 2) l = false := by
 rw [Bool.eq_false_iff]
 intro hc
 obtain ⟨a, ha⟩ := (ya (zR (by omega))).1 hc
 obtain ⟨p, q, u, v, w, rfl⟩ := C4 ha.lens
 have hh := (kM (by omega)).1 ha
 have h0 := hh.l0 (by omega) h.1
 have h1 := hh.l1 (by omega) h.2
 have := hh.hp; have := hh.hu; have := hh.hw
 omega
theorem yF (h : List Int → Bool) : ld h 2 = [[], [0], [1], [0, 1]].find? h := rfl
theorem Ob : ld (fun l => !eW (two 2) (cS l false)) 2 = some [0, 1] := by
 rw [yF, List.find?_cons, u9 (.inl rfl)]
 show List.find? _ [[0], [1], [0, 1]] = _
 rw [List.find?_cons, u9 (.inr rfl)]
 show List.find? _ [[1], [0, 1]] = _
 rw [List.find?_cons, u9 (.inl rfl)]
 show List.find? _ [[0, 1]] = _
 rw [List.find?_cons, II ⟨rfl, rfl⟩]; rfl
theorem PY : ld (fun l => eW (two 2) (cS l true)) 2 = some [0] := by
 rw [yF, List.find?_cons, II ⟨rfl, rfl⟩]
 show List.find? _ [[0], [1], [0, 1]] = _
 rw [List.find?_cons, u9 (.inl rfl)]
theorem Mj : 0 = ku (two 2) ∧ E0 (fun l => !eW (two 2) (cS l false)) 2 = mR (two 2) :=
 Ai (n4 (by omega)) (by show (!(ld _ 2).isSome) = false; rw [Ob]; rfl)
theorem Mh : 0 = kj (two 2) ∧ E0 (fun l => eW (two 2) (cS l true)) 2 = mK (two 2) :=
 za (n4 (by omega)) (by show (!(ld _ 2).isSome) = false; rw [PY]; rfl)
theorem Ka : mR (two 2) = [0, 1] := by rw [← Mj.2]; unfold E0; rw [Ob]; rfl
theorem IX : mK (two 2) = [0] := by rw [← Mh.2]; unfold E0; rw [PY]; rfl
end Go.Proofs.YtelbollidfdcjaaGreat
namespace Go.Proofs.YtelbollidfdcjaaGreat
open Go Go.T
section
variable {y : ak} {c : Nat → Bool} {a : dY} {m : List Int} {b t n : Nat} {x : Int}
theorem xL.same {f g : dY → Int} {s s' : Span} (h : xL y c f s) (h' : xL y c g s') (e : ∀ a, f a = g a) : s = s' := by
 have : f = g := funext e
 subst this; exact h.one h'
end
end Go.Proofs.YtelbollidfdcjaaGreat
namespace Go.Proofs.YtelbollidfdcjaaGreat
open Go Go.T
section
variable {y : ak} {a : dY} {c : Nat → Bool}
end
end Go.Proofs.YtelbollidfdcjaaGreat
namespace Go.Proofs.YtelbollidfdcjaaGreat
open Go Go.T
theorem M9 (a b c d : Int) (w : World) : (Op.equalIn 9999 37 (.agg #[.int .i64 a, .int .i64 b]) (.agg #[.int .i64 c, .int .i64 d])).run Tryz.prog w = .ok (decide (a = c) && decide (b = d)) w := by
 have hs : Tryz.prog.stoodInHeld 37 = false := by kernel_rfl
 have e3 : ∀ (x y : Int) (w : World), (Op.equalIn 9998 3 (.int .i64 x) (.int .i64 y)).run Tryz.prog w = .ok (decide (x = y)) w := fun x y w => mY 9997 Tryz.underlying3
 have g3 : ∀ w, (isAgg 3).run Tryz.prog w = .ok false w := fun w => by simp [isAgg, run_underlying Tryz.underlying3]
 rw [Op.equalIn]
 simp only [Sem.run_bind, run_underlying Tryz.underlying37, Result.andThen_ok]
 simp [hs, part, g3, e3]
 by_cases h0 : a = c <;> by_cases h1 : b = d <;> simp [h0, h1]
theorem J8 (w : World) : (isAgg 37).run Tryz.prog w = .ok true w := by simp [isAgg, run_underlying Tryz.underlying37]
theorem Ib (w : World) : (sizeOf 37).run Tryz.prog w = .ok 2 w := by
 have h : (Tryz.prog.info? 37).map (·.size) = some 2 := by kernel_rfl
 obtain ⟨ti, h1, h2⟩ := Option.map_eq_some_iff.1 h
 simp [sizeOf, typeInfo, h1, h2]
theorem Od (a0 a1 a2 b0 b1 b2 : Int) (w : World) : (Op.equal 39 (.agg #[.int .i64 a0, .int .i64 a1, .int .i64 a2]) (.agg #[.int .i64 b0, .int .i64 b1, .int .i64 b2])).run Tryz.prog w = .ok (decide (a0 = b0) && (decide (a1 = b1) && decide (a2 = b2))) w := by
 have hs : Tryz.prog.stoodInHeld 39 = false := by kernel_rfl
 have e3 : ∀ (x y : Int) (w : World), (Op.equalIn 9999 3 (.int .i64 x) (.int .i64 y)).run Tryz.prog w = .ok (decide (x = y)) w := fun x y w => mY 9998 Tryz.underlying3
 have g3 : ∀ w, (isAgg 3).run Tryz.prog w = .ok false w := fun w => by simp [isAgg, run_underlying Tryz.underlying3]
 unfold Op.equal Op.maxDepth
 rw [Op.equalIn]
 simp only [Sem.run_bind, run_underlying Tryz.underlying39, Result.andThen_ok]
 simp [hs, part, g3, e3, J8, Ib, M9]
 by_cases h0 : a0 = b0
 case neg => simp [h0]
 cases hq : (decide (a1 = b1) && decide (a2 = b2)) <;> simp_all
theorem PW (a0 a1 a2 b0 b1 b2 : Int) : Ho Tryz.prog 39 [Ty.int .i64 a0, Ty.int .i64 a1, Ty.int .i64 a2] [Ty.int .i64 b0, Ty.int .i64 b1, Ty.int .i64 b2] (decide (a0 = b0) && (decide (a1 = b1) && decide (a2 = b2))) :=
  ⟨by kernel_rfl, fun w M cs ds h1 h2 => by
    obtain ⟨cs⟩ := cs
    obtain ⟨ds⟩ := ds
    match cs, ds, h1, h2 with
    | [u0, u1, u2], [v0, v1, v2], h1, h2 =>
      simp only [cB, Ty.int, gA, and_true] at h1 h2
      obtain ⟨rfl, rfl, rfl⟩ := h1
      obtain ⟨rfl, rfl, rfl⟩ := h2
      exact Od _ _ _ _ _ _ w⟩
theorem Ov (a0 a1 a2 a3 a4 b0 b1 b2 b3 b4 : Int) (w : World) : (Op.equal 41 (.agg #[.int .i64 a0, .int .i64 a1, .int .i64 a2, .int .i64 a3, .int .i64 a4]) (.agg #[.int .i64 b0, .int .i64 b1, .int .i64 b2, .int .i64 b3, .int .i64 b4])).run Tryz.prog w = .ok (decide (a0 = b0) && (decide (a1 = b1) && (decide (a2 = b2) && (decide (a3 = b3) && decide (a4 = b4))))) w := by
 have hs : Tryz.prog.stoodInHeld 41 = false := by kernel_rfl
 have e3 : ∀ (x y : Int) (w : World), (Op.equalIn 9999 3 (.int .i64 x) (.int .i64 y)).run Tryz.prog w = .ok (decide (x = y)) w := fun x y w => mY 9998 Tryz.underlying3
 have g3 : ∀ w, (isAgg 3).run Tryz.prog w = .ok false w := fun w => by simp [isAgg, run_underlying Tryz.underlying3]
 unfold Op.equal Op.maxDepth
 rw [Op.equalIn]
 simp only [Sem.run_bind, run_underlying Tryz.underlying41, Result.andThen_ok]
 simp [hs, part, g3, e3, J8, Ib, M9]
 by_cases h0 : a0 = b0
 case neg => simp [h0]
 by_cases h1 : a1 = b1
 case neg => simp [h1]
 by_cases h2 : a2 = b2
 case neg => simp [h2]
 cases hq : (decide (a3 = b3) && decide (a4 = b4)) <;> simp_all
theorem OR (a0 a1 a2 a3 a4 b0 b1 b2 b3 b4 : Int) : Ho Tryz.prog 41 [Ty.int .i64 a0, Ty.int .i64 a1, Ty.int .i64 a2, Ty.int .i64 a3, Ty.int .i64 a4] [Ty.int .i64 b0, Ty.int .i64 b1, Ty.int .i64 b2, Ty.int .i64 b3, Ty.int .i64 b4] (decide (a0 = b0) && (decide (a1 = b1) && (decide (a2 = b2) && (decide (a3 = b3) && decide (a4 = b4))))) :=
  ⟨by kernel_rfl, fun w M cs ds h1 h2 => by
    obtain ⟨cs⟩ := cs
    obtain ⟨ds⟩ := ds
    match cs, ds, h1, h2 with
    | [u0, u1, u2, u3, u4], [v0, v1, v2, v3, v4], h1, h2 =>
      simp only [cB, Ty.int, gA, and_true] at h1 h2
      obtain ⟨rfl, rfl, rfl, rfl, rfl⟩ := h1
      obtain ⟨rfl, rfl, rfl, rfl, rfl⟩ := h2
      exact Ov _ _ _ _ _ _ _ _ _ _ w⟩
theorem NR (a0 a1 a2 a3 b0 b1 b2 b3 : Int) (w : World) : (Op.equal 102 (.agg #[.int .i64 a0, .int .i64 a1, .int .i64 a2, .int .i64 a3]) (.agg #[.int .i64 b0, .int .i64 b1, .int .i64 b2, .int .i64 b3])).run Tryz.prog w = .ok (decide (a0 = b0) && (decide (a1 = b1) && (decide (a2 = b2) && decide (a3 = b3)))) w := by
 have hs : Tryz.prog.stoodInHeld 102 = false := by kernel_rfl
 have e3 : ∀ (x y : Int) (w : World), (Op.equalIn 9999 3 (.int .i64 x) (.int .i64 y)).run Tryz.prog w = .ok (decide (x = y)) w := fun x y w => mY 9998 Tryz.underlying3
 have g3 : ∀ w, (isAgg 3).run Tryz.prog w = .ok false w := fun w => by simp [isAgg, run_underlying Tryz.underlying3]
 unfold Op.equal Op.maxDepth
 rw [Op.equalIn]
 simp only [Sem.run_bind, run_underlying Tryz.underlying102, Result.andThen_ok]
 simp [hs, part, g3, e3, J8, Ib, M9]
 by_cases h0 : a0 = b0
 case neg => simp [h0]
 by_cases h1 : a1 = b1
 case neg => simp [h1]
 cases hq : (decide (a2 = b2) && decide (a3 = b3)) <;> simp_all
theorem N5 (a0 a1 a2 a3 b0 b1 b2 b3 : Int) : Ho Tryz.prog 102 [Ty.int .i64 a0, Ty.int .i64 a1, Ty.int .i64 a2, Ty.int .i64 a3] [Ty.int .i64 b0, Ty.int .i64 b1, Ty.int .i64 b2, Ty.int .i64 b3] (decide (a0 = b0) && (decide (a1 = b1) && (decide (a2 = b2) && decide (a3 = b3)))) :=
  ⟨by kernel_rfl, fun w M cs ds h1 h2 => by
    obtain ⟨cs⟩ := cs
    obtain ⟨ds⟩ := ds
    match cs, ds, h1, h2 with
    | [u0, u1, u2, u3], [v0, v1, v2, v3], h1, h2 =>
      simp only [cB, Ty.int, gA, and_true] at h1 h2
      obtain ⟨rfl, rfl, rfl, rfl⟩ := h1
      obtain ⟨rfl, rfl, rfl, rfl⟩ := h2
      exact NR _ _ _ _ _ _ _ _ w⟩
theorem wE (a b : Span) : (decide (a.lo = b.lo) && decide (a.hi = b.hi)) = decide (a = b) := by
 cases a; cases b; rw [Bool.eq_iff_iff]; simp
theorem JW (a b : sX) : (decide (a.holds = b.holds) && (decide (a.first.lo = b.first.lo) && decide (a.first.hi = b.first.hi))) = decide (a = b) := by
 rw [wE]; cases a; cases b; rw [Bool.eq_iff_iff]; simp
theorem Hr (a b : Move) : (decide (a.day = b.day) && (decide (a.src = b.src) && (decide (a.dst = b.dst) && (decide (a.sacks.lo = b.sacks.lo) && decide (a.sacks.hi = b.sacks.hi))))) = decide (a = b) := by
 rw [wE]; cases a; cases b; rw [Bool.eq_iff_iff]; simp
theorem IG (a b : Level) : (decide (a.day = b.day) && (decide (a.bin = b.bin) && (decide (a.sacks.lo = b.sacks.lo) && decide (a.sacks.hi = b.sacks.hi)))) = decide (a = b) := by
 rw [wE]; cases a; cases b; rw [Bool.eq_iff_iff]; simp
end Go.Proofs.YtelbollidfdcjaaGreat
namespace Go.Proofs.YtelbollidfdcjaaGreat
open Go Go.T
set_option maxHeartbeats 2000000
attribute [local irreducible] gA eU lH nR gy gl g5 gr g9 nU gx nZ dN fS nJ ff nQ nth fI dQ au dK bodyPost Exit.then Exit.inBlock Code.wp Code.wpIn nY gm oC n9 g7 eM cJ cH bodyPostM dP
set_option maxRecDepth 100000 in
theorem Bi (a b : List Int) : dK Tryz.prog 116 [Ty.sl cy a, Ty.sl cy b] (Ty.bool (decide (a = b))) := by
 refine ah Tryz.func116 rfl (by decide) Tryz.ntmps116 (by exact Nat.le_of_ble_eq_true rfl) fun w0 M0 => ?_
 refine g6 (s := 0) rfl rfl g8 fun ha => ?_
 refine g6 (s := 1) rfl rfl g8 fun hb => ?_
 refine aE (aA (dA rfl (aD (aC (aE (aE (aA (fN rfl (cK rfl rfl rfl ?_)))))))))
 refine fN rfl (cK rfl rfl rfl (bB rfl rfl rfl (aD (aC ?_))))
 refine dH rfl (fun hc1 => ?_) (fun hc1 => ?_)
 ·
  try (simp only [Classical.not_not] at hc1)
  refine aE (aA (dA rfl (aD (aC (ay (aS (bP rfl rfl ?_)))))))
  all_goals skip
  exact az rfl rfl (congrArg Ty.bool (by rw [eq_comm, decide_eq_false_iff_not]; intro e; subst e; exact hc1 rfl))
 try (simp only [Classical.not_not] at hc1)
 refine aq (aC (aE (aE (aA (fN rfl (cK rfl rfl rfl (bG rfl (aD (aC ?_)))))))))
 refine aZ ?_
 refine cF (fun (k : {k : Nat // a.take k = b.take k}) => live [(0, Ty.sl cy a), (1, Ty.sl cy b), (12, Ty.int .i64 a.length), (13, Ty.int .i64 (k.1 : Nat))] []) (fun k => a.length - k.1) (⟨0, by simp⟩) ?_ fun k => ?_
 ·(refine cx.mk' ?_ ?_ <;> (repeat' (first | exact aJ | exact aK | refine aB ?_ (Ty.aU _) | refine aB ?_ (Ty.aF _))))
 have hlen : a.length = b.length := by omega
 refine aE (aA (bB rfl rfl rfl (aD (aC (aE ?_)))))
 refine aj rfl (fun hc2 => ?_) (fun hc2 => ?_)
 ·
  try (simp only [Classical.not_not] at hc2)
  refine aq (aC (aE (aZ (aE (aA (bG rfl (bk rfl (aD (aC ?_)))))))))
  refine aE (cP mixed rfl (fN rfl (bG rfl ?_)))
  refine av rfl rfl rfl rfl rfl rfl (by omega) ?_
  refine aI rfl rfl rfl rfl (fN rfl (bG rfl ?_))
  refine av rfl rfl rfl rfl rfl rfl (by omega) ?_
  refine aI rfl rfl rfl rfl (bB rfl rfl rfl (aD ?_))
  refine ⟨by kernel_rfl, ?_⟩
  refine aC ?_
  refine dH rfl (fun hc3 => ?_) (fun hc3 => ?_)
  ·
   try (simp only [Classical.not_not] at hc3)
   refine aE (aA (dA rfl (aD (aC (ay (bC (aS (aS (bC ?_)))))))))
   refine aS (bP rfl rfl ?_)
   all_goals skip
   exact az rfl rfl (congrArg Ty.bool (by rw [eq_comm, decide_eq_false_iff_not]; exact mh (k := k.1) (hc3)))
  try (simp only [Classical.not_not] at hc3)
  refine aq (bI (aC (aA ?_)))
  refine cA rfl rfl (by omega) (by omega) ?_
  refine bG rfl (aD ?_)
  refine bO (⟨k.1 + 1, by rw [cT (by omega), cT (by omega), k.2, hc3]⟩) ?_ (by show a.length - (k.1 + 1) < a.length - k.1; omega)
  (refine cx.mk' ?_ ?_ <;> (repeat' (first | exact aJ | exact aK | refine aB ?_ (Ty.aU _) | refine aB ?_ (Ty.aF _))))
  all_goals skip
 try (simp only [Classical.not_not] at hc2)
 refine cE (aP (aP (aa rfl (aC (aE (aA (dA rfl (aD (aC ?_)))))))))
 refine ay (bP rfl rfl ?_)
 all_goals skip
 exact az rfl rfl (congrArg Ty.bool (by rw [eq_comm, decide_eq_true_eq]; have := k.2; rwa [List.take_of_length_le (by omega), List.take_of_length_le (by omega)] at this))
set_option maxRecDepth 100000 in
theorem CU (a b : List Int) : dK Tryz.prog 46 [Ty.sl cy a, Ty.sl cy b] (Ty.bool (decide (a = b))) := by
 refine ah Tryz.func46 rfl (by decide) Tryz.ntmps46 (by exact Nat.le_of_ble_eq_true rfl) fun w0 M0 => ?_
 refine aE (aA (dA rfl (aD (aC (aE (aA (fN rfl (fN rfl (af (Bi _ _) rfl rfl rfl rfl rfl ?_)))))))))
 refine dA rfl (aD (aC (ay (bP rfl rfl ?_))))
 all_goals exact b9 rfl rfl
set_option maxRecDepth 100000 in
theorem Cf (a b : List Span) : dK Tryz.prog 123 [Ty.sl bl a, Ty.sl bl b] (Ty.bool (decide (a = b))) := by
 refine ah Tryz.func123 rfl (by decide) Tryz.ntmps123 (by exact Nat.le_of_ble_eq_true rfl) fun w0 M0 => ?_
 refine g6 (s := 0) rfl rfl g8 fun ha => ?_
 refine g6 (s := 1) rfl rfl g8 fun hb => ?_
 refine aE (aA (dA rfl (aD (aC (aE (aE (aA (fN rfl (cK rfl rfl rfl ?_)))))))))
 refine fN rfl (cK rfl rfl rfl (bB rfl rfl rfl (aD (aC ?_))))
 refine dH rfl (fun hc1 => ?_) (fun hc1 => ?_)
 ·
  try (simp only [Classical.not_not] at hc1)
  refine aE (aA (dA rfl (aD (aC (ay (aS (bP rfl rfl ?_)))))))
  all_goals skip
  exact az rfl rfl (congrArg Ty.bool (by rw [eq_comm, decide_eq_false_iff_not]; intro e; subst e; exact hc1 rfl))
 try (simp only [Classical.not_not] at hc1)
 refine aq (aC (aE (aE (aA (fN rfl (cK rfl rfl rfl (bG rfl (aD (aC ?_)))))))))
 refine aZ ?_
 refine cF (fun (k : {k : Nat // a.take k = b.take k}) => live [(0, Ty.sl bl a), (1, Ty.sl bl b), (12, Ty.int .i64 a.length), (13, Ty.int .i64 (k.1 : Nat))] []) (fun k => a.length - k.1) (⟨0, by simp⟩) ?_ fun k => ?_
 ·(refine cx.mk' ?_ ?_ <;> (repeat' (first | exact aJ | exact aK | refine aB ?_ (Ty.aU _) | refine aB ?_ (Ty.aF _))))
 have hlen : a.length = b.length := by omega
 refine aE (aA (bB rfl rfl rfl (aD (aC (aE ?_)))))
 refine aj rfl (fun hc2 => ?_) (fun hc2 => ?_)
 ·
  try (simp only [Classical.not_not] at hc2)
  refine aq (aC (aE (aZ (aE (aA (bG rfl (bk rfl (aD (aC ?_)))))))))
  refine aE (cP mixed rfl (fN rfl (bG rfl ?_)))
  refine av rfl rfl rfl rfl rfl rfl (by omega) ?_
  refine aX rfl rfl rfl (by exact Nat.le_of_ble_eq_true rfl) ?_
  refine fN rfl (bG rfl ?_)
  refine av rfl rfl rfl rfl rfl rfl (by omega) ?_
  refine aX rfl rfl rfl (by exact Nat.le_of_ble_eq_true rfl) ?_
  refine sQ (Mz _ _ _ _) rfl rfl (aD ?_)
  refine ⟨by kernel_rfl, ?_⟩
  refine aC ?_
  refine cI rfl (fun hc3 => ?_) (fun hc3 => ?_)
  ·
   try (simp only [Classical.not_not] at hc3)
   refine aE (aA (dA rfl (aD (aC (ay (bC (aS (aS (bC ?_)))))))))
   refine aS (bP rfl rfl ?_)
   all_goals skip
   exact az rfl rfl (congrArg Ty.bool (by rw [eq_comm, decide_eq_false_iff_not]; exact mh (k := k.1) (of_decide_eq_false (by rw [← wE]; exact nA hc3))))
  try (simp only [Classical.not_not] at hc3)
  refine aq (bI (aC (aA ?_)))
  refine cA rfl rfl (by omega) (by omega) ?_
  refine bG rfl (aD ?_)
  refine bO (⟨k.1 + 1, by have e : nth a k.1 = nth b k.1 := of_decide_eq_true (by rw [← wE]; exact eX hc3); rw [cT (by omega), cT (by omega), k.2, e]⟩) ?_ (by show a.length - (k.1 + 1) < a.length - k.1; omega)
  (refine cx.mk' ?_ ?_ <;> (repeat' (first | exact aJ | exact aK | refine aB ?_ (Ty.aU _) | refine aB ?_ (Ty.aF _))))
  all_goals skip
 try (simp only [Classical.not_not] at hc2)
 refine cE (aP (aP (aa rfl (aC (aE (aA (dA rfl (aD (aC ?_)))))))))
 refine ay (bP rfl rfl ?_)
 all_goals skip
 exact az rfl rfl (congrArg Ty.bool (by rw [eq_comm, decide_eq_true_eq]; have := k.2; rwa [List.take_of_length_le (by omega), List.take_of_length_le (by omega)] at this))
set_option maxRecDepth 100000 in
theorem Bp (a b : List Span) : dK Tryz.prog 50 [Ty.sl bl a, Ty.sl bl b] (Ty.bool (decide (a = b))) := by
 refine ah Tryz.func50 rfl (by decide) Tryz.ntmps50 (by exact Nat.le_of_ble_eq_true rfl) fun w0 M0 => ?_
 refine aE (aA (dA rfl (aD (aC (aE (aA (fN rfl (fN rfl (af (Cf _ _) rfl rfl rfl rfl rfl ?_)))))))))
 refine dA rfl (aD (aC (ay (bP rfl rfl ?_))))
 all_goals exact b9 rfl rfl
set_option maxRecDepth 100000 in
theorem Gc (l : List sX) (h : l.length ≤ 1000) : dK Tryz.prog 19 [Ty.sl fC l] (Ty.sl fC l) := by
 refine ah Tryz.func19 rfl (by decide) Tryz.ntmps19 (by exact Nat.le_of_ble_eq_true rfl) fun w0 M0 => ?_
 refine aE (aA (lq rfl (aD (aC (aE (aA (fN rfl (cK rfl rfl rfl ?_))))))))
 refine zb (E := fC) rfl rfl rfl rfl rfl rfl rfl (by decide) rfl (by omega) (by (dsimp only; omega)) (by omega) ?_
 refine fN rfl ?_
 refine dw rfl rfl (by decide) rfl rfl rfl rfl rfl rfl (by decide) (by (simp <;> omega)) (by (simp <;> omega)) ?_
 refine Aj rfl (aD (aC (ay (bP rfl rfl ?_))))
 all_goals exact rT (by decide)
set_option maxRecDepth 100000 in
theorem Bx (a b : List sX) : dK Tryz.prog 167 [Ty.sl fC a, Ty.sl fC b] (Ty.bool (decide (a = b))) := by
 refine ah Tryz.func167 rfl (by decide) Tryz.ntmps167 (by exact Nat.le_of_ble_eq_true rfl) fun w0 M0 => ?_
 refine g6 (s := 0) rfl rfl g8 fun ha => ?_
 refine g6 (s := 1) rfl rfl g8 fun hb => ?_
 refine aE (aA (dA rfl (aD (aC (aE (aE (aA (fN rfl (cK rfl rfl rfl ?_)))))))))
 refine fN rfl (cK rfl rfl rfl (bB rfl rfl rfl (aD (aC ?_))))
 refine dH rfl (fun hc1 => ?_) (fun hc1 => ?_)
 ·
  try (simp only [Classical.not_not] at hc1)
  refine aE (aA (dA rfl (aD (aC (ay (aS (bP rfl rfl ?_)))))))
  all_goals skip
  exact az rfl rfl (congrArg Ty.bool (by rw [eq_comm, decide_eq_false_iff_not]; intro e; subst e; exact hc1 rfl))
 try (simp only [Classical.not_not] at hc1)
 refine aq (aC (aE (aE (aA (fN rfl (cK rfl rfl rfl (bG rfl (aD (aC ?_)))))))))
 refine aZ ?_
 refine cF (fun (k : {k : Nat // a.take k = b.take k}) => live [(0, Ty.sl fC a), (1, Ty.sl fC b), (12, Ty.int .i64 a.length), (13, Ty.int .i64 (k.1 : Nat))] []) (fun k => a.length - k.1) (⟨0, by simp⟩) ?_ fun k => ?_
 ·(refine cx.mk' ?_ ?_ <;> (repeat' (first | exact aJ | exact aK | refine aB ?_ (Ty.aU _) | refine aB ?_ (Ty.aF _))))
 have hlen : a.length = b.length := by omega
 refine aE (aA (bB rfl rfl rfl (aD (aC (aE ?_)))))
 refine aj rfl (fun hc2 => ?_) (fun hc2 => ?_)
 ·
  try (simp only [Classical.not_not] at hc2)
  refine aq (aC (aE (aZ (aE (aA (bG rfl (bk rfl (aD (aC ?_)))))))))
  refine aE (cP mixed rfl (fN rfl (bG rfl ?_)))
  refine av rfl rfl rfl rfl rfl rfl (by omega) ?_
  refine aX rfl rfl rfl (by exact Nat.le_of_ble_eq_true rfl) ?_
  refine fN rfl (bG rfl ?_)
  refine av rfl rfl rfl rfl rfl rfl (by omega) ?_
  refine aX rfl rfl rfl (by exact Nat.le_of_ble_eq_true rfl) ?_
  refine sQ (PW _ _ _ _ _ _) rfl rfl (aD ?_)
  refine ⟨by kernel_rfl, ?_⟩
  refine aC ?_
  refine cI rfl (fun hc3 => ?_) (fun hc3 => ?_)
  ·
   try (simp only [Classical.not_not] at hc3)
   refine aE (aA (dA rfl (aD (aC (ay (bC (aS (aS (bC ?_)))))))))
   refine aS (bP rfl rfl ?_)
   all_goals skip
   exact az rfl rfl (congrArg Ty.bool (by rw [eq_comm, decide_eq_false_iff_not]; exact mh (k := k.1) (of_decide_eq_false (by rw [← JW]; exact nA hc3))))
  try (simp only [Classical.not_not] at hc3)
  refine aq (bI (aC (aA ?_)))
  refine cA rfl rfl (by omega) (by omega) ?_
  refine bG rfl (aD ?_)
  refine bO (⟨k.1 + 1, by have e : nth a k.1 = nth b k.1 := of_decide_eq_true (by rw [← JW]; exact eX hc3); rw [cT (by omega), cT (by omega), k.2, e]⟩) ?_ (by show a.length - (k.1 + 1) < a.length - k.1; omega)
  (refine cx.mk' ?_ ?_ <;> (repeat' (first | exact aJ | exact aK | refine aB ?_ (Ty.aU _) | refine aB ?_ (Ty.aF _))))
  all_goals skip
 try (simp only [Classical.not_not] at hc2)
 refine cE (aP (aP (aa rfl (aC (aE (aA (dA rfl (aD (aC ?_)))))))))
 refine ay (bP rfl rfl ?_)
 all_goals skip
 exact az rfl rfl (congrArg Ty.bool (by rw [eq_comm, decide_eq_true_eq]; have := k.2; rwa [List.take_of_length_le (by omega), List.take_of_length_le (by omega)] at this))
set_option maxRecDepth 100000 in
theorem Jy (a b : List sX) : dK Tryz.prog 103 [Ty.sl fC a, Ty.sl fC b] (Ty.bool (decide (a = b))) := by
 refine ah Tryz.func103 rfl (by decide) Tryz.ntmps103 (by exact Nat.le_of_ble_eq_true rfl) fun w0 M0 => ?_
 refine aE (aA (dA rfl (aD (aC (aE (aA (fN rfl (fN rfl (af (Bx _ _) rfl rfl rfl rfl rfl ?_)))))))))
 refine dA rfl (aD (aC (ay (bP rfl rfl ?_))))
 all_goals exact b9 rfl rfl
set_option maxRecDepth 100000 in
theorem F6 (l : List Move) (h : l.length ≤ 1000) : dK Tryz.prog 95 [Ty.sl eD l] (Ty.sl eD l) := by
 refine ah Tryz.func95 rfl (by decide) Tryz.ntmps95 (by exact Nat.le_of_ble_eq_true rfl) fun w0 M0 => ?_
 refine aE (aA (lq rfl (aD (aC (aE (aA (fN rfl (cK rfl rfl rfl ?_))))))))
 refine zb (E := eD) rfl rfl rfl rfl rfl rfl rfl (by decide) rfl (by omega) (by (dsimp only; omega)) (by omega) ?_
 refine fN rfl ?_
 refine dw rfl rfl (by decide) rfl rfl rfl rfl rfl rfl (by decide) (by (simp <;> omega)) (by (simp <;> omega)) ?_
 refine Aj rfl (aD (aC (ay (bP rfl rfl ?_))))
 all_goals exact rT (by decide)
set_option maxRecDepth 100000 in
theorem A5 (a b : List Move) : dK Tryz.prog 168 [Ty.sl eD a, Ty.sl eD b] (Ty.bool (decide (a = b))) := by
 refine ah Tryz.func168 rfl (by decide) Tryz.ntmps168 (by exact Nat.le_of_ble_eq_true rfl) fun w0 M0 => ?_
 refine g6 (s := 0) rfl rfl g8 fun ha => ?_
 refine g6 (s := 1) rfl rfl g8 fun hb => ?_
 refine aE (aA (dA rfl (aD (aC (aE (aE (aA (fN rfl (cK rfl rfl rfl ?_)))))))))
 refine fN rfl (cK rfl rfl rfl (bB rfl rfl rfl (aD (aC ?_))))
 refine dH rfl (fun hc1 => ?_) (fun hc1 => ?_)
 ·
  try (simp only [Classical.not_not] at hc1)
  refine aE (aA (dA rfl (aD (aC (ay (aS (bP rfl rfl ?_)))))))
  all_goals skip
  exact az rfl rfl (congrArg Ty.bool (by rw [eq_comm, decide_eq_false_iff_not]; intro e; subst e; exact hc1 rfl))
 try (simp only [Classical.not_not] at hc1)
 refine aq (aC (aE (aE (aA (fN rfl (cK rfl rfl rfl (bG rfl (aD (aC ?_)))))))))
 refine aZ ?_
 refine cF (fun (k : {k : Nat // a.take k = b.take k}) => live [(0, Ty.sl eD a), (1, Ty.sl eD b), (12, Ty.int .i64 a.length), (13, Ty.int .i64 (k.1 : Nat))] []) (fun k => a.length - k.1) (⟨0, by simp⟩) ?_ fun k => ?_
 ·(refine cx.mk' ?_ ?_ <;> (repeat' (first | exact aJ | exact aK | refine aB ?_ (Ty.aU _) | refine aB ?_ (Ty.aF _))))
 have hlen : a.length = b.length := by omega
 refine aE (aA (bB rfl rfl rfl (aD (aC (aE ?_)))))
 refine aj rfl (fun hc2 => ?_) (fun hc2 => ?_)
 ·
  try (simp only [Classical.not_not] at hc2)
  refine aq (aC (aE (aZ (aE (aA (bG rfl (bk rfl (aD (aC ?_)))))))))
  refine aE (cP mixed rfl (fN rfl (bG rfl ?_)))
  refine av rfl rfl rfl rfl rfl rfl (by omega) ?_
  refine aX rfl rfl rfl (by exact Nat.le_of_ble_eq_true rfl) ?_
  refine fN rfl (bG rfl ?_)
  refine av rfl rfl rfl rfl rfl rfl (by omega) ?_
  refine aX rfl rfl rfl (by exact Nat.le_of_ble_eq_true rfl) ?_
  refine sQ (OR _ _ _ _ _ _ _ _ _ _) rfl rfl (aD ?_)
  refine ⟨by kernel_rfl, ?_⟩
  refine aC ?_
  refine cI rfl (fun hc3 => ?_) (fun hc3 => ?_)
  ·
   try (simp only [Classical.not_not] at hc3)
   refine aE (aA (dA rfl (aD (aC (ay (bC (aS (aS (bC ?_)))))))))
   refine aS (bP rfl rfl ?_)
   all_goals skip
   exact az rfl rfl (congrArg Ty.bool (by rw [eq_comm, decide_eq_false_iff_not]; exact mh (k := k.1) (of_decide_eq_false (by rw [← Hr]; exact nA hc3))))
  try (simp only [Classical.not_not] at hc3)
  refine aq (bI (aC (aA ?_)))
  refine cA rfl rfl (by omega) (by omega) ?_
  refine bG rfl (aD ?_)
  refine bO (⟨k.1 + 1, by have e : nth a k.1 = nth b k.1 := of_decide_eq_true (by rw [← Hr]; exact eX hc3); rw [cT (by omega), cT (by omega), k.2, e]⟩) ?_ (by show a.length - (k.1 + 1) < a.length - k.1; omega)
  (refine cx.mk' ?_ ?_ <;> (repeat' (first | exact aJ | exact aK | refine aB ?_ (Ty.aU _) | refine aB ?_ (Ty.aF _))))
  all_goals skip
 try (simp only [Classical.not_not] at hc2)
 refine cE (aP (aP (aa rfl (aC (aE (aA (dA rfl (aD (aC ?_)))))))))
 refine ay (bP rfl rfl ?_)
 all_goals skip
 exact az rfl rfl (congrArg Ty.bool (by rw [eq_comm, decide_eq_true_eq]; have := k.2; rwa [List.take_of_length_le (by omega), List.take_of_length_le (by omega)] at this))
set_option maxRecDepth 100000 in
theorem Jk (a b : List Move) : dK Tryz.prog 104 [Ty.sl eD a, Ty.sl eD b] (Ty.bool (decide (a = b))) := by
 refine ah Tryz.func104 rfl (by decide) Tryz.ntmps104 (by exact Nat.le_of_ble_eq_true rfl) fun w0 M0 => ?_
 refine aE (aA (dA rfl (aD (aC (aE (aA (fN rfl (fN rfl (af (A5 _ _) rfl rfl rfl rfl rfl ?_)))))))))
 refine dA rfl (aD (aC (ay (bP rfl rfl ?_))))
 all_goals exact b9 rfl rfl
set_option maxRecDepth 100000 in
theorem GW (l : List Level) (h : l.length ≤ 1000) : dK Tryz.prog 96 [Ty.sl dV l] (Ty.sl dV l) := by
 refine ah Tryz.func96 rfl (by decide) Tryz.ntmps96 (by exact Nat.le_of_ble_eq_true rfl) fun w0 M0 => ?_
 refine aE (aA (lq rfl (aD (aC (aE (aA (fN rfl (cK rfl rfl rfl ?_))))))))
 refine zb (E := dV) rfl rfl rfl rfl rfl rfl rfl (by decide) rfl (by omega) (by (dsimp only; omega)) (by omega) ?_
 refine fN rfl ?_
 refine dw rfl rfl (by decide) rfl rfl rfl rfl rfl rfl (by decide) (by (simp <;> omega)) (by (simp <;> omega)) ?_
 refine Aj rfl (aD (aC (ay (bP rfl rfl ?_))))
 all_goals exact rT (by decide)
set_option maxRecDepth 100000 in
theorem CI (a b : List Level) : dK Tryz.prog 169 [Ty.sl dV a, Ty.sl dV b] (Ty.bool (decide (a = b))) := by
 refine ah Tryz.func169 rfl (by decide) Tryz.ntmps169 (by exact Nat.le_of_ble_eq_true rfl) fun w0 M0 => ?_
 refine g6 (s := 0) rfl rfl g8 fun ha => ?_
 refine g6 (s := 1) rfl rfl g8 fun hb => ?_
 refine aE (aA (dA rfl (aD (aC (aE (aE (aA (fN rfl (cK rfl rfl rfl ?_)))))))))
 refine fN rfl (cK rfl rfl rfl (bB rfl rfl rfl (aD (aC ?_))))
 refine dH rfl (fun hc1 => ?_) (fun hc1 => ?_)
 ·
  try (simp only [Classical.not_not] at hc1)
  refine aE (aA (dA rfl (aD (aC (ay (aS (bP rfl rfl ?_)))))))
  all_goals skip
  exact az rfl rfl (congrArg Ty.bool (by rw [eq_comm, decide_eq_false_iff_not]; intro e; subst e; exact hc1 rfl))
 try (simp only [Classical.not_not] at hc1)
 refine aq (aC (aE (aE (aA (fN rfl (cK rfl rfl rfl (bG rfl (aD (aC ?_)))))))))
 refine aZ ?_
 refine cF (fun (k : {k : Nat // a.take k = b.take k}) => live [(0, Ty.sl dV a), (1, Ty.sl dV b), (12, Ty.int .i64 a.length), (13, Ty.int .i64 (k.1 : Nat))] []) (fun k => a.length - k.1) (⟨0, by simp⟩) ?_ fun k => ?_
 ·(refine cx.mk' ?_ ?_ <;> (repeat' (first | exact aJ | exact aK | refine aB ?_ (Ty.aU _) | refine aB ?_ (Ty.aF _))))
 have hlen : a.length = b.length := by omega
 refine aE (aA (bB rfl rfl rfl (aD (aC (aE ?_)))))
 refine aj rfl (fun hc2 => ?_) (fun hc2 => ?_)
 ·
  try (simp only [Classical.not_not] at hc2)
  refine aq (aC (aE (aZ (aE (aA (bG rfl (bk rfl (aD (aC ?_)))))))))
  refine aE (cP mixed rfl (fN rfl (bG rfl ?_)))
  refine av rfl rfl rfl rfl rfl rfl (by omega) ?_
  refine aX rfl rfl rfl (by exact Nat.le_of_ble_eq_true rfl) ?_
  refine fN rfl (bG rfl ?_)
  refine av rfl rfl rfl rfl rfl rfl (by omega) ?_
  refine aX rfl rfl rfl (by exact Nat.le_of_ble_eq_true rfl) ?_
  refine sQ (N5 _ _ _ _ _ _ _ _) rfl rfl (aD ?_)
  refine ⟨by kernel_rfl, ?_⟩
  refine aC ?_
  refine cI rfl (fun hc3 => ?_) (fun hc3 => ?_)
  ·
   try (simp only [Classical.not_not] at hc3)
   refine aE (aA (dA rfl (aD (aC (ay (bC (aS (aS (bC ?_)))))))))
   refine aS (bP rfl rfl ?_)
   all_goals skip
   exact az rfl rfl (congrArg Ty.bool (by rw [eq_comm, decide_eq_false_iff_not]; exact mh (k := k.1) (of_decide_eq_false (by rw [← IG]; exact nA hc3))))
  try (simp only [Classical.not_not] at hc3)
  refine aq (bI (aC (aA ?_)))
  refine cA rfl rfl (by omega) (by omega) ?_
  refine bG rfl (aD ?_)
  refine bO (⟨k.1 + 1, by have e : nth a k.1 = nth b k.1 := of_decide_eq_true (by rw [← IG]; exact eX hc3); rw [cT (by omega), cT (by omega), k.2, e]⟩) ?_ (by show a.length - (k.1 + 1) < a.length - k.1; omega)
  (refine cx.mk' ?_ ?_ <;> (repeat' (first | exact aJ | exact aK | refine aB ?_ (Ty.aU _) | refine aB ?_ (Ty.aF _))))
  all_goals skip
 try (simp only [Classical.not_not] at hc2)
 refine cE (aP (aP (aa rfl (aC (aE (aA (dA rfl (aD (aC ?_)))))))))
 refine ay (bP rfl rfl ?_)
 all_goals skip
 exact az rfl rfl (congrArg Ty.bool (by rw [eq_comm, decide_eq_true_eq]; have := k.2; rwa [List.take_of_length_le (by omega), List.take_of_length_le (by omega)] at this))
set_option maxRecDepth 100000 in
theorem Jo (a b : List Level) : dK Tryz.prog 105 [Ty.sl dV a, Ty.sl dV b] (Ty.bool (decide (a = b))) := by
 refine ah Tryz.func105 rfl (by decide) Tryz.ntmps105 (by exact Nat.le_of_ble_eq_true rfl) fun w0 M0 => ?_
 refine aE (aA (dA rfl (aD (aC (aE (aA (fN rfl (fN rfl (af (CI _ _) rfl rfl rfl rfl rfl ?_)))))))))
 refine dA rfl (aD (aC (ay (bP rfl rfl ?_))))
 all_goals exact b9 rfl rfl
end Go.Proofs.YtelbollidfdcjaaGreat
namespace Go.Proofs.YtelbollidfdcjaaGreat
open Go Go.T
set_option maxHeartbeats 4000000
def Ht (a b : ak) : Bool := ((decide (a.days = b.days) && decide (a.bins = b.bins)) && decide (a.moves = b.moves)) && decide (a.levels = b.levels)
theorem DC (y : ak) : Ht y y = true := by unfold Ht; simp
def oP (y : ak) : Bool := (decide ((y.bins.length : Int) > 8) || decide ((y.moves.length : Int) > 14)) || decide ((y.levels.length : Int) > 12)
theorem uC {y : ak} (h : oP y = false) : y.Small := by
 unfold oP at h
 simp only [Bool.or_eq_false_iff, decide_eq_false_iff_not] at h
 exact ⟨by omega, by omega, by omega⟩
theorem iR {A : As} {α : Type} {E : El α} {T tg : Nat} {xs ys : List α} (h : xs = ys) : uO A tg (Ty.row E T tg xs) (Ty.sl E ys) := by subst h; exact Gs
theorem jG {k : Nat} (hk : k ≤ 2) : (two k).Small := ⟨by show 2 ≤ 1000; omega, by show 3 ≤ 1000; omega, by show (List.take k _).length ≤ 1000; rw [List.length_take]; show min k 2 ≤ 1000; omega⟩
attribute [local irreducible] iH iW sJ cX mT kJ jr iM tW nG mR ku mK kj r6 bL
attribute [local irreducible] gA eU lH nR gy gl g5 gr g9 nU gx nZ dN fS nJ ff nQ nth fI dQ au dK bodyPost Exit.then Exit.inBlock Code.wp Code.wpIn nY gm oC n9 g7 eM cJ cH bodyPostM dP
set_option maxRecDepth 100000 in
theorem kA (a b : Int) : dK Tryz.prog 56 [Ty.int .i64 a, Ty.int .i64 b] (Ty.agg (bl.tys ⟨a, b⟩)) := by
 refine ah Tryz.func56 rfl (by decide) Tryz.ntmps56 (by exact Nat.le_of_ble_eq_true rfl) fun w0 M0 => ?_
 refine aE (aA ?_)
 refine bp rfl (by exact List.cons_ne_nil _ _) rfl ?_
 refine aD (aC (aE (aA (bG rfl (bG rfl ?_)))))
 refine dG rfl rfl (by exact List.cons_ne_nil _ _) rfl (by repeat (first | exact (aV.nil : aV _ _ [] _) | (show aV _ _ ((_, _) :: _) _; apply aV.one; (· exact (rfl : _ = Ty.int _ _)); (· exact rfl)))) (by exact (rfl : _ = some [_, _])) ?_
 refine bZ rfl rfl (by decide) rfl rfl rfl rfl rfl rfl ?_
 refine aD (aC (ay ?_))
 refine lG rfl rfl rfl rfl (by decide) rfl rfl rfl ?_
 all_goals exact az rfl rfl rfl
set_option maxRecDepth 100000 in
theorem td (k : Nat) (hk : k ≤ 2) : dK Tryz.prog 93 [Ty.int .i64 ((k : Nat) : Int)] (dn (two k)) := by
 refine ah Tryz.func93 rfl (by decide) Tryz.ntmps93 (by exact Nat.le_of_ble_eq_true rfl) fun w0 M0 => ?_
 refine aE (aA ?_)
 refine bp rfl (by exact List.cons_ne_nil _ _) rfl ?_
 refine aD (aC (aE (aA (af (kA _ _) rfl rfl rfl rfl rfl ?_))))
 refine dG rfl rfl (by exact List.cons_ne_nil _ _) rfl (by repeat (first | exact (aV.nil : aV _ _ [] _) | (show aV _ _ ((_, _) :: _) _; apply aV.one; (· exact (rfl : _ = Ty.int _ _)); (· exact rfl)) | (show aV _ _ ((_, _) :: _) _; apply aV.agg; (· exact (rfl : _ = Ty.agg _))))) (by exact (rfl : _ = some [_, _, _, _])) ?_
 refine af (kA _ _) rfl rfl rfl rfl rfl ?_
 refine dG rfl rfl (by exact List.cons_ne_nil _ _) rfl (by repeat (first | exact (aV.nil : aV _ _ [] _) | (show aV _ _ ((_, _) :: _) _; apply aV.one; (· exact (rfl : _ = Ty.int _ _)); (· exact rfl)) | (show aV _ _ ((_, _) :: _) _; apply aV.agg; (· exact (rfl : _ = Ty.agg _))))) (by exact (rfl : _ = some [_, _, _, _])) ?_
 refine bW (E := dV) (xs := [⟨2, 1, ⟨20, 25⟩⟩, ⟨2, 0, ⟨10, 24⟩⟩]) rfl rfl rfl rfl rfl (by decide) (by decide) (by repeat (first | exact (aV.nil : aV _ _ [] _) | (show aV _ _ ((_, _) :: _) _; apply aV.agg; (· exact (rfl : _ = Ty.agg _))))) (by exact rfl) rfl ?_
 refine Ez rfl (aD (aC (aE (cP mixed rfl (af (kA _ _) rfl rfl rfl rfl rfl ?_)))))
 refine dG rfl rfl (by exact List.cons_ne_nil _ _) rfl (by repeat (first | exact (aV.nil : aV _ _ [] _) | (show aV _ _ ((_, _) :: _) _; apply aV.one; (· exact (rfl : _ = Ty.int _ _)); (· exact rfl)) | (show aV _ _ ((_, _) :: _) _; apply aV.agg; (· exact (rfl : _ = Ty.agg _))))) (by exact (rfl : _ = some [_, _, _])) ?_
 refine dG rfl rfl (by exact List.cons_ne_nil _ _) rfl (by repeat (first | exact (aV.nil : aV _ _ [] _) | (show aV _ _ ((_, _) :: _) _; apply aV.one; (· exact (rfl : _ = Ty.int _ _)); (· exact rfl)))) (by exact (rfl : _ = some [_, _, _])) ?_
 refine bW (E := fC) (xs := [⟨100, ⟨20, 30⟩⟩, ⟨50, ⟨0, 0⟩⟩]) rfl rfl rfl rfl rfl (by decide) (by decide) (by repeat (first | exact (aV.nil : aV _ _ [] _) | (show aV _ _ ((_, _) :: _) _; apply aV.agg; (· exact (rfl : _ = Ty.agg _))))) (by exact rfl) rfl ?_
 refine af (kA _ _) rfl rfl rfl rfl rfl ?_
 refine dG rfl rfl (by exact List.cons_ne_nil _ _) rfl (by repeat (first | exact (aV.nil : aV _ _ [] _) | (show aV _ _ ((_, _) :: _) _; apply aV.one; (· exact (rfl : _ = Ty.int _ _)); (· exact rfl)) | (show aV _ _ ((_, _) :: _) _; apply aV.agg; (· exact (rfl : _ = Ty.agg _))))) (by exact rfl) ?_
 refine af (kA _ _) rfl rfl rfl rfl rfl ?_
 refine dG rfl rfl (by exact List.cons_ne_nil _ _) rfl (by repeat (first | exact (aV.nil : aV _ _ [] _) | (show aV _ _ ((_, _) :: _) _; apply aV.one; (· exact (rfl : _ = Ty.int _ _)); (· exact rfl)) | (show aV _ _ ((_, _) :: _) _; apply aV.agg; (· exact (rfl : _ = Ty.agg _))))) (by exact rfl) ?_
 refine af (kA _ _) rfl rfl rfl rfl rfl ?_
 refine dG rfl rfl (by exact List.cons_ne_nil _ _) rfl (by repeat (first | exact (aV.nil : aV _ _ [] _) | (show aV _ _ ((_, _) :: _) _; apply aV.one; (· exact (rfl : _ = Ty.int _ _)); (· exact rfl)) | (show aV _ _ ((_, _) :: _) _; apply aV.agg; (· exact (rfl : _ = Ty.agg _))))) (by exact rfl) ?_
 refine bW (E := eD) (xs := [⟨0, -1, 0, ⟨40, 60⟩⟩, ⟨1, 0, 1, ⟨10, 40⟩⟩, ⟨1, 1, -1, ⟨5, 10⟩⟩]) rfl rfl rfl rfl rfl (by decide) (by decide) (by repeat (first | exact (aV.nil : aV _ _ [] _) | (show aV _ _ ((_, _) :: _) _; apply aV.agg; (· exact (rfl : _ = Ty.agg _))))) (by exact rfl) rfl ?_
 refine fN rfl (bG rfl (fN rfl (cK rfl rfl rfl (JN rfl rfl (CV rfl rfl ?_)))))
 refine J9 (hi := k) rfl (show _ = Ty.int .i64 ((k : Nat) : Int) from congrArg (Ty.int .i64) (by show max 0 (min (k : Int) 2) = (k : Int); omega)) rfl rfl rfl rfl (by show k ≤ 2; exact hk) ?_
 refine dG rfl rfl (by exact List.cons_ne_nil _ _) rfl (by repeat (first | exact (aV.nil : aV _ _ [] _) | (show aV _ _ ((_, _) :: _) _; apply aV.one; (· first | exact (rfl : _ = Ty.int _ _) | exact (rfl : _ = Ty.sl _ _)); (· exact rfl)))) (by exact (rfl : _ = some [_, _, _, _])) ?_
 refine bZ rfl rfl (by decide) rfl rfl rfl rfl rfl rfl ?_
 refine aD ?_
 refine ⟨by kernel_rfl, ?_⟩
 refine aC (ay ?_)
 refine lG rfl rfl rfl rfl (by decide) rfl rfl rfl ?_
 all_goals exact az rfl rfl rfl
set_option maxRecDepth 100000 in
theorem O4 (y : ak) (hs : y.Small) : dK Tryz.prog 29 [dn y] (dn y) := by
 refine ah Tryz.func29 rfl (by decide) Tryz.ntmps29 (by exact Nat.le_of_ble_eq_true rfl) fun w0 M0 => ?_
 have hs1 := hs.bins
 have hs2 := hs.moves
 have hs3 := hs.levels
 refine aE (aA (bD rfl ?_))
 refine bp rfl (by exact List.cons_ne_nil _ _) rfl ?_
 refine aD (aC (aE (cP mixed rfl ?_)))
 refine aH rfl rfl rfl rfl rfl (by decide) ?_
 refine aI rfl rfl rfl rfl ?_
 refine aH rfl rfl rfl rfl rfl (by decide) ?_
 refine aI rfl rfl rfl rfl (af (Gc y.bins hs1) rfl rfl rfl rfl rfl ?_)
 refine aH rfl rfl rfl rfl rfl (by decide) ?_
 refine aI rfl rfl rfl rfl (af (F6 y.moves hs2) rfl rfl rfl rfl rfl ?_)
 refine aH rfl rfl rfl rfl rfl (by decide) ?_
 refine aI rfl rfl rfl rfl (af (GW y.levels hs3) rfl rfl rfl rfl rfl ?_)
 refine dG rfl rfl (by exact List.cons_ne_nil _ _) rfl (by repeat (first | exact (aV.nil : aV _ _ [] _) | (show aV _ _ ((_, _) :: _) _; apply aV.one; (· first | exact (rfl : _ = Ty.int _ _) | exact (rfl : _ = Ty.sl _ _)); (· exact rfl)))) (by exact (rfl : _ = some [_, _, _, _])) ?_
 refine bZ rfl rfl (by decide) rfl rfl rfl rfl rfl rfl ?_
 refine aD ?_
 refine ⟨by kernel_rfl, ?_⟩
 refine aC (ay ?_)
 refine lG rfl rfl rfl rfl (by decide) rfl rfl rfl ?_
 all_goals exact az rfl rfl rfl
set_option maxRecDepth 100000 in
theorem NF (a b : ak) : dK Tryz.prog 35 [dn a, dn b] (Ty.bool (Ht a b)) := by
 refine ah Tryz.func35 rfl (by decide) Tryz.ntmps35 (by exact Nat.le_of_ble_eq_true rfl) fun w0 M0 => ?_
 refine aE (aA (bD rfl (bD rfl (dA rfl (aD (aC (aE (aA ?_))))))))
 refine aH rfl rfl rfl rfl rfl (by decide) ?_
 refine aI rfl rfl rfl rfl ?_
 refine aH rfl rfl rfl rfl rfl (by decide) ?_
 refine aI rfl rfl rfl rfl (bB rfl rfl rfl (fB rfl ?_))
 apply aN (s := 10) rfl rfl rfl
 ·intro hg; apply aO; (refine aH rfl rfl rfl rfl rfl (by decide) ?_); refine aD ?_; exact rfl
 ·exact rfl
 ·exact rfl
 apply aN (s := 10) rfl rfl rfl
 ·intro hg; apply aL (s := 11) rfl (by (rw [hg]; rfl)); apply aO; (refine aI rfl rfl rfl rfl ?_); refine aD ?_; exact rfl
 ·exact rfl
 ·exact rfl
 apply aN (s := 10) rfl rfl rfl
 ·intro hg; apply aO; (refine aH rfl rfl rfl rfl rfl (by decide) ?_); refine aD ?_; exact rfl
 ·exact rfl
 ·exact rfl
 apply aN (s := 10) rfl rfl rfl
 ·intro hg; apply aL (s := 13) rfl (by (rw [hg]; rfl)); apply aO; (refine aI rfl rfl rfl rfl ?_); refine aD ?_; exact rfl
 ·exact rfl
 ·exact rfl
 apply aN (s := 10) rfl rfl rfl
 ·intro hg; apply aL (s := 12) rfl (by (rw [hg]; rfl)); apply aL (s := 14) rfl (by (rw [hg]; rfl)); apply aO; (refine af (Jy _ _) rfl rfl rfl rfl rfl ?_); refine aD ?_; exact rfl
 ·exact rfl
 ·exact rfl
 refine dy rfl rfl (fB rfl ?_)
 apply aN (s := 17) rfl rfl rfl
 ·intro hg; apply aO; (refine aH rfl rfl rfl rfl rfl (by decide) ?_); refine aD ?_; exact rfl
 ·exact rfl
 ·exact rfl
 apply aN (s := 17) rfl rfl rfl
 ·intro hg; apply aL (s := 18) rfl (by (rw [hg]; rfl)); apply aO; (refine aI rfl rfl rfl rfl ?_); refine aD ?_; exact rfl
 ·exact rfl
 ·exact rfl
 apply aN (s := 17) rfl rfl rfl
 ·intro hg; apply aO; (refine aH rfl rfl rfl rfl rfl (by decide) ?_); refine aD ?_; exact rfl
 ·exact rfl
 ·exact rfl
 apply aN (s := 17) rfl rfl rfl
 ·intro hg; apply aL (s := 20) rfl (by (rw [hg]; rfl)); apply aO; (refine aI rfl rfl rfl rfl ?_); refine aD ?_; exact rfl
 ·exact rfl
 ·exact rfl
 apply aN (s := 17) rfl rfl rfl
 ·intro hg; apply aL (s := 19) rfl (by (rw [hg]; rfl)); apply aL (s := 21) rfl (by (rw [hg]; rfl)); apply aO; (refine af (Jk _ _) rfl rfl rfl rfl rfl ?_); refine aD ?_; exact rfl
 ·exact rfl
 ·exact rfl
 refine dy rfl rfl (fB rfl ?_)
 apply aN (s := 24) rfl rfl rfl
 ·intro hg; apply aO; (refine aH rfl rfl rfl rfl rfl (by decide) ?_); refine aD ?_; exact rfl
 ·exact rfl
 ·exact rfl
 apply aN (s := 24) rfl rfl rfl
 ·intro hg; apply aL (s := 25) rfl (by (rw [hg]; rfl)); apply aO; (refine aI rfl rfl rfl rfl ?_); refine aD ?_; exact rfl
 ·exact rfl
 ·exact rfl
 apply aN (s := 24) rfl rfl rfl
 ·intro hg; apply aO; (refine aH rfl rfl rfl rfl rfl (by decide) ?_); refine aD ?_; exact rfl
 ·exact rfl
 ·exact rfl
 apply aN (s := 24) rfl rfl rfl
 ·intro hg; apply aL (s := 27) rfl (by (rw [hg]; rfl)); apply aO; (refine aI rfl rfl rfl rfl ?_); refine aD ?_; exact rfl
 ·exact rfl
 ·exact rfl
 apply aN (s := 24) rfl rfl rfl
 ·intro hg; apply aL (s := 26) rfl (by (rw [hg]; rfl)); apply aL (s := 28) rfl (by (rw [hg]; rfl)); apply aO; (refine af (Jo _ _) rfl rfl rfl rfl rfl ?_); refine aD ?_; exact rfl
 ·exact rfl
 ·exact rfl
 refine dy rfl rfl (dA rfl (aD (aC (ay (bP rfl rfl ?_)))))
 all_goals exact b9 rfl rfl
 all_goals trace_state
set_option maxRecDepth 100000 in
theorem Jf (y : ak) (hs : y.Small) : dK Tryz.prog 30 [dn y] (dn y) := by
 refine ah Tryz.func30 rfl (by decide) Tryz.ntmps30 (by exact Nat.le_of_ble_eq_true rfl) fun w0 M0 => ?_
 have hs1 := hs.bins
 have hs2 := hs.moves
 have hs3 := hs.levels
 refine aE (aA (bD rfl ?_))
 refine bp rfl (by exact List.cons_ne_nil _ _) rfl ?_
 refine aD (aC (aE (aA ?_)))
 refine aH rfl rfl rfl rfl rfl (by decide) ?_
 refine aI rfl rfl rfl rfl ?_
 refine dG rfl rfl (by exact List.cons_ne_nil _ _) rfl (by repeat (first | exact (aV.nil : aV _ _ [] _) | (show aV _ _ ((_, _) :: _) _; apply aV.one; (· exact (rfl : _ = Ty.int _ _)); (· exact rfl)))) (by exact (rfl : _ = some [_, _, _, _])) ?_
 refine bp rfl (by exact List.cons_ne_nil _ _) rfl ?_
 refine bZ rfl rfl (by decide) rfl rfl rfl rfl rfl rfl ?_
 refine aD (aC (aE (aE (aA ?_))))
 refine aH rfl rfl rfl rfl rfl (by decide) ?_
 refine aI rfl rfl rfl rfl (cK rfl rfl rfl (bG rfl (aD (aC (aZ ?_)))))
 refine cF (fun (k : {k : Nat // k ≤ y.bins.length}) => live [(1, Ty.pp (bH y)), (2, Ty.ptr 3 0), (3, Ty.ptr 4 0), (14, Ty.sl fC y.bins), (15, Ty.int .i64 y.bins.length), (16, Ty.int .i64 (k.1 : Nat))] [(3, Cont.cells 60 [Ty.int .i64 0, Ty.ex (.slice none 0 0), Ty.ex (.slice none 0 0), Ty.ex (.slice none 0 0)]), (4, Cont.cells 60 [Ty.int .i64 y.days, Ty.row fC 163 24 (y.bins.take k.1), Ty.ex (.slice none 0 0), Ty.ex (.slice none 0 0)])]) (fun k => y.bins.length - k.1) (⟨0, by omega⟩) ?_ fun k => ?_
 ·(refine cx.mk' ?_ ?_ <;> (repeat' (first | exact aJ | exact aK | exact dD | refine aB ?_ (Ty.aU _) | refine aB ?_ (Ty.aF _) | refine aG rfl (Cont.aF _) ?_ | refine aG rfl (Cont.dF ?_) ?_ | refine bM ?_ (Ty.aF _) | refine bM ?_ Ty.gq)))
  all_goals trace_state
 have hk := k.2
 refine aE (aA (bB rfl rfl rfl (aD (aC (aE ?_)))))
 refine aj rfl (fun hc1 => ?_) (fun hc1 => ?_)
 ·
  refine aq (aC (aE (aZ (aE (aA ?_)))))
  refine av rfl rfl rfl rfl rfl rfl (by omega) ?_
  refine aX rfl rfl rfl (by exact Nat.le_of_ble_eq_true rfl) ?_
  refine bp rfl (by exact List.cons_ne_nil _ _) rfl ?_
  refine bZ rfl rfl (by decide) rfl rfl rfl rfl rfl rfl ?_
  refine aD (aC (aA ?_))
  refine aR rfl rfl rfl rfl rfl (by decide) ?_
  refine aY rfl rfl (by decide) rfl rfl rfl ?_
  refine bz rfl rfl (by decide) rfl rfl (by exact Nat.le_of_ble_eq_true rfl) ?_
  refine bW (E := fC) (xs := [nth y.bins k.1]) rfl rfl rfl rfl rfl (by decide) (by decide) (by repeat (first | exact (aV.nil : aV _ _ [] _) | (show aV _ _ ((_, _) :: _) _; apply aV.agg; (· exact (rfl : _ = Ty.agg _))))) (by exact rfl) rfl ?_
  refine dw rfl rfl (by decide) rfl rfl rfl rfl rfl rfl (by decide) (by (simp <;> omega)) (by (simp <;> omega)) ?_
  refine aR rfl rfl rfl rfl rfl (by decide) ?_
  refine cm rfl rfl (by decide) rfl rfl (by exact (rfl : _ = Ty.row _ _ _ _)) rfl (by exact Nat.le_of_ble_eq_true rfl) rfl rfl (by exact rfl) ?_
  refine aD (bI (aC (aA ?_)))
  refine cA rfl rfl (by omega) (by omega) ?_
  refine bG rfl (aD ?_)
  refine bO (⟨k.1 + 1, by omega⟩) ?_ (by show y.bins.length - (k.1 + 1) < y.bins.length - k.1; omega)
  (refine cx.mk' ?_ ?_ <;> (repeat' (first | exact aJ | exact aK | exact dD | refine aB ?_ (Ty.aU _) | refine aB ?_ (Ty.aF _) | refine aG rfl (Cont.aF _) ?_ | refine aG rfl (Cont.dF ?_) ?_ | refine bM ?_ (Ty.aF _) | refine bM ?_ ?_)))
  all_goals exact Ty.fH (cT (by omega)).symm
  all_goals trace_state
 refine cE (aP (aP (aa rfl (aC (aE (aE ?_))))))
 refine jA (tg := 24) [] [(4, Cont.cells 60 [Ty.int .i64 y.days, Ty.sl fC y.bins, Ty.ex (.slice none 0 0), Ty.ex (.slice none 0 0)])] (by decide) rfl trivial ⟨fD rfl rfl ⟨bF rfl, iR (List.take_of_length_le (by have := k.2; omega)), bF rfl, bF rfl, trivial⟩, trivial⟩ ?_
 refine aA ?_
 refine aH rfl rfl rfl rfl rfl (by decide) ?_
 refine aI rfl rfl rfl rfl (cK rfl rfl rfl (bG rfl (aD (aC (aZ ?_)))))
 refine cF (fun (m : {k : Nat // k ≤ y.moves.length}) => live [(1, Ty.pp (bH y)), (2, Ty.ptr 3 0), (3, Ty.ptr 4 0), (28, Ty.sl eD y.moves), (29, Ty.int .i64 y.moves.length), (30, Ty.int .i64 (m.1 : Nat))] [(3, Cont.cells 60 [Ty.int .i64 0, Ty.ex (.slice none 0 0), Ty.ex (.slice none 0 0), Ty.ex (.slice none 0 0)]), (4, Cont.cells 60 [Ty.int .i64 y.days, Ty.sl fC y.bins, Ty.row eD 164 38 (y.moves.take m.1), Ty.ex (.slice none 0 0)])]) (fun m => y.moves.length - m.1) (⟨0, by omega⟩) ?_ fun m => ?_
 ·(refine cx.mk' ?_ ?_ <;> (repeat' (first | exact aJ | exact aK | exact dD | refine aB ?_ (Ty.aU _) | refine aB ?_ (Ty.aF _) | refine aG rfl (Cont.aF _) ?_ | refine aG rfl (Cont.dF ?_) ?_ | refine bM ?_ (Ty.aF _) | refine bM ?_ Ty.gq)))
  all_goals trace_state
 have hm := m.2
 refine aE (aA (bB rfl rfl rfl (aD (aC (aE ?_)))))
 refine aj rfl (fun hc2 => ?_) (fun hc2 => ?_)
 ·
  refine aq (aC (aE (aZ (aE (aA ?_)))))
  refine av rfl rfl rfl rfl rfl rfl (by omega) ?_
  refine aX rfl rfl rfl (by exact Nat.le_of_ble_eq_true rfl) ?_
  refine bp rfl (by exact List.cons_ne_nil _ _) rfl ?_
  refine bZ rfl rfl (by decide) rfl rfl rfl rfl rfl rfl ?_
  refine aD (aC (aA ?_))
  refine aR rfl rfl rfl rfl rfl (by decide) ?_
  refine aY rfl rfl (by decide) rfl rfl rfl ?_
  refine bz rfl rfl (by decide) rfl rfl (by exact Nat.le_of_ble_eq_true rfl) ?_
  refine bW (E := eD) (xs := [nth y.moves m.1]) rfl rfl rfl rfl rfl (by decide) (by decide) (by repeat (first | exact (aV.nil : aV _ _ [] _) | (show aV _ _ ((_, _) :: _) _; apply aV.agg; (· exact (rfl : _ = Ty.agg _))))) (by exact rfl) rfl ?_
  refine dw rfl rfl (by decide) rfl rfl rfl rfl rfl rfl (by decide) (by (simp <;> omega)) (by (simp <;> omega)) ?_
  refine aR rfl rfl rfl rfl rfl (by decide) ?_
  refine cm rfl rfl (by decide) rfl rfl (by exact (rfl : _ = Ty.row _ _ _ _)) rfl (by exact Nat.le_of_ble_eq_true rfl) rfl rfl (by exact rfl) ?_
  refine aD (bI (aC (aA ?_)))
  refine cA rfl rfl (by omega) (by omega) ?_
  refine bG rfl (aD ?_)
  refine bO (⟨m.1 + 1, by omega⟩) ?_ (by show y.moves.length - (m.1 + 1) < y.moves.length - m.1; omega)
  (refine cx.mk' ?_ ?_ <;> (repeat' (first | exact aJ | exact aK | exact dD | refine aB ?_ (Ty.aU _) | refine aB ?_ (Ty.aF _) | refine aG rfl (Cont.aF _) ?_ | refine aG rfl (Cont.dF ?_) ?_ | refine bM ?_ (Ty.aF _) | refine bM ?_ ?_)))
  all_goals exact Ty.fH (cT (by omega)).symm
  all_goals trace_state
 refine cE (aP (aP (aa rfl (aC (aE (aE ?_))))))
 refine jA (tg := 38) [] [(4, Cont.cells 60 [Ty.int .i64 y.days, Ty.sl fC y.bins, Ty.sl eD y.moves, Ty.ex (.slice none 0 0)])] (by decide) rfl trivial ⟨fD rfl rfl ⟨bF rfl, bF rfl, iR (List.take_of_length_le (by have := m.2; omega)), bF rfl, trivial⟩, trivial⟩ ?_
 refine aA ?_
 refine aH rfl rfl rfl rfl rfl (by decide) ?_
 refine aI rfl rfl rfl rfl (cK rfl rfl rfl (bG rfl (aD (aC (aZ ?_)))))
 refine cF (fun (n : {k : Nat // k ≤ y.levels.length}) => live [(1, Ty.pp (bH y)), (2, Ty.ptr 3 0), (3, Ty.ptr 4 0), (42, Ty.sl dV y.levels), (43, Ty.int .i64 y.levels.length), (44, Ty.int .i64 (n.1 : Nat))] [(3, Cont.cells 60 [Ty.int .i64 0, Ty.ex (.slice none 0 0), Ty.ex (.slice none 0 0), Ty.ex (.slice none 0 0)]), (4, Cont.cells 60 [Ty.int .i64 y.days, Ty.sl fC y.bins, Ty.sl eD y.moves, Ty.row dV 165 52 (y.levels.take n.1)])]) (fun n => y.levels.length - n.1) (⟨0, by omega⟩) ?_ fun n => ?_
 ·(refine cx.mk' ?_ ?_ <;> (repeat' (first | exact aJ | exact aK | exact dD | refine aB ?_ (Ty.aU _) | refine aB ?_ (Ty.aF _) | refine aG rfl (Cont.aF _) ?_ | refine aG rfl (Cont.dF ?_) ?_ | refine bM ?_ (Ty.aF _) | refine bM ?_ Ty.gq)))
  all_goals trace_state
 have hn := n.2
 refine aE (aA (bB rfl rfl rfl (aD (aC (aE ?_)))))
 refine aj rfl (fun hc3 => ?_) (fun hc3 => ?_)
 ·
  refine aq (aC (aE (aZ (aE (aA ?_)))))
  refine av rfl rfl rfl rfl rfl rfl (by omega) ?_
  refine aX rfl rfl rfl (by exact Nat.le_of_ble_eq_true rfl) ?_
  refine bp rfl (by exact List.cons_ne_nil _ _) rfl ?_
  refine bZ rfl rfl (by decide) rfl rfl rfl rfl rfl rfl ?_
  refine aD (aC (aA ?_))
  refine aR rfl rfl rfl rfl rfl (by decide) ?_
  refine aY rfl rfl (by decide) rfl rfl rfl ?_
  refine bz rfl rfl (by decide) rfl rfl (by exact Nat.le_of_ble_eq_true rfl) ?_
  refine bW (E := dV) (xs := [nth y.levels n.1]) rfl rfl rfl rfl rfl (by decide) (by decide) (by repeat (first | exact (aV.nil : aV _ _ [] _) | (show aV _ _ ((_, _) :: _) _; apply aV.agg; (· exact (rfl : _ = Ty.agg _))))) (by exact rfl) rfl ?_
  refine dw rfl rfl (by decide) rfl rfl rfl rfl rfl rfl (by decide) (by (simp <;> omega)) (by (simp <;> omega)) ?_
  refine aR rfl rfl rfl rfl rfl (by decide) ?_
  refine cm rfl rfl (by decide) rfl rfl (by exact (rfl : _ = Ty.row _ _ _ _)) rfl (by exact Nat.le_of_ble_eq_true rfl) rfl rfl (by exact rfl) ?_
  refine aD (bI (aC (aA ?_)))
  refine cA rfl rfl (by omega) (by omega) ?_
  refine bG rfl (aD ?_)
  refine bO (⟨n.1 + 1, by omega⟩) ?_ (by show y.levels.length - (n.1 + 1) < y.levels.length - n.1; omega)
  (refine cx.mk' ?_ ?_ <;> (repeat' (first | exact aJ | exact aK | exact dD | refine aB ?_ (Ty.aU _) | refine aB ?_ (Ty.aF _) | refine aG rfl (Cont.aF _) ?_ | refine aG rfl (Cont.dF ?_) ?_ | refine bM ?_ (Ty.aF _) | refine bM ?_ ?_)))
  all_goals exact Ty.fH (cT (by omega)).symm
  all_goals trace_state
 refine cE (aP (aP (aa rfl (aC (aE ?_)))))
 refine jA (tg := 52) [] [(4, Cont.cells 60 [Ty.int .i64 y.days, Ty.sl fC y.bins, Ty.sl eD y.moves, Ty.sl dV y.levels])] (by decide) rfl trivial ⟨fD rfl rfl ⟨bF rfl, bF rfl, bF rfl, iR (List.take_of_length_le (by have := n.2; omega)), trivial⟩, trivial⟩ ?_
 refine aA ?_
 refine bz rfl rfl (by decide) rfl rfl (by exact Nat.le_of_ble_eq_true rfl) ?_
 refine bZ rfl rfl (by decide) rfl rfl rfl rfl rfl rfl ?_
 refine aD (aC (ay ?_))
 refine lG rfl rfl rfl rfl (by decide) rfl rfl rfl ?_
 all_goals exact az rfl rfl rfl
set_option maxRecDepth 100000 in
theorem LF (y : ak) : dK Tryz.prog 69 [dn y] (Ty.bool (oP y)) := by
 refine ah Tryz.func69 rfl (by decide) Tryz.ntmps69 (by exact Nat.le_of_ble_eq_true rfl) fun w0 M0 => ?_
 refine aE (aA (bD rfl (dA rfl (aD (aC (aE (aA ?_)))))))
 refine aH rfl rfl rfl rfl rfl (by decide) ?_
 refine aI rfl rfl rfl rfl (cK rfl rfl rfl (bB rfl rfl rfl (fB rfl ?_)))
 apply aN (s := 7) rfl rfl rfl
 ·intro hg; apply aO; (refine aH rfl rfl rfl rfl rfl (by decide) ?_); refine aD ?_; exact rfl
 ·exact rfl
 ·exact rfl
 apply aN (s := 7) rfl rfl rfl
 ·intro hg; apply aL (s := 8) rfl (by (rw [hg]; rfl)); apply aO; (refine aI rfl rfl rfl rfl ?_); refine aD ?_; exact rfl
 ·exact rfl
 ·exact rfl
 apply aN (s := 7) rfl rfl rfl
 ·intro hg; apply aL (s := 9) rfl (by (rw [hg]; rfl)); apply aO; (refine cK rfl rfl rfl ?_); refine aD ?_; exact rfl
 ·exact rfl
 ·exact rfl
 apply aN (s := 7) rfl rfl rfl
 ·intro hg; apply aL (s := 10) rfl (by (rw [hg]; rfl)); apply aO; (refine bB rfl rfl rfl ?_); refine aD ?_; exact rfl
 ·exact rfl
 ·exact rfl
 refine ig rfl rfl (fB rfl ?_)
 apply aN (s := 13) rfl rfl rfl
 ·intro hg; apply aO; (refine aH rfl rfl rfl rfl rfl (by decide) ?_); refine aD ?_; exact rfl
 ·exact rfl
 ·exact rfl
 apply aN (s := 13) rfl rfl rfl
 ·intro hg; apply aL (s := 14) rfl (by (rw [hg]; rfl)); apply aO; (refine aI rfl rfl rfl rfl ?_); refine aD ?_; exact rfl
 ·exact rfl
 ·exact rfl
 apply aN (s := 13) rfl rfl rfl
 ·intro hg; apply aL (s := 15) rfl (by (rw [hg]; rfl)); apply aO; (refine cK rfl rfl rfl ?_); refine aD ?_; exact rfl
 ·exact rfl
 ·exact rfl
 apply aN (s := 13) rfl rfl rfl
 ·intro hg; apply aL (s := 16) rfl (by (rw [hg]; rfl)); apply aO; (refine bB rfl rfl rfl ?_); refine aD ?_; exact rfl
 ·exact rfl
 ·exact rfl
 refine ig rfl rfl (dA rfl (aD (aC (ay (bP rfl rfl ?_)))))
 all_goals exact b9 rfl rfl
 all_goals trace_state
set_option maxRecDepth 100000 in
theorem Ev : dK Tryz.prog 27 [] (Ty.bool true) := by
 refine ah Tryz.func27 rfl (by decide) Tryz.ntmps27 (by exact Nat.le_of_ble_eq_true rfl) fun w0 M0 => ?_
 refine aE (aA (dA rfl (aD (aC (aE (aA ?_))))))
 refine af (td 0 (by decide)) rfl rfl rfl rfl rfl ?_
 refine af (Bl (two 0) (jG (by decide)) 0) rfl rfl rfl rfl rfl ?_
 refine uH rfl (bQ rfl rfl (bQ rfl rfl (Ez rfl (bk rfl (aD (aC (aE (aA ?_))))))))
 refine af (td 0 (by decide)) rfl rfl rfl rfl rfl ?_
 refine af (ML (two 0) (jG (by decide))) rfl rfl rfl rfl rfl ?_
 refine uH rfl (bQ rfl rfl (bQ rfl rfl (Ez rfl (bk rfl (aD (aC (aE (aA ?_))))))))
 refine af (td 1 (by decide)) rfl rfl rfl rfl rfl ?_
 refine af (Ln (two 1) (jG (by decide)) 1) rfl rfl rfl rfl rfl ?_
 refine uH rfl (bQ rfl rfl (bQ rfl rfl ?_))
 refine bp rfl (by exact List.cons_ne_nil _ _) rfl ?_
 refine bZ rfl rfl (by decide) rfl rfl rfl rfl rfl rfl ?_
 refine bk rfl (aD (aC (aE (aA ?_))))
 refine af (td 1 (by decide)) rfl rfl rfl rfl rfl ?_
 refine af (Bs (two 1) (jG (by decide)) 0 60) rfl rfl rfl rfl rfl ?_
 refine uH rfl (bQ rfl rfl (bQ rfl rfl (bk rfl (bk rfl (aD (aC (aE (aA ?_))))))))
 refine dG rfl rfl (by exact List.cons_ne_nil _ _) rfl (by repeat (exact (aV.nil : aV _ _ [] _))) (by exact (rfl : _ = some [_, _])) ?_
 refine dG rfl rfl (by exact List.cons_ne_nil _ _) rfl (by repeat (first | exact (aV.nil : aV _ _ [] _) | (show aV _ _ ((_, _) :: _) _; apply aV.one; (· exact (rfl : _ = Ty.int _ _)); (· exact rfl)))) (by exact (rfl : _ = some [_, _])) ?_
 refine dG rfl rfl (by exact List.cons_ne_nil _ _) rfl (by repeat (first | exact (aV.nil : aV _ _ [] _) | (show aV _ _ ((_, _) :: _) _; apply aV.one; (· exact (rfl : _ = Ty.int _ _)); (· exact rfl)))) (by exact (rfl : _ = some [_, _])) ?_
 refine bW (E := qh) (xs := xD.cells) rfl rfl rfl rfl rfl (by decide) (by decide) (by repeat (first | exact (aV.nil : aV _ _ [] _) | (show aV _ _ ((_, _) :: _) _; apply aV.agg; (· exact (rfl : _ = Ty.agg _))))) (by exact rfl) rfl ?_
 refine dG rfl rfl (by exact List.cons_ne_nil _ _) rfl (by repeat (first | exact (aV.nil : aV _ _ [] _) | (show aV _ _ ((_, _) :: _) _; apply aV.one; (· exact (rfl : _ = Ty.sl _ _)); (· exact rfl)))) (by exact (rfl : _ = some [_, _])) ?_
 refine bp rfl (by exact List.cons_ne_nil _ _) rfl ?_
 refine bZ rfl rfl (by decide) rfl rfl rfl rfl rfl rfl ?_
 refine aD (aC (aE (cP mixed rfl ?_)))
 refine af (td 2 (by decide)) rfl rfl rfl rfl rfl ?_
 refine bz rfl rfl (by decide) rfl rfl (by exact Nat.le_of_ble_eq_true rfl) ?_
 refine af (JL (two 2) (jG (by decide)) xD (by decide)) rfl rfl rfl rfl rfl ?_
 refine uH rfl (bQ rfl rfl (bQ rfl rfl (bk rfl (bk rfl (aD ?_)))))
 refine ⟨by kernel_rfl, ?_⟩
 refine aC (aE (aA ?_))
 refine af (td 2 (by decide)) rfl rfl rfl rfl rfl ?_
 refine af (MQ (two 2) (jG (by decide))) rfl rfl rfl rfl rfl ?_
 refine uH rfl (bQ rfl rfl (bQ rfl rfl (Ez rfl (bk rfl (aD (aC (aE (aA ?_))))))))
 refine af (td 2 (by decide)) rfl rfl rfl rfl rfl ?_
 refine af (K1 (two 2) (jG (by decide))) rfl rfl rfl rfl rfl ?_
 refine uH rfl (bQ rfl rfl (bQ rfl rfl (Ez rfl (bk rfl (aD (aC (aE (aA ?_))))))))
 refine af (td 2 (by decide)) rfl rfl rfl rfl rfl ?_
 refine af (Nf (two 2) (jG (by decide))) rfl rfl rfl rfl rfl ?_
 refine uH rfl (bQ rfl rfl (bQ rfl rfl ?_))
 refine bp rfl (by exact List.cons_ne_nil _ _) rfl ?_
 refine bZ rfl rfl (by decide) rfl rfl rfl rfl rfl rfl ?_
 refine bk rfl (aD (aC (aE ?_)))
 refine iV (s := 1) rfl (Ty.sub_eq (congrArg (Ty.sl bl) Lg)) ?_
 refine iV (s := 2) rfl (Ty.bE Oz) ?_
 refine iV (s := 3) rfl (Ty.sub_eq (congrArg (Ty.sl bl) Ni)) ?_
 refine iV (s := 4) rfl (Ty.bE (kQ (k := 0) (by decide))) ?_
 refine jW (tg := 6) rfl (Cont.m9 (congrArg bl.tys N0)) ?_
 refine iV (s := 6) rfl (Ty.bE Oj) ?_
 refine iV (s := 7) rfl (Ty.bE Nk) ?_
 refine iV (s := 8) rfl (Ty.bE My.1.symm) ?_
 refine iV (s := 10) rfl (Ty.bE Nr) ?_
 refine iV (s := 11) rfl (Ty.bE OS.1.symm) ?_
 refine iV (s := 12) rfl (Ty.sub_eq (congrArg (Ty.sl cy) Ka)) ?_
 refine iV (s := 13) rfl (Ty.bE Mj.1.symm) ?_
 refine iV (s := 14) rfl (Ty.sub_eq (congrArg (Ty.sl cy) IX)) ?_
 refine iV (s := 15) rfl (Ty.bE Mh.1.symm) ?_
 refine iV (s := 17) rfl (Ty.bE K9) ?_
 refine iy (B := live [(1, Ty.sl bl [⟨20, 30⟩, ⟨60, 90⟩, ⟨20, 80⟩]), (2, Ty.int .i64 0), (3, Ty.sl bl [⟨20, 30⟩, ⟨60, 90⟩, ⟨50, 85⟩]), (4, Ty.int .i64 0), (5, Ty.ptr 6 0), (6, Ty.int .i64 0), (7, Ty.int .i64 1), (8, Ty.int .i64 0), (10, Ty.int .i64 1), (11, Ty.int .i64 0), (12, Ty.sl cy [0, 1]), (13, Ty.int .i64 0), (14, Ty.sl cy [0]), (15, Ty.int .i64 0), (17, Ty.int .i64 7)] [(6, Cont.cells 37 (bl.tys ⟨25, 35⟩))]) ?_ ?_
 ·(refine cx.mk' ?_ ?_ <;> (repeat' (first | exact aJ | exact aK | refine aB ?_ (Ty.aU _) | refine aB ?_ (Ty.aF _) | refine aG rfl (Cont.aF _) ?_)))
 refine cP mixed rfl (bG rfl (bB rfl rfl rfl (fB rfl ?_)))
 apply aN (s := 66) rfl rfl rfl
 ·intro hg; apply aO; (refine bG rfl ?_); refine aD ?_; exact rfl
 ·exact rfl
 ·exact rfl
 apply aN (s := 66) rfl rfl rfl
 ·intro hg; apply aL (s := 67) rfl (by exact hg); apply aO; (refine bB rfl rfl rfl ?_); refine aD ?_; exact rfl
 ·exact rfl
 ·exact rfl
 refine dy rfl rfl (fB rfl ?_)
 apply aN (s := 70) rfl rfl rfl
 ·intro hg; apply aO; (refine bG rfl ?_); refine aD ?_; exact rfl
 ·exact rfl
 ·exact rfl
 apply aN (s := 70) rfl rfl rfl
 ·intro hg; apply aL (s := 71) rfl (by exact hg); apply aO; (refine bB rfl rfl rfl ?_); refine aD ?_; exact rfl
 ·exact rfl
 ·exact rfl
 refine dy rfl rfl (fB rfl ?_)
 apply aN (s := 74) rfl rfl rfl
 ·intro hg; apply aO; (refine bG rfl ?_); refine aD ?_; exact rfl
 ·exact rfl
 ·exact rfl
 apply aN (s := 74) rfl rfl rfl
 ·intro hg; apply aL (s := 75) rfl (by exact hg); apply aO; (refine bB rfl rfl rfl ?_); refine aD ?_; exact rfl
 ·exact rfl
 ·exact rfl
 refine dy rfl rfl (fB rfl ?_)
 apply aN (s := 78) rfl rfl rfl
 ·intro hg; apply aO; (refine bG rfl ?_); refine aD ?_; exact rfl
 ·exact rfl
 ·exact rfl
 apply aN (s := 78) rfl rfl rfl
 ·intro hg; apply aL (s := 79) rfl (by exact hg); apply aO; (refine bB rfl rfl rfl ?_); refine aD ?_; exact rfl
 ·exact rfl
 ·exact rfl
 refine dy rfl rfl (fB rfl ?_)
 apply aN (s := 82) rfl rfl rfl
 ·intro hg; apply aO; (refine bG rfl ?_); refine aD ?_; exact rfl
 ·exact rfl
 ·exact rfl
 apply aN (s := 82) rfl rfl rfl
 ·intro hg; apply aL (s := 83) rfl (by exact hg); apply aO; (refine bB rfl rfl rfl ?_); refine aD ?_; exact rfl
 ·exact rfl
 ·exact rfl
 refine dy rfl rfl (fB rfl ?_)
 apply aN (s := 86) rfl rfl rfl
 ·intro hg; apply aO; (refine bG rfl ?_); refine aD ?_; exact rfl
 ·exact rfl
 ·exact rfl
 apply aN (s := 86) rfl rfl rfl
 ·intro hg; apply aL (s := 87) rfl (by exact hg); apply aO; (refine bB rfl rfl rfl ?_); refine aD ?_; exact rfl
 ·exact rfl
 ·exact rfl
 refine dy rfl rfl (fB rfl ?_)
 apply aN (s := 90) rfl rfl rfl
 ·intro hg; apply aO; (refine bG rfl ?_); refine aD ?_; exact rfl
 ·exact rfl
 ·exact rfl
 apply aN (s := 90) rfl rfl rfl
 ·intro hg; apply aL (s := 91) rfl (by exact hg); apply aO; (refine bB rfl rfl rfl ?_); refine aD ?_; exact rfl
 ·exact rfl
 ·exact rfl
 refine dy rfl rfl (fB rfl ?_)
 apply aN (s := 94) rfl rfl rfl
 ·intro hg; apply aO; (refine fN rfl ?_); refine aD ?_; exact rfl
 ·exact rfl
 ·exact rfl
 apply aN (s := 94) rfl rfl rfl
 ·intro hg; apply aO; (refine af (kA _ _) rfl rfl rfl rfl rfl ?_); refine aD ?_; exact rfl
 ·exact rfl
 ·exact rfl
 apply aN (s := 94) rfl rfl rfl
 ·intro hg; apply aO; (refine af (kA _ _) rfl rfl rfl rfl rfl ?_); refine aD ?_; exact rfl
 ·exact rfl
 ·exact rfl
 apply aN (s := 94) rfl rfl rfl
 ·intro hg; apply aO; (refine af (kA _ _) rfl rfl rfl rfl rfl ?_); refine aD ?_; exact rfl
 ·exact rfl
 ·exact rfl
 apply aN (s := 94) rfl rfl rfl
 ·intro hg; apply aL (s := 96) rfl (by exact hg); apply aL (s := 97) rfl (by exact hg); apply aL (s := 98) rfl (by exact hg); apply aO; (refine bW (E := bl) (xs := [⟨20, 30⟩, ⟨60, 90⟩, ⟨20, 80⟩]) rfl rfl rfl rfl rfl (by decide) (by decide) (by repeat (first | exact (aV.nil : aV _ _ [] _) | (show aV _ _ ((_, _) :: _) _; apply aV.agg; (· exact (rfl : _ = Ty.agg _))))) (by exact rfl) rfl ?_); refine aD ?_; exact rfl
 ·exact rfl
 ·exact rfl
 apply aN (s := 94) rfl rfl rfl
 ·intro hg; apply aL (s := 95) rfl (by exact hg); apply aL (s := 99) rfl (by exact hg); apply aO; (refine af (Bp _ _) rfl rfl rfl rfl rfl ?_); refine aD ?_; exact rfl
 ·exact rfl
 ·exact rfl
 refine dy rfl rfl (fB rfl ?_)
 apply aN (s := 102) rfl rfl rfl
 ·intro hg; apply aO; (refine fN rfl ?_); refine aD ?_; exact rfl
 ·exact rfl
 ·exact rfl
 apply aN (s := 102) rfl rfl rfl
 ·intro hg; apply aO; (refine af (kA _ _) rfl rfl rfl rfl rfl ?_); refine aD ?_; exact rfl
 ·exact rfl
 ·exact rfl
 apply aN (s := 102) rfl rfl rfl
 ·intro hg; apply aO; (refine af (kA _ _) rfl rfl rfl rfl rfl ?_); refine aD ?_; exact rfl
 ·exact rfl
 ·exact rfl
 apply aN (s := 102) rfl rfl rfl
 ·intro hg; apply aO; (refine af (kA _ _) rfl rfl rfl rfl rfl ?_); refine aD ?_; exact rfl
 ·exact rfl
 ·exact rfl
 apply aN (s := 102) rfl rfl rfl
 ·intro hg; apply aL (s := 104) rfl (by exact hg); apply aL (s := 105) rfl (by exact hg); apply aL (s := 106) rfl (by exact hg); apply aO; (refine bW (E := bl) (xs := [⟨20, 30⟩, ⟨60, 90⟩, ⟨50, 85⟩]) rfl rfl rfl rfl rfl (by decide) (by decide) (by repeat (first | exact (aV.nil : aV _ _ [] _) | (show aV _ _ ((_, _) :: _) _; apply aV.agg; (· exact (rfl : _ = Ty.agg _))))) (by exact rfl) rfl ?_); refine aD ?_; exact rfl
 ·exact rfl
 ·exact rfl
 apply aN (s := 102) rfl rfl rfl
 ·intro hg; apply aL (s := 103) rfl (by exact hg); apply aL (s := 107) rfl (by exact hg); apply aO; (refine af (Bp _ _) rfl rfl rfl rfl rfl ?_); refine aD ?_; exact rfl
 ·exact rfl
 ·exact rfl
 refine dy rfl rfl (fB rfl ?_)
 apply aN (s := 110) rfl rfl rfl
 ·intro hg; apply aO; (refine bz rfl rfl (by decide) rfl rfl (by exact Nat.le_of_ble_eq_true rfl) ?_); refine aD ?_; exact rfl
 ·exact rfl
 ·exact rfl
 apply aN (s := 110) rfl rfl rfl
 ·intro hg; apply aO; (refine af (kA _ _) rfl rfl rfl rfl rfl ?_); refine aD ?_; exact rfl
 ·exact rfl
 ·exact rfl
 apply aN (s := 110) rfl rfl rfl
 ·intro hg; apply aL (s := 111) rfl (by exact hg); apply aL (s := 112) rfl (by exact hg); apply aO; (refine Kv (Mz _ _ _ _) rfl rfl ?_); refine aD ?_; exact rfl
 ·exact rfl
 ·exact rfl
 refine dy rfl rfl (fB rfl ?_)
 apply aN (s := 115) rfl rfl rfl
 ·intro hg; apply aO; (refine bG rfl ?_); refine aD ?_; exact rfl
 ·exact rfl
 ·exact rfl
 apply aN (s := 115) rfl rfl rfl
 ·intro hg; apply aL (s := 116) rfl (by exact hg); apply aO; (refine bB rfl rfl rfl ?_); refine aD ?_; exact rfl
 ·exact rfl
 ·exact rfl
 refine dy rfl rfl (fB rfl ?_)
 apply aN (s := 119) rfl rfl rfl
 ·intro hg; apply aO; (refine bG rfl ?_); refine aD ?_; exact rfl
 ·exact rfl
 ·exact rfl
 apply aN (s := 119) rfl rfl rfl
 ·intro hg; apply aL (s := 120) rfl (by exact hg); apply aO; (refine bB rfl rfl rfl ?_); refine aD ?_; exact rfl
 ·exact rfl
 ·exact rfl
 refine dy rfl rfl (fB rfl ?_)
 apply aN (s := 123) rfl rfl rfl
 ·intro hg; apply aO; (refine fN rfl ?_); refine aD ?_; exact rfl
 ·exact rfl
 ·exact rfl
 apply aN (s := 123) rfl rfl rfl
 ·intro hg; apply aO; (refine bW (E := cy) (xs := [0, 1]) rfl rfl rfl rfl rfl (by decide) (by decide) (by repeat (first | exact (aV.nil : aV _ _ [] _) | (show aV _ _ ((_, _) :: _) _; apply aV.one; (· exact (rfl : _ = Ty.int _ _)); (· exact rfl)))) (by exact rfl) rfl ?_); refine aD ?_; exact rfl
 ·exact rfl
 ·exact rfl
 apply aN (s := 123) rfl rfl rfl
 ·intro hg; apply aL (s := 124) rfl (by exact hg); apply aL (s := 125) rfl (by exact hg); apply aO; (refine af (CU _ _) rfl rfl rfl rfl rfl ?_); refine aD ?_; exact rfl
 ·exact rfl
 ·exact rfl
 refine dy rfl rfl (fB rfl ?_)
 apply aN (s := 128) rfl rfl rfl
 ·intro hg; apply aO; (refine fN rfl ?_); refine aD ?_; exact rfl
 ·exact rfl
 ·exact rfl
 apply aN (s := 128) rfl rfl rfl
 ·intro hg; apply aO; (refine bW (E := cy) (xs := [0]) rfl rfl rfl rfl rfl (by decide) (by decide) (by repeat (first | exact (aV.nil : aV _ _ [] _) | (show aV _ _ ((_, _) :: _) _; apply aV.one; (· exact (rfl : _ = Ty.int _ _)); (· exact rfl)))) (by exact rfl) rfl ?_); refine aD ?_; exact rfl
 ·exact rfl
 ·exact rfl
 apply aN (s := 128) rfl rfl rfl
 ·intro hg; apply aL (s := 129) rfl (by exact hg); apply aL (s := 130) rfl (by exact hg); apply aO; (refine af (CU _ _) rfl rfl rfl rfl rfl ?_); refine aD ?_; exact rfl
 ·exact rfl
 ·exact rfl
 refine dy rfl rfl (dA rfl (aD ?_))
 refine ⟨by kernel_rfl, ?_⟩
 refine aC (ay (bP rfl rfl ?_))
 all_goals exact b9 rfl rfl
 all_goals trace_state
end Go.Proofs.YtelbollidfdcjaaGreat
namespace Go.Proofs.YtelbollidfdcjaaGreat
open Go Go.T
set_option maxHeartbeats 2000000
attribute [local irreducible] gA eU lH nR gy gl g5 gr g9 nU gx nZ dN fS nJ ff nQ nth fI dQ au dK bodyPost Exit.then Exit.inBlock Code.wp Code.wpIn nY gm oC n9 g7 eM cJ cH bodyPostM dP
end Go.Proofs.YtelbollidfdcjaaGreat
namespace Go.Proofs.YtelbollidfdcjaaGreat
open Go Go.T
set_option maxHeartbeats 4000000
structure PV (y : ak) (a : dY) : Prop where
  len : y.moves.length ≤ a.b8.length
  qb : a.b8.length ≤ 1000
  first : ∀ x ∈ a.first, -1000 ≤ x ∧ x ≤ 1000
  b8 : ∀ x ∈ a.b8, -1000 ≤ x ∧ x ≤ 1000
theorem PV.up {y : ak} {a : dY} (h : PV y a) {bin time : Int} (hb : bin.toNat < a.first.length) {k : Nat} (hk : k ≤ y.moves.length) : -3000000 ≤ dj y a bin time k ∧ dj y a bin time k ≤ 3000000 := by
 have h1 := h.len
 have h2 := h.qb
 have := KS (y := y) (bin := bin) (time := time) (B := 1000) (by omega) h.first h.b8 hb k (by omega)
 omega
attribute [local irreducible] gA eU lH nR gy gl g5 gr g9 nU gx nZ dN fS nJ ff nQ nth fI dQ au dK bodyPost Exit.then Exit.inBlock Code.wp Code.wpIn nY gm oC n9 g7 eM cJ cH bodyPostM dP
end Go.Proofs.YtelbollidfdcjaaGreat
namespace Go.T
open Go Go.RowKit
section
variable {P : Program} {fr : Fr} {ops : Array Oper} {A : As} {rest : List Oper} {K : As → List (As × Fx) → Prop} {d : Nat} {t ty' : TypeId} {p : String} {e : Array Edge} [T : kZ P]
end
end Go.T
namespace Go.T
open Go Go.RowKit
section
variable {P : Program} {fr : Fr} {ops : Array Oper} {A : As} {rest : List Oper} {K : As → List (As × Fx) → Prop} {d : Nat} {t ty' : TypeId} {p : String} {e : Array Edge} [T : kZ P]
end
end Go.T
namespace Go.T
open Go Go.RowKit
section
variable {P : Program} {fr : Fr} {A : As} {Q : Exit → Act → World → Prop} {c : Code}
end
section
variable {P : Program} {fr : Fr} {ops : Array Oper} {A : As} {rest : List Oper} {K : As → List (As × Fx) → Prop} {d : Nat} {t ty' : TypeId} {p : String} {e : Array Edge} [T : kZ P]
end
end Go.T
namespace Go.T
open Go Go.RowKit
section
variable {P : Program} {A : As} {fn : Func} {n : Nat} {w0 : World} {M0 : bA} {F : List Nat} {post : List (Nat × Cont)} [T : kZ P]
end
end Go.T
namespace Go.T
open Go Go.RowKit
section
variable {P : Program} {fr : Fr} {ops : Array Oper} {A : As} {rest : List Oper} {K : As → List (As × Fx) → Prop} {d : Nat} {t ty' : TypeId} {p : String} {e : Array Edge} [T : kZ P]
end
end Go.T
namespace Go.Proofs.YtelbollidfdcjaaGreat
open Go Go.T
set_option maxHeartbeats 8000000
section
variable {d : Md} {s : Sk} {k i : Nat} {p : (List Move × List Int) × Sk} {y : ak} {a : dY} {m : Move} {n : Int}
end
attribute [local irreducible] Md.D Md.Pf Md.nb Md.bs Md.first Md.uA Md.Eb Md.many Md.src Md.dst Md.HB Md.day Md.num Md.ms Md.b8 Md.Dk Md.most Md.hs Md.Ma Md.Pd Md.nl Md.ls Md.EM cj uV wM yg ru kD bt eE lz H6 Md.FU Md.Fk
attribute [local irreducible] gA eU lH nR gy gl g5 gr g9 nU gx nZ dN fS nJ ff nQ nth fI dQ au dK bodyPost Exit.then Exit.inBlock Code.wp Code.wpIn nY gm oC n9 g7 eM cJ cH bodyPostM dP
end Go.Proofs.YtelbollidfdcjaaGreat
namespace Go.Proofs.YtelbollidfdcjaaGreat
open Go Go.T
set_option maxHeartbeats 8000000
structure QX (a : dY) : Prop where
  qb : a.b8.length ≤ 1000
  first : ∀ x ∈ a.first, -1000 ≤ x ∧ x ≤ 1000
  b8 : ∀ x ∈ a.b8, -1000 ≤ x ∧ x ≤ 1000
open Classical in
noncomputable def qZ (y : ak) (a : dY) : Bool := decide (eO y (fun _ => true) a)
section
variable {y : ak} {a : dY} {b t k : Nat}
open Classical in
theorem yC (h : eO y (fun _ => true) a) : qZ y a = true := by unfold qZ; exact decide_eq_true h
open Classical in
theorem wu (h : ¬ eO y (fun _ => true) a) : qZ y a = false := by unfold qZ; exact decide_eq_false h
open Classical in
theorem LY (h : qZ y a = true) : eO y (fun _ => true) a := by unfold qZ at h; exact of_decide_eq_true h
end
attribute [local irreducible] cj qZ
attribute [local irreducible] gA eU lH nR gy gl g5 gr g9 nU gx nZ dN fS nJ ff nQ nth fI dQ au dK bodyPost Exit.then Exit.inBlock Code.wp Code.wpIn nY gm oC n9 g7 eM cJ cH bodyPostM dP
end Go.Proofs.YtelbollidfdcjaaGreat
namespace Go.Proofs.YtelbollidfdcjaaGreat
open Go Go.T
section
variable {d : Md} {v : Bool} {c : Nat → Bool} {y : ak} {b t k n : Nat} {l : List sX}
variable {f : Nat → Nat → Int}
end
end Go.Proofs.YtelbollidfdcjaaGreat
namespace Go.Proofs.YtelbollidfdcjaaGreat
open Go Go.T
set_option maxHeartbeats 4000000
theorem kC (n lo hi : Int) : lg n lo hi = !x6 n lo hi := by
 rw [Bool.eq_iff_iff]
 simp only [lg, Bool.or_eq_true, decide_eq_true_eq, Bool.not_eq_true', Bool.eq_false_iff, ne_eq, iN]
 omega
def xu (s : Span) : Bool := lg s.lo 0 300 || lg s.hi 0 300
def oo (y : ak) : Bool := ((lg y.days 1 5 || lg y.bins.length 1 4) || decide ((y.moves.length : Int) > 10)) || decide ((y.levels.length : Int) > 8)
def uR (b : sX) : Bool := lg b.holds 0 300 || xu b.first
def BK (b : sX) : Bool := decide (b.first.lo > b.first.hi)
def y9 (m : Move) : Bool := xu m.sacks
def notM (y : ak) (m : Move) : Bool := (lg m.day 0 (y.days - 1) || lg m.src (-1) ((y.bins.length : Int) - 1)) || lg m.dst (-1) ((y.bins.length : Int) - 1)
def MS (m : Move) : Bool := decide (m.src = m.dst)
def Ge (m : Move) : Bool := decide (m.sacks.lo > m.sacks.hi)
def D8 (l : Level) : Bool := xu l.sacks
def KU (y : ak) (l : Level) : Bool := lg l.day 0 y.days || lg l.bin 0 ((y.bins.length : Int) - 1)
def LN (l : Level) : Bool := decide (l.sacks.lo > l.sacks.hi)
def mF {α : Type} (p : α → Bool) (l : List α) (k : Nat) : Bool := (l.take k).any p
section
variable {α : Type} {p : α → Bool} {l : List α} {k : Nat}
theorem gz [Inhabited α] (h : k < l.length) : (mF p l k || p (nth l k)) = mF p l (k + 1) := by
 unfold mF; rw [cT h, List.any_append]; simp
theorem fE (h : ¬ (k : Int) < (l.length : Int)) : mF p l k = l.any p := by
 unfold mF; rw [List.take_of_length_le (by omega)]
end
def Mg (y : ak) : Bool := (y.bins.any uR || y.moves.any y9) || y.levels.any D8
def Nd (y : ak) : Bool := y.moves.any (notM y) || y.levels.any (KU y)
def NA (y : ak) : Bool := y.moves.any MS
def PI (y : ak) : Bool := (y.bins.any BK || y.moves.any Ge) || y.levels.any LN
def iY (y : ak) : Int := if oo y = true then 2 else if Mg y = true then 3 else if Nd y = true then 1 else if NA y = true then 5 else if PI y = true then 4 else 0
theorem lB {α : Type} {p q : α → Bool} {l : List α} (h : ∀ x ∈ l, p x = !q x) : l.any p = !l.all q := by
  induction l with
  | nil => rfl
  | cons x l ih => rw [List.any_cons, List.all_cons, ih fun y hy => h y (List.mem_cons_of_mem _ hy), h x List.mem_cons_self, Bool.not_and]
theorem nW (s : Span) : xu s = !fM s := by unfold xu fM; rw [kC, kC, Bool.not_and]
theorem MT (y : ak) : oo y = lZ y := by unfold oo lZ; rw [kC, kC]
theorem PR (y : ak) : Mg y = (ko y || jZ y) := by
 unfold Mg ko jZ
 rw [lB (q := fun b : sX => x6 b.holds 0 300 && fM b.first) fun b _ => by unfold uR; rw [kC, nW, Bool.not_and],
  lB (p := y9) (q := fun m : Move => fM m.sacks) fun m _ => nW _, lB (p := D8) (q := fun m : Level => fM m.sacks) fun m _ => nW _, Bool.or_assoc]
theorem D5 (y : ak) (n : Int) : lg n (-1) ((y.bins.length : Int) - 1) = !y.fin n := by
 unfold ak.fin ak.bin
 rw [kC]
 congr 1
 rw [Bool.eq_iff_iff]
 simp only [Bool.or_eq_true, decide_eq_true_eq, iN]
 omega
theorem Oc (y : ak) : Nd y = (xP y || rZ y) := by
 unfold Nd xP rZ
 rw [lB (q := fun m : Move => (x6 m.day 0 (y.days - 1) && y.fin m.src) && y.fin m.dst) fun m _ => by unfold notM; rw [kC, D5, D5, Bool.not_and, Bool.not_and],
  lB (p := KU y) (q := fun l : Level => y.time l.day && y.bin l.bin) fun l _ => by unfold KU ak.time ak.bin; rw [kC, kC, Bool.not_and]]
theorem Oe (y : ak) : NA y = rD y := by
 unfold NA rD
 exact lB fun m _ => by unfold MS; rw [Bool.not_not]
theorem or_eq (y : ak) : PI y = tH y := by
 have e : ∀ s : Span, decide (s.lo > s.hi) = !gL s := fun s => by
  unfold gL; rw [Bool.eq_iff_iff]; simp only [decide_eq_true_eq, Bool.not_eq_true', decide_eq_false_iff_not]; omega
 unfold PI tH
 rw [lB (p := BK) (q := fun b : sX => gL b.first) fun b _ => e _, lB (p := Ge) (q := fun b : Move => gL b.sacks) fun b _ => e _, lB (p := LN) (q := fun b : Level => gL b.sacks) fun b _ => e _]
theorem check_eq (y : ak) : iY y = bL y := by
 unfold iY bL
 rw [MT, PR, Oc, Oe, or_eq]
 cases lZ y <;> cases ko y <;> cases jZ y <;> cases xP y <;> cases rZ y <;> rfl
theorem QS (a b c d : Bool) : (((a || b) || c) || d) = (a || ((b || c) || d)) := by cases a <;> rfl
theorem QB (a b c d : Bool) : (((a || b) || c) || d) = (a || (b || (c || d))) := by cases a <;> cases b <;> rfl
section
variable {y : ak} {b c : Bool}
theorem Pp (h : oo y = true) : 2 = iY y := (if_pos h).symm
theorem P0 (h : oo y = false) (h1 : b = true) (e : b = Mg y) : 3 = iY y := by unfold iY; rw [if_neg (ng h), if_pos (e ▸ h1)]
theorem Pt (h : oo y = false) (h1 : b = false) (e : b = Mg y) {b2 : Bool} (h2 : b2 = true) (e2 : b2 = Nd y) : 1 = iY y := by
 subst e; subst e2; unfold iY; rw [if_neg (ng h), if_neg (ng h1), if_pos h2]
theorem Po (h : oo y = false) (h1 : b = false) (e : b = Mg y) {b2 b3 : Bool} (h2 : b2 = false) (e2 : b2 = Nd y) (h3 : b3 = true) (e3 : b3 = NA y) : 5 = iY y := by
 subst e; subst e2; subst e3; unfold iY; rw [if_neg (ng h), if_neg (ng h1), if_neg (ng h2), if_pos h3]
theorem Pn (h : oo y = false) (h1 : b = false) (e : b = Mg y) {b2 b3 b4 : Bool} (h2 : b2 = false) (e2 : b2 = Nd y) (h3 : b3 = false) (e3 : b3 = NA y) (h4 : b4 = true) (e4 : b4 = PI y) : 4 = iY y := by
 subst e; subst e2; subst e3; subst e4; unfold iY; rw [if_neg (ng h), if_neg (ng h1), if_neg (ng h2), if_neg (ng h3), if_pos h4]
theorem Pk (h : oo y = false) (h1 : b = false) (e : b = Mg y) {b2 b3 b4 : Bool} (h2 : b2 = false) (e2 : b2 = Nd y) (h3 : b3 = false) (e3 : b3 = NA y) (h4 : b4 = false) (e4 : b4 = PI y) : 0 = iY y := by
 subst e; subst e2; subst e3; subst e4; unfold iY; rw [if_neg (ng h), if_neg (ng h1), if_neg (ng h2), if_neg (ng h3), if_neg (ng h4)]
theorem C1 (h : oo y = false) : (1 ≤ y.days ∧ y.days ≤ 5) ∧ (1 ≤ (y.bins.length : Int) ∧ (y.bins.length : Int) ≤ 4) := by
 unfold oo at h
 simp only [Bool.or_eq_false_iff, kC, Bool.not_eq_false', iN] at h
 exact h.1.1
end
attribute [local irreducible] gA eU lH nR gy gl g5 gr g9 nU gx nZ dN fS nJ ff nQ nth fI dQ au dK bodyPost Exit.then Exit.inBlock Code.wp Code.wpIn nY gm oC n9 g7 eM cJ cH bodyPostM dP
set_option maxRecDepth 100000 in
theorem mE (n lo hi : Int) : dK Tryz.prog 97 [Ty.int .i64 n, Ty.int .i64 lo, Ty.int .i64 hi] (Ty.bool (lg n lo hi)) := by
 refine ah Tryz.func97 rfl (by decide) Tryz.ntmps97 (by exact Nat.le_of_ble_eq_true rfl) fun w0 M0 => ?_
 refine aE (aA (dA rfl (aD (aC (aE (aA (bG rfl (bG rfl (bB rfl rfl rfl ?_)))))))))
 refine fB rfl ?_
 apply aN (s := 10) rfl rfl rfl
 ·intro hg; apply aO; (refine bG rfl ?_); refine aD ?_; exact rfl
 ·exact rfl
 ·exact rfl
 apply aN (s := 10) rfl rfl rfl
 ·intro hg; apply aO; (refine bG rfl ?_); refine aD ?_; exact rfl
 ·exact rfl
 ·exact rfl
 apply aN (s := 10) rfl rfl rfl
 ·intro hg; apply aL (s := 11) rfl (by (rw [hg]; rfl)); apply aL (s := 12) rfl (by (rw [hg]; rfl)); apply aO; (refine bB rfl rfl rfl ?_); refine aD ?_; exact rfl
 ·exact rfl
 ·exact rfl
 refine ig rfl rfl (dA rfl (aD (aC (ay (bP rfl rfl ?_)))))
 all_goals exact b9 rfl rfl
set_option maxRecDepth 100000 in
theorem zy (s : Span) : dK Tryz.prog 98 [Ty.agg (bl.tys s)] (Ty.bool (xu s)) := by
 refine ah Tryz.func98 rfl (by decide) Tryz.ntmps98 (by exact Nat.le_of_ble_eq_true rfl) fun w0 M0 => ?_
 refine aE (aA (bD rfl (dA rfl (aD (aC (aE (aA ?_)))))))
 refine aH rfl rfl rfl rfl rfl (by decide) ?_
 refine aI rfl rfl rfl rfl (af (mE _ _ _) rfl rfl rfl rfl rfl (fB rfl ?_))
 apply aN (s := 6) rfl rfl rfl
 ·intro hg; apply aO; (refine aH rfl rfl rfl rfl rfl (by decide) ?_); refine aD ?_; exact rfl
 ·exact rfl
 ·exact rfl
 apply aN (s := 6) rfl rfl rfl
 ·intro hg; apply aL (s := 7) rfl (by (rw [hg]; rfl)); apply aO; (refine aI rfl rfl rfl rfl ?_); refine aD ?_; exact rfl
 ·exact rfl
 ·exact rfl
 apply aN (s := 6) rfl rfl rfl
 ·intro hg; apply aL (s := 8) rfl (by (rw [hg]; rfl)); apply aO; (refine af (mE _ _ _) rfl rfl rfl rfl rfl ?_); refine aD ?_; exact rfl
 ·exact rfl
 ·exact rfl
 refine ig rfl rfl (dA rfl (aD (aC (ay (bP rfl rfl ?_)))))
 all_goals exact b9 rfl rfl
set_option maxRecDepth 100000 in
theorem CG (y : ak) (hs : y.Small) : dK Tryz.prog 31 [dn y] (Ty.int .i64 (iY y)) := by
 refine ah Tryz.func31 rfl (by decide) Tryz.ntmps31 (by exact Nat.le_of_ble_eq_true rfl) fun w0 M0 => ?_
 have hs1 := hs.bins
 have hs2 := hs.moves
 have hs3 := hs.levels
 refine aE (aA (bD rfl (bk rfl (aD (aC (aE (aE (aA ?_))))))))
 refine aH rfl rfl rfl rfl rfl (by decide) ?_
 refine aI rfl rfl rfl rfl (af (mE _ _ _) rfl rfl rfl rfl rfl (fB rfl ?_))
 apply aN (s := 15) rfl rfl rfl
 ·intro hg; apply aO; (refine aH rfl rfl rfl rfl rfl (by decide) ?_); refine aD ?_; exact rfl
 ·exact rfl
 ·exact rfl
 apply aN (s := 15) rfl rfl rfl
 ·intro hg; apply aL (s := 16) rfl (by (rw [hg]; rfl)); apply aO; (refine aI rfl rfl rfl rfl ?_); refine aD ?_; exact rfl
 ·exact rfl
 ·exact rfl
 apply aN (s := 15) rfl rfl rfl
 ·intro hg; apply aL (s := 17) rfl (by (rw [hg]; rfl)); apply aO; (refine cK rfl rfl rfl ?_); refine aD ?_; exact rfl
 ·exact rfl
 ·exact rfl
 apply aN (s := 15) rfl rfl rfl
 ·intro hg; apply aL (s := 18) rfl (by (rw [hg]; rfl)); apply aO; (refine af (mE _ _ _) rfl rfl rfl rfl rfl ?_); refine aD ?_; exact rfl
 ·exact rfl
 ·exact rfl
 refine ig rfl rfl (fB rfl ?_)
 apply aN (s := 21) rfl rfl rfl
 ·intro hg; apply aO; (refine aH rfl rfl rfl rfl rfl (by decide) ?_); refine aD ?_; exact rfl
 ·exact rfl
 ·exact rfl
 apply aN (s := 21) rfl rfl rfl
 ·intro hg; apply aL (s := 22) rfl (by (rw [hg]; rfl)); apply aO; (refine aI rfl rfl rfl rfl ?_); refine aD ?_; exact rfl
 ·exact rfl
 ·exact rfl
 apply aN (s := 21) rfl rfl rfl
 ·intro hg; apply aL (s := 23) rfl (by (rw [hg]; rfl)); apply aO; (refine cK rfl rfl rfl ?_); refine aD ?_; exact rfl
 ·exact rfl
 ·exact rfl
 apply aN (s := 21) rfl rfl rfl
 ·intro hg; apply aL (s := 24) rfl (by (rw [hg]; rfl)); apply aO; (refine bB rfl rfl rfl ?_); refine aD ?_; exact rfl
 ·exact rfl
 ·exact rfl
 refine ig rfl rfl (fB rfl ?_)
 apply aN (s := 27) rfl rfl rfl
 ·intro hg; apply aO; (refine aH rfl rfl rfl rfl rfl (by decide) ?_); refine aD ?_; exact rfl
 ·exact rfl
 ·exact rfl
 apply aN (s := 27) rfl rfl rfl
 ·intro hg; apply aL (s := 28) rfl (by (rw [hg]; rfl)); apply aO; (refine aI rfl rfl rfl rfl ?_); refine aD ?_; exact rfl
 ·exact rfl
 ·exact rfl
 apply aN (s := 27) rfl rfl rfl
 ·intro hg; apply aL (s := 29) rfl (by (rw [hg]; rfl)); apply aO; (refine cK rfl rfl rfl ?_); refine aD ?_; exact rfl
 ·exact rfl
 ·exact rfl
 apply aN (s := 27) rfl rfl rfl
 ·intro hg; apply aL (s := 30) rfl (by (rw [hg]; rfl)); apply aO; (refine bB rfl rfl rfl ?_); refine aD ?_; exact rfl
 ·exact rfl
 ·exact rfl
 refine ig rfl rfl (aD (aC ?_))
 refine cI rfl (fun hc1 => ?_) (fun hc1 => ?_)
 ·
  refine aE (aA (bk rfl (aD (aC (ay (aS (bP rfl rfl ?_)))))))
  all_goals skip
  exact az rfl rfl (congrArg (Ty.int .i64) (Pp hc1))
 refine aq (aC (aE ?_))
 have hmy := C1 hc1
 refine aA (dA rfl (dA rfl (dA rfl (dA rfl (aD (aC (aE (aE (aA ?_)))))))))
 refine bk rfl (aD (aC (aZ ?_)))
 refine cF (fun (k : {k : Nat // k ≤ y.bins.length}) => live [(1, Ty.pp (bH y)), (3, Ty.bool (mF uR y.bins k.1)), (4, Ty.bool false), (5, Ty.bool false), (6, Ty.bool (mF BK y.bins k.1)), (7, Ty.int .i64 (k.1 : Nat))] []) (fun k => y.bins.length - k.1) (⟨0, by omega⟩) ?_ fun k => ?_
 ·(refine cx.mk' ?_ ?_ <;> (repeat' (first | exact aJ | exact aK | refine aB ?_ (Ty.aU _) | refine aB ?_ (Ty.aF _))))
  all_goals trace_state
 have hk := k.2
 refine aE (aE (aA (bG rfl ?_)))
 refine aH rfl rfl rfl rfl rfl (by decide) ?_
 refine aI rfl rfl rfl rfl (cK rfl rfl rfl (bB rfl rfl rfl (aD (aC ?_))))
 refine aj rfl (fun hc2 => ?_) (fun hc2 => ?_)
 ·
  refine aq (aC (aE (aZ (aE (aA (fB rfl (fB rfl ?_)))))))
  apply aN (s := 41) rfl rfl rfl
  ·intro hg; apply aO; (refine aH rfl rfl rfl rfl rfl (by decide) ?_); refine aD ?_; exact rfl
  ·exact rfl
  ·exact rfl
  apply aN (s := 41) rfl rfl rfl
  ·intro hg; apply aL (s := 42) rfl (by (rw [hg]; rfl)); apply aO; (refine aI rfl rfl rfl rfl ?_); refine aD ?_; exact rfl
  ·exact rfl
  ·exact rfl
  apply aN (s := 41) rfl rfl rfl
  ·intro hg; apply aO; (refine bG rfl ?_); refine aD ?_; exact rfl
  ·exact rfl
  ·exact rfl
  apply aN (s := 41) rfl rfl rfl
  ·intro hg; apply aL (s := 43) rfl (by (rw [hg]; rfl)); apply aL (s := 44) rfl (by (rw [hg]; rfl)); apply aO; (refine av rfl rfl rfl rfl rfl rfl (by omega) ?_); refine aD ?_; exact rfl
  ·exact rfl
  ·exact rfl
  apply aN (s := 41) rfl rfl rfl
  ·intro hg; apply aL (s := 45) rfl (by (rw [hg]; rfl)); apply aO; (refine aH rfl rfl rfl rfl rfl (by decide) ?_); refine aD ?_; exact rfl
  ·exact rfl
  ·exact rfl
  apply aN (s := 41) rfl rfl rfl
  ·intro hg; apply aL (s := 46) rfl (by (rw [hg]; rfl)); apply aO; (refine aI rfl rfl rfl rfl ?_); refine aD ?_; exact rfl
  ·exact rfl
  ·exact rfl
  apply aN (s := 41) rfl rfl rfl
  ·intro hg; apply aL (s := 47) rfl (by (rw [hg]; rfl)); apply aO; (refine af (mE _ _ _) rfl rfl rfl rfl rfl ?_); refine aD ?_; exact rfl
  ·exact rfl
  ·exact rfl
  refine ig rfl rfl (fB rfl ?_)
  apply aN (s := 50) rfl rfl rfl
  ·intro hg; apply aO; (refine aH rfl rfl rfl rfl rfl (by decide) ?_); refine aD ?_; exact rfl
  ·exact rfl
  ·exact rfl
  apply aN (s := 50) rfl rfl rfl
  ·intro hg; apply aL (s := 51) rfl (by (rw [hg]; rfl)); apply aO; (refine aI rfl rfl rfl rfl ?_); refine aD ?_; exact rfl
  ·exact rfl
  ·exact rfl
  apply aN (s := 50) rfl rfl rfl
  ·intro hg; apply aO; (refine bG rfl ?_); refine aD ?_; exact rfl
  ·exact rfl
  ·exact rfl
  apply aN (s := 50) rfl rfl rfl
  ·intro hg; apply aL (s := 52) rfl (by (rw [hg]; rfl)); apply aL (s := 53) rfl (by (rw [hg]; rfl)); apply aO; (refine av rfl rfl rfl rfl rfl rfl (by omega) ?_); refine aD ?_; exact rfl
  ·exact rfl
  ·exact rfl
  apply aN (s := 50) rfl rfl rfl
  ·intro hg; apply aL (s := 54) rfl (by (rw [hg]; rfl)); apply aO; (refine aH rfl rfl rfl rfl rfl (by decide) ?_); refine aD ?_; exact rfl
  ·exact rfl
  ·exact rfl
  apply aN (s := 50) rfl rfl rfl
  ·intro hg; apply aL (s := 55) rfl (by (rw [hg]; rfl)); apply aO; (refine aX rfl rfl rfl (by exact Nat.le_of_ble_eq_true rfl) ?_); refine aD ?_; exact rfl
  ·exact rfl
  ·exact rfl
  apply aN (s := 50) rfl rfl rfl
  ·intro hg; apply aL (s := 56) rfl (by (rw [hg]; rfl)); apply aO; (refine af (zy _) rfl rfl rfl rfl rfl ?_); refine aD ?_; exact rfl
  ·exact rfl
  ·exact rfl
  refine ig rfl rfl (dA rfl (aD (aC (cP mixed rfl (fB rfl (fB rfl ?_))))))
  apply aN (s := 60) rfl rfl rfl
  ·intro hg; apply aO; (refine aH rfl rfl rfl rfl rfl (by decide) ?_); refine aD ?_; exact rfl
  ·exact rfl
  ·exact rfl
  apply aN (s := 60) rfl rfl rfl
  ·intro hg; apply aL (s := 61) rfl (by (rw [hg]; rfl)); apply aO; (refine aI rfl rfl rfl rfl ?_); refine aD ?_; exact rfl
  ·exact rfl
  ·exact rfl
  apply aN (s := 60) rfl rfl rfl
  ·intro hg; apply aO; (refine bG rfl ?_); refine aD ?_; exact rfl
  ·exact rfl
  ·exact rfl
  apply aN (s := 60) rfl rfl rfl
  ·intro hg; apply aL (s := 62) rfl (by (rw [hg]; rfl)); apply aL (s := 63) rfl (by (rw [hg]; rfl)); apply aO; (refine av rfl rfl rfl rfl rfl rfl (by omega) ?_); refine aD ?_; exact rfl
  ·exact rfl
  ·exact rfl
  apply aN (s := 60) rfl rfl rfl
  ·intro hg; apply aL (s := 64) rfl (by (rw [hg]; rfl)); apply aO; (refine aH rfl rfl rfl rfl rfl (by decide) ?_); refine aD ?_; exact rfl
  ·exact rfl
  ·exact rfl
  apply aN (s := 60) rfl rfl rfl
  ·intro hg; apply aL (s := 65) rfl (by (rw [hg]; rfl)); apply aO; (refine aH rfl rfl rfl rfl rfl (by decide) ?_); refine aD ?_; exact rfl
  ·exact rfl
  ·exact rfl
  apply aN (s := 60) rfl rfl rfl
  ·intro hg; apply aL (s := 66) rfl (by (rw [hg]; rfl)); apply aO; (refine aI rfl rfl rfl rfl ?_); refine aD ?_; exact rfl
  ·exact rfl
  ·exact rfl
  apply aN (s := 60) rfl rfl rfl
  ·intro hg; apply aO; (refine aH rfl rfl rfl rfl rfl (by decide) ?_); refine aD ?_; exact rfl
  ·exact rfl
  ·exact rfl
  apply aN (s := 60) rfl rfl rfl
  ·intro hg; apply aL (s := 68) rfl (by (rw [hg]; rfl)); apply aO; (refine aI rfl rfl rfl rfl ?_); refine aD ?_; exact rfl
  ·exact rfl
  ·exact rfl
  apply aN (s := 60) rfl rfl rfl
  ·intro hg; apply aO; (refine bG rfl ?_); refine aD ?_; exact rfl
  ·exact rfl
  ·exact rfl
  apply aN (s := 60) rfl rfl rfl
  ·intro hg; apply aL (s := 69) rfl (by (rw [hg]; rfl)); apply aL (s := 70) rfl (by (rw [hg]; rfl)); apply aO; (refine av rfl rfl rfl rfl rfl rfl (by omega) ?_); refine aD ?_; exact rfl
  ·exact rfl
  ·exact rfl
  apply aN (s := 60) rfl rfl rfl
  ·intro hg; apply aL (s := 71) rfl (by (rw [hg]; rfl)); apply aO; (refine aH rfl rfl rfl rfl rfl (by decide) ?_); refine aD ?_; exact rfl
  ·exact rfl
  ·exact rfl
  apply aN (s := 60) rfl rfl rfl
  ·intro hg; apply aL (s := 72) rfl (by (rw [hg]; rfl)); apply aO; (refine aH rfl rfl rfl rfl rfl (by decide) ?_); refine aD ?_; exact rfl
  ·exact rfl
  ·exact rfl
  apply aN (s := 60) rfl rfl rfl
  ·intro hg; apply aL (s := 73) rfl (by (rw [hg]; rfl)); apply aO; (refine aI rfl rfl rfl rfl ?_); refine aD ?_; exact rfl
  ·exact rfl
  ·exact rfl
  apply aN (s := 60) rfl rfl rfl
  ·intro hg; apply aL (s := 67) rfl (by (rw [hg]; rfl)); apply aL (s := 74) rfl (by (rw [hg]; rfl)); apply aO; (refine bB rfl rfl rfl ?_); refine aD ?_; exact rfl
  ·exact rfl
  ·exact rfl
  refine ig rfl rfl (dA rfl (aD ?_))
  refine ⟨by kernel_rfl, ?_⟩
  refine bI (aC (aA (bG rfl ?_)))
  refine cA rfl rfl (by omega) (by omega) ?_
  refine bk rfl (aD ?_)
  refine bO (⟨k.1 + 1, by omega⟩) ?_ (by show y.bins.length - (k.1 + 1) < y.bins.length - k.1; omega)
  (refine cx.mk' ?_ ?_ <;> (repeat' (first | exact aJ | exact aK | refine aB ?_ (Ty.aU _) | refine aB ?_ (Ty.aF _) | refine aB ?_ ?_)))
  all_goals skip
  all_goals first | exact Ty.dm ((Bool.or_assoc _ _ _).trans (gz (p := uR) (by omega))) | exact Ty.dm (gz (p := BK) (by omega))
 refine cE (aP (aP (aa rfl (aC (aE (aE (aA (bk rfl (aD ?_)))))))))
 refine aC (aZ ?_)
 refine cF (fun (m : {k : Nat // k ≤ y.moves.length}) => live [(1, Ty.pp (bH y)), (3, Ty.bool (y.bins.any uR || mF y9 y.moves m.1)), (4, Ty.bool (mF (notM y) y.moves m.1)), (5, Ty.bool (mF MS y.moves m.1)), (6, Ty.bool (y.bins.any BK || mF Ge y.moves m.1)), (8, Ty.int .i64 (m.1 : Nat))] []) (fun m => y.moves.length - m.1) (⟨0, by omega⟩) ?_ fun m => ?_
 ·(refine cx.mk' ?_ ?_ <;> (repeat' (first | exact aJ | exact aK | refine aB ?_ (Ty.aU _) | refine aB ?_ (Ty.aF _) | refine aB ?_ ?_)))
  all_goals exact Ty.dm ((fE hc2).trans (Bool.or_false _).symm)
 have hm := m.2
 refine aE (aE (aA (bG rfl ?_)))
 refine aH rfl rfl rfl rfl rfl (by decide) ?_
 refine aI rfl rfl rfl rfl (cK rfl rfl rfl (bB rfl rfl rfl (aD (aC ?_))))
 refine aj rfl (fun hc3 => ?_) (fun hc3 => ?_)
 ·
  refine aq (aC (aE (aZ (aE (aA ?_)))))
  refine aH rfl rfl rfl rfl rfl (by decide) ?_
  refine aI rfl rfl rfl rfl (bG rfl ?_)
  refine av rfl rfl rfl rfl rfl rfl (by omega) ?_
  refine aX rfl rfl rfl (by exact Nat.le_of_ble_eq_true rfl) ?_
  refine bp rfl (by exact List.cons_ne_nil _ _) rfl ?_
  refine bZ rfl rfl (by decide) rfl rfl rfl rfl rfl rfl ?_
  refine aD (aC (aE (aA (fB rfl (fB rfl ?_)))))
  apply aN (s := 90) rfl rfl rfl
  ·intro hg; apply aO; (refine aR rfl rfl rfl rfl rfl (by decide) ?_); refine aD ?_; exact rfl
  ·exact rfl
  ·exact rfl
  apply aN (s := 90) rfl rfl rfl
  ·intro hg; apply aL (s := 91) rfl (by (rw [hg]; rfl)); apply aO; (refine bz rfl rfl (by decide) rfl rfl (by exact Nat.le_of_ble_eq_true rfl) ?_); refine aD ?_; exact rfl
  ·exact rfl
  ·exact rfl
  apply aN (s := 90) rfl rfl rfl
  ·intro hg; apply aL (s := 92) rfl (by (rw [hg]; rfl)); apply aO; (refine af (zy _) rfl rfl rfl rfl rfl ?_); refine aD ?_; exact rfl
  ·exact rfl
  ·exact rfl
  refine ig rfl rfl (dA rfl (aD (aC (aE (aA (fB rfl (fB rfl ?_)))))))
  apply aN (s := 96) rfl rfl rfl
  ·intro hg; apply aO; (refine aR rfl rfl rfl rfl rfl (by decide) ?_); refine aD ?_; exact rfl
  ·exact rfl
  ·exact rfl
  apply aN (s := 96) rfl rfl rfl
  ·intro hg; apply aL (s := 97) rfl (by (rw [hg]; rfl)); apply aO; (refine aY rfl rfl (by decide) rfl rfl rfl ?_); refine aD ?_; exact rfl
  ·exact rfl
  ·exact rfl
  apply aN (s := 96) rfl rfl rfl
  ·intro hg; apply aO; (refine aH rfl rfl rfl rfl rfl (by decide) ?_); refine aD ?_; exact rfl
  ·exact rfl
  ·exact rfl
  apply aN (s := 96) rfl rfl rfl
  ·intro hg; apply aL (s := 99) rfl (by (rw [hg]; rfl)); apply aO; (refine aI rfl rfl rfl rfl ?_); refine aD ?_; exact rfl
  ·exact rfl
  ·exact rfl
  apply aN (s := 96) rfl rfl rfl
  ·intro hg; apply aL (s := 100) rfl (by (rw [hg]; rfl)); apply aO; (refine gR rfl rfl (by omega) (by omega) ?_); refine aD ?_; exact rfl
  ·exact rfl
  ·exact rfl
  apply aN (s := 96) rfl rfl rfl
  ·intro hg; apply aL (s := 98) rfl (by (rw [hg]; rfl)); apply aL (s := 101) rfl (by (rw [hg]; rfl)); apply aO; (refine af (mE _ _ _) rfl rfl rfl rfl rfl ?_); refine aD ?_; exact rfl
  ·exact rfl
  ·exact rfl
  refine ig rfl rfl (fB rfl ?_)
  apply aN (s := 104) rfl rfl rfl
  ·intro hg; apply aO; (refine aR rfl rfl rfl rfl rfl (by decide) ?_); refine aD ?_; exact rfl
  ·exact rfl
  ·exact rfl
  apply aN (s := 104) rfl rfl rfl
  ·intro hg; apply aL (s := 105) rfl (by (rw [hg]; rfl)); apply aO; (refine aY rfl rfl (by decide) rfl rfl rfl ?_); refine aD ?_; exact rfl
  ·exact rfl
  ·exact rfl
  apply aN (s := 104) rfl rfl rfl
  ·intro hg; apply aO; (refine aH rfl rfl rfl rfl rfl (by decide) ?_); refine aD ?_; exact rfl
  ·exact rfl
  ·exact rfl
  apply aN (s := 104) rfl rfl rfl
  ·intro hg; apply aL (s := 107) rfl (by (rw [hg]; rfl)); apply aO; (refine aI rfl rfl rfl rfl ?_); refine aD ?_; exact rfl
  ·exact rfl
  ·exact rfl
  apply aN (s := 104) rfl rfl rfl
  ·intro hg; apply aL (s := 108) rfl (by (rw [hg]; rfl)); apply aO; (refine cK rfl rfl rfl ?_); refine aD ?_; exact rfl
  ·exact rfl
  ·exact rfl
  apply aN (s := 104) rfl rfl rfl
  ·intro hg; apply aL (s := 109) rfl (by (rw [hg]; rfl)); apply aO; (refine gR rfl rfl (by omega) (by omega) ?_); refine aD ?_; exact rfl
  ·exact rfl
  ·exact rfl
  apply aN (s := 104) rfl rfl rfl
  ·intro hg; apply aL (s := 106) rfl (by (rw [hg]; rfl)); apply aL (s := 110) rfl (by (rw [hg]; rfl)); apply aO; (refine af (mE _ _ _) rfl rfl rfl rfl rfl ?_); refine aD ?_; exact rfl
  ·exact rfl
  ·exact rfl
  refine ig rfl rfl (fB rfl ?_)
  apply aN (s := 113) rfl rfl rfl
  ·intro hg; apply aO; (refine aR rfl rfl rfl rfl rfl (by decide) ?_); refine aD ?_; exact rfl
  ·exact rfl
  ·exact rfl
  apply aN (s := 113) rfl rfl rfl
  ·intro hg; apply aL (s := 114) rfl (by (rw [hg]; rfl)); apply aO; (refine aY rfl rfl (by decide) rfl rfl rfl ?_); refine aD ?_; exact rfl
  ·exact rfl
  ·exact rfl
  apply aN (s := 113) rfl rfl rfl
  ·intro hg; apply aO; (refine aH rfl rfl rfl rfl rfl (by decide) ?_); refine aD ?_; exact rfl
  ·exact rfl
  ·exact rfl
  apply aN (s := 113) rfl rfl rfl
  ·intro hg; apply aL (s := 116) rfl (by (rw [hg]; rfl)); apply aO; (refine aI rfl rfl rfl rfl ?_); refine aD ?_; exact rfl
  ·exact rfl
  ·exact rfl
  apply aN (s := 113) rfl rfl rfl
  ·intro hg; apply aL (s := 117) rfl (by (rw [hg]; rfl)); apply aO; (refine cK rfl rfl rfl ?_); refine aD ?_; exact rfl
  ·exact rfl
  ·exact rfl
  apply aN (s := 113) rfl rfl rfl
  ·intro hg; apply aL (s := 118) rfl (by (rw [hg]; rfl)); apply aO; (refine gR rfl rfl (by omega) (by omega) ?_); refine aD ?_; exact rfl
  ·exact rfl
  ·exact rfl
  apply aN (s := 113) rfl rfl rfl
  ·intro hg; apply aL (s := 115) rfl (by (rw [hg]; rfl)); apply aL (s := 119) rfl (by (rw [hg]; rfl)); apply aO; (refine af (mE _ _ _) rfl rfl rfl rfl rfl ?_); refine aD ?_; exact rfl
  ·exact rfl
  ·exact rfl
  refine ig rfl rfl (dA rfl (aD (aC (aE (aA (fB rfl (fB rfl ?_)))))))
  apply aN (s := 123) rfl rfl rfl
  ·intro hg; apply aO; (refine aR rfl rfl rfl rfl rfl (by decide) ?_); refine aD ?_; exact rfl
  ·exact rfl
  ·exact rfl
  apply aN (s := 123) rfl rfl rfl
  ·intro hg; apply aL (s := 124) rfl (by (rw [hg]; rfl)); apply aO; (refine aY rfl rfl (by decide) rfl rfl rfl ?_); refine aD ?_; exact rfl
  ·exact rfl
  ·exact rfl
  apply aN (s := 123) rfl rfl rfl
  ·intro hg; apply aO; (refine aR rfl rfl rfl rfl rfl (by decide) ?_); refine aD ?_; exact rfl
  ·exact rfl
  ·exact rfl
  apply aN (s := 123) rfl rfl rfl
  ·intro hg; apply aL (s := 126) rfl (by (rw [hg]; rfl)); apply aO; (refine aY rfl rfl (by decide) rfl rfl rfl ?_); refine aD ?_; exact rfl
  ·exact rfl
  ·exact rfl
  apply aN (s := 123) rfl rfl rfl
  ·intro hg; apply aL (s := 125) rfl (by (rw [hg]; rfl)); apply aL (s := 127) rfl (by (rw [hg]; rfl)); apply aO; (refine bB rfl rfl rfl ?_); refine aD ?_; exact rfl
  ·exact rfl
  ·exact rfl
  refine ig rfl rfl (dA rfl (aD (aC (aA (fB rfl (fB rfl ?_))))))
  apply aN (s := 131) rfl rfl rfl
  ·intro hg; apply aO; (refine aR rfl rfl rfl rfl rfl (by decide) ?_); refine aD ?_; exact rfl
  ·exact rfl
  ·exact rfl
  apply aN (s := 131) rfl rfl rfl
  ·intro hg; apply aL (s := 132) rfl (by (rw [hg]; rfl)); apply aO; (refine aR rfl rfl rfl rfl rfl (by decide) ?_); refine aD ?_; exact rfl
  ·exact rfl
  ·exact rfl
  apply aN (s := 131) rfl rfl rfl
  ·intro hg; apply aL (s := 133) rfl (by (rw [hg]; rfl)); apply aO; (refine aY rfl rfl (by decide) rfl rfl rfl ?_); refine aD ?_; exact rfl
  ·exact rfl
  ·exact rfl
  apply aN (s := 131) rfl rfl rfl
  ·intro hg; apply aO; (refine aR rfl rfl rfl rfl rfl (by decide) ?_); refine aD ?_; exact rfl
  ·exact rfl
  ·exact rfl
  apply aN (s := 131) rfl rfl rfl
  ·intro hg; apply aL (s := 135) rfl (by (rw [hg]; rfl)); apply aO; (refine aR rfl rfl rfl rfl rfl (by decide) ?_); refine aD ?_; exact rfl
  ·exact rfl
  ·exact rfl
  apply aN (s := 131) rfl rfl rfl
  ·intro hg; apply aL (s := 136) rfl (by (rw [hg]; rfl)); apply aO; (refine aY rfl rfl (by decide) rfl rfl rfl ?_); refine aD ?_; exact rfl
  ·exact rfl
  ·exact rfl
  apply aN (s := 131) rfl rfl rfl
  ·intro hg; apply aL (s := 134) rfl (by (rw [hg]; rfl)); apply aL (s := 137) rfl (by (rw [hg]; rfl)); apply aO; (refine bB rfl rfl rfl ?_); refine aD ?_; exact rfl
  ·exact rfl
  ·exact rfl
  refine ig rfl rfl (dA rfl (aD (bI (aC (aA (bG rfl ?_))))))
  refine cA rfl rfl (by omega) (by omega) ?_
  refine bk rfl (aD ?_)
  refine bO (⟨m.1 + 1, by omega⟩) ?_ (by show y.moves.length - (m.1 + 1) < y.moves.length - m.1; omega)
  (refine cx.mk' ?_ ?_ <;> (repeat' (first | exact aJ | exact aK | refine aB ?_ (Ty.aU _) | refine aB ?_ (Ty.aF _) | refine aB ?_ ?_)))
  all_goals skip
  all_goals first | exact Ty.dm ((Bool.or_assoc _ _ _).trans (congrArg (y.bins.any uR || ·) (gz (p := y9) (by omega)))) | exact Ty.dm ((Bool.or_assoc _ _ _).trans (congrArg (y.bins.any BK || ·) (gz (p := Ge) (by omega)))) | exact Ty.dm ((QS _ _ _ _).trans (gz (p := notM y) (by omega))) | exact Ty.dm (gz (p := MS) (by omega))
 refine cE (aP (aP (aa rfl (aC (aE (aE (aA (bk rfl (aD ?_)))))))))
 refine aC (aZ ?_)
 refine cF (fun (n : {k : Nat // k ≤ y.levels.length}) => live [(1, Ty.pp (bH y)), (3, Ty.bool ((y.bins.any uR || y.moves.any y9) || mF D8 y.levels n.1)), (4, Ty.bool (y.moves.any (notM y) || mF (KU y) y.levels n.1)), (5, Ty.bool (NA y)), (6, Ty.bool ((y.bins.any BK || y.moves.any Ge) || mF LN y.levels n.1)), (10, Ty.int .i64 (n.1 : Nat))] []) (fun n => y.levels.length - n.1) (⟨0, by omega⟩) ?_ fun n => ?_
 ·(refine cx.mk' ?_ ?_ <;> (repeat' (first | exact aJ | exact aK | refine aB ?_ (Ty.aU _) | refine aB ?_ (Ty.aF _) | refine aB ?_ ?_)))
  all_goals first | exact Ty.dm ((congrArg (_ || ·) (fE hc3)).trans (Bool.or_false _).symm) | exact Ty.dm ((fE hc3).trans (Bool.or_false _).symm) | exact Ty.dm (fE hc3)
 have hn := n.2
 refine aE (aE (aA (bG rfl ?_)))
 refine aH rfl rfl rfl rfl rfl (by decide) ?_
 refine aI rfl rfl rfl rfl (cK rfl rfl rfl (bB rfl rfl rfl (aD (aC ?_))))
 refine aj rfl (fun hc4 => ?_) (fun hc4 => ?_)
 ·
  refine aq (aC (aE (aZ (aE (aA ?_)))))
  refine aH rfl rfl rfl rfl rfl (by decide) ?_
  refine aI rfl rfl rfl rfl (bG rfl ?_)
  refine av rfl rfl rfl rfl rfl rfl (by omega) ?_
  refine aX rfl rfl rfl (by exact Nat.le_of_ble_eq_true rfl) ?_
  refine bp rfl (by exact List.cons_ne_nil _ _) rfl ?_
  refine bZ rfl rfl (by decide) rfl rfl rfl rfl rfl rfl ?_
  refine aD (aC (aE (aA (fB rfl (fB rfl ?_)))))
  apply aN (s := 153) rfl rfl rfl
  ·intro hg; apply aO; (refine aR rfl rfl rfl rfl rfl (by decide) ?_); refine aD ?_; exact rfl
  ·exact rfl
  ·exact rfl
  apply aN (s := 153) rfl rfl rfl
  ·intro hg; apply aL (s := 154) rfl (by (rw [hg]; rfl)); apply aO; (refine bz rfl rfl (by decide) rfl rfl (by exact Nat.le_of_ble_eq_true rfl) ?_); refine aD ?_; exact rfl
  ·exact rfl
  ·exact rfl
  apply aN (s := 153) rfl rfl rfl
  ·intro hg; apply aL (s := 155) rfl (by (rw [hg]; rfl)); apply aO; (refine af (zy _) rfl rfl rfl rfl rfl ?_); refine aD ?_; exact rfl
  ·exact rfl
  ·exact rfl
  refine ig rfl rfl (dA rfl (aD (aC (aE (aA (fB rfl (fB rfl ?_)))))))
  apply aN (s := 159) rfl rfl rfl
  ·intro hg; apply aO; (refine aR rfl rfl rfl rfl rfl (by decide) ?_); refine aD ?_; exact rfl
  ·exact rfl
  ·exact rfl
  apply aN (s := 159) rfl rfl rfl
  ·intro hg; apply aL (s := 160) rfl (by (rw [hg]; rfl)); apply aO; (refine aY rfl rfl (by decide) rfl rfl rfl ?_); refine aD ?_; exact rfl
  ·exact rfl
  ·exact rfl
  apply aN (s := 159) rfl rfl rfl
  ·intro hg; apply aO; (refine aH rfl rfl rfl rfl rfl (by decide) ?_); refine aD ?_; exact rfl
  ·exact rfl
  ·exact rfl
  apply aN (s := 159) rfl rfl rfl
  ·intro hg; apply aL (s := 162) rfl (by (rw [hg]; rfl)); apply aO; (refine aI rfl rfl rfl rfl ?_); refine aD ?_; exact rfl
  ·exact rfl
  ·exact rfl
  apply aN (s := 159) rfl rfl rfl
  ·intro hg; apply aL (s := 161) rfl (by (rw [hg]; rfl)); apply aL (s := 163) rfl (by (rw [hg]; rfl)); apply aO; (refine af (mE _ _ _) rfl rfl rfl rfl rfl ?_); refine aD ?_; exact rfl
  ·exact rfl
  ·exact rfl
  refine ig rfl rfl (fB rfl ?_)
  apply aN (s := 166) rfl rfl rfl
  ·intro hg; apply aO; (refine aR rfl rfl rfl rfl rfl (by decide) ?_); refine aD ?_; exact rfl
  ·exact rfl
  ·exact rfl
  apply aN (s := 166) rfl rfl rfl
  ·intro hg; apply aL (s := 167) rfl (by (rw [hg]; rfl)); apply aO; (refine aY rfl rfl (by decide) rfl rfl rfl ?_); refine aD ?_; exact rfl
  ·exact rfl
  ·exact rfl
  apply aN (s := 166) rfl rfl rfl
  ·intro hg; apply aO; (refine aH rfl rfl rfl rfl rfl (by decide) ?_); refine aD ?_; exact rfl
  ·exact rfl
  ·exact rfl
  apply aN (s := 166) rfl rfl rfl
  ·intro hg; apply aL (s := 169) rfl (by (rw [hg]; rfl)); apply aO; (refine aI rfl rfl rfl rfl ?_); refine aD ?_; exact rfl
  ·exact rfl
  ·exact rfl
  apply aN (s := 166) rfl rfl rfl
  ·intro hg; apply aL (s := 170) rfl (by (rw [hg]; rfl)); apply aO; (refine cK rfl rfl rfl ?_); refine aD ?_; exact rfl
  ·exact rfl
  ·exact rfl
  apply aN (s := 166) rfl rfl rfl
  ·intro hg; apply aL (s := 171) rfl (by (rw [hg]; rfl)); apply aO; (refine gR rfl rfl (by omega) (by omega) ?_); refine aD ?_; exact rfl
  ·exact rfl
  ·exact rfl
  apply aN (s := 166) rfl rfl rfl
  ·intro hg; apply aL (s := 168) rfl (by (rw [hg]; rfl)); apply aL (s := 172) rfl (by (rw [hg]; rfl)); apply aO; (refine af (mE _ _ _) rfl rfl rfl rfl rfl ?_); refine aD ?_; exact rfl
  ·exact rfl
  ·exact rfl
  refine ig rfl rfl (dA rfl (aD (aC (aA (fB rfl (fB rfl ?_))))))
  apply aN (s := 176) rfl rfl rfl
  ·intro hg; apply aO; (refine aR rfl rfl rfl rfl rfl (by decide) ?_); refine aD ?_; exact rfl
  ·exact rfl
  ·exact rfl
  apply aN (s := 176) rfl rfl rfl
  ·intro hg; apply aL (s := 177) rfl (by (rw [hg]; rfl)); apply aO; (refine aR rfl rfl rfl rfl rfl (by decide) ?_); refine aD ?_; exact rfl
  ·exact rfl
  ·exact rfl
  apply aN (s := 176) rfl rfl rfl
  ·intro hg; apply aL (s := 178) rfl (by (rw [hg]; rfl)); apply aO; (refine aY rfl rfl (by decide) rfl rfl rfl ?_); refine aD ?_; exact rfl
  ·exact rfl
  ·exact rfl
  apply aN (s := 176) rfl rfl rfl
  ·intro hg; apply aO; (refine aR rfl rfl rfl rfl rfl (by decide) ?_); refine aD ?_; exact rfl
  ·exact rfl
  ·exact rfl
  apply aN (s := 176) rfl rfl rfl
  ·intro hg; apply aL (s := 180) rfl (by (rw [hg]; rfl)); apply aO; (refine aR rfl rfl rfl rfl rfl (by decide) ?_); refine aD ?_; exact rfl
  ·exact rfl
  ·exact rfl
  apply aN (s := 176) rfl rfl rfl
  ·intro hg; apply aL (s := 181) rfl (by (rw [hg]; rfl)); apply aO; (refine aY rfl rfl (by decide) rfl rfl rfl ?_); refine aD ?_; exact rfl
  ·exact rfl
  ·exact rfl
  apply aN (s := 176) rfl rfl rfl
  ·intro hg; apply aL (s := 179) rfl (by (rw [hg]; rfl)); apply aL (s := 182) rfl (by (rw [hg]; rfl)); apply aO; (refine bB rfl rfl rfl ?_); refine aD ?_; exact rfl
  ·exact rfl
  ·exact rfl
  refine ig rfl rfl (dA rfl (aD (bI (aC (aA (bG rfl ?_))))))
  refine cA rfl rfl (by omega) (by omega) ?_
  refine bk rfl (aD ?_)
  refine bO (⟨n.1 + 1, by omega⟩) ?_ (by show y.levels.length - (n.1 + 1) < y.levels.length - n.1; omega)
  (refine cx.mk' ?_ ?_ <;> (repeat' (first | exact aJ | exact aK | refine aB ?_ (Ty.aU _) | refine aB ?_ (Ty.aF _) | refine aB ?_ ?_)))
  all_goals skip
  all_goals first | exact Ty.dm ((Bool.or_assoc _ _ _).trans (congrArg ((y.bins.any uR || y.moves.any y9) || ·) (gz (p := D8) (by omega)))) | exact Ty.dm ((Bool.or_assoc _ _ _).trans (congrArg ((y.bins.any BK || y.moves.any Ge) || ·) (gz (p := LN) (by omega)))) | exact Ty.dm ((QB _ _ _ _).trans (congrArg (y.moves.any (notM y) || ·) (gz (p := KU y) (by omega))))
 refine cE (aP (aP (aa rfl (aC (aE (aE (aA (fB rfl (aD ?_)))))))))
 refine aC ?_
 refine cI rfl (fun hc5 => ?_) (fun hc5 => ?_)
 ·
  refine aE (aA (bk rfl (aD (aC (ay (aS (bP rfl rfl ?_)))))))
  all_goals skip
  exact az rfl rfl (congrArg (Ty.int .i64) (P0 hc1 hc5 (congrArg (_ || ·) (fE hc4))))
 refine aq (aC (aE (aE (aA (fB rfl (aD (aC ?_)))))))
 refine cI rfl (fun hc6 => ?_) (fun hc6 => ?_)
 ·
  refine aE (aA (bk rfl (aD (aC (ay (aS (bP rfl rfl ?_)))))))
  all_goals skip
  exact az rfl rfl (congrArg (Ty.int .i64) (Pt hc1 hc5 (congrArg (_ || ·) (fE hc4)) hc6 (congrArg (_ || ·) (fE hc4))))
 refine aq (aC (aE (aE (aA (fB rfl (aD (aC ?_)))))))
 refine cI rfl (fun hc7 => ?_) (fun hc7 => ?_)
 ·
  refine aE (aA (bk rfl (aD (aC (ay (aS (bP rfl rfl ?_)))))))
  all_goals skip
  exact az rfl rfl (congrArg (Ty.int .i64) (Po hc1 hc5 (congrArg (_ || ·) (fE hc4)) hc6 (congrArg (_ || ·) (fE hc4)) hc7 rfl))
 refine aq (aC (aE (aE (aA (fB rfl (aD (aC ?_)))))))
 refine cI rfl (fun hc8 => ?_) (fun hc8 => ?_)
 ·
  refine aE (aA (bk rfl (aD (aC (ay (aS (bP rfl rfl ?_)))))))
  all_goals skip
  exact az rfl rfl (congrArg (Ty.int .i64) (Pn hc1 hc5 (congrArg (_ || ·) (fE hc4)) hc6 (congrArg (_ || ·) (fE hc4)) hc7 rfl hc8 (congrArg (_ || ·) (fE hc4))))
 refine aq (aC (aE (aA (bk rfl (aD (aC (ay (bP rfl rfl ?_))))))))
 all_goals skip
 exact az rfl rfl (congrArg (Ty.int .i64) (Pk hc1 hc5 (congrArg (_ || ·) (fE hc4)) hc6 (congrArg (_ || ·) (fE hc4)) hc7 rfl hc8 (congrArg (_ || ·) (fE hc4))))
end Go.Proofs.YtelbollidfdcjaaGreat
namespace Go.Proofs.YtelbollidfdcjaaGreat
open Go Go.T
set_option maxHeartbeats 6000000
section
variable {y : ak} {l : Level}
end
section
variable {y : ak} {m : Move}
end
attribute [local irreducible] bL
attribute [local irreducible] gA eU lH nR gy gl g5 gr g9 nU gx nZ dN fS nJ ff nQ nth fI dQ au dK bodyPost Exit.then Exit.inBlock Code.wp Code.wpIn nY gm oC n9 g7 eM cJ cH bodyPostM dP
end Go.Proofs.YtelbollidfdcjaaGreat
namespace Go.Proofs.YtelbollidfdcjaaGreat
open Go Go.T
section
variable {y : ak} {c : Nat → Bool} {a : dY} {l : Level} {b t k : Nat} {s s' : Span} {f : dY → Int}
theorem Ig {i : Nat} (h : i < 8) : nth bY i = true := by
 unfold bY; rw [fY (by rw [List.length_replicate]; exact h), List.getElem_replicate]
theorem lY (hr : y.cG) : eO y (nth bY) a ↔ eO y (fun _ => true) a := by
 have h8 := hr.levels
 refine ⟨fun h => ⟨h.lens, h.first, h.cont, h.b8, fun i hi _ => h.level i hi (Ig (by omega))⟩, fun h => ⟨h.lens, h.first, h.cont, h.b8, fun i hi _ => h.level i hi rfl⟩⟩
structure QE (y : ak) (l : Level) : Prop where
  day : 0 ≤ l.day ∧ l.day ≤ y.days
  bin : 0 ≤ l.bin ∧ l.bin < y.bins.length
  num : 0 ≤ l.sacks.lo ∧ l.sacks.hi ≤ 300
  ord : l.sacks.lo ≤ l.sacks.hi
theorem xL.le {y' : ak} {c' : Nat → Bool} {g : dY → Int} (h : xL y c f s) (h' : xL y' c' g s') (sub : ∀ a, eO y' c' a → eO y c a ∧ g a = f a) : s.lo ≤ s'.lo ∧ s'.hi ≤ s.hi := by
 obtain ⟨a1, f1, e1⟩ := h'.lo
 obtain ⟨a2, f2, e2⟩ := h'.hi
 have h1 := h.all a1 (sub a1 f1).1
 have h2 := h.all a2 (sub a2 f2).1
 rw [← (sub a1 f1).2] at h1
 rw [← (sub a2 f2).2] at h2
 omega
structure yS (y z : ak) : Prop where
  days : z.days = y.days
  bins : z.bins = y.bins
  moves : z.moves = y.moves
  less : ∀ a, eO z (fun _ => true) a → eO y (fun _ => true) a
variable {z : ak}
theorem yS.D (h : yS y z) : z.D = y.D := by unfold ak.D; rw [h.days]
theorem yS.cont (h : yS y z) : dB z a b t = dB y a b t := by unfold dB qT; rw [h.moves]
theorem yS.fits (h : yS y z) (hy : y.cG) (hz : z.cG) (ha : eO z (nth bY) a) : eO y (nth bY) a := (lY hy).2 (h.less a ((lY hz).1 ha))
end
end Go.Proofs.YtelbollidfdcjaaGreat
namespace Go.Proofs.YtelbollidfdcjaaGreat
open Go Go.T
section
variable {y : ak} {b t : Nat} {v : Int} {p q : Int}
end
end Go.Proofs.YtelbollidfdcjaaGreat
namespace Go.Proofs.YtelbollidfdcjaaGreat
open Go Go.T
section
variable {fl : List bu} {a x1 x2 : List Int} {n k : Nat} {v : Int}
end
section
variable {y : ak} {b t : Nat} {v : Int}
end
end Go.Proofs.YtelbollidfdcjaaGreat
namespace Go.Proofs.YtelbollidfdcjaaGreat
open Go Go.T
def c7 : List Int → List Int → Nat
  | l :: ls, h :: hs => (h - l + 1).toNat * c7 ls hs
  | _, _ => 1
def HC : List Int → List Int → Nat → List Int
  | l :: ls, h :: hs, k => (l + (k / c7 ls hs : Nat)) :: HC ls hs (k % c7 ls hs)
  | _, _, _ => []
def jL : List Int → List Int → List Int → Nat
  | l :: ls, h :: hs, x :: xs => (x - l).toNat * c7 ls hs + jL ls hs xs
  | _, _, _ => 0
def ql : List Int → List Int → List Int → Prop
  | [], [], [] => True
  | l :: ls, h :: hs, x :: xs => (l ≤ x ∧ x ≤ h) ∧ ql ls hs xs
  | _, _, _ => False
def jB : List Int → List Int → Prop
  | [], [] => True
  | l :: ls, h :: hs => l ≤ h ∧ jB ls hs
  | _, _ => False
theorem size_pos : ∀ {lo hi : List Int}, jB lo hi → 0 < c7 lo hi
  | [], [], _ => Nat.one_pos
  | l :: ls, h :: hs, ⟨h1, h2⟩ => by
    have := size_pos h2
    unfold c7
    exact Nat.mul_pos (by omega) this
theorem wD : ∀ {lo hi x : List Int}, ql lo hi x → x.length = lo.length ∧ hi.length = lo.length
  | [], [], [], _ => ⟨rfl, rfl⟩
  | _ :: _, _ :: _, _ :: _, ⟨_, h⟩ => by have := wD h; simp only [List.length_cons]; omega
theorem E1 : ∀ {lo hi : List Int}, jB lo hi → ql lo hi lo
  | [], [], _ => trivial
  | _ :: _, _ :: _, ⟨h1, h2⟩ => ⟨⟨Int.le_refl _, h1⟩, E1 h2⟩
theorem tA : ∀ {lo hi : List Int} (_ : jB lo hi) {k : Nat}, k < c7 lo hi → ql lo hi (HC lo hi k) ∧ jL lo hi (HC lo hi k) = k
  | [], [], _, k, hk => ⟨trivial, by unfold c7 at hk; show 0 = k; omega⟩
  | l :: ls, h :: hs, ⟨h1, h2⟩, k, hk => by
    have hp := size_pos h2
    unfold c7 at hk
    have hq : k / c7 ls hs < (h - l + 1).toNat := (Nat.div_lt_iff_lt_mul hp).2 hk
    obtain ⟨g1, g2⟩ := tA h2 (k := k % c7 ls hs) (Nat.mod_lt _ hp)
    have hin : l ≤ l + (k / c7 ls hs : Nat) ∧ l + (k / c7 ls hs : Nat) ≤ h := by
      generalize k / c7 ls hs = q at hq
      omega
    refine ⟨⟨hin, g1⟩, ?_⟩
    show (l + (k / c7 ls hs : Nat) - l).toNat * c7 ls hs + jL ls hs (HC ls hs (k % c7 ls hs)) = k
    rw [g2, show l + ((k / c7 ls hs : Nat) : Int) - l = ((k / c7 ls hs : Nat) : Int) by omega, Int.toNat_natCast, Nat.mul_comm]
    exact Nat.div_add_mod _ _
theorem ni : ∀ {lo hi x : List Int}, ql lo hi x → jL lo hi x < c7 lo hi
  | [], [], [], _ => Nat.one_pos
  | l :: ls, h :: hs, x :: xs, ⟨h1, h2⟩ => by
    have ih := ni h2
    show (x - l).toNat * c7 ls hs + jL ls hs xs < (h - l + 1).toNat * c7 ls hs
    have : ((x - l).toNat + 1) * c7 ls hs ≤ (h - l + 1).toNat * c7 ls hs := Nat.mul_le_mul_right _ (by omega)
    rw [Nat.succ_mul] at this; omega
theorem Ce : ∀ {lo hi x x' : List Int}, ql lo hi x → ql lo hi x' → jL lo hi x = jL lo hi x' → x = x'
  | [], [], [], [], _, _, _ => rfl
  | l :: ls, h :: hs, x :: xs, x' :: xs', ⟨h1, h2⟩, ⟨h1', h2'⟩, e => by
    have e : (x - l).toNat * c7 ls hs + jL ls hs xs = (x' - l).toNat * c7 ls hs + jL ls hs xs' := e
    obtain ⟨a, b⟩ := o9 (ni h2) (ni h2') e
    rw [Ce h2 h2' b]
    congr 1; omega
theorem xF {lo hi x : List Int} (hr : jB lo hi) (h : ql lo hi x) : HC lo hi (jL lo hi x) = x := by
 obtain ⟨a, b⟩ := tA hr (ni h)
 exact Ce a h b
theorem AI : ∀ {lo hi : List Int}, jB lo hi → jL lo hi lo = 0
  | [], [], _ => rfl
  | l :: ls, h :: hs, ⟨_, h2⟩ => by show (l - l).toNat * c7 ls hs + jL ls hs ls = 0; rw [AI h2, Int.sub_self]; simp
theorem zc : ∀ {lo hi : List Int}, jB lo hi → jL lo hi hi + 1 = c7 lo hi
  | [], [], _ => rfl
  | l :: ls, h :: hs, ⟨h1, h2⟩ => by
    have ih := zc h2
    show (h - l).toNat * c7 ls hs + jL ls hs hs + 1 = (h - l + 1).toNat * c7 ls hs
    rw [show (h - l + 1).toNat = (h - l).toNat + 1 by omega, Nat.succ_mul]; omega
def j3 (lo x : List Int) (k : Nat) : List Int := x.take k ++ lo.drop k
theorem yX : ∀ {lo hi x : List Int} {k : Nat}, jB lo hi → ql lo hi x → k < x.length → x.drop (k + 1) = hi.drop (k + 1) → nth x k ≠ nth hi k →
    ql lo hi ((j3 lo x (k + 1)).set k (nth x k + 1)) ∧ jL lo hi ((j3 lo x (k + 1)).set k (nth x k + 1)) = jL lo hi x + 1
  | [], [], [], _, _, _, hk, _, _ => absurd hk (Nat.not_lt_zero _)
  | l :: ls, h :: hs, x :: xs, 0, ⟨h1, h2⟩, ⟨h3, h4⟩, _, he, hn => by
    have he : xs = hs := he
    have hn : x ≠ h := hn
    subst he
    refine ⟨⟨⟨by show l ≤ x + 1; omega, by show x + 1 ≤ h; omega⟩, E1 h2⟩, ?_⟩
    show (x + 1 - l).toNat * c7 ls xs + jL ls xs ls = (x - l).toNat * c7 ls xs + jL ls xs xs + 1
    have := zc h2
    rw [AI h2, show (x + 1 - l).toNat = (x - l).toNat + 1 by omega, Nat.succ_mul]; omega
  | l :: ls, h :: hs, x :: xs, k + 1, ⟨h1, h2⟩, ⟨h3, h4⟩, hk, he, hn => by
    obtain ⟨a, b⟩ := yX h2 h4 (k := k) (by simp only [List.length_cons] at hk; omega) he hn
    refine ⟨⟨h3, a⟩, ?_⟩
    show (x - l).toNat * c7 ls hs + jL ls hs ((j3 ls xs (k + 1)).set k (nth xs k + 1)) = (x - l).toNat * c7 ls hs + jL ls hs xs + 1
    rw [b]; omega
section
variable {lo hi x : List Int} {k : Nat}
theorem LG (hr : jB lo hi) (hk : k < c7 lo hi) {i : Nat} (hx : HC lo hi k = x) (hi' : i < x.length) (he : x.drop (i + 1) = hi.drop (i + 1)) (hn : nth x i ≠ nth hi i) : k + 1 < c7 lo hi ∧ (j3 lo x (i + 1)).set i (nth x i + 1) = HC lo hi (k + 1) := by
 obtain ⟨a, b⟩ := tA hr hk
 rw [hx] at a b
 obtain ⟨c, d⟩ := yX hr a hi' he hn
 have := ni c
 rw [d, b] at this
 exact ⟨this, by rw [← xF hr c, d, b]⟩
theorem K6 (hr : jB lo hi) (hk : k < c7 lo hi) (he : HC lo hi k = hi) : k + 1 = c7 lo hi := by
 have b := (tA hr hk).2
 rw [he] at b
 rw [← b]; exact zc hr
theorem MK (h : x.length = lo.length) (hk : k ≤ x.length) : (j3 lo x k).length = x.length := by
 unfold j3; rw [List.length_append, List.length_take, List.length_drop]; omega
theorem Lt (h : x.length = lo.length) : x = j3 lo x x.length := by
 unfold j3; rw [List.take_length, List.drop_of_length_le (by omega), List.append_nil]
theorem LL (hk : k < x.length) : nth (j3 lo x (k + 1)) k = nth x k := by
 unfold j3
 rw [gS (by rw [List.length_take]; omega)]
 unfold nth
 rw [List.getD_eq_getElem?_getD, List.getD_eq_getElem?_getD, List.getElem?_take, if_pos (Nat.lt_succ_self k)]
theorem LJ (h : x.length = lo.length) (hk : k < x.length) : (j3 lo x (k + 1)).set k (nth lo k) = j3 lo x k := by
 unfold j3
 have e1 : x.take (k + 1) = x.take k ++ [nth x k] := by rw [fY hk]; exact List.take_succ_eq_append_getElem hk
 have e2 : lo.drop k = nth lo k :: lo.drop (k + 1) := by rw [fY (by omega)]; exact List.drop_eq_getElem_cons (by omega)
 rw [e1, e2, List.append_assoc, List.set_append_right _ _ (by rw [List.length_take]; omega), List.length_take, Nat.min_eq_left (by omega), Nat.sub_self]
 rfl
theorem Hi (h : hi.length = x.length) (hk : k < x.length) (he : x.drop (k + 1) = hi.drop (k + 1)) (hn : nth x k = nth hi k) : x.drop k = hi.drop k := by
 rw [List.drop_eq_getElem_cons hk, List.drop_eq_getElem_cons (show k < hi.length by omega), he, ← fY hk, ← fY (show k < hi.length by omega), hn]
end
def jU (s : Span) (n : Int) (is : Bool) : Span := if is = true then ⟨min s.lo n, max s.hi n⟩ else ⟨n, n⟩
structure MB (good : Nat → Prop) (v : Nat → Int) (k : Nat) (s : Span) : Prop where
  lo : ∃ j, j < k ∧ good j ∧ v j = s.lo
  hi : ∃ j, j < k ∧ good j ∧ v j = s.hi
  all : ∀ j, j < k → good j → s.lo ≤ v j ∧ v j ≤ s.hi
theorem FA {good : Nat → Prop} {v : Nat → Int} {s : Nat → Span} {is : Nat → Bool} {n : Nat} (h0 : is 0 = false) (h1 : ∀ k, k < n → good k → is (k + 1) = true ∧ s (k + 1) = jU (s k) (v k) (is k)) (h2 : ∀ k, k < n → ¬ good k → is (k + 1) = is k ∧ s (k + 1) = s k) :
    ∀ k, k ≤ n → (is k = true ↔ ∃ j, j < k ∧ good j) ∧ (is k = true → MB good v k (s k))
  | 0, _ => ⟨⟨fun h => (by rw [h0] at h; cases h), fun ⟨j, hj, _⟩ => absurd hj (Nat.not_lt_zero j)⟩, fun h => by rw [h0] at h; cases h⟩
  | k + 1, hk => by
    obtain ⟨ih1, ih2⟩ := FA h0 h1 h2 k (by omega)
    by_cases hg : good k
    · obtain ⟨e1, e2⟩ := h1 k (by omega) hg
      refine ⟨⟨fun _ => ⟨k, Nat.lt_succ_self k, hg⟩, fun _ => e1⟩, fun _ => ?_⟩
      rw [e2]
      unfold jU
      cases e : is k with
      | false =>
        have hno : ∀ j, j < k → ¬ good j := fun j hj hgj => by rw [ih1.2 ⟨j, hj, hgj⟩] at e; cases e
        refine ⟨⟨k, Nat.lt_succ_self k, hg, rfl⟩, ⟨k, Nat.lt_succ_self k, hg, rfl⟩, fun j hj hgj => ?_⟩
        rcases Nat.lt_succ_iff_lt_or_eq.1 hj with h | h
        · exact absurd hgj (hno j h)
        · rw [h]; exact ⟨Int.le_refl _, Int.le_refl _⟩
      | true =>
        obtain ⟨⟨a, ha, ga, ea⟩, ⟨b, hb, gb, eb⟩, hall⟩ := ih2 e
        refine ⟨?_, ?_, fun j hj hgj => ?_⟩
        · show ∃ j, j < k + 1 ∧ good j ∧ v j = min (s k).lo (v k)
          by_cases c : (s k).lo ≤ v k
          · exact ⟨a, by omega, ga, by rw [ea]; omega⟩
          · exact ⟨k, by omega, hg, by omega⟩
        · show ∃ j, j < k + 1 ∧ good j ∧ v j = max (s k).hi (v k)
          by_cases c : v k ≤ (s k).hi
          · exact ⟨b, by omega, gb, by rw [eb]; omega⟩
          · exact ⟨k, by omega, hg, by omega⟩
        · show min (s k).lo (v k) ≤ v j ∧ v j ≤ max (s k).hi (v k)
          rcases Nat.lt_succ_iff_lt_or_eq.1 hj with h | h
          · have := hall j h hgj; omega
          · rw [h]; omega
    · obtain ⟨e1, e2⟩ := h2 k (by omega) hg
      have hne : ∀ j, j < k + 1 → good j → j < k := fun j hj hgj => by
        rcases Nat.lt_succ_iff_lt_or_eq.1 hj with h | h
        · exact h
        · subst h; exact absurd hgj hg
      rw [e1, e2]
      refine ⟨⟨fun h => ?_, fun ⟨j, hj, hgj⟩ => ih1.2 ⟨j, hne j hj hgj, hgj⟩⟩, fun h => ?_⟩
      · obtain ⟨j, hj, hgj⟩ := ih1.1 h; exact ⟨j, by omega, hgj⟩
      · obtain ⟨⟨a, ha, ga, ea⟩, ⟨b, hb, gb, eb⟩, hall⟩ := ih2 h
        exact ⟨⟨a, by omega, ga, ea⟩, ⟨b, by omega, gb, eb⟩, fun j hj hgj => hall j (hne j hj hgj) hgj⟩
end Go.Proofs.YtelbollidfdcjaaGreat
namespace Go.Proofs.YtelbollidfdcjaaGreat
open Go Go.T
section
variable {y : ak} {a : dY} {b d i k : Nat} {f g : Nat → List Int} {n : Nat}
structure oO (y : ak) (a : dY) : Prop where
  lens : xY y a
  first : ∀ x ∈ a.first, 0 ≤ x ∧ x ≤ 300
  b8 : ∀ x ∈ a.b8, 0 ≤ x ∧ x ≤ 300
theorem K8 (hr : y.cG) (h : oO y a) (hi : i < y.moves.length) : -300 ≤ qT y a.b8 b i ∧ qT y a.b8 b i ≤ 300 := by
 have hm := h.b8 _ (cW (show i < a.b8.length by rw [h.lens.b8]; exact hi))
 have hne := (hr.move _ (cW hi)).2.2.2.1
 unfold qT
 by_cases e1 : (nth y.moves i).dst = b
 ·rw [fQ e1, ew (fun e2 => hne (e2.trans e1.symm))]; omega
 rw [ew e1]
 by_cases e2 : (nth y.moves i).src = b
 ·rw [fQ e2]; omega
 rw [ew e2]; omega
theorem Jl (hr : y.cG) (h : oO y a) (hb : b < y.bins.length) : -3000 ≤ dB y a b d ∧ dB y a b d ≤ 3300 := by
 have h1 := h.first _ (cW (show b < a.first.length by rw [h.lens.first]; exact hb))
 have h2 := pI (f := fun i => if (nth y.moves i).day < d then qT y a.b8 b i else 0) (b := 300) (n := y.moves.length) fun i hi => by
  have := K8 (b := b) hr h hi
  split <;> omega
 have h3 := hr.moves
 unfold dB
 omega
end
end Go.Proofs.YtelbollidfdcjaaGreat
namespace Go.T
open Go Go.RowKit
def L3 (tg o n r : Nat) (_ : World) (M : bA) (v : Value) : Prop := ∃ b o' c, M b = some tg ∧ v = .slice (some ⟨b, o', none⟩) n c ∧ n + r ≤ c ∧ c ≤ maxLen ∧ (0 < n + r → o' = o)
def Ty.win (tg o n r : Nat) : Ty := ⟨L3 tg o n r, [tg], [], fun le hk _ ⟨b, o', c, h, e, h1, h2, h3⟩ => ⟨b, o', c, (le.own b tg h (hk tg (by simp))).1, e, h1, h2, h3⟩, true, fun _ ⟨_, _, _, _, e, _⟩ => by rw [e]; rfl⟩
theorem Ty.Nx {tg n : Nat} (h : 0 < n) : (Ty.vs tg n).Sub (Ty.win tg 0 n 0) := by
 intro w M v hv
 rcases hv with ⟨h0, _⟩ | ⟨b, c, hb, e, h1, h2⟩
 ·omega
 exact ⟨b, 0, c, hb, e, by omega, h2, fun _ => rfl⟩
section
variable {P : Program} {fr : Fr} {ops : Array Oper} {A : As} {rest : List Oper} {K : As → List (As × Fx) → Prop} {d : Nat} {t ty' : TypeId} {p : String} {e : Array Edge} [T : kZ P]
theorem Ew {w : World} {st el b o n c lo hi : Nat} {ti te : TI} {ol oh om : Option Value} (hT : T.eK[st]? = some ti) (hk : ti.k = .slice el) (hE : T.eK[el]? = some te) (hs : te.size = 1)
 (hlo : (ol = none ∧ lo = 0) ∨ ∃ k : IntKind, ol = some (.int k lo)) (hhi : (oh = none ∧ hi = n) ∨ ∃ k : IntKind, oh = some (.int k hi)) (hm : om = none) (h1 : lo ≤ hi) (h2 : hi ≤ c) :
 (Instr.sliceAt st (.slice (some ⟨b, o, none⟩) n c) ol oh om).run P w = .ok (.slice (if c = lo then some ⟨b, o, none⟩ else some ⟨b, o + lo, none⟩) (hi - lo) (c - lo)) w := by
 subst hm
 obtain ⟨_, D, _, hD, hkd, _⟩ := cv hT
 rw [hk] at hkd
 cases D <;> simp only [TK.of, reduceCtorEq, TK.slice.injEq] at hkd
 subst hkd
 have hsz := fun w => dJ (P := P) hE w
 rcases hlo with ⟨rfl, rfl⟩ | ⟨k, rfl⟩ <;> rcases hhi with ⟨rfl, rfl⟩ | ⟨k', rfl⟩ <;>
  simp [Instr.sliceAt, Instr.slice, run_underlying hD, Instr.sliceBounds, Instr.sliceBound, asIntOf, hsz, hs, h2, h1, Addr.add_lit]
theorem EN {w : World} {M : bA} {tg b o o' n r c lo hi : Nat} (hb : M b = some tg) (h1 : lo ≤ hi) (h2 : hi ≤ n + r) (h3 : n + r ≤ c) (h4 : c ≤ maxLen) (h5 : 0 < n + r → o' = o) :
 L3 tg (o + lo) (hi - lo) (n + r - hi) w M (.slice (if c = lo then some ⟨b, o', none⟩ else some ⟨b, o' + lo, none⟩) (hi - lo) (c - lo)) := by
 by_cases e : c = lo
 ·rw [if_pos e]; exact ⟨b, o', c - lo, hb, rfl, by omega, by omega, fun h => by omega⟩
 rw [if_neg e]; exact ⟨b, o' + lo, c - lo, hb, rfl, by omega, by omega, fun h => by rw [h5 (by omega)]⟩
theorem IZ {x y : Operand} {k : IntKind} {el tg o n r hi : Nat} {ti te : TI} (hx : A.op fr x = .win tg o n r) (hy : A.op fr y = .int k hi) (hT : T.eK[ty']? = some ti) (hk : ti.k = .slice el) (hE : T.eK[el]? = some te) (hs : te.size = 1) (h2 : hi ≤ n + r)
 (h : au P fr ops rest (A.set d (.win tg (o + 0) (hi - 0) (n + r - hi))) fun A' l' => K A' ((A, { d := some d, ty := .win tg (o + 0) (hi - 0) (n + r - hi), rs := cC x ++ cC y }) :: l')) : au P fr ops (⟨some d, .slice ty' x none (some y) none, t, p, e, none⟩ :: rest) A K :=
 bJ (bS rfl rfl fun a w M _ hr _ => by
  obtain ⟨hdx, hdy⟩ := op2 hr
  rw [hx] at hdx; rw [hy] at hdy
  have ey : a.eval y = .int k hi := hdy
  obtain ⟨b, o', c, hb, ex, g1, g2, g3⟩ := hdx
  have h3 := Ew (P := P) (w := w) (b := b) (o := o') (n := n) (c := c) hT hk hE hs (lo := 0) (hi := hi) (ol := none) (oh := some (.int k hi)) (om := none) (.inl ⟨rfl, rfl⟩) (.inr ⟨k, rfl⟩) rfl (Nat.zero_le _) (by omega)
  exact ⟨_, by simp only [execOp, ey, ex, Option.map_none, Option.map_some, Sem.run_bind, h3, Result.andThen_ok]; rfl, EN (w := w) hb (Nat.zero_le _) h2 g1 g2 g3⟩) h
theorem Ko {x y : Operand} {k : IntKind} {el tg o n r lo : Nat} {ti te : TI} (hx : A.op fr x = .win tg o n r) (hy : A.op fr y = .int k lo) (hT : T.eK[ty']? = some ti) (hk : ti.k = .slice el) (hE : T.eK[el]? = some te) (hs : te.size = 1) (h2 : lo ≤ n)
 (h : au P fr ops rest (A.set d (.win tg (o + lo) (n - lo) (n + r - n))) fun A' l' => K A' ((A, { d := some d, ty := .win tg (o + lo) (n - lo) (n + r - n), rs := cC x ++ cC y }) :: l')) : au P fr ops (⟨some d, .slice ty' x (some y) none none, t, p, e, none⟩ :: rest) A K :=
 bJ (bS rfl rfl fun a w M _ hr _ => by
  obtain ⟨hdx, hdy⟩ := op2 hr
  rw [hx] at hdx; rw [hy] at hdy
  have ey : a.eval y = .int k lo := hdy
  obtain ⟨b, o', c, hb, ex, g1, g2, g3⟩ := hdx
  have h3 := Ew (P := P) (w := w) (b := b) (o := o') (n := n) (c := c) hT hk hE hs (lo := lo) (hi := n) (ol := some (.int k lo)) (oh := none) (om := none) (.inr ⟨k, rfl⟩) (.inl ⟨rfl, rfl⟩) rfl h2 (by omega)
  exact ⟨_, by simp only [execOp, ey, ex, Option.map_none, Option.map_some, Sem.run_bind, h3, Result.andThen_ok]; rfl, EN (w := w) hb h2 (by omega) g1 g2 g3⟩) h
theorem GO {x : Operand} {tg o n r el : Nat} {ti : TI} (hx : A.op fr x = .win tg o n r) (hT : T.eK[ty']? = some ti) (hk : ti.k = .slice el)
 (h : au P fr ops rest (A.set d (.int .i64 n)) fun A' l' => K A' ((A, { d := some d, ty := .int .i64 n, rs := cC x }) :: l')) :
 au P fr ops (⟨some d, .call ⟨.builtin .len, #[x], #[ty']⟩, t, p, e, none⟩ :: rest) A K :=
 bJ (bS rfl rfl fun a w M _ hrd _ => by
  have hdx := cR (x := x) (fun _ h => h) hrd
  rw [hx] at hdx
  obtain ⟨_, D, _, hD, hkd, _⟩ := cv hT
  rw [hk] at hkd
  cases D <;> simp only [TK.of, reduceCtorEq, TK.slice.injEq] at hkd
  obtain ⟨b, o', c, hb, ex, g1, g2, g3⟩ := hdx
  exact ⟨.int .i64 n, by simp [execOp, resolve, invoke, builtin, ex, Builtin.len_, run_underlying hD, goInt], rfl⟩) h
omit T in
theorem Ft {x : Operand} {tg o n r : Nat} (hx : A.op fr x = .win tg o n r) (h : au P fr ops rest (A.set d (.win tg o n r)) fun A' l => K A' ((A, { d := some d, ty := .win tg o n r, rs := cC x }) :: l)) : au P fr ops (⟨some d, .move x, t, p, e, none⟩ :: rest) A K := eA hx h
theorem v8 {α : Type} {E : El α} (h1 : E.size = 1) : ∀ (xs : List α) (k : Nat), (xs.take k).flatMap E.tys = (xs.flatMap E.tys).take k ∧ (xs.drop k).flatMap E.tys = (xs.flatMap E.tys).drop k
  | xs, 0 => ⟨rfl, rfl⟩
  | [], k + 1 => ⟨rfl, rfl⟩
  | x :: xs, k + 1 => by
    have hl : (E.tys x).length = 1 := by rw [E.len, h1]
    obtain ⟨ih1, ih2⟩ := v8 h1 xs k
    match hx : E.tys x, hl with
    | [a], _ =>
      rw [List.take_succ_cons, List.drop_succ_cons, List.flatMap_cons, List.flatMap_cons, hx, ih1, ih2]
      exact ⟨rfl, rfl⟩
end
end Go.T
namespace Go.T
open Go Go.RowKit
section
variable {P : Program} {fr : Fr} {ops : Array Oper} {A : As} {rest : List Oper} {K : As → List (As × Fx) → Prop} {d : Nat} {t ty' : TypeId} {p : String} {e : Array Edge} [T : kZ P]
end
end Go.T
namespace Go.T
open Go Go.RowKit
section
variable {α : Type}
theorem vh {E : El α} {T J : Nat} {q : List (List α)} : (∀ u ∈ bw (q.map fun x => Ty.fP E T J x), u = J) ∧ ∀ u ∈ bX (q.map fun x => Ty.fP E T J x), u = J := by
 constructor <;>
 ·intro u hu
  simp only [bw, bX, List.mem_flatMap, List.mem_map] at hu
  obtain ⟨t, ⟨x, _, rfl⟩, hu⟩ := hu
  simpa [Ty.fP] using hu
def OL (E : El α) (T2 T J : Nat) (q : List (List α)) (w : World) (M : bA) (t : Nat) : Prop :=
  ∃ b cs, M b = some t ∧ w.heap[b]? = some (.cells cs T2 (0, 0)) ∧ cB w M (q.map fun x => Ty.fP E T J x) (cs.toList.take q.length) ∧ y6 E.size (cs.toList.take q.length)
def Cont.mx (E : El α) (T2 T J : Nat) (q : List (List α)) : Cont :=
  { den := OL E T2 T J q, deps := [J], cdeps := [J]
    mono := fun le hk hs hst hkt ⟨b, cs, h1, h2, h4, h5⟩ => let ⟨a, c⟩ := le.own b _ h1 hkt
      ⟨b, cs, a, (c hst).trans h2, bf le (fun u hu => by rw [vh.1 u hu]; exact hk J (by simp)) (fun u hu => by rw [vh.2 u hu]; exact hs J (by simp)) h4, h5⟩ }
theorem Cont.oU {E : El α} {T2 T J : Nat} {q q' : List (List α)} (h : q = q') : (Cont.mx E T2 T J q).Sub (Cont.mx E T2 T J q') := h ▸ Cont.aF _
def Pw (size t n i : Nat) (w : World) (M : bA) (v : Value) : Prop :=
  ∀ (g e0 : Nat), jM size v = some (g, e0) → ∃ (b : Nat) (cs : Array Value) (T2 : Nat), M b = some t ∧ w.heap[b]? = some (.cells cs T2 (0, 0)) ∧ ∀ (j : Nat) (u : Value) (e1 : Nat), (cs.toList.take n)[j]? = some u → jM size u = some (g, e1) → j = i ∧ (roomy v = true → e1 ≤ e0)
def OV (E : El α) (T t J i : Nat) (xs : List α) (w : World) (M : bA) (v : Value) : Prop := uI E T J xs w M v ∧ ∃ (b : Nat) (cs : Array Value) (T2 : Nat), M b = some t ∧ w.heap[b]? = some (.cells cs T2 (0, 0)) ∧ cs.toList[i]? = some v
def Ty.ml (E : El α) (T t J i : Nat) (xs : List α) : Ty :=
  ⟨OV E T t J i xs, [t, J], [t, J], fun le hk hs ⟨h, b, cs, T2, h1, h2, h3⟩ => ⟨(Ty.fP E T J xs).mono le (fun u hu => hk u (by simp [Ty.fP] at hu ⊢; exact .inr hu)) (fun u hu => hs u (by simp [Ty.fP] at hu ⊢; exact .inr hu)) h,
    let ⟨a, c⟩ := le.own b t h1 (hk t (by simp))
    ⟨b, cs, T2, a, (c (hs t (by simp))).trans h2, h3⟩⟩, true, fun ho h => (Ty.fP E T J xs).isOne ho h.1⟩
def Pc (E : El α) (T t J i : Nat) (xs : List α) (k : Nat) (w : World) (M : bA) (v : Value) : Prop := ∃ (u : Value) (g off n c : Nat), OV E T t J i xs w M u ∧ u = .slice (some ⟨g, off, none⟩) n c ∧ v = .pointer (some ⟨g, off + k, none⟩)
def Ty.me (E : El α) (T t J i : Nat) (xs : List α) (k : Nat) : Ty :=
  ⟨Pc E T t J i xs k, [t, J], [t, J], fun le hk hs ⟨u, g, off, n, c, h, e⟩ => ⟨u, g, off, n, c, (Ty.ml E T t J i xs).mono le hk hs h, e⟩, true, fun _ ⟨_, _, _, _, _, _, _, e⟩ => by rw [e]; rfl⟩
end
section
variable {P : Program} {fr : Fr} {ops : Array Oper} {A : As} {rest : List Oper} {K : As → List (As × Fx) → Prop} {d : Nat} {t ty' : TypeId} {p : String} {e : Array Edge} [T : kZ P]
variable {α : Type} {E : El α} {Tb J tg i : Nat} {q : List (List α)} {xs ys : List α}
omit T in
theorem OT {x : Operand} {off T2 : Nat} (hx : A.op fr x = .ptr tg off) (hc : A.tag tg = some (.mx E T2 Tb J q)) (h1 : fj tg) {a : Act} {w : World} {M : bA} {rs : List Nat} (wf : Wf w M) (hr : ∀ c ∈ cC x, c ∈ rs) (hrd : ∀ c ∈ rs, c < fr.n → (A.slots c).den w M (a.tmps.getD c undef)) (htg : ∀ y ∈ A.tags, y.1 ∈ [tg] → y.2.den w M y.1) :
 ∃ b cs, a.eval x = .pointer (some ⟨b, off, none⟩) ∧ M b = some tg ∧ w.heap[b]? = some (.cells cs T2 (0, 0)) ∧ cB w M (q.map fun x => Ty.fP E Tb J x) (cs.toList.take q.length) ∧ y6 E.size (cs.toList.take q.length) := by
 have hxd := cR hr hrd
 rw [hx] at hxd
 obtain ⟨b, e2, e1⟩ := hxd
 obtain ⟨b', cs, h2, h3⟩ := htg _ (cZ hc) (by simp)
 obtain ⟨u, rfl⟩ : ∃ u, tg = u + 1 := ⟨tg - 1, by have := h1.1; omega⟩
 have : b = b' := wf.inj b b' u (by have := h1.2; omega) e2 h2
 subst this
 exact ⟨b, cs, e1, e2, h3⟩
omit T in
theorem NL {T2 : Nat} {w : World} {M : bA} {v : Value} (wf : Wf w M) (h1 : fj tg) (hi : i < q.length) (hc : OL E T2 Tb J q w M tg) (hv : ∃ (b : Nat) (cs : Array Value) (T2 : Nat), M b = some tg ∧ w.heap[b]? = some (.cells cs T2 (0, 0)) ∧ cs.toList[i]? = some v) : Pw E.size tg q.length i w M v := fun g e0 he => by
 obtain ⟨b, cs, g1, g2, g3, g4⟩ := hc
 obtain ⟨b', cs', T', k1, k2, k3⟩ := hv
 obtain ⟨u, rfl⟩ : ∃ u, tg = u + 1 := ⟨tg - 1, by have := h1.1; omega⟩
 have : b = b' := wf.inj b b' u (by have := h1.2; omega) g1 k1
 subst this
 rw [g2] at k2
 injection k2 with k2
 injection k2 with k2 _
 subst k2
 have hv' : (cs.toList.take q.length)[i]? = some v := by rw [List.getElem?_take, if_pos hi]; exact k3
 refine ⟨b, cs, T2, g1, g2, fun j u e1 hj hju => ?_⟩
 have hij := g4 j i u v g e1 e0 hj hv' hju he
 subst hij
 rw [hv'] at hj
 injection hj with hj
 subst hj
 rw [he] at hju
 injection hju with hju
 injection hju with _ hju
 exact ⟨rfl, fun _ => by omega⟩
theorem yu [Inhabited α] {x : Operand} {off T2 : Nat} {ti : TI} (i : Nat) (hx : A.op fr x = .ptr tg off) (he : off = i) (hc : A.tag tg = some (.mx E T2 Tb J q)) (h1 : fj tg) (hT : T.eK[ty']? = some ti) (ha : ti.k.agg = false) (hi : i < q.length)
 (h : au P fr ops rest (A.set d (.ml E Tb tg J i (nth q i))) fun A' l => K A' ((A, { d := some d, ty := .ml E Tb tg J i (nth q i), rs := cC x, rt := [tg] }) :: l)) : au P fr ops (⟨some d, .load ty' x, t, p, e, none⟩ :: rest) A K :=
 bJ (bS rfl rfl fun a w M wf hr ht => by
  subst he
  obtain ⟨b, cs, e1, e2, h3, h4, h5⟩ := OT hx hc h1 wf (fun _ h => h) hr ht
  obtain ⟨v, hv, hdv⟩ := dR h4 off (Ty.fP E Tb J (nth q off)) (by rw [List.getElem?_map, List.getElem?_eq_getElem hi, fY hi]; rfl)
  rw [List.getElem?_take, if_pos hi] at hv
  have hcell : w.cell? ⟨b, off, none⟩ = some v := by simpa [World.cell?, h3] using hv
  exact ⟨v, by simp [execOp, e1, kF hT ha hcell], hdv, b, cs, T2, e2, h3, hv⟩) h
theorem xE [Inhabited α] {x y : Operand} {kd : IntKind} {j : Nat} {ti te : TI} {el : Nat} (hx : A.op fr x = .ml E Tb tg J i xs) (hy : A.op fr y = .int kd j) (hT : T.eK[ty']? = some ti) (hk : ti.k = .slice el) (hE : T.eK[el]? = some te) (hj : j < xs.length)
 (h : au P fr ops rest (A.set d (.me E Tb tg J i xs (j * te.size))) fun A' l' => K A' ((A, { d := some d, ty := .me E Tb tg J i xs (j * te.size), rs := cC x ++ cC y }) :: l')) : au P fr ops (⟨some d, .indexAddr ty' x y, t, p, e, none⟩ :: rest) A K :=
 bJ (bS rfl rfl fun a w M _ hr _ => by
  obtain ⟨hdx, hdy⟩ := op2 hr
  rw [hx] at hdx; rw [hy] at hdy
  have ey : a.eval y = .int kd j := hdy
  obtain ⟨h1, h2⟩ := hdx
  have h1' := h1
  rcases h1 with ⟨h0, _⟩ | ⟨g, off, c, cur, ex, hg, hh, hn, _, _, hd⟩
  ·subst h0; simp at hj
  exact ⟨_, by simp only [execOp, ex, ey, Sem.run_bind, hU hT hk hE (Int.natCast_nonneg j) (show (j : Int).toNat < xs.length from hj)]; rfl, _, g, off, xs.length, c, ⟨h1', h2⟩, ex, by simp⟩) h
omit T in
theorem LW {ER : El (List α)} {T2 m : Nat} (hc : A.tag m = some (.mx E T2 Tb J q)) (hne : Nat.beq m J = false) (hER : ∀ x, ER.tys x = [Ty.sl E x]) : K3 A J (m, .vec ER T2 q) := fun w M wf ht => by
  obtain ⟨b, cs, h1, h2, h3, _⟩ := ht _ (cZ hc)
  have hmj : m ≠ J := fun h => by subst h; simp at hne
  have hl : ∀ l : List (List α), (l.flatMap ER.tys).length = l.length := fun l => by
    induction l with
    | nil => rfl
    | cons x l ih => rw [List.flatMap_cons, hER, List.length_append, ih]; simp; omega
  have key : ∀ (l : List (List α)) (vs : List Value), cB w M (l.map fun x => Ty.fP E Tb J x) vs → cB w (eB M J) (l.flatMap ER.tys) vs := by
    intro l
    induction l with
    | nil => intro vs h; cases vs with | nil => trivial | cons => cases h
    | cons x l ih =>
      intro vs h
      cases vs with
      | nil => cases h
      | cons v vs => rw [List.flatMap_cons, hER]; exact ⟨Eh wf h.1, ih vs h.2⟩
  exact .inr ⟨b, cs, by simp [eB, h1, hmj], h2, by rw [hl]; exact key q _ h3⟩
end
end Go.T
namespace Go.Proofs.YtelbollidfdcjaaGreat
open Go Go.T
set_option maxHeartbeats 8000000
section
variable {y : ak} {a : dY} {b d i k : Nat}
end
attribute [local irreducible] dB
attribute [local irreducible] gA eU lH nR gy gl g5 gr g9 nU gx nZ dN fS nJ ff nQ nth fI dQ au dK bodyPost Exit.then Exit.inBlock Code.wp Code.wpIn nY gm oC n9 g7 eM cJ cH bodyPostM dP
attribute [local irreducible] OL OV Pc uI
end Go.Proofs.YtelbollidfdcjaaGreat
namespace Go.Proofs.YtelbollidfdcjaaGreat
open Go Go.T
set_option maxHeartbeats 8000000
section
variable {y : ak} {a : dY} {b t k : Nat} {n : Int}
end
attribute [local irreducible] dB qZ bL
attribute [local irreducible] gA eU lH nR gy gl g5 gr g9 nU gx nZ dN fS nJ ff nQ nth fI dQ au dK bodyPost Exit.then Exit.inBlock Code.wp Code.wpIn nY gm oC n9 g7 eM cJ cH bodyPostM dP
end Go.Proofs.YtelbollidfdcjaaGreat
