/- Lemmas: the program and the reference walked, plain laws. -/
import Derived.Test.YtelbollidfdcjaaGreatJc
namespace Go.Proofs.YtelbollidfdcjaaGreat
open Go Go.T
set_option maxHeartbeats 16000000
noncomputable def lG (y : aj) : List Int := (cQ (aQ y (nth bL)) (y.cells + 1) (fY (aQ y (nth bL)))).2.2
noncomputable def bq (y : aj) : Int := if bH y = 0 then (if (cQ (aQ y (nth bL)) (y.cells + 1) (fY (aQ y (nth bL)))).2.1 = true then 7 else 0) else bH y
noncomputable def gK (y : aj) : dF := if bq y = 0 then fQ y (lG y) else ⟨[], []⟩
theorem jU : bL.length = 8 := rfl
theorem lK {y : aj} (hr : y.bw) {c : Nat → Bool} : FR y (aQ y c) (fY (aQ y c)) := ⟨hr, jT hr, qa hr, fun e => Ba (uB e), jC hr⟩
section
variable {y : aj}
theorem open_1 (h : ¬ bH y = 0) : bH y = bq y := (if_neg h).symm
theorem wI (h : bH y = 0) (h2 : (cQ (aQ y (nth bL)) (y.cells + 1) (fY (aQ y (nth bL)))).2.1 = true) : 7 = bq y := by unfold bq; rw [if_pos h, if_pos h2]
theorem open_3 (h : bH y = 0) (h2 : (cQ (aQ y (nth bL)) (y.cells + 1) (fY (aQ y (nth bL)))).2.1 = false) : 0 = bq y := by unfold bq; rw [if_pos h, if_neg (by rw [h2]; decide)]
theorem dN (h : bq y = 0) : bH y = 0 := by
 by_cases e : bH y = 0
 ·exact e
 rw [← open_1 e] at h; exact absurd h e
theorem Ap (h : bq y = 0) : (cQ (aQ y (nth bL)) (y.cells + 1) (fY (aQ y (nth bL)))).2.1 = false := by
  cases e : (cQ (aQ y (nth bL)) (y.cells + 1) (fY (aQ y (nth bL)))).2.1 with
  | false => rfl
  | true => rw [← wI (dN h) e] at h; cases h
theorem FT (hr : y.bw) (h2 : (cQ (aQ y (nth bL)) (y.cells + 1) (fY (aQ y (nth bL)))).2.1 = false) : fZ (aQ y (nth bL)) (y.cells + 1) (cQ (aQ y (nth bL)) (y.cells + 1) (fY (aQ y (nth bL)))).2.2 := nu (jT hr) (lK hr).inb h2
theorem qw (h : bq y = 0) : fZ (aQ y (nth bL)) (y.cells + 1) (lG y) := FT (cK (dN h)) (Ap h)
theorem Oa (h : ¬ bH y = 0) : (⟨[], []⟩ : dF) = gK y := by unfold gK; rw [← open_1 h, if_neg h]
theorem PU (h : bH y = 0) (h2 : (cQ (aQ y (nth bL)) (y.cells + 1) (fY (aQ y (nth bL)))).2.1 = true) : (⟨[], []⟩ : dF) = gK y := by unfold gK; rw [← wI h h2]; rfl
theorem KO (h : bH y = 0) (h2 : (cQ (aQ y (nth bL)) (y.cells + 1) (fY (aQ y (nth bL)))).2.1 = false) : fQ y (cQ (aQ y (nth bL)) (y.cells + 1) (fY (aQ y (nth bL)))).2.2 = gK y := by unfold gK; rw [if_pos (open_3 h h2).symm]; rfl
theorem mD {a : dF} (e : ⟨[], []⟩ = a) : ia (Ty.agg [Ty.jk (.slice none 0 0), Ty.jk (.slice none 0 0)]) (mm a) := by subst e; exact A9 (ts := fR ⟨[], []⟩) (mC Bb (mC Bb x6))
theorem A8 {b : Bool} (h : (!!b) = true) : b = true := by cases b <;> first | rfl | cases h
theorem AR {b : Bool} (h : (!!b) = false) : b = false := by cases b <;> first | rfl | cases h
theorem PA (y : aj) : (cQ (aQ y (nth bL)) (y.cells + 1) (fY (aQ y (nth bL)))).2.2 = lG y := rfl
end
attribute [local irreducible] aQ fY Way.g6 Way.fin Way.room eo eK fG gm over bN cR dj ep j8 fJ iO lD cQ fX gG gH c9 cO gx qH jL jR jW g7 DB AO gy aj.kept aj.cells bH c7 bL fQ lG bq
attribute [local irreducible] gP e9 mA oA iG iE iK g9 iL oc iA oM dV fo n6 gC oW nth fS dY ay dP bodyPost Exit.then Exit.inBlock Code.wp Code.wpIn n7 hU oX oR iB eW cM cN bodyPostM dX
set_option maxRecDepth 100000 in
theorem JI (y : aj) (hs : y.Small) : dP Tryz.prog 47 [eB y] (Ty.lN [mm (gK y), Ty.int .i64 (bq y)]) := by
 refine ak Tryz.func47 rfl (by decide) Tryz.ntmps47 (by exact Nat.le_of_ble_eq_true rfl) fun w0 M0 => ?_
 refine aE (aA (bF rfl ?_))
 refine bh rfl (by exact List.cons_ne_nil _ _) rfl ?_
 refine bu rfl (aD (aC (aE (aE (aA ?_)))))
 refine aX rfl rfl rfl (by exact Nat.le_of_ble_eq_true rfl) ?_
 refine aZ (ld y hs) rfl rfl rfl rfl rfl (bu rfl (aD (aC (aE (aA (bG rfl (bB rfl rfl rfl (aD (aC ?_)))))))))
 refine dJ rfl (fun hc1 => ?_) (fun hc1 => ?_)
 ·
  refine aE (aA ?_)
  refine c6 rfl rfl (by exact List.cons_ne_nil _ _) rfl (by repeat (exact (aV.nil : aV _ _ [] _))) (by exact (rfl : _ = some [_, _])) ?_
  refine bG rfl ?_
  refine bO rfl rfl (by decide) rfl rfl rfl rfl rfl rfl ?_
  refine bu rfl (aD (aC (az (aS ?_))))
  refine gL rfl rfl rfl rfl rfl (by decide) rfl rfl rfl ?_ ?_
  all_goals skip
  all_goals first | exact mD (Oa hc1) | exact av rfl rfl (congrArg (Ty.int .i64) (open_1 hc1))
 refine af (aC (aE ?_))
 have hck : bH y = 0 := hc1
 have hr := cK hck
 refine cL mixed rfl ?_
 refine aX rfl rfl rfl (by exact Nat.le_of_ble_eq_true rfl) ?_
 refine aZ (rF) rfl rfl rfl rfl rfl ?_
 refine dM (res' := Ty.pp (mM y 2000 1000 (aQ y (nth bL)).length (aQ y (nth bL)).length)) [(2000, 23), (1000, 31)] [2000, 1000] [(2000, Cont.vec dS 187 (aQ y (nth bL))), (1000, Cont.vec cz 3 (fY (aQ y (nth bL))))] (pL y hr bL jU) rfl rfl (aN (aN bf (aU rfl rfl)) (aU rfl rfl)) pre_nil (bp (a := 2000) (b := 23) (by decide) rfl (bt (by decide) rfl) (bp (a := 1000) (b := 31) (by decide) rfl (bt (by decide) rfl) post_nil)) (fB (aN (aN (aN (aN (aN (aN bf (dZ (by decide))) (dZ (by decide))) (aU rfl rfl)) (aU rfl rfl)) (aU rfl rfl)) (aU rfl rfl))) ?_
 refine Ly rfl (aD ?_)
 refine ⟨by kernel_rfl, ?_⟩
 refine aC (aE (aE ?_))
 refine kD (tg := 2000) [(5, Ty.pp (eG y (aQ y (nth bL)) 1000 (aQ y (nth bL)).length))] (by decide) rfl ⟨uS rfl ⟨bE rfl, bE rfl, bE rfl, bE rfl, iX rfl rfl (by decide), bE rfl, trivial⟩, trivial⟩ ?_
 refine aA (iq rfl ?_)
 refine dM [(1000, 1000)] [] [(1000, Cont.vec cz 3 (cQ (aQ y (nth bL)) (y.cells + 1) (fY (aQ y (nth bL)))).2.2)] (mH y (aQ y (nth bL)) (fY (aQ y (nth bL))) (lK hr)) rfl rfl (aN bf (fB (aN (aN (aN (aN (aN (aN bf (dZ (by exact List.mem_cons_self))) (aU rfl rfl)) (aU rfl rfl)) (aU rfl rfl)) (aU rfl rfl)) (aU rfl rfl)))) (dD (a := 1000) (b := 1000) (by exact List.mem_cons_self) rfl (bt (by exact List.mem_cons_self) rfl) pre_nil) (bp (a := 1000) (b := 1000) (by decide) rfl (bt (by decide) rfl) post_nil) (aU rfl rfl) ?_
 refine dr rfl (aD (aC ?_))
 refine cC rfl (fun hc2 => ?_) (fun hc2 => ?_)
 ·
  refine aE (aA ?_)
  refine c6 rfl rfl (by exact List.cons_ne_nil _ _) rfl (by repeat (exact (aV.nil : aV _ _ [] _))) (by exact (rfl : _ = some [_, _])) ?_
  refine bO rfl rfl (by decide) rfl rfl rfl rfl rfl rfl ?_
  refine bu rfl (aD (aC (az (aS ?_))))
  refine gL rfl rfl rfl rfl rfl (by decide) rfl rfl rfl ?_ ?_
  all_goals skip
  all_goals first | exact mD (PU hck (A8 hc2)) | exact av rfl rfl (congrArg (Ty.int .i64) (wI hck (A8 hc2)))
 refine af (aC (aE ?_))
 have hfe := FT hr (AR hc2)
 refine kD (tg := 1000) [(5, Ty.pp (lB y (aQ y (nth bL)) (cQ (aQ y (nth bL)) (y.cells + 1) (fY (aQ y (nth bL)))).2.2))] (by decide) rfl ⟨uS rfl ⟨bE rfl, bE rfl, bE rfl, bE rfl, bE rfl, iX rfl hfe.1.1 (by decide), trivial⟩, trivial⟩ ?_
 refine aA (iq rfl (aZ (OT y (nth bL) (cQ (aQ y (nth bL)) (y.cells + 1) (fY (aQ y (nth bL)))).2.2 hr hfe.1.1) rfl rfl rfl rfl rfl ?_))
 refine bO rfl rfl (by decide) rfl rfl rfl rfl rfl rfl ?_
 refine bu rfl (aD (aC (az ?_)))
 refine gL rfl rfl rfl rfl rfl (by decide) rfl rfl rfl ?_ ?_
 all_goals skip
 all_goals first | exact av rfl rfl (congrArg mm (KO hck (AR hc2))) | exact av rfl rfl (congrArg (Ty.int .i64) (open_3 hck (AR hc2)))
set_option maxRecDepth 100000 in
theorem yP (y : aj) (hs : y.Small) (h : bq y = 0) : eW Tryz.prog 86 [] [] [eB y] [(1000, Cont.vec cz 3 (lG y))] (Ty.lN [Ty.pp (eG y (aQ y (nth bL)) 1000 (aQ y (nth bL)).length), Ty.int .i64 0]) := by
 refine sA Tryz.func86 rfl (by decide) Tryz.ntmps86 (by exact Nat.le_of_ble_eq_true rfl) fun w0 M0 => ?_
 have hck := dN h
 have hr := cK hck
 have hst := Ap h
 refine aE (aA (bF rfl (mB rfl (bu rfl (aD (aC (aE (aE (aA ?_)))))))))
 refine aX rfl rfl rfl (by exact Nat.le_of_ble_eq_true rfl) ?_
 refine aZ (ld y hs) rfl rfl rfl rfl rfl (bu rfl (aD (aC (aE (aA (bG rfl (bB rfl rfl rfl (aD (aC ?_)))))))))
 refine ji rfl (by rw [hck]; rfl) ?_
 refine af (aC (aE (cL mixed rfl ?_)))
 refine aX rfl rfl rfl (by exact Nat.le_of_ble_eq_true rfl) ?_
 refine aZ (rF) rfl rfl rfl rfl rfl ?_
 refine dM (res' := Ty.pp (mM y 2000 1000 (aQ y (nth bL)).length (aQ y (nth bL)).length)) [(2000, 23), (1000, 31)] [2000, 1000] [(2000, Cont.vec dS 187 (aQ y (nth bL))), (1000, Cont.vec cz 3 (fY (aQ y (nth bL))))] (pL y hr bL jU) rfl rfl (aN (aN bf (aU rfl rfl)) (aU rfl rfl)) pre_nil (bp (a := 2000) (b := 23) (by decide) rfl (bt (by decide) rfl) (bp (a := 1000) (b := 31) (by decide) rfl (bt (by decide) rfl) post_nil)) (fB (aN (aN (aN (aN (aN (aN bf (dZ (by decide))) (dZ (by decide))) (aU rfl rfl)) (aU rfl rfl)) (aU rfl rfl)) (aU rfl rfl))) ?_
 refine Ly rfl (aD ?_)
 refine ⟨by kernel_rfl, ?_⟩
 refine aC (aE (aE ?_))
 refine kD (tg := 2000) [(5, Ty.pp (eG y (aQ y (nth bL)) 1000 (aQ y (nth bL)).length))] (by decide) rfl ⟨uS rfl ⟨bE rfl, bE rfl, bE rfl, bE rfl, iX rfl rfl (by decide), bE rfl, trivial⟩, trivial⟩ ?_
 refine aA (iq rfl ?_)
 refine dM [(1000, 1000)] [] [(1000, Cont.vec cz 3 (cQ (aQ y (nth bL)) (y.cells + 1) (fY (aQ y (nth bL)))).2.2)] (mH y (aQ y (nth bL)) (fY (aQ y (nth bL))) (lK hr)) rfl rfl (aN bf (fB (aN (aN (aN (aN (aN (aN bf (dZ (by exact List.mem_cons_self))) (aU rfl rfl)) (aU rfl rfl)) (aU rfl rfl)) (aU rfl rfl)) (aU rfl rfl)))) (dD (a := 1000) (b := 1000) (by exact List.mem_cons_self) rfl (bt (by exact List.mem_cons_self) rfl) pre_nil) (bp (a := 1000) (b := 1000) (by decide) rfl (bt (by decide) rfl) post_nil) (aU rfl rfl) ?_
 refine dr rfl (aD (aC ?_))
 refine ji rfl (by rw [hst]; rfl) ?_
 refine af (aC (aE (aA (iq rfl (Ly rfl (bu rfl (aD (aC (az ?_)))))))))
 refine Ik rfl ?_
 refine An [1000] rfl rfl rfl (by decide) ?_ ?_ ?_
 ·exact eP rfl (bt (by decide) (PA y)) gT
 all_goals first | exact ir (aU rfl rfl) | skip
 all_goals exact ir (fB (aN (aN (aN (aN (aN (aN bf (dZ (by decide))) (aU rfl rfl)) (aU rfl rfl)) (aU rfl rfl)) (aU rfl rfl)) (aU rfl rfl)))
set_option maxRecDepth 100000 in
theorem pI (y : aj) (hs : y.Small) (h : bq y ≠ 0) : dP Tryz.prog 86 [eB y] (Ty.lN [Ty.ex (.pointer none), Ty.int .i64 (bq y)]) := by
 refine ak Tryz.func86 rfl (by decide) Tryz.ntmps86 (by exact Nat.le_of_ble_eq_true rfl) fun w0 M0 => ?_
 refine aE (aA (bF rfl (mB rfl (bu rfl (aD (aC (aE (aE (aA ?_)))))))))
 refine aX rfl rfl rfl (by exact Nat.le_of_ble_eq_true rfl) ?_
 refine aZ (ld y hs) rfl rfl rfl rfl rfl (bu rfl (aD (aC (aE (aA (bG rfl (bB rfl rfl rfl (aD (aC ?_)))))))))
 refine dJ rfl (fun hc1 => ?_) (fun hc1 => ?_)
 ·
  refine aE (aA (bG rfl (mB rfl (bu rfl (aD (aC (az (aS ?_))))))))
  refine gD rfl rfl rfl ?_ ?_
  all_goals first | exact cE rfl rfl | skip
  all_goals exact av rfl rfl (congrArg (Ty.int .i64) (open_1 hc1))
 refine af (aC (aE ?_))
 have hck : bH y = 0 := hc1
 have hr := cK hck
 refine cL mixed rfl ?_
 refine aX rfl rfl rfl (by exact Nat.le_of_ble_eq_true rfl) ?_
 refine aZ (rF) rfl rfl rfl rfl rfl ?_
 refine dM (res' := Ty.pp (mM y 2000 1000 (aQ y (nth bL)).length (aQ y (nth bL)).length)) [(2000, 23), (1000, 31)] [2000, 1000] [(2000, Cont.vec dS 187 (aQ y (nth bL))), (1000, Cont.vec cz 3 (fY (aQ y (nth bL))))] (pL y hr bL jU) rfl rfl (aN (aN bf (aU rfl rfl)) (aU rfl rfl)) pre_nil (bp (a := 2000) (b := 23) (by decide) rfl (bt (by decide) rfl) (bp (a := 1000) (b := 31) (by decide) rfl (bt (by decide) rfl) post_nil)) (fB (aN (aN (aN (aN (aN (aN bf (dZ (by decide))) (dZ (by decide))) (aU rfl rfl)) (aU rfl rfl)) (aU rfl rfl)) (aU rfl rfl))) ?_
 refine Ly rfl (aD ?_)
 refine ⟨by kernel_rfl, ?_⟩
 refine aC (aE (aE ?_))
 refine kD (tg := 2000) [(5, Ty.pp (eG y (aQ y (nth bL)) 1000 (aQ y (nth bL)).length))] (by decide) rfl ⟨uS rfl ⟨bE rfl, bE rfl, bE rfl, bE rfl, iX rfl rfl (by decide), bE rfl, trivial⟩, trivial⟩ ?_
 refine aA (iq rfl ?_)
 refine dM [(1000, 1000)] [] [(1000, Cont.vec cz 3 (cQ (aQ y (nth bL)) (y.cells + 1) (fY (aQ y (nth bL)))).2.2)] (mH y (aQ y (nth bL)) (fY (aQ y (nth bL))) (lK hr)) rfl rfl (aN bf (fB (aN (aN (aN (aN (aN (aN bf (dZ (by exact List.mem_cons_self))) (aU rfl rfl)) (aU rfl rfl)) (aU rfl rfl)) (aU rfl rfl)) (aU rfl rfl)))) (dD (a := 1000) (b := 1000) (by exact List.mem_cons_self) rfl (bt (by exact List.mem_cons_self) rfl) pre_nil) (bp (a := 1000) (b := 1000) (by decide) rfl (bt (by decide) rfl) post_nil) (aU rfl rfl) ?_
 refine dr rfl (aD (aC ?_))
 refine cC rfl (fun hc2 => ?_) (fun hc2 => ?_)
 ·
  refine aE (aA (mB rfl (bu rfl (aD (aC (az (aS ?_)))))))
  refine gD rfl rfl rfl ?_ ?_
  all_goals first | exact cE rfl rfl | skip
  all_goals exact av rfl rfl (congrArg (Ty.int .i64) (wI hck (A8 hc2)))
 refine af (aC (aE (aA (iq rfl (Ly rfl (bu rfl (aD (aC (az ?_)))))))))
 refine gD rfl rfl rfl ?_ ?_
 all_goals skip
 all_goals exact absurd (open_3 hck (AR hc2)).symm h
end Go.Proofs.YtelbollidfdcjaaGreat
namespace Go.Proofs.YtelbollidfdcjaaGreat
open Go Go.T
set_option maxHeartbeats 16000000
def uU (k : Nat) (i : Nat) : Bool := decide ((i : Int) = (k : Int))
def hasB (y : aj) (b t : Nat) : Nat → Bool := uU (y.kept b t)
noncomputable def p9 (fl : List b8) (n : Nat) (y : aj) (b : Nat) (a : List Int) : Nat → List Int
  | 0 => a
  | t + 1 => AO fl n (hasB y b t) (p9 fl n y b a t)
noncomputable def q9 (fl : List b8) (n : Nat) (y : aj) (b k : Nat) : List Span := (List.range k).map fun t => g7 fl n (hasB y b t)
noncomputable def fU (y : aj) (b : Int) : Int := if c7 y b = 0 then bq y else c7 y b
noncomputable def fN (y : aj) (b : Int) : List Span := if fU y b = 0 then q9 (aQ y (nth bL)) (y.cells + 1) y b.toNat (y.D + 1) else []
def NK (y : aj) (k : Int) : Int := if bH y = 0 then (if (decide (k ≥ 0) && decide (k ≤ (y.moves.length : Int) - 1)) = true then 0 else 1) else bH y
noncomputable def gO (y : aj) (k : Int) : Int := if NK y k = 0 then bq y else NK y k
noncomputable def iW (y : aj) (k : Int) : Span := if gO y k = 0 then g7 (aQ y (nth bL)) (y.cells + 1) (uU (y.bins.length * (y.D + 1) + k.toNat)) else ⟨0, 0⟩
theorem tv {y : aj} (h : bq y = 0) : mO y (aQ y (nth bL)) (lG y) := ⟨cK (dN h), jT (cK (dN h)), qa (cK (dN h)), (qw h).1, jC (cK (dN h))⟩
section
variable {y : aj} {fl : List b8} {a : List Int} {n b k : Nat} {q : Int}
theorem DW (hN : Net fl n) (hn : 0 < n) (hB : Bd fl) (h : fZ fl n a) : ∀ t, fZ fl n (p9 fl n y b a t)
  | 0 => h
  | t + 1 => (sJ hN hn hB (DW hN hn hB h t)).2.1
theorem Jf : a = p9 fl n y b a 0 := rfl
theorem Kr (t : Nat) : AO fl n (hasB y b t) (p9 fl n y b a t) = p9 fl n y b a (t + 1) := rfl
theorem GV (t : Nat) : q9 fl n y b t ++ [g7 fl n (hasB y b t)] = q9 fl n y b (t + 1) := by unfold q9; rw [List.range_succ, List.map_append]; rfl
theorem Ih (t : Nat) : (q9 fl n y b t).length = t := by unfold q9; rw [List.length_map, List.length_range]
theorem Gy : q9 fl n y b 0 = [] := rfl
theorem Cv {T tg : Nat} {xs : List Span} (h : xs = []) : (Ty.ex (.slice none 0 0)).Sub (Ty.row bX T tg xs) := by subst h; exact Ty.iF
theorem M9 (k : Nat) (i : Nat) : decide ((i : Int) = (k : Int)) = uU k i := rfl
theorem NC (b t i : Nat) : decide ((i : Int) = ((y.kept b t : Nat) : Int)) = hasB y b t i := rfl
theorem Ay (h : ¬ c7 y q = 0) : c7 y q = fU y q ∧ [] = fN y q := by
 have e : c7 y q = fU y q := (if_neg h).symm
 exact ⟨e, by unfold fN; rw [← e, if_neg h]⟩
theorem JE (h : c7 y q = 0) (ho : bq y ≠ 0) : bq y = fU y q ∧ [] = fN y q := by
 have e : bq y = fU y q := (if_pos h).symm
 exact ⟨e, by unfold fN; rw [← e, if_neg ho]⟩
theorem BW (h : c7 y q = 0) (ho : bq y = 0) : 0 = fU y q ∧ q9 (aQ y (nth bL)) (y.cells + 1) y q.toNat (y.D + 1) = fN y q := by
 have e : bq y = fU y q := (if_pos h).symm
 exact ⟨by rw [← e, ho], by unfold fN; rw [← e, if_pos ho]⟩
theorem Gx (h : c7 y q = 0) : 0 ≤ q ∧ q < y.bins.length := by
 unfold c7 at h
 by_cases e : bH y = 0
 ·rw [if_pos e] at h
  by_cases c : y.bin q = true
  ·unfold aj.bin yY at c
   rw [Bool.and_eq_true, decide_eq_true_eq, decide_eq_true_eq] at c; omega
  rw [if_neg c] at h; cases h
 rw [if_neg e] at h; exact absurd h e
theorem C2 (h : ¬ bH y = 0) : bH y = gO y q ∧ (⟨0, 0⟩ : Span) = iW y q := by
 have e1 : NK y q = bH y := if_neg h
 have e : bH y = gO y q := by unfold gO; rw [e1, if_neg h]
 exact ⟨e, by unfold iW; rw [← e, if_neg h]⟩
theorem Cf (h : bH y = 0) (h2 : (!(decide (q ≥ 0) && decide (q ≤ (y.moves.length : Int) - 1))) = true) : 1 = gO y q ∧ (⟨0, 0⟩ : Span) = iW y q := by
 have e1 : NK y q = 1 := by unfold NK; rw [if_pos h, if_neg (by rw [nK h2]; decide)]
 have e : 1 = gO y q := by unfold gO; rw [e1]; rfl
 exact ⟨e, by unfold iW; rw [← e]; rfl⟩
theorem Fg (h2 : (!(decide (q ≥ 0) && decide (q ≤ (y.moves.length : Int) - 1))) = false) : 0 ≤ q ∧ q < y.moves.length := by
 have := eZ h2
 rw [Bool.and_eq_true, decide_eq_true_eq, decide_eq_true_eq] at this; omega
theorem Jg (h : bH y = 0) (h2 : (!(decide (q ≥ 0) && decide (q ≤ (y.moves.length : Int) - 1))) = false) (ho : bq y ≠ 0) : bq y = gO y q ∧ (⟨0, 0⟩ : Span) = iW y q := by
 have e1 : NK y q = 0 := by unfold NK; rw [if_pos h, if_pos (eZ h2)]
 have e : bq y = gO y q := by unfold gO; rw [e1]; rfl
 exact ⟨e, by unfold iW; rw [← e, if_neg ho]⟩
theorem Co (h : bH y = 0) (h2 : (!(decide (q ≥ 0) && decide (q ≤ (y.moves.length : Int) - 1))) = false) (ho : bq y = 0) : 0 = gO y q ∧ g7 (aQ y (nth bL)) (y.cells + 1) (uU (y.bins.length * (y.D + 1) + q.toNat)) = iW y q := by
 have e1 : NK y q = 0 := by unfold NK; rw [if_pos h, if_pos (eZ h2)]
 have e : bq y = gO y q := by unfold gO; rw [e1]; rfl
 exact ⟨by rw [← e, ho], by unfold iW; rw [← e, if_pos ho]⟩
end
attribute [local irreducible] aQ fY Way.g6 Way.fin Way.room eo eK fG gm over bN cR dj ep j8 fJ iO lD cQ fX gG gH c9 cO gx qH jL jR jW g7 DB AO gy aj.kept aj.cells bH c7 bL fQ lG bq p9 q9 fU fN gO iW hasB uU
attribute [local irreducible] gP e9 mA oA iG iE iK g9 iL oc iA oM dV fo n6 gC oW nth fS dY ay dP bodyPost Exit.then Exit.inBlock Code.wp Code.wpIn n7 hU oX oR iB eW cM cN bodyPostM dX
set_option maxRecDepth 100000 in
theorem HY (f k : Int) : dP Tryz.prog 165 [Ty.int .i64 f, Ty.pp [Ty.int .i64 k]] (Ty.bool (decide (f = k))) := by
 refine ak Tryz.func165 rfl (by decide) Tryz.ntmps165 (by exact Nat.le_of_ble_eq_true rfl) fun w0 M0 => ?_
 refine aE (aA (dK rfl (aD (aC (aE (aA (bG rfl (aJ rfl rfl rfl rfl (bB rfl rfl rfl ?_)))))))))
 refine dK rfl (aD (aC (az (bU rfl rfl ?_))))
 all_goals exact cE rfl rfl
set_option maxRecDepth 100000 in
theorem J0 (y : aj) (fl : List b8) (a : List Int) (h : mO y fl a) (hfe : fZ fl (y.cells + 1) a) (b : Nat) (hb : b < y.bins.length) : eW Tryz.prog 91 [1000] [(1000, Cont.vec cz 3 a)] [Ty.pp (eG y fl 1000 fl.length), Ty.int .i64 ((b : Nat) : Int)] [(1000, Cont.vec cz 3 (p9 fl (y.cells + 1) y b a (y.D + 1)))] (Ty.sl bX (q9 fl (y.cells + 1) y b (y.D + 1))) := by
 refine fV Tryz.func91 rfl (by decide) Tryz.ntmps91 (by exact Nat.le_of_ble_eq_true rfl) fun w0 M0 => ?_
 have h1 := h.right.bins
 have h2 := h.right.days
 have h3 := D_eq h.right
 have hft := DW (y := y) (b := b) h.net (Nat.succ_pos _) h.bd hfe
 refine aE (aA (mB rfl (aD (aC (aE (aA (mB rfl (aD (aC ?_)))))))))
 refine aE (aE (aA (iq rfl (bW rfl ?_))))
 refine aI rfl rfl rfl rfl rfl (by decide) ?_
 refine aI rfl rfl rfl rfl rfl (by decide) ?_
 refine aJ rfl rfl rfl rfl ?_
 refine cB rfl rfl (by omega) (by omega) ?_
 refine bG rfl (aD (aC (aa ?_)))
 refine cG (fun (t : {t : Nat // t ≤ y.D + 1}) => live [(0, Ty.pp (eG y fl 1000 fl.length)), (1, Ty.int .i64 ((b : Nat) : Int)), (5, Ty.row bX 37 26 (q9 fl (y.cells + 1) y b t.1)), (13, Ty.int .i64 (y.days + 1)), (14, Ty.int .i64 (t.1 : Nat))] [(1000, Cont.vec cz 3 (p9 fl (y.cells + 1) y b a t.1))]) (fun t => y.D + 1 - t.1) (⟨0, by omega⟩) ?_ fun t => ?_
 ·(refine cg.mk' ?_ ?_ <;> (repeat' (first | exact aL | exact aK | refine aB ?_ (Ty.aT _) | refine aB ?_ (Ty.aF _) | refine aG rfl ?_ ?_ | refine aB ?_ ?_)))
  all_goals first | exact Cv Gy | exact Cont.cy Jf
 have hbl := Ih (fl := fl) (n := (y.cells + 1)) (y := y) (b := b) t.1
 have ht := t.2
 have hFt : mO y fl (p9 fl (y.cells + 1) y b a t.1) := ⟨h.right, h.net, h.bd, (hft t.1).1, h.q7⟩
 refine aE (aA (bB rfl rfl rfl (aD (aC (aE ?_)))))
 refine aq rfl (fun hc1 => ?_) (fun hc1 => ?_)
 ·
  refine af (aC (aE (aa (aE (aA (bG rfl (bu rfl (aD (aC ?_)))))))))
  refine aE (aA (iq rfl (bG rfl (bG rfl ?_))))
  refine eC [] (wm y h.right b t.1 hb (by omega)) rfl (aW (kX (l1 := bA y) (l2 := [Ty.sl dS fl, Ty.vs 1000 fl.length]) rfl rfl) (aW (bV (bT rfl rfl)) (aW (bV (bT rfl rfl)) cP))) (by exact dU _ _) ?_
  refine bh rfl (by exact List.cons_ne_nil _ _) rfl ?_
  refine cr rfl rfl (by decide) rfl rfl (by exact (rfl : _ = Ty.int _ _)) rfl (by exact Nat.le_of_ble_eq_true rfl) rfl rfl (by exact (rfl : _ = [_])) ?_
  refine aD (aC ?_)
  refine kD (tg := 8) [(7, Ty.pp [Ty.int .i64 ((y.kept b t.1 : Nat) : Int)])] (by decide) rfl ⟨mW (T := 3) (off := 0) (l := [Ty.int .i64 ((y.kept b t.1 : Nat) : Int)]) rfl rfl rfl (by decide), trivial⟩ ?_
  refine aA (G8 rfl (iq rfl (dh rfl ?_)))
  refine dM [(1000, 1000)] [] [(1000, Cont.vec cz 3 (AO fl (y.cells + 1) (hasB y b t.1) (p9 fl (y.cells + 1) y b a t.1)))] (Eo y fl (p9 fl (y.cells + 1) y b a t.1) hFt (hft t.1) (Ty.kT 165 [Ty.pp [Ty.int .i64 ((y.kept b t.1 : Nat) : Int)]]) rfl rfl (hasB y b t.1) (fun i _ => by rw [← NC]; exact dn (HY (i : Nat) _) rfl rfl rfl rfl rfl rfl) rfl) rfl rfl (aN (aN bf (aU rfl rfl)) (fB (aN (aN (aN (aN (aN (aN bf (dZ (by exact List.mem_cons_self))) (aU rfl rfl)) (aU rfl rfl)) (aU rfl rfl)) (aU rfl rfl)) (aU rfl rfl)))) (dD (a := 1000) (b := 1000) (by exact List.mem_cons_self) rfl (bt (by exact List.mem_cons_self) rfl) pre_nil) (bp (a := 1000) (b := 1000) (by decide) rfl (bt (by decide) rfl) post_nil) (aU rfl rfl) ?_
  refine bg (E := bX) (xs := [g7 fl (y.cells + 1) (hasB y b t.1)]) rfl rfl rfl rfl rfl (by decide) (by decide) (by repeat (first | exact (aV.nil : aV _ _ [] _) | (show aV _ _ ((_, _) :: _) _; apply aV.agg; (· exact (rfl : _ = Ty.agg _))))) (by exact rfl) rfl ?_
  refine dy rfl rfl (by decide) rfl rfl rfl rfl rfl rfl (by decide) (by (simp <;> omega)) (by (simp <;> omega)) ?_
  refine A2 rfl (aD (bM (aC (aA ?_))))
  refine cB rfl rfl (by omega) (by omega) ?_
  refine bG rfl (aD ?_)
  refine bR (⟨t.1 + 1, by omega⟩) ?_ (by show y.D + 1 - (t.1 + 1) < y.D + 1 - t.1; omega)
  (refine cg.mk' ?_ ?_ <;> (repeat' (first | exact aL | exact aK | refine aB ?_ (Ty.aT _) | refine aB ?_ (Ty.aF _) | refine aG rfl ?_ ?_ | refine aB ?_ ?_)))
  all_goals skip
  all_goals first | exact Ty.fH (GV _) | exact Cont.cy (Kr _)
 refine cH (aP (aP (ah rfl (aC (aE (aA (G8 rfl (A2 rfl (aD ?_)))))))))
 refine aC (az ?_)
 refine jK [1000] rfl rfl (by decide) ?_ ?_
 ·exact eP rfl (bt (by decide) (by rw [show t.1 = y.D + 1 by have := t.2; omega])) gT
 all_goals skip
 all_goals exact I4 (by decide) rfl (by rw [show t.1 = y.D + 1 by have := t.2; omega])
set_option maxRecDepth 100000 in
theorem CL (y : aj) (hs : y.Small) (q : Int) (ho : bq y ≠ 0) : dP Tryz.prog 22 [eB y, Ty.int .i64 q] (Ty.lN [Ty.sl bX (fN y q), Ty.int .i64 (fU y q)]) := by
 refine ak Tryz.func22 rfl (by decide) Tryz.ntmps22 (by exact Nat.le_of_ble_eq_true rfl) fun w0 M0 => ?_
 refine aE (aA (bF rfl (mB rfl (bu rfl (aD (aC (aE (aE (aA ?_)))))))))
 refine aX rfl rfl rfl (by exact Nat.le_of_ble_eq_true rfl) ?_
 refine bG rfl (aZ (wE y hs q) rfl rfl rfl rfl rfl (bu rfl (aD (aC (aE (aA (bG rfl (bB rfl rfl rfl (aD ?_)))))))))
 refine aC ?_
 refine dJ rfl (fun hc1 => ?_) (fun hc1 => ?_)
 ·
  refine aE (aA (bG rfl (mB rfl (bu rfl (aD (aC (az (aS ?_))))))))
  refine gD rfl rfl rfl ?_ ?_
  all_goals skip
  all_goals first | exact gS (Ay hc1).2.symm | exact av rfl rfl (congrArg (Ty.int .i64) (Ay hc1).1)
 refine af (aC (aE (aA ?_)))
 refine aX rfl rfl rfl (by exact Nat.le_of_ble_eq_true rfl) ?_
 refine aZ (pI y hs ho) rfl rfl rfl rfl rfl (tL rfl (bQ rfl rfl (bQ rfl rfl (mB rfl (bu rfl (aD (aC (aE (aE ?_)))))))))
 refine aA (bG rfl (bB rfl rfl rfl (aD (aC ?_))))
 refine qp rfl (by rw [decide_eq_false ho]; rfl) ?_
 refine aE (aA (bG rfl (mB rfl (bu rfl (aD (aC (az (aS ?_))))))))
 refine gD rfl rfl rfl ?_ ?_
 all_goals skip
 all_goals first | exact gS (JE hc1 ho).2.symm | exact av rfl rfl (congrArg (Ty.int .i64) (JE hc1 ho).1)
set_option maxRecDepth 100000 in
theorem Bl (y : aj) (hs : y.Small) (q : Int) (ho : bq y = 0) : dP Tryz.prog 22 [eB y, Ty.int .i64 q] (Ty.lN [Ty.sl bX (fN y q), Ty.int .i64 (fU y q)]) := by
 refine ak Tryz.func22 rfl (by decide) Tryz.ntmps22 (by exact Nat.le_of_ble_eq_true rfl) fun w0 M0 => ?_
 have hck := dN ho
 have hr := cK hck
 have hF : mO y (aQ y (nth bL)) (lG y) := tv ho
 have hfe := qw ho
 refine aE (aA (bF rfl (mB rfl (bu rfl (aD (aC (aE (aE (aA ?_)))))))))
 refine aX rfl rfl rfl (by exact Nat.le_of_ble_eq_true rfl) ?_
 refine bG rfl (aZ (wE y hs q) rfl rfl rfl rfl rfl (bu rfl (aD (aC (aE (aA (bG rfl (bB rfl rfl rfl (aD ?_)))))))))
 refine aC ?_
 refine dJ rfl (fun hc1 => ?_) (fun hc1 => ?_)
 ·
  refine aE (aA (bG rfl (mB rfl (bu rfl (aD (aC (az (aS ?_))))))))
  refine gD rfl rfl rfl ?_ ?_
  all_goals skip
  all_goals first | exact gS (Ay hc1).2.symm | exact av rfl rfl (congrArg (Ty.int .i64) (Ay hc1).1)
 refine af (aC (aE (aA ?_)))
 refine aX rfl rfl rfl (by exact Nat.le_of_ble_eq_true rfl) ?_
 refine dM (res' := Ty.lN [Ty.pp (eG y (aQ y (nth bL)) 1000 (aQ y (nth bL)).length), Ty.int .i64 0]) [(1000, 1000)] [1000] [(1000, Cont.vec cz 3 (lG y))] (yP y hs ho) rfl rfl (aN bf (aU rfl rfl)) pre_nil (bp (a := 1000) (b := 1000) (by decide) rfl (bt (by decide) rfl) post_nil) (Et (aN (aN bf (aU rfl rfl)) (fB (aN (aN (aN (aN (aN (aN bf (dZ (by decide))) (aU rfl rfl)) (aU rfl rfl)) (aU rfl rfl)) (aU rfl rfl)) (aU rfl rfl))))) ?_
 refine tL rfl (bQ rfl rfl (bQ rfl rfl (Ly rfl (bu rfl (aD (aC (aE (aE (aA ?_)))))))))
 refine bG rfl (bB rfl rfl rfl (aD (aC (ji rfl (rfl) (af (aC (aE ?_)))))))
 have hq := Gx hc1
 have hqn : ((q.toNat : Nat) : Int) = q := by omega
 refine ig (s := 1) rfl (Ty.bI hqn.symm) ?_
 refine aA (iq rfl (bG rfl ?_))
 refine dM [(1000, 1000)] [] [(1000, Cont.vec cz 3 (p9 (aQ y (nth bL)) (y.cells + 1) y q.toNat (lG y) (y.D + 1)))] (J0 y (aQ y (nth bL)) (lG y) hF hfe q.toNat (by omega)) rfl rfl (aN (aN bf (aU rfl rfl)) (fB (aN (aN (aN (aN (aN (aN bf (dZ (by exact List.mem_cons_self))) (aU rfl rfl)) (aU rfl rfl)) (aU rfl rfl)) (aU rfl rfl)) (aU rfl rfl)))) (dD (a := 1000) (b := 1000) (by exact List.mem_cons_self) rfl (bt (by exact List.mem_cons_self) rfl) pre_nil) (bp (a := 1000) (b := 1000) (by decide) rfl (bt (by decide) rfl) post_nil) (aU rfl rfl) ?_
 refine Bh rfl (bu rfl (aD (aC (az ?_))))
 refine gD rfl rfl rfl ?_ ?_
 all_goals skip
 all_goals first | exact av rfl rfl (congrArg (Ty.sl bX) (BW hc1 ho).2) | exact av rfl rfl (congrArg (Ty.int .i64) (BW hc1 ho).1)
set_option maxRecDepth 100000 in
theorem Kf (f k : Int) : dP Tryz.prog 121 [Ty.int .i64 f, Ty.pp [Ty.int .i64 k]] (Ty.bool (decide (f = k))) := by
 refine ak Tryz.func121 rfl (by decide) Tryz.ntmps121 (by exact Nat.le_of_ble_eq_true rfl) fun w0 M0 => ?_
 refine aE (aA (dK rfl (aD (aC (aE (aA (bG rfl (aJ rfl rfl rfl rfl (bB rfl rfl rfl ?_)))))))))
 refine dK rfl (aD (aC (az (bU rfl rfl ?_))))
 all_goals exact cE rfl rfl
set_option maxRecDepth 100000 in
theorem D0 (y : aj) (hs : y.Small) (q : Int) (ho : bq y ≠ 0) : dP Tryz.prog 48 [eB y, Ty.int .i64 q] (Ty.lN [Ty.agg (bX.tys (iW y q)), Ty.int .i64 (gO y q)]) := by
 refine ak Tryz.func48 rfl (by decide) Tryz.ntmps48 (by exact Nat.le_of_ble_eq_true rfl) fun w0 M0 => ?_
 have hsm := hs.moves
 refine aE (aA (bF rfl ?_))
 refine bh rfl (by exact List.cons_ne_nil _ _) rfl ?_
 refine bu rfl (aD (aC (aE (aE (aA ?_)))))
 refine aX rfl rfl rfl (by exact Nat.le_of_ble_eq_true rfl) ?_
 refine aZ (ld y hs) rfl rfl rfl rfl rfl (bu rfl (aD (aC (aE (aA (bG rfl (bB rfl rfl rfl (aD (aC ?_)))))))))
 refine dJ rfl (fun hc1 => ?_) (fun hc1 => ?_)
 ·
  refine aE (aA ?_)
  refine c6 rfl rfl (by exact List.cons_ne_nil _ _) rfl (by repeat (exact (aV.nil : aV _ _ [] _))) (by exact (rfl : _ = some [_, _])) ?_
  refine bG rfl ?_
  refine bO rfl rfl (by decide) rfl rfl rfl rfl rfl rfl ?_
  refine bu rfl (aD (aC (az (aS ?_))))
  refine gL rfl rfl rfl rfl rfl (by decide) rfl rfl rfl ?_ ?_
  all_goals skip
  all_goals first | exact av rfl rfl (congrArg (fun s => Ty.agg (bX.tys s)) (C2 hc1).2) | exact av rfl rfl (congrArg (Ty.int .i64) (C2 hc1).1)
 refine af (aC (aE (aE (aA (bG rfl ?_)))))
 refine aI rfl rfl rfl rfl rfl (by decide) ?_
 refine aJ rfl rfl rfl rfl (b9 rfl rfl rfl ?_)
 refine gZ rfl rfl (by omega) (by omega) ?_
 refine aZ (uL _ _ _) rfl rfl rfl rfl rfl (dr rfl (aD (aC ?_)))
 refine cC rfl (fun hc2 => ?_) (fun hc2 => ?_)
 ·
  refine aE (aA ?_)
  refine c6 rfl rfl (by exact List.cons_ne_nil _ _) rfl (by repeat (exact (aV.nil : aV _ _ [] _))) (by exact (rfl : _ = some [_, _])) ?_
  refine bO rfl rfl (by decide) rfl rfl rfl rfl rfl rfl ?_
  refine bu rfl (aD (aC (az (aS ?_))))
  refine gL rfl rfl rfl rfl rfl (by decide) rfl rfl rfl ?_ ?_
  all_goals skip
  all_goals first | exact av rfl rfl (congrArg (fun s => Ty.agg (bX.tys s)) (Cf hc1 hc2).2) | exact av rfl rfl (congrArg (Ty.int .i64) (Cf hc1 hc2).1)
 refine af (aC (aE (aA ?_)))
 refine aX rfl rfl rfl (by exact Nat.le_of_ble_eq_true rfl) ?_
 refine aZ (pI y hs ho) rfl rfl rfl rfl rfl (tL rfl (bQ rfl rfl (bQ rfl rfl (mB rfl (bu rfl (aD (aC (aE (aE ?_)))))))))
 refine aA (bG rfl (bB rfl rfl rfl (aD (aC ?_))))
 refine qp rfl (by rw [decide_eq_false ho]; rfl) ?_
 refine aE (aA ?_)
 refine c6 rfl rfl (by exact List.cons_ne_nil _ _) rfl (by repeat (exact (aV.nil : aV _ _ [] _))) (by exact (rfl : _ = some [_, _])) ?_
 refine bG rfl ?_
 refine bO rfl rfl (by decide) rfl rfl rfl rfl rfl rfl ?_
 refine bu rfl (aD (aC (az (aS ?_))))
 refine gL rfl rfl rfl rfl rfl (by decide) rfl rfl rfl ?_ ?_
 all_goals skip
 all_goals first | exact av rfl rfl (congrArg (fun s => Ty.agg (bX.tys s)) (Jg hc1 hc2 ho).2) | exact av rfl rfl (congrArg (Ty.int .i64) (Jg hc1 hc2 ho).1)
set_option maxRecDepth 100000 in
theorem Dk (y : aj) (hs : y.Small) (q : Int) (ho : bq y = 0) : dP Tryz.prog 48 [eB y, Ty.int .i64 q] (Ty.lN [Ty.agg (bX.tys (iW y q)), Ty.int .i64 (gO y q)]) := by
 refine ak Tryz.func48 rfl (by decide) Tryz.ntmps48 (by exact Nat.le_of_ble_eq_true rfl) fun w0 M0 => ?_
 have hck := dN ho
 have hr := cK hck
 have hF : mO y (aQ y (nth bL)) (lG y) := tv ho
 have hfe := qw ho
 have hsm := hs.moves
 have hfl := ef (y := y) (c := nth bL)
 have hf34 : (aQ y (nth bL)).length ≤ 34 := jC hr
 refine aE (aA (bF rfl ?_))
 refine bh rfl (by exact List.cons_ne_nil _ _) rfl ?_
 refine bu rfl (aD (aC (aE (aE (aA ?_)))))
 refine aX rfl rfl rfl (by exact Nat.le_of_ble_eq_true rfl) ?_
 refine aZ (ld y hs) rfl rfl rfl rfl rfl (bu rfl (aD (aC (aE (aA (bG rfl (bB rfl rfl rfl (aD (aC ?_)))))))))
 refine dJ rfl (fun hc1 => ?_) (fun hc1 => ?_)
 ·
  refine aE (aA ?_)
  refine c6 rfl rfl (by exact List.cons_ne_nil _ _) rfl (by repeat (exact (aV.nil : aV _ _ [] _))) (by exact (rfl : _ = some [_, _])) ?_
  refine bG rfl ?_
  refine bO rfl rfl (by decide) rfl rfl rfl rfl rfl rfl ?_
  refine bu rfl (aD (aC (az (aS ?_))))
  refine gL rfl rfl rfl rfl rfl (by decide) rfl rfl rfl ?_ ?_
  all_goals skip
  all_goals first | exact av rfl rfl (congrArg (fun s => Ty.agg (bX.tys s)) (C2 hc1).2) | exact av rfl rfl (congrArg (Ty.int .i64) (C2 hc1).1)
 refine af (aC (aE (aE (aA (bG rfl ?_)))))
 refine aI rfl rfl rfl rfl rfl (by decide) ?_
 refine aJ rfl rfl rfl rfl (b9 rfl rfl rfl ?_)
 refine gZ rfl rfl (by omega) (by omega) ?_
 refine aZ (uL _ _ _) rfl rfl rfl rfl rfl (dr rfl (aD (aC ?_)))
 refine cC rfl (fun hc2 => ?_) (fun hc2 => ?_)
 ·
  refine aE (aA ?_)
  refine c6 rfl rfl (by exact List.cons_ne_nil _ _) rfl (by repeat (exact (aV.nil : aV _ _ [] _))) (by exact (rfl : _ = some [_, _])) ?_
  refine bO rfl rfl (by decide) rfl rfl rfl rfl rfl rfl ?_
  refine bu rfl (aD (aC (az (aS ?_))))
  refine gL rfl rfl rfl rfl rfl (by decide) rfl rfl rfl ?_ ?_
  all_goals skip
  all_goals first | exact av rfl rfl (congrArg (fun s => Ty.agg (bX.tys s)) (Cf hc1 hc2).2) | exact av rfl rfl (congrArg (Ty.int .i64) (Cf hc1 hc2).1)
 refine af (aC (aE (aA ?_)))
 refine aX rfl rfl rfl (by exact Nat.le_of_ble_eq_true rfl) ?_
 refine dM (res' := Ty.lN [Ty.pp (eG y (aQ y (nth bL)) 1000 (aQ y (nth bL)).length), Ty.int .i64 0]) [(1000, 1000)] [1000] [(1000, Cont.vec cz 3 (lG y))] (yP y hs ho) rfl rfl (aN bf (aU rfl rfl)) pre_nil (bp (a := 1000) (b := 1000) (by decide) rfl (bt (by decide) rfl) post_nil) (Et (aN (aN bf (aU rfl rfl)) (fB (aN (aN (aN (aN (aN (aN bf (dZ (by decide))) (aU rfl rfl)) (aU rfl rfl)) (aU rfl rfl)) (aU rfl rfl)) (aU rfl rfl))))) ?_
 refine tL rfl (bQ rfl rfl (bQ rfl rfl (Ly rfl (bu rfl (aD (aC (aE (aE (aA ?_)))))))))
 refine bG rfl (bB rfl rfl rfl (aD (aC (ji rfl (rfl) (af (aC (aE ?_)))))))
 have hq := Fg hc2
 refine cL mixed rfl (iq rfl (bW rfl ?_))
 refine aI rfl rfl rfl rfl rfl (by decide) ?_
 refine aJ rfl rfl rfl rfl (b9 rfl rfl rfl ?_)
 refine aI rfl rfl rfl rfl rfl (by decide) ?_
 refine aJ rfl rfl rfl rfl (b9 rfl rfl rfl ?_)
 refine gZ rfl rfl (by omega) (by omega) ?_
 refine bG rfl ?_
 refine cB rfl rfl (by omega) (by omega) ?_
 refine bh rfl (by exact List.cons_ne_nil _ _) rfl ?_
 refine cr rfl rfl (by decide) rfl rfl (by exact (rfl : _ = Ty.int _ _)) rfl (by exact Nat.le_of_ble_eq_true rfl) rfl rfl (by exact (rfl : _ = [_])) ?_
 refine aD ?_
 refine ⟨by kernel_rfl, ?_⟩
 refine aC (aE ?_)
 refine ig (s := 9) rfl (Ty.aF _) ?_
 refine jS (tg := 10) rfl (Cont.nV (T := 3) (show [Ty.int .i64 (((aQ y (nth bL)).length : Int) - (y.moves.length : Int) + q)] = [Ty.int .i64 ((y.bins.length * (y.D + 1) + q.toNat : Nat) : Int)] by congr 2; rw [hfl]; omega)) ?_
 refine kD (tg := 10) [(9, Ty.pp [Ty.int .i64 ((y.bins.length * (y.D + 1) + q.toNat : Nat) : Int)])] (by decide) rfl ⟨mW (T := 3) (off := 0) (l := [Ty.int .i64 ((y.bins.length * (y.D + 1) + q.toNat : Nat) : Int)]) rfl rfl rfl (by decide), trivial⟩ ?_
 refine aA (iq rfl (dh rfl ?_))
 refine dM [(1000, 1000)] [] [(1000, Cont.vec cz 3 (AO (aQ y (nth bL)) (y.cells + 1) (uU (y.bins.length * (y.D + 1) + q.toNat)) (lG y)))] (Eo y (aQ y (nth bL)) (lG y) hF hfe (Ty.kT 121 [Ty.pp [Ty.int .i64 ((y.bins.length * (y.D + 1) + q.toNat : Nat) : Int)]]) rfl rfl (uU (y.bins.length * (y.D + 1) + q.toNat)) (fun i _ => by rw [← M9]; exact dn (Kf (i : Nat) _) rfl rfl rfl rfl rfl rfl) rfl) rfl rfl (aN (aN bf (aU rfl rfl)) (fB (aN (aN (aN (aN (aN (aN bf (dZ (by exact List.mem_cons_self))) (aU rfl rfl)) (aU rfl rfl)) (aU rfl rfl)) (aU rfl rfl)) (aU rfl rfl)))) (dD (a := 1000) (b := 1000) (by exact List.mem_cons_self) rfl (bt (by exact List.mem_cons_self) rfl) pre_nil) (bp (a := 1000) (b := 1000) (by decide) rfl (bt (by decide) rfl) post_nil) (aU rfl rfl) ?_
 refine bO rfl rfl (by decide) rfl rfl rfl rfl rfl rfl ?_
 refine bu rfl (aD (aC (az ?_)))
 refine gL rfl rfl rfl rfl rfl (by decide) rfl rfl rfl ?_ ?_
 all_goals skip
 all_goals first | exact av rfl rfl (congrArg (fun s => Ty.agg (bX.tys s)) (Co hc1 hc2 ho).2) | exact av rfl rfl (congrArg (Ty.int .i64) (Co hc1 hc2 ho).1)
theorem xu (y : aj) (hs : y.Small) (q : Int) : dP Tryz.prog 22 [eB y, Ty.int .i64 q] (Ty.lN [Ty.sl bX (fN y q), Ty.int .i64 (fU y q)]) := by
 by_cases ho : bq y = 0
 ·exact Bl y hs q ho
 exact CL y hs q ho
theorem GR (y : aj) (hs : y.Small) (q : Int) : dP Tryz.prog 48 [eB y, Ty.int .i64 q] (Ty.lN [Ty.agg (bX.tys (iW y q)), Ty.int .i64 (gO y q)]) := by
 by_cases ho : bq y = 0
 ·exact Dk y hs q ho
 exact D0 y hs q ho
end Go.Proofs.YtelbollidfdcjaaGreat
namespace Go.T
open Go Go.RowKit
theorem Oi {ρ : List (Nat × Nat)} {l1 l2 : List Ty} (h1 : cD l1 = []) (h2 : bl l1 = []) : Conv ρ (.pp (l1 ++ l2)) (.pp l1) := fun w M M' v wf wf' hre ⟨b, off, e, hm, hlt, hd⟩ =>
 ⟨b, off, e, hre.none b hm, hlt, fun i t hi => by
  have hl := (List.getElem?_eq_some_iff.1 hi).1
  obtain ⟨x, hx, hdx⟩ := hd i t (by rw [List.getElem?_append_left hl]; exact hi)
  refine ⟨x, hx, aU ?_ ?_ w M M' x wf wf' hre hdx⟩
  ·refine List.eq_nil_iff_forall_not_mem.2 fun u hu => ?_
   have : u ∈ cD l1 := List.mem_flatMap.2 ⟨t, List.mem_of_getElem? hi, hu⟩
   rw [h1] at this; cases this
  refine List.eq_nil_iff_forall_not_mem.2 fun u hu => ?_
  have : u ∈ bl l1 := List.mem_flatMap.2 ⟨t, List.mem_of_getElem? hi, hu⟩
  rw [h2] at this; cases this⟩
end Go.T
namespace Go.Proofs.YtelbollidfdcjaaGreat
open Go Go.T
set_option maxHeartbeats 16000000
def pZ (y : aj) (t : Nat) (i : Nat) : Bool := (List.range y.bins.length).any fun b => decide ((i : Int) = ((y.kept b t : Nat) : Int))
noncomputable def sV (fl : List b8) (n : Nat) (y : aj) (a : List Int) : Nat → List Int
  | 0 => a
  | t + 1 => AO fl n (pZ y t) (sV fl n y a t)
noncomputable def rR (fl : List b8) (n : Nat) (y : aj) (k : Nat) : List Span := (List.range k).map fun t => g7 fl n (pZ y t)
noncomputable def kF (y : aj) : List Span := if bq y = 0 then rR (aQ y (nth bL)) (y.cells + 1) y (y.D + 1) else []
noncomputable def lH (y : aj) (q s : Int) (p : Span → Bool) : Int :=
  if c7 y q = 0 then (if (!(decide (s ≥ 0) && decide (s ≤ 300))) = true then 3 else if fU y q = 0 then (if fidx p (fN y q) < 0 then 6 else 0) else fU y q) else c7 y q
noncomputable def oL (y : aj) (q s : Int) (p : Span → Bool) : Int := if lH y q s p = 0 then fidx p (fN y q) else 0
section
variable {y : aj} {fl : List b8} {a : List Int} {n b k : Nat} {q s : Int} {p : Span → Bool} {i t : Nat}
theorem DA (hN : Net fl n) (hn : 0 < n) (hB : Bd fl) (h : fZ fl n a) : ∀ t, fZ fl n (sV fl n y a t)
  | 0 => h
  | t + 1 => (sJ hN hn hB (DA hN hn hB h t)).2.1
theorem Iw : a = sV fl n y a 0 := rfl
theorem Ls (t : Nat) : AO fl n (pZ y t) (sV fl n y a t) = sV fl n y a (t + 1) := rfl
theorem HA (t : Nat) : rR fl n y t ++ [g7 fl n (pZ y t)] = rR fl n y (t + 1) := by unfold rR; rw [List.range_succ, List.map_append]; rfl
theorem Jq (t : Nat) : (rR fl n y t).length = t := by unfold rR; rw [List.length_map, List.length_range]
theorem HL : rR fl n y 0 = [] := rfl
theorem Jy (hb : b < y.bins.length) (h : (i : Int) = ((y.kept b t : Nat) : Int)) : true = pZ y t i := (List.any_eq_true.2 ⟨b, List.mem_range.2 hb, decide_eq_true h⟩).symm
theorem MD (h : ∀ b, b < y.bins.length → ¬ (i : Int) = ((y.kept b t : Nat) : Int)) : false = pZ y t i := by
 refine (List.any_eq_false.2 fun b hb => ?_).symm
 rw [decide_eq_true_eq]; exact h b (List.mem_range.1 hb)
theorem MU (h : bq y ≠ 0) : [] = kF y := (if_neg h).symm
theorem CR (h : bq y = 0) : rR (aQ y (nth bL)) (y.cells + 1) y (y.D + 1) = kF y := (if_pos h).symm
theorem GM {e : Int} (h : e = lH y q s p) (h0 : e ≠ 0) : 0 = oL y q s p := by unfold oL; rw [← h, if_neg h0]
theorem N3 (h : ¬ c7 y q = 0) : c7 y q = lH y q s p ∧ 0 = oL y q s p := by
 have e : c7 y q = lH y q s p := (if_neg h).symm
 exact ⟨e, GM e h⟩
theorem Nu (h : c7 y q = 0) (h2 : (!(decide (s ≥ 0) && decide (s ≤ 300))) = true) : 3 = lH y q s p ∧ 0 = oL y q s p := by
 have e : 3 = lH y q s p := by unfold lH; rw [if_pos h, if_pos h2]
 exact ⟨e, GM e (by decide)⟩
theorem Nw (h : c7 y q = 0) (h2 : (!(decide (s ≥ 0) && decide (s ≤ 300))) = false) (h3 : ¬ fU y q = 0) : fU y q = lH y q s p ∧ 0 = oL y q s p := by
 have e : fU y q = lH y q s p := by unfold lH; rw [if_pos h, if_neg (by rw [h2]; decide), if_neg h3]
 exact ⟨e, GM e h3⟩
theorem N8 (h : c7 y q = 0) (h2 : (!(decide (s ≥ 0) && decide (s ≤ 300))) = false) (h3 : fU y q = 0) (h4 : fidx p (fN y q) < 0) : 6 = lH y q s p ∧ 0 = oL y q s p := by
 have e : 6 = lH y q s p := by unfold lH; rw [if_pos h, if_neg (by rw [h2]; decide), if_pos h3, if_pos h4]
 exact ⟨e, GM e (by decide)⟩
theorem Is (h : c7 y q = 0) (h2 : (!(decide (s ≥ 0) && decide (s ≤ 300))) = false) (h3 : fU y q = 0) (h4 : ¬ fidx p (fN y q) < 0) : 0 = lH y q s p ∧ fidx p (fN y q) = oL y q s p := by
 have e : 0 = lH y q s p := by unfold lH; rw [if_pos h, if_neg (by rw [h2]; decide), if_pos h3, if_neg h4]
 exact ⟨e, by unfold oL; rw [← e]; rfl⟩
end
attribute [local irreducible] aQ fY Way.g6 Way.fin Way.room eo eK fG gm over bN cR dj ep j8 fJ iO lD cQ fX gG gH c9 cO gx qH jL jR jW g7 DB AO gy aj.kept aj.cells bH c7 bL fQ lG bq p9 q9 fU fN gO iW hasB uU sV rR kF pZ lH oL
attribute [local irreducible] gP e9 mA oA iG iE iK g9 iL oc iA oM dV fo n6 gC oW nth fS dY ay dP bodyPost Exit.then Exit.inBlock Code.wp Code.wpIn n7 hU oX oR iB eW cM cN bodyPostM dX
set_option maxRecDepth 100000 in
theorem LI (y : aj) (hr : y.bw) (i t : Nat) (ht : t ≤ y.D) : dP Tryz.prog 88 [Ty.int .i64 ((i : Nat) : Int), Ty.pp (bA y), Ty.pp [Ty.pp (bA y)], Ty.pp [Ty.int .i64 ((t : Nat) : Int)]] (Ty.bool (pZ y t i)) := by
 refine ak Tryz.func88 rfl (by decide) Tryz.ntmps88 (by exact Nat.le_of_ble_eq_true rfl) fun w0 M0 => ?_
 have h1 := hr.bins
 refine aE (aA (dK rfl (aD (aC (aE (aE (aA ?_)))))))
 refine aI rfl rfl rfl rfl rfl (by decide) ?_
 refine aJ rfl rfl rfl rfl (b9 rfl rfl rfl (bG rfl (aD (aC (aa ?_)))))
 refine cG (fun (b : {b : Nat // b ≤ y.bins.length ∧ ∀ c, c < b → ¬ (i : Int) = ((y.kept c t : Nat) : Int)}) => live [(0, Ty.int .i64 ((i : Nat) : Int)), (1, Ty.pp (bA y)), (2, Ty.pp [Ty.pp (bA y)]), (3, Ty.pp [Ty.int .i64 ((t : Nat) : Int)]), (9, Ty.int .i64 y.bins.length), (10, Ty.int .i64 (b.1 : Nat))] []) (fun b => y.bins.length - b.1) (⟨0, Nat.zero_le _, fun c hc => absurd hc (Nat.not_lt_zero c)⟩) ?_ fun b => ?_
 ·(refine cg.mk' ?_ ?_ <;> (repeat' (first | exact aL | exact aK | refine aB ?_ (Ty.aT _) | refine aB ?_ (Ty.aF _))))
 have hb := b.2.1
 refine aE (aA (bB rfl rfl rfl (aD (aC (aE ?_)))))
 refine aq rfl (fun hc1 => ?_) (fun hc1 => ?_)
 ·
  refine af (aC (aE (aa (aE (aA (bG rfl (bu rfl (aD (aC ?_)))))))))
  refine aE (aA (bG rfl (aJ rfl rfl rfl rfl (bG rfl (aJ rfl rfl rfl rfl ?_)))))
  refine aZ (wm y hr b.1 t (by omega) ht) rfl rfl rfl rfl rfl ?_
  refine bB rfl rfl rfl (aD (aC ?_))
  refine aq rfl (fun hc2 => ?_) (fun hc2 => ?_)
  ·
   refine aE (aA (dK rfl (aD (aC (az (bC (aS (aS (bC ?_)))))))))
   refine aS (bU rfl rfl ?_)
   all_goals skip
   all_goals exact av rfl rfl (congrArg Ty.bool (Jy (by omega) hc2))
  refine af (bM (aC (aA ?_)))
  refine cB rfl rfl (by omega) (by omega) ?_
  refine bG rfl (aD ?_)
  refine bR (⟨b.1 + 1, by omega, fun c hc => by by_cases e : c = b.1; (subst e; exact hc2); exact b.2.2 c (by omega)⟩) ?_ (by show y.bins.length - (b.1 + 1) < y.bins.length - b.1; omega)
  (refine cg.mk' ?_ ?_ <;> (repeat' (first | exact aL | exact aK | refine aB ?_ (Ty.aT _) | refine aB ?_ (Ty.aF _))))
  all_goals skip
 refine cH (aP (aP (ah rfl (aC (aE (aA (dK rfl (aD (aC ?_)))))))))
 refine az (bU rfl rfl ?_)
 all_goals skip
 all_goals exact av rfl rfl (congrArg Ty.bool (MD fun c hc => b.2.2 c (by have := b.2.1; omega)))
set_option maxRecDepth 100000 in
theorem D1 (y : aj) (hs : y.Small) (ho : bq y ≠ 0) : dP Tryz.prog 21 [eB y] (Ty.lN [Ty.sl bX (kF y), Ty.int .i64 (bq y)]) := by
 refine ak Tryz.func21 rfl (by decide) Tryz.ntmps21 (by exact Nat.le_of_ble_eq_true rfl) fun w0 M0 => ?_
 refine aE (aA (bF rfl (mB rfl (bu rfl (aD (aC (aE (aA ?_))))))))
 refine aX rfl rfl rfl (by exact Nat.le_of_ble_eq_true rfl) ?_
 refine aZ (pI y hs ho) rfl rfl rfl rfl rfl (tL rfl (bQ rfl rfl (bQ rfl rfl ?_)))
 refine bh rfl (by exact List.cons_ne_nil _ _) rfl ?_
 refine cr rfl rfl (by decide) rfl rfl (by exact (rfl : _ = Ty.ex _)) rfl (by exact Nat.le_of_ble_eq_true rfl) rfl rfl (by exact (rfl : _ = [_])) ?_
 refine bu rfl (aD (aC (aE (aE (aA (bG rfl (bB rfl rfl rfl (aD (aC ?_)))))))))
 refine qp rfl (by rw [decide_eq_false ho]; rfl) ?_
 refine aE (aA (bG rfl (mB rfl (bu rfl (aD (aC (az (aS ?_))))))))
 refine gD rfl rfl rfl ?_ ?_
 all_goals first | exact cE rfl rfl | skip
 all_goals exact gS (MU ho).symm
set_option maxRecDepth 100000 in
theorem EJ (y : aj) (hs : y.Small) (ho : bq y = 0) : dP Tryz.prog 21 [eB y] (Ty.lN [Ty.sl bX (kF y), Ty.int .i64 (bq y)]) := by
 refine ak Tryz.func21 rfl (by decide) Tryz.ntmps21 (by exact Nat.le_of_ble_eq_true rfl) fun w0 M0 => ?_
 have hck := dN ho
 have hr := cK hck
 have hF : mO y (aQ y (nth bL)) (lG y) := tv ho
 have hfe := qw ho
 have h1 := hr.bins
 have h2 := hr.days
 have h3 := D_eq hr
 have hft := DA (y := y) hF.net (Nat.succ_pos _) hF.bd hfe
 refine aE (aA (bF rfl (mB rfl (bu rfl (aD (aC (aE (aA ?_))))))))
 refine aX rfl rfl rfl (by exact Nat.le_of_ble_eq_true rfl) ?_
 refine dM (res' := Ty.lN [Ty.pp (eG y (aQ y (nth bL)) 1000 (aQ y (nth bL)).length), Ty.int .i64 0]) [(1000, 1000)] [1000] [(1000, Cont.vec cz 3 (lG y))] (yP y hs ho) rfl rfl (aN bf (aU rfl rfl)) pre_nil (bp (a := 1000) (b := 1000) (by decide) rfl (bt (by decide) rfl) post_nil) (Et (aN (aN bf (aU rfl rfl)) (fB (aN (aN (aN (aN (aN (aN bf (dZ (by decide))) (aU rfl rfl)) (aU rfl rfl)) (aU rfl rfl)) (aU rfl rfl)) (aU rfl rfl))))) ?_
 refine tL rfl (bQ rfl rfl (bQ rfl rfl ?_))
 refine bh rfl (by exact List.cons_ne_nil _ _) rfl ?_
 refine cr rfl rfl (by decide) rfl rfl (by exact (rfl : _ = Ty.pp _)) rfl (by exact Nat.le_of_ble_eq_true rfl) rfl rfl (by exact (rfl : _ = [_])) ?_
 refine bu rfl (aD (aC (aE (aE (aA (bG rfl (bB rfl rfl rfl (aD (aC ?_)))))))))
 refine ji rfl (rfl) (af (aC (aE ?_)))
 refine kD (tg := 5) [(4, Ty.pp [Ty.pp (eG y (aQ y (nth bL)) 1000 (aQ y (nth bL)).length)])] (by decide) rfl ⟨mW (T := 152) (off := 0) (l := [Ty.pp (eG y (aQ y (nth bL)) 1000 (aQ y (nth bL)).length)]) rfl rfl rfl (by decide), trivial⟩ ?_
 refine aA (mB rfl (aD (aC (aE (aE (aA ?_))))))
 refine aI rfl rfl rfl rfl rfl (by decide) ?_
 refine aJ rfl rfl rfl rfl ?_
 refine cB rfl rfl (by omega) (by omega) ?_
 refine bG rfl (aD (aC (aa ?_)))
 refine cG (fun (t : {t : Nat // t ≤ y.D + 1}) => live [(1, Ty.pp (bA y)), (4, Ty.pp [Ty.pp (eG y (aQ y (nth bL)) 1000 (aQ y (nth bL)).length)]), (6, Ty.row bX 37 27 (rR (aQ y (nth bL)) (y.cells + 1) y t.1)), (18, Ty.int .i64 (y.days + 1)), (19, Ty.int .i64 (t.1 : Nat))] [(1000, Cont.vec cz 3 (sV (aQ y (nth bL)) (y.cells + 1) y (lG y) t.1))]) (fun t => y.D + 1 - t.1) (⟨0, by omega⟩) ?_ fun t => ?_
 ·(refine cg.mk' ?_ ?_ <;> (repeat' (first | exact aL | exact aK | refine aB ?_ (Ty.aT _) | refine aB ?_ (Ty.aF _) | refine aG rfl ?_ ?_ | refine aB ?_ ?_)))
  all_goals first | exact Cv HL | exact Cont.cy Iw
 have hbl := Jq (fl := (aQ y (nth bL))) (n := (y.cells + 1)) (y := y) t.1
 have ht := t.2
 have hFt : mO y (aQ y (nth bL)) (sV (aQ y (nth bL)) (y.cells + 1) y (lG y) t.1) := ⟨hr, hF.net, hF.bd, (hft t.1).1, hF.q7⟩
 refine aE (aA (bB rfl rfl rfl (aD (aC (aE ?_)))))
 refine aq rfl (fun hc2 => ?_) (fun hc2 => ?_)
 ·
  refine af (aC (aE (aa (aE (aA (bG rfl ?_))))))
  refine bh rfl (by exact List.cons_ne_nil _ _) rfl ?_
  refine cr rfl rfl (by decide) rfl rfl (by exact (rfl : _ = Ty.int _ _)) rfl (by exact Nat.le_of_ble_eq_true rfl) rfl rfl (by exact (rfl : _ = [_])) ?_
  refine aD (aC ?_)
  refine kD (tg := 8) [(7, Ty.pp [Ty.int .i64 ((t.1 : Nat) : Int)])] (by decide) rfl ⟨mW (T := 3) (off := 0) (l := [Ty.int .i64 ((t.1 : Nat) : Int)]) rfl rfl rfl (by decide), trivial⟩ ?_
  refine aA (G8 rfl (aJ rfl rfl rfl rfl (dh rfl ?_)))
  refine dM [(1000, 1000)] [] [(1000, Cont.vec cz 3 (AO (aQ y (nth bL)) (y.cells + 1) (pZ y t.1) (sV (aQ y (nth bL)) (y.cells + 1) y (lG y) t.1)))] (Eo y (aQ y (nth bL)) (sV (aQ y (nth bL)) (y.cells + 1) y (lG y) t.1) hFt (hft t.1) (Ty.kT 88 [Ty.pp (bA y), Ty.pp [Ty.pp (bA y)], Ty.pp [Ty.int .i64 ((t.1 : Nat) : Int)]]) rfl rfl (pZ y t.1) (fun i _ => dn (LI y hr i t.1 (by omega)) rfl rfl rfl rfl rfl rfl) rfl) rfl rfl (aN (aN bf (tV (aN (aN (aN bf (aU rfl rfl)) (fB (aN bf (Oi (l1 := bA y) (l2 := [Ty.sl dS (aQ y (nth bL)), Ty.vs 1000 (aQ y (nth bL)).length]) rfl rfl)))) (aU rfl rfl)))) (fB (aN (aN (aN (aN (aN (aN bf (dZ (by exact List.mem_cons_self))) (aU rfl rfl)) (aU rfl rfl)) (aU rfl rfl)) (aU rfl rfl)) (aU rfl rfl)))) (dD (a := 1000) (b := 1000) (by exact List.mem_cons_self) rfl (bt (by exact List.mem_cons_self) rfl) pre_nil) (bp (a := 1000) (b := 1000) (by decide) rfl (bt (by decide) rfl) post_nil) (aU rfl rfl) ?_
  refine bg (E := bX) (xs := [g7 (aQ y (nth bL)) (y.cells + 1) (pZ y t.1)]) rfl rfl rfl rfl rfl (by decide) (by decide) (by repeat (first | exact (aV.nil : aV _ _ [] _) | (show aV _ _ ((_, _) :: _) _; apply aV.agg; (· exact (rfl : _ = Ty.agg _))))) (by exact rfl) rfl ?_
  refine dy rfl rfl (by decide) rfl rfl rfl rfl rfl rfl (by decide) (by (simp <;> omega)) (by (simp <;> omega)) ?_
  refine A2 rfl (aD (bM (aC (aA ?_))))
  refine cB rfl rfl (by omega) (by omega) ?_
  refine bG rfl (aD ?_)
  refine bR (⟨t.1 + 1, by omega⟩) ?_ (by show y.D + 1 - (t.1 + 1) < y.D + 1 - t.1; omega)
  (refine cg.mk' ?_ ?_ <;> (repeat' (first | exact aL | exact aK | refine aB ?_ (Ty.aT _) | refine aB ?_ (Ty.aF _) | refine aG rfl ?_ ?_ | refine aB ?_ ?_)))
  all_goals skip
  all_goals first | exact Ty.fH (HA _) | exact Cont.cy (Ls _)
 refine cH (aP (aP (ah rfl (aC (aE (aA (G8 rfl (A2 rfl (bu rfl ?_)))))))))
 refine aD (aC (az ?_))
 refine gD rfl rfl rfl ?_ ?_
 all_goals skip
 all_goals first | exact rO (by decide) ((show _ = rR (aQ y (nth bL)) (y.cells + 1) y (y.D + 1) by rw [show t.1 = y.D + 1 by have := t.2; omega]).trans (CR ho)) | exact av rfl rfl (congrArg (Ty.int .i64) ho.symm)
set_option maxRecDepth 100000 in
theorem Mf (y : aj) (hs : y.Small) (q s : Int) (t : Ty) (h1 : t.one = true) (p : Span → Bool) (hd : t.deps = []) (hc : t.cdeps = []) (hf : ∀ x ∈ fN y q, pH Tryz.prog t [Ty.agg (bX.tys x)] (Ty.bool (p x))) : dP Tryz.prog 100 [eB y, Ty.int .i64 q, Ty.int .i64 s, t] (Ty.lN [Ty.int .i64 (oL y q s p), Ty.int .i64 (lH y q s p)]) := by
 refine ak Tryz.func100 rfl (by decide) Tryz.ntmps100 (by exact Nat.le_of_ble_eq_true rfl) fun w0 M0 => ?_
 refine aE (aA (bF rfl (bu rfl (bu rfl (aD (aC (aE (aE (aA ?_)))))))))
 refine aX rfl rfl rfl (by exact Nat.le_of_ble_eq_true rfl) ?_
 refine bG rfl (aZ (wE y hs q) rfl rfl rfl rfl rfl (bu rfl (aD (aC (aE (aA (bG rfl (bB rfl rfl rfl (aD ?_)))))))))
 refine aC ?_
 refine dJ rfl (fun hc1 => ?_) (fun hc1 => ?_)
 ·
  refine aE (aA (bG rfl (bu rfl (bu rfl (aD (aC (az (aS ?_))))))))
  refine gD rfl rfl rfl ?_ ?_
  all_goals skip
  all_goals first | exact av rfl rfl (congrArg (Ty.int .i64) (N3 hc1).1) | exact av rfl rfl (congrArg (Ty.int .i64) (N3 hc1).2)
 refine af (aC (aE (aE (aA (bG rfl (aZ (uL _ _ _) rfl rfl rfl rfl rfl (dr rfl (aD (aC ?_)))))))))
 refine cC rfl (fun hc2 => ?_) (fun hc2 => ?_)
 ·
  refine aE (aA (bu rfl (bu rfl (aD (aC (az (aS ?_)))))))
  refine gD rfl rfl rfl ?_ ?_
  all_goals skip
  all_goals first | exact av rfl rfl (congrArg (Ty.int .i64) (Nu hc1 hc2).1) | exact av rfl rfl (congrArg (Ty.int .i64) (Nu hc1 hc2).2)
 refine af (aC (aE (aA ?_)))
 refine aX rfl rfl rfl (by exact Nat.le_of_ble_eq_true rfl) ?_
 refine bG rfl (aZ (xu y hs q) rfl rfl rfl rfl rfl (tL rfl (bQ rfl rfl (bQ rfl rfl (Bh rfl (bu rfl (aD (aC (aE ?_)))))))))
 refine aE (aA (bG rfl (bB rfl rfl rfl (aD (aC ?_)))))
 refine dJ rfl (fun hc3 => ?_) (fun hc3 => ?_)
 ·
  refine aE (aA (bG rfl (bu rfl (bu rfl (aD (aC (az (aS ?_))))))))
  refine gD rfl rfl rfl ?_ ?_
  all_goals skip
  all_goals first | exact av rfl rfl (congrArg (Ty.int .i64) (Nw hc1 hc2 hc3).1) | exact av rfl rfl (congrArg (Ty.int .i64) (Nw hc1 hc2 hc3).2)
 refine af (aC (aE (aA (fT rfl ?_))))
 refine eN (ty := t) rfl ?_
 refine aZ (vX (fN y q) t h1 p hd hc hf) rfl (by exact bk rfl (bk hd rfl)) (by exact bS rfl (bS hc rfl)) rfl rfl ?_
 refine bu rfl (aD (aC (aE (aE (aA (bG rfl (bB rfl rfl rfl (aD (aC ?_)))))))))
 refine aq rfl (fun hc4 => ?_) (fun hc4 => ?_)
 ·
  refine aE (aA (bu rfl (bu rfl (aD (aC (az (aS ?_)))))))
  refine gD rfl rfl rfl ?_ ?_
  all_goals skip
  all_goals first | exact av rfl rfl (congrArg (Ty.int .i64) (N8 hc1 hc2 hc3 hc4).1) | exact av rfl rfl (congrArg (Ty.int .i64) (N8 hc1 hc2 hc3 hc4).2)
 refine af (aC (aE (aA (bG rfl (bu rfl (bu rfl (aD (aC (az ?_)))))))))
 refine gD rfl rfl rfl ?_ ?_
 all_goals skip
 all_goals first | exact av rfl rfl (congrArg (Ty.int .i64) (Is hc1 hc2 hc3 hc4).1) | exact av rfl rfl (congrArg (Ty.int .i64) (Is hc1 hc2 hc3 hc4).2)
set_option maxRecDepth 100000 in
theorem H6 (s : Span) (k : Int) : dP Tryz.prog 101 [Ty.agg (bX.tys s), Ty.pp [Ty.int .i64 k]] (Ty.bool (decide (s.lo ≥ k))) := by
 refine ak Tryz.func101 rfl (by decide) Tryz.ntmps101 (by exact Nat.le_of_ble_eq_true rfl) fun w0 M0 => ?_
 refine aE (aA (bF rfl (dK rfl (aD (aC (aE (aA ?_)))))))
 refine aI rfl rfl rfl rfl rfl (by decide) ?_
 refine aJ rfl rfl rfl rfl (aJ rfl rfl rfl rfl (bB rfl rfl rfl (dK rfl (aD (aC (az (bU rfl rfl ?_)))))))
 all_goals exact cE rfl rfl
set_option maxRecDepth 100000 in
theorem J5 (y : aj) (hs : y.Small) (q s : Int) : dP Tryz.prog 33 [eB y, Ty.int .i64 q, Ty.int .i64 s] (Ty.lN [Ty.int .i64 (oL y q s fun x => decide (x.lo ≥ s)), Ty.int .i64 (lH y q s fun x => decide (x.lo ≥ s))]) := by
 refine ak Tryz.func33 rfl (by decide) Tryz.ntmps33 (by exact Nat.le_of_ble_eq_true rfl) fun w0 M0 => ?_
 refine aE (aA (bF rfl ?_))
 refine gY (by exact (rfl : _ = Ty.int _ _)) rfl ?_
 refine bu rfl (bu rfl (aD (aC (aE (aA ?_)))))
 refine aX rfl rfl rfl (by exact Nat.le_of_ble_eq_true rfl) ?_
 refine bG rfl (aJ rfl rfl rfl rfl (dh rfl ?_))
 refine aZ (Mf y hs q s (Ty.kT 101 [Ty.pp [Ty.int .i64 s]]) rfl (fun x => decide (x.lo ≥ s)) rfl rfl fun x _ => dn (H6 x s) rfl rfl rfl rfl rfl rfl) rfl rfl rfl rfl rfl ?_
 refine bQ rfl rfl (bQ rfl rfl (bu rfl (bu rfl (aD (aC (az ?_))))))
 refine gD rfl rfl rfl ?_ ?_
 all_goals exact cE rfl rfl
theorem Fq (y : aj) (hs : y.Small) : dP Tryz.prog 21 [eB y] (Ty.lN [Ty.sl bX (kF y), Ty.int .i64 (bq y)]) := by
 by_cases ho : bq y = 0
 ·exact EJ y hs ho
 exact D1 y hs ho
end Go.Proofs.YtelbollidfdcjaaGreat
namespace Go.Proofs.YtelbollidfdcjaaGreat
open Go Go.T
set_option maxHeartbeats 16000000
structure FN where
  cells : List DE
  out : Bool
  deriving Inhabited
def nD (p : FN) : List Ty := [Ty.sl rq p.cells, Ty.bool p.out]
def lU (fl : List b8) : Int := fl.foldl (fun m f => max m (f.lo - f.hi)) (-300)
def yX (y : aj) (l : List DE) (c : Int) : Bool := l.any fun x => decide (y.cell x.bin x.day = c)
def J7 (y : aj) (p : FN) (f : b8) : Bool := if p.out = true then (yX y p.cells f.src && !yX y p.cells f.dst) else (yX y p.cells f.dst && !yX y p.cells f.src)
def Ho (y : aj) (p : FN) (f : b8) : Bool := if p.out = true then (yX y p.cells f.dst && !yX y p.cells f.src) else (yX y p.cells f.src && !yX y p.cells f.dst)
def sx (y : aj) (p : FN) (m : Int) (f : b8) : Int := (m + if J7 y p f = true then f.lo else 0) - if Ho y p f = true then f.hi else 0
def gw (y : aj) (fl : List b8) (p : FN) : Nat → Int
  | 0 => 0
  | k + 1 => sx y p (gw y fl p k) (nth fl k)
def kC (y : aj) (fl : List b8) (p : FN) : Int := if p.cells = [] then lU fl else gw y fl p fl.length
def mX (a b : DE) : Bool := !decide (a = b) && (decide (a.bin < b.bin) || (decide (a.bin = b.bin) && decide (a.day < b.day)))
def K5 (y : aj) (c : DE) : Bool := y.bin c.bin && (decide (c.day ≥ 0) && decide (c.day ≤ y.days - 1))
open Classical in
noncomputable def n5 (y : aj) (p : FN) : Int := if bH y = 0 then (if (p.cells.all (K5 y)) = true then (if (∀ i, i + 1 < p.cells.length → mX (nth p.cells i) (nth p.cells (i + 1)) = true) then (if kC y (aQ y (nth bL)) p < 1 then 6 else 0) else 4) else 1) else bH y
noncomputable def uQ (y : aj) (p : FN) : Int := if n5 y p = 0 then kC y (aQ y (nth bL)) p else 0
section
variable {y : aj} {fl : List b8} {a : List Int} {n b k : Nat} {p : FN} {f : b8} {m : Int}
theorem Ev : -300 = lU (fl.take 0) := rfl
theorem Ej (h : k < fl.length) : max (lU (fl.take k)) ((nth fl k).lo - (nth fl k).hi) = lU (fl.take (k + 1)) := by
 unfold lU; rw [cV h, List.foldl_append]; rfl
theorem Ji (h : p.out = true) : (yX y p.cells f.src && !yX y p.cells f.dst) = J7 y p f ∧ (yX y p.cells f.dst && !yX y p.cells f.src) = Ho y p f := ⟨(if_pos h).symm, (if_pos h).symm⟩
theorem Nk (h : p.out = false) : (yX y p.cells f.dst && !yX y p.cells f.src) = J7 y p f ∧ (yX y p.cells f.src && !yX y p.cells f.dst) = Ho y p f := ⟨(if_neg (by rw [h]; decide)).symm, (if_neg (by rw [h]; decide)).symm⟩
def o7 (y : aj) (p : FN) (m : Int) (f : b8) : Int := m + if J7 y p f = true then f.lo else 0
theorem JQ (h : J7 y p f = true) : m + f.lo = o7 y p m f := by unfold o7; rw [if_pos h]
theorem MP (h : J7 y p f = false) : m = o7 y p m f := by unfold o7; rw [if_neg (by rw [h]; decide)]; omega
theorem GB (h : 0 ≤ f.lo ∧ f.lo ≤ 300) : m ≤ o7 y p m f ∧ o7 y p m f ≤ m + 300 := by unfold o7; split <;> omega
theorem zc : 0 = gw y fl p 0 := rfl
theorem CP (h : Ho y p (nth fl k) = true) : o7 y p (gw y fl p k) (nth fl k) - (nth fl k).hi = gw y fl p (k + 1) := by
 show _ = sx y p _ _; unfold sx; rw [if_pos h]; rfl
theorem GO (h : Ho y p (nth fl k) = false) : o7 y p (gw y fl p k) (nth fl k) = gw y fl p (k + 1) := by
 have e : ¬ Ho y p (nth fl k) = true := by rw [h]; decide
 show _ = sx y p _ _; unfold sx; rw [if_neg e]; unfold o7; omega
theorem Cn (hb : ∀ i, i < fl.length → 0 ≤ (nth fl i).lo ∧ (nth fl i).lo ≤ 300 ∧ 0 ≤ (nth fl i).hi ∧ (nth fl i).hi ≤ 300) : ∀ k, k ≤ fl.length → -(300 * (k : Int)) ≤ gw y fl p k ∧ gw y fl p k ≤ 300 * (k : Int)
  | 0, _ => by rw [← zc]; omega
  | k + 1, h => by
    have ih := Cn hb k (by omega)
    have h1 := hb k (by omega)
    have h2 := GB (y := y) (p := p) (m := gw y fl p k) (f := nth fl k) ⟨h1.1, h1.2.1⟩
    cases e : Ho y p (nth fl k) with
    | true => rw [← CP e]; omega
    | false => rw [← GO e]; omega
theorem Ei (h : p.cells = []) : lU fl = kC y fl p := (if_pos h).symm
theorem CN (h : p.cells ≠ []) : gw y fl p fl.length = kC y fl p := (if_neg h).symm
theorem Oz (h : (p.cells.length : Int) = 0) : p.cells = [] := List.length_eq_zero_iff.1 (by omega)
theorem MZ (h : ¬ (p.cells.length : Int) = 0) : p.cells ≠ [] := fun e => h (by rw [e]; rfl)
theorem Fo {e : Int} (h : e = n5 y p) (h0 : e ≠ 0) : 0 = uQ y p := by unfold uQ; rw [← h, if_neg h0]
theorem No (h : ¬ bH y = 0) : bH y = n5 y p ∧ 0 = uQ y p := by
 have e : bH y = n5 y p := (if_neg h).symm
 exact ⟨e, Fo e h⟩
theorem N1 (h : bH y = 0) (h2 : (p.cells.all (K5 y)) = false) : 1 = n5 y p ∧ 0 = uQ y p := by
 have e : 1 = n5 y p := by unfold n5; rw [if_pos h, if_neg (by rw [h2]; decide)]
 exact ⟨e, Fo e (by decide)⟩
theorem Pf (h : bH y = 0) (h2 : (p.cells.all (K5 y)) = true) {i : Nat} (hi : i + 1 < p.cells.length) (h3 : mX (nth p.cells i) (nth p.cells (i + 1)) = false) : 4 = n5 y p ∧ 0 = uQ y p := by
 have e : 4 = n5 y p := by
  unfold n5; rw [if_pos h, if_pos h2, if_neg fun hx => by rw [hx i hi] at h3; cases h3]
 exact ⟨e, Fo e (by decide)⟩
theorem IX (h : bH y = 0) (h2 : (p.cells.all (K5 y)) = true) {i : Nat} (h1 : 1 ≤ i) (hi : i < p.cells.length) (h3 : mX (nth p.cells (i - 1)) (nth p.cells i) = false) : 4 = n5 y p ∧ 0 = uQ y p := by
 obtain ⟨j, rfl⟩ : ∃ j, i = j + 1 := ⟨i - 1, by omega⟩
 exact Pf h h2 hi h3
theorem OF (h : bH y = 0) (h2 : (p.cells.all (K5 y)) = true) (h3 : ∀ i, i + 1 < p.cells.length → mX (nth p.cells i) (nth p.cells (i + 1)) = true) (h4 : kC y (aQ y (nth bL)) p < 1) : 6 = n5 y p ∧ 0 = uQ y p := by
 have e : 6 = n5 y p := by unfold n5; rw [if_pos h, if_pos h2, if_pos h3, if_pos h4]
 exact ⟨e, Fo e (by decide)⟩
theorem K8 (h : bH y = 0) (h2 : (p.cells.all (K5 y)) = true) (h3 : ∀ i, i + 1 < p.cells.length → mX (nth p.cells i) (nth p.cells (i + 1)) = true) (h4 : ¬ kC y (aQ y (nth bL)) p < 1) : 0 = n5 y p ∧ kC y (aQ y (nth bL)) p = uQ y p := by
 have e : 0 = n5 y p := by unfold n5; rw [if_pos h, if_pos h2, if_pos h3, if_neg h4]
 exact ⟨e, by unfold uQ; rw [← e]; rfl⟩
theorem O6 (a b : DE) : (decide (a.bin = b.bin) && decide (a.day = b.day)) = decide (a = b) := by
 cases a; cases b; simp
theorem OP {c : DE} (h : K5 y c = true) : (-1 ≤ c.bin ∧ c.bin < y.bins.length) ∧ 0 ≤ c.day ∧ c.day ≤ y.days := by
 unfold K5 aj.bin yY at h
 simp only [Bool.and_eq_true, decide_eq_true_eq] at h; omega
theorem FB (hr : y.bw) {c : Nat → Bool} {t : Nat} {q : Span} (h : q.lo ≤ 300 ∧ 0 ≤ q.hi) : ∀ k, k ≤ y.levels.length → (gV y c b t q k).lo ≤ 300 ∧ 0 ≤ (gV y c b t q k).hi
  | 0, _ => h
  | k + 1, hk => by
    have ih := FB hr (c := c) (t := t) h k (by omega)
    have hl := hr.level _ (cT (xs := y.levels) (k := k) (by omega))
    unfold gV; split
    · show max _ _ ≤ 300 ∧ 0 ≤ min _ _; omega
    · exact ih
theorem Ia (hr : y.bw) {c : Nat → Bool} {i : Nat} (hi : i < (aQ y c).length) : 0 ≤ (nth (aQ y c) i).lo ∧ (nth (aQ y c) i).lo ≤ 300 ∧ 0 ≤ (nth (aQ y c) i).hi ∧ (nth (aQ y c) i).hi ≤ 300 := by
 have hB := qa hr (c := c) i hi
 suffices h : (nth (aQ y c) i).lo ≤ 300 ∧ 0 ≤ (nth (aQ y c) i).hi by omega
 rcases og hi with ⟨b, t, hb, ht, rfl⟩ | ⟨k, hk, rfl⟩
 ·rw [jD hb ht]
  obtain ⟨h1, h2, h3⟩ := hr.bin _ (cT hb)
  refine FB hr (q := iU y b t) ?_ y.levels.length (Nat.le_refl _)
  unfold iU; split
  ·exact ⟨by show (0 : Int) ≤ 300; decide, h1.1⟩
  show max _ _ ≤ 300 ∧ 0 ≤ min _ _; omega
 rw [jB hk]
 have h := (hr.move _ (cT hk)).2.2.2.2
 show (nth y.moves k).sacks.lo ≤ 300 ∧ 0 ≤ (nth y.moves k).sacks.hi
 omega
theorem KJ (hr : y.bw) {c : Nat → Bool} : ∀ i, i < (aQ y c).length → 0 ≤ (nth (aQ y c) i).lo ∧ (nth (aQ y c) i).lo ≤ 300 ∧ 0 ≤ (nth (aQ y c) i).hi ∧ (nth (aQ y c) i).hi ≤ 300 := fun i hi => Ia hr hi
end
attribute [local irreducible] aQ fY Way.g6 Way.fin Way.room eo eK fG gm over bN cR dj ep j8 fJ iO lD cQ fX gG gH c9 cO gx qH jL jR jW g7 DB AO gy aj.kept aj.cells bH c7 bL fQ lG bq p9 q9 fU fN gO iW hasB uU sV rR kF pZ lH oL lU yX gw kC J7 Ho sx
attribute [local irreducible] o7
attribute [local irreducible] gP e9 mA oA iG iE iK g9 iL oc iA oM dV fo n6 gC oW nth fS dY ay dP bodyPost Exit.then Exit.inBlock Code.wp Code.wpIn n7 hU oX oR iB eW cM cN bodyPostM dX
set_option maxRecDepth 100000 in
theorem GY (y : aj) (fl : List b8) (a : List Int) (hfl : fl.length ≤ 34) (hb : ∀ i, i < fl.length → 0 ≤ (nth fl i).lo ∧ (nth fl i).lo ≤ 300 ∧ 0 ≤ (nth fl i).hi ∧ (nth fl i).hi ≤ 300) : dP Tryz.prog 128 [Ty.pp (lB y fl a)] (Ty.int .i64 (lU fl)) := by
 refine ak Tryz.func128 rfl (by decide) Tryz.ntmps128 (by exact Nat.le_of_ble_eq_true rfl) fun w0 M0 => ?_
 refine aE (aA (bu rfl (aD (aC (aE (aA (bu rfl (aD (aC ?_)))))))))
 refine aE (aE (aA (iq rfl (bW rfl ?_))))
 refine aI rfl rfl rfl rfl rfl (by decide) ?_
 refine aJ rfl rfl rfl rfl (b9 rfl rfl rfl (bG rfl (aD (aC (aa ?_)))))
 refine cG (fun (k : {k : Nat // k ≤ fl.length}) => live [(0, Ty.pp (lB y fl a)), (3, Ty.int .i64 (lU (fl.take k.1))), (9, Ty.sl dS fl), (10, Ty.int .i64 fl.length), (11, Ty.int .i64 (k.1 : Nat))] []) (fun k => fl.length - k.1) (⟨0, by omega⟩) ?_ fun k => ?_
 ·(refine cg.mk' ?_ ?_ <;> (repeat' (first | exact aL | exact aK | refine aB ?_ (Ty.aT _) | refine aB ?_ (Ty.aF _) | refine aB ?_ ?_)))
  all_goals exact Ty.bI Ev
 have hk := k.2
 refine aE (aA (bB rfl rfl rfl (aD (aC (aE ?_)))))
 refine aq rfl (fun hc1 => ?_) (fun hc1 => ?_)
 ·
  refine af (aC (aE (aa (aE (aA ?_)))))
  refine au rfl rfl rfl rfl rfl rfl (by omega) ?_
  refine aX rfl rfl rfl (by exact Nat.le_of_ble_eq_true rfl) ?_
  refine bh rfl (by exact List.cons_ne_nil _ _) rfl ?_
  refine bO rfl rfl (by decide) rfl rfl rfl rfl rfl rfl ?_
  refine aD (aC ?_)
  have hbk := hb k.1 (by omega)
  refine aA (bG rfl ?_)
  refine aR rfl rfl rfl rfl rfl (by decide) ?_
  refine aY rfl rfl (by decide) rfl rfl rfl ?_
  refine aR rfl rfl rfl rfl rfl (by decide) ?_
  refine aY rfl rfl (by decide) rfl rfl rfl ?_
  refine gZ rfl rfl (by omega) (by omega) ?_
  refine DG rfl rfl (bu rfl (aD (bM (aC (aA ?_)))))
  refine cB rfl rfl (by omega) (by omega) ?_
  refine bG rfl (aD ?_)
  refine bR (⟨k.1 + 1, by omega⟩) ?_ (by show fl.length - (k.1 + 1) < fl.length - k.1; omega)
  (refine cg.mk' ?_ ?_ <;> (repeat' (first | exact aL | exact aK | refine aB ?_ (Ty.aT _) | refine aB ?_ (Ty.aF _) | refine aB ?_ ?_)))
  all_goals skip
  all_goals exact Ty.bI (Ej (by omega))
 refine cH (aP (aP (ah rfl (aC (aE (aA (bG rfl (bu rfl (aD ?_)))))))))
 refine aC (az (bU rfl rfl ?_))
 all_goals skip
 all_goals exact av rfl rfl (congrArg (Ty.int .i64) (by rw [List.take_of_length_le (by have := k.2; omega)]))
set_option maxRecDepth 100000 in
theorem Hp (y : aj) (hr : y.bw) (fl : List b8) (a : List Int) (x : DE) (hx : (-1 ≤ x.bin ∧ x.bin < y.bins.length) ∧ 0 ≤ x.day ∧ x.day ≤ y.days) (c : Int) : dP Tryz.prog 188 [Ty.agg (rq.tys x), Ty.pp [Ty.pp (lB y fl a)], Ty.pp [Ty.int .i64 c]] (Ty.bool (decide (y.cell x.bin x.day = c))) := by
 refine ak Tryz.func188 rfl (by decide) Tryz.ntmps188 (by exact Nat.le_of_ble_eq_true rfl) fun w0 M0 => ?_
 refine aE (aA (bF rfl (dK rfl (aD (aC (aE (cL mixed rfl (aJ rfl rfl rfl rfl ?_))))))))
 refine aI rfl rfl rfl rfl rfl (by decide) ?_
 refine aJ rfl rfl rfl rfl ?_
 refine aI rfl rfl rfl rfl rfl (by decide) ?_
 refine aJ rfl rfl rfl rfl ?_
 refine eC [] (xZ y hr x.bin x.day hx.1 hx.2) rfl (aW (kX (l1 := bA y) (l2 := [Ty.sl dS fl, Ty.sl cz a]) rfl rfl) (aW (bV (bT rfl rfl)) (aW (bV (bT rfl rfl)) cP))) (by exact dU _ _) ?_
 refine aJ rfl rfl rfl rfl (bB rfl rfl rfl (dK rfl (aD ?_)))
 refine ⟨by kernel_rfl, ?_⟩
 refine aC (az (bU rfl rfl ?_))
 all_goals exact cE rfl rfl
set_option maxRecDepth 100000 in
theorem sU (y : aj) (hr : y.bw) (fl : List b8) (a : List Int) (p : FN) (hp : ∀ x ∈ p.cells, (-1 ≤ x.bin ∧ x.bin < y.bins.length) ∧ 0 ≤ x.day ∧ x.day ≤ y.days) (c : Int) : dP Tryz.prog 187 [Ty.int .i64 c, Ty.pp (nD p), Ty.pp [Ty.pp (lB y fl a)]] (Ty.bool (yX y p.cells c)) := by
 refine ak Tryz.func187 rfl (by decide) Tryz.ntmps187 (by exact Nat.le_of_ble_eq_true rfl) fun w0 M0 => ?_
 refine aE (aA ?_)
 refine gY (by exact (rfl : _ = Ty.int _ _)) rfl ?_
 refine dK rfl (aD (aC (aE (aA ?_))))
 refine aI rfl rfl rfl rfl rfl (by decide) ?_
 refine aJ rfl rfl rfl rfl (dh rfl ?_)
 refine aZ (mF p.cells (Ty.kT 188 [Ty.pp [Ty.pp (lB y fl a)], Ty.pp [Ty.int .i64 c]]) rfl (fun x => decide (y.cell x.bin x.day = c)) rfl rfl fun x hx => dn (Hp y hr fl a x (hp x hx) c) rfl rfl rfl rfl rfl rfl) rfl rfl rfl rfl rfl ?_
 refine dK rfl (aD (aC (az (bU rfl rfl ?_))))
 all_goals skip
 all_goals exact av rfl rfl (congrArg Ty.bool (by unfold yX; rfl))
set_option maxRecDepth 100000 in
theorem L0 (y : aj) (hr : y.bw) (fl : List b8) (a : List Int) (hfl : fl.length ≤ 34) (hb : ∀ i, i < fl.length → 0 ≤ (nth fl i).lo ∧ (nth fl i).lo ≤ 300 ∧ 0 ≤ (nth fl i).hi ∧ (nth fl i).hi ≤ 300) (p : FN) (hp : ∀ x ∈ p.cells, (-1 ≤ x.bin ∧ x.bin < y.bins.length) ∧ 0 ≤ x.day ∧ x.day ≤ y.days) : dP Tryz.prog 137 [Ty.pp (lB y fl a), Ty.agg (nD p)] (Ty.int .i64 (kC y fl p)) := by
 refine ak Tryz.func137 rfl (by decide) Tryz.ntmps137 (by exact Nat.le_of_ble_eq_true rfl) fun w0 M0 => ?_
 refine aE (aA ?_)
 refine gY (by exact (rfl : _ = Ty.pp _)) rfl ?_
 refine bF rfl (bu rfl (aD (aC (aE (aE (aA ?_))))))
 refine aI rfl rfl rfl rfl rfl (by decide) ?_
 refine aJ rfl rfl rfl rfl (b9 rfl rfl rfl (bB rfl rfl rfl (aD (aC ?_))))
 refine aq rfl (fun hc1 => ?_) (fun hc1 => ?_)
 ·
  refine aE (aA (aJ rfl rfl rfl rfl (aZ (GY y fl a hfl hb) rfl rfl rfl rfl rfl (bu rfl (aD (aC (az (aS (bU rfl rfl ?_)))))))))
  all_goals skip
  all_goals exact av rfl rfl (congrArg (Ty.int .i64) (Ei (Oz hc1)))
 refine af (aC (aE (aA (dh rfl (RU rfl (aD (aC (aE (aA ?_)))))))))
 refine bu rfl (aD (aC (aE (aE (aA (aJ rfl rfl rfl rfl (bW rfl ?_)))))))
 refine aI rfl rfl rfl rfl rfl (by decide) ?_
 refine aJ rfl rfl rfl rfl (b9 rfl rfl rfl (bG rfl (aD (aC (aa ?_)))))
 refine cG (fun (k : {k : Nat // k ≤ fl.length}) => live [(3, Ty.pp (nD p)), (5, Ty.kT 187 [Ty.pp (nD p), Ty.pp [Ty.pp (lB y fl a)]]), (6, Ty.int .i64 (gw y fl p k.1)), (21, Ty.sl dS fl), (22, Ty.int .i64 fl.length), (23, Ty.int .i64 (k.1 : Nat))] []) (fun k => fl.length - k.1) (⟨0, by omega⟩) ?_ fun k => ?_
 ·(refine cg.mk' ?_ ?_ <;> (repeat' (first | exact aL | exact aK | refine aB ?_ (Ty.aT _) | refine aB ?_ (Ty.aF _) | refine aB ?_ ?_)))
  all_goals exact Ty.bI zc
 have hk := k.2
 have hup := Cn (y := y) (p := p) hb k.1 k.2
 refine aE (aA (bB rfl rfl rfl (aD (aC (aE ?_)))))
 refine aq rfl (fun hc2 => ?_) (fun hc2 => ?_)
 ·
  refine af (aC (aE (aa (aE (aA ?_)))))
  refine au rfl rfl rfl rfl rfl rfl (by omega) ?_
  refine aX rfl rfl rfl (by exact Nat.le_of_ble_eq_true rfl) ?_
  refine bh rfl (by exact List.cons_ne_nil _ _) rfl ?_
  refine bO rfl rfl (by decide) rfl rfl rfl rfl rfl rfl ?_
  refine aD (aC (aE ?_))
  have hbk := hb k.1 (by omega)
  have hhf := GB (y := y) (p := p) (m := gw y fl p k.1) (f := (nth fl k.1)) ⟨hbk.1, hbk.2.1⟩
  refine cL mixed rfl (Qy rfl ?_)
  refine aR rfl rfl rfl rfl rfl (by decide) ?_
  refine aY rfl rfl (by decide) rfl rfl rfl ?_
  refine fA rfl (dn (sU y hr fl a p hp (nth fl k.1).dst) rfl rfl rfl rfl rfl rfl) rfl (eY rfl ?_)
  apply aM (s := 31) rfl rfl rfl
  ·intro hg; apply aO; (refine Qy rfl ?_); refine aD ?_; exact rfl
  ·exact rfl
  ·exact rfl
  apply aM (s := 31) rfl rfl rfl
  ·intro hg; apply aO; (refine aR rfl rfl rfl rfl rfl (by decide) ?_); refine aD ?_; exact rfl
  ·exact rfl
  ·exact rfl
  apply aM (s := 31) rfl rfl rfl
  ·intro hg; apply aH (s := 33) rfl (by (rw [hg]; rfl)); apply aO; (refine aY rfl rfl (by decide) rfl rfl rfl ?_); refine aD ?_; exact rfl
  ·exact rfl
  ·exact rfl
  apply aM (s := 31) rfl rfl rfl
  ·intro hg; apply aH (s := 32) rfl (by (rw [hg]; rfl)); apply aH (s := 34) rfl (by (rw [hg]; rfl)); apply aO; (refine fA rfl (dn (sU y hr fl a p hp (nth fl k.1).src) rfl rfl rfl rfl rfl rfl) rfl ?_); refine aD ?_; exact rfl
  ·exact rfl
  ·exact rfl
  apply aM (s := 31) rfl rfl rfl
  ·intro hg; apply aH (s := 35) rfl (by (rw [hg]; rfl)); apply aO; (refine dr rfl ?_); refine aD ?_; exact rfl
  ·exact rfl
  ·exact rfl
  refine eA rfl rfl (Qy rfl ?_)
  refine aR rfl rfl rfl rfl rfl (by decide) ?_
  refine aY rfl rfl (by decide) rfl rfl rfl ?_
  refine fA rfl (dn (sU y hr fl a p hp (nth fl k.1).src) rfl rfl rfl rfl rfl rfl) rfl (eY rfl ?_)
  apply aM (s := 42) rfl rfl rfl
  ·intro hg; apply aO; (refine Qy rfl ?_); refine aD ?_; exact rfl
  ·exact rfl
  ·exact rfl
  apply aM (s := 42) rfl rfl rfl
  ·intro hg; apply aO; (refine aR rfl rfl rfl rfl rfl (by decide) ?_); refine aD ?_; exact rfl
  ·exact rfl
  ·exact rfl
  apply aM (s := 42) rfl rfl rfl
  ·intro hg; apply aH (s := 44) rfl (by (rw [hg]; rfl)); apply aO; (refine aY rfl rfl (by decide) rfl rfl rfl ?_); refine aD ?_; exact rfl
  ·exact rfl
  ·exact rfl
  apply aM (s := 42) rfl rfl rfl
  ·intro hg; apply aH (s := 43) rfl (by (rw [hg]; rfl)); apply aH (s := 45) rfl (by (rw [hg]; rfl)); apply aO; (refine fA rfl (dn (sU y hr fl a p hp (nth fl k.1).dst) rfl rfl rfl rfl rfl rfl) rfl ?_); refine aD ?_; exact rfl
  ·exact rfl
  ·exact rfl
  apply aM (s := 42) rfl rfl rfl
  ·intro hg; apply aH (s := 46) rfl (by (rw [hg]; rfl)); apply aO; (refine dr rfl ?_); refine aD ?_; exact rfl
  ·exact rfl
  ·exact rfl
  refine eA rfl rfl (dK rfl (dK rfl (aD ?_)))
  refine ⟨by kernel_rfl, ?_⟩
  refine aC ?_
  refine kV (J := live [(3, Ty.pp (nD p)), (5, Ty.kT 187 [Ty.pp (nD p), Ty.pp [Ty.pp (lB y fl a)]]), (6, Ty.int .i64 (gw y fl p k.1)), (8, Ty.ptr 9 0), (9, Ty.bool (J7 y p (nth fl k.1))), (10, Ty.bool (Ho y p (nth fl k.1))), (21, Ty.sl dS fl), (22, Ty.int .i64 fl.length), (23, Ty.int .i64 (k.1 : Nat))] [(9, Cont.cells 187 (dS.tys (nth fl k.1)))]) ?_ ?_
  ·
   refine aE (aA ?_)
   refine aI rfl rfl rfl rfl rfl (by decide) ?_
   refine aJ rfl rfl rfl rfl (aD (aC ?_))
   refine cC rfl (fun hc3 => ?_) (fun hc3 => ?_)
   ·
    refine aA (eY rfl (eY rfl (dK rfl (dK rfl (aD (eT ?_))))))
    (refine cg.mk' ?_ ?_ <;> (repeat' (first | exact aL | exact aK | refine aB ?_ (Ty.aT _) | refine aB ?_ (Ty.aF _) | refine aG rfl (Cont.aF _) ?_ | refine aB ?_ ?_)))
    all_goals first | exact Ty.eF (Ji (by assumption)).1 | exact Ty.eF (Ji (by assumption)).2
   refine af (eT ?_)
   (refine cg.mk' ?_ ?_ <;> (repeat' (first | exact aL | exact aK | refine aB ?_ (Ty.aT _) | refine aB ?_ (Ty.aF _) | refine aG rfl (Cont.aF _) ?_ | refine aB ?_ ?_)))
   all_goals first | exact Ty.eF (Nk (by assumption)).1 | exact Ty.eF (Nk (by assumption)).2
  refine kV (J := live [(3, Ty.pp (nD p)), (5, Ty.kT 187 [Ty.pp (nD p), Ty.pp [Ty.pp (lB y fl a)]]), (6, Ty.int .i64 (o7 y p (gw y fl p k.1) (nth fl k.1))), (8, Ty.ptr 9 0), (10, Ty.bool (Ho y p (nth fl k.1))), (21, Ty.sl dS fl), (22, Ty.int .i64 fl.length), (23, Ty.int .i64 (k.1 : Nat))] [(9, Cont.cells 187 (dS.tys (nth fl k.1)))]) ?_ ?_
  ·
   refine aE (aA (eY rfl (aD (aC ?_))))
   refine cC rfl (fun hc4 => ?_) (fun hc4 => ?_)
   ·
    refine aA (bG rfl ?_)
    refine aR rfl rfl rfl rfl rfl (by decide) ?_
    refine aY rfl rfl (by decide) rfl rfl rfl ?_
    refine cB rfl rfl (by omega) (by omega) ?_
    refine bu rfl (aD (eT ?_))
    (refine cg.mk' ?_ ?_ <;> (repeat' (first | exact aL | exact aK | refine aB ?_ (Ty.aT _) | refine aB ?_ (Ty.aF _) | refine aG rfl (Cont.aF _) ?_ | refine aB ?_ ?_)))
    all_goals exact Ty.bI (JQ (by assumption))
   refine af (eT ?_)
   (refine cg.mk' ?_ ?_ <;> (repeat' (first | exact aL | exact aK | refine aB ?_ (Ty.aT _) | refine aB ?_ (Ty.aF _) | refine aG rfl (Cont.aF _) ?_ | refine aB ?_ ?_)))
   all_goals exact Ty.bI (MP (by assumption))
  refine aE (aA (eY rfl (aD (aC ?_))))
  refine cC rfl (fun hc5 => ?_) (fun hc5 => ?_)
  ·
   refine aA (bG rfl ?_)
   refine aR rfl rfl rfl rfl rfl (by decide) ?_
   refine aY rfl rfl (by decide) rfl rfl rfl ?_
   refine gZ rfl rfl (by omega) (by omega) ?_
   refine bu rfl (aD (bM (aC (aA ?_))))
   refine cB rfl rfl (by omega) (by omega) ?_
   refine bG rfl (aD ?_)
   refine bR (⟨k.1 + 1, by omega⟩) ?_ (by show fl.length - (k.1 + 1) < fl.length - k.1; omega)
   (refine cg.mk' ?_ ?_ <;> (repeat' (first | exact aL | exact aK | refine aB ?_ (Ty.aT _) | refine aB ?_ (Ty.aF _) | refine aB ?_ ?_)))
   all_goals skip
   all_goals exact Ty.bI (CP (by assumption))
  refine af (bM (aC (aA ?_)))
  refine cB rfl rfl (by omega) (by omega) ?_
  refine bG rfl (aD ?_)
  refine bR (⟨k.1 + 1, by omega⟩) ?_ (by show fl.length - (k.1 + 1) < fl.length - k.1; omega)
  (refine cg.mk' ?_ ?_ <;> (repeat' (first | exact aL | exact aK | refine aB ?_ (Ty.aT _) | refine aB ?_ (Ty.aF _) | refine aB ?_ ?_)))
  all_goals skip
  all_goals exact Ty.bI (GO (by assumption))
 refine cH (aP (aP (ah rfl (aC (aE (aA (bG rfl (bu rfl (aD ?_)))))))))
 refine aC (az (bU rfl rfl ?_))
 all_goals skip
 all_goals exact av rfl rfl (congrArg (Ty.int .i64) ((show _ = gw y fl p fl.length by rw [show k.1 = fl.length by have := k.2; omega]).trans (CN (MZ hc1))))
set_option maxRecDepth 100000 in
theorem KY (a b : DE) : dP Tryz.prog 136 [Ty.agg (rq.tys a), Ty.agg (rq.tys b)] (Ty.bool (mX a b)) := by
 refine ak Tryz.func136 rfl (by decide) Tryz.ntmps136 (by exact Nat.le_of_ble_eq_true rfl) fun w0 M0 => ?_
 refine aE (aA (bF rfl (bF rfl (dK rfl (aD (aC (aE (aA ?_))))))))
 refine aX rfl rfl rfl (by exact Nat.le_of_ble_eq_true rfl) ?_
 refine aX rfl rfl rfl (by exact Nat.le_of_ble_eq_true rfl) ?_
 refine qY (Oo a.bin a.day b.bin b.day) rfl rfl (eY rfl ?_)
 apply aM (s := 8) rfl rfl rfl
 ·intro hg; apply aO; (refine aI rfl rfl rfl rfl rfl (by decide) ?_); refine aD ?_; exact rfl
 ·exact rfl
 ·exact rfl
 apply aM (s := 8) rfl rfl rfl
 ·intro hg; apply aH (s := 9) rfl (by (rw [hg]; rfl)); apply aO; (refine aJ rfl rfl rfl rfl ?_); refine aD ?_; exact rfl
 ·exact rfl
 ·exact rfl
 apply aM (s := 8) rfl rfl rfl
 ·intro hg; apply aO; (refine aI rfl rfl rfl rfl rfl (by decide) ?_); refine aD ?_; exact rfl
 ·exact rfl
 ·exact rfl
 apply aM (s := 8) rfl rfl rfl
 ·intro hg; apply aH (s := 11) rfl (by (rw [hg]; rfl)); apply aO; (refine aJ rfl rfl rfl rfl ?_); refine aD ?_; exact rfl
 ·exact rfl
 ·exact rfl
 apply aM (s := 8) rfl rfl rfl
 ·intro hg; apply aH (s := 10) rfl (by (rw [hg]; rfl)); apply aH (s := 12) rfl (by (rw [hg]; rfl)); apply aO; (refine bB rfl rfl rfl ?_); refine aD ?_; exact rfl
 ·exact rfl
 ·exact rfl
 apply aM (s := 8) rfl rfl rfl
 ·intro hg; apply aH (s := 13) rfl (by (rw [hg]; rfl)); apply aO; (refine eY rfl ?_); refine aD ?_; exact rfl
 ·exact rfl
 ·exact rfl
 apply dO (s := 14) rfl rfl rfl
 ·intro hg1 hg2; apply aO; (refine aI rfl rfl rfl rfl rfl (by decide) ?_); refine aD ?_; exact rfl
 ·exact rfl
 ·exact rfl
 apply dO (s := 14) rfl rfl rfl
 ·intro hg1 hg2; apply aH (s := 15) rfl (by (rw [hg1, hg2]; rfl)); apply aO; (refine aJ rfl rfl rfl rfl ?_); refine aD ?_; exact rfl
 ·exact rfl
 ·exact rfl
 apply dO (s := 14) rfl rfl rfl
 ·intro hg1 hg2; apply aO; (refine aI rfl rfl rfl rfl rfl (by decide) ?_); refine aD ?_; exact rfl
 ·exact rfl
 ·exact rfl
 apply dO (s := 14) rfl rfl rfl
 ·intro hg1 hg2; apply aH (s := 17) rfl (by (rw [hg1, hg2]; rfl)); apply aO; (refine aJ rfl rfl rfl rfl ?_); refine aD ?_; exact rfl
 ·exact rfl
 ·exact rfl
 apply dO (s := 14) rfl rfl rfl
 ·intro hg1 hg2; apply aH (s := 16) rfl (by (rw [hg1, hg2]; rfl)); apply aH (s := 18) rfl (by (rw [hg1, hg2]; rfl)); apply aO; (refine bB rfl rfl rfl ?_); refine aD ?_; exact rfl
 ·exact rfl
 ·exact rfl
 apply dO (s := 14) rfl rfl rfl
 ·intro hg1 hg2; apply aH (s := 19) rfl (by (rw [hg1, hg2]; rfl)); apply aO; (refine eY rfl ?_); refine aD ?_; exact rfl
 ·exact rfl
 ·exact rfl
 apply dO (s := 20) rfl rfl rfl
 ·intro hg1 hg2; apply aO; (refine aI rfl rfl rfl rfl rfl (by decide) ?_); refine aD ?_; exact rfl
 ·exact rfl
 ·exact rfl
 apply dO (s := 20) rfl rfl rfl
 ·intro hg1 hg2; apply aH (s := 21) rfl (by (rw [hg1, hg2]; rfl)); apply aO; (refine aJ rfl rfl rfl rfl ?_); refine aD ?_; exact rfl
 ·exact rfl
 ·exact rfl
 apply dO (s := 20) rfl rfl rfl
 ·intro hg1 hg2; apply aO; (refine aI rfl rfl rfl rfl rfl (by decide) ?_); refine aD ?_; exact rfl
 ·exact rfl
 ·exact rfl
 apply dO (s := 20) rfl rfl rfl
 ·intro hg1 hg2; apply aH (s := 23) rfl (by (rw [hg1, hg2]; rfl)); apply aO; (refine aJ rfl rfl rfl rfl ?_); refine aD ?_; exact rfl
 ·exact rfl
 ·exact rfl
 apply dO (s := 20) rfl rfl rfl
 ·intro hg1 hg2; apply aH (s := 22) rfl (by (rw [hg1, hg2]; rfl)); apply aH (s := 24) rfl (by (rw [hg1, hg2]; rfl)); apply aO; (refine bB rfl rfl rfl ?_); refine aD ?_; exact rfl
 ·exact rfl
 ·exact rfl
 apply dO (s := 14) rfl rfl rfl
 ·intro hg1 hg2; apply aH (s := 20) rfl (by (rw [hg1, hg2]; rfl)); apply kS (s := 25) rfl (by (rw [hg1, hg2]; rfl)); apply aO; (refine eA rfl rfl ?_); refine aD ?_; exact rfl
 ·exact rfl
 ·exact rfl
 apply aM (s := 8) rfl rfl rfl
 ·intro hg; apply aH (s := 14) rfl (by (rw [hg]; rfl)); apply kS (s := 26) rfl (by (rw [hg]; rfl)); apply aO; (refine gN rfl rfl ?_); refine aD ?_; exact rfl
 ·exact rfl
 ·exact rfl
 refine eA rfl rfl (dK rfl (aD (aC (az (bU rfl rfl ?_)))))
 all_goals skip
 all_goals exact av rfl rfl (congrArg Ty.bool (by unfold mX; rw [O6]))
set_option maxRecDepth 100000 in
theorem G2 (y : aj) (hr : y.bw) (hs : y.Small) (c : DE) : dP Tryz.prog 134 [Ty.agg (rq.tys c), Ty.pp (bA y)] (Ty.bool (K5 y c)) := by
 refine ak Tryz.func134 rfl (by decide) Tryz.ntmps134 (by exact Nat.le_of_ble_eq_true rfl) fun w0 M0 => ?_
 have h2 := hr.days
 refine aE (aA (bF rfl (dK rfl (aD (aC (aE (aA ?_)))))))
 refine aX rfl rfl rfl (by exact Nat.le_of_ble_eq_true rfl) ?_
 refine aI rfl rfl rfl rfl rfl (by decide) ?_
 refine aJ rfl rfl rfl rfl (aZ (FI y hs _) rfl rfl rfl rfl rfl (eY rfl ?_))
 apply aM (s := 8) rfl rfl rfl
 ·intro hg; apply aO; (refine aI rfl rfl rfl rfl rfl (by decide) ?_); refine aD ?_; exact rfl
 ·exact rfl
 ·exact rfl
 apply aM (s := 8) rfl rfl rfl
 ·intro hg; apply aH (s := 9) rfl (by (rw [hg]; rfl)); apply aO; (refine aJ rfl rfl rfl rfl ?_); refine aD ?_; exact rfl
 ·exact rfl
 ·exact rfl
 apply aM (s := 8) rfl rfl rfl
 ·intro hg; apply aO; (refine aI rfl rfl rfl rfl rfl (by decide) ?_); refine aD ?_; exact rfl
 ·exact rfl
 ·exact rfl
 apply aM (s := 8) rfl rfl rfl
 ·intro hg; apply aH (s := 11) rfl (by (rw [hg]; rfl)); apply aO; (refine aJ rfl rfl rfl rfl ?_); refine aD ?_; exact rfl
 ·exact rfl
 ·exact rfl
 apply aM (s := 8) rfl rfl rfl
 ·intro hg; apply aH (s := 12) rfl (by (rw [hg]; rfl)); apply aO; (refine gZ rfl rfl (by omega) (by omega) ?_); refine aD ?_; exact rfl
 ·exact rfl
 ·exact rfl
 apply aM (s := 8) rfl rfl rfl
 ·intro hg; apply aH (s := 10) rfl (by (rw [hg]; rfl)); apply aH (s := 13) rfl (by (rw [hg]; rfl)); apply aO; (refine aZ (uL _ _ _) rfl rfl rfl rfl rfl ?_); refine aD ?_; exact rfl
 ·exact rfl
 ·exact rfl
 refine eA rfl rfl (dK rfl (aD (aC (az (bU rfl rfl ?_)))))
 all_goals exact cE rfl rfl
 all_goals trace_state
set_option maxRecDepth 100000 in
theorem JN (y : aj) (hs : y.Small) (p : FN) (hl : p.cells.length ≤ 1000) : dP Tryz.prog 61 [eB y, Ty.agg (nD p)] (Ty.lN [Ty.int .i64 (uQ y p), Ty.int .i64 (n5 y p)]) := by
 refine ak Tryz.func61 rfl (by decide) Tryz.ntmps61 (by exact Nat.le_of_ble_eq_true rfl) fun w0 M0 => ?_
 refine aE (aA (bF rfl (bF rfl (bu rfl (bu rfl (aD (aC (aE (aE ?_)))))))))
 refine aA ?_
 refine aX rfl rfl rfl (by exact Nat.le_of_ble_eq_true rfl) ?_
 refine aZ (ld y hs) rfl rfl rfl rfl rfl (bu rfl (aD (aC (aE (aA (bG rfl (bB rfl rfl rfl (aD (aC ?_)))))))))
 refine dJ rfl (fun hc1 => ?_) (fun hc1 => ?_)
 ·
  refine aE (aA (bG rfl (bu rfl (bu rfl (aD (aC (az (aS ?_))))))))
  refine gD rfl rfl rfl ?_ ?_
  all_goals skip
  all_goals first | exact av rfl rfl (congrArg (Ty.int .i64) (No hc1).1) | exact av rfl rfl (congrArg (Ty.int .i64) (No hc1).2)
 refine af (aC (aE (aE ?_)))
 have hck : bH y = 0 := hc1
 have hr := cK hck
 refine aA ?_
 refine aI rfl rfl rfl rfl rfl (by decide) ?_
 refine aJ rfl rfl rfl rfl (dh rfl ?_)
 refine aZ (Bt p.cells (Ty.kT 134 [Ty.pp (bA y)]) rfl (K5 y) rfl rfl fun c _ => dn (G2 y hr hs c) rfl rfl rfl rfl rfl rfl) rfl rfl rfl rfl rfl ?_
 refine dr rfl (aD (aC ?_))
 refine cC rfl (fun hc2 => ?_) (fun hc2 => ?_)
 ·
  refine aE (aA (bu rfl (bu rfl (aD (aC (az (aS ?_)))))))
  refine gD rfl rfl rfl ?_ ?_
  all_goals skip
  all_goals first | exact av rfl rfl (congrArg (Ty.int .i64) (N1 hc1 (nK hc2)).1) | exact av rfl rfl (congrArg (Ty.int .i64) (N1 hc1 (nK hc2)).2)
 refine af (aC (aE (aE ?_)))
 have hall : (p.cells.all (K5 y)) = true := eZ hc2
 refine aA (bu rfl (aD (aC (aa ?_))))
 refine cG (fun (i : {i : Nat // 1 ≤ i ∧ ∀ j, j + 1 < i → j + 1 < p.cells.length → mX (nth p.cells j) (nth p.cells (j + 1)) = true}) => live [(2, Ty.pp (bA y)), (3, Ty.pp (nD p)), (7, Ty.int .i64 (i.1 : Nat))] []) (fun i => p.cells.length - i.1) (⟨1, Nat.le_refl _, fun j hj => by omega⟩) ?_ fun i => ?_
 ·(refine cg.mk' ?_ ?_ <;> (repeat' (first | exact aL | exact aK | refine aB ?_ (Ty.aT _) | refine aB ?_ (Ty.aF _))))
 have hi1 := i.2.1
 refine aE (aE (aA (bG rfl ?_)))
 refine aI rfl rfl rfl rfl rfl (by decide) ?_
 refine aJ rfl rfl rfl rfl (b9 rfl rfl rfl (bB rfl rfl rfl (aD (aC ?_))))
 refine aq rfl (fun hc3 => ?_) (fun hc3 => ?_)
 ·
  refine af (aC (aE (aa (aE (cL mixed rfl ?_)))))
  refine aI rfl rfl rfl rfl rfl (by decide) ?_
  refine aJ rfl rfl rfl rfl (bG rfl ?_)
  refine gZ rfl rfl (by omega) (by omega) ?_
  refine au (i := i.1 - 1) rfl (by exact congrArg (Ty.int .i64) (by omega : ((i.1 : Nat) : Int) - 1 = ((i.1 - 1 : Nat) : Int))) rfl rfl rfl rfl (by omega) ?_
  refine aX rfl rfl rfl (by exact Nat.le_of_ble_eq_true rfl) ?_
  refine aI rfl rfl rfl rfl rfl (by decide) ?_
  refine aJ rfl rfl rfl rfl (bG rfl ?_)
  refine au rfl rfl rfl rfl rfl rfl (by omega) ?_
  refine aX rfl rfl rfl (by exact Nat.le_of_ble_eq_true rfl) ?_
  refine aZ (KY _ _) rfl rfl rfl rfl rfl (dr rfl (aD ?_))
  refine ⟨by kernel_rfl, ?_⟩
  refine aC ?_
  refine cC rfl (fun hc4 => ?_) (fun hc4 => ?_)
  ·
   refine aE (aA (bu rfl (bu rfl (aD (aC (az (bC (aS (aS ?_)))))))))
   refine bC (aS ?_)
   refine gD rfl rfl rfl ?_ ?_
   all_goals skip
   all_goals first | exact av rfl rfl (congrArg (Ty.int .i64) (IX hc1 hall i.2.1 (by omega) (nK hc4)).1) | exact av rfl rfl (congrArg (Ty.int .i64) (IX hc1 hall i.2.1 (by omega) (nK hc4)).2)
  refine af (bM (aC (aA (bG rfl ?_))))
  refine cB rfl rfl (by omega) (by omega) ?_
  refine bu rfl (aD ?_)
  refine bR (⟨i.1 + 1, by omega, fun j hj hj2 => by by_cases e : j + 1 = i.1; (have := eZ hc4; rwa [show i.1 - 1 = j by omega, show i.1 = j + 1 by omega] at this); exact i.2.2 j (by omega) hj2⟩) ?_ (by show p.cells.length - (i.1 + 1) < p.cells.length - i.1; omega)
  (refine cg.mk' ?_ ?_ <;> (repeat' (first | exact aL | exact aK | refine aB ?_ (Ty.aT _) | refine aB ?_ (Ty.aF _))))
  all_goals skip
 refine cH (aP (aP (ah rfl (aC (aE (cL mixed rfl ?_))))))
 refine aX rfl rfl rfl (by exact Nat.le_of_ble_eq_true rfl) ?_
 refine aZ (rF) rfl rfl rfl rfl rfl ?_
 refine dM (res' := Ty.pp (mM y 2000 1000 (aQ y (nth bL)).length (aQ y (nth bL)).length)) [(2000, 23), (1000, 31)] [2000, 1000] [(2000, Cont.vec dS 187 (aQ y (nth bL))), (1000, Cont.vec cz 3 (fY (aQ y (nth bL))))] (pL y hr bL jU) rfl rfl (aN (aN bf (aU rfl rfl)) (aU rfl rfl)) pre_nil (bp (a := 2000) (b := 23) (by decide) rfl (bt (by decide) rfl) (bp (a := 1000) (b := 31) (by decide) rfl (bt (by decide) rfl) post_nil)) (fB (aN (aN (aN (aN (aN (aN bf (dZ (by decide))) (dZ (by decide))) (aU rfl rfl)) (aU rfl rfl)) (aU rfl rfl)) (aU rfl rfl))) ?_
 refine aX rfl rfl rfl (by exact Nat.le_of_ble_eq_true rfl) ?_
 refine eC [2000, 1000] (L0 y hr (aQ y (nth bL)) (fY (aQ y (nth bL))) (jC hr) (KJ hr) p (fun x hx => OP (List.all_eq_true.1 hall x hx))) rfl (aW (lE (aW (bV (bT rfl rfl)) (aW (bV (bT rfl rfl)) (aW (bV (bT rfl rfl)) (aW (bV (bT rfl rfl)) (aW (j0 rfl rfl (by decide) rfl) (aW (j0 rfl (Du _) (by decide) rfl) cP))))))) (aW (bV (bT rfl rfl)) cP)) (by exact dU _ _) ?_
 refine bu rfl (aD ?_)
 refine ⟨by kernel_rfl, ?_⟩
 refine aC (aE (aE (aA (bG rfl (bB rfl rfl rfl (aD (aC ?_)))))))
 refine aq rfl (fun hc5 => ?_) (fun hc5 => ?_)
 ·
  refine aE (aA (bu rfl (bu rfl (aD (aC (az (aS ?_)))))))
  refine gD rfl rfl rfl ?_ ?_
  all_goals skip
  all_goals first | exact av rfl rfl (congrArg (Ty.int .i64) (OF hc1 hall (fun j hj => i.2.2 j (by omega) hj) hc5).1) | exact av rfl rfl (congrArg (Ty.int .i64) (OF hc1 hall (fun j hj => i.2.2 j (by omega) hj) hc5).2)
 refine af (aC (aE (aA (bG rfl (bu rfl (bu rfl (aD (aC (az ?_)))))))))
 refine gD rfl rfl rfl ?_ ?_
 all_goals skip
 all_goals first | exact av rfl rfl (congrArg (Ty.int .i64) (K8 hc1 hall (fun j hj => i.2.2 j (by omega) hj) hc5).1) | exact av rfl rfl (congrArg (Ty.int .i64) (K8 hc1 hall (fun j hj => i.2.2 j (by omega) hj) hc5).2)
end Go.Proofs.YtelbollidfdcjaaGreat
namespace Go.Proofs.YtelbollidfdcjaaGreat
open Go Go.T
set_option maxHeartbeats 8000000
attribute [local irreducible] aQ fY
attribute [local irreducible] gP e9 mA oA iG iE iK g9 iL oc iA oM dV fo n6 gC oW nth fS dY ay dP bodyPost Exit.then Exit.inBlock Code.wp Code.wpIn n7 hU oX oR iB eW cM cN bodyPostM dX
set_option maxRecDepth 100000 in
theorem uT (y : aj) (hr : y.bw) (c8 : List Bool) (hc8 : c8.length = 8) : eW Tryz.prog 117 [] [] [eB y, Ty.arr ew c8] [(31, Cont.vec cz 3 (fY (aQ y (nth c8))))] (Ty.pp (eG y (aQ y (nth c8)) 31 (aQ y (nth c8)).length)) := by
 refine sA Tryz.func117 rfl (by decide) Tryz.ntmps117 (by exact Nat.le_of_ble_eq_true rfl) fun w0 M0 => ?_
 have hfl := jC (c := nth c8) hr
 refine aE (aA (bF rfl (uc rfl (mB rfl (aD (aC (aE (aA ?_))))))))
 refine aX rfl rfl rfl (by exact Nat.le_of_ble_eq_true rfl) ?_
 refine c6 rfl rfl (by exact List.cons_ne_nil _ _) rfl (by repeat (first | exact (aV.nil : aV _ _ [] _) | (show aV _ _ ((_, _) :: _) _; apply aV.agg; (· exact (rfl : _ = Ty.agg _))))) (by exact rfl) ?_
 refine AG rfl rfl rfl ?_
 refine bh rfl (by exact List.cons_ne_nil _ _) rfl ?_
 refine cr rfl rfl (by decide) rfl rfl (by exact (rfl : _ = Ty.ptr _ _)) rfl (by exact Nat.le_of_ble_eq_true rfl) rfl rfl (by exact (rfl : _ = [_])) ?_
 refine aD (aC (aE (aE (aA ?_))))
 refine aY rfl rfl (by decide) rfl rfl rfl ?_
 refine yB rfl rfl rfl (by rw [hc8]; rfl) ?_
 refine dM (res' := Ty.kT 196 [Ty.pp [Ty.ptr 10 0], Ty.pa ew c8 0]) [(10, 1000)] [] [(10, Cont.cells 185 (FJ y))] (LM y c8 hc8) rfl rfl (aN (aN bf (aU rfl rfl)) (kE (by exact List.mem_cons_self))) (dD (a := 10) (b := 1000) (by exact List.mem_cons_self) rfl (lA (by exact List.mem_cons_self) rfl rfl rfl) pre_nil) (bp (a := 10) (b := 1000) (by exact List.mem_cons_self) rfl (lA (by exact List.mem_cons_self) rfl rfl rfl) post_nil) (tV (aN (aN bf (aU rfl rfl)) (fB (aN bf (kE (by exact List.mem_cons_self)))))) ?_
 refine aD (aC ?_)
 refine Lf (D := 10) (Tb := 185) (tys := bA y) (r := [Ty.ex (.slice none 0 0), Ty.ex (.slice none 0 0)]) rfl rfl rfl (by decide) fun vs hvs => ?_
 obtain ⟨v0, v1, v2, v3, rfl⟩ := four hvs rfl
 refine aa ?_
 refine sS (ps := [13]) (lk [(5, Ty.ptr 6 0), (9, Ty.ptr 10 0)]) (fun k => [(6, Cont.cells 152 [Ty.ptr 10 0]), (10, Cont.cells 185 [Ty.ex v0, Ty.ex v1, Ty.ex v2, Ty.ex v3, Ty.row dS 187 23 ((aQ y (nth c8)).take k), Ty.row cz 3 31 ((fY (aQ y (nth c8))).take k)]), (4000, Cont.fact (bA y) [v0, v1, v2, v3] rfl rfl)]) false [] [6, 10, 4000] rfl rfl ((wB y hr c8 hc8 0 10 (by decide) [v0, v1, v2, v3]).1) (CZ (D := 10) (n := 36) (sd := 9) (r := fun k => [Ty.row dS 187 23 ((aQ y (nth c8)).take k), Ty.row cz 3 31 ((fY (aQ y (nth c8))).take k)]) (fun b => wB y hr c8 hc8 b 10 (by decide) [v0, v1, v2, v3]) (by decide) (by decide) rfl (fun k => List.mem_cons_of_mem _ List.mem_cons_self) (List.mem_cons_of_mem _ (List.mem_cons_of_mem _ List.mem_cons_self))) (vn rfl) (vn rfl) (by decide) (by intro t ht; obtain ⟨x, _, rfl⟩ := List.mem_map.1 ht; exact ⟨rfl, rfl, rfl⟩) rfl rfl (fun _ => rfl) rfl ?_ ?_ ?_ (by intro h; cases h)
 ·(refine cg.mk' ?_ ?_ <;> (repeat' (first | exact aL | exact aK | exact cv | refine aB ?_ (Ty.aT _) | refine aB ?_ (Ty.aF _) | refine aG rfl (Cont.aF _) ?_ | refine aG rfl (Cont.ct ?_) ?_ | refine bJ ?_ (Ty.aF _) | refine bJ ?_ Ty.iF)))
  all_goals trace_state
 ·intro k tys hk
  obtain ⟨hk1, rfl⟩ := Ft hk
  refine ⟨live [(5, Ty.ptr 6 0), (6, Ty.ptr 7 0), (9, Ty.ptr 10 0)] [(6, Cont.cells 152 [Ty.ptr 10 0]), (7, Cont.cells 187 (dS.tys (nth (aQ y (nth c8)) k))), (10, Cont.cells 185 [Ty.ex v0, Ty.ex v1, Ty.ex v2, Ty.ex v3, Ty.row dS 187 23 ((aQ y (nth c8)).take k), Ty.row cz 3 31 ((fY (aQ y (nth c8))).take k)]), (4000, Cont.fact (bA y) [v0, v1, v2, v3] rfl rfl)], fun l w M => ?_, fun l w M => ?_⟩
  ·
   refine aA ?_
   refine bh rfl (by exact List.cons_ne_nil _ _) rfl ?_
   refine bO rfl rfl (by decide) rfl rfl rfl rfl rfl rfl ?_
   refine aD (eT ?_)
   (refine cg.mk' ?_ ?_ <;> (repeat' (first | exact aL | exact aK | refine aB ?_ (Ty.aT _) | refine aB ?_ (Ty.aF _) | refine aG rfl (Cont.aF _) ?_)))
  refine aa ?_
  refine vu (D := 10) (Tb := 185) (tg := 23) [Ty.ex v0, Ty.ex v1, Ty.ex v2, Ty.ex v3] rfl fun v4 => ?_
  refine vu (D := 10) (Tb := 185) (tg := 31) [Ty.ex v0, Ty.ex v1, Ty.ex v2, Ty.ex v3, Ty.ex v4] rfl fun v5 => ?_
  refine cL mixed rfl ?_
  refine aY rfl rfl (by decide) rfl rfl rfl ?_
  refine aY rfl rfl (by decide) rfl rfl rfl ?_
  refine aY rfl rfl (by decide) rfl rfl rfl ?_
  refine cZ rfl ?_
  refine aR rfl rfl rfl rfl rfl (by decide) ?_
  refine aY rfl rfl (by decide) rfl rfl rfl ?_
  refine bP rfl rfl (by decide) rfl rfl (by exact Nat.le_of_ble_eq_true rfl) ?_
  refine bg (E := dS) (xs := [_]) rfl rfl rfl rfl rfl (by decide) (by decide) (by repeat (first | exact (aV.nil : aV _ _ [] _) | (show aV _ _ ((_, _) :: _) _; apply aV.agg; (· exact (rfl : _ = Ty.agg _))))) (by exact rfl) rfl ?_
  refine qR (tg := 23) rfl rfl rfl rfl (by decide) rfl rfl rfl rfl rfl rfl (by decide) (by (simp <;> omega)) (by (simp <;> omega)) rfl rfl ?_
  refine aY rfl rfl (by decide) rfl rfl rfl ?_
  refine cZ rfl ?_
  refine aR rfl rfl rfl rfl rfl (by decide) ?_
  refine aY rfl rfl (by decide) rfl rfl rfl ?_
  refine aR rfl rfl rfl rfl rfl (by decide) ?_
  refine aY rfl rfl (by decide) rfl rfl rfl ?_
  refine bg (E := cz) (xs := [_]) rfl rfl rfl rfl rfl (by decide) (by decide) (by repeat (first | exact (aV.nil : aV _ _ [] _) | (show aV _ _ ((_, _) :: _) _; apply aV.one; (· exact (rfl : _ = Ty.int _ _)); (· exact rfl)))) (by exact rfl) rfl ?_
  refine qR (tg := 31) rfl rfl rfl rfl (by decide) rfl rfl rfl rfl rfl rfl (by decide) (by (simp <;> omega)) (by (simp <;> omega)) rfl rfl ?_
  refine cZ rfl ?_
  refine aR rfl rfl rfl rfl rfl (by decide) ?_
  refine cr rfl rfl (by decide) rfl rfl (by exact (rfl : _ = Ty.row _ _ _ _)) rfl (by exact Nat.le_of_ble_eq_true rfl) rfl rfl (by exact rfl) ?_
  refine cZ rfl ?_
  refine aR rfl rfl rfl rfl rfl (by decide) ?_
  refine cr rfl rfl (by decide) rfl rfl (by exact (rfl : _ = Ty.row _ _ _ _)) rfl (by exact Nat.le_of_ble_eq_true rfl) rfl rfl (by exact rfl) ?_
  refine aD ?_
  refine ⟨by kernel_rfl, ?_⟩
  refine bM (CT ?_)
  (refine cg.mk' ?_ ?_ <;> (repeat' (first | exact aL | exact aK | exact cv | refine aB ?_ (Ty.aT _) | refine aG rfl (Cont.aF _) ?_ | refine aG rfl (Cont.ct ?_) ?_ | refine bJ ?_ (Ty.aF _) | refine bJ ?_ ?_)))
  all_goals first | exact Ty.fH (cV hk1).symm | exact Ty.fH (FO hk1)
 refine bM (aC (aE ?_))
 refine Di (D := 10) (Tb := 185) (vs := [v0, v1, v2, v3]) (tys := bA y) (r := [Ty.row dS 187 23 ((aQ y (nth c8)).take ((aQ y (nth c8)).map j5).length), Ty.row cz 3 31 ((fY (aQ y (nth c8))).take ((aQ y (nth c8)).map j5).length)]) rfl rfl ?_
 refine jS (tg := 10) rfl (Cont.nV (T := 185) (DF (y := y) (fl := aQ y (nth c8)) (f := j5))) ?_
 refine q5 (c0 := 10) (tg := 23) 4 rfl rfl ?_
 refine q5 (c0 := 10) (tg := 31) 5 rfl rfl ?_
 refine jS (tg := 10) rfl (Cont.kW (l' := mM y 23 31 (aQ y (nth c8)).length (aQ y (nth c8)).length) ⟨Ty.aF _, Ty.aF _, Ty.aF _, Ty.aF _, Ty.BQ rfl, Ty.BQ (Du _), trivial⟩) ?_
 refine jZ (tg := 10) [] [(6, Cont.cells 152 [Ty.pp (mM y 23 31 (aQ y (nth c8)).length (aQ y (nth c8)).length)])] (by decide) rfl trivial ⟨fP rfl rfl ⟨z6 rfl rfl (by decide), trivial⟩, trivial⟩ ?_
 refine jZ (tg := 23) [] [(6, Cont.cells 152 [Ty.pp (eG y (aQ y (nth c8)) 31 (aQ y (nth c8)).length)])] (by decide) rfl trivial ⟨fP rfl rfl ⟨By ⟨bE rfl, bE rfl, bE rfl, bE rfl, iX rfl rfl (by decide), bE rfl, trivial⟩, trivial⟩, trivial⟩ ?_
 refine aA ?_
 refine aY rfl rfl (by decide) rfl rfl rfl ?_
 refine Ly rfl (aD (aC (az (Ik rfl ?_))))
 refine jK [31] rfl rfl (by decide) (by repeat (first | exact gT | refine eP rfl (bt (by decide) rfl) ?_)) ?_
 all_goals skip
 all_goals exact ir (fB (aN (aN (aN (aN (aN (aN bf (dZ (by decide))) (aU rfl rfl)) (aU rfl rfl)) (aU rfl rfl)) (aU rfl rfl)) (aU rfl rfl)))
end Go.Proofs.YtelbollidfdcjaaGreat
namespace Go.Proofs.YtelbollidfdcjaaGreat
open Go Go.T
theorem PW : Tryz.prog.underlying 180 = some (.array 8 4) := by kernel_rfl
theorem PR (a0 a1 a2 a3 a4 a5 a6 a7 b0 b1 b2 b3 b4 b5 b6 b7 : Bool) (w : World) : (Op.equal 180 (.agg #[.bool a0, .bool a1, .bool a2, .bool a3, .bool a4, .bool a5, .bool a6, .bool a7]) (.agg #[.bool b0, .bool b1, .bool b2, .bool b3, .bool b4, .bool b5, .bool b6, .bool b7])).run Tryz.prog w = .ok ((decide (a0 = b0) && (decide (a1 = b1) && (decide (a2 = b2) && (decide (a3 = b3) && (decide (a4 = b4) && (decide (a5 = b5) && (decide (a6 = b6) && decide (a7 = b7))))))))) w := by
 have hs : Tryz.prog.stoodInHeld 180 = false := by kernel_rfl
 have e4 : ∀ (x y : Bool) (w : World), (Op.equalIn 9999 4 (.bool x) (.bool y)).run Tryz.prog w = .ok (decide (x = y)) w := fun x y w => by
  rw [Op.equalIn]
  simp only [Sem.run_bind, run_underlying Tryz.underlying4, Result.andThen_ok]
  rfl
 have g4 : ∀ w, (isAgg 4).run Tryz.prog w = .ok false w := fun w => by simp [isAgg, run_underlying Tryz.underlying4]
 unfold Op.equal Op.maxDepth
 rw [Op.equalIn]
 simp only [Sem.run_bind, run_underlying PW, Result.andThen_ok]
 simp [hs, part, g4, e4]
 rw [show List.range' 0 8 = [0, 1, 2, 3, 4, 5, 6, 7] from rfl]
 simp [List.forIn_cons, g4, e4]
 by_cases h0 : a0 = b0
 case neg => simp [h0]
 rw [if_pos h0]
 by_cases h1 : a1 = b1
 case neg => simp [h1]
 rw [if_pos h1]
 by_cases h2 : a2 = b2
 case neg => simp [h2]
 rw [if_pos h2]
 by_cases h3 : a3 = b3
 case neg => simp [h3]
 rw [if_pos h3]
 by_cases h4 : a4 = b4
 case neg => simp [h4]
 rw [if_pos h4]
 by_cases h5 : a5 = b5
 case neg => simp [h5]
 rw [if_pos h5]
 by_cases h6 : a6 = b6
 case neg => simp [h6]
 rw [if_pos h6]
 by_cases h7 : a7 = b7
 case neg => simp [h7]
 rw [if_pos h7]
 simp [h0, h1, h2, h3, h4, h5, h6, h7]
theorem Ka (xs ys : List Bool) (hx : xs.length = 8) (hy : ys.length = 8) : Kp Tryz.prog 180 (xs.flatMap ew.tys) (ys.flatMap ew.tys) (decide (xs = ys)) := by
  match xs, ys, hx, hy with
  | [a0, a1, a2, a3, a4, a5, a6, a7], [b0, b1, b2, b3, b4, b5, b6, b7], _, _ =>
    refine ⟨by kernel_rfl, fun w M cs ds h1 h2 => ?_⟩
    obtain ⟨cs⟩ := cs
    obtain ⟨ds⟩ := ds
    match cs, ds, h1, h2 with
    | [u0, u1, u2, u3, u4, u5, u6, u7], [v0, v1, v2, v3, v4, v5, v6, v7], h1, h2 =>
      change cF w M [Ty.bool a0, Ty.bool a1, Ty.bool a2, Ty.bool a3, Ty.bool a4, Ty.bool a5, Ty.bool a6, Ty.bool a7] _ at h1
      change cF w M [Ty.bool b0, Ty.bool b1, Ty.bool b2, Ty.bool b3, Ty.bool b4, Ty.bool b5, Ty.bool b6, Ty.bool b7] _ at h2
      obtain ⟨e0, e1, e2, e3, e4, e5, e6, e7, _⟩ := h1
      obtain ⟨f0, f1, f2, f3, f4, f5, f6, f7, _⟩ := h2
      cases e0; cases e1; cases e2; cases e3; cases e4; cases e5; cases e6; cases e7
      cases f0; cases f1; cases f2; cases f3; cases f4; cases f5; cases f6; cases f7
      rw [PR]
      congr 1
      simp only [List.cons.injEq, and_true, Bool.decide_and]
end Go.Proofs.YtelbollidfdcjaaGreat
namespace Go.T
open Go Go.RowKit
section
variable {P : Program} {fr : Fr} {ops : Array Oper} {A : As} {rest : List Oper} {K : As → List (As × Fx) → Prop} {d : Nat} {t ty' ty2 : TypeId} {p : String} {e : Array Edge}
theorem Al {α : Type} [Inhabited α] {E : El α} {xs ys : List α} {x y : Operand} {c : Bool} (hE : Kp P ty' (xs.flatMap E.tys) (ys.flatMap E.tys) c) (hx : A.op fr x = .arr E xs) (hy : A.op fr y = .arr E ys)
 (h : ay P fr ops rest (A.set d (.bool (!c))) fun A' l' => K A' ((A, { d := some d, ty := .bool (!c), rs := cI x ++ cI y }) :: l')) : ay P fr ops (⟨some d, .binOp .neq ty' x y ty2, t, p, e, none⟩ :: rest) A K :=
 bK (bZ rfl rfl fun a w M _ hrd _ => by
  have _ := (inferInstance : Inhabited α)
  obtain ⟨hdx, hdy⟩ := op2 hrd
  rw [hx] at hdx; rw [hy] at hdy
  obtain ⟨cs, ex, h1⟩ := hdx
  obtain ⟨ds, ey, h2⟩ := hdy
  exact ⟨.bool (!c), by simp only [execOp, ex, ey]; simp [eqGuard, hE.1, binOp, hE.2 w M cs ds h1 h2], rfl⟩) h
end
end Go.T
namespace Go.Proofs.YtelbollidfdcjaaGreat
open Go Go.T
set_option maxHeartbeats 16000000
def Kv (l : List Int) (x : Int) : Int := fidx (fun y => decide (x = y)) l
theorem BA (l : List Int) (x : Int) : decide (Kv l x ≥ 0) = decide (x ∈ l) := by
 unfold Kv
 rw [qo]
 rw [Bool.eq_iff_iff]; simp
def BI (l : List Int) (o : Bool) (i : Nat) : Bool := !(decide ((i : Int) ∈ l) == o)
def iY (l : List Int) (o : Bool) (k : Nat) : List Bool := (List.range k).map (BI l o) ++ List.replicate (8 - k) false
def cW (l : List Int) (o : Bool) : List Bool := (List.range 8).map (BI l o)
noncomputable def e8 (y : aj) (c : List Bool) : Bool := !(cQ (aQ y (nth c)) (y.cells + 1) (fY (aQ y (nth c)))).2.1
section
variable {y : aj} {l : List Int} {o : Bool} {k : Nat}
theorem BN (h : k ≤ 8) : (iY l o k).length = 8 := by unfold iY; rw [List.length_append, List.length_map, List.length_range, List.length_replicate]; omega
theorem EW : (cW l o).length = 8 := by unfold cW; rw [List.length_map, List.length_range]
theorem yj : List.replicate 8 false = iY l o 0 := rfl
theorem BK : iY l o 8 = cW l o := List.append_nil _
theorem yg (h : k < 8) : (iY l o k).set k (!(decide ((k : Int) ∈ l) == o)) = iY l o (k + 1) := by
 unfold iY
 have e : ((List.range k).map (BI l o)).length = k := by rw [List.length_map, List.length_range]
 rw [List.set_append_right _ _ (by omega), e, Nat.sub_self, show 8 - k = (8 - (k + 1)) + 1 by omega, List.replicate_succ, List.set_cons_zero, List.range_succ, List.map_append, List.append_assoc]; rfl
theorem Am {xs ys : List Bool} {b : Bool} (hx : xs.length = 8) (hy : ys.length = 8) (h : decide (xs = ys) = b) : Kp Tryz.prog 180 (xs.flatMap ew.tys) (ys.flatMap ew.tys) b := h ▸ Ka xs ys hx hy
theorem Qg (h : decide (cW l o = bL) = true) (h2 : (!(cQ (aQ y (nth bL)) (y.cells + 1) (fY (aQ y (nth bL)))).2.1) = true) : true = e8 y (cW l o) := by rw [of_decide_eq_true h]; exact h2.symm
theorem QF (h : decide (cW l o = bL) = true) (h2 : (!(cQ (aQ y (nth bL)) (y.cells + 1) (fY (aQ y (nth bL)))).2.1) = false) : false = e8 y (cW l o) := by rw [of_decide_eq_true h]; exact h2.symm
theorem Ns (y : aj) (c : List Bool) : (!(cQ (aQ y (nth c)) (y.cells + 1) (fY (aQ y (nth c)))).2.1) = e8 y c := rfl
end
attribute [local irreducible] aQ fY Way.g6 Way.fin Way.room eo eK fG gm over bN cR dj ep j8 fJ iO lD cQ fX gG gH c9 cO gx qH jL jR jW g7 DB AO gy aj.kept aj.cells bH c7 bL fQ lG bq p9 q9 fU fN gO iW hasB uU sV rR kF pZ lH oL lU yX gw kC J7 Ho sx e8 cW iY
attribute [local irreducible] gP e9 mA oA iG iE iK g9 iL oc iA oM dV fo n6 gC oW nth fS dY ay dP bodyPost Exit.then Exit.inBlock Code.wp Code.wpIn n7 hU oX oR iB eW cM cN bodyPostM dX
set_option maxRecDepth 100000 in
theorem CA (l : List Int) (x : Int) : dP Tryz.prog 140 [Ty.sl cz l, Ty.int .i64 x] (Ty.int .i64 (Kv l x)) := by
 refine ak Tryz.func140 rfl (by decide) Tryz.ntmps140 (by exact Nat.le_of_ble_eq_true rfl) fun w0 M0 => ?_
 refine hO (s := 0) rfl rfl iI fun hl => ?_
 refine aE (aA (bu rfl (aD (aC (aE (aE (aA (fT rfl (b9 rfl rfl rfl ?_)))))))))
 refine bG rfl (aD (aC (aa ?_)))
 refine cG (fun (k : {k : Nat // ∀ y ∈ l.take k, decide (x = y) = false}) => live [(0, Ty.sl cz l), (1, Ty.int .i64 x), (7, Ty.int .i64 l.length), (8, Ty.int .i64 (k.1 : Nat))] []) (fun k => l.length - k.1) (⟨0, by simp⟩) ?_ fun k => ?_
 ·(refine cg.mk' ?_ ?_ <;> (repeat' (first | exact aL | exact aK | refine aB ?_ (Ty.aT _) | refine aB ?_ (Ty.aF _))))
 refine aE (aA (bB rfl rfl rfl (aD (aC (aE ?_)))))
 refine aq rfl (fun hc1 => ?_) (fun hc1 => ?_)
 ·
  refine af (aC (aE (aa (aE (aA (bG rfl (bu rfl (aD (aC ?_)))))))))
  refine aE (aA (bG rfl (fT rfl (bG rfl ?_))))
  refine au rfl rfl rfl rfl rfl rfl (by omega) ?_
  refine aJ rfl rfl rfl rfl (bB rfl rfl rfl (aD (aC ?_)))
  refine aq rfl (fun hc2 => ?_) (fun hc2 => ?_)
  ·
   refine aE (aA (bG rfl (bu rfl (aD (aC (az (bC (aS (aS ?_)))))))))
   refine bC (aS (bU rfl rfl ?_))
   all_goals skip
   exact av rfl rfl (congrArg (Ty.int .i64) (by unfold Kv; rw [iJ (k := k.1) (by omega) k.2 (by rw [← gE]; exact decide_eq_true hc2)]))
  refine af (bM (aC (aA ?_)))
  refine cB rfl rfl (by omega) (by omega) ?_
  refine bG rfl (aD ?_)
  refine bR (⟨k.1 + 1, by rw [cV (by omega)]; intro y hy; rcases List.mem_append.1 hy with h | h; exact k.2 y h; rw [List.mem_singleton.1 h]; exact decide_eq_false hc2⟩) ?_ (by show l.length - (k.1 + 1) < l.length - k.1; omega)
  (refine cg.mk' ?_ ?_ <;> (repeat' (first | exact aL | exact aK | refine aB ?_ (Ty.aT _) | refine aB ?_ (Ty.aF _))))
  all_goals skip
 refine cH (aP (aP (ah rfl (aC (aE (aA (bu rfl (aD (aC ?_)))))))))
 refine az (bU rfl rfl ?_)
 all_goals skip
 exact av rfl rfl (congrArg (Ty.int .i64) (by unfold Kv; rw [jE (by have := k.2; rwa [List.take_of_length_le (by omega)] at this)]))
set_option maxRecDepth 100000 in
theorem xL (l : List Int) (x : Int) : dP Tryz.prog 65 [Ty.sl cz l, Ty.int .i64 x] (Ty.bool (decide (x ∈ l))) := by
 refine ak Tryz.func65 rfl (by decide) Tryz.ntmps65 (by exact Nat.le_of_ble_eq_true rfl) fun w0 M0 => ?_
 refine aE (aA (dK rfl (aD (aC (aE (aA (fT rfl (bG rfl (aZ (CA l x) rfl rfl rfl rfl rfl ?_)))))))))
 refine bB rfl rfl rfl (dK rfl (aD (aC (az (bU rfl rfl ?_)))))
 all_goals skip
 exact av rfl rfl (congrArg Ty.bool (BA l x))
set_option maxRecDepth 100000 in
theorem DT (y : aj) (hr : y.bw) (l : List Int) (o : Bool) : dP Tryz.prog 112 [eB y, Ty.sl cz l, Ty.bool o] (Ty.bool (e8 y (cW l o))) := by
 refine ak Tryz.func112 rfl (by decide) Tryz.ntmps112 (by exact Nat.le_of_ble_eq_true rfl) fun w0 M0 => ?_
 refine aE (aA (bF rfl (dK rfl (aD (aC (aE (aA ?_)))))))
 refine Bv (E := ew) (xs := List.replicate 8 false) rfl (by exact List.cons_ne_nil _ _) rfl rfl ?_
 refine aD (aC (aE (aE (aA (bG rfl (aD (aC (aa ?_))))))))
 refine cG (fun (k : {k : Nat // k ≤ 8}) => live [(1, Ty.sl cz l), (2, Ty.bool o), (3, Ty.pp (bA y)), (7, Ty.ptr 8 0), (9, Ty.int .i64 (k.1 : Nat))] [(8, Cont.vec ew 180 (iY l o k.1))]) (fun k => 8 - k.1) (⟨0, by omega⟩) ?_ fun k => ?_
 ·(refine cg.mk' ?_ ?_ <;> (repeat' (first | exact aL | exact aK | refine aB ?_ (Ty.aT _) | refine aB ?_ (Ty.aF _) | refine aG rfl ?_ ?_)))
  all_goals exact Cont.cy yj
 have hkl := BN (l := l) (o := o) k.2
 refine aE (aA (bB rfl rfl rfl (aD (aC (aE ?_)))))
 refine aq rfl (fun hc1 => ?_) (fun hc1 => ?_)
 ·
  refine af (aC (aE (aa (aE (aA (bG rfl (bu rfl (aD (aC ?_)))))))))
  refine aA (bG rfl (fT rfl (bG rfl (aZ (xL _ _) rfl rfl rfl rfl rfl (eY rfl (FX QT rfl rfl ?_))))))
  refine sQ (n := 8) rfl rfl rfl rfl rfl (by omega) (by omega) ?_
  refine sL rfl rfl rfl (by decide) rfl rfl (by exact (rfl : _ = Ty.bool _)) rfl (by omega) (by decide) rfl rfl ?_
  refine aD (bM (aC (aA ?_)))
  refine cB rfl rfl (by omega) (by omega) ?_
  refine bG rfl (aD ?_)
  refine bR (⟨k.1 + 1, by omega⟩) ?_ (by show 8 - (k.1 + 1) < 8 - k.1; omega)
  (refine cg.mk' ?_ ?_ <;> (repeat' (first | exact aL | exact aK | refine aB ?_ (Ty.aT _) | refine aB ?_ (Ty.aF _) | refine aG rfl ?_ ?_)))
  all_goals skip
  all_goals exact Cont.cy (yg (by omega))
 refine cH (aP (aP (ah rfl (aC (aE ?_)))))
 obtain ⟨k, hk⟩ := k
 obtain rfl : k = 8 := by have h1 : ¬ (k : Int) < 8 := hc1; have h2 : k ≤ 8 := hk; omega
 refine jS (tg := 8) rfl (Cont.cy BK) ?_
 have hcl : (cW l o).length = 8 := EW
 refine cL mixed rfl ?_
 refine ij rfl rfl (by decide) rfl rfl (by rw [hcl]; rfl) (fun e => by rw [e] at hcl; cases hcl) ?_
 refine aZ (rF) rfl rfl rfl rfl rfl (OQ (Ka _ _ hcl jU) rfl rfl ?_)
 cases hsp : (decide ((cW l o) = bL))
 ·
  refine eY rfl (nv rfl rfl rfl rfl (nv rfl rfl rfl rfl (nv rfl rfl rfl rfl (nv rfl rfl rfl rfl (Ff rfl ?_)))))
  cases hsp : (!(cQ (aQ y (nth bL)) (y.cells + 1) (fY (aQ y (nth bL)))).2.1)
  ·
   refine eY rfl ?_
   (refine ko rfl rfl rfl (by apply aO; (refine ij rfl rfl (by decide) rfl rfl (by rw [hcl]; rfl) (fun e => by rw [e] at hcl; cases hcl) ?_); refine aD ?_; exact rfl) ?_)
   (refine ko rfl rfl rfl (by apply aO; (refine aZ (rF) rfl rfl rfl rfl rfl ?_); refine aD ?_; exact rfl) ?_)
   (refine ko rfl rfl rfl (by apply aO; (refine Al (Am hcl jU (by assumption)) rfl rfl ?_); refine aD ?_; exact rfl) ?_)
   (refine ko rfl rfl rfl (by apply aO; (refine eY rfl ?_); refine aD ?_; exact rfl) ?_)
   (refine ko rfl rfl rfl (by apply aO; (refine aX rfl rfl rfl (by exact Nat.le_of_ble_eq_true rfl) ?_); refine aD ?_; exact rfl) ?_)
   (refine ko rfl rfl rfl (by apply aO; (refine ij rfl rfl (by decide) rfl rfl (by rw [hcl]; rfl) (fun e => by rw [e] at hcl; cases hcl) ?_); refine aD ?_; exact rfl) ?_)
   (refine ko rfl rfl rfl (by apply aO; (refine dM (res' := Ty.pp (eG y (aQ y (nth (cW l o))) 1000 (aQ y (nth (cW l o))).length)) [(1000, 31)] [1000] [(1000, Cont.vec cz 3 (fY (aQ y (nth (cW l o)))))] (uT y hr (cW l o) hcl) rfl rfl (aN (aN bf (aU rfl rfl)) (aU rfl rfl)) pre_nil (bp (a := 1000) (b := 31) (by decide) rfl (bt (by decide) rfl) post_nil) (fB (aN (aN (aN (aN (aN (aN bf (dZ (by decide))) (aU rfl rfl)) (aU rfl rfl)) (aU rfl rfl)) (aU rfl rfl)) (aU rfl rfl))) ?_); refine aD ?_; exact rfl) ?_)
   (refine ko rfl rfl rfl (by apply aO; (refine dM [(1000, 1000)] [] [(1000, Cont.vec cz 3 (cQ (aQ y (nth (cW l o))) (y.cells + 1) (fY (aQ y (nth (cW l o))))).2.2)] (mH y (aQ y (nth (cW l o))) (fY (aQ y (nth (cW l o)))) (lK hr)) rfl rfl (aN bf (fB (aN (aN (aN (aN (aN (aN bf (dZ (by exact List.mem_cons_self))) (aU rfl rfl)) (aU rfl rfl)) (aU rfl rfl)) (aU rfl rfl)) (aU rfl rfl)))) (dD (a := 1000) (b := 1000) (by exact List.mem_cons_self) rfl (bt (by exact List.mem_cons_self) rfl) pre_nil) (bp (a := 1000) (b := 1000) (by decide) rfl (bt (by decide) rfl) post_nil) (aU rfl rfl) ?_); refine aD ?_; exact rfl) ?_)
   (refine ko rfl rfl rfl (by apply aO; (refine BF rfl rfl ?_); refine aD ?_; exact rfl) ?_)
   refine BB rfl rfl (dK rfl (aD ?_))
   refine ⟨by kernel_rfl, ?_⟩
   refine aC (az (bU rfl rfl ?_))
   all_goals skip
   all_goals exact av rfl rfl (congrArg Ty.bool (Ns y _))
  refine eY rfl ?_
  (refine ko rfl rfl rfl (by apply aO; (refine ij rfl rfl (by decide) rfl rfl (by rw [hcl]; rfl) (fun e => by rw [e] at hcl; cases hcl) ?_); refine aD ?_; exact rfl) ?_)
  (refine ko rfl rfl rfl (by apply aO; (refine aZ (rF) rfl rfl rfl rfl rfl ?_); refine aD ?_; exact rfl) ?_)
  (refine ko rfl rfl rfl (by apply aO; (refine Al (Am hcl jU (by assumption)) rfl rfl ?_); refine aD ?_; exact rfl) ?_)
  (refine ko rfl rfl rfl (by apply aO; (refine eY rfl ?_); refine aD ?_; exact rfl) ?_)
  (refine ko rfl rfl rfl (by apply aO; (refine aX rfl rfl rfl (by exact Nat.le_of_ble_eq_true rfl) ?_); refine aD ?_; exact rfl) ?_)
  (refine ko rfl rfl rfl (by apply aO; (refine ij rfl rfl (by decide) rfl rfl (by rw [hcl]; rfl) (fun e => by rw [e] at hcl; cases hcl) ?_); refine aD ?_; exact rfl) ?_)
  (refine ko rfl rfl rfl (by apply aO; (refine dM (res' := Ty.pp (eG y (aQ y (nth (cW l o))) 1000 (aQ y (nth (cW l o))).length)) [(1000, 31)] [1000] [(1000, Cont.vec cz 3 (fY (aQ y (nth (cW l o)))))] (uT y hr (cW l o) hcl) rfl rfl (aN (aN bf (aU rfl rfl)) (aU rfl rfl)) pre_nil (bp (a := 1000) (b := 31) (by decide) rfl (bt (by decide) rfl) post_nil) (fB (aN (aN (aN (aN (aN (aN bf (dZ (by decide))) (aU rfl rfl)) (aU rfl rfl)) (aU rfl rfl)) (aU rfl rfl)) (aU rfl rfl))) ?_); refine aD ?_; exact rfl) ?_)
  (refine ko rfl rfl rfl (by apply aO; (refine dM [(1000, 1000)] [] [(1000, Cont.vec cz 3 (cQ (aQ y (nth (cW l o))) (y.cells + 1) (fY (aQ y (nth (cW l o))))).2.2)] (mH y (aQ y (nth (cW l o))) (fY (aQ y (nth (cW l o)))) (lK hr)) rfl rfl (aN bf (fB (aN (aN (aN (aN (aN (aN bf (dZ (by exact List.mem_cons_self))) (aU rfl rfl)) (aU rfl rfl)) (aU rfl rfl)) (aU rfl rfl)) (aU rfl rfl)))) (dD (a := 1000) (b := 1000) (by exact List.mem_cons_self) rfl (bt (by exact List.mem_cons_self) rfl) pre_nil) (bp (a := 1000) (b := 1000) (by decide) rfl (bt (by decide) rfl) post_nil) (aU rfl rfl) ?_); refine aD ?_; exact rfl) ?_)
  (refine ko rfl rfl rfl (by apply aO; (refine BF rfl rfl ?_); refine aD ?_; exact rfl) ?_)
  refine BB rfl rfl (dK rfl (aD ?_))
  refine ⟨by kernel_rfl, ?_⟩
  refine aC (az (bU rfl rfl ?_))
  all_goals skip
  all_goals exact av rfl rfl (congrArg Ty.bool (Ns y _))
 refine eY rfl ?_
 (refine ko rfl rfl rfl (by apply aO; (refine aX rfl rfl rfl (by exact Nat.le_of_ble_eq_true rfl) ?_); refine aD ?_; exact rfl) ?_)
 (refine ko rfl rfl rfl (by apply aO; (refine aZ (rF) rfl rfl rfl rfl rfl ?_); refine aD ?_; exact rfl) ?_)
 (refine ko rfl rfl rfl (by apply aO; (refine dM (res' := Ty.pp (eG y (aQ y (nth bL)) 1000 (aQ y (nth bL)).length)) [(1000, 31)] [1000] [(1000, Cont.vec cz 3 (fY (aQ y (nth bL))))] (uT y hr bL jU) rfl rfl (aN (aN bf (aU rfl rfl)) (aU rfl rfl)) pre_nil (bp (a := 1000) (b := 31) (by decide) rfl (bt (by decide) rfl) post_nil) (fB (aN (aN (aN (aN (aN (aN bf (dZ (by decide))) (aU rfl rfl)) (aU rfl rfl)) (aU rfl rfl)) (aU rfl rfl)) (aU rfl rfl))) ?_); refine aD ?_; exact rfl) ?_)
 (refine ko rfl rfl rfl (by apply aO; (refine dM [(1000, 1000)] [] [(1000, Cont.vec cz 3 (cQ (aQ y (nth bL)) (y.cells + 1) (fY (aQ y (nth bL)))).2.2)] (mH y (aQ y (nth bL)) (fY (aQ y (nth bL))) (lK hr)) rfl rfl (aN bf (fB (aN (aN (aN (aN (aN (aN bf (dZ (by exact List.mem_cons_self))) (aU rfl rfl)) (aU rfl rfl)) (aU rfl rfl)) (aU rfl rfl)) (aU rfl rfl)))) (dD (a := 1000) (b := 1000) (by exact List.mem_cons_self) rfl (bt (by exact List.mem_cons_self) rfl) pre_nil) (bp (a := 1000) (b := 1000) (by decide) rfl (bt (by decide) rfl) post_nil) (aU rfl rfl) ?_); refine aD ?_; exact rfl) ?_)
 refine BF rfl rfl ?_
 cases hsp : (!(cQ (aQ y (nth bL)) (y.cells + 1) (fY (aQ y (nth bL)))).2.1)
 ·
  refine eY rfl ?_
  (refine ko rfl rfl rfl (by apply aO; (refine ij rfl rfl (by decide) rfl rfl (by rw [hcl]; rfl) (fun e => by rw [e] at hcl; cases hcl) ?_); refine aD ?_; exact rfl) ?_)
  (refine ko rfl rfl rfl (by apply aO; (refine aZ (rF) rfl rfl rfl rfl rfl ?_); refine aD ?_; exact rfl) ?_)
  (refine ko rfl rfl rfl (by apply aO; (refine Al (Am hcl jU (by assumption)) rfl rfl ?_); refine aD ?_; exact rfl) ?_)
  (refine ko rfl rfl rfl (by apply aO; (refine eY rfl ?_); refine aD ?_; exact rfl) ?_)
  refine nv rfl rfl rfl rfl (nv rfl rfl rfl rfl (nv rfl rfl rfl rfl (nv rfl rfl rfl rfl ?_)))
  (refine ko rfl rfl rfl (by apply aO; (refine Ff rfl ?_); refine aD ?_; exact rfl) ?_)
  refine BB rfl rfl (dK rfl (aD ?_))
  refine ⟨by kernel_rfl, ?_⟩
  refine aC (az (bU rfl rfl ?_))
  all_goals skip
  all_goals exact av rfl rfl (congrArg Ty.bool (QF (by assumption) (by assumption)))
 refine eY rfl (nv rfl rfl rfl rfl (nv rfl rfl rfl rfl (nv rfl rfl rfl rfl (nv rfl rfl rfl rfl (BD rfl rfl rfl (BD rfl rfl rfl (BD rfl rfl rfl (BD rfl rfl rfl (nv rfl rfl rfl rfl ?_)))))))))
 refine NL rfl (dK rfl (aD ?_))
 refine ⟨by kernel_rfl, ?_⟩
 refine aC (az (bU rfl rfl ?_))
 all_goals skip
 all_goals exact av rfl rfl (congrArg Ty.bool (Qg (by assumption) (by assumption)))
end Go.Proofs.YtelbollidfdcjaaGreat
namespace Go.Proofs.YtelbollidfdcjaaGreat
open Go Go.T
set_option maxHeartbeats 16000000
section
variable {y : aj} {l : List Int} {i : Nat}
end
attribute [local irreducible] aQ fY Way.g6 Way.fin Way.room eo eK fG gm over bN cR dj ep j8 fJ iO lD cQ fX gG gH c9 cO gx qH jL jR jW g7 DB AO gy aj.kept aj.cells bH c7 bL fQ lG bq p9 q9 fU fN gO iW hasB uU sV rR kF pZ lH oL lU yX gw kC J7 Ho sx e8 cW iY
attribute [local irreducible] gP e9 mA oA iG iE iK g9 iL oc iA oM dV fo n6 gC oW nth fS dY ay dP bodyPost Exit.then Exit.inBlock Code.wp Code.wpIn n7 hU oX oR iB eW cM cN bodyPostM dX
end Go.Proofs.YtelbollidfdcjaaGreat
namespace Go.Proofs.YtelbollidfdcjaaGreat
open Go Go.T
def m9 (h : List Int → Bool) (many : Nat) : Nat → List Int → Nat → List Int → Bool × List Int
  | 0, _, _, o => (false, o)
  | d + 1, l, i, o =>
    if (if (l ++ [(i : Int)]).length = many then (h (l ++ [(i : Int)]), l ++ [(i : Int)]) else m9 h many d (l ++ [(i : Int)]) (i + 1) o).1 = true then (if (l ++ [(i : Int)]).length = many then (h (l ++ [(i : Int)]), l ++ [(i : Int)]) else m9 h many d (l ++ [(i : Int)]) (i + 1) o)
    else m9 h many d l (i + 1) (if (l ++ [(i : Int)]).length = many then (h (l ++ [(i : Int)]), l ++ [(i : Int)]) else m9 h many d (l ++ [(i : Int)]) (i + 1) o).2
def vG (h : List Int → Bool) (many lim : Nat) (l : List Int) (i : Nat) (o : List Int) : Bool × List Int := if l.length = many then (h l, l) else m9 h many (lim - i) l i o
def BS (many : Nat) : Nat → List Int → Nat → List (List Int)
  | 0, _, _ => []
  | d + 1, l, i => (if (l ++ [(i : Int)]).length = many then [l ++ [(i : Int)]] else BS many d (l ++ [(i : Int)]) (i + 1)) ++ BS many d l (i + 1)
def I2 (many lim : Nat) : List (List Int) := if many = 0 then [[]] else BS many lim [] 0
def mK (h : List Int → Bool) (lim : Nat) : Option (List Int) := ((List.range (lim + 1)).flatMap fun k => I2 k lim).find? h
section
variable {h : List Int → Bool} {many lim d i k : Nat} {l o : List Int}
theorem B9 (hi : i < lim) : m9 h many (lim - i) l i o = if (vG h many lim (l ++ [(i : Int)]) (i + 1) o).1 = true then vG h many lim (l ++ [(i : Int)]) (i + 1) o else m9 h many (lim - (i + 1)) l (i + 1) (vG h many lim (l ++ [(i : Int)]) (i + 1) o).2 := by
 rw [show lim - i = (lim - (i + 1)) + 1 by omega]; rfl
theorem NU (hi : ¬ i < lim) : m9 h many (lim - i) l i o = (false, o) := by rw [show lim - i = 0 by omega]; rfl
theorem go_eq (e : l.length = many) : vG h many lim l i o = (h l, l) := if_pos e
theorem Nv (e : ¬ l.length = many) : vG h many lim l i o = m9 h many (lim - i) l i o := if_neg e
theorem BG : ∀ (d : Nat) (l : List Int) (i : Nat) (o : List Int), (m9 h many d l i o).1 = (BS many d l i).any h ∧ ((m9 h many d l i o).1 = true → (BS many d l i).find? h = some (m9 h many d l i o).2)
  | 0, _, _, _ => ⟨rfl, fun e => by cases e⟩
  | d + 1, l, i, o => by
    have key : ∀ o, (if (l ++ [(i : Int)]).length = many then (h (l ++ [(i : Int)]), l ++ [(i : Int)]) else m9 h many d (l ++ [(i : Int)]) (i + 1) o).1 = (if (l ++ [(i : Int)]).length = many then [l ++ [(i : Int)]] else BS many d (l ++ [(i : Int)]) (i + 1)).any h ∧ ((if (l ++ [(i : Int)]).length = many then (h (l ++ [(i : Int)]), l ++ [(i : Int)]) else m9 h many d (l ++ [(i : Int)]) (i + 1) o).1 = true → (if (l ++ [(i : Int)]).length = many then [l ++ [(i : Int)]] else BS many d (l ++ [(i : Int)]) (i + 1)).find? h = some (if (l ++ [(i : Int)]).length = many then (h (l ++ [(i : Int)]), l ++ [(i : Int)]) else m9 h many d (l ++ [(i : Int)]) (i + 1) o).2) := by
      intro o
      by_cases e : (l ++ [(i : Int)]).length = many
      · rw [if_pos e, if_pos e]
        refine ⟨by simp, fun h1 => ?_⟩
        have h1 : h (l ++ [(i : Int)]) = true := h1
        rw [List.find?_cons, h1]
      · rw [if_neg e, if_neg e]
        exact BG d _ _ o
    unfold m9 BS
    generalize (if (l ++ [(i : Int)]).length = many then [l ++ [(i : Int)]] else BS many d (l ++ [(i : Int)]) (i + 1)) = C at key ⊢
    obtain ⟨k1, k2⟩ := key o
    generalize (if (l ++ [(i : Int)]).length = many then (h (l ++ [(i : Int)]), l ++ [(i : Int)]) else m9 h many d (l ++ [(i : Int)]) (i + 1) o) = r at k1 k2 ⊢
    rw [List.any_append, List.find?_append]
    cases e : r.1 with
    | true =>
      rw [if_pos rfl]
      refine ⟨by rw [e, ← k1, e]; rfl, fun _ => by rw [k2 e]; rfl⟩
    | false =>
      rw [if_neg (by decide)]
      obtain ⟨j1, j2⟩ := BG d l (i + 1) r.2
      have hn : C.find? h = none := by
        rw [List.find?_eq_none]
        intro x hx h1
        have : C.any h = true := List.any_eq_true.2 ⟨x, hx, h1⟩
        rw [← k1, e] at this; cases this
      refine ⟨by rw [j1, ← k1, e, Bool.false_or], fun h1 => by rw [hn, j2 h1]; rfl⟩
theorem JY : (vG h many lim [] 0 o).1 = (I2 many lim).any h ∧ ((vG h many lim [] 0 o).1 = true → (I2 many lim).find? h = some (vG h many lim [] 0 o).2) := by
 unfold vG I2
 by_cases e : many = 0
 ·rw [if_pos (show ([] : List Int).length = many from e.symm), if_pos e]
  refine ⟨by simp, fun h1 => ?_⟩
  have h1 : h [] = true := h1
  rw [List.find?_cons, h1]
 rw [if_neg (show ¬ ([] : List Int).length = many from fun h => e h.symm), if_neg e, Nat.sub_zero]
 exact BG _ _ _ _
theorem IJ {C : List (List Int)} (h1 : C.any h = false) : C.find? h = none := by
 rw [List.find?_eq_none]
 intro x hx h2
 have : C.any h = true := List.any_eq_true.2 ⟨x, hx, h2⟩
 rw [h1] at this; cases this
def rE (h : List Int → Bool) (lim k : Nat) : Prop := ((List.range k).flatMap fun k => I2 k lim).find? h = none
theorem HF : rE h lim 0 := rfl
theorem Hx (h0 : rE h lim k) (h1 : (vG h k lim [] 0 []).1 = false) : rE h lim (k + 1) := by
 unfold rE at h0 ⊢
 rw [List.range_succ, List.flatMap_append, List.find?_append, h0, List.flatMap_singleton, IJ (by rw [← (JY (o := [])).1, h1])]; rfl
theorem Dr (h0 : rE h lim k) (hk : k = lim + 1) : mK h lim = none := by subst hk; exact h0
theorem range_split {k n : Nat} (hk : k < n) : ∃ r, List.range n = List.range k ++ k :: r := by
 refine ⟨(List.range (n - k - 1)).map (fun x => k + 1 + x), ?_⟩
 rw [show List.range n = List.range (k + (1 + (n - k - 1))) by congr 1; omega, List.range_add, List.range_add, List.map_append]
 rw [List.map_map]
 congr 1
 show [k + 0] ++ _ = _
 rw [List.singleton_append, Nat.add_zero]
 congr 1
 refine List.map_congr_left fun x _ => ?_
 show k + (1 + x) = _; omega
theorem En (h0 : rE h lim k) (hk : k ≤ lim) (h1 : (vG h k lim [] 0 []).1 = true) : mK h lim = some (vG h k lim [] 0 []).2 := by
 unfold rE at h0
 unfold mK
 obtain ⟨r, hr⟩ := range_split (show k < lim + 1 by omega)
 rw [hr, List.flatMap_append, List.find?_append, h0, List.flatMap_cons, List.find?_append, JY.2 h1]; rfl
end
end Go.Proofs.YtelbollidfdcjaaGreat
namespace Go.Proofs.YtelbollidfdcjaaGreat
open Go Go.T
set_option maxHeartbeats 16000000
structure yh (h : List Int → Bool) (many lim : Nat) (l : List Int) (i0 : Nat) (o0 : List Int) where
  i : Nat
  o : List Int
  ge : i0 ≤ i
  le : i ≤ lim
  same : m9 h many (lim - i0) l i0 o0 = m9 h many (lim - i) l i o
section
variable {h : List Int → Bool} {many lim i0 k : Nat} {l o0 : List Int}
theorem yh.nat (x : yh h many lim l i0 o0) (hi : (x.i : Int) < (lim : Int)) : x.i < lim := by omega
def yh.next (x : yh h many lim l i0 o0) (hi : (x.i : Int) < (lim : Int)) (hg : (vG h many lim (l ++ [(x.i : Int)]) (x.i + 1) x.o).1 = false) : yh h many lim l i0 o0 :=
  ⟨x.i + 1, (vG h many lim (l ++ [(x.i : Int)]) (x.i + 1) x.o).2, by have := x.ge; omega, by omega, by rw [x.same, B9 (x.nat hi), if_neg (by rw [hg]; decide)]⟩
theorem yh.found (x : yh h many lim l i0 o0) (hm : ¬ l.length = many) (hi : (x.i : Int) < (lim : Int)) (hg : (vG h many lim (l ++ [(x.i : Int)]) (x.i + 1) x.o).1 = true) : vG h many lim l i0 o0 = vG h many lim (l ++ [(x.i : Int)]) (x.i + 1) x.o := by
 rw [Nv hm, x.same, B9 (x.nat hi), if_pos hg]
theorem yh.stop (x : yh h many lim l i0 o0) (hm : ¬ l.length = many) (hi : ¬ (x.i : Int) < (lim : Int)) : vG h many lim l i0 o0 = (false, x.o) := by
 rw [Nv hm, x.same, NU (by omega)]
def IP (h : List Int → Bool) (lim : Nat) : Bool := (mK h lim).isSome
def Fv (h : List Int → Bool) (lim : Nat) : List Int := (mK h lim).getD []
theorem Ll {k : Nat} (h0 : rE h lim k) (hk : k ≤ lim) (h1 : (vG h k lim [] 0 []).1 = true) : true = IP h lim ∧ (vG h k lim [] 0 []).2 = Fv h lim := by
 unfold IP Fv; rw [En h0 hk h1]; exact ⟨rfl, rfl⟩
theorem Nx {k : Nat} (h0 : rE h lim k) (hk : k ≤ lim + 1) (h1 : ¬ (k : Int) < (lim : Int) + 1) : false = IP h lim ∧ [] = Fv h lim := by
 unfold IP Fv; rw [Dr h0 (by omega)]; exact ⟨rfl, rfl⟩
theorem GK (h : ((l.length : Nat) : Int) = (many : Nat)) : l.length = many := by omega
theorem LN (h : ¬ ((l.length : Nat) : Int) = (many : Nat)) : ¬ l.length = many := by omega
end
theorem qh {ρ : List (Nat × Nat)} {th : Ty} {h1 : th.deps = []} {h2 : th.cdeps = []} {many lim a b : Nat} (e0 : (a, 1000) ∈ ρ) (e1 : (b, 1001) ∈ ρ) : mL ρ [Ty.kT 171 [Ty.pp [Ty.int .i64 (many : Nat)], Ty.ptr a 0, Ty.pp [Ty.nd th h1 h2], Ty.pp [Ty.int .i64 (lim : Nat)], Ty.ptr b 0]] [Ty.kT 171 [Ty.pp [Ty.int .i64 (many : Nat)], Ty.ptr 1000 0, Ty.pp [Ty.nd th h1 h2], Ty.pp [Ty.int .i64 (lim : Nat)], Ty.ptr 1001 0]] :=
 aN bf (tV (aN (aN (aN (aN (aN bf (kE e1)) (aU rfl rfl)) (aU rfl rfl)) (kE e0)) (aU rfl rfl)))
abbrev vl (th : Ty) (h1 : th.deps = []) (h2 : th.cdeps = []) (many lim : Nat) (o : List Int) : List (Nat × Cont) := [(1000, Cont.cells 28 [Ty.sl cz o]), (1001, Cont.cells 122 [Ty.kT 171 [Ty.pp [Ty.int .i64 (many : Nat)], Ty.ptr 1000 0, Ty.pp [Ty.nd th h1 h2], Ty.pp [Ty.int .i64 (lim : Nat)], Ty.ptr 1001 0]])]
theorem Ac {A : As} {th : Ty} {h1 : th.deps = []} {h2 : th.cdeps = []} {many lim : Nat} {o o' : List Int} (e0 : A.tag 1000 = some (Cont.cells 28 [Ty.sl cz o])) (e1 : A.tag 1001 = some (Cont.cells 122 [Ty.kT 171 [Ty.pp [Ty.int .i64 (many : Nat)], Ty.ptr 1000 0, Ty.pp [Ty.nd th h1 h2], Ty.pp [Ty.int .i64 (lim : Nat)], Ty.ptr 1001 0]])) (e : o = o') : rC A [1000, 1001] (vl th h1 h2 many lim o') := by
 subst e; exact eP e0 (gr (by decide) (aN bf (aU rfl rfl))) (eP e1 (gr (by decide) (qh (by decide) (by decide))) gT)
attribute [local irreducible] gP e9 mA oA iG iE iK g9 iL oc iA oM dV fo n6 gC oW nth fS dY ay dP bodyPost Exit.then Exit.inBlock Code.wp Code.wpIn n7 hU oX oR iB eW cM cN bodyPostM dX
attribute [local irreducible] vG m9
set_option maxRecDepth 100000 in
theorem C1 (l : List Int) (h : l.length ≤ 1000) : eW Tryz.prog 172 [] [] [Ty.sl cz l] [] (Ty.row cz 3 6 l) := by
 refine fV Tryz.func172 rfl (by decide) Tryz.ntmps172 (by exact Nat.le_of_ble_eq_true rfl) fun w0 M0 => ?_
 refine aE (aA (mB rfl (aD (aC (aE (aE (aA (fT rfl (GC OJ rfl ?_)))))))))
 refine aD (aC ?_)
 refine AL rfl (fun hc1 => ?_) (fun hc1 => ?_)
 ·
  refine aE (aA (mB rfl (aD (aC (az (aS ?_))))))
  refine jK [6] rfl rfl (by decide) (by repeat (exact gT)) ?_
  all_goals skip
  all_goals (obtain rfl : l = [] := hc1; exact ir zj)
 refine af (aC (aE (aA ?_)))
 refine wZ (E := cz) rfl rfl rfl rfl ?_
 refine fT rfl ?_
 refine dy rfl rfl (by decide) rfl rfl rfl rfl rfl rfl (by decide) (by (simp <;> omega)) (by (simp <;> omega)) ?_
 refine A2 rfl (aD (aC (az ?_)))
 refine jK [6] rfl rfl (by decide) (by repeat (exact gT)) ?_
 all_goals skip
 all_goals exact ir (EU (by decide))
set_option maxRecDepth 100000 in
theorem PK (th : Ty) (h1 : th.deps = []) (h2 : th.cdeps = []) (h : List Int → Bool) (hf : ∀ l, pH Tryz.prog (Ty.nd th h1 h2) [Ty.sl cz l] (Ty.bool (h l))) (many lim : Nat) (hmn : many ≤ 1000) (hlm : lim ≤ 1000) (d : Nat) (l : List Int) (i : Nat) (o : List Int) (hi : i ≤ lim) (hll : l.length ≤ many) (hd : lim - i < d) : eW Tryz.prog 171 [1000, 1001] (vl th h1 h2 many lim o) [Ty.row cz 3 1002 l, Ty.int .i64 (i : Nat), Ty.pp [Ty.int .i64 (many : Nat)], Ty.ptr 1000 0, Ty.pp [Ty.nd th h1 h2], Ty.pp [Ty.int .i64 (lim : Nat)], Ty.ptr 1001 0] (vl th h1 h2 many lim (vG h many lim l i o).2) (Ty.bool (vG h many lim l i o).1) := by
 induction d generalizing l i o
 case zero => exact absurd hd (by omega)
 rename_i d ih
 refine fV Tryz.func171 rfl (by decide) Tryz.ntmps171 (by exact Nat.le_of_ble_eq_true rfl) fun w0 M0 => ?_
 refine aE ?_
 refine kD (tg := 1002) [(0, Ty.sl cz l)] (by decide) rfl ⟨vp rfl, trivial⟩ ?_
 refine aA (dK rfl (aD (aC (aE (aE (aA (fT rfl (b9 rfl rfl rfl (aJ rfl rfl rfl rfl ?_)))))))))
 refine bB rfl rfl rfl (aD (aC ?_))
 refine aq rfl (fun hc1 => ?_) (fun hc1 => ?_)
 ·
  refine aE (aA (fT rfl ?_))
  refine cr rfl rfl (by decide) rfl rfl (by exact (rfl : _ = Ty.sl _ _)) rfl (by exact Nat.le_of_ble_eq_true rfl) rfl rfl (by exact (rfl : _ = [_])) ?_
  refine aD (aC (aE (aA (aJ rfl rfl rfl rfl (fT rfl (fA rfl (hf l) rfl (dK rfl (aD (aC ?_)))))))))
  refine az (aS ?_)
  refine jK [1000, 1001] rfl rfl (by decide) ?_ ?_
  ·exact Ac rfl rfl (congrArg Prod.snd (go_eq (GK hc1))).symm
  all_goals skip
  all_goals exact ir (pQ rfl rfl (congrArg Ty.bool (congrArg Prod.fst (go_eq (GK hc1))).symm))
 refine af (aC (aE (aE ?_)))
 have hlm2 := LN hc1
 refine aA (bG rfl (bu rfl (aD (aC (aa ?_)))))
 refine cG (fun (x : yh h many lim l i o) => live [(0, Ty.sl cz l), (2, Ty.pp [Ty.int .i64 (many : Nat)]), (3, Ty.ptr 1000 0), (4, Ty.pp [Ty.nd th h1 h2]), (5, Ty.pp [Ty.int .i64 (lim : Nat)]), (6, Ty.ptr 1001 0), (10, Ty.int .i64 (x.i : Nat))] [(1000, Cont.cells 28 [Ty.sl cz x.o]), (1001, Cont.cells 122 [Ty.kT 171 [Ty.pp [Ty.int .i64 (many : Nat)], Ty.ptr 1000 0, Ty.pp [Ty.nd th h1 h2], Ty.pp [Ty.int .i64 (lim : Nat)], Ty.ptr 1001 0]])]) (fun x => lim - x.i) (⟨i, o, Nat.le_refl _, hi, rfl⟩) ?_ fun x => ?_
 ·(refine cg.mk' ?_ ?_ <;> (repeat' (first | exact aL | exact aK | refine aB ?_ (Ty.aT _) | refine aB ?_ (Ty.aF _) | refine aG rfl (Cont.aF _) ?_)))
 have hxl := x.le
 refine aE (aE (aA (bG rfl (aJ rfl rfl rfl rfl (bB rfl rfl rfl (aD (aC ?_)))))))
 refine aq rfl (fun hc2 => ?_) (fun hc2 => ?_)
 ·
  refine af (aC (aE (aa (aE (cL mixed rfl ?_)))))
  refine aY rfl rfl (by decide) rfl rfl rfl ?_
  refine fT rfl ?_
  refine dM (res' := Ty.row cz 3 27 l) [(27, 6)] [27] [] (C1 l (by omega)) rfl rfl (by repeat (first | exact bf | refine aN ?_ ?_ | exact aU rfl rfl)) pre_nil post_nil (EU (by exact List.mem_cons_self)) ?_
  refine bG rfl ?_
  refine bg (E := cz) (xs := [(x.i : Int)]) rfl rfl rfl rfl rfl (by decide) (by decide) (by repeat (first | exact (aV.nil : aV _ _ [] _) | (show aV _ _ ((_, _) :: _) _; apply aV.one; (· exact (rfl : _ = Ty.int _ _)); (· exact rfl)))) (by exact rfl) rfl ?_
  refine dy rfl rfl (by decide) rfl rfl rfl rfl rfl rfl (by decide) (by (simp <;> omega)) (by (simp <;> omega)) ?_
  refine bG rfl ?_
  refine cB rfl rfl (by omega) (by omega) ?_
  refine DY [(1000, 1000), (1001, 1001), (27, 1002)] [27] (vl th h1 h2 many lim (vG h many lim (l ++ [(x.i : Int)]) (x.i + 1) x.o).2) rfl (ih (l ++ [(x.i : Int)]) (x.i + 1) x.o (by omega) (by rw [List.length_append]; show l.length + 1 ≤ many; omega) (by have := x.ge; omega)) rfl rfl (aN (aN (aN (aN (aN (aN (aN bf (kE (by decide))) (aU rfl rfl)) (aU rfl rfl)) (kE (by decide))) (aU rfl rfl)) (aU rfl rfl)) (EU (by decide))) (dD (a := 1000) (b := 1000) (by decide) rfl (gr (by decide) (aN bf (aU rfl rfl))) (dD (a := 1001) (b := 1001) (by decide) rfl (gr (by decide) (qh (by decide) (by decide))) pre_nil)) (bp (a := 1000) (b := 1000) (by decide) rfl (gr (by decide) (aN bf (aU rfl rfl))) (bp (a := 1001) (b := 1001) (by decide) rfl (gr (by decide) (qh (by decide) (by decide))) post_nil)) (aU rfl rfl) ?_
  refine aD ?_
  refine ⟨by kernel_rfl, ?_⟩
  refine aC ?_
  refine cC rfl (fun hc3 => ?_) (fun hc3 => ?_)
  ·
   refine aE (aA (dK rfl (aD (aC (az (bC (aS (aS (bC ?_)))))))))
   refine aS ?_
   refine jK [1000, 1001] rfl rfl (by decide) ?_ ?_
   ·exact Ac rfl rfl (congrArg Prod.snd (x.found hlm2 hc2 hc3)).symm
   all_goals skip
   all_goals exact ir (pQ rfl rfl (congrArg Ty.bool (hc3.symm.trans (congrArg Prod.fst (x.found hlm2 hc2 hc3)).symm)))
  refine af (bM (aC (aA (bG rfl ?_))))
  refine cB rfl rfl (by omega) (by omega) ?_
  refine bu rfl (aD ?_)
  refine bR (x.next hc2 hc3) ?_ (by show lim - (x.i + 1) < lim - x.i; omega)
  (refine cg.mk' ?_ ?_ <;> (repeat' (first | exact aL | exact aK | refine aB ?_ (Ty.aT _) | refine aB ?_ (Ty.aF _) | refine aG rfl (Cont.aF _) ?_)))
  all_goals skip
 refine cH (aP (aP (ah rfl (aC (aE (aA (dK rfl (aD (aC ?_)))))))))
 refine az ?_
 refine jK [1000, 1001] rfl rfl (by decide) ?_ ?_
 ·exact Ac rfl rfl (congrArg Prod.snd (x.stop hlm2 hc2)).symm
 all_goals skip
 all_goals exact ir (pQ rfl rfl (congrArg Ty.bool (congrArg Prod.fst (x.stop hlm2 hc2)).symm))
set_option maxRecDepth 100000 in
theorem wV (th : Ty) (h1 : th.deps = []) (h2 : th.cdeps = []) (ho : th.one = true) (h : List Int → Bool) (hf : ∀ l, pH Tryz.prog (Ty.nd th h1 h2) [Ty.sl cz l] (Ty.bool (h l))) (lim : Nat) (hlm : lim ≤ 999) : dP Tryz.prog 113 [Ty.int .i64 (lim : Nat), Ty.nd th h1 h2] (Ty.lN [Ty.sl cz (Fv h lim), Ty.bool (IP h lim)]) := by
 refine ak Tryz.func113 rfl (by decide) Tryz.ntmps113 (by exact Nat.le_of_ble_eq_true rfl) fun w0 M0 => ?_
 refine aE (aA ?_)
 refine gY (by exact (rfl : _ = Ty.int _ _)) rfl ?_
 refine gY (ty := Ty.nd th h1 h2) rfl ho ?_
 refine mB rfl (dK rfl (aD (aC (aE (aE (aA (aJ rfl rfl rfl rfl ?_)))))))
 refine cB rfl rfl (by omega) (by omega) ?_
 refine bG rfl (aD (aC (aa ?_)))
 refine cG (fun (k : {k : Nat // k ≤ lim + 1 ∧ rE h lim k}) => live [(2, Ty.pp [Ty.int .i64 (lim : Nat)]), (3, Ty.pp [Ty.nd th h1 h2]), (10, Ty.int .i64 ((lim : Int) + 1)), (11, Ty.int .i64 (k.1 : Nat))] []) (fun k => lim + 1 - k.1) (⟨0, by omega, HF⟩) ?_ fun k => ?_
 ·(refine cg.mk' ?_ ?_ <;> (repeat' (first | exact aL | exact aK | refine aB ?_ (Ty.aT _) | refine aB ?_ (Ty.aF _))))
 have hk := k.2.1
 refine aE (aA (bB rfl rfl rfl (aD (aC (aE ?_)))))
 refine aq rfl (fun hc1 => ?_) (fun hc1 => ?_)
 ·
  refine af (aC (aE (aa (aE (aA (bG rfl ?_))))))
  refine bh rfl (by exact List.cons_ne_nil _ _) rfl ?_
  refine cr rfl rfl (by decide) rfl rfl (by exact (rfl : _ = Ty.int _ _)) rfl (by exact Nat.le_of_ble_eq_true rfl) rfl rfl (by exact (rfl : _ = [_])) ?_
  refine aD (aC (aE ?_))
  refine kD (tg := 7) [(6, Ty.pp [Ty.int .i64 (k.1 : Nat)])] (by decide) rfl ⟨mW (T := 3) (off := 0) (l := [Ty.int .i64 (k.1 : Nat)]) rfl rfl rfl (by decide), trivial⟩ ?_
  refine aA ?_
  refine bh rfl (by exact List.cons_ne_nil _ _) rfl ?_
  refine aD (aC (aE (aA ?_)))
  refine bh rfl (by exact List.cons_ne_nil _ _) rfl ?_
  refine aD (aC (aE (aA (dh rfl ?_))))
  refine cr rfl rfl (by decide) rfl rfl (by exact (rfl : _ = Ty.kT _ _)) rfl (by exact Nat.le_of_ble_eq_true rfl) rfl rfl (by exact (rfl : _ = [_])) ?_
  refine aD (aC (aE ?_))
  refine jS (tg := 8) rfl (Cont.kW (l' := [Ty.sl cz ([] : List Int)]) ⟨Ty.xU, trivial⟩) ?_
  refine aA ?_
  refine aY rfl rfl (by decide) rfl rfl rfl ?_
  refine DY [(8, 1000), (9, 1001)] [] [(8, Cont.cells 28 [Ty.sl cz (vG h k.1 lim [] 0 []).2]), (9, Cont.cells 122 [Ty.kT 171 [Ty.pp [Ty.int .i64 (k.1 : Nat)], Ty.ptr 8 0, Ty.pp [Ty.nd th h1 h2], Ty.pp [Ty.int .i64 (lim : Nat)], Ty.ptr 9 0]])] rfl (PK th h1 h2 h hf k.1 lim (by omega) (by omega) (lim + 1) [] 0 [] (by omega) (Nat.zero_le _) (by omega)) rfl rfl (aN (aN (aN (aN (aN (aN (aN bf (kE (by decide))) (aU rfl rfl)) (aU rfl rfl)) (kE (by decide))) (aU rfl rfl)) (aU rfl rfl)) zj) (dD (a := 8) (b := 1000) (by decide) rfl (gr (by decide) (aN bf (aU rfl rfl))) (dD (a := 9) (b := 1001) (by decide) rfl (gr (by decide) (qh (by decide) (by decide))) pre_nil)) (bp (a := 8) (b := 1000) (by decide) rfl (gr (by decide) (aN bf (aU rfl rfl))) (bp (a := 9) (b := 1001) (by decide) rfl (gr (by decide) (aN bf (tV (aN (aN (aN (aN (aN bf (kE (by decide))) (aU rfl rfl)) (aU rfl rfl)) (kE (by decide))) (aU rfl rfl))))) post_nil)) (aU rfl rfl) ?_
  refine aD (aC ?_)
  refine cC rfl (fun hc2 => ?_) (fun hc2 => ?_)
  ·
   refine aE (aA ?_)
   refine aY rfl rfl (by decide) rfl rfl rfl ?_
   refine Bh rfl (dK rfl (aD (aC (az (bC (aS (aS (bC (aS ?_)))))))))
   refine gD rfl rfl rfl ?_ ?_
   all_goals skip
   all_goals first | exact av rfl rfl (congrArg Ty.bool (Ll k.2.2 (by omega) hc2).1) | exact av rfl rfl (congrArg (Ty.sl cz) (Ll k.2.2 (by omega) hc2).2)
  refine af (bM (aC (aA ?_)))
  refine cB rfl rfl (by omega) (by omega) ?_
  refine bG rfl (aD ?_)
  refine bR (⟨k.1 + 1, by omega, Hx k.2.2 hc2⟩) ?_ (by show lim + 1 - (k.1 + 1) < lim + 1 - k.1; omega)
  (refine cg.mk' ?_ ?_ <;> (repeat' (first | exact aL | exact aK | refine aB ?_ (Ty.aT _) | refine aB ?_ (Ty.aF _))))
  all_goals skip
 refine cH (aP (aP (ah rfl (aC (aE (aA (mB rfl (dK rfl (aD ?_)))))))))
 refine aC (az ?_)
 refine gD rfl rfl rfl ?_ ?_
 all_goals skip
 all_goals first | exact av rfl rfl (congrArg Ty.bool (Nx k.2.2 k.2.1 hc1).1) | exact gS (Nx k.2.2 k.2.1 hc1).2.symm
end Go.Proofs.YtelbollidfdcjaaGreat
namespace Go.Proofs.YtelbollidfdcjaaGreat
open Go Go.T
set_option maxHeartbeats 16000000
theorem ED {P : Program} {t : Ty} {h1 : t.deps = []} {h2 : t.cdeps = []} {args : List Ty} {res : Ty} (h : pH P t args res) : pH P (Ty.nd t h1 h2) args res := h
noncomputable def lS (y : aj) : Int := if bH y = 0 then (if IP (fun l => !e8 y (cW l false)) y.levels.length = true then 0 else 6) else bH y
noncomputable def nC (y : aj) : List Int := if lS y = 0 then Fv (fun l => !e8 y (cW l false)) y.levels.length else []
theorem Fk {y : aj} (h : ¬ bH y = 0) : bH y = lS y ∧ [] = nC y := by
 have e : bH y = lS y := (if_neg h).symm
 exact ⟨e, by unfold nC; rw [← e, if_neg h]⟩
theorem F9 {y : aj} (h : bH y = 0) (h2 : (!IP (fun l => !e8 y (cW l false)) y.levels.length) = true) : 6 = lS y ∧ [] = nC y := by
 have e : 6 = lS y := by unfold lS; rw [if_pos h, if_neg (by rw [nK h2]; decide)]
 exact ⟨e, by unfold nC; rw [← e, if_neg (by decide)]⟩
theorem BV {y : aj} (h : bH y = 0) (h2 : (!IP (fun l => !e8 y (cW l false)) y.levels.length) = false) : 0 = lS y ∧ Fv (fun l => !e8 y (cW l false)) y.levels.length = nC y := by
 have e : 0 = lS y := by unfold lS; rw [if_pos h, if_pos (eZ h2)]
 exact ⟨e, by unfold nC; rw [← e, if_pos rfl]⟩
noncomputable def lP (y : aj) : Int := if bH y = 0 then (if IP (fun l => e8 y (cW l true)) y.levels.length = true then 0 else 7) else bH y
noncomputable def nG (y : aj) : List Int := if lP y = 0 then Fv (fun l => e8 y (cW l true)) y.levels.length else []
theorem E4 {y : aj} (h : ¬ bH y = 0) : bH y = lP y ∧ [] = nG y := by
 have e : bH y = lP y := (if_neg h).symm
 exact ⟨e, by unfold nG; rw [← e, if_neg h]⟩
theorem FD {y : aj} (h : bH y = 0) (h2 : (!IP (fun l => e8 y (cW l true)) y.levels.length) = true) : 7 = lP y ∧ [] = nG y := by
 have e : 7 = lP y := by unfold lP; rw [if_pos h, if_neg (by rw [nK h2]; decide)]
 exact ⟨e, by unfold nG; rw [← e, if_neg (by decide)]⟩
theorem Bc {y : aj} (h : bH y = 0) (h2 : (!IP (fun l => e8 y (cW l true)) y.levels.length) = false) : 0 = lP y ∧ Fv (fun l => e8 y (cW l true)) y.levels.length = nG y := by
 have e : 0 = lP y := by unfold lP; rw [if_pos h, if_pos (eZ h2)]
 exact ⟨e, by unfold nG; rw [← e, if_pos rfl]⟩
attribute [local irreducible] aQ fY Way.g6 Way.fin Way.room eo eK fG gm over bN cR dj ep j8 fJ iO lD cQ fX gG gH c9 cO gx qH jL jR jW g7 DB AO gy aj.kept aj.cells bH c7 bL fQ lG bq p9 q9 fU fN gO iW hasB uU sV rR kF pZ lH oL lU yX gw kC J7 Ho sx e8 cW iY vG m9 IP Fv mK
attribute [local irreducible] gP e9 mA oA iG iE iK g9 iL oc iA oM dV fo n6 gC oW nth fS dY ay dP bodyPost Exit.then Exit.inBlock Code.wp Code.wpIn n7 hU oX oR iB eW cM cN bodyPostM dX
set_option maxRecDepth 100000 in
theorem Jb (y : aj) (hr : y.bw) (l : List Int) : dP Tryz.prog 114 [Ty.sl cz l, Ty.pp (bA y)] (Ty.bool ((fun l => !e8 y (cW l false)) l)) := by
 refine ak Tryz.func114 rfl (by decide) Tryz.ntmps114 (by exact Nat.le_of_ble_eq_true rfl) fun w0 M0 => ?_
 refine aE (aA (dK rfl (aD (aC (aE (aA ?_))))))
 refine aX rfl rfl rfl (by exact Nat.le_of_ble_eq_true rfl) ?_
 refine fT rfl (aZ (DT y hr l false) rfl rfl rfl rfl rfl (dr rfl (dK rfl (aD (aC (az (bU rfl rfl ?_)))))))
 all_goals exact cE rfl rfl
 all_goals trace_state
set_option maxRecDepth 100000 in
theorem MJ (y : aj) (hs : y.Small) : dP Tryz.prog 44 [eB y] (Ty.lN [Ty.sl cz (nC y), Ty.int .i64 (lS y)]) := by
 refine ak Tryz.func44 rfl (by decide) Tryz.ntmps44 (by exact Nat.le_of_ble_eq_true rfl) fun w0 M0 => ?_
 refine aE (aA (bF rfl (mB rfl (bu rfl (aD (aC (aE (aE (aA ?_)))))))))
 refine aX rfl rfl rfl (by exact Nat.le_of_ble_eq_true rfl) ?_
 refine aZ (ld y hs) rfl rfl rfl rfl rfl (bu rfl (aD (aC (aE (aA (bG rfl (bB rfl rfl rfl (aD (aC ?_)))))))))
 refine dJ rfl (fun hc1 => ?_) (fun hc1 => ?_)
 ·
  refine aE (aA (bG rfl (mB rfl (bu rfl (aD (aC (az (aS ?_))))))))
  refine gD rfl rfl rfl ?_ ?_
  all_goals skip
  all_goals first | exact gS (Fk hc1).2.symm | exact av rfl rfl (congrArg (Ty.int .i64) (Fk hc1).1)
 refine af (aC (aE ?_))
 have hck : bH y = 0 := hc1
 have hr := cK hck
 have h8 := hr.levels
 refine aA ?_
 refine aI rfl rfl rfl rfl rfl (by decide) ?_
 refine aJ rfl rfl rfl rfl (b9 rfl rfl rfl (dh rfl ?_))
 refine aZ (wV (Ty.kT 114 [Ty.pp (bA y)]) rfl rfl rfl (fun l => !e8 y (cW l false)) (fun l => ED (dn (Jb y hr l) rfl rfl rfl rfl rfl rfl)) y.levels.length (by omega)) rfl rfl rfl rfl rfl ?_
 refine tL rfl (bQ rfl rfl (bQ rfl rfl (Bh rfl (dK rfl (aD (aC (aE (aE (aA ?_)))))))))
 refine eY rfl (dr rfl (aD (aC ?_)))
 refine cC rfl (fun hc2 => ?_) (fun hc2 => ?_)
 ·
  refine aE (aA (mB rfl (bu rfl (aD (aC (az (aS ?_)))))))
  refine gD rfl rfl rfl ?_ ?_
  all_goals skip
  all_goals first | exact gS (F9 hck hc2).2.symm | exact av rfl rfl (congrArg (Ty.int .i64) (F9 hck hc2).1)
 refine af (aC (aE (aA (fT rfl (Bh rfl (bu rfl (aD (aC (az ?_)))))))))
 refine gD rfl rfl rfl ?_ ?_
 all_goals skip
 all_goals first | exact av rfl rfl (congrArg (Ty.sl cz) (BV hck hc2).2) | exact av rfl rfl (congrArg (Ty.int .i64) (BV hck hc2).1)
set_option maxRecDepth 100000 in
theorem KD (y : aj) (hr : y.bw) (l : List Int) : dP Tryz.prog 115 [Ty.sl cz l, Ty.pp (bA y)] (Ty.bool ((fun l => e8 y (cW l true)) l)) := by
 refine ak Tryz.func115 rfl (by decide) Tryz.ntmps115 (by exact Nat.le_of_ble_eq_true rfl) fun w0 M0 => ?_
 refine aE (aA (dK rfl (aD (aC (aE (aA ?_))))))
 refine aX rfl rfl rfl (by exact Nat.le_of_ble_eq_true rfl) ?_
 refine fT rfl (aZ (DT y hr l true) rfl rfl rfl rfl rfl (dK rfl (aD (aC (az (bU rfl rfl ?_))))))
 all_goals exact cE rfl rfl
 all_goals trace_state
set_option maxRecDepth 100000 in
theorem Na (y : aj) (hs : y.Small) : dP Tryz.prog 45 [eB y] (Ty.lN [Ty.sl cz (nG y), Ty.int .i64 (lP y)]) := by
 refine ak Tryz.func45 rfl (by decide) Tryz.ntmps45 (by exact Nat.le_of_ble_eq_true rfl) fun w0 M0 => ?_
 refine aE (aA (bF rfl (mB rfl (bu rfl (aD (aC (aE (aE (aA ?_)))))))))
 refine aX rfl rfl rfl (by exact Nat.le_of_ble_eq_true rfl) ?_
 refine aZ (ld y hs) rfl rfl rfl rfl rfl (bu rfl (aD (aC (aE (aA (bG rfl (bB rfl rfl rfl (aD (aC ?_)))))))))
 refine dJ rfl (fun hc1 => ?_) (fun hc1 => ?_)
 ·
  refine aE (aA (bG rfl (mB rfl (bu rfl (aD (aC (az (aS ?_))))))))
  refine gD rfl rfl rfl ?_ ?_
  all_goals skip
  all_goals first | exact gS (E4 hc1).2.symm | exact av rfl rfl (congrArg (Ty.int .i64) (E4 hc1).1)
 refine af (aC (aE ?_))
 have hck : bH y = 0 := hc1
 have hr := cK hck
 have h8 := hr.levels
 refine aA ?_
 refine aI rfl rfl rfl rfl rfl (by decide) ?_
 refine aJ rfl rfl rfl rfl (b9 rfl rfl rfl (dh rfl ?_))
 refine aZ (wV (Ty.kT 115 [Ty.pp (bA y)]) rfl rfl rfl (fun l => e8 y (cW l true)) (fun l => ED (dn (KD y hr l) rfl rfl rfl rfl rfl rfl)) y.levels.length (by omega)) rfl rfl rfl rfl rfl ?_
 refine tL rfl (bQ rfl rfl (bQ rfl rfl (Bh rfl (dK rfl (aD (aC (aE (aE (aA ?_)))))))))
 refine eY rfl (dr rfl (aD (aC ?_)))
 refine cC rfl (fun hc2 => ?_) (fun hc2 => ?_)
 ·
  refine aE (aA (mB rfl (bu rfl (aD (aC (az (aS ?_)))))))
  refine gD rfl rfl rfl ?_ ?_
  all_goals skip
  all_goals first | exact gS (FD hck hc2).2.symm | exact av rfl rfl (congrArg (Ty.int .i64) (FD hck hc2).1)
 refine af (aC (aE (aA (fT rfl (Bh rfl (bu rfl (aD (aC (az ?_)))))))))
 refine gD rfl rfl rfl ?_ ?_
 all_goals skip
 all_goals first | exact av rfl rfl (congrArg (Ty.sl cz) (Bc hck hc2).2) | exact av rfl rfl (congrArg (Ty.int .i64) (Bc hck hc2).1)
end Go.Proofs.YtelbollidfdcjaaGreat
namespace Go.Proofs.YtelbollidfdcjaaGreat
open Go Go.T
def two (k : Nat) : aj := ⟨2, [⟨100, ⟨20, 30⟩⟩, ⟨50, ⟨0, 0⟩⟩], [⟨0, -1, 0, ⟨40, 60⟩⟩, ⟨1, 0, 1, ⟨10, 40⟩⟩, ⟨1, 1, -1, ⟨5, 10⟩⟩], ([⟨2, 1, ⟨20, 25⟩⟩, ⟨2, 0, ⟨10, 24⟩⟩] : List Level).take k⟩
def yc (p q u v w : Int) : dF := ⟨[p, q], [u, v, w]⟩
section
variable {k : Nat} {c : Nat → Bool} {a : dF} {p q u v w : Int}
theorem oI (h : k ≤ 2) : bH (two k) = 0 := by
 have : k = 0 ∨ k = 1 ∨ k = 2 := by omega
 rcases this with rfl | rfl | rfl <;> decide
theorem zY (h : k ≤ 2) : (two k).bw := cK (oI h)
theorem EI (h : yH (two k) a) : ∃ p q u v w, a = yc p q u v w := by
  obtain ⟨f, m⟩ := a
  have h1 : f.length = 2 := h.first
  have h2 : m.length = 3 := h.bY
  match f, m, h1, h2 with
  | [p, q], [u, v, w], _, _ => exact ⟨p, q, u, v, w, rfl⟩
theorem nF : cx (two k) (yc p q u v w) 0 0 = p := by simp [cx, cw, q8, ind, nth, two, yc]
theorem nE : cx (two k) (yc p q u v w) 0 1 = p + u := by simp [cx, cw, q8, ind, nth, two, yc]
theorem lQ : cx (two k) (yc p q u v w) 0 2 = p + u - v := by simp [cx, cw, q8, ind, nth, two, yc]; omega
theorem Aw : cx (two k) (yc p q u v w) 1 0 = q := by simp [cx, cw, q8, ind, nth, two, yc]
theorem BC : cx (two k) (yc p q u v w) 1 1 = q := by simp [cx, cw, q8, ind, nth, two, yc]
theorem tS : cx (two k) (yc p q u v w) 1 2 = q + v - w := by simp [cx, cw, q8, ind, nth, two, yc]; omega
structure Ml (k : Nat) (c : Nat → Bool) (p q u v w : Int) : Prop where
  hp : 20 ≤ p ∧ p ≤ 30
  hq : q = 0
  hu : 40 ≤ u ∧ u ≤ 60
  hv : 10 ≤ v ∧ v ≤ 40
  hw : 5 ≤ w ∧ w ≤ 10
  l0 : 0 < k → c 0 = true → 20 ≤ v - w ∧ v - w ≤ 25
  l1 : 1 < k → c 1 = true → 10 ≤ p + u - v ∧ p + u - v ≤ 24
theorem k7 (hk : k ≤ 2) : dm (two k) c (yc p q u v w) ↔ Ml k c p q u v w := by
 constructor
 ·intro h
  have f0 := h.first 0 (Nat.zero_lt_succ _)
  have f1 := h.first 1 (show 1 < 2 by decide)
  have m0 := h.bY 0 (Nat.zero_lt_succ _)
  have m1 := h.bY 1 (show 1 < 3 by decide)
  have m2 := h.bY 2 (show 2 < 3 by decide)
  have hq : (0 : Int) ≤ q ∧ q ≤ 0 := f1
  refine ⟨f0, by omega, m0, m1, m2, fun h0 hc => ?_, fun h1 hc => ?_⟩
  ·have e : nth (two k).levels 0 = ⟨2, 1, ⟨20, 25⟩⟩ := by
    obtain ⟨j, rfl⟩ : ∃ j, k = j + 1 := ⟨k - 1, by omega⟩
    rfl
   have hl : 0 < (two k).levels.length := by
    obtain ⟨j, rfl⟩ : ∃ j, k = j + 1 := ⟨k - 1, by omega⟩
    show 0 < (List.take (j + 1) _).length
    rw [List.take_succ_cons, List.length_cons]; omega
   have := h.level 0 hl hc
   rw [e] at this
   have := this
   change 20 ≤ cx _ _ 1 2 ∧ cx _ _ 1 2 ≤ 25 at this
   rw [tS] at this
   omega
  obtain rfl : k = 2 := by omega
  have := h.level 1 (by decide) hc
  change 10 ≤ cx _ _ 0 2 ∧ cx _ _ 0 2 ≤ 24 at this
  rw [lQ] at this
  exact this
 intro ⟨hp, hq, hu, hv, hw, h0, h1⟩
 have hlen : (two k).levels.length = k := by
  show (List.take k _).length = k
  rw [List.length_take]; show min k 2 = k; omega
 refine ⟨⟨rfl, rfl⟩, fun b hb => ?_, fun b t hb ht => ?_, fun i hi => ?_, fun i hi hc => ?_⟩
 ·have hb : b < 2 := hb
  have : b = 0 ∨ b = 1 := by omega
  rcases this with rfl | rfl
  ·exact hp
  show 0 ≤ q ∧ q ≤ 0; omega
 ·have hb : b < 2 := hb
  have ht : t ≤ 2 := ht
  have e1 : b = 0 ∨ b = 1 := by omega
  have e2 : t = 0 ∨ t = 1 ∨ t = 2 := by omega
  rcases e1 with rfl | rfl <;> rcases e2 with rfl | rfl | rfl
  ·rw [nF]; show 0 ≤ p ∧ p ≤ 100; omega
  ·rw [nE]; show 0 ≤ p + u ∧ p + u ≤ 100; omega
  ·rw [lQ]; show 0 ≤ p + u - v ∧ p + u - v ≤ 100; omega
  ·rw [Aw]; show 0 ≤ q ∧ q ≤ 50; omega
  ·rw [BC]; show 0 ≤ q ∧ q ≤ 50; omega
  rw [tS]; show 0 ≤ q + v - w ∧ q + v - w ≤ 50; omega
 ·have hi : i < 3 := hi
  have : i = 0 ∨ i = 1 ∨ i = 2 := by omega
  rcases this with rfl | rfl | rfl
  ·exact hu
  ·exact hv
  exact hw
 rw [hlen] at hi
 have : i = 0 ∨ i = 1 := by omega
 rcases this with rfl | rfl
 ·have h := h0 hi hc
  have e : nth (two k).levels 0 = ⟨2, 1, ⟨20, 25⟩⟩ := by
   obtain ⟨j, rfl⟩ : ∃ j, k = j + 1 := ⟨k - 1, by omega⟩
   rfl
  rw [e]
  change 20 ≤ cx _ _ 1 2 ∧ cx _ _ 1 2 ≤ 25
  rw [tS]; omega
 obtain rfl : k = 2 := by omega
 have h := h1 (by omega) hc
 change 10 ≤ cx _ _ 0 2 ∧ cx _ _ 0 2 ≤ 24
 rw [lQ]; exact h
theorem ku (hk : k ≤ 2) {f : dF → Int} {s : Span} (p0 q0 u0 v0 w0 p1 q1 u1 v1 w1 : Int) (h0 : Ml k c p0 q0 u0 v0 w0) (e0 : f (yc p0 q0 u0 v0 w0) = s.lo) (h1 : Ml k c p1 q1 u1 v1 w1) (e1 : f (yc p1 q1 u1 v1 w1) = s.hi)
 (h : ∀ p q u v w, Ml k c p q u v w → s.lo ≤ f (yc p q u v w) ∧ f (yc p q u v w) ≤ s.hi) : ve (two k) c f s :=
 ⟨⟨_, (k7 hk).2 h0, e0⟩, ⟨_, (k7 hk).2 h1, e1⟩, fun a ha => by
  obtain ⟨p, q, u, v, w, rfl⟩ := EI ha.lens
  exact h p q u v w ((k7 hk).1 ha)⟩
end
end Go.Proofs.YtelbollidfdcjaaGreat
namespace Go.Proofs.YtelbollidfdcjaaGreat
open Go Go.T
section
variable {y : aj} {c : Nat → Bool} {a : dF} {b t k : Nat} {s : Span}
theorem wX (h0 : bH y = 0) (h : ∃ a, dm y (nth bL) a) : bq y = 0 := (open_3 h0 ((mG (cK h0)).2 h)).symm
theorem CS (h0 : bH y = 0) (h : ¬ ∃ a, dm y (nth bL) a) : bq y = 7 := by
  cases e : (cQ (aQ y (nth bL)) (y.cells + 1) (fY (aQ y (nth bL)))).2.1 with
  | true => exact (wI h0 e).symm
  | false => exact absurd ((mG (cK h0)).1 e) h
theorem nL (h : bq y = 0) : ∃ a, dm y (nth bL) a := (mG (cK (dN h))).1 (Ap h)
theorem Ko (h0 : bH y = 0) : bq y = 0 ↔ ∃ a, dm y (nth bL) a := ⟨nL, wX h0⟩
theorem zb (hr : y.bw) {l : List Bool} : e8 y l = true ↔ ∃ a, dm y (nth l) a := by
 unfold e8
 rw [Bool.not_eq_true', mG hr]
theorem n8 (ho : bq y = 0) (hb : b < y.bins.length) (ht : t ≤ y.D) : ve y (nth bL) (fun a => cx y a b t) (g7 (aQ y (nth bL)) (y.cells + 1) (hasB y b t)) :=
 wT (cK (dN ho)) (fun x hx => MT (cK (dN ho)) hb ht hx) (nL ho)
theorem vi (ho : bq y = 0) (ht : t ≤ y.D) : ve y (nth bL) (fun a => cw (fun b => cx y a b t) y.bins.length) (g7 (aQ y (nth bL)) (y.cells + 1) (pZ y t)) :=
 wT (cK (dN ho)) (fun x hx => HK (cK (dN ho)) ht hx) (nL ho)
theorem Ms (ho : bq y = 0) (hk : k < y.moves.length) : ve y (nth bL) (fun a => nth a.bY k) (g7 (aQ y (nth bL)) (y.cells + 1) (uU (y.bins.length * (y.D + 1) + k))) :=
 wT (cK (dN ho)) (fun x hx => KM hk) (nL ho)
theorem wG (h0 : bH y = 0) (hb : b < y.bins.length) : c7 y (b : Int) = 0 := by
 unfold c7
 rw [if_pos h0, if_pos (by unfold aj.bin; rw [dL]; omega)]
theorem GN (ho : bq y = 0) (hb : b < y.bins.length) : fU y (b : Int) = 0 := (BW (wG (dN ho) hb) ho).1.symm
theorem vo (ho : bq y = 0) (hb : b < y.bins.length) : fN y (b : Int) = (List.range (y.D + 1)).map fun t => g7 (aQ y (nth bL)) (y.cells + 1) (hasB y b t) := (BW (wG (dN ho) hb) ho).2.symm
theorem Af (ho : bq y = 0) : kF y = (List.range (y.D + 1)).map fun t => g7 (aQ y (nth bL)) (y.cells + 1) (pZ y t) := (CR ho).symm
theorem LJ (ho : bq y = 0) (hb : b < y.bins.length) : (fN y (b : Int)).length = y.D + 1 := by rw [vo ho hb, List.length_map, List.length_range]
theorem DR (ho : bq y = 0) (hb : b < y.bins.length) (ht : t ≤ y.D) : ve y (nth bL) (fun a => cx y a b t) (nth (fN y (b : Int)) t) := by
 rw [vo ho hb, eH _ (by omega)]; exact n8 ho hb ht
theorem JM (ho : bq y = 0) : (kF y).length = y.D + 1 := by rw [Af ho, List.length_map, List.length_range]
theorem JF (ho : bq y = 0) (ht : t ≤ y.D) : ve y (nth bL) (fun a => cw (fun b => cx y a b t) y.bins.length) (nth (kF y) t) := by
 rw [Af ho, eH _ (by omega)]; exact vi ho ht
theorem NY (ho : bq y = 0) (hk : k < y.moves.length) : gO y (k : Int) = 0 := (Co (dN ho) (by rw [Bool.not_eq_false', Bool.and_eq_true, decide_eq_true_eq, decide_eq_true_eq]; omega) ho).1.symm
theorem Cz (ho : bq y = 0) (hk : k < y.moves.length) : ve y (nth bL) (fun a => nth a.bY k) (iW y (k : Int)) := by
 rw [← (Co (dN ho) (by rw [Bool.not_eq_false', Bool.and_eq_true, decide_eq_true_eq, decide_eq_true_eq]; omega) ho).2]
 exact Ms ho hk
end
theorem LZ {α : Type} {a b c x y z : α} (h1 : a = x) (h2 : b = y) (h3 : c = z) : [a, b, c] = [x, y, z] := by subst h1; subst h2; subst h3; rfl
theorem lF {k : Nat} (hk : k ≤ 1) : bq (two k) = 0 :=
 wX (oI (by omega)) ⟨yc 20 0 40 25 5, (k7 (by omega)).2 ⟨by omega, rfl, by omega, by omega, by omega, fun _ _ => by omega, fun _ _ => by omega⟩⟩
theorem P9 : fU (two 0) 0 = 0 := GN (b := 0) (lF (by omega)) (by decide)
theorem NA : fN (two 0) 0 = [⟨20, 30⟩, ⟨60, 90⟩, ⟨20, 80⟩] := by
 have ho := lF (k := 0) (by omega)
 have e := vo (b := 0) ho (by decide)
 have h0 := (n8 (b := 0) (t := 0) ho (by decide) (by decide)).one (ku (s := ⟨20, 30⟩) (by omega) 20 0 40 10 5 30 0 40 10 5 (by constructor <;> intros <;> omega) nF (by constructor <;> intros <;> omega) nF fun p q u v w h => by rw [nF]; exact h.hp)
 have h1 := (n8 (b := 0) (t := 1) ho (by decide) (by decide)).one (ku (s := ⟨60, 90⟩) (by omega) 20 0 40 10 5 30 0 60 10 5 (by constructor <;> intros <;> omega) nE (by constructor <;> intros <;> omega) nE fun p q u v w h => by rw [nE]; have := h.hp; have := h.hu; show 60 ≤ p + u ∧ p + u ≤ 90; omega)
 have h2 := (n8 (b := 0) (t := 2) ho (by decide) (by decide)).one (ku (s := ⟨20, 80⟩) (by omega) 20 0 40 40 5 30 0 60 10 5 (by constructor <;> intros <;> omega) lQ (by constructor <;> intros <;> omega) lQ fun p q u v w h => by rw [lQ]; have := h.hp; have := h.hu; have := h.hv; show 20 ≤ p + u - v ∧ p + u - v ≤ 80; omega)
 show fN (two 0) ((0 : Nat) : Int) = _
 rw [e]
 exact LZ h0 h1 h2
theorem F4 : fN (two 1) 0 = [⟨20, 30⟩, ⟨60, 90⟩, ⟨25, 65⟩] := by
 have ho := lF (k := 1) (by omega)
 have e := vo (b := 0) ho (by decide)
 have h0 := (n8 (b := 0) (t := 0) ho (by decide) (by decide)).one (ku (s := ⟨20, 30⟩) (by omega) 20 0 40 25 5 30 0 40 25 5 (by constructor <;> intros <;> omega) nF (by constructor <;> intros <;> omega) nF fun p q u v w h => by rw [nF]; exact h.hp)
 have h1 := (n8 (b := 0) (t := 1) ho (by decide) (by decide)).one (ku (s := ⟨60, 90⟩) (by omega) 20 0 40 25 5 30 0 60 25 5 (by constructor <;> intros <;> omega) nE (by constructor <;> intros <;> omega) nE fun p q u v w h => by rw [nE]; have := h.hp; have := h.hu; show 60 ≤ p + u ∧ p + u ≤ 90; omega)
 have h2 := (n8 (b := 0) (t := 2) ho (by decide) (by decide)).one (ku (s := ⟨25, 65⟩) (by omega) 20 0 40 35 10 30 0 60 25 5 (by constructor <;> intros <;> omega) lQ (by constructor <;> intros <;> omega) lQ fun p q u v w h => by rw [lQ]; have := h.hp; have := h.hu; have := h.hw; have := h.l0 (by omega) rfl; show 25 ≤ p + u - v ∧ p + u - v ≤ 65; omega)
 show fN (two 1) ((0 : Nat) : Int) = _
 rw [e]
 exact LZ h0 h1 h2
theorem lf {k : Nat} {a : dF} {t : Nat} : cw (fun b => cx (two k) a b t) (two k).bins.length = cx (two k) a 0 t + cx (two k) a 1 t := by
 show (0 + cx (two k) a 0 t) + cx (two k) a 1 t = _; rw [Int.zero_add]
theorem OK : kF (two 0) = [⟨20, 30⟩, ⟨60, 90⟩, ⟨50, 85⟩] := by
 have ho := lF (k := 0) (by omega)
 have e := Af ho
 have h0 := (vi (t := 0) ho (by decide)).one (ku (s := ⟨20, 30⟩) (by omega) 20 0 40 10 5 30 0 40 10 5 (by constructor <;> intros <;> omega) (by rw [lf, nF, Aw]; rfl) (by constructor <;> intros <;> omega) (by rw [lf, nF, Aw]; rfl) fun p q u v w h => by rw [lf, nF, Aw]; have := h.hp; have := h.hq; show 20 ≤ p + q ∧ p + q ≤ 30; omega)
 have h1 := (vi (t := 1) ho (by decide)).one (ku (s := ⟨60, 90⟩) (by omega) 20 0 40 10 5 30 0 60 10 5 (by constructor <;> intros <;> omega) (by rw [lf, nE, BC]; rfl) (by constructor <;> intros <;> omega) (by rw [lf, nE, BC]; rfl) fun p q u v w h => by rw [lf, nE, BC]; have := h.hp; have := h.hq; have := h.hu; show 60 ≤ p + u + q ∧ p + u + q ≤ 90; omega)
 have h2 := (vi (t := 2) ho (by decide)).one (ku (s := ⟨50, 85⟩) (by omega) 20 0 40 10 10 30 0 60 10 5 (by constructor <;> intros <;> omega) (by rw [lf, lQ, tS]; rfl) (by constructor <;> intros <;> omega) (by rw [lf, lQ, tS]; rfl) fun p q u v w h => by rw [lf, lQ, tS]; have := h.hp; have := h.hq; have := h.hu; have := h.hw; show 50 ≤ p + u - v + (q + v - w) ∧ p + u - v + (q + v - w) ≤ 85; omega)
 rw [e]
 exact LZ h0 h1 h2
theorem Qk : gO (two 1) 1 = 0 := NY (k := 1) (lF (by omega)) (by decide)
theorem PF : iW (two 1) 1 = ⟨25, 35⟩ :=
 (Cz (k := 1) (lF (k := 1) (by omega)) (by decide)).one (ku (s := ⟨25, 35⟩) (by omega) 20 0 40 25 5 20 0 40 35 10 (by constructor <;> intros <;> omega) rfl (by constructor <;> intros <;> omega) rfl fun p q u v w h => by have := h.hw; have := h.l0 (by omega) rfl; show 25 ≤ v ∧ v ≤ 35; omega)
theorem N6 : 0 = lH (two 1) 0 60 (fun x => decide (x.lo ≥ 60)) ∧ fidx (fun x : Span => decide (x.lo ≥ 60)) (fN (two 1) 0) = oL (two 1) 0 60 (fun x => decide (x.lo ≥ 60)) :=
 Is (wG (b := 0) (oI (by omega)) (by decide)) rfl (GN (b := 0) (lF (by omega)) (by decide)) (by rw [F4]; decide)
theorem PS : oL (two 1) 0 60 (fun x => decide (x.lo ≥ 60)) = 1 := by rw [← N6.2, F4]; rfl
def yD : FN := ⟨[⟨0, 0⟩, ⟨0, 1⟩, ⟨1, 1⟩], false⟩
theorem F5 : kC (two 2) (aQ (two 2) (nth bL)) yD = 1 := by kernel_rfl
theorem P7 : 0 = n5 (two 2) yD ∧ kC (two 2) (aQ (two 2) (nth bL)) yD = uQ (two 2) yD :=
 K8 (oI (by omega)) (by decide) (fun i hi => by
  have hi : i + 1 < 3 := hi
  have : i = 0 ∨ i = 1 := by omega
  rcases this with rfl | rfl <;> decide) (by rw [F5]; decide)
theorem Oh : uQ (two 2) yD = 1 := by rw [← P7.2, F5]
theorem I0 : ¬ ∃ a, dm (two 2) (nth bL) a := by
 rintro ⟨a, ha⟩
 obtain ⟨p, q, u, v, w, rfl⟩ := EI ha.lens
 have h := (k7 (by omega)).1 ha
 have h0 := h.l0 (by omega) rfl
 have h1 := h.l1 (by omega) rfl
 have := h.hp; have := h.hu; have := h.hw
 omega
theorem L6 : bq (two 2) = 7 := CS (oI (by omega)) I0
theorem vr {l : List Bool} (h : nth l 0 = false ∨ nth l 1 = false) : e8 (two 2) l = true := by
  rw [zb (zY (by omega))]
  cases h1 : nth l 1 with
  | false => exact ⟨yc 20 0 40 25 5, (k7 (by omega)).2 ⟨by omega, rfl, by omega, by omega, by omega, fun _ _ => by omega, fun _ hc => by rw [h1] at hc; cases hc⟩⟩
  | true =>
    have h0 : nth l 0 = false := h.resolve_right (by rw [h1]; decide)
    exact ⟨yc 20 0 40 40 5, (k7 (by omega)).2 ⟨by omega, rfl, by omega, by omega, by omega, fun _ hc => absurd hc (by rw [h0]; decide), fun _ _ => by omega⟩⟩
theorem Jr {l : List Bool} (h : nth l 0 = true ∧ nth l 1 = true) : e8 (two 2) l = false := by
 rw [Bool.eq_false_iff]
 intro hc
 obtain ⟨a, ha⟩ := (zb (zY (by omega))).1 hc
 obtain ⟨p, q, u, v, w, rfl⟩ := EI ha.lens
 have hh := (k7 (by omega)).1 ha
 have h0 := hh.l0 (by omega) h.1
 have h1 := hh.l1 (by omega) h.2
 have := hh.hp; have := hh.hu; have := hh.hw
 omega
theorem zC (h : List Int → Bool) : mK h 2 = [[], [0], [1], [0, 1]].find? h := rfl
theorem Px : mK (fun l => !e8 (two 2) (cW l false)) 2 = some [0, 1] := by
 rw [zC, List.find?_cons, vr (.inl rfl)]
 show List.find? _ [[0], [1], [0, 1]] = _
 rw [List.find?_cons, vr (.inr rfl)]
 show List.find? _ [[1], [0, 1]] = _
 rw [List.find?_cons, vr (.inl rfl)]
 show List.find? _ [[0, 1]] = _
 rw [List.find?_cons, Jr ⟨rfl, rfl⟩]; rfl
theorem Py : mK (fun l => e8 (two 2) (cW l true)) 2 = some [0] := by
 rw [zC, List.find?_cons, Jr ⟨rfl, rfl⟩]
 show List.find? _ [[0], [1], [0, 1]] = _
 rw [List.find?_cons, vr (.inl rfl)]
theorem N2 : 0 = lS (two 2) ∧ Fv (fun l => !e8 (two 2) (cW l false)) 2 = nC (two 2) :=
 BV (oI (by omega)) (by show (!(mK _ 2).isSome) = false; rw [Px]; rfl)
theorem OA : 0 = lP (two 2) ∧ Fv (fun l => e8 (two 2) (cW l true)) 2 = nG (two 2) :=
 Bc (oI (by omega)) (by show (!(mK _ 2).isSome) = false; rw [Py]; rfl)
theorem Lh : nC (two 2) = [0, 1] := by rw [← N2.2]; unfold Fv; rw [Px]; rfl
theorem Js : nG (two 2) = [0] := by rw [← OA.2]; unfold Fv; rw [Py]; rfl
end Go.Proofs.YtelbollidfdcjaaGreat
namespace Go.Proofs.YtelbollidfdcjaaGreat
open Go Go.T
section
variable {y : aj} {c : Nat → Bool} {a : dF} {m : List Int} {b t n : Nat} {x : Int}
theorem ve.same {f g : dF → Int} {s s' : Span} (h : ve y c f s) (h' : ve y c g s') (e : ∀ a, f a = g a) : s = s' := by
 have : f = g := funext e
 subst this; exact h.one h'
end
end Go.Proofs.YtelbollidfdcjaaGreat
namespace Go.Proofs.YtelbollidfdcjaaGreat
open Go Go.T
section
variable {y : aj} {a : dF} {c : Nat → Bool}
end
end Go.Proofs.YtelbollidfdcjaaGreat
namespace Go.Proofs.YtelbollidfdcjaaGreat
open Go Go.T
theorem Ob (a b c d : Int) (w : World) : (Op.equalIn 9999 37 (.agg #[.int .i64 a, .int .i64 b]) (.agg #[.int .i64 c, .int .i64 d])).run Tryz.prog w = .ok (decide (a = c) && decide (b = d)) w := by
 have hs : Tryz.prog.stoodInHeld 37 = false := by kernel_rfl
 have e3 : ∀ (x y : Int) (w : World), (Op.equalIn 9998 3 (.int .i64 x) (.int .i64 y)).run Tryz.prog w = .ok (decide (x = y)) w := fun x y w => nx 9997 Tryz.underlying3
 have g3 : ∀ w, (isAgg 3).run Tryz.prog w = .ok false w := fun w => by simp [isAgg, run_underlying Tryz.underlying3]
 rw [Op.equalIn]
 simp only [Sem.run_bind, run_underlying Tryz.underlying37, Result.andThen_ok]
 simp [hs, part, g3, e3]
 by_cases h0 : a = c <;> by_cases h1 : b = d <;> simp [h0, h1]
theorem I9 (w : World) : (isAgg 37).run Tryz.prog w = .ok true w := by simp [isAgg, run_underlying Tryz.underlying37]
theorem JS (w : World) : (sizeOf 37).run Tryz.prog w = .ok 2 w := by
 have h : (Tryz.prog.info? 37).map (·.size) = some 2 := by kernel_rfl
 obtain ⟨ti, h1, h2⟩ := Option.map_eq_some_iff.1 h
 simp [sizeOf, typeInfo, h1, h2]
theorem QM (a0 a1 a2 b0 b1 b2 : Int) (w : World) : (Op.equal 39 (.agg #[.int .i64 a0, .int .i64 a1, .int .i64 a2]) (.agg #[.int .i64 b0, .int .i64 b1, .int .i64 b2])).run Tryz.prog w = .ok (decide (a0 = b0) && (decide (a1 = b1) && decide (a2 = b2))) w := by
 have hs : Tryz.prog.stoodInHeld 39 = false := by kernel_rfl
 have e3 : ∀ (x y : Int) (w : World), (Op.equalIn 9999 3 (.int .i64 x) (.int .i64 y)).run Tryz.prog w = .ok (decide (x = y)) w := fun x y w => nx 9998 Tryz.underlying3
 have g3 : ∀ w, (isAgg 3).run Tryz.prog w = .ok false w := fun w => by simp [isAgg, run_underlying Tryz.underlying3]
 unfold Op.equal Op.maxDepth
 rw [Op.equalIn]
 simp only [Sem.run_bind, run_underlying Tryz.underlying39, Result.andThen_ok]
 simp [hs, part, g3, e3, I9, JS, Ob]
 by_cases h0 : a0 = b0
 case neg => simp [h0]
 cases hq : (decide (a1 = b1) && decide (a2 = b2)) <;> simp_all
theorem QI (a0 a1 a2 b0 b1 b2 : Int) : Kp Tryz.prog 39 [Ty.int .i64 a0, Ty.int .i64 a1, Ty.int .i64 a2] [Ty.int .i64 b0, Ty.int .i64 b1, Ty.int .i64 b2] (decide (a0 = b0) && (decide (a1 = b1) && decide (a2 = b2))) :=
  ⟨by kernel_rfl, fun w M cs ds h1 h2 => by
    obtain ⟨cs⟩ := cs
    obtain ⟨ds⟩ := ds
    match cs, ds, h1, h2 with
    | [u0, u1, u2], [v0, v1, v2], h1, h2 =>
      simp only [cF, Ty.int, gP, and_true] at h1 h2
      obtain ⟨rfl, rfl, rfl⟩ := h1
      obtain ⟨rfl, rfl, rfl⟩ := h2
      exact QM _ _ _ _ _ _ w⟩
theorem Pn (a0 a1 a2 a3 a4 b0 b1 b2 b3 b4 : Int) (w : World) : (Op.equal 41 (.agg #[.int .i64 a0, .int .i64 a1, .int .i64 a2, .int .i64 a3, .int .i64 a4]) (.agg #[.int .i64 b0, .int .i64 b1, .int .i64 b2, .int .i64 b3, .int .i64 b4])).run Tryz.prog w = .ok (decide (a0 = b0) && (decide (a1 = b1) && (decide (a2 = b2) && (decide (a3 = b3) && decide (a4 = b4))))) w := by
 have hs : Tryz.prog.stoodInHeld 41 = false := by kernel_rfl
 have e3 : ∀ (x y : Int) (w : World), (Op.equalIn 9999 3 (.int .i64 x) (.int .i64 y)).run Tryz.prog w = .ok (decide (x = y)) w := fun x y w => nx 9998 Tryz.underlying3
 have g3 : ∀ w, (isAgg 3).run Tryz.prog w = .ok false w := fun w => by simp [isAgg, run_underlying Tryz.underlying3]
 unfold Op.equal Op.maxDepth
 rw [Op.equalIn]
 simp only [Sem.run_bind, run_underlying Tryz.underlying41, Result.andThen_ok]
 simp [hs, part, g3, e3, I9, JS, Ob]
 by_cases h0 : a0 = b0
 case neg => simp [h0]
 by_cases h1 : a1 = b1
 case neg => simp [h1]
 by_cases h2 : a2 = b2
 case neg => simp [h2]
 cases hq : (decide (a3 = b3) && decide (a4 = b4)) <;> simp_all
theorem P5 (a0 a1 a2 a3 a4 b0 b1 b2 b3 b4 : Int) : Kp Tryz.prog 41 [Ty.int .i64 a0, Ty.int .i64 a1, Ty.int .i64 a2, Ty.int .i64 a3, Ty.int .i64 a4] [Ty.int .i64 b0, Ty.int .i64 b1, Ty.int .i64 b2, Ty.int .i64 b3, Ty.int .i64 b4] (decide (a0 = b0) && (decide (a1 = b1) && (decide (a2 = b2) && (decide (a3 = b3) && decide (a4 = b4))))) :=
  ⟨by kernel_rfl, fun w M cs ds h1 h2 => by
    obtain ⟨cs⟩ := cs
    obtain ⟨ds⟩ := ds
    match cs, ds, h1, h2 with
    | [u0, u1, u2, u3, u4], [v0, v1, v2, v3, v4], h1, h2 =>
      simp only [cF, Ty.int, gP, and_true] at h1 h2
      obtain ⟨rfl, rfl, rfl, rfl, rfl⟩ := h1
      obtain ⟨rfl, rfl, rfl, rfl, rfl⟩ := h2
      exact Pn _ _ _ _ _ _ _ _ _ _ w⟩
theorem PO (a0 a1 a2 a3 b0 b1 b2 b3 : Int) (w : World) : (Op.equal 102 (.agg #[.int .i64 a0, .int .i64 a1, .int .i64 a2, .int .i64 a3]) (.agg #[.int .i64 b0, .int .i64 b1, .int .i64 b2, .int .i64 b3])).run Tryz.prog w = .ok (decide (a0 = b0) && (decide (a1 = b1) && (decide (a2 = b2) && decide (a3 = b3)))) w := by
 have hs : Tryz.prog.stoodInHeld 102 = false := by kernel_rfl
 have e3 : ∀ (x y : Int) (w : World), (Op.equalIn 9999 3 (.int .i64 x) (.int .i64 y)).run Tryz.prog w = .ok (decide (x = y)) w := fun x y w => nx 9998 Tryz.underlying3
 have g3 : ∀ w, (isAgg 3).run Tryz.prog w = .ok false w := fun w => by simp [isAgg, run_underlying Tryz.underlying3]
 unfold Op.equal Op.maxDepth
 rw [Op.equalIn]
 simp only [Sem.run_bind, run_underlying Tryz.underlying102, Result.andThen_ok]
 simp [hs, part, g3, e3, I9, JS, Ob]
 by_cases h0 : a0 = b0
 case neg => simp [h0]
 by_cases h1 : a1 = b1
 case neg => simp [h1]
 cases hq : (decide (a2 = b2) && decide (a3 = b3)) <;> simp_all
theorem Ou (a0 a1 a2 a3 b0 b1 b2 b3 : Int) : Kp Tryz.prog 102 [Ty.int .i64 a0, Ty.int .i64 a1, Ty.int .i64 a2, Ty.int .i64 a3] [Ty.int .i64 b0, Ty.int .i64 b1, Ty.int .i64 b2, Ty.int .i64 b3] (decide (a0 = b0) && (decide (a1 = b1) && (decide (a2 = b2) && decide (a3 = b3)))) :=
  ⟨by kernel_rfl, fun w M cs ds h1 h2 => by
    obtain ⟨cs⟩ := cs
    obtain ⟨ds⟩ := ds
    match cs, ds, h1, h2 with
    | [u0, u1, u2, u3], [v0, v1, v2, v3], h1, h2 =>
      simp only [cF, Ty.int, gP, and_true] at h1 h2
      obtain ⟨rfl, rfl, rfl, rfl⟩ := h1
      obtain ⟨rfl, rfl, rfl, rfl⟩ := h2
      exact PO _ _ _ _ _ _ _ _ w⟩
theorem wj (a b : Span) : (decide (a.lo = b.lo) && decide (a.hi = b.hi)) = decide (a = b) := by
 cases a; cases b; rw [Bool.eq_iff_iff]; simp
theorem K9 (a b : tR) : (decide (a.holds = b.holds) && (decide (a.first.lo = b.first.lo) && decide (a.first.hi = b.first.hi))) = decide (a = b) := by
 rw [wj]; cases a; cases b; rw [Bool.eq_iff_iff]; simp
theorem JG (a b : Move) : (decide (a.day = b.day) && (decide (a.src = b.src) && (decide (a.dst = b.dst) && (decide (a.sacks.lo = b.sacks.lo) && decide (a.sacks.hi = b.sacks.hi))))) = decide (a = b) := by
 rw [wj]; cases a; cases b; rw [Bool.eq_iff_iff]; simp
theorem LL (a b : Level) : (decide (a.day = b.day) && (decide (a.bin = b.bin) && (decide (a.sacks.lo = b.sacks.lo) && decide (a.sacks.hi = b.sacks.hi)))) = decide (a = b) := by
 rw [wj]; cases a; cases b; rw [Bool.eq_iff_iff]; simp
end Go.Proofs.YtelbollidfdcjaaGreat
namespace Go.Proofs.YtelbollidfdcjaaGreat
open Go Go.T
set_option maxHeartbeats 2000000
attribute [local irreducible] gP e9 mA oA iG iE iK g9 iL oc iA oM dV fo n6 gC oW nth fS dY ay dP bodyPost Exit.then Exit.inBlock Code.wp Code.wpIn n7 hU oX oR iB eW cM cN bodyPostM dX
set_option maxRecDepth 100000 in
theorem zH (l : List Int) (h : l.length ≤ 1000) : dP Tryz.prog 39 [Ty.sl cz l] (Ty.sl cz l) := by
 refine ak Tryz.func39 rfl (by decide) Tryz.ntmps39 (by exact Nat.le_of_ble_eq_true rfl) fun w0 M0 => ?_
 refine aE (aA (mB rfl (aD (aC (aE (aA (fT rfl (b9 rfl rfl rfl ?_))))))))
 refine wD (E := cz) rfl rfl rfl rfl rfl rfl rfl (by decide) rfl (by omega) (by (dsimp only; omega)) (by omega) ?_
 refine fT rfl ?_
 refine dy rfl rfl (by decide) rfl rfl rfl rfl rfl rfl (by decide) (by (simp <;> omega)) (by (simp <;> omega)) ?_
 refine A2 rfl (aD (aC (az (bU rfl rfl ?_))))
 all_goals exact qi (by decide)
set_option maxRecDepth 100000 in
theorem Dh (a b : List Int) : dP Tryz.prog 116 [Ty.sl cz a, Ty.sl cz b] (Ty.bool (decide (a = b))) := by
 refine ak Tryz.func116 rfl (by decide) Tryz.ntmps116 (by exact Nat.le_of_ble_eq_true rfl) fun w0 M0 => ?_
 refine hO (s := 0) rfl rfl iI fun ha => ?_
 refine hO (s := 1) rfl rfl iI fun hb => ?_
 refine aE (aA (dK rfl (aD (aC (aE (aE (aA (fT rfl (b9 rfl rfl rfl ?_)))))))))
 refine fT rfl (b9 rfl rfl rfl (bB rfl rfl rfl (aD (aC ?_))))
 refine dJ rfl (fun hc1 => ?_) (fun hc1 => ?_)
 ·
  try (simp only [Classical.not_not] at hc1)
  refine aE (aA (dK rfl (aD (aC (az (aS (bU rfl rfl ?_)))))))
  all_goals skip
  exact av rfl rfl (congrArg Ty.bool (by rw [eq_comm, decide_eq_false_iff_not]; intro e; subst e; exact hc1 rfl))
 try (simp only [Classical.not_not] at hc1)
 refine af (aC (aE (aE (aA (fT rfl (b9 rfl rfl rfl (bG rfl (aD (aC ?_)))))))))
 refine aa ?_
 refine cG (fun (k : {k : Nat // a.take k = b.take k}) => live [(0, Ty.sl cz a), (1, Ty.sl cz b), (12, Ty.int .i64 a.length), (13, Ty.int .i64 (k.1 : Nat))] []) (fun k => a.length - k.1) (⟨0, by simp⟩) ?_ fun k => ?_
 ·(refine cg.mk' ?_ ?_ <;> (repeat' (first | exact aL | exact aK | refine aB ?_ (Ty.aT _) | refine aB ?_ (Ty.aF _))))
 have hlen : a.length = b.length := by omega
 refine aE (aA (bB rfl rfl rfl (aD (aC (aE ?_)))))
 refine aq rfl (fun hc2 => ?_) (fun hc2 => ?_)
 ·
  try (simp only [Classical.not_not] at hc2)
  refine af (aC (aE (aa (aE (aA (bG rfl (bu rfl (aD (aC ?_)))))))))
  refine aE (cL mixed rfl (fT rfl (bG rfl ?_)))
  refine au rfl rfl rfl rfl rfl rfl (by omega) ?_
  refine aJ rfl rfl rfl rfl (fT rfl (bG rfl ?_))
  refine au rfl rfl rfl rfl rfl rfl (by omega) ?_
  refine aJ rfl rfl rfl rfl (bB rfl rfl rfl (aD ?_))
  refine ⟨by kernel_rfl, ?_⟩
  refine aC ?_
  refine dJ rfl (fun hc3 => ?_) (fun hc3 => ?_)
  ·
   try (simp only [Classical.not_not] at hc3)
   refine aE (aA (dK rfl (aD (aC (az (bC (aS (aS (bC ?_)))))))))
   refine aS (bU rfl rfl ?_)
   all_goals skip
   exact av rfl rfl (congrArg Ty.bool (by rw [eq_comm, decide_eq_false_iff_not]; exact nX (k := k.1) (hc3)))
  try (simp only [Classical.not_not] at hc3)
  refine af (bM (aC (aA ?_)))
  refine cB rfl rfl (by omega) (by omega) ?_
  refine bG rfl (aD ?_)
  refine bR (⟨k.1 + 1, by rw [cV (by omega), cV (by omega), k.2, hc3]⟩) ?_ (by show a.length - (k.1 + 1) < a.length - k.1; omega)
  (refine cg.mk' ?_ ?_ <;> (repeat' (first | exact aL | exact aK | refine aB ?_ (Ty.aT _) | refine aB ?_ (Ty.aF _))))
  all_goals skip
 try (simp only [Classical.not_not] at hc2)
 refine cH (aP (aP (ah rfl (aC (aE (aA (dK rfl (aD (aC ?_)))))))))
 refine az (bU rfl rfl ?_)
 all_goals skip
 exact av rfl rfl (congrArg Ty.bool (by rw [eq_comm, decide_eq_true_eq]; have := k.2; rwa [List.take_of_length_le (by omega), List.take_of_length_le (by omega)] at this))
set_option maxRecDepth 100000 in
theorem DS (a b : List Int) : dP Tryz.prog 46 [Ty.sl cz a, Ty.sl cz b] (Ty.bool (decide (a = b))) := by
 refine ak Tryz.func46 rfl (by decide) Tryz.ntmps46 (by exact Nat.le_of_ble_eq_true rfl) fun w0 M0 => ?_
 refine aE (aA (dK rfl (aD (aC (aE (aA (fT rfl (fT rfl (aZ (Dh _ _) rfl rfl rfl rfl rfl ?_)))))))))
 refine dK rfl (aD (aC (az (bU rfl rfl ?_))))
 all_goals exact cE rfl rfl
set_option maxRecDepth 100000 in
theorem CG (a b : List Span) : dP Tryz.prog 123 [Ty.sl bX a, Ty.sl bX b] (Ty.bool (decide (a = b))) := by
 refine ak Tryz.func123 rfl (by decide) Tryz.ntmps123 (by exact Nat.le_of_ble_eq_true rfl) fun w0 M0 => ?_
 refine hO (s := 0) rfl rfl iI fun ha => ?_
 refine hO (s := 1) rfl rfl iI fun hb => ?_
 refine aE (aA (dK rfl (aD (aC (aE (aE (aA (fT rfl (b9 rfl rfl rfl ?_)))))))))
 refine fT rfl (b9 rfl rfl rfl (bB rfl rfl rfl (aD (aC ?_))))
 refine dJ rfl (fun hc1 => ?_) (fun hc1 => ?_)
 ·
  try (simp only [Classical.not_not] at hc1)
  refine aE (aA (dK rfl (aD (aC (az (aS (bU rfl rfl ?_)))))))
  all_goals skip
  exact av rfl rfl (congrArg Ty.bool (by rw [eq_comm, decide_eq_false_iff_not]; intro e; subst e; exact hc1 rfl))
 try (simp only [Classical.not_not] at hc1)
 refine af (aC (aE (aE (aA (fT rfl (b9 rfl rfl rfl (bG rfl (aD (aC ?_)))))))))
 refine aa ?_
 refine cG (fun (k : {k : Nat // a.take k = b.take k}) => live [(0, Ty.sl bX a), (1, Ty.sl bX b), (12, Ty.int .i64 a.length), (13, Ty.int .i64 (k.1 : Nat))] []) (fun k => a.length - k.1) (⟨0, by simp⟩) ?_ fun k => ?_
 ·(refine cg.mk' ?_ ?_ <;> (repeat' (first | exact aL | exact aK | refine aB ?_ (Ty.aT _) | refine aB ?_ (Ty.aF _))))
 have hlen : a.length = b.length := by omega
 refine aE (aA (bB rfl rfl rfl (aD (aC (aE ?_)))))
 refine aq rfl (fun hc2 => ?_) (fun hc2 => ?_)
 ·
  try (simp only [Classical.not_not] at hc2)
  refine af (aC (aE (aa (aE (aA (bG rfl (bu rfl (aD (aC ?_)))))))))
  refine aE (cL mixed rfl (fT rfl (bG rfl ?_)))
  refine au rfl rfl rfl rfl rfl rfl (by omega) ?_
  refine aX rfl rfl rfl (by exact Nat.le_of_ble_eq_true rfl) ?_
  refine fT rfl (bG rfl ?_)
  refine au rfl rfl rfl rfl rfl rfl (by omega) ?_
  refine aX rfl rfl rfl (by exact Nat.le_of_ble_eq_true rfl) ?_
  refine qY (Lp _ _ _ _) rfl rfl (aD ?_)
  refine ⟨by kernel_rfl, ?_⟩
  refine aC ?_
  refine cC rfl (fun hc3 => ?_) (fun hc3 => ?_)
  ·
   try (simp only [Classical.not_not] at hc3)
   refine aE (aA (dK rfl (aD (aC (az (bC (aS (aS (bC ?_)))))))))
   refine aS (bU rfl rfl ?_)
   all_goals skip
   exact av rfl rfl (congrArg Ty.bool (by rw [eq_comm, decide_eq_false_iff_not]; exact nX (k := k.1) (of_decide_eq_false (by rw [← wj]; exact nK hc3))))
  try (simp only [Classical.not_not] at hc3)
  refine af (bM (aC (aA ?_)))
  refine cB rfl rfl (by omega) (by omega) ?_
  refine bG rfl (aD ?_)
  refine bR (⟨k.1 + 1, by have e : nth a k.1 = nth b k.1 := of_decide_eq_true (by rw [← wj]; exact eZ hc3); rw [cV (by omega), cV (by omega), k.2, e]⟩) ?_ (by show a.length - (k.1 + 1) < a.length - k.1; omega)
  (refine cg.mk' ?_ ?_ <;> (repeat' (first | exact aL | exact aK | refine aB ?_ (Ty.aT _) | refine aB ?_ (Ty.aF _))))
  all_goals skip
 try (simp only [Classical.not_not] at hc2)
 refine cH (aP (aP (ah rfl (aC (aE (aA (dK rfl (aD (aC ?_)))))))))
 refine az (bU rfl rfl ?_)
 all_goals skip
 exact av rfl rfl (congrArg Ty.bool (by rw [eq_comm, decide_eq_true_eq]; have := k.2; rwa [List.take_of_length_le (by omega), List.take_of_length_le (by omega)] at this))
set_option maxRecDepth 100000 in
theorem tD (a b : List Span) : dP Tryz.prog 50 [Ty.sl bX a, Ty.sl bX b] (Ty.bool (decide (a = b))) := by
 refine ak Tryz.func50 rfl (by decide) Tryz.ntmps50 (by exact Nat.le_of_ble_eq_true rfl) fun w0 M0 => ?_
 refine aE (aA (dK rfl (aD (aC (aE (aA (fT rfl (fT rfl (aZ (CG _ _) rfl rfl rfl rfl rfl ?_)))))))))
 refine dK rfl (aD (aC (az (bU rfl rfl ?_))))
 all_goals exact cE rfl rfl
set_option maxRecDepth 100000 in
theorem IG (l : List tR) (h : l.length ≤ 1000) : dP Tryz.prog 19 [Ty.sl fL l] (Ty.sl fL l) := by
 refine ak Tryz.func19 rfl (by decide) Tryz.ntmps19 (by exact Nat.le_of_ble_eq_true rfl) fun w0 M0 => ?_
 refine aE (aA (mB rfl (aD (aC (aE (aA (fT rfl (b9 rfl rfl rfl ?_))))))))
 refine wD (E := fL) rfl rfl rfl rfl rfl rfl rfl (by decide) rfl (by omega) (by (dsimp only; omega)) (by omega) ?_
 refine fT rfl ?_
 refine dy rfl rfl (by decide) rfl rfl rfl rfl rfl rfl (by decide) (by (simp <;> omega)) (by (simp <;> omega)) ?_
 refine A2 rfl (aD (aC (az (bU rfl rfl ?_))))
 all_goals exact qi (by decide)
set_option maxRecDepth 100000 in
theorem CY (a b : List tR) : dP Tryz.prog 167 [Ty.sl fL a, Ty.sl fL b] (Ty.bool (decide (a = b))) := by
 refine ak Tryz.func167 rfl (by decide) Tryz.ntmps167 (by exact Nat.le_of_ble_eq_true rfl) fun w0 M0 => ?_
 refine hO (s := 0) rfl rfl iI fun ha => ?_
 refine hO (s := 1) rfl rfl iI fun hb => ?_
 refine aE (aA (dK rfl (aD (aC (aE (aE (aA (fT rfl (b9 rfl rfl rfl ?_)))))))))
 refine fT rfl (b9 rfl rfl rfl (bB rfl rfl rfl (aD (aC ?_))))
 refine dJ rfl (fun hc1 => ?_) (fun hc1 => ?_)
 ·
  try (simp only [Classical.not_not] at hc1)
  refine aE (aA (dK rfl (aD (aC (az (aS (bU rfl rfl ?_)))))))
  all_goals skip
  exact av rfl rfl (congrArg Ty.bool (by rw [eq_comm, decide_eq_false_iff_not]; intro e; subst e; exact hc1 rfl))
 try (simp only [Classical.not_not] at hc1)
 refine af (aC (aE (aE (aA (fT rfl (b9 rfl rfl rfl (bG rfl (aD (aC ?_)))))))))
 refine aa ?_
 refine cG (fun (k : {k : Nat // a.take k = b.take k}) => live [(0, Ty.sl fL a), (1, Ty.sl fL b), (12, Ty.int .i64 a.length), (13, Ty.int .i64 (k.1 : Nat))] []) (fun k => a.length - k.1) (⟨0, by simp⟩) ?_ fun k => ?_
 ·(refine cg.mk' ?_ ?_ <;> (repeat' (first | exact aL | exact aK | refine aB ?_ (Ty.aT _) | refine aB ?_ (Ty.aF _))))
 have hlen : a.length = b.length := by omega
 refine aE (aA (bB rfl rfl rfl (aD (aC (aE ?_)))))
 refine aq rfl (fun hc2 => ?_) (fun hc2 => ?_)
 ·
  try (simp only [Classical.not_not] at hc2)
  refine af (aC (aE (aa (aE (aA (bG rfl (bu rfl (aD (aC ?_)))))))))
  refine aE (cL mixed rfl (fT rfl (bG rfl ?_)))
  refine au rfl rfl rfl rfl rfl rfl (by omega) ?_
  refine aX rfl rfl rfl (by exact Nat.le_of_ble_eq_true rfl) ?_
  refine fT rfl (bG rfl ?_)
  refine au rfl rfl rfl rfl rfl rfl (by omega) ?_
  refine aX rfl rfl rfl (by exact Nat.le_of_ble_eq_true rfl) ?_
  refine qY (QI _ _ _ _ _ _) rfl rfl (aD ?_)
  refine ⟨by kernel_rfl, ?_⟩
  refine aC ?_
  refine cC rfl (fun hc3 => ?_) (fun hc3 => ?_)
  ·
   try (simp only [Classical.not_not] at hc3)
   refine aE (aA (dK rfl (aD (aC (az (bC (aS (aS (bC ?_)))))))))
   refine aS (bU rfl rfl ?_)
   all_goals skip
   exact av rfl rfl (congrArg Ty.bool (by rw [eq_comm, decide_eq_false_iff_not]; exact nX (k := k.1) (of_decide_eq_false (by rw [← K9]; exact nK hc3))))
  try (simp only [Classical.not_not] at hc3)
  refine af (bM (aC (aA ?_)))
  refine cB rfl rfl (by omega) (by omega) ?_
  refine bG rfl (aD ?_)
  refine bR (⟨k.1 + 1, by have e : nth a k.1 = nth b k.1 := of_decide_eq_true (by rw [← K9]; exact eZ hc3); rw [cV (by omega), cV (by omega), k.2, e]⟩) ?_ (by show a.length - (k.1 + 1) < a.length - k.1; omega)
  (refine cg.mk' ?_ ?_ <;> (repeat' (first | exact aL | exact aK | refine aB ?_ (Ty.aT _) | refine aB ?_ (Ty.aF _))))
  all_goals skip
 try (simp only [Classical.not_not] at hc2)
 refine cH (aP (aP (ah rfl (aC (aE (aA (dK rfl (aD (aC ?_)))))))))
 refine az (bU rfl rfl ?_)
 all_goals skip
 exact av rfl rfl (congrArg Ty.bool (by rw [eq_comm, decide_eq_true_eq]; have := k.2; rwa [List.take_of_length_le (by omega), List.take_of_length_le (by omega)] at this))
set_option maxRecDepth 100000 in
theorem Jj (a b : List tR) : dP Tryz.prog 103 [Ty.sl fL a, Ty.sl fL b] (Ty.bool (decide (a = b))) := by
 refine ak Tryz.func103 rfl (by decide) Tryz.ntmps103 (by exact Nat.le_of_ble_eq_true rfl) fun w0 M0 => ?_
 refine aE (aA (dK rfl (aD (aC (aE (aA (fT rfl (fT rfl (aZ (CY _ _) rfl rfl rfl rfl rfl ?_)))))))))
 refine dK rfl (aD (aC (az (bU rfl rfl ?_))))
 all_goals exact cE rfl rfl
set_option maxRecDepth 100000 in
theorem HV (l : List Move) (h : l.length ≤ 1000) : dP Tryz.prog 95 [Ty.sl eS l] (Ty.sl eS l) := by
 refine ak Tryz.func95 rfl (by decide) Tryz.ntmps95 (by exact Nat.le_of_ble_eq_true rfl) fun w0 M0 => ?_
 refine aE (aA (mB rfl (aD (aC (aE (aA (fT rfl (b9 rfl rfl rfl ?_))))))))
 refine wD (E := eS) rfl rfl rfl rfl rfl rfl rfl (by decide) rfl (by omega) (by (dsimp only; omega)) (by omega) ?_
 refine fT rfl ?_
 refine dy rfl rfl (by decide) rfl rfl rfl rfl rfl rfl (by decide) (by (simp <;> omega)) (by (simp <;> omega)) ?_
 refine A2 rfl (aD (aC (az (bU rfl rfl ?_))))
 all_goals exact qi (by decide)
set_option maxRecDepth 100000 in
theorem Bp (a b : List Move) : dP Tryz.prog 168 [Ty.sl eS a, Ty.sl eS b] (Ty.bool (decide (a = b))) := by
 refine ak Tryz.func168 rfl (by decide) Tryz.ntmps168 (by exact Nat.le_of_ble_eq_true rfl) fun w0 M0 => ?_
 refine hO (s := 0) rfl rfl iI fun ha => ?_
 refine hO (s := 1) rfl rfl iI fun hb => ?_
 refine aE (aA (dK rfl (aD (aC (aE (aE (aA (fT rfl (b9 rfl rfl rfl ?_)))))))))
 refine fT rfl (b9 rfl rfl rfl (bB rfl rfl rfl (aD (aC ?_))))
 refine dJ rfl (fun hc1 => ?_) (fun hc1 => ?_)
 ·
  try (simp only [Classical.not_not] at hc1)
  refine aE (aA (dK rfl (aD (aC (az (aS (bU rfl rfl ?_)))))))
  all_goals skip
  exact av rfl rfl (congrArg Ty.bool (by rw [eq_comm, decide_eq_false_iff_not]; intro e; subst e; exact hc1 rfl))
 try (simp only [Classical.not_not] at hc1)
 refine af (aC (aE (aE (aA (fT rfl (b9 rfl rfl rfl (bG rfl (aD (aC ?_)))))))))
 refine aa ?_
 refine cG (fun (k : {k : Nat // a.take k = b.take k}) => live [(0, Ty.sl eS a), (1, Ty.sl eS b), (12, Ty.int .i64 a.length), (13, Ty.int .i64 (k.1 : Nat))] []) (fun k => a.length - k.1) (⟨0, by simp⟩) ?_ fun k => ?_
 ·(refine cg.mk' ?_ ?_ <;> (repeat' (first | exact aL | exact aK | refine aB ?_ (Ty.aT _) | refine aB ?_ (Ty.aF _))))
 have hlen : a.length = b.length := by omega
 refine aE (aA (bB rfl rfl rfl (aD (aC (aE ?_)))))
 refine aq rfl (fun hc2 => ?_) (fun hc2 => ?_)
 ·
  try (simp only [Classical.not_not] at hc2)
  refine af (aC (aE (aa (aE (aA (bG rfl (bu rfl (aD (aC ?_)))))))))
  refine aE (cL mixed rfl (fT rfl (bG rfl ?_)))
  refine au rfl rfl rfl rfl rfl rfl (by omega) ?_
  refine aX rfl rfl rfl (by exact Nat.le_of_ble_eq_true rfl) ?_
  refine fT rfl (bG rfl ?_)
  refine au rfl rfl rfl rfl rfl rfl (by omega) ?_
  refine aX rfl rfl rfl (by exact Nat.le_of_ble_eq_true rfl) ?_
  refine qY (P5 _ _ _ _ _ _ _ _ _ _) rfl rfl (aD ?_)
  refine ⟨by kernel_rfl, ?_⟩
  refine aC ?_
  refine cC rfl (fun hc3 => ?_) (fun hc3 => ?_)
  ·
   try (simp only [Classical.not_not] at hc3)
   refine aE (aA (dK rfl (aD (aC (az (bC (aS (aS (bC ?_)))))))))
   refine aS (bU rfl rfl ?_)
   all_goals skip
   exact av rfl rfl (congrArg Ty.bool (by rw [eq_comm, decide_eq_false_iff_not]; exact nX (k := k.1) (of_decide_eq_false (by rw [← JG]; exact nK hc3))))
  try (simp only [Classical.not_not] at hc3)
  refine af (bM (aC (aA ?_)))
  refine cB rfl rfl (by omega) (by omega) ?_
  refine bG rfl (aD ?_)
  refine bR (⟨k.1 + 1, by have e : nth a k.1 = nth b k.1 := of_decide_eq_true (by rw [← JG]; exact eZ hc3); rw [cV (by omega), cV (by omega), k.2, e]⟩) ?_ (by show a.length - (k.1 + 1) < a.length - k.1; omega)
  (refine cg.mk' ?_ ?_ <;> (repeat' (first | exact aL | exact aK | refine aB ?_ (Ty.aT _) | refine aB ?_ (Ty.aF _))))
  all_goals skip
 try (simp only [Classical.not_not] at hc2)
 refine cH (aP (aP (ah rfl (aC (aE (aA (dK rfl (aD (aC ?_)))))))))
 refine az (bU rfl rfl ?_)
 all_goals skip
 exact av rfl rfl (congrArg Ty.bool (by rw [eq_comm, decide_eq_true_eq]; have := k.2; rwa [List.take_of_length_le (by omega), List.take_of_length_le (by omega)] at this))
set_option maxRecDepth 100000 in
theorem Ld (a b : List Move) : dP Tryz.prog 104 [Ty.sl eS a, Ty.sl eS b] (Ty.bool (decide (a = b))) := by
 refine ak Tryz.func104 rfl (by decide) Tryz.ntmps104 (by exact Nat.le_of_ble_eq_true rfl) fun w0 M0 => ?_
 refine aE (aA (dK rfl (aD (aC (aE (aA (fT rfl (fT rfl (aZ (Bp _ _) rfl rfl rfl rfl rfl ?_)))))))))
 refine dK rfl (aD (aC (az (bU rfl rfl ?_))))
 all_goals exact cE rfl rfl
set_option maxRecDepth 100000 in
theorem Gp (l : List Level) (h : l.length ≤ 1000) : dP Tryz.prog 96 [Ty.sl dg l] (Ty.sl dg l) := by
 refine ak Tryz.func96 rfl (by decide) Tryz.ntmps96 (by exact Nat.le_of_ble_eq_true rfl) fun w0 M0 => ?_
 refine aE (aA (mB rfl (aD (aC (aE (aA (fT rfl (b9 rfl rfl rfl ?_))))))))
 refine wD (E := dg) rfl rfl rfl rfl rfl rfl rfl (by decide) rfl (by omega) (by (dsimp only; omega)) (by omega) ?_
 refine fT rfl ?_
 refine dy rfl rfl (by decide) rfl rfl rfl rfl rfl rfl (by decide) (by (simp <;> omega)) (by (simp <;> omega)) ?_
 refine A2 rfl (aD (aC (az (bU rfl rfl ?_))))
 all_goals exact qi (by decide)
set_option maxRecDepth 100000 in
theorem CQ (a b : List Level) : dP Tryz.prog 169 [Ty.sl dg a, Ty.sl dg b] (Ty.bool (decide (a = b))) := by
 refine ak Tryz.func169 rfl (by decide) Tryz.ntmps169 (by exact Nat.le_of_ble_eq_true rfl) fun w0 M0 => ?_
 refine hO (s := 0) rfl rfl iI fun ha => ?_
 refine hO (s := 1) rfl rfl iI fun hb => ?_
 refine aE (aA (dK rfl (aD (aC (aE (aE (aA (fT rfl (b9 rfl rfl rfl ?_)))))))))
 refine fT rfl (b9 rfl rfl rfl (bB rfl rfl rfl (aD (aC ?_))))
 refine dJ rfl (fun hc1 => ?_) (fun hc1 => ?_)
 ·
  try (simp only [Classical.not_not] at hc1)
  refine aE (aA (dK rfl (aD (aC (az (aS (bU rfl rfl ?_)))))))
  all_goals skip
  exact av rfl rfl (congrArg Ty.bool (by rw [eq_comm, decide_eq_false_iff_not]; intro e; subst e; exact hc1 rfl))
 try (simp only [Classical.not_not] at hc1)
 refine af (aC (aE (aE (aA (fT rfl (b9 rfl rfl rfl (bG rfl (aD (aC ?_)))))))))
 refine aa ?_
 refine cG (fun (k : {k : Nat // a.take k = b.take k}) => live [(0, Ty.sl dg a), (1, Ty.sl dg b), (12, Ty.int .i64 a.length), (13, Ty.int .i64 (k.1 : Nat))] []) (fun k => a.length - k.1) (⟨0, by simp⟩) ?_ fun k => ?_
 ·(refine cg.mk' ?_ ?_ <;> (repeat' (first | exact aL | exact aK | refine aB ?_ (Ty.aT _) | refine aB ?_ (Ty.aF _))))
 have hlen : a.length = b.length := by omega
 refine aE (aA (bB rfl rfl rfl (aD (aC (aE ?_)))))
 refine aq rfl (fun hc2 => ?_) (fun hc2 => ?_)
 ·
  try (simp only [Classical.not_not] at hc2)
  refine af (aC (aE (aa (aE (aA (bG rfl (bu rfl (aD (aC ?_)))))))))
  refine aE (cL mixed rfl (fT rfl (bG rfl ?_)))
  refine au rfl rfl rfl rfl rfl rfl (by omega) ?_
  refine aX rfl rfl rfl (by exact Nat.le_of_ble_eq_true rfl) ?_
  refine fT rfl (bG rfl ?_)
  refine au rfl rfl rfl rfl rfl rfl (by omega) ?_
  refine aX rfl rfl rfl (by exact Nat.le_of_ble_eq_true rfl) ?_
  refine qY (Ou _ _ _ _ _ _ _ _) rfl rfl (aD ?_)
  refine ⟨by kernel_rfl, ?_⟩
  refine aC ?_
  refine cC rfl (fun hc3 => ?_) (fun hc3 => ?_)
  ·
   try (simp only [Classical.not_not] at hc3)
   refine aE (aA (dK rfl (aD (aC (az (bC (aS (aS (bC ?_)))))))))
   refine aS (bU rfl rfl ?_)
   all_goals skip
   exact av rfl rfl (congrArg Ty.bool (by rw [eq_comm, decide_eq_false_iff_not]; exact nX (k := k.1) (of_decide_eq_false (by rw [← LL]; exact nK hc3))))
  try (simp only [Classical.not_not] at hc3)
  refine af (bM (aC (aA ?_)))
  refine cB rfl rfl (by omega) (by omega) ?_
  refine bG rfl (aD ?_)
  refine bR (⟨k.1 + 1, by have e : nth a k.1 = nth b k.1 := of_decide_eq_true (by rw [← LL]; exact eZ hc3); rw [cV (by omega), cV (by omega), k.2, e]⟩) ?_ (by show a.length - (k.1 + 1) < a.length - k.1; omega)
  (refine cg.mk' ?_ ?_ <;> (repeat' (first | exact aL | exact aK | refine aB ?_ (Ty.aT _) | refine aB ?_ (Ty.aF _))))
  all_goals skip
 try (simp only [Classical.not_not] at hc2)
 refine cH (aP (aP (ah rfl (aC (aE (aA (dK rfl (aD (aC ?_)))))))))
 refine az (bU rfl rfl ?_)
 all_goals skip
 exact av rfl rfl (congrArg Ty.bool (by rw [eq_comm, decide_eq_true_eq]; have := k.2; rwa [List.take_of_length_le (by omega), List.take_of_length_le (by omega)] at this))
set_option maxRecDepth 100000 in
theorem LH (a b : List Level) : dP Tryz.prog 105 [Ty.sl dg a, Ty.sl dg b] (Ty.bool (decide (a = b))) := by
 refine ak Tryz.func105 rfl (by decide) Tryz.ntmps105 (by exact Nat.le_of_ble_eq_true rfl) fun w0 M0 => ?_
 refine aE (aA (dK rfl (aD (aC (aE (aA (fT rfl (fT rfl (aZ (CQ _ _) rfl rfl rfl rfl rfl ?_)))))))))
 refine dK rfl (aD (aC (az (bU rfl rfl ?_))))
 all_goals exact cE rfl rfl
end Go.Proofs.YtelbollidfdcjaaGreat
namespace Go.Proofs.YtelbollidfdcjaaGreat
open Go Go.T
set_option maxHeartbeats 4000000
def KG (a b : aj) : Bool := ((decide (a.days = b.days) && decide (a.bins = b.bins)) && decide (a.moves = b.moves)) && decide (a.levels = b.levels)
theorem EA (y : aj) : KG y y = true := by unfold KG; simp
def pJ (y : aj) : Bool := (decide ((y.bins.length : Int) > 8) || decide ((y.moves.length : Int) > 14)) || decide ((y.levels.length : Int) > 12)
theorem u9 {y : aj} (h : pJ y = false) : y.Small := by
 unfold pJ at h
 simp only [Bool.or_eq_false_iff, decide_eq_false_iff_not] at h
 exact ⟨by omega, by omega, by omega⟩
theorem jH {A : As} {α : Type} {E : El α} {T tg : Nat} {xs ys : List α} (h : xs = ys) : uy A tg (Ty.row E T tg xs) (Ty.sl E ys) := by subst h; exact Gk
theorem jo {k : Nat} (hk : k ≤ 2) : (two k).Small := ⟨by show 2 ≤ 1000; omega, by show 3 ≤ 1000; omega, by show (List.take k _).length ≤ 1000; rw [List.length_take]; show min k 2 ≤ 1000; omega⟩
attribute [local irreducible] fN fU kF bq iW gO oL lH uQ n5 nC lS nG lP gK bH
attribute [local irreducible] gP e9 mA oA iG iE iK g9 iL oc iA oM dV fo n6 gC oW nth fS dY ay dP bodyPost Exit.then Exit.inBlock Code.wp Code.wpIn n7 hU oX oR iB eW cM cN bodyPostM dX
set_option maxRecDepth 100000 in
theorem kj (a b : Int) : dP Tryz.prog 56 [Ty.int .i64 a, Ty.int .i64 b] (Ty.agg (bX.tys ⟨a, b⟩)) := by
 refine ak Tryz.func56 rfl (by decide) Tryz.ntmps56 (by exact Nat.le_of_ble_eq_true rfl) fun w0 M0 => ?_
 refine aE (aA ?_)
 refine bh rfl (by exact List.cons_ne_nil _ _) rfl ?_
 refine aD (aC (aE (aA (bG rfl (bG rfl ?_)))))
 refine c6 rfl rfl (by exact List.cons_ne_nil _ _) rfl (by repeat (first | exact (aV.nil : aV _ _ [] _) | (show aV _ _ ((_, _) :: _) _; apply aV.one; (· exact (rfl : _ = Ty.int _ _)); (· exact rfl)))) (by exact (rfl : _ = some [_, _])) ?_
 refine bO rfl rfl (by decide) rfl rfl rfl rfl rfl rfl ?_
 refine aD (aC (az ?_))
 refine jx rfl rfl rfl rfl (by decide) rfl rfl rfl ?_
 all_goals exact av rfl rfl rfl
set_option maxRecDepth 100000 in
theorem vK (k : Nat) (hk : k ≤ 2) : dP Tryz.prog 93 [Ty.int .i64 ((k : Nat) : Int)] (eB (two k)) := by
 refine ak Tryz.func93 rfl (by decide) Tryz.ntmps93 (by exact Nat.le_of_ble_eq_true rfl) fun w0 M0 => ?_
 refine aE (aA ?_)
 refine bh rfl (by exact List.cons_ne_nil _ _) rfl ?_
 refine aD (aC (aE (aA (aZ (kj _ _) rfl rfl rfl rfl rfl ?_))))
 refine c6 rfl rfl (by exact List.cons_ne_nil _ _) rfl (by repeat (first | exact (aV.nil : aV _ _ [] _) | (show aV _ _ ((_, _) :: _) _; apply aV.one; (· exact (rfl : _ = Ty.int _ _)); (· exact rfl)) | (show aV _ _ ((_, _) :: _) _; apply aV.agg; (· exact (rfl : _ = Ty.agg _))))) (by exact (rfl : _ = some [_, _, _, _])) ?_
 refine aZ (kj _ _) rfl rfl rfl rfl rfl ?_
 refine c6 rfl rfl (by exact List.cons_ne_nil _ _) rfl (by repeat (first | exact (aV.nil : aV _ _ [] _) | (show aV _ _ ((_, _) :: _) _; apply aV.one; (· exact (rfl : _ = Ty.int _ _)); (· exact rfl)) | (show aV _ _ ((_, _) :: _) _; apply aV.agg; (· exact (rfl : _ = Ty.agg _))))) (by exact (rfl : _ = some [_, _, _, _])) ?_
 refine bg (E := dg) (xs := [⟨2, 1, ⟨20, 25⟩⟩, ⟨2, 0, ⟨10, 24⟩⟩]) rfl rfl rfl rfl rfl (by decide) (by decide) (by repeat (first | exact (aV.nil : aV _ _ [] _) | (show aV _ _ ((_, _) :: _) _; apply aV.agg; (· exact (rfl : _ = Ty.agg _))))) (by exact rfl) rfl ?_
 refine Bh rfl (aD (aC (aE (cL mixed rfl (aZ (kj _ _) rfl rfl rfl rfl rfl ?_)))))
 refine c6 rfl rfl (by exact List.cons_ne_nil _ _) rfl (by repeat (first | exact (aV.nil : aV _ _ [] _) | (show aV _ _ ((_, _) :: _) _; apply aV.one; (· exact (rfl : _ = Ty.int _ _)); (· exact rfl)) | (show aV _ _ ((_, _) :: _) _; apply aV.agg; (· exact (rfl : _ = Ty.agg _))))) (by exact (rfl : _ = some [_, _, _])) ?_
 refine c6 rfl rfl (by exact List.cons_ne_nil _ _) rfl (by repeat (first | exact (aV.nil : aV _ _ [] _) | (show aV _ _ ((_, _) :: _) _; apply aV.one; (· exact (rfl : _ = Ty.int _ _)); (· exact rfl)))) (by exact (rfl : _ = some [_, _, _])) ?_
 refine bg (E := fL) (xs := [⟨100, ⟨20, 30⟩⟩, ⟨50, ⟨0, 0⟩⟩]) rfl rfl rfl rfl rfl (by decide) (by decide) (by repeat (first | exact (aV.nil : aV _ _ [] _) | (show aV _ _ ((_, _) :: _) _; apply aV.agg; (· exact (rfl : _ = Ty.agg _))))) (by exact rfl) rfl ?_
 refine aZ (kj _ _) rfl rfl rfl rfl rfl ?_
 refine c6 rfl rfl (by exact List.cons_ne_nil _ _) rfl (by repeat (first | exact (aV.nil : aV _ _ [] _) | (show aV _ _ ((_, _) :: _) _; apply aV.one; (· exact (rfl : _ = Ty.int _ _)); (· exact rfl)) | (show aV _ _ ((_, _) :: _) _; apply aV.agg; (· exact (rfl : _ = Ty.agg _))))) (by exact rfl) ?_
 refine aZ (kj _ _) rfl rfl rfl rfl rfl ?_
 refine c6 rfl rfl (by exact List.cons_ne_nil _ _) rfl (by repeat (first | exact (aV.nil : aV _ _ [] _) | (show aV _ _ ((_, _) :: _) _; apply aV.one; (· exact (rfl : _ = Ty.int _ _)); (· exact rfl)) | (show aV _ _ ((_, _) :: _) _; apply aV.agg; (· exact (rfl : _ = Ty.agg _))))) (by exact rfl) ?_
 refine aZ (kj _ _) rfl rfl rfl rfl rfl ?_
 refine c6 rfl rfl (by exact List.cons_ne_nil _ _) rfl (by repeat (first | exact (aV.nil : aV _ _ [] _) | (show aV _ _ ((_, _) :: _) _; apply aV.one; (· exact (rfl : _ = Ty.int _ _)); (· exact rfl)) | (show aV _ _ ((_, _) :: _) _; apply aV.agg; (· exact (rfl : _ = Ty.agg _))))) (by exact rfl) ?_
 refine bg (E := eS) (xs := [⟨0, -1, 0, ⟨40, 60⟩⟩, ⟨1, 0, 1, ⟨10, 40⟩⟩, ⟨1, 1, -1, ⟨5, 10⟩⟩]) rfl rfl rfl rfl rfl (by decide) (by decide) (by repeat (first | exact (aV.nil : aV _ _ [] _) | (show aV _ _ ((_, _) :: _) _; apply aV.agg; (· exact (rfl : _ = Ty.agg _))))) (by exact rfl) rfl ?_
 refine fT rfl (bG rfl (fT rfl (b9 rfl rfl rfl (I5 rfl rfl (DG rfl rfl ?_)))))
 refine KC (hi := k) rfl (show _ = Ty.int .i64 ((k : Nat) : Int) from congrArg (Ty.int .i64) (by show max 0 (min (k : Int) 2) = (k : Int); omega)) rfl rfl rfl rfl (by show k ≤ 2; exact hk) ?_
 refine c6 rfl rfl (by exact List.cons_ne_nil _ _) rfl (by repeat (first | exact (aV.nil : aV _ _ [] _) | (show aV _ _ ((_, _) :: _) _; apply aV.one; (· first | exact (rfl : _ = Ty.int _ _) | exact (rfl : _ = Ty.sl _ _)); (· exact rfl)))) (by exact (rfl : _ = some [_, _, _, _])) ?_
 refine bO rfl rfl (by decide) rfl rfl rfl rfl rfl rfl ?_
 refine aD ?_
 refine ⟨by kernel_rfl, ?_⟩
 refine aC (az ?_)
 refine jx rfl rfl rfl rfl (by decide) rfl rfl rfl ?_
 all_goals exact av rfl rfl rfl
set_option maxRecDepth 100000 in
theorem Pe (y : aj) (hs : y.Small) : dP Tryz.prog 29 [eB y] (eB y) := by
 refine ak Tryz.func29 rfl (by decide) Tryz.ntmps29 (by exact Nat.le_of_ble_eq_true rfl) fun w0 M0 => ?_
 have hs1 := hs.bins
 have hs2 := hs.moves
 have hs3 := hs.levels
 refine aE (aA (bF rfl ?_))
 refine bh rfl (by exact List.cons_ne_nil _ _) rfl ?_
 refine aD (aC (aE (cL mixed rfl ?_)))
 refine aI rfl rfl rfl rfl rfl (by decide) ?_
 refine aJ rfl rfl rfl rfl ?_
 refine aI rfl rfl rfl rfl rfl (by decide) ?_
 refine aJ rfl rfl rfl rfl (aZ (IG y.bins hs1) rfl rfl rfl rfl rfl ?_)
 refine aI rfl rfl rfl rfl rfl (by decide) ?_
 refine aJ rfl rfl rfl rfl (aZ (HV y.moves hs2) rfl rfl rfl rfl rfl ?_)
 refine aI rfl rfl rfl rfl rfl (by decide) ?_
 refine aJ rfl rfl rfl rfl (aZ (Gp y.levels hs3) rfl rfl rfl rfl rfl ?_)
 refine c6 rfl rfl (by exact List.cons_ne_nil _ _) rfl (by repeat (first | exact (aV.nil : aV _ _ [] _) | (show aV _ _ ((_, _) :: _) _; apply aV.one; (· first | exact (rfl : _ = Ty.int _ _) | exact (rfl : _ = Ty.sl _ _)); (· exact rfl)))) (by exact (rfl : _ = some [_, _, _, _])) ?_
 refine bO rfl rfl (by decide) rfl rfl rfl rfl rfl rfl ?_
 refine aD ?_
 refine ⟨by kernel_rfl, ?_⟩
 refine aC (az ?_)
 refine jx rfl rfl rfl rfl (by decide) rfl rfl rfl ?_
 all_goals exact av rfl rfl rfl
set_option maxRecDepth 100000 in
theorem OZ (a b : aj) : dP Tryz.prog 35 [eB a, eB b] (Ty.bool (KG a b)) := by
 refine ak Tryz.func35 rfl (by decide) Tryz.ntmps35 (by exact Nat.le_of_ble_eq_true rfl) fun w0 M0 => ?_
 refine aE (aA (bF rfl (bF rfl (dK rfl (aD (aC (aE (aA ?_))))))))
 refine aI rfl rfl rfl rfl rfl (by decide) ?_
 refine aJ rfl rfl rfl rfl ?_
 refine aI rfl rfl rfl rfl rfl (by decide) ?_
 refine aJ rfl rfl rfl rfl (bB rfl rfl rfl (eY rfl ?_))
 apply aM (s := 10) rfl rfl rfl
 ·intro hg; apply aO; (refine aI rfl rfl rfl rfl rfl (by decide) ?_); refine aD ?_; exact rfl
 ·exact rfl
 ·exact rfl
 apply aM (s := 10) rfl rfl rfl
 ·intro hg; apply aH (s := 11) rfl (by (rw [hg]; rfl)); apply aO; (refine aJ rfl rfl rfl rfl ?_); refine aD ?_; exact rfl
 ·exact rfl
 ·exact rfl
 apply aM (s := 10) rfl rfl rfl
 ·intro hg; apply aO; (refine aI rfl rfl rfl rfl rfl (by decide) ?_); refine aD ?_; exact rfl
 ·exact rfl
 ·exact rfl
 apply aM (s := 10) rfl rfl rfl
 ·intro hg; apply aH (s := 13) rfl (by (rw [hg]; rfl)); apply aO; (refine aJ rfl rfl rfl rfl ?_); refine aD ?_; exact rfl
 ·exact rfl
 ·exact rfl
 apply aM (s := 10) rfl rfl rfl
 ·intro hg; apply aH (s := 12) rfl (by (rw [hg]; rfl)); apply aH (s := 14) rfl (by (rw [hg]; rfl)); apply aO; (refine aZ (Jj _ _) rfl rfl rfl rfl rfl ?_); refine aD ?_; exact rfl
 ·exact rfl
 ·exact rfl
 refine eA rfl rfl (eY rfl ?_)
 apply aM (s := 17) rfl rfl rfl
 ·intro hg; apply aO; (refine aI rfl rfl rfl rfl rfl (by decide) ?_); refine aD ?_; exact rfl
 ·exact rfl
 ·exact rfl
 apply aM (s := 17) rfl rfl rfl
 ·intro hg; apply aH (s := 18) rfl (by (rw [hg]; rfl)); apply aO; (refine aJ rfl rfl rfl rfl ?_); refine aD ?_; exact rfl
 ·exact rfl
 ·exact rfl
 apply aM (s := 17) rfl rfl rfl
 ·intro hg; apply aO; (refine aI rfl rfl rfl rfl rfl (by decide) ?_); refine aD ?_; exact rfl
 ·exact rfl
 ·exact rfl
 apply aM (s := 17) rfl rfl rfl
 ·intro hg; apply aH (s := 20) rfl (by (rw [hg]; rfl)); apply aO; (refine aJ rfl rfl rfl rfl ?_); refine aD ?_; exact rfl
 ·exact rfl
 ·exact rfl
 apply aM (s := 17) rfl rfl rfl
 ·intro hg; apply aH (s := 19) rfl (by (rw [hg]; rfl)); apply aH (s := 21) rfl (by (rw [hg]; rfl)); apply aO; (refine aZ (Ld _ _) rfl rfl rfl rfl rfl ?_); refine aD ?_; exact rfl
 ·exact rfl
 ·exact rfl
 refine eA rfl rfl (eY rfl ?_)
 apply aM (s := 24) rfl rfl rfl
 ·intro hg; apply aO; (refine aI rfl rfl rfl rfl rfl (by decide) ?_); refine aD ?_; exact rfl
 ·exact rfl
 ·exact rfl
 apply aM (s := 24) rfl rfl rfl
 ·intro hg; apply aH (s := 25) rfl (by (rw [hg]; rfl)); apply aO; (refine aJ rfl rfl rfl rfl ?_); refine aD ?_; exact rfl
 ·exact rfl
 ·exact rfl
 apply aM (s := 24) rfl rfl rfl
 ·intro hg; apply aO; (refine aI rfl rfl rfl rfl rfl (by decide) ?_); refine aD ?_; exact rfl
 ·exact rfl
 ·exact rfl
 apply aM (s := 24) rfl rfl rfl
 ·intro hg; apply aH (s := 27) rfl (by (rw [hg]; rfl)); apply aO; (refine aJ rfl rfl rfl rfl ?_); refine aD ?_; exact rfl
 ·exact rfl
 ·exact rfl
 apply aM (s := 24) rfl rfl rfl
 ·intro hg; apply aH (s := 26) rfl (by (rw [hg]; rfl)); apply aH (s := 28) rfl (by (rw [hg]; rfl)); apply aO; (refine aZ (LH _ _) rfl rfl rfl rfl rfl ?_); refine aD ?_; exact rfl
 ·exact rfl
 ·exact rfl
 refine eA rfl rfl (dK rfl (aD (aC (az (bU rfl rfl ?_)))))
 all_goals exact cE rfl rfl
 all_goals trace_state
set_option maxRecDepth 100000 in
theorem DQ (y : aj) (hs : y.Small) : dP Tryz.prog 30 [eB y] (eB y) := by
 refine ak Tryz.func30 rfl (by decide) Tryz.ntmps30 (by exact Nat.le_of_ble_eq_true rfl) fun w0 M0 => ?_
 have hs1 := hs.bins
 have hs2 := hs.moves
 have hs3 := hs.levels
 refine aE (aA (bF rfl ?_))
 refine bh rfl (by exact List.cons_ne_nil _ _) rfl ?_
 refine aD (aC (aE (aA ?_)))
 refine aI rfl rfl rfl rfl rfl (by decide) ?_
 refine aJ rfl rfl rfl rfl ?_
 refine c6 rfl rfl (by exact List.cons_ne_nil _ _) rfl (by repeat (first | exact (aV.nil : aV _ _ [] _) | (show aV _ _ ((_, _) :: _) _; apply aV.one; (· exact (rfl : _ = Ty.int _ _)); (· exact rfl)))) (by exact (rfl : _ = some [_, _, _, _])) ?_
 refine bh rfl (by exact List.cons_ne_nil _ _) rfl ?_
 refine bO rfl rfl (by decide) rfl rfl rfl rfl rfl rfl ?_
 refine aD (aC (aE (aE (aA ?_))))
 refine aI rfl rfl rfl rfl rfl (by decide) ?_
 refine aJ rfl rfl rfl rfl (b9 rfl rfl rfl (bG rfl (aD (aC (aa ?_)))))
 refine cG (fun (k : {k : Nat // k ≤ y.bins.length}) => live [(1, Ty.pp (bA y)), (2, Ty.ptr 3 0), (3, Ty.ptr 4 0), (14, Ty.sl fL y.bins), (15, Ty.int .i64 y.bins.length), (16, Ty.int .i64 (k.1 : Nat))] [(3, Cont.cells 60 [Ty.int .i64 0, Ty.ex (.slice none 0 0), Ty.ex (.slice none 0 0), Ty.ex (.slice none 0 0)]), (4, Cont.cells 60 [Ty.int .i64 y.days, Ty.row fL 163 24 (y.bins.take k.1), Ty.ex (.slice none 0 0), Ty.ex (.slice none 0 0)])]) (fun k => y.bins.length - k.1) (⟨0, by omega⟩) ?_ fun k => ?_
 ·(refine cg.mk' ?_ ?_ <;> (repeat' (first | exact aL | exact aK | exact cv | refine aB ?_ (Ty.aT _) | refine aB ?_ (Ty.aF _) | refine aG rfl (Cont.aF _) ?_ | refine aG rfl (Cont.ct ?_) ?_ | refine bJ ?_ (Ty.aF _) | refine bJ ?_ Ty.iF)))
  all_goals trace_state
 have hk := k.2
 refine aE (aA (bB rfl rfl rfl (aD (aC (aE ?_)))))
 refine aq rfl (fun hc1 => ?_) (fun hc1 => ?_)
 ·
  refine af (aC (aE (aa (aE (aA ?_)))))
  refine au rfl rfl rfl rfl rfl rfl (by omega) ?_
  refine aX rfl rfl rfl (by exact Nat.le_of_ble_eq_true rfl) ?_
  refine bh rfl (by exact List.cons_ne_nil _ _) rfl ?_
  refine bO rfl rfl (by decide) rfl rfl rfl rfl rfl rfl ?_
  refine aD (aC (aA ?_))
  refine aR rfl rfl rfl rfl rfl (by decide) ?_
  refine aY rfl rfl (by decide) rfl rfl rfl ?_
  refine bP rfl rfl (by decide) rfl rfl (by exact Nat.le_of_ble_eq_true rfl) ?_
  refine bg (E := fL) (xs := [nth y.bins k.1]) rfl rfl rfl rfl rfl (by decide) (by decide) (by repeat (first | exact (aV.nil : aV _ _ [] _) | (show aV _ _ ((_, _) :: _) _; apply aV.agg; (· exact (rfl : _ = Ty.agg _))))) (by exact rfl) rfl ?_
  refine dy rfl rfl (by decide) rfl rfl rfl rfl rfl rfl (by decide) (by (simp <;> omega)) (by (simp <;> omega)) ?_
  refine aR rfl rfl rfl rfl rfl (by decide) ?_
  refine cr rfl rfl (by decide) rfl rfl (by exact (rfl : _ = Ty.row _ _ _ _)) rfl (by exact Nat.le_of_ble_eq_true rfl) rfl rfl (by exact rfl) ?_
  refine aD (bM (aC (aA ?_)))
  refine cB rfl rfl (by omega) (by omega) ?_
  refine bG rfl (aD ?_)
  refine bR (⟨k.1 + 1, by omega⟩) ?_ (by show y.bins.length - (k.1 + 1) < y.bins.length - k.1; omega)
  (refine cg.mk' ?_ ?_ <;> (repeat' (first | exact aL | exact aK | exact cv | refine aB ?_ (Ty.aT _) | refine aB ?_ (Ty.aF _) | refine aG rfl (Cont.aF _) ?_ | refine aG rfl (Cont.ct ?_) ?_ | refine bJ ?_ (Ty.aF _) | refine bJ ?_ ?_)))
  all_goals exact Ty.fH (cV (by omega)).symm
  all_goals trace_state
 refine cH (aP (aP (ah rfl (aC (aE (aE ?_))))))
 refine jZ (tg := 24) [] [(4, Cont.cells 60 [Ty.int .i64 y.days, Ty.sl fL y.bins, Ty.ex (.slice none 0 0), Ty.ex (.slice none 0 0)])] (by decide) rfl trivial ⟨fP rfl rfl ⟨bE rfl, jH (List.take_of_length_le (by have := k.2; omega)), bE rfl, bE rfl, trivial⟩, trivial⟩ ?_
 refine aA ?_
 refine aI rfl rfl rfl rfl rfl (by decide) ?_
 refine aJ rfl rfl rfl rfl (b9 rfl rfl rfl (bG rfl (aD (aC (aa ?_)))))
 refine cG (fun (m : {k : Nat // k ≤ y.moves.length}) => live [(1, Ty.pp (bA y)), (2, Ty.ptr 3 0), (3, Ty.ptr 4 0), (28, Ty.sl eS y.moves), (29, Ty.int .i64 y.moves.length), (30, Ty.int .i64 (m.1 : Nat))] [(3, Cont.cells 60 [Ty.int .i64 0, Ty.ex (.slice none 0 0), Ty.ex (.slice none 0 0), Ty.ex (.slice none 0 0)]), (4, Cont.cells 60 [Ty.int .i64 y.days, Ty.sl fL y.bins, Ty.row eS 164 38 (y.moves.take m.1), Ty.ex (.slice none 0 0)])]) (fun m => y.moves.length - m.1) (⟨0, by omega⟩) ?_ fun m => ?_
 ·(refine cg.mk' ?_ ?_ <;> (repeat' (first | exact aL | exact aK | exact cv | refine aB ?_ (Ty.aT _) | refine aB ?_ (Ty.aF _) | refine aG rfl (Cont.aF _) ?_ | refine aG rfl (Cont.ct ?_) ?_ | refine bJ ?_ (Ty.aF _) | refine bJ ?_ Ty.iF)))
  all_goals trace_state
 have hm := m.2
 refine aE (aA (bB rfl rfl rfl (aD (aC (aE ?_)))))
 refine aq rfl (fun hc2 => ?_) (fun hc2 => ?_)
 ·
  refine af (aC (aE (aa (aE (aA ?_)))))
  refine au rfl rfl rfl rfl rfl rfl (by omega) ?_
  refine aX rfl rfl rfl (by exact Nat.le_of_ble_eq_true rfl) ?_
  refine bh rfl (by exact List.cons_ne_nil _ _) rfl ?_
  refine bO rfl rfl (by decide) rfl rfl rfl rfl rfl rfl ?_
  refine aD (aC (aA ?_))
  refine aR rfl rfl rfl rfl rfl (by decide) ?_
  refine aY rfl rfl (by decide) rfl rfl rfl ?_
  refine bP rfl rfl (by decide) rfl rfl (by exact Nat.le_of_ble_eq_true rfl) ?_
  refine bg (E := eS) (xs := [nth y.moves m.1]) rfl rfl rfl rfl rfl (by decide) (by decide) (by repeat (first | exact (aV.nil : aV _ _ [] _) | (show aV _ _ ((_, _) :: _) _; apply aV.agg; (· exact (rfl : _ = Ty.agg _))))) (by exact rfl) rfl ?_
  refine dy rfl rfl (by decide) rfl rfl rfl rfl rfl rfl (by decide) (by (simp <;> omega)) (by (simp <;> omega)) ?_
  refine aR rfl rfl rfl rfl rfl (by decide) ?_
  refine cr rfl rfl (by decide) rfl rfl (by exact (rfl : _ = Ty.row _ _ _ _)) rfl (by exact Nat.le_of_ble_eq_true rfl) rfl rfl (by exact rfl) ?_
  refine aD (bM (aC (aA ?_)))
  refine cB rfl rfl (by omega) (by omega) ?_
  refine bG rfl (aD ?_)
  refine bR (⟨m.1 + 1, by omega⟩) ?_ (by show y.moves.length - (m.1 + 1) < y.moves.length - m.1; omega)
  (refine cg.mk' ?_ ?_ <;> (repeat' (first | exact aL | exact aK | exact cv | refine aB ?_ (Ty.aT _) | refine aB ?_ (Ty.aF _) | refine aG rfl (Cont.aF _) ?_ | refine aG rfl (Cont.ct ?_) ?_ | refine bJ ?_ (Ty.aF _) | refine bJ ?_ ?_)))
  all_goals exact Ty.fH (cV (by omega)).symm
  all_goals trace_state
 refine cH (aP (aP (ah rfl (aC (aE (aE ?_))))))
 refine jZ (tg := 38) [] [(4, Cont.cells 60 [Ty.int .i64 y.days, Ty.sl fL y.bins, Ty.sl eS y.moves, Ty.ex (.slice none 0 0)])] (by decide) rfl trivial ⟨fP rfl rfl ⟨bE rfl, bE rfl, jH (List.take_of_length_le (by have := m.2; omega)), bE rfl, trivial⟩, trivial⟩ ?_
 refine aA ?_
 refine aI rfl rfl rfl rfl rfl (by decide) ?_
 refine aJ rfl rfl rfl rfl (b9 rfl rfl rfl (bG rfl (aD (aC (aa ?_)))))
 refine cG (fun (n : {k : Nat // k ≤ y.levels.length}) => live [(1, Ty.pp (bA y)), (2, Ty.ptr 3 0), (3, Ty.ptr 4 0), (42, Ty.sl dg y.levels), (43, Ty.int .i64 y.levels.length), (44, Ty.int .i64 (n.1 : Nat))] [(3, Cont.cells 60 [Ty.int .i64 0, Ty.ex (.slice none 0 0), Ty.ex (.slice none 0 0), Ty.ex (.slice none 0 0)]), (4, Cont.cells 60 [Ty.int .i64 y.days, Ty.sl fL y.bins, Ty.sl eS y.moves, Ty.row dg 165 52 (y.levels.take n.1)])]) (fun n => y.levels.length - n.1) (⟨0, by omega⟩) ?_ fun n => ?_
 ·(refine cg.mk' ?_ ?_ <;> (repeat' (first | exact aL | exact aK | exact cv | refine aB ?_ (Ty.aT _) | refine aB ?_ (Ty.aF _) | refine aG rfl (Cont.aF _) ?_ | refine aG rfl (Cont.ct ?_) ?_ | refine bJ ?_ (Ty.aF _) | refine bJ ?_ Ty.iF)))
  all_goals trace_state
 have hn := n.2
 refine aE (aA (bB rfl rfl rfl (aD (aC (aE ?_)))))
 refine aq rfl (fun hc3 => ?_) (fun hc3 => ?_)
 ·
  refine af (aC (aE (aa (aE (aA ?_)))))
  refine au rfl rfl rfl rfl rfl rfl (by omega) ?_
  refine aX rfl rfl rfl (by exact Nat.le_of_ble_eq_true rfl) ?_
  refine bh rfl (by exact List.cons_ne_nil _ _) rfl ?_
  refine bO rfl rfl (by decide) rfl rfl rfl rfl rfl rfl ?_
  refine aD (aC (aA ?_))
  refine aR rfl rfl rfl rfl rfl (by decide) ?_
  refine aY rfl rfl (by decide) rfl rfl rfl ?_
  refine bP rfl rfl (by decide) rfl rfl (by exact Nat.le_of_ble_eq_true rfl) ?_
  refine bg (E := dg) (xs := [nth y.levels n.1]) rfl rfl rfl rfl rfl (by decide) (by decide) (by repeat (first | exact (aV.nil : aV _ _ [] _) | (show aV _ _ ((_, _) :: _) _; apply aV.agg; (· exact (rfl : _ = Ty.agg _))))) (by exact rfl) rfl ?_
  refine dy rfl rfl (by decide) rfl rfl rfl rfl rfl rfl (by decide) (by (simp <;> omega)) (by (simp <;> omega)) ?_
  refine aR rfl rfl rfl rfl rfl (by decide) ?_
  refine cr rfl rfl (by decide) rfl rfl (by exact (rfl : _ = Ty.row _ _ _ _)) rfl (by exact Nat.le_of_ble_eq_true rfl) rfl rfl (by exact rfl) ?_
  refine aD (bM (aC (aA ?_)))
  refine cB rfl rfl (by omega) (by omega) ?_
  refine bG rfl (aD ?_)
  refine bR (⟨n.1 + 1, by omega⟩) ?_ (by show y.levels.length - (n.1 + 1) < y.levels.length - n.1; omega)
  (refine cg.mk' ?_ ?_ <;> (repeat' (first | exact aL | exact aK | exact cv | refine aB ?_ (Ty.aT _) | refine aB ?_ (Ty.aF _) | refine aG rfl (Cont.aF _) ?_ | refine aG rfl (Cont.ct ?_) ?_ | refine bJ ?_ (Ty.aF _) | refine bJ ?_ ?_)))
  all_goals exact Ty.fH (cV (by omega)).symm
  all_goals trace_state
 refine cH (aP (aP (ah rfl (aC (aE ?_)))))
 refine jZ (tg := 52) [] [(4, Cont.cells 60 [Ty.int .i64 y.days, Ty.sl fL y.bins, Ty.sl eS y.moves, Ty.sl dg y.levels])] (by decide) rfl trivial ⟨fP rfl rfl ⟨bE rfl, bE rfl, bE rfl, jH (List.take_of_length_le (by have := n.2; omega)), trivial⟩, trivial⟩ ?_
 refine aA ?_
 refine bP rfl rfl (by decide) rfl rfl (by exact Nat.le_of_ble_eq_true rfl) ?_
 refine bO rfl rfl (by decide) rfl rfl rfl rfl rfl rfl ?_
 refine aD (aC (az ?_))
 refine jx rfl rfl rfl rfl (by decide) rfl rfl rfl ?_
 all_goals exact av rfl rfl rfl
set_option maxRecDepth 100000 in
theorem BE (a : dF) (h1 : a.first.length ≤ 1000) (h2 : a.bY.length ≤ 1000) : dP Tryz.prog 54 [mm a] (mm a) := by
 refine ak Tryz.func54 rfl (by decide) Tryz.ntmps54 (by exact Nat.le_of_ble_eq_true rfl) fun w0 M0 => ?_
 refine aE (aA (bF rfl ?_))
 refine bh rfl (by exact List.cons_ne_nil _ _) rfl ?_
 refine aD (aC (aE (cL mixed rfl ?_)))
 refine aI rfl rfl rfl rfl rfl (by decide) ?_
 refine aJ rfl rfl rfl rfl (aZ (zH a.first h1) rfl rfl rfl rfl rfl ?_)
 refine aI rfl rfl rfl rfl rfl (by decide) ?_
 refine aJ rfl rfl rfl rfl (aZ (zH a.bY h2) rfl rfl rfl rfl rfl ?_)
 refine c6 rfl rfl (by exact List.cons_ne_nil _ _) rfl (by repeat (first | exact (aV.nil : aV _ _ [] _) | (show aV _ _ ((_, _) :: _) _; apply aV.one; (· exact (rfl : _ = Ty.sl _ _)); (· exact rfl)))) (by exact (rfl : _ = some [_, _])) ?_
 refine bO rfl rfl (by decide) rfl rfl rfl rfl rfl rfl ?_
 refine aD ?_
 refine ⟨by kernel_rfl, ?_⟩
 refine aC (az ?_)
 refine jx rfl rfl rfl rfl (by decide) rfl rfl rfl ?_
 all_goals exact av rfl rfl rfl
set_option maxRecDepth 100000 in
theorem MO (y : aj) : dP Tryz.prog 69 [eB y] (Ty.bool (pJ y)) := by
 refine ak Tryz.func69 rfl (by decide) Tryz.ntmps69 (by exact Nat.le_of_ble_eq_true rfl) fun w0 M0 => ?_
 refine aE (aA (bF rfl (dK rfl (aD (aC (aE (aA ?_)))))))
 refine aI rfl rfl rfl rfl rfl (by decide) ?_
 refine aJ rfl rfl rfl rfl (b9 rfl rfl rfl (bB rfl rfl rfl (eY rfl ?_)))
 apply aM (s := 7) rfl rfl rfl
 ·intro hg; apply aO; (refine aI rfl rfl rfl rfl rfl (by decide) ?_); refine aD ?_; exact rfl
 ·exact rfl
 ·exact rfl
 apply aM (s := 7) rfl rfl rfl
 ·intro hg; apply aH (s := 8) rfl (by (rw [hg]; rfl)); apply aO; (refine aJ rfl rfl rfl rfl ?_); refine aD ?_; exact rfl
 ·exact rfl
 ·exact rfl
 apply aM (s := 7) rfl rfl rfl
 ·intro hg; apply aH (s := 9) rfl (by (rw [hg]; rfl)); apply aO; (refine b9 rfl rfl rfl ?_); refine aD ?_; exact rfl
 ·exact rfl
 ·exact rfl
 apply aM (s := 7) rfl rfl rfl
 ·intro hg; apply aH (s := 10) rfl (by (rw [hg]; rfl)); apply aO; (refine bB rfl rfl rfl ?_); refine aD ?_; exact rfl
 ·exact rfl
 ·exact rfl
 refine gN rfl rfl (eY rfl ?_)
 apply aM (s := 13) rfl rfl rfl
 ·intro hg; apply aO; (refine aI rfl rfl rfl rfl rfl (by decide) ?_); refine aD ?_; exact rfl
 ·exact rfl
 ·exact rfl
 apply aM (s := 13) rfl rfl rfl
 ·intro hg; apply aH (s := 14) rfl (by (rw [hg]; rfl)); apply aO; (refine aJ rfl rfl rfl rfl ?_); refine aD ?_; exact rfl
 ·exact rfl
 ·exact rfl
 apply aM (s := 13) rfl rfl rfl
 ·intro hg; apply aH (s := 15) rfl (by (rw [hg]; rfl)); apply aO; (refine b9 rfl rfl rfl ?_); refine aD ?_; exact rfl
 ·exact rfl
 ·exact rfl
 apply aM (s := 13) rfl rfl rfl
 ·intro hg; apply aH (s := 16) rfl (by (rw [hg]; rfl)); apply aO; (refine bB rfl rfl rfl ?_); refine aD ?_; exact rfl
 ·exact rfl
 ·exact rfl
 refine gN rfl rfl (dK rfl (aD (aC (az (bU rfl rfl ?_)))))
 all_goals exact cE rfl rfl
 all_goals trace_state
set_option maxRecDepth 100000 in
theorem F6 : dP Tryz.prog 27 [] (Ty.bool true) := by
 refine ak Tryz.func27 rfl (by decide) Tryz.ntmps27 (by exact Nat.le_of_ble_eq_true rfl) fun w0 M0 => ?_
 refine aE (aA (dK rfl (aD (aC (aE (aA ?_))))))
 refine aZ (vK 0 (by decide)) rfl rfl rfl rfl rfl ?_
 refine aZ (xu (two 0) (jo (by decide)) 0) rfl rfl rfl rfl rfl ?_
 refine tL rfl (bQ rfl rfl (bQ rfl rfl (Bh rfl (bu rfl (aD (aC (aE (aA ?_))))))))
 refine aZ (vK 0 (by decide)) rfl rfl rfl rfl rfl ?_
 refine aZ (Fq (two 0) (jo (by decide))) rfl rfl rfl rfl rfl ?_
 refine tL rfl (bQ rfl rfl (bQ rfl rfl (Bh rfl (bu rfl (aD (aC (aE (aA ?_))))))))
 refine aZ (vK 1 (by decide)) rfl rfl rfl rfl rfl ?_
 refine aZ (GR (two 1) (jo (by decide)) 1) rfl rfl rfl rfl rfl ?_
 refine tL rfl (bQ rfl rfl (bQ rfl rfl ?_))
 refine bh rfl (by exact List.cons_ne_nil _ _) rfl ?_
 refine bO rfl rfl (by decide) rfl rfl rfl rfl rfl rfl ?_
 refine bu rfl (aD (aC (aE (aA ?_))))
 refine aZ (vK 1 (by decide)) rfl rfl rfl rfl rfl ?_
 refine aZ (J5 (two 1) (jo (by decide)) 0 60) rfl rfl rfl rfl rfl ?_
 refine tL rfl (bQ rfl rfl (bQ rfl rfl (bu rfl (bu rfl (aD (aC (aE (aA ?_))))))))
 refine c6 rfl rfl (by exact List.cons_ne_nil _ _) rfl (by repeat (exact (aV.nil : aV _ _ [] _))) (by exact (rfl : _ = some [_, _])) ?_
 refine c6 rfl rfl (by exact List.cons_ne_nil _ _) rfl (by repeat (first | exact (aV.nil : aV _ _ [] _) | (show aV _ _ ((_, _) :: _) _; apply aV.one; (· exact (rfl : _ = Ty.int _ _)); (· exact rfl)))) (by exact (rfl : _ = some [_, _])) ?_
 refine c6 rfl rfl (by exact List.cons_ne_nil _ _) rfl (by repeat (first | exact (aV.nil : aV _ _ [] _) | (show aV _ _ ((_, _) :: _) _; apply aV.one; (· exact (rfl : _ = Ty.int _ _)); (· exact rfl)))) (by exact (rfl : _ = some [_, _])) ?_
 refine bg (E := rq) (xs := yD.cells) rfl rfl rfl rfl rfl (by decide) (by decide) (by repeat (first | exact (aV.nil : aV _ _ [] _) | (show aV _ _ ((_, _) :: _) _; apply aV.agg; (· exact (rfl : _ = Ty.agg _))))) (by exact rfl) rfl ?_
 refine c6 rfl rfl (by exact List.cons_ne_nil _ _) rfl (by repeat (first | exact (aV.nil : aV _ _ [] _) | (show aV _ _ ((_, _) :: _) _; apply aV.one; (· exact (rfl : _ = Ty.sl _ _)); (· exact rfl)))) (by exact (rfl : _ = some [_, _])) ?_
 refine bh rfl (by exact List.cons_ne_nil _ _) rfl ?_
 refine bO rfl rfl (by decide) rfl rfl rfl rfl rfl rfl ?_
 refine aD (aC (aE (cL mixed rfl ?_)))
 refine aZ (vK 2 (by decide)) rfl rfl rfl rfl rfl ?_
 refine bP rfl rfl (by decide) rfl rfl (by exact Nat.le_of_ble_eq_true rfl) ?_
 refine aZ (JN (two 2) (jo (by decide)) yD (by decide)) rfl rfl rfl rfl rfl ?_
 refine tL rfl (bQ rfl rfl (bQ rfl rfl (bu rfl (bu rfl (aD ?_)))))
 refine ⟨by kernel_rfl, ?_⟩
 refine aC (aE (aA ?_))
 refine aZ (vK 2 (by decide)) rfl rfl rfl rfl rfl ?_
 refine aZ (MJ (two 2) (jo (by decide))) rfl rfl rfl rfl rfl ?_
 refine tL rfl (bQ rfl rfl (bQ rfl rfl (Bh rfl (bu rfl (aD (aC (aE (aA ?_))))))))
 refine aZ (vK 2 (by decide)) rfl rfl rfl rfl rfl ?_
 refine aZ (Na (two 2) (jo (by decide))) rfl rfl rfl rfl rfl ?_
 refine tL rfl (bQ rfl rfl (bQ rfl rfl (Bh rfl (bu rfl (aD (aC (aE (aA ?_))))))))
 refine aZ (vK 2 (by decide)) rfl rfl rfl rfl rfl ?_
 refine aZ (JI (two 2) (jo (by decide))) rfl rfl rfl rfl rfl ?_
 refine tL rfl (bQ rfl rfl (bQ rfl rfl ?_))
 refine bh rfl (by exact List.cons_ne_nil _ _) rfl ?_
 refine bO rfl rfl (by decide) rfl rfl rfl rfl rfl rfl ?_
 refine bu rfl (aD (aC (aE ?_)))
 refine ig (s := 1) rfl (Ty.sub_eq (congrArg (Ty.sl bX) NA)) ?_
 refine ig (s := 2) rfl (Ty.bI P9) ?_
 refine ig (s := 3) rfl (Ty.sub_eq (congrArg (Ty.sl bX) OK)) ?_
 refine ig (s := 4) rfl (Ty.bI (lF (k := 0) (by decide))) ?_
 refine jS (tg := 6) rfl (Cont.nV (congrArg bX.tys PF)) ?_
 refine ig (s := 6) rfl (Ty.bI Qk) ?_
 refine ig (s := 7) rfl (Ty.bI PS) ?_
 refine ig (s := 8) rfl (Ty.bI N6.1.symm) ?_
 refine ig (s := 10) rfl (Ty.bI Oh) ?_
 refine ig (s := 11) rfl (Ty.bI P7.1.symm) ?_
 refine ig (s := 12) rfl (Ty.sub_eq (congrArg (Ty.sl cz) Lh)) ?_
 refine ig (s := 13) rfl (Ty.bI N2.1.symm) ?_
 refine ig (s := 14) rfl (Ty.sub_eq (congrArg (Ty.sl cz) Js)) ?_
 refine ig (s := 15) rfl (Ty.bI OA.1.symm) ?_
 refine ig (s := 17) rfl (Ty.bI L6) ?_
 refine eJ (B := live [(1, Ty.sl bX [⟨20, 30⟩, ⟨60, 90⟩, ⟨20, 80⟩]), (2, Ty.int .i64 0), (3, Ty.sl bX [⟨20, 30⟩, ⟨60, 90⟩, ⟨50, 85⟩]), (4, Ty.int .i64 0), (5, Ty.ptr 6 0), (6, Ty.int .i64 0), (7, Ty.int .i64 1), (8, Ty.int .i64 0), (10, Ty.int .i64 1), (11, Ty.int .i64 0), (12, Ty.sl cz [0, 1]), (13, Ty.int .i64 0), (14, Ty.sl cz [0]), (15, Ty.int .i64 0), (17, Ty.int .i64 7)] [(6, Cont.cells 37 (bX.tys ⟨25, 35⟩))]) ?_ ?_
 ·(refine cg.mk' ?_ ?_ <;> (repeat' (first | exact aL | exact aK | refine aB ?_ (Ty.aT _) | refine aB ?_ (Ty.aF _) | refine aG rfl (Cont.aF _) ?_)))
 refine cL mixed rfl (bG rfl (bB rfl rfl rfl (eY rfl ?_)))
 apply aM (s := 66) rfl rfl rfl
 ·intro hg; apply aO; (refine bG rfl ?_); refine aD ?_; exact rfl
 ·exact rfl
 ·exact rfl
 apply aM (s := 66) rfl rfl rfl
 ·intro hg; apply aH (s := 67) rfl (by exact hg); apply aO; (refine bB rfl rfl rfl ?_); refine aD ?_; exact rfl
 ·exact rfl
 ·exact rfl
 refine eA rfl rfl (eY rfl ?_)
 apply aM (s := 70) rfl rfl rfl
 ·intro hg; apply aO; (refine bG rfl ?_); refine aD ?_; exact rfl
 ·exact rfl
 ·exact rfl
 apply aM (s := 70) rfl rfl rfl
 ·intro hg; apply aH (s := 71) rfl (by exact hg); apply aO; (refine bB rfl rfl rfl ?_); refine aD ?_; exact rfl
 ·exact rfl
 ·exact rfl
 refine eA rfl rfl (eY rfl ?_)
 apply aM (s := 74) rfl rfl rfl
 ·intro hg; apply aO; (refine bG rfl ?_); refine aD ?_; exact rfl
 ·exact rfl
 ·exact rfl
 apply aM (s := 74) rfl rfl rfl
 ·intro hg; apply aH (s := 75) rfl (by exact hg); apply aO; (refine bB rfl rfl rfl ?_); refine aD ?_; exact rfl
 ·exact rfl
 ·exact rfl
 refine eA rfl rfl (eY rfl ?_)
 apply aM (s := 78) rfl rfl rfl
 ·intro hg; apply aO; (refine bG rfl ?_); refine aD ?_; exact rfl
 ·exact rfl
 ·exact rfl
 apply aM (s := 78) rfl rfl rfl
 ·intro hg; apply aH (s := 79) rfl (by exact hg); apply aO; (refine bB rfl rfl rfl ?_); refine aD ?_; exact rfl
 ·exact rfl
 ·exact rfl
 refine eA rfl rfl (eY rfl ?_)
 apply aM (s := 82) rfl rfl rfl
 ·intro hg; apply aO; (refine bG rfl ?_); refine aD ?_; exact rfl
 ·exact rfl
 ·exact rfl
 apply aM (s := 82) rfl rfl rfl
 ·intro hg; apply aH (s := 83) rfl (by exact hg); apply aO; (refine bB rfl rfl rfl ?_); refine aD ?_; exact rfl
 ·exact rfl
 ·exact rfl
 refine eA rfl rfl (eY rfl ?_)
 apply aM (s := 86) rfl rfl rfl
 ·intro hg; apply aO; (refine bG rfl ?_); refine aD ?_; exact rfl
 ·exact rfl
 ·exact rfl
 apply aM (s := 86) rfl rfl rfl
 ·intro hg; apply aH (s := 87) rfl (by exact hg); apply aO; (refine bB rfl rfl rfl ?_); refine aD ?_; exact rfl
 ·exact rfl
 ·exact rfl
 refine eA rfl rfl (eY rfl ?_)
 apply aM (s := 90) rfl rfl rfl
 ·intro hg; apply aO; (refine bG rfl ?_); refine aD ?_; exact rfl
 ·exact rfl
 ·exact rfl
 apply aM (s := 90) rfl rfl rfl
 ·intro hg; apply aH (s := 91) rfl (by exact hg); apply aO; (refine bB rfl rfl rfl ?_); refine aD ?_; exact rfl
 ·exact rfl
 ·exact rfl
 refine eA rfl rfl (eY rfl ?_)
 apply aM (s := 94) rfl rfl rfl
 ·intro hg; apply aO; (refine fT rfl ?_); refine aD ?_; exact rfl
 ·exact rfl
 ·exact rfl
 apply aM (s := 94) rfl rfl rfl
 ·intro hg; apply aO; (refine aZ (kj _ _) rfl rfl rfl rfl rfl ?_); refine aD ?_; exact rfl
 ·exact rfl
 ·exact rfl
 apply aM (s := 94) rfl rfl rfl
 ·intro hg; apply aO; (refine aZ (kj _ _) rfl rfl rfl rfl rfl ?_); refine aD ?_; exact rfl
 ·exact rfl
 ·exact rfl
 apply aM (s := 94) rfl rfl rfl
 ·intro hg; apply aO; (refine aZ (kj _ _) rfl rfl rfl rfl rfl ?_); refine aD ?_; exact rfl
 ·exact rfl
 ·exact rfl
 apply aM (s := 94) rfl rfl rfl
 ·intro hg; apply aH (s := 96) rfl (by exact hg); apply aH (s := 97) rfl (by exact hg); apply aH (s := 98) rfl (by exact hg); apply aO; (refine bg (E := bX) (xs := [⟨20, 30⟩, ⟨60, 90⟩, ⟨20, 80⟩]) rfl rfl rfl rfl rfl (by decide) (by decide) (by repeat (first | exact (aV.nil : aV _ _ [] _) | (show aV _ _ ((_, _) :: _) _; apply aV.agg; (· exact (rfl : _ = Ty.agg _))))) (by exact rfl) rfl ?_); refine aD ?_; exact rfl
 ·exact rfl
 ·exact rfl
 apply aM (s := 94) rfl rfl rfl
 ·intro hg; apply aH (s := 95) rfl (by exact hg); apply aH (s := 99) rfl (by exact hg); apply aO; (refine aZ (tD _ _) rfl rfl rfl rfl rfl ?_); refine aD ?_; exact rfl
 ·exact rfl
 ·exact rfl
 refine eA rfl rfl (eY rfl ?_)
 apply aM (s := 102) rfl rfl rfl
 ·intro hg; apply aO; (refine fT rfl ?_); refine aD ?_; exact rfl
 ·exact rfl
 ·exact rfl
 apply aM (s := 102) rfl rfl rfl
 ·intro hg; apply aO; (refine aZ (kj _ _) rfl rfl rfl rfl rfl ?_); refine aD ?_; exact rfl
 ·exact rfl
 ·exact rfl
 apply aM (s := 102) rfl rfl rfl
 ·intro hg; apply aO; (refine aZ (kj _ _) rfl rfl rfl rfl rfl ?_); refine aD ?_; exact rfl
 ·exact rfl
 ·exact rfl
 apply aM (s := 102) rfl rfl rfl
 ·intro hg; apply aO; (refine aZ (kj _ _) rfl rfl rfl rfl rfl ?_); refine aD ?_; exact rfl
 ·exact rfl
 ·exact rfl
 apply aM (s := 102) rfl rfl rfl
 ·intro hg; apply aH (s := 104) rfl (by exact hg); apply aH (s := 105) rfl (by exact hg); apply aH (s := 106) rfl (by exact hg); apply aO; (refine bg (E := bX) (xs := [⟨20, 30⟩, ⟨60, 90⟩, ⟨50, 85⟩]) rfl rfl rfl rfl rfl (by decide) (by decide) (by repeat (first | exact (aV.nil : aV _ _ [] _) | (show aV _ _ ((_, _) :: _) _; apply aV.agg; (· exact (rfl : _ = Ty.agg _))))) (by exact rfl) rfl ?_); refine aD ?_; exact rfl
 ·exact rfl
 ·exact rfl
 apply aM (s := 102) rfl rfl rfl
 ·intro hg; apply aH (s := 103) rfl (by exact hg); apply aH (s := 107) rfl (by exact hg); apply aO; (refine aZ (tD _ _) rfl rfl rfl rfl rfl ?_); refine aD ?_; exact rfl
 ·exact rfl
 ·exact rfl
 refine eA rfl rfl (eY rfl ?_)
 apply aM (s := 110) rfl rfl rfl
 ·intro hg; apply aO; (refine bP rfl rfl (by decide) rfl rfl (by exact Nat.le_of_ble_eq_true rfl) ?_); refine aD ?_; exact rfl
 ·exact rfl
 ·exact rfl
 apply aM (s := 110) rfl rfl rfl
 ·intro hg; apply aO; (refine aZ (kj _ _) rfl rfl rfl rfl rfl ?_); refine aD ?_; exact rfl
 ·exact rfl
 ·exact rfl
 apply aM (s := 110) rfl rfl rfl
 ·intro hg; apply aH (s := 111) rfl (by exact hg); apply aH (s := 112) rfl (by exact hg); apply aO; (refine NM (Lp _ _ _ _) rfl rfl ?_); refine aD ?_; exact rfl
 ·exact rfl
 ·exact rfl
 refine eA rfl rfl (eY rfl ?_)
 apply aM (s := 115) rfl rfl rfl
 ·intro hg; apply aO; (refine bG rfl ?_); refine aD ?_; exact rfl
 ·exact rfl
 ·exact rfl
 apply aM (s := 115) rfl rfl rfl
 ·intro hg; apply aH (s := 116) rfl (by exact hg); apply aO; (refine bB rfl rfl rfl ?_); refine aD ?_; exact rfl
 ·exact rfl
 ·exact rfl
 refine eA rfl rfl (eY rfl ?_)
 apply aM (s := 119) rfl rfl rfl
 ·intro hg; apply aO; (refine bG rfl ?_); refine aD ?_; exact rfl
 ·exact rfl
 ·exact rfl
 apply aM (s := 119) rfl rfl rfl
 ·intro hg; apply aH (s := 120) rfl (by exact hg); apply aO; (refine bB rfl rfl rfl ?_); refine aD ?_; exact rfl
 ·exact rfl
 ·exact rfl
 refine eA rfl rfl (eY rfl ?_)
 apply aM (s := 123) rfl rfl rfl
 ·intro hg; apply aO; (refine fT rfl ?_); refine aD ?_; exact rfl
 ·exact rfl
 ·exact rfl
 apply aM (s := 123) rfl rfl rfl
 ·intro hg; apply aO; (refine bg (E := cz) (xs := [0, 1]) rfl rfl rfl rfl rfl (by decide) (by decide) (by repeat (first | exact (aV.nil : aV _ _ [] _) | (show aV _ _ ((_, _) :: _) _; apply aV.one; (· exact (rfl : _ = Ty.int _ _)); (· exact rfl)))) (by exact rfl) rfl ?_); refine aD ?_; exact rfl
 ·exact rfl
 ·exact rfl
 apply aM (s := 123) rfl rfl rfl
 ·intro hg; apply aH (s := 124) rfl (by exact hg); apply aH (s := 125) rfl (by exact hg); apply aO; (refine aZ (DS _ _) rfl rfl rfl rfl rfl ?_); refine aD ?_; exact rfl
 ·exact rfl
 ·exact rfl
 refine eA rfl rfl (eY rfl ?_)
 apply aM (s := 128) rfl rfl rfl
 ·intro hg; apply aO; (refine fT rfl ?_); refine aD ?_; exact rfl
 ·exact rfl
 ·exact rfl
 apply aM (s := 128) rfl rfl rfl
 ·intro hg; apply aO; (refine bg (E := cz) (xs := [0]) rfl rfl rfl rfl rfl (by decide) (by decide) (by repeat (first | exact (aV.nil : aV _ _ [] _) | (show aV _ _ ((_, _) :: _) _; apply aV.one; (· exact (rfl : _ = Ty.int _ _)); (· exact rfl)))) (by exact rfl) rfl ?_); refine aD ?_; exact rfl
 ·exact rfl
 ·exact rfl
 apply aM (s := 128) rfl rfl rfl
 ·intro hg; apply aH (s := 129) rfl (by exact hg); apply aH (s := 130) rfl (by exact hg); apply aO; (refine aZ (DS _ _) rfl rfl rfl rfl rfl ?_); refine aD ?_; exact rfl
 ·exact rfl
 ·exact rfl
 refine eA rfl rfl (dK rfl (aD ?_))
 refine ⟨by kernel_rfl, ?_⟩
 refine aC (az (bU rfl rfl ?_))
 all_goals exact cE rfl rfl
 all_goals trace_state
end Go.Proofs.YtelbollidfdcjaaGreat
namespace Go.Proofs.YtelbollidfdcjaaGreat
open Go Go.T
set_option maxHeartbeats 2000000
attribute [local irreducible] gP e9 mA oA iG iE iK g9 iL oc iA oM dV fo n6 gC oW nth fS dY ay dP bodyPost Exit.then Exit.inBlock Code.wp Code.wpIn n7 hU oX oR iB eW cM cN bodyPostM dX
end Go.Proofs.YtelbollidfdcjaaGreat
namespace Go.Proofs.YtelbollidfdcjaaGreat
open Go Go.T
set_option maxHeartbeats 4000000
structure Pd (y : aj) (a : dF) : Prop where
  len : y.moves.length ≤ a.bY.length
  q7 : a.bY.length ≤ 1000
  first : ∀ x ∈ a.first, -1000 ≤ x ∧ x ≤ 1000
  bY : ∀ x ∈ a.bY, -1000 ≤ x ∧ x ≤ 1000
theorem Pd.up {y : aj} {a : dF} (h : Pd y a) {bin time : Int} (hb : bin.toNat < a.first.length) {k : Nat} (hk : k ≤ y.moves.length) : -3000000 ≤ eD y a bin time k ∧ eD y a bin time k ≤ 3000000 := by
 have h1 := h.len
 have h2 := h.q7
 have := IZ (y := y) (bin := bin) (time := time) (B := 1000) (by omega) h.first h.bY hb k (by omega)
 omega
attribute [local irreducible] gP e9 mA oA iG iE iK g9 iL oc iA oM dV fo n6 gC oW nth fS dY ay dP bodyPost Exit.then Exit.inBlock Code.wp Code.wpIn n7 hU oX oR iB eW cM cN bodyPostM dX
end Go.Proofs.YtelbollidfdcjaaGreat
namespace Go.T
open Go Go.RowKit
section
variable {P : Program} {fr : Fr} {ops : Array Oper} {A : As} {rest : List Oper} {K : As → List (As × Fx) → Prop} {d : Nat} {t ty' : TypeId} {p : String} {e : Array Edge} [T : lM P]
end
end Go.T
namespace Go.T
open Go Go.RowKit
section
variable {P : Program} {fr : Fr} {ops : Array Oper} {A : As} {rest : List Oper} {K : As → List (As × Fx) → Prop} {d : Nat} {t ty' : TypeId} {p : String} {e : Array Edge} [T : lM P]
end
end Go.T
namespace Go.T
open Go Go.RowKit
section
variable {P : Program} {fr : Fr} {A : As} {Q : Exit → Act → World → Prop} {c : Code}
end
section
variable {P : Program} {fr : Fr} {ops : Array Oper} {A : As} {rest : List Oper} {K : As → List (As × Fx) → Prop} {d : Nat} {t ty' : TypeId} {p : String} {e : Array Edge} [T : lM P]
end
end Go.T
namespace Go.T
open Go Go.RowKit
section
variable {P : Program} {A : As} {fn : Func} {n : Nat} {w0 : World} {M0 : bD} {F : List Nat} {post : List (Nat × Cont)} [T : lM P]
end
end Go.T
namespace Go.T
open Go Go.RowKit
section
variable {P : Program} {fr : Fr} {ops : Array Oper} {A : As} {rest : List Oper} {K : As → List (As × Fx) → Prop} {d : Nat} {t ty' : TypeId} {p : String} {e : Array Edge} [T : lM P]
end
end Go.T
namespace Go.Proofs.YtelbollidfdcjaaGreat
open Go Go.T
set_option maxHeartbeats 8000000
section
variable {d : Md} {s : Sk} {k i : Nat} {p : (List Move × List Int) × Sk} {y : aj} {a : dF} {m : Move} {n : Int}
end
attribute [local irreducible] Md.D Md.Q1 Md.nb Md.bs Md.first Md.vF Md.F7 Md.many Md.src Md.dst Md.IN Md.day Md.num Md.ms Md.bY Md.EH Md.most Md.hs Md.Nr Md.Q0 Md.nl Md.ls Md.E9 cq uw wW zl tQ kM cA eO mj K7 Md.G0 Md.G5
attribute [local irreducible] gP e9 mA oA iG iE iK g9 iL oc iA oM dV fo n6 gC oW nth fS dY ay dP bodyPost Exit.then Exit.inBlock Code.wp Code.wpIn n7 hU oX oR iB eW cM cN bodyPostM dX
end Go.Proofs.YtelbollidfdcjaaGreat
namespace Go.Proofs.YtelbollidfdcjaaGreat
open Go Go.T
set_option maxHeartbeats 8000000
structure Rm (a : dF) : Prop where
  q7 : a.bY.length ≤ 1000
  first : ∀ x ∈ a.first, -1000 ≤ x ∧ x ≤ 1000
  bY : ∀ x ∈ a.bY, -1000 ≤ x ∧ x ≤ 1000
open Classical in
noncomputable def rH (y : aj) (a : dF) : Bool := decide (dm y (fun _ => true) a)
section
variable {y : aj} {a : dF} {b t k : Nat}
open Classical in
theorem zm (h : dm y (fun _ => true) a) : rH y a = true := by unfold rH; exact decide_eq_true h
open Classical in
theorem yW (h : ¬ dm y (fun _ => true) a) : rH y a = false := by unfold rH; exact decide_eq_false h
open Classical in
theorem Mp (h : rH y a = true) : dm y (fun _ => true) a := by unfold rH at h; exact of_decide_eq_true h
theorem LA (h : (!decide ((a.first.length : Int) = y.bins.length) || !decide ((a.bY.length : Int) = y.moves.length)) = false) : yH y a := by
 rw [Bool.or_eq_false_iff, Bool.not_eq_false', Bool.not_eq_false', decide_eq_true_eq, decide_eq_true_eq] at h
 exact ⟨by omega, by omega⟩
end
attribute [local irreducible] cq rH
attribute [local irreducible] gP e9 mA oA iG iE iK g9 iL oc iA oM dV fo n6 gC oW nth fS dY ay dP bodyPost Exit.then Exit.inBlock Code.wp Code.wpIn n7 hU oX oR iB eW cM cN bodyPostM dX
end Go.Proofs.YtelbollidfdcjaaGreat
namespace Go.Proofs.YtelbollidfdcjaaGreat
open Go Go.T
section
variable {d : Md} {v : Bool} {c : Nat → Bool} {y : aj} {b t k n : Nat} {l : List tR}
variable {f : Nat → Nat → Int}
end
end Go.Proofs.YtelbollidfdcjaaGreat
namespace Go.Proofs.YtelbollidfdcjaaGreat
open Go Go.T
set_option maxHeartbeats 4000000
theorem jy (n lo hi : Int) : jw n lo hi = !yY n lo hi := by
 rw [Bool.eq_iff_iff]
 simp only [jw, Bool.or_eq_true, decide_eq_true_eq, Bool.not_eq_true', Bool.eq_false_iff, ne_eq, dL]
 omega
def zA (s : Span) : Bool := jw s.lo 0 300 || jw s.hi 0 300
def pS (y : aj) : Bool := ((jw y.days 1 5 || jw y.bins.length 1 4) || decide ((y.moves.length : Int) > 10)) || decide ((y.levels.length : Int) > 8)
def uz (b : tR) : Bool := jw b.holds 0 300 || zA b.first
def Cg (b : tR) : Bool := decide (b.first.lo > b.first.hi)
def zW (m : Move) : Bool := zA m.sacks
def notM (y : aj) (m : Move) : Bool := (jw m.day 0 (y.days - 1) || jw m.src (-1) ((y.bins.length : Int) - 1)) || jw m.dst (-1) ((y.bins.length : Int) - 1)
def Mg (m : Move) : Bool := decide (m.src = m.dst)
def IM (m : Move) : Bool := decide (m.sacks.lo > m.sacks.hi)
def F0 (l : Level) : Bool := zA l.sacks
def JX (y : aj) (l : Level) : Bool := jw l.day 0 y.days || jw l.bin 0 ((y.bins.length : Int) - 1)
def NX (l : Level) : Bool := decide (l.sacks.lo > l.sacks.hi)
def m7 {α : Type} (p : α → Bool) (l : List α) (k : Nat) : Bool := (l.take k).any p
section
variable {α : Type} {p : α → Bool} {l : List α} {k : Nat}
theorem iD [Inhabited α] (h : k < l.length) : (m7 p l k || p (nth l k)) = m7 p l (k + 1) := by
 unfold m7; rw [cV h, List.any_append]; simp
theorem fO (h : ¬ (k : Int) < (l.length : Int)) : m7 p l k = l.any p := by
 unfold m7; rw [List.take_of_length_le (by omega)]
end
def N7 (y : aj) : Bool := (y.bins.any uz || y.moves.any zW) || y.levels.any F0
def O9 (y : aj) : Bool := y.moves.any (notM y) || y.levels.any (JX y)
def OW (y : aj) : Bool := y.moves.any Mg
def Po (y : aj) : Bool := (y.bins.any Cg || y.moves.any IM) || y.levels.any NX
def jI (y : aj) : Int := if pS y = true then 2 else if N7 y = true then 3 else if O9 y = true then 1 else if OW y = true then 5 else if Po y = true then 4 else 0
theorem lz {α : Type} {p q : α → Bool} {l : List α} (h : ∀ x ∈ l, p x = !q x) : l.any p = !l.all q := by
  induction l with
  | nil => rfl
  | cons x l ih => rw [List.any_cons, List.all_cons, ih fun y hy => h y (List.mem_cons_of_mem _ hy), h x List.mem_cons_self, Bool.not_and]
theorem oF (s : Span) : zA s = !fI s := by unfold zA fI; rw [jy, jy, Bool.not_and]
theorem NZ (y : aj) : pS y = k8 y := by unfold pS k8; rw [jy, jy]
theorem Pv (y : aj) : N7 y = (kP y || iz y) := by
 unfold N7 kP iz
 rw [lz (q := fun b : tR => yY b.holds 0 300 && fI b.first) fun b _ => by unfold uz; rw [jy, oF, Bool.not_and],
  lz (p := zW) (q := fun m : Move => fI m.sacks) fun m _ => oF _, lz (p := F0) (q := fun m : Level => fI m.sacks) fun m _ => oF _, Bool.or_assoc]
theorem FQ (y : aj) (n : Int) : jw n (-1) ((y.bins.length : Int) - 1) = !y.fin n := by
 unfold aj.fin aj.bin
 rw [jy]
 congr 1
 rw [Bool.eq_iff_iff]
 simp only [Bool.or_eq_true, decide_eq_true_eq, dL]
 omega
theorem P2 (y : aj) : O9 y = (wg y || rG y) := by
 unfold O9 wg rG
 rw [lz (q := fun m : Move => (yY m.day 0 (y.days - 1) && y.fin m.src) && y.fin m.dst) fun m _ => by unfold notM; rw [jy, FQ, FQ, Bool.not_and, Bool.not_and],
  lz (p := JX y) (q := fun l : Level => y.time l.day && y.bin l.bin) fun l _ => by unfold JX aj.time aj.bin; rw [jy, jy, Bool.not_and]]
theorem Qo (y : aj) : OW y = pK y := by
 unfold OW pK
 exact lz fun m _ => by unfold Mg; rw [Bool.not_not]
theorem or_eq (y : aj) : Po y = pO y := by
 have e : ∀ s : Span, decide (s.lo > s.hi) = !ff s := fun s => by
  unfold ff; rw [Bool.eq_iff_iff]; simp only [decide_eq_true_eq, Bool.not_eq_true', decide_eq_false_iff_not]; omega
 unfold Po pO
 rw [lz (p := Cg) (q := fun b : tR => ff b.first) fun b _ => e _, lz (p := IM) (q := fun b : Move => ff b.sacks) fun b _ => e _, lz (p := NX) (q := fun b : Level => ff b.sacks) fun b _ => e _]
theorem check_eq (y : aj) : jI y = bH y := by
 unfold jI bH
 rw [NZ, Pv, P2, Qo, or_eq]
 cases k8 y <;> cases kP y <;> cases iz y <;> cases wg y <;> cases rG y <;> rfl
theorem Rh (a b c d : Bool) : (((a || b) || c) || d) = (a || ((b || c) || d)) := by cases a <;> rfl
theorem RD (a b c d : Bool) : (((a || b) || c) || d) = (a || (b || (c || d))) := by cases a <;> cases b <;> rfl
section
variable {y : aj} {b c : Bool}
theorem Q7 (h : pS y = true) : 2 = jI y := (if_pos h).symm
theorem RP (h : pS y = false) (h1 : b = true) (e : b = N7 y) : 3 = jI y := by unfold jI; rw [if_neg (ng h), if_pos (e ▸ h1)]
theorem RF (h : pS y = false) (h1 : b = false) (e : b = N7 y) {b2 : Bool} (h2 : b2 = true) (e2 : b2 = O9 y) : 1 = jI y := by
 subst e; subst e2; unfold jI; rw [if_neg (ng h), if_neg (ng h1), if_pos h2]
theorem Q9 (h : pS y = false) (h1 : b = false) (e : b = N7 y) {b2 b3 : Bool} (h2 : b2 = false) (e2 : b2 = O9 y) (h3 : b3 = true) (e3 : b3 = OW y) : 5 = jI y := by
 subst e; subst e2; subst e3; unfold jI; rw [if_neg (ng h), if_neg (ng h1), if_neg (ng h2), if_pos h3]
theorem Q4 (h : pS y = false) (h1 : b = false) (e : b = N7 y) {b2 b3 b4 : Bool} (h2 : b2 = false) (e2 : b2 = O9 y) (h3 : b3 = false) (e3 : b3 = OW y) (h4 : b4 = true) (e4 : b4 = Po y) : 4 = jI y := by
 subst e; subst e2; subst e3; subst e4; unfold jI; rw [if_neg (ng h), if_neg (ng h1), if_neg (ng h2), if_neg (ng h3), if_pos h4]
theorem RK (h : pS y = false) (h1 : b = false) (e : b = N7 y) {b2 b3 b4 : Bool} (h2 : b2 = false) (e2 : b2 = O9 y) (h3 : b3 = false) (e3 : b3 = OW y) (h4 : b4 = false) (e4 : b4 = Po y) : 0 = jI y := by
 subst e; subst e2; subst e3; subst e4; unfold jI; rw [if_neg (ng h), if_neg (ng h1), if_neg (ng h2), if_neg (ng h3), if_neg (ng h4)]
theorem EL (h : pS y = false) : (1 ≤ y.days ∧ y.days ≤ 5) ∧ (1 ≤ (y.bins.length : Int) ∧ (y.bins.length : Int) ≤ 4) := by
 unfold pS at h
 simp only [Bool.or_eq_false_iff, jy, Bool.not_eq_false', dL] at h
 exact h.1.1
end
attribute [local irreducible] gP e9 mA oA iG iE iK g9 iL oc iA oM dV fo n6 gC oW nth fS dY ay dP bodyPost Exit.then Exit.inBlock Code.wp Code.wpIn n7 hU oX oR iB eW cM cN bodyPostM dX
set_option maxRecDepth 100000 in
theorem lY (n lo hi : Int) : dP Tryz.prog 97 [Ty.int .i64 n, Ty.int .i64 lo, Ty.int .i64 hi] (Ty.bool (jw n lo hi)) := by
 refine ak Tryz.func97 rfl (by decide) Tryz.ntmps97 (by exact Nat.le_of_ble_eq_true rfl) fun w0 M0 => ?_
 refine aE (aA (dK rfl (aD (aC (aE (aA (bG rfl (bG rfl (bB rfl rfl rfl ?_)))))))))
 refine eY rfl ?_
 apply aM (s := 10) rfl rfl rfl
 ·intro hg; apply aO; (refine bG rfl ?_); refine aD ?_; exact rfl
 ·exact rfl
 ·exact rfl
 apply aM (s := 10) rfl rfl rfl
 ·intro hg; apply aO; (refine bG rfl ?_); refine aD ?_; exact rfl
 ·exact rfl
 ·exact rfl
 apply aM (s := 10) rfl rfl rfl
 ·intro hg; apply aH (s := 11) rfl (by (rw [hg]; rfl)); apply aH (s := 12) rfl (by (rw [hg]; rfl)); apply aO; (refine bB rfl rfl rfl ?_); refine aD ?_; exact rfl
 ·exact rfl
 ·exact rfl
 refine gN rfl rfl (dK rfl (aD (aC (az (bU rfl rfl ?_)))))
 all_goals exact cE rfl rfl
set_option maxRecDepth 100000 in
theorem Ae (s : Span) : dP Tryz.prog 98 [Ty.agg (bX.tys s)] (Ty.bool (zA s)) := by
 refine ak Tryz.func98 rfl (by decide) Tryz.ntmps98 (by exact Nat.le_of_ble_eq_true rfl) fun w0 M0 => ?_
 refine aE (aA (bF rfl (dK rfl (aD (aC (aE (aA ?_)))))))
 refine aI rfl rfl rfl rfl rfl (by decide) ?_
 refine aJ rfl rfl rfl rfl (aZ (lY _ _ _) rfl rfl rfl rfl rfl (eY rfl ?_))
 apply aM (s := 6) rfl rfl rfl
 ·intro hg; apply aO; (refine aI rfl rfl rfl rfl rfl (by decide) ?_); refine aD ?_; exact rfl
 ·exact rfl
 ·exact rfl
 apply aM (s := 6) rfl rfl rfl
 ·intro hg; apply aH (s := 7) rfl (by (rw [hg]; rfl)); apply aO; (refine aJ rfl rfl rfl rfl ?_); refine aD ?_; exact rfl
 ·exact rfl
 ·exact rfl
 apply aM (s := 6) rfl rfl rfl
 ·intro hg; apply aH (s := 8) rfl (by (rw [hg]; rfl)); apply aO; (refine aZ (lY _ _ _) rfl rfl rfl rfl rfl ?_); refine aD ?_; exact rfl
 ·exact rfl
 ·exact rfl
 refine gN rfl rfl (dK rfl (aD (aC (az (bU rfl rfl ?_)))))
 all_goals exact cE rfl rfl
set_option maxRecDepth 100000 in
theorem Bk (y : aj) (hs : y.Small) : dP Tryz.prog 31 [eB y] (Ty.int .i64 (jI y)) := by
 refine ak Tryz.func31 rfl (by decide) Tryz.ntmps31 (by exact Nat.le_of_ble_eq_true rfl) fun w0 M0 => ?_
 have hs1 := hs.bins
 have hs2 := hs.moves
 have hs3 := hs.levels
 refine aE (aA (bF rfl (bu rfl (aD (aC (aE (aE (aA ?_))))))))
 refine aI rfl rfl rfl rfl rfl (by decide) ?_
 refine aJ rfl rfl rfl rfl (aZ (lY _ _ _) rfl rfl rfl rfl rfl (eY rfl ?_))
 apply aM (s := 15) rfl rfl rfl
 ·intro hg; apply aO; (refine aI rfl rfl rfl rfl rfl (by decide) ?_); refine aD ?_; exact rfl
 ·exact rfl
 ·exact rfl
 apply aM (s := 15) rfl rfl rfl
 ·intro hg; apply aH (s := 16) rfl (by (rw [hg]; rfl)); apply aO; (refine aJ rfl rfl rfl rfl ?_); refine aD ?_; exact rfl
 ·exact rfl
 ·exact rfl
 apply aM (s := 15) rfl rfl rfl
 ·intro hg; apply aH (s := 17) rfl (by (rw [hg]; rfl)); apply aO; (refine b9 rfl rfl rfl ?_); refine aD ?_; exact rfl
 ·exact rfl
 ·exact rfl
 apply aM (s := 15) rfl rfl rfl
 ·intro hg; apply aH (s := 18) rfl (by (rw [hg]; rfl)); apply aO; (refine aZ (lY _ _ _) rfl rfl rfl rfl rfl ?_); refine aD ?_; exact rfl
 ·exact rfl
 ·exact rfl
 refine gN rfl rfl (eY rfl ?_)
 apply aM (s := 21) rfl rfl rfl
 ·intro hg; apply aO; (refine aI rfl rfl rfl rfl rfl (by decide) ?_); refine aD ?_; exact rfl
 ·exact rfl
 ·exact rfl
 apply aM (s := 21) rfl rfl rfl
 ·intro hg; apply aH (s := 22) rfl (by (rw [hg]; rfl)); apply aO; (refine aJ rfl rfl rfl rfl ?_); refine aD ?_; exact rfl
 ·exact rfl
 ·exact rfl
 apply aM (s := 21) rfl rfl rfl
 ·intro hg; apply aH (s := 23) rfl (by (rw [hg]; rfl)); apply aO; (refine b9 rfl rfl rfl ?_); refine aD ?_; exact rfl
 ·exact rfl
 ·exact rfl
 apply aM (s := 21) rfl rfl rfl
 ·intro hg; apply aH (s := 24) rfl (by (rw [hg]; rfl)); apply aO; (refine bB rfl rfl rfl ?_); refine aD ?_; exact rfl
 ·exact rfl
 ·exact rfl
 refine gN rfl rfl (eY rfl ?_)
 apply aM (s := 27) rfl rfl rfl
 ·intro hg; apply aO; (refine aI rfl rfl rfl rfl rfl (by decide) ?_); refine aD ?_; exact rfl
 ·exact rfl
 ·exact rfl
 apply aM (s := 27) rfl rfl rfl
 ·intro hg; apply aH (s := 28) rfl (by (rw [hg]; rfl)); apply aO; (refine aJ rfl rfl rfl rfl ?_); refine aD ?_; exact rfl
 ·exact rfl
 ·exact rfl
 apply aM (s := 27) rfl rfl rfl
 ·intro hg; apply aH (s := 29) rfl (by (rw [hg]; rfl)); apply aO; (refine b9 rfl rfl rfl ?_); refine aD ?_; exact rfl
 ·exact rfl
 ·exact rfl
 apply aM (s := 27) rfl rfl rfl
 ·intro hg; apply aH (s := 30) rfl (by (rw [hg]; rfl)); apply aO; (refine bB rfl rfl rfl ?_); refine aD ?_; exact rfl
 ·exact rfl
 ·exact rfl
 refine gN rfl rfl (aD (aC ?_))
 refine cC rfl (fun hc1 => ?_) (fun hc1 => ?_)
 ·
  refine aE (aA (bu rfl (aD (aC (az (aS (bU rfl rfl ?_)))))))
  all_goals skip
  exact av rfl rfl (congrArg (Ty.int .i64) (Q7 hc1))
 refine af (aC (aE ?_))
 have hmy := EL hc1
 refine aA (dK rfl (dK rfl (dK rfl (dK rfl (aD (aC (aE (aE (aA ?_)))))))))
 refine bu rfl (aD (aC (aa ?_)))
 refine cG (fun (k : {k : Nat // k ≤ y.bins.length}) => live [(1, Ty.pp (bA y)), (3, Ty.bool (m7 uz y.bins k.1)), (4, Ty.bool false), (5, Ty.bool false), (6, Ty.bool (m7 Cg y.bins k.1)), (7, Ty.int .i64 (k.1 : Nat))] []) (fun k => y.bins.length - k.1) (⟨0, by omega⟩) ?_ fun k => ?_
 ·(refine cg.mk' ?_ ?_ <;> (repeat' (first | exact aL | exact aK | refine aB ?_ (Ty.aT _) | refine aB ?_ (Ty.aF _))))
  all_goals trace_state
 have hk := k.2
 refine aE (aE (aA (bG rfl ?_)))
 refine aI rfl rfl rfl rfl rfl (by decide) ?_
 refine aJ rfl rfl rfl rfl (b9 rfl rfl rfl (bB rfl rfl rfl (aD (aC ?_))))
 refine aq rfl (fun hc2 => ?_) (fun hc2 => ?_)
 ·
  refine af (aC (aE (aa (aE (aA (eY rfl (eY rfl ?_)))))))
  apply aM (s := 41) rfl rfl rfl
  ·intro hg; apply aO; (refine aI rfl rfl rfl rfl rfl (by decide) ?_); refine aD ?_; exact rfl
  ·exact rfl
  ·exact rfl
  apply aM (s := 41) rfl rfl rfl
  ·intro hg; apply aH (s := 42) rfl (by (rw [hg]; rfl)); apply aO; (refine aJ rfl rfl rfl rfl ?_); refine aD ?_; exact rfl
  ·exact rfl
  ·exact rfl
  apply aM (s := 41) rfl rfl rfl
  ·intro hg; apply aO; (refine bG rfl ?_); refine aD ?_; exact rfl
  ·exact rfl
  ·exact rfl
  apply aM (s := 41) rfl rfl rfl
  ·intro hg; apply aH (s := 43) rfl (by (rw [hg]; rfl)); apply aH (s := 44) rfl (by (rw [hg]; rfl)); apply aO; (refine au rfl rfl rfl rfl rfl rfl (by omega) ?_); refine aD ?_; exact rfl
  ·exact rfl
  ·exact rfl
  apply aM (s := 41) rfl rfl rfl
  ·intro hg; apply aH (s := 45) rfl (by (rw [hg]; rfl)); apply aO; (refine aI rfl rfl rfl rfl rfl (by decide) ?_); refine aD ?_; exact rfl
  ·exact rfl
  ·exact rfl
  apply aM (s := 41) rfl rfl rfl
  ·intro hg; apply aH (s := 46) rfl (by (rw [hg]; rfl)); apply aO; (refine aJ rfl rfl rfl rfl ?_); refine aD ?_; exact rfl
  ·exact rfl
  ·exact rfl
  apply aM (s := 41) rfl rfl rfl
  ·intro hg; apply aH (s := 47) rfl (by (rw [hg]; rfl)); apply aO; (refine aZ (lY _ _ _) rfl rfl rfl rfl rfl ?_); refine aD ?_; exact rfl
  ·exact rfl
  ·exact rfl
  refine gN rfl rfl (eY rfl ?_)
  apply aM (s := 50) rfl rfl rfl
  ·intro hg; apply aO; (refine aI rfl rfl rfl rfl rfl (by decide) ?_); refine aD ?_; exact rfl
  ·exact rfl
  ·exact rfl
  apply aM (s := 50) rfl rfl rfl
  ·intro hg; apply aH (s := 51) rfl (by (rw [hg]; rfl)); apply aO; (refine aJ rfl rfl rfl rfl ?_); refine aD ?_; exact rfl
  ·exact rfl
  ·exact rfl
  apply aM (s := 50) rfl rfl rfl
  ·intro hg; apply aO; (refine bG rfl ?_); refine aD ?_; exact rfl
  ·exact rfl
  ·exact rfl
  apply aM (s := 50) rfl rfl rfl
  ·intro hg; apply aH (s := 52) rfl (by (rw [hg]; rfl)); apply aH (s := 53) rfl (by (rw [hg]; rfl)); apply aO; (refine au rfl rfl rfl rfl rfl rfl (by omega) ?_); refine aD ?_; exact rfl
  ·exact rfl
  ·exact rfl
  apply aM (s := 50) rfl rfl rfl
  ·intro hg; apply aH (s := 54) rfl (by (rw [hg]; rfl)); apply aO; (refine aI rfl rfl rfl rfl rfl (by decide) ?_); refine aD ?_; exact rfl
  ·exact rfl
  ·exact rfl
  apply aM (s := 50) rfl rfl rfl
  ·intro hg; apply aH (s := 55) rfl (by (rw [hg]; rfl)); apply aO; (refine aX rfl rfl rfl (by exact Nat.le_of_ble_eq_true rfl) ?_); refine aD ?_; exact rfl
  ·exact rfl
  ·exact rfl
  apply aM (s := 50) rfl rfl rfl
  ·intro hg; apply aH (s := 56) rfl (by (rw [hg]; rfl)); apply aO; (refine aZ (Ae _) rfl rfl rfl rfl rfl ?_); refine aD ?_; exact rfl
  ·exact rfl
  ·exact rfl
  refine gN rfl rfl (dK rfl (aD (aC (cL mixed rfl (eY rfl (eY rfl ?_))))))
  apply aM (s := 60) rfl rfl rfl
  ·intro hg; apply aO; (refine aI rfl rfl rfl rfl rfl (by decide) ?_); refine aD ?_; exact rfl
  ·exact rfl
  ·exact rfl
  apply aM (s := 60) rfl rfl rfl
  ·intro hg; apply aH (s := 61) rfl (by (rw [hg]; rfl)); apply aO; (refine aJ rfl rfl rfl rfl ?_); refine aD ?_; exact rfl
  ·exact rfl
  ·exact rfl
  apply aM (s := 60) rfl rfl rfl
  ·intro hg; apply aO; (refine bG rfl ?_); refine aD ?_; exact rfl
  ·exact rfl
  ·exact rfl
  apply aM (s := 60) rfl rfl rfl
  ·intro hg; apply aH (s := 62) rfl (by (rw [hg]; rfl)); apply aH (s := 63) rfl (by (rw [hg]; rfl)); apply aO; (refine au rfl rfl rfl rfl rfl rfl (by omega) ?_); refine aD ?_; exact rfl
  ·exact rfl
  ·exact rfl
  apply aM (s := 60) rfl rfl rfl
  ·intro hg; apply aH (s := 64) rfl (by (rw [hg]; rfl)); apply aO; (refine aI rfl rfl rfl rfl rfl (by decide) ?_); refine aD ?_; exact rfl
  ·exact rfl
  ·exact rfl
  apply aM (s := 60) rfl rfl rfl
  ·intro hg; apply aH (s := 65) rfl (by (rw [hg]; rfl)); apply aO; (refine aI rfl rfl rfl rfl rfl (by decide) ?_); refine aD ?_; exact rfl
  ·exact rfl
  ·exact rfl
  apply aM (s := 60) rfl rfl rfl
  ·intro hg; apply aH (s := 66) rfl (by (rw [hg]; rfl)); apply aO; (refine aJ rfl rfl rfl rfl ?_); refine aD ?_; exact rfl
  ·exact rfl
  ·exact rfl
  apply aM (s := 60) rfl rfl rfl
  ·intro hg; apply aO; (refine aI rfl rfl rfl rfl rfl (by decide) ?_); refine aD ?_; exact rfl
  ·exact rfl
  ·exact rfl
  apply aM (s := 60) rfl rfl rfl
  ·intro hg; apply aH (s := 68) rfl (by (rw [hg]; rfl)); apply aO; (refine aJ rfl rfl rfl rfl ?_); refine aD ?_; exact rfl
  ·exact rfl
  ·exact rfl
  apply aM (s := 60) rfl rfl rfl
  ·intro hg; apply aO; (refine bG rfl ?_); refine aD ?_; exact rfl
  ·exact rfl
  ·exact rfl
  apply aM (s := 60) rfl rfl rfl
  ·intro hg; apply aH (s := 69) rfl (by (rw [hg]; rfl)); apply aH (s := 70) rfl (by (rw [hg]; rfl)); apply aO; (refine au rfl rfl rfl rfl rfl rfl (by omega) ?_); refine aD ?_; exact rfl
  ·exact rfl
  ·exact rfl
  apply aM (s := 60) rfl rfl rfl
  ·intro hg; apply aH (s := 71) rfl (by (rw [hg]; rfl)); apply aO; (refine aI rfl rfl rfl rfl rfl (by decide) ?_); refine aD ?_; exact rfl
  ·exact rfl
  ·exact rfl
  apply aM (s := 60) rfl rfl rfl
  ·intro hg; apply aH (s := 72) rfl (by (rw [hg]; rfl)); apply aO; (refine aI rfl rfl rfl rfl rfl (by decide) ?_); refine aD ?_; exact rfl
  ·exact rfl
  ·exact rfl
  apply aM (s := 60) rfl rfl rfl
  ·intro hg; apply aH (s := 73) rfl (by (rw [hg]; rfl)); apply aO; (refine aJ rfl rfl rfl rfl ?_); refine aD ?_; exact rfl
  ·exact rfl
  ·exact rfl
  apply aM (s := 60) rfl rfl rfl
  ·intro hg; apply aH (s := 67) rfl (by (rw [hg]; rfl)); apply aH (s := 74) rfl (by (rw [hg]; rfl)); apply aO; (refine bB rfl rfl rfl ?_); refine aD ?_; exact rfl
  ·exact rfl
  ·exact rfl
  refine gN rfl rfl (dK rfl (aD ?_))
  refine ⟨by kernel_rfl, ?_⟩
  refine bM (aC (aA (bG rfl ?_)))
  refine cB rfl rfl (by omega) (by omega) ?_
  refine bu rfl (aD ?_)
  refine bR (⟨k.1 + 1, by omega⟩) ?_ (by show y.bins.length - (k.1 + 1) < y.bins.length - k.1; omega)
  (refine cg.mk' ?_ ?_ <;> (repeat' (first | exact aL | exact aK | refine aB ?_ (Ty.aT _) | refine aB ?_ (Ty.aF _) | refine aB ?_ ?_)))
  all_goals skip
  all_goals first | exact Ty.eF ((Bool.or_assoc _ _ _).trans (iD (p := uz) (by omega))) | exact Ty.eF (iD (p := Cg) (by omega))
 refine cH (aP (aP (ah rfl (aC (aE (aE (aA (bu rfl (aD ?_)))))))))
 refine aC (aa ?_)
 refine cG (fun (m : {k : Nat // k ≤ y.moves.length}) => live [(1, Ty.pp (bA y)), (3, Ty.bool (y.bins.any uz || m7 zW y.moves m.1)), (4, Ty.bool (m7 (notM y) y.moves m.1)), (5, Ty.bool (m7 Mg y.moves m.1)), (6, Ty.bool (y.bins.any Cg || m7 IM y.moves m.1)), (8, Ty.int .i64 (m.1 : Nat))] []) (fun m => y.moves.length - m.1) (⟨0, by omega⟩) ?_ fun m => ?_
 ·(refine cg.mk' ?_ ?_ <;> (repeat' (first | exact aL | exact aK | refine aB ?_ (Ty.aT _) | refine aB ?_ (Ty.aF _) | refine aB ?_ ?_)))
  all_goals exact Ty.eF ((fO hc2).trans (Bool.or_false _).symm)
 have hm := m.2
 refine aE (aE (aA (bG rfl ?_)))
 refine aI rfl rfl rfl rfl rfl (by decide) ?_
 refine aJ rfl rfl rfl rfl (b9 rfl rfl rfl (bB rfl rfl rfl (aD (aC ?_))))
 refine aq rfl (fun hc3 => ?_) (fun hc3 => ?_)
 ·
  refine af (aC (aE (aa (aE (aA ?_)))))
  refine aI rfl rfl rfl rfl rfl (by decide) ?_
  refine aJ rfl rfl rfl rfl (bG rfl ?_)
  refine au rfl rfl rfl rfl rfl rfl (by omega) ?_
  refine aX rfl rfl rfl (by exact Nat.le_of_ble_eq_true rfl) ?_
  refine bh rfl (by exact List.cons_ne_nil _ _) rfl ?_
  refine bO rfl rfl (by decide) rfl rfl rfl rfl rfl rfl ?_
  refine aD (aC (aE (aA (eY rfl (eY rfl ?_)))))
  apply aM (s := 90) rfl rfl rfl
  ·intro hg; apply aO; (refine aR rfl rfl rfl rfl rfl (by decide) ?_); refine aD ?_; exact rfl
  ·exact rfl
  ·exact rfl
  apply aM (s := 90) rfl rfl rfl
  ·intro hg; apply aH (s := 91) rfl (by (rw [hg]; rfl)); apply aO; (refine bP rfl rfl (by decide) rfl rfl (by exact Nat.le_of_ble_eq_true rfl) ?_); refine aD ?_; exact rfl
  ·exact rfl
  ·exact rfl
  apply aM (s := 90) rfl rfl rfl
  ·intro hg; apply aH (s := 92) rfl (by (rw [hg]; rfl)); apply aO; (refine aZ (Ae _) rfl rfl rfl rfl rfl ?_); refine aD ?_; exact rfl
  ·exact rfl
  ·exact rfl
  refine gN rfl rfl (dK rfl (aD (aC (aE (aA (eY rfl (eY rfl ?_)))))))
  apply aM (s := 96) rfl rfl rfl
  ·intro hg; apply aO; (refine aR rfl rfl rfl rfl rfl (by decide) ?_); refine aD ?_; exact rfl
  ·exact rfl
  ·exact rfl
  apply aM (s := 96) rfl rfl rfl
  ·intro hg; apply aH (s := 97) rfl (by (rw [hg]; rfl)); apply aO; (refine aY rfl rfl (by decide) rfl rfl rfl ?_); refine aD ?_; exact rfl
  ·exact rfl
  ·exact rfl
  apply aM (s := 96) rfl rfl rfl
  ·intro hg; apply aO; (refine aI rfl rfl rfl rfl rfl (by decide) ?_); refine aD ?_; exact rfl
  ·exact rfl
  ·exact rfl
  apply aM (s := 96) rfl rfl rfl
  ·intro hg; apply aH (s := 99) rfl (by (rw [hg]; rfl)); apply aO; (refine aJ rfl rfl rfl rfl ?_); refine aD ?_; exact rfl
  ·exact rfl
  ·exact rfl
  apply aM (s := 96) rfl rfl rfl
  ·intro hg; apply aH (s := 100) rfl (by (rw [hg]; rfl)); apply aO; (refine gZ rfl rfl (by omega) (by omega) ?_); refine aD ?_; exact rfl
  ·exact rfl
  ·exact rfl
  apply aM (s := 96) rfl rfl rfl
  ·intro hg; apply aH (s := 98) rfl (by (rw [hg]; rfl)); apply aH (s := 101) rfl (by (rw [hg]; rfl)); apply aO; (refine aZ (lY _ _ _) rfl rfl rfl rfl rfl ?_); refine aD ?_; exact rfl
  ·exact rfl
  ·exact rfl
  refine gN rfl rfl (eY rfl ?_)
  apply aM (s := 104) rfl rfl rfl
  ·intro hg; apply aO; (refine aR rfl rfl rfl rfl rfl (by decide) ?_); refine aD ?_; exact rfl
  ·exact rfl
  ·exact rfl
  apply aM (s := 104) rfl rfl rfl
  ·intro hg; apply aH (s := 105) rfl (by (rw [hg]; rfl)); apply aO; (refine aY rfl rfl (by decide) rfl rfl rfl ?_); refine aD ?_; exact rfl
  ·exact rfl
  ·exact rfl
  apply aM (s := 104) rfl rfl rfl
  ·intro hg; apply aO; (refine aI rfl rfl rfl rfl rfl (by decide) ?_); refine aD ?_; exact rfl
  ·exact rfl
  ·exact rfl
  apply aM (s := 104) rfl rfl rfl
  ·intro hg; apply aH (s := 107) rfl (by (rw [hg]; rfl)); apply aO; (refine aJ rfl rfl rfl rfl ?_); refine aD ?_; exact rfl
  ·exact rfl
  ·exact rfl
  apply aM (s := 104) rfl rfl rfl
  ·intro hg; apply aH (s := 108) rfl (by (rw [hg]; rfl)); apply aO; (refine b9 rfl rfl rfl ?_); refine aD ?_; exact rfl
  ·exact rfl
  ·exact rfl
  apply aM (s := 104) rfl rfl rfl
  ·intro hg; apply aH (s := 109) rfl (by (rw [hg]; rfl)); apply aO; (refine gZ rfl rfl (by omega) (by omega) ?_); refine aD ?_; exact rfl
  ·exact rfl
  ·exact rfl
  apply aM (s := 104) rfl rfl rfl
  ·intro hg; apply aH (s := 106) rfl (by (rw [hg]; rfl)); apply aH (s := 110) rfl (by (rw [hg]; rfl)); apply aO; (refine aZ (lY _ _ _) rfl rfl rfl rfl rfl ?_); refine aD ?_; exact rfl
  ·exact rfl
  ·exact rfl
  refine gN rfl rfl (eY rfl ?_)
  apply aM (s := 113) rfl rfl rfl
  ·intro hg; apply aO; (refine aR rfl rfl rfl rfl rfl (by decide) ?_); refine aD ?_; exact rfl
  ·exact rfl
  ·exact rfl
  apply aM (s := 113) rfl rfl rfl
  ·intro hg; apply aH (s := 114) rfl (by (rw [hg]; rfl)); apply aO; (refine aY rfl rfl (by decide) rfl rfl rfl ?_); refine aD ?_; exact rfl
  ·exact rfl
  ·exact rfl
  apply aM (s := 113) rfl rfl rfl
  ·intro hg; apply aO; (refine aI rfl rfl rfl rfl rfl (by decide) ?_); refine aD ?_; exact rfl
  ·exact rfl
  ·exact rfl
  apply aM (s := 113) rfl rfl rfl
  ·intro hg; apply aH (s := 116) rfl (by (rw [hg]; rfl)); apply aO; (refine aJ rfl rfl rfl rfl ?_); refine aD ?_; exact rfl
  ·exact rfl
  ·exact rfl
  apply aM (s := 113) rfl rfl rfl
  ·intro hg; apply aH (s := 117) rfl (by (rw [hg]; rfl)); apply aO; (refine b9 rfl rfl rfl ?_); refine aD ?_; exact rfl
  ·exact rfl
  ·exact rfl
  apply aM (s := 113) rfl rfl rfl
  ·intro hg; apply aH (s := 118) rfl (by (rw [hg]; rfl)); apply aO; (refine gZ rfl rfl (by omega) (by omega) ?_); refine aD ?_; exact rfl
  ·exact rfl
  ·exact rfl
  apply aM (s := 113) rfl rfl rfl
  ·intro hg; apply aH (s := 115) rfl (by (rw [hg]; rfl)); apply aH (s := 119) rfl (by (rw [hg]; rfl)); apply aO; (refine aZ (lY _ _ _) rfl rfl rfl rfl rfl ?_); refine aD ?_; exact rfl
  ·exact rfl
  ·exact rfl
  refine gN rfl rfl (dK rfl (aD (aC (aE (aA (eY rfl (eY rfl ?_)))))))
  apply aM (s := 123) rfl rfl rfl
  ·intro hg; apply aO; (refine aR rfl rfl rfl rfl rfl (by decide) ?_); refine aD ?_; exact rfl
  ·exact rfl
  ·exact rfl
  apply aM (s := 123) rfl rfl rfl
  ·intro hg; apply aH (s := 124) rfl (by (rw [hg]; rfl)); apply aO; (refine aY rfl rfl (by decide) rfl rfl rfl ?_); refine aD ?_; exact rfl
  ·exact rfl
  ·exact rfl
  apply aM (s := 123) rfl rfl rfl
  ·intro hg; apply aO; (refine aR rfl rfl rfl rfl rfl (by decide) ?_); refine aD ?_; exact rfl
  ·exact rfl
  ·exact rfl
  apply aM (s := 123) rfl rfl rfl
  ·intro hg; apply aH (s := 126) rfl (by (rw [hg]; rfl)); apply aO; (refine aY rfl rfl (by decide) rfl rfl rfl ?_); refine aD ?_; exact rfl
  ·exact rfl
  ·exact rfl
  apply aM (s := 123) rfl rfl rfl
  ·intro hg; apply aH (s := 125) rfl (by (rw [hg]; rfl)); apply aH (s := 127) rfl (by (rw [hg]; rfl)); apply aO; (refine bB rfl rfl rfl ?_); refine aD ?_; exact rfl
  ·exact rfl
  ·exact rfl
  refine gN rfl rfl (dK rfl (aD (aC (aA (eY rfl (eY rfl ?_))))))
  apply aM (s := 131) rfl rfl rfl
  ·intro hg; apply aO; (refine aR rfl rfl rfl rfl rfl (by decide) ?_); refine aD ?_; exact rfl
  ·exact rfl
  ·exact rfl
  apply aM (s := 131) rfl rfl rfl
  ·intro hg; apply aH (s := 132) rfl (by (rw [hg]; rfl)); apply aO; (refine aR rfl rfl rfl rfl rfl (by decide) ?_); refine aD ?_; exact rfl
  ·exact rfl
  ·exact rfl
  apply aM (s := 131) rfl rfl rfl
  ·intro hg; apply aH (s := 133) rfl (by (rw [hg]; rfl)); apply aO; (refine aY rfl rfl (by decide) rfl rfl rfl ?_); refine aD ?_; exact rfl
  ·exact rfl
  ·exact rfl
  apply aM (s := 131) rfl rfl rfl
  ·intro hg; apply aO; (refine aR rfl rfl rfl rfl rfl (by decide) ?_); refine aD ?_; exact rfl
  ·exact rfl
  ·exact rfl
  apply aM (s := 131) rfl rfl rfl
  ·intro hg; apply aH (s := 135) rfl (by (rw [hg]; rfl)); apply aO; (refine aR rfl rfl rfl rfl rfl (by decide) ?_); refine aD ?_; exact rfl
  ·exact rfl
  ·exact rfl
  apply aM (s := 131) rfl rfl rfl
  ·intro hg; apply aH (s := 136) rfl (by (rw [hg]; rfl)); apply aO; (refine aY rfl rfl (by decide) rfl rfl rfl ?_); refine aD ?_; exact rfl
  ·exact rfl
  ·exact rfl
  apply aM (s := 131) rfl rfl rfl
  ·intro hg; apply aH (s := 134) rfl (by (rw [hg]; rfl)); apply aH (s := 137) rfl (by (rw [hg]; rfl)); apply aO; (refine bB rfl rfl rfl ?_); refine aD ?_; exact rfl
  ·exact rfl
  ·exact rfl
  refine gN rfl rfl (dK rfl (aD (bM (aC (aA (bG rfl ?_))))))
  refine cB rfl rfl (by omega) (by omega) ?_
  refine bu rfl (aD ?_)
  refine bR (⟨m.1 + 1, by omega⟩) ?_ (by show y.moves.length - (m.1 + 1) < y.moves.length - m.1; omega)
  (refine cg.mk' ?_ ?_ <;> (repeat' (first | exact aL | exact aK | refine aB ?_ (Ty.aT _) | refine aB ?_ (Ty.aF _) | refine aB ?_ ?_)))
  all_goals skip
  all_goals first | exact Ty.eF ((Bool.or_assoc _ _ _).trans (congrArg (y.bins.any uz || ·) (iD (p := zW) (by omega)))) | exact Ty.eF ((Bool.or_assoc _ _ _).trans (congrArg (y.bins.any Cg || ·) (iD (p := IM) (by omega)))) | exact Ty.eF ((Rh _ _ _ _).trans (iD (p := notM y) (by omega))) | exact Ty.eF (iD (p := Mg) (by omega))
 refine cH (aP (aP (ah rfl (aC (aE (aE (aA (bu rfl (aD ?_)))))))))
 refine aC (aa ?_)
 refine cG (fun (n : {k : Nat // k ≤ y.levels.length}) => live [(1, Ty.pp (bA y)), (3, Ty.bool ((y.bins.any uz || y.moves.any zW) || m7 F0 y.levels n.1)), (4, Ty.bool (y.moves.any (notM y) || m7 (JX y) y.levels n.1)), (5, Ty.bool (OW y)), (6, Ty.bool ((y.bins.any Cg || y.moves.any IM) || m7 NX y.levels n.1)), (10, Ty.int .i64 (n.1 : Nat))] []) (fun n => y.levels.length - n.1) (⟨0, by omega⟩) ?_ fun n => ?_
 ·(refine cg.mk' ?_ ?_ <;> (repeat' (first | exact aL | exact aK | refine aB ?_ (Ty.aT _) | refine aB ?_ (Ty.aF _) | refine aB ?_ ?_)))
  all_goals first | exact Ty.eF ((congrArg (_ || ·) (fO hc3)).trans (Bool.or_false _).symm) | exact Ty.eF ((fO hc3).trans (Bool.or_false _).symm) | exact Ty.eF (fO hc3)
 have hn := n.2
 refine aE (aE (aA (bG rfl ?_)))
 refine aI rfl rfl rfl rfl rfl (by decide) ?_
 refine aJ rfl rfl rfl rfl (b9 rfl rfl rfl (bB rfl rfl rfl (aD (aC ?_))))
 refine aq rfl (fun hc4 => ?_) (fun hc4 => ?_)
 ·
  refine af (aC (aE (aa (aE (aA ?_)))))
  refine aI rfl rfl rfl rfl rfl (by decide) ?_
  refine aJ rfl rfl rfl rfl (bG rfl ?_)
  refine au rfl rfl rfl rfl rfl rfl (by omega) ?_
  refine aX rfl rfl rfl (by exact Nat.le_of_ble_eq_true rfl) ?_
  refine bh rfl (by exact List.cons_ne_nil _ _) rfl ?_
  refine bO rfl rfl (by decide) rfl rfl rfl rfl rfl rfl ?_
  refine aD (aC (aE (aA (eY rfl (eY rfl ?_)))))
  apply aM (s := 153) rfl rfl rfl
  ·intro hg; apply aO; (refine aR rfl rfl rfl rfl rfl (by decide) ?_); refine aD ?_; exact rfl
  ·exact rfl
  ·exact rfl
  apply aM (s := 153) rfl rfl rfl
  ·intro hg; apply aH (s := 154) rfl (by (rw [hg]; rfl)); apply aO; (refine bP rfl rfl (by decide) rfl rfl (by exact Nat.le_of_ble_eq_true rfl) ?_); refine aD ?_; exact rfl
  ·exact rfl
  ·exact rfl
  apply aM (s := 153) rfl rfl rfl
  ·intro hg; apply aH (s := 155) rfl (by (rw [hg]; rfl)); apply aO; (refine aZ (Ae _) rfl rfl rfl rfl rfl ?_); refine aD ?_; exact rfl
  ·exact rfl
  ·exact rfl
  refine gN rfl rfl (dK rfl (aD (aC (aE (aA (eY rfl (eY rfl ?_)))))))
  apply aM (s := 159) rfl rfl rfl
  ·intro hg; apply aO; (refine aR rfl rfl rfl rfl rfl (by decide) ?_); refine aD ?_; exact rfl
  ·exact rfl
  ·exact rfl
  apply aM (s := 159) rfl rfl rfl
  ·intro hg; apply aH (s := 160) rfl (by (rw [hg]; rfl)); apply aO; (refine aY rfl rfl (by decide) rfl rfl rfl ?_); refine aD ?_; exact rfl
  ·exact rfl
  ·exact rfl
  apply aM (s := 159) rfl rfl rfl
  ·intro hg; apply aO; (refine aI rfl rfl rfl rfl rfl (by decide) ?_); refine aD ?_; exact rfl
  ·exact rfl
  ·exact rfl
  apply aM (s := 159) rfl rfl rfl
  ·intro hg; apply aH (s := 162) rfl (by (rw [hg]; rfl)); apply aO; (refine aJ rfl rfl rfl rfl ?_); refine aD ?_; exact rfl
  ·exact rfl
  ·exact rfl
  apply aM (s := 159) rfl rfl rfl
  ·intro hg; apply aH (s := 161) rfl (by (rw [hg]; rfl)); apply aH (s := 163) rfl (by (rw [hg]; rfl)); apply aO; (refine aZ (lY _ _ _) rfl rfl rfl rfl rfl ?_); refine aD ?_; exact rfl
  ·exact rfl
  ·exact rfl
  refine gN rfl rfl (eY rfl ?_)
  apply aM (s := 166) rfl rfl rfl
  ·intro hg; apply aO; (refine aR rfl rfl rfl rfl rfl (by decide) ?_); refine aD ?_; exact rfl
  ·exact rfl
  ·exact rfl
  apply aM (s := 166) rfl rfl rfl
  ·intro hg; apply aH (s := 167) rfl (by (rw [hg]; rfl)); apply aO; (refine aY rfl rfl (by decide) rfl rfl rfl ?_); refine aD ?_; exact rfl
  ·exact rfl
  ·exact rfl
  apply aM (s := 166) rfl rfl rfl
  ·intro hg; apply aO; (refine aI rfl rfl rfl rfl rfl (by decide) ?_); refine aD ?_; exact rfl
  ·exact rfl
  ·exact rfl
  apply aM (s := 166) rfl rfl rfl
  ·intro hg; apply aH (s := 169) rfl (by (rw [hg]; rfl)); apply aO; (refine aJ rfl rfl rfl rfl ?_); refine aD ?_; exact rfl
  ·exact rfl
  ·exact rfl
  apply aM (s := 166) rfl rfl rfl
  ·intro hg; apply aH (s := 170) rfl (by (rw [hg]; rfl)); apply aO; (refine b9 rfl rfl rfl ?_); refine aD ?_; exact rfl
  ·exact rfl
  ·exact rfl
  apply aM (s := 166) rfl rfl rfl
  ·intro hg; apply aH (s := 171) rfl (by (rw [hg]; rfl)); apply aO; (refine gZ rfl rfl (by omega) (by omega) ?_); refine aD ?_; exact rfl
  ·exact rfl
  ·exact rfl
  apply aM (s := 166) rfl rfl rfl
  ·intro hg; apply aH (s := 168) rfl (by (rw [hg]; rfl)); apply aH (s := 172) rfl (by (rw [hg]; rfl)); apply aO; (refine aZ (lY _ _ _) rfl rfl rfl rfl rfl ?_); refine aD ?_; exact rfl
  ·exact rfl
  ·exact rfl
  refine gN rfl rfl (dK rfl (aD (aC (aA (eY rfl (eY rfl ?_))))))
  apply aM (s := 176) rfl rfl rfl
  ·intro hg; apply aO; (refine aR rfl rfl rfl rfl rfl (by decide) ?_); refine aD ?_; exact rfl
  ·exact rfl
  ·exact rfl
  apply aM (s := 176) rfl rfl rfl
  ·intro hg; apply aH (s := 177) rfl (by (rw [hg]; rfl)); apply aO; (refine aR rfl rfl rfl rfl rfl (by decide) ?_); refine aD ?_; exact rfl
  ·exact rfl
  ·exact rfl
  apply aM (s := 176) rfl rfl rfl
  ·intro hg; apply aH (s := 178) rfl (by (rw [hg]; rfl)); apply aO; (refine aY rfl rfl (by decide) rfl rfl rfl ?_); refine aD ?_; exact rfl
  ·exact rfl
  ·exact rfl
  apply aM (s := 176) rfl rfl rfl
  ·intro hg; apply aO; (refine aR rfl rfl rfl rfl rfl (by decide) ?_); refine aD ?_; exact rfl
  ·exact rfl
  ·exact rfl
  apply aM (s := 176) rfl rfl rfl
  ·intro hg; apply aH (s := 180) rfl (by (rw [hg]; rfl)); apply aO; (refine aR rfl rfl rfl rfl rfl (by decide) ?_); refine aD ?_; exact rfl
  ·exact rfl
  ·exact rfl
  apply aM (s := 176) rfl rfl rfl
  ·intro hg; apply aH (s := 181) rfl (by (rw [hg]; rfl)); apply aO; (refine aY rfl rfl (by decide) rfl rfl rfl ?_); refine aD ?_; exact rfl
  ·exact rfl
  ·exact rfl
  apply aM (s := 176) rfl rfl rfl
  ·intro hg; apply aH (s := 179) rfl (by (rw [hg]; rfl)); apply aH (s := 182) rfl (by (rw [hg]; rfl)); apply aO; (refine bB rfl rfl rfl ?_); refine aD ?_; exact rfl
  ·exact rfl
  ·exact rfl
  refine gN rfl rfl (dK rfl (aD (bM (aC (aA (bG rfl ?_))))))
  refine cB rfl rfl (by omega) (by omega) ?_
  refine bu rfl (aD ?_)
  refine bR (⟨n.1 + 1, by omega⟩) ?_ (by show y.levels.length - (n.1 + 1) < y.levels.length - n.1; omega)
  (refine cg.mk' ?_ ?_ <;> (repeat' (first | exact aL | exact aK | refine aB ?_ (Ty.aT _) | refine aB ?_ (Ty.aF _) | refine aB ?_ ?_)))
  all_goals skip
  all_goals first | exact Ty.eF ((Bool.or_assoc _ _ _).trans (congrArg ((y.bins.any uz || y.moves.any zW) || ·) (iD (p := F0) (by omega)))) | exact Ty.eF ((Bool.or_assoc _ _ _).trans (congrArg ((y.bins.any Cg || y.moves.any IM) || ·) (iD (p := NX) (by omega)))) | exact Ty.eF ((RD _ _ _ _).trans (congrArg (y.moves.any (notM y) || ·) (iD (p := JX y) (by omega))))
 refine cH (aP (aP (ah rfl (aC (aE (aE (aA (eY rfl (aD ?_)))))))))
 refine aC ?_
 refine cC rfl (fun hc5 => ?_) (fun hc5 => ?_)
 ·
  refine aE (aA (bu rfl (aD (aC (az (aS (bU rfl rfl ?_)))))))
  all_goals skip
  exact av rfl rfl (congrArg (Ty.int .i64) (RP hc1 hc5 (congrArg (_ || ·) (fO hc4))))
 refine af (aC (aE (aE (aA (eY rfl (aD (aC ?_)))))))
 refine cC rfl (fun hc6 => ?_) (fun hc6 => ?_)
 ·
  refine aE (aA (bu rfl (aD (aC (az (aS (bU rfl rfl ?_)))))))
  all_goals skip
  exact av rfl rfl (congrArg (Ty.int .i64) (RF hc1 hc5 (congrArg (_ || ·) (fO hc4)) hc6 (congrArg (_ || ·) (fO hc4))))
 refine af (aC (aE (aE (aA (eY rfl (aD (aC ?_)))))))
 refine cC rfl (fun hc7 => ?_) (fun hc7 => ?_)
 ·
  refine aE (aA (bu rfl (aD (aC (az (aS (bU rfl rfl ?_)))))))
  all_goals skip
  exact av rfl rfl (congrArg (Ty.int .i64) (Q9 hc1 hc5 (congrArg (_ || ·) (fO hc4)) hc6 (congrArg (_ || ·) (fO hc4)) hc7 rfl))
 refine af (aC (aE (aE (aA (eY rfl (aD (aC ?_)))))))
 refine cC rfl (fun hc8 => ?_) (fun hc8 => ?_)
 ·
  refine aE (aA (bu rfl (aD (aC (az (aS (bU rfl rfl ?_)))))))
  all_goals skip
  exact av rfl rfl (congrArg (Ty.int .i64) (Q4 hc1 hc5 (congrArg (_ || ·) (fO hc4)) hc6 (congrArg (_ || ·) (fO hc4)) hc7 rfl hc8 (congrArg (_ || ·) (fO hc4))))
 refine af (aC (aE (aA (bu rfl (aD (aC (az (bU rfl rfl ?_))))))))
 all_goals skip
 exact av rfl rfl (congrArg (Ty.int .i64) (RK hc1 hc5 (congrArg (_ || ·) (fO hc4)) hc6 (congrArg (_ || ·) (fO hc4)) hc7 rfl hc8 (congrArg (_ || ·) (fO hc4))))
end Go.Proofs.YtelbollidfdcjaaGreat
namespace Go.Proofs.YtelbollidfdcjaaGreat
open Go Go.T
set_option maxHeartbeats 6000000
section
variable {y : aj} {l : Level}
end
section
variable {y : aj} {m : Move}
end
attribute [local irreducible] bH
attribute [local irreducible] gP e9 mA oA iG iE iK g9 iL oc iA oM dV fo n6 gC oW nth fS dY ay dP bodyPost Exit.then Exit.inBlock Code.wp Code.wpIn n7 hU oX oR iB eW cM cN bodyPostM dX
end Go.Proofs.YtelbollidfdcjaaGreat
namespace Go.Proofs.YtelbollidfdcjaaGreat
open Go Go.T
section
variable {y : aj} {c : Nat → Bool} {a : dF} {l : Level} {b t k : Nat} {s s' : Span} {f : dF → Int}
theorem I6 {i : Nat} (h : i < 8) : nth bL i = true := by
 unfold bL; rw [gE (by rw [List.length_replicate]; exact h), List.getElem_replicate]
theorem j6 (hr : y.bw) : dm y (nth bL) a ↔ dm y (fun _ => true) a := by
 have h8 := hr.levels
 refine ⟨fun h => ⟨h.lens, h.first, h.cont, h.bY, fun i hi _ => h.level i hi (I6 (by omega))⟩, fun h => ⟨h.lens, h.first, h.cont, h.bY, fun i hi _ => h.level i hi rfl⟩⟩
structure RV (y : aj) (l : Level) : Prop where
  day : 0 ≤ l.day ∧ l.day ≤ y.days
  bin : 0 ≤ l.bin ∧ l.bin < y.bins.length
  num : 0 ≤ l.sacks.lo ∧ l.sacks.hi ≤ 300
  ord : l.sacks.lo ≤ l.sacks.hi
theorem ve.le {y' : aj} {c' : Nat → Bool} {g : dF → Int} (h : ve y c f s) (h' : ve y' c' g s') (sub : ∀ a, dm y' c' a → dm y c a ∧ g a = f a) : s.lo ≤ s'.lo ∧ s'.hi ≤ s.hi := by
 obtain ⟨a1, f1, e1⟩ := h'.lo
 obtain ⟨a2, f2, e2⟩ := h'.hi
 have h1 := h.all a1 (sub a1 f1).1
 have h2 := h.all a2 (sub a2 f2).1
 rw [← (sub a1 f1).2] at h1
 rw [← (sub a2 f2).2] at h2
 omega
structure zn (y z : aj) : Prop where
  days : z.days = y.days
  bins : z.bins = y.bins
  moves : z.moves = y.moves
  less : ∀ a, dm z (fun _ => true) a → dm y (fun _ => true) a
variable {z : aj}
theorem zn.D (h : zn y z) : z.D = y.D := by unfold aj.D; rw [h.days]
theorem zn.cont (h : zn y z) : cx z a b t = cx y a b t := by unfold cx q8; rw [h.moves]
theorem zn.fits (h : zn y z) (hy : y.bw) (hz : z.bw) (ha : dm z (nth bL) a) : dm y (nth bL) a := (j6 hy).2 (h.less a ((j6 hz).1 ha))
end
end Go.Proofs.YtelbollidfdcjaaGreat
namespace Go.Proofs.YtelbollidfdcjaaGreat
open Go Go.T
noncomputable def jA (y : aj) (b t : Nat) (v : Int) : List b8 := jc (aQ y (nth bL)) (y.kept b t) v
noncomputable def rS (y : aj) (b t : Nat) (v : Int) : Int × Bool × List Int := cQ (jA y b t v) (y.cells + 1) (fY (jA y b t v))
def Dp (y : aj) (b t : Nat) (v : Int) : Bool := yY v (nth (aQ y (nth bL)) (y.kept b t)).lo (nth (aQ y (nth bL)) (y.kept b t)).hi
noncomputable def fM (y : aj) (b t v : Int) : Int := if c7 y b = 0 then (if y.time t = true then (if Dp y b.toNat t.toNat v = true then (if (rS y b.toNat t.toNat v).2.1 = true then 6 else 0) else 6) else 1) else c7 y b
noncomputable def gz (y : aj) (b t v : Int) : dF := if fM y b t v = 0 then fQ y (rS y b.toNat t.toNat v).2.2 else ⟨[], []⟩
section
variable {y : aj} {b t : Nat} {v : Int} {p q : Int}
theorem OB (h : ¬ c7 y p = 0) : c7 y p = fM y p q v ∧ (⟨[], []⟩ : dF) = gz y p q v := by
 have e : c7 y p = fM y p q v := by unfold fM; rw [if_neg h]
 exact ⟨e, by unfold gz; rw [← e, if_neg h]⟩
theorem Nq (h : c7 y p = 0) (h2 : (!y.time q) = true) : 1 = fM y p q v ∧ (⟨[], []⟩ : dF) = gz y p q v := by
 have e : 1 = fM y p q v := by unfold fM; rw [if_pos h, if_neg (by simpa using h2)]
 exact ⟨e, by unfold gz; rw [← e, if_neg (by decide)]⟩
theorem Nm (h : c7 y p = 0) (h2 : (!y.time q) = false) (h3 : (!Dp y p.toNat q.toNat v) = true) : 6 = fM y p q v ∧ (⟨[], []⟩ : dF) = gz y p q v := by
 have e : 6 = fM y p q v := by unfold fM; rw [if_pos h, if_pos (by simpa using h2), if_neg (by simpa using h3)]
 exact ⟨e, by unfold gz; rw [← e, if_neg (by decide)]⟩
theorem Nn (h : c7 y p = 0) (h2 : (!y.time q) = false) (h3 : (!Dp y p.toNat q.toNat v) = false) (h4 : (rS y p.toNat q.toNat v).2.1 = true) : 6 = fM y p q v ∧ (⟨[], []⟩ : dF) = gz y p q v := by
 have e : 6 = fM y p q v := by unfold fM; rw [if_pos h, if_pos (by simpa using h2), if_pos (by simpa using h3), if_pos h4]
 exact ⟨e, by unfold gz; rw [← e, if_neg (by decide)]⟩
theorem Nl (h : c7 y p = 0) (h2 : (!y.time q) = false) (h3 : (!Dp y p.toNat q.toNat v) = false) (h4 : (rS y p.toNat q.toNat v).2.1 = false) : 0 = fM y p q v ∧ fQ y (rS y p.toNat q.toNat v).2.2 = gz y p q v := by
 have e : 0 = fM y p q v := by unfold fM; rw [if_pos h, if_pos (by simpa using h2), if_pos (by simpa using h3), if_neg (by rw [h4]; decide)]
 exact ⟨e, by unfold gz; rw [← e, if_pos rfl]⟩
theorem tJ (hb : b < y.bins.length) (ht : t ≤ y.D) {c : Nat → Bool} : y.kept b t < (aQ y c).length := by
 have := mz hb ht
 rw [ef]; omega
theorem xe : (jA y b t v).length = (aQ y (nth bL)).length := iN
theorem MW {fl : List b8} {k : Nat} : (fY fl).set k v = fY (jc fl k v) := by
 unfold fY jc; rw [List.map_set]
theorem zP (hr : y.bw) (hb : b < y.bins.length) (ht : t ≤ y.D) (hv : Dp y b t v = true) : FR y (jA y b t v) (fY (jA y b t v)) := by
 have hk := tJ (c := nth bL) hb ht
 have hv := dL.1 hv
 refine ⟨hr, Db (jT hr), fun i hi => ?_, fun e => Ba (uB e), by rw [xe]; exact jC hr⟩
 rw [xe] at hi
 have h1 := qa (c := nth bL) hr i hi
 have h2 := qa (c := nth bL) hr _ hk
 unfold jA
 rw [mI hi]
 split
 ·show 0 ≤ v ∧ v ≤ _
  omega
 exact h1
theorem B1 (hr : y.bw) (hb : b < y.bins.length) (ht : t ≤ y.D) (hv : Dp y b t v = true) {x : List Int} : fZ (jA y b t v) (y.cells + 1) x ↔ fZ (aQ y (nth bL)) (y.cells + 1) x ∧ nth x (y.kept b t) = v :=
 zk (tJ hb ht) (dL.1 hv)
theorem HH (h : c7 y p = 0) : y.bw ∧ ∃ b : Nat, p = b ∧ b < y.bins.length := by
 unfold c7 at h
 by_cases e : bH y = 0
 ·rw [if_pos e] at h
  by_cases e2 : y.bin p = true
  ·have e3 : 0 ≤ p ∧ p ≤ (y.bins.length : Int) - 1 := dL.1 e2
   exact ⟨cK e, p.toNat, by omega, by omega⟩
  rw [if_neg e2] at h; cases h
 rw [if_neg e] at h; exact absurd h e
theorem Ar (hr : y.bw) (hb : b < y.bins.length) (ht : t ≤ y.D) : (fM y (b : Nat) (t : Nat) v = 0 ∧ dm y (nth bL) (gz y (b : Nat) (t : Nat) v) ∧ cx y (gz y (b : Nat) (t : Nat) v) b t = v) ∨ (fM y (b : Nat) (t : Nat) v = 6 ∧ ¬ ∃ a, dm y (nth bL) a ∧ cx y a b t = v) := by
  have h1 := wG (nT hr) hb
  have hD := D_eq hr
  have h2 : (!y.time ((t : Nat) : Int)) = false := by
    rw [Bool.not_eq_false']; unfold aj.time; rw [dL]; omega
  have key : ∀ a, dm y (nth bL) a → cx y a b t = v → Dp y b t v = true ∧ fZ (aQ y (nth bL)) (y.cells + 1) (j3 y a) ∧ nth (j3 y a) (y.kept b t) = v := fun a ha hc => by
    have hf := gp hr ha
    have hn : nth (j3 y a) (y.kept b t) = v := by rw [iH hb ht]; exact hc
    have := hf.1.2 _ (tJ hb ht)
    rw [hn] at this
    exact ⟨dL.2 this, hf, hn⟩
  cases h3 : Dp y b t v with
  | false =>
    have e := (Nm (v := v) h1 h2 (by rw [Int.toNat_natCast, Int.toNat_natCast, h3]; rfl)).1
    exact .inr ⟨e.symm, fun ⟨a, ha, hc⟩ => by rw [(key a ha hc).1] at h3; cases h3⟩
  | true =>
    have h3' : (!Dp y ((b : Nat) : Int).toNat ((t : Nat) : Int).toNat v) = false := by rw [Int.toNat_natCast, Int.toNat_natCast, h3]; rfl
    have hR := zP hr hb ht h3
    cases h4 : (rS y b t v).2.1 with
    | true =>
      have e := (Nn (v := v) h1 h2 h3' (by rw [Int.toNat_natCast, Int.toNat_natCast]; exact h4)).1
      refine .inr ⟨e.symm, fun ⟨a, ha, hc⟩ => ?_⟩
      obtain ⟨_, k2, k3⟩ := key a ha hc
      exact B8 hR.net hR.inb h4 ⟨_, (B1 hr hb ht h3).2 ⟨k2, k3⟩⟩
    | false =>
      have e := Nl (v := v) h1 h2 h3' (by rw [Int.toNat_natCast, Int.toNat_natCast]; exact h4)
      rw [Int.toNat_natCast, Int.toNat_natCast] at e
      have hf : fZ (aQ y (nth bL)) (y.cells + 1) (rS y b t v).2.2 ∧ nth (rS y b t v).2.2 (y.kept b t) = v := (B1 hr hb ht h3).1 (nu hR.net hR.inb h4)
      refine .inl ⟨e.1.symm, ?_, ?_⟩
      · rw [← e.2]; exact ke hr hf.1
      · rw [← e.2, l7 hr hf.1.1.1 hf.1.2 hb t ht]; exact hf.2
end
end Go.Proofs.YtelbollidfdcjaaGreat
namespace Go.Proofs.YtelbollidfdcjaaGreat
open Go Go.T
section
variable {fl : List b8} {a x1 x2 : List Int} {n k : Nat} {v : Int}
theorem Jo (hN : Net fl n) (hk : k < fl.length) (h1 : fZ fl n x1) (h2 : fZ fl n x2) (hv : nth x1 k ≤ v ∧ v ≤ nth x2 k) : ∃ x, fZ fl n x ∧ nth x k = v := by
  have b1 := h1.1.2 k hk
  have b2 := h2.1.2 k hk
  have hvb : (nth fl k).lo ≤ v ∧ v ≤ (nth fl k).hi := by omega
  have hN' : Net (jc fl k v) n := Db hN
  have hle : ∀ i, i < (jc fl k v).length → (nth (jc fl k v) i).lo ≤ (nth (jc fl k v) i).hi := fun i hi => by
    rw [iN] at hi
    rw [mI hi]
    split
    · exact Int.le_refl _
    · have := h1.1.2 i hi; omega
  have hI := Ba hle
  have hS := qJ hN' hI
  cases e : (fX (jc fl k v) n (fY (jc fl k v))).2.1 with
  | false => exact ⟨_, (zk hk hvb).1 (vB.some hS e)⟩
  | true =>
    exfalso
    obtain ⟨g1, g2, g3⟩ := hS.no e
    have hIn := hS.inb
    have hR := oJ (a := (fX (jc fl k v) n (fY (jc fl k v))).2.2) hN' g1
    generalize (fX (jc fl k v) n (fY (jc fl k v))).2.2 = a at g2 g3 hR hIn
    generalize (fX (jc fl k v) n (fY (jc fl k v))).1 = s at g1 g2 g3 hR
    obtain ⟨c0, hc0⟩ : ∃ c : Nat, (c : Int) = s := ⟨s.toNat, by omega⟩
    obtain ⟨R, hRe⟩ : ∃ R : Int → Prop, R = xK (cR (jc fl k v) a s) s := ⟨_, rfl⟩
    have hcl : ∀ w, Open (jc fl k v) a w → R (w.g6 (jc fl k v)) → R (w.fin (jc fl k v)) := by rw [hRe]; exact hR.closed
    have hR0 : R s := by rw [hRe]; exact .inl rfl
    rw [← hRe] at g3
    clear hR hRe
    have dR : ∀ c, Decidable (R c) := fun c => Classical.propDecidable _
    have p1 := tM (a := a) hN' fun c => ind (R c)
    have hpos : 0 < cw (fun c : Nat => ind (R c) * over (jc fl k v) a c) n := by
      have := vh (f := fun _ => 0) (g := fun c : Nat => ind (R c) * over (jc fl k v) a c) (k := c0) (n := n) (by omega) (fun i hi => by
        by_cases h : R i
        · rw [dx h, Int.one_mul]; exact g3 i hi h
        · rw [dw h, Int.zero_mul]; exact Int.le_refl _) (by show (0 : Int) < _; rw [dx (by rw [hc0]; exact hR0), Int.one_mul, hc0]; exact g2)
      rwa [gI fun _ _ => rfl] at this
    rw [p1, iN] at hpos
    -- one of both flows shows that this cannot be
    have key : ∀ x, fZ fl n x → ((ind (R (nth fl k).dst) - ind (R (nth fl k).src)) * v ≤ (ind (R (nth fl k).dst) - ind (R (nth fl k).src)) * nth x k) → False := fun x hx hxk => by
      have p2 := tC hN hx.2 fun c => ind (R c)
      have : cw (fun i => (ind (R (nth (jc fl k v) i).dst) - ind (R (nth (jc fl k v) i).src)) * nth a i) fl.length ≤ cw (fun i => (ind (R (nth fl i).dst) - ind (R (nth fl i).src)) * nth x i) fl.length := by
        refine qV fun i hi => ?_
        have c0 := hIn.2 i (by rw [iN]; exact hi)
        have c1 := hcl ⟨i, true⟩
        have c2 := hcl ⟨i, false⟩
        simp only [Open, Way.room, Way.g6, Way.fin, if_true, if_false, Bool.false_eq_true, iN] at c1 c2
        rw [(iR hi).1, (iR hi).2] at c1 c2
        rw [(iR hi).1, (iR hi).2]
        rw [mI hi] at c0 c1 c2
        by_cases ek : k = i
        · subst ek
          rw [if_pos rfl] at c0
          have ea : nth a k = v := by
            have c0 : v ≤ nth a k ∧ nth a k ≤ v := c0
            omega
          rw [ea]; exact hxk
        · rw [if_neg ek] at c0 c1 c2
          have bx := hx.1.2 i hi
          by_cases hd : R (nth fl i).dst <;> by_cases hs : R (nth fl i).src
          · rw [dx hd, dx hs]; simp
          · rw [dx hd, dw hs]
            have : ¬ 0 < nth a i - (nth fl i).lo := fun h => hs (c2 ⟨hi, h⟩ hd)
            omega
          · rw [dw hd, dx hs]
            have : ¬ 0 < (nth fl i).hi - nth a i := fun h => hd (c1 ⟨hi, h⟩ hs)
            omega
          · rw [dw hd, dw hs]; simp
      omega
    by_cases hd : R (nth fl k).dst <;> by_cases hs : R (nth fl k).src
    · exact key x1 h1 (by rw [dx hd, dx hs]; simp)
    · exact key x2 h2 (by rw [dx hd, dw hs]; omega)
    · exact key x1 h1 (by rw [dw hd, dx hs]; omega)
    · exact key x1 h1 (by rw [dw hd, dw hs]; simp)
end
section
variable {y : aj} {b t : Nat} {v : Int}
theorem NT (ho : bq y = 0) (hb : b < y.bins.length) (ht : t ≤ y.D) :
 ((nth (fN y (b : Nat)) t).lo ≤ v ∧ v ≤ (nth (fN y (b : Nat)) t).hi → fM y (b : Nat) (t : Nat) v = 0 ∧ dm y (nth bL) (gz y (b : Nat) (t : Nat) v) ∧ cx y (gz y (b : Nat) (t : Nat) v) b t = v) ∧
 (¬ ((nth (fN y (b : Nat)) t).lo ≤ v ∧ v ≤ (nth (fN y (b : Nat)) t).hi) → fM y (b : Nat) (t : Nat) v = 6) := by
 have hr := cK (dN ho)
 have hS := DR ho hb ht
 rcases Ar (v := v) hr hb ht with ⟨e0, h1, h2⟩ | ⟨e6, hno⟩
 ·refine ⟨fun _ => ⟨e0, h1, h2⟩, fun hn => absurd ?_ hn⟩
  have := hS.all _ h1
  rw [h2] at this; exact this
 refine ⟨fun hv => absurd ?_ hno, fun _ => e6⟩
 obtain ⟨a1, f1, e1⟩ := hS.lo
 obtain ⟨a2, f2, e2⟩ := hS.hi
 have e1 : cx y a1 b t = _ := e1
 have e2 : cx y a2 b t = _ := e2
 obtain ⟨x, hx, hxv⟩ := Jo (jT (c := nth bL) hr) (tJ hb ht) (gp hr f1) (gp hr f2) (v := v) (by rw [iH hb ht, iH hb ht]; omega)
 exact ⟨fQ y x, ke hr hx, by rw [l7 hr hx.1.1 hx.2 hb t ht]; exact hxv⟩
end
end Go.Proofs.YtelbollidfdcjaaGreat
namespace Go.Proofs.YtelbollidfdcjaaGreat
open Go Go.T
def dH : List Int → List Int → Nat
  | l :: ls, h :: hs => (h - l + 1).toNat * dH ls hs
  | _, _ => 1
def IQ : List Int → List Int → Nat → List Int
  | l :: ls, h :: hs, k => (l + (k / dH ls hs : Nat)) :: IQ ls hs (k % dH ls hs)
  | _, _, _ => []
def jh : List Int → List Int → List Int → Nat
  | l :: ls, h :: hs, x :: xs => (x - l).toNat * dH ls hs + jh ls hs xs
  | _, _, _ => 0
def rP : List Int → List Int → List Int → Prop
  | [], [], [] => True
  | l :: ls, h :: hs, x :: xs => (l ≤ x ∧ x ≤ h) ∧ rP ls hs xs
  | _, _, _ => False
def jd : List Int → List Int → Prop
  | [], [] => True
  | l :: ls, h :: hs => l ≤ h ∧ jd ls hs
  | _, _ => False
theorem size_pos : ∀ {lo hi : List Int}, jd lo hi → 0 < dH lo hi
  | [], [], _ => Nat.one_pos
  | l :: ls, h :: hs, ⟨h1, h2⟩ => by
    have := size_pos h2
    unfold dH
    exact Nat.mul_pos (by omega) this
theorem yS : ∀ {lo hi x : List Int}, rP lo hi x → x.length = lo.length ∧ hi.length = lo.length
  | [], [], [], _ => ⟨rfl, rfl⟩
  | _ :: _, _ :: _, _ :: _, ⟨_, h⟩ => by have := yS h; simp only [List.length_cons]; omega
theorem Fy : ∀ {lo hi : List Int}, jd lo hi → rP lo hi lo
  | [], [], _ => trivial
  | _ :: _, _ :: _, ⟨h1, h2⟩ => ⟨⟨Int.le_refl _, h1⟩, Fy h2⟩
theorem tq : ∀ {lo hi : List Int} (_ : jd lo hi) {k : Nat}, k < dH lo hi → rP lo hi (IQ lo hi k) ∧ jh lo hi (IQ lo hi k) = k
  | [], [], _, k, hk => ⟨trivial, by unfold dH at hk; show 0 = k; omega⟩
  | l :: ls, h :: hs, ⟨h1, h2⟩, k, hk => by
    have hp := size_pos h2
    unfold dH at hk
    have hq : k / dH ls hs < (h - l + 1).toNat := (Nat.div_lt_iff_lt_mul hp).2 hk
    obtain ⟨g1, g2⟩ := tq h2 (k := k % dH ls hs) (Nat.mod_lt _ hp)
    have hin : l ≤ l + (k / dH ls hs : Nat) ∧ l + (k / dH ls hs : Nat) ≤ h := by
      generalize k / dH ls hs = q at hq
      omega
    refine ⟨⟨hin, g1⟩, ?_⟩
    show (l + (k / dH ls hs : Nat) - l).toNat * dH ls hs + jh ls hs (IQ ls hs (k % dH ls hs)) = k
    rw [g2, show l + ((k / dH ls hs : Nat) : Int) - l = ((k / dH ls hs : Nat) : Int) by omega, Int.toNat_natCast, Nat.mul_comm]
    exact Nat.div_add_mod _ _
theorem oG : ∀ {lo hi x : List Int}, rP lo hi x → jh lo hi x < dH lo hi
  | [], [], [], _ => Nat.one_pos
  | l :: ls, h :: hs, x :: xs, ⟨h1, h2⟩ => by
    have ih := oG h2
    show (x - l).toNat * dH ls hs + jh ls hs xs < (h - l + 1).toNat * dH ls hs
    have : ((x - l).toNat + 1) * dH ls hs ≤ (h - l + 1).toNat * dH ls hs := Nat.mul_le_mul_right _ (by omega)
    rw [Nat.succ_mul] at this; omega
theorem Bo : ∀ {lo hi x x' : List Int}, rP lo hi x → rP lo hi x' → jh lo hi x = jh lo hi x' → x = x'
  | [], [], [], [], _, _, _ => rfl
  | l :: ls, h :: hs, x :: xs, x' :: xs', ⟨h1, h2⟩, ⟨h1', h2'⟩, e => by
    have e : (x - l).toNat * dH ls hs + jh ls hs xs = (x' - l).toNat * dH ls hs + jh ls hs xs' := e
    obtain ⟨a, b⟩ := qE (oG h2) (oG h2') e
    rw [Bo h2 h2' b]
    congr 1; omega
theorem xS {lo hi x : List Int} (hr : jd lo hi) (h : rP lo hi x) : IQ lo hi (jh lo hi x) = x := by
 obtain ⟨a, b⟩ := tq hr (oG h)
 exact Bo a h b
theorem BU : ∀ {lo hi : List Int}, jd lo hi → jh lo hi lo = 0
  | [], [], _ => rfl
  | l :: ls, h :: hs, ⟨_, h2⟩ => by show (l - l).toNat * dH ls hs + jh ls hs ls = 0; rw [BU h2, Int.sub_self]; simp
theorem Be : ∀ {lo hi : List Int}, jd lo hi → jh lo hi hi + 1 = dH lo hi
  | [], [], _ => rfl
  | l :: ls, h :: hs, ⟨h1, h2⟩ => by
    have ih := Be h2
    show (h - l).toNat * dH ls hs + jh ls hs hs + 1 = (h - l + 1).toNat * dH ls hs
    rw [show (h - l + 1).toNat = (h - l).toNat + 1 by omega, Nat.succ_mul]; omega
def kY (lo x : List Int) (k : Nat) : List Int := x.take k ++ lo.drop k
theorem y4 : ∀ {lo hi x : List Int} {k : Nat}, jd lo hi → rP lo hi x → k < x.length → x.drop (k + 1) = hi.drop (k + 1) → nth x k ≠ nth hi k →
    rP lo hi ((kY lo x (k + 1)).set k (nth x k + 1)) ∧ jh lo hi ((kY lo x (k + 1)).set k (nth x k + 1)) = jh lo hi x + 1
  | [], [], [], _, _, _, hk, _, _ => absurd hk (Nat.not_lt_zero _)
  | l :: ls, h :: hs, x :: xs, 0, ⟨h1, h2⟩, ⟨h3, h4⟩, _, he, hn => by
    have he : xs = hs := he
    have hn : x ≠ h := hn
    subst he
    refine ⟨⟨⟨by show l ≤ x + 1; omega, by show x + 1 ≤ h; omega⟩, Fy h2⟩, ?_⟩
    show (x + 1 - l).toNat * dH ls xs + jh ls xs ls = (x - l).toNat * dH ls xs + jh ls xs xs + 1
    have := Be h2
    rw [BU h2, show (x + 1 - l).toNat = (x - l).toNat + 1 by omega, Nat.succ_mul]; omega
  | l :: ls, h :: hs, x :: xs, k + 1, ⟨h1, h2⟩, ⟨h3, h4⟩, hk, he, hn => by
    obtain ⟨a, b⟩ := y4 h2 h4 (k := k) (by simp only [List.length_cons] at hk; omega) he hn
    refine ⟨⟨h3, a⟩, ?_⟩
    show (x - l).toNat * dH ls hs + jh ls hs ((kY ls xs (k + 1)).set k (nth xs k + 1)) = (x - l).toNat * dH ls hs + jh ls hs xs + 1
    rw [b]; omega
section
variable {lo hi x : List Int} {k : Nat}
theorem Nb (hr : jd lo hi) (hk : k < dH lo hi) {i : Nat} (hx : IQ lo hi k = x) (hi' : i < x.length) (he : x.drop (i + 1) = hi.drop (i + 1)) (hn : nth x i ≠ nth hi i) : k + 1 < dH lo hi ∧ (kY lo x (i + 1)).set i (nth x i + 1) = IQ lo hi (k + 1) := by
 obtain ⟨a, b⟩ := tq hr hk
 rw [hx] at a b
 obtain ⟨c, d⟩ := y4 hr a hi' he hn
 have := oG c
 rw [d, b] at this
 exact ⟨this, by rw [← xS hr c, d, b]⟩
theorem ND (hr : jd lo hi) (hk : k < dH lo hi) (he : IQ lo hi k = hi) : k + 1 = dH lo hi := by
 have b := (tq hr hk).2
 rw [he] at b
 rw [← b]; exact Be hr
theorem NI (h : x.length = lo.length) (hk : k ≤ x.length) : (kY lo x k).length = x.length := by
 unfold kY; rw [List.length_append, List.length_take, List.length_drop]; omega
theorem NN (h : x.length = lo.length) : x = kY lo x x.length := by
 unfold kY; rw [List.take_length, List.drop_of_length_le (by omega), List.append_nil]
theorem Mm (hk : k < x.length) : nth (kY lo x (k + 1)) k = nth x k := by
 unfold kY
 rw [gk (by rw [List.length_take]; omega)]
 unfold nth
 rw [List.getD_eq_getElem?_getD, List.getD_eq_getElem?_getD, List.getElem?_take, if_pos (Nat.lt_succ_self k)]
theorem Nh (h : x.length = lo.length) (hk : k < x.length) : (kY lo x (k + 1)).set k (nth lo k) = kY lo x k := by
 unfold kY
 have e1 : x.take (k + 1) = x.take k ++ [nth x k] := by rw [gE hk]; exact List.take_succ_eq_append_getElem hk
 have e2 : lo.drop k = nth lo k :: lo.drop (k + 1) := by rw [gE (by omega)]; exact List.drop_eq_getElem_cons (by omega)
 rw [e1, e2, List.append_assoc, List.set_append_right _ _ (by rw [List.length_take]; omega), List.length_take, Nat.min_eq_left (by omega), Nat.sub_self]
 rfl
theorem Kt (h : hi.length = x.length) (hk : k < x.length) (he : x.drop (k + 1) = hi.drop (k + 1)) (hn : nth x k = nth hi k) : x.drop k = hi.drop k := by
 rw [List.drop_eq_getElem_cons hk, List.drop_eq_getElem_cons (show k < hi.length by omega), he, ← gE hk, ← gE (show k < hi.length by omega), hn]
end
def j7 (s : Span) (n : Int) (is : Bool) : Span := if is = true then ⟨min s.lo n, max s.hi n⟩ else ⟨n, n⟩
structure L9 (good : Nat → Prop) (v : Nat → Int) (k : Nat) (s : Span) : Prop where
  lo : ∃ j, j < k ∧ good j ∧ v j = s.lo
  hi : ∃ j, j < k ∧ good j ∧ v j = s.hi
  all : ∀ j, j < k → good j → s.lo ≤ v j ∧ v j ≤ s.hi
theorem Fa {good : Nat → Prop} {v : Nat → Int} {s : Nat → Span} {is : Nat → Bool} {n : Nat} (h0 : is 0 = false) (h1 : ∀ k, k < n → good k → is (k + 1) = true ∧ s (k + 1) = j7 (s k) (v k) (is k)) (h2 : ∀ k, k < n → ¬ good k → is (k + 1) = is k ∧ s (k + 1) = s k) :
    ∀ k, k ≤ n → (is k = true ↔ ∃ j, j < k ∧ good j) ∧ (is k = true → L9 good v k (s k))
  | 0, _ => ⟨⟨fun h => (by rw [h0] at h; cases h), fun ⟨j, hj, _⟩ => absurd hj (Nat.not_lt_zero j)⟩, fun h => by rw [h0] at h; cases h⟩
  | k + 1, hk => by
    obtain ⟨ih1, ih2⟩ := Fa h0 h1 h2 k (by omega)
    by_cases hg : good k
    · obtain ⟨e1, e2⟩ := h1 k (by omega) hg
      refine ⟨⟨fun _ => ⟨k, Nat.lt_succ_self k, hg⟩, fun _ => e1⟩, fun _ => ?_⟩
      rw [e2]
      unfold j7
      cases e : is k with
      | false =>
        have hno : ∀ j, j < k → ¬ good j := fun j hj hgj => by rw [ih1.2 ⟨j, hj, hgj⟩] at e; cases e
        refine ⟨⟨k, Nat.lt_succ_self k, hg, rfl⟩, ⟨k, Nat.lt_succ_self k, hg, rfl⟩, fun j hj hgj => ?_⟩
        rcases Nat.lt_succ_iff_lt_or_eq.1 hj with h | h
        · exact absurd hgj (hno j h)
        · rw [h]; exact ⟨Int.le_refl _, Int.le_refl _⟩
      | true =>
        obtain ⟨⟨a, ha, ga, ea⟩, ⟨b, hb, gb, eb⟩, hall⟩ := ih2 e
        refine ⟨?_, ?_, fun j hj hgj => ?_⟩
        · show ∃ j, j < k + 1 ∧ good j ∧ v j = min (s k).lo (v k)
          by_cases c : (s k).lo ≤ v k
          · exact ⟨a, by omega, ga, by rw [ea]; omega⟩
          · exact ⟨k, by omega, hg, by omega⟩
        · show ∃ j, j < k + 1 ∧ good j ∧ v j = max (s k).hi (v k)
          by_cases c : v k ≤ (s k).hi
          · exact ⟨b, by omega, gb, by rw [eb]; omega⟩
          · exact ⟨k, by omega, hg, by omega⟩
        · show min (s k).lo (v k) ≤ v j ∧ v j ≤ max (s k).hi (v k)
          rcases Nat.lt_succ_iff_lt_or_eq.1 hj with h | h
          · have := hall j h hgj; omega
          · rw [h]; omega
    · obtain ⟨e1, e2⟩ := h2 k (by omega) hg
      have hne : ∀ j, j < k + 1 → good j → j < k := fun j hj hgj => by
        rcases Nat.lt_succ_iff_lt_or_eq.1 hj with h | h
        · exact h
        · subst h; exact absurd hgj hg
      rw [e1, e2]
      refine ⟨⟨fun h => ?_, fun ⟨j, hj, hgj⟩ => ih1.2 ⟨j, hne j hj hgj, hgj⟩⟩, fun h => ?_⟩
      · obtain ⟨j, hj, hgj⟩ := ih1.1 h; exact ⟨j, by omega, hgj⟩
      · obtain ⟨⟨a, ha, ga, ea⟩, ⟨b, hb, gb, eb⟩, hall⟩ := ih2 h
        exact ⟨⟨a, by omega, ga, ea⟩, ⟨b, by omega, gb, eb⟩, fun j hj hgj => hall j (hne j hj hgj) hgj⟩
end Go.Proofs.YtelbollidfdcjaaGreat
