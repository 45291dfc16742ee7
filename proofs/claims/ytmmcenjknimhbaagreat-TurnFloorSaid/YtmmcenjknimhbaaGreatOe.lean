/- Lemmas: the program and the reference walked, plain laws. -/
import Derived.Test.YtmmcenjknimhbaaGreatOd
namespace Go.Proofs.YtmmcenjknimhbaaGreat
open Go Go.T
set_option maxHeartbeats 2000000
attribute [local irreducible] fL dg lG nG fZ gA fy fm ff nB gB m6 cw fA m4 ew nM nth eU cm aV cy bodyPost Exit.then Exit.inBlock Code.wp Code.wpIn fI ry rq rY iY sB rZ iV sA e9 gr p8 cT cO bodyPostM dW
end Go.Proofs.YtmmcenjknimhbaaGreat
namespace Go.Proofs.YtmmcenjknimhbaaGreat
open Go Go.T
set_option maxHeartbeats 4000000
attribute [local irreducible] fL dg lG nG fZ gA fy fm ff nB gB m6 cw fA m4 ew nM nth eU cm aV cy bodyPost Exit.then Exit.inBlock Code.wp Code.wpIn fI ry rq rY iY sB rZ iV sA e9 gr p8 cT cO bodyPostM dW
set_option maxRecDepth 100000 in
theorem Dc (l : List Int) (x : Int) : cy Tryz.prog 143 [Ty.sl eB l, Ty.int .i64 x] (Ty.int .i64 (fidx (fun y => decide (x = y)) l)) := by
 refine aX Tryz.func143 rfl (by decide) Tryz.ntmps143 (by exact Nat.le_of_ble_eq_true rfl) fun w0 M0 => ?_
 refine jv (s := 0) rfl rfl j9 fun hl => ?_
 refine aF (aA (b8 rfl (aD (aC (aF (aF (aA (eV rfl (bq rfl rfl rfl (bP rfl (aD (aC (aY ?_)))))))))))))
 refine cI (fun (k : {k : Nat // ∀ y ∈ l.take k, decide (x = y) = false}) => live [(0, Ty.sl eB l), (1, Ty.int .i64 x), (7, Ty.int .i64 l.length), (8, Ty.int .i64 (k.1 : Nat))] []) (fun k => l.length - k.1) (⟨0, by simp⟩) ?_ fun k => ?_
 ·(refine cr.mk' ?_ ?_ <;> (repeat' (first | exact aH | exact aI | refine aB ?_ (Ty.aS _) | refine aB ?_ (Ty.aG _))))
 refine aF (aA (av rfl rfl rfl (aD (aC (aF ?_)))))
 refine aj rfl (fun hc1 => ?_) (fun hc1 => ?_)
 ·refine ak (aC (aF (aY (aF (aA (bP rfl (b8 rfl (aD (aC (aF (aA (bP rfl (eV rfl (bP rfl ?_))))))))))))))
  refine bC rfl rfl rfl rfl rfl rfl (by omega) ?_
  refine aL rfl rfl rfl rfl (av rfl rfl rfl (aD (aC ?_)))
  refine aj rfl (fun hc2 => ?_) (fun hc2 => ?_)
  ·refine aF (aA (bP rfl (b8 rfl (aD (aC (au (af (aP (aP (af (aP (bT rfl rfl ?_))))))))))))
   all_goals skip
   exact bD rfl rfl (congrArg (Ty.int .i64) (by rw [iE (k := k.1) (by omega) k.2 (by rw [← cL]; exact decide_eq_true hc2)]))
  refine ak (bJ (aC (aA ?_)))
  refine cD rfl rfl (by omega) (by omega) ?_
  refine bP rfl (aD ?_)
  refine bS (⟨k.1 + 1, by rw [cE (by omega)]; intro y hy; rcases List.mem_append.1 hy with h | h; exact k.2 y h; rw [List.mem_singleton.1 h]; exact decide_eq_false hc2⟩) ?_ (by show l.length - (k.1 + 1) < l.length - k.1; omega)
  (refine cr.mk' ?_ ?_ <;> (repeat' (first | exact aH | exact aI | refine aB ?_ (Ty.aS _) | refine aB ?_ (Ty.aG _))))
  all_goals skip
 refine b9 (aN (aN (aZ rfl (aC (aF (aA (b8 rfl (aD (aC (au (bT rfl rfl ?_)))))))))))
 all_goals skip
 exact bD rfl rfl (congrArg (Ty.int .i64) (by rw [jN (by have := k.2; rwa [List.take_of_length_le (by omega)] at this)]))
set_option maxRecDepth 100000 in
theorem qG (l : List Int) (x : Int) : cy Tryz.prog 92 [Ty.sl eB l, Ty.int .i64 x] (Ty.bool (decide (x ∈ l))) := by
 refine aX Tryz.func92 rfl (by decide) Tryz.ntmps92 (by exact Nat.le_of_ble_eq_true rfl) fun w0 M0 => ?_
 refine aF (aA (dJ rfl (aD (aC (aF (aA (eV rfl (bP rfl (aq (Dc l x) rfl rfl rfl rfl rfl (av rfl rfl rfl (dJ rfl (aD (aC (au (bT rfl rfl ?_)))))))))))))))
 all_goals skip
 exact bD rfl rfl (congrArg Ty.bool (CN l x))
set_option maxRecDepth 100000 in
theorem Nb (b : aW) (hs : b.Small) (rings : List (List Int)) (hn : rings.length ≤ 1000) (hfl : rings.flatten.length ≤ 1000000) : cy Tryz.prog 61 [eC b, Ty.sl AF rings] (Ty.jk [Ty.int .i64 (Ar b rings).1, Ty.int .i64 (Ar b rings).2]) := by
 refine aX Tryz.func61 rfl (by decide) Tryz.ntmps61 (by exact Nat.le_of_ble_eq_true rfl) fun w0 M0 => ?_
 refine aF (aA (az rfl (b8 rfl (b8 rfl (aD (aC (aF (aF (aA ?_)))))))))
 refine aa rfl rfl rfl (by exact Nat.le_of_ble_eq_true rfl) ?_
 refine aq (x8 b hs) rfl rfl rfl rfl rfl (b8 rfl (aD (aC (aF (aA (bP rfl (av rfl rfl rfl (aD (aC ?_)))))))))
 refine dB rfl (fun hc1 => ?_) (fun hc1 => ?_)
 ·refine aF (aA (bP rfl (b8 rfl (b8 rfl (aD (aC (au (aP ?_))))))))
  refine gG rfl rfl rfl ?_ ?_
  all_goals skip
  all_goals first | exact bD rfl rfl (congrArg (fun z : Int × Int => Ty.int .i64 z.1) (Am hc1).symm) | exact bD rfl rfl (congrArg (fun z : Int × Int => Ty.int .i64 z.2) (Am hc1).symm)
 refine ak (aC (aF (aA (eV rfl ?_))))
 refine aq (DT rings (by omega)) rfl rfl rfl rfl rfl ?_
 refine xO rfl (aD (aC (aF (aF (aA (eV rfl ?_))))))
 refine aa rfl rfl rfl (by exact Nat.le_of_ble_eq_true rfl) ?_
 refine rA rfl ?_
 refine aq (xI rings.flatten (Ty.Mx 124 [eC b]) rfl (fun n => b.cJ n) rfl rfl fun x _ => uE (Ot b hs x) rfl rfl rfl rfl rfl rfl) rfl rfl rfl rfl rfl ?_
 refine dK rfl (aD (aC ?_))
 refine c8 rfl (fun hc2 => ?_) (fun hc2 => ?_)
 ·refine aF (aA (b8 rfl (b8 rfl (aD (aC (au (aP ?_)))))))
  refine gG rfl rfl rfl ?_ ?_
  all_goals skip
  all_goals first | exact bD rfl rfl (congrArg (fun z : Int × Int => Ty.int .i64 z.1) (gF hc1 (BG (vD _ hc2))).symm) | exact bD rfl rfl (congrArg (fun z : Int × Int => Ty.int .i64 z.2) (gF hc1 (BG (vD _ hc2))).symm)
 refine ak (aC (aF (aF ?_)))
 have hoff : mK b rings = false := vD _ hc2
 refine aA (eV rfl (bq rfl rfl rfl (bP rfl (aD (aC (aY ?_))))))
 refine cI (fun (k : {k : Nat // ∀ i, i < k → decide (nth rings.flatten i ∈ rings.flatten.take i) = false}) => live [(1, Ty.sl AF rings), (2, Ty.pp (cH b)), (7, Ty.sl eB rings.flatten), (26, Ty.sl eB rings.flatten), (27, Ty.int .i64 rings.flatten.length), (28, Ty.int .i64 (k.1 : Nat))] []) (fun k => rings.flatten.length - k.1) (⟨0, fun i hi => absurd hi (Nat.not_lt_zero i)⟩) ?_ fun k => ?_
 ·(refine cr.mk' ?_ ?_ <;> (repeat' (first | exact aH | exact aI | refine aB ?_ (Ty.aS _) | refine aB ?_ (Ty.aG _))))
 refine aF (aA (av rfl rfl rfl (aD (aC (aF ?_)))))
 refine aj rfl (fun hc3 => ?_) (fun hc3 => ?_)
 ·refine ak (aC (aF (aY (aF (aA (bP rfl ?_))))))
  refine bC rfl rfl rfl rfl rfl rfl (by omega) ?_
  refine aL rfl rfl rfl rfl (b8 rfl (b8 rfl (aD (aC (aF (aA (eV rfl (bP rfl ?_))))))))
  refine qF rfl rfl rfl rfl rfl rfl (by omega) ?_
  refine bP rfl (aq (qG _ _) rfl rfl rfl rfl rfl (aD (aC ?_)))
  refine aj rfl (fun hc4 => ?_) (fun hc4 => ?_)
  ·refine aF (aA (b8 rfl (b8 rfl (aD (aC (au (af (aP (aP (af (aP ?_)))))))))))
   refine gG rfl rfl rfl ?_ ?_
   all_goals skip
   all_goals first | exact bD rfl rfl (congrArg (fun z : Int × Int => Ty.int .i64 z.1) (gF hc1 (xH hoff (CK (by omega) (decide_eq_true hc4)))).symm) | exact bD rfl rfl (congrArg (fun z : Int × Int => Ty.int .i64 z.2) (gF hc1 (xH hoff (CK (k := k.1) (by omega) (decide_eq_true hc4)))).symm)
  refine ak (bJ (aC (aA ?_)))
  refine cD rfl rfl (by omega) (by omega) ?_
  refine bP rfl (aD ?_)
  refine bS (⟨k.1 + 1, DC k.2 (decide_eq_false hc4)⟩) ?_ (by show rings.flatten.length - (k.1 + 1) < rings.flatten.length - k.1; omega)
  (refine cr.mk' ?_ ?_ <;> (repeat' (first | exact aH | exact aI | refine aB ?_ (Ty.aS _) | refine aB ?_ (Ty.aG _))))
  all_goals skip
 refine b9 (aN (aN (aZ rfl (aC (aF (aF ?_))))))
 have htw : vM rings.flatten = false := xX k.2 (by omega)
 refine aA (eV rfl (bq rfl rfl rfl (bP rfl (aD (aC (aY ?_))))))
 refine cI (fun (m : {m : Nat // ∀ l ∈ rings.take m, (!lE b l) = false}) => live [(1, Ty.sl AF rings), (2, Ty.pp (cH b)), (39, Ty.sl AF rings), (40, Ty.int .i64 rings.length), (41, Ty.int .i64 (m.1 : Nat))] []) (fun m => rings.length - m.1) (⟨0, by simp⟩) ?_ fun m => ?_
 ·(refine cr.mk' ?_ ?_ <;> (repeat' (first | exact aH | exact aI | refine aB ?_ (Ty.aS _) | refine aB ?_ (Ty.aG _))))
 refine aF (aA (av rfl rfl rfl (aD (aC (aF ?_)))))
 refine aj rfl (fun hc5 => ?_) (fun hc5 => ?_)
 ·refine ak (aC (aF (aY (aF (aA ?_)))))
  refine bC rfl rfl rfl rfl rfl rfl (by omega) ?_
  refine aL rfl rfl rfl rfl (xO rfl (aD (aC (aF (aF (aA (eV rfl (bq rfl rfl rfl (av rfl rfl rfl (aD (aC ?_)))))))))))
  refine aj rfl (fun hc6 => ?_) (fun hc6 => ?_)
  ·refine aF (aA (b8 rfl (b8 rfl (aD (aC (au (aP (af (aP (aP (af (aP ?_))))))))))))
   refine gG rfl rfl rfl ?_ ?_
   all_goals skip
   all_goals first | exact bD rfl rfl (congrArg (fun z : Int × Int => Ty.int .i64 z.1) (gF hc1 (nT hoff htw (uI (m := m.1) (by omega) (wq (by omega))))).symm) | exact bD rfl rfl (congrArg (fun z : Int × Int => Ty.int .i64 z.2) (gF hc1 (nT hoff htw (uI (m := m.1) (by omega) (wq (by omega))))).symm)
  refine ak (aC (aF (aA (eV rfl (bq rfl rfl rfl (bP rfl (aD (aC (aY ?_)))))))))
  refine cI (fun (i : {i : Nat // ∀ j, j < i → sY b (nth rings m.1) j = true}) => live [(1, Ty.sl AF rings), (2, Ty.pp (cH b)), (11, Ty.sl eB (nth rings m.1)), (39, Ty.sl AF rings), (40, Ty.int .i64 rings.length), (41, Ty.int .i64 (m.1 : Nat)), (48, Ty.sl eB (nth rings m.1)), (49, Ty.int .i64 (nth rings m.1).length), (50, Ty.int .i64 (i.1 : Nat))] []) (fun i => (nth rings m.1).length - i.1) (⟨0, fun i hi => absurd hi (Nat.not_lt_zero i)⟩) ?_ fun i => ?_
  ·(refine cr.mk' ?_ ?_ <;> (repeat' (first | exact aH | exact aI | refine aB ?_ (Ty.aS _) | refine aB ?_ (Ty.aG _))))
  refine aF (aA (av rfl rfl rfl (aD (aC (aF ?_)))))
  refine aj rfl (fun hc7 => ?_) (fun hc7 => ?_)
  ·refine ak (aC (aF (aY (aF (aA (bP rfl ?_))))))
   refine bC rfl rfl rfl rfl rfl rfl (by omega) ?_
   refine aL rfl rfl rfl rfl (b8 rfl (b8 rfl (aD (aC (aF ?_)))))
   have hri := NX hoff (m := m.1) (i := i.1) (by omega) (by omega)
   have hrl := MW (rings := rings) (m := m.1) (by omega)
   refine cq mixed rfl ?_
   refine aa rfl rfl rfl (by exact Nat.le_of_ble_eq_true rfl) ?_
   refine bP rfl (aq (JI b (nth (nth rings m.1) i.1) hri) rfl rfl rfl rfl rfl (eV rfl (bP rfl ?_)))
   refine cD rfl rfl (by omega) (by omega) ?_
   refine eV rfl (bq rfl rfl rfl ?_)
   refine Pt (k := i.1) rfl rfl (by omega) ?_
   refine dX rfl rfl rfl rfl rfl rfl (by omega) (by have := Nat.mod_lt (i.1 + 1) (show 0 < (nth rings m.1).length by omega); omega) ?_
   refine aL rfl rfl rfl rfl (av rfl rfl rfl (aD ?_))
   refine ⟨by kernel_rfl, ?_⟩
   refine aC ?_
   refine dB rfl (fun hc8 => ?_) (fun hc8 => ?_)
   ·refine aF (aA (b8 rfl (b8 rfl (aD (aC (au (af (aP (aP (af (af (aP (aP (af (aP ?_)))))))))))))))
    refine gG rfl rfl rfl ?_ ?_
    all_goals skip
    all_goals first | exact bD rfl rfl (congrArg (fun z : Int × Int => Ty.int .i64 z.1) (gF hc1 (nT hoff htw (uI (m := m.1) (by omega) (qw (k := i.1) (by omega) (decide_eq_false hc8))))).symm) | exact bD rfl rfl (congrArg (fun z : Int × Int => Ty.int .i64 z.2) (gF hc1 (nT hoff htw (uI (m := m.1) (by omega) (qw (k := i.1) (by omega) (decide_eq_false hc8))))).symm)
   refine ak (bJ (aC (aA ?_)))
   refine cD rfl rfl (by omega) (by omega) ?_
   refine bP rfl (aD ?_)
   refine bS (⟨i.1 + 1, Gs i.2 (decide_eq_true hc8)⟩) ?_ (by show (nth rings m.1).length - (i.1 + 1) < (nth rings m.1).length - i.1; omega)
   (refine cr.mk' ?_ ?_ <;> (repeat' (first | exact aH | exact aI | refine aB ?_ (Ty.aS _) | refine aB ?_ (Ty.aG _))))
   all_goals skip
  refine b9 (aN (aN (aZ rfl (bJ (aC (aA ?_))))))
  refine cD rfl rfl (by omega) (by omega) ?_
  refine bP rfl (aD ?_)
  refine bS (⟨m.1 + 1, Ju (by omega) m.2 (by omega) (fun j hj => i.2 j (by omega))⟩) ?_ (by show rings.length - (m.1 + 1) < rings.length - m.1; omega)
  (refine cr.mk' ?_ ?_ <;> (repeat' (first | exact aH | exact aI | refine aB ?_ (Ty.aS _) | refine aB ?_ (Ty.aG _))))
  all_goals skip
 refine b9 (aN (aN (aZ rfl (aC (aF ?_)))))
 have hwr : wC b rings = false := F9 (by omega) m.2
 have hml : (IE b).length ≤ b.lots.length := zw _ _
 have hs1 := hs.lots
 refine aA ?_
 refine aa rfl rfl rfl (by exact Nat.le_of_ble_eq_true rfl) ?_
 refine aq (PI b hs) rfl rfl rfl rfl rfl (bq rfl rfl rfl (eV rfl (bq rfl rfl rfl ?_)))
 refine cD rfl rfl (by omega) (by omega) ?_
 refine b8 rfl (b8 rfl (aD (aC (au ?_))))
 refine gG rfl rfl rfl ?_ ?_
 all_goals skip
 all_goals first | exact bD rfl rfl (congrArg (fun z : Int × Int => Ty.int .i64 z.1) (gF hc1 (ER hoff htw hwr)).symm) | exact bD rfl rfl (congrArg (fun z : Int × Int => Ty.int .i64 z.2) (gF hc1 (ER hoff htw hwr)).symm)
end Go.Proofs.YtmmcenjknimhbaaGreat
namespace Go.Proofs.YtmmcenjknimhbaaGreat
open Go Go.T
set_option maxHeartbeats 4000000
theorem OB : (Ty.agg [Ty.ex (.slice none 0 0), Ty.ex (.slice none 0 0)]).Sub (eC H6) := fun w M v ⟨cs, e, h⟩ => by
  obtain ⟨cs⟩ := cs
  match cs, h with
  | [_, _], ⟨h1, h2, _⟩ => exact ⟨_, e, Ty.qp w M _ h1, Ty.qp w M _ h2, trivial⟩
theorem vY {x : aW} (h : x = H6) : eu (Ty.agg [Ty.ex (.slice none 0 0), Ty.ex (.slice none 0 0)]) (eC x) := by subst h; exact tw rfl rfl OB
attribute [local irreducible] fL dg lG nG fZ gA fy fm ff nB gB m6 cw fA m4 ew nM nth eU cm aV cy bodyPost Exit.then Exit.inBlock Code.wp Code.wpIn fI ry rq rY iY sB rZ iV sA e9 gr p8 cT cO bodyPostM dW
set_option maxRecDepth 100000 in
theorem LS (b : aW) (hs : b.Small) (t : bu) : cy Tryz.prog 109 [eC b, Ty.agg (cv.tys t)] (Ty.jk [eC (eL b t).1, Ty.int .i64 (eL b t).2]) := by
 refine aX Tryz.func109 rfl (by decide) Tryz.ntmps109 (by exact Nat.le_of_ble_eq_true rfl) fun w0 M0 => ?_
 refine aF (aA (az rfl (az rfl ?_)))
 refine bX rfl (by exact List.cons_ne_nil _ _) rfl ?_
 refine b8 rfl (aD (aC (aF (aY (aF (aA ?_))))))
 refine aa rfl rfl rfl (by exact Nat.le_of_ble_eq_true rfl) ?_
 refine aQ rfl rfl rfl rfl rfl (by decide) ?_
 refine aL rfl rfl rfl rfl (aq (Ot b hs _) rfl rfl rfl rfl rfl (dK rfl (gw rfl ?_)))
 apply aM (s := 13) rfl rfl rfl
 ·intro hg; apply aO; (refine aa rfl rfl rfl (by exact Nat.le_of_ble_eq_true rfl) ?_); refine aD ?_; exact rfl
 ·exact rfl
 ·exact rfl
 apply aM (s := 13) rfl rfl rfl
 ·intro hg; apply aO; (refine aQ rfl rfl rfl rfl rfl (by decide) ?_); refine aD ?_; exact rfl
 ·exact rfl
 ·exact rfl
 apply aM (s := 13) rfl rfl rfl
 ·intro hg; apply aJ (s := 15) rfl (by (rw [hg]; rfl)); apply aO; (refine aL rfl rfl rfl rfl ?_); refine aD ?_; exact rfl
 ·exact rfl
 ·exact rfl
 apply aM (s := 13) rfl rfl rfl
 ·intro hg; apply aJ (s := 14) rfl (by (rw [hg]; rfl)); apply aJ (s := 16) rfl (by (rw [hg]; rfl)); apply aO; (refine aq (Km b hs _) rfl rfl rfl rfl rfl ?_); refine aD ?_; exact rfl
 ·exact rfl
 ·exact rfl
 apply aM (s := 13) rfl rfl rfl
 ·intro hg; apply aJ (s := 17) rfl (by (rw [hg]; rfl)); apply aO; (refine dK rfl ?_); refine aD ?_; exact rfl
 ·exact rfl
 ·exact rfl
 refine iS rfl rfl (dJ rfl (aD (aC ?_)))
 refine c8 rfl (fun hc1 => ?_) (fun hc1 => ?_)
 ·refine aF (aA ?_)
  refine c6 rfl rfl (by exact List.cons_ne_nil _ _) rfl (by repeat (exact (aT.nil : aT _ _ [] _))) (by exact (rfl : _ = some [_, _])) ?_
  refine bW rfl rfl (by decide) rfl rfl rfl rfl rfl rfl ?_
  refine b8 rfl (aD (aC (au (af (aP ?_)))))
  refine qI rfl rfl rfl rfl rfl (by decide) rfl rfl rfl ?_ ?_
  all_goals skip
  all_goals first | exact vY (congrArg Prod.fst (yp hc1)) | exact bD rfl rfl (congrArg (fun z : aW × Int => Ty.int .i64 z.2) (yp hc1).symm)
 refine aF (aA ?_)
 refine aa rfl rfl rfl (by exact Nat.le_of_ble_eq_true rfl) ?_
 refine aQ rfl rfl rfl rfl rfl (by decide) ?_
 refine aL rfl rfl rfl rfl (aq (Ph b _) rfl rfl rfl rfl rfl (dK rfl (dJ rfl (aD (aC ?_)))))
 refine c8 rfl (fun hc2 => ?_) (fun hc2 => ?_)
 ·refine aF (aA ?_)
  refine c6 rfl rfl (by exact List.cons_ne_nil _ _) rfl (by repeat (exact (aT.nil : aT _ _ [] _))) (by exact (rfl : _ = some [_, _])) ?_
  refine bW rfl rfl (by decide) rfl rfl rfl rfl rfl rfl ?_
  refine b8 rfl (aD (aC (au (af (aP ?_)))))
  refine qI rfl rfl rfl rfl rfl (by decide) rfl rfl rfl ?_ ?_
  all_goals skip
  all_goals first | exact vY (congrArg Prod.fst (zf hc1 (E0 hc2))) | exact bD rfl rfl (congrArg (fun z : aW × Int => Ty.int .i64 z.2) (zf hc1 (E0 hc2)).symm)
 refine aF ?_
 have hkn := vW hc1
 have hs1 := hs.lots
 refine aA ?_
 refine aa rfl rfl rfl (by exact Nat.le_of_ble_eq_true rfl) ?_
 refine aQ rfl rfl rfl rfl rfl (by decide) ?_
 refine aL rfl rfl rfl rfl ?_
 refine aQ rfl rfl rfl rfl rfl (by decide) ?_
 refine aL rfl rfl rfl rfl (aq (tX b t.aim t.cJ hkn.2 hkn.1) rfl rfl rfl rfl rfl (dK rfl (dJ rfl (aD (aC ?_)))))
 refine dB rfl (fun hc3 => ?_) (fun hc3 => ?_)
 ·refine aF (aA ?_)
  refine c6 rfl rfl (by exact List.cons_ne_nil _ _) rfl (by repeat (exact (aT.nil : aT _ _ [] _))) (by exact (rfl : _ = some [_, _])) ?_
  refine bW rfl rfl (by decide) rfl rfl rfl rfl rfl rfl ?_
  refine b8 rfl (aD (aC (au (af (aP ?_)))))
  refine qI rfl rfl rfl rfl rfl (by decide) rfl rfl rfl ?_ ?_
  all_goals skip
  all_goals first | exact vY (congrArg Prod.fst (zR hc1 (gq hc2) (decide_eq_false hc3))) | exact bD rfl rfl (congrArg (fun z : aW × Int => Ty.int .i64 z.2) (zR hc1 (gq hc2) (decide_eq_false hc3)).symm)
 refine ak (bJ (aC (aF ?_)))
 have hkn := vW hc1
 have hs1 := hs.lots
 refine aA ?_
 refine aQ rfl rfl rfl rfl rfl (by decide) ?_
 refine aL rfl rfl rfl rfl (bq rfl rfl rfl ?_)
 refine Ng (E := gC) (x0 := ⟨0, 0, 0⟩) rfl rfl rfl rfl rfl rfl rfl (by decide) rfl (by omega) (by (dsimp only; omega)) (by omega) ?_
 refine SG rfl (aD (aC (aF (aA (FZ rfl ?_)))))
 refine aQ rfl rfl rfl rfl rfl (by decide) ?_
 refine aL rfl rfl rfl rfl ?_
 refine Ob rfl rfl rfl (by decide) rfl rfl rfl rfl (by (simp <;> omega)) (by omega) ?_
 refine aD (aC (aF ?_))
 refine wz (tg := 41) rfl (Cont.iM (show b.lots ++ List.drop b.lots.length (List.replicate ((b.lots.length : Int)).toNat (⟨0, 0, 0⟩ : p4)) = b.lots by rw [List.drop_of_length_le (by simp), List.append_nil])) ?_
 refine aA (FZ rfl ?_)
 refine aQ rfl rfl rfl rfl rfl (by decide) ?_
 refine aL rfl rfl rfl rfl ?_
 refine aQ rfl rfl rfl rfl rfl (by decide) ?_
 refine aL rfl rfl rfl rfl ?_
 refine gS rfl rfl rfl rfl rfl hkn.1.1 (by omega) ?_
 refine aR rfl rfl rfl rfl rfl (by decide) ?_
 refine Cc (E := gC) (z := ⟨(nth b.lots t.cJ.toNat).sacks, t.aim, (nth b.lots t.cJ.toNat).aim⟩) rfl rfl rfl (by decide) rfl rfl (by exact (rfl : _ = Ty.int _ _)) rfl (by omega) (by decide) rfl rfl ?_
 refine aD (aC (aF ?_))
 refine mC (tg := 41) [(6, Ty.sl gC (nU b t))] (by decide) rfl ⟨DK rfl rfl (by simp [nU]) (by decide), trivial⟩ ?_
 refine aA ?_
 refine aQ rfl rfl rfl rfl rfl (by decide) ?_
 refine aL rfl rfl rfl rfl (eV rfl ?_)
 refine c6 rfl rfl (by exact List.cons_ne_nil _ _) rfl (by repeat (first | exact (aT.nil : aT _ _ [] _) | (show aT _ _ ((_, _) :: _) _; apply aT.one; (· exact (rfl : _ = Ty.sl _ _)); (· exact rfl)))) (by exact (rfl : _ = some [_, _])) ?_
 refine bW rfl rfl (by decide) rfl rfl rfl rfl rfl rfl ?_
 refine b8 rfl (aD (aC (au ?_)))
 refine qI rfl rfl rfl rfl rfl (by decide) rfl rfl rfl ?_ ?_
 all_goals skip
 all_goals first | exact bD rfl rfl (congrArg (fun z : aW × Int => eC z.1) (tT hc1 (gq hc2) (decide_eq_true (by omega))).symm) | exact bD rfl rfl (congrArg (fun z : aW × Int => Ty.int .i64 z.2) (tT hc1 (gq hc2) (decide_eq_true (by omega))).symm)
set_option maxRecDepth 100000 in
theorem KQ (b : aW) (hs : b.Small) (plan : List bu) (hp : plan.length ≤ 1000000) : cy Tryz.prog 52 [eC b, Ty.sl cv plan] (Ty.jk [eC (iR b plan).1, Ty.sl cv (iR b plan).2.1, Ty.int .i64 (iR b plan).2.2]) := by
 refine aX Tryz.func52 rfl (by decide) Tryz.ntmps52 (by exact Nat.le_of_ble_eq_true rfl) fun w0 M0 => ?_
 refine aF (aA (az rfl ?_))
 refine bX rfl (by exact List.cons_ne_nil _ _) rfl ?_
 refine iT rfl (b8 rfl (aD (aC (aF (aF (aA ?_))))))
 refine aa rfl rfl rfl (by exact Nat.le_of_ble_eq_true rfl) ?_
 refine aq (x8 b hs) rfl rfl rfl rfl rfl (b8 rfl (aD (aC (aF (aA (bP rfl (av rfl rfl rfl (aD (aC ?_)))))))))
 refine dB rfl (fun hc1 => ?_) (fun hc1 => ?_)
 ·refine aF (aA ?_)
  refine c6 rfl rfl (by exact List.cons_ne_nil _ _) rfl (by repeat (exact (aT.nil : aT _ _ [] _))) (by exact (rfl : _ = some [_, _])) ?_
  refine bP rfl ?_
  refine bW rfl rfl (by decide) rfl rfl rfl rfl rfl rfl ?_
  refine iT rfl (b8 rfl (aD (aC (au (aP ?_)))))
  refine ug rfl rfl rfl rfl rfl rfl (by decide) rfl rfl rfl ?_ ?_ ?_
  all_goals skip
  all_goals first | exact vY (congrArg Prod.fst (vI hc1)) | exact eS (congrArg (fun z : aW × List bu × Int => z.2.1) (vI hc1)) | exact bD rfl rfl (congrArg (fun z : aW × List bu × Int => Ty.int .i64 z.2.2) (vI hc1).symm)
 refine ak (aC (aF (aF (aA (eV rfl (bq rfl rfl rfl (av rfl rfl rfl (aD (aC ?_)))))))))
 refine aj rfl (fun hc2 => ?_) (fun hc2 => ?_)
 ·refine aF (aA ?_)
  refine c6 rfl rfl (by exact List.cons_ne_nil _ _) rfl (by repeat (exact (aT.nil : aT _ _ [] _))) (by exact (rfl : _ = some [_, _])) ?_
  refine bW rfl rfl (by decide) rfl rfl rfl rfl rfl rfl ?_
  refine iT rfl (b8 rfl (aD (aC (au (aP ?_)))))
  refine ug rfl rfl rfl rfl rfl rfl (by decide) rfl rfl rfl ?_ ?_ ?_
  all_goals skip
  all_goals first | exact vY (congrArg Prod.fst (tG hc1 hc2)) | exact eS (congrArg (fun z : aW × List bu × Int => z.2.1) (tG hc1 hc2)) | exact bD rfl rfl (congrArg (fun z : aW × List bu × Int => Ty.int .i64 z.2.2) (tG hc1 hc2).symm)
 refine ak (aC (aF (aA (iT rfl (aD (aC (aF (cq mixed rfl ?_))))))))
 refine aQ rfl rfl rfl rfl rfl (by decide) ?_
 refine aL rfl rfl rfl rfl ?_
 refine aq (EY b.sizes (by have := hs.sizes; omega)) rfl rfl rfl rfl rfl ?_
 refine aQ rfl rfl rfl rfl rfl (by decide) ?_
 refine aL rfl rfl rfl rfl ?_
 refine aq (D1 b.lots (by have := hs.lots; omega)) rfl rfl rfl rfl rfl ?_
 refine c6 rfl rfl (by exact List.cons_ne_nil _ _) rfl (by repeat (first | exact (aT.nil : aT _ _ [] _) | (show aT _ _ ((_, _) :: _) _; apply aT.one; (· exact (rfl : _ = Ty.sl _ _)); (· exact rfl)))) (by exact (rfl : _ = some [_, _])) ?_
 refine bX rfl (by exact List.cons_ne_nil _ _) rfl ?_
 refine bW rfl rfl (by decide) rfl rfl rfl rfl rfl rfl ?_
 refine aD ?_
 refine ⟨by kernel_rfl, ?_⟩
 refine aC (aF (aF (aA (eV rfl (bq rfl rfl rfl (bP rfl (aD (aC (aY ?_)))))))))
 refine cI (fun (x : {x : Nat × aW × List bu // O0 b plan x.1 x.2.1 x.2.2}) => live [(4, Ty.ptr 5 0), (8, Ty.row cv 70 60 x.1.2.2), (9, Ty.ptr 10 0), (31, Ty.sl cv plan), (32, Ty.int .i64 plan.length), (33, Ty.int .i64 (x.1.1 : Nat))] [(5, Cont.cells 62 [Ty.ex (.slice none 0 0), Ty.ex (.slice none 0 0)]), (10, Cont.cells 62 (cH x.1.2.1))]) (fun x => plan.length - x.1.1) (⟨(0, b, []), RR b plan⟩) ?_ fun x => ?_
 ·(refine cr.mk' ?_ ?_ <;> (repeat' (first | exact aH | exact aI | refine aB ?_ (Ty.aS _) | refine aB ?_ (Ty.aG _) | refine aB ?_ Ty.iP | refine aK rfl (Cont.aG _) ?_)))
 have hxl := x.2.len
 refine aF (aA (av rfl rfl rfl (aD (aC (aF ?_)))))
 refine aj rfl (fun hc3 => ?_) (fun hc3 => ?_)
 ·refine ak (aC (aF (aY (aF (aA ?_)))))
  refine bC rfl rfl rfl rfl rfl rfl (by omega) ?_
  refine aa rfl rfl rfl (by exact Nat.le_of_ble_eq_true rfl) ?_
  refine bX rfl (by exact List.cons_ne_nil _ _) rfl ?_
  refine bW rfl rfl (by decide) rfl rfl rfl rfl rfl rfl ?_
  refine aD (aC (aF (aA ?_)))
  refine bI rfl rfl (by decide) rfl rfl (by exact Nat.le_of_ble_eq_true rfl) ?_
  refine bI rfl rfl (by decide) rfl rfl (by exact Nat.le_of_ble_eq_true rfl) ?_
  refine aq (LS x.1.2.1 (x.2.small hs) (nth plan x.1.1)) rfl rfl rfl rfl rfl (uq rfl (bF rfl rfl (bF rfl rfl ?_)))
  refine bX rfl (by exact List.cons_ne_nil _ _) rfl ?_
  refine bW rfl rfl (by decide) rfl rfl rfl rfl rfl rfl ?_
  refine b8 rfl (aD (aC (aF (aF (aA (bP rfl (av rfl rfl rfl (aD (aC ?_)))))))))
  refine dB rfl (fun hc4 => ?_) (fun hc4 => ?_)
  ·refine aF (aA ?_)
   refine c6 rfl rfl (by exact List.cons_ne_nil _ _) rfl (by repeat (exact (aT.nil : aT _ _ [] _))) (by exact (rfl : _ = some [_, _])) ?_
   refine bP rfl ?_
   refine bW rfl rfl (by decide) rfl rfl rfl rfl rfl rfl ?_
   refine iT rfl (b8 rfl (aD (aC (au (aP (af (aP (aP (af (aP ?_))))))))))
   refine ug rfl rfl rfl rfl rfl rfl (by decide) rfl rfl rfl ?_ ?_ ?_
   all_goals skip
   all_goals first | exact vY (congrArg Prod.fst (mJ hc1 hc2 (x.2.stop (by omega) hc4))) | exact eS (congrArg (fun z : aW × List bu × Int => z.2.1) (mJ hc1 hc2 (x.2.stop (by omega) hc4))) | exact bD rfl rfl (congrArg (fun z : aW × List bu × Int => Ty.int .i64 z.2.2) (mJ hc1 hc2 (x.2.stop (by omega) hc4)).symm)
  refine ak (aC (aF ?_))
  obtain ⟨hk1, hk2, hk3, hk4, hk5⟩ := yQ hc4
  refine cq mixed rfl (AO rfl ?_)
  refine aR rfl rfl rfl rfl rfl (by decide) ?_
  refine aU rfl rfl (by decide) rfl rfl rfl ?_
  refine aR rfl rfl rfl rfl rfl (by decide) ?_
  refine aU rfl rfl (by decide) rfl rfl rfl ?_
  refine aR rfl rfl rfl rfl rfl (by decide) ?_
  refine aU rfl rfl (by decide) rfl rfl rfl ?_
  refine dX rfl rfl rfl rfl rfl rfl hk1.1 (by omega) ?_
  refine aQ rfl rfl rfl rfl rfl (by decide) ?_
  refine aL rfl rfl rfl rfl ?_
  refine c6 rfl rfl (by exact List.cons_ne_nil _ _) rfl (by repeat (first | exact (aT.nil : aT _ _ [] _) | (show aT _ _ ((_, _) :: _) _; apply aT.one; (· exact (rfl : _ = Ty.int _ _)); (· exact rfl)))) (by exact (rfl : _ = some [_, _])) ?_
  refine bY (E := cv) (xs := [⟨(nth plan x.1.1).cJ, (nth x.1.2.1.lots (nth plan x.1.1).cJ.toNat).inn⟩]) rfl rfl rfl rfl rfl (by decide) (by decide) (by repeat (first | exact (aT.nil : aT _ _ [] _) | (show aT _ _ ((_, _) :: _) _; apply aT.agg; (· exact (rfl : _ = Ty.agg _))))) (by exact rfl) rfl ?_
  refine dz rfl rfl (by decide) rfl rfl rfl rfl rfl rfl (by decide) (by (simp <;> omega)) (by (simp <;> omega)) ?_
  refine uT rfl (aD ?_)
  refine ⟨by kernel_rfl, ?_⟩
  refine aC (aA ?_)
  refine bI rfl rfl (by decide) rfl rfl (by exact Nat.le_of_ble_eq_true rfl) ?_
  refine bW rfl rfl (by decide) rfl rfl rfl rfl rfl rfl ?_
  refine aD (bJ (aC (aA ?_)))
  refine cD rfl rfl (by omega) (by omega) ?_
  refine bP rfl (aD ?_)
  refine bS (⟨(x.1.1 + 1, (eL x.1.2.1 (nth plan x.1.1)).1, x.1.2.2 ++ [⟨(nth plan x.1.1).cJ, (nth x.1.2.1.lots (nth plan x.1.1).cJ.toNat).inn⟩]), x.2.next (by omega) hc4⟩) ?_ (by show plan.length - (x.1.1 + 1) < plan.length - x.1.1; omega)
  (refine cr.mk' ?_ ?_ <;> (repeat' (first | exact aH | exact aI | refine aB ?_ (Ty.aS _) | refine aB ?_ (Ty.aG _) | refine aK rfl (Cont.aG _) ?_)))
  all_goals skip
 refine b9 (aN (aN (aZ rfl (aC (aF ?_)))))
 have hxe := x.2.le
 refine LP (s := 8) rfl rfl ?_
 refine aA (FZ rfl ?_)
 refine eH [(60, 1000)] [] [(60, Cont.vec cv 70 x.1.2.2.reverse)] (Aj x.1.2.2 (by omega)) rfl rfl (by repeat (first | exact fM | refine eE ?_ ?_ | exact Ow List.mem_cons_self)) (eM (a := 60) (b := 1000) (by exact List.mem_cons_self) rfl (vn (by exact List.mem_cons_self) rfl) pre_nil) (dL (a := 60) (b := 1000) (by exact List.mem_cons_self) rfl (vn (by exact List.mem_cons_self) rfl) post_nil) (c7 rfl rfl) ?_
 refine aD (aC (aF ?_))
 refine mC (tg := 60) [(8, Ty.sl cv x.1.2.2.reverse)] (by decide) rfl ⟨DK rfl rfl (by rw [List.length_reverse]) (by decide), trivial⟩ ?_
 refine aA ?_
 refine bI rfl rfl (by decide) rfl rfl (by exact Nat.le_of_ble_eq_true rfl) ?_
 refine eV rfl ?_
 refine bW rfl rfl (by decide) rfl rfl rfl rfl rfl rfl ?_
 refine xO rfl (b8 rfl (aD (aC (au ?_))))
 refine ug rfl rfl rfl rfl rfl rfl (by decide) rfl rfl rfl ?_ ?_ ?_
 all_goals skip
 all_goals first | exact bD rfl rfl (congrArg (fun z : aW × List bu × Int => eC z.1) (mJ hc1 hc2 (x.2.end (by omega))).symm) | exact bD rfl rfl (congrArg (fun z : aW × List bu × Int => Ty.sl cv z.2.1) (mJ hc1 hc2 (x.2.end (by omega))).symm) | exact bD rfl rfl (congrArg (fun z : aW × List bu × Int => Ty.int .i64 z.2.2) (mJ hc1 hc2 (x.2.end (by omega))).symm)
set_option maxRecDepth 100000 in
theorem MJ (l : p4) : cy Tryz.prog 171 [Ty.agg (gC.tys l)] (Ty.bool (decide (l.aim = -1) || decide (l.aim = l.inn))) := by
 refine aX Tryz.func171 rfl (by decide) Tryz.ntmps171 (by exact Nat.le_of_ble_eq_true rfl) fun w0 M0 => ?_
 refine aF (aA (az rfl (dJ rfl (aD (aC (aF (aA ?_)))))))
 refine aQ rfl rfl rfl rfl rfl (by decide) ?_
 refine aL rfl rfl rfl rfl (av rfl rfl rfl (gw rfl ?_))
 apply aM (s := 6) rfl rfl rfl
 ·intro hg; apply aO; (refine aQ rfl rfl rfl rfl rfl (by decide) ?_); refine aD ?_; exact rfl
 ·exact rfl
 ·exact rfl
 apply aM (s := 6) rfl rfl rfl
 ·intro hg; apply aJ (s := 7) rfl (by (rw [hg]; rfl)); apply aO; (refine aL rfl rfl rfl rfl ?_); refine aD ?_; exact rfl
 ·exact rfl
 ·exact rfl
 apply aM (s := 6) rfl rfl rfl
 ·intro hg; apply aO; (refine aQ rfl rfl rfl rfl rfl (by decide) ?_); refine aD ?_; exact rfl
 ·exact rfl
 ·exact rfl
 apply aM (s := 6) rfl rfl rfl
 ·intro hg; apply aJ (s := 9) rfl (by (rw [hg]; rfl)); apply aO; (refine aL rfl rfl rfl rfl ?_); refine aD ?_; exact rfl
 ·exact rfl
 ·exact rfl
 apply aM (s := 6) rfl rfl rfl
 ·intro hg; apply aJ (s := 8) rfl (by (rw [hg]; rfl)); apply aJ (s := 10) rfl (by (rw [hg]; rfl)); apply aO; (refine av rfl rfl rfl ?_); refine aD ?_; exact rfl
 ·exact rfl
 ·exact rfl
 refine iS rfl rfl (dJ rfl (aD (aC (au (bT rfl rfl ?_)))))
 all_goals exact bQ rfl rfl
set_option maxRecDepth 100000 in
theorem Ns (b : aW) : cy Tryz.prog 128 [eC b] (Ty.bool (K8 b)) := by
 refine aX Tryz.func128 rfl (by decide) Tryz.ntmps128 (by exact Nat.le_of_ble_eq_true rfl) fun w0 M0 => ?_
 refine aF (aA (az rfl (dJ rfl (aD (aC (aF (aA ?_)))))))
 refine aQ rfl rfl rfl rfl rfl (by decide) ?_
 refine aL rfl rfl rfl rfl ?_
 refine aq (nD b.lots (Ty.jh 171 []) rfl (fun l => decide (l.aim = -1) || decide (l.aim = l.inn)) rfl rfl fun x _ => dM (MJ x) rfl rfl rfl rfl rfl rfl) rfl rfl rfl rfl rfl ?_
 refine dJ rfl (aD (aC (au (bT rfl rfl ?_))))
 all_goals exact bQ rfl rfl
set_option maxRecDepth 100000 in
theorem OM (b : aW) (hs : b.Small) (plan : List bu) (hp : plan.length ≤ 1000000) : cy Tryz.prog 63 [eC b, Ty.sl cv plan] (Ty.jk [Ty.bool (DH b plan), Ty.int .i64 (iR b plan).2.2]) := by
 refine aX Tryz.func63 rfl (by decide) Tryz.ntmps63 (by exact Nat.le_of_ble_eq_true rfl) fun w0 M0 => ?_
 refine aF (aA (az rfl (dJ rfl (b8 rfl (aD (aC (aF (aA ?_))))))))
 refine aa rfl rfl rfl (by exact Nat.le_of_ble_eq_true rfl) ?_
 refine eV rfl (aq (KQ b hs plan hp) rfl rfl rfl rfl rfl (uq rfl (bF rfl rfl (bF rfl rfl (bF rfl rfl ?_)))))
 refine bX rfl (by exact List.cons_ne_nil _ _) rfl ?_
 refine bW rfl rfl (by decide) rfl rfl rfl rfl rfl rfl ?_
 refine xO rfl (b8 rfl (aD (aC (aF (aA (bP rfl (av rfl rfl rfl (gw rfl ?_))))))))
 apply aM (s := 18) rfl rfl rfl
 ·intro hg; apply aO; (refine bI rfl rfl (by decide) rfl rfl (by exact Nat.le_of_ble_eq_true rfl) ?_); refine aD ?_; exact rfl
 ·exact rfl
 ·exact rfl
 apply aM (s := 18) rfl rfl rfl
 ·intro hg; apply aJ (s := 19) rfl (by (rw [hg]; rfl)); apply aO; (refine aq (Ns _) rfl rfl rfl rfl rfl ?_); refine aD ?_; exact rfl
 ·exact rfl
 ·exact rfl
 refine fu rfl rfl (bP rfl (dJ rfl (b8 rfl (aD (aC (au ?_))))))
 refine gG rfl rfl rfl ?_ ?_
 all_goals exact bQ rfl rfl
set_option maxRecDepth 100000 in
theorem IG (b : aW) (hs : b.Small) (plan : List bu) (hp : plan.length ≤ 1000000) : cy Tryz.prog 17 [eC b, Ty.sl cv plan] (Ty.jk [eC (iR b plan).1, Ty.int .i64 (iR b plan).2.2]) := by
 refine aX Tryz.func17 rfl (by decide) Tryz.ntmps17 (by exact Nat.le_of_ble_eq_true rfl) fun w0 M0 => ?_
 refine aF (aA (az rfl ?_))
 refine bX rfl (by exact List.cons_ne_nil _ _) rfl ?_
 refine b8 rfl (aD (aC (aF (aA ?_))))
 refine aa rfl rfl rfl (by exact Nat.le_of_ble_eq_true rfl) ?_
 refine eV rfl (aq (KQ b hs plan hp) rfl rfl rfl rfl rfl (uq rfl (bF rfl rfl (bF rfl rfl (bF rfl rfl ?_)))))
 refine bX rfl (by exact List.cons_ne_nil _ _) rfl ?_
 refine bW rfl rfl (by decide) rfl rfl rfl rfl rfl rfl ?_
 refine xO rfl (b8 rfl (aD (aC (aF (aA ?_)))))
 refine bI rfl rfl (by decide) rfl rfl (by exact Nat.le_of_ble_eq_true rfl) ?_
 refine bP rfl ?_
 refine bW rfl rfl (by decide) rfl rfl rfl rfl rfl rfl ?_
 refine b8 rfl (aD (aC (au ?_)))
 refine qI rfl rfl rfl rfl rfl (by decide) rfl rfl rfl ?_ ?_
 all_goals exact bQ rfl rfl
end Go.Proofs.YtmmcenjknimhbaaGreat
namespace Go.T
open Go Go.RowKit
def O9 (J : World → ah → Prop) (w : World) (M : ah) : Prop :=
  ∃ Mc, Wf w Mc ∧ Ak Mc ∧ J w Mc ∧ (∀ b, M b = none → Mc b = none) ∧ ∀ b u, b < w.heap.size → M b = some u → u ≠ 7000 → Mc b = some (Zt + b)
theorem ud {J : World → ah → Prop} (hJ : Cb J) {S K : Nat → Prop} {w w' : World} {M M' : ah} (le : Le S K w M w' M') (hs : ¬ S 7000) (hk : ¬ K 7000) (h : O9 J w M) : O9 J w' M' := by
  obtain ⟨Mc, wf, z, hj, h1, h2⟩ := h
  have own : ∀ b, M b = some 7000 → M' b = some 7000 ∧ w'.heap[b]? = w.heap[b]? := fun b h => let ⟨a, c⟩ := le.own b _ h hk; ⟨a, c hs⟩
  have mb : ∀ b t, Mc b = some t → t < Zt → M b = some 7000 := fun b t h ht => by
    cases hm : M b with
    | none => rw [h1 b hm] at h; cases h
    | some u =>
      by_cases e : u = 7000
      · rw [e]
      · have := h2 b u (wf.lt b t h) hm e
        rw [this] at h; injection h with h; omega
  let N : ah := fun b => if b < w'.heap.size then (match M' b with | none => none | some u => if u = 7000 then (if b < w.heap.size ∧ M b = some 7000 then Mc b else some (Zt + b)) else some (Zt + b)) else none
  have hN : ∀ b, N b = if b < w'.heap.size then (match M' b with | none => none | some u => if u = 7000 then (if b < w.heap.size ∧ M b = some 7000 then Mc b else some (Zt + b)) else some (Zt + b)) else none := fun _ => rfl
  have zok : Ak N := by
    intro b u h hu
    rw [hN] at h
    split at h
    · split at h
      · cases h
      · split at h
        · split at h
          · exact z b u h hu
          · injection h with h; exact h.symm
        · injection h with h; exact h.symm
    · cases h
  have wf' : Wf w' N := by
    refine ⟨fun b t h => ?_, fun b b' t ht1 h h' => ?_⟩
    · rw [hN] at h
      split at h
      · assumption
      · cases h
    · have part : ∀ b, N b = some (t + 1) → Mc b = some (t + 1) := fun b h => by
        have hz : t + 1 < Zt := by unfold Zt; omega
        rw [hN] at h
        split at h
        · split at h
          · cases h
          · split at h
            · split at h
              · exact h
              · injection h with h; omega
            · injection h with h; omega
        · cases h
      exact wf.inj b b' t ht1 (part b h) (part b' h')
  have lez : Le (fun t => Zt ≤ t) (fun t => Zt ≤ t) w Mc w' N := by
    refine ⟨le.size, le.os, le.tape, le.out, fun b hb hm => ?_, fun b t hm ht => ?_⟩
    · have hb' : b < w'.heap.size := Nat.lt_of_lt_of_le hb le.size
      cases hmb : M b with
      | none =>
        obtain ⟨a, c⟩ := le.oK b hb hmb
        exact ⟨by rw [hN, if_pos hb', a], c⟩
      | some u =>
        by_cases e : u = 7000
        · subst e
          obtain ⟨a, c⟩ := own b hmb
          exact ⟨by rw [hN, if_pos hb', a]; show (if (7000 : Nat) = 7000 then _ else _) = _; rw [if_pos rfl, if_pos ⟨hb, hmb⟩]; exact hm, c⟩
        · rw [h2 b u hb hmb e] at hm; cases hm
    · have hlt := wf.lt b t hm
      have h0 := mb b t hm (Nat.lt_of_not_le ht)
      obtain ⟨a, c⟩ := own b h0
      refine ⟨?_, fun _ => c⟩
      rw [hN, if_pos (Nat.lt_of_lt_of_le hlt le.size), a]
      show (if (7000 : Nat) = 7000 then _ else _) = _
      rw [if_pos rfl, if_pos ⟨hlt, h0⟩]; exact hm
  refine ⟨N, wf', zok, hJ _ _ _ _ wf' lez hj, fun b h => ?_, fun b u hb h hu => ?_⟩
  · rw [hN, h]; split <;> rfl
  · rw [hN, if_pos hb, h]; show (if u = 7000 then _ else _) = _; rw [if_neg hu]
def Cont.ck {J : World → ah → Prop} (hJ : Cb J) : Cont :=
  { den := fun w M t => t = 7000 ∧ O9 J w M
    mono := fun le _ _ hs hk ⟨e, h⟩ => ⟨e, ud hJ le (e ▸ hs) (e ▸ hk) h⟩ }
theorem Cont.Kf {J : Nat → World → ah → Prop} (hJ : ∀ k, Cb (J k)) {a b : Nat} (e : a = b) : (Cont.ck (hJ a)).Sub (Cont.ck (hJ b)) := by subst e; exact Cont.aG _
def Rt (b1 : Bool) (J1 Jx : World → ah → Prop) (w : World) (M : ah) (v : Value) : Prop := (v = .bool b1 ∧ O9 J1 w M) ∨ (v = .bool (!b1) ∧ O9 Jx w M)
def Ty.yb {J1 Jx : World → ah → Prop} (b1 : Bool) (h1 : Cb J1) (hx : Cb Jx) : Ty :=
  ⟨Rt b1 J1 Jx, [7000], [7000], fun le hk hs h => h.imp (fun ⟨e, h⟩ => ⟨e, ud h1 le (hs _ (by simp)) (hk _ (by simp)) h⟩) (fun ⟨e, h⟩ => ⟨e, ud hx le (hs _ (by simp)) (hk _ (by simp)) h⟩), true, fun _ h => h.elim (fun ⟨e, _⟩ => e ▸ rfl) (fun ⟨e, _⟩ => e ▸ rfl)⟩
theorem Ty.KY {J1 J2 Jx : World → ah → Prop} {b1 : Bool} {h1 : Cb J1} {h2 : Cb J2} {hx : Cb Jx} (e : J1 = J2) : (Ty.yb b1 h1 hx).Sub (Ty.yb b1 h2 hx) := by subst e; exact Ty.aG _
def Cont.me (g T : Nat) (v : Value) (tys : List Ty) (cs : List Value) (h1 : bl tys = []) (h2 : bL tys = []) : Cont :=
  { den := fun w M _ => M g = some 1000 ∧ w.heap[g]? = some (.cells #[v] T (0, 0)) ∧ bt w M tys cs
    deps := [1000], cdeps := [1000]
    mono := fun le hk hs _ _ ⟨e1, e2, e3⟩ => let ⟨a, c⟩ := le.own g _ e1 (hk 1000 (by simp)); ⟨a, (c (hs 1000 (by simp))).trans e2, bV le (by rw [h1]; intro _ h; cases h) (by rw [h2]; intro _ h; cases h) e3⟩ }
def Cont.snap (w0 : World) (old : Nat → Prop) : Cont :=
  { den := fun w M t => ∀ b, old b → M b = some t ∧ w.heap[b]? = w0.heap[b]?
    mono := fun le _ _ hs hk h b hb => let ⟨a, c⟩ := le.own b _ (h b hb).1 hk; ⟨a, (c hs).trans (h b hb).2⟩ }
def Bs (w : World) (M1 Mc' : ah) : ah := fun b => if b < w.heap.size then M1 b else (Mc' b).map fun _ => 7000
theorem yB {w w' : World} {M1 Mc Mc' : ah} (wf1 : Wf w M1) (wf' : Wf w' Mc') (h1 : ∀ b, M1 b = none → Mc b = none) (h2 : ∀ b u, b < w.heap.size → M1 b = some u → u ≠ 7000 → Mc b = some (Zt + b)) (le : Le (fun t => t < Zt) (fun t => t < Zt) w Mc w' Mc') :
 Wf w' (Bs w M1 Mc') ∧ Le (· ∈ [7000]) (· ∈ ([] : List Nat)) w M1 w' (Bs w M1 Mc') ∧ (∀ b, Bs w M1 Mc' b = none → Mc' b = none) ∧ ∀ b u, b < w'.heap.size → Bs w M1 Mc' b = some u → u ≠ 7000 → Mc' b = some (Zt + b) := by
 unfold Bs
 refine ⟨⟨fun b u h => ?_, fun b b' u ht1 h h' => ?_⟩, ⟨le.size, le.os, le.tape, le.out, fun b hb hm => ⟨by simp [hb, hm], (le.oK b hb (h1 b hm)).2⟩, fun b u hm _ => ⟨by simp [wf1.lt b u hm, hm], fun hs => ?_⟩⟩, fun b h => ?_, fun b u _ h hu => ?_⟩
 ·split at h
  ·exact Nat.lt_of_lt_of_le ‹_› le.size
  obtain ⟨v, hv, _⟩ := Option.map_eq_some_iff.1 h
  exact wf'.lt b v hv
 ·have part : ∀ b, (if b < w.heap.size then M1 b else (Mc' b).map fun _ => 7000) = some (u + 1) → M1 b = some (u + 1) := fun b h => by
   split at h
   ·exact h
   obtain ⟨v, _, hv⟩ := Option.map_eq_some_iff.1 h
   omega
  exact wf1.inj b b' u ht1 (part b h) (part b' h')
 ·have hu : u ≠ 7000 := fun e => hs (by simp [e])
  exact (le.own b _ (h2 b u (wf1.lt b _ hm) hm hu) (by omega)).2 (by omega)
 ·split at h
  ·exact (le.oK b ‹_› (h1 b h)).1
  simpa using h
 split at h
 ·exact (le.own b _ (h2 b u ‹_› h hu) (by omega)).1
 obtain ⟨v, _, hv⟩ := Option.map_eq_some_iff.1 h
 exact absurd hv.symm hu
def wB (M : ah) (L : List Nat) : ah := fun b => match M b with | none => none | some t => if t ∈ L then none else some t
theorem Be {M : ah} {L : List Nat} {b : Nat} (h : M b = none) : wB M L b = none := by simp [wB, h]
theorem Ji {M : ah} {L : List Nat} {b : Nat} (h : lM M L b = none) : wB M L b = none := by
  unfold lM at h; unfold wB
  cases hm : M b with
  | none => rfl
  | some t =>
    rw [hm] at h
    show (if t ∈ L then none else some t) = none
    by_cases e : t ∈ L
    · rw [if_pos e]
    · have h : (if t ∈ L then none else some 0) = none := h
      rw [if_neg e] at h; cases h
theorem HP {w : World} {M : ah} {L : List Nat} : Le (· ∈ ([] : List Nat)) (· ∈ L) w M w (wB M L) :=
 ⟨Nat.le_refl _, rfl, rfl, rfl, fun b _ hm => ⟨Be hm, rfl⟩, fun b t hm hk => ⟨by simp [wB, hm, hk], fun _ => rfl⟩⟩
theorem wI {M : ah} {L : List Nat} {b t : Nat} (h : wB M L b = some t) : M b = some t := by
 unfold wB at h
 split at h
 ·cases h
 split at h
 ·cases h
 rename_i hm _; rw [hm]; exact h
theorem Nv {w : World} {M : ah} {L : List Nat} (wf : Wf w M) : Wf w (wB M L) := ⟨fun b t h => wf.lt b t (wI h), fun b b' t ht h h' => wf.inj b b' t ht (wI h) (wI h')⟩
def Hv (w : World) (Mc : ah) (J1 Jx : World → ah → Prop) (e : Ending) (w' : World) : Prop :=
  ∃ M', Wf w' M' ∧ Ak M' ∧ Le (fun t => t < Zt) (fun t => t < Zt) w Mc w' M' ∧ ((e = .returned (.bool true) ∧ J1 w' M') ∨ (e = .returned (.bool false) ∧ Jx w' M'))
abbrev gp (g : Nat) : Value := .pointer (some ⟨g, 0, none⟩)
def AD (P : Program) (f : FuncId) (T : Nat) (capTys args : List Ty) (J0 J1 Jx : World → ah → Prop) : Prop :=
  (∃ fn, P.funcs[f]? = some fn ∧ (fn.name == "runtime.NumGoroutine") = false ∧ fn.body.isNone = false) ∧
  ∀ (w : World) (Mc : ah) (g : Nat) (vs cs cs' : List Value), Wf w Mc → Ak Mc → bt w Mc args vs → bt w Mc capTys cs → bt w Mc capTys cs' → Mc g = some (Zt + g) →
    w.heap[g]? = some (.cells #[.func (.func f) #[] (cs' ++ [gp g]).toArray] T (0, 0)) → J0 w Mc →
    Calls P f (vs ++ (cs ++ [gp g])).toArray w (Hv w Mc J1 Jx)
section
variable {P : Program} {fr : Fr} {ops : Array Oper} {A : As} {rest : List Oper} {K : As → List (As × Fx) → Prop} {d : Nat} {t ty' : TypeId} {p : String} {e : Array Edge}
theorem K1 {c l k : Nat} {encs : List (List Ty)} {J : Nat → World → ah → Prop} {Jx : World → ah → Prop} (hJ : ∀ k, Cb (J k)) (hJx : Cb Jx) (hY : NO P l encs J Jx) {xs : List Operand} {ats : Array TypeId} {tys : List Ty}
 (hkd : fr.kd = .plain) (hc : A.op fr (.tmp c) = .ex (yv l)) (hx : jr A fr xs = tys) (hd : bl tys = []) (hdc : bL tys = []) (hk : encs[k]? = some tys) (ht : A.tag 7000 = some (.ck (hJ k)))
 (h : aV P fr ops rest (A.after { d := some d, ty := .yb true (hJ (k + 1)) hJx, S := [7000], rs := c :: xs.flatMap bR, rt := [7000] }) fun A' l' => K A' ((A, { d := some d, ty := .yb true (hJ (k + 1)) hJx, S := [7000], rs := c :: xs.flatMap bR, rt := [7000] }) :: l')) :
 aV P fr ops (⟨some d, .call ⟨.value (.tmp c), xs.toArray, ats⟩, t, p, e, none⟩ :: rest) A K := by
 refine ⟨{ d := some d, ty := .yb true (hJ (k + 1)) hJx, S := [7000], rs := c :: xs.flatMap bR, rt := [7000] }, ⟨rfl, by simp, by simp, by simp, fun a w M wf hsz hrd htg => ?_⟩, h⟩
 rw [if_pos (by simp [Region.wanted])]
 have hcv := bk (x := .tmp c) (rs := c :: xs.flatMap bR) (fun u hu => by exact (List.mem_singleton.1 hu) ▸ List.mem_cons_self) hrd
 rw [hc] at hcv
 have hcv : a.eval (.tmp c) = yv l := hcv
 obtain ⟨_, Mc, wfc, z, hj, h1, h2⟩ := htg _ (cM ht) (by simp)
 have hv : bt w Mc tys (xs.map a.eval) := dZ h1 hd hdc (hx ▸ dw (rs := c :: xs.flatMap bR) hrd fun x hx c hc => List.mem_cons_of_mem _ (List.mem_flatMap.2 ⟨x, hx, hc⟩))
 obtain ⟨fn, tmps, assign, body, hy, hR⟩ := hY k tys hk w Mc _ wfc z hj hv
 refine ⟨fun f _ => fr.kd.oW f, ?_⟩
 have hrun : (execOp a.eval ⟨some d, .call ⟨.value (.tmp c), xs.toArray, ats⟩, t, p, e, none⟩).run P w = .ok (.round l fn tmps assign body) w := by
  simp [execOp, resolve, hcv, yv, Deferred.ofValue, invoke, hy]
 rw [Oper.semAt_eq _ _ _ (by intro c h; cases h), hrun, Oper.uponIn_round]
 refine ⟨fun h => (by rw [fr.kd.sQ] at h; cases h), ?_⟩
 have hfe : fr.kd.gT = Fence.wide := by rw [hkd]; rfl
 rw [hfe]
 refine RoundIn.mono hR fun en w' ⟨Mc', wf', z', le, hor⟩ => ?_
 obtain ⟨g1, g2, g3, g4⟩ := yB wf wf' h1 h2 le
 rcases hor with ⟨rfl, hj'⟩ | ⟨rfl, hj'⟩
 ·exact ⟨.bool true, rfl, _, g1, g2, .inl ⟨rfl, Mc', wf', z', hj', g3, g4⟩, by simp⟩
 exact ⟨.bool false, rfl, _, g1, g2, .inr ⟨rfl, Mc', wf', z', hj', g3, g4⟩, by simp⟩
theorem r7 {f : FuncId} {T : Nat} {capTys args : List Ty} {J0 J1 Jx : World → ah → Prop} (hF : AD P f T capTys args J0 J1 Jx) (vs : Array Value) (w : World) : (callFunc f vs).run P w = .ok (.enter f vs) w := by
 obtain ⟨⟨fn, hf, hn, hb⟩, _⟩ := hF
 have hn' : fn.name ≠ "runtime.NumGoroutine" := by simpa using hn
 have hb' : fn.body ≠ none := fun h => by rw [h] at hb; cases hb
 simp [callFunc, hf, hn', hb']
theorem Hq (L : List Nat) {c f T g : Nat} {capTys args ss : List Ty} {cs' : List Value} {J0 J1 Jx : World → ah → Prop} (h0 : Cb J0) (h1 : Cb J1) (hx : Cb Jx) (hM : AD P f T capTys args J0 J1 Jx) {h3 : bl capTys = []} {h4 : bL capTys = []} {xs : List Operand} {ats : Array TypeId}
 (hc : A.op fr (.tmp c) = .ex (.func (.func f) #[] (cs' ++ [gp g]).toArray)) (hxs : jr A fr xs = ss) (hl : r6 L ss args) (hd : bl args = []) (hdc : bL args = [])
 (hme : A.tag 1001 = some (.me g T (.func (.func f) #[] (cs' ++ [gp g]).toArray) capTys cs' h3 h4)) (hck : A.tag 7000 = some (.ck h0)) (hL : ∀ u ∈ L, 1 ≤ u ∧ u ∉ fr.pass) (hL7 : L.contains 7000 = false) (hL1 : L.contains 1000 = false)
 (h : aV P fr ops rest (A.after { d := some d, ty := .yb true h1 hx, S := [7000], K := L, rs := c :: xs.flatMap bR, rt := [7000, 1001] }) fun A' l' => K A' ((A, { d := some d, ty := .yb true h1 hx, S := [7000], K := L, rs := c :: xs.flatMap bR, rt := [7000, 1001] }) :: l')) :
 aV P fr ops (⟨some d, .call ⟨.value (.tmp c), xs.toArray, ats⟩, t, p, e, none⟩ :: rest) A K := by
 refine ⟨{ d := some d, ty := .yb true h1 hx, S := [7000], K := L, rs := c :: xs.flatMap bR, rt := [7000, 1001] }, ⟨rfl, by simp, by simp, hL, fun a w M wf hsz hrd htg => ?_⟩, h⟩
 rw [if_pos (by simp [Region.wanted])]
 have hcv := bk (x := .tmp c) (rs := c :: xs.flatMap bR) (fun u hu => by exact (List.mem_singleton.1 hu) ▸ List.mem_cons_self) hrd
 rw [hc] at hcv
 have hcv : a.eval (.tmp c) = .func (.func f) #[] (cs' ++ [gp g]).toArray := hcv
 obtain ⟨e1, e2, e3⟩ := htg _ (cM hme) (by simp)
 obtain ⟨_, hck'⟩ := htg _ (cM hck) (by simp)
 have hck1 : O9 J0 w (wB M L) := ud h0 (HP (w := w) (M := M) (L := L)) (by simp) (by simpa using hL7) hck'
 obtain ⟨Mc, wfc, z, hj, k1, k2⟩ := hck1
 have e1' : wB M L g = some 1000 := by
  have : 1000 ∉ L := by simpa using hL1
  simp [wB, e1, this]
 have hg : g < w.heap.size := (Array.getElem?_eq_some_iff.1 e2).1
 have hv : bt w Mc args (xs.map a.eval) := dZ (fun b hb => k1 b (Ji hb)) hd hdc (j4 wf hl (hxs ▸ dw (rs := c :: xs.flatMap bR) hrd fun x hx c hc => List.mem_cons_of_mem _ (List.mem_flatMap.2 ⟨x, hx, hc⟩)))
 have hcs : bt w Mc capTys cs' := dZ (fun b hb => k1 b (Be hb)) h3 h4 e3
 have hcall := hM.2 w Mc g _ cs' cs' wfc z hv hcs hcs (k2 g 1000 hg e1' (by decide)) e2 hj
 refine eZ (f := f) (args := (xs.map a.eval ++ (cs' ++ [gp g])).toArray) (by simp [execOp, resolve, hcv, Deferred.ofValue, invoke, r7 hM]) (hcall.mono fun en w' ⟨Mc', wf', z', le, hor⟩ => ?_)
 obtain ⟨g1, g2, g3, g4⟩ := yB (Nv (L := L) wf) wf' k1 k2 le
 have g2' : Le (· ∈ [7000]) (· ∈ L) w M w' (Bs w (wB M L) Mc') := ((HP (w := w) (M := M) (L := L)).trans g2).weaken (fun u hu => by rcases hu with h | h; cases h; exact h) (fun u hu => by rcases hu with h | h; exact h; cases h)
 rcases hor with ⟨rfl, hj'⟩ | ⟨rfl, hj'⟩
 ·exact ⟨.bool true, rfl, .bool true, rfl, _, g1, g2', .inl ⟨rfl, Mc', wf', z', hj', g3, g4⟩, by simp⟩
 exact ⟨.bool false, rfl, .bool false, rfl, _, g1, g2', .inr ⟨rfl, Mc', wf', z', hj', g3, g4⟩, by simp⟩
theorem La {c f T tg : Nat} {capTys args ss : List Ty} {J0 J1 Jx : World → ah → Prop} (h0 : Cb J0) (h1 : Cb J1) (hx : Cb Jx) (hM : AD P f T capTys args J0 J1 Jx) (h3 : bl capTys = []) (h4 : bL capTys = []) {xs : List Operand} {ats : Array TypeId}
    (hc : A.op fr (.tmp c) = .jh f (capTys ++ [.ptr tg 0])) (hxs : jr A fr xs = ss) (hl : r6 [] ss args) (hd : bl args = []) (hdc : bL args = [])
    (hcell : A.tag tg = some (.cells T [.jh f (capTys ++ [.ptr tg 0])])) (htg1 : e8 tg) (hck : A.tag 7000 = some (.ck h0))
    (h : aV P fr ops rest (A.after { d := some d, ty := .yb true h1 hx, S := [7000], rs := c :: xs.flatMap bR, rt := [7000, tg] }) fun A' l' => K A' ((A, { d := some d, ty := .yb true h1 hx, S := [7000], rs := c :: xs.flatMap bR, rt := [7000, tg] }) :: l')) :
    aV P fr ops (⟨some d, .call ⟨.value (.tmp c), xs.toArray, ats⟩, t, p, e, none⟩ :: rest) A K := by
  refine ⟨{ d := some d, ty := .yb true h1 hx, S := [7000], rs := c :: xs.flatMap bR, rt := [7000, tg] }, ⟨rfl, by simp, by simp, by simp, fun a w M wf hsz hrd htg => ?_⟩, h⟩
  rw [if_pos (by simp [Region.wanted])]
  have hcv := bk (x := .tmp c) (rs := c :: xs.flatMap bR) (fun u hu => by exact (List.mem_singleton.1 hu) ▸ List.mem_cons_self) hrd
  rw [hc] at hcv
  obtain ⟨⟨cl⟩, ev, hcl⟩ := hcv
  have split : ∀ (l : List Value), bt w M (capTys ++ [.ptr tg 0]) l → ∃ cs b, l = cs ++ [gp b] ∧ bt w M capTys cs ∧ M b = some tg := fun l hl => by
    have hlen := bw hl
    rw [List.length_append, List.length_singleton] at hlen
    have g1 := ju capTys.length hl
    have g2 := iN capTys.length hl
    rw [List.take_left] at g1
    rw [List.drop_left] at g2
    have e1 : (l.drop capTys.length).length = 1 := by rw [List.length_drop]; omega
    obtain ⟨v, hv⟩ := List.length_eq_one_iff.1 e1
    rw [hv] at g2
    obtain ⟨⟨b, hb, ev⟩, _⟩ := g2
    exact ⟨_, b, by subst ev; have h9 := List.take_append_drop capTys.length l; rw [hv] at h9; exact h9.symm, g1, hb⟩
  obtain ⟨cs, g, rfl, hcs, hg⟩ := split _ hcl
  obtain ⟨b', ⟨cells⟩, hb', hh, hdd⟩ := htg _ (cM hcell) (by simp)
  obtain ⟨u, rfl⟩ : ∃ u, tg = u + 1 := ⟨tg - 1, by have := htg1.1; omega⟩
  have hbg : g = b' := wf.inj g b' u htg1.2 hg hb'
  subst hbg
  obtain ⟨v', rfl⟩ : ∃ v', cells = [v'] := by
    have hlen := bw hdd
    exact List.length_eq_one_iff.1 (by simpa using hlen)
  obtain ⟨⟨⟨cl'⟩, ev', hcl'⟩, _⟩ := hdd
  obtain ⟨cs', g', rfl, hcs', hg'⟩ := split _ hcl'
  have hgg : g' = g := wf.inj g' g u htg1.2 hg' hg
  subst hgg
  subst ev'
  obtain ⟨_, Mc, wfc, z, hj, k1, k2⟩ := htg _ (cM hck) (by simp)
  have hgs : g' < w.heap.size := (Array.getElem?_eq_some_iff.1 hh).1
  have hcv : a.eval (.tmp c) = .func (.func f) #[] (cs ++ [gp g']).toArray := ev
  have hv : bt w Mc args (xs.map a.eval) := dZ (fun b hb => k1 b (by
      unfold lM at hb
      cases hm : M b with
      | none => rfl
      | some q => rw [hm] at hb; simp at hb)) hd hdc (j4 wf hl (hxs ▸ dw (rs := c :: xs.flatMap bR) hrd fun x hx c hc => List.mem_cons_of_mem _ (List.mem_flatMap.2 ⟨x, hx, hc⟩)))
  have hcall := hM.2 w Mc g' _ cs cs' wfc z hv (dZ k1 h3 h4 hcs) (dZ k1 h3 h4 hcs') (k2 g' _ hgs hg (by have := htg1.2; omega)) hh hj
  refine eZ (f := f) (args := (xs.map a.eval ++ (cs ++ [gp g'])).toArray) (by simp [execOp, resolve, hcv, Deferred.ofValue, invoke, r7 hM]) (hcall.mono fun en w' ⟨Mc', wf', z', le, hor⟩ => ?_)
  obtain ⟨g1, g2, g3, g4⟩ := yB wf wf' k1 k2 le
  rcases hor with ⟨rfl, hj'⟩ | ⟨rfl, hj'⟩
  · exact ⟨.bool true, rfl, .bool true, rfl, _, g1, g2, .inl ⟨rfl, Mc', wf', z', hj', g3, g4⟩, by simp⟩
  · exact ⟨.bool false, rfl, .bool false, rfl, _, g1, g2, .inr ⟨rfl, Mc', wf', z', hj', g3, g4⟩, by simp⟩
theorem QG {x : Operand} {J1 Jx : World → ah → Prop} {h1 : Cb J1} {hx : Cb Jx} {b1 : Bool} (hop : A.op fr x = .yb b1 h1 hx)
 (h : aV P fr ops rest (A.set d (.yb (!b1) h1 hx)) fun A' l' => K A' ((A, { d := some d, ty := .yb (!b1) h1 hx, rs := bR x }) :: l')) : aV P fr ops (⟨some d, .unOp .not ty' x, t, p, e, none⟩ :: rest) A K :=
 bB (bH rfl rfl fun a w M _ hrd _ => by
  have hdx := bk (x := x) (fun _ h => h) hrd
  rw [hop] at hdx
  rcases hdx with ⟨ex, hj⟩ | ⟨ex, hj⟩
  ·exact ⟨.bool (!b1), by simp [execOp, ex, Op.unary], .inl ⟨rfl, hj⟩⟩
  exact ⟨.bool (!!b1), by simp [execOp, ex, Op.unary], .inr ⟨rfl, hj⟩⟩) h
end
section
variable {P : Program} {fr : Fr} {A : As} {Q : Exit → Act → World → Prop} {x y : Code}
theorem Nw {c : Operand} {J1 Jx : World → ah → Prop} {h1 : Cb J1} {hx : Cb Jx} (hc : A.op fr c = .yb false h1 hx) (hth : eU P fr x ⟨A.slots, (7000, .ck hx) :: A.tags⟩ Q) (hel : eU P fr y ⟨A.slots, (7000, .ck h1) :: A.tags⟩ Q) : eU P fr (.cond c x y) A Q := fun a w ha => by
 obtain ⟨M, ok, hs, ht⟩ := ha
 have hd := bk (x := c) (rs := bR c) (fun _ h => h) (fun c _ hn => hs c hn)
 rw [hc] at hd
 rcases hd with ⟨ev, hj⟩ | ⟨ev, hj⟩
 ·exact wpIn_cond_false ev (hel a w ⟨M, ok, hs, fun x hx => by
   rcases List.mem_cons.1 hx with rfl | hx
   ·exact ⟨rfl, hj⟩
   exact ht x hx⟩)
 ·exact wpIn_cond_true ev (hth a w ⟨M, ok, hs, fun x hx => by
   rcases List.mem_cons.1 hx with rfl | hx
   ·exact ⟨rfl, hj⟩
   exact ht x hx⟩)
end
def fU (Mc : ah) (g : Option Nat) : ah := fun b => match Mc b with | none => none | some u => if u < Zt then some 7000 else if some b = g then some 1000 else some 5000
theorem E8 {Mc : ah} {g : Option Nat} {b : Nat} (h : fU Mc g b = none) : Mc b = none := by
 unfold fU at h
 split at h
 ·assumption
 split at h
 ·cases h
 split at h <;> cases h
theorem lN {Mc : ah} {g : Option Nat} {b : Nat} (h : Mc b = none) : fU Mc g b = none := by simp [fU, h]
theorem BJ {w : World} {Mc : ah} {g : Option Nat} (wf : Wf w Mc) : Wf w (fU Mc g) := by
  refine ⟨fun b t h => ?_, fun b b' t ht h h' => ?_⟩
  · cases hm : Mc b with
    | none => rw [lN hm] at h; cases h
    | some u => exact wf.lt b u hm
  · have key : ∀ b, fU Mc g b = some (t + 1) → some b = g := fun b h => by
      unfold fU at h
      split at h
      · cases h
      · split at h
        · injection h with h; omega
        · split at h
          · assumption
          · injection h with h; omega
    have e1 := key b h
    have e2 := key b' h'
    rw [← e2] at e1; injection e1
theorem Bl {w : World} {Mc : ah} {g : Option Nat} {J : World → ah → Prop} (wf : Wf w Mc) (z : Ak Mc) (hj : J w Mc) : O9 J w (fU Mc g) := by
 refine ⟨Mc, wf, z, hj, fun b h => E8 h, fun b u _ h hu => ?_⟩
 unfold fU at h
 split at h
 ·cases h
 rename_i v hv
 split at h
 ·injection h with h; exact absurd h.symm hu
 rw [hv]; congr 1; exact z b v hv (by omega)
def L7 (Mc : ah) (g : Nat) (b : Nat) : Prop := Mc b = some (Zt + b) ∧ b ≠ g
section
variable {P : Program}
theorem FF {f : FuncId} {fn : Func} {c : Code} {T : Nat} {capTys args : List Ty} {J0 J1 Jx : World → ah → Prop} {n : Nat} (h0 : Cb J0) (hf : P.funcs[f]? = some fn) (hb : fn.body = some c) (hn : (fn.name == "runtime.NumGoroutine") = false) (hnt : fn.ntmps = n) (hl : (args ++ (capTys ++ [Ty.ptr 1000 0])).length ≤ n)
    (hd : bl args = []) (hdc : bL args = []) (h3 : bl capTys = []) (h4 : bL capTys = [])
    (h : ∀ w Mc g cs', Wf w Mc → Ak Mc → Mc g = some (Zt + g) → w.heap[g]? = some (.cells #[.func (.func f) #[] (cs' ++ [gp g]).toArray] T (0, 0)) →
      eU P ⟨n, w, fU Mc (some g), [7000, 5000, 1000], .plain⟩ c (pT (args ++ (capTys ++ [Ty.ptr 1000 0])) [(7000, .ck h0), (1000, .cells T [.ex (.func (.func f) #[] (cs' ++ [gp g]).toArray)]), (1001, .me g T (.func (.func f) #[] (cs' ++ [gp g]).toArray) capTys cs' h3 h4), (5000, .snap w (L7 Mc g))]) (bodyPost P fn (Hv w Mc J1 Jx))) : AD P f T capTys args J0 J1 Jx := by
  refine ⟨⟨fn, hf, hn, by rw [hb]; rfl⟩, fun w Mc g vs cs cs' wf z hv hcs hcs' hg hh hj => calls_of_wp hf hb (wpIn_wide.1 (h w Mc g cs' wf z hg hh _ _ ?_))⟩
  have hnn : ∀ b, Mc b = none → fU Mc (some g) b = none := fun b hb => lN hb
  have hg0 : fU Mc (some g) g = some 1000 := by simp [fU, hg]
  have hall : bt w (fU Mc (some g)) (args ++ (capTys ++ [Ty.ptr 1000 0])) (vs ++ (cs ++ [gp g])) := dO (dZ hnn hd hdc hv) (dO (dZ hnn h3 h4 hcs) ⟨⟨g, hg0, rfl⟩, trivial⟩)
  have hlen := bw hall
  refine ⟨fU Mc (some g), ⟨BJ wf, Le.refl _ _ _ _, by simp [hnt]; simp at hlen hl; omega, Defs.nil⟩, fun c hc => ?_, fun x hx => ?_⟩
  · simp only [pT]
    cases ha : (args ++ (capTys ++ [Ty.ptr 1000 0]))[c]? with
    | none => trivial
    | some ty =>
      obtain ⟨v, hv, hdv⟩ := dF hall c ty ha
      have : ((vs ++ (cs ++ [gp g])).toArray ++ Array.replicate (fn.ntmps - (vs ++ (cs ++ [gp g])).toArray.size) undef).getD c undef = v := by
        have hlt : c < (vs ++ (cs ++ [gp g])).length := (List.getElem?_eq_some_iff.1 hv).1
        rw [Array.getD_eq_getD_getElem?, Array.getElem?_append_left (by simpa using hlt), List.getElem?_toArray, hv]; rfl
      rw [this]; exact hdv
  · simp only [pT, List.mem_cons, List.not_mem_nil, or_false] at hx
    rcases hx with rfl | rfl | rfl | rfl
    · exact ⟨rfl, Bl wf z hj⟩
    · exact ⟨g, _, hg0, hh, rfl, trivial⟩
    · exact ⟨hg0, hh, dZ hnn h3 h4 hcs'⟩
    · intro b ⟨hb1, hb2⟩
      refine ⟨?_, rfl⟩
      have : ¬ Zt + b < Zt := by omega
      simp [fU, hb1, this, hb2]
variable {A : As} {fn : Func} {n : Nat} {J1 Jx : World → ah → Prop}
theorem Cm {w w' : World} {Mc M Mc' : ah} {g T : Nat} {v : Value} {tys : List Ty} {cs : List Value} {h3 : bl tys = []} {h4 : bL tys = []} (z : Ak Mc) (wf : Wf w Mc) (hg : w.heap[g]? = some (.cells #[v] T (0, 0)))
 (hb : Le (fun t => 1 ≤ t) (fun t => 1 ≤ t ∧ t ∉ [7000, 5000, 1000]) w (fU Mc (some g)) w' M) (hm : (Cont.me g T v tys cs h3 h4).den w' M 1001) (ho : (Cont.snap w (L7 Mc g)).den w' M 5000) (k1 : ∀ b, M b = none → Mc' b = none) (k2 : ∀ b u, b < w'.heap.size → M b = some u → u ≠ 7000 → Mc' b = some (Zt + b)) :
 Le (fun t => t < Zt) (fun t => t < Zt) w Mc w' Mc' := by
 refine ⟨hb.size, hb.os, hb.tape, hb.out, fun b hlt h => ?_, fun b t h ht => ?_⟩
 ·obtain ⟨a, c⟩ := hb.oK b hlt (lN h)
  exact ⟨k1 b a, c⟩
 have e := z b t h (by omega)
 subst e
 have hlt : b < w'.heap.size := Nat.lt_of_lt_of_le (wf.lt b _ h) hb.size
 by_cases e : b = g
 ·subst e
  exact ⟨k2 b 1000 hlt hm.1 (by decide), fun _ => hm.2.1.trans hg.symm⟩
 obtain ⟨a, c⟩ := ho b ⟨h, e⟩
 exact ⟨k2 b 5000 hlt a (by decide), fun _ => c⟩
theorem Lv {tm g T : Nat} {w : World} {Mc : ah} {v : Value} {tys : List Ty} {cs : List Value} {h3 : bl tys = []} {h4 : bL tys = []} {h1 : Cb J1} {hx : Cb Jx} (z : Ak Mc) (wf : Wf w Mc) (hg : w.heap[g]? = some (.cells #[v] T (0, 0))) (hr : fn.results = #[.tmp tm]) (htm : Nat.blt tm n = true) (hm : A.tag 1001 = some (.me g T v tys cs h3 h4)) (ho : A.tag 5000 = some (.snap w (L7 Mc g))) (hs : (A.slots tm).Sub (.yb true h1 hx)) :
 cm ⟨n, w, fU Mc (some g), [7000, 5000, 1000], .plain⟩ A (bodyPost P fn (Hv w Mc J1 Jx) .ret) := by
 intro a w' ⟨M, ok, hsl, htg⟩
 rcases hs _ _ _ (hsl tm (by simpa using htm)) with ⟨ev, Mc', wf', z', hj, k1, k2⟩ | ⟨ev, Mc', wf', z', hj, k1, k2⟩
 ·exact ⟨ok.eD (by simp), _, results_tmp hr _ _ _, Mc', wf', z', Cm (h3 := h3) (h4 := h4) z wf hg ok.base (htg _ (cM hm)) (htg _ (cM ho)) k1 k2, .inl ⟨by rw [ev], hj⟩⟩
 exact ⟨ok.eD (by simp), _, results_tmp hr _ _ _, Mc', wf', z', Cm (h3 := h3) (h4 := h4) z wf hg ok.base (htg _ (cM hm)) (htg _ (cM ho)) k1 k2, .inr ⟨by rw [ev]; rfl, hj⟩⟩
theorem Nj {tm g T : Nat} {w : World} {Mc : ah} {v : Value} {tys : List Ty} {cs : List Value} {h3 : bl tys = []} {h4 : bL tys = []} {hx : Cb Jx} (z : Ak Mc) (wf : Wf w Mc) (hg : w.heap[g]? = some (.cells #[v] T (0, 0))) (hr : fn.results = #[.tmp tm]) (htm : Nat.blt tm n = true) (hm : A.tag 1001 = some (.me g T v tys cs h3 h4)) (ho : A.tag 5000 = some (.snap w (L7 Mc g))) (hs : A.slots tm = .bool false) (hk : A.tag 7000 = some (.ck hx)) :
 cm ⟨n, w, fU Mc (some g), [7000, 5000, 1000], .plain⟩ A (bodyPost P fn (Hv w Mc J1 Jx) .ret) := by
 intro a w' ⟨M, ok, hsl, htg⟩
 have ev := hsl tm (by simpa using htm)
 rw [hs] at ev
 obtain ⟨_, Mc', wf', z', hj, k1, k2⟩ := htg _ (cM hk)
 have ev : a.tmps.getD tm undef = .bool false := ev
 exact ⟨ok.eD (by simp), _, results_tmp hr _ _ _, Mc', wf', z', Cm (h3 := h3) (h4 := h4) z wf hg ok.base (htg _ (cM hm)) (htg _ (cM ho)) k1 k2, .inr ⟨by rw [ev], hj⟩⟩
theorem F2 {f : FuncId} {c : Code} {args : Nat → List Ty} {encs : List (List Ty)} (hf : P.funcs[f]? = some fn) (hb : fn.body = some c) (hn : (fn.name == "runtime.NumGoroutine") = false) (hnt : fn.ntmps = n) (hl : ∀ l, (args l).length ≤ n) (hdd : ∀ l, bl (args l) = [] ∧ bL (args l) = [])
    (h : ∀ l J Jx (hJ : ∀ k, Cb (J k)) (_ : Cb Jx), NO P l encs J Jx → ∀ w0 M0, eU P ⟨n, w0, M0, [7000, 5000], .plain⟩ c (pT (args l) [(7000, .ck (hJ 0))]) (bodyPost P fn (cO encs.length J Jx (Ty.jk []) (Ty.jk [])))) : gr P f args encs (Ty.jk []) (Ty.jk []) := by
  refine ⟨⟨fn, hf, hn, by rw [hb]; rfl⟩, fun l J Jx hJ hJx hY w Mc vs wf z hd hj => calls_of_wp hf hb (wpIn_wide.1 (h l J Jx hJ hJx hY w (fU Mc none) _ _ ?_))⟩
  have hall : bt w (fU Mc none) (args l) vs := dZ (fun b hb => lN hb) (hdd l).1 (hdd l).2 hd
  have hlen := bw hall
  have hl := hl l
  refine ⟨fU Mc none, ⟨BJ wf, Le.refl _ _ _ _, by simp [hnt, hlen]; omega, Defs.nil⟩, fun c hc => ?_, fun x hx => ?_⟩
  · simp only [pT]
    cases ha : (args l)[c]? with
    | none => trivial
    | some ty =>
      obtain ⟨v, hv, hdv⟩ := dF hall c ty ha
      have : (vs.toArray ++ Array.replicate (fn.ntmps - vs.toArray.size) undef).getD c undef = v := by
        have hlt : c < vs.length := (List.getElem?_eq_some_iff.1 hv).1
        rw [Array.getD_eq_getD_getElem?, Array.getElem?_append_left (by simpa using hlt)]
        simp [hv]
      rw [this]; exact hdv
  · rw [List.mem_singleton.1 hx]; exact ⟨rfl, Bl wf z hj⟩
theorem Ol {s : Nat} {w0 : World} {M0 : ah} {J : Nat → World → ah → Prop} {m : Nat} {h1 : Cb (J m)} {hx : Cb Jx} (hr : fn.results = #[]) (hsn : Nat.blt s n = true) (hs : A.slots s = .yb true h1 hx) : cm ⟨n, w0, M0, [7000, 5000], .plain⟩ A (bodyPost P fn (cO m J Jx (Ty.jk []) (Ty.jk [])) .normal) := by
 intro a w' ⟨M, ok, hsl, htg⟩
 have hd := hsl s (by simpa using hsn)
 rw [hs] at hd
 rcases hd with ⟨ev, Mc', wf', z', hj, k1, k2⟩ | ⟨ev, Mc', wf', z', hj, k1, k2⟩
 ·exact ⟨ok.eD (by simp), _, results_none hr _ _ _, _, Mc', rfl, wf', z', .inl ⟨⟨_, rfl, trivial⟩, hj⟩⟩
 exact ⟨ok.eD (by simp), _, results_none hr _ _ _, _, Mc', rfl, wf', z', .inr ⟨⟨_, rfl, trivial⟩, hj⟩⟩
end
end Go.T
namespace Go.Proofs.YtmmcenjknimhbaaGreat
open Go Go.T
set_option maxHeartbeats 4000000
def DN (l : List bu) : List Ty := [Ty.sl cv l]
def uZ (d : xK) (gg : Int) (p : Pl) (li : Nat) : List Ty := [Ty.pp [Ty.pe dS d 0], Ty.pp [Ty.int .i64 gg], Ty.pp [Ty.ex (yv li)], Ty.pp (m3 p)]
theorem K4 (t : bu) (k : Int) : (decide (t.cJ = t.cJ) && decide (t.aim = k)) = decide (t.aim = k) := by rw [decide_eq_true rfl, Bool.true_and]
theorem Om {R : List (List bu)} {k : Nat} {l : List bu} (h : [l] <+: R.drop k) : (R.map DN)[k]? = some [Ty.sl cv l] := by rw [List.getElem?_map, xY h]; rfl
attribute [local irreducible] fL dg lG nG fZ gA fy fm ff nB gB m6 cw fA m4 ew nM nth eU cm aV cy bodyPost Exit.then Exit.inBlock Code.wp Code.wpIn fI ry rq rY iY sB rZ iV sA e9 gr p8 cT cO bodyPostM dW
attribute [local irreducible] Rt O9 Rj
set_option maxRecDepth 100000 in
theorem xC (l : List bu) (h : l.length ≤ 1000) : e9 Tryz.prog 51 [] [] [Ty.sl cv l] [] (Ty.row cv 70 6 l) := by
 refine fJ Tryz.func51 rfl (by decide) Tryz.ntmps51 (by exact Nat.le_of_ble_eq_true rfl) fun w0 M0 => ?_
 refine aF (aA (iT rfl (aD (aC (aF (aF (aA (eV rfl (xZ Qs rfl (aD (aC ?_)))))))))))
 refine q5 rfl (fun hc1 => ?_) (fun hc1 => ?_)
 ·refine aF (aA (iT rfl (aD (aC (au (aP ?_))))))
  refine mF [6] rfl rfl (by decide) (by repeat (exact ji)) ?_
  all_goals skip
  all_goals (obtain rfl : l = [] := hc1; exact qo JV)
 refine ak (aC (aF (aA ?_)))
 refine ox (E := cv) rfl rfl rfl rfl ?_
 refine eV rfl ?_
 refine dz rfl rfl (by decide) rfl rfl rfl rfl rfl rfl (by decide) (by (simp <;> omega)) (by (simp <;> omega)) ?_
 refine uT rfl (aD (aC (au ?_)))
 refine mF [6] rfl rfl (by decide) (by repeat (exact ji)) ?_
 all_goals skip
 all_goals exact qo (vJ (by decide))
set_option maxRecDepth 100000 in
theorem N7 (t : bu) (k : Int) : cy Tryz.prog 208 [Ty.agg (cv.tys t), Ty.pp [Ty.int .i64 k]] (Ty.bool (decide (t.aim = k))) := by
 refine aX Tryz.func208 rfl (by decide) Tryz.ntmps208 (by exact Nat.le_of_ble_eq_true rfl) fun w0 M0 => ?_
 refine aF (aA (az rfl (dJ rfl (aD (aC (aF (aA ?_)))))))
 refine aa rfl rfl rfl (by exact Nat.le_of_ble_eq_true rfl) ?_
 refine aQ rfl rfl rfl rfl rfl (by decide) ?_
 refine aL rfl rfl rfl rfl (aL rfl rfl rfl rfl ?_)
 refine c6 rfl rfl (by exact List.cons_ne_nil _ _) rfl (by repeat (first | exact (aT.nil : aT _ _ [] _) | (show aT _ _ ((_, _) :: _) _; apply aT.one; (· exact (rfl : _ = Ty.int _ _)); (· exact rfl)))) (by exact (rfl : _ = some [_, _])) ?_
 refine NV (Qw _ _ _ _) rfl rfl (dJ rfl (aD (aC (au (bT rfl rfl ?_)))))
 all_goals skip
 exact bD rfl rfl (congrArg Ty.bool (K4 t k))
set_option maxRecDepth 100000 in
theorem Ho (d : xK) (hs : d.b.Small) (h6 : d.b.lots.length ≤ 6) (gg : Int) (p : Pl) (R : List (List bu)) (li : Nat) (J : Nat → World → ah → Prop) (Jx : World → ah → Prop) (hJ : ∀ k, Cb (J k)) (hJx : Cb Jx) (hY : NO Tryz.prog li (R.map DN) J Jx) (l : List bu) (cJ : Nat) (lz : Int) (hlz : lz = (cJ : Int)) (k : Nat) (hlot : cJ ≤ d.b.lots.length) (hl : l.length ≤ cJ) (hp : fB d.b p gg l cJ <+: R.drop k) (ih : cJ < d.b.lots.length → ∀ (l' : List bu) (k' : Nat), l'.length ≤ cJ + 1 → fB d.b p gg l' (cJ + 1) <+: R.drop k' → AD Tryz.prog 206 260 (uZ d gg p li) [Ty.sl cv l', Ty.int .i64 (lz + 1)] (J k') (J (k' + (fB d.b p gg l' (cJ + 1)).length)) Jx) : AD Tryz.prog 206 260 (uZ d gg p li) [Ty.sl cv l, Ty.int .i64 lz] (J (k)) (J (k + (fB d.b p gg l cJ).length)) Jx := by
 subst hlz
 refine FF (hJ (k)) Tryz.func206 rfl (by decide) Tryz.ntmps206 (by exact Nat.le_of_ble_eq_true rfl) rfl rfl rfl rfl fun w0 Mc g cs0 wf0 z0 hg0 hh0 => ?_
 have hs1 := hs.sizes
 refine aF (aA (dJ rfl (aD (aC (aF (aF (aA (bP rfl (aL rfl rfl rfl rfl (cP rfl ?_))))))))))
 refine cR rfl rfl rfl rfl rfl (by decide) ?_
 refine cR rfl rfl rfl rfl rfl (by decide) ?_
 refine fW rfl rfl rfl rfl (bq rfl rfl rfl (av rfl rfl rfl (gw rfl ?_)))
 apply aM (s := 19) rfl rfl rfl
 ·intro hg; apply aO; (refine eV rfl ?_); refine aD ?_; exact rfl
 ·exact rfl
 ·exact rfl
 apply aM (s := 19) rfl rfl rfl
 ·intro hg; apply aJ (s := 20) rfl (by (rw [hg]; rfl)); apply aO; (refine bq rfl rfl rfl ?_); refine aD ?_; exact rfl
 ·exact rfl
 ·exact rfl
 apply aM (s := 19) rfl rfl rfl
 ·intro hg; apply aO; (refine aL rfl rfl rfl rfl ?_); refine aD ?_; exact rfl
 ·exact rfl
 ·exact rfl
 apply aM (s := 19) rfl rfl rfl
 ·intro hg; apply aJ (s := 21) rfl (by (rw [hg]; rfl)); apply aJ (s := 22) rfl (by (rw [hg]; rfl)); apply aO; (refine av rfl rfl rfl ?_); refine aD ?_; exact rfl
 ·exact rfl
 ·exact rfl
 refine iS rfl rfl (aD (aC ?_))
 refine c8 rfl (fun hc1 => ?_) (fun hc1 => ?_)
 ·refine aF (aA (aL rfl rfl rfl rfl (eV rfl ?_)))
  refine K1 hJ hJx hY rfl rfl rfl rfl rfl (Om (by have h := hp; rw [pJ (hc1)] at h; exact h)) rfl ?_
  refine fY (ty := Ty.yb true (hJ (k + 1)) hJx) rfl ?_
  refine aD (aC (au (aP ?_)))
  exact Lv (h1 := hJ _) (hx := hJx) z0 wf0 hh0 rfl rfl rfl rfl (Ty.KY (h1 := hJ (k + 1)) (congrArg J (by rw [pJ hc1]; rfl)))
 refine ak (aC (aF (aF ?_)))
 obtain ⟨hne1, hne2⟩ := OE (b := d.b) (l := l) (cJ := cJ) (g := gg) (hc1) hlot
 refine aA (aL rfl rfl rfl rfl (cP rfl ?_))
 refine cR rfl rfl rfl rfl rfl (by decide) ?_
 refine cR rfl rfl rfl rfl rfl (by decide) ?_
 refine fW rfl rfl rfl rfl (bq rfl rfl rfl (bP rfl (aD (aC (aY ?_)))))
 refine cI (fun (q : {q : Nat // q ≤ d.b.sizes.length}) => live [(0, Ty.sl cv l), (1, Ty.int .i64 (cJ : Nat)), (2, Ty.pp [Ty.pe dS d 0]), (3, Ty.pp [Ty.int .i64 gg]), (4, Ty.pp [Ty.ex (yv li)]), (5, Ty.pp (m3 p)), (6, Ty.ptr 1000 0), (33, Ty.int .i64 d.b.sizes.length), (34, Ty.int .i64 (q.1 : Nat))] [(7000, Cont.ck (hJ (k + (roundUp d.b p gg l cJ q.1).length))), (1000, Cont.cells 260 [Ty.ex (.func (.func 206) #[] (cs0 ++ [gp g]).toArray)]), (1001, Cont.me g 260 (.func (.func 206) #[] (cs0 ++ [gp g]).toArray) (uZ d gg p li) cs0 rfl rfl), (5000, Cont.snap w0 (L7 Mc g))]) (fun q => d.b.sizes.length - q.1) (⟨0, by omega⟩) ?_ fun q => ?_
 ·(refine cr.mk' ?_ ?_ <;> (repeat' (first | exact aH | exact aI | refine aB ?_ (Ty.aS _) | refine aB ?_ (Ty.aG _) | refine aK rfl (Cont.aG _) ?_)))
 refine aF (aA (av rfl rfl rfl (aD (aC (aF ?_)))))
 refine aj rfl (fun hc2 => ?_) (fun hc2 => ?_)
 ·refine ak (aC (aF (aY (aF (aA (bP rfl ?_))))))
  refine bX rfl (by exact List.cons_ne_nil _ _) rfl ?_
  refine cj rfl rfl (by decide) rfl rfl (by exact (rfl : _ = Ty.int _ _)) rfl (by exact Nat.le_of_ble_eq_true rfl) rfl rfl (by exact (rfl : _ = [_])) ?_
  refine aD (aC (aF (aF ?_)))
  refine mC (tg := 11) [(10, Ty.pp [Ty.int .i64 (q.1 : Nat)])] (by decide) rfl ⟨ow (T := 3) (tg := 11) (off := 0) (l := [Ty.int .i64 (q.1 : Nat)]) rfl rfl rfl (by decide), trivial⟩ ?_
  refine cq mixed rfl (aL rfl rfl rfl rfl ?_)
  refine aa rfl rfl rfl (by exact Nat.le_of_ble_eq_true rfl) ?_
  refine aL rfl rfl rfl rfl ?_
  refine aq (HQ d h6 p (q.1 : Nat)) rfl rfl rfl rfl rfl ?_
  refine gw rfl ?_
  apply aM (s := 41) rfl rfl rfl
  ·intro hg; apply aO; (refine aL rfl rfl rfl rfl ?_); refine aD ?_; exact rfl
  ·exact rfl
  ·exact rfl
  apply aM (s := 41) rfl rfl rfl
  ·intro hg; apply aJ (s := 42) rfl (by (rw [hg]; rfl)); apply aO; (refine cP rfl ?_); refine aD ?_; exact rfl
  ·exact rfl
  ·exact rfl
  apply aM (s := 41) rfl rfl rfl
  ·intro hg; apply aJ (s := 43) rfl (by (rw [hg]; rfl)); apply aO; (refine cR rfl rfl rfl rfl rfl (by decide) ?_); refine aD ?_; exact rfl
  ·exact rfl
  ·exact rfl
  apply aM (s := 41) rfl rfl rfl
  ·intro hg; apply aJ (s := 44) rfl (by (rw [hg]; rfl)); apply aO; (refine gY rfl rfl rfl rfl rfl ?_); refine aD ?_; exact rfl
  ·exact rfl
  ·exact rfl
  apply aM (s := 41) rfl rfl rfl
  ·intro hg; apply aO; (refine aL rfl rfl rfl rfl ?_); refine aD ?_; exact rfl
  ·exact rfl
  ·exact rfl
  apply aM (s := 41) rfl rfl rfl
  ·intro hg; apply aO; (refine bP rfl ?_); refine aD ?_; exact rfl
  ·exact rfl
  ·exact rfl
  apply aM (s := 41) rfl rfl rfl
  ·intro hg; apply aJ (s := 45) rfl (by (rw [hg]; rfl)); apply aJ (s := 46) rfl (by (rw [hg]; rfl)); apply aJ (s := 47) rfl (by (rw [hg]; rfl)); apply aO; (refine aq (tX d.b (q.1 : Nat) (cJ : Nat) ⟨by omega, by omega⟩ ⟨by omega, by omega⟩) rfl rfl rfl rfl rfl ?_); refine aD ?_; exact rfl
  ·exact rfl
  ·exact rfl
  apply aM (s := 41) rfl rfl rfl
  ·intro hg; apply aJ (s := 48) rfl (by (rw [hg]; rfl)); apply aO; (refine dK rfl ?_); refine aD ?_; exact rfl
  ·exact rfl
  ·exact rfl
  refine iS rfl rfl (gw rfl ?_)
  apply aM (s := 51) rfl rfl rfl
  ·intro hg; apply aO; (refine eV rfl ?_); refine aD ?_; exact rfl
  ·exact rfl
  ·exact rfl
  apply aM (s := 51) rfl rfl rfl
  ·intro hg; apply aO; (refine cx rfl ?_); refine aD ?_; exact rfl
  ·exact rfl
  ·exact rfl
  apply aM (s := 51) rfl rfl rfl
  ·intro hg; apply aJ (s := 52) rfl (by (rw [hg]; rfl)); apply aJ (s := 53) rfl (by (rw [hg]; rfl)); apply aO; (refine aq (sn l (Ty.jh 208 [Ty.pp [Ty.int .i64 (q.1 : Nat)]]) rfl (fun t => decide (t.aim = ((q.1 : Nat) : Int))) rfl rfl fun x _ => dM (N7 x (q.1 : Nat)) rfl rfl rfl rfl rfl rfl) rfl rfl rfl rfl rfl ?_); refine aD ?_; exact rfl
  ·exact rfl
  ·exact rfl
  refine iS rfl rfl (aD ?_)
  refine ⟨by kernel_rfl, ?_⟩
  refine aC ?_
  refine c8 rfl (fun hc3 => ?_) (fun hc3 => ?_)
  ·refine b9 (aN (aZ rfl (aC (aA ?_))))
   refine cD rfl rfl (by omega) (by omega) ?_
   refine bP rfl (aD ?_)
   refine bS (⟨q.1 + 1, by omega⟩) ?_ (by show d.b.sizes.length - (q.1 + 1) < d.b.sizes.length - q.1; omega)
   (refine cr.mk' ?_ ?_ <;> (repeat' (first | exact aH | exact aI | refine aB ?_ (Ty.aS _) | refine aB ?_ (Ty.aG _) | refine aK rfl (Cont.aG _) ?_ | refine aK rfl ?_ ?_)))
   all_goals skip
   all_goals exact Cont.Kf hJ (by rw [oZ, BH hc3, List.append_nil])
  refine ak (aC (aF ?_))
  have hsk : tZ d.b p l q.1 cJ = false := hc3
  have hpk := J7 (n := q.1) hne1 hne2 hp (by omega)
  rw [pR hsk] at hpk
  refine cq mixed rfl ?_
  refine aU rfl rfl (by decide) rfl rfl rfl ?_
  refine eV rfl ?_
  refine eH [(59, 6)] [59] [] (xC l (by omega)) rfl rfl (by repeat (first | exact fM | refine eE ?_ ?_ | exact c7 rfl rfl)) pre_nil post_nil (vJ (by exact List.mem_cons_self)) ?_
  refine bP rfl (aL rfl rfl rfl rfl ?_)
  refine c6 rfl rfl (by exact List.cons_ne_nil _ _) rfl (by repeat (first | exact (aT.nil : aT _ _ [] _) | (show aT _ _ ((_, _) :: _) _; apply aT.one; (· exact (rfl : _ = Ty.int _ _)); (· exact rfl)))) (by exact (rfl : _ = some [_, _])) ?_
  refine bY (E := cv) (xs := [⟨(cJ : Int), (q.1 : Nat)⟩]) rfl rfl rfl rfl rfl (by decide) (by decide) (by repeat (first | exact (aT.nil : aT _ _ [] _) | (show aT _ _ ((_, _) :: _) _; apply aT.agg; (· exact (rfl : _ = Ty.agg _))))) (by exact rfl) rfl ?_
  refine dz rfl rfl (by decide) rfl rfl rfl rfl rfl rfl (by decide) (by (simp <;> omega)) (by (simp <;> omega)) ?_
  refine bP rfl ?_
  refine cD rfl rfl (by omega) (by omega) ?_
  refine Hq [59] (hJ (k + (roundUp d.b p gg l cJ q.1).length)) (hJ _) hJx (ih hne1 (l ++ [⟨(cJ : Int), (q.1 : Nat)⟩]) (k + (roundUp d.b p gg l cJ q.1).length) (by simp; omega) hpk) rfl rfl (by repeat (first | exact lY | refine gE (nr rfl rfl) ?_ | refine gE (zL rfl) ?_)) rfl rfl rfl rfl (fun u hu => by rw [List.mem_singleton.1 hu]; exact ⟨by decide, by simp⟩) rfl rfl ?_
  refine QG (h1 := hJ _) (hx := hJx) rfl ?_
  refine aD ?_
  refine ⟨by kernel_rfl, ?_⟩
  refine aC ?_
  refine Nw (h1 := hJ _) (hx := hJx) rfl ?_ ?_
  ·refine aF (aA (dJ rfl (aD (aC (au (af (aP (aP (af (aP ?_))))))))))
   exact Nj (hx := hJx) z0 wf0 hh0 rfl rfl rfl rfl rfl rfl
  refine ak (bJ (aC (aA ?_)))
  refine cD rfl rfl (by omega) (by omega) ?_
  refine bP rfl (aD ?_)
  refine bS (⟨q.1 + 1, by omega⟩) ?_ (by show d.b.sizes.length - (q.1 + 1) < d.b.sizes.length - q.1; omega)
  (refine cr.mk' ?_ ?_ <;> (repeat' (first | exact aH | exact aI | refine aB ?_ (Ty.aS _) | refine aB ?_ (Ty.aG _) | refine aK rfl (Cont.aG _) ?_ | refine aK rfl ?_ ?_)))
  all_goals skip
  all_goals exact Cont.Kf hJ (by rw [oZ, pR hsk, List.length_append]; omega)
 refine b9 (aN (aN (aZ rfl (aC (aF (aA ?_))))))
 refine aU rfl rfl (by decide) rfl rfl rfl ?_
 refine eV rfl (bP rfl ?_)
 refine cD rfl rfl (by omega) (by omega) ?_
 refine Hq [] (hJ (k + (roundUp d.b p gg l cJ q.1).length)) (hJ _) hJx (ih hne1 l (k + (roundUp d.b p gg l cJ q.1).length) (by omega) (by rw [show q.1 = d.b.sizes.length by have := q.2; omega]; exact Lc hne1 hne2 hp)) rfl rfl (by repeat (first | exact lY | refine gE (nr rfl rfl) ?_)) rfl rfl rfl rfl (fun u hu => by cases hu) rfl rfl ?_
 refine fY (ty := Ty.yb true (hJ _) hJx) rfl ?_
 refine aD (aC (au ?_))
 exact Lv (h1 := hJ _) (hx := hJx) z0 wf0 hh0 rfl rfl rfl rfl (Ty.KY (h1 := hJ (k + (roundUp d.b p gg l cJ q.1).length + (fB d.b p gg l (cJ + 1)).length)) (congrArg J (by rw [rM hne1 hne2, List.length_append, show q.1 = d.b.sizes.length by have := q.2; omega]; omega)))
theorem KS (d : xK) (hs : d.b.Small) (h6 : d.b.lots.length ≤ 6) (gg : Int) (p : Pl) (R : List (List bu)) (li : Nat) (J : Nat → World → ah → Prop) (Jx : World → ah → Prop) (hJ : ∀ k, Cb (J k)) (hJx : Cb Jx) (hY : NO Tryz.prog li (R.map DN) J Jx) : ∀ (m cJ : Nat) (lz : Int) (l : List bu) (k : Nat), cJ + m = d.b.lots.length → lz = (cJ : Int) → l.length ≤ cJ → fB d.b p gg l cJ <+: R.drop k →
    AD Tryz.prog 206 260 (uZ d gg p li) [Ty.sl cv l, Ty.int .i64 lz] (J k) (J (k + (fB d.b p gg l cJ).length)) Jx
  | 0, cJ, lz, l, k, hm, hlz, hl, hp => Ho d hs h6 gg p R li J Jx hJ hJx hY l cJ lz hlz k (by omega) hl hp (fun h => by omega)
  | m + 1, cJ, lz, l, k, hm, hlz, hl, hp => Ho d hs h6 gg p R li J Jx hJ hJx hY l cJ lz hlz k (by omega) hl hp (fun _ l' k' hl' hp' => KS d hs h6 gg p R li J Jx hJ hJx hY m (cJ + 1) (lz + 1) l' k' (by omega) (by omega) hl' hp')
set_option maxRecDepth 100000 in
theorem Ic (d : xK) (hs : d.b.Small) (h6 : d.b.lots.length ≤ 6) (gg : Int) (p : Pl) : gr Tryz.prog 205 (fun l => [Ty.ex (yv l), Ty.pp [Ty.pe dS d 0], Ty.pp [Ty.int .i64 gg], Ty.pp (m3 p)]) ((dI d.b p gg).map DN) (Ty.jk []) (Ty.jk []) := by
 refine F2 Tryz.func205 rfl (by decide) Tryz.ntmps205 (fun _ => by exact Nat.le_of_ble_eq_true rfl) (fun _ => ⟨rfl, rfl⟩) fun l J Jx hJ hJx hY w0 M0 => ?_
 refine aF (aA ?_)
 refine dy (by exact (rfl : _ = Ty.ex _)) rfl ?_
 refine aD (aC (aF (aA ?_)))
 refine bX rfl (by exact List.cons_ne_nil _ _) rfl ?_
 refine aD (aC (aF (aA (cx rfl ?_))))
 refine cj rfl rfl (by decide) rfl rfl (by exact (rfl : _ = Ty.jh _ _)) rfl (by exact Nat.le_of_ble_eq_true rfl) rfl rfl (by exact (rfl : _ = [_])) ?_
 refine aD (aC (aA ?_))
 refine aU rfl rfl (by decide) rfl rfl rfl ?_
 refine La (tg := 6) (hJ 0) (hJ _) hJx (KS d hs h6 gg p (dI d.b p gg) l J Jx hJ hJx hY d.b.lots.length 0 0 [] 0 (by omega) rfl (Nat.le_refl _) (List.prefix_rfl)) rfl rfl rfl rfl (by repeat (first | exact lY | refine gE (nr rfl rfl) ?_ | refine gE Du ?_)) rfl rfl rfl (by decide) rfl ?_
 refine aD ?_
 exact Ol (h1 := hJ _) (hx := hJx) rfl (s := 8) rfl (by rw [List.length_map, Nat.zero_add]; rfl)
set_option maxRecDepth 100000 in
theorem MD (d : xK) (p : Pl) (gg : Int) : cy Tryz.prog 170 [Ty.pe dS d 0, Ty.agg (m3 p), Ty.int .i64 gg] (Ty.jh 205 [Ty.pp [Ty.pe dS d 0], Ty.pp [Ty.int .i64 gg], Ty.pp (m3 p)]) := by
 refine aX Tryz.func170 rfl (by decide) Tryz.ntmps170 (by exact Nat.le_of_ble_eq_true rfl) fun w0 M0 => ?_
 refine aF (aA ?_)
 refine dy (by exact (rfl : _ = Ty.pe _ _ _)) rfl ?_
 refine az rfl ?_
 refine dy (by exact (rfl : _ = Ty.int _ _)) rfl ?_
 refine iT rfl (aD (aC (aF (aA (cx rfl (RK rfl (aD (aC (au (bT rfl rfl ?_))))))))))
 all_goals exact bQ rfl rfl
 skip
end Go.Proofs.YtmmcenjknimhbaaGreat
namespace Go.T
open Go Go.RowKit
section
variable {P : Program} {fr : Fr} {ops : Array Oper} {A : As} {rest : List Oper} {K : As → List (As × Fx) → Prop} {d : Nat} {t ty' : TypeId} {p : String} {e : Array Edge} [T : k5 P]
variable {α : Type} {E : El α} {Tb J : Nat} {xs ys : List α}
theorem Pz {x : Operand} {ti : TI} {el : Nat} (hx : A.op fr x = .g8 E Tb J xs) (hT : T.tab[ty']? = some ti) (hk : ti.k = .slice el)
 (h : aV P fr ops rest (A.set d (.int .i64 (xs.length : Nat))) fun A' l => K A' ((A, { d := some d, ty := .int .i64 (xs.length : Nat), rs := bR x }) :: l)) :
 aV P fr ops (⟨some d, .call ⟨.builtin .len, #[x], #[ty']⟩, t, p, e, none⟩ :: rest) A K :=
 bB (bH rfl rfl fun a w M _ hr _ => by
  have := bk (x := x) (fun _ h => h) hr
  rw [hx] at this
  have h1 := this
  obtain ⟨_, D, _, hD, hkd, _⟩ := cF hT
  rw [hk] at hkd
  cases D <;> simp only [TK.of, reduceCtorEq, TK.slice.injEq] at hkd
  refine ⟨.int .i64 xs.length, ?_, rfl⟩
  rcases h1 with ⟨hn, ex⟩ | ⟨g, off, c, cur, ex, _⟩
  ·simp [execOp, ex, resolve, invoke, builtin, Builtin.len_, run_underlying hD, hn, goInt]
  simp [execOp, ex, resolve, invoke, builtin, Builtin.len_, run_underlying hD, goInt]) h
theorem L6 [Inhabited α] {x y : Operand} {kd : IntKind} {i : Nat} {ti te : TI} {el : Nat} (hx : A.op fr x = .g8 E Tb J xs) (hy : A.op fr y = .int kd i) (hT : T.tab[ty']? = some ti) (hk : ti.k = .slice el) (hE : T.tab[el]? = some te) (hs : te.size = E.size) (hi : i < xs.length)
 (h : aV P fr ops rest (A.set d (.op J (E.tys (nth xs i)))) fun A' l' => K A' ((A, { d := some d, ty := .op J (E.tys (nth xs i)), rs := bR x ++ bR y }) :: l')) : aV P fr ops (⟨some d, .indexAddr ty' x y, t, p, e, none⟩ :: rest) A K :=
 bB (bH rfl rfl fun a w M _ hr _ => by
  obtain ⟨hdx, hdy⟩ := op2 hr
  rw [hx] at hdx; rw [hy] at hdy
  have h1 := hdx
  have ey : a.eval y = .int kd i := hdy
  rcases h1 with ⟨h0, _⟩ | ⟨g, off, c, cur, ex, hg, hh, hn, _, _, hd⟩
  ·subst h0; simp at hi
  refine ⟨_, by simp only [execOp, ex, ey, Sem.run_bind, gj hT hk hE (Int.natCast_nonneg i) (show (i : Int).toNat < xs.length from hi)]; rfl, g, off + i * te.size, by simp, hg, fun j ty hj => ?_⟩
  rw [hs]
  exact BX hh hd hi hj) h
theorem P3 {x y : Operand} {kd : IntKind} {lo : Nat} {ti te : TI} {el : Nat} (hx : A.op fr x = .g8 E Tb J xs) (hy : A.op fr y = .int kd lo) (hT : T.tab[ty']? = some ti) (hk : ti.k = .slice el) (hE : T.tab[el]? = some te) (hs : te.size = E.size) (hlo : lo ≤ xs.length) (h0 : 0 < xs.length)
 (h : aV P fr ops rest (A.set d (.g8 E Tb J (xs.drop lo))) fun A' l' => K A' ((A, { d := some d, ty := .g8 E Tb J (xs.drop lo), rs := bR x ++ bR y }) :: l')) : aV P fr ops (⟨some d, .slice ty' x (some y) none none, t, p, e, none⟩ :: rest) A K :=
 bB (bH rfl rfl fun a w M _ hr _ => by
  obtain ⟨hdx, hdy⟩ := op2 hr
  rw [hx] at hdx; rw [hy] at hdy
  have h1 := hdx
  have ey : a.eval y = .int kd lo := hdy
  obtain ⟨_, D, _, hD, hkd, _⟩ := cF hT
  rw [hk] at hkd
  cases D <;> simp only [TK.of, reduceCtorEq, TK.slice.injEq] at hkd
  subst hkd
  have hsz := fun w => bz (P := P) hE w
  rcases h1 with ⟨hn, _⟩ | ⟨g, off, c, cur, ex, hg, hh, hn, hc, hsz2, hd⟩
  ·subst hn; simp at h0
  have hlc : lo ≤ c := by omega
  have hrun : ∃ ad, (execOp a.eval ⟨some d, .slice ty' x (some y) none none, t, p, e, none⟩).run P w = .ok (.value (.slice (some ad) (xs.length - lo) (c - lo))) w ∧ ad = (if c = lo then (⟨g, off, none⟩ : Addr) else ⟨g, off + lo * E.size, none⟩) := by
   refine ⟨_, ?_, rfl⟩
   simp [execOp, ex, ey, Instr.sliceAt, Instr.slice, run_underlying hD, Instr.sliceBounds, Instr.sliceBound, asIntOf, hsz, hs, hn, hlo]
   by_cases hcl : c = lo
   ·simp [hcl]
   simp [hcl]; exact Addr.add_lit _ _ _
  obtain ⟨ad, hrun, had⟩ := hrun
  have hlen : (xs.drop lo).length = xs.length - lo := List.length_drop
  have key : bt w M ((xs.drop lo).flatMap E.tys) ((cur.toList.drop (off + lo * E.size)).take ((xs.drop lo).length * E.size)) := by
   have := iN (lo * E.size) hd
   rw [List.drop_take, List.drop_drop, ← Nat.sub_mul] at this
   have e1 : (xs.flatMap E.tys).drop (lo * E.size) = (xs.drop lo).flatMap E.tys := by
    have : xs.flatMap E.tys = (xs.take lo).flatMap E.tys ++ (xs.drop lo).flatMap E.tys := by rw [← List.flatMap_append, List.take_append_drop]
    rw [this, List.drop_left' (by rw [cg, List.length_take, Nat.min_eq_left hlo])]
   rw [e1] at this
   rw [hlen]; exact this
  by_cases hcl : c = lo
  ·rw [if_pos hcl] at had
   subst had
   refine ⟨_, hrun, .inr ⟨g, off, c - lo, cur, by rw [hlen], hg, hh, by rw [hlen]; omega, by omega, ?_, ?_⟩⟩
   ·have : c - lo = 0 := by omega
    rw [this]; omega
   have h0' : xs.drop lo = [] := List.eq_nil_of_length_eq_zero (by rw [hlen]; omega)
   rw [h0']; simp [bt]
  rw [if_neg hcl] at had
  subst had
  refine ⟨_, hrun, .inr ⟨g, off + lo * E.size, c - lo, cur, by rw [hlen], hg, hh, by rw [hlen]; omega, by omega, ?_, key⟩⟩
  rw [Nat.add_assoc, ← Nat.add_mul, show lo + (c - lo) = c by omega]; exact hsz2) h
theorem JE {x y : Operand} {st el : Nat} {ti te : TI} (hx : A.op fr x = .g8 E el J xs) (hy : A.op fr y = .sl E ys) (hJ : 4096 ≤ J) (hp : fr.pass.contains J = false) (hpos : 0 < ys.length) (hT : T.tab[st]? = some ti) (hk : ti.k = .slice el) (hE : T.tab[el]? = some te) (hs : te.size = E.size) (hz : te.zero.length = te.size) (h0 : 0 < te.size)
    (hlen : (xs.length + ys.length) * te.bytes ≤ 140737488355328) (hlen' : xs.length + ys.length ≤ 9223372036854775807)
    (h : aV P fr ops rest (A.after { d := some d, ty := .g8 E el J (xs ++ ys), S := [J], rs := bR x ++ bR y }) fun A' l' => K A' ((A, { d := some d, ty := .g8 E el J (xs ++ ys), S := [J], rs := bR x ++ bR y }) :: l')) :
    aV P fr ops (⟨some d, .call ⟨.builtin .append, #[x, y], #[st, st]⟩, t, p, e, none⟩ :: rest) A K := by
  refine ⟨_, fH rfl rfl (by simp) (by simp; omega) (by simp) fun a w M wf hr htg => ?_, h⟩
  obtain ⟨hdx, hdy⟩ := op2 hr
  rw [hx] at hdx; rw [hy] at hdy
  have hrow := hdx
  obtain ⟨_, D, _, hD, hkd, _⟩ := cF hT
  rw [hk] at hkd
  cases D <;> simp only [TK.of, reduceCtorEq, TK.slice.injEq] at hkd
  subst hkd
  rename_i el
  obtain ⟨i, _, hi, _, _, hsz, hby, hze⟩ := cF hE
  obtain ⟨zz, hiz, hzc⟩ : ∃ z, i.zero = some z ∧ z.cells.size = i.size := by
    cases hiz : i.zero with
    | none => rw [hiz] at hze; rw [← hze] at hz; simp at hz; omega
    | some z => rw [hiz] at hze; exact ⟨z, rfl, by simp at hze; rw [hsz, ← hz, ← hze]; simp⟩
  obtain ⟨ad, c', ey, hc1, hc2, hpp⟩ := hdy
  obtain ⟨b', off', rfl, hp'⟩ := hpp hpos
  obtain ⟨news, hn1, hn2, hn3⟩ := oI hp' _ (Nat.le_refl _)
  rw [List.take_length] at hn2
  have hnl : news.length = ys.length * i.size := by rw [hn1, cg, hsz, hs]
  have hnews : ∀ j u, news[j]? = some u → w.cell? ((⟨b', off', none⟩ : Addr).add j) = some u := fun j u hj => by rw [Addr.add_lit]; exact hn3 j u hj
  have hones := lu hn2 (iO E ys)
  have hesz : E.size = i.size := by rw [hsz, hs]
  -- behind a growth
  have grown : ∀ (olds : List Value) (cap : Nat), bt w M (xs.flatMap E.tys) olds → cap < xs.length + ys.length →
      (Builtin.append_ #[st, st] t #[a.eval x, a.eval y]).run P w = .ok (.slice (some ⟨w.heap.size, 0, none⟩) (xs.length + ys.length) (grownCap w (xs.length + ys.length) cap el)) (w.drew.alloc (.cells (olds.toArray ++ news.toArray ++ Builtin.zeroCells zz.cells (grownCap w (xs.length + ys.length) cap el - (xs.length + ys.length))) el)) →
      ∃ v w', (execOp a.eval ⟨some d, .call ⟨.builtin .append, #[x, y], #[st, st]⟩, t, p, e, none⟩).run P w = .ok (.value v) w' ∧ Fx.left { d := some d, ty := .g8 E el J (xs ++ ys), S := [J], rs := bR x ++ bR y } w M w' v := by
    intro olds cap hdo hcap hrun
    have holen : olds.length = xs.length * i.size := by rw [bw hdo, cg, hesz]
    have hge := grownCap_ge w (xs.length + ys.length) cap el
    have hcm : grownCap w (xs.length + ys.length) cap el ≤ maxLen := grownCap_le_maxLen w (xs.length + ys.length) cap el (by simp only [maxLen]; omega)
    have hsize : (w.drew.alloc (.cells (olds.toArray ++ news.toArray ++ Builtin.zeroCells zz.cells (grownCap w (xs.length + ys.length) cap el - (xs.length + ys.length))) el)).heap.size = w.heap.size + 1 := by simp
    have hold : ∀ b2, b2 < w.heap.size → (w.drew.alloc (.cells (olds.toArray ++ news.toArray ++ Builtin.zeroCells zz.cells (grownCap w (xs.length + ys.length) cap el - (xs.length + ys.length))) el)).heap[b2]? = w.heap[b2]? := fun b2 h => Below.heap_alloc w.drew _ b2 h
    have hnew : (w.drew.alloc (.cells (olds.toArray ++ news.toArray ++ Builtin.zeroCells zz.cells (grownCap w (xs.length + ys.length) cap el - (xs.length + ys.length))) el)).heap[w.heap.size]? = some (.cells (olds.toArray ++ news.toArray ++ Builtin.zeroCells zz.cells (grownCap w (xs.length + ys.length) cap el - (xs.length + ys.length))) el (0, 0)) := fD w.drew _
    have hos : (w.drew.alloc (.cells (olds.toArray ++ news.toArray ++ Builtin.zeroCells zz.cells (grownCap w (xs.length + ys.length) cap el - (xs.length + ys.length))) el)).os = w.os ∧ (w.drew.alloc (.cells (olds.toArray ++ news.toArray ++ Builtin.zeroCells zz.cells (grownCap w (xs.length + ys.length) cap el - (xs.length + ys.length))) el)).tape = w.tape ∧ (w.drew.alloc (.cells (olds.toArray ++ news.toArray ++ Builtin.zeroCells zz.cells (grownCap w (xs.length + ys.length) cap el - (xs.length + ys.length))) el)).output = w.output := ⟨rfl, rfl, rfl⟩
    have hcs : (olds.toArray ++ news.toArray ++ Builtin.zeroCells zz.cells (grownCap w (xs.length + ys.length) cap el - (xs.length + ys.length))).size = grownCap w (xs.length + ys.length) cap el * i.size := by
      simp only [Array.size_append, List.size_toArray, size_zeroCells, hzc, holen, hnl, ← Nat.add_mul]
      congr 1
      omega
    have htk : ((olds.toArray ++ news.toArray ++ Builtin.zeroCells zz.cells (grownCap w (xs.length + ys.length) cap el - (xs.length + ys.length))).toList.drop 0).take ((xs ++ ys).length * E.size) = olds ++ news := by
      rw [List.drop_zero]
      simp only [Array.toList_append]
      rw [List.take_left' (by rw [List.length_append, holen, hnl, List.length_append, hesz, Nat.add_mul])]
    generalize hw' : (w.drew.alloc (.cells (olds.toArray ++ news.toArray ++ Builtin.zeroCells zz.cells (grownCap w (xs.length + ys.length) cap el - (xs.length + ys.length))) el)) = w' at *
    generalize hcu : (olds.toArray ++ news.toArray ++ Builtin.zeroCells zz.cells (grownCap w (xs.length + ys.length) cap el - (xs.length + ys.length))) = cu at *
    have le : Le (· ∈ [J]) (· ∈ ([] : List Nat)) w M w' (fun b2 => if b2 = w.heap.size then some J else M b2) :=
      ⟨by omega, hos.1, hos.2.1, hos.2.2, fun b2 hb2 hm => ⟨by rw [if_neg (by omega)]; exact hm, hold b2 hb2⟩, fun b2 u hm _ => by
        have := wf.lt b2 u hm
        exact ⟨by rw [if_neg (by omega)]; exact hm, fun _ => hold b2 this⟩⟩
    have le0 : Le (· ∈ ([] : List Nat)) (· ∈ ([] : List Nat)) w M w' (fun b2 => if b2 = w.heap.size then some J else M b2) :=
      ⟨by omega, hos.1, hos.2.1, hos.2.2, fun b2 hb2 hm => ⟨by rw [if_neg (by omega)]; exact hm, hold b2 hb2⟩, fun b2 u hm _ => by
        have := wf.lt b2 u hm
        exact ⟨by rw [if_neg (by omega)]; exact hm, fun _ => hold b2 this⟩⟩
    have wf' : Wf w' (fun b2 => if b2 = w.heap.size then some J else M b2) := by
      refine ⟨fun b2 u hm => ?_, fun b2 b3 u ht1 hm hm' => ?_⟩
      · split at hm
        · omega
        · have := wf.lt b2 u hm; omega
      · split at hm
        · injection hm with hm; omega
        · split at hm'
          · injection hm' with hm'; omega
          · exact wf.inj b2 b3 u ht1 hm hm'
    refine ⟨.slice (some ⟨w.heap.size, 0, none⟩) (xs.length + ys.length) (grownCap w (xs.length + ys.length) cap el), w', by simp [execOp, resolve, invoke, builtin, hrun], _, wf', le, .inr ⟨w.heap.size, 0, grownCap w (xs.length + ys.length) cap el, cu, by rw [List.length_append], by simp, hnew, by rw [List.length_append]; exact hge, hcm, by rw [hcs, hesz]; omega, ?_⟩, by simp⟩
    rw [htk, List.flatMap_append]
    exact kU (bV le0 (by rw [E.cW]; intro _ h; cases h) (by rw [E.cC]; intro _ h; cases h) hdo) (bV le0 (by rw [E.cW]; intro _ h; cases h) (by rw [E.cC]; intro _ h; cases h) hn2)
  rcases hrow with ⟨hxe, ex⟩ | ⟨g, off, cap, cur, ex, hg, hh, hxc, hcm, hfit, hdx⟩
  · have hrn := run_append_nil (P := P) w st t el i zz hD hi hiz ⟨b', off', none⟩ ys.length c' news hnl hnews hpos (by omega) (by rw [hby]; have := hlen; rw [Nat.add_mul] at this; omega)
    subst hxe
    refine grown [] 0 trivial (by simpa using hpos) ?_
    rw [ex, ey]
    simpa using hrn
  · by_cases hroom : xs.length + ys.length ≤ cap
    · -- in place
      have hm : (xs.length + ys.length) * E.size ≤ cap * E.size := Nat.mul_le_mul_right _ hroom
      rw [Nat.add_mul] at hm
      have hcf : off + xs.length * i.size + news.length ≤ cur.size := by rw [hnl, ← hesz]; omega
      have hf := run_firstCells_some (P := P) w i.size ys.length ⟨b', off', none⟩ ys.length c' news hnl hnews
      have hst := run_storeCells_at (P := P) g (off + xs.length * i.size) el news 0 cur w hh (by simpa using hcf) hones
      rw [mI _ hh] at hst
      simp only [Nat.add_zero] at hst
      obtain ⟨h1', h2', h3'⟩ := jW (cs' := (cur.toList.take (off + xs.length * i.size) ++ news ++ cur.toList.drop (off + xs.length * i.size + news.length)).toArray) (Tb := el) wf hg _ rfl
      have hrun : (Builtin.append_ #[st, st] t #[a.eval x, a.eval y]).run P w = .ok (.slice (some ⟨g, off, none⟩) (xs.length + ys.length) cap) { w with heap := w.heap.setIfInBounds g (.cells (cur.toList.take (off + xs.length * i.size) ++ news ++ cur.toList.drop (off + xs.length * i.size + news.length)).toArray el (0, 0)) } := by
        rw [ex, ey]
        simp [Builtin.append_, run_underlying hD, sizeOf, typeInfo, hi, Builtin.lenOf, hroom, hf, Addr.add_lit, hst]
      have le : Le (· ∈ [J]) (· ∈ ([] : List Nat)) w M { w with heap := w.heap.setIfInBounds g (.cells (cur.toList.take (off + xs.length * i.size) ++ news ++ cur.toList.drop (off + xs.length * i.size + news.length)).toArray el (0, 0)) } M :=
        h2'.weaken (fun u hu => by simp only [List.mem_singleton] at hu; subst hu; simp) (fun _ h => by cases h)
      refine ⟨.slice (some ⟨g, off, none⟩) (xs.length + ys.length) cap, _, by simp [execOp, resolve, invoke, builtin, hrun], M, h1', le, .inr ⟨g, off, cap, _, by rw [List.length_append], hg, h3', by rw [List.length_append]; exact hroom, hcm, ?_, ?_⟩, by simp⟩
      · simp only [List.size_toArray, List.length_append, List.length_take, List.length_drop, Array.length_toList]
        omega
      · rw [List.length_append, Nat.add_mul, hesz, ← hnl, List.toList_toArray, Dv _ _ _ _ (by simpa using hcf), List.flatMap_append]
        refine bV h2' (by rw [← List.flatMap_append, E.cW]; intro _ h; cases h) (by rw [← List.flatMap_append, E.cC]; intro _ h; cases h) (kU ?_ hn2)
        rw [← hesz]; exact hdx
    · have holds : ∀ j u, ((cur.toList.drop off).take (xs.length * E.size))[j]? = some u → w.cell? ((⟨g, off, none⟩ : Addr).add j) = some u := fun j u hj => by
        rw [List.getElem?_take] at hj
        split at hj
        · rw [List.getElem?_drop] at hj
          rw [Addr.add_lit]
          simpa [World.cell?, hh] using hj
        · cases hj
      have hol : ((cur.toList.drop off).take (xs.length * E.size)).length = xs.length * i.size := by rw [bw hdx, cg, hesz]
      have hrn := run_append_grow (P := P) w st t el i zz hD hi hiz ⟨g, off, none⟩ xs.length cap _ hol holds ⟨b', off', none⟩ ys.length c' news hnl hnews (by omega) (by omega) (growslice_fits (by omega) (by rw [hby]; exact hlen))
      refine grown _ cap hdx (by omega) ?_
      rw [ex, ey]
      exact hrn
end
section
variable {P : Program} {fr : Fr} {A : As} {c : Code} {Q : Exit → Act → World → Prop}
theorem QO {α : Type} {E : El α} {T Tc J tg c0 : Nat} {xs : List α} (hc : A.tag c0 = some (.cells Tc [.row E T tg xs])) (h1 : e8 tg) (hne : Nat.beq c0 tg = false) (hJ : 4096 ≤ J) (hp : fr.pass.contains tg = false)
    (h : eU P fr c ⟨fC [] [tg] A.slots, (c0, .cells Tc [.g8 E T J xs]) :: oJ [] [tg] A.tags⟩ Q) : eU P fr c A Q := fun a w ⟨M, ok, hsl, ht⟩ => by
  have le : Le (· ∈ ([] : List Nat)) (· ∈ [tg]) w M w (jZ M tg J) := qg
  refine h a w ⟨jZ M tg J, ⟨EI hJ ok.wf, Fr.jF ok.base (by intro _ h; cases h) (fun t ht => by simp only [List.mem_singleton] at ht; subst ht; exact ⟨h1.1, by simpa using hp⟩) le, ok.size, ok.defers.step (by intro _ h; cases h) (fun t ht => by simp only [List.mem_singleton] at ht; subst ht; exact h1.1) le⟩, fun i hi => ?_, fun x hx => ?_⟩
  · rcases ep [] [tg] A.slots i with ⟨e, hdj⟩ | ⟨_, e⟩
    · show (fC [] [tg] A.slots i).den _ _ _
      rw [e]; exact (A.slots i).mono le (eJ hdj).1 (eJ hdj).2 (hsl i hi)
    · show (fC [] [tg] A.slots i).den _ _ _
      rw [e]; trivial
  · rcases List.mem_cons.1 hx with rfl | hx
    · obtain ⟨b, cs, hb, hh, hd⟩ := ht _ (cM hc)
      refine ⟨b, cs, ?_, hh, ?_⟩
      · unfold jZ
        rw [if_neg]
        · exact hb
        · rw [hb]; intro e; injection e with e; have e : c0 = tg := e; rw [e] at hne; simp at hne
      · obtain ⟨cs⟩ := cs
        match cs, hd with
        | [v], ⟨⟨vs, hown, hcs, hM⟩, _⟩ =>
          refine ⟨?_, trivial⟩
          rcases hown.2 with ⟨ez, h0⟩ | ⟨g, cap, cur, ez, _, hh, hnc, hcap, hsz, htk⟩
          · exact .inl ⟨List.length_eq_zero_iff.1 h0, ez⟩
          · have hg : M g = some tg := hM g (by rw [ez]; rfl)
            refine .inr ⟨g, 0, cap, cur, ez, by simp [jZ, hg], hh, hnc, hcap, by omega, ?_⟩
            rw [List.drop_zero, htk]
            exact bV (qg (w := w)) (by rw [E.cW]; intro _ h; cases h) (by rw [E.cC]; intro _ h; cases h) hcs
    · exact gb le hx fun y hy _ => ht y hy
end
end Go.T
namespace Go.Proofs.YtmmcenjknimhbaaGreat
open Go Go.T
set_option maxHeartbeats 16000000
theorem KF {b : aW} {g : Int} (h : ¬ n8 b g = 0) : kN b g = [] := if_neg h
theorem Jp {b : aW} {g : Int} (h : ¬ n8 b g = 0) : kK b g = n8 b g := if_neg h
theorem I0 {b : aW} {g : Int} {f : Found} (h : n8 b g = 0) (e : fk b g = f) (hf : f.is = true) : qJ f.ways (bE b) f.last = kN b g := by unfold kN; rw [if_pos h, e, if_pos hf]
theorem J5 {b : aW} {g : Int} {f : Found} (h : n8 b g = 0) (e : fk b g = f) (hf : f.is = true) : kK b g = 0 := by unfold kK; rw [if_pos h, e, if_pos hf]
theorem Jh {b : aW} {g : Int} {f : Found} (h : n8 b g = 0) (e : fk b g = f) (hf : f.is = false) : kN b g = [] := by unfold kN; rw [if_pos h, e, if_neg (by rw [hf]; decide)]
theorem I4 {b : aW} {g : Int} {f : Found} (h : n8 b g = 0) (e : fk b g = f) (hf : f.is = false) : kK b g = 7 := by unfold kK; rw [if_pos h, e, if_neg (by rw [hf]; decide)]
theorem Fc {b : aW} {g : Int} {f : Found} (hr : b.dD) (hg : 0 ≤ g) (e : fk b g = f) (hf : f.is = true) : gx f.ways (bE b) f.last (qJ f.ways (bE b) f.last) ∧ (qJ f.ways (bE b) f.last).length ≤ 40000000 := by
 obtain ⟨h, _⟩ := EX (g := g) hr hg
 rw [e] at h
 obtain ⟨L, h1, _, _, h2, _⟩ := h.yes hf
 rw [qC h1]; exact ⟨h1, h2⟩
theorem JO {n : Nat} (h : (decide ((n : Int) > 0) && !false) = true) : 0 < n := by
 simp only [Bool.and_eq_true, decide_eq_true_eq] at h; omega
theorem EH {n : Nat} (h : (decide ((n : Int) > 0) && !false) = false) : n = 0 := by
 simp only [Bool.not_false, Bool.and_true, decide_eq_false_iff_not] at h; omega
theorem LZ {b : Bool} (h : (!b) = false) : b = true := by cases b <;> first | rfl | cases h
theorem Ls {b : Bool} (h : (!b) = true) : b = false := by cases b <;> first | rfl | cases h
attribute [local irreducible] fL dg lG nG fZ gA fy fm ff nB gB m6 cw fA m4 ew nM nth eU cm aV cy bodyPost Exit.then Exit.inBlock Code.wp Code.wpIn fI ry rq rY iY sB rZ iV sA e9 gr p8 cT cO bodyPostM dW
set_option maxRecDepth 100000 in
theorem NY (b : aW) (hs : b.Small) (g : Int) : cy Tryz.prog 169 [eC b, Ty.int .i64 g] (Ty.jk [Ty.when (decide (n8 b g = 0)) (Ty.pe dS ⟨b, bE b⟩ 0), Ty.int .i64 (n8 b g)]) := by
 refine aX Tryz.func169 rfl (by decide) Tryz.ntmps169 (by exact Nat.le_of_ble_eq_true rfl) fun w0 M0 => ?_
 refine aF (aA (az rfl (iT rfl (b8 rfl (aD (aC (aF (aA ?_))))))))
 refine aa rfl rfl rfl (by exact Nat.le_of_ble_eq_true rfl) ?_
 refine aq (G2 b hs) rfl rfl rfl rfl rfl (uq rfl (bF rfl rfl (bF rfl rfl (O3 rfl (b8 rfl (aD (aC (aF (aF (aA (bP rfl (av rfl rfl rfl (gw rfl ?_)))))))))))))
 apply aM (s := 15) rfl rfl rfl
 ·intro hg; apply aO; (refine bP rfl ?_); refine aD ?_; exact rfl
 ·exact rfl
 ·exact rfl
 apply aM (s := 15) rfl rfl rfl
 ·intro hg; apply aJ (s := 16) rfl (by (rw [hg]; rfl)); apply aO; (refine aq (KB _ _ _) rfl rfl rfl rfl rfl ?_); refine aD ?_; exact rfl
 ·exact rfl
 ·exact rfl
 apply aM (s := 15) rfl rfl rfl
 ·intro hg; apply aJ (s := 17) rfl (by (rw [hg]; rfl)); apply aO; (refine dK rfl ?_); refine aD ?_; exact rfl
 ·exact rfl
 ·exact rfl
 refine fu rfl rfl (aD (aC ?_))
 refine c8 rfl (fun hc1 => ?_) (fun hc1 => ?_)
 ·refine aF (aA (iT rfl (b8 rfl (aD (aC (au (aP ?_)))))))
  refine gG rfl rfl rfl ?_ ?_
  all_goals skip
  all_goals first | exact tw rfl rfl (Ty.jR rfl fun h => absurd (of_decide_eq_true h) (by rw [O5 hc1]; decide)) | exact bD rfl rfl (congrArg (Ty.int .i64) (O5 hc1).symm)
 refine ak (aC (aF (aA (SC rfl (bP rfl (O3 rfl (b8 rfl (aD (aC (au ?_))))))))))
 refine gG rfl rfl rfl ?_ ?_
 all_goals skip
 all_goals first | exact tw rfl rfl (Ty.jR rfl fun h => Ty.mZ (by rw [← Kr hc1]; exact h)) | exact bD rfl rfl (congrArg (Ty.int .i64) (Kr hc1).symm)
set_option maxRecDepth 100000 in
theorem Ma (b : aW) (hs : b.Small) (g : Int) : cy Tryz.prog 127 [eC b, Ty.int .i64 g] (Ty.jk [Ty.sl sJ (kN b g), Ty.int .i64 (kK b g)]) := by
 refine vS Tryz.func127 rfl (by decide) Tryz.ntmps127 (by exact Nat.le_of_ble_eq_true rfl) fun w0 M0 => ?_
 refine aF (aA (az rfl (iT rfl (b8 rfl (aD (aC (aF (aA ?_))))))))
 refine aa rfl rfl rfl (by exact Nat.le_of_ble_eq_true rfl) ?_
 refine bP rfl (aq (NY b hs g) rfl rfl rfl rfl rfl (uq rfl (bF rfl rfl (bF rfl rfl (O3 rfl (b8 rfl (aD (aC (aF (aF (aA (bP rfl (av rfl rfl rfl (aD (aC ?_)))))))))))))))
 refine dB rfl (fun hc1 => ?_) (fun hc1 => ?_)
 ·refine aF (aA (bP rfl (iT rfl (b8 rfl (aD (aC (au (aP (Bd rfl ?_)))))))))
  refine gG rfl rfl rfl ?_ ?_
  all_goals skip
  all_goals first | exact eS (KF hc1) | exact bD rfl rfl (congrArg (Ty.int .i64) (Jp hc1).symm)
 refine ak (aC (aF ?_))
 have hask := LG hc1
 have hr := kW hask.1
 have h6 := hr.lots
 have hg : 0 ≤ g := by omega
 have hN := oa
 refine iX (s := 6) rfl (Ty.mZ (decide_eq_true hc1)) ?_
 refine aA (vr (fF 6) jQ ia rfl (lT rfl (cP rfl ?_)))
 refine cR rfl rfl rfl rfl rfl (by decide) ?_
 refine gY rfl rfl rfl rfl rfl ?_
 refine c6 rfl rfl (by exact List.cons_ne_nil _ _) rfl (by repeat (exact (aT.nil : aT _ _ [] _))) (by exact rfl) ?_
 refine qA (uD qt (k := bE b) (v := jj) rfl rfl (by decide) rfl (mU (bE b)) rfl Da ia ?_)
 refine Qy rfl ?_
 refine c6 rfl rfl (by exact List.cons_ne_nil _ _) rfl (by repeat (first | exact (aT.nil : aT _ _ [] _) | (show aT _ _ ((_, _) :: _) _; apply aT.one; (· exact (rfl : _ = Ty.mp _)); (· exact rfl)))) (by exact rfl) ?_
 refine bX rfl (by exact List.cons_ne_nil _ _) rfl ?_
 refine bW rfl rfl (by decide) rfl rfl rfl rfl rfl rfl ?_
 refine aD (aC (aF ?_))
 refine dH (B := live [(1, Ty.int .i64 g), (6, Ty.pe dS ⟨b, bE b⟩ 0), (8, Ty.ptr 9 0)] [(9, Cont.cells 190 [Ty.mp 27, Ty.int .i64 0, Ty.int .i64 0, Ty.int .i64 0, Ty.int .i64 0, Ty.int .i64 0, Ty.int .i64 0, Ty.bool false]), (27, Cont.mp (fF 6) jQ (nW b).ways)]) ?_ ?_
 ·(refine cr.mk' ?_ ?_ <;> (repeat' (first | exact aH | exact aI | refine aB ?_ (Ty.aS _) | refine aB ?_ (Ty.aG _) | refine aK rfl (Cont.aG _) ?_)))
 refine aA (lT rfl (cP rfl ?_))
 refine cR rfl rfl rfl rfl rfl (by decide) ?_
 refine gY rfl rfl rfl rfl rfl ?_
 refine m7 (E := r9) (xs := [bE b]) rfl rfl rfl rfl rfl (by decide) (by decide) (by repeat (first | exact (aT.nil : aT _ _ [] _) | (show aT _ _ ((_, _) :: _) _; apply aT.agg; (· exact (rfl : _ = Ty.agg _))))) (by exact rfl) rfl rfl ?_
 refine bX rfl (by exact List.cons_ne_nil _ _) rfl ?_
 refine cj rfl rfl (by decide) rfl rfl (by exact (rfl : _ = Ty.row _ _ _ _)) rfl (by exact Nat.le_of_ble_eq_true rfl) rfl rfl (by exact (rfl : _ = [_])) ?_
 refine aD (aC (aF ?_))
 refine QO (J := 4100) (tg := 39) (c0 := 10) rfl (by decide) rfl (by decide) rfl ?_
 refine aY ?_
 refine cI (fun (x : {x : rW // EW b g x ∧ x.queue.length ≤ x.ways.length + 1}) => live [(1, Ty.int .i64 g), (6, Ty.pe dS ⟨b, bE b⟩ 0), (8, Ty.ptr 9 0), (9, Ty.ptr 10 0)] [(9, Cont.cells 190 [Ty.mp 27, Ty.int .i64 0, Ty.int .i64 0, Ty.int .i64 0, Ty.int .i64 0, Ty.int .i64 0, Ty.int .i64 0, Ty.bool false]), (10, Cont.cells 221 [Ty.g8 r9 188 4100 x.1.queue]), (27, Cont.mp (fF 6) jQ x.1.ways)]) (fun x => PK x.1) (⟨nW b, RG hr, by simp [nW]⟩) ?_ fun x => ?_
 ·(refine cr.mk' ?_ ?_ <;> (repeat' (first | exact aH | exact aI | refine aB ?_ (Ty.aS _) | refine aB ?_ (Ty.aG _) | refine aK rfl (Cont.aG _) ?_)))
 refine aF (aF (aA ?_))
 refine aU rfl rfl (by decide) rfl rfl rfl ?_
 refine Pz rfl rfl rfl (av rfl rfl rfl (gw rfl ?_))
 apply aM (s := 42) rfl rfl rfl
 ·intro hg; apply aO; (refine aR rfl rfl rfl rfl rfl (by decide) ?_); refine aD ?_; exact rfl
 ·exact rfl
 ·exact rfl
 apply aM (s := 42) rfl rfl rfl
 ·intro hg; apply aJ (s := 43) rfl (by (rw [hg]; rfl)); apply aO; (refine aU rfl rfl (by decide) rfl rfl rfl ?_); refine aD ?_; exact rfl
 ·exact rfl
 ·exact rfl
 apply aM (s := 42) rfl rfl rfl
 ·intro hg; apply aJ (s := 44) rfl (by (rw [hg]; rfl)); apply aO; (refine dK rfl ?_); refine aD ?_; exact rfl
 ·exact rfl
 ·exact rfl
 refine fu rfl rfl (aD (aC ?_))
 refine c8 rfl (fun hc2 => ?_) (fun hc2 => ?_)
 ·refine ak (aC (aY (aF ?_)))
  have hlen : 0 < x.1.queue.length := JO hc2
  refine aA ?_
  refine aU rfl rfl (by decide) rfl rfl rfl ?_
  refine L6 (i := 0) rfl rfl rfl rfl rfl rfl hlen ?_
  refine zV rfl rfl rfl (by exact Nat.le_of_ble_eq_true rfl) ?_
  refine bX rfl (by exact List.cons_ne_nil _ _) rfl ?_
  refine bW rfl rfl (by decide) rfl rfl rfl rfl rfl rfl ?_
  refine aD (aC (aF (aA ?_)))
  refine aU rfl rfl (by decide) rfl rfl rfl ?_
  refine P3 (lo := 1) rfl rfl rfl rfl rfl rfl hlen hlen ?_
  refine cj (ty := Ty.g8 r9 188 4100 (x.1.queue.drop 1)) rfl rfl (by decide) rfl rfl rfl rfl (by exact Nat.le_of_ble_eq_true rfl) rfl rfl (by exact (rfl : _ = [_])) ?_
  refine aD (aC (aF (aF ?_)))
  refine dH (B := live [(1, Ty.int .i64 g), (6, Ty.pe dS ⟨b, bE b⟩ 0), (8, Ty.ptr 9 0), (9, Ty.ptr 10 0), (10, Ty.ptr 11 0)] [(9, Cont.cells 190 [Ty.mp 27, Ty.int .i64 0, Ty.int .i64 0, Ty.int .i64 0, Ty.int .i64 0, Ty.int .i64 0, Ty.int .i64 0, Ty.bool false]), (10, Cont.cells 221 [Ty.g8 r9 188 4100 (kT x.1).queue]), (11, Cont.cells 188 (m3 (cN x.1))), (27, Cont.mp (fF 6) jQ x.1.ways)]) ?_ ?_
  ·(refine cr.mk' ?_ ?_ <;> (repeat' (first | exact aH | exact aI | refine aB ?_ (Ty.aS _) | refine aB ?_ (Ty.aG _) | refine aK rfl (Cont.aG _) ?_)))
  refine aA (lT rfl ?_)
  refine bI rfl rfl (by decide) rfl rfl (by exact Nat.le_of_ble_eq_true rfl) ?_
  refine aq (L0 ⟨b, bE b⟩ h6 (cN x.1)) rfl rfl rfl rfl rfl (aD (aC ?_))
  refine c8 rfl (fun hc3 => ?_) (fun hc3 => ?_)
  ·refine aF (aA ?_)
   refine bI rfl rfl (by decide) rfl rfl (by exact Nat.le_of_ble_eq_true rfl) ?_
   refine aR rfl rfl rfl rfl rfl (by decide) ?_
   refine Dy rfl rfl (by decide) rfl rfl rfl (by exact Nat.le_of_ble_eq_true rfl) rfl rfl rfl rfl ?_
   refine aR rfl rfl rfl rfl rfl (by decide) ?_
   refine cj rfl rfl (by decide) rfl rfl (by exact (rfl : _ = Ty.bool _)) rfl (by exact Nat.le_of_ble_eq_true rfl) rfl rfl (by exact rfl) ?_
   refine aD (aC (b9 (aN (kP rfl (aN (aZ rfl (aC (aF (aF (aA ?_))))))))))
   refine aR rfl rfl rfl rfl rfl (by decide) ?_
   refine aU rfl rfl (by decide) rfl rfl rfl ?_
   refine dK rfl (aD (aC (dh rfl (rfl) (ak (aC (aF ?_))))))
   have hfm : fk b g = ⟨x.1.ways, cN x.1, true⟩ := x.2.1.same.stop (w8 (MH hlen) hc3)
   have hch := Fc hr hg hfm rfl
   refine u6 (tg := 27) [] [(9, Cont.cells 190 [Ty.pm (fF 6) jQ x.1.ways, Ty.int .i64 (nth (cN x.1).1 0), Ty.int .i64 (nth (cN x.1).1 1), Ty.int .i64 (nth (cN x.1).1 2), Ty.int .i64 (nth (cN x.1).1 3), Ty.int .i64 (nth (cN x.1).1 4), Ty.int .i64 (nth (cN x.1).1 5), Ty.bool true])] (by decide) rfl trivial ⟨jw rfl rfl ⟨yG rfl (by decide), cY rfl, cY rfl, cY rfl, cY rfl, cY rfl, cY rfl, cY rfl, trivial⟩, trivial⟩ ?_
   refine dH (B := live [(6, Ty.pe dS ⟨b, bE b⟩ 0), (8, Ty.ptr 9 0)] [(9, Cont.cells 190 (zy ⟨x.1.ways, cN x.1, true⟩))]) ?_ ?_
   ·(refine cr.mk' ?_ ?_ <;> (repeat' (first | exact aH | exact aI | refine aB ?_ (Ty.aS _) | refine aB ?_ (Ty.aG _) | refine aK rfl (Cont.aG _) ?_)))
   refine cq mixed rfl ?_
   refine bI rfl rfl (by decide) rfl rfl (by exact Nat.le_of_ble_eq_true rfl) ?_
   refine lT rfl (cP rfl ?_)
   refine cR rfl rfl rfl rfl rfl (by decide) ?_
   refine gY rfl rfl rfl rfl rfl (aq (My ⟨x.1.ways, cN x.1, true⟩ (bE b) _ hch.1 hch.2) rfl rfl rfl rfl rfl (xO rfl (b8 rfl (aD ?_))))
   refine ⟨by kernel_rfl, ?_⟩
   refine aC (au (Bd rfl ?_))
   refine gG rfl rfl rfl ?_ ?_
   all_goals skip
   all_goals first | exact bD rfl rfl (congrArg (Ty.sl sJ) (I0 hc1 hfm rfl)) | exact bD rfl rfl (congrArg (Ty.int .i64) (J5 hc1 hfm rfl).symm)
  refine ak (aC (aF (aA (lT rfl ?_))))
  refine bI rfl rfl (by decide) rfl rfl (by exact Nat.le_of_ble_eq_true rfl) ?_
  refine bP rfl (aq (MD ⟨b, bE b⟩ (cN x.1) g) rfl rfl rfl rfl rfl (aD (aC (aY ?_))))
  refine qE (ps := [62]) (lk [(1, Ty.int .i64 g), (6, Ty.pe dS ⟨b, bE b⟩ 0), (8, Ty.ptr 9 0), (9, Ty.ptr 10 0), (10, Ty.ptr 11 0)]) (fun k => [(9, Cont.cells 190 [Ty.mp 27, Ty.int .i64 0, Ty.int .i64 0, Ty.int .i64 0, Ty.int .i64 0, Ty.int .i64 0, Ty.int .i64 0, Ty.bool false]), (10, Cont.cells 221 [Ty.g8 r9 188 4100 (eA b g (cN x.1) (kT x.1) k).queue]), (11, Cont.cells 188 (m3 (cN x.1))), (27, Cont.mp (fF 6) jQ (eA b g (cN x.1) (kT x.1) k).ways)]) false [] [9, 10, 11, 27] rfl rfl (Ic ⟨b, bE b⟩ (qQ hr) h6 g (cN x.1)) rfl rfl (by decide) (by intro t ht; obtain ⟨x, _, rfl⟩ := List.mem_map.1 ht; exact ⟨rfl, rfl, rfl⟩) rfl rfl (fun _ => rfl) rfl ?_ ?_ ?_ (by intro h; cases h)
  ·(refine cr.mk' ?_ ?_ <;> (repeat' (first | exact aH | exact aI | refine aB ?_ (Ty.aS _) | refine aB ?_ (Ty.aG _) | refine aK rfl (Cont.aG _) ?_)))
  ·intro k tys hk
   obtain ⟨hk1, rfl⟩ := Cy hk
   have hk1 : k < (dI b (cN x.1) g).length := hk1
   have hok := (mO hg).1 (bh (xs := dI b (cN x.1) g) hk1)
   have hlg := hok.len
   have hfw := I3 x.2.1 hr hg hlen hc3 (Nat.le_of_lt hk1)
   have hql := AN (x := kT x.1) (b := b) (g := g) (by have := x.2.2; show (x.1.queue.drop 1).length ≤ x.1.ways.length + 1; rw [List.length_drop]; omega) (cN x.1) k
   refine ⟨live [(1, Ty.int .i64 g), (6, Ty.pe dS ⟨b, bE b⟩ 0), (8, Ty.ptr 9 0), (9, Ty.ptr 10 0), (10, Ty.ptr 11 0), (11, Ty.sl cv (nth (dI b (cN x.1) g) k))] [(9, Cont.cells 190 [Ty.mp 27, Ty.int .i64 0, Ty.int .i64 0, Ty.int .i64 0, Ty.int .i64 0, Ty.int .i64 0, Ty.int .i64 0, Ty.bool false]), (10, Cont.cells 221 [Ty.g8 r9 188 4100 (eA b g (cN x.1) (kT x.1) k).queue]), (11, Cont.cells 188 (m3 (cN x.1))), (27, Cont.mp (fF 6) jQ (eA b g (cN x.1) (kT x.1) k).ways)], fun l w M => ?_, fun l w M => ?_⟩
   ·refine aA (xO rfl (aD (iy ?_)))
    (refine cr.mk' ?_ ?_ <;> (repeat' (first | exact aH | exact aI | refine aB ?_ (Ty.aS _) | refine aB ?_ (Ty.aG _) | refine aK rfl (Cont.aG _) ?_)))
   refine aY (aF (aA ?_))
   refine bI rfl rfl (by decide) rfl rfl (by exact Nat.le_of_ble_eq_true rfl) ?_
   refine bX rfl (by exact List.cons_ne_nil _ _) rfl ?_
   refine bW rfl rfl (by decide) rfl rfl rfl rfl rfl rfl ?_
   refine aD (aC (aF (aF (aA (eV rfl (bq rfl rfl rfl (bP rfl (aD (aC (aY ?_))))))))))
   refine cI (fun (j : {j : Nat // j ≤ (nth (dI b (cN x.1) g) k).length}) => live [(1, Ty.int .i64 g), (6, Ty.pe dS ⟨b, bE b⟩ 0), (8, Ty.ptr 9 0), (9, Ty.ptr 10 0), (10, Ty.ptr 11 0), (11, Ty.sl cv (nth (dI b (cN x.1) g) k)), (12, Ty.ptr 13 0), (64, Ty.sl cv (nth (dI b (cN x.1) g) k)), (65, Ty.int .i64 (nth (dI b (cN x.1) g) k).length), (66, Ty.int .i64 (j.1 : Nat))] [(9, Cont.cells 190 [Ty.mp 27, Ty.int .i64 0, Ty.int .i64 0, Ty.int .i64 0, Ty.int .i64 0, Ty.int .i64 0, Ty.int .i64 0, Ty.bool false]), (10, Cont.cells 221 [Ty.g8 r9 188 4100 (eA b g (cN x.1) (kT x.1) k).queue]), (11, Cont.cells 188 (m3 (cN x.1))), (13, Cont.cells 188 (m3 (bK (cN x.1) ((nth (dI b (cN x.1) g) k).take j.1)))), (27, Cont.mp (fF 6) jQ (eA b g (cN x.1) (kT x.1) k).ways)]) (fun j => (nth (dI b (cN x.1) g) k).length - j.1) (⟨0, by omega⟩) ?_ fun j => ?_
   ·(refine cr.mk' ?_ ?_ <;> (repeat' (first | exact aH | exact aI | refine aB ?_ (Ty.aS _) | refine aB ?_ (Ty.aG _) | refine aK rfl (Cont.aG _) ?_)))
   refine aF (aA (av rfl rfl rfl (aD (aC (aF ?_)))))
   refine aj rfl (fun hc5 => ?_) (fun hc5 => ?_)
   ·refine ak (aC (aF (aY (aF (aA ?_)))))
    refine bC rfl rfl rfl rfl rfl rfl (by omega) ?_
    refine aa rfl rfl rfl (by exact Nat.le_of_ble_eq_true rfl) ?_
    refine bX rfl (by exact List.cons_ne_nil _ _) rfl ?_
    refine bW rfl rfl (by decide) rfl rfl rfl rfl rfl rfl ?_
    refine aD (aC ?_)
    have htk := hok.ok _ (bh (xs := nth (dI b (cN x.1) g) k) (k := j.1) (by omega))
    have htm := F8 (p := cN x.1) (l := nth (dI b (cN x.1) g) k) (j := j.1) (by omega)
    have htl : (0 : Int) ≤ (nth (nth (dI b (cN x.1) g) k) j.1).cJ ∧ (nth (nth (dI b (cN x.1) g) k) j.1).cJ < b.lots.length := htk.1
    refine aA ?_
    refine aR rfl rfl rfl rfl rfl (by decide) ?_
    refine aU rfl rfl (by decide) rfl rfl rfl ?_
    refine aR rfl rfl rfl rfl rfl (by decide) ?_
    refine aU rfl rfl (by decide) rfl rfl rfl ?_
    refine jX (n := 6) rfl rfl rfl rfl rfl htl.1 (by omega) ?_
    refine cj (l' := m3 (bf (bK (cN x.1) ((nth (dI b (cN x.1) g) k).take j.1)) (nth (nth (dI b (cN x.1) g) k) j.1))) rfl rfl (by decide) rfl rfl (by exact (rfl : _ = Ty.int _ _)) rfl (by show 0 + _ * 1 < 6; omega) rfl rfl (Ew _ _ (by omega)) ?_
    refine aD (bJ (aC (aA ?_)))
    refine cD rfl rfl (by omega) (by omega) ?_
    refine bP rfl (aD ?_)
    refine bS (⟨j.1 + 1, by omega⟩) ?_ (by show (nth (dI b (cN x.1) g) k).length - (j.1 + 1) < (nth (dI b (cN x.1) g) k).length - j.1; omega)
    (refine cr.mk' ?_ ?_ <;> (repeat' (first | exact aH | exact aI | exact dU | refine aB ?_ (Ty.aS _) | refine aB ?_ (Ty.aG _) | refine aK rfl (Cont.aG _) ?_ | refine aK rfl (Cont.dV ?_) ?_ | refine cQ ?_ ?_)))
    all_goals skip
    all_goals first | exact Ty.bg (congrArg (fun p : Pl => nth p.1 0) htm) | exact Ty.bg (congrArg (fun p : Pl => nth p.1 1) htm) | exact Ty.bg (congrArg (fun p : Pl => nth p.1 2) htm) | exact Ty.bg (congrArg (fun p : Pl => nth p.1 3) htm) | exact Ty.bg (congrArg (fun p : Pl => nth p.1 4) htm) | exact Ty.bg (congrArg (fun p : Pl => nth p.1 5) htm)
   refine b9 (aN (aN (aZ rfl (aC (aF ?_)))))
   refine dH (B := live [(1, Ty.int .i64 g), (6, Ty.pe dS ⟨b, bE b⟩ 0), (8, Ty.ptr 9 0), (9, Ty.ptr 10 0), (10, Ty.ptr 11 0), (11, Ty.sl cv (nth (dI b (cN x.1) g) k)), (12, Ty.ptr 13 0)] [(9, Cont.cells 190 [Ty.mp 27, Ty.int .i64 0, Ty.int .i64 0, Ty.int .i64 0, Ty.int .i64 0, Ty.int .i64 0, Ty.int .i64 0, Ty.bool false]), (10, Cont.cells 221 [Ty.g8 r9 188 4100 (eA b g (cN x.1) (kT x.1) k).queue]), (11, Cont.cells 188 (m3 (cN x.1))), (13, Cont.cells 188 (m3 (bK (cN x.1) ((nth (dI b (cN x.1) g) k).take j.1)))), (27, Cont.mp (fF 6) jQ (eA b g (cN x.1) (kT x.1) k).ways)]) ?_ ?_
   ·(refine cr.mk' ?_ ?_ <;> (repeat' (first | exact aH | exact aI | refine aB ?_ (Ty.aS _) | refine aB ?_ (Ty.aG _) | refine aK rfl (Cont.aG _) ?_)))
   refine wz (tg := 13) rfl (Cont.nw (congrArg m3 (show bK (cN x.1) ((nth (dI b (cN x.1) g) k).take j.1) = bK (cN x.1) (nth (dI b (cN x.1) g) k) by rw [List.take_of_length_le (by omega)]))) ?_
   refine aA ?_
   refine aR rfl rfl rfl rfl rfl (by decide) ?_
   refine aU rfl rfl (by decide) rfl rfl rfl ?_
   refine bI rfl rfl (by decide) rfl rfl (by exact Nat.le_of_ble_eq_true rfl) ?_
   refine A4 qt (k := bK (cN x.1) (nth (dI b (cN x.1) g) k)) (z0 := jj) rfl rfl (by decide) rfl (mU _) ia td qT ?_
   refine uq rfl (bF rfl rfl (bF rfl rfl ?_))
   refine bX rfl (by exact List.cons_ne_nil _ _) rfl ?_
   refine bW rfl rfl (by decide) rfl rfl rfl rfl rfl rfl ?_
   refine dJ rfl (aD (aC (aF (aA (gw rfl (dK rfl (aD (aC ?_))))))))
   refine c8 rfl (fun hc6 => ?_) (fun hc6 => ?_)
   ·refine aF (aA ?_)
    refine aR rfl rfl rfl rfl rfl (by decide) ?_
    refine aU rfl rfl (by decide) rfl rfl rfl ?_
    refine bI rfl rfl (by decide) rfl rfl (by exact Nat.le_of_ble_eq_true rfl) ?_
    refine bI rfl rfl (by decide) rfl rfl (by exact Nat.le_of_ble_eq_true rfl) ?_
    refine eV rfl ?_
    refine c6 rfl rfl (by exact List.cons_ne_nil _ _) rfl (by repeat (first | exact (aT.nil : aT _ _ [] _) | (show aT _ _ ((_, _) :: _) _; apply aT.one; (· first | exact (rfl : _ = Ty.int _ _) | exact (rfl : _ = Ty.sl _ _)); (· exact rfl)) | (show aT _ _ ((_, _) :: _) _; apply aT.agg; (· exact (rfl : _ = Ty.agg _))))) (by exact rfl) ?_
    refine qq qt (k := bK (cN x.1) (nth (dI b (cN x.1) g) k)) (v := ⟨cN x.1, nth (dI b (cN x.1) g) k, 0⟩) rfl rfl (by decide) rfl (mU _) rfl rfl ia ?_
    refine aD (aC (aA ?_))
    refine aU rfl rfl (by decide) rfl rfl rfl ?_
    refine bI rfl rfl (by decide) rfl rfl (by exact Nat.le_of_ble_eq_true rfl) ?_
    refine bY (E := r9) (xs := [bK (cN x.1) (nth (dI b (cN x.1) g) k)]) rfl rfl rfl rfl rfl (by decide) (by decide) (by repeat (first | exact (aT.nil : aT _ _ [] _) | (show aT _ _ ((_, _) :: _) _; apply aT.agg; (· exact (rfl : _ = Ty.agg _))))) (by exact rfl) rfl ?_
    refine JE rfl rfl (by decide) rfl (by show 0 < 1; decide) rfl rfl rfl rfl rfl (by decide) (by show (_ + 1) * 48 ≤ _; omega) (by show _ + 1 ≤ _; omega) ?_
    refine cj (ty := Ty.g8 r9 188 4100 ((eA b g (cN x.1) (kT x.1) k).queue ++ [bK (cN x.1) (nth (dI b (cN x.1) g) k)])) rfl rfl (by decide) rfl rfl rfl rfl (by exact Nat.le_of_ble_eq_true rfl) rfl rfl (by exact (rfl : _ = [_])) ?_
    refine aD (bJ (oL ?_))
    (refine cr.mk' ?_ ?_ <;> (repeat' (first | exact aH | exact aI | exact dU | refine aB ?_ (Ty.aS _) | refine aK rfl (Cont.aG _) ?_ | refine aK rfl (Cont.dV ?_) ?_ | refine cQ ?_ ?_ | refine aK rfl ?_ ?_)))
    all_goals first | exact Ty.sub_eq (congrArg (Ty.g8 r9 188 4100) (LR hk1 (Ls hc6)).2) | exact Cont.qB (LR hk1 (Ls hc6)).1
   refine ak (bJ (oL ?_))
   (refine cr.mk' ?_ ?_ <;> (repeat' (first | exact aH | exact aI | exact dU | refine aB ?_ (Ty.aS _) | refine aK rfl (Cont.aG _) ?_ | refine aK rfl (Cont.dV ?_) ?_ | refine cQ ?_ ?_ | refine aK rfl ?_ ?_)))
   all_goals first | exact Ty.sub_eq (congrArg (fun z : rW => Ty.g8 r9 188 4100 z.queue) (HS hk1 (LZ hc6))) | exact Cont.qB (congrArg rW.ways (HS hk1 (LZ hc6)))
  refine bJ (bJ ?_)
  refine bS (⟨eA b g (cN x.1) (kT x.1) (dI b (cN x.1) g).length, (x.2.1.next hr hg hlen hc3).1, AN (by have := x.2.2; show (x.1.queue.drop 1).length ≤ x.1.ways.length + 1; rw [List.length_drop]; omega) _ _⟩) ?_ (by exact (x.2.1.next hr hg hlen hc3).2)
  (refine cr.mk' ?_ ?_ <;> (repeat' (first | exact aH | exact aI | exact dU | refine aB ?_ (Ty.aS _) | refine aB ?_ (Ty.aG _) | refine aK rfl (Cont.aG _) ?_ | refine aK rfl (Cont.dV ?_) ?_ | refine cQ ?_ ?_ | refine aK rfl ?_ ?_)))
  all_goals skip
  all_goals first | exact Cont.qB (congrArg (fun n => (eA b g (cN x.1) (kT x.1) n).ways) (List.length_map _)) | exact Ty.sub_eq (congrArg (fun n => Ty.g8 r9 188 4100 (eA b g (cN x.1) (kT x.1) n).queue) (List.length_map _))
 refine b9 (aN (aN (aZ rfl (aC (aF (aF (aA ?_)))))))
 refine aR rfl rfl rfl rfl rfl (by decide) ?_
 refine aU rfl rfl (by decide) rfl rfl rfl ?_
 refine dK rfl (aD (aC (lX rfl (rfl) (aF (aA (iT rfl (b8 rfl (aD (aC (au (aP (Bd rfl ?_))))))))))))
 refine gG rfl rfl rfl ?_ ?_
 all_goals skip
 all_goals first | exact eS (Jh hc1 (x.2.1.same.stop (stepR_end (List.length_eq_zero_iff.1 (EH hc2)))) rfl) | exact bD rfl rfl (congrArg (Ty.int .i64) (I4 hc1 (x.2.1.same.stop (stepR_end (List.length_eq_zero_iff.1 (EH hc2)))) rfl).symm)
set_option maxRecDepth 100000 in
theorem OK (b : aW) (hs : b.Small) (g : Int) : cy Tryz.prog 62 [eC b, Ty.int .i64 g] (Ty.jk [Ty.int .i64 (kN b g).length, Ty.int .i64 (kK b g)]) := by
 refine aX Tryz.func62 rfl (by decide) Tryz.ntmps62 (by exact Nat.le_of_ble_eq_true rfl) fun w0 M0 => ?_
 refine aF (aA (az rfl (b8 rfl (b8 rfl (aD (aC (aF (aA ?_))))))))
 refine aa rfl rfl rfl (by exact Nat.le_of_ble_eq_true rfl) ?_
 refine bP rfl (aq (Ma b hs g) rfl rfl rfl rfl rfl (uq rfl (bF rfl rfl (bF rfl rfl (xO rfl (b8 rfl (aD (aC (aF (aA (eV rfl (bq rfl rfl rfl (bP rfl (b8 rfl (b8 rfl ?_)))))))))))))))
 refine aD (aC (au ?_))
 refine gG rfl rfl rfl ?_ ?_
 all_goals exact bQ rfl rfl
end Go.Proofs.YtmmcenjknimhbaaGreat
namespace Go.Proofs.YtmmcenjknimhbaaGreat
open Go Go.T
def three (l : List Int) : aW := ⟨[50, 50, 50] ++ l, [⟨30, 0, 1⟩, ⟨20, 1, 0⟩, ⟨40, 2, 2⟩]⟩
def Bq (b : aW) (c : bu → Int) (all : Bool) (n : Nat) (P : Found → Bool) : Bool := match runN b c all n (tV b) with
  | some f => P f
  | none => false
theorem vZ {b : aW} {c : bu → Int} {all : Bool} {n : Nat} {P : Found → Bool} (h : Bq b c all n P = true) : P (cZ b c all) = true := by
  unfold Bq at h
  cases e : runN b c all n (tV b) with
  | none => rw [e] at h; cases h
  | some f => rw [e] at h; rw [sE ⟨n, e⟩]; exact h
def HC (b : aW) (g : Int) (n : Nat) (P : Found → Bool) : Bool := match Cq b g n (nW b) with
  | some f => P f
  | none => false
theorem He {b : aW} {g : Int} {n : Nat} {P : Found → Bool} (h : HC b g n P = true) : P (fk b g) = true := by
  unfold HC at h
  cases e : Cq b g n (nW b) with
  | none => rw [e] at h; cases h
  | some f => rw [e] at h; rw [sx ⟨n, e⟩]; exact h
theorem q3 : cS (three [50]) = 0 := by decide
theorem v7 : cS (three [15]) = 0 := by decide
theorem Rv : Bq (three [50]) pL false 100 (fun f => f.is && decide (((bU f.ways f.last).getD jj).all = 3)) = true := by kernel_rfl
theorem Rk : Bq (three [50]) (pY (three [50])) false 400 (fun f => f.is && decide (((bU f.ways f.last).getD jj).all = 70)) = true := by kernel_rfl
theorem Rz : Bq (three [15]) pL false 100 (fun f => !f.is) = true := by kernel_rfl
theorem SJ : Bq (three [15]) pL true 100 (fun f => decide (f.ways.length = 1)) = true := by kernel_rfl
def vQ (ways : List (Pl × Way)) (first : Pl) : Nat → Pl → Option (List (List bu))
  | 0, p => if p = first then some [] else none
  | n + 1, p => if p = first then some [] else match bU ways p with
    | none => none
    | some w => (vQ ways first n w.frm).map fun A => A ++ [w.byT]
theorem w7 {ways : List (Pl × Way)} {first : Pl} : ∀ {n : Nat} {p : Pl} {A : List (List bu)}, vQ ways first n p = some A → gx ways first p A
  | 0, p, A, h => by
    unfold vQ at h
    by_cases e : p = first
    · rw [if_pos e] at h; injection h with h; subst h; subst e; exact .nil
    · rw [if_neg e] at h; cases h
  | n + 1, p, A, h => by
    unfold vQ at h
    by_cases e : p = first
    · rw [if_pos e] at h; injection h with h; subst h; subst e; exact .nil
    · rw [if_neg e] at h
      cases hw : bU ways p with
      | none => rw [hw] at h; cases h
      | some w =>
        rw [hw] at h
        obtain ⟨B, hB, rfl⟩ := Option.map_eq_some_iff.1 h
        exact .snoc e hw (w7 hB)
def Ke (b : aW) (f : Found) (n : Nat) : Bool := match vQ f.ways (bE b) 20 f.last with
  | some A => decide (A.length = n)
  | none => false
theorem Fz {b : aW} {f : Found} {n : Nat} (h : Ke b f n = true) : (qJ f.ways (bE b) f.last).length = n := by
  unfold Ke at h
  cases e : vQ f.ways (bE b) 20 f.last with
  | none => rw [e] at h; cases h
  | some A => rw [e] at h; rw [qC (w7 e)]; exact of_decide_eq_true h
theorem Rh : HC (three [50, 50]) 2 200 (fun f => f.is && Ke (three [50, 50]) f 2) = true := by kernel_rfl
theorem vq {a b : Bool} (h : (a && b) = true) : a = true ∧ b = true := by simpa using h
theorem SF : oB (three [50]) pL = 3 := by
 have h := vq (vZ Rv)
 unfold oB uN; rw [if_pos q3, if_pos h.1]; exact of_decide_eq_true h.2
theorem R8 : mh (three [50]) pL = 0 := by
 have h := vq (vZ Rv)
 unfold mh; rw [if_pos q3, if_pos h.1]
theorem SH : oB (three [50]) (pY (three [50])) = 70 := by
 have h := vq (vZ Rk)
 unfold oB uN; rw [if_pos q3, if_pos h.1]; exact of_decide_eq_true h.2
theorem SO : mh (three [50]) (pY (three [50])) = 0 := by
 have h := vq (vZ Rk)
 unfold mh; rw [if_pos q3, if_pos h.1]
theorem R4 : mh (three [15]) pL = 7 := by
 have h := vZ Rz
 unfold mh; rw [if_pos v7, if_neg (by simpa using h)]
theorem SM : lP (three [15]) = 1 := by
 have h := vZ SJ
 unfold lP; rw [if_pos v7, of_decide_eq_true h]; rfl
theorem Rg : Ar (three [50]) [[1, 0]] = (3, 0) := by kernel_rfl
theorem SL : ((kN (three [50, 50]) 2).length : Int) = 2 := by
 have h := vq (He Rh)
 have ha : n8 (three [50, 50]) 2 = 0 := by decide
 unfold kN; rw [if_pos ha, if_pos h.1, Fz h.2]; rfl
theorem SA : kK (three [50, 50]) 2 = 0 := by
 have h := vq (He Rh)
 have ha : n8 (three [50, 50]) 2 = 0 := by decide
 unfold kK; rw [if_pos ha, if_pos h.1]
def CO : List bu := [⟨1, 3⟩, ⟨0, 1⟩, ⟨1, 0⟩]
theorem RX : DH (three [25]) CO = true := by kernel_rfl
theorem RQ : (iR (three [25]) CO).2.2 = 0 := by kernel_rfl
theorem iF {l : List Int} (h : l.length ≤ 9) : (three l).Small := ⟨by show ([50, 50, 50] ++ l).length ≤ 12; rw [List.length_append]; simp; omega, by show 3 ≤ 10; decide⟩
end Go.Proofs.YtmmcenjknimhbaaGreat
namespace Go.Proofs.YtmmcenjknimhbaaGreat
open Go Go.T
set_option maxHeartbeats 4000000
attribute [local irreducible] oB mh lP Ar kN kK DH iR xD pY
attribute [local irreducible] fL dg lG nG fZ gA fy fm ff nB gB m6 cw fA m4 ew nM nth eU cm aV cy bodyPost Exit.then Exit.inBlock Code.wp Code.wpIn fI ry rq rY iY sB rZ iV sA e9 gr p8 cT cO bodyPostM dW
set_option maxRecDepth 100000 in
theorem pG (l : List Int) (h : l.length ≤ 9) : cy Tryz.prog 58 [Ty.sl eB l] (eC (three l)) := by
 refine aX Tryz.func58 rfl (by decide) Tryz.ntmps58 (by exact Nat.le_of_ble_eq_true rfl) fun w0 M0 => ?_
 refine aF (aA ?_)
 refine bX rfl (by exact List.cons_ne_nil _ _) rfl ?_
 refine aD (aC (aF (aA ?_)))
 refine m7 (E := eB) (xs := [50, 50, 50]) rfl rfl rfl rfl rfl (by decide) (by decide) (by repeat (first | exact (aT.nil : aT _ _ [] _) | (show aT _ _ ((_, _) :: _) _; apply aT.one; (· exact (rfl : _ = Ty.int _ _)); (· exact rfl)))) (by exact rfl) rfl rfl ?_
 refine eV rfl ?_
 refine dz rfl rfl (by decide) rfl rfl rfl rfl rfl rfl (by decide) (by (simp <;> omega)) (by (simp <;> omega)) ?_
 refine c6 rfl rfl (by exact List.cons_ne_nil _ _) rfl (by repeat (first | exact (aT.nil : aT _ _ [] _) | (show aT _ _ ((_, _) :: _) _; apply aT.one; (· exact (rfl : _ = Ty.int _ _)); (· exact rfl)))) (by exact (rfl : _ = some [_, _, _])) ?_
 refine c6 rfl rfl (by exact List.cons_ne_nil _ _) rfl (by repeat (first | exact (aT.nil : aT _ _ [] _) | (show aT _ _ ((_, _) :: _) _; apply aT.one; (· exact (rfl : _ = Ty.int _ _)); (· exact rfl)))) (by exact (rfl : _ = some [_, _, _])) ?_
 refine c6 rfl rfl (by exact List.cons_ne_nil _ _) rfl (by repeat (first | exact (aT.nil : aT _ _ [] _) | (show aT _ _ ((_, _) :: _) _; apply aT.one; (· exact (rfl : _ = Ty.int _ _)); (· exact rfl)))) (by exact (rfl : _ = some [_, _, _])) ?_
 refine bY (E := gC) (xs := [⟨30, 0, 1⟩, ⟨20, 1, 0⟩, ⟨40, 2, 2⟩]) rfl rfl rfl rfl rfl (by decide) (by decide) (by repeat (first | exact (aT.nil : aT _ _ [] _) | (show aT _ _ ((_, _) :: _) _; apply aT.agg; (· exact (rfl : _ = Ty.agg _))))) (by exact rfl) rfl ?_
 refine c6 rfl rfl (by exact List.cons_ne_nil _ _) rfl (by repeat (first | exact (aT.nil : aT _ _ [] _) | (show aT _ _ ((_, _) :: _) _; apply aT.one; (· first | exact (rfl : _ = Ty.sl _ _) | exact (rfl : _ = Ty.row _ _ _ _)); (· exact rfl)))) (by exact (rfl : _ = some [_, _])) ?_
 refine bW rfl rfl (by decide) rfl rfl rfl rfl rfl rfl ?_
 refine aD (aC (au ?_))
 refine xk rfl rfl rfl rfl (by decide) rfl rfl rfl ?_
 exact OJ ⟨j7 (by decide) rfl, bD rfl rfl rfl, trivial⟩
set_option maxRecDepth 100000 in
theorem ON : cy Tryz.prog 22 [] (Ty.bool true) := by
 refine aX Tryz.func22 rfl (by decide) Tryz.ntmps22 (by exact Nat.le_of_ble_eq_true rfl) fun w0 M0 => ?_
 refine aF (aA (dJ rfl (aD (aC (aF (aA ?_))))))
 refine bY (E := eB) (xs := [_]) rfl rfl rfl rfl rfl (by decide) (by decide) (by repeat (first | exact (aT.nil : aT _ _ [] _) | (show aT _ _ ((_, _) :: _) _; apply aT.one; (· exact (rfl : _ = Ty.int _ _)); (· exact rfl)))) (by exact rfl) rfl ?_
 refine aq (pG [50] (by decide)) rfl rfl rfl rfl rfl ?_
 refine aq (Dk (three [50]) (iF (by decide))) rfl rfl rfl rfl rfl ?_
 refine uq rfl (bF rfl rfl (bF rfl rfl (b8 rfl (b8 rfl (aD (aC (aF (aA ?_))))))))
 refine bY (E := eB) (xs := [_]) rfl rfl rfl rfl rfl (by decide) (by decide) (by repeat (first | exact (aT.nil : aT _ _ [] _) | (show aT _ _ ((_, _) :: _) _; apply aT.one; (· exact (rfl : _ = Ty.int _ _)); (· exact rfl)))) (by exact rfl) rfl ?_
 refine aq (pG [50] (by decide)) rfl rfl rfl rfl rfl ?_
 refine aq (Fy (three [50]) (iF (by decide))) rfl rfl rfl rfl rfl ?_
 refine uq rfl (bF rfl rfl (bF rfl rfl (bF rfl rfl (xO rfl (b8 rfl (b8 rfl (aD (aC (aF (aA ?_))))))))))
 refine bY (E := eB) (xs := [_]) rfl rfl rfl rfl rfl (by decide) (by decide) (by repeat (first | exact (aT.nil : aT _ _ [] _) | (show aT _ _ ((_, _) :: _) _; apply aT.one; (· exact (rfl : _ = Ty.int _ _)); (· exact rfl)))) (by exact rfl) rfl ?_
 refine aq (pG [15] (by decide)) rfl rfl rfl rfl rfl ?_
 refine aq (Dk (three [15]) (iF (by decide))) rfl rfl rfl rfl rfl ?_
 refine uq rfl (bF rfl rfl (bF rfl rfl (b8 rfl (b8 rfl (aD (aC (aF (aA ?_))))))))
 refine bY (E := eB) (xs := [_]) rfl rfl rfl rfl rfl (by decide) (by decide) (by repeat (first | exact (aT.nil : aT _ _ [] _) | (show aT _ _ ((_, _) :: _) _; apply aT.one; (· exact (rfl : _ = Ty.int _ _)); (· exact rfl)))) (by exact rfl) rfl ?_
 refine aq (pG [15] (by decide)) rfl rfl rfl rfl rfl ?_
 refine aq (LC (three [15]) (iF (by decide))) rfl rfl rfl rfl rfl ?_
 refine uq rfl (bF rfl rfl (bF rfl rfl (b8 rfl (b8 rfl (aD (aC (aF (aA ?_))))))))
 refine bY (E := eB) (xs := [_]) rfl rfl rfl rfl rfl (by decide) (by decide) (by repeat (first | exact (aT.nil : aT _ _ [] _) | (show aT _ _ ((_, _) :: _) _; apply aT.one; (· exact (rfl : _ = Ty.int _ _)); (· exact rfl)))) (by exact rfl) rfl ?_
 refine aq (pG [50] (by decide)) rfl rfl rfl rfl rfl ?_
 refine bY (E := eB) (xs := [_, _]) rfl rfl rfl rfl rfl (by decide) (by decide) (by repeat (first | exact (aT.nil : aT _ _ [] _) | (show aT _ _ ((_, _) :: _) _; apply aT.one; (· exact (rfl : _ = Ty.int _ _)); (· exact rfl)))) (by exact rfl) rfl ?_
 refine bY (E := AF) (xs := [[1, 0]]) rfl rfl rfl rfl rfl (by decide) (by decide) (by repeat (first | exact (aT.nil : aT _ _ [] _) | (show aT _ _ ((_, _) :: _) _; apply aT.one; (· exact (rfl : _ = Ty.sl _ _)); (· exact rfl)))) (by exact rfl) rfl ?_
 refine aq (Nb (three [50]) (iF (by decide)) [[1, 0]] (by decide) (by decide)) rfl rfl rfl rfl rfl ?_
 refine uq rfl (bF rfl rfl (bF rfl rfl (b8 rfl (b8 rfl (aD (aC (aF (aA ?_))))))))
 refine bY (E := eB) (xs := [_, _]) rfl rfl rfl rfl rfl (by decide) (by decide) (by repeat (first | exact (aT.nil : aT _ _ [] _) | (show aT _ _ ((_, _) :: _) _; apply aT.one; (· exact (rfl : _ = Ty.int _ _)); (· exact rfl)))) (by exact rfl) rfl ?_
 refine aq (pG [50, 50] (by decide)) rfl rfl rfl rfl rfl ?_
 refine aq (OK (three [50, 50]) (iF (by decide)) 2) rfl rfl rfl rfl rfl ?_
 refine uq rfl (bF rfl rfl (bF rfl rfl (b8 rfl (b8 rfl (aD (aC (aF (aA ?_))))))))
 refine bY (E := eB) (xs := [_]) rfl rfl rfl rfl rfl (by decide) (by decide) (by repeat (first | exact (aT.nil : aT _ _ [] _) | (show aT _ _ ((_, _) :: _) _; apply aT.one; (· exact (rfl : _ = Ty.int _ _)); (· exact rfl)))) (by exact rfl) rfl ?_
 refine aq (pG [25] (by decide)) rfl rfl rfl rfl rfl ?_
 refine c6 rfl rfl (by exact List.cons_ne_nil _ _) rfl (by repeat (first | exact (aT.nil : aT _ _ [] _) | (show aT _ _ ((_, _) :: _) _; apply aT.one; (· exact (rfl : _ = Ty.int _ _)); (· exact rfl)))) (by exact (rfl : _ = some [_, _])) ?_
 refine c6 rfl rfl (by exact List.cons_ne_nil _ _) rfl (by repeat (first | exact (aT.nil : aT _ _ [] _) | (show aT _ _ ((_, _) :: _) _; apply aT.one; (· exact (rfl : _ = Ty.int _ _)); (· exact rfl)))) (by exact (rfl : _ = some [_, _])) ?_
 refine c6 rfl rfl (by exact List.cons_ne_nil _ _) rfl (by repeat (first | exact (aT.nil : aT _ _ [] _) | (show aT _ _ ((_, _) :: _) _; apply aT.one; (· exact (rfl : _ = Ty.int _ _)); (· exact rfl)))) (by exact (rfl : _ = some [_, _])) ?_
 refine bY (E := cv) (xs := CO) rfl rfl rfl rfl rfl (by decide) (by decide) (by repeat (first | exact (aT.nil : aT _ _ [] _) | (show aT _ _ ((_, _) :: _) _; apply aT.agg; (· exact (rfl : _ = Ty.agg _))))) (by exact rfl) rfl ?_
 refine aq (OM (three [25]) (iF (by decide)) CO (by decide)) rfl rfl rfl rfl rfl ?_
 refine uq rfl (bF rfl rfl (bF rfl rfl (dJ rfl (b8 rfl (aD (aC (aF ?_)))))))
 refine iX (s := 1) rfl (Ty.bg SF) ?_
 refine iX (s := 2) rfl (Ty.bg R8) ?_
 refine iX (s := 4) rfl (Ty.bg SH) ?_
 refine iX (s := 5) rfl (Ty.bg SO) ?_
 refine iX (s := 7) rfl (Ty.bg R4) ?_
 refine iX (s := 8) rfl (Ty.bg SM) ?_
 refine iX (s := 9) rfl (Ty.bg v7) ?_
 refine iX (s := 10) rfl (Ty.bg (congrArg Prod.fst Rg)) ?_
 refine iX (s := 11) rfl (Ty.bg (congrArg Prod.snd Rg)) ?_
 refine iX (s := 12) rfl (Ty.bg SL) ?_
 refine iX (s := 13) rfl (Ty.bg SA) ?_
 refine iX (s := 14) rfl (Ty.Mp RX) ?_
 refine iX (s := 15) rfl (Ty.bg RQ) ?_
 refine dH (B := live [(1, Ty.int .i64 3), (2, Ty.int .i64 0), (4, Ty.int .i64 70), (5, Ty.int .i64 0), (7, Ty.int .i64 7), (8, Ty.int .i64 1), (9, Ty.int .i64 0), (10, Ty.int .i64 3), (11, Ty.int .i64 0), (12, Ty.int .i64 2), (13, Ty.int .i64 0), (14, Ty.bool true), (15, Ty.int .i64 0)] []) ?_ ?_
 ·(refine cr.mk' ?_ ?_ <;> (repeat' (first | exact aH | exact aI | refine aB ?_ (Ty.aS _) | refine aB ?_ (Ty.aG _))))
 refine aA (bP rfl (av rfl rfl rfl (gw rfl ?_)))
 apply aM (s := 67) rfl rfl rfl
 ·intro hg; apply aO; (refine bP rfl ?_); refine aD ?_; exact rfl
 ·exact rfl
 ·exact rfl
 apply aM (s := 67) rfl rfl rfl
 ·intro hg; apply aJ (s := 68) rfl (by exact hg); apply aO; (refine av rfl rfl rfl ?_); refine aD ?_; exact rfl
 ·exact rfl
 ·exact rfl
 refine fu rfl rfl (gw rfl ?_)
 apply aM (s := 71) rfl rfl rfl
 ·intro hg; apply aO; (refine bP rfl ?_); refine aD ?_; exact rfl
 ·exact rfl
 ·exact rfl
 apply aM (s := 71) rfl rfl rfl
 ·intro hg; apply aJ (s := 72) rfl (by exact hg); apply aO; (refine av rfl rfl rfl ?_); refine aD ?_; exact rfl
 ·exact rfl
 ·exact rfl
 refine fu rfl rfl (gw rfl ?_)
 apply aM (s := 75) rfl rfl rfl
 ·intro hg; apply aO; (refine bP rfl ?_); refine aD ?_; exact rfl
 ·exact rfl
 ·exact rfl
 apply aM (s := 75) rfl rfl rfl
 ·intro hg; apply aJ (s := 76) rfl (by exact hg); apply aO; (refine av rfl rfl rfl ?_); refine aD ?_; exact rfl
 ·exact rfl
 ·exact rfl
 refine fu rfl rfl (gw rfl ?_)
 apply aM (s := 79) rfl rfl rfl
 ·intro hg; apply aO; (refine bP rfl ?_); refine aD ?_; exact rfl
 ·exact rfl
 ·exact rfl
 apply aM (s := 79) rfl rfl rfl
 ·intro hg; apply aJ (s := 80) rfl (by exact hg); apply aO; (refine av rfl rfl rfl ?_); refine aD ?_; exact rfl
 ·exact rfl
 ·exact rfl
 refine fu rfl rfl (gw rfl ?_)
 apply aM (s := 83) rfl rfl rfl
 ·intro hg; apply aO; (refine bP rfl ?_); refine aD ?_; exact rfl
 ·exact rfl
 ·exact rfl
 apply aM (s := 83) rfl rfl rfl
 ·intro hg; apply aJ (s := 84) rfl (by exact hg); apply aO; (refine av rfl rfl rfl ?_); refine aD ?_; exact rfl
 ·exact rfl
 ·exact rfl
 refine fu rfl rfl (gw rfl ?_)
 apply aM (s := 87) rfl rfl rfl
 ·intro hg; apply aO; (refine bP rfl ?_); refine aD ?_; exact rfl
 ·exact rfl
 ·exact rfl
 apply aM (s := 87) rfl rfl rfl
 ·intro hg; apply aJ (s := 88) rfl (by exact hg); apply aO; (refine av rfl rfl rfl ?_); refine aD ?_; exact rfl
 ·exact rfl
 ·exact rfl
 refine fu rfl rfl (gw rfl ?_)
 apply aM (s := 91) rfl rfl rfl
 ·intro hg; apply aO; (refine bP rfl ?_); refine aD ?_; exact rfl
 ·exact rfl
 ·exact rfl
 apply aM (s := 91) rfl rfl rfl
 ·intro hg; apply aJ (s := 92) rfl (by exact hg); apply aO; (refine av rfl rfl rfl ?_); refine aD ?_; exact rfl
 ·exact rfl
 ·exact rfl
 refine fu rfl rfl (gw rfl ?_)
 apply aM (s := 95) rfl rfl rfl
 ·intro hg; apply aO; (refine bP rfl ?_); refine aD ?_; exact rfl
 ·exact rfl
 ·exact rfl
 apply aM (s := 95) rfl rfl rfl
 ·intro hg; apply aJ (s := 96) rfl (by exact hg); apply aO; (refine av rfl rfl rfl ?_); refine aD ?_; exact rfl
 ·exact rfl
 ·exact rfl
 refine fu rfl rfl (gw rfl ?_)
 apply aM (s := 99) rfl rfl rfl
 ·intro hg; apply aO; (refine bP rfl ?_); refine aD ?_; exact rfl
 ·exact rfl
 ·exact rfl
 apply aM (s := 99) rfl rfl rfl
 ·intro hg; apply aJ (s := 100) rfl (by exact hg); apply aO; (refine av rfl rfl rfl ?_); refine aD ?_; exact rfl
 ·exact rfl
 ·exact rfl
 refine fu rfl rfl (gw rfl ?_)
 apply aM (s := 103) rfl rfl rfl
 ·intro hg; apply aO; (refine bP rfl ?_); refine aD ?_; exact rfl
 ·exact rfl
 ·exact rfl
 apply aM (s := 103) rfl rfl rfl
 ·intro hg; apply aJ (s := 104) rfl (by exact hg); apply aO; (refine av rfl rfl rfl ?_); refine aD ?_; exact rfl
 ·exact rfl
 ·exact rfl
 refine fu rfl rfl (gw rfl ?_)
 apply aM (s := 107) rfl rfl rfl
 ·intro hg; apply aO; (refine bP rfl ?_); refine aD ?_; exact rfl
 ·exact rfl
 ·exact rfl
 apply aM (s := 107) rfl rfl rfl
 ·intro hg; apply aJ (s := 108) rfl (by exact hg); apply aO; (refine av rfl rfl rfl ?_); refine aD ?_; exact rfl
 ·exact rfl
 ·exact rfl
 refine fu rfl rfl (gw rfl ?_)
 apply aM (s := 111) rfl rfl rfl
 ·intro hg; apply aO; (refine gw rfl ?_); refine aD ?_; exact rfl
 ·exact rfl
 ·exact rfl
 refine fu rfl rfl (dJ rfl (aD (aC (au (bT rfl rfl ?_)))))
 all_goals exact bQ rfl rfl
 skip
end Go.Proofs.YtmmcenjknimhbaaGreat
namespace Go.Proofs.YtmmcenjknimhbaaGreat
open Go Go.T
set_option maxHeartbeats 2000000
attribute [local irreducible] fL dg lG nG fZ gA fy fm ff nB gB m6 cw fA m4 ew nM nth eU cm aV cy bodyPost Exit.then Exit.inBlock Code.wp Code.wpIn fI ry rq rY iY sB rZ iV sA e9 gr p8 cT cO bodyPostM dW
set_option maxRecDepth 100000 in
theorem I8 (s : Sk) (h : s.Ok 1) : e9 Tryz.prog 71 [1000] [(1000, Cont.cells 95 (dP s))] [Ty.ptr 1000 0] [(1000, Cont.cells 95 (dP (bN s)))] (Ty.int .i64 (m8 (bN s))) := by
 refine fJ Tryz.func71 rfl (by decide) Tryz.ntmps71 (by exact Nat.le_of_ble_eq_true rfl) fun w0 M0 => ?_
 have h0 : 0 ≤ s.taken ∧ s.taken + 1 ≤ 4611686018427387904 := h
 refine aF (aA (b8 rfl (aD (aC ?_))))
 refine vG (J := live [(0, Ty.ptr 1000 0)] [(1000, Cont.cells 95 (dP (hU s)))]) ?_ ?_
 ·refine aF (aA (uJ rfl (cX rfl ?_)))
  refine aR rfl rfl rfl rfl rfl (by decide) ?_
  refine aU rfl rfl (by decide) rfl rfl rfl ?_
  refine bq rfl rfl rfl (b8 rfl (aD (aC (aF (aA (bP rfl (av rfl rfl rfl (aD (aC ?_)))))))))
  refine aj rfl (fun hc1 => ?_) (fun hc1 => ?_)
  ·have hm := Nx (a := s.taken) (b := s.grain.length) h0.1 (by omega)
   refine cq mixed rfl (uJ rfl (uJ rfl (cX rfl ?_)))
   refine aR rfl rfl rfl rfl rfl (by decide) ?_
   refine aU rfl rfl (by decide) rfl rfl rfl ?_
   refine uJ rfl (cX rfl ?_)
   refine aR rfl rfl rfl rfl rfl (by decide) ?_
   refine aU rfl rfl (by decide) rfl rfl rfl ?_
   refine uJ rfl (cX rfl ?_)
   refine aR rfl rfl rfl rfl rfl (by decide) ?_
   refine aU rfl rfl (by decide) rfl rfl rfl ?_
   refine bP rfl ?_
   refine L3 rfl rfl (by omega) ?_
   refine dX rfl rfl rfl rfl rfl rfl (by omega) (by omega) ?_
   refine aL rfl rfl rfl rfl (CP rfl rfl rfl rfl (av rfl rfl rfl (av rfl rfl rfl (cX rfl ?_))))
   refine aR rfl rfl rfl rfl rfl (by decide) ?_
   refine cj rfl rfl (by decide) rfl rfl (by exact (rfl : _ = Ty.int _ _)) rfl (by exact Nat.le_of_ble_eq_true rfl) rfl rfl (by exact rfl) ?_
   refine aD ?_
   refine ⟨by kernel_rfl, ?_⟩
   refine iy ?_
   (refine cr.mk' ?_ ?_ <;> (repeat' (first | exact aH | exact aI | exact dU | refine aB ?_ (Ty.aS _) | refine aB ?_ (Ty.aG _) | refine aK rfl (Cont.dV ?_) ?_ | refine cQ ?_ ?_)))
   all_goals first | exact Ty.bg (congrArg Sk.mixed (Fu hc1).symm) | exact Ty.bg (lW s).symm | exact Ty.k8 (um s).symm
  refine ak (iy ?_)
  (refine cr.mk' ?_ ?_ <;> (repeat' (first | exact aH | exact aI | exact dU | refine aB ?_ (Ty.aS _) | refine aB ?_ (Ty.aG _) | refine aK rfl (Cont.dV ?_) ?_ | refine cQ ?_ ?_)))
  all_goals first | exact Ty.bg (congrArg Sk.mixed (GL hc1).symm) | exact Ty.bg (lW s).symm | exact Ty.k8 (um s).symm
 refine aF ?_
 have h1 := lW s
 refine aA (uJ rfl (cX rfl ?_))
 refine aR rfl rfl rfl rfl rfl (by decide) ?_
 refine aU rfl rfl (by decide) rfl rfl rfl ?_
 refine cD rfl rfl (by omega) (by omega) ?_
 refine cX rfl ?_
 refine aR rfl rfl rfl rfl rfl (by decide) ?_
 refine cj rfl rfl (by decide) rfl rfl (by exact (rfl : _ = Ty.int _ _)) rfl (by exact Nat.le_of_ble_eq_true rfl) rfl rfl (by exact rfl) ?_
 refine aD (aC ?_)
 refine vG (J := live [(0, Ty.ptr 1000 0)] [(1000, Cont.cells 95 (dP (bN s)))]) ?_ ?_
 ·refine aF (cq mixed rfl (uJ rfl (cX rfl ?_)))
  refine aR rfl rfl rfl rfl rfl (by decide) ?_
  refine aU rfl rfl (by decide) rfl rfl rfl ?_
  refine uJ rfl (cX rfl ?_)
  refine aR rfl rfl rfl rfl rfl (by decide) ?_
  refine aU rfl rfl (by decide) rfl rfl rfl ?_
  refine bq rfl rfl rfl (av rfl rfl rfl (aD ?_))
  refine ⟨by kernel_rfl, ?_⟩
  refine aC ?_
  refine aj rfl (fun hc2 => ?_) (fun hc2 => ?_)
  ·refine aA (uJ rfl (uJ rfl (cX rfl ?_)))
   refine aR rfl rfl rfl rfl rfl (by decide) ?_
   refine aU rfl rfl (by decide) rfl rfl rfl ?_
   refine av rfl rfl rfl (av rfl rfl rfl (cX rfl ?_))
   refine aR rfl rfl rfl rfl rfl (by decide) ?_
   refine cj rfl rfl (by decide) rfl rfl (by exact (rfl : _ = Ty.int _ _)) rfl (by exact Nat.le_of_ble_eq_true rfl) rfl rfl (by exact rfl) ?_
   refine aD (iy ?_)
   (refine cr.mk' ?_ ?_ <;> (repeat' (first | exact aH | exact aI | exact dU | refine aB ?_ (Ty.aS _) | refine aB ?_ (Ty.aG _) | refine aK rfl (Cont.dV ?_) ?_ | refine cQ ?_ ?_)))
   all_goals first | exact Ty.bg (congrArg Sk.mixed (G1 (s := qH (hU s)) hc2).symm) | exact Ty.bg (oY (qH (hU s))).symm | exact Ty.k8 (tu (qH (hU s))).symm
  refine ak (iy ?_)
  (refine cr.mk' ?_ ?_ <;> (repeat' (first | exact aH | exact aI | exact dU | refine aB ?_ (Ty.aS _) | refine aB ?_ (Ty.aG _) | refine aK rfl (Cont.dV ?_) ?_ | refine cQ ?_ ?_)))
  all_goals first | exact Ty.bg (Gu hc2) | exact Ty.bg (oY (qH (hU s))).symm | exact Ty.k8 (tu (qH (hU s))).symm
 refine aF (cq mixed rfl (uJ rfl (cX rfl ?_)))
 refine aR rfl rfl rfl rfl rfl (by decide) ?_
 refine aU rfl rfl (by decide) rfl rfl rfl ?_
 refine uJ rfl (cX rfl ?_)
 refine aR rfl rfl rfl rfl rfl (by decide) ?_
 refine aU rfl rfl (by decide) rfl rfl rfl ?_
 refine Ly rfl rfl (by omega) (by decide) ?_
 refine av rfl rfl rfl ?_
 refine Ly rfl rfl (by omega) (by decide) ?_
 refine av rfl rfl rfl (CP rfl rfl rfl rfl (b8 rfl (aD ?_)))
 refine ⟨by kernel_rfl, ?_⟩
 refine aC (au ?_)
 refine mF [1000] rfl rfl (by decide) (by repeat (first | exact ji | refine kR rfl (bM (by decide) rfl rfl rfl) ?_)) ?_
 all_goals exact qo (c7 rfl rfl)
 all_goals exact qo (QX rfl rfl rfl)
set_option maxRecDepth 100000 in
theorem oS (s : Sk) (h : s.Ok 1) (n : Int) : e9 Tryz.prog 29 [1000] [(1000, Cont.cells 95 (dP s))] [Ty.ptr 1000 0, Ty.int .i64 n] [(1000, Cont.cells 95 (dP (bN s)))] (Ty.int .i64 (gI s n)) := by
 refine fJ Tryz.func29 rfl (by decide) Tryz.ntmps29 (by exact Nat.le_of_ble_eq_true rfl) fun w0 M0 => ?_
 refine aF (aA (b8 rfl (aD (aC (aF (aA (uJ rfl ?_)))))))
 refine eH [(1000, 1000)] [] [(1000, Cont.cells 95 (dP (bN s)))] (I8 s h) rfl rfl (by repeat (first | exact fM | refine eE ?_ ?_ | exact gX List.mem_cons_self)) (eM (a := 1000) (b := 1000) (by exact List.mem_cons_self) rfl (bM (by exact List.mem_cons_self) rfl rfl rfl) pre_nil) (dL (a := 1000) (b := 1000) (by exact List.mem_cons_self) rfl (bM (by exact List.mem_cons_self) rfl rfl rfl) post_nil) (c7 rfl rfl) ?_
 refine bP rfl (Oq rfl rfl ?_)
 refine L3 rfl rfl (by omega) ?_
 refine b8 rfl (aD (aC (au ?_)))
 refine mF [1000] rfl rfl (by decide) (by repeat (first | exact ji | refine kR rfl (bM (by decide) rfl rfl rfl) ?_)) ?_
 all_goals exact qo (c7 rfl rfl)
set_option maxRecDepth 100000 in
theorem Cu (s : Sk) (h : s.Ok 1) (lo hi : Int) (hlo : -1000000 ≤ lo ∧ lo ≤ 1000000) (hhi : -1000000 ≤ hi ∧ hi ≤ 1000000) : e9 Tryz.prog 28 [1000] [(1000, Cont.cells 95 (dP s))] [Ty.ptr 1000 0, Ty.int .i64 lo, Ty.int .i64 hi] [(1000, Cont.cells 95 (dP (bN s)))] (Ty.int .i64 (kM s lo hi)) := by
 refine fJ Tryz.func28 rfl (by decide) Tryz.ntmps28 (by exact Nat.le_of_ble_eq_true rfl) fun w0 M0 => ?_
 have hb := gD s (hi - lo + 1)
 refine aF (aA (b8 rfl (aD (aC (aF (aA (bP rfl (uJ rfl (bP rfl (bP rfl ?_))))))))))
 refine jo rfl rfl (by omega) (by omega) ?_
 refine cD rfl rfl (by omega) (by omega) ?_
 refine eH [(1000, 1000)] [] [(1000, Cont.cells 95 (dP (bN s)))] (oS s h _) rfl rfl (by repeat (first | exact fM | refine eE ?_ ?_ | exact gX List.mem_cons_self | exact c7 rfl rfl)) (eM (a := 1000) (b := 1000) (by exact List.mem_cons_self) rfl (bM (by exact List.mem_cons_self) rfl rfl rfl) pre_nil) (dL (a := 1000) (b := 1000) (by exact List.mem_cons_self) rfl (bM (by exact List.mem_cons_self) rfl rfl rfl) post_nil) (c7 rfl rfl) ?_
 refine cD rfl rfl (by omega) (by omega) ?_
 refine b8 rfl (aD (aC (au ?_)))
 refine mF [1000] rfl rfl (by decide) (by repeat (first | exact ji | refine kR rfl (bM (by decide) rfl rfl rfl) ?_)) ?_
 all_goals exact qo (c7 rfl rfl)
set_option maxRecDepth 100000 in
theorem P2 (s : Sk) (h : s.Ok 1) (n : Int) : e9 Tryz.prog 30 [1000] [(1000, Cont.cells 95 (dP s))] [Ty.ptr 1000 0, Ty.int .i64 n] [(1000, Cont.cells 95 (dP (bN s)))] (Ty.bool (zM s n)) := by
 refine fJ Tryz.func30 rfl (by decide) Tryz.ntmps30 (by exact Nat.le_of_ble_eq_true rfl) fun w0 M0 => ?_
 refine aF (aA (dJ rfl (aD (aC (aF (aA (uJ rfl (bP rfl ?_))))))))
 refine eH [(1000, 1000)] [] [(1000, Cont.cells 95 (dP (bN s)))] (oS s h n) rfl rfl (by repeat (first | exact fM | refine eE ?_ ?_ | exact gX List.mem_cons_self | exact c7 rfl rfl)) (eM (a := 1000) (b := 1000) (by exact List.mem_cons_self) rfl (bM (by exact List.mem_cons_self) rfl rfl rfl) pre_nil) (dL (a := 1000) (b := 1000) (by exact List.mem_cons_self) rfl (bM (by exact List.mem_cons_self) rfl rfl rfl) post_nil) (c7 rfl rfl) ?_
 refine av rfl rfl rfl (dJ rfl (aD (aC (au ?_))))
 refine mF [1000] rfl rfl (by decide) (by repeat (first | exact ji | refine kR rfl (bM (by decide) rfl rfl rfl) ?_)) ?_
 all_goals exact qo (c7 rfl rfl)
set_option maxRecDepth 100000 in
theorem LW (g : List Int) : e9 Tryz.prog 7 [] [] [Ty.sl U8 g] [(10, Cont.cells 95 (dP (iB g)))] (Ty.ptr 10 0) := by
 refine fJ Tryz.func7 rfl (by decide) Tryz.ntmps7 (by exact Nat.le_of_ble_eq_true rfl) fun w0 M0 => ?_
 refine aF (aA (iT rfl (aD (aC (aF ?_)))))
 skip
 refine aA (eV rfl (eV rfl (bq rfl rfl rfl (CP rfl rfl rfl rfl (av rfl rfl rfl ?_)))))
 refine c6 rfl rfl (by exact List.cons_ne_nil _ _) rfl (by repeat (first | exact (aT.nil : aT _ _ [] _) | (show aT _ _ ((_, _) :: _) _; apply aT.one; (· first | exact (rfl : _ = Ty.int _ _) | exact (rfl : _ = Ty.sl _ _)); (· exact rfl)))) (by exact (rfl : _ = some [_, _, _])) ?_
 refine Je rfl rfl rfl (RZ rfl (aD (aC (au ?_))))
 refine mF [10] rfl rfl (by decide) (by repeat (first | exact ji | refine kR rfl (bM (by decide) rfl rfl rfl) ?_)) ?_
 all_goals skip
 exact qo (gX (by exact List.mem_cons_self))
end Go.Proofs.YtmmcenjknimhbaaGreat
namespace Go.Proofs.YtmmcenjknimhbaaGreat
open Go Go.T Go.RowKit Go.Shelf
def Gw : Ren := ⟨fun n => if n = 21 then 72 else if n = 27 then 134 else if n = 28 then 135 else if n = 35 then 178 else if n = 39 then 220 else n, fun n => if n = 22 then 23 else n, fun n => n⟩
theorem N1 {t : Nat} {D : TypeDesc} (h : Tryz.prog.underlying t = some D) (hd : (match D with | .struct _ => false | .array _ _ => false | _ => true) = true) : ∀ w, (isAgg t).run Tryz.prog w = .ok false w := fun w => by
 cases D <;> simp_all [isAgg, run_underlying h]
set_option maxRecDepth 100000 in
theorem IU : Lays2.n21 Tryz.prog Gw where
 mixed := by kernel_rfl
 f21 := by kernel_rfl
 f27 := by kernel_rfl
 f28 := by kernel_rfl
 f35 := by kernel_rfl
 f39 := by kernel_rfl
 t0 := by kernel_rfl
 a0 := N1 (D := TypeDesc.tuple #[]) (by kernel_rfl) rfl
 z0 := fun w => bz (P := Tryz.prog) (t := 0) rfl w
 v0 := fun w => iw (by kernel_rfl) w
 t3 := by kernel_rfl
 a3 := N1 (D := TypeDesc.int IntKind.i64) (by kernel_rfl) rfl
 z3 := fun w => bz (P := Tryz.prog) (t := 3) rfl w
 v3 := fun w => iw (by kernel_rfl) w
 t4 := by kernel_rfl
 a4 := N1 (D := TypeDesc.bool) (by kernel_rfl) rfl
 z4 := fun w => bz (P := Tryz.prog) (t := 4) rfl w
 v4 := fun w => iw (by kernel_rfl) w
 t22 := by kernel_rfl
 a22 := N1 (D := TypeDesc.slice 3) (by kernel_rfl) rfl
 z22 := fun w => bz (P := Tryz.prog) (t := 23) rfl w
 v22 := fun w => iw (by kernel_rfl) w
 i3 := by kernel_rfl
def zx (l : List Value) (o : Nat) (vs : List Value) : List Value := l.take o ++ vs ++ l.drop (o + vs.length)
theorem LV {l : List Value} {o : Nat} {vs : List Value} (h : o + vs.length ≤ l.length) : (zx l o vs).length = l.length := by
 simp [zx]; omega
theorem Ib {l : List Value} {o : Nat} {v : Value} {vs : List Value} (h : o < l.length) : zx (l.set o v) (o + 1) vs = zx l o (v :: vs) := by
 have e : l.set o v = l.take o ++ v :: l.drop (o + 1) := by rw [List.set_eq_take_append_cons_drop, if_pos h]
 have h1 : (l.take o).length = o := by simp; omega
 unfold zx
 rw [e]
 have t1 : (l.take o ++ v :: l.drop (o + 1)).take (o + 1) = l.take o ++ [v] := by
  rw [List.take_append, h1, show o + 1 - o = 1 by omega, List.take_of_length_le (by omega)]; rfl
 have t2 : (l.take o ++ v :: l.drop (o + 1)).drop (o + 1 + vs.length) = l.drop (o + (v :: vs).length) := by
  rw [List.drop_append, h1, List.drop_eq_nil_of_le (by omega), List.nil_append, show o + 1 + vs.length - o = vs.length + 1 by omega, List.drop_succ_cons, List.drop_drop, List.length_cons]
  congr 1; omega
 rw [t1, t2]; simp
theorem size_put {c d : Array Value} {o : Nat} {vs : List Value} (h : d.toList = zx c.toList o vs) (hb : o + vs.length ≤ c.size) : d.size = c.size := by
 have := congrArg List.length h
 rw [LV (by simpa using hb)] at this
 simpa using this
theorem mA {b T : Nat} : ∀ (vs : List Value) (o : Nat) (w : World) (cs : Array Value), w.heap[b]? = some (.cells cs T (0, 0)) → o + vs.length ≤ cs.size →
    ∃ cs' : Array Value, (w.setCells b o vs).heap[b]? = some (.cells cs' T (0, 0)) ∧ cs'.toList = zx cs.toList o vs ∧ (w.setCells b o vs).heap.size = w.heap.size ∧
      (w.setCells b o vs).os = w.os ∧ (w.setCells b o vs).tape = w.tape ∧ (w.setCells b o vs).output = w.output ∧ ∀ k, k ≠ b → (w.setCells b o vs).heap[k]? = w.heap[k]?
  | [], o, w, cs, h, _ => ⟨cs, h, by simp [zx], rfl, rfl, rfl, rfl, fun _ _ => rfl⟩
  | v :: vs, o, w, cs, h, hl => by
    have hl : o + (vs.length + 1) ≤ cs.size := hl
    have hb : b < w.heap.size := (Array.getElem?_eq_some_iff.1 h).1
    have e := kQ (off := o) h v
    have h1 : (w.setCell ⟨b, o, none⟩ v).heap[b]? = some (.cells (cs.setIfInBounds o v) T (0, 0)) := by rw [e]; simp [hb]
    obtain ⟨cs', g1, g2, g3, g4, g5, g6, g7⟩ := mA vs (o + 1) (w.setCell ⟨b, o, none⟩ v) (cs.setIfInBounds o v) h1 (by simp; omega)
    refine ⟨cs', g1, ?_, g3.trans (by rw [e]; simp), g4.trans (by rw [e]), g5.trans (by rw [e]), g6.trans (by rw [e]), fun k hk => (g7 k hk).trans ?_⟩
    · rw [g2, Array.toList_setIfInBounds, Ib (by simp; omega)]
    · rw [e]; exact Array.getElem?_setIfInBounds_ne (Ne.symm hk)
def Rw (T : Nat) (cs : Array Value) (w : World) (M : ah) (v : Value) : Prop := ∃ b, v = .slice (some ⟨b, 0, none⟩) cs.size cs.size ∧ M b = none ∧ w.heap[b]? = some (.cells cs T (0, 0))
def Oc (T : Nat) (cs : Array Value) : Ty := { den := Rw T cs, mono := fun le _ _ ⟨b, e, h1, h2⟩ => let ⟨h3, h4⟩ := le.oK b (Array.getElem?_eq_some_iff.1 h2).1 h1; ⟨b, e, h3, h4.trans h2⟩ }
def ints (l : List Int) : List Value := l.map fun n => .int .i64 n
theorem CI {w : World} {M : ah} : ∀ {xs : List Int} {cs : List Value}, bt w M (xs.flatMap eB.tys) cs → cs = ints xs
  | [], [], _ => rfl
  | x :: xs, c :: cs, ⟨h, h'⟩ => by
    have h : c = .int .i64 x := h
    rw [CI h', h]; rfl
theorem nq {w : World} {M : ah} : ∀ xs : List Int, bt w M (xs.flatMap eB.tys) (ints xs)
  | [] => trivial
  | _ :: xs => ⟨rfl, nq xs⟩
def x9 (w w' : World) (v v' : Value) (l : List Value) : Prop :=
  w'.ownsRow 0 3 1 v' l.length l ∧ w.grownBy w' v.ownBlock ∧ (v'.ownBlock = v.ownBlock ∨ v'.ownBlock = some w.heap.size)
theorem FR (l : List Int) : ∀ v ∈ ints l, v.oneCell' = true := fun v hv => by obtain ⟨n, _, rfl⟩ := List.mem_map.1 hv; rfl
theorem F5 {w : World} {g c : Nat} {cs : Array Value} {l : List Value} (h : w.heap[g]? = some (.cells cs 3 (0, 0))) (hs : cs.size = c) (hl : cs.toList.take l.length = l) (hc : l.length ≤ c) (hm : c ≤ maxLen) : w.ownsRow 0 3 1 (.slice (some ⟨g, 0, none⟩) l.length c) l.length l :=
 ⟨(Nat.mul_one _).symm, .inr ⟨g, c, cs, rfl, Nat.zero_le _, h, hc, hm, by rw [hs, Nat.mul_one], by rw [Nat.mul_one]; exact hl⟩⟩
theorem cell_of {w : World} {b T : Nat} {cs : Array Value} (h : w.heap[b]? = some (.cells cs T (0, 0))) {j : Nat} {v : Value} (hj : cs.toList[j]? = some v) : w.cell? ⟨b, j, none⟩ = some v := by
 simpa [World.cell?, h] using hj
theorem xw {w : World} {b T : Nat} {cs : Array Value} (h : w.heap[b]? = some (.cells cs T (0, 0))) (j : Nat) : w.frozen? ⟨b, j, none⟩ = false := by simp [World.frozen?, h]
theorem FG {w : World} {b T : Nat} {cs : Array Value} (h : w.heap[b]? = some (.cells cs T (0, 0))) : w.shape? b = some (T, cs.size) := by simp [World.shape?, h]
theorem NP {w : World} {v : Value} {l : List Value} {cs : Array Value} {c : Nat} (hs : cs.size = c) (hl : cs.toList.take l.length = l) (hc : l.length ≤ c) (hm : c ≤ maxLen) : x9 w (w.drew.alloc (.cells cs 3)) v (.slice (some ⟨w.heap.size, 0, none⟩) l.length c) l :=
 ⟨F5 (fD w.drew _) hs hl hc hm, ⟨rfl, rfl, rfl, by show w.heap.size ≤ (w.heap.push _).size; simp, fun k hk _ => Below.heap_alloc w.drew _ k hk⟩, .inr rfl⟩
theorem uc (xs : List Int) (i : Nat) (k : Int) : ints (ni xs i k) = (ints xs).take i ++ .int .i64 k :: (ints xs).drop i := by simp [ints, ni]
theorem gm (l : List Int) : (ints l).length = l.length := by simp [ints]
set_option maxRecDepth 100000 in
theorem OQ {w : World} {M : ah} {tg : Nat} {xs : List Int} {v u : Value} {i : Nat} {k : Int} (h1 : 1 ≤ tg) (hrow : ew eB 3 tg xs w M v) (hu : Rw 3 #[.int .i64 k] w M u) (hi : i ≤ xs.length) (hlen : xs.length ≤ 1000000) :
 Calls Tryz.prog 72 #[v, .int .i64 i, u] w fun e w' => ∃ v', e = .returned v' ∧ x9 w w' v v' (ints (ni xs i k)) := by
 obtain ⟨vb, rfl, hM, hvb⟩ := hu
 obtain ⟨cs, ⟨hcl, hown⟩, hd, hg⟩ := hrow
 obtain rfl := CI hd
 have hil := FB hi k
 have hiL : (ints (ni xs i k)).length = xs.length + 1 := by rw [gm, hil]
 have hmax : (1000001 : Nat) ≤ maxLen := by simp [maxLen]
 have hvs : ∀ j x, [Value.int .i64 k][j]? = some x → w.cell? ⟨vb, 0 + j, none⟩ = some x := fun j x hj => by rw [Nat.zero_add]; exact cell_of hvb (by simpa using hj)
 have h1v : ∀ x ∈ [Value.int .i64 k], x.oneCell' = true := fun x hx => by rw [List.mem_singleton.1 hx]; rfl
 have hgrow : ∀ (base : Option Addr) (c : Nat), xs.length ≤ c → c < xs.length + 1 → i = xs.length → (base = none → xs.length = 0) → (∀ a, base = some a → ∀ j x, (ints xs)[j]? = some x → w.cell? (a.add j) = some x) →
  Calls Tryz.prog 72 #[.slice base xs.length c, .int .i64 i, .slice (some ⟨vb, 0, none⟩) 1 1] w fun e w' => ∃ v', e = .returned v' ∧ x9 w w' (.slice base xs.length c) v' (ints (ni xs i k)) := by
  intro base c hnc hroom hin hnil hcs
  subst hin
  refine (Any2.slices_Insert_int_end_grow IU base xs.length c vb 0 1 1 (ints xs) [.int .i64 k] w (by omega) hnc hroom (by omega) (gm xs) rfl hnil hcs hvs h1v).mono fun e w' ⟨he, hw⟩ => ?_
  refine ⟨_, he, ?_⟩
  have hge := grownCap_ge w (xs.length + 1) c (Gw.t 3)
  have hle := grownCap_le_maxLen w (xs.length + 1) c (Gw.t 3) (by omega)
  generalize grownCap w (xs.length + 1) c (Gw.t 3) = C at *
  have hz : ∀ n, (Builtin.zeroCells (Value.int .i64 0).cells n).size = n := fun n => by rw [size_zeroCells]; simp [Value.cells]
  have hsz : ((ints xs ++ [Value.int .i64 k]).toArray ++ Builtin.zeroCells (Value.int .i64 0).cells (C - (xs.length + 1))).size = C := by
   rw [Array.size_append, hz, List.size_toArray, List.length_append, gm, List.length_singleton]; omega
  have l2 := gm xs
  have hnr := NP (w := w) (v := .slice base xs.length c) (l := ints (ni xs xs.length k)) hsz (by rw [hiL, uc, Array.toList_append, List.take_append_of_le_length (by simp [l2]), List.take_of_length_le (by simp [l2]), List.take_of_length_le (l := ints xs) (by omega), List.drop_of_length_le (l := ints xs) (by omega)]) (by omega) hle
  rw [hiL] at hnr
  rw [hw]; exact hnr
 rcases hown with ⟨rfl, hn⟩ | ⟨g, c, cur, rfl, _, hh, hnc, hcm, hsz, htk⟩
 ·have := hgrow none 0 (by omega) (by omega) (by omega) (fun _ => hn) (fun a ha => by cases ha)
  rw [hn] at this; exact this
 have h64 : eB.size = 1 := rfl
 rw [h64, Nat.mul_one] at hsz htk
 have hMg : M g = some tg := hg g rfl
 have hne : vb ≠ g := fun e => by rw [e, hMg] at hM; cases hM
 have hcell : ∀ j x, (ints xs)[j]? = some x → w.cell? ⟨g, 0 + j, none⟩ = some x := fun j x hj => by
  rw [Nat.zero_add]
  refine cell_of hh ?_
  rw [← htk, List.getElem?_take] at hj
  split at hj
  ·exact hj
  cases hj
 by_cases hroom : xs.length + 1 ≤ c
 ·have hspare : ∀ j, j < c → (w.cell? ⟨g, 0 + j, none⟩).isSome = true := fun j hj => by simp [World.cell?, hh, hsz, hj]
  have hdone : ∀ (w' : World) (cur' : Array Value), w'.heap[g]? = some (.cells cur' 3 (0, 0)) → cur'.size = c → cur'.toList.take (xs.length + 1) = ints (ni xs i k) → w.grownBy w' (some g) → x9 w w' (.slice (some ⟨g, 0, none⟩) xs.length c) (.slice (some ⟨g, 0, none⟩) (xs.length + 1) c) (ints (ni xs i k)) := fun w' cur' e1 e2 e3 e4 => by
   rw [← hiL] at e3 ⊢
   exact ⟨F5 e1 e2 e3 (by omega) hcm, e4, .inl rfl⟩
  have hc63 : c ≤ 9223372036854775807 := by simpa [maxLen] using hcm
  by_cases hlt : i < xs.length
  ·refine (Any2.slices_Insert_int_shift IU g 0 xs.length c i vb 0 1 1 (ints xs) [.int .i64 k] w hlt (by omega) hroom hc63 hne (gm xs) rfl hcell (fun j hj => hspare j (by omega)) (fun j _ => xw hh _) hvs (FR xs) h1v 3 3 1 c (FG hvb) (by rw [FG hh, hsz]) (by omega) (xw hvb _) (xw hvb _)).mono fun e w' ⟨he, hw⟩ => ?_
   refine ⟨_, he, ?_⟩
   have hdl : (List.drop i (ints xs)).length = xs.length - i := by rw [List.length_drop, gm]
   obtain ⟨c1, a1, a2, a3, a4, a5, a6, a7⟩ := mA (b := g) (T := 3) ((ints xs).drop i) (0 + (i + 1)) w.drew cur hh (by rw [hdl]; omega)
   have hs1 : c1.size = c := by rw [size_put a2 (by rw [hdl]; omega), hsz]
   obtain ⟨c2, b1, b2, b3, b4, b5, b6, b7⟩ := mA (b := g) (T := 3) [.int .i64 k] (0 + i) (w.drew.setCells g (0 + (i + 1)) ((ints xs).drop i)) c1 a1 (by rw [hs1]; simp; omega)
   rw [hw]
   refine hdone _ c2 b1 (by rw [size_put b2 (by rw [hs1]; simp; omega), hs1]) ?_ ⟨b4.trans a4, b5.trans a5, b6.trans a6, by rw [b3, a3]; exact Nat.le_refl _, fun j hj hne' => ?_⟩
   ·have hcu : cur.toList.length = c := by rw [Array.length_toList, hsz]
    have ht : cur.toList.take i = (ints xs).take i := by rw [← htk, List.take_take, Nat.min_eq_left (by omega)]
    rw [b2, a2, uc]
    unfold zx
    simp only [Nat.zero_add, hdl, List.length_singleton]
    have l1 : (cur.toList.take (i + 1)).length = i + 1 := by rw [List.length_take, hcu]; omega
    have e1 : ((cur.toList.take (i + 1) ++ (ints xs).drop i ++ cur.toList.drop (i + 1 + (xs.length - i)))).take i = (ints xs).take i := by
     rw [List.append_assoc, List.take_append_of_le_length (by omega), List.take_take, Nat.min_eq_left (by omega), ht]
    have e2 : ((cur.toList.take (i + 1) ++ (ints xs).drop i ++ cur.toList.drop (i + 1 + (xs.length - i)))).drop (i + 1) = (ints xs).drop i ++ cur.toList.drop (i + 1 + (xs.length - i)) := by
     rw [List.append_assoc, List.drop_append_of_le_length (by omega), List.drop_of_length_le (by omega), List.nil_append]
    rw [e1, e2]
    have l2 : ((ints xs).take i).length = i := by rw [List.length_take, gm]; omega
    rw [← List.append_assoc, List.take_append_of_le_length (by simp only [List.length_append, l2, hdl, List.length_singleton]; omega), List.take_of_length_le (by simp only [List.length_append, l2, hdl, List.length_singleton]; omega), List.append_assoc]; rfl
   have hj' : j ≠ g := fun e => hne' (by rw [e])
   rw [b7 j hj', a7 j hj']; rfl
  obtain rfl : i = xs.length := by omega
  refine (Any2.slices_Insert_int_end_room IU g 0 xs.length c vb 0 1 1 [.int .i64 k] w (by omega) hroom hc63 rfl (fun j hj => by rw [Nat.add_assoc]; exact hspare _ (by omega)) (fun j _ => xw hh _) hvs h1v).mono fun e w' ⟨he, hw⟩ => ?_
  refine ⟨_, he, ?_⟩
  obtain ⟨c1, a1, a2, a3, a4, a5, a6, a7⟩ := mA (b := g) (T := 3) [.int .i64 k] (0 + xs.length) w cur hh (by simp; omega)
  rw [hw]
  refine hdone _ c1 a1 (by rw [size_put a2 (by simp; omega), hsz]) ?_ ⟨a4, a5, a6, by rw [a3]; exact Nat.le_refl _, fun j hj hne' => a7 j fun e => hne' (by rw [e])⟩
  have l2 : (ints xs).length = xs.length := gm xs
  rw [a2, uc]
  unfold zx
  simp only [Nat.zero_add, List.length_singleton]
  rw [htk, List.take_of_length_le (l := ints xs) (by omega), List.drop_of_length_le (l := ints xs) (by omega), List.take_append_of_le_length (by simp; omega), List.take_of_length_le (by simp; omega)]
 by_cases hlt : i < xs.length
 ·refine (Any2.slices_Insert_int_grow IU g 0 xs.length c i vb 0 1 1 (ints xs) [.int .i64 k] w hlt (by omega) hnc (by omega) (by omega) (gm xs) rfl hcell hvs (FR xs) h1v).mono fun e w' ⟨he, hw⟩ => ?_
  refine ⟨_, he, ?_⟩
  have hge := grownCap_ge w (xs.length + 1) c (Gw.t 3)
  have hle := grownCap_le_maxLen w (xs.length + 1) c (Gw.t 3) (by omega)
  generalize grownCap w (xs.length + 1) c (Gw.t 3) = C at *
  have hz : ∀ n, (Builtin.zeroCells (Value.int .i64 0).cells n).size = n := fun n => by rw [size_zeroCells]; simp [Value.cells]
  have hdl : (List.drop i (ints xs)).length = xs.length - i := by rw [List.length_drop, gm]
  have htl : (List.take i (ints xs)).length = i := by rw [List.length_take, gm]; omega
  obtain ⟨nb, hnb⟩ : ∃ nb, nb = ((ints xs).take i).toArray ++ Builtin.zeroCells (Value.int .i64 0).cells (xs.length + 1 - i) ++ Builtin.zeroCells (Value.int .i64 0).cells (C - (xs.length + 1)) := ⟨_, rfl⟩
  have hns : nb.size = C := by rw [hnb]; simp only [Array.size_append, hz]; simp only [List.size_toArray, htl]; omega
  have hnt : nb.toList.take i = (ints xs).take i := by rw [hnb]; simp only [Array.toList_append, List.append_assoc]; rw [List.take_append_of_le_length (by simp only [htl]; exact Nat.le_refl _), List.take_of_length_le (by simp only [htl]; exact Nat.le_refl _)]
  rw [← hnb] at hw
  have h0 : (w.alloc (.cells nb 3)).drew.heap[w.heap.size]? = some (.cells nb 3 (0, 0)) := fD w _
  obtain ⟨c1, a1, a2, a3, a4, a5, a6, a7⟩ := mA (b := w.heap.size) (T := 3) [.int .i64 k] i (w.alloc (.cells nb 3)).drew nb h0 (by rw [hns]; simp; omega)
  have hs1 : c1.size = C := by rw [size_put a2 (by rw [hns]; simp; omega), hns]
  obtain ⟨c2, b1, b2, b3, b4, b5, b6, b7⟩ := mA (b := w.heap.size) (T := 3) ((ints xs).drop i) (i + 1) ((w.alloc (.cells nb 3)).drew.setCells w.heap.size i [.int .i64 k]).drew c1 a1 (by rw [hs1, hdl]; omega)
  rw [hw, ← hiL]
  rw [← hiL] at hge
  have hal : (w.alloc (.cells nb 3)).drew.heap.size = w.heap.size + 1 := by show (w.heap.push _).size = _; simp
  refine ⟨F5 b1 (by rw [size_put b2 (by rw [hs1, hdl]; omega), hs1]) ?_ hge hle, ⟨b4.trans a4, b5.trans a5, b6.trans a6, ?_, fun j hj _ => ?_⟩, .inr rfl⟩
  ·have hcu : nb.toList.length = C := by rw [Array.length_toList, hns]
   rw [hiL, b2, a2, uc]
   unfold zx
   simp only [hdl, List.length_singleton]
   have l1 : (nb.toList.take i).length = i := by rw [List.length_take, hcu]; omega
   have e1 : ((nb.toList.take i ++ [Value.int .i64 k] ++ nb.toList.drop (i + 1))).take (i + 1) = (ints xs).take i ++ [.int .i64 k] := by
    rw [List.take_append_of_le_length (by simp; omega), List.take_of_length_le (by simp; omega), hnt]
   rw [e1]
   rw [List.take_append_of_le_length (by simp only [List.length_append, htl, hdl, List.length_singleton]; omega), List.take_of_length_le (by simp only [List.length_append, htl, hdl, List.length_singleton]; omega), List.append_assoc]; rfl
  ·exact Nat.le_trans (Nat.le_succ _) (Nat.le_of_eq (b3.trans (a3.trans hal)).symm)
  have hjn : j ≠ w.heap.size := by omega
  exact (b7 j hjn).trans ((a7 j hjn).trans (Below.heap_alloc w _ j hj))
 refine hgrow (some ⟨g, 0, none⟩) c hnc (by omega) (by omega) (fun h => by cases h) (fun a ha j x hj => ?_)
 obtain rfl := Option.some.inj ha
 rw [Addr.add_lit]
 exact hcell j x hj
end Go.Proofs.YtmmcenjknimhbaaGreat
namespace Go.Proofs.YtmmcenjknimhbaaGreat
open Go Go.T Go.RowKit
theorem N0 {w : World} {v : Value} {n m : Nat} {l : List Value} (e : n = m) (h1 : l.length = n * 1) (h2 : (v = .slice none 0 0 ∧ n = 0) ∨ ∃ g cap cur, v = .slice (some ⟨g, 0, none⟩) n cap ∧ 0 ≤ g ∧ w.heap[g]? = some (.cells cur 3 (0, 0)) ∧ n ≤ cap ∧ cap ≤ maxLen ∧ cur.size = cap * 1 ∧ cur.toList.take (n * 1) = l) : w.ownsRow 0 3 1 v m l := e ▸ ⟨h1, h2⟩
section
variable {fr : Fr} {ops : Array Oper} {A : As} {rest : List Oper} {K : As → List (As × Fx) → Prop} {d : Nat} {t ty' : TypeId} {p : String} {e : Array Edge} {x y z : Operand}
theorem FP (vs : Array Value) (w : World) : (callFunc 72 vs).run Tryz.prog w = .ok (.enter 72 vs) w := by
 have hn' : Tryz.f72.name ≠ "runtime.NumGoroutine" := by
  have h : (Tryz.f72.name == "runtime.NumGoroutine") = false := by kernel_rfl
  simpa using h
 have hb' : Tryz.f72.body ≠ none := fun h => by
  have hb : Tryz.f72.body.isNone = false := by kernel_rfl
  rw [h] at hb; cases hb
 simp [callFunc, Tryz.func72, hn', hb']
theorem qA (tg : Nat) {xs : List Int} {i : Nat} {k : Int} {ats : Array TypeId} (hx : (A.op fr x).Sub (.row eB 3 tg xs)) (hy : A.op fr y = .int .i64 (i : Nat)) (hz : A.op fr z = Oc 3 #[.int .i64 k]) (hi : i ≤ xs.length) (hl : xs.length ≤ 1000000) (h1 : 1 ≤ tg) (hp : fr.pass.contains tg = false)
 (h : aV Tryz.prog fr ops rest (A.after { d := some d, ty := .row eB 3 tg (ni xs i k), K := [tg], rs := bR x ++ (bR y ++ bR z) }) fun A' l => K A' ((A, { d := some d, ty := .row eB 3 tg (ni xs i k), K := [tg], rs := bR x ++ (bR y ++ bR z) }) :: l)) :
 aV Tryz.prog fr ops (⟨some d, .call ⟨.value (.func 72), #[x, y, z], ats⟩, t, p, e, none⟩ :: rest) A K := by
 refine ⟨_, ⟨rfl, by simp, by simp, by simp only [List.mem_singleton]; intro u hu; subst hu; exact ⟨h1, by simpa using hp⟩, fun a w M wf _ hrd _ => ?_⟩, h⟩
 rw [if_pos (by simp [Region.wanted])]
 have hdx := bk (x := x) (fun _ h => List.mem_append_left _ h) hrd
 have hdy := bk (x := y) (fun _ h => List.mem_append_right _ (List.mem_append_left _ h)) hrd
 have hdz := bk (x := z) (fun _ h => List.mem_append_right _ (List.mem_append_right _ h)) hrd
 rw [hy] at hdy
 rw [hz] at hdz
 have ey : a.eval y = .int .i64 (i : Nat) := hdy
 have hrow : ew eB 3 tg xs w M (a.eval x) := hx _ _ _ hdx
 have hc := OQ h1 hrow hdz hi hl
 have hrun : (execOp a.eval ⟨some d, .call ⟨.value (.func 72), #[x, y, z], ats⟩, t, p, e, none⟩).run Tryz.prog w = .ok (.enter 72 #[a.eval x, .int .i64 i, a.eval z]) w := by
  rw [← ey]
  simp [execOp, resolve, Act.eval, Deferred.ofValue, invoke, FP]
 refine eZ hrun ?_
 refine hc.mono fun en w' ⟨v', he, hown, hgr, hob⟩ => ?_
 obtain ⟨cs0, _, _, hM⟩ := hrow
 have hb : ∀ b, v'.ownBlock = some b → b < w'.heap.size := by
  intro b hb
  rcases hown.2 with ⟨rfl, _⟩ | ⟨g, cap, cur, rfl, _, hh, _⟩
  ·simp [Value.ownBlock] at hb
  simp [Value.ownBlock] at hb; subst hb; exact (Array.getElem?_eq_some_iff.1 hh).1
 have hle := yA (t := tg) (g := v'.ownBlock) hgr.size hgr.os hgr.tape hgr.output (fun b hb hlt => by
  rcases hob with e | e
  ·exact hM b (e ▸ hb)
  exact absurd hlt (by rw [← Option.some.inj (e.symm.trans hb)]; exact Nat.lt_irrefl _)) (fun b hlt hne => hgr.block b hlt (fun e => hne (hM b e.symm))) wf
 refine ⟨v', he, v', rfl, lF M tg v'.ownBlock, yM wf hgr.size hb, hle, ⟨ints (ni xs i k), ?_, nq _, fun g hg => by simp [lF, hg]⟩, by simp⟩
 exact N0 (gm _) hown.1 hown.2
theorem Is {k : Int} (hx : A.op fr x = .int .i64 k)
 (h : aV Tryz.prog fr ops rest (A.set d (Oc 3 #[.int .i64 k])) fun A' l' => K A' ((A, { d := some d, ty := Oc 3 #[.int .i64 k], rs := bR x }) :: l')) : aV Tryz.prog fr ops (⟨some d, .buildSlice 23 1 #[(0, x)], t, p, e, none⟩ :: rest) A K := by
 refine ⟨_, fH (f := { d := some d, ty := Oc 3 #[.int .i64 k], rs := bR x }) rfl rfl (by simp) (by simp) (by simp) fun a w M wf hr _ => ?_, h⟩
 have hd := bk (x := x) (fun _ h => h) hr
 rw [hx] at hd
 have ex : a.eval x = .int .i64 k := hd
 obtain ⟨h3, h4, h5⟩ := zi wf (.cells #[.int .i64 k] 3)
 refine ⟨.slice (some ⟨w.heap.size, 0, none⟩) 1 1, w.alloc (.cells #[.int .i64 k] 3), ?_, M, h3, h4, ⟨w.heap.size, rfl, h5, fD _ _⟩, by simp⟩
 have hu : Tryz.prog.underlying 23 = some (.slice 3) := by kernel_rfl
 have hz : ∀ w, (zeroValue 3).run Tryz.prog w = .ok (.int .i64 0) w := fun w => iw (by kernel_rfl) w
 have hs : ∀ w, (sizeOf 3).run Tryz.prog w = .ok 1 w := fun w => bz (P := Tryz.prog) (t := 3) rfl w
 simp [execOp, Instr.buildSlice, run_underlying hu, hs, hz, ex, newRow, newObj, Sem.run, Value.cells, Instr.fill, Sem.new, show Array.range 1 = #[0] from rfl]
end
end Go.Proofs.YtmmcenjknimhbaaGreat
namespace Go.Proofs.YtmmcenjknimhbaaGreat
open Go Go.T
set_option maxHeartbeats 2000000
attribute [local irreducible] fL dg lG nG fZ gA fy fm ff nB gB m6 cw fA m4 ew nM nth eU cm aV cy bodyPost Exit.then Exit.inBlock Code.wp Code.wpIn fI ry rq rY iY sB rZ iV sA e9 gr p8 cT cO bodyPostM dW
set_option maxRecDepth 100000 in
theorem JM (s : Sk) (n : Nat) (hn : n ≤ 1000) (h : s.Ok (n + 1)) : e9 Tryz.prog 32 [1000] [(1000, Cont.cells 95 (dP s))] [Ty.ptr 1000 0, Ty.int .i64 (n : Nat)] [(1000, Cont.cells 95 (dP (dx s n).2))] (Ty.sl eB (dx s n).1) := by
 refine fJ Tryz.func32 rfl (by decide) Tryz.ntmps32 (by exact Nat.le_of_ble_eq_true rfl) fun w0 M0 => ?_
 have h0 : 0 ≤ s.taken ∧ s.taken + (n + 1) ≤ 4611686018427387904 := h
 refine aF (aA (iT rfl (aD (aC (aF (aA (iT rfl (aD (aC (aF (aF (aA (bP rfl (bP rfl (aD ?_)))))))))))))))
 refine aC (aY ?_)
 refine cI (fun (k : {k : Nat // k ≤ n}) => live [(0, Ty.ptr 1000 0), (5, Ty.row eB 3 19 (dx s k.1).1), (7, Ty.int .i64 (n : Nat)), (8, Ty.int .i64 (k.1 : Nat))] [(1000, Cont.cells 95 (dP (dx s k.1).2))]) (fun k => n - k.1) (⟨0, by omega⟩) ?_ fun k => ?_
 ·(refine cr.mk' ?_ ?_ <;> (repeat' (first | exact aH | exact aI | refine aB ?_ (Ty.aS _) | refine aB ?_ (Ty.aG _) | refine aB ?_ Ty.iP | refine aK rfl (Cont.aG _) ?_)))
 obtain ⟨hs1, _, _, hs4⟩ := rI s k.1
 have hk2 := k.2
 refine aF (aA (av rfl rfl rfl (aD (aC (aF ?_)))))
 refine aj rfl (fun hc1 => ?_) (fun hc1 => ?_)
 ·refine ak (aC (aF (aY (aF (aA (bP rfl (b8 rfl (aD (aC ?_)))))))))
  have hok : (dx s k.1).2.Ok 1 := ⟨by omega, by omega⟩
  have hb := gD (dx s k.1).2 ((k.1 : Int) + 1)
  refine aA (AO rfl (uJ rfl (bP rfl ?_)))
  refine cD rfl rfl (by omega) (by omega) ?_
  refine eH [(1000, 1000)] [] [(1000, Cont.cells 95 (dP (bN (dx s k.1).2)))] (oS (dx s k.1).2 hok _) rfl rfl (by repeat (first | exact fM | refine eE ?_ ?_ | exact gX List.mem_cons_self | exact c7 rfl rfl)) (eM (a := 1000) (b := 1000) (by exact List.mem_cons_self) rfl (bM (by exact List.mem_cons_self) rfl rfl rfl) pre_nil) (dL (a := 1000) (b := 1000) (by exact List.mem_cons_self) rfl (bM (by exact List.mem_cons_self) rfl rfl rfl) post_nil) (c7 rfl rfl) ?_
  refine bP rfl (Is rfl ?_)
  refine qA 19 (i := (gI (dx s k.1).2 ((k.1 : Int) + 1)).toNat) (k := (k.1 : Nat)) (Ty.aG _) (congrArg (Ty.int .i64) (Int.toNat_of_nonneg hb.1).symm) rfl (by omega) (by omega) (by decide) rfl ?_
  refine uT rfl (aD (bJ (aC (aA ?_))))
  refine cD rfl rfl (by omega) (by omega) ?_
  refine bP rfl (aD ?_)
  refine bS (⟨k.1 + 1, by omega⟩) ?_ (by show n - (k.1 + 1) < n - k.1; omega)
  (refine cr.mk' ?_ ?_ <;> (repeat' (first | exact aH | exact aI | refine aB ?_ (Ty.aS _) | refine aB ?_ (Ty.aG _) | refine aK rfl (Cont.aG _) ?_)))
  all_goals skip
 refine b9 (aN (aN (aZ rfl (aC (aF ?_)))))
 obtain ⟨k, hk⟩ := k
 obtain rfl : k = n := by have h1 : ¬ (k : Int) < (n : Int) := hc1; have h2 : k ≤ n := hk; omega
 refine aA (AO rfl (uT rfl (aD (aC (au ?_)))))
 refine mF [1000] rfl rfl (by decide) (by repeat (first | exact ji | refine kR rfl (bM (by decide) rfl rfl rfl) ?_)) ?_
 all_goals exact Fl (by decide) rfl rfl
 all_goals exact Fl (by decide) rfl rfl
end Go.Proofs.YtmmcenjknimhbaaGreat
namespace Go.Proofs.YtmmcenjknimhbaaGreat
open Go Go.T
set_option maxHeartbeats 4000000
attribute [local irreducible] fL dg lG nG fZ gA fy fm ff nB gB m6 cw fA m4 ew nM nth eU cm aV cy bodyPost Exit.then Exit.inBlock Code.wp Code.wpIn fI ry rq rY iY sB rZ iV sA e9 gr p8 cT cO bodyPostM dW
theorem uQ (s : Sk) (n m : Nat) (e : m = n) (hn : n ≤ 1000) (h : s.Ok (n + 1)) : e9 Tryz.prog 32 [1000] [(1000, Cont.cells 95 (dP s))] [Ty.ptr 1000 0, Ty.int .i64 (m : Nat)] [(1000, Cont.cells 95 (dP (dx s n).2))] (Ty.sl eB (dx s n).1) := by
 subst e; exact JM s m hn h
theorem Gy {d : Md} {s : Sk} {i : Nat} (hi : i < d.n) (h : (!decide (d.jB s i = -1)) = true) : 0 ≤ d.jB s i ∧ (d.jB s i).toNat < d.sizes.length := by
 have h1 := (d.qx s hi).2.1
 have h2 := d.n7.1
 simp only [Bool.not_eq_true', decide_eq_false_iff_not] at h
 omega
theorem LU {d : Md} {s : Sk} {i : Nat} (h : zM (bN s) 4 = true) : -1 = d.jB s i := (if_pos h).symm
theorem Oj {d : Md} {s : Sk} {i : Nat} (h : zM (bN s) 4 = false) : nth d.to.1 i = d.jB s i := (if_neg (by rw [h]; decide)).symm
theorem Df {a b c : Int} (h : (!decide (a = -1) && decide (b < c)) = true) : a ≠ -1 ∧ b < c := by simpa using h
theorem NQ {a b c : Int} (h : (!decide (a = -1) && decide (b < c)) = false) : ¬ (a ≠ -1 ∧ b < c) := fun ⟨h1, h2⟩ => by rw [decide_eq_false h1, decide_eq_true h2] at h; cases h
theorem Jb {d : Md} {s : Sk} {i : Nat} (h : (!decide (d.jB s i = -1) && decide (nth d.sizes (d.jB s i).toNat < d.nC s i)) = true) : nth d.sizes (d.jB s i).toNat = (d.p6 s i).sacks := (if_pos (Df h)).symm
theorem Jr {d : Md} {s : Sk} {i : Nat} (h : (!decide (d.jB s i = -1) && decide (nth d.sizes (d.jB s i).toNat < d.nC s i)) = false) : d.nC s i = (d.p6 s i).sacks := (if_neg (NQ h)).symm
theorem xh (d : Md) : d.up 0 = ([], bN d.s) := rfl
theorem x7 (d : Md) (k : Nat) : d.up (k + 1) = ((d.up k).1 ++ [kM (d.up k).2 20 60], bN (d.up k).2) := rfl
theorem xj (d : Md) : d.lt 0 = ([], d.ks.2) := rfl
theorem lt_succ (d : Md) (k : Nat) : d.lt (k + 1) = ((d.lt k).1 ++ [d.p6 (d.lt k).2 k], bN (bN (d.lt k).2)) := rfl
theorem to_eq (d : Md) : dx (bN (d.up d.n).2) d.n = d.to := rfl
theorem ks_eq (d : Md) : dx d.to.2 d.n = d.ks := rfl
attribute [local irreducible] Md.up Md.to Md.ks Md.lt Md.jB Md.nC dx Md.n Md.many Md.sizes
set_option maxRecDepth 100000 in
theorem QF (d : Md) (hd : d.Ok) (h : d.s.Ok 1000) : e9 Tryz.prog 14 [1000] [(1000, Cont.cells 95 (dP d.s))] [Ty.ptr 1000 0, Ty.int .i64 d.bins, Ty.int .i64 d.lots, Ty.bool false] [(1000, Cont.cells 95 (dP d.sk))] (eC d.EC) := by
 refine fJ Tryz.func14 rfl (by decide) Tryz.ntmps14 (by exact Nat.le_of_ble_eq_true rfl) fun w0 M0 => ?_
 have h0 : 0 ≤ d.s.taken ∧ d.s.taken + 1000 ≤ 4611686018427387904 := h
 have hdb := hd.bins
 have hdl := hd.lots
 have hn := d.GN hd
 have hm := d.Cl hd
 have hsz := d.n7
 have hto := d.yY
 have hks := d.y9
 have hs1 := dG d.s
 have hup : ∀ k, (d.up k).1.length = k ∧ (d.up k).2.taken = d.s.taken + 1 + k := fun k => ⟨by unfold Md.up; exact (oD _ k).1, d.Eu k⟩
 refine aF (aA ?_)
 refine bX rfl (by exact List.cons_ne_nil _ _) rfl ?_
 refine aD (aC (aF (aA ?_)))
 refine bX rfl (by exact List.cons_ne_nil _ _) rfl ?_
 refine aD (aC (aF (aF (aA (uJ rfl (bP rfl ?_))))))
 refine eH [(1000, 1000)] [] [(1000, Cont.cells 95 (dP (bN d.s)))] (Cu d.s ⟨by omega, by omega⟩ 2 d.bins (by omega) (by omega)) rfl rfl (by repeat (first | exact fM | refine eE ?_ ?_ | exact gX List.mem_cons_self | exact c7 rfl rfl)) (eM (a := 1000) (b := 1000) (by exact List.mem_cons_self) rfl (bM (by exact List.mem_cons_self) rfl rfl rfl) pre_nil) (dL (a := 1000) (b := 1000) (by exact List.mem_cons_self) rfl (bM (by exact List.mem_cons_self) rfl rfl rfl) post_nil) (c7 rfl rfl) ?_
 refine bP rfl (aD (aC (aY ?_)))
 refine cI (fun (k : {k : Nat // k ≤ d.n}) => live [(0, Ty.ptr 1000 0), (2, Ty.int .i64 d.lots), (3, Ty.bool false), (8, Ty.ptr 9 0), (9, Ty.ptr 10 0), (18, Ty.int .i64 (d.n : Nat)), (19, Ty.int .i64 (k.1 : Nat))] [(9, Cont.cells 62 [Ty.ex (.slice none 0 0), Ty.ex (.slice none 0 0)]), (10, Cont.cells 62 [Ty.row eB 3 27 (d.up k.1).1, Ty.ex (.slice none 0 0)]), (1000, Cont.cells 95 (dP (d.up k.1).2))]) (fun k => d.n - k.1) (⟨0, by omega⟩) ?_ fun k => ?_
 ·(refine cr.mk' ?_ ?_ <;> (repeat' (first | exact aH | exact aI | exact dU | refine aB ?_ (Ty.aS _) | refine aB ?_ (Ty.aG _) | refine aK rfl (Cont.aG _) ?_ | refine aK rfl (Cont.dV ?_) ?_ | refine cQ ?_ (Ty.aG _) | refine cQ ?_ ?_ | refine aB ?_ ?_)))
  all_goals first | exact Ty.bg hn.2.2.2.symm | exact Ty.bg (congrArg (fun p : List Int × Sk => p.2.mixed) (xh d).symm) | exact Ty.bg (congrArg (fun p : List Int × Sk => p.2.taken) (xh d).symm) | exact Ty.k8 (congrArg (fun p : List Int × Sk => p.2.grain) (xh d).symm) | exact sq (congrArg Prod.fst (xh d).symm)
 have hk := k.2
 have hul := (hup k.1).1
 have hut := (hup k.1).2
 refine aF (aA (av rfl rfl rfl (aD (aC (aF ?_)))))
 refine aj rfl (fun hc1 => ?_) (fun hc1 => ?_)
 ·refine ak (aC (aF (aY (cq mixed rfl ?_))))
  refine aR rfl rfl rfl rfl rfl (by decide) ?_
  refine aU rfl rfl (by decide) rfl rfl rfl ?_
  refine uJ rfl ?_
  refine eH [(1000, 1000)] [] [(1000, Cont.cells 95 (dP (bN (d.up k.1).2)))] (Cu (d.up k.1).2 ⟨by omega, by omega⟩ 20 60 (by omega) (by omega)) rfl rfl (by repeat (first | exact fM | refine eE ?_ ?_ | exact gX List.mem_cons_self | exact c7 rfl rfl)) (eM (a := 1000) (b := 1000) (by exact List.mem_cons_self) rfl (bM (by exact List.mem_cons_self) rfl rfl rfl) pre_nil) (dL (a := 1000) (b := 1000) (by exact List.mem_cons_self) rfl (bM (by exact List.mem_cons_self) rfl rfl rfl) post_nil) (c7 rfl rfl) ?_
  refine bY (E := eB) (xs := [_]) rfl rfl rfl rfl rfl (by decide) (by decide) (by repeat (first | exact (aT.nil : aT _ _ [] _) | (show aT _ _ ((_, _) :: _) _; apply aT.one; (· exact (rfl : _ = Ty.int _ _)); (· exact rfl)))) (by exact rfl) rfl ?_
  refine dz rfl rfl (by decide) rfl rfl rfl rfl rfl rfl (by decide) (by (simp <;> omega)) (by (simp <;> omega)) ?_
  refine aR rfl rfl rfl rfl rfl (by decide) ?_
  refine cj rfl rfl (by decide) rfl rfl (by exact (rfl : _ = Ty.row _ _ _ _)) rfl (by exact Nat.le_of_ble_eq_true rfl) rfl rfl (by exact rfl) ?_
  refine aD ?_
  refine ⟨by kernel_rfl, ?_⟩
  refine bJ (aC (aA ?_))
  refine cD rfl rfl (by omega) (by omega) ?_
  refine bP rfl (aD ?_)
  refine bS (⟨k.1 + 1, by omega⟩) ?_ (by show d.n - (k.1 + 1) < d.n - k.1; omega)
  (refine cr.mk' ?_ ?_ <;> (repeat' (first | exact aH | exact aI | exact dU | refine aB ?_ (Ty.aS _) | refine aB ?_ (Ty.aG _) | refine aK rfl (Cont.aG _) ?_ | refine aK rfl (Cont.dV ?_) ?_ | refine cQ ?_ (Ty.aG _) | refine cQ ?_ ?_)))
  all_goals skip
  all_goals first | exact Ty.gy (congrArg Prod.fst (x7 d _)).symm | exact Ty.bg (congrArg (fun p : List Int × Sk => p.2.mixed) (x7 d _).symm) | exact Ty.bg (congrArg (fun p : List Int × Sk => p.2.taken) (x7 d _).symm) | exact Ty.k8 (congrArg (fun p : List Int × Sk => p.2.grain) (x7 d _).symm)
 refine b9 (aN (aN (aZ rfl (aC (aF ?_)))))
 obtain ⟨k, hk⟩ := k
 obtain rfl : k = d.n := by have h1 : ¬ (k : Int) < (d.n : Int) := hc1; have h2 : k ≤ d.n := hk; omega
 have hun := (hup d.n).1
 have hut := (hup d.n).2
 refine aA (uJ rfl (bP rfl ?_))
 refine aR rfl rfl rfl rfl rfl (by decide) ?_
 refine aU rfl rfl (by decide) rfl rfl rfl ?_
 refine JR rfl rfl rfl (Oo rfl rfl ?_)
 refine cD rfl rfl (by omega) (by omega) ?_
 refine eH [(1000, 1000)] [] [(1000, Cont.cells 95 (dP (bN (d.up d.n).2)))] (oS (d.up d.n).2 ⟨by omega, by omega⟩ _) rfl rfl (by repeat (first | exact fM | refine eE ?_ ?_ | exact gX List.mem_cons_self | exact c7 rfl rfl)) (eM (a := 1000) (b := 1000) (by exact List.mem_cons_self) rfl (bM (by exact List.mem_cons_self) rfl rfl rfl) pre_nil) (dL (a := 1000) (b := 1000) (by exact List.mem_cons_self) rfl (bM (by exact List.mem_cons_self) rfl rfl rfl) post_nil) (c7 rfl rfl) ?_
 refine b8 rfl (aD (aC (aF (aF (aA (gw rfl (aD (aC (dh rfl (rfl) (ak (aC (aF ?_))))))))))))
 have hsn : bN (d.up d.n).2 = bN (d.up d.n).2 := rfl
 have hst := dG (d.up d.n).2
 refine iX (s := 10) rfl (Ty.bg (show gI (d.up d.n).2 (min d.lots ((d.up d.n).1.length : Nat) + 1) = (d.many : Nat) by rw [hun]; exact hm.2.2.symm)) ?_
 refine wz (tg := 10) rfl (Cont.nw (congrArg (fun l => [Ty.row eB 3 27 l, Ty.ex (.slice none 0 0)]) (show (d.up d.n).1 = d.sizes by unfold Md.sizes; rfl))) ?_
 refine u6 (tg := 27) [] [(10, Cont.cells 62 [Ty.sl eB d.sizes, Ty.ex (.slice none 0 0)])] (by decide) rfl trivial ⟨jw rfl rfl ⟨BD, cY rfl, trivial⟩, trivial⟩ ?_
 refine dH (B := live [(0, Ty.ptr 1000 0), (8, Ty.ptr 9 0), (9, Ty.ptr 10 0), (10, Ty.int .i64 (d.many : Nat))] [(9, Cont.cells 62 [Ty.ex (.slice none 0 0), Ty.ex (.slice none 0 0)]), (10, Cont.cells 62 [Ty.sl eB d.sizes, Ty.ex (.slice none 0 0)]), (1000, Cont.cells 95 (dP (bN (d.up d.n).2)))]) ?_ ?_
 ·(refine cr.mk' ?_ ?_ <;> (repeat' (first | exact aH | exact aI | refine aB ?_ (Ty.aS _) | refine aB ?_ (Ty.aG _) | refine aK rfl (Cont.aG _) ?_)))
 refine aA (uJ rfl ?_)
 refine aR rfl rfl rfl rfl rfl (by decide) ?_
 refine aU rfl rfl (by decide) rfl rfl rfl ?_
 refine bq rfl rfl rfl ?_
 refine eH [(1000, 1000)] [] [(1000, Cont.cells 95 (dP d.to.2))] (uQ (bN (d.up d.n).2) d.n d.sizes.length hsz.1 (by omega) ⟨by omega, by omega⟩) rfl rfl (by repeat (first | exact fM | refine eE ?_ ?_ | exact gX List.mem_cons_self | exact c7 rfl rfl)) (eM (a := 1000) (b := 1000) (by exact List.mem_cons_self) rfl (bM (by exact List.mem_cons_self) rfl rfl rfl) pre_nil) (dL (a := 1000) (b := 1000) (by exact List.mem_cons_self) rfl (bM (by exact List.mem_cons_self) rfl rfl (by rw [to_eq])) post_nil) (c7 rfl rfl) ?_
 refine xO rfl (aD (aC (aF (aF ?_))))
 refine iX (s := 12) rfl (Ty.k8 (show (dx (bN (d.up d.n).2) d.n).1 = d.to.1 by rw [to_eq])) ?_
 have hkl : d.many ≤ (dx d.to.2 d.n).1.length := by rw [ks_eq, hks.1]; omega
 refine aA (uJ rfl ?_)
 refine aR rfl rfl rfl rfl rfl (by decide) ?_
 refine aU rfl rfl (by decide) rfl rfl rfl ?_
 refine bq rfl rfl rfl ?_
 refine eH [(1000, 1000)] [] [(1000, Cont.cells 95 (dP d.ks.2))] (uQ d.to.2 d.n d.sizes.length hsz.1 (by omega) ⟨by omega, by omega⟩) rfl rfl (by repeat (first | exact fM | refine eE ?_ ?_ | exact gX List.mem_cons_self | exact c7 rfl rfl)) (eM (a := 1000) (b := 1000) (by exact List.mem_cons_self) rfl (bM (by exact List.mem_cons_self) rfl rfl rfl) pre_nil) (dL (a := 1000) (b := 1000) (by exact List.mem_cons_self) rfl (bM (by exact List.mem_cons_self) rfl rfl (by rw [ks_eq])) post_nil) (c7 rfl rfl) ?_
 refine bP rfl (qF rfl rfl rfl rfl rfl rfl hkl (bq rfl rfl rfl (bP rfl (aD (aC ?_)))))
 refine iX (s := 66) rfl (Ty.k8 (show (dx d.to.2 d.n).1.take d.many = d.ks.1.take d.many by rw [ks_eq])) ?_
 refine iX (s := 67) rfl (Ty.bg (show (((dx d.to.2 d.n).1.take d.many).length : Int) = (d.many : Nat) by rw [ks_eq, List.length_take, hks.1]; omega)) ?_
 refine aY ?_
 refine cI (fun (i : {i : Nat // i ≤ d.many}) => live [(0, Ty.ptr 1000 0), (8, Ty.ptr 9 0), (9, Ty.ptr 10 0), (12, Ty.sl eB d.to.1), (66, Ty.sl eB (d.ks.1.take d.many)), (67, Ty.int .i64 (d.many : Nat)), (68, Ty.int .i64 (i.1 : Nat))] [(9, Cont.cells 62 [Ty.ex (.slice none 0 0), Ty.ex (.slice none 0 0)]), (10, Cont.cells 62 [Ty.sl eB d.sizes, Ty.row gC 67 115 (d.lt i.1).1]), (1000, Cont.cells 95 (dP (d.lt i.1).2))]) (fun i => d.many - i.1) (⟨0, by omega⟩) ?_ fun i => ?_
 ·(refine cr.mk' ?_ ?_ <;> (repeat' (first | exact aH | exact aI | exact dU | refine aB ?_ (Ty.aS _) | refine aB ?_ (Ty.aG _) | refine aK rfl (Cont.aG _) ?_ | refine aK rfl (Cont.dV ?_) ?_ | refine cQ ?_ (Ty.aG _) | refine cQ ?_ ?_)))
  all_goals first | exact Ty.bg (congrArg (fun p : List p4 × Sk => p.2.mixed) (xj d).symm) | exact Ty.bg (congrArg (fun p : List p4 × Sk => p.2.taken) (xj d).symm) | exact Ty.k8 (congrArg (fun p : List p4 × Sk => p.2.grain) (xj d).symm) | exact sq (congrArg Prod.fst (xj d).symm)
 have hi := i.2
 have hll := (d.vX i.1).1
 have hlt := (d.vX i.1).2
 have hkt : (d.ks.1.take d.many).length = d.many := by rw [List.length_take, hks.1]; omega
 refine aF (aA (av rfl rfl rfl (aD (aC (aF ?_)))))
 refine aj rfl (fun hc3 => ?_) (fun hc3 => ?_)
 ·refine ak (aC (aF (aY (aF (aA (bP rfl ?_))))))
  refine bC rfl rfl rfl rfl rfl rfl (by omega) ?_
  refine aL rfl rfl rfl rfl (b8 rfl (b8 rfl (aD (aC (aF ?_)))))
  have hlo := d.qx (d.lt i.1).2 (k := i.1) (by omega)
  have hlk := hlo.1
  have hlz := d.xu hlk
  refine iX (s := 14) rfl (Ty.bg (show nth (d.ks.1.take d.many) i.1 = nth d.ks.1 i.1 by rw [cL (by omega), cL (by rw [hks.1]; omega), List.getElem_take])) ?_
  refine cq mixed rfl (uJ rfl ?_)
  refine aR rfl rfl rfl rfl rfl (by decide) ?_
  refine aU rfl rfl (by decide) rfl rfl rfl ?_
  refine bP rfl ?_
  refine dX rfl rfl rfl rfl rfl rfl hlk.1 (by rw [hsz.1]; omega) ?_
  refine aL rfl rfl rfl rfl ?_
  refine eH [(1000, 1000)] [] [(1000, Cont.cells 95 (dP (bN (d.lt i.1).2)))] (Cu (d.lt i.1).2 ⟨by omega, by omega⟩ 1 (nth d.sizes (nth d.ks.1 i.1).toNat) (by omega) (by omega)) rfl rfl (by repeat (first | exact fM | refine eE ?_ ?_ | exact gX List.mem_cons_self | exact c7 rfl rfl)) (eM (a := 1000) (b := 1000) (by exact List.mem_cons_self) rfl (bM (by exact List.mem_cons_self) rfl rfl rfl) pre_nil) (dL (a := 1000) (b := 1000) (by exact List.mem_cons_self) rfl (bM (by exact List.mem_cons_self) rfl rfl rfl) post_nil) (c7 rfl rfl) ?_
  refine bP rfl (eV rfl (bP rfl ?_))
  refine bC rfl rfl rfl rfl rfl rfl (by rw [hto.1]; omega) ?_
  refine aL rfl rfl rfl rfl ?_
  refine c6 rfl rfl (by exact List.cons_ne_nil _ _) rfl (by repeat (first | exact (aT.nil : aT _ _ [] _) | (show aT _ _ ((_, _) :: _) _; apply aT.one; (· exact (rfl : _ = Ty.int _ _)); (· exact rfl)))) (by exact (rfl : _ = some [_, _, _])) ?_
  refine bX rfl (by exact List.cons_ne_nil _ _) rfl ?_
  refine bW rfl rfl (by decide) rfl rfl rfl rfl rfl rfl ?_
  refine aD ?_
  refine ⟨by kernel_rfl, ?_⟩
  refine aC ?_
  refine vG (J := live [(0, Ty.ptr 1000 0), (8, Ty.ptr 9 0), (9, Ty.ptr 10 0), (12, Ty.sl eB d.to.1), (15, Ty.ptr 16 0), (66, Ty.sl eB (d.ks.1.take d.many)), (67, Ty.int .i64 (d.many : Nat)), (68, Ty.int .i64 (i.1 : Nat))] [(9, Cont.cells 62 [Ty.ex (.slice none 0 0), Ty.ex (.slice none 0 0)]), (10, Cont.cells 62 [Ty.sl eB d.sizes, Ty.row gC 67 115 (d.lt i.1).1]), (16, Cont.cells 67 [Ty.int .i64 (d.nC (d.lt i.1).2 i.1), Ty.int .i64 (nth d.ks.1 i.1), Ty.int .i64 (d.jB (d.lt i.1).2 i.1)]), (1000, Cont.cells 95 (dP (bN (bN (d.lt i.1).2))))]) ?_ ?_
  ·refine aF ?_
   have hst2 := dG (d.lt i.1).2
   refine aA (uJ rfl ?_)
   refine eH [(1000, 1000)] [] [(1000, Cont.cells 95 (dP (bN (bN (d.lt i.1).2))))] (P2 (bN (d.lt i.1).2) ⟨by omega, by omega⟩ 4) rfl rfl (by repeat (first | exact fM | refine eE ?_ ?_ | exact gX List.mem_cons_self | exact c7 rfl rfl)) (eM (a := 1000) (b := 1000) (by exact List.mem_cons_self) rfl (bM (by exact List.mem_cons_self) rfl rfl rfl) pre_nil) (dL (a := 1000) (b := 1000) (by exact List.mem_cons_self) rfl (bM (by exact List.mem_cons_self) rfl rfl rfl) post_nil) (c7 rfl rfl) ?_
   refine aD (aC ?_)
   refine aj rfl (fun hc4 => ?_) (fun hc4 => ?_)
   ·refine aA ?_
    refine aR rfl rfl rfl rfl rfl (by decide) ?_
    refine cj rfl rfl (by decide) rfl rfl (by exact (rfl : _ = Ty.int _ _)) rfl (by exact Nat.le_of_ble_eq_true rfl) rfl rfl (by exact rfl) ?_
    refine aD (iy ?_)
    (refine cr.mk' ?_ ?_ <;> (repeat' (first | exact aH | exact aI | exact dU | refine aB ?_ (Ty.aS _) | refine aB ?_ (Ty.aG _) | refine aK rfl (Cont.aG _) ?_ | refine aK rfl (Cont.dV ?_) ?_ | refine cQ ?_ (Ty.aG _) | refine cQ ?_ ?_)))
    all_goals first | exact Ty.bg (LU (decide_eq_true hc4)) | exact Ty.bg (by unfold Md.nC; rfl)
   refine ak (iy ?_)
   (refine cr.mk' ?_ ?_ <;> (repeat' (first | exact aH | exact aI | exact dU | refine aB ?_ (Ty.aS _) | refine aB ?_ (Ty.aG _) | refine aK rfl (Cont.aG _) ?_ | refine aK rfl (Cont.dV ?_) ?_ | refine cQ ?_ (Ty.aG _) | refine cQ ?_ ?_)))
   all_goals first | exact Ty.bg (Oj (decide_eq_false hc4)) | exact Ty.bg (by unfold Md.nC; rfl)
  refine vG (J := live [(0, Ty.ptr 1000 0), (8, Ty.ptr 9 0), (9, Ty.ptr 10 0), (12, Ty.sl eB d.to.1), (15, Ty.ptr 16 0), (66, Ty.sl eB (d.ks.1.take d.many)), (67, Ty.int .i64 (d.many : Nat)), (68, Ty.int .i64 (i.1 : Nat))] [(9, Cont.cells 62 [Ty.ex (.slice none 0 0), Ty.ex (.slice none 0 0)]), (10, Cont.cells 62 [Ty.sl eB d.sizes, Ty.row gC 67 115 (d.lt i.1).1]), (16, Cont.cells 67 (gC.tys (d.p6 (d.lt i.1).2 i.1))), (1000, Cont.cells 95 (dP (bN (bN (d.lt i.1).2))))]) ?_ ?_
  ·refine aF (cq mixed rfl ?_)
   refine aR rfl rfl rfl rfl rfl (by decide) ?_
   refine aU rfl rfl (by decide) rfl rfl rfl ?_
   refine av rfl rfl rfl (gw rfl ?_)
   apply aM (s := 92) rfl rfl rfl
   ·intro hg; apply aO; (refine aR rfl rfl rfl rfl rfl (by decide) ?_); refine aD ?_; exact rfl
   ·exact rfl
   ·exact rfl
   apply aM (s := 92) rfl rfl rfl
   ·intro hg; apply aJ (s := 93) rfl (by (rw [hg]; rfl)); apply aO; (refine aU rfl rfl (by decide) rfl rfl rfl ?_); refine aD ?_; exact rfl
   ·exact rfl
   ·exact rfl
   apply aM (s := 92) rfl rfl rfl
   ·intro hg; apply aO; (refine aR rfl rfl rfl rfl rfl (by decide) ?_); refine aD ?_; exact rfl
   ·exact rfl
   ·exact rfl
   apply aM (s := 92) rfl rfl rfl
   ·intro hg; apply aJ (s := 95) rfl (by (rw [hg]; rfl)); apply aO; (refine aU rfl rfl (by decide) rfl rfl rfl ?_); refine aD ?_; exact rfl
   ·exact rfl
   ·exact rfl
   apply aM (s := 92) rfl rfl rfl
   ·intro hg; apply aJ (s := 94) rfl (by (rw [hg]; rfl)); apply aJ (s := 96) rfl (by (rw [hg]; rfl)); apply aO; (refine dX rfl rfl rfl rfl rfl rfl (Gy (by omega) hg).1 (Gy (by omega) hg).2 ?_); refine aD ?_; exact rfl
   ·exact rfl
   ·exact rfl
   apply aM (s := 92) rfl rfl rfl
   ·intro hg; apply aJ (s := 97) rfl (by (rw [hg]; rfl)); apply aO; (refine aL rfl rfl rfl rfl ?_); refine aD ?_; exact rfl
   ·exact rfl
   ·exact rfl
   apply aM (s := 92) rfl rfl rfl
   ·intro hg; apply aO; (refine aR rfl rfl rfl rfl rfl (by decide) ?_); refine aD ?_; exact rfl
   ·exact rfl
   ·exact rfl
   apply aM (s := 92) rfl rfl rfl
   ·intro hg; apply aJ (s := 99) rfl (by (rw [hg]; rfl)); apply aO; (refine aU rfl rfl (by decide) rfl rfl rfl ?_); refine aD ?_; exact rfl
   ·exact rfl
   ·exact rfl
   apply aM (s := 92) rfl rfl rfl
   ·intro hg; apply aJ (s := 98) rfl (by (rw [hg]; rfl)); apply aJ (s := 100) rfl (by (rw [hg]; rfl)); apply aO; (refine av rfl rfl rfl ?_); refine aD ?_; exact rfl
   ·exact rfl
   ·exact rfl
   refine fu rfl rfl (aD ?_)
   refine ⟨by kernel_rfl, ?_⟩
   refine aC ?_
   refine c8 rfl (fun hc5 => ?_) (fun hc5 => ?_)
   ·have hai := Gy (i := i.1) (s := (d.lt i.1).2) (by omega) (show (!decide (d.jB (d.lt i.1).2 i.1 = -1)) = true by have := (Df hc5).1; simpa using this)
    refine aA ?_
    refine aR rfl rfl rfl rfl rfl (by decide) ?_
    refine aU rfl rfl (by decide) rfl rfl rfl ?_
    refine aR rfl rfl rfl rfl rfl (by decide) ?_
    refine aU rfl rfl (by decide) rfl rfl rfl ?_
    refine dX rfl rfl rfl rfl rfl rfl hai.1 hai.2 (aL rfl rfl rfl rfl ?_)
    refine aR rfl rfl rfl rfl rfl (by decide) ?_
    refine cj rfl rfl (by decide) rfl rfl (by exact (rfl : _ = Ty.int _ _)) rfl (by exact Nat.le_of_ble_eq_true rfl) rfl rfl (by exact rfl) ?_
    refine aD (iy ?_)
    (refine cr.mk' ?_ ?_ <;> (repeat' (first | exact aH | exact aI | exact dU | refine aB ?_ (Ty.aS _) | refine aB ?_ (Ty.aG _) | refine aK rfl (Cont.aG _) ?_ | refine aK rfl (Cont.dV ?_) ?_ | refine cQ ?_ (Ty.aG _) | refine cQ ?_ ?_)))
    all_goals exact Ty.bg (Jb hc5)
   refine ak (iy ?_)
   (refine cr.mk' ?_ ?_ <;> (repeat' (first | exact aH | exact aI | exact dU | refine aB ?_ (Ty.aS _) | refine aB ?_ (Ty.aG _) | refine aK rfl (Cont.aG _) ?_ | refine aK rfl (Cont.dV ?_) ?_ | refine cQ ?_ (Ty.aG _) | refine cQ ?_ ?_)))
   all_goals exact Ty.bg (Jr hc5)
  refine aA ?_
  refine aR rfl rfl rfl rfl rfl (by decide) ?_
  refine aU rfl rfl (by decide) rfl rfl rfl ?_
  refine bI rfl rfl (by decide) rfl rfl (by exact Nat.le_of_ble_eq_true rfl) ?_
  refine bY (E := gC) (xs := [d.p6 (d.lt i.1).2 i.1]) rfl rfl rfl rfl rfl (by decide) (by decide) (by repeat (first | exact (aT.nil : aT _ _ [] _) | (show aT _ _ ((_, _) :: _) _; apply aT.agg; (· exact (rfl : _ = Ty.agg _))))) (by exact rfl) rfl ?_
  refine dz rfl rfl (by decide) rfl rfl rfl rfl rfl rfl (by decide) (by (simp <;> omega)) (by (simp <;> omega)) ?_
  refine aR rfl rfl rfl rfl rfl (by decide) ?_
  refine cj rfl rfl (by decide) rfl rfl (by exact (rfl : _ = Ty.row _ _ _ _)) rfl (by exact Nat.le_of_ble_eq_true rfl) rfl rfl (by exact rfl) ?_
  refine aD (bJ (aC (aA ?_)))
  refine cD rfl rfl (by omega) (by omega) ?_
  refine bP rfl (aD ?_)
  refine bS (⟨i.1 + 1, by omega⟩) ?_ (by show d.many - (i.1 + 1) < d.many - i.1; omega)
  (refine cr.mk' ?_ ?_ <;> (repeat' (first | exact aH | exact aI | exact dU | refine aB ?_ (Ty.aS _) | refine aB ?_ (Ty.aG _) | refine aK rfl (Cont.aG _) ?_ | refine aK rfl (Cont.dV ?_) ?_ | refine cQ ?_ (Ty.aG _) | refine cQ ?_ ?_)))
  all_goals skip
  all_goals first | exact Ty.gy (congrArg Prod.fst (lt_succ d _)).symm | exact Ty.bg (congrArg (fun p : List p4 × Sk => p.2.mixed) (lt_succ d _).symm) | exact Ty.bg (congrArg (fun p : List p4 × Sk => p.2.taken) (lt_succ d _).symm) | exact Ty.k8 (congrArg (fun p : List p4 × Sk => p.2.grain) (lt_succ d _).symm)
 refine b9 (aN (aN (aZ rfl (aC (aF ?_)))))
 obtain ⟨i, hi⟩ := i
 obtain rfl : i = d.many := by have h1 : ¬ (i : Int) < (d.many : Int) := hc3; have h2 : i ≤ d.many := hi; omega
 refine u6 (tg := 115) [] [(10, Cont.cells 62 [Ty.sl eB d.sizes, Ty.sl gC (d.lt d.many).1])] (by decide) rfl trivial ⟨jw rfl rfl ⟨cY rfl, BD, trivial⟩, trivial⟩ ?_
 refine aA ?_
 refine bI rfl rfl (by decide) rfl rfl (by exact Nat.le_of_ble_eq_true rfl) ?_
 refine bW rfl rfl (by decide) rfl rfl rfl rfl rfl rfl ?_
 refine aD (aC (au ?_))
 refine Nm [1000] rfl rfl rfl rfl (by decide) rfl rfl rfl (by decide) (by repeat (first | exact ji | refine kR rfl (bM (by decide) rfl rfl rfl) ?_)) ?_
 all_goals exact qo (c7 rfl rfl)
 all_goals trace_state
end Go.Proofs.YtmmcenjknimhbaaGreat
namespace Go.T
open Go Go.RowKit
theorem Em {α : Type} {E : El α} {T tg g : Nat} {zs : List α} {L : List Nat} {w w' : World} {M M' : ah} {r : Value} (hg : e8 g) (hE : ∀ x, ∀ t ∈ E.tys x, t.Plain) (wf : Wf w M) (wf' : Wf w' M') (le : Le (fun t => 1 ≤ t) (fun t => 1 ≤ t ∧ t ∉ ([] : List Nat)) w (lM M L) w' M') (hr : (Ty.row E T g zs).den w' M' r) :
    Wf w' (wO w M M' tg g) ∧ Le (· ∈ ([] : List Nat)) (· ∈ [tg]) w M w' (wO w M M' tg g) ∧ (Ty.row E T tg zs).den w' (wO w M M' tg g) r := by
  obtain ⟨u, rfl⟩ : ∃ u, g = u + 1 := ⟨g - 1, by omega⟩
  have old : ∀ b, b < w.heap.size → M' b ≠ some (u + 1) ∧ w'.heap[b]? = w.heap[b]? := fun b hb => by
    cases hm : lM M L b with
    | none =>
      obtain ⟨h, h'⟩ := le.oK b hb hm
      exact ⟨by rw [h]; simp, h'⟩
    | some t =>
      have := jy _ _ hm
      subst this
      obtain ⟨h, h'⟩ := le.own b 0 hm (fun h => absurd h.1 (by decide))
      exact ⟨by rw [h]; simp, h' (by decide)⟩
  refine ⟨⟨fun b t h => ?_, fun b b' t ht1 h h' => ?_⟩, ⟨le.size, le.os, le.tape, le.out, fun b hb hm => ⟨by simp [wO, hb, hm], (old b hb).2⟩, fun b t hm hk => ?_⟩, ?_⟩
  · unfold wO at h
    split at h
    · rename_i hc; exact Nat.lt_of_lt_of_le hc.1 le.size
    · split at h
      · rename_i hm; exact wf'.lt b _ hm
      · cases h
  · unfold wO at h h'
    by_cases hc : b < w.heap.size ∧ M b ≠ some tg
    · rw [if_pos hc] at h
      by_cases hc' : b' < w.heap.size ∧ M b' ≠ some tg
      · rw [if_pos hc'] at h'; exact wf.inj b b' t ht1 h h'
      · rw [if_neg hc'] at h'
        split at h'
        · injection h' with h'; rw [← h'] at h; exact absurd h hc.2
        · cases h'
    · rw [if_neg hc] at h
      split at h
      · rename_i hm
        injection h with h
        by_cases hc' : b' < w.heap.size ∧ M b' ≠ some tg
        · rw [if_pos hc', ← h] at h'; exact absurd h' hc'.2
        · rw [if_neg hc'] at h'
          split at h'
          · rename_i hm'; exact wf'.inj b b' u (by omega) hm hm'
          · cases h'
      · cases h
  · simp only [List.mem_singleton] at hk
    have hb := wf.lt b t hm
    refine ⟨?_, fun _ => (old b hb).2⟩
    unfold wO
    rw [if_pos ⟨hb, by rw [hm]; simpa using hk⟩, hm]
  · obtain ⟨cs, h1, h2, h3⟩ := hr
    refine ⟨cs, h1, sy (fun t ht => ?_) h2, fun b hb => ?_⟩
    · obtain ⟨x, _, hx⟩ := List.mem_flatMap.1 ht
      exact hE x t hx
    · have hm := h3 b hb
      unfold wO
      rw [if_neg fun hc => (old b hc.1).1 hm, if_pos hm]
theorem Ty.Kv {s t : Ty} : (Ty.jk [s, t]).Sub (Ty.jk [Ty.any, t]) := fun w M v ⟨cs, e, h⟩ => ⟨cs, e, by
  obtain ⟨cs⟩ := cs
  match cs, h with
  | [_, _], ⟨_, h2, _⟩ => exact ⟨trivial, h2, trivial⟩⟩
theorem JY : Ty.any.Plain := fun _ _ _ _ _ _ => trivial
section
variable {P : Program} {fr : Fr} {ops : Array Oper} {A : As} {rest : List Oper} {K : As → List (As × Fx) → Prop} {d : Nat} {t : TypeId} {p : String} {e : Array Edge}
theorem Mh (L : List Nat) (tg : Nat) {α : Type} {E : El α} {T g : Nat} {zs : List α} {f : FuncId} {args : List Ty} (hF : e9 P f [] [] args [] (.row E T g zs)) {xs : List Operand} {ats : Array TypeId} {ss : List Ty} (hx : jr A fr xs = ss) (hl : r6 L ss args) (hE : ∀ x, ∀ t ∈ E.tys x, t.Plain) (h1 : e8 tg) (hg : e8 g) (hp : fr.pass.contains tg = false)
 (h : aV P fr ops rest (A.after { d := some d, ty := .row E T tg zs, K := [tg], rs := xs.flatMap bR }) fun A' l => K A' ((A, { d := some d, ty := .row E T tg zs, K := [tg], rs := xs.flatMap bR }) :: l)) :
 aV P fr ops (⟨some d, .call ⟨.value (.func f), xs.toArray, ats⟩, t, p, e, none⟩ :: rest) A K := by
 refine ⟨_, ⟨rfl, by simp, by simp, by simp only [List.mem_singleton]; intro u hu; subst hu; exact ⟨h1.1, by simpa using hp⟩, fun a w M wf _ hrd _ => ?_⟩, h⟩
 rw [if_pos (by simp [Region.wanted])]
 have hv : bt w M ss (xs.map a.eval) := hx ▸ dw hrd fun x hx c hc => List.mem_flatMap.2 ⟨x, hx, hc⟩
 have hc := hF.2 w _ _ (xm (L := L) wf) (j4 wf hl hv) (by intro x hx; cases hx)
 have hrun : (execOp a.eval ⟨some d, .call ⟨.value (.func f), xs.toArray, ats⟩, t, p, e, none⟩).run P w = .ok (.enter f (xs.map a.eval).toArray) w := by
  simp [execOp, resolve, Act.eval, Deferred.ofValue, invoke, rz hF]
 refine eZ hrun ?_
 refine hc.mono fun en w' ⟨r, M', he, wf', le, hden, _⟩ => ?_
 obtain ⟨h1', h2', h3'⟩ := Em hg hE wf wf' le hden
 exact ⟨r, he, r, rfl, _, h1', h2', h3', by simp⟩
end
end Go.T
namespace Go.Proofs.YtmmcenjknimhbaaGreat
open Go Go.T
set_option maxHeartbeats 4000000
def ya (b : aW) (k : Nat) : List Int := (b.lots.take k).map fun l => l.inn
theorem EZ (b : aW) {k : Nat} (h : k ≤ b.lots.length) : (ya b k).length = k := by unfold ya; rw [List.length_map, List.length_take]; omega
theorem Jy {b : aW} {k : Nat} (h : k < b.lots.length) : ya b k ++ [(nth b.lots k).inn] = ya b (k + 1) := by
 unfold ya; rw [cE h, List.map_append]; rfl
theorem MI {b : aW} {k : Nat} (h : b.lots.length ≤ k) : ya b k = ze b := by unfold ya ze; rw [List.take_of_length_le h]
theorem P0 {b : aW} {plan : List bu} {k : Nat} (h : b.lots.length ≤ k) : NI b plan 0 (ya b k) := by rw [MI h]; exact RS b plan
theorem DS {b : aW} {p : List Int} {t : bu} (h : (decide (t.cJ < 0) || decide (t.cJ ≥ (p.length : Int)) || decide (t.aim < 0) || decide (t.aim ≥ (b.sizes.length : Int)) || decide (t.aim ∈ p)) = false) : (0 ≤ t.cJ ∧ t.cJ < p.length) ∧ 0 ≤ t.aim ∧ t.aim < b.sizes.length := by
 simp only [Bool.or_eq_false_iff, decide_eq_false_iff_not] at h
 omega
theorem G6 (x : bu) : ∀ t ∈ cv.tys x, t.Plain := og (BK _ _) (og (BK _ _) BL)
attribute [local irreducible] fL dg lG nG fZ gA fy fm ff nB gB m6 cw fA m4 ew nM nth eU cm aV cy bodyPost Exit.then Exit.inBlock Code.wp Code.wpIn fI ry rq rY iY sB rZ iV sA e9 gr p8 cT cO bodyPostM dW
set_option maxRecDepth 100000 in
theorem NL (b : aW) (hs : b.Small) (plan : List bu) (hp : plan.length ≤ 400000000) : cy Tryz.prog 50 [eC b, Ty.sl cv plan] (Ty.jk [Ty.sl eB (jm b plan).1, Ty.bool (jm b plan).2]) := by
 refine aX Tryz.func50 rfl (by decide) Tryz.ntmps50 (by exact Nat.le_of_ble_eq_true rfl) fun w0 M0 => ?_
 have hs1 := hs.lots
 refine aF (aA (az rfl (iT rfl (dJ rfl (aD (aC (aF (aA (iT rfl (aD (aC (aF (aF (aA ?_))))))))))))))
 refine aQ rfl rfl rfl rfl rfl (by decide) ?_
 refine aL rfl rfl rfl rfl (bq rfl rfl rfl (bP rfl (aD (aC (aY ?_)))))
 refine cI (fun (k : {k : Nat // k ≤ b.lots.length}) => live [(1, Ty.sl cv plan), (2, Ty.pp (cH b)), (6, Ty.row eB 3 23 (ya b k.1)), (12, Ty.sl gC b.lots), (13, Ty.int .i64 b.lots.length), (14, Ty.int .i64 (k.1 : Nat))] []) (fun k => b.lots.length - k.1) (⟨0, by omega⟩) ?_ fun k => ?_
 ·(refine cr.mk' ?_ ?_ <;> (repeat' (first | exact aH | exact aI | refine aB ?_ (Ty.aS _) | refine aB ?_ (Ty.aG _) | refine aB ?_ Ty.iP)))
  all_goals trace_state
 have hk := k.2
 have hl := EZ b hk
 refine aF (aA (av rfl rfl rfl (aD (aC (aF ?_)))))
 refine aj rfl (fun hc1 => ?_) (fun hc1 => ?_)
 ·refine ak (aC (aF (aY (aF (aA ?_)))))
  refine bC rfl rfl rfl rfl rfl rfl (by omega) ?_
  refine aa rfl rfl rfl (by exact Nat.le_of_ble_eq_true rfl) ?_
  refine bX rfl (by exact List.cons_ne_nil _ _) rfl ?_
  refine bW rfl rfl (by decide) rfl rfl rfl rfl rfl rfl ?_
  refine aD (aC (aA (AO rfl ?_)))
  refine aR rfl rfl rfl rfl rfl (by decide) ?_
  refine aU rfl rfl (by decide) rfl rfl rfl ?_
  refine bY (E := eB) (xs := [_]) rfl rfl rfl rfl rfl (by decide) (by decide) (by repeat (first | exact (aT.nil : aT _ _ [] _) | (show aT _ _ ((_, _) :: _) _; apply aT.one; (· exact (rfl : _ = Ty.int _ _)); (· exact rfl)))) (by exact rfl) rfl ?_
  refine dz rfl rfl (by decide) rfl rfl rfl rfl rfl rfl (by decide) (by (simp <;> omega)) (by (simp <;> omega)) ?_
  refine uT rfl (aD (bJ (aC (aA ?_))))
  refine cD rfl rfl (by omega) (by omega) ?_
  refine bP rfl (aD ?_)
  refine bS (⟨k.1 + 1, by omega⟩) ?_ (by show b.lots.length - (k.1 + 1) < b.lots.length - k.1; omega)
  (refine cr.mk' ?_ ?_ <;> (repeat' (first | exact aH | exact aI | refine aB ?_ (Ty.aS _) | refine aB ?_ (Ty.aG _) | refine aB ?_ ?_)))
  all_goals skip
  all_goals exact Ty.gy (Jy (by omega))
 refine b9 (aN (aN (aZ rfl (aC (aF (aF ?_))))))
 have hke : k.1 = b.lots.length := by have := k.2; omega
 have hil : (ya b k.1).length = b.lots.length := by rw [EZ b k.2, hke]
 refine LP (s := 6) rfl rfl ?_
 refine aA (eV rfl (bq rfl rfl rfl (bP rfl (aD (aC (aY ?_))))))
 refine cI (fun (x : {x : Nat × List Int // NI b plan x.1 x.2}) => live [(2, Ty.pp (cH b)), (6, Ty.vs 23 x.1.2.length), (24, Ty.sl cv plan), (25, Ty.int .i64 plan.length), (26, Ty.int .i64 (x.1.1 : Nat))] [(23, Cont.vec eB 3 x.1.2)]) (fun x => plan.length - x.1.1) (⟨(0, ya b k.1), P0 (by omega)⟩) ?_ fun x => ?_
 ·(refine cr.mk' ?_ ?_ <;> (repeat' (first | exact aH | exact aI | refine aB ?_ (Ty.aS _) | refine aB ?_ (Ty.aG _) | refine aK rfl (Cont.aG _) ?_)))
 have hxl := x.2.len
 have hxe := x.2.le
 refine aF (aA (av rfl rfl rfl (aD (aC (aF ?_)))))
 refine aj rfl (fun hc2 => ?_) (fun hc2 => ?_)
 ·refine ak (aC (aF (aY (aF (aA ?_)))))
  refine bC rfl rfl rfl rfl rfl rfl (by omega) ?_
  refine aa rfl rfl rfl (by exact Nat.le_of_ble_eq_true rfl) ?_
  refine bX rfl (by exact List.cons_ne_nil _ _) rfl ?_
  refine bW rfl rfl (by decide) rfl rfl rfl rfl rfl rfl ?_
  refine aD (aC (aF (aF (cq mixed rfl ?_))))
  refine aR rfl rfl rfl rfl rfl (by decide) ?_
  refine aU rfl rfl (by decide) rfl rfl rfl ?_
  refine av rfl rfl rfl (gw rfl ?_)
  apply aM (s := 33) rfl rfl rfl
  ·intro hg; apply aO; (refine aR rfl rfl rfl rfl rfl (by decide) ?_); refine aD ?_; exact rfl
  ·exact rfl
  ·exact rfl
  apply aM (s := 33) rfl rfl rfl
  ·intro hg; apply aJ (s := 34) rfl (by (rw [hg]; rfl)); apply aO; (refine aU rfl rfl (by decide) rfl rfl rfl ?_); refine aD ?_; exact rfl
  ·exact rfl
  ·exact rfl
  apply aM (s := 33) rfl rfl rfl
  ·intro hg; apply aO; (refine FZ rfl ?_); refine aD ?_; exact rfl
  ·exact rfl
  ·exact rfl
  apply aM (s := 33) rfl rfl rfl
  ·intro hg; apply aJ (s := 36) rfl (by (rw [hg]; rfl)); apply aO; (refine zC rfl rfl rfl ?_); refine aD ?_; exact rfl
  ·exact rfl
  ·exact rfl
  apply aM (s := 33) rfl rfl rfl
  ·intro hg; apply aJ (s := 35) rfl (by (rw [hg]; rfl)); apply aJ (s := 37) rfl (by (rw [hg]; rfl)); apply aO; (refine av rfl rfl rfl ?_); refine aD ?_; exact rfl
  ·exact rfl
  ·exact rfl
  refine iS rfl rfl (gw rfl ?_)
  apply aM (s := 40) rfl rfl rfl
  ·intro hg; apply aO; (refine aR rfl rfl rfl rfl rfl (by decide) ?_); refine aD ?_; exact rfl
  ·exact rfl
  ·exact rfl
  apply aM (s := 40) rfl rfl rfl
  ·intro hg; apply aJ (s := 41) rfl (by (rw [hg]; rfl)); apply aO; (refine aU rfl rfl (by decide) rfl rfl rfl ?_); refine aD ?_; exact rfl
  ·exact rfl
  ·exact rfl
  apply aM (s := 40) rfl rfl rfl
  ·intro hg; apply aJ (s := 42) rfl (by (rw [hg]; rfl)); apply aO; (refine av rfl rfl rfl ?_); refine aD ?_; exact rfl
  ·exact rfl
  ·exact rfl
  refine iS rfl rfl (gw rfl ?_)
  apply aM (s := 45) rfl rfl rfl
  ·intro hg; apply aO; (refine aR rfl rfl rfl rfl rfl (by decide) ?_); refine aD ?_; exact rfl
  ·exact rfl
  ·exact rfl
  apply aM (s := 45) rfl rfl rfl
  ·intro hg; apply aJ (s := 46) rfl (by (rw [hg]; rfl)); apply aO; (refine aU rfl rfl (by decide) rfl rfl rfl ?_); refine aD ?_; exact rfl
  ·exact rfl
  ·exact rfl
  apply aM (s := 45) rfl rfl rfl
  ·intro hg; apply aO; (refine aQ rfl rfl rfl rfl rfl (by decide) ?_); refine aD ?_; exact rfl
  ·exact rfl
  ·exact rfl
  apply aM (s := 45) rfl rfl rfl
  ·intro hg; apply aJ (s := 48) rfl (by (rw [hg]; rfl)); apply aO; (refine aL rfl rfl rfl rfl ?_); refine aD ?_; exact rfl
  ·exact rfl
  ·exact rfl
  apply aM (s := 45) rfl rfl rfl
  ·intro hg; apply aJ (s := 49) rfl (by (rw [hg]; rfl)); apply aO; (refine bq rfl rfl rfl ?_); refine aD ?_; exact rfl
  ·exact rfl
  ·exact rfl
  apply aM (s := 45) rfl rfl rfl
  ·intro hg; apply aJ (s := 47) rfl (by (rw [hg]; rfl)); apply aJ (s := 50) rfl (by (rw [hg]; rfl)); apply aO; (refine av rfl rfl rfl ?_); refine aD ?_; exact rfl
  ·exact rfl
  ·exact rfl
  refine iS rfl rfl (gw rfl ?_)
  apply aM (s := 53) rfl rfl rfl
  ·intro hg; apply aO; (refine FZ rfl ?_); refine aD ?_; exact rfl
  ·exact rfl
  ·exact rfl
  apply aM (s := 53) rfl rfl rfl
  ·intro hg; apply aO; (refine aR rfl rfl rfl rfl rfl (by decide) ?_); refine aD ?_; exact rfl
  ·exact rfl
  ·exact rfl
  apply aM (s := 53) rfl rfl rfl
  ·intro hg; apply aJ (s := 55) rfl (by (rw [hg]; rfl)); apply aO; (refine aU rfl rfl (by decide) rfl rfl rfl ?_); refine aD ?_; exact rfl
  ·exact rfl
  ·exact rfl
  apply aM (s := 53) rfl rfl rfl
  ·intro hg; apply aJ (s := 54) rfl (by (rw [hg]; rfl)); apply aJ (s := 56) rfl (by (rw [hg]; rfl)); apply aO; (refine K2 [23] (qG x.1.2 (nth plan x.1.1).aim) rfl (by repeat (first | exact GS | refine wP (K6 (nr rfl rfl)) ?_ | refine wP (MU rfl (by exact rfl) (by decide) rfl) ?_)) (by exact yj _) ?_); refine aD ?_; exact rfl
  ·exact rfl
  ·exact rfl
  refine iS rfl rfl (gw rfl ?_)
  apply aM (s := 59) rfl rfl rfl
  ·intro hg; apply aO; (refine aQ rfl rfl rfl rfl rfl (by decide) ?_); refine aD ?_; exact rfl
  ·exact rfl
  ·exact rfl
  apply aM (s := 59) rfl rfl rfl
  ·intro hg; apply aJ (s := 60) rfl (by (rw [hg]; rfl)); apply aO; (refine aL rfl rfl rfl rfl ?_); refine aD ?_; exact rfl
  ·exact rfl
  ·exact rfl
  apply aM (s := 59) rfl rfl rfl
  ·intro hg; apply aO; (refine aR rfl rfl rfl rfl rfl (by decide) ?_); refine aD ?_; exact rfl
  ·exact rfl
  ·exact rfl
  apply aM (s := 59) rfl rfl rfl
  ·intro hg; apply aJ (s := 62) rfl (by (rw [hg]; rfl)); apply aO; (refine aU rfl rfl (by decide) rfl rfl rfl ?_); refine aD ?_; exact rfl
  ·exact rfl
  ·exact rfl
  apply aM (s := 59) rfl rfl rfl
  ·intro hg; apply aJ (s := 61) rfl (by (rw [hg]; rfl)); apply aJ (s := 63) rfl (by (rw [hg]; rfl)); apply aO; (refine dX rfl rfl rfl rfl rfl rfl (DS hg).2.1 (by have := (DS hg).2; omega) ?_); refine aD ?_; exact rfl
  ·exact rfl
  ·exact rfl
  apply aM (s := 59) rfl rfl rfl
  ·intro hg; apply aJ (s := 64) rfl (by (rw [hg]; rfl)); apply aO; (refine aL rfl rfl rfl rfl ?_); refine aD ?_; exact rfl
  ·exact rfl
  ·exact rfl
  apply aM (s := 59) rfl rfl rfl
  ·intro hg; apply aO; (refine aQ rfl rfl rfl rfl rfl (by decide) ?_); refine aD ?_; exact rfl
  ·exact rfl
  ·exact rfl
  apply aM (s := 59) rfl rfl rfl
  ·intro hg; apply aJ (s := 66) rfl (by (rw [hg]; rfl)); apply aO; (refine aL rfl rfl rfl rfl ?_); refine aD ?_; exact rfl
  ·exact rfl
  ·exact rfl
  apply aM (s := 59) rfl rfl rfl
  ·intro hg; apply aO; (refine aR rfl rfl rfl rfl rfl (by decide) ?_); refine aD ?_; exact rfl
  ·exact rfl
  ·exact rfl
  apply aM (s := 59) rfl rfl rfl
  ·intro hg; apply aJ (s := 68) rfl (by (rw [hg]; rfl)); apply aO; (refine aU rfl rfl (by decide) rfl rfl rfl ?_); refine aD ?_; exact rfl
  ·exact rfl
  ·exact rfl
  apply aM (s := 59) rfl rfl rfl
  ·intro hg; apply aJ (s := 67) rfl (by (rw [hg]; rfl)); apply aJ (s := 69) rfl (by (rw [hg]; rfl)); apply aO; (refine dX rfl rfl rfl rfl rfl rfl (DS hg).1.1 (by have := DS hg; omega) ?_); refine aD ?_; exact rfl
  ·exact rfl
  ·exact rfl
  apply aM (s := 59) rfl rfl rfl
  ·intro hg; apply aJ (s := 70) rfl (by (rw [hg]; rfl)); apply aO; (refine aQ rfl rfl rfl rfl rfl (by decide) ?_); refine aD ?_; exact rfl
  ·exact rfl
  ·exact rfl
  apply aM (s := 59) rfl rfl rfl
  ·intro hg; apply aJ (s := 71) rfl (by (rw [hg]; rfl)); apply aO; (refine aL rfl rfl rfl rfl ?_); refine aD ?_; exact rfl
  ·exact rfl
  ·exact rfl
  apply aM (s := 59) rfl rfl rfl
  ·intro hg; apply aJ (s := 65) rfl (by (rw [hg]; rfl)); apply aJ (s := 72) rfl (by (rw [hg]; rfl)); apply aO; (refine av rfl rfl rfl ?_); refine aD ?_; exact rfl
  ·exact rfl
  ·exact rfl
  refine iS rfl rfl (aD ?_)
  refine ⟨by kernel_rfl, ?_⟩
  refine aC ?_
  refine c8 rfl (fun hc3 => ?_) (fun hc3 => ?_)
  ·refine aF (aA (iT rfl (dJ rfl (aD (aC (au (aP (af (aP (aP (af (aP ?_))))))))))))
   refine gG rfl rfl rfl ?_ ?_
   all_goals skip
   all_goals first | exact eS (congrArg Prod.fst (x.2.stop (by omega) hc3)) | exact bD rfl rfl (congrArg (fun z : List Int × Bool => Ty.bool z.2) (x.2.stop (by omega) hc3).symm)
  refine ak (aC ?_)
  have hno := CF.1 (show Nt b x.1.2 (nth plan x.1.1) = false from hc3)
  refine aA (FZ rfl ?_)
  refine aR rfl rfl rfl rfl rfl (by decide) ?_
  refine aU rfl rfl (by decide) rfl rfl rfl ?_
  refine aR rfl rfl rfl rfl rfl (by decide) ?_
  refine aU rfl rfl (by decide) rfl rfl rfl ?_
  refine gS rfl rfl rfl rfl rfl (by omega) (by omega) ?_
  refine o8 rfl rfl rfl (by decide) rfl rfl (by exact (rfl : _ = Ty.int _ _)) rfl (by omega) (by decide) rfl rfl ?_
  refine aD (bJ (aC (aA ?_)))
  refine cD rfl rfl (by omega) (by omega) ?_
  refine bP rfl (aD ?_)
  refine bS (⟨(x.1.1 + 1, x.1.2.set (nth plan x.1.1).cJ.toNat (nth plan x.1.1).aim), x.2.next (by omega) hc3⟩) ?_ (by show plan.length - (x.1.1 + 1) < plan.length - x.1.1; omega)
  (refine cr.mk' ?_ ?_ <;> (repeat' (first | exact aH | exact aI | refine aB ?_ (Ty.aS _) | refine aB ?_ (Ty.aG _) | refine aK rfl (Cont.aG _) ?_ | refine aB ?_ ?_)))
  all_goals skip
  all_goals exact Ty.sub_eq (congrArg (Ty.vs 23) List.length_set.symm)
 refine b9 (aN (aN (aZ rfl (aC (aF ?_)))))
 refine mC (tg := 23) [(6, Ty.sl eB x.1.2)] (by decide) rfl ⟨DK rfl rfl rfl (by decide), trivial⟩ ?_
 refine aA (eV rfl (xO rfl (dJ rfl (aD (aC (au ?_))))))
 refine gG rfl rfl rfl ?_ ?_
 all_goals skip
 all_goals first | exact bD rfl rfl (congrArg (fun z : List Int × Bool => Ty.sl eB z.1) (x.2.end (by omega)).symm) | exact bD rfl rfl (congrArg (fun z : List Int × Bool => Ty.bool z.2) (x.2.end (by omega)).symm)
theorem Lw (b : aW) (hs : b.Small) (plan : List bu) (hp : plan.length ≤ 400000000) : cy Tryz.prog 50 [eC b, Ty.sl cv plan] (Ty.jk [Ty.any, Ty.bool (jm b plan).2]) :=
 (NL b hs plan hp).mono Ty.Kv
set_option maxRecDepth 100000 in
theorem Pm (b : aW) (hs : b.Small) (s : Sk) (most : Int) (hm : 0 ≤ most ∧ most ≤ 900) (h : s.Ok 2000) : e9 Tryz.prog 15 [1000] [(1000, Cont.cells 95 (dP s))] [Ty.ptr 1000 0, eC b, Ty.int .i64 most] [(1000, Cont.cells 95 (dP (E6 b s most)))] (Ty.sl cv (Dr b s most)) := by
 refine fJ Tryz.func15 rfl (by decide) Tryz.ntmps15 (by exact Nat.le_of_ble_eq_true rfl) fun w0 M0 => ?_
 have h0 : 0 ≤ s.taken ∧ s.taken + 2000 ≤ 4611686018427387904 := h
 have hs1 := dG s
 have hn := Dz s hm.1
 have hne := MM s (most := most)
 have hws := fun k => y7 b (bN s) k
 refine aF (aA (az rfl (iT rfl (aD (aC (aF (aA (iT rfl (aD (aC (aF (aF (aA (uJ rfl (bP rfl ?_)))))))))))))))
 refine cD rfl rfl (by omega) (by omega) ?_
 refine eH [(1000, 1000)] [] [(1000, Cont.cells 95 (dP (bN s)))] (oS s ⟨by omega, by omega⟩ _) rfl rfl (by repeat (first | exact fM | refine eE ?_ ?_ | exact gX List.mem_cons_self | exact c7 rfl rfl)) (eM (a := 1000) (b := 1000) (by exact List.mem_cons_self) rfl (bM (by exact List.mem_cons_self) rfl rfl rfl) pre_nil) (dL (a := 1000) (b := 1000) (by exact List.mem_cons_self) rfl (bM (by exact List.mem_cons_self) rfl rfl rfl) post_nil) (c7 rfl rfl) ?_
 refine bP rfl (aD (aC (aY ?_)))
 refine cI (fun (k : {k : Nat // k ≤ jt s most}) => live [(0, Ty.ptr 1000 0), (4, Ty.pp (cH b)), (7, Ty.row cv 70 43 (dm b (bN s) k.1).1), (14, Ty.int .i64 (jt s most : Nat)), (15, Ty.int .i64 (k.1 : Nat))] [(1000, Cont.cells 95 (dP (dm b (bN s) k.1).2))]) (fun k => jt s most - k.1) (⟨0, by omega⟩) ?_ fun k => ?_
 ·(refine cr.mk' ?_ ?_ <;> (repeat' (first | exact aH | exact aI | refine aB ?_ (Ty.aS _) | refine aB ?_ (Ty.aG _) | refine aB ?_ Ty.iP | refine aK rfl (Cont.aG _) ?_ | refine aB ?_ ?_)))
  all_goals exact Ty.bg hne.symm
 have hk := k.2
 have hw1 := (hws k.1).1
 have hw2 := (hws k.1).2.1
 have hw3 : (bN (dm b (bN s) k.1).2).Ok 1 := ⟨by rw [dG]; omega, by rw [dG]; omega⟩
 refine aF (aA (av rfl rfl rfl (aD (aC (aF ?_)))))
 refine aj rfl (fun hc1 => ?_) (fun hc1 => ?_)
 ·refine ak (aC (aF (aY (aF (cq mixed rfl (uJ rfl ?_))))))
  refine aQ rfl rfl rfl rfl rfl (by decide) ?_
  refine aL rfl rfl rfl rfl (bq rfl rfl rfl ?_)
  refine eH [(1000, 1000)] [] [(1000, Cont.cells 95 (dP (bN (dm b (bN s) k.1).2)))] (oS (dm b (bN s) k.1).2 ⟨by omega, by omega⟩ _) rfl rfl (by repeat (first | exact fM | refine eE ?_ ?_ | exact gX List.mem_cons_self | exact c7 rfl rfl)) (eM (a := 1000) (b := 1000) (by exact List.mem_cons_self) rfl (bM (by exact List.mem_cons_self) rfl rfl rfl) pre_nil) (dL (a := 1000) (b := 1000) (by exact List.mem_cons_self) rfl (bM (by exact List.mem_cons_self) rfl rfl rfl) post_nil) (c7 rfl rfl) ?_
  refine uJ rfl ?_
  refine aQ rfl rfl rfl rfl rfl (by decide) ?_
  refine aL rfl rfl rfl rfl (bq rfl rfl rfl ?_)
  refine eH [(1000, 1000)] [] [(1000, Cont.cells 95 (dP (bN (bN (dm b (bN s) k.1).2))))] (oS (bN (dm b (bN s) k.1).2) hw3 _) rfl rfl (by repeat (first | exact fM | refine eE ?_ ?_ | exact gX List.mem_cons_self | exact c7 rfl rfl)) (eM (a := 1000) (b := 1000) (by exact List.mem_cons_self) rfl (bM (by exact List.mem_cons_self) rfl rfl rfl) pre_nil) (dL (a := 1000) (b := 1000) (by exact List.mem_cons_self) rfl (bM (by exact List.mem_cons_self) rfl rfl rfl) post_nil) (c7 rfl rfl) ?_
  refine c6 rfl rfl (by exact List.cons_ne_nil _ _) rfl (by repeat (first | exact (aT.nil : aT _ _ [] _) | (show aT _ _ ((_, _) :: _) _; apply aT.one; (· exact (rfl : _ = Ty.int _ _)); (· exact rfl)))) (by exact (rfl : _ = some [_, _])) ?_
  refine bX rfl (by exact List.cons_ne_nil _ _) rfl ?_
  refine bW rfl rfl (by decide) rfl rfl rfl rfl rfl rfl ?_
  refine aD ?_
  refine ⟨by kernel_rfl, ?_⟩
  refine aC (aF (cq mixed rfl ?_))
  refine aa rfl rfl rfl (by exact Nat.le_of_ble_eq_true rfl) ?_
  refine AO rfl ?_
  refine Mh [43] 32 (xC (dm b (bN s) k.1).1 (by omega)) rfl (by repeat (first | exact lY | refine gE (zL rfl) ?_)) G6 (by decide) (by decide) rfl ?_
  refine bI rfl rfl (by decide) rfl rfl (by exact Nat.le_of_ble_eq_true rfl) ?_
  refine bY (E := cv) (xs := [yS b (dm b (bN s) k.1).2]) rfl rfl rfl rfl rfl (by decide) (by decide) (by repeat (first | exact (aT.nil : aT _ _ [] _) | (show aT _ _ ((_, _) :: _) _; apply aT.agg; (· exact (rfl : _ = Ty.agg _))))) (by exact rfl) rfl ?_
  refine dz rfl rfl (by decide) rfl rfl rfl rfl rfl rfl (by decide) (by (simp <;> omega)) (by (simp <;> omega)) ?_
  refine N5 [32] (Lw b hs ((dm b (bN s) k.1).1 ++ [yS b (dm b (bN s) k.1).2]) (by rw [List.length_append, List.length_singleton]; omega)) rfl (by repeat (first | exact lY | refine gE (nr rfl rfl) ?_ | refine gE (zL rfl) ?_)) (Ie (og JY (og (yj _) BL))) ?_
  refine uq rfl (bF rfl rfl (bF rfl rfl ?_))
  refine fY (ty := Ty.any) rfl ?_
  refine dJ rfl (aD ?_)
  refine ⟨by kernel_rfl, ?_⟩
  refine aC (aF ?_)
  refine dH (B := live [(0, Ty.ptr 1000 0), (4, Ty.pp (cH b)), (7, Ty.row cv 70 43 (dm b (bN s) k.1).1), (8, Ty.ptr 9 0), (10, Ty.bool (jm b ((dm b (bN s) k.1).1 ++ [yS b (dm b (bN s) k.1).2])).2), (14, Ty.int .i64 (jt s most : Nat)), (15, Ty.int .i64 (k.1 : Nat))] [(9, Cont.cells 70 (cv.tys (yS b (dm b (bN s) k.1).2))), (1000, Cont.cells 95 (dP (dm b (bN s) (k.1 + 1)).2))]) ?_ ?_
  ·(refine cr.mk' ?_ ?_ <;> (repeat' (first | exact aH | exact aI | refine aB ?_ (Ty.aS _) | refine aB ?_ (Ty.aG _) | refine aK rfl (Cont.aG _) ?_)))
  refine aA (gw rfl (aD (aC ?_)))
  refine c8 rfl (fun hc2 => ?_) (fun hc2 => ?_)
  ·refine aA (AO rfl ?_)
   refine bI rfl rfl (by decide) rfl rfl (by exact Nat.le_of_ble_eq_true rfl) ?_
   refine bY (E := cv) (xs := [yS b (dm b (bN s) k.1).2]) rfl rfl rfl rfl rfl (by decide) (by decide) (by repeat (first | exact (aT.nil : aT _ _ [] _) | (show aT _ _ ((_, _) :: _) _; apply aT.agg; (· exact (rfl : _ = Ty.agg _))))) (by exact rfl) rfl ?_
   refine dz rfl rfl (by decide) rfl rfl rfl rfl rfl rfl (by decide) (by (simp <;> omega)) (by (simp <;> omega)) ?_
   refine uT rfl (aD (bJ (aC (aA ?_))))
   refine cD rfl rfl (by omega) (by omega) ?_
   refine bP rfl (aD ?_)
   refine bS (⟨k.1 + 1, by omega⟩) ?_ (by show jt s most - (k.1 + 1) < jt s most - k.1; omega)
   (refine cr.mk' ?_ ?_ <;> (repeat' (first | exact aH | exact aI | refine aB ?_ (Ty.aS _) | refine aB ?_ (Ty.aG _) | refine aK rfl (Cont.aG _) ?_ | refine aB ?_ ?_)))
   all_goals skip
   all_goals exact Ty.gy (E9 hc2)
  refine ak (bJ (aC (aA ?_)))
  refine cD rfl rfl (by omega) (by omega) ?_
  refine bP rfl (aD ?_)
  refine bS (⟨k.1 + 1, by omega⟩) ?_ (by show jt s most - (k.1 + 1) < jt s most - k.1; omega)
  (refine cr.mk' ?_ ?_ <;> (repeat' (first | exact aH | exact aI | refine aB ?_ (Ty.aS _) | refine aB ?_ (Ty.aG _) | refine aK rfl (Cont.aG _) ?_ | refine aB ?_ ?_)))
  all_goals skip
  all_goals exact Ty.gy (HN hc2)
 refine b9 (aN (aN (aZ rfl (aC (aF ?_)))))
 obtain ⟨k, hk⟩ := k
 obtain rfl : k = jt s most := by have h1 : ¬ (k : Int) < (jt s most : Int) := hc1; have h2 : k ≤ jt s most := hk; omega
 refine aA (AO rfl (uT rfl (aD (aC (au ?_)))))
 refine mF [1000] rfl rfl (by decide) (by repeat (first | exact ji | refine kR rfl (bM (by decide) rfl rfl rfl) ?_)) ?_
 all_goals exact Fl (by decide) rfl rfl
 all_goals trace_state
end Go.Proofs.YtmmcenjknimhbaaGreat
namespace Go.T
open Go Go.RowKit
section
variable {P : Program} {fr : Fr} {ops : Array Oper} {A : As} {rest : List Oper} {K : As → List (As × Fx) → Prop} {d : Nat} {t ty' ty2 : TypeId} {p : String} {e : Array Edge}
end
end Go.T
namespace Go.T
open Go Go.RowKit
section
variable {P : Program} {fr : Fr} {ops : Array Oper} {A : As} {rest : List Oper} {K : As → List (As × Fx) → Prop} {d : Nat} {t ty' : TypeId} {p : String} {e : Array Edge} [T : k5 P]
end
end Go.T
namespace Go.T
open Go Go.RowKit
section
variable {P : Program} {fr : Fr} {ops : Array Oper} {A : As} {rest : List Oper} {K : As → List (As × Fx) → Prop} {d : Nat} {t ty' : TypeId} {p : String} {e : Array Edge} [T : k5 P]
end
end Go.T
namespace Go.T
open Go Go.RowKit
section
variable {P : Program} {fr : Fr} {A : As} {Q : Exit → Act → World → Prop} {c : Code}
end
section
variable {P : Program} {fr : Fr} {ops : Array Oper} {A : As} {rest : List Oper} {K : As → List (As × Fx) → Prop} {d : Nat} {t ty' : TypeId} {p : String} {e : Array Edge} [T : k5 P]
end
end Go.T
namespace Go.T
open Go Go.RowKit
section
variable {P : Program} {A : As} {fn : Func} {n : Nat} {w0 : World} {M0 : ah} {F : List Nat} {post : List (Nat × Cont)} [T : k5 P]
end
end Go.T
namespace Go.T
open Go Go.RowKit
section
variable {P : Program} {fr : Fr} {ops : Array Oper} {A : As} {rest : List Oper} {K : As → List (As × Fx) → Prop} {d : Nat} {t ty' : TypeId} {p : String} {e : Array Edge} [T : k5 P]
end
end Go.T
namespace Go.T
open Go Go.RowKit
section
variable {P : Program} {fr : Fr} {ops : Array Oper} {A : As} {rest : List Oper} {K : As → List (As × Fx) → Prop} {d : Nat} {t ty' : TypeId} {p : String} {e : Array Edge} [T : k5 P]
end
end Go.T
namespace Go.T
open Go Go.RowKit
section
variable {P : Program} {fr : Fr} {ops : Array Oper} {A : As} {rest : List Oper} {K : As → List (As × Fx) → Prop} {d : Nat} {t ty' : TypeId} {p : String} {e : Array Edge} [T : k5 P]
end
end Go.T
namespace Go.T
open Go Go.RowKit
theorem Ty.QD {α : Type} {E : El α} {T tg n : Nat} {xs : List α} (hn : xs.length = n) : (Ty.row E T tg xs).Sub (Ty.vs tg n) := fun w M v ⟨cs, h1, h2, h3⟩ => by
 subst hn
 rcases h1.2 with ⟨e, h0⟩ | ⟨g, cap, cur, ex, _, hh, hn1, hcap, _, htk⟩
 ·exact .inl ⟨h0, e⟩
 exact .inr ⟨g, cap, h3 g (by rw [ex]; rfl), ex, hn1, hcap⟩
theorem Cont.AI {T : Nat} {l l' : List Ty} (h : OU l l') : (Cont.cells T l).Sub (Cont.cells T l') := fun w M v ⟨b, cs, h1, h2, h3⟩ => ⟨b, cs, h1, h2, vi h h3⟩
end Go.T
namespace Go.T
open Go Go.RowKit
end Go.T
namespace Go.T
open Go Go.RowKit
section
variable {P : Program} {fr : Fr} {A : As} {c : Code} {Q : Exit → Act → World → Prop}
theorem Iq {α : Type} {E : El α} {T Tc tg c0 : Nat} {l : List Ty} {xs : List α} (i : Nat) (hc : A.tag c0 = some (.cells Tc l)) (hi : l[i]? = some (.row E T tg xs))
 (h : eU P fr c ⟨A.slots, (tg, .vec E T xs) :: A.tags⟩ Q) : eU P fr c A Q := fun a w ⟨M, ok, hsl, ht⟩ => by
 refine h a w ⟨M, ok, hsl, fun x hx => ?_⟩
 rcases List.mem_cons.1 hx with rfl | hx
 ·obtain ⟨b, cs, hb, hh, hd⟩ := ht _ (cM hc)
  obtain ⟨v, _, ⟨ds, h1, h2, h3⟩⟩ := dF hd i _ hi
  rcases h1.2 with ⟨e, h0⟩ | ⟨g, cap, cur, ex, _, hh, hn1, hcap, _, htk⟩
  ·exact .inl (List.length_eq_zero_iff.1 h0)
  have hg : M g = some tg := h3 g (by rw [ex]; rfl)
  exact .inr ⟨g, cur, hg, hh, by rw [cg, htk]; exact h2⟩
 exact ht x hx
end
end Go.T
namespace Go.T
open Go Go.RowKit
section
variable {P : Program} {A : As} {fn : Func} {n : Nat} {w0 : World} {M0 : ah}
end
end Go.T
namespace Go.T
open Go Go.RowKit
section
variable {P : Program} {fr : Fr} {A : As} {c : Code} {Q : Exit → Act → World → Prop}
end
section
variable {P : Program} {A : As} {fn : Func} {n : Nat} {w0 : World} {M0 : ah}
end
end Go.T
namespace Go.T
open Go Go.RowKit
section
variable {P : Program} {fr : Fr} {ops : Array Oper} {A : As} {rest : List Oper} {K : As → List (As × Fx) → Prop} {d : Nat} {t : TypeId} {p : String} {e : Array Edge} {y : Operand}
end
section
variable {P : Program} {fr : Fr} {A : As} {Q : Exit → Act → World → Prop} {code : Code}
end
end Go.T
namespace Go.T
open Go Go.RowKit
section
variable {P : Program} {fr : Fr} {A : As} {Q : Exit → Act → World → Prop}
end
end Go.T
namespace Go.T
open Go Go.RowKit
section
variable {P : Program} {fr : Fr} {ops : Array Oper} {A : As} {rest : List Oper} {K : As → List (As × Fx) → Prop} {d : Nat} {t ty' : TypeId} {p : String} {e : Array Edge} [T : k5 P]
end
section
open Go.RowKit
variable {P : Program} {A : As} {fn : Func} {n : Nat} {w0 : World} {M0 : ah} {F : List Nat} {post : List (Nat × Cont)} [T : k5 P]
end
section
variable {P : Program} {fr : Fr} {A : As}
end
end Go.T
namespace Go.T
open Go Go.RowKit
section
variable {P : Program} {fr : Fr} {A : As}
end
end Go.T
namespace Go.T
open Go Go.RowKit
end Go.T
namespace Go.T
open Go Go.RowKit
section
variable {P : Program}
variable {fr : Fr} {ops : Array Oper} {A : As} {rest : List Oper} {K : As → List (As × Fx) → Prop} {d : Nat} {t ty' : TypeId} {p : String} {e : Array Edge} [T : k5 P]
end
section
variable {P : Program} {fr : Fr} {A : As} {Q : Exit → Act → World → Prop} {c : Code}
end
end Go.T
namespace Go.T
open Go Go.RowKit
section
variable {A : As}
end
section
variable {P : Program} {fr : Fr} {A : As} {c : Code} {Q : Exit → Act → World → Prop}
end
end Go.T
namespace Go.T
open Go Go.RowKit
section
variable {α : Type}
end
section
variable {P : Program} {fr : Fr} {ops : Array Oper} {A : As} {rest : List Oper} {K : As → List (As × Fx) → Prop} {d : Nat} {t ty' : TypeId} {p : String} {e : Array Edge} [T : k5 P]
variable {α : Type} {E : El α} {Tb J tg i : Nat} {q : List (List α)} {xs ys : List α}
end
end Go.T
namespace Go.T
open Go Go.RowKit
section
variable {P : Program} {fr : Fr} {A : As} {c : Code} {Q : Exit → Act → World → Prop}
end
section
variable {P : Program} {fr : Fr} {ops : Array Oper} {A : As} {rest : List Oper} {K : As → List (As × Fx) → Prop} {d : Nat} {t ty' : TypeId} {p : String} {e : Array Edge} [T : k5 P]
theorem CZ {α : Type} [Inhabited α] {E : El α} {xs : List α} {x y : Operand} {tg off Tb : Nat} {ti : TI} {ty : Ty} {z : α} (i o : Nat) (hx : A.op fr x = .ptr tg off) (he : off = i * E.size + o) (hc : A.tag tg = some (.vec E Tb xs)) (h1 : e8 tg) (hT : T.tab[ty']? = some ti) (hsz : ti.size = 1) (hy : A.op fr y = ty) (ho : ty.one = true) (hi : i < xs.length) (hoe : o < E.size)
 (hdt : kJ ty.cdeps [tg] = true) (hl : (E.tys (nth xs i)).set o ty = E.tys z)
 (h : aV P fr ops rest (A.after { d := none, S := [tg], sets := [(tg, .vec E Tb (xs.set i z))], rs := bR x ++ bR y, rt := [tg] }) fun A' l'' => K A' ((A, { d := none, S := [tg], sets := [(tg, .vec E Tb (xs.set i z))], rs := bR x ++ bR y, rt := [tg] }) :: l'')) :
 aV P fr ops (⟨none, .store ty' x y, t, p, e, none⟩ :: rest) A K :=
 kY (by rw [hx, he]) hc h1 hT hsz hy ho hi hoe hdt hl h
variable {α : Type} {E : El α} {Tb J tg i : Nat} {q : List (List α)} {xs : List α}
end
end Go.T
namespace Go.Proofs.YtmmcenjknimhbaaGreat
open Go Go.T
set_option maxHeartbeats 16000000
theorem Kw (g : List Int) : (iB g).Ok 1000 := by have h := B0 g; unfold Sk.Ok at *; omega
theorem KR (g : List Int) : (iB g).Ok 2000 := by have h := B0 g; unfold Sk.Ok at *; omega
theorem Q3 (g : List Int) (bins lots : Int) (hb : 2 ≤ bins ∧ bins ≤ 7) (hl : 0 ≤ lots ∧ lots ≤ 6) : ∃ b s', b.dD ∧ (b.sizes.length : Int) ≤ bins ∧ (b.lots.length : Int) ≤ lots ∧ e9 Tryz.prog 14 [1000] [(1000, Cont.cells 95 (dP (iB g)))] [Ty.ptr 1000 0, Ty.int .i64 bins, Ty.int .i64 lots, Ty.bool false] [(1000, Cont.cells 95 (dP s'))] (eC b) :=
 have hd : Md.Ok ⟨iB g, bins, lots⟩ := ⟨hb, hl⟩
 ⟨_, _, Md.right hd, by have h := (Md.GN hd).2.2.1; have e := (Md.n7 ⟨iB g, bins, lots⟩).1; exact Int.le_trans (Int.ofNat_le.2 (Nat.le_of_eq e)) h, by have h := (Md.Cl hd).2.1; have e := (Md.vX ⟨iB g, bins, lots⟩ (Md.many ⟨iB g, bins, lots⟩)).1; exact Int.le_trans (Int.ofNat_le.2 (Nat.le_of_eq e)) h, QF ⟨iB g, bins, lots⟩ hd (Kw g)⟩
def RC : El (List p4) := El.mk' 1 (fun x => [Ty.sl gC x]) (fun _ => rfl) (fun _ => ⟨rfl, rfl, rfl⟩)
def Mt (b : aW) (l : p4) : Bool := decide (l.inn < 0) || decide (l.inn ≥ b.sizes.length)
theorem Lx {b : aW} {q : Pl} (hv : VP b q) : (cU b q).lots.any (Mt b) = false := by
 rw [List.any_eq_false]
 intro l hl
 obtain ⟨i, hi, rfl⟩ := oT hl
 rw [gV] at hi
 rw [fT hi]
 have := hv.named i hi
 unfold Mt
 simp; omega
theorem BI {sh : Nat} {b : aW} {q : Pl} {l : List tO} (h : b.sizes.length ≤ 6) (hl : l.length ≤ 1) (hr : (cU b q).dD) : (iW sh (cU b q) l).Small := by
 have hll := rH sh (cU b q) (cU b q).lots.length
 have ho := vO sh hr _ (Nat.le_refl _)
 refine ⟨by show 2 ≤ 8; decide, by show (ku sh (cU b q) _).length ≤ 9; rw [hll]; show b.sizes.length ≤ 9; omega, by show l.length ≤ 11; omega, Nat.zero_le _, fun x hx => ?_⟩
 obtain ⟨k, hk, rfl⟩ := oT hx
 have hk : k < (cU b q).sizes.length := by rw [← hll]; exact hk
 have : (nth (iW sh (cU b q) l).bins k).shares = AX sh k := (ho.bin k hk).1
 rw [this]; show 2 ≤ 8; decide
theorem LA {f : cG} {a0 a1 c0 c1 : Int} (h0 : pz f 0 = (max a0 c0, 0)) (h1 : pz f 1 = (max a1 c1, 0)) {j : Nat} (hj : j < 2) : pz f ((j : Nat) : Int) = (max (nth [a0, a1] j) (nth [c0, c1] j), 0) := by
 rcases (show j = 0 ∨ j = 1 by omega) with rfl | rfl
 ·exact h0
 exact h1
theorem Mu {α : Type} [Inhabited α] {x y : α} : nth [x, y] 0 = x := rfl
theorem L8 {α : Type} [Inhabited α] {x y : α} : nth [x, y] 1 = y := rfl
theorem Qk {α : Type} [Inhabited α] {x : α} : nth [x] 0 = x := rfl
theorem Ln {b : aW} {q q' : Pl} (hv : VP b q) (hv2 : VP b q') {j : Nat} (hj : j < 2) : (nth [(cU b q).lots, (cU b q').lots] j).any (Mt b) = false := by
 rcases (show j = 0 ∨ j = 1 by omega) with rfl | rfl
 ·exact Lx hv
 exact Lx hv2
attribute [local irreducible] Dr E6 ku pz wN gN iR jm cS cA
attribute [local irreducible] fL dg lG nG fZ gA fy fm ff nB gB m6 cw fA m4 ew nM nth eU cm aV cy bodyPost Exit.then Exit.inBlock Code.wp Code.wpIn fI ry rq rY iY sB rZ iV sA e9 gr p8 cT cO bodyPostM dW
set_option maxRecDepth 100000 in
theorem K3 (b : aW) (hr : b.dD) (sh : Nat) (hsh : sh < 65536) : cy Tryz.prog 16 [eC b, Ty.pp [Ty.int .u16 ((sh : Nat) : Int)]] (mB (iW sh b [])) := by
 refine aX Tryz.func16 rfl (by decide) Tryz.ntmps16 (by exact Nat.le_of_ble_eq_true rfl) fun w0 M0 => ?_
 refine aF (aA (az rfl ?_))
 refine bX rfl (by exact List.cons_ne_nil _ _) rfl ?_
 refine aD (aC (aF (aA ?_)))
 refine bY (E := eB) (xs := [4000, 4000]) rfl rfl rfl rfl rfl (by decide) (by decide) (by repeat (first | exact (aT.nil : aT _ _ [] _) | (show aT _ _ ((_, _) :: _) _; apply aT.one; (· exact (rfl : _ = Ty.int _ _)); (· exact rfl)))) (by exact rfl) rfl ?_
 refine c6 rfl rfl (by exact List.cons_ne_nil _ _) rfl (by repeat (first | exact (aT.nil : aT _ _ [] _) | (show aT _ _ ((_, _) :: _) _; apply aT.one; (· exact (rfl : _ = Ty.sl _ _)); (· exact rfl)))) (by exact (rfl : _ = some [_, _, _, _])) ?_
 refine bX rfl (by exact List.cons_ne_nil _ _) rfl ?_
 refine bW rfl rfl (by decide) rfl rfl rfl rfl rfl rfl ?_
 refine aD (aC (aF (aF (aA ?_))))
 refine aQ rfl rfl rfl rfl rfl (by decide) ?_
 refine aL rfl rfl rfl rfl (bq rfl rfl rfl (bP rfl (aD (aC (aY ?_)))))
 refine cI (fun (k : {k : Nat // k ≤ b.sizes.length}) => live [(1, Ty.pp [Ty.int .u16 ((sh : Nat) : Int)]), (2, Ty.pp (cH b)), (3, Ty.ptr 4 0), (4, Ty.ptr 5 0), (13, Ty.int .i64 b.sizes.length), (14, Ty.int .i64 (k.1 : Nat))] [(4, Cont.cells 28 [Ty.ex (.slice none 0 0), Ty.ex (.slice none 0 0), Ty.ex (.slice none 0 0), Ty.ex (.slice none 0 0)]), (5, Cont.cells 28 [Ty.sl eB [4000, 4000], Ty.row n6 44 32 (nE sh k.1), Ty.ex (.slice none 0 0), Ty.ex (.slice none 0 0)])]) (fun k => b.sizes.length - k.1) (⟨0, by omega⟩) ?_ fun k => ?_
 ·(refine cr.mk' ?_ ?_ <;> (repeat' (first | exact aH | exact aI | exact dU | refine aB ?_ (Ty.aS _) | refine aB ?_ (Ty.aG _) | refine aK rfl (Cont.aG _) ?_ | refine aK rfl (Cont.dV ?_) ?_ | refine cQ ?_ (Ty.aG _) | refine cQ ?_ Ty.iP)))
  all_goals trace_state
 have hk := k.2
 have hbn := hr.bins
 have hbl := jM sh k.1
 refine aF (aA (av rfl rfl rfl (aD (aC (aF ?_)))))
 refine aj rfl (fun hc1 => ?_) (fun hc1 => ?_)
 ·refine ak (aC (aF (aY (aF (aA (bP rfl (b8 rfl (aD (aC (aF (aA (aL rfl rfl rfl rfl (CP rfl rfl rfl rfl (bP rfl ?_))))))))))))))
  refine KN rfl rfl (by omega) (by omega) ?_
  refine CL (a := sh) (b := 2 * k.1) (congrArg (Ty.int .i64) (IntWalk.i64_in ((sh : Nat) : Int) (by omega))) (congrArg (Ty.int .i64) (show 2 * ((k.1 : Nat) : Int) = ((2 * k.1 : Nat) : Int) by omega)) (by omega) ?_
  refine Ft (a := sh >>> (2 * k.1)) (b := 3) rfl rfl (by have := Nat.shiftRight_le sh (2 * k.1); omega) (by omega) ?_
  refine b8 rfl (aD (aC ?_))
  have hq := Mo sh k.1
  refine iX (s := 6) rfl (Ty.bg (show (((sh >>> (2 * k.1)) &&& 3 : Nat) : Int) = ((QH sh k.1 : Nat) : Int) from rfl)) ?_
  refine aA ?_
  refine aR rfl rfl rfl rfl rfl (by decide) ?_
  refine aU rfl rfl (by decide) rfl rfl rfl ?_
  refine bP rfl (bP rfl ?_)
  refine jo rfl rfl (by omega) (by omega) ?_
  refine bY (E := eB) (xs := AX sh k.1) rfl rfl rfl rfl rfl (by decide) (by decide) (by repeat (first | exact (aT.nil : aT _ _ [] _) | (show aT _ _ ((_, _) :: _) _; apply aT.one; (· exact (rfl : _ = Ty.int _ _)); (· exact rfl)))) (by exact rfl) rfl ?_
  refine c6 rfl rfl (by exact List.cons_ne_nil _ _) rfl (by repeat (first | exact (aT.nil : aT _ _ [] _) | (show aT _ _ ((_, _) :: _) _; apply aT.one; (· exact (rfl : _ = Ty.sl _ _)); (· exact rfl)))) (by exact (rfl : _ = some [_, _])) ?_
  refine bY (E := n6) (xs := [⟨0, AX sh k.1⟩]) rfl rfl rfl rfl rfl (by decide) (by decide) (by repeat (first | exact (aT.nil : aT _ _ [] _) | (show aT _ _ ((_, _) :: _) _; apply aT.agg; (· exact (rfl : _ = Ty.agg _))))) (by exact rfl) rfl ?_
  refine dz rfl rfl (by decide) rfl rfl rfl rfl rfl rfl (by decide) (by (simp <;> omega)) (by (simp <;> omega)) ?_
  refine aR rfl rfl rfl rfl rfl (by decide) ?_
  refine cj rfl rfl (by decide) rfl rfl (by exact (rfl : _ = Ty.row _ _ _ _)) rfl (by exact Nat.le_of_ble_eq_true rfl) rfl rfl (by exact rfl) ?_
  refine aD (bJ (aC (aA ?_)))
  refine cD rfl rfl (by omega) (by omega) ?_
  refine bP rfl (aD ?_)
  refine bS (⟨k.1 + 1, by omega⟩) ?_ (by show b.sizes.length - (k.1 + 1) < b.sizes.length - k.1; omega)
  (refine cr.mk' ?_ ?_ <;> (repeat' (first | exact aH | exact aI | refine aB ?_ (Ty.aS _) | refine aB ?_ (Ty.aG _) | refine aK rfl (Cont.aG _) ?_)))
  all_goals skip
  all_goals trace_state
 refine b9 (aN (aN (aZ rfl (aC (aF (aF ?_))))))
 obtain ⟨k, hk⟩ := k
 obtain rfl : k = b.sizes.length := by have h1 : ¬ (k : Int) < (b.sizes.length : Int) := hc1; have h2 : k ≤ b.sizes.length := hk; omega
 refine Iq (c0 := 5) 1 rfl rfl ?_
 refine wz (tg := 5) rfl (Cont.AI (l' := [Ty.sl eB [4000, 4000], Ty.vs 32 b.sizes.length, Ty.ex (.slice none 0 0), Ty.ex (.slice none 0 0)]) ⟨Ty.aG _, Ty.QD (jM sh _), Ty.aG _, Ty.aG _, trivial⟩) ?_
 refine aA ?_
 refine aQ rfl rfl rfl rfl rfl (by decide) ?_
 refine aL rfl rfl rfl rfl (bq rfl rfl rfl (bP rfl (aD (aC (aY ?_)))))
 refine cI (fun (j : {j : Nat // j ≤ b.lots.length}) => live [(3, Ty.ptr 4 0), (4, Ty.ptr 5 0), (35, Ty.sl gC b.lots), (36, Ty.int .i64 b.lots.length), (37, Ty.int .i64 (j.1 : Nat))] [(4, Cont.cells 28 [Ty.ex (.slice none 0 0), Ty.ex (.slice none 0 0), Ty.ex (.slice none 0 0), Ty.ex (.slice none 0 0)]), (5, Cont.cells 28 [Ty.sl eB [4000, 4000], Ty.vs 32 b.sizes.length, Ty.ex (.slice none 0 0), Ty.ex (.slice none 0 0)]), (32, Cont.vec n6 44 (ku sh b j.1))]) (fun j => b.lots.length - j.1) (⟨0, by omega⟩) ?_ fun j => ?_
 ·(refine cr.mk' ?_ ?_ <;> (repeat' (first | exact aH | exact aI | refine aB ?_ (Ty.aS _) | refine aB ?_ (Ty.aG _) | refine aK rfl (Cont.aG _) ?_ | refine aK rfl ?_ ?_)))
  all_goals exact Cont.iM Q2.symm
 have hj := j.2
 have hll := rH sh b j.1
 have hbl := hr.lots
 refine aF (aA (av rfl rfl rfl (aD (aC (aF ?_)))))
 refine aj rfl (fun hc2 => ?_) (fun hc2 => ?_)
 ·refine ak (aC (aF (aY (aF (aA ?_)))))
  refine bC rfl rfl rfl rfl rfl rfl (by omega) ?_
  refine aa rfl rfl rfl (by exact Nat.le_of_ble_eq_true rfl) ?_
  refine bX rfl (by exact List.cons_ne_nil _ _) rfl ?_
  refine bW rfl rfl (by decide) rfl rfl rfl rfl rfl rfl ?_
  refine aD (aC ?_)
  have hin := hr.inn _ (bh (xs := b.lots) (k := j.1) (by omega))
  refine aA ?_
  refine aR rfl rfl rfl rfl rfl (by decide) ?_
  refine aU rfl rfl (by decide) rfl rfl rfl ?_
  refine aR rfl rfl rfl rfl rfl (by decide) ?_
  refine aU rfl rfl (by decide) rfl rfl rfl ?_
  refine aR rfl rfl rfl rfl rfl (by decide) ?_
  refine aU rfl rfl (by decide) rfl rfl rfl ?_
  refine gS rfl rfl rfl rfl rfl hin.1 (by omega) ?_
  refine aR rfl rfl rfl rfl rfl (by decide) ?_
  refine CZ (E := n6) (z := ⟨(nth b.lots j.1).sacks, (nth (ku sh b j.1) (nth b.lots j.1).inn.toNat).shares⟩) (nth b.lots j.1).inn.toNat 0 rfl rfl rfl (by decide) rfl rfl (by exact (rfl : _ = Ty.int _ _)) rfl (by omega) (by decide) rfl rfl ?_
  refine aD (bJ (aC (aA ?_)))
  refine cD rfl rfl (by omega) (by omega) ?_
  refine bP rfl (aD ?_)
  refine bS (⟨j.1 + 1, by omega⟩) ?_ (by show b.lots.length - (j.1 + 1) < b.lots.length - j.1; omega)
  (refine cr.mk' ?_ ?_ <;> (repeat' (first | exact aH | exact aI | refine aB ?_ (Ty.aS _) | refine aB ?_ (Ty.aG _) | refine aK rfl (Cont.aG _) ?_ | refine aK rfl ?_ ?_)))
  all_goals skip
  all_goals exact Cont.iM QZ.symm
 refine b9 (aN (aN (aZ rfl (aC (aF ?_)))))
 obtain ⟨j, hj⟩ := j
 obtain rfl : j = b.lots.length := by have h1 : ¬ (j : Int) < (b.lots.length : Int) := hc2; have h2 : j ≤ b.lots.length := hj; omega
 refine u6 (tg := 32) [] [(5, Cont.cells 28 [Ty.sl eB [4000, 4000], Ty.sl n6 (ku sh b b.lots.length), Ty.ex (.slice none 0 0), Ty.ex (.slice none 0 0)])] (by decide) rfl trivial ⟨jw rfl rfl ⟨cY rfl, LY rfl (rH sh b _) (by decide), cY rfl, cY rfl, trivial⟩, trivial⟩ ?_
 refine wz (tg := 5) rfl (Cont.AI (l' := eT (iW sh b [])) ⟨Ty.aG _, Ty.aG _, Ty.qp, Ty.qp, trivial⟩) ?_
 refine aA ?_
 refine bI rfl rfl (by decide) rfl rfl (by exact Nat.le_of_ble_eq_true rfl) ?_
 refine bW rfl rfl (by decide) rfl rfl rfl rfl rfl rfl ?_
 refine aD (aC (au ?_))
 refine xk rfl rfl rfl rfl (by decide) rfl rfl rfl ?_
 all_goals exact bQ rfl rfl
set_option maxRecDepth 100000 in
theorem QL (b : aW) (l : p4) : cy Tryz.prog 19 [Ty.agg (gC.tys l), Ty.pp (cH b)] (Ty.bool (Mt b l)) := by
 refine aX Tryz.func19 rfl (by decide) Tryz.ntmps19 (by exact Nat.le_of_ble_eq_true rfl) fun w0 M0 => ?_
 refine aF (aA (az rfl (dJ rfl (aD (aC (aF (aA ?_)))))))
 refine aQ rfl rfl rfl rfl rfl (by decide) ?_
 refine aL rfl rfl rfl rfl (av rfl rfl rfl (gw rfl ?_))
 apply aM (s := 7) rfl rfl rfl
 ·intro hg; apply aO; (refine aQ rfl rfl rfl rfl rfl (by decide) ?_); refine aD ?_; exact rfl
 ·exact rfl
 ·exact rfl
 apply aM (s := 7) rfl rfl rfl
 ·intro hg; apply aJ (s := 8) rfl (by (rw [hg]; rfl)); apply aO; (refine aL rfl rfl rfl rfl ?_); refine aD ?_; exact rfl
 ·exact rfl
 ·exact rfl
 apply aM (s := 7) rfl rfl rfl
 ·intro hg; apply aO; (refine aQ rfl rfl rfl rfl rfl (by decide) ?_); refine aD ?_; exact rfl
 ·exact rfl
 ·exact rfl
 apply aM (s := 7) rfl rfl rfl
 ·intro hg; apply aJ (s := 10) rfl (by (rw [hg]; rfl)); apply aO; (refine aL rfl rfl rfl rfl ?_); refine aD ?_; exact rfl
 ·exact rfl
 ·exact rfl
 apply aM (s := 7) rfl rfl rfl
 ·intro hg; apply aJ (s := 11) rfl (by (rw [hg]; rfl)); apply aO; (refine bq rfl rfl rfl ?_); refine aD ?_; exact rfl
 ·exact rfl
 ·exact rfl
 apply aM (s := 7) rfl rfl rfl
 ·intro hg; apply aJ (s := 9) rfl (by (rw [hg]; rfl)); apply aJ (s := 12) rfl (by (rw [hg]; rfl)); apply aO; (refine av rfl rfl rfl ?_); refine aD ?_; exact rfl
 ·exact rfl
 ·exact rfl
 refine iS rfl rfl (dJ rfl (aD (aC (au (bT rfl rfl ?_)))))
 all_goals exact bQ rfl rfl
 all_goals trace_state
set_option maxRecDepth 100000 in
theorem Db (g t : List Int) (sh : Nat) (hsh : sh < 65536) : cy Tryz.prog 4 [Ty.sl U8 g, Ty.sl U8 t, Ty.int .u16 ((sh : Nat) : Int)] (Ty.bool true) := by
 refine aX Tryz.func4 rfl (by decide) Tryz.ntmps4 (by exact Nat.le_of_ble_eq_true rfl) fun w0 M0 => ?_
 obtain ⟨b, s1, hr, hb6, hl5, hM⟩ := Q3 g 6 5 ⟨by decide, by decide⟩ ⟨by decide, by decide⟩
 have hs := qQ hr
 have h6 : b.sizes.length ≤ 6 := by omega
 have hwo := Oh b (iB t) (most := 6) (by omega)
 have hwl := hwo.len
 refine aF (aA ?_)
 refine dy (by exact (rfl : _ = Ty.int _ _)) rfl ?_
 refine dJ rfl (aD (aC (aF (aA (eV rfl ?_)))))
 refine eH [(27, 10)] [27] [(27, Cont.cells 95 (dP (iB g)))] (LW g) rfl rfl (by repeat (first | exact fM | refine eE ?_ ?_ | exact c7 rfl rfl)) pre_nil (dL (a := 27) (b := 10) (by exact List.mem_cons_self) rfl (bM (by exact List.mem_cons_self) rfl rfl rfl) post_nil) (gX (by exact List.mem_cons_self)) ?_
 refine eH [(27, 1000)] [] [(27, Cont.cells 95 (dP (s1)))] (hM) rfl rfl (by repeat (first | exact fM | refine eE ?_ ?_ | exact gX List.mem_cons_self | exact c7 rfl rfl)) (eM (a := 27) (b := 1000) (by exact List.mem_cons_self) rfl (bM (by exact List.mem_cons_self) rfl rfl rfl) pre_nil) (dL (a := 27) (b := 1000) (by exact List.mem_cons_self) rfl (bM (by exact List.mem_cons_self) rfl rfl rfl) post_nil) (c7 rfl rfl) ?_
 refine bX rfl (by exact List.cons_ne_nil _ _) rfl ?_
 refine bW rfl rfl (by decide) rfl rfl rfl rfl rfl rfl ?_
 refine aD (aC (aF ?_))
 refine dH (B := live [(1, Ty.sl U8 t), (5, Ty.pp [Ty.int .u16 ((sh : Nat) : Int)]), (7, Ty.ptr 8 0)] [(8, Cont.cells 62 (cH b))]) ?_ ?_
 ·refine cr.mk' ?_ ?_
  ·(repeat (first | refine aB ?_ (Ty.aS _) | refine aB ?_ (Ty.aG _))); exact aH
  refine aK rfl (Cont.aG _) ?_; exact aI
 refine cq mixed rfl (eV rfl ?_)
 refine eH [(30, 10)] [30] [(30, Cont.cells 95 (dP (iB t)))] (LW t) rfl rfl (by repeat (first | exact fM | refine eE ?_ ?_ | exact c7 rfl rfl)) pre_nil (dL (a := 30) (b := 10) (by exact List.mem_cons_self) rfl (bM (by exact List.mem_cons_self) rfl rfl rfl) post_nil) (gX (by exact List.mem_cons_self)) ?_
 refine bI rfl rfl (by decide) rfl rfl (by exact Nat.le_of_ble_eq_true rfl) ?_
 refine eH [(30, 1000)] [] [(30, Cont.cells 95 (dP (E6 b (iB t) 6)))] (Pm b hs (iB t) 6 ⟨by omega, by omega⟩ (KR t)) rfl rfl (by repeat (first | exact fM | refine eE ?_ ?_ | exact gX List.mem_cons_self | exact c7 rfl rfl)) (eM (a := 30) (b := 1000) (by exact List.mem_cons_self) rfl (bM (by exact List.mem_cons_self) rfl rfl rfl) pre_nil) (dL (a := 30) (b := 1000) (by exact List.mem_cons_self) rfl (bM (by exact List.mem_cons_self) rfl rfl rfl) post_nil) (c7 rfl rfl) ?_
 refine xO rfl (aD ?_)
 refine ⟨by kernel_rfl, ?_⟩
 refine aC (aF ?_)
 obtain ⟨P, eP, hPl, hPo⟩ : ∃ P, Dr b (iB t) 6 = P ∧ P.length ≤ 6 ∧ (jm b P).2 = true := ⟨_, rfl, by omega, hwo.ok⟩
 refine iX (s := 8) rfl (Ty.k8 eP) ?_
 refine dH (B := live [(5, Ty.pp [Ty.int .u16 ((sh : Nat) : Int)]), (7, Ty.ptr 8 0), (8, Ty.sl cv P)] [(8, Cont.cells 62 (cH b))]) ?_ ?_
 ·refine cr.mk' ?_ ?_
  ·(repeat (first | refine aB ?_ (Ty.aS _) | refine aB ?_ (Ty.aG _))); exact aH
  refine aK rfl (Cont.aG _) ?_; exact aI
 refine mC (tg := 8) [(7, Ty.pp (cH b))] (by decide) rfl ⟨ow (T := 62) (tg := 8) (off := 0) (l := cH b) rfl rfl rfl (by decide), trivial⟩ ?_
 refine dH (B := live [(5, Ty.pp [Ty.int .u16 ((sh : Nat) : Int)]), (7, Ty.pp (cH b)), (8, Ty.sl cv P)] []) ?_ ?_
 ·refine cr.mk' ?_ ?_
  ·(repeat (first | refine aB ?_ (Ty.aS _) | refine aB ?_ (Ty.aG _))); exact aH
  exact aI
 refine aA (cx rfl (RK rfl (aD (aC (aF (aF (aA (eV rfl (bq rfl rfl rfl (bP rfl (aD (aC (aY ?_)))))))))))))
 refine cI (fun (k : {k : Nat // k ≤ P.length}) => live [(5, Ty.pp [Ty.int .u16 ((sh : Nat) : Int)]), (7, Ty.pp (cH b)), (8, Ty.sl cv P), (9, Ty.jh 16 [Ty.pp [Ty.int .u16 ((sh : Nat) : Int)]]), (33, Ty.sl cv P), (34, Ty.int .i64 P.length), (35, Ty.int .i64 (k.1 : Nat))] []) (fun k => P.length - k.1) (⟨0, by omega⟩) ?_ fun k => ?_
 ·(refine cr.mk' ?_ ?_ <;> (repeat' (first | exact aH | exact aI | refine aB ?_ (Ty.aS _) | refine aB ?_ (Ty.aG _))))
  all_goals trace_state
 have hk := k.2
 refine aF (aA (av rfl rfl rfl (aD (aC (aF ?_)))))
 refine aj rfl (fun hc1 => ?_) (fun hc1 => ?_)
 ·refine ak (aC (aF (aY (aF (aA (bP rfl ?_))))))
  refine bC rfl rfl rfl rfl rfl rfl (by omega) ?_
  refine aa rfl rfl rfl (by exact Nat.le_of_ble_eq_true rfl) ?_
  refine bX rfl (by exact List.cons_ne_nil _ _) rfl ?_
  refine b8 rfl ?_
  refine bW rfl rfl (by decide) rfl rfl rfl rfl rfl rfl ?_
  refine aD (aC (aF ?_))
  obtain ⟨q, hv, ht, d1, e1, d2, e2⟩ := Ld hr (show P.length ≤ 6000 by omega) hPo (show k.1 < P.length by omega)
  have hv2 := y6 hr.lots hv ht
  have hp1 := ld hr hv
  have hp2 := ld hr hv2
  obtain ⟨ht1, ht2, ht3, ht4, _, _⟩ := eG.1 ht
  refine mC (tg := 12) [(11, Ty.pp (cv.tys (nth P k.1)))] (by decide) rfl ⟨ow (T := 70) (tg := 12) (off := 0) (l := cv.tys (nth P k.1)) rfl rfl rfl (by decide), trivial⟩ ?_
  refine dH (B := live [(5, Ty.pp [Ty.int .u16 ((sh : Nat) : Int)]), (7, Ty.pp (cH b)), (8, Ty.sl cv P), (9, Ty.jh 16 [Ty.pp [Ty.int .u16 ((sh : Nat) : Int)]]), (10, Ty.int .i64 (k.1 : Nat)), (11, Ty.pp (cv.tys (nth P k.1))), (33, Ty.sl cv P), (34, Ty.int .i64 P.length), (35, Ty.int .i64 (k.1 : Nat))] []) ?_ ?_
  ·refine cr.mk' ?_ ?_
   ·(repeat (first | refine aB ?_ (Ty.aS _) | refine aB ?_ (Ty.aG _))); exact aH
   exact aI
  refine cq mixed rfl ?_
  refine aa rfl rfl rfl (by exact Nat.le_of_ble_eq_true rfl) ?_
  refine eV rfl (bP rfl ?_)
  refine qF rfl rfl rfl rfl rfl rfl (by omega) ?_
  refine aq (IG b hs (P.take k.1) (by rw [List.length_take]; omega)) rfl rfl rfl rfl rfl ?_
  refine uq rfl (bF rfl rfl (bF rfl rfl ?_))
  refine bX rfl (by exact List.cons_ne_nil _ _) rfl ?_
  refine bW rfl rfl (by decide) rfl rfl rfl rfl rfl rfl ?_
  refine b8 rfl (aD ?_)
  refine ⟨by kernel_rfl, ?_⟩
  refine aC (aF ?_)
  rw [d1, e1]
  refine mC (tg := 13) [(12, Ty.pp (cH (cU b q)))] (by decide) rfl ⟨ow (T := 62) (tg := 13) (off := 0) (l := cH (cU b q)) rfl rfl rfl (by decide), trivial⟩ ?_
  refine dH (B := live [(5, Ty.pp [Ty.int .u16 ((sh : Nat) : Int)]), (7, Ty.pp (cH b)), (8, Ty.sl cv P), (9, Ty.jh 16 [Ty.pp [Ty.int .u16 ((sh : Nat) : Int)]]), (10, Ty.int .i64 (k.1 : Nat)), (11, Ty.pp (cv.tys (nth P k.1))), (12, Ty.pp (cH (cU b q))), (13, Ty.int .i64 0), (33, Ty.sl cv P), (34, Ty.int .i64 P.length), (35, Ty.int .i64 (k.1 : Nat))] []) ?_ ?_
  ·refine cr.mk' ?_ ?_
   ·(repeat (first | refine aB ?_ (Ty.aS _) | refine aB ?_ (Ty.aG _))); exact aH
   exact aI
  refine cq mixed rfl ?_
  refine aa rfl rfl rfl (by exact Nat.le_of_ble_eq_true rfl) ?_
  refine eV rfl (bP rfl ?_)
  refine cD rfl rfl (by omega) (by omega) ?_
  refine qF (hi := k.1 + 1) rfl (congrArg (Ty.int .i64) (show ((k.1 : Nat) : Int) + 1 = ((k.1 + 1 : Nat) : Int) by omega)) rfl rfl rfl rfl (by omega) ?_
  refine aq (IG b hs (P.take (k.1 + 1)) (by rw [List.length_take]; omega)) rfl rfl rfl rfl rfl ?_
  refine uq rfl (bF rfl rfl (bF rfl rfl ?_))
  refine bX rfl (by exact List.cons_ne_nil _ _) rfl ?_
  refine bW rfl rfl (by decide) rfl rfl rfl rfl rfl rfl ?_
  refine b8 rfl (aD ?_)
  refine ⟨by kernel_rfl, ?_⟩
  refine aC (aF (aF ?_))
  rw [d2, e2]
  refine mC (tg := 15) [(14, Ty.pp (cH (cU b (bf q (nth P k.1)))))] (by decide) rfl ⟨ow (T := 62) (tg := 15) (off := 0) (l := cH (cU b (bf q (nth P k.1)))) rfl rfl rfl (by decide), trivial⟩ ?_
  have hz1 := gV b q
  have hz2 := gV b (bf q (nth P k.1))
  refine dH (B := live [(5, Ty.pp [Ty.int .u16 ((sh : Nat) : Int)]), (7, Ty.pp (cH b)), (8, Ty.sl cv P), (9, Ty.jh 16 [Ty.pp [Ty.int .u16 ((sh : Nat) : Int)]]), (11, Ty.pp (cv.tys (nth P k.1))), (12, Ty.pp (cH (cU b q))), (13, Ty.int .i64 0), (14, Ty.pp (cH (cU b (bf q (nth P k.1))))), (15, Ty.int .i64 0), (33, Ty.sl cv P), (34, Ty.int .i64 P.length), (35, Ty.int .i64 (k.1 : Nat))] []) ?_ ?_
  ·refine cr.mk' ?_ ?_
   ·(repeat (first | refine aB ?_ (Ty.aS _) | refine aB ?_ (Ty.aG _))); exact aH
   exact aI
  refine aA (bP rfl (av rfl rfl rfl (gw rfl ?_)))
  apply aM (s := 59) rfl rfl rfl
  ·intro hg; apply aO; (refine bP rfl ?_); refine aD ?_; exact rfl
  ·exact rfl
  ·exact rfl
  apply aM (s := 59) rfl rfl rfl
  ·intro hg; apply aJ (s := 60) rfl (by (rw [hg]; rfl)); apply aO; (refine av rfl rfl rfl ?_); refine aD ?_; exact rfl
  ·exact rfl
  ·exact rfl
  refine iS rfl rfl (gw rfl ?_)
  apply aM (s := 63) rfl rfl rfl
  ·intro hg; apply aO; (refine aQ rfl rfl rfl rfl rfl (by decide) ?_); refine aD ?_; exact rfl
  ·exact rfl
  ·exact rfl
  apply aM (s := 63) rfl rfl rfl
  ·intro hg; apply aJ (s := 64) rfl (by (rw [hg]; rfl)); apply aO; (refine aL rfl rfl rfl rfl ?_); refine aD ?_; exact rfl
  ·exact rfl
  ·exact rfl
  apply aM (s := 63) rfl rfl rfl
  ·intro hg; apply aJ (s := 65) rfl (by (rw [hg]; rfl)); apply aO; (refine bq rfl rfl rfl ?_); refine aD ?_; exact rfl
  ·exact rfl
  ·exact rfl
  apply aM (s := 63) rfl rfl rfl
  ·intro hg; apply aO; (refine aQ rfl rfl rfl rfl rfl (by decide) ?_); refine aD ?_; exact rfl
  ·exact rfl
  ·exact rfl
  apply aM (s := 63) rfl rfl rfl
  ·intro hg; apply aJ (s := 67) rfl (by (rw [hg]; rfl)); apply aO; (refine aL rfl rfl rfl rfl ?_); refine aD ?_; exact rfl
  ·exact rfl
  ·exact rfl
  apply aM (s := 63) rfl rfl rfl
  ·intro hg; apply aJ (s := 68) rfl (by (rw [hg]; rfl)); apply aO; (refine bq rfl rfl rfl ?_); refine aD ?_; exact rfl
  ·exact rfl
  ·exact rfl
  apply aM (s := 63) rfl rfl rfl
  ·intro hg; apply aJ (s := 66) rfl (by (rw [hg]; rfl)); apply aJ (s := 69) rfl (by (rw [hg]; rfl)); apply aO; (refine av rfl rfl rfl ?_); refine aD ?_; exact rfl
  ·exact rfl
  ·exact rfl
  refine iS rfl rfl (gw rfl ?_)
  apply aM (s := 72) rfl rfl rfl
  ·intro hg; apply aO; (refine aQ rfl rfl rfl rfl rfl (by decide) ?_); refine aD ?_; exact rfl
  ·exact rfl
  ·exact rfl
  apply aM (s := 72) rfl rfl rfl
  ·intro hg; apply aJ (s := 73) rfl (by (rw [hg]; rfl)); apply aO; (refine aL rfl rfl rfl rfl ?_); refine aD ?_; exact rfl
  ·exact rfl
  ·exact rfl
  apply aM (s := 72) rfl rfl rfl
  ·intro hg; apply aJ (s := 74) rfl (by (rw [hg]; rfl)); apply aO; (refine bq rfl rfl rfl ?_); refine aD ?_; exact rfl
  ·exact rfl
  ·exact rfl
  apply aM (s := 72) rfl rfl rfl
  ·intro hg; apply aO; (refine aQ rfl rfl rfl rfl rfl (by decide) ?_); refine aD ?_; exact rfl
  ·exact rfl
  ·exact rfl
  apply aM (s := 72) rfl rfl rfl
  ·intro hg; apply aJ (s := 76) rfl (by (rw [hg]; rfl)); apply aO; (refine aL rfl rfl rfl rfl ?_); refine aD ?_; exact rfl
  ·exact rfl
  ·exact rfl
  apply aM (s := 72) rfl rfl rfl
  ·intro hg; apply aJ (s := 77) rfl (by (rw [hg]; rfl)); apply aO; (refine bq rfl rfl rfl ?_); refine aD ?_; exact rfl
  ·exact rfl
  ·exact rfl
  apply aM (s := 72) rfl rfl rfl
  ·intro hg; apply aJ (s := 75) rfl (by (rw [hg]; rfl)); apply aJ (s := 78) rfl (by (rw [hg]; rfl)); apply aO; (refine av rfl rfl rfl ?_); refine aD ?_; exact rfl
  ·exact rfl
  ·exact rfl
  refine iS rfl rfl (aD (aC ?_))
  refine dh rfl (by simp [hz1, hz2]) ?_
  refine ak (aC (aF (aF (aA ?_))))
  refine aQ rfl rfl rfl rfl rfl (by decide) ?_
  refine aL rfl rfl rfl rfl ?_
  refine aQ rfl rfl rfl rfl rfl (by decide) ?_
  refine aL rfl rfl rfl rfl ?_
  refine bY (E := RC) (xs := [(cU b q).lots, (cU b (bf q (nth P k.1))).lots]) rfl rfl rfl rfl rfl (by decide) (by decide) (by repeat (first | exact (aT.nil : aT _ _ [] _) | (show aT _ _ ((_, _) :: _) _; apply aT.one; (· exact (rfl : _ = Ty.sl _ _)); (· exact rfl)))) (by exact rfl) rfl ?_
  refine bq rfl rfl rfl (bP rfl (aD (aC (aY ?_))))
  refine cI (fun (j : {j : Nat // j ≤ 2}) => live [(5, Ty.pp [Ty.int .u16 ((sh : Nat) : Int)]), (7, Ty.pp (cH b)), (8, Ty.sl cv P), (9, Ty.jh 16 [Ty.pp [Ty.int .u16 ((sh : Nat) : Int)]]), (11, Ty.pp (cv.tys (nth P k.1))), (12, Ty.pp (cH (cU b q))), (14, Ty.pp (cH (cU b (bf q (nth P k.1))))), (33, Ty.sl cv P), (34, Ty.int .i64 P.length), (35, Ty.int .i64 (k.1 : Nat)), (85, Ty.sl RC [(cU b q).lots, (cU b (bf q (nth P k.1))).lots]), (86, Ty.int .i64 2), (87, Ty.int .i64 (j.1 : Nat))] []) (fun j => 2 - j.1) (⟨0, by omega⟩) ?_ fun j => ?_
  ·(refine cr.mk' ?_ ?_ <;> (repeat' (first | exact aH | exact aI | refine aB ?_ (Ty.aS _) | refine aB ?_ (Ty.aG _))))
   all_goals trace_state
  have hj := j.2
  refine aF (aA (av rfl rfl rfl (aD (aC (aF ?_)))))
  refine aj rfl (fun hc3 => ?_) (fun hc3 => ?_)
  ·refine ak (aC (aF (aY (aF (aA ?_)))))
   refine bC rfl rfl rfl rfl rfl rfl (by (simp <;> omega)) ?_
   refine aL rfl rfl rfl rfl (xO rfl (aD (aC (aF ?_))))
   have hany := Ln hv hv2 (show j.1 < 2 by omega)
   refine aA (eV rfl (cx rfl ?_))
   refine aq (iz (nth [(cU b q).lots, (cU b (bf q (nth P k.1))).lots] j.1) (Ty.jh 19 [Ty.pp (cH b)]) rfl (Mt b) rfl rfl fun x _ => dM (QL b x) rfl rfl rfl rfl rfl rfl) rfl rfl rfl rfl rfl ?_
   refine aD (aC (dh rfl (hany) (ak (bJ (aC (aA ?_))))))
   refine cD rfl rfl (by omega) (by omega) ?_
   refine bP rfl (aD ?_)
   refine bS (⟨j.1 + 1, by omega⟩) ?_ (by show 2 - (j.1 + 1) < 2 - j.1; omega)
   (refine cr.mk' ?_ ?_ <;> (repeat' (first | exact aH | exact aI | refine aB ?_ (Ty.aS _) | refine aB ?_ (Ty.aG _))))
   all_goals skip
   all_goals trace_state
  refine b9 (aN (aN (aZ rfl (aC (aF (cq mixed rfl (Rr rfl ?_)))))))
  refine aa rfl rfl rfl (by exact Nat.le_of_ble_eq_true rfl) ?_
  refine ID rfl (K3 (cU b q) hp1 sh hsh) rfl rfl rfl rfl rfl (Rr rfl ?_)
  refine aa rfl rfl rfl (by exact Nat.le_of_ble_eq_true rfl) ?_
  refine ID rfl (K3 (cU b (bf q (nth P k.1))) hp2 sh hsh) rfl rfl rfl rfl rfl ?_
  refine bX rfl (by exact List.cons_ne_nil _ _) rfl ?_
  refine bX rfl (by exact List.cons_ne_nil _ _) rfl ?_
  refine bW rfl rfl (by decide) rfl rfl rfl rfl rfl rfl ?_
  refine bW rfl rfl (by decide) rfl rfl rfl rfl rfl rfl ?_
  refine aD ?_
  refine ⟨by kernel_rfl, ?_⟩
  refine aC (aF (cq mixed rfl ?_))
  refine aQ rfl rfl rfl rfl rfl (by decide) ?_
  refine aL rfl rfl rfl rfl ?_
  refine aQ rfl rfl rfl rfl rfl (by decide) ?_
  refine aL rfl rfl rfl rfl ?_
  refine dX rfl rfl rfl rfl rfl rfl ht1 (by omega) ?_
  refine aQ rfl rfl rfl rfl rfl (by decide) ?_
  refine aL rfl rfl rfl rfl ?_
  refine aQ rfl rfl rfl rfl rfl (by decide) ?_
  refine aL rfl rfl rfl rfl ?_
  refine aQ rfl rfl rfl rfl rfl (by decide) ?_
  refine aL rfl rfl rfl rfl ?_
  refine aQ rfl rfl rfl rfl rfl (by decide) ?_
  refine aL rfl rfl rfl rfl ?_
  refine dX rfl rfl rfl rfl rfl rfl ht1 (by omega) ?_
  refine aQ rfl rfl rfl rfl rfl (by decide) ?_
  refine aL rfl rfl rfl rfl ?_
  refine c6 rfl rfl (by exact List.cons_ne_nil _ _) rfl (by repeat (first | exact (aT.nil : aT _ _ [] _) | (show aT _ _ ((_, _) :: _) _; apply aT.one; (· exact (rfl : _ = Ty.int _ _)); (· exact rfl)))) (by exact (rfl : _ = some [_, _, _])) ?_
  refine bY (E := rP) (xs := [⟨(nth (cU b q).lots (nth P k.1).cJ.toNat).inn, (nth P k.1).aim, (nth b.lots (nth P k.1).cJ.toNat).sacks⟩]) rfl rfl rfl rfl rfl (by decide) (by decide) (by repeat (first | exact (aT.nil : aT _ _ [] _) | (show aT _ _ ((_, _) :: _) _; apply aT.agg; (· exact (rfl : _ = Ty.agg _))))) (by exact rfl) rfl ?_
  refine aR rfl rfl rfl rfl rfl (by decide) ?_
  refine cj rfl rfl (by decide) rfl rfl (by exact (rfl : _ = Ty.sl _ _)) rfl (by exact Nat.le_of_ble_eq_true rfl) rfl rfl (by exact rfl) ?_
  refine aD ?_
  refine ⟨by kernel_rfl, ?_⟩
  refine aC (aF ?_)
  refine wz (tg := 19) rfl (Cont.nw (l' := eT (iW sh (cU b q) [ke b q (nth P k.1)])) (by unfold ke; rw [fT (show (nth P k.1).cJ.toNat < b.lots.length by omega)]; rfl)) ?_
  obtain ⟨a0, a1, c0, c1, hP1, hP2, r1, f1, r2, f2, m0, m1⟩ := HE (sh := sh) hr h6 hv ht
  have hs1 := BI (sh := sh) (l := [ke b q (nth P k.1)]) h6 (Nat.le_refl 1) hp1
  have hs2 := BI (sh := sh) (l := []) h6 (Nat.zero_le 1) hp2
  obtain ⟨X, eX⟩ : ∃ X, iW sh (cU b q) [ke b q (nth P k.1)] = X := ⟨_, rfl⟩
  obtain ⟨Y, eY⟩ : ∃ Y, iW sh (cU b (bf q (nth P k.1))) [] = Y := ⟨_, rfl⟩
  rw [eX] at r1 f1 m0 m1 hs1
  rw [eY] at r2 f2 hs2
  refine wz (tg := 19) rfl (Cont.nw (congrArg eT eX)) ?_
  refine wz (tg := 20) rfl (Cont.nw (congrArg eT eY)) ?_
  refine dH (B := live [(5, Ty.pp [Ty.int .u16 ((sh : Nat) : Int)]), (7, Ty.pp (cH b)), (8, Ty.sl cv P), (9, Ty.jh 16 [Ty.pp [Ty.int .u16 ((sh : Nat) : Int)]]), (11, Ty.pp (cv.tys (nth P k.1))), (12, Ty.pp (cH (cU b q))), (14, Ty.pp (cH (cU b (bf q (nth P k.1))))), (18, Ty.ptr 19 0), (19, Ty.ptr 20 0), (33, Ty.sl cv P), (34, Ty.int .i64 P.length), (35, Ty.int .i64 (k.1 : Nat))] [(19, Cont.cells 28 (eT X)), (20, Cont.cells 28 (eT Y))]) ?_ ?_
  ·refine cr.mk' ?_ ?_
   ·(repeat (first | refine aB ?_ (Ty.aS _) | refine aB ?_ (Ty.aG _))); exact aH
   refine aK rfl (Cont.aG _) ?_; refine aK rfl (Cont.aG _) ?_; exact aI
  refine aA ?_
  refine bI rfl rfl (by decide) rfl rfl (by exact Nat.le_of_ble_eq_true rfl) ?_
  refine bY (E := eB) (xs := [0]) rfl rfl rfl rfl rfl (by decide) (by decide) (by repeat (first | exact (aT.nil : aT _ _ [] _) | (show aT _ _ ((_, _) :: _) _; apply aT.one; (· exact (rfl : _ = Ty.int _ _)); (· exact rfl)))) (by exact rfl) rfl ?_
  refine aq (Hs X hs1 [0] (by decide)) rfl rfl rfl rfl rfl ?_
  refine uq rfl (bF rfl rfl (bF rfl rfl (xO rfl (b8 rfl (aD (aC (aF ?_)))))))
  rw [r1, f1]
  refine aA ?_
  refine bI rfl rfl (by decide) rfl rfl (by exact Nat.le_of_ble_eq_true rfl) ?_
  refine Oa [] (Hs Y hs2 [] (by decide)) rfl (by repeat (first | exact lY | refine gE (nr rfl rfl) ?_ | refine gE Du ?_)) rfl rfl (by intro u hu; cases hu) ?_
  refine uq rfl (bF rfl rfl (bF rfl rfl (xO rfl (b8 rfl (aD (aC (aF (aF ?_))))))))
  rw [r2, f2]
  refine dH (B := live [(5, Ty.pp [Ty.int .u16 ((sh : Nat) : Int)]), (7, Ty.pp (cH b)), (8, Ty.sl cv P), (9, Ty.jh 16 [Ty.pp [Ty.int .u16 ((sh : Nat) : Int)]]), (11, Ty.pp (cv.tys (nth P k.1))), (12, Ty.pp (cH (cU b q))), (13, Ty.int .i64 0), (14, Ty.pp (cH (cU b (bf q (nth P k.1))))), (15, Ty.int .i64 0), (18, Ty.ptr 19 0), (20, Ty.sl Bp [[a0, a1], [c0, c1]]), (21, Ty.sl Bp [[c0, c1]]), (33, Ty.sl cv P), (34, Ty.int .i64 P.length), (35, Ty.int .i64 (k.1 : Nat))] [(19, Cont.cells 28 (eT X))]) ?_ ?_
  ·refine cr.mk' ?_ ?_
   ·(repeat (first | refine aB ?_ (Ty.aS _) | refine aB ?_ (Ty.aG _))); exact aH
   refine aK rfl (Cont.aG _) ?_; exact aI
  refine cq mixed rfl (bP rfl (av rfl rfl rfl (gw rfl ?_)))
  apply aM (s := 133) rfl rfl rfl
  ·intro hg; apply aO; (refine bP rfl ?_); refine aD ?_; exact rfl
  ·exact rfl
  ·exact rfl
  apply aM (s := 133) rfl rfl rfl
  ·intro hg; apply aJ (s := 134) rfl (by (rw [hg]; rfl)); apply aO; (refine av rfl rfl rfl ?_); refine aD ?_; exact rfl
  ·exact rfl
  ·exact rfl
  refine iS rfl rfl (gw rfl ?_)
  apply aM (s := 137) rfl rfl rfl
  ·intro hg; apply aO; (refine eV rfl ?_); refine aD ?_; exact rfl
  ·exact rfl
  ·exact rfl
  apply aM (s := 137) rfl rfl rfl
  ·intro hg; apply aJ (s := 138) rfl (by (rw [hg]; rfl)); apply aO; (refine bq rfl rfl rfl ?_); refine aD ?_; exact rfl
  ·exact rfl
  ·exact rfl
  apply aM (s := 137) rfl rfl rfl
  ·intro hg; apply aJ (s := 139) rfl (by (rw [hg]; rfl)); apply aO; (refine av rfl rfl rfl ?_); refine aD ?_; exact rfl
  ·exact rfl
  ·exact rfl
  refine iS rfl rfl (gw rfl ?_)
  apply aM (s := 142) rfl rfl rfl
  ·intro hg; apply aO; (refine eV rfl ?_); refine aD ?_; exact rfl
  ·exact rfl
  ·exact rfl
  apply aM (s := 142) rfl rfl rfl
  ·intro hg; apply aJ (s := 143) rfl (by (rw [hg]; rfl)); apply aO; (refine bq rfl rfl rfl ?_); refine aD ?_; exact rfl
  ·exact rfl
  ·exact rfl
  apply aM (s := 142) rfl rfl rfl
  ·intro hg; apply aJ (s := 144) rfl (by (rw [hg]; rfl)); apply aO; (refine av rfl rfl rfl ?_); refine aD ?_; exact rfl
  ·exact rfl
  ·exact rfl
  refine iS rfl rfl (gw rfl ?_)
  apply aM (s := 147) rfl rfl rfl
  ·intro hg; apply aO; (refine eV rfl ?_); refine aD ?_; exact rfl
  ·exact rfl
  ·exact rfl
  apply aM (s := 147) rfl rfl rfl
  ·intro hg; apply aJ (s := 148) rfl (by (rw [hg]; rfl)); apply aO; (refine bC rfl rfl rfl rfl rfl rfl (by (simp <;> omega)) ?_); refine aD ?_; exact rfl
  ·exact rfl
  ·exact rfl
  apply aM (s := 147) rfl rfl rfl
  ·intro hg; apply aJ (s := 149) rfl (by (rw [hg]; rfl)); apply aO; (refine aL rfl rfl rfl rfl ?_); refine aD ?_; exact rfl
  ·exact rfl
  ·exact rfl
  apply aM (s := 147) rfl rfl rfl
  ·intro hg; apply aO; (refine eV rfl ?_); refine aD ?_; exact rfl
  ·exact rfl
  ·exact rfl
  apply aM (s := 147) rfl rfl rfl
  ·intro hg; apply aJ (s := 151) rfl (by (rw [hg]; rfl)); apply aO; (refine bC rfl rfl rfl rfl rfl rfl (by (simp <;> omega)) ?_); refine aD ?_; exact rfl
  ·exact rfl
  ·exact rfl
  apply aM (s := 147) rfl rfl rfl
  ·intro hg; apply aJ (s := 152) rfl (by (rw [hg]; rfl)); apply aO; (refine aL rfl rfl rfl rfl ?_); refine aD ?_; exact rfl
  ·exact rfl
  ·exact rfl
  apply aM (s := 147) rfl rfl rfl
  ·intro hg; apply aJ (s := 150) rfl (by (rw [hg]; rfl)); apply aJ (s := 153) rfl (by (rw [hg]; rfl)); apply aO; (refine aq (MQ (nth [[a0, a1], [c0, c1]] 1) (nth [[c0, c1]] 0)) rfl rfl rfl rfl rfl ?_); refine aD ?_; exact rfl
  ·exact rfl
  ·exact rfl
  apply aM (s := 147) rfl rfl rfl
  ·intro hg; apply aJ (s := 154) rfl (by (rw [hg]; rfl)); apply aO; (refine dK rfl ?_); refine aD ?_; exact rfl
  ·exact rfl
  ·exact rfl
  refine iS rfl rfl (gw rfl ?_)
  apply aM (s := 157) rfl rfl rfl
  ·intro hg; apply aO; (refine eV rfl ?_); refine aD ?_; exact rfl
  ·exact rfl
  ·exact rfl
  apply aM (s := 157) rfl rfl rfl
  ·intro hg; apply aJ (s := 158) rfl (by (rw [hg]; rfl)); apply aO; (refine bC rfl rfl rfl rfl rfl rfl (by (simp <;> omega)) ?_); refine aD ?_; exact rfl
  ·exact rfl
  ·exact rfl
  apply aM (s := 157) rfl rfl rfl
  ·intro hg; apply aJ (s := 159) rfl (by (rw [hg]; rfl)); apply aO; (refine aL rfl rfl rfl rfl ?_); refine aD ?_; exact rfl
  ·exact rfl
  ·exact rfl
  apply aM (s := 157) rfl rfl rfl
  ·intro hg; apply aJ (s := 160) rfl (by (rw [hg]; rfl)); apply aO; (refine bq rfl rfl rfl ?_); refine aD ?_; exact rfl
  ·exact rfl
  ·exact rfl
  apply aM (s := 157) rfl rfl rfl
  ·intro hg; apply aJ (s := 161) rfl (by (rw [hg]; rfl)); apply aO; (refine av rfl rfl rfl ?_); refine aD ?_; exact rfl
  ·exact rfl
  ·exact rfl
  refine iS rfl rfl (gw rfl ?_)
  apply aM (s := 164) rfl rfl rfl
  ·intro hg; apply aO; (refine eV rfl ?_); refine aD ?_; exact rfl
  ·exact rfl
  ·exact rfl
  apply aM (s := 164) rfl rfl rfl
  ·intro hg; apply aJ (s := 165) rfl (by (rw [hg]; rfl)); apply aO; (refine bC rfl rfl rfl rfl rfl rfl (by (simp <;> omega)) ?_); refine aD ?_; exact rfl
  ·exact rfl
  ·exact rfl
  apply aM (s := 164) rfl rfl rfl
  ·intro hg; apply aJ (s := 166) rfl (by (rw [hg]; rfl)); apply aO; (refine aL rfl rfl rfl rfl ?_); refine aD ?_; exact rfl
  ·exact rfl
  ·exact rfl
  apply aM (s := 164) rfl rfl rfl
  ·intro hg; apply aJ (s := 167) rfl (by (rw [hg]; rfl)); apply aO; (refine bq rfl rfl rfl ?_); refine aD ?_; exact rfl
  ·exact rfl
  ·exact rfl
  apply aM (s := 164) rfl rfl rfl
  ·intro hg; apply aJ (s := 168) rfl (by (rw [hg]; rfl)); apply aO; (refine av rfl rfl rfl ?_); refine aD ?_; exact rfl
  ·exact rfl
  ·exact rfl
  refine iS rfl rfl (aD ?_)
  refine ⟨by kernel_rfl, ?_⟩
  refine aC ?_
  refine dh rfl (by simp [Mu, L8, Qk]) ?_
  refine ak (aC (aF (aA (bP rfl (aD (aC (aY ?_)))))))
  refine cI (fun (y : {y : Nat // y ≤ 2}) => live [(5, Ty.pp [Ty.int .u16 ((sh : Nat) : Int)]), (7, Ty.pp (cH b)), (8, Ty.sl cv P), (9, Ty.jh 16 [Ty.pp [Ty.int .u16 ((sh : Nat) : Int)]]), (11, Ty.pp (cv.tys (nth P k.1))), (12, Ty.pp (cH (cU b q))), (14, Ty.pp (cH (cU b (bf q (nth P k.1))))), (33, Ty.sl cv P), (34, Ty.int .i64 P.length), (35, Ty.int .i64 (k.1 : Nat)), (18, Ty.ptr 19 0), (20, Ty.sl Bp [[a0, a1], [c0, c1]]), (171, Ty.int .i64 (y.1 : Nat))] [(19, Cont.cells 28 (eT X))]) (fun y => 2 - y.1) (⟨0, by omega⟩) ?_ fun y => ?_
  ·(refine cr.mk' ?_ ?_ <;> (repeat' (first | exact aH | exact aI | refine aB ?_ (Ty.aS _) | refine aB ?_ (Ty.aG _) | refine aK rfl (Cont.aG _) ?_)))
   all_goals trace_state
  have hy := y.2
  refine aF (aA (av rfl rfl rfl (aD (aC (aF ?_)))))
  refine aj rfl (fun hc6 => ?_) (fun hc6 => ?_)
  ·refine ak (aC (aF (aY (aF (aA (bP rfl (b8 rfl (aD (aC (aF ?_))))))))))
   have hmo := LA m0 m1 (show y.1 < 2 by omega)
   refine aA ?_
   refine bI rfl rfl (by decide) rfl rfl (by exact Nat.le_of_ble_eq_true rfl) ?_
   refine bP rfl ?_
   refine aq (Pv X hs1 (y.1 : Nat)) rfl rfl rfl rfl rfl ?_
   refine uq rfl (bF rfl rfl (bF rfl rfl (b8 rfl (b8 rfl (aD (aC (aF ?_)))))))
   rw [hmo]
   have hla : (nth [[a0, a1], [c0, c1]] 0).length = 2 := by rw [Mu]; rfl
   have hlb : (nth [[a0, a1], [c0, c1]] 1).length = 2 := by rw [L8]; rfl
   refine cq mixed rfl (bP rfl (av rfl rfl rfl (gw rfl ?_)))
   apply aM (s := 182) rfl rfl rfl
   ·intro hg; apply aO; (refine bP rfl ?_); refine aD ?_; exact rfl
   ·exact rfl
   ·exact rfl
   apply aM (s := 182) rfl rfl rfl
   ·intro hg; apply aO; (refine eV rfl ?_); refine aD ?_; exact rfl
   ·exact rfl
   ·exact rfl
   apply aM (s := 182) rfl rfl rfl
   ·intro hg; apply aJ (s := 184) rfl (by (rw [hg]; rfl)); apply aO; (refine bC rfl rfl rfl rfl rfl rfl (by (simp <;> omega)) ?_); refine aD ?_; exact rfl
   ·exact rfl
   ·exact rfl
   apply aM (s := 182) rfl rfl rfl
   ·intro hg; apply aJ (s := 185) rfl (by (rw [hg]; rfl)); apply aO; (refine aL rfl rfl rfl rfl ?_); refine aD ?_; exact rfl
   ·exact rfl
   ·exact rfl
   apply aM (s := 182) rfl rfl rfl
   ·intro hg; apply aO; (refine bP rfl ?_); refine aD ?_; exact rfl
   ·exact rfl
   ·exact rfl
   apply aM (s := 182) rfl rfl rfl
   ·intro hg; apply aJ (s := 186) rfl (by (rw [hg]; rfl)); apply aJ (s := 187) rfl (by (rw [hg]; rfl)); apply aO; (refine bC rfl rfl rfl rfl rfl rfl (by (dsimp only; omega)) ?_); refine aD ?_; exact rfl
   ·exact rfl
   ·exact rfl
   apply aM (s := 182) rfl rfl rfl
   ·intro hg; apply aJ (s := 188) rfl (by (rw [hg]; rfl)); apply aO; (refine aL rfl rfl rfl rfl ?_); refine aD ?_; exact rfl
   ·exact rfl
   ·exact rfl
   apply aM (s := 182) rfl rfl rfl
   ·intro hg; apply aO; (refine eV rfl ?_); refine aD ?_; exact rfl
   ·exact rfl
   ·exact rfl
   apply aM (s := 182) rfl rfl rfl
   ·intro hg; apply aJ (s := 190) rfl (by (rw [hg]; rfl)); apply aO; (refine bC rfl rfl rfl rfl rfl rfl (by (simp <;> omega)) ?_); refine aD ?_; exact rfl
   ·exact rfl
   ·exact rfl
   apply aM (s := 182) rfl rfl rfl
   ·intro hg; apply aJ (s := 191) rfl (by (rw [hg]; rfl)); apply aO; (refine aL rfl rfl rfl rfl ?_); refine aD ?_; exact rfl
   ·exact rfl
   ·exact rfl
   apply aM (s := 182) rfl rfl rfl
   ·intro hg; apply aO; (refine bP rfl ?_); refine aD ?_; exact rfl
   ·exact rfl
   ·exact rfl
   apply aM (s := 182) rfl rfl rfl
   ·intro hg; apply aJ (s := 192) rfl (by (rw [hg]; rfl)); apply aJ (s := 193) rfl (by (rw [hg]; rfl)); apply aO; (refine bC rfl rfl rfl rfl rfl rfl (by (dsimp only; omega)) ?_); refine aD ?_; exact rfl
   ·exact rfl
   ·exact rfl
   apply aM (s := 182) rfl rfl rfl
   ·intro hg; apply aJ (s := 194) rfl (by (rw [hg]; rfl)); apply aO; (refine aL rfl rfl rfl rfl ?_); refine aD ?_; exact rfl
   ·exact rfl
   ·exact rfl
   apply aM (s := 182) rfl rfl rfl
   ·intro hg; apply aJ (s := 189) rfl (by (rw [hg]; rfl)); apply aJ (s := 195) rfl (by (rw [hg]; rfl)); apply aO; (refine Oq rfl rfl ?_); refine aD ?_; exact rfl
   ·exact rfl
   ·exact rfl
   apply aM (s := 182) rfl rfl rfl
   ·intro hg; apply aJ (s := 183) rfl (by (rw [hg]; rfl)); apply aJ (s := 196) rfl (by (rw [hg]; rfl)); apply aO; (refine av rfl rfl rfl ?_); refine aD ?_; exact rfl
   ·exact rfl
   ·exact rfl
   refine iS rfl rfl (aD ?_)
   refine ⟨by kernel_rfl, ?_⟩
   refine aC ?_
   refine dh rfl (by simp [Mu, L8]) ?_
   refine ak (bJ (aC (aA ?_)))
   refine cD rfl rfl (by omega) (by omega) ?_
   refine bP rfl (aD ?_)
   refine bS (⟨y.1 + 1, by omega⟩) ?_ (by show 2 - (y.1 + 1) < 2 - y.1; omega)
   (refine cr.mk' ?_ ?_ <;> (repeat' (first | exact aH | exact aI | refine aB ?_ (Ty.aS _) | refine aB ?_ (Ty.aG _) | refine aK rfl (Cont.aG _) ?_)))
   all_goals skip
   all_goals trace_state
  refine b9 (aN (aN (aZ rfl (bJ (aC (aA ?_))))))
  refine cD rfl rfl (by omega) (by omega) ?_
  refine bP rfl (aD ?_)
  refine bS (⟨k.1 + 1, by omega⟩) ?_ (by show P.length - (k.1 + 1) < P.length - k.1; omega)
  (refine cr.mk' ?_ ?_ <;> (repeat' (first | exact aH | exact aI | refine aB ?_ (Ty.aS _) | refine aB ?_ (Ty.aG _))))
  all_goals skip
  all_goals trace_state
 refine b9 (aN (aN (aZ rfl (aC (aF (aA (aq (ON) rfl rfl rfl rfl rfl (dJ rfl (aD (aC (au (bT rfl rfl ?_))))))))))))
 all_goals exact bQ rfl rfl
 all_goals trace_state
end Go.Proofs.YtmmcenjknimhbaaGreat
namespace Go.Proofs.YtmmcenjknimhbaaGreat
open Go Go.T Go.RowKit Go.ChangeShapes Go.WideShapes Go.ChangeAt
section
variable {H : Type} {enc : TypeId × Value → H} {W : World} {base : Nat} {held : Bool} {v : Value} {d : DataW H} {p : List MemPlace}
set_option maxRecDepth 100000 in
theorem Pq (hv : Value.okWide Tryz.prog W .any base 59 v) (h : DataW.Trod enc Tryz.prog W 0 (fun _ => true) held 59 v d p) : ∃ n : Int, (0 ≤ n ∧ n ≤ 65535) ∧ (Ty.int .u16 n).den W rQ v := by
 obtain ⟨n, rfl, _, _, hw⟩ := open_int Tryz.underlying59 hv h
 refine ⟨n, ?_, rfl⟩
 simp [Lit.wf, IntKind.wrap] at hw
 have e1 : IntKind.u16.min = 0 := rfl
 have e2 : IntKind.u16.max = 65535 := rfl
 omega
end
theorem Cf (g t : List Int) (n : Int) (h : 0 ≤ n ∧ n ≤ 65535) : cy Tryz.prog 4 [Ty.sl U8 g, Ty.sl U8 t, Ty.int .u16 n] (Ty.bool true) := by
 obtain ⟨k, rfl⟩ := Int.eq_ofNat_of_zero_le h.1
 exact Db g t k (by omega)
end Go.Proofs.YtmmcenjknimhbaaGreat
