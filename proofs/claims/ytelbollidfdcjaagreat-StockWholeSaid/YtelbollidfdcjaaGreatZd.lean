/- Lemmas: the program and the reference walked, plain laws. -/
import Derived.Test.YtelbollidfdcjaaGreatZc
namespace Go.Proofs.YtelbollidfdcjaaGreat
open Go Go.T
set_option maxHeartbeats 16000000
theorem Jg : Tryz.prog.underlying 28 = some (.slice 3) := by kernel_rfl
theorem LM : Tryz.prog.underlying 222 = some (.slice 199) := by kernel_rfl
section
variable {y : bB} {fl : List bw} {a : List Int} {n : Nat} {has : Nat → Bool} {xs : List Int}
theorem Ma {G : Nat → Int} (h : gN fl n a) : Kj fl n G a a := ⟨h, rfl⟩
theorem G5 {c : Nat → Bool} {b : Nat} (hl : a.length = (aQ y c).length) (hb : b < y.bins.length) : y.kept b 0 < a.length := by rw [hl]; exact Dn hb (Nat.zero_le _)
theorem Ir {x : List Int} {i k : Nat} (h : i = k) : iO has x i = iO has x k := by rw [h]
theorem I7 (fl : List bw) (has : Nat → Bool) (x : List Int) : iO has x fl.length = iX fl has x := rfl
theorem Iq (hN : Net fl n) (hn : 0 < n) (hB : Bd fl) (h : gN fl n a) : (⟨iX fl has (gI fl n (cy has true) a), iX fl has (gI fl n (cy has false) (z3 fl n has a))⟩ : Span) = gR fl n has := (qt hN hn hB h).2.2.eq.symm
def gx (y : bB) (a : List Int) (k : Nat) : List Int := (List.range k).map fun b => nth a (y.kept b 0)
theorem Aq (k : Nat) : gx y a k ++ [nth a (y.kept k 0)] = gx y a (k + 1) := by unfold gx; rw [List.range_succ, List.map_append]; rfl
theorem Ar : gx y a 0 = [] := rfl
theorem Bp (k : Nat) : (gx y a k).length = k := by unfold gx; rw [List.length_map, List.length_range]
theorem told_eq (y : bB) (a : List Int) : (⟨gx y a y.bins.length, a.drop (y.bins.length * (y.D + 1))⟩ : eK) = fq y a := rfl
theorem Hy (h : xs = []) : (Ty.kH (.slice none 0 0)).Sub (Ty.row cj 3 26 xs) := by subst h; exact Ty.lU
theorem lo_eq (fl : List bw) (n : Nat) (has : Nat → Bool) (a : List Int) : gI fl n (cy has true) a = z3 fl n has a := rfl
theorem hi_eq (fl : List bw) (n : Nat) (has : Nat → Bool) (a : List Int) : gI fl n (cy has false) (z3 fl n has a) = xM fl n has a := rfl
end
attribute [local irreducible] aQ gU Way.ga Way.fin Way.room eP eC eo gF over bJ cK dW eR jG fA gb jy cU gB fX fW cy cG gI oJ iH iO iX gR z3 xM gx bB.kept
attribute [local irreducible] iw fu nh ru jS jR jO jN jQ rZ jL rj eO gy rY g9 rX nth fT dg aq eA bodyPost Exit.then Exit.inBlock Code.wp Code.wpIn rm jU rq rW jP eT ct cx bodyPostM eU
set_option maxRecDepth 100000 in
theorem zi (l : List Int) (h : l.length ≤ 1000) : eA Tryz.prog 172 [Ty.sl cj l] (Ty.sl cj l) := by
 refine az Tryz.func172 rfl (by decide) Tryz.ntmps172 (by exact Nat.le_of_ble_eq_true rfl) fun w0 M0 => ?_
 refine aE (aA (mI rfl (aD (aC (aE (aE (aA (gC rfl (Cl Jg rfl ?_)))))))))
 refine aD (aC ?_)
 refine xG rfl (fun hc1 => ?_) (fun hc1 => ?_)
 ·
  refine aE (aA (mI rfl (aD (aC (bC (aX (bl rfl rfl ?_)))))))
  all_goals skip
  exact fo hc1
 refine aj (aC (aE (aA ?_)))
 refine wL (E := cj) rfl rfl rfl rfl ?_
 refine gC rfl ?_
 refine fO rfl rfl (by decide) rfl rfl rfl rfl rfl rfl (by decide) (by (simp <;> omega)) (by (simp <;> omega)) ?_
 refine G4 rfl (aD (aC (bC (bl rfl rfl ?_))))
 all_goals exact C9 (by decide)
 skip
set_option maxRecDepth 100000 in
theorem GY (y : bB) (fl : List bw) (a : List Int) (h : kg y fl a) (hfe : gN fl (y.cells + 1) a) (th : Ty) (h1 : th.deps = []) (h2 : th.cdeps = []) (has : Nat → Bool) (hf : ∀ i, i < fl.length → nj Tryz.prog (Ty.nd th h1 h2) [Ty.int .i64 ((i : Nat) : Int)] (Ty.bool (has i))) (less : Bool) : eT Tryz.prog 164 [1000] [(1000, Cont.vec cj 3 a)] [Ty.pp (eF y fl 1000 fl.length), Ty.agg [Ty.nd th h1 h2, Ty.bool less]] [(1000, Cont.vec cj 3 (gI fl (y.cells + 1) (cy has less) a))] (Ty.int .i64 (iX fl has (gI fl (y.cells + 1) (cy has less) a))) := by
 refine dj Tryz.func164 rfl (by decide) Tryz.ntmps164 (by exact Nat.le_of_ble_eq_true rfl) fun w0 M0 => ?_
 have hN := h.net
 have hfl := h.nk
 have hcl := mU h.right
 have hG := rM (has := has) less
 have hn : 0 < (y.cells + 1) := Nat.succ_pos _
 refine aE (aA (bM rfl (cF rfl (aD (aC (aE (ak ?_)))))))
 refine cV (fun (b : {b : List Int // Kj fl (y.cells + 1) (cy has less) a b}) => live [(0, Ty.pp (eF y fl 1000 fl.length)), (3, Ty.pp [Ty.nd th h1 h2, Ty.bool less])] [(1000, Cont.vec cj 3 b.1)]) (fun b => (300 * fl.length - kG fl (cy has less) b.1).toNat) (⟨a, Ma hfe⟩) ?_ fun b => ?_
 ·(refine c9.mk' ?_ ?_ <;> (repeat' (first | exact aH | exact aI | refine aB ?_ (Ty.aW _) | refine aB ?_ (Ty.aF _) | refine aG rfl (Cont.aF _) ?_)))
 have hF : kg y fl b.1 := ⟨h.right, h.net, h.bd, b.2.feas.1, h.nk⟩
 have hal := hF.inb.1
 refine ak (aE (aA (jK rfl ?_)))
 refine aa rfl rfl rfl (by exact Nat.le_of_ble_eq_true rfl) ?_
 refine cD [(1000, 1000)] [] [(1000, Cont.vec cj 3 b.1)] (Hr y fl b.1 hF th h1 h2 has hf less) rfl rfl (aJ (aJ bK (aO rfl rfl)) (ew (aJ (aJ (aJ (aJ (aJ (aJ bK (ef (by exact List.mem_cons_self))) (aO rfl rfl)) (aO rfl rfl)) (aO rfl rfl)) (aO rfl rfl)) (aO rfl rfl)))) (cC (a := 1000) (b := 1000) (by exact List.mem_cons_self) rfl (cB (by exact List.mem_cons_self) rfl) pre_nil) (bL (a := 1000) (b := 1000) (by decide) rfl (cB (by decide) rfl) post_nil) (aO rfl rfl) ?_
 refine M7 rfl (aD (aC (aE (aE (aA (Mq rfl (FG LM rfl (aD (aC ?_)))))))))
 refine cW rfl (fun hc1 => ?_) (fun hc1 => ?_)
 ·
  refine cQ (aR (fk rfl (aR (au rfl (aC (aE ?_))))))
  have hb : b.1 = (gI fl (y.cells + 1) (cy has less) a) := b.2.done (List.isEmpty_iff.1 hc1)
  have hF2 : kg y fl (gI fl (y.cells + 1) (cy has less) a) := by rw [← hb]; exact hF
  have hal2 := hF2.inb.1
  refine gL (tg := 1000) rfl (Cont.dR hb) ?_
  refine aA (cF rfl (aD (aC (aE (aE (aA (jK rfl (bt rfl ?_))))))))
  refine aS rfl rfl rfl rfl rfl (by decide) ?_
  refine aM rfl rfl rfl rfl (va rfl rfl rfl (bO rfl (aD (aC (ak ?_)))))
  refine cV (fun (i : {i : Nat // i ≤ fl.length}) => live [(0, Ty.pp (eF y fl 1000 fl.length)), (3, Ty.pp [Ty.nd th h1 h2, Ty.bool less]), (11, Ty.int .i64 (iO has (gI fl (y.cells + 1) (cy has less) a) i.1)), (43, Ty.vs 1000 fl.length), (44, Ty.int .i64 fl.length), (45, Ty.int .i64 (i.1 : Nat))] [(1000, Cont.vec cj 3 (gI fl (y.cells + 1) (cy has less) a))]) (fun i => fl.length - i.1) (⟨0, by omega⟩) ?_ fun i => ?_
  ·(refine c9.mk' ?_ ?_ <;> (repeat' (first | exact aH | exact aI | refine aB ?_ (Ty.aW _) | refine aB ?_ (Ty.aF _) | refine aG rfl (Cont.aF _) ?_ | refine aB ?_ ?_)))
   all_goals exact Ty.ah (by unfold iO; rfl)
  have hi := i.2
  have hup := Ew (has := has) (x := (gI fl (y.cells + 1) (cy has less) a)) (k := i.1) fun q hq => (hF2.K6 (by omega)).1
  refine aE (aA (bD rfl rfl rfl (aD (aC (aE ?_)))))
  refine av rfl (fun hc2 => ?_) (fun hc2 => ?_)
  ·
   refine aj (aC (aE (ak (aE (aA (bO rfl ?_))))))
   refine dF rfl rfl rfl rfl rfl (by omega) ?_
   refine dY rfl rfl rfl (by decide) rfl rfl (by omega) rfl ?_
   refine cF rfl (cF rfl (aD (aC (aE ?_))))
   have hai := (hF2.K6 (show i.1 < fl.length by omega)).1
   refine aA ?_
   refine aS rfl rfl rfl rfl rfl (by decide) ?_
   refine aM rfl rfl rfl rfl (bO rfl ?_)
   refine eV rfl (hf i.1 (by omega)) rfl ?_
   refine aD (aC ?_)
   refine cW rfl (fun hc3 => ?_) (fun hc3 => ?_)
   ·
    refine aA (bO rfl (bO rfl ?_))
    refine bg rfl rfl (by omega) (by omega) ?_
    refine cF rfl (aD (bQ (aC (aA ?_))))
    refine bg rfl rfl (by omega) (by omega) ?_
    refine bO rfl (aD ?_)
    refine bV (⟨i.1 + 1, by omega⟩) ?_ (by show fl.length - (i.1 + 1) < fl.length - i.1; omega)
    (refine c9.mk' ?_ ?_ <;> (repeat' (first | exact aH | exact aI | refine aB ?_ (Ty.aW _) | refine aB ?_ (Ty.aF _) | refine aG rfl (Cont.aF _) ?_ | refine aB ?_ ?_)))
    all_goals skip
    all_goals exact Ty.ah (En hc3)
   refine aj (bQ (aC (aA ?_)))
   refine bg rfl rfl (by omega) (by omega) ?_
   refine bO rfl (aD ?_)
   refine bV (⟨i.1 + 1, by omega⟩) ?_ (by show fl.length - (i.1 + 1) < fl.length - i.1; omega)
   (refine c9.mk' ?_ ?_ <;> (repeat' (first | exact aH | exact aI | refine aB ?_ (Ty.aW _) | refine aB ?_ (Ty.aF _) | refine aG rfl (Cont.aF _) ?_ | refine aB ?_ ?_)))
   all_goals skip
   all_goals exact Ty.ah (GP hc3)
  refine cQ (aR (aR (au rfl (aC (aE (aA (bO rfl (cF rfl (aD ?_)))))))))
  refine aC (bC ?_)
  refine fm [1000] rfl rfl (by decide) (by repeat (first | exact fB | refine eD rfl (cB (by decide) rfl) ?_)) ?_
  all_goals skip
  all_goals exact fQ (nS rfl rfl (congrArg (Ty.int .i64) ((Ir (by have := i.2; omega)).trans (I7 fl has _))))
 refine aj (aC (aE ?_))
 refine gl (s := 5) rfl (show (Ty.FB fY (cG fl b.1 (y.cells + 1) (cy has less))).Sub (Ty.sl fY (cG fl b.1 (y.cells + 1) (cy has less))) from Ty.KS) ?_
 have hne : ¬ (cG fl b.1 (y.cells + 1) (cy has less)) = [] := fun e => by rw [e] at hc1; cases hc1
 have hnx := b.2.next hN hn h.bd hG hne
 have hC := hnx.2.2
 have hlen := hC.nk
 refine aA (cF rfl (aD (aC (aE (aE (aA (gC rfl (cz rfl rfl rfl (bO rfl ?_)))))))))
 refine aD (aC (ak ?_))
 refine cV (fun (j : {j : Nat // j ≤ (cG fl b.1 (y.cells + 1) (cy has less)).length}) => live [(0, Ty.pp (eF y fl 1000 fl.length)), (3, Ty.pp [Ty.nd th h1 h2, Ty.bool less]), (5, Ty.sl fY (cG fl b.1 (y.cells + 1) (cy has less))), (6, Ty.int .i64 (fA fl b.1 300 ((cG fl b.1 (y.cells + 1) (cy has less)).take j.1))), (19, Ty.sl fY (cG fl b.1 (y.cells + 1) (cy has less))), (20, Ty.int .i64 (cG fl b.1 (y.cells + 1) (cy has less)).length), (21, Ty.int .i64 (j.1 : Nat))] [(1000, Cont.vec cj 3 b.1)]) (fun j => (cG fl b.1 (y.cells + 1) (cy has less)).length - j.1) (⟨0, by omega⟩) ?_ fun j => ?_
 ·(refine c9.mk' ?_ ?_ <;> (repeat' (first | exact aH | exact aI | refine aB ?_ (Ty.aW _) | refine aB ?_ (Ty.aF _) | refine aG rfl (Cont.aF _) ?_ | refine aB ?_ ?_)))
  all_goals exact Ty.ah (vM _ _ _)
 have hj := j.2
 refine aE (aA (bD rfl rfl rfl (aD (aC (aE ?_)))))
 refine av rfl (fun hc4 => ?_) (fun hc4 => ?_)
 ·
  refine aj (aC (aE (ak (aE (aA ?_)))))
  refine bN rfl rfl rfl rfl rfl rfl (by omega) ?_
  refine aa rfl rfl rfl (by exact Nat.le_of_ble_eq_true rfl) ?_
  refine bz rfl (by exact List.cons_ne_nil _ _) rfl ?_
  refine bu rfl rfl (by decide) rfl rfl rfl rfl rfl rfl ?_
  refine aD (aC (aE ?_))
  have hwj := hC.ways _ (cM (xs := (cG fl b.1 (y.cells + 1) (cy has less))) (k := j.1) (by omega))
  refine aA (jK rfl ?_)
  refine bT rfl rfl (by decide) rfl rfl (by exact Nat.le_of_ble_eq_true rfl) ?_
  refine dV [1000] (DG y fl b.1 hF (nth (cG fl b.1 (y.cells + 1) (cy has less)) j.1) hwj.1) rfl (aL (jt (aL (af (bF rfl rfl)) (aL (af (bF rfl rfl)) (aL (af (bF rfl rfl)) (aL (af (bF rfl rfl)) (aL (af (bF rfl rfl)) (aL (iL rfl hal (by decide) rfl) bX))))))) (aL (af (bF rfl rfl)) bX)) (by exact oc (by repeat (first | exact o9 | refine mw (by exact dG _ _) ?_))) ?_
  refine sX rfl (bR rfl rfl (bR rfl rfl (cF rfl (cF rfl (aD (aC (aA (bO rfl (bO rfl ?_)))))))))
  refine bp (E := cj) (xs := [_]) rfl rfl rfl rfl rfl (by decide) (by decide) (by repeat (first | exact (aY.nil : aY _ _ [] _) | (show aY _ _ ((_, _) :: _) _; apply aY.one; (· exact (rfl : _ = Ty.int _ _)); (· exact rfl)))) (by exact rfl) rfl ?_
  refine ay (ql _ _) rfl rfl rfl rfl rfl (cF rfl (aD (bQ (aC (aA ?_)))))
  refine bg rfl rfl (by omega) (by omega) ?_
  refine bO rfl (aD ?_)
  refine bV (⟨j.1 + 1, by omega⟩) ?_ (by show (cG fl b.1 (y.cells + 1) (cy has less)).length - (j.1 + 1) < (cG fl b.1 (y.cells + 1) (cy has less)).length - j.1; omega)
  (refine c9.mk' ?_ ?_ <;> (repeat' (first | exact aH | exact aI | refine aB ?_ (Ty.aW _) | refine aB ?_ (Ty.aF _) | refine aG rfl (Cont.aF _) ?_ | refine aB ?_ ?_)))
  all_goals skip
  all_goals exact Ty.ah (by rw [dS (by omega)]; exact vY)
 refine cQ (aR (aR (au rfl (aC ?_))))
 have hmp := pI (fl := fl) (a := b.1) (m := 300) (by decide) (cG fl b.1 (y.cells + 1) (cy has less)) hC.ways
 have hml := (qw (fl := fl) (a := b.1) 300 (cG fl b.1 (y.cells + 1) (cy has less))).1
 refine gl (s := 6) rfl (Ty.ah (by rw [List.take_of_length_le (by omega)] : _ = fA fl b.1 300 (cG fl b.1 (y.cells + 1) (cy has less)))) ?_
 refine aA (jK rfl (gC rfl (bO rfl ?_)))
 refine cD [(1000, 1000)] [] [(1000, Cont.vec cj 3 (eC b.1 (cG fl b.1 (y.cells + 1) (cy has less)) (fA fl b.1 300 (cG fl b.1 (y.cells + 1) (cy has less)))))] (Ff y fl b.1 hF (cG fl b.1 (y.cells + 1) (cy has less)) (by omega) (fun w hw => (hC.ways w hw).1) (fA fl b.1 300 (cG fl b.1 (y.cells + 1) (cy has less))) (by omega)) rfl rfl (aJ (aJ (aJ bK (aO rfl rfl)) (aO rfl rfl)) (ew (aJ (aJ (aJ (aJ (aJ (aJ bK (ef (by exact List.mem_cons_self))) (aO rfl rfl)) (aO rfl rfl)) (aO rfl rfl)) (aO rfl rfl)) (aO rfl rfl)))) (cC (a := 1000) (b := 1000) (by exact List.mem_cons_self) rfl (cB (by exact List.mem_cons_self) rfl) pre_nil) (bL (a := 1000) (b := 1000) (by decide) rfl (cB (by decide) rfl) post_nil) (aO rfl rfl) ?_
 refine aD (bQ ?_)
 refine bV (⟨eC b.1 (cG fl b.1 (y.cells + 1) (cy has less)) (fA fl b.1 300 (cG fl b.1 (y.cells + 1) (cy has less))), hnx.1⟩) ?_ (by exact hnx.2.1)
 (refine c9.mk' ?_ ?_ <;> (repeat' (first | exact aH | exact aI | refine aB ?_ (Ty.aW _) | refine aB ?_ (Ty.aF _) | refine aG rfl (Cont.aF _) ?_)))
 all_goals skip
set_option maxRecDepth 100000 in
theorem CT (y : bB) (fl : List bw) (a : List Int) (h : kg y fl a) (hfe : gN fl (y.cells + 1) a) (th : Ty) (h1 : th.deps = []) (h2 : th.cdeps = []) (has : Nat → Bool) (hf : ∀ i, i < fl.length → nj Tryz.prog (Ty.nd th h1 h2) [Ty.int .i64 ((i : Nat) : Int)] (Ty.bool (has i))) (ho : th.one = true) : eT Tryz.prog 87 [1000] [(1000, Cont.vec cj 3 a)] [Ty.pp (eF y fl 1000 fl.length), Ty.nd th h1 h2] [(1000, Cont.vec cj 3 (xM fl (y.cells + 1) has a))] (Ty.agg (dA.tys (gR fl (y.cells + 1) has))) := by
 refine dj Tryz.func87 rfl (by decide) Tryz.ntmps87 (by exact Nat.le_of_ble_eq_true rfl) fun w0 M0 => ?_
 have hsp := qt (has := has) h.net (Nat.succ_pos _) h.bd hfe
 have hF : kg y fl (z3 fl (y.cells + 1) has a) := ⟨h.right, h.net, h.bd, hsp.1.1, h.nk⟩
 refine aE (aA ?_)
 refine bz rfl (by exact List.cons_ne_nil _ _) rfl ?_
 refine aD (aC (aE (aA (jK rfl ?_))))
 refine eJ (ty := Ty.nd th h1 h2) rfl ?_
 refine dD rfl rfl (by exact List.cons_ne_nil _ _) rfl (aY.one (ty := Ty.nd th h1 h2) rfl ho (aY.one (ty := Ty.bool true) rfl rfl aY.nil)) (by exact (rfl : _ = some [_, _])) ?_
 refine cD [(1000, 1000)] [] [(1000, Cont.vec cj 3 (z3 fl (y.cells + 1) has a))] (GY y fl a h hfe th h1 h2 has hf true) rfl rfl (aJ (aJ bK (aO rfl rfl)) (ew (aJ (aJ (aJ (aJ (aJ (aJ bK (ef (by exact List.mem_cons_self))) (aO rfl rfl)) (aO rfl rfl)) (aO rfl rfl)) (aO rfl rfl)) (aO rfl rfl)))) (cC (a := 1000) (b := 1000) (by exact List.mem_cons_self) rfl (cB (by exact List.mem_cons_self) rfl) pre_nil) (bL (a := 1000) (b := 1000) (by decide) rfl (cB (by decide) (lo_eq _ _ _ _)) post_nil) (aO rfl rfl) ?_
 refine cF rfl (aD (aC (aE (aA (bO rfl (jK rfl ?_))))))
 refine eJ (ty := Ty.nd th h1 h2) rfl ?_
 refine dD rfl rfl (by exact List.cons_ne_nil _ _) rfl (aY.one (ty := Ty.nd th h1 h2) rfl ho (aY.one (ty := Ty.bool false) rfl rfl aY.nil)) (by exact (rfl : _ = some [_, _])) ?_
 refine cD [(1000, 1000)] [] [(1000, Cont.vec cj 3 (xM fl (y.cells + 1) has a))] (GY y fl (z3 fl (y.cells + 1) has a) hF hsp.1 th h1 h2 has hf false) rfl rfl (aJ (aJ bK (aO rfl rfl)) (ew (aJ (aJ (aJ (aJ (aJ (aJ bK (ef (by exact List.mem_cons_self))) (aO rfl rfl)) (aO rfl rfl)) (aO rfl rfl)) (aO rfl rfl)) (aO rfl rfl)))) (cC (a := 1000) (b := 1000) (by exact List.mem_cons_self) rfl (cB (by exact List.mem_cons_self) rfl) pre_nil) (bL (a := 1000) (b := 1000) (by decide) rfl (cB (by decide) (hi_eq _ _ _ _)) post_nil) (aO rfl rfl) ?_
 refine dD rfl rfl (by exact List.cons_ne_nil _ _) rfl (by repeat (first | exact (aY.nil : aY _ _ [] _) | (show aY _ _ ((_, _) :: _) _; apply aY.one; (· exact (rfl : _ = Ty.int _ _)); (· exact rfl)))) (by exact (rfl : _ = some [_, _])) ?_
 refine bu rfl rfl (by decide) rfl rfl rfl rfl rfl rfl ?_
 refine aD (aC (bC ?_))
 refine Dg [1000] rfl rfl rfl rfl (by decide) rfl rfl rfl (by decide) (by repeat (first | exact fB | refine eD rfl (cB (by decide) rfl) ?_)) ?_
 all_goals skip
 all_goals exact fQ (nS rfl rfl (congrArg (fun s => Ty.agg (dA.tys s)) (Iq h.net (Nat.succ_pos _) h.bd hfe)))
set_option maxRecDepth 100000 in
theorem Kf (y : bB) (c : Nat → Bool) (a : List Int) (hr : y.cm) (hl : a.length = (aQ y c).length) : eA Tryz.prog 120 [Ty.pp (lQ y (aQ y c) a)] (pR (fq y a)) := by
 refine az Tryz.func120 rfl (by decide) Tryz.ntmps120 (by exact Nat.le_of_ble_eq_true rfl) fun w0 M0 => ?_
 have hfl := fC (y := y) (c := c)
 have h1 := hr.bins
 have h2 := hr.days
 have h3 := D_eq hr
 have h4 := hr.moves
 have hf34 : (aQ y c).length ≤ 34 := ji hr
 refine aE (aA ?_)
 refine bz rfl (by exact List.cons_ne_nil _ _) rfl ?_
 refine aD (aC (aE (aA ?_)))
 refine bz rfl (by exact List.cons_ne_nil _ _) rfl ?_
 refine aD (aC (aE (aE (aA (jK rfl (bt rfl ?_))))))
 refine aS rfl rfl rfl rfl rfl (by decide) ?_
 refine aS rfl rfl rfl rfl rfl (by decide) ?_
 refine aM rfl rfl rfl rfl (cz rfl rfl rfl (bO rfl (aD (aC (ak ?_)))))
 refine cV (fun (k : {k : Nat // k ≤ y.bins.length}) => live [(0, Ty.pp (lQ y (aQ y c) a)), (2, Ty.ptr 3 0), (3, Ty.ptr 4 0), (9, Ty.sl eG y.bins), (10, Ty.int .i64 y.bins.length), (11, Ty.int .i64 (k.1 : Nat))] [(3, Cont.cells 30 [Ty.ex (.slice none 0 0), Ty.ex (.slice none 0 0)]), (4, Cont.cells 30 [Ty.row cj 3 26 (gx y a k.1), Ty.ex (.slice none 0 0)])]) (fun k => y.bins.length - k.1) (⟨0, by omega⟩) ?_ fun k => ?_
 ·(refine c9.mk' ?_ ?_ <;> (repeat' (first | exact aH | exact aI | exact c7 | refine aB ?_ (Ty.aW _) | refine aB ?_ (Ty.aF _) | refine aG rfl (Cont.aF _) ?_ | refine aG rfl (Cont.c6 ?_) ?_ | refine bS ?_ (Ty.aF _) | refine bS ?_ ?_)))
  all_goals exact Hy Ar
 have hk := k.2
 have hfk := Bp (y := y) (a := a) k.1
 refine aE (aA (bD rfl rfl rfl (aD (aC (aE ?_)))))
 refine av rfl (fun hc1 => ?_) (fun hc1 => ?_)
 ·
  refine aj (aC (aE (ak (aE (aA (bO rfl (cF rfl (aD (aC ?_)))))))))
  have hkl := G5 hl (show k.1 < y.bins.length by omega)
  refine cN mixed rfl ?_
  refine aK rfl rfl rfl rfl rfl (by decide) ?_
  refine aP rfl rfl (by decide) rfl rfl rfl ?_
  refine jK rfl (bt rfl ?_)
  refine aS rfl rfl rfl rfl rfl (by decide) ?_
  refine aM rfl rfl rfl rfl (jK rfl (bO rfl ?_))
  refine dV [] (Ca y hr k.1 0 (by omega) (Nat.zero_le _)) rfl (aL (mX (l1 := bk y) (l2 := [Ty.sl dh (aQ y c), Ty.sl cj a]) rfl rfl) (aL (af (bF rfl rfl)) (aL (af (bF rfl rfl)) bX))) (by exact dG _ _) ?_
  refine bN rfl rfl rfl rfl rfl rfl (by omega) ?_
  refine aM rfl rfl rfl rfl ?_
  refine bp (E := cj) (xs := [_]) rfl rfl rfl rfl rfl (by decide) (by decide) (by repeat (first | exact (aY.nil : aY _ _ [] _) | (show aY _ _ ((_, _) :: _) _; apply aY.one; (· exact (rfl : _ = Ty.int _ _)); (· exact rfl)))) (by exact rfl) rfl ?_
  refine fO rfl rfl (by decide) rfl rfl rfl rfl rfl rfl (by decide) (by (simp <;> omega)) (by (simp <;> omega)) ?_
  refine aK rfl rfl rfl rfl rfl (by decide) ?_
  refine cZ rfl rfl (by decide) rfl rfl (by exact (rfl : _ = Ty.row _ _ _ _)) rfl (by exact Nat.le_of_ble_eq_true rfl) rfl rfl (by exact rfl) ?_
  refine aD ?_
  refine ⟨by kernel_rfl, ?_⟩
  refine bQ (aC (aA ?_))
  refine bg rfl rfl (by omega) (by omega) ?_
  refine bO rfl (aD ?_)
  refine bV (⟨k.1 + 1, by omega⟩) ?_ (by show y.bins.length - (k.1 + 1) < y.bins.length - k.1; omega)
  (refine c9.mk' ?_ ?_ <;> (repeat' (first | exact aH | exact aI | exact c7 | refine aB ?_ (Ty.aW _) | refine aB ?_ (Ty.aF _) | refine aG rfl (Cont.aF _) ?_ | refine aG rfl (Cont.c6 ?_) ?_ | refine bS ?_ (Ty.aF _) | refine bS ?_ ?_)))
  all_goals skip
  all_goals exact Ty.fS (Aq _)
 refine cQ (aR (aR (au rfl (aC (aE (cN mixed rfl (jK rfl (bt rfl ?_))))))))
 refine aS rfl rfl rfl rfl rfl (by decide) ?_
 refine aM rfl rfl rfl rfl (jK rfl (bt rfl ?_))
 refine aS rfl rfl rfl rfl rfl (by decide) ?_
 refine aM rfl rfl rfl rfl (cz rfl rfl rfl (jK rfl (bt rfl ?_)))
 refine aS rfl rfl rfl rfl rfl (by decide) ?_
 refine aS rfl rfl rfl rfl rfl (by decide) ?_
 refine aM rfl rfl rfl rfl (cz rfl rfl rfl ?_)
 refine fU rfl rfl (by omega) (by omega) ?_
 refine HS (lo := y.bins.length * (y.D + 1)) rfl (by exact congrArg (Ty.int .i64) (by rw [hfl]; omega : ((aQ y c).length : Int) - (y.moves.length : Int) = ((y.bins.length * (y.D + 1) : Nat) : Int))) rfl rfl rfl rfl (by rw [hl]; omega) ?_
 refine ay (zi _ (by rw [List.length_drop]; omega)) rfl rfl rfl rfl rfl ?_
 refine aK rfl rfl rfl rfl rfl (by decide) ?_
 refine cZ rfl rfl (by decide) rfl rfl (by exact (rfl : _ = Ty.sl _ _)) rfl (by exact Nat.le_of_ble_eq_true rfl) rfl rfl (by exact rfl) ?_
 refine aD ?_
 refine ⟨by kernel_rfl, ?_⟩
 refine aC (aE (aA ?_))
 refine bT rfl rfl (by decide) rfl rfl (by exact Nat.le_of_ble_eq_true rfl) ?_
 refine bu rfl rfl (by decide) rfl rfl rfl rfl rfl rfl ?_
 refine aD (aC (bC ?_))
 refine yt rfl rfl rfl rfl (by decide) rfl rfl rfl ?_
 exact DU (ts := fD (fq y a)) (ox (v9 (by decide) (show gx y a k.1 = (fq y a).first by rw [show k.1 = y.bins.length by have := k.2; omega]; exact congrArg eK.first (told_eq y a))) (ox (cI rfl rfl) A7))
end Go.Proofs.YtelbollidfdcjaaGreat
namespace Go.Proofs.YtelbollidfdcjaaGreat
open Go Go.T
set_option maxHeartbeats 16000000
noncomputable def jq (y : bB) : List Int := (cU (aQ y (nth bZ)) (y.cells + 1) (gU (aQ y (nth bZ)))).2.2
noncomputable def cO (y : bB) : Int := if bq y = 0 then (if (cU (aQ y (nth bZ)) (y.cells + 1) (gU (aQ y (nth bZ)))).2.1 = true then 7 else 0) else bq y
noncomputable def tY (y : bB) : eK := if cO y = 0 then fq y (jq y) else ⟨[], []⟩
theorem jJ : bZ.length = 8 := rfl
theorem lC {y : bB} (hr : y.cm) {c : Nat → Bool} : Gw y (aQ y c) (gU (aQ y c)) := ⟨hr, lB hr, uf hr, fun e => FR (xB e), ji hr⟩
section
variable {y : bB}
theorem open_1 (h : ¬ bq y = 0) : bq y = cO y := (if_neg h).symm
theorem wB (h : bq y = 0) (h2 : (cU (aQ y (nth bZ)) (y.cells + 1) (gU (aQ y (nth bZ)))).2.1 = true) : 7 = cO y := by unfold cO; rw [if_pos h, if_pos h2]
theorem open_3 (h : bq y = 0) (h2 : (cU (aQ y (nth bZ)) (y.cells + 1) (gU (aQ y (nth bZ)))).2.1 = false) : 0 = cO y := by unfold cO; rw [if_pos h, if_neg (by rw [h2]; decide)]
theorem dM (h : cO y = 0) : bq y = 0 := by
 by_cases e : bq y = 0
 ·exact e
 rw [← open_1 e] at h; exact absurd h e
theorem ym (h : cO y = 0) : (cU (aQ y (nth bZ)) (y.cells + 1) (gU (aQ y (nth bZ)))).2.1 = false := by
  cases e : (cU (aQ y (nth bZ)) (y.cells + 1) (gU (aQ y (nth bZ)))).2.1 with
  | false => rfl
  | true => rw [← wB (dM h) e] at h; cases h
theorem C8 (hr : y.cm) (h2 : (cU (aQ y (nth bZ)) (y.cells + 1) (gU (aQ y (nth bZ)))).2.1 = false) : gN (aQ y (nth bZ)) (y.cells + 1) (cU (aQ y (nth bZ)) (y.cells + 1) (gU (aQ y (nth bZ)))).2.2 := yG (lB hr) (lC hr).inb h2
theorem pG (h : cO y = 0) : gN (aQ y (nth bZ)) (y.cells + 1) (jq y) := C8 (cr (dM h)) (ym h)
theorem KB (h : ¬ bq y = 0) : (⟨[], []⟩ : eK) = tY y := by unfold tY; rw [← open_1 h, if_neg h]
theorem LO (h : bq y = 0) (h2 : (cU (aQ y (nth bZ)) (y.cells + 1) (gU (aQ y (nth bZ)))).2.1 = true) : (⟨[], []⟩ : eK) = tY y := by unfold tY; rw [← wB h h2]; rfl
theorem Ki (h : bq y = 0) (h2 : (cU (aQ y (nth bZ)) (y.cells + 1) (gU (aQ y (nth bZ)))).2.1 = false) : fq y (cU (aQ y (nth bZ)) (y.cells + 1) (gU (aQ y (nth bZ)))).2.2 = tY y := by unfold tY; rw [if_pos (open_3 h h2).symm]; rfl
theorem xg {a : eK} (e : ⟨[], []⟩ = a) : gw (Ty.agg [Ty.kH (.slice none 0 0), Ty.kH (.slice none 0 0)]) (pR a) := by subst e; exact DU (ts := fD ⟨[], []⟩) (ox y6 (ox y6 A7))
theorem Cj {b : Bool} (h : (!!b) = true) : b = true := by cases b <;> first | rfl | cases h
theorem DQ {b : Bool} (h : (!!b) = false) : b = false := by cases b <;> first | rfl | cases h
theorem K1 (y : bB) : (cU (aQ y (nth bZ)) (y.cells + 1) (gU (aQ y (nth bZ)))).2.2 = jq y := rfl
end
attribute [local irreducible] aQ gU Way.ga Way.fin Way.room eP eC eo gF over bJ cK dW eR jG fA gb jy cU gB fX fW cy cG gI oJ iH iO iX gR z3 xM gx bB.kept bB.cells bq eI bZ fq jq cO
attribute [local irreducible] iw fu nh ru jS jR jO jN jQ rZ jL rj eO gy rY g9 rX nth fT dg aq eA bodyPost Exit.then Exit.inBlock Code.wp Code.wpIn rm jU rq rW jP eT ct cx bodyPostM eU
set_option maxRecDepth 100000 in
theorem KL (y : bB) (hs : y.Small) : eA Tryz.prog 47 [fK y] (Ty.j3 [pR (tY y), Ty.int .i64 (cO y)]) := by
 refine az Tryz.func47 rfl (by decide) Tryz.ntmps47 (by exact Nat.le_of_ble_eq_true rfl) fun w0 M0 => ?_
 refine aE (aA (bM rfl ?_))
 refine bz rfl (by exact List.cons_ne_nil _ _) rfl ?_
 refine cF rfl (aD (aC (aE (aE (aA ?_)))))
 refine aa rfl rfl rfl (by exact Nat.le_of_ble_eq_true rfl) ?_
 refine ay (kS y hs) rfl rfl rfl rfl rfl (cF rfl (aD (aC (aE (aA (bO rfl (bD rfl rfl rfl (aD (aC ?_)))))))))
 refine dL rfl (fun hc1 => ?_) (fun hc1 => ?_)
 ·
  refine aE (aA ?_)
  refine dD rfl rfl (by exact List.cons_ne_nil _ _) rfl (by repeat (exact (aY.nil : aY _ _ [] _))) (by exact (rfl : _ = some [_, _])) ?_
  refine bO rfl ?_
  refine bu rfl rfl (by decide) rfl rfl rfl rfl rfl rfl ?_
  refine cF rfl (aD (aC (bC (aX ?_))))
  refine jI rfl rfl rfl rfl rfl (by decide) rfl rfl rfl ?_ ?_
  all_goals skip
  all_goals first | exact xg (KB hc1) | exact bE rfl rfl (congrArg (Ty.int .i64) (open_1 hc1))
 refine aj (aC (aE ?_))
 have hck : bq y = 0 := hc1
 have hr := cr hck
 refine cN mixed rfl ?_
 refine aa rfl rfl rfl (by exact Nat.le_of_ble_eq_true rfl) ?_
 refine ay (qU) rfl rfl rfl rfl rfl ?_
 refine cD (res' := Ty.pp (rG y 2000 1000 (aQ y (nth bZ)).length (aQ y (nth bZ)).length)) [(2000, 23), (1000, 31)] [2000, 1000] [(2000, Cont.vec dh 187 (aQ y (nth bZ))), (1000, Cont.vec cj 3 (gU (aQ y (nth bZ))))] (rP y hr bZ jJ) rfl rfl (aJ (aJ bK (aO rfl rfl)) (aO rfl rfl)) pre_nil (bL (a := 2000) (b := 23) (by decide) rfl (cB (by decide) rfl) (bL (a := 1000) (b := 31) (by decide) rfl (cB (by decide) rfl) post_nil)) (ew (aJ (aJ (aJ (aJ (aJ (aJ bK (ef (by decide))) (ef (by decide))) (aO rfl rfl)) (aO rfl rfl)) (aO rfl rfl)) (aO rfl rfl))) ?_
 refine JV rfl (aD ?_)
 refine ⟨by kernel_rfl, ?_⟩
 refine aC (aE (aE ?_))
 refine kK (tg := 2000) [(5, Ty.pp (eF y (aQ y (nth bZ)) 1000 (aQ y (nth bZ)).length))] (by decide) rfl ⟨zR rfl ⟨bY rfl, bY rfl, bY rfl, bY rfl, jr rfl rfl (by decide), bY rfl, trivial⟩, trivial⟩ ?_
 refine aA (jK rfl ?_)
 refine cD [(1000, 1000)] [] [(1000, Cont.vec cj 3 (cU (aQ y (nth bZ)) (y.cells + 1) (gU (aQ y (nth bZ)))).2.2)] (mR y (aQ y (nth bZ)) (gU (aQ y (nth bZ))) (lC hr)) rfl rfl (aJ bK (ew (aJ (aJ (aJ (aJ (aJ (aJ bK (ef (by exact List.mem_cons_self))) (aO rfl rfl)) (aO rfl rfl)) (aO rfl rfl)) (aO rfl rfl)) (aO rfl rfl)))) (cC (a := 1000) (b := 1000) (by exact List.mem_cons_self) rfl (cB (by exact List.mem_cons_self) rfl) pre_nil) (bL (a := 1000) (b := 1000) (by decide) rfl (cB (by decide) rfl) post_nil) (aO rfl rfl) ?_
 refine dn rfl (aD (aC ?_))
 refine cW rfl (fun hc2 => ?_) (fun hc2 => ?_)
 ·
  refine aE (aA ?_)
  refine dD rfl rfl (by exact List.cons_ne_nil _ _) rfl (by repeat (exact (aY.nil : aY _ _ [] _))) (by exact (rfl : _ = some [_, _])) ?_
  refine bu rfl rfl (by decide) rfl rfl rfl rfl rfl rfl ?_
  refine cF rfl (aD (aC (bC (aX ?_))))
  refine jI rfl rfl rfl rfl rfl (by decide) rfl rfl rfl ?_ ?_
  all_goals skip
  all_goals first | exact xg (LO hck (Cj hc2)) | exact bE rfl rfl (congrArg (Ty.int .i64) (wB hck (Cj hc2)))
 refine aj (aC (aE ?_))
 have hfe := C8 hr (DQ hc2)
 refine kK (tg := 1000) [(5, Ty.pp (lQ y (aQ y (nth bZ)) (cU (aQ y (nth bZ)) (y.cells + 1) (gU (aQ y (nth bZ)))).2.2))] (by decide) rfl ⟨zR rfl ⟨bY rfl, bY rfl, bY rfl, bY rfl, bY rfl, jr rfl hfe.1.1 (by decide), trivial⟩, trivial⟩ ?_
 refine aA (jK rfl (ay (Kf y (nth bZ) (cU (aQ y (nth bZ)) (y.cells + 1) (gU (aQ y (nth bZ)))).2.2 hr hfe.1.1) rfl rfl rfl rfl rfl ?_))
 refine bu rfl rfl (by decide) rfl rfl rfl rfl rfl rfl ?_
 refine cF rfl (aD (aC (bC ?_)))
 refine jI rfl rfl rfl rfl rfl (by decide) rfl rfl rfl ?_ ?_
 all_goals skip
 all_goals first | exact bE rfl rfl (congrArg pR (Ki hck (DQ hc2))) | exact bE rfl rfl (congrArg (Ty.int .i64) (open_3 hck (DQ hc2)))
set_option maxRecDepth 100000 in
theorem wT (y : bB) (hs : y.Small) (h : cO y = 0) : eT Tryz.prog 86 [] [] [fK y] [(1000, Cont.vec cj 3 (jq y))] (Ty.j3 [Ty.pp (eF y (aQ y (nth bZ)) 1000 (aQ y (nth bZ)).length), Ty.int .i64 0]) := by
 refine p5 Tryz.func86 rfl (by decide) Tryz.ntmps86 (by exact Nat.le_of_ble_eq_true rfl) fun w0 M0 => ?_
 have hck := dM h
 have hr := cr hck
 have hst := ym h
 refine aE (aA (bM rfl (mI rfl (cF rfl (aD (aC (aE (aE (aA ?_)))))))))
 refine aa rfl rfl rfl (by exact Nat.le_of_ble_eq_true rfl) ?_
 refine ay (kS y hs) rfl rfl rfl rfl rfl (cF rfl (aD (aC (aE (aA (bO rfl (bD rfl rfl rfl (aD (aC ?_)))))))))
 refine gG rfl (by rw [hck]; rfl) ?_
 refine aj (aC (aE (cN mixed rfl ?_)))
 refine aa rfl rfl rfl (by exact Nat.le_of_ble_eq_true rfl) ?_
 refine ay (qU) rfl rfl rfl rfl rfl ?_
 refine cD (res' := Ty.pp (rG y 2000 1000 (aQ y (nth bZ)).length (aQ y (nth bZ)).length)) [(2000, 23), (1000, 31)] [2000, 1000] [(2000, Cont.vec dh 187 (aQ y (nth bZ))), (1000, Cont.vec cj 3 (gU (aQ y (nth bZ))))] (rP y hr bZ jJ) rfl rfl (aJ (aJ bK (aO rfl rfl)) (aO rfl rfl)) pre_nil (bL (a := 2000) (b := 23) (by decide) rfl (cB (by decide) rfl) (bL (a := 1000) (b := 31) (by decide) rfl (cB (by decide) rfl) post_nil)) (ew (aJ (aJ (aJ (aJ (aJ (aJ bK (ef (by decide))) (ef (by decide))) (aO rfl rfl)) (aO rfl rfl)) (aO rfl rfl)) (aO rfl rfl))) ?_
 refine JV rfl (aD ?_)
 refine ⟨by kernel_rfl, ?_⟩
 refine aC (aE (aE ?_))
 refine kK (tg := 2000) [(5, Ty.pp (eF y (aQ y (nth bZ)) 1000 (aQ y (nth bZ)).length))] (by decide) rfl ⟨zR rfl ⟨bY rfl, bY rfl, bY rfl, bY rfl, jr rfl rfl (by decide), bY rfl, trivial⟩, trivial⟩ ?_
 refine aA (jK rfl ?_)
 refine cD [(1000, 1000)] [] [(1000, Cont.vec cj 3 (cU (aQ y (nth bZ)) (y.cells + 1) (gU (aQ y (nth bZ)))).2.2)] (mR y (aQ y (nth bZ)) (gU (aQ y (nth bZ))) (lC hr)) rfl rfl (aJ bK (ew (aJ (aJ (aJ (aJ (aJ (aJ bK (ef (by exact List.mem_cons_self))) (aO rfl rfl)) (aO rfl rfl)) (aO rfl rfl)) (aO rfl rfl)) (aO rfl rfl)))) (cC (a := 1000) (b := 1000) (by exact List.mem_cons_self) rfl (cB (by exact List.mem_cons_self) rfl) pre_nil) (bL (a := 1000) (b := 1000) (by decide) rfl (cB (by decide) rfl) post_nil) (aO rfl rfl) ?_
 refine dn rfl (aD (aC ?_))
 refine gG rfl (by rw [hst]; rfl) ?_
 refine aj (aC (aE (aA (jK rfl (JV rfl (cF rfl (aD (aC (bC ?_)))))))))
 refine HU rfl ?_
 refine zL [1000] rfl rfl rfl (by decide) ?_ ?_ ?_
 ·exact eD rfl (cB (by decide) (K1 y)) fB
 all_goals first | exact fQ (aO rfl rfl) | skip
 all_goals exact fQ (ew (aJ (aJ (aJ (aJ (aJ (aJ bK (ef (by decide))) (aO rfl rfl)) (aO rfl rfl)) (aO rfl rfl)) (aO rfl rfl)) (aO rfl rfl)))
set_option maxRecDepth 100000 in
theorem oP (y : bB) (hs : y.Small) (h : cO y ≠ 0) : eA Tryz.prog 86 [fK y] (Ty.j3 [Ty.ex (.pointer none), Ty.int .i64 (cO y)]) := by
 refine az Tryz.func86 rfl (by decide) Tryz.ntmps86 (by exact Nat.le_of_ble_eq_true rfl) fun w0 M0 => ?_
 refine aE (aA (bM rfl (mI rfl (cF rfl (aD (aC (aE (aE (aA ?_)))))))))
 refine aa rfl rfl rfl (by exact Nat.le_of_ble_eq_true rfl) ?_
 refine ay (kS y hs) rfl rfl rfl rfl rfl (cF rfl (aD (aC (aE (aA (bO rfl (bD rfl rfl rfl (aD (aC ?_)))))))))
 refine dL rfl (fun hc1 => ?_) (fun hc1 => ?_)
 ·
  refine aE (aA (bO rfl (mI rfl (cF rfl (aD (aC (bC (aX ?_))))))))
  refine fV rfl rfl rfl ?_ ?_
  all_goals first | exact cI rfl rfl | skip
  all_goals exact bE rfl rfl (congrArg (Ty.int .i64) (open_1 hc1))
 refine aj (aC (aE ?_))
 have hck : bq y = 0 := hc1
 have hr := cr hck
 refine cN mixed rfl ?_
 refine aa rfl rfl rfl (by exact Nat.le_of_ble_eq_true rfl) ?_
 refine ay (qU) rfl rfl rfl rfl rfl ?_
 refine cD (res' := Ty.pp (rG y 2000 1000 (aQ y (nth bZ)).length (aQ y (nth bZ)).length)) [(2000, 23), (1000, 31)] [2000, 1000] [(2000, Cont.vec dh 187 (aQ y (nth bZ))), (1000, Cont.vec cj 3 (gU (aQ y (nth bZ))))] (rP y hr bZ jJ) rfl rfl (aJ (aJ bK (aO rfl rfl)) (aO rfl rfl)) pre_nil (bL (a := 2000) (b := 23) (by decide) rfl (cB (by decide) rfl) (bL (a := 1000) (b := 31) (by decide) rfl (cB (by decide) rfl) post_nil)) (ew (aJ (aJ (aJ (aJ (aJ (aJ bK (ef (by decide))) (ef (by decide))) (aO rfl rfl)) (aO rfl rfl)) (aO rfl rfl)) (aO rfl rfl))) ?_
 refine JV rfl (aD ?_)
 refine ⟨by kernel_rfl, ?_⟩
 refine aC (aE (aE ?_))
 refine kK (tg := 2000) [(5, Ty.pp (eF y (aQ y (nth bZ)) 1000 (aQ y (nth bZ)).length))] (by decide) rfl ⟨zR rfl ⟨bY rfl, bY rfl, bY rfl, bY rfl, jr rfl rfl (by decide), bY rfl, trivial⟩, trivial⟩ ?_
 refine aA (jK rfl ?_)
 refine cD [(1000, 1000)] [] [(1000, Cont.vec cj 3 (cU (aQ y (nth bZ)) (y.cells + 1) (gU (aQ y (nth bZ)))).2.2)] (mR y (aQ y (nth bZ)) (gU (aQ y (nth bZ))) (lC hr)) rfl rfl (aJ bK (ew (aJ (aJ (aJ (aJ (aJ (aJ bK (ef (by exact List.mem_cons_self))) (aO rfl rfl)) (aO rfl rfl)) (aO rfl rfl)) (aO rfl rfl)) (aO rfl rfl)))) (cC (a := 1000) (b := 1000) (by exact List.mem_cons_self) rfl (cB (by exact List.mem_cons_self) rfl) pre_nil) (bL (a := 1000) (b := 1000) (by decide) rfl (cB (by decide) rfl) post_nil) (aO rfl rfl) ?_
 refine dn rfl (aD (aC ?_))
 refine cW rfl (fun hc2 => ?_) (fun hc2 => ?_)
 ·
  refine aE (aA (mI rfl (cF rfl (aD (aC (bC (aX ?_)))))))
  refine fV rfl rfl rfl ?_ ?_
  all_goals first | exact cI rfl rfl | skip
  all_goals exact bE rfl rfl (congrArg (Ty.int .i64) (wB hck (Cj hc2)))
 refine aj (aC (aE (aA (jK rfl (JV rfl (cF rfl (aD (aC (bC ?_)))))))))
 refine fV rfl rfl rfl ?_ ?_
 all_goals skip
 all_goals exact absurd (open_3 hck (DQ hc2)).symm h
end Go.Proofs.YtelbollidfdcjaaGreat
namespace Go.Proofs.YtelbollidfdcjaaGreat
open Go Go.T
set_option maxHeartbeats 16000000
def sw (k : Nat) (i : Nat) : Bool := decide ((i : Int) = (k : Int))
def hasB (y : bB) (b t : Nat) : Nat → Bool := sw (y.kept b t)
noncomputable def n8 (fl : List bw) (n : Nat) (y : bB) (b : Nat) (a : List Int) : Nat → List Int
  | 0 => a
  | t + 1 => xM fl n (hasB y b t) (n8 fl n y b a t)
noncomputable def pN (fl : List bw) (n : Nat) (y : bB) (b k : Nat) : List Span := (List.range k).map fun t => gR fl n (hasB y b t)
noncomputable def jT (y : bB) (b : Int) : Int := if eI y b = 0 then cO y else eI y b
noncomputable def eN (y : bB) (b : Int) : List Span := if jT y b = 0 then pN (aQ y (nth bZ)) (y.cells + 1) y b.toNat (y.D + 1) else []
def Ig (y : bB) (k : Int) : Int := if bq y = 0 then (if (decide (k ≥ 0) && decide (k ≤ (y.moves.length : Int) - 1)) = true then 0 else 1) else bq y
noncomputable def kC (y : bB) (k : Int) : Int := if Ig y k = 0 then cO y else Ig y k
noncomputable def mN (y : bB) (k : Int) : Span := if kC y k = 0 then gR (aQ y (nth bZ)) (y.cells + 1) (sw (y.bins.length * (y.D + 1) + k.toNat)) else ⟨0, 0⟩
theorem sV {y : bB} (h : cO y = 0) : kg y (aQ y (nth bZ)) (jq y) := ⟨cr (dM h), lB (cr (dM h)), uf (cr (dM h)), (pG h).1, ji (cr (dM h))⟩
section
variable {y : bB} {fl : List bw} {a : List Int} {n b k : Nat} {q : Int}
theorem BB (hN : Net fl n) (hn : 0 < n) (hB : Bd fl) (h : gN fl n a) : ∀ t, gN fl n (n8 fl n y b a t)
  | 0 => h
  | t + 1 => (qt hN hn hB (BB hN hn hB h t)).2.1
theorem F2 : a = n8 fl n y b a 0 := rfl
theorem Gv (t : Nat) : xM fl n (hasB y b t) (n8 fl n y b a t) = n8 fl n y b a (t + 1) := rfl
theorem Ei (t : Nat) : pN fl n y b t ++ [gR fl n (hasB y b t)] = pN fl n y b (t + 1) := by unfold pN; rw [List.range_succ, List.map_append]; rfl
theorem F5 (t : Nat) : (pN fl n y b t).length = t := by unfold pN; rw [List.length_map, List.length_range]
theorem EJ : pN fl n y b 0 = [] := rfl
theorem BN {T tg : Nat} {xs : List Span} (h : xs = []) : (Ty.ex (.slice none 0 0)).Sub (Ty.row dA T tg xs) := by subst h; exact Ty.lU
theorem IC (k : Nat) (i : Nat) : decide ((i : Int) = (k : Int)) = sw k i := rfl
theorem JQ (b t i : Nat) : decide ((i : Int) = ((y.kept b t : Nat) : Int)) = hasB y b t i := rfl
theorem zD (h : ¬ eI y q = 0) : eI y q = jT y q ∧ [] = eN y q := by
 have e : eI y q = jT y q := (if_neg h).symm
 exact ⟨e, by unfold eN; rw [← e, if_neg h]⟩
theorem H7 (h : eI y q = 0) (ho : cO y ≠ 0) : cO y = jT y q ∧ [] = eN y q := by
 have e : cO y = jT y q := (if_pos h).symm
 exact ⟨e, by unfold eN; rw [← e, if_neg ho]⟩
theorem yY (h : eI y q = 0) (ho : cO y = 0) : 0 = jT y q ∧ pN (aQ y (nth bZ)) (y.cells + 1) y q.toNat (y.D + 1) = eN y q := by
 have e : cO y = jT y q := (if_pos h).symm
 exact ⟨by rw [← e, ho], by unfold eN; rw [← e, if_pos ho]⟩
theorem Ef (h : eI y q = 0) : 0 ≤ q ∧ q < y.bins.length := by
 unfold eI at h
 by_cases e : bq y = 0
 ·rw [if_pos e] at h
  by_cases c : y.bin q = true
  ·unfold bB.bin Ac at c
   rw [Bool.and_eq_true, decide_eq_true_eq, decide_eq_true_eq] at c; omega
  rw [if_neg c] at h; cases h
 rw [if_neg e] at h; exact absurd h e
theorem Cn (h : ¬ bq y = 0) : bq y = kC y q ∧ (⟨0, 0⟩ : Span) = mN y q := by
 have e1 : Ig y q = bq y := if_neg h
 have e : bq y = kC y q := by unfold kC; rw [e1, if_neg h]
 exact ⟨e, by unfold mN; rw [← e, if_neg h]⟩
theorem C6 (h : bq y = 0) (h2 : (!(decide (q ≥ 0) && decide (q ≤ (y.moves.length : Int) - 1))) = true) : 1 = kC y q ∧ (⟨0, 0⟩ : Span) = mN y q := by
 have e1 : Ig y q = 1 := by unfold Ig; rw [if_pos h, if_neg (by rw [pQ h2]; decide)]
 have e : 1 = kC y q := by unfold kC; rw [e1]; rfl
 exact ⟨e, by unfold mN; rw [← e]; rfl⟩
theorem yU (h2 : (!(decide (q ≥ 0) && decide (q ≤ (y.moves.length : Int) - 1))) = false) : 0 ≤ q ∧ q < y.moves.length := by
 have := ff h2
 rw [Bool.and_eq_true, decide_eq_true_eq, decide_eq_true_eq] at this; omega
theorem Ju (h : bq y = 0) (h2 : (!(decide (q ≥ 0) && decide (q ≤ (y.moves.length : Int) - 1))) = false) (ho : cO y ≠ 0) : cO y = kC y q ∧ (⟨0, 0⟩ : Span) = mN y q := by
 have e1 : Ig y q = 0 := by unfold Ig; rw [if_pos h, if_pos (ff h2)]
 have e : cO y = kC y q := by unfold kC; rw [e1]; rfl
 exact ⟨e, by unfold mN; rw [← e, if_neg ho]⟩
theorem C2 (h : bq y = 0) (h2 : (!(decide (q ≥ 0) && decide (q ≤ (y.moves.length : Int) - 1))) = false) (ho : cO y = 0) : 0 = kC y q ∧ gR (aQ y (nth bZ)) (y.cells + 1) (sw (y.bins.length * (y.D + 1) + q.toNat)) = mN y q := by
 have e1 : Ig y q = 0 := by unfold Ig; rw [if_pos h, if_pos (ff h2)]
 have e : cO y = kC y q := by unfold kC; rw [e1]; rfl
 exact ⟨by rw [← e, ho], by unfold mN; rw [← e, if_pos ho]⟩
end
attribute [local irreducible] aQ gU Way.ga Way.fin Way.room eP eC eo gF over bJ cK dW eR jG fA gb jy cU gB fX fW cy cG gI oJ iH iO iX gR z3 xM gx bB.kept bB.cells bq eI bZ fq jq cO n8 pN jT eN kC mN hasB sw
attribute [local irreducible] iw fu nh ru jS jR jO jN jQ rZ jL rj eO gy rY g9 rX nth fT dg aq eA bodyPost Exit.then Exit.inBlock Code.wp Code.wpIn rm jU rq rW jP eT ct cx bodyPostM eU
set_option maxRecDepth 100000 in
theorem Ex (f k : Int) : eA Tryz.prog 165 [Ty.int .i64 f, Ty.pp [Ty.int .i64 k]] (Ty.bool (decide (f = k))) := by
 refine az Tryz.func165 rfl (by decide) Tryz.ntmps165 (by exact Nat.le_of_ble_eq_true rfl) fun w0 M0 => ?_
 refine aE (aA (dZ rfl (aD (aC (aE (aA (bO rfl (aM rfl rfl rfl rfl (bD rfl rfl rfl ?_)))))))))
 refine dZ rfl (aD (aC (bC (bl rfl rfl ?_))))
 all_goals exact cI rfl rfl
set_option maxRecDepth 100000 in
theorem Gi (y : bB) (fl : List bw) (a : List Int) (h : kg y fl a) (hfe : gN fl (y.cells + 1) a) (b : Nat) (hb : b < y.bins.length) : eT Tryz.prog 91 [1000] [(1000, Cont.vec cj 3 a)] [Ty.pp (eF y fl 1000 fl.length), Ty.int .i64 ((b : Nat) : Int)] [(1000, Cont.vec cj 3 (n8 fl (y.cells + 1) y b a (y.D + 1)))] (Ty.sl dA (pN fl (y.cells + 1) y b (y.D + 1))) := by
 refine dj Tryz.func91 rfl (by decide) Tryz.ntmps91 (by exact Nat.le_of_ble_eq_true rfl) fun w0 M0 => ?_
 have h1 := h.right.bins
 have h2 := h.right.days
 have h3 := D_eq h.right
 have hft := BB (y := y) (b := b) h.net (Nat.succ_pos _) h.bd hfe
 refine aE (aA (mI rfl (aD (aC (aE (aA (mI rfl (aD (aC ?_)))))))))
 refine aE (aE (aA (jK rfl (bt rfl ?_))))
 refine aS rfl rfl rfl rfl rfl (by decide) ?_
 refine aS rfl rfl rfl rfl rfl (by decide) ?_
 refine aM rfl rfl rfl rfl ?_
 refine bg rfl rfl (by omega) (by omega) ?_
 refine bO rfl (aD (aC (ak ?_)))
 refine cV (fun (t : {t : Nat // t ≤ y.D + 1}) => live [(0, Ty.pp (eF y fl 1000 fl.length)), (1, Ty.int .i64 ((b : Nat) : Int)), (5, Ty.row dA 37 26 (pN fl (y.cells + 1) y b t.1)), (13, Ty.int .i64 (y.days + 1)), (14, Ty.int .i64 (t.1 : Nat))] [(1000, Cont.vec cj 3 (n8 fl (y.cells + 1) y b a t.1))]) (fun t => y.D + 1 - t.1) (⟨0, by omega⟩) ?_ fun t => ?_
 ·(refine c9.mk' ?_ ?_ <;> (repeat' (first | exact aH | exact aI | refine aB ?_ (Ty.aW _) | refine aB ?_ (Ty.aF _) | refine aG rfl ?_ ?_ | refine aB ?_ ?_)))
  all_goals first | exact BN EJ | exact Cont.dR F2
 have hbl := F5 (fl := fl) (n := (y.cells + 1)) (y := y) (b := b) t.1
 have ht := t.2
 have hFt : kg y fl (n8 fl (y.cells + 1) y b a t.1) := ⟨h.right, h.net, h.bd, (hft t.1).1, h.nk⟩
 refine aE (aA (bD rfl rfl rfl (aD (aC (aE ?_)))))
 refine av rfl (fun hc1 => ?_) (fun hc1 => ?_)
 ·
  refine aj (aC (aE (ak (aE (aA (bO rfl (cF rfl (aD (aC ?_)))))))))
  refine aE (aA (jK rfl (bO rfl (bO rfl ?_))))
  refine dV [] (Ca y h.right b t.1 hb (by omega)) rfl (aL (mX (l1 := bk y) (l2 := [Ty.sl dh fl, Ty.vs 1000 fl.length]) rfl rfl) (aL (af (bF rfl rfl)) (aL (af (bF rfl rfl)) bX))) (by exact dG _ _) ?_
  refine bz rfl (by exact List.cons_ne_nil _ _) rfl ?_
  refine cZ rfl rfl (by decide) rfl rfl (by exact (rfl : _ = Ty.int _ _)) rfl (by exact Nat.le_of_ble_eq_true rfl) rfl rfl (by exact (rfl : _ = [_])) ?_
  refine aD (aC ?_)
  refine kK (tg := 8) [(7, Ty.pp [Ty.int .i64 ((y.kept b t.1 : Nat) : Int)])] (by decide) rfl ⟨kL (T := 3) (off := 0) (l := [Ty.int .i64 ((y.kept b t.1 : Nat) : Int)]) rfl rfl rfl (by decide), trivial⟩ ?_
  refine aA (J6 rfl (jK rfl (dH rfl ?_)))
  refine cD [(1000, 1000)] [] [(1000, Cont.vec cj 3 (xM fl (y.cells + 1) (hasB y b t.1) (n8 fl (y.cells + 1) y b a t.1)))] (CT y fl (n8 fl (y.cells + 1) y b a t.1) hFt (hft t.1) (Ty.jM 165 [Ty.pp [Ty.int .i64 ((y.kept b t.1 : Nat) : Int)]]) rfl rfl (hasB y b t.1) (fun i _ => by rw [← JQ]; exact dO (Ex (i : Nat) _) rfl rfl rfl rfl rfl rfl) rfl) rfl rfl (aJ (aJ bK (aO rfl rfl)) (ew (aJ (aJ (aJ (aJ (aJ (aJ bK (ef (by exact List.mem_cons_self))) (aO rfl rfl)) (aO rfl rfl)) (aO rfl rfl)) (aO rfl rfl)) (aO rfl rfl)))) (cC (a := 1000) (b := 1000) (by exact List.mem_cons_self) rfl (cB (by exact List.mem_cons_self) rfl) pre_nil) (bL (a := 1000) (b := 1000) (by decide) rfl (cB (by decide) rfl) post_nil) (aO rfl rfl) ?_
  refine bp (E := dA) (xs := [gR fl (y.cells + 1) (hasB y b t.1)]) rfl rfl rfl rfl rfl (by decide) (by decide) (by repeat (first | exact (aY.nil : aY _ _ [] _) | (show aY _ _ ((_, _) :: _) _; apply aY.agg; (· exact (rfl : _ = Ty.agg _))))) (by exact rfl) rfl ?_
  refine fO rfl rfl (by decide) rfl rfl rfl rfl rfl rfl (by decide) (by (simp <;> omega)) (by (simp <;> omega)) ?_
  refine G4 rfl (aD (bQ (aC (aA ?_))))
  refine bg rfl rfl (by omega) (by omega) ?_
  refine bO rfl (aD ?_)
  refine bV (⟨t.1 + 1, by omega⟩) ?_ (by show y.D + 1 - (t.1 + 1) < y.D + 1 - t.1; omega)
  (refine c9.mk' ?_ ?_ <;> (repeat' (first | exact aH | exact aI | refine aB ?_ (Ty.aW _) | refine aB ?_ (Ty.aF _) | refine aG rfl ?_ ?_ | refine aB ?_ ?_)))
  all_goals skip
  all_goals first | exact Ty.fS (Ei _) | exact Cont.dR (Gv _)
 refine cQ (aR (aR (au rfl (aC (aE (aA (J6 rfl (G4 rfl (aD ?_)))))))))
 refine aC (bC ?_)
 refine fm [1000] rfl rfl (by decide) ?_ ?_
 ·exact eD rfl (cB (by decide) (by rw [show t.1 = y.D + 1 by have := t.2; omega])) fB
 all_goals skip
 all_goals exact GN (by decide) rfl (by rw [show t.1 = y.D + 1 by have := t.2; omega])
set_option maxRecDepth 100000 in
theorem Ab (y : bB) (hs : y.Small) (q : Int) (ho : cO y ≠ 0) : eA Tryz.prog 22 [fK y, Ty.int .i64 q] (Ty.j3 [Ty.sl dA (eN y q), Ty.int .i64 (jT y q)]) := by
 refine az Tryz.func22 rfl (by decide) Tryz.ntmps22 (by exact Nat.le_of_ble_eq_true rfl) fun w0 M0 => ?_
 refine aE (aA (bM rfl (mI rfl (cF rfl (aD (aC (aE (aE (aA ?_)))))))))
 refine aa rfl rfl rfl (by exact Nat.le_of_ble_eq_true rfl) ?_
 refine bO rfl (ay (ya y hs q) rfl rfl rfl rfl rfl (cF rfl (aD (aC (aE (aA (bO rfl (bD rfl rfl rfl (aD ?_)))))))))
 refine aC ?_
 refine dL rfl (fun hc1 => ?_) (fun hc1 => ?_)
 ·
  refine aE (aA (bO rfl (mI rfl (cF rfl (aD (aC (bC (aX ?_))))))))
  refine fV rfl rfl rfl ?_ ?_
  all_goals skip
  all_goals first | exact fo (zD hc1).2.symm | exact bE rfl rfl (congrArg (Ty.int .i64) (zD hc1).1)
 refine aj (aC (aE (aA ?_)))
 refine aa rfl rfl rfl (by exact Nat.le_of_ble_eq_true rfl) ?_
 refine ay (oP y hs ho) rfl rfl rfl rfl rfl (sX rfl (bR rfl rfl (bR rfl rfl (mI rfl (cF rfl (aD (aC (aE (aE ?_)))))))))
 refine aA (bO rfl (bD rfl rfl rfl (aD (aC ?_))))
 refine oy rfl (by rw [decide_eq_false ho]; rfl) ?_
 refine aE (aA (bO rfl (mI rfl (cF rfl (aD (aC (bC (aX ?_))))))))
 refine fV rfl rfl rfl ?_ ?_
 all_goals skip
 all_goals first | exact fo (H7 hc1 ho).2.symm | exact bE rfl rfl (congrArg (Ty.int .i64) (H7 hc1 ho).1)
set_option maxRecDepth 100000 in
theorem zy (y : bB) (hs : y.Small) (q : Int) (ho : cO y = 0) : eA Tryz.prog 22 [fK y, Ty.int .i64 q] (Ty.j3 [Ty.sl dA (eN y q), Ty.int .i64 (jT y q)]) := by
 refine az Tryz.func22 rfl (by decide) Tryz.ntmps22 (by exact Nat.le_of_ble_eq_true rfl) fun w0 M0 => ?_
 have hck := dM ho
 have hr := cr hck
 have hF : kg y (aQ y (nth bZ)) (jq y) := sV ho
 have hfe := pG ho
 refine aE (aA (bM rfl (mI rfl (cF rfl (aD (aC (aE (aE (aA ?_)))))))))
 refine aa rfl rfl rfl (by exact Nat.le_of_ble_eq_true rfl) ?_
 refine bO rfl (ay (ya y hs q) rfl rfl rfl rfl rfl (cF rfl (aD (aC (aE (aA (bO rfl (bD rfl rfl rfl (aD ?_)))))))))
 refine aC ?_
 refine dL rfl (fun hc1 => ?_) (fun hc1 => ?_)
 ·
  refine aE (aA (bO rfl (mI rfl (cF rfl (aD (aC (bC (aX ?_))))))))
  refine fV rfl rfl rfl ?_ ?_
  all_goals skip
  all_goals first | exact fo (zD hc1).2.symm | exact bE rfl rfl (congrArg (Ty.int .i64) (zD hc1).1)
 refine aj (aC (aE (aA ?_)))
 refine aa rfl rfl rfl (by exact Nat.le_of_ble_eq_true rfl) ?_
 refine cD (res' := Ty.j3 [Ty.pp (eF y (aQ y (nth bZ)) 1000 (aQ y (nth bZ)).length), Ty.int .i64 0]) [(1000, 1000)] [1000] [(1000, Cont.vec cj 3 (jq y))] (wT y hs ho) rfl rfl (aJ bK (aO rfl rfl)) pre_nil (bL (a := 1000) (b := 1000) (by decide) rfl (cB (by decide) rfl) post_nil) (B6 (aJ (aJ bK (aO rfl rfl)) (ew (aJ (aJ (aJ (aJ (aJ (aJ bK (ef (by decide))) (aO rfl rfl)) (aO rfl rfl)) (aO rfl rfl)) (aO rfl rfl)) (aO rfl rfl))))) ?_
 refine sX rfl (bR rfl rfl (bR rfl rfl (JV rfl (cF rfl (aD (aC (aE (aE (aA ?_)))))))))
 refine bO rfl (bD rfl rfl rfl (aD (aC (gG rfl (rfl) (aj (aC (aE ?_)))))))
 have hq := Ef hc1
 have hqn : ((q.toNat : Nat) : Int) = q := by omega
 refine gl (s := 1) rfl (Ty.ah hqn.symm) ?_
 refine aA (jK rfl (bO rfl ?_))
 refine cD [(1000, 1000)] [] [(1000, Cont.vec cj 3 (n8 (aQ y (nth bZ)) (y.cells + 1) y q.toNat (jq y) (y.D + 1)))] (Gi y (aQ y (nth bZ)) (jq y) hF hfe q.toNat (by omega)) rfl rfl (aJ (aJ bK (aO rfl rfl)) (ew (aJ (aJ (aJ (aJ (aJ (aJ bK (ef (by exact List.mem_cons_self))) (aO rfl rfl)) (aO rfl rfl)) (aO rfl rfl)) (aO rfl rfl)) (aO rfl rfl)))) (cC (a := 1000) (b := 1000) (by exact List.mem_cons_self) rfl (cB (by exact List.mem_cons_self) rfl) pre_nil) (bL (a := 1000) (b := 1000) (by decide) rfl (cB (by decide) rfl) post_nil) (aO rfl rfl) ?_
 refine Bk rfl (cF rfl (aD (aC (bC ?_))))
 refine fV rfl rfl rfl ?_ ?_
 all_goals skip
 all_goals first | exact bE rfl rfl (congrArg (Ty.sl dA) (yY hc1 ho).2) | exact bE rfl rfl (congrArg (Ty.int .i64) (yY hc1 ho).1)
set_option maxRecDepth 100000 in
theorem Hj (f k : Int) : eA Tryz.prog 121 [Ty.int .i64 f, Ty.pp [Ty.int .i64 k]] (Ty.bool (decide (f = k))) := by
 refine az Tryz.func121 rfl (by decide) Tryz.ntmps121 (by exact Nat.le_of_ble_eq_true rfl) fun w0 M0 => ?_
 refine aE (aA (dZ rfl (aD (aC (aE (aA (bO rfl (aM rfl rfl rfl rfl (bD rfl rfl rfl ?_)))))))))
 refine dZ rfl (aD (aC (bC (bl rfl rfl ?_))))
 all_goals exact cI rfl rfl
set_option maxRecDepth 100000 in
theorem Bu (y : bB) (hs : y.Small) (q : Int) (ho : cO y ≠ 0) : eA Tryz.prog 48 [fK y, Ty.int .i64 q] (Ty.j3 [Ty.agg (dA.tys (mN y q)), Ty.int .i64 (kC y q)]) := by
 refine az Tryz.func48 rfl (by decide) Tryz.ntmps48 (by exact Nat.le_of_ble_eq_true rfl) fun w0 M0 => ?_
 have hsm := hs.moves
 refine aE (aA (bM rfl ?_))
 refine bz rfl (by exact List.cons_ne_nil _ _) rfl ?_
 refine cF rfl (aD (aC (aE (aE (aA ?_)))))
 refine aa rfl rfl rfl (by exact Nat.le_of_ble_eq_true rfl) ?_
 refine ay (kS y hs) rfl rfl rfl rfl rfl (cF rfl (aD (aC (aE (aA (bO rfl (bD rfl rfl rfl (aD (aC ?_)))))))))
 refine dL rfl (fun hc1 => ?_) (fun hc1 => ?_)
 ·
  refine aE (aA ?_)
  refine dD rfl rfl (by exact List.cons_ne_nil _ _) rfl (by repeat (exact (aY.nil : aY _ _ [] _))) (by exact (rfl : _ = some [_, _])) ?_
  refine bO rfl ?_
  refine bu rfl rfl (by decide) rfl rfl rfl rfl rfl rfl ?_
  refine cF rfl (aD (aC (bC (aX ?_))))
  refine jI rfl rfl rfl rfl rfl (by decide) rfl rfl rfl ?_ ?_
  all_goals skip
  all_goals first | exact bE rfl rfl (congrArg (fun s => Ty.agg (dA.tys s)) (Cn hc1).2) | exact bE rfl rfl (congrArg (Ty.int .i64) (Cn hc1).1)
 refine aj (aC (aE (aE (aA (bO rfl ?_)))))
 refine aS rfl rfl rfl rfl rfl (by decide) ?_
 refine aM rfl rfl rfl rfl (cz rfl rfl rfl ?_)
 refine fU rfl rfl (by omega) (by omega) ?_
 refine ay (tq _ _ _) rfl rfl rfl rfl rfl (dn rfl (aD (aC ?_)))
 refine cW rfl (fun hc2 => ?_) (fun hc2 => ?_)
 ·
  refine aE (aA ?_)
  refine dD rfl rfl (by exact List.cons_ne_nil _ _) rfl (by repeat (exact (aY.nil : aY _ _ [] _))) (by exact (rfl : _ = some [_, _])) ?_
  refine bu rfl rfl (by decide) rfl rfl rfl rfl rfl rfl ?_
  refine cF rfl (aD (aC (bC (aX ?_))))
  refine jI rfl rfl rfl rfl rfl (by decide) rfl rfl rfl ?_ ?_
  all_goals skip
  all_goals first | exact bE rfl rfl (congrArg (fun s => Ty.agg (dA.tys s)) (C6 hc1 hc2).2) | exact bE rfl rfl (congrArg (Ty.int .i64) (C6 hc1 hc2).1)
 refine aj (aC (aE (aA ?_)))
 refine aa rfl rfl rfl (by exact Nat.le_of_ble_eq_true rfl) ?_
 refine ay (oP y hs ho) rfl rfl rfl rfl rfl (sX rfl (bR rfl rfl (bR rfl rfl (mI rfl (cF rfl (aD (aC (aE (aE ?_)))))))))
 refine aA (bO rfl (bD rfl rfl rfl (aD (aC ?_))))
 refine oy rfl (by rw [decide_eq_false ho]; rfl) ?_
 refine aE (aA ?_)
 refine dD rfl rfl (by exact List.cons_ne_nil _ _) rfl (by repeat (exact (aY.nil : aY _ _ [] _))) (by exact (rfl : _ = some [_, _])) ?_
 refine bO rfl ?_
 refine bu rfl rfl (by decide) rfl rfl rfl rfl rfl rfl ?_
 refine cF rfl (aD (aC (bC (aX ?_))))
 refine jI rfl rfl rfl rfl rfl (by decide) rfl rfl rfl ?_ ?_
 all_goals skip
 all_goals first | exact bE rfl rfl (congrArg (fun s => Ty.agg (dA.tys s)) (Ju hc1 hc2 ho).2) | exact bE rfl rfl (congrArg (Ty.int .i64) (Ju hc1 hc2 ho).1)
set_option maxRecDepth 100000 in
theorem CJ (y : bB) (hs : y.Small) (q : Int) (ho : cO y = 0) : eA Tryz.prog 48 [fK y, Ty.int .i64 q] (Ty.j3 [Ty.agg (dA.tys (mN y q)), Ty.int .i64 (kC y q)]) := by
 refine az Tryz.func48 rfl (by decide) Tryz.ntmps48 (by exact Nat.le_of_ble_eq_true rfl) fun w0 M0 => ?_
 have hck := dM ho
 have hr := cr hck
 have hF : kg y (aQ y (nth bZ)) (jq y) := sV ho
 have hfe := pG ho
 have hsm := hs.moves
 have hfl := fC (y := y) (c := nth bZ)
 have hf34 : (aQ y (nth bZ)).length ≤ 34 := ji hr
 refine aE (aA (bM rfl ?_))
 refine bz rfl (by exact List.cons_ne_nil _ _) rfl ?_
 refine cF rfl (aD (aC (aE (aE (aA ?_)))))
 refine aa rfl rfl rfl (by exact Nat.le_of_ble_eq_true rfl) ?_
 refine ay (kS y hs) rfl rfl rfl rfl rfl (cF rfl (aD (aC (aE (aA (bO rfl (bD rfl rfl rfl (aD (aC ?_)))))))))
 refine dL rfl (fun hc1 => ?_) (fun hc1 => ?_)
 ·
  refine aE (aA ?_)
  refine dD rfl rfl (by exact List.cons_ne_nil _ _) rfl (by repeat (exact (aY.nil : aY _ _ [] _))) (by exact (rfl : _ = some [_, _])) ?_
  refine bO rfl ?_
  refine bu rfl rfl (by decide) rfl rfl rfl rfl rfl rfl ?_
  refine cF rfl (aD (aC (bC (aX ?_))))
  refine jI rfl rfl rfl rfl rfl (by decide) rfl rfl rfl ?_ ?_
  all_goals skip
  all_goals first | exact bE rfl rfl (congrArg (fun s => Ty.agg (dA.tys s)) (Cn hc1).2) | exact bE rfl rfl (congrArg (Ty.int .i64) (Cn hc1).1)
 refine aj (aC (aE (aE (aA (bO rfl ?_)))))
 refine aS rfl rfl rfl rfl rfl (by decide) ?_
 refine aM rfl rfl rfl rfl (cz rfl rfl rfl ?_)
 refine fU rfl rfl (by omega) (by omega) ?_
 refine ay (tq _ _ _) rfl rfl rfl rfl rfl (dn rfl (aD (aC ?_)))
 refine cW rfl (fun hc2 => ?_) (fun hc2 => ?_)
 ·
  refine aE (aA ?_)
  refine dD rfl rfl (by exact List.cons_ne_nil _ _) rfl (by repeat (exact (aY.nil : aY _ _ [] _))) (by exact (rfl : _ = some [_, _])) ?_
  refine bu rfl rfl (by decide) rfl rfl rfl rfl rfl rfl ?_
  refine cF rfl (aD (aC (bC (aX ?_))))
  refine jI rfl rfl rfl rfl rfl (by decide) rfl rfl rfl ?_ ?_
  all_goals skip
  all_goals first | exact bE rfl rfl (congrArg (fun s => Ty.agg (dA.tys s)) (C6 hc1 hc2).2) | exact bE rfl rfl (congrArg (Ty.int .i64) (C6 hc1 hc2).1)
 refine aj (aC (aE (aA ?_)))
 refine aa rfl rfl rfl (by exact Nat.le_of_ble_eq_true rfl) ?_
 refine cD (res' := Ty.j3 [Ty.pp (eF y (aQ y (nth bZ)) 1000 (aQ y (nth bZ)).length), Ty.int .i64 0]) [(1000, 1000)] [1000] [(1000, Cont.vec cj 3 (jq y))] (wT y hs ho) rfl rfl (aJ bK (aO rfl rfl)) pre_nil (bL (a := 1000) (b := 1000) (by decide) rfl (cB (by decide) rfl) post_nil) (B6 (aJ (aJ bK (aO rfl rfl)) (ew (aJ (aJ (aJ (aJ (aJ (aJ bK (ef (by decide))) (aO rfl rfl)) (aO rfl rfl)) (aO rfl rfl)) (aO rfl rfl)) (aO rfl rfl))))) ?_
 refine sX rfl (bR rfl rfl (bR rfl rfl (JV rfl (cF rfl (aD (aC (aE (aE (aA ?_)))))))))
 refine bO rfl (bD rfl rfl rfl (aD (aC (gG rfl (rfl) (aj (aC (aE ?_)))))))
 have hq := yU hc2
 refine cN mixed rfl (jK rfl (bt rfl ?_))
 refine aS rfl rfl rfl rfl rfl (by decide) ?_
 refine aM rfl rfl rfl rfl (cz rfl rfl rfl ?_)
 refine aS rfl rfl rfl rfl rfl (by decide) ?_
 refine aM rfl rfl rfl rfl (cz rfl rfl rfl ?_)
 refine fU rfl rfl (by omega) (by omega) ?_
 refine bO rfl ?_
 refine bg rfl rfl (by omega) (by omega) ?_
 refine bz rfl (by exact List.cons_ne_nil _ _) rfl ?_
 refine cZ rfl rfl (by decide) rfl rfl (by exact (rfl : _ = Ty.int _ _)) rfl (by exact Nat.le_of_ble_eq_true rfl) rfl rfl (by exact (rfl : _ = [_])) ?_
 refine aD ?_
 refine ⟨by kernel_rfl, ?_⟩
 refine aC (aE ?_)
 refine gl (s := 9) rfl (Ty.aF _) ?_
 refine gL (tg := 10) rfl (Cont.mM (T := 3) (show [Ty.int .i64 (((aQ y (nth bZ)).length : Int) - (y.moves.length : Int) + q)] = [Ty.int .i64 ((y.bins.length * (y.D + 1) + q.toNat : Nat) : Int)] by congr 2; rw [hfl]; omega)) ?_
 refine kK (tg := 10) [(9, Ty.pp [Ty.int .i64 ((y.bins.length * (y.D + 1) + q.toNat : Nat) : Int)])] (by decide) rfl ⟨kL (T := 3) (off := 0) (l := [Ty.int .i64 ((y.bins.length * (y.D + 1) + q.toNat : Nat) : Int)]) rfl rfl rfl (by decide), trivial⟩ ?_
 refine aA (jK rfl (dH rfl ?_))
 refine cD [(1000, 1000)] [] [(1000, Cont.vec cj 3 (xM (aQ y (nth bZ)) (y.cells + 1) (sw (y.bins.length * (y.D + 1) + q.toNat)) (jq y)))] (CT y (aQ y (nth bZ)) (jq y) hF hfe (Ty.jM 121 [Ty.pp [Ty.int .i64 ((y.bins.length * (y.D + 1) + q.toNat : Nat) : Int)]]) rfl rfl (sw (y.bins.length * (y.D + 1) + q.toNat)) (fun i _ => by rw [← IC]; exact dO (Hj (i : Nat) _) rfl rfl rfl rfl rfl rfl) rfl) rfl rfl (aJ (aJ bK (aO rfl rfl)) (ew (aJ (aJ (aJ (aJ (aJ (aJ bK (ef (by exact List.mem_cons_self))) (aO rfl rfl)) (aO rfl rfl)) (aO rfl rfl)) (aO rfl rfl)) (aO rfl rfl)))) (cC (a := 1000) (b := 1000) (by exact List.mem_cons_self) rfl (cB (by exact List.mem_cons_self) rfl) pre_nil) (bL (a := 1000) (b := 1000) (by decide) rfl (cB (by decide) rfl) post_nil) (aO rfl rfl) ?_
 refine bu rfl rfl (by decide) rfl rfl rfl rfl rfl rfl ?_
 refine cF rfl (aD (aC (bC ?_)))
 refine jI rfl rfl rfl rfl rfl (by decide) rfl rfl rfl ?_ ?_
 all_goals skip
 all_goals first | exact bE rfl rfl (congrArg (fun s => Ty.agg (dA.tys s)) (C2 hc1 hc2 ho).2) | exact bE rfl rfl (congrArg (Ty.int .i64) (C2 hc1 hc2 ho).1)
theorem vR (y : bB) (hs : y.Small) (q : Int) : eA Tryz.prog 22 [fK y, Ty.int .i64 q] (Ty.j3 [Ty.sl dA (eN y q), Ty.int .i64 (jT y q)]) := by
 by_cases ho : cO y = 0
 ·exact zy y hs q ho
 exact Ab y hs q ho
theorem Ii (y : bB) (hs : y.Small) (q : Int) : eA Tryz.prog 48 [fK y, Ty.int .i64 q] (Ty.j3 [Ty.agg (dA.tys (mN y q)), Ty.int .i64 (kC y q)]) := by
 by_cases ho : cO y = 0
 ·exact CJ y hs q ho
 exact Bu y hs q ho
end Go.Proofs.YtelbollidfdcjaaGreat
namespace Go.T
open Go Go.RowKit
theorem KM {ρ : List (Nat × Nat)} {l1 l2 : List Ty} (h1 : cE l1 = []) (h2 : bh l1 = []) : Conv ρ (.pp (l1 ++ l2)) (.pp l1) := fun w M M' v wf wf' hre ⟨b, off, e, hm, hlt, hd⟩ =>
 ⟨b, off, e, hre.none b hm, hlt, fun i t hi => by
  have hl := (List.getElem?_eq_some_iff.1 hi).1
  obtain ⟨x, hx, hdx⟩ := hd i t (by rw [List.getElem?_append_left hl]; exact hi)
  refine ⟨x, hx, aO ?_ ?_ w M M' x wf wf' hre hdx⟩
  ·refine List.eq_nil_iff_forall_not_mem.2 fun u hu => ?_
   have : u ∈ cE l1 := List.mem_flatMap.2 ⟨t, List.mem_of_getElem? hi, hu⟩
   rw [h1] at this; cases this
  refine List.eq_nil_iff_forall_not_mem.2 fun u hu => ?_
  have : u ∈ bh l1 := List.mem_flatMap.2 ⟨t, List.mem_of_getElem? hi, hu⟩
  rw [h2] at this; cases this⟩
end Go.T
namespace Go.Proofs.YtelbollidfdcjaaGreat
open Go Go.T
set_option maxHeartbeats 16000000
def n6 (y : bB) (t : Nat) (i : Nat) : Bool := (List.range y.bins.length).any fun b => decide ((i : Int) = ((y.kept b t : Nat) : Int))
noncomputable def rA (fl : List bw) (n : Nat) (y : bB) (a : List Int) : Nat → List Int
  | 0 => a
  | t + 1 => xM fl n (n6 y t) (rA fl n y a t)
noncomputable def p9 (fl : List bw) (n : Nat) (y : bB) (k : Nat) : List Span := (List.range k).map fun t => gR fl n (n6 y t)
noncomputable def eH (y : bB) : List Span := if cO y = 0 then p9 (aQ y (nth bZ)) (y.cells + 1) y (y.D + 1) else []
noncomputable def j5 (y : bB) (q s : Int) (p : Span → Bool) : Int :=
  if eI y q = 0 then (if (!(decide (s ≥ 0) && decide (s ≤ 300))) = true then 3 else if jT y q = 0 then (if fidx p (eN y q) < 0 then 6 else 0) else jT y q) else eI y q
noncomputable def m4 (y : bB) (q s : Int) (p : Span → Bool) : Int := if j5 y q s p = 0 then fidx p (eN y q) else 0
section
variable {y : bB} {fl : List bw} {a : List Int} {n b k : Nat} {q s : Int} {p : Span → Bool} {i t : Nat}
theorem Aw (hN : Net fl n) (hn : 0 < n) (hB : Bd fl) (h : gN fl n a) : ∀ t, gN fl n (rA fl n y a t)
  | 0 => h
  | t + 1 => (qt hN hn hB (Aw hN hn hB h t)).2.1
theorem F8 : a = rA fl n y a 0 := rfl
theorem FU (t : Nat) : xM fl n (n6 y t) (rA fl n y a t) = rA fl n y a (t + 1) := rfl
theorem Dz (t : Nat) : p9 fl n y t ++ [gR fl n (n6 y t)] = p9 fl n y (t + 1) := by unfold p9; rw [List.range_succ, List.map_append]; rfl
theorem FZ (t : Nat) : (p9 fl n y t).length = t := by unfold p9; rw [List.length_map, List.length_range]
theorem EG : p9 fl n y 0 = [] := rfl
theorem G9 (hb : b < y.bins.length) (h : (i : Int) = ((y.kept b t : Nat) : Int)) : true = n6 y t i := (List.any_eq_true.2 ⟨b, List.mem_range.2 hb, decide_eq_true h⟩).symm
theorem Iv (h : ∀ b, b < y.bins.length → ¬ (i : Int) = ((y.kept b t : Nat) : Int)) : false = n6 y t i := by
 refine (List.any_eq_false.2 fun b hb => ?_).symm
 rw [decide_eq_true_eq]; exact h b (List.mem_range.1 hb)
theorem Ie (h : cO y ≠ 0) : [] = eH y := (if_neg h).symm
theorem z5 (h : cO y = 0) : p9 (aQ y (nth bZ)) (y.cells + 1) y (y.D + 1) = eH y := (if_pos h).symm
theorem C0 {e : Int} (h : e = j5 y q s p) (h0 : e ≠ 0) : 0 = m4 y q s p := by unfold m4; rw [← h, if_neg h0]
theorem Jr (h : ¬ eI y q = 0) : eI y q = j5 y q s p ∧ 0 = m4 y q s p := by
 have e : eI y q = j5 y q s p := (if_neg h).symm
 exact ⟨e, C0 e h⟩
theorem JZ (h : eI y q = 0) (h2 : (!(decide (s ≥ 0) && decide (s ≤ 300))) = true) : 3 = j5 y q s p ∧ 0 = m4 y q s p := by
 have e : 3 = j5 y q s p := by unfold j5; rw [if_pos h, if_pos h2]
 exact ⟨e, C0 e (by decide)⟩
theorem Jn (h : eI y q = 0) (h2 : (!(decide (s ≥ 0) && decide (s ≤ 300))) = false) (h3 : ¬ jT y q = 0) : jT y q = j5 y q s p ∧ 0 = m4 y q s p := by
 have e : jT y q = j5 y q s p := by unfold j5; rw [if_pos h, if_neg (by rw [h2]; decide), if_neg h3]
 exact ⟨e, C0 e h3⟩
theorem Jb (h : eI y q = 0) (h2 : (!(decide (s ≥ 0) && decide (s ≤ 300))) = false) (h3 : jT y q = 0) (h4 : fidx p (eN y q) < 0) : 6 = j5 y q s p ∧ 0 = m4 y q s p := by
 have e : 6 = j5 y q s p := by unfold j5; rw [if_pos h, if_neg (by rw [h2]; decide), if_pos h3, if_pos h4]
 exact ⟨e, C0 e (by decide)⟩
theorem Hu (h : eI y q = 0) (h2 : (!(decide (s ≥ 0) && decide (s ≤ 300))) = false) (h3 : jT y q = 0) (h4 : ¬ fidx p (eN y q) < 0) : 0 = j5 y q s p ∧ fidx p (eN y q) = m4 y q s p := by
 have e : 0 = j5 y q s p := by unfold j5; rw [if_pos h, if_neg (by rw [h2]; decide), if_pos h3, if_neg h4]
 exact ⟨e, by unfold m4; rw [← e]; rfl⟩
end
attribute [local irreducible] aQ gU Way.ga Way.fin Way.room eP eC eo gF over bJ cK dW eR jG fA gb jy cU gB fX fW cy cG gI oJ iH iO iX gR z3 xM gx bB.kept bB.cells bq eI bZ fq jq cO n8 pN jT eN kC mN hasB sw rA p9 eH n6 j5 m4
attribute [local irreducible] iw fu nh ru jS jR jO jN jQ rZ jL rj eO gy rY g9 rX nth fT dg aq eA bodyPost Exit.then Exit.inBlock Code.wp Code.wpIn rm jU rq rW jP eT ct cx bodyPostM eU
set_option maxRecDepth 100000 in
theorem He (y : bB) (hr : y.cm) (i t : Nat) (ht : t ≤ y.D) : eA Tryz.prog 88 [Ty.int .i64 ((i : Nat) : Int), Ty.pp (bk y), Ty.pp [Ty.pp (bk y)], Ty.pp [Ty.int .i64 ((t : Nat) : Int)]] (Ty.bool (n6 y t i)) := by
 refine az Tryz.func88 rfl (by decide) Tryz.ntmps88 (by exact Nat.le_of_ble_eq_true rfl) fun w0 M0 => ?_
 have h1 := hr.bins
 refine aE (aA (dZ rfl (aD (aC (aE (aE (aA ?_)))))))
 refine aS rfl rfl rfl rfl rfl (by decide) ?_
 refine aM rfl rfl rfl rfl (cz rfl rfl rfl (bO rfl (aD (aC (ak ?_)))))
 refine cV (fun (b : {b : Nat // b ≤ y.bins.length ∧ ∀ c, c < b → ¬ (i : Int) = ((y.kept c t : Nat) : Int)}) => live [(0, Ty.int .i64 ((i : Nat) : Int)), (1, Ty.pp (bk y)), (2, Ty.pp [Ty.pp (bk y)]), (3, Ty.pp [Ty.int .i64 ((t : Nat) : Int)]), (9, Ty.int .i64 y.bins.length), (10, Ty.int .i64 (b.1 : Nat))] []) (fun b => y.bins.length - b.1) (⟨0, Nat.zero_le _, fun c hc => absurd hc (Nat.not_lt_zero c)⟩) ?_ fun b => ?_
 ·(refine c9.mk' ?_ ?_ <;> (repeat' (first | exact aH | exact aI | refine aB ?_ (Ty.aW _) | refine aB ?_ (Ty.aF _))))
 have hb := b.2.1
 refine aE (aA (bD rfl rfl rfl (aD (aC (aE ?_)))))
 refine av rfl (fun hc1 => ?_) (fun hc1 => ?_)
 ·
  refine aj (aC (aE (ak (aE (aA (bO rfl (cF rfl (aD (aC ?_)))))))))
  refine aE (aA (bO rfl (aM rfl rfl rfl rfl (bO rfl (aM rfl rfl rfl rfl ?_)))))
  refine ay (Ca y hr b.1 t (by omega) ht) rfl rfl rfl rfl rfl ?_
  refine bD rfl rfl rfl (aD (aC ?_))
  refine av rfl (fun hc2 => ?_) (fun hc2 => ?_)
  ·
   refine aE (aA (dZ rfl (aD (aC (bC (bG (aX (aX (bG ?_)))))))))
   refine aX (bl rfl rfl ?_)
   all_goals skip
   all_goals exact bE rfl rfl (congrArg Ty.bool (G9 (by omega) hc2))
  refine aj (bQ (aC (aA ?_)))
  refine bg rfl rfl (by omega) (by omega) ?_
  refine bO rfl (aD ?_)
  refine bV (⟨b.1 + 1, by omega, fun c hc => by by_cases e : c = b.1; (subst e; exact hc2); exact b.2.2 c (by omega)⟩) ?_ (by show y.bins.length - (b.1 + 1) < y.bins.length - b.1; omega)
  (refine c9.mk' ?_ ?_ <;> (repeat' (first | exact aH | exact aI | refine aB ?_ (Ty.aW _) | refine aB ?_ (Ty.aF _))))
  all_goals skip
 refine cQ (aR (aR (au rfl (aC (aE (aA (dZ rfl (aD (aC ?_)))))))))
 refine bC (bl rfl rfl ?_)
 all_goals skip
 all_goals exact bE rfl rfl (congrArg Ty.bool (Iv fun c hc => b.2.2 c (by have := b.2.1; omega)))
set_option maxRecDepth 100000 in
theorem CQ (y : bB) (hs : y.Small) (ho : cO y ≠ 0) : eA Tryz.prog 21 [fK y] (Ty.j3 [Ty.sl dA (eH y), Ty.int .i64 (cO y)]) := by
 refine az Tryz.func21 rfl (by decide) Tryz.ntmps21 (by exact Nat.le_of_ble_eq_true rfl) fun w0 M0 => ?_
 refine aE (aA (bM rfl (mI rfl (cF rfl (aD (aC (aE (aA ?_))))))))
 refine aa rfl rfl rfl (by exact Nat.le_of_ble_eq_true rfl) ?_
 refine ay (oP y hs ho) rfl rfl rfl rfl rfl (sX rfl (bR rfl rfl (bR rfl rfl ?_)))
 refine bz rfl (by exact List.cons_ne_nil _ _) rfl ?_
 refine cZ rfl rfl (by decide) rfl rfl (by exact (rfl : _ = Ty.ex _)) rfl (by exact Nat.le_of_ble_eq_true rfl) rfl rfl (by exact (rfl : _ = [_])) ?_
 refine cF rfl (aD (aC (aE (aE (aA (bO rfl (bD rfl rfl rfl (aD (aC ?_)))))))))
 refine oy rfl (by rw [decide_eq_false ho]; rfl) ?_
 refine aE (aA (bO rfl (mI rfl (cF rfl (aD (aC (bC (aX ?_))))))))
 refine fV rfl rfl rfl ?_ ?_
 all_goals first | exact cI rfl rfl | skip
 all_goals exact fo (Ie ho).symm
set_option maxRecDepth 100000 in
theorem CK (y : bB) (hs : y.Small) (ho : cO y = 0) : eA Tryz.prog 21 [fK y] (Ty.j3 [Ty.sl dA (eH y), Ty.int .i64 (cO y)]) := by
 refine az Tryz.func21 rfl (by decide) Tryz.ntmps21 (by exact Nat.le_of_ble_eq_true rfl) fun w0 M0 => ?_
 have hck := dM ho
 have hr := cr hck
 have hF : kg y (aQ y (nth bZ)) (jq y) := sV ho
 have hfe := pG ho
 have h1 := hr.bins
 have h2 := hr.days
 have h3 := D_eq hr
 have hft := Aw (y := y) hF.net (Nat.succ_pos _) hF.bd hfe
 refine aE (aA (bM rfl (mI rfl (cF rfl (aD (aC (aE (aA ?_))))))))
 refine aa rfl rfl rfl (by exact Nat.le_of_ble_eq_true rfl) ?_
 refine cD (res' := Ty.j3 [Ty.pp (eF y (aQ y (nth bZ)) 1000 (aQ y (nth bZ)).length), Ty.int .i64 0]) [(1000, 1000)] [1000] [(1000, Cont.vec cj 3 (jq y))] (wT y hs ho) rfl rfl (aJ bK (aO rfl rfl)) pre_nil (bL (a := 1000) (b := 1000) (by decide) rfl (cB (by decide) rfl) post_nil) (B6 (aJ (aJ bK (aO rfl rfl)) (ew (aJ (aJ (aJ (aJ (aJ (aJ bK (ef (by decide))) (aO rfl rfl)) (aO rfl rfl)) (aO rfl rfl)) (aO rfl rfl)) (aO rfl rfl))))) ?_
 refine sX rfl (bR rfl rfl (bR rfl rfl ?_))
 refine bz rfl (by exact List.cons_ne_nil _ _) rfl ?_
 refine cZ rfl rfl (by decide) rfl rfl (by exact (rfl : _ = Ty.pp _)) rfl (by exact Nat.le_of_ble_eq_true rfl) rfl rfl (by exact (rfl : _ = [_])) ?_
 refine cF rfl (aD (aC (aE (aE (aA (bO rfl (bD rfl rfl rfl (aD (aC ?_)))))))))
 refine gG rfl (rfl) (aj (aC (aE ?_)))
 refine kK (tg := 5) [(4, Ty.pp [Ty.pp (eF y (aQ y (nth bZ)) 1000 (aQ y (nth bZ)).length)])] (by decide) rfl ⟨kL (T := 152) (off := 0) (l := [Ty.pp (eF y (aQ y (nth bZ)) 1000 (aQ y (nth bZ)).length)]) rfl rfl rfl (by decide), trivial⟩ ?_
 refine aA (mI rfl (aD (aC (aE (aE (aA ?_))))))
 refine aS rfl rfl rfl rfl rfl (by decide) ?_
 refine aM rfl rfl rfl rfl ?_
 refine bg rfl rfl (by omega) (by omega) ?_
 refine bO rfl (aD (aC (ak ?_)))
 refine cV (fun (t : {t : Nat // t ≤ y.D + 1}) => live [(1, Ty.pp (bk y)), (4, Ty.pp [Ty.pp (eF y (aQ y (nth bZ)) 1000 (aQ y (nth bZ)).length)]), (6, Ty.row dA 37 27 (p9 (aQ y (nth bZ)) (y.cells + 1) y t.1)), (18, Ty.int .i64 (y.days + 1)), (19, Ty.int .i64 (t.1 : Nat))] [(1000, Cont.vec cj 3 (rA (aQ y (nth bZ)) (y.cells + 1) y (jq y) t.1))]) (fun t => y.D + 1 - t.1) (⟨0, by omega⟩) ?_ fun t => ?_
 ·(refine c9.mk' ?_ ?_ <;> (repeat' (first | exact aH | exact aI | refine aB ?_ (Ty.aW _) | refine aB ?_ (Ty.aF _) | refine aG rfl ?_ ?_ | refine aB ?_ ?_)))
  all_goals first | exact BN EG | exact Cont.dR F8
 have hbl := FZ (fl := (aQ y (nth bZ))) (n := (y.cells + 1)) (y := y) t.1
 have ht := t.2
 have hFt : kg y (aQ y (nth bZ)) (rA (aQ y (nth bZ)) (y.cells + 1) y (jq y) t.1) := ⟨hr, hF.net, hF.bd, (hft t.1).1, hF.nk⟩
 refine aE (aA (bD rfl rfl rfl (aD (aC (aE ?_)))))
 refine av rfl (fun hc2 => ?_) (fun hc2 => ?_)
 ·
  refine aj (aC (aE (ak (aE (aA (bO rfl ?_))))))
  refine bz rfl (by exact List.cons_ne_nil _ _) rfl ?_
  refine cZ rfl rfl (by decide) rfl rfl (by exact (rfl : _ = Ty.int _ _)) rfl (by exact Nat.le_of_ble_eq_true rfl) rfl rfl (by exact (rfl : _ = [_])) ?_
  refine aD (aC ?_)
  refine kK (tg := 8) [(7, Ty.pp [Ty.int .i64 ((t.1 : Nat) : Int)])] (by decide) rfl ⟨kL (T := 3) (off := 0) (l := [Ty.int .i64 ((t.1 : Nat) : Int)]) rfl rfl rfl (by decide), trivial⟩ ?_
  refine aA (J6 rfl (aM rfl rfl rfl rfl (dH rfl ?_)))
  refine cD [(1000, 1000)] [] [(1000, Cont.vec cj 3 (xM (aQ y (nth bZ)) (y.cells + 1) (n6 y t.1) (rA (aQ y (nth bZ)) (y.cells + 1) y (jq y) t.1)))] (CT y (aQ y (nth bZ)) (rA (aQ y (nth bZ)) (y.cells + 1) y (jq y) t.1) hFt (hft t.1) (Ty.jM 88 [Ty.pp (bk y), Ty.pp [Ty.pp (bk y)], Ty.pp [Ty.int .i64 ((t.1 : Nat) : Int)]]) rfl rfl (n6 y t.1) (fun i _ => dO (He y hr i t.1 (by omega)) rfl rfl rfl rfl rfl rfl) rfl) rfl rfl (aJ (aJ bK (sq (aJ (aJ (aJ bK (aO rfl rfl)) (ew (aJ bK (KM (l1 := bk y) (l2 := [Ty.sl dh (aQ y (nth bZ)), Ty.vs 1000 (aQ y (nth bZ)).length]) rfl rfl)))) (aO rfl rfl)))) (ew (aJ (aJ (aJ (aJ (aJ (aJ bK (ef (by exact List.mem_cons_self))) (aO rfl rfl)) (aO rfl rfl)) (aO rfl rfl)) (aO rfl rfl)) (aO rfl rfl)))) (cC (a := 1000) (b := 1000) (by exact List.mem_cons_self) rfl (cB (by exact List.mem_cons_self) rfl) pre_nil) (bL (a := 1000) (b := 1000) (by decide) rfl (cB (by decide) rfl) post_nil) (aO rfl rfl) ?_
  refine bp (E := dA) (xs := [gR (aQ y (nth bZ)) (y.cells + 1) (n6 y t.1)]) rfl rfl rfl rfl rfl (by decide) (by decide) (by repeat (first | exact (aY.nil : aY _ _ [] _) | (show aY _ _ ((_, _) :: _) _; apply aY.agg; (· exact (rfl : _ = Ty.agg _))))) (by exact rfl) rfl ?_
  refine fO rfl rfl (by decide) rfl rfl rfl rfl rfl rfl (by decide) (by (simp <;> omega)) (by (simp <;> omega)) ?_
  refine G4 rfl (aD (bQ (aC (aA ?_))))
  refine bg rfl rfl (by omega) (by omega) ?_
  refine bO rfl (aD ?_)
  refine bV (⟨t.1 + 1, by omega⟩) ?_ (by show y.D + 1 - (t.1 + 1) < y.D + 1 - t.1; omega)
  (refine c9.mk' ?_ ?_ <;> (repeat' (first | exact aH | exact aI | refine aB ?_ (Ty.aW _) | refine aB ?_ (Ty.aF _) | refine aG rfl ?_ ?_ | refine aB ?_ ?_)))
  all_goals skip
  all_goals first | exact Ty.fS (Dz _) | exact Cont.dR (FU _)
 refine cQ (aR (aR (au rfl (aC (aE (aA (J6 rfl (G4 rfl (cF rfl ?_)))))))))
 refine aD (aC (bC ?_))
 refine fV rfl rfl rfl ?_ ?_
 all_goals skip
 all_goals first | exact v9 (by decide) ((show _ = p9 (aQ y (nth bZ)) (y.cells + 1) y (y.D + 1) by rw [show t.1 = y.D + 1 by have := t.2; omega]).trans (z5 ho)) | exact bE rfl rfl (congrArg (Ty.int .i64) ho.symm)
set_option maxRecDepth 100000 in
theorem JY (y : bB) (hs : y.Small) (q s : Int) (t : Ty) (h1 : t.one = true) (p : Span → Bool) (hd : t.deps = []) (hc : t.cdeps = []) (hf : ∀ x ∈ eN y q, nj Tryz.prog t [Ty.agg (dA.tys x)] (Ty.bool (p x))) : eA Tryz.prog 100 [fK y, Ty.int .i64 q, Ty.int .i64 s, t] (Ty.j3 [Ty.int .i64 (m4 y q s p), Ty.int .i64 (j5 y q s p)]) := by
 refine az Tryz.func100 rfl (by decide) Tryz.ntmps100 (by exact Nat.le_of_ble_eq_true rfl) fun w0 M0 => ?_
 refine aE (aA (bM rfl (cF rfl (cF rfl (aD (aC (aE (aE (aA ?_)))))))))
 refine aa rfl rfl rfl (by exact Nat.le_of_ble_eq_true rfl) ?_
 refine bO rfl (ay (ya y hs q) rfl rfl rfl rfl rfl (cF rfl (aD (aC (aE (aA (bO rfl (bD rfl rfl rfl (aD ?_)))))))))
 refine aC ?_
 refine dL rfl (fun hc1 => ?_) (fun hc1 => ?_)
 ·
  refine aE (aA (bO rfl (cF rfl (cF rfl (aD (aC (bC (aX ?_))))))))
  refine fV rfl rfl rfl ?_ ?_
  all_goals skip
  all_goals first | exact bE rfl rfl (congrArg (Ty.int .i64) (Jr hc1).1) | exact bE rfl rfl (congrArg (Ty.int .i64) (Jr hc1).2)
 refine aj (aC (aE (aE (aA (bO rfl (ay (tq _ _ _) rfl rfl rfl rfl rfl (dn rfl (aD (aC ?_)))))))))
 refine cW rfl (fun hc2 => ?_) (fun hc2 => ?_)
 ·
  refine aE (aA (cF rfl (cF rfl (aD (aC (bC (aX ?_)))))))
  refine fV rfl rfl rfl ?_ ?_
  all_goals skip
  all_goals first | exact bE rfl rfl (congrArg (Ty.int .i64) (JZ hc1 hc2).1) | exact bE rfl rfl (congrArg (Ty.int .i64) (JZ hc1 hc2).2)
 refine aj (aC (aE (aA ?_)))
 refine aa rfl rfl rfl (by exact Nat.le_of_ble_eq_true rfl) ?_
 refine bO rfl (ay (vR y hs q) rfl rfl rfl rfl rfl (sX rfl (bR rfl rfl (bR rfl rfl (Bk rfl (cF rfl (aD (aC (aE ?_)))))))))
 refine aE (aA (bO rfl (bD rfl rfl rfl (aD (aC ?_)))))
 refine dL rfl (fun hc3 => ?_) (fun hc3 => ?_)
 ·
  refine aE (aA (bO rfl (cF rfl (cF rfl (aD (aC (bC (aX ?_))))))))
  refine fV rfl rfl rfl ?_ ?_
  all_goals skip
  all_goals first | exact bE rfl rfl (congrArg (Ty.int .i64) (Jn hc1 hc2 hc3).1) | exact bE rfl rfl (congrArg (Ty.int .i64) (Jn hc1 hc2 hc3).2)
 refine aj (aC (aE (aA (gC rfl ?_))))
 refine eJ (ty := t) rfl ?_
 refine ay (uC (eN y q) t h1 p hd hc hf) rfl (by exact bW rfl (bW hd rfl)) (by exact bP rfl (bP hc rfl)) rfl rfl ?_
 refine cF rfl (aD (aC (aE (aE (aA (bO rfl (bD rfl rfl rfl (aD (aC ?_)))))))))
 refine av rfl (fun hc4 => ?_) (fun hc4 => ?_)
 ·
  refine aE (aA (cF rfl (cF rfl (aD (aC (bC (aX ?_)))))))
  refine fV rfl rfl rfl ?_ ?_
  all_goals skip
  all_goals first | exact bE rfl rfl (congrArg (Ty.int .i64) (Jb hc1 hc2 hc3 hc4).1) | exact bE rfl rfl (congrArg (Ty.int .i64) (Jb hc1 hc2 hc3 hc4).2)
 refine aj (aC (aE (aA (bO rfl (cF rfl (cF rfl (aD (aC (bC ?_)))))))))
 refine fV rfl rfl rfl ?_ ?_
 all_goals skip
 all_goals first | exact bE rfl rfl (congrArg (Ty.int .i64) (Hu hc1 hc2 hc3 hc4).1) | exact bE rfl rfl (congrArg (Ty.int .i64) (Hu hc1 hc2 hc3 hc4).2)
set_option maxRecDepth 100000 in
theorem E5 (s : Span) (k : Int) : eA Tryz.prog 101 [Ty.agg (dA.tys s), Ty.pp [Ty.int .i64 k]] (Ty.bool (decide (s.lo ≥ k))) := by
 refine az Tryz.func101 rfl (by decide) Tryz.ntmps101 (by exact Nat.le_of_ble_eq_true rfl) fun w0 M0 => ?_
 refine aE (aA (bM rfl (dZ rfl (aD (aC (aE (aA ?_)))))))
 refine aS rfl rfl rfl rfl rfl (by decide) ?_
 refine aM rfl rfl rfl rfl (aM rfl rfl rfl rfl (bD rfl rfl rfl (dZ rfl (aD (aC (bC (bl rfl rfl ?_)))))))
 all_goals exact cI rfl rfl
set_option maxRecDepth 100000 in
theorem Fb (y : bB) (hs : y.Small) (q s : Int) : eA Tryz.prog 33 [fK y, Ty.int .i64 q, Ty.int .i64 s] (Ty.j3 [Ty.int .i64 (m4 y q s fun x => decide (x.lo ≥ s)), Ty.int .i64 (j5 y q s fun x => decide (x.lo ≥ s))]) := by
 refine az Tryz.func33 rfl (by decide) Tryz.ntmps33 (by exact Nat.le_of_ble_eq_true rfl) fun w0 M0 => ?_
 refine aE (aA (bM rfl ?_))
 refine gD (by exact (rfl : _ = Ty.int _ _)) rfl ?_
 refine cF rfl (cF rfl (aD (aC (aE (aA ?_)))))
 refine aa rfl rfl rfl (by exact Nat.le_of_ble_eq_true rfl) ?_
 refine bO rfl (aM rfl rfl rfl rfl (dH rfl ?_))
 refine ay (JY y hs q s (Ty.jM 101 [Ty.pp [Ty.int .i64 s]]) rfl (fun x => decide (x.lo ≥ s)) rfl rfl fun x _ => dO (E5 x s) rfl rfl rfl rfl rfl rfl) rfl rfl rfl rfl rfl ?_
 refine bR rfl rfl (bR rfl rfl (cF rfl (cF rfl (aD (aC (bC ?_))))))
 refine fV rfl rfl rfl ?_ ?_
 all_goals exact cI rfl rfl
theorem DA (y : bB) (hs : y.Small) : eA Tryz.prog 21 [fK y] (Ty.j3 [Ty.sl dA (eH y), Ty.int .i64 (cO y)]) := by
 by_cases ho : cO y = 0
 ·exact CK y hs ho
 exact CQ y hs ho
end Go.Proofs.YtelbollidfdcjaaGreat
namespace Go.Proofs.YtelbollidfdcjaaGreat
open Go Go.T
set_option maxHeartbeats 16000000
structure DN where
  cells : List BW
  out : Bool
  deriving Inhabited
def l7 (p : DN) : List Ty := [Ty.sl qE p.cells, Ty.bool p.out]
def j6 (fl : List bw) : Int := fl.foldl (fun m f => max m (f.lo - f.hi)) (-300)
def wW (y : bB) (l : List BW) (c : Int) : Bool := l.any fun x => decide (y.cell x.bin x.day = c)
def FT (y : bB) (p : DN) (f : bw) : Bool := if p.out = true then (wW y p.cells f.src && !wW y p.cells f.dst) else (wW y p.cells f.dst && !wW y p.cells f.src)
def Eg (y : bB) (p : DN) (f : bw) : Bool := if p.out = true then (wW y p.cells f.dst && !wW y p.cells f.src) else (wW y p.cells f.src && !wW y p.cells f.dst)
def qx (y : bB) (p : DN) (m : Int) (f : bw) : Int := (m + if FT y p f = true then f.lo else 0) - if Eg y p f = true then f.hi else 0
def gE (y : bB) (fl : List bw) (p : DN) : Nat → Int
  | 0 => 0
  | k + 1 => qx y p (gE y fl p k) (nth fl k)
def jA (y : bB) (fl : List bw) (p : DN) : Int := if p.cells = [] then j6 fl else gE y fl p fl.length
def lI (a b : BW) : Bool := !decide (a = b) && (decide (a.bin < b.bin) || (decide (a.bin = b.bin) && decide (a.day < b.day)))
def FM (y : bB) (c : BW) : Bool := y.bin c.bin && (decide (c.day ≥ 0) && decide (c.day ≤ y.days - 1))
open Classical in
noncomputable def mS (y : bB) (p : DN) : Int := if bq y = 0 then (if (p.cells.all (FM y)) = true then (if (∀ i, i + 1 < p.cells.length → lI (nth p.cells i) (nth p.cells (i + 1)) = true) then (if jA y (aQ y (nth bZ)) p < 1 then 6 else 0) else 4) else 1) else bq y
noncomputable def r6 (y : bB) (p : DN) : Int := if mS y p = 0 then jA y (aQ y (nth bZ)) p else 0
section
variable {y : bB} {fl : List bw} {a : List Int} {n b k : Nat} {p : DN} {f : bw} {m : Int}
theorem B0 : -300 = j6 (fl.take 0) := rfl
theorem B2 (h : k < fl.length) : max (j6 (fl.take k)) ((nth fl k).lo - (nth fl k).hi) = j6 (fl.take (k + 1)) := by
 unfold j6; rw [dS h, List.foldl_append]; rfl
theorem HE (h : p.out = true) : (wW y p.cells f.src && !wW y p.cells f.dst) = FT y p f ∧ (wW y p.cells f.dst && !wW y p.cells f.src) = Eg y p f := ⟨(if_pos h).symm, (if_pos h).symm⟩
theorem Jj (h : p.out = false) : (wW y p.cells f.dst && !wW y p.cells f.src) = FT y p f ∧ (wW y p.cells f.src && !wW y p.cells f.dst) = Eg y p f := ⟨(if_neg (by rw [h]; decide)).symm, (if_neg (by rw [h]; decide)).symm⟩
def nQ (y : bB) (p : DN) (m : Int) (f : bw) : Int := m + if FT y p f = true then f.lo else 0
theorem FO (h : FT y p f = true) : m + f.lo = nQ y p m f := by unfold nQ; rw [if_pos h]
theorem Ih (h : FT y p f = false) : m = nQ y p m f := by unfold nQ; rw [if_neg (by rw [h]; decide)]; omega
theorem Dt (h : 0 ≤ f.lo ∧ f.lo ≤ 300) : m ≤ nQ y p m f ∧ nQ y p m f ≤ m + 300 := by unfold nQ; split <;> omega
theorem yH : 0 = gE y fl p 0 := rfl
theorem AX (h : Eg y p (nth fl k) = true) : nQ y p (gE y fl p k) (nth fl k) - (nth fl k).hi = gE y fl p (k + 1) := by
 show _ = qx y p _ _; unfold qx; rw [if_pos h]; rfl
theorem DP (h : Eg y p (nth fl k) = false) : nQ y p (gE y fl p k) (nth fl k) = gE y fl p (k + 1) := by
 have e : ¬ Eg y p (nth fl k) = true := by rw [h]; decide
 show _ = qx y p _ _; unfold qx; rw [if_neg e]; unfold nQ; omega
theorem At (hb : ∀ i, i < fl.length → 0 ≤ (nth fl i).lo ∧ (nth fl i).lo ≤ 300 ∧ 0 ≤ (nth fl i).hi ∧ (nth fl i).hi ≤ 300) : ∀ k, k ≤ fl.length → -(300 * (k : Int)) ≤ gE y fl p k ∧ gE y fl p k ≤ 300 * (k : Int)
  | 0, _ => by rw [← yH]; omega
  | k + 1, h => by
    have ih := At hb k (by omega)
    have h1 := hb k (by omega)
    have h2 := Dt (y := y) (p := p) (m := gE y fl p k) (f := nth fl k) ⟨h1.1, h1.2.1⟩
    cases e : Eg y p (nth fl k) with
    | true => rw [← AX e]; omega
    | false => rw [← DP e]; omega
theorem Ch (h : p.cells = []) : j6 fl = jA y fl p := (if_pos h).symm
theorem Av (h : p.cells ≠ []) : gE y fl p fl.length = jA y fl p := (if_neg h).symm
theorem Ks (h : (p.cells.length : Int) = 0) : p.cells = [] := List.length_eq_zero_iff.1 (by omega)
theorem JD (h : ¬ (p.cells.length : Int) = 0) : p.cells ≠ [] := fun e => h (by rw [e]; rfl)
theorem DT {e : Int} (h : e = mS y p) (h0 : e ≠ 0) : 0 = r6 y p := by unfold r6; rw [← h, if_neg h0]
theorem Jk (h : ¬ bq y = 0) : bq y = mS y p ∧ 0 = r6 y p := by
 have e : bq y = mS y p := (if_neg h).symm
 exact ⟨e, DT e h⟩
theorem Ji (h : bq y = 0) (h2 : (p.cells.all (FM y)) = false) : 1 = mS y p ∧ 0 = r6 y p := by
 have e : 1 = mS y p := by unfold mS; rw [if_pos h, if_neg (by rw [h2]; decide)]
 exact ⟨e, DT e (by decide)⟩
theorem Lp (h : bq y = 0) (h2 : (p.cells.all (FM y)) = true) {i : Nat} (hi : i + 1 < p.cells.length) (h3 : lI (nth p.cells i) (nth p.cells (i + 1)) = false) : 4 = mS y p ∧ 0 = r6 y p := by
 have e : 4 = mS y p := by
  unfold mS; rw [if_pos h, if_pos h2, if_neg fun hx => by rw [hx i hi] at h3; cases h3]
 exact ⟨e, DT e (by decide)⟩
theorem Gu (h : bq y = 0) (h2 : (p.cells.all (FM y)) = true) {i : Nat} (h1 : 1 ≤ i) (hi : i < p.cells.length) (h3 : lI (nth p.cells (i - 1)) (nth p.cells i) = false) : 4 = mS y p ∧ 0 = r6 y p := by
 obtain ⟨j, rfl⟩ : ∃ j, i = j + 1 := ⟨i - 1, by omega⟩
 exact Lp h h2 hi h3
theorem Jq (h : bq y = 0) (h2 : (p.cells.all (FM y)) = true) (h3 : ∀ i, i + 1 < p.cells.length → lI (nth p.cells i) (nth p.cells (i + 1)) = true) (h4 : jA y (aQ y (nth bZ)) p < 1) : 6 = mS y p ∧ 0 = r6 y p := by
 have e : 6 = mS y p := by unfold mS; rw [if_pos h, if_pos h2, if_pos h3, if_pos h4]
 exact ⟨e, DT e (by decide)⟩
theorem G3 (h : bq y = 0) (h2 : (p.cells.all (FM y)) = true) (h3 : ∀ i, i + 1 < p.cells.length → lI (nth p.cells i) (nth p.cells (i + 1)) = true) (h4 : ¬ jA y (aQ y (nth bZ)) p < 1) : 0 = mS y p ∧ jA y (aQ y (nth bZ)) p = r6 y p := by
 have e : 0 = mS y p := by unfold mS; rw [if_pos h, if_pos h2, if_pos h3, if_neg h4]
 exact ⟨e, by unfold r6; rw [← e]; rfl⟩
theorem Ko (a b : BW) : (decide (a.bin = b.bin) && decide (a.day = b.day)) = decide (a = b) := by
 cases a; cases b; simp
theorem KQ {c : BW} (h : FM y c = true) : (-1 ≤ c.bin ∧ c.bin < y.bins.length) ∧ 0 ≤ c.day ∧ c.day ≤ y.days := by
 unfold FM bB.bin Ac at h
 simp only [Bool.and_eq_true, decide_eq_true_eq] at h; omega
theorem De (hr : y.cm) {c : Nat → Bool} {t : Nat} {q : Span} (h : q.lo ≤ 300 ∧ 0 ≤ q.hi) : ∀ k, k ≤ y.levels.length → (fy y c b t q k).lo ≤ 300 ∧ 0 ≤ (fy y c b t q k).hi
  | 0, _ => h
  | k + 1, hk => by
    have ih := De hr (c := c) (t := t) h k (by omega)
    have hl := hr.level _ (cM (xs := y.levels) (k := k) (by omega))
    unfold fy; split
    · show max _ _ ≤ 300 ∧ 0 ≤ min _ _; omega
    · exact ih
theorem FQ (hr : y.cm) {c : Nat → Bool} {i : Nat} (hi : i < (aQ y c).length) : 0 ≤ (nth (aQ y c) i).lo ∧ (nth (aQ y c) i).lo ≤ 300 ∧ 0 ≤ (nth (aQ y c) i).hi ∧ (nth (aQ y c) i).hi ≤ 300 := by
 have hB := uf hr (c := c) i hi
 suffices h : (nth (aQ y c) i).lo ≤ 300 ∧ 0 ≤ (nth (aQ y c) i).hi by omega
 rcases nC hi with ⟨b, t, hb, ht, rfl⟩ | ⟨k, hk, rfl⟩
 ·rw [iC hb ht]
  obtain ⟨h1, h2, h3⟩ := hr.bin _ (cM hb)
  refine De hr (q := gq y b t) ?_ y.levels.length (Nat.le_refl _)
  unfold gq; split
  ·exact ⟨by show (0 : Int) ≤ 300; decide, h1.1⟩
  show max _ _ ≤ 300 ∧ 0 ≤ min _ _; omega
 rw [iD hk]
 have h := (hr.move _ (cM hk)).2.2.2.2
 show (nth y.moves k).sacks.lo ≤ 300 ∧ 0 ≤ (nth y.moves k).sacks.hi
 omega
theorem Gg (hr : y.cm) {c : Nat → Bool} : ∀ i, i < (aQ y c).length → 0 ≤ (nth (aQ y c) i).lo ∧ (nth (aQ y c) i).lo ≤ 300 ∧ 0 ≤ (nth (aQ y c) i).hi ∧ (nth (aQ y c) i).hi ≤ 300 := fun i hi => FQ hr hi
end
attribute [local irreducible] aQ gU Way.ga Way.fin Way.room eP eC eo gF over bJ cK dW eR jG fA gb jy cU gB fX fW cy cG gI oJ iH iO iX gR z3 xM gx bB.kept bB.cells bq eI bZ fq jq cO n8 pN jT eN kC mN hasB sw rA p9 eH n6 j5 m4 j6 wW gE jA FT Eg qx
attribute [local irreducible] nQ
attribute [local irreducible] iw fu nh ru jS jR jO jN jQ rZ jL rj eO gy rY g9 rX nth fT dg aq eA bodyPost Exit.then Exit.inBlock Code.wp Code.wpIn rm jU rq rW jP eT ct cx bodyPostM eU
set_option maxRecDepth 100000 in
theorem Eo (y : bB) (fl : List bw) (a : List Int) (hfl : fl.length ≤ 34) (hb : ∀ i, i < fl.length → 0 ≤ (nth fl i).lo ∧ (nth fl i).lo ≤ 300 ∧ 0 ≤ (nth fl i).hi ∧ (nth fl i).hi ≤ 300) : eA Tryz.prog 128 [Ty.pp (lQ y fl a)] (Ty.int .i64 (j6 fl)) := by
 refine az Tryz.func128 rfl (by decide) Tryz.ntmps128 (by exact Nat.le_of_ble_eq_true rfl) fun w0 M0 => ?_
 refine aE (aA (cF rfl (aD (aC (aE (aA (cF rfl (aD (aC ?_)))))))))
 refine aE (aE (aA (jK rfl (bt rfl ?_))))
 refine aS rfl rfl rfl rfl rfl (by decide) ?_
 refine aM rfl rfl rfl rfl (cz rfl rfl rfl (bO rfl (aD (aC (ak ?_)))))
 refine cV (fun (k : {k : Nat // k ≤ fl.length}) => live [(0, Ty.pp (lQ y fl a)), (3, Ty.int .i64 (j6 (fl.take k.1))), (9, Ty.sl dh fl), (10, Ty.int .i64 fl.length), (11, Ty.int .i64 (k.1 : Nat))] []) (fun k => fl.length - k.1) (⟨0, by omega⟩) ?_ fun k => ?_
 ·(refine c9.mk' ?_ ?_ <;> (repeat' (first | exact aH | exact aI | refine aB ?_ (Ty.aW _) | refine aB ?_ (Ty.aF _) | refine aB ?_ ?_)))
  all_goals exact Ty.ah B0
 have hk := k.2
 refine aE (aA (bD rfl rfl rfl (aD (aC (aE ?_)))))
 refine av rfl (fun hc1 => ?_) (fun hc1 => ?_)
 ·
  refine aj (aC (aE (ak (aE (aA ?_)))))
  refine bN rfl rfl rfl rfl rfl rfl (by omega) ?_
  refine aa rfl rfl rfl (by exact Nat.le_of_ble_eq_true rfl) ?_
  refine bz rfl (by exact List.cons_ne_nil _ _) rfl ?_
  refine bu rfl rfl (by decide) rfl rfl rfl rfl rfl rfl ?_
  refine aD (aC ?_)
  have hbk := hb k.1 (by omega)
  refine aA (bO rfl ?_)
  refine aK rfl rfl rfl rfl rfl (by decide) ?_
  refine aP rfl rfl (by decide) rfl rfl rfl ?_
  refine aK rfl rfl rfl rfl rfl (by decide) ?_
  refine aP rfl rfl (by decide) rfl rfl rfl ?_
  refine fU rfl rfl (by omega) (by omega) ?_
  refine tJ rfl rfl (cF rfl (aD (bQ (aC (aA ?_)))))
  refine bg rfl rfl (by omega) (by omega) ?_
  refine bO rfl (aD ?_)
  refine bV (⟨k.1 + 1, by omega⟩) ?_ (by show fl.length - (k.1 + 1) < fl.length - k.1; omega)
  (refine c9.mk' ?_ ?_ <;> (repeat' (first | exact aH | exact aI | refine aB ?_ (Ty.aW _) | refine aB ?_ (Ty.aF _) | refine aB ?_ ?_)))
  all_goals skip
  all_goals exact Ty.ah (B2 (by omega))
 refine cQ (aR (aR (au rfl (aC (aE (aA (bO rfl (cF rfl (aD ?_)))))))))
 refine aC (bC (bl rfl rfl ?_))
 all_goals skip
 all_goals exact bE rfl rfl (congrArg (Ty.int .i64) (by rw [List.take_of_length_le (by have := k.2; omega)]))
set_option maxRecDepth 100000 in
theorem Ea (y : bB) (hr : y.cm) (fl : List bw) (a : List Int) (x : BW) (hx : (-1 ≤ x.bin ∧ x.bin < y.bins.length) ∧ 0 ≤ x.day ∧ x.day ≤ y.days) (c : Int) : eA Tryz.prog 188 [Ty.agg (qE.tys x), Ty.pp [Ty.pp (lQ y fl a)], Ty.pp [Ty.int .i64 c]] (Ty.bool (decide (y.cell x.bin x.day = c))) := by
 refine az Tryz.func188 rfl (by decide) Tryz.ntmps188 (by exact Nat.le_of_ble_eq_true rfl) fun w0 M0 => ?_
 refine aE (aA (bM rfl (dZ rfl (aD (aC (aE (cN mixed rfl (aM rfl rfl rfl rfl ?_))))))))
 refine aS rfl rfl rfl rfl rfl (by decide) ?_
 refine aM rfl rfl rfl rfl ?_
 refine aS rfl rfl rfl rfl rfl (by decide) ?_
 refine aM rfl rfl rfl rfl ?_
 refine dV [] (vr y hr x.bin x.day hx.1 hx.2) rfl (aL (mX (l1 := bk y) (l2 := [Ty.sl dh fl, Ty.sl cj a]) rfl rfl) (aL (af (bF rfl rfl)) (aL (af (bF rfl rfl)) bX))) (by exact dG _ _) ?_
 refine aM rfl rfl rfl rfl (bD rfl rfl rfl (dZ rfl (aD ?_)))
 refine ⟨by kernel_rfl, ?_⟩
 refine aC (bC (bl rfl rfl ?_))
 all_goals exact cI rfl rfl
set_option maxRecDepth 100000 in
theorem qW (y : bB) (hr : y.cm) (fl : List bw) (a : List Int) (p : DN) (hp : ∀ x ∈ p.cells, (-1 ≤ x.bin ∧ x.bin < y.bins.length) ∧ 0 ≤ x.day ∧ x.day ≤ y.days) (c : Int) : eA Tryz.prog 187 [Ty.int .i64 c, Ty.pp (l7 p), Ty.pp [Ty.pp (lQ y fl a)]] (Ty.bool (wW y p.cells c)) := by
 refine az Tryz.func187 rfl (by decide) Tryz.ntmps187 (by exact Nat.le_of_ble_eq_true rfl) fun w0 M0 => ?_
 refine aE (aA ?_)
 refine gD (by exact (rfl : _ = Ty.int _ _)) rfl ?_
 refine dZ rfl (aD (aC (aE (aA ?_))))
 refine aS rfl rfl rfl rfl rfl (by decide) ?_
 refine aM rfl rfl rfl rfl (dH rfl ?_)
 refine ay (lD p.cells (Ty.jM 188 [Ty.pp [Ty.pp (lQ y fl a)], Ty.pp [Ty.int .i64 c]]) rfl (fun x => decide (y.cell x.bin x.day = c)) rfl rfl fun x hx => dO (Ea y hr fl a x (hp x hx) c) rfl rfl rfl rfl rfl rfl) rfl rfl rfl rfl rfl ?_
 refine dZ rfl (aD (aC (bC (bl rfl rfl ?_))))
 all_goals skip
 all_goals exact bE rfl rfl (congrArg Ty.bool (by unfold wW; rfl))
set_option maxRecDepth 100000 in
theorem I5 (y : bB) (hr : y.cm) (fl : List bw) (a : List Int) (hfl : fl.length ≤ 34) (hb : ∀ i, i < fl.length → 0 ≤ (nth fl i).lo ∧ (nth fl i).lo ≤ 300 ∧ 0 ≤ (nth fl i).hi ∧ (nth fl i).hi ≤ 300) (p : DN) (hp : ∀ x ∈ p.cells, (-1 ≤ x.bin ∧ x.bin < y.bins.length) ∧ 0 ≤ x.day ∧ x.day ≤ y.days) : eA Tryz.prog 137 [Ty.pp (lQ y fl a), Ty.agg (l7 p)] (Ty.int .i64 (jA y fl p)) := by
 refine az Tryz.func137 rfl (by decide) Tryz.ntmps137 (by exact Nat.le_of_ble_eq_true rfl) fun w0 M0 => ?_
 refine aE (aA ?_)
 refine gD (by exact (rfl : _ = Ty.pp _)) rfl ?_
 refine bM rfl (cF rfl (aD (aC (aE (aE (aA ?_))))))
 refine aS rfl rfl rfl rfl rfl (by decide) ?_
 refine aM rfl rfl rfl rfl (cz rfl rfl rfl (bD rfl rfl rfl (aD (aC ?_))))
 refine av rfl (fun hc1 => ?_) (fun hc1 => ?_)
 ·
  refine aE (aA (aM rfl rfl rfl rfl (ay (Eo y fl a hfl hb) rfl rfl rfl rfl rfl (cF rfl (aD (aC (bC (aX (bl rfl rfl ?_)))))))))
  all_goals skip
  all_goals exact bE rfl rfl (congrArg (Ty.int .i64) (Ch (Ks hc1)))
 refine aj (aC (aE (aA (dH rfl (Mm rfl (aD (aC (aE (aA ?_)))))))))
 refine cF rfl (aD (aC (aE (aE (aA (aM rfl rfl rfl rfl (bt rfl ?_)))))))
 refine aS rfl rfl rfl rfl rfl (by decide) ?_
 refine aM rfl rfl rfl rfl (cz rfl rfl rfl (bO rfl (aD (aC (ak ?_)))))
 refine cV (fun (k : {k : Nat // k ≤ fl.length}) => live [(3, Ty.pp (l7 p)), (5, Ty.jM 187 [Ty.pp (l7 p), Ty.pp [Ty.pp (lQ y fl a)]]), (6, Ty.int .i64 (gE y fl p k.1)), (21, Ty.sl dh fl), (22, Ty.int .i64 fl.length), (23, Ty.int .i64 (k.1 : Nat))] []) (fun k => fl.length - k.1) (⟨0, by omega⟩) ?_ fun k => ?_
 ·(refine c9.mk' ?_ ?_ <;> (repeat' (first | exact aH | exact aI | refine aB ?_ (Ty.aW _) | refine aB ?_ (Ty.aF _) | refine aB ?_ ?_)))
  all_goals exact Ty.ah yH
 have hk := k.2
 have hup := At (y := y) (p := p) hb k.1 k.2
 refine aE (aA (bD rfl rfl rfl (aD (aC (aE ?_)))))
 refine av rfl (fun hc2 => ?_) (fun hc2 => ?_)
 ·
  refine aj (aC (aE (ak (aE (aA ?_)))))
  refine bN rfl rfl rfl rfl rfl rfl (by omega) ?_
  refine aa rfl rfl rfl (by exact Nat.le_of_ble_eq_true rfl) ?_
  refine bz rfl (by exact List.cons_ne_nil _ _) rfl ?_
  refine bu rfl rfl (by decide) rfl rfl rfl rfl rfl rfl ?_
  refine aD (aC (aE ?_))
  have hbk := hb k.1 (by omega)
  have hhf := Dt (y := y) (p := p) (m := gE y fl p k.1) (f := (nth fl k.1)) ⟨hbk.1, hbk.2.1⟩
  refine cN mixed rfl (MS rfl ?_)
  refine aK rfl rfl rfl rfl rfl (by decide) ?_
  refine aP rfl rfl (by decide) rfl rfl rfl ?_
  refine eV rfl (dO (qW y hr fl a p hp (nth fl k.1).dst) rfl rfl rfl rfl rfl rfl) rfl (gO rfl ?_)
  apply aT (s := 31) rfl rfl rfl
  ·intro hg; apply aU; (refine MS rfl ?_); refine aD ?_; exact rfl
  ·exact rfl
  ·exact rfl
  apply aT (s := 31) rfl rfl rfl
  ·intro hg; apply aU; (refine aK rfl rfl rfl rfl rfl (by decide) ?_); refine aD ?_; exact rfl
  ·exact rfl
  ·exact rfl
  apply aT (s := 31) rfl rfl rfl
  ·intro hg; apply aN (s := 33) rfl (by (rw [hg]; rfl)); apply aU; (refine aP rfl rfl (by decide) rfl rfl rfl ?_); refine aD ?_; exact rfl
  ·exact rfl
  ·exact rfl
  apply aT (s := 31) rfl rfl rfl
  ·intro hg; apply aN (s := 32) rfl (by (rw [hg]; rfl)); apply aN (s := 34) rfl (by (rw [hg]; rfl)); apply aU; (refine eV rfl (dO (qW y hr fl a p hp (nth fl k.1).src) rfl rfl rfl rfl rfl rfl) rfl ?_); refine aD ?_; exact rfl
  ·exact rfl
  ·exact rfl
  apply aT (s := 31) rfl rfl rfl
  ·intro hg; apply aN (s := 35) rfl (by (rw [hg]; rfl)); apply aU; (refine dn rfl ?_); refine aD ?_; exact rfl
  ·exact rfl
  ·exact rfl
  refine eL rfl rfl (MS rfl ?_)
  refine aK rfl rfl rfl rfl rfl (by decide) ?_
  refine aP rfl rfl (by decide) rfl rfl rfl ?_
  refine eV rfl (dO (qW y hr fl a p hp (nth fl k.1).src) rfl rfl rfl rfl rfl rfl) rfl (gO rfl ?_)
  apply aT (s := 42) rfl rfl rfl
  ·intro hg; apply aU; (refine MS rfl ?_); refine aD ?_; exact rfl
  ·exact rfl
  ·exact rfl
  apply aT (s := 42) rfl rfl rfl
  ·intro hg; apply aU; (refine aK rfl rfl rfl rfl rfl (by decide) ?_); refine aD ?_; exact rfl
  ·exact rfl
  ·exact rfl
  apply aT (s := 42) rfl rfl rfl
  ·intro hg; apply aN (s := 44) rfl (by (rw [hg]; rfl)); apply aU; (refine aP rfl rfl (by decide) rfl rfl rfl ?_); refine aD ?_; exact rfl
  ·exact rfl
  ·exact rfl
  apply aT (s := 42) rfl rfl rfl
  ·intro hg; apply aN (s := 43) rfl (by (rw [hg]; rfl)); apply aN (s := 45) rfl (by (rw [hg]; rfl)); apply aU; (refine eV rfl (dO (qW y hr fl a p hp (nth fl k.1).dst) rfl rfl rfl rfl rfl rfl) rfl ?_); refine aD ?_; exact rfl
  ·exact rfl
  ·exact rfl
  apply aT (s := 42) rfl rfl rfl
  ·intro hg; apply aN (s := 46) rfl (by (rw [hg]; rfl)); apply aU; (refine dn rfl ?_); refine aD ?_; exact rfl
  ·exact rfl
  ·exact rfl
  refine eL rfl rfl (dZ rfl (dZ rfl (aD ?_)))
  refine ⟨by kernel_rfl, ?_⟩
  refine aC ?_
  refine j9 (J := live [(3, Ty.pp (l7 p)), (5, Ty.jM 187 [Ty.pp (l7 p), Ty.pp [Ty.pp (lQ y fl a)]]), (6, Ty.int .i64 (gE y fl p k.1)), (8, Ty.ptr 9 0), (9, Ty.bool (FT y p (nth fl k.1))), (10, Ty.bool (Eg y p (nth fl k.1))), (21, Ty.sl dh fl), (22, Ty.int .i64 fl.length), (23, Ty.int .i64 (k.1 : Nat))] [(9, Cont.cells 187 (dh.tys (nth fl k.1)))]) ?_ ?_
  ·
   refine aE (aA ?_)
   refine aS rfl rfl rfl rfl rfl (by decide) ?_
   refine aM rfl rfl rfl rfl (aD (aC ?_))
   refine cW rfl (fun hc3 => ?_) (fun hc3 => ?_)
   ·
    refine aA (gO rfl (gO rfl (dZ rfl (dZ rfl (aD (fJ ?_))))))
    (refine c9.mk' ?_ ?_ <;> (repeat' (first | exact aH | exact aI | refine aB ?_ (Ty.aW _) | refine aB ?_ (Ty.aF _) | refine aG rfl (Cont.aF _) ?_ | refine aB ?_ ?_)))
    all_goals first | exact Ty.qP (HE (by assumption)).1 | exact Ty.qP (HE (by assumption)).2
   refine aj (fJ ?_)
   (refine c9.mk' ?_ ?_ <;> (repeat' (first | exact aH | exact aI | refine aB ?_ (Ty.aW _) | refine aB ?_ (Ty.aF _) | refine aG rfl (Cont.aF _) ?_ | refine aB ?_ ?_)))
   all_goals first | exact Ty.qP (Jj (by assumption)).1 | exact Ty.qP (Jj (by assumption)).2
  refine j9 (J := live [(3, Ty.pp (l7 p)), (5, Ty.jM 187 [Ty.pp (l7 p), Ty.pp [Ty.pp (lQ y fl a)]]), (6, Ty.int .i64 (nQ y p (gE y fl p k.1) (nth fl k.1))), (8, Ty.ptr 9 0), (10, Ty.bool (Eg y p (nth fl k.1))), (21, Ty.sl dh fl), (22, Ty.int .i64 fl.length), (23, Ty.int .i64 (k.1 : Nat))] [(9, Cont.cells 187 (dh.tys (nth fl k.1)))]) ?_ ?_
  ·
   refine aE (aA (gO rfl (aD (aC ?_))))
   refine cW rfl (fun hc4 => ?_) (fun hc4 => ?_)
   ·
    refine aA (bO rfl ?_)
    refine aK rfl rfl rfl rfl rfl (by decide) ?_
    refine aP rfl rfl (by decide) rfl rfl rfl ?_
    refine bg rfl rfl (by omega) (by omega) ?_
    refine cF rfl (aD (fJ ?_))
    (refine c9.mk' ?_ ?_ <;> (repeat' (first | exact aH | exact aI | refine aB ?_ (Ty.aW _) | refine aB ?_ (Ty.aF _) | refine aG rfl (Cont.aF _) ?_ | refine aB ?_ ?_)))
    all_goals exact Ty.ah (FO (by assumption))
   refine aj (fJ ?_)
   (refine c9.mk' ?_ ?_ <;> (repeat' (first | exact aH | exact aI | refine aB ?_ (Ty.aW _) | refine aB ?_ (Ty.aF _) | refine aG rfl (Cont.aF _) ?_ | refine aB ?_ ?_)))
   all_goals exact Ty.ah (Ih (by assumption))
  refine aE (aA (gO rfl (aD (aC ?_))))
  refine cW rfl (fun hc5 => ?_) (fun hc5 => ?_)
  ·
   refine aA (bO rfl ?_)
   refine aK rfl rfl rfl rfl rfl (by decide) ?_
   refine aP rfl rfl (by decide) rfl rfl rfl ?_
   refine fU rfl rfl (by omega) (by omega) ?_
   refine cF rfl (aD (bQ (aC (aA ?_))))
   refine bg rfl rfl (by omega) (by omega) ?_
   refine bO rfl (aD ?_)
   refine bV (⟨k.1 + 1, by omega⟩) ?_ (by show fl.length - (k.1 + 1) < fl.length - k.1; omega)
   (refine c9.mk' ?_ ?_ <;> (repeat' (first | exact aH | exact aI | refine aB ?_ (Ty.aW _) | refine aB ?_ (Ty.aF _) | refine aB ?_ ?_)))
   all_goals skip
   all_goals exact Ty.ah (AX (by assumption))
  refine aj (bQ (aC (aA ?_)))
  refine bg rfl rfl (by omega) (by omega) ?_
  refine bO rfl (aD ?_)
  refine bV (⟨k.1 + 1, by omega⟩) ?_ (by show fl.length - (k.1 + 1) < fl.length - k.1; omega)
  (refine c9.mk' ?_ ?_ <;> (repeat' (first | exact aH | exact aI | refine aB ?_ (Ty.aW _) | refine aB ?_ (Ty.aF _) | refine aB ?_ ?_)))
  all_goals skip
  all_goals exact Ty.ah (DP (by assumption))
 refine cQ (aR (aR (au rfl (aC (aE (aA (bO rfl (cF rfl (aD ?_)))))))))
 refine aC (bC (bl rfl rfl ?_))
 all_goals skip
 all_goals exact bE rfl rfl (congrArg (Ty.int .i64) ((show _ = gE y fl p fl.length by rw [show k.1 = fl.length by have := k.2; omega]).trans (Av (JD hc1))))
set_option maxRecDepth 100000 in
theorem FV (a b : BW) : eA Tryz.prog 136 [Ty.agg (qE.tys a), Ty.agg (qE.tys b)] (Ty.bool (lI a b)) := by
 refine az Tryz.func136 rfl (by decide) Tryz.ntmps136 (by exact Nat.le_of_ble_eq_true rfl) fun w0 M0 => ?_
 refine aE (aA (bM rfl (bM rfl (dZ rfl (aD (aC (aE (aA ?_))))))))
 refine aa rfl rfl rfl (by exact Nat.le_of_ble_eq_true rfl) ?_
 refine aa rfl rfl rfl (by exact Nat.le_of_ble_eq_true rfl) ?_
 refine uK (Kp a.bin a.day b.bin b.day) rfl rfl (gO rfl ?_)
 apply aT (s := 8) rfl rfl rfl
 ·intro hg; apply aU; (refine aS rfl rfl rfl rfl rfl (by decide) ?_); refine aD ?_; exact rfl
 ·exact rfl
 ·exact rfl
 apply aT (s := 8) rfl rfl rfl
 ·intro hg; apply aN (s := 9) rfl (by (rw [hg]; rfl)); apply aU; (refine aM rfl rfl rfl rfl ?_); refine aD ?_; exact rfl
 ·exact rfl
 ·exact rfl
 apply aT (s := 8) rfl rfl rfl
 ·intro hg; apply aU; (refine aS rfl rfl rfl rfl rfl (by decide) ?_); refine aD ?_; exact rfl
 ·exact rfl
 ·exact rfl
 apply aT (s := 8) rfl rfl rfl
 ·intro hg; apply aN (s := 11) rfl (by (rw [hg]; rfl)); apply aU; (refine aM rfl rfl rfl rfl ?_); refine aD ?_; exact rfl
 ·exact rfl
 ·exact rfl
 apply aT (s := 8) rfl rfl rfl
 ·intro hg; apply aN (s := 10) rfl (by (rw [hg]; rfl)); apply aN (s := 12) rfl (by (rw [hg]; rfl)); apply aU; (refine bD rfl rfl rfl ?_); refine aD ?_; exact rfl
 ·exact rfl
 ·exact rfl
 apply aT (s := 8) rfl rfl rfl
 ·intro hg; apply aN (s := 13) rfl (by (rw [hg]; rfl)); apply aU; (refine gO rfl ?_); refine aD ?_; exact rfl
 ·exact rfl
 ·exact rfl
 apply fE (s := 14) rfl rfl rfl
 ·intro hg1 hg2; apply aU; (refine aS rfl rfl rfl rfl rfl (by decide) ?_); refine aD ?_; exact rfl
 ·exact rfl
 ·exact rfl
 apply fE (s := 14) rfl rfl rfl
 ·intro hg1 hg2; apply aN (s := 15) rfl (by (rw [hg1, hg2]; rfl)); apply aU; (refine aM rfl rfl rfl rfl ?_); refine aD ?_; exact rfl
 ·exact rfl
 ·exact rfl
 apply fE (s := 14) rfl rfl rfl
 ·intro hg1 hg2; apply aU; (refine aS rfl rfl rfl rfl rfl (by decide) ?_); refine aD ?_; exact rfl
 ·exact rfl
 ·exact rfl
 apply fE (s := 14) rfl rfl rfl
 ·intro hg1 hg2; apply aN (s := 17) rfl (by (rw [hg1, hg2]; rfl)); apply aU; (refine aM rfl rfl rfl rfl ?_); refine aD ?_; exact rfl
 ·exact rfl
 ·exact rfl
 apply fE (s := 14) rfl rfl rfl
 ·intro hg1 hg2; apply aN (s := 16) rfl (by (rw [hg1, hg2]; rfl)); apply aN (s := 18) rfl (by (rw [hg1, hg2]; rfl)); apply aU; (refine bD rfl rfl rfl ?_); refine aD ?_; exact rfl
 ·exact rfl
 ·exact rfl
 apply fE (s := 14) rfl rfl rfl
 ·intro hg1 hg2; apply aN (s := 19) rfl (by (rw [hg1, hg2]; rfl)); apply aU; (refine gO rfl ?_); refine aD ?_; exact rfl
 ·exact rfl
 ·exact rfl
 apply fE (s := 20) rfl rfl rfl
 ·intro hg1 hg2; apply aU; (refine aS rfl rfl rfl rfl rfl (by decide) ?_); refine aD ?_; exact rfl
 ·exact rfl
 ·exact rfl
 apply fE (s := 20) rfl rfl rfl
 ·intro hg1 hg2; apply aN (s := 21) rfl (by (rw [hg1, hg2]; rfl)); apply aU; (refine aM rfl rfl rfl rfl ?_); refine aD ?_; exact rfl
 ·exact rfl
 ·exact rfl
 apply fE (s := 20) rfl rfl rfl
 ·intro hg1 hg2; apply aU; (refine aS rfl rfl rfl rfl rfl (by decide) ?_); refine aD ?_; exact rfl
 ·exact rfl
 ·exact rfl
 apply fE (s := 20) rfl rfl rfl
 ·intro hg1 hg2; apply aN (s := 23) rfl (by (rw [hg1, hg2]; rfl)); apply aU; (refine aM rfl rfl rfl rfl ?_); refine aD ?_; exact rfl
 ·exact rfl
 ·exact rfl
 apply fE (s := 20) rfl rfl rfl
 ·intro hg1 hg2; apply aN (s := 22) rfl (by (rw [hg1, hg2]; rfl)); apply aN (s := 24) rfl (by (rw [hg1, hg2]; rfl)); apply aU; (refine bD rfl rfl rfl ?_); refine aD ?_; exact rfl
 ·exact rfl
 ·exact rfl
 apply fE (s := 14) rfl rfl rfl
 ·intro hg1 hg2; apply aN (s := 20) rfl (by (rw [hg1, hg2]; rfl)); apply p7 (s := 25) rfl (by (rw [hg1, hg2]; rfl)); apply aU; (refine eL rfl rfl ?_); refine aD ?_; exact rfl
 ·exact rfl
 ·exact rfl
 apply aT (s := 8) rfl rfl rfl
 ·intro hg; apply aN (s := 14) rfl (by (rw [hg]; rfl)); apply p7 (s := 26) rfl (by (rw [hg]; rfl)); apply aU; (refine n4 rfl rfl ?_); refine aD ?_; exact rfl
 ·exact rfl
 ·exact rfl
 refine eL rfl rfl (dZ rfl (aD (aC (bC (bl rfl rfl ?_)))))
 all_goals skip
 all_goals exact bE rfl rfl (congrArg Ty.bool (by unfold lI; rw [Ko]))
set_option maxRecDepth 100000 in
theorem EA (y : bB) (hr : y.cm) (hs : y.Small) (c : BW) : eA Tryz.prog 134 [Ty.agg (qE.tys c), Ty.pp (bk y)] (Ty.bool (FM y c)) := by
 refine az Tryz.func134 rfl (by decide) Tryz.ntmps134 (by exact Nat.le_of_ble_eq_true rfl) fun w0 M0 => ?_
 have h2 := hr.days
 refine aE (aA (bM rfl (dZ rfl (aD (aC (aE (aA ?_)))))))
 refine aa rfl rfl rfl (by exact Nat.le_of_ble_eq_true rfl) ?_
 refine aS rfl rfl rfl rfl rfl (by decide) ?_
 refine aM rfl rfl rfl rfl (ay (C1 y hs _) rfl rfl rfl rfl rfl (gO rfl ?_))
 apply aT (s := 8) rfl rfl rfl
 ·intro hg; apply aU; (refine aS rfl rfl rfl rfl rfl (by decide) ?_); refine aD ?_; exact rfl
 ·exact rfl
 ·exact rfl
 apply aT (s := 8) rfl rfl rfl
 ·intro hg; apply aN (s := 9) rfl (by (rw [hg]; rfl)); apply aU; (refine aM rfl rfl rfl rfl ?_); refine aD ?_; exact rfl
 ·exact rfl
 ·exact rfl
 apply aT (s := 8) rfl rfl rfl
 ·intro hg; apply aU; (refine aS rfl rfl rfl rfl rfl (by decide) ?_); refine aD ?_; exact rfl
 ·exact rfl
 ·exact rfl
 apply aT (s := 8) rfl rfl rfl
 ·intro hg; apply aN (s := 11) rfl (by (rw [hg]; rfl)); apply aU; (refine aM rfl rfl rfl rfl ?_); refine aD ?_; exact rfl
 ·exact rfl
 ·exact rfl
 apply aT (s := 8) rfl rfl rfl
 ·intro hg; apply aN (s := 12) rfl (by (rw [hg]; rfl)); apply aU; (refine fU rfl rfl (by omega) (by omega) ?_); refine aD ?_; exact rfl
 ·exact rfl
 ·exact rfl
 apply aT (s := 8) rfl rfl rfl
 ·intro hg; apply aN (s := 10) rfl (by (rw [hg]; rfl)); apply aN (s := 13) rfl (by (rw [hg]; rfl)); apply aU; (refine ay (tq _ _ _) rfl rfl rfl rfl rfl ?_); refine aD ?_; exact rfl
 ·exact rfl
 ·exact rfl
 refine eL rfl rfl (dZ rfl (aD (aC (bC (bl rfl rfl ?_)))))
 all_goals exact cI rfl rfl
 all_goals trace_state
set_option maxRecDepth 100000 in
theorem HR (y : bB) (hs : y.Small) (p : DN) (hl : p.cells.length ≤ 1000) : eA Tryz.prog 61 [fK y, Ty.agg (l7 p)] (Ty.j3 [Ty.int .i64 (r6 y p), Ty.int .i64 (mS y p)]) := by
 refine az Tryz.func61 rfl (by decide) Tryz.ntmps61 (by exact Nat.le_of_ble_eq_true rfl) fun w0 M0 => ?_
 refine aE (aA (bM rfl (bM rfl (cF rfl (cF rfl (aD (aC (aE (aE ?_)))))))))
 refine aA ?_
 refine aa rfl rfl rfl (by exact Nat.le_of_ble_eq_true rfl) ?_
 refine ay (kS y hs) rfl rfl rfl rfl rfl (cF rfl (aD (aC (aE (aA (bO rfl (bD rfl rfl rfl (aD (aC ?_)))))))))
 refine dL rfl (fun hc1 => ?_) (fun hc1 => ?_)
 ·
  refine aE (aA (bO rfl (cF rfl (cF rfl (aD (aC (bC (aX ?_))))))))
  refine fV rfl rfl rfl ?_ ?_
  all_goals skip
  all_goals first | exact bE rfl rfl (congrArg (Ty.int .i64) (Jk hc1).1) | exact bE rfl rfl (congrArg (Ty.int .i64) (Jk hc1).2)
 refine aj (aC (aE (aE ?_)))
 have hck : bq y = 0 := hc1
 have hr := cr hck
 refine aA ?_
 refine aS rfl rfl rfl rfl rfl (by decide) ?_
 refine aM rfl rfl rfl rfl (dH rfl ?_)
 refine ay (Al p.cells (Ty.jM 134 [Ty.pp (bk y)]) rfl (FM y) rfl rfl fun c _ => dO (EA y hr hs c) rfl rfl rfl rfl rfl rfl) rfl rfl rfl rfl rfl ?_
 refine dn rfl (aD (aC ?_))
 refine cW rfl (fun hc2 => ?_) (fun hc2 => ?_)
 ·
  refine aE (aA (cF rfl (cF rfl (aD (aC (bC (aX ?_)))))))
  refine fV rfl rfl rfl ?_ ?_
  all_goals skip
  all_goals first | exact bE rfl rfl (congrArg (Ty.int .i64) (Ji hc1 (pQ hc2)).1) | exact bE rfl rfl (congrArg (Ty.int .i64) (Ji hc1 (pQ hc2)).2)
 refine aj (aC (aE (aE ?_)))
 have hall : (p.cells.all (FM y)) = true := ff hc2
 refine aA (cF rfl (aD (aC (ak ?_))))
 refine cV (fun (i : {i : Nat // 1 ≤ i ∧ ∀ j, j + 1 < i → j + 1 < p.cells.length → lI (nth p.cells j) (nth p.cells (j + 1)) = true}) => live [(2, Ty.pp (bk y)), (3, Ty.pp (l7 p)), (7, Ty.int .i64 (i.1 : Nat))] []) (fun i => p.cells.length - i.1) (⟨1, Nat.le_refl _, fun j hj => by omega⟩) ?_ fun i => ?_
 ·(refine c9.mk' ?_ ?_ <;> (repeat' (first | exact aH | exact aI | refine aB ?_ (Ty.aW _) | refine aB ?_ (Ty.aF _))))
 have hi1 := i.2.1
 refine aE (aE (aA (bO rfl ?_)))
 refine aS rfl rfl rfl rfl rfl (by decide) ?_
 refine aM rfl rfl rfl rfl (cz rfl rfl rfl (bD rfl rfl rfl (aD (aC ?_))))
 refine av rfl (fun hc3 => ?_) (fun hc3 => ?_)
 ·
  refine aj (aC (aE (ak (aE (cN mixed rfl ?_)))))
  refine aS rfl rfl rfl rfl rfl (by decide) ?_
  refine aM rfl rfl rfl rfl (bO rfl ?_)
  refine fU rfl rfl (by omega) (by omega) ?_
  refine bN (i := i.1 - 1) rfl (by exact congrArg (Ty.int .i64) (by omega : ((i.1 : Nat) : Int) - 1 = ((i.1 - 1 : Nat) : Int))) rfl rfl rfl rfl (by omega) ?_
  refine aa rfl rfl rfl (by exact Nat.le_of_ble_eq_true rfl) ?_
  refine aS rfl rfl rfl rfl rfl (by decide) ?_
  refine aM rfl rfl rfl rfl (bO rfl ?_)
  refine bN rfl rfl rfl rfl rfl rfl (by omega) ?_
  refine aa rfl rfl rfl (by exact Nat.le_of_ble_eq_true rfl) ?_
  refine ay (FV _ _) rfl rfl rfl rfl rfl (dn rfl (aD ?_))
  refine ⟨by kernel_rfl, ?_⟩
  refine aC ?_
  refine cW rfl (fun hc4 => ?_) (fun hc4 => ?_)
  ·
   refine aE (aA (cF rfl (cF rfl (aD (aC (bC (bG (aX (aX ?_)))))))))
   refine bG (aX ?_)
   refine fV rfl rfl rfl ?_ ?_
   all_goals skip
   all_goals first | exact bE rfl rfl (congrArg (Ty.int .i64) (Gu hc1 hall i.2.1 (by omega) (pQ hc4)).1) | exact bE rfl rfl (congrArg (Ty.int .i64) (Gu hc1 hall i.2.1 (by omega) (pQ hc4)).2)
  refine aj (bQ (aC (aA (bO rfl ?_))))
  refine bg rfl rfl (by omega) (by omega) ?_
  refine cF rfl (aD ?_)
  refine bV (⟨i.1 + 1, by omega, fun j hj hj2 => by by_cases e : j + 1 = i.1; (have := ff hc4; rwa [show i.1 - 1 = j by omega, show i.1 = j + 1 by omega] at this); exact i.2.2 j (by omega) hj2⟩) ?_ (by show p.cells.length - (i.1 + 1) < p.cells.length - i.1; omega)
  (refine c9.mk' ?_ ?_ <;> (repeat' (first | exact aH | exact aI | refine aB ?_ (Ty.aW _) | refine aB ?_ (Ty.aF _))))
  all_goals skip
 refine cQ (aR (aR (au rfl (aC (aE (cN mixed rfl ?_))))))
 refine aa rfl rfl rfl (by exact Nat.le_of_ble_eq_true rfl) ?_
 refine ay (qU) rfl rfl rfl rfl rfl ?_
 refine cD (res' := Ty.pp (rG y 2000 1000 (aQ y (nth bZ)).length (aQ y (nth bZ)).length)) [(2000, 23), (1000, 31)] [2000, 1000] [(2000, Cont.vec dh 187 (aQ y (nth bZ))), (1000, Cont.vec cj 3 (gU (aQ y (nth bZ))))] (rP y hr bZ jJ) rfl rfl (aJ (aJ bK (aO rfl rfl)) (aO rfl rfl)) pre_nil (bL (a := 2000) (b := 23) (by decide) rfl (cB (by decide) rfl) (bL (a := 1000) (b := 31) (by decide) rfl (cB (by decide) rfl) post_nil)) (ew (aJ (aJ (aJ (aJ (aJ (aJ bK (ef (by decide))) (ef (by decide))) (aO rfl rfl)) (aO rfl rfl)) (aO rfl rfl)) (aO rfl rfl))) ?_
 refine aa rfl rfl rfl (by exact Nat.le_of_ble_eq_true rfl) ?_
 refine dV [2000, 1000] (I5 y hr (aQ y (nth bZ)) (gU (aQ y (nth bZ))) (ji hr) (Gg hr) p (fun x hx => KQ (List.all_eq_true.1 hall x hx))) rfl (aL (jt (aL (af (bF rfl rfl)) (aL (af (bF rfl rfl)) (aL (af (bF rfl rfl)) (aL (af (bF rfl rfl)) (aL (iL rfl rfl (by decide) rfl) (aL (iL rfl (Br _) (by decide) rfl) bX))))))) (aL (af (bF rfl rfl)) bX)) (by exact dG _ _) ?_
 refine cF rfl (aD ?_)
 refine ⟨by kernel_rfl, ?_⟩
 refine aC (aE (aE (aA (bO rfl (bD rfl rfl rfl (aD (aC ?_)))))))
 refine av rfl (fun hc5 => ?_) (fun hc5 => ?_)
 ·
  refine aE (aA (cF rfl (cF rfl (aD (aC (bC (aX ?_)))))))
  refine fV rfl rfl rfl ?_ ?_
  all_goals skip
  all_goals first | exact bE rfl rfl (congrArg (Ty.int .i64) (Jq hc1 hall (fun j hj => i.2.2 j (by omega) hj) hc5).1) | exact bE rfl rfl (congrArg (Ty.int .i64) (Jq hc1 hall (fun j hj => i.2.2 j (by omega) hj) hc5).2)
 refine aj (aC (aE (aA (bO rfl (cF rfl (cF rfl (aD (aC (bC ?_)))))))))
 refine fV rfl rfl rfl ?_ ?_
 all_goals skip
 all_goals first | exact bE rfl rfl (congrArg (Ty.int .i64) (G3 hc1 hall (fun j hj => i.2.2 j (by omega) hj) hc5).1) | exact bE rfl rfl (congrArg (Ty.int .i64) (G3 hc1 hall (fun j hj => i.2.2 j (by omega) hj) hc5).2)
end Go.Proofs.YtelbollidfdcjaaGreat
namespace Go.Proofs.YtelbollidfdcjaaGreat
open Go Go.T
set_option maxHeartbeats 8000000
attribute [local irreducible] aQ gU
attribute [local irreducible] iw fu nh ru jS jR jO jN jQ rZ jL rj eO gy rY g9 rX nth fT dg aq eA bodyPost Exit.then Exit.inBlock Code.wp Code.wpIn rm jU rq rW jP eT ct cx bodyPostM eU
set_option maxRecDepth 100000 in
theorem su (y : bB) (hr : y.cm) (c8 : List Bool) (hc8 : c8.length = 8) : eT Tryz.prog 117 [] [] [fK y, Ty.arr iJ c8] [(31, Cont.vec cj 3 (gU (aQ y (nth c8))))] (Ty.pp (eF y (aQ y (nth c8)) 31 (aQ y (nth c8)).length)) := by
 refine p5 Tryz.func117 rfl (by decide) Tryz.ntmps117 (by exact Nat.le_of_ble_eq_true rfl) fun w0 M0 => ?_
 have hfl := ji (c := nth c8) hr
 refine aE (aA (bM rfl (sE rfl (mI rfl (aD (aC (aE (aA ?_))))))))
 refine aa rfl rfl rfl (by exact Nat.le_of_ble_eq_true rfl) ?_
 refine dD rfl rfl (by exact List.cons_ne_nil _ _) rfl (by repeat (first | exact (aY.nil : aY _ _ [] _) | (show aY _ _ ((_, _) :: _) _; apply aY.agg; (· exact (rfl : _ = Ty.agg _))))) (by exact rfl) ?_
 refine sL rfl rfl rfl ?_
 refine bz rfl (by exact List.cons_ne_nil _ _) rfl ?_
 refine cZ rfl rfl (by decide) rfl rfl (by exact (rfl : _ = Ty.ptr _ _)) rfl (by exact Nat.le_of_ble_eq_true rfl) rfl rfl (by exact (rfl : _ = [_])) ?_
 refine aD (aC (aE (aE (aA ?_))))
 refine aP rfl rfl (by decide) rfl rfl rfl ?_
 refine wE rfl rfl rfl (by rw [hc8]; rfl) ?_
 refine cD (res' := Ty.jM 196 [Ty.pp [Ty.ptr 10 0], Ty.pa iJ c8 0]) [(10, 1000)] [] [(10, Cont.cells 185 (DW y))] (HM y c8 hc8) rfl rfl (aJ (aJ bK (aO rfl rfl)) (dr (by exact List.mem_cons_self))) (cC (a := 10) (b := 1000) (by exact List.mem_cons_self) rfl (bH (by exact List.mem_cons_self) rfl rfl rfl) pre_nil) (bL (a := 10) (b := 1000) (by exact List.mem_cons_self) rfl (bH (by exact List.mem_cons_self) rfl rfl rfl) post_nil) (sq (aJ (aJ bK (aO rfl rfl)) (ew (aJ bK (dr (by exact List.mem_cons_self)))))) ?_
 refine aD (aC ?_)
 refine Ga (D := 10) (Tb := 185) (tys := bk y) (r := [Ty.ex (.slice none 0 0), Ty.ex (.slice none 0 0)]) rfl rfl rfl (by decide) fun vs hvs => ?_
 obtain ⟨v0, v1, v2, v3, rfl⟩ := four hvs rfl
 refine ak ?_
 refine rI (ps := [13]) (lk [(5, Ty.ptr 6 0), (9, Ty.ptr 10 0)]) (fun k => [(6, Cont.cells 152 [Ty.ptr 10 0]), (10, Cont.cells 185 [Ty.ex v0, Ty.ex v1, Ty.ex v2, Ty.ex v3, Ty.row dh 187 23 ((aQ y (nth c8)).take k), Ty.row cj 3 31 ((gU (aQ y (nth c8))).take k)]), (4000, Cont.fact (bk y) [v0, v1, v2, v3] rfl rfl)]) false [] [6, 10, 4000] rfl rfl ((uQ y hr c8 hc8 0 10 (by decide) [v0, v1, v2, v3]).1) (Au (D := 10) (n := 36) (sd := 9) (r := fun k => [Ty.row dh 187 23 ((aQ y (nth c8)).take k), Ty.row cj 3 31 ((gU (aQ y (nth c8))).take k)]) (fun b => uQ y hr c8 hc8 b 10 (by decide) [v0, v1, v2, v3]) (by decide) (by decide) rfl (fun k => List.mem_cons_of_mem _ List.mem_cons_self) (List.mem_cons_of_mem _ (List.mem_cons_of_mem _ List.mem_cons_self))) (uL rfl) (uL rfl) (by decide) (by intro t ht; obtain ⟨x, _, rfl⟩ := List.mem_map.1 ht; exact ⟨rfl, rfl, rfl⟩) rfl rfl (fun _ => rfl) rfl ?_ ?_ ?_ (by intro h; cases h)
 ·(refine c9.mk' ?_ ?_ <;> (repeat' (first | exact aH | exact aI | exact c7 | refine aB ?_ (Ty.aW _) | refine aB ?_ (Ty.aF _) | refine aG rfl (Cont.aF _) ?_ | refine aG rfl (Cont.c6 ?_) ?_ | refine bS ?_ (Ty.aF _) | refine bS ?_ Ty.lU)))
  all_goals trace_state
 ·intro k tys hk
  obtain ⟨hk1, rfl⟩ := DY hk
  refine ⟨live [(5, Ty.ptr 6 0), (6, Ty.ptr 7 0), (9, Ty.ptr 10 0)] [(6, Cont.cells 152 [Ty.ptr 10 0]), (7, Cont.cells 187 (dh.tys (nth (aQ y (nth c8)) k))), (10, Cont.cells 185 [Ty.ex v0, Ty.ex v1, Ty.ex v2, Ty.ex v3, Ty.row dh 187 23 ((aQ y (nth c8)).take k), Ty.row cj 3 31 ((gU (aQ y (nth c8))).take k)]), (4000, Cont.fact (bk y) [v0, v1, v2, v3] rfl rfl)], fun l w M => ?_, fun l w M => ?_⟩
  ·
   refine aA ?_
   refine bz rfl (by exact List.cons_ne_nil _ _) rfl ?_
   refine bu rfl rfl (by decide) rfl rfl rfl rfl rfl rfl ?_
   refine aD (fJ ?_)
   (refine c9.mk' ?_ ?_ <;> (repeat' (first | exact aH | exact aI | refine aB ?_ (Ty.aW _) | refine aB ?_ (Ty.aF _) | refine aG rfl (Cont.aF _) ?_)))
  refine ak ?_
  refine uT (D := 10) (Tb := 185) (tg := 23) [Ty.ex v0, Ty.ex v1, Ty.ex v2, Ty.ex v3] rfl fun v4 => ?_
  refine uT (D := 10) (Tb := 185) (tg := 31) [Ty.ex v0, Ty.ex v1, Ty.ex v2, Ty.ex v3, Ty.ex v4] rfl fun v5 => ?_
  refine cN mixed rfl ?_
  refine aP rfl rfl (by decide) rfl rfl rfl ?_
  refine aP rfl rfl (by decide) rfl rfl rfl ?_
  refine aP rfl rfl (by decide) rfl rfl rfl ?_
  refine cJ rfl ?_
  refine aK rfl rfl rfl rfl rfl (by decide) ?_
  refine aP rfl rfl (by decide) rfl rfl rfl ?_
  refine bT rfl rfl (by decide) rfl rfl (by exact Nat.le_of_ble_eq_true rfl) ?_
  refine bp (E := dh) (xs := [_]) rfl rfl rfl rfl rfl (by decide) (by decide) (by repeat (first | exact (aY.nil : aY _ _ [] _) | (show aY _ _ ((_, _) :: _) _; apply aY.agg; (· exact (rfl : _ = Ty.agg _))))) (by exact rfl) rfl ?_
  refine og (tg := 23) rfl rfl rfl rfl (by decide) rfl rfl rfl rfl rfl rfl (by decide) (by (simp <;> omega)) (by (simp <;> omega)) rfl rfl ?_
  refine aP rfl rfl (by decide) rfl rfl rfl ?_
  refine cJ rfl ?_
  refine aK rfl rfl rfl rfl rfl (by decide) ?_
  refine aP rfl rfl (by decide) rfl rfl rfl ?_
  refine aK rfl rfl rfl rfl rfl (by decide) ?_
  refine aP rfl rfl (by decide) rfl rfl rfl ?_
  refine bp (E := cj) (xs := [_]) rfl rfl rfl rfl rfl (by decide) (by decide) (by repeat (first | exact (aY.nil : aY _ _ [] _) | (show aY _ _ ((_, _) :: _) _; apply aY.one; (· exact (rfl : _ = Ty.int _ _)); (· exact rfl)))) (by exact rfl) rfl ?_
  refine og (tg := 31) rfl rfl rfl rfl (by decide) rfl rfl rfl rfl rfl rfl (by decide) (by (simp <;> omega)) (by (simp <;> omega)) rfl rfl ?_
  refine cJ rfl ?_
  refine aK rfl rfl rfl rfl rfl (by decide) ?_
  refine cZ rfl rfl (by decide) rfl rfl (by exact (rfl : _ = Ty.row _ _ _ _)) rfl (by exact Nat.le_of_ble_eq_true rfl) rfl rfl (by exact rfl) ?_
  refine cJ rfl ?_
  refine aK rfl rfl rfl rfl rfl (by decide) ?_
  refine cZ rfl rfl (by decide) rfl rfl (by exact (rfl : _ = Ty.row _ _ _ _)) rfl (by exact Nat.le_of_ble_eq_true rfl) rfl rfl (by exact rfl) ?_
  refine aD ?_
  refine ⟨by kernel_rfl, ?_⟩
  refine bQ (AJ ?_)
  (refine c9.mk' ?_ ?_ <;> (repeat' (first | exact aH | exact aI | exact c7 | refine aB ?_ (Ty.aW _) | refine aG rfl (Cont.aF _) ?_ | refine aG rfl (Cont.c6 ?_) ?_ | refine bS ?_ (Ty.aF _) | refine bS ?_ ?_)))
  all_goals first | exact Ty.fS (dS hk1).symm | exact Ty.fS (Cp hk1)
 refine bQ (aC (aE ?_))
 refine Aa (D := 10) (Tb := 185) (vs := [v0, v1, v2, v3]) (tys := bk y) (r := [Ty.row dh 187 23 ((aQ y (nth c8)).take ((aQ y (nth c8)).map jC).length), Ty.row cj 3 31 ((gU (aQ y (nth c8))).take ((aQ y (nth c8)).map jC).length)]) rfl rfl ?_
 refine gL (tg := 10) rfl (Cont.mM (T := 185) (zk (y := y) (fl := aQ y (nth c8)) (f := jC))) ?_
 refine kU (c0 := 10) (tg := 23) 4 rfl rfl ?_
 refine kU (c0 := 10) (tg := 31) 5 rfl rfl ?_
 refine gL (tg := 10) rfl (Cont.eM (l' := rG y 23 31 (aQ y (nth c8)).length (aQ y (nth c8)).length) ⟨Ty.aF _, Ty.aF _, Ty.aF _, Ty.aF _, Ty.sD rfl, Ty.sD (Br _), trivial⟩) ?_
 refine k6 (tg := 10) [] [(6, Cont.cells 152 [Ty.pp (rG y 23 31 (aQ y (nth c8)).length (aQ y (nth c8)).length)])] (by decide) rfl trivial ⟨fP rfl rfl ⟨xY rfl rfl (by decide), trivial⟩, trivial⟩ ?_
 refine k6 (tg := 23) [] [(6, Cont.cells 152 [Ty.pp (eF y (aQ y (nth c8)) 31 (aQ y (nth c8)).length)])] (by decide) rfl trivial ⟨fP rfl rfl ⟨BH ⟨bY rfl, bY rfl, bY rfl, bY rfl, jr rfl rfl (by decide), bY rfl, trivial⟩, trivial⟩, trivial⟩ ?_
 refine aA ?_
 refine aP rfl rfl (by decide) rfl rfl rfl ?_
 refine JV rfl (aD (aC (bC (HU rfl ?_))))
 refine fm [31] rfl rfl (by decide) (by repeat (first | exact fB | refine eD rfl (cB (by decide) rfl) ?_)) ?_
 all_goals skip
 all_goals exact fQ (ew (aJ (aJ (aJ (aJ (aJ (aJ bK (ef (by decide))) (aO rfl rfl)) (aO rfl rfl)) (aO rfl rfl)) (aO rfl rfl)) (aO rfl rfl)))
end Go.Proofs.YtelbollidfdcjaaGreat
namespace Go.Proofs.YtelbollidfdcjaaGreat
open Go Go.T
theorem Kv : Tryz.prog.underlying 180 = some (.array 8 4) := by kernel_rfl
theorem LK (a0 a1 a2 a3 a4 a5 a6 a7 b0 b1 b2 b3 b4 b5 b6 b7 : Bool) (w : World) : (Op.equal 180 (.agg #[.bool a0, .bool a1, .bool a2, .bool a3, .bool a4, .bool a5, .bool a6, .bool a7]) (.agg #[.bool b0, .bool b1, .bool b2, .bool b3, .bool b4, .bool b5, .bool b6, .bool b7])).run Tryz.prog w = .ok ((decide (a0 = b0) && (decide (a1 = b1) && (decide (a2 = b2) && (decide (a3 = b3) && (decide (a4 = b4) && (decide (a5 = b5) && (decide (a6 = b6) && decide (a7 = b7))))))))) w := by
 have hs : Tryz.prog.stoodInHeld 180 = false := by kernel_rfl
 have e4 : ∀ (x y : Bool) (w : World), (Op.equalIn 9999 4 (.bool x) (.bool y)).run Tryz.prog w = .ok (decide (x = y)) w := fun x y w => by
  rw [Op.equalIn]
  simp only [Sem.run_bind, run_underlying Tryz.underlying4, Result.andThen_ok]
  rfl
 have g4 : ∀ w, (isAgg 4).run Tryz.prog w = .ok false w := fun w => by simp [isAgg, run_underlying Tryz.underlying4]
 unfold Op.equal Op.maxDepth
 rw [Op.equalIn]
 simp only [Sem.run_bind, run_underlying Kv, Result.andThen_ok]
 simp [hs, part, g4, e4]
 rw [show List.range' 0 8 = [0, 1, 2, 3, 4, 5, 6, 7] from rfl]
 simp [List.forIn_cons, g4, e4]
 by_cases h0 : a0 = b0
 case neg => simp [h0]
 rw [if_pos h0]
 by_cases h1 : a1 = b1
 case neg => simp [h1]
 rw [if_pos h1]
 by_cases h2 : a2 = b2
 case neg => simp [h2]
 rw [if_pos h2]
 by_cases h3 : a3 = b3
 case neg => simp [h3]
 rw [if_pos h3]
 by_cases h4 : a4 = b4
 case neg => simp [h4]
 rw [if_pos h4]
 by_cases h5 : a5 = b5
 case neg => simp [h5]
 rw [if_pos h5]
 by_cases h6 : a6 = b6
 case neg => simp [h6]
 rw [if_pos h6]
 by_cases h7 : a7 = b7
 case neg => simp [h7]
 rw [if_pos h7]
 simp [h0, h1, h2, h3, h4, h5, h6, h7]
theorem G8 (xs ys : List Bool) (hx : xs.length = 8) (hy : ys.length = 8) : J3 Tryz.prog 180 (xs.flatMap iJ.tys) (ys.flatMap iJ.tys) (decide (xs = ys)) := by
  match xs, ys, hx, hy with
  | [a0, a1, a2, a3, a4, a5, a6, a7], [b0, b1, b2, b3, b4, b5, b6, b7], _, _ =>
    refine ⟨by kernel_rfl, fun w M cs ds h1 h2 => ?_⟩
    obtain ⟨cs⟩ := cs
    obtain ⟨ds⟩ := ds
    match cs, ds, h1, h2 with
    | [u0, u1, u2, u3, u4, u5, u6, u7], [v0, v1, v2, v3, v4, v5, v6, v7], h1, h2 =>
      change cL w M [Ty.bool a0, Ty.bool a1, Ty.bool a2, Ty.bool a3, Ty.bool a4, Ty.bool a5, Ty.bool a6, Ty.bool a7] _ at h1
      change cL w M [Ty.bool b0, Ty.bool b1, Ty.bool b2, Ty.bool b3, Ty.bool b4, Ty.bool b5, Ty.bool b6, Ty.bool b7] _ at h2
      obtain ⟨e0, e1, e2, e3, e4, e5, e6, e7, _⟩ := h1
      obtain ⟨f0, f1, f2, f3, f4, f5, f6, f7, _⟩ := h2
      cases e0; cases e1; cases e2; cases e3; cases e4; cases e5; cases e6; cases e7
      cases f0; cases f1; cases f2; cases f3; cases f4; cases f5; cases f6; cases f7
      rw [LK]
      congr 1
      simp only [List.cons.injEq, and_true, Bool.decide_and]
end Go.Proofs.YtelbollidfdcjaaGreat
namespace Go.T
open Go Go.RowKit
section
variable {P : Program} {fr : Fr} {ops : Array Oper} {A : As} {rest : List Oper} {K : As → List (As × Fx) → Prop} {d : Nat} {t ty' ty2 : TypeId} {p : String} {e : Array Edge}
theorem zJ {α : Type} [Inhabited α] {E : El α} {xs ys : List α} {x y : Operand} {c : Bool} (hE : J3 P ty' (xs.flatMap E.tys) (ys.flatMap E.tys) c) (hx : A.op fr x = .arr E xs) (hy : A.op fr y = .arr E ys)
 (h : aq P fr ops rest (A.set d (.bool (!c))) fun A' l' => K A' ((A, { d := some d, ty := .bool (!c), rs := cH x ++ cH y }) :: l')) : aq P fr ops (⟨some d, .binOp .neq ty' x y ty2, t, p, e, none⟩ :: rest) A K :=
 bI (bU rfl rfl fun a w M _ hrd _ => by
  have _ := (inferInstance : Inhabited α)
  obtain ⟨hdx, hdy⟩ := op2 hrd
  rw [hx] at hdx; rw [hy] at hdy
  obtain ⟨cs, ex, h1⟩ := hdx
  obtain ⟨ds, ey, h2⟩ := hdy
  exact ⟨.bool (!c), by simp only [execOp, ex, ey]; simp [eqGuard, hE.1, binOp, hE.2 w M cs ds h1 h2], rfl⟩) h
end
end Go.T
namespace Go.Proofs.YtelbollidfdcjaaGreat
open Go Go.T
set_option maxHeartbeats 16000000
def HX (l : List Int) (x : Int) : Int := fidx (fun y => decide (x = y)) l
theorem zH (l : List Int) (x : Int) : decide (HX l x ≥ 0) = decide (x ∈ l) := by
 unfold HX
 rw [o8]
 rw [Bool.eq_iff_iff]; simp
def zN (l : List Int) (o : Bool) (i : Nat) : Bool := !(decide ((i : Int) ∈ l) == o)
def hH (l : List Int) (o : Bool) (k : Nat) : List Bool := (List.range k).map (zN l o) ++ List.replicate (8 - k) false
def cR (l : List Int) (o : Bool) : List Bool := (List.range 8).map (zN l o)
noncomputable def eW (y : bB) (c : List Bool) : Bool := !(cU (aQ y (nth c)) (y.cells + 1) (gU (aQ y (nth c)))).2.1
section
variable {y : bB} {l : List Int} {o : Bool} {k : Nat}
theorem zZ (h : k ≤ 8) : (hH l o k).length = 8 := by unfold hH; rw [List.length_append, List.length_map, List.length_range, List.length_replicate]; omega
theorem CC : (cR l o).length = 8 := by unfold cR; rw [List.length_map, List.length_range]
theorem wu : List.replicate 8 false = hH l o 0 := rfl
theorem zE : hH l o 8 = cR l o := List.append_nil _
theorem wm (h : k < 8) : (hH l o k).set k (!(decide ((k : Int) ∈ l) == o)) = hH l o (k + 1) := by
 unfold hH
 have e : ((List.range k).map (zN l o)).length = k := by rw [List.length_map, List.length_range]
 rw [List.set_append_right _ _ (by omega), e, Nat.sub_self, show 8 - k = (8 - (k + 1)) + 1 by omega, List.replicate_succ, List.set_cons_zero, List.range_succ, List.map_append, List.append_assoc]; rfl
theorem zB {xs ys : List Bool} {b : Bool} (hx : xs.length = 8) (hy : ys.length = 8) (h : decide (xs = ys) = b) : J3 Tryz.prog 180 (xs.flatMap iJ.tys) (ys.flatMap iJ.tys) b := h ▸ G8 xs ys hx hy
theorem Ls (h : decide (cR l o = bZ) = true) (h2 : (!(cU (aQ y (nth bZ)) (y.cells + 1) (gU (aQ y (nth bZ)))).2.1) = true) : true = eW y (cR l o) := by rw [of_decide_eq_true h]; exact h2.symm
theorem Li (h : decide (cR l o = bZ) = true) (h2 : (!(cU (aQ y (nth bZ)) (y.cells + 1) (gU (aQ y (nth bZ)))).2.1) = false) : false = eW y (cR l o) := by rw [of_decide_eq_true h]; exact h2.symm
theorem J5 (y : bB) (c : List Bool) : (!(cU (aQ y (nth c)) (y.cells + 1) (gU (aQ y (nth c)))).2.1) = eW y c := rfl
end
attribute [local irreducible] aQ gU Way.ga Way.fin Way.room eP eC eo gF over bJ cK dW eR jG fA gb jy cU gB fX fW cy cG gI oJ iH iO iX gR z3 xM gx bB.kept bB.cells bq eI bZ fq jq cO n8 pN jT eN kC mN hasB sw rA p9 eH n6 j5 m4 j6 wW gE jA FT Eg qx eW cR hH
attribute [local irreducible] iw fu nh ru jS jR jO jN jQ rZ jL rj eO gy rY g9 rX nth fT dg aq eA bodyPost Exit.then Exit.inBlock Code.wp Code.wpIn rm jU rq rW jP eT ct cx bodyPostM eU
set_option maxRecDepth 100000 in
theorem zj (l : List Int) (x : Int) : eA Tryz.prog 140 [Ty.sl cj l, Ty.int .i64 x] (Ty.int .i64 (HX l x)) := by
 refine az Tryz.func140 rfl (by decide) Tryz.ntmps140 (by exact Nat.le_of_ble_eq_true rfl) fun w0 M0 => ?_
 refine je (s := 0) rfl rfl jj fun hl => ?_
 refine aE (aA (cF rfl (aD (aC (aE (aE (aA (gC rfl (cz rfl rfl rfl ?_)))))))))
 refine bO rfl (aD (aC (ak ?_)))
 refine cV (fun (k : {k : Nat // ∀ y ∈ l.take k, decide (x = y) = false}) => live [(0, Ty.sl cj l), (1, Ty.int .i64 x), (7, Ty.int .i64 l.length), (8, Ty.int .i64 (k.1 : Nat))] []) (fun k => l.length - k.1) (⟨0, by simp⟩) ?_ fun k => ?_
 ·(refine c9.mk' ?_ ?_ <;> (repeat' (first | exact aH | exact aI | refine aB ?_ (Ty.aW _) | refine aB ?_ (Ty.aF _))))
 refine aE (aA (bD rfl rfl rfl (aD (aC (aE ?_)))))
 refine av rfl (fun hc1 => ?_) (fun hc1 => ?_)
 ·
  refine aj (aC (aE (ak (aE (aA (bO rfl (cF rfl (aD (aC ?_)))))))))
  refine aE (aA (bO rfl (gC rfl (bO rfl ?_))))
  refine bN rfl rfl rfl rfl rfl rfl (by omega) ?_
  refine aM rfl rfl rfl rfl (bD rfl rfl rfl (aD (aC ?_)))
  refine av rfl (fun hc2 => ?_) (fun hc2 => ?_)
  ·
   refine aE (aA (bO rfl (cF rfl (aD (aC (bC (bG (aX (aX ?_)))))))))
   refine bG (aX (bl rfl rfl ?_))
   all_goals skip
   exact bE rfl rfl (congrArg (Ty.int .i64) (by unfold HX; rw [gZ (k := k.1) (by omega) k.2 (by rw [← iI]; exact decide_eq_true hc2)]))
  refine aj (bQ (aC (aA ?_)))
  refine bg rfl rfl (by omega) (by omega) ?_
  refine bO rfl (aD ?_)
  refine bV (⟨k.1 + 1, by rw [dS (by omega)]; intro y hy; rcases List.mem_append.1 hy with h | h; exact k.2 y h; rw [List.mem_singleton.1 h]; exact decide_eq_false hc2⟩) ?_ (by show l.length - (k.1 + 1) < l.length - k.1; omega)
  (refine c9.mk' ?_ ?_ <;> (repeat' (first | exact aH | exact aI | refine aB ?_ (Ty.aW _) | refine aB ?_ (Ty.aF _))))
  all_goals skip
 refine cQ (aR (aR (au rfl (aC (aE (aA (cF rfl (aD (aC ?_)))))))))
 refine bC (bl rfl rfl ?_)
 all_goals skip
 exact bE rfl rfl (congrArg (Ty.int .i64) (by unfold HX; rw [iG (by have := k.2; rwa [List.take_of_length_le (by omega)] at this)]))
set_option maxRecDepth 100000 in
theorem wD (l : List Int) (x : Int) : eA Tryz.prog 65 [Ty.sl cj l, Ty.int .i64 x] (Ty.bool (decide (x ∈ l))) := by
 refine az Tryz.func65 rfl (by decide) Tryz.ntmps65 (by exact Nat.le_of_ble_eq_true rfl) fun w0 M0 => ?_
 refine aE (aA (dZ rfl (aD (aC (aE (aA (gC rfl (bO rfl (ay (zj l x) rfl rfl rfl rfl rfl ?_)))))))))
 refine bD rfl rfl rfl (dZ rfl (aD (aC (bC (bl rfl rfl ?_)))))
 all_goals skip
 exact bE rfl rfl (congrArg Ty.bool (zH l x))
set_option maxRecDepth 100000 in
theorem Bg (y : bB) (hr : y.cm) (l : List Int) (o : Bool) : eA Tryz.prog 112 [fK y, Ty.sl cj l, Ty.bool o] (Ty.bool (eW y (cR l o))) := by
 refine az Tryz.func112 rfl (by decide) Tryz.ntmps112 (by exact Nat.le_of_ble_eq_true rfl) fun w0 M0 => ?_
 refine aE (aA (bM rfl (dZ rfl (aD (aC (aE (aA ?_)))))))
 refine z7 (E := iJ) (xs := List.replicate 8 false) rfl (by exact List.cons_ne_nil _ _) rfl rfl ?_
 refine aD (aC (aE (aE (aA (bO rfl (aD (aC (ak ?_))))))))
 refine cV (fun (k : {k : Nat // k ≤ 8}) => live [(1, Ty.sl cj l), (2, Ty.bool o), (3, Ty.pp (bk y)), (7, Ty.ptr 8 0), (9, Ty.int .i64 (k.1 : Nat))] [(8, Cont.vec iJ 180 (hH l o k.1))]) (fun k => 8 - k.1) (⟨0, by omega⟩) ?_ fun k => ?_
 ·(refine c9.mk' ?_ ?_ <;> (repeat' (first | exact aH | exact aI | refine aB ?_ (Ty.aW _) | refine aB ?_ (Ty.aF _) | refine aG rfl ?_ ?_)))
  all_goals exact Cont.dR wu
 have hkl := zZ (l := l) (o := o) k.2
 refine aE (aA (bD rfl rfl rfl (aD (aC (aE ?_)))))
 refine av rfl (fun hc1 => ?_) (fun hc1 => ?_)
 ·
  refine aj (aC (aE (ak (aE (aA (bO rfl (cF rfl (aD (aC ?_)))))))))
  refine aA (bO rfl (gC rfl (bO rfl (ay (wD _ _) rfl rfl rfl rfl rfl (gO rfl (DI MK rfl rfl ?_))))))
  refine rE (n := 8) rfl rfl rfl rfl rfl (by omega) (by omega) ?_
  refine qi rfl rfl rfl (by decide) rfl rfl (by exact (rfl : _ = Ty.bool _)) rfl (by omega) (by decide) rfl rfl ?_
  refine aD (bQ (aC (aA ?_)))
  refine bg rfl rfl (by omega) (by omega) ?_
  refine bO rfl (aD ?_)
  refine bV (⟨k.1 + 1, by omega⟩) ?_ (by show 8 - (k.1 + 1) < 8 - k.1; omega)
  (refine c9.mk' ?_ ?_ <;> (repeat' (first | exact aH | exact aI | refine aB ?_ (Ty.aW _) | refine aB ?_ (Ty.aF _) | refine aG rfl ?_ ?_)))
  all_goals skip
  all_goals exact Cont.dR (wm (by omega))
 refine cQ (aR (aR (au rfl (aC (aE ?_)))))
 obtain ⟨k, hk⟩ := k
 obtain rfl : k = 8 := by have h1 : ¬ (k : Int) < 8 := hc1; have h2 : k ≤ 8 := hk; omega
 refine gL (tg := 8) rfl (Cont.dR zE) ?_
 have hcl : (cR l o).length = 8 := CC
 refine cN mixed rfl ?_
 refine hO rfl rfl (by decide) rfl rfl (by rw [hcl]; rfl) (fun e => by rw [e] at hcl; cases hcl) ?_
 refine ay (qU) rfl rfl rfl rfl rfl (K8 (G8 _ _ hcl jJ) rfl rfl ?_)
 cases hsp : (decide ((cR l o) = bZ))
 ·
  refine gO rfl (mP rfl rfl rfl rfl (mP rfl rfl rfl rfl (mP rfl rfl rfl rfl (mP rfl rfl rfl rfl (Ct rfl ?_)))))
  cases hsp : (!(cU (aQ y (nth bZ)) (y.cells + 1) (gU (aQ y (nth bZ)))).2.1)
  ·
   refine gO rfl ?_
   (refine jZ rfl rfl rfl (by apply aU; (refine hO rfl rfl (by decide) rfl rfl (by rw [hcl]; rfl) (fun e => by rw [e] at hcl; cases hcl) ?_); refine aD ?_; exact rfl) ?_)
   (refine jZ rfl rfl rfl (by apply aU; (refine ay (qU) rfl rfl rfl rfl rfl ?_); refine aD ?_; exact rfl) ?_)
   (refine jZ rfl rfl rfl (by apply aU; (refine zJ (zB hcl jJ (by assumption)) rfl rfl ?_); refine aD ?_; exact rfl) ?_)
   (refine jZ rfl rfl rfl (by apply aU; (refine gO rfl ?_); refine aD ?_; exact rfl) ?_)
   (refine jZ rfl rfl rfl (by apply aU; (refine aa rfl rfl rfl (by exact Nat.le_of_ble_eq_true rfl) ?_); refine aD ?_; exact rfl) ?_)
   (refine jZ rfl rfl rfl (by apply aU; (refine hO rfl rfl (by decide) rfl rfl (by rw [hcl]; rfl) (fun e => by rw [e] at hcl; cases hcl) ?_); refine aD ?_; exact rfl) ?_)
   (refine jZ rfl rfl rfl (by apply aU; (refine cD (res' := Ty.pp (eF y (aQ y (nth (cR l o))) 1000 (aQ y (nth (cR l o))).length)) [(1000, 31)] [1000] [(1000, Cont.vec cj 3 (gU (aQ y (nth (cR l o)))))] (su y hr (cR l o) hcl) rfl rfl (aJ (aJ bK (aO rfl rfl)) (aO rfl rfl)) pre_nil (bL (a := 1000) (b := 31) (by decide) rfl (cB (by decide) rfl) post_nil) (ew (aJ (aJ (aJ (aJ (aJ (aJ bK (ef (by decide))) (aO rfl rfl)) (aO rfl rfl)) (aO rfl rfl)) (aO rfl rfl)) (aO rfl rfl))) ?_); refine aD ?_; exact rfl) ?_)
   (refine jZ rfl rfl rfl (by apply aU; (refine cD [(1000, 1000)] [] [(1000, Cont.vec cj 3 (cU (aQ y (nth (cR l o))) (y.cells + 1) (gU (aQ y (nth (cR l o))))).2.2)] (mR y (aQ y (nth (cR l o))) (gU (aQ y (nth (cR l o)))) (lC hr)) rfl rfl (aJ bK (ew (aJ (aJ (aJ (aJ (aJ (aJ bK (ef (by exact List.mem_cons_self))) (aO rfl rfl)) (aO rfl rfl)) (aO rfl rfl)) (aO rfl rfl)) (aO rfl rfl)))) (cC (a := 1000) (b := 1000) (by exact List.mem_cons_self) rfl (cB (by exact List.mem_cons_self) rfl) pre_nil) (bL (a := 1000) (b := 1000) (by decide) rfl (cB (by decide) rfl) post_nil) (aO rfl rfl) ?_); refine aD ?_; exact rfl) ?_)
   (refine jZ rfl rfl rfl (by apply aU; (refine yq rfl rfl ?_); refine aD ?_; exact rfl) ?_)
   refine zO rfl rfl (dZ rfl (aD ?_))
   refine ⟨by kernel_rfl, ?_⟩
   refine aC (bC (bl rfl rfl ?_))
   all_goals skip
   all_goals exact bE rfl rfl (congrArg Ty.bool (J5 y _))
  refine gO rfl ?_
  (refine jZ rfl rfl rfl (by apply aU; (refine hO rfl rfl (by decide) rfl rfl (by rw [hcl]; rfl) (fun e => by rw [e] at hcl; cases hcl) ?_); refine aD ?_; exact rfl) ?_)
  (refine jZ rfl rfl rfl (by apply aU; (refine ay (qU) rfl rfl rfl rfl rfl ?_); refine aD ?_; exact rfl) ?_)
  (refine jZ rfl rfl rfl (by apply aU; (refine zJ (zB hcl jJ (by assumption)) rfl rfl ?_); refine aD ?_; exact rfl) ?_)
  (refine jZ rfl rfl rfl (by apply aU; (refine gO rfl ?_); refine aD ?_; exact rfl) ?_)
  (refine jZ rfl rfl rfl (by apply aU; (refine aa rfl rfl rfl (by exact Nat.le_of_ble_eq_true rfl) ?_); refine aD ?_; exact rfl) ?_)
  (refine jZ rfl rfl rfl (by apply aU; (refine hO rfl rfl (by decide) rfl rfl (by rw [hcl]; rfl) (fun e => by rw [e] at hcl; cases hcl) ?_); refine aD ?_; exact rfl) ?_)
  (refine jZ rfl rfl rfl (by apply aU; (refine cD (res' := Ty.pp (eF y (aQ y (nth (cR l o))) 1000 (aQ y (nth (cR l o))).length)) [(1000, 31)] [1000] [(1000, Cont.vec cj 3 (gU (aQ y (nth (cR l o)))))] (su y hr (cR l o) hcl) rfl rfl (aJ (aJ bK (aO rfl rfl)) (aO rfl rfl)) pre_nil (bL (a := 1000) (b := 31) (by decide) rfl (cB (by decide) rfl) post_nil) (ew (aJ (aJ (aJ (aJ (aJ (aJ bK (ef (by decide))) (aO rfl rfl)) (aO rfl rfl)) (aO rfl rfl)) (aO rfl rfl)) (aO rfl rfl))) ?_); refine aD ?_; exact rfl) ?_)
  (refine jZ rfl rfl rfl (by apply aU; (refine cD [(1000, 1000)] [] [(1000, Cont.vec cj 3 (cU (aQ y (nth (cR l o))) (y.cells + 1) (gU (aQ y (nth (cR l o))))).2.2)] (mR y (aQ y (nth (cR l o))) (gU (aQ y (nth (cR l o)))) (lC hr)) rfl rfl (aJ bK (ew (aJ (aJ (aJ (aJ (aJ (aJ bK (ef (by exact List.mem_cons_self))) (aO rfl rfl)) (aO rfl rfl)) (aO rfl rfl)) (aO rfl rfl)) (aO rfl rfl)))) (cC (a := 1000) (b := 1000) (by exact List.mem_cons_self) rfl (cB (by exact List.mem_cons_self) rfl) pre_nil) (bL (a := 1000) (b := 1000) (by decide) rfl (cB (by decide) rfl) post_nil) (aO rfl rfl) ?_); refine aD ?_; exact rfl) ?_)
  (refine jZ rfl rfl rfl (by apply aU; (refine yq rfl rfl ?_); refine aD ?_; exact rfl) ?_)
  refine zO rfl rfl (dZ rfl (aD ?_))
  refine ⟨by kernel_rfl, ?_⟩
  refine aC (bC (bl rfl rfl ?_))
  all_goals skip
  all_goals exact bE rfl rfl (congrArg Ty.bool (J5 y _))
 refine gO rfl ?_
 (refine jZ rfl rfl rfl (by apply aU; (refine aa rfl rfl rfl (by exact Nat.le_of_ble_eq_true rfl) ?_); refine aD ?_; exact rfl) ?_)
 (refine jZ rfl rfl rfl (by apply aU; (refine ay (qU) rfl rfl rfl rfl rfl ?_); refine aD ?_; exact rfl) ?_)
 (refine jZ rfl rfl rfl (by apply aU; (refine cD (res' := Ty.pp (eF y (aQ y (nth bZ)) 1000 (aQ y (nth bZ)).length)) [(1000, 31)] [1000] [(1000, Cont.vec cj 3 (gU (aQ y (nth bZ))))] (su y hr bZ jJ) rfl rfl (aJ (aJ bK (aO rfl rfl)) (aO rfl rfl)) pre_nil (bL (a := 1000) (b := 31) (by decide) rfl (cB (by decide) rfl) post_nil) (ew (aJ (aJ (aJ (aJ (aJ (aJ bK (ef (by decide))) (aO rfl rfl)) (aO rfl rfl)) (aO rfl rfl)) (aO rfl rfl)) (aO rfl rfl))) ?_); refine aD ?_; exact rfl) ?_)
 (refine jZ rfl rfl rfl (by apply aU; (refine cD [(1000, 1000)] [] [(1000, Cont.vec cj 3 (cU (aQ y (nth bZ)) (y.cells + 1) (gU (aQ y (nth bZ)))).2.2)] (mR y (aQ y (nth bZ)) (gU (aQ y (nth bZ))) (lC hr)) rfl rfl (aJ bK (ew (aJ (aJ (aJ (aJ (aJ (aJ bK (ef (by exact List.mem_cons_self))) (aO rfl rfl)) (aO rfl rfl)) (aO rfl rfl)) (aO rfl rfl)) (aO rfl rfl)))) (cC (a := 1000) (b := 1000) (by exact List.mem_cons_self) rfl (cB (by exact List.mem_cons_self) rfl) pre_nil) (bL (a := 1000) (b := 1000) (by decide) rfl (cB (by decide) rfl) post_nil) (aO rfl rfl) ?_); refine aD ?_; exact rfl) ?_)
 refine yq rfl rfl ?_
 cases hsp : (!(cU (aQ y (nth bZ)) (y.cells + 1) (gU (aQ y (nth bZ)))).2.1)
 ·
  refine gO rfl ?_
  (refine jZ rfl rfl rfl (by apply aU; (refine hO rfl rfl (by decide) rfl rfl (by rw [hcl]; rfl) (fun e => by rw [e] at hcl; cases hcl) ?_); refine aD ?_; exact rfl) ?_)
  (refine jZ rfl rfl rfl (by apply aU; (refine ay (qU) rfl rfl rfl rfl rfl ?_); refine aD ?_; exact rfl) ?_)
  (refine jZ rfl rfl rfl (by apply aU; (refine zJ (zB hcl jJ (by assumption)) rfl rfl ?_); refine aD ?_; exact rfl) ?_)
  (refine jZ rfl rfl rfl (by apply aU; (refine gO rfl ?_); refine aD ?_; exact rfl) ?_)
  refine mP rfl rfl rfl rfl (mP rfl rfl rfl rfl (mP rfl rfl rfl rfl (mP rfl rfl rfl rfl ?_)))
  (refine jZ rfl rfl rfl (by apply aU; (refine Ct rfl ?_); refine aD ?_; exact rfl) ?_)
  refine zO rfl rfl (dZ rfl (aD ?_))
  refine ⟨by kernel_rfl, ?_⟩
  refine aC (bC (bl rfl rfl ?_))
  all_goals skip
  all_goals exact bE rfl rfl (congrArg Ty.bool (Li (by assumption) (by assumption)))
 refine gO rfl (mP rfl rfl rfl rfl (mP rfl rfl rfl rfl (mP rfl rfl rfl rfl (mP rfl rfl rfl rfl (yZ rfl rfl rfl (yZ rfl rfl rfl (yZ rfl rfl rfl (yZ rfl rfl rfl (mP rfl rfl rfl rfl ?_)))))))))
 refine JC rfl (dZ rfl (aD ?_))
 refine ⟨by kernel_rfl, ?_⟩
 refine aC (bC (bl rfl rfl ?_))
 all_goals skip
 all_goals exact bE rfl rfl (congrArg Ty.bool (Ls (by assumption) (by assumption)))
end Go.Proofs.YtelbollidfdcjaaGreat
namespace Go.Proofs.YtelbollidfdcjaaGreat
open Go Go.T
set_option maxHeartbeats 16000000
section
variable {y : bB} {l : List Int} {i : Nat}
end
attribute [local irreducible] aQ gU Way.ga Way.fin Way.room eP eC eo gF over bJ cK dW eR jG fA gb jy cU gB fX fW cy cG gI oJ iH iO iX gR z3 xM gx bB.kept bB.cells bq eI bZ fq jq cO n8 pN jT eN kC mN hasB sw rA p9 eH n6 j5 m4 j6 wW gE jA FT Eg qx eW cR hH
attribute [local irreducible] iw fu nh ru jS jR jO jN jQ rZ jL rj eO gy rY g9 rX nth fT dg aq eA bodyPost Exit.then Exit.inBlock Code.wp Code.wpIn rm jU rq rW jP eT ct cx bodyPostM eU
end Go.Proofs.YtelbollidfdcjaaGreat
namespace Go.Proofs.YtelbollidfdcjaaGreat
open Go Go.T
def l8 (h : List Int → Bool) (many : Nat) : Nat → List Int → Nat → List Int → Bool × List Int
  | 0, _, _, o => (false, o)
  | d + 1, l, i, o =>
    if (if (l ++ [(i : Int)]).length = many then (h (l ++ [(i : Int)]), l ++ [(i : Int)]) else l8 h many d (l ++ [(i : Int)]) (i + 1) o).1 = true then (if (l ++ [(i : Int)]).length = many then (h (l ++ [(i : Int)]), l ++ [(i : Int)]) else l8 h many d (l ++ [(i : Int)]) (i + 1) o)
    else l8 h many d l (i + 1) (if (l ++ [(i : Int)]).length = many then (h (l ++ [(i : Int)]), l ++ [(i : Int)]) else l8 h many d (l ++ [(i : Int)]) (i + 1) o).2
def tL (h : List Int → Bool) (many lim : Nat) (l : List Int) (i : Nat) (o : List Int) : Bool × List Int := if l.length = many then (h l, l) else l8 h many (lim - i) l i o
def yc (many : Nat) : Nat → List Int → Nat → List (List Int)
  | 0, _, _ => []
  | d + 1, l, i => (if (l ++ [(i : Int)]).length = many then [l ++ [(i : Int)]] else yc many d (l ++ [(i : Int)]) (i + 1)) ++ yc many d l (i + 1)
def HK (many lim : Nat) : List (List Int) := if many = 0 then [[]] else yc many lim [] 0
def ku (h : List Int → Bool) (lim : Nat) : Option (List Int) := ((List.range (lim + 1)).flatMap fun k => HK k lim).find? h
section
variable {h : List Int → Bool} {many lim d i k : Nat} {l o : List Int}
theorem AQ (hi : i < lim) : l8 h many (lim - i) l i o = if (tL h many lim (l ++ [(i : Int)]) (i + 1) o).1 = true then tL h many lim (l ++ [(i : Int)]) (i + 1) o else l8 h many (lim - (i + 1)) l (i + 1) (tL h many lim (l ++ [(i : Int)]) (i + 1) o).2 := by
 rw [show lim - i = (lim - (i + 1)) + 1 by omega]; rfl
theorem It (hi : ¬ i < lim) : l8 h many (lim - i) l i o = (false, o) := by rw [show lim - i = 0 by omega]; rfl
theorem go_eq (e : l.length = many) : tL h many lim l i o = (h l, l) := if_pos e
theorem Jl (e : ¬ l.length = many) : tL h many lim l i o = l8 h many (lim - i) l i o := if_neg e
theorem yg : ∀ (d : Nat) (l : List Int) (i : Nat) (o : List Int), (l8 h many d l i o).1 = (yc many d l i).any h ∧ ((l8 h many d l i o).1 = true → (yc many d l i).find? h = some (l8 h many d l i o).2)
  | 0, _, _, _ => ⟨rfl, fun e => by cases e⟩
  | d + 1, l, i, o => by
    have key : ∀ o, (if (l ++ [(i : Int)]).length = many then (h (l ++ [(i : Int)]), l ++ [(i : Int)]) else l8 h many d (l ++ [(i : Int)]) (i + 1) o).1 = (if (l ++ [(i : Int)]).length = many then [l ++ [(i : Int)]] else yc many d (l ++ [(i : Int)]) (i + 1)).any h ∧ ((if (l ++ [(i : Int)]).length = many then (h (l ++ [(i : Int)]), l ++ [(i : Int)]) else l8 h many d (l ++ [(i : Int)]) (i + 1) o).1 = true → (if (l ++ [(i : Int)]).length = many then [l ++ [(i : Int)]] else yc many d (l ++ [(i : Int)]) (i + 1)).find? h = some (if (l ++ [(i : Int)]).length = many then (h (l ++ [(i : Int)]), l ++ [(i : Int)]) else l8 h many d (l ++ [(i : Int)]) (i + 1) o).2) := by
      intro o
      by_cases e : (l ++ [(i : Int)]).length = many
      · rw [if_pos e, if_pos e]
        refine ⟨by simp, fun h1 => ?_⟩
        have h1 : h (l ++ [(i : Int)]) = true := h1
        rw [List.find?_cons, h1]
      · rw [if_neg e, if_neg e]
        exact yg d _ _ o
    unfold l8 yc
    generalize (if (l ++ [(i : Int)]).length = many then [l ++ [(i : Int)]] else yc many d (l ++ [(i : Int)]) (i + 1)) = C at key ⊢
    obtain ⟨k1, k2⟩ := key o
    generalize (if (l ++ [(i : Int)]).length = many then (h (l ++ [(i : Int)]), l ++ [(i : Int)]) else l8 h many d (l ++ [(i : Int)]) (i + 1) o) = r at k1 k2 ⊢
    rw [List.any_append, List.find?_append]
    cases e : r.1 with
    | true =>
      rw [if_pos rfl]
      refine ⟨by rw [e, ← k1, e]; rfl, fun _ => by rw [k2 e]; rfl⟩
    | false =>
      rw [if_neg (by decide)]
      obtain ⟨j1, j2⟩ := yg d l (i + 1) r.2
      have hn : C.find? h = none := by
        rw [List.find?_eq_none]
        intro x hx h1
        have : C.any h = true := List.any_eq_true.2 ⟨x, hx, h1⟩
        rw [← k1, e] at this; cases this
      refine ⟨by rw [j1, ← k1, e, Bool.false_or], fun h1 => by rw [hn, j2 h1]; rfl⟩
theorem Fo : (tL h many lim [] 0 o).1 = (HK many lim).any h ∧ ((tL h many lim [] 0 o).1 = true → (HK many lim).find? h = some (tL h many lim [] 0 o).2) := by
 unfold tL HK
 by_cases e : many = 0
 ·rw [if_pos (show ([] : List Int).length = many from e.symm), if_pos e]
  refine ⟨by simp, fun h1 => ?_⟩
  have h1 : h [] = true := h1
  rw [List.find?_cons, h1]
 rw [if_neg (show ¬ ([] : List Int).length = many from fun h => e h.symm), if_neg e, Nat.sub_zero]
 exact yg _ _ _ _
theorem Ep {C : List (List Int)} (h1 : C.any h = false) : C.find? h = none := by
 rw [List.find?_eq_none]
 intro x hx h2
 have : C.any h = true := List.any_eq_true.2 ⟨x, hx, h2⟩
 rw [h1] at this; cases this
def pT (h : List Int → Bool) (lim k : Nat) : Prop := ((List.range k).flatMap fun k => HK k lim).find? h = none
theorem Dw : pT h lim 0 := rfl
theorem D2 (h0 : pT h lim k) (h1 : (tL h k lim [] 0 []).1 = false) : pT h lim (k + 1) := by
 unfold pT at h0 ⊢
 rw [List.range_succ, List.flatMap_append, List.find?_append, h0, List.flatMap_singleton, Ep (by rw [← (Fo (o := [])).1, h1])]; rfl
theorem B3 (h0 : pT h lim k) (hk : k = lim + 1) : ku h lim = none := by subst hk; exact h0
theorem range_split {k n : Nat} (hk : k < n) : ∃ r, List.range n = List.range k ++ k :: r := by
 refine ⟨(List.range (n - k - 1)).map (fun x => k + 1 + x), ?_⟩
 rw [show List.range n = List.range (k + (1 + (n - k - 1))) by congr 1; omega, List.range_add, List.range_add, List.map_append]
 rw [List.map_map]
 congr 1
 show [k + 0] ++ _ = _
 rw [List.singleton_append, Nat.add_zero]
 congr 1
 refine List.map_congr_left fun x _ => ?_
 show k + (1 + x) = _; omega
theorem CW (h0 : pT h lim k) (hk : k ≤ lim) (h1 : (tL h k lim [] 0 []).1 = true) : ku h lim = some (tL h k lim [] 0 []).2 := by
 unfold pT at h0
 unfold ku
 obtain ⟨r, hr⟩ := range_split (show k < lim + 1 by omega)
 rw [hr, List.flatMap_append, List.find?_append, h0, List.flatMap_cons, List.find?_append, Fo.2 h1]; rfl
end
end Go.Proofs.YtelbollidfdcjaaGreat
namespace Go.Proofs.YtelbollidfdcjaaGreat
open Go Go.T
set_option maxHeartbeats 16000000
structure wg (h : List Int → Bool) (many lim : Nat) (l : List Int) (i0 : Nat) (o0 : List Int) where
  i : Nat
  o : List Int
  ge : i0 ≤ i
  le : i ≤ lim
  same : l8 h many (lim - i0) l i0 o0 = l8 h many (lim - i) l i o
section
variable {h : List Int → Bool} {many lim i0 k : Nat} {l o0 : List Int}
theorem wg.nat (x : wg h many lim l i0 o0) (hi : (x.i : Int) < (lim : Int)) : x.i < lim := by omega
def wg.next (x : wg h many lim l i0 o0) (hi : (x.i : Int) < (lim : Int)) (hg : (tL h many lim (l ++ [(x.i : Int)]) (x.i + 1) x.o).1 = false) : wg h many lim l i0 o0 :=
  ⟨x.i + 1, (tL h many lim (l ++ [(x.i : Int)]) (x.i + 1) x.o).2, by have := x.ge; omega, by omega, by rw [x.same, AQ (x.nat hi), if_neg (by rw [hg]; decide)]⟩
theorem wg.found (x : wg h many lim l i0 o0) (hm : ¬ l.length = many) (hi : (x.i : Int) < (lim : Int)) (hg : (tL h many lim (l ++ [(x.i : Int)]) (x.i + 1) x.o).1 = true) : tL h many lim l i0 o0 = tL h many lim (l ++ [(x.i : Int)]) (x.i + 1) x.o := by
 rw [Jl hm, x.same, AQ (x.nat hi), if_pos hg]
theorem wg.stop (x : wg h many lim l i0 o0) (hm : ¬ l.length = many) (hi : ¬ (x.i : Int) < (lim : Int)) : tL h many lim l i0 o0 = (false, x.o) := by
 rw [Jl hm, x.same, It (by omega)]
def FC (h : List Int → Bool) (lim : Nat) : Bool := (ku h lim).isSome
def DK (h : List Int → Bool) (lim : Nat) : List Int := (ku h lim).getD []
theorem Gy {k : Nat} (h0 : pT h lim k) (hk : k ≤ lim) (h1 : (tL h k lim [] 0 []).1 = true) : true = FC h lim ∧ (tL h k lim [] 0 []).2 = DK h lim := by
 unfold FC DK; rw [CW h0 hk h1]; exact ⟨rfl, rfl⟩
theorem Jy {k : Nat} (h0 : pT h lim k) (hk : k ≤ lim + 1) (h1 : ¬ (k : Int) < (lim : Int) + 1) : false = FC h lim ∧ [] = DK h lim := by
 unfold FC DK; rw [B3 h0 (by omega)]; exact ⟨rfl, rfl⟩
theorem C5 (h : ((l.length : Nat) : Int) = (many : Nat)) : l.length = many := by omega
theorem HJ (h : ¬ ((l.length : Nat) : Int) = (many : Nat)) : ¬ l.length = many := by omega
end
theorem pF {ρ : List (Nat × Nat)} {th : Ty} {h1 : th.deps = []} {h2 : th.cdeps = []} {many lim a b : Nat} (e0 : (a, 1000) ∈ ρ) (e1 : (b, 1001) ∈ ρ) : lR ρ [Ty.jM 171 [Ty.pp [Ty.int .i64 (many : Nat)], Ty.ptr a 0, Ty.pp [Ty.nd th h1 h2], Ty.pp [Ty.int .i64 (lim : Nat)], Ty.ptr b 0]] [Ty.jM 171 [Ty.pp [Ty.int .i64 (many : Nat)], Ty.ptr 1000 0, Ty.pp [Ty.nd th h1 h2], Ty.pp [Ty.int .i64 (lim : Nat)], Ty.ptr 1001 0]] :=
 aJ bK (sq (aJ (aJ (aJ (aJ (aJ bK (dr e1)) (aO rfl rfl)) (aO rfl rfl)) (dr e0)) (aO rfl rfl)))
abbrev uc (th : Ty) (h1 : th.deps = []) (h2 : th.cdeps = []) (many lim : Nat) (o : List Int) : List (Nat × Cont) := [(1000, Cont.cells 28 [Ty.sl cj o]), (1001, Cont.cells 122 [Ty.jM 171 [Ty.pp [Ty.int .i64 (many : Nat)], Ty.ptr 1000 0, Ty.pp [Ty.nd th h1 h2], Ty.pp [Ty.int .i64 (lim : Nat)], Ty.ptr 1001 0]])]
theorem ze {A : As} {th : Ty} {h1 : th.deps = []} {h2 : th.cdeps = []} {many lim : Nat} {o o' : List Int} (e0 : A.tag 1000 = some (Cont.cells 28 [Ty.sl cj o])) (e1 : A.tag 1001 = some (Cont.cells 122 [Ty.jM 171 [Ty.pp [Ty.int .i64 (many : Nat)], Ty.ptr 1000 0, Ty.pp [Ty.nd th h1 h2], Ty.pp [Ty.int .i64 (lim : Nat)], Ty.ptr 1001 0]])) (e : o = o') : n9 A [1000, 1001] (uc th h1 h2 many lim o') := by
 subst e; exact eD e0 (iN (by decide) (aJ bK (aO rfl rfl))) (eD e1 (iN (by decide) (pF (by decide) (by decide))) fB)
attribute [local irreducible] iw fu nh ru jS jR jO jN jQ rZ jL rj eO gy rY g9 rX nth fT dg aq eA bodyPost Exit.then Exit.inBlock Code.wp Code.wpIn rm jU rq rW jP eT ct cx bodyPostM eU
attribute [local irreducible] tL l8
set_option maxRecDepth 100000 in
theorem A9 (l : List Int) (h : l.length ≤ 1000) : eT Tryz.prog 172 [] [] [Ty.sl cj l] [] (Ty.row cj 3 6 l) := by
 refine dj Tryz.func172 rfl (by decide) Tryz.ntmps172 (by exact Nat.le_of_ble_eq_true rfl) fun w0 M0 => ?_
 refine aE (aA (mI rfl (aD (aC (aE (aE (aA (gC rfl (Cl Jg rfl ?_)))))))))
 refine aD (aC ?_)
 refine xG rfl (fun hc1 => ?_) (fun hc1 => ?_)
 ·
  refine aE (aA (mI rfl (aD (aC (bC (aX ?_))))))
  refine fm [6] rfl rfl (by decide) (by repeat (exact fB)) ?_
  all_goals skip
  all_goals (obtain rfl : l = [] := hc1; exact fQ xE)
 refine aj (aC (aE (aA ?_)))
 refine wL (E := cj) rfl rfl rfl rfl ?_
 refine gC rfl ?_
 refine fO rfl rfl (by decide) rfl rfl rfl rfl rfl rfl (by decide) (by (simp <;> omega)) (by (simp <;> omega)) ?_
 refine G4 rfl (aD (aC (bC ?_)))
 refine fm [6] rfl rfl (by decide) (by repeat (exact fB)) ?_
 all_goals skip
 all_goals exact fQ (wQ (by decide))
set_option maxRecDepth 100000 in
theorem KE (th : Ty) (h1 : th.deps = []) (h2 : th.cdeps = []) (h : List Int → Bool) (hf : ∀ l, nj Tryz.prog (Ty.nd th h1 h2) [Ty.sl cj l] (Ty.bool (h l))) (many lim : Nat) (hmn : many ≤ 1000) (hlm : lim ≤ 1000) (d : Nat) (l : List Int) (i : Nat) (o : List Int) (hi : i ≤ lim) (hll : l.length ≤ many) (hd : lim - i < d) : eT Tryz.prog 171 [1000, 1001] (uc th h1 h2 many lim o) [Ty.row cj 3 1002 l, Ty.int .i64 (i : Nat), Ty.pp [Ty.int .i64 (many : Nat)], Ty.ptr 1000 0, Ty.pp [Ty.nd th h1 h2], Ty.pp [Ty.int .i64 (lim : Nat)], Ty.ptr 1001 0] (uc th h1 h2 many lim (tL h many lim l i o).2) (Ty.bool (tL h many lim l i o).1) := by
 induction d generalizing l i o
 case zero => exact absurd hd (by omega)
 rename_i d ih
 refine dj Tryz.func171 rfl (by decide) Tryz.ntmps171 (by exact Nat.le_of_ble_eq_true rfl) fun w0 M0 => ?_
 refine aE ?_
 refine kK (tg := 1002) [(0, Ty.sl cj l)] (by decide) rfl ⟨DB rfl, trivial⟩ ?_
 refine aA (dZ rfl (aD (aC (aE (aE (aA (gC rfl (cz rfl rfl rfl (aM rfl rfl rfl rfl ?_)))))))))
 refine bD rfl rfl rfl (aD (aC ?_))
 refine av rfl (fun hc1 => ?_) (fun hc1 => ?_)
 ·
  refine aE (aA (gC rfl ?_))
  refine cZ rfl rfl (by decide) rfl rfl (by exact (rfl : _ = Ty.sl _ _)) rfl (by exact Nat.le_of_ble_eq_true rfl) rfl rfl (by exact (rfl : _ = [_])) ?_
  refine aD (aC (aE (aA (aM rfl rfl rfl rfl (gC rfl (eV rfl (hf l) rfl (dZ rfl (aD (aC ?_)))))))))
  refine bC (aX ?_)
  refine fm [1000, 1001] rfl rfl (by decide) ?_ ?_
  ·exact ze rfl rfl (congrArg Prod.snd (go_eq (C5 hc1))).symm
  all_goals skip
  all_goals exact fQ (nS rfl rfl (congrArg Ty.bool (congrArg Prod.fst (go_eq (C5 hc1))).symm))
 refine aj (aC (aE (aE ?_)))
 have hlm2 := HJ hc1
 refine aA (bO rfl (cF rfl (aD (aC (ak ?_)))))
 refine cV (fun (x : wg h many lim l i o) => live [(0, Ty.sl cj l), (2, Ty.pp [Ty.int .i64 (many : Nat)]), (3, Ty.ptr 1000 0), (4, Ty.pp [Ty.nd th h1 h2]), (5, Ty.pp [Ty.int .i64 (lim : Nat)]), (6, Ty.ptr 1001 0), (10, Ty.int .i64 (x.i : Nat))] [(1000, Cont.cells 28 [Ty.sl cj x.o]), (1001, Cont.cells 122 [Ty.jM 171 [Ty.pp [Ty.int .i64 (many : Nat)], Ty.ptr 1000 0, Ty.pp [Ty.nd th h1 h2], Ty.pp [Ty.int .i64 (lim : Nat)], Ty.ptr 1001 0]])]) (fun x => lim - x.i) (⟨i, o, Nat.le_refl _, hi, rfl⟩) ?_ fun x => ?_
 ·(refine c9.mk' ?_ ?_ <;> (repeat' (first | exact aH | exact aI | refine aB ?_ (Ty.aW _) | refine aB ?_ (Ty.aF _) | refine aG rfl (Cont.aF _) ?_)))
 have hxl := x.le
 refine aE (aE (aA (bO rfl (aM rfl rfl rfl rfl (bD rfl rfl rfl (aD (aC ?_)))))))
 refine av rfl (fun hc2 => ?_) (fun hc2 => ?_)
 ·
  refine aj (aC (aE (ak (aE (cN mixed rfl ?_)))))
  refine aP rfl rfl (by decide) rfl rfl rfl ?_
  refine gC rfl ?_
  refine cD (res' := Ty.row cj 3 27 l) [(27, 6)] [27] [] (A9 l (by omega)) rfl rfl (by repeat (first | exact bK | refine aJ ?_ ?_ | exact aO rfl rfl)) pre_nil post_nil (wQ (by exact List.mem_cons_self)) ?_
  refine bO rfl ?_
  refine bp (E := cj) (xs := [(x.i : Int)]) rfl rfl rfl rfl rfl (by decide) (by decide) (by repeat (first | exact (aY.nil : aY _ _ [] _) | (show aY _ _ ((_, _) :: _) _; apply aY.one; (· exact (rfl : _ = Ty.int _ _)); (· exact rfl)))) (by exact rfl) rfl ?_
  refine fO rfl rfl (by decide) rfl rfl rfl rfl rfl rfl (by decide) (by (simp <;> omega)) (by (simp <;> omega)) ?_
  refine bO rfl ?_
  refine bg rfl rfl (by omega) (by omega) ?_
  refine Ag [(1000, 1000), (1001, 1001), (27, 1002)] [27] (uc th h1 h2 many lim (tL h many lim (l ++ [(x.i : Int)]) (x.i + 1) x.o).2) rfl (ih (l ++ [(x.i : Int)]) (x.i + 1) x.o (by omega) (by rw [List.length_append]; show l.length + 1 ≤ many; omega) (by have := x.ge; omega)) rfl rfl (aJ (aJ (aJ (aJ (aJ (aJ (aJ bK (dr (by decide))) (aO rfl rfl)) (aO rfl rfl)) (dr (by decide))) (aO rfl rfl)) (aO rfl rfl)) (wQ (by decide))) (cC (a := 1000) (b := 1000) (by decide) rfl (iN (by decide) (aJ bK (aO rfl rfl))) (cC (a := 1001) (b := 1001) (by decide) rfl (iN (by decide) (pF (by decide) (by decide))) pre_nil)) (bL (a := 1000) (b := 1000) (by decide) rfl (iN (by decide) (aJ bK (aO rfl rfl))) (bL (a := 1001) (b := 1001) (by decide) rfl (iN (by decide) (pF (by decide) (by decide))) post_nil)) (aO rfl rfl) ?_
  refine aD ?_
  refine ⟨by kernel_rfl, ?_⟩
  refine aC ?_
  refine cW rfl (fun hc3 => ?_) (fun hc3 => ?_)
  ·
   refine aE (aA (dZ rfl (aD (aC (bC (bG (aX (aX (bG ?_)))))))))
   refine aX ?_
   refine fm [1000, 1001] rfl rfl (by decide) ?_ ?_
   ·exact ze rfl rfl (congrArg Prod.snd (x.found hlm2 hc2 hc3)).symm
   all_goals skip
   all_goals exact fQ (nS rfl rfl (congrArg Ty.bool (hc3.symm.trans (congrArg Prod.fst (x.found hlm2 hc2 hc3)).symm)))
  refine aj (bQ (aC (aA (bO rfl ?_))))
  refine bg rfl rfl (by omega) (by omega) ?_
  refine cF rfl (aD ?_)
  refine bV (x.next hc2 hc3) ?_ (by show lim - (x.i + 1) < lim - x.i; omega)
  (refine c9.mk' ?_ ?_ <;> (repeat' (first | exact aH | exact aI | refine aB ?_ (Ty.aW _) | refine aB ?_ (Ty.aF _) | refine aG rfl (Cont.aF _) ?_)))
  all_goals skip
 refine cQ (aR (aR (au rfl (aC (aE (aA (dZ rfl (aD (aC ?_)))))))))
 refine bC ?_
 refine fm [1000, 1001] rfl rfl (by decide) ?_ ?_
 ·exact ze rfl rfl (congrArg Prod.snd (x.stop hlm2 hc2)).symm
 all_goals skip
 all_goals exact fQ (nS rfl rfl (congrArg Ty.bool (congrArg Prod.fst (x.stop hlm2 hc2)).symm))
set_option maxRecDepth 100000 in
theorem ux (th : Ty) (h1 : th.deps = []) (h2 : th.cdeps = []) (ho : th.one = true) (h : List Int → Bool) (hf : ∀ l, nj Tryz.prog (Ty.nd th h1 h2) [Ty.sl cj l] (Ty.bool (h l))) (lim : Nat) (hlm : lim ≤ 999) : eA Tryz.prog 113 [Ty.int .i64 (lim : Nat), Ty.nd th h1 h2] (Ty.j3 [Ty.sl cj (DK h lim), Ty.bool (FC h lim)]) := by
 refine az Tryz.func113 rfl (by decide) Tryz.ntmps113 (by exact Nat.le_of_ble_eq_true rfl) fun w0 M0 => ?_
 refine aE (aA ?_)
 refine gD (by exact (rfl : _ = Ty.int _ _)) rfl ?_
 refine gD (ty := Ty.nd th h1 h2) rfl ho ?_
 refine mI rfl (dZ rfl (aD (aC (aE (aE (aA (aM rfl rfl rfl rfl ?_)))))))
 refine bg rfl rfl (by omega) (by omega) ?_
 refine bO rfl (aD (aC (ak ?_)))
 refine cV (fun (k : {k : Nat // k ≤ lim + 1 ∧ pT h lim k}) => live [(2, Ty.pp [Ty.int .i64 (lim : Nat)]), (3, Ty.pp [Ty.nd th h1 h2]), (10, Ty.int .i64 ((lim : Int) + 1)), (11, Ty.int .i64 (k.1 : Nat))] []) (fun k => lim + 1 - k.1) (⟨0, by omega, Dw⟩) ?_ fun k => ?_
 ·(refine c9.mk' ?_ ?_ <;> (repeat' (first | exact aH | exact aI | refine aB ?_ (Ty.aW _) | refine aB ?_ (Ty.aF _))))
 have hk := k.2.1
 refine aE (aA (bD rfl rfl rfl (aD (aC (aE ?_)))))
 refine av rfl (fun hc1 => ?_) (fun hc1 => ?_)
 ·
  refine aj (aC (aE (ak (aE (aA (bO rfl ?_))))))
  refine bz rfl (by exact List.cons_ne_nil _ _) rfl ?_
  refine cZ rfl rfl (by decide) rfl rfl (by exact (rfl : _ = Ty.int _ _)) rfl (by exact Nat.le_of_ble_eq_true rfl) rfl rfl (by exact (rfl : _ = [_])) ?_
  refine aD (aC (aE ?_))
  refine kK (tg := 7) [(6, Ty.pp [Ty.int .i64 (k.1 : Nat)])] (by decide) rfl ⟨kL (T := 3) (off := 0) (l := [Ty.int .i64 (k.1 : Nat)]) rfl rfl rfl (by decide), trivial⟩ ?_
  refine aA ?_
  refine bz rfl (by exact List.cons_ne_nil _ _) rfl ?_
  refine aD (aC (aE (aA ?_)))
  refine bz rfl (by exact List.cons_ne_nil _ _) rfl ?_
  refine aD (aC (aE (aA (dH rfl ?_))))
  refine cZ rfl rfl (by decide) rfl rfl (by exact (rfl : _ = Ty.jM _ _)) rfl (by exact Nat.le_of_ble_eq_true rfl) rfl rfl (by exact (rfl : _ = [_])) ?_
  refine aD (aC (aE ?_))
  refine gL (tg := 8) rfl (Cont.eM (l' := [Ty.sl cj ([] : List Int)]) ⟨Ty.sv, trivial⟩) ?_
  refine aA ?_
  refine aP rfl rfl (by decide) rfl rfl rfl ?_
  refine Ag [(8, 1000), (9, 1001)] [] [(8, Cont.cells 28 [Ty.sl cj (tL h k.1 lim [] 0 []).2]), (9, Cont.cells 122 [Ty.jM 171 [Ty.pp [Ty.int .i64 (k.1 : Nat)], Ty.ptr 8 0, Ty.pp [Ty.nd th h1 h2], Ty.pp [Ty.int .i64 (lim : Nat)], Ty.ptr 9 0]])] rfl (KE th h1 h2 h hf k.1 lim (by omega) (by omega) (lim + 1) [] 0 [] (by omega) (Nat.zero_le _) (by omega)) rfl rfl (aJ (aJ (aJ (aJ (aJ (aJ (aJ bK (dr (by decide))) (aO rfl rfl)) (aO rfl rfl)) (dr (by decide))) (aO rfl rfl)) (aO rfl rfl)) xE) (cC (a := 8) (b := 1000) (by decide) rfl (iN (by decide) (aJ bK (aO rfl rfl))) (cC (a := 9) (b := 1001) (by decide) rfl (iN (by decide) (pF (by decide) (by decide))) pre_nil)) (bL (a := 8) (b := 1000) (by decide) rfl (iN (by decide) (aJ bK (aO rfl rfl))) (bL (a := 9) (b := 1001) (by decide) rfl (iN (by decide) (aJ bK (sq (aJ (aJ (aJ (aJ (aJ bK (dr (by decide))) (aO rfl rfl)) (aO rfl rfl)) (dr (by decide))) (aO rfl rfl))))) post_nil)) (aO rfl rfl) ?_
  refine aD (aC ?_)
  refine cW rfl (fun hc2 => ?_) (fun hc2 => ?_)
  ·
   refine aE (aA ?_)
   refine aP rfl rfl (by decide) rfl rfl rfl ?_
   refine Bk rfl (dZ rfl (aD (aC (bC (bG (aX (aX (bG (aX ?_)))))))))
   refine fV rfl rfl rfl ?_ ?_
   all_goals skip
   all_goals first | exact bE rfl rfl (congrArg Ty.bool (Gy k.2.2 (by omega) hc2).1) | exact bE rfl rfl (congrArg (Ty.sl cj) (Gy k.2.2 (by omega) hc2).2)
  refine aj (bQ (aC (aA ?_)))
  refine bg rfl rfl (by omega) (by omega) ?_
  refine bO rfl (aD ?_)
  refine bV (⟨k.1 + 1, by omega, D2 k.2.2 hc2⟩) ?_ (by show lim + 1 - (k.1 + 1) < lim + 1 - k.1; omega)
  (refine c9.mk' ?_ ?_ <;> (repeat' (first | exact aH | exact aI | refine aB ?_ (Ty.aW _) | refine aB ?_ (Ty.aF _))))
  all_goals skip
 refine cQ (aR (aR (au rfl (aC (aE (aA (mI rfl (dZ rfl (aD ?_)))))))))
 refine aC (bC ?_)
 refine fV rfl rfl rfl ?_ ?_
 all_goals skip
 all_goals first | exact bE rfl rfl (congrArg Ty.bool (Jy k.2.2 k.2.1 hc1).1) | exact fo (Jy k.2.2 k.2.1 hc1).2.symm
end Go.Proofs.YtelbollidfdcjaaGreat
namespace Go.Proofs.YtelbollidfdcjaaGreat
open Go Go.T
set_option maxHeartbeats 16000000
theorem CV {P : Program} {t : Ty} {h1 : t.deps = []} {h2 : t.cdeps = []} {args : List Ty} {res : Ty} (h : nj P t args res) : nj P (Ty.nd t h1 h2) args res := h
noncomputable def kA (y : bB) : Int := if bq y = 0 then (if FC (fun l => !eW y (cR l false)) y.levels.length = true then 0 else 6) else bq y
noncomputable def lz (y : bB) : List Int := if kA y = 0 then DK (fun l => !eW y (cR l false)) y.levels.length else []
theorem DO {y : bB} (h : ¬ bq y = 0) : bq y = kA y ∧ [] = lz y := by
 have e : bq y = kA y := (if_neg h).symm
 exact ⟨e, by unfold lz; rw [← e, if_neg h]⟩
theorem Cy {y : bB} (h : bq y = 0) (h2 : (!FC (fun l => !eW y (cR l false)) y.levels.length) = true) : 6 = kA y ∧ [] = lz y := by
 have e : 6 = kA y := by unfold kA; rw [if_pos h, if_neg (by rw [pQ h2]; decide)]
 exact ⟨e, by unfold lz; rw [← e, if_neg (by decide)]⟩
theorem zW {y : bB} (h : bq y = 0) (h2 : (!FC (fun l => !eW y (cR l false)) y.levels.length) = false) : 0 = kA y ∧ DK (fun l => !eW y (cR l false)) y.levels.length = lz y := by
 have e : 0 = kA y := by unfold kA; rw [if_pos h, if_pos (ff h2)]
 exact ⟨e, by unfold lz; rw [← e, if_pos rfl]⟩
noncomputable def kD (y : bB) : Int := if bq y = 0 then (if FC (fun l => eW y (cR l true)) y.levels.length = true then 0 else 7) else bq y
noncomputable def lq (y : bB) : List Int := if kD y = 0 then DK (fun l => eW y (cR l true)) y.levels.length else []
theorem Dc {y : bB} (h : ¬ bq y = 0) : bq y = kD y ∧ [] = lq y := by
 have e : bq y = kD y := (if_neg h).symm
 exact ⟨e, by unfold lq; rw [← e, if_neg h]⟩
theorem Dd {y : bB} (h : bq y = 0) (h2 : (!FC (fun l => eW y (cR l true)) y.levels.length) = true) : 7 = kD y ∧ [] = lq y := by
 have e : 7 = kD y := by unfold kD; rw [if_pos h, if_neg (by rw [pQ h2]; decide)]
 exact ⟨e, by unfold lq; rw [← e, if_neg (by decide)]⟩
theorem zI {y : bB} (h : bq y = 0) (h2 : (!FC (fun l => eW y (cR l true)) y.levels.length) = false) : 0 = kD y ∧ DK (fun l => eW y (cR l true)) y.levels.length = lq y := by
 have e : 0 = kD y := by unfold kD; rw [if_pos h, if_pos (ff h2)]
 exact ⟨e, by unfold lq; rw [← e, if_pos rfl]⟩
attribute [local irreducible] aQ gU Way.ga Way.fin Way.room eP eC eo gF over bJ cK dW eR jG fA gb jy cU gB fX fW cy cG gI oJ iH iO iX gR z3 xM gx bB.kept bB.cells bq eI bZ fq jq cO n8 pN jT eN kC mN hasB sw rA p9 eH n6 j5 m4 j6 wW gE jA FT Eg qx eW cR hH tL l8 FC DK ku
attribute [local irreducible] iw fu nh ru jS jR jO jN jQ rZ jL rj eO gy rY g9 rX nth fT dg aq eA bodyPost Exit.then Exit.inBlock Code.wp Code.wpIn rm jU rq rW jP eT ct cx bodyPostM eU
set_option maxRecDepth 100000 in
theorem HO (y : bB) (hr : y.cm) (l : List Int) : eA Tryz.prog 114 [Ty.sl cj l, Ty.pp (bk y)] (Ty.bool ((fun l => !eW y (cR l false)) l)) := by
 refine az Tryz.func114 rfl (by decide) Tryz.ntmps114 (by exact Nat.le_of_ble_eq_true rfl) fun w0 M0 => ?_
 refine aE (aA (dZ rfl (aD (aC (aE (aA ?_))))))
 refine aa rfl rfl rfl (by exact Nat.le_of_ble_eq_true rfl) ?_
 refine gC rfl (ay (Bg y hr l false) rfl rfl rfl rfl rfl (dn rfl (dZ rfl (aD (aC (bC (bl rfl rfl ?_)))))))
 all_goals exact cI rfl rfl
 all_goals trace_state
set_option maxRecDepth 100000 in
theorem Ib (y : bB) (hs : y.Small) : eA Tryz.prog 44 [fK y] (Ty.j3 [Ty.sl cj (lz y), Ty.int .i64 (kA y)]) := by
 refine az Tryz.func44 rfl (by decide) Tryz.ntmps44 (by exact Nat.le_of_ble_eq_true rfl) fun w0 M0 => ?_
 refine aE (aA (bM rfl (mI rfl (cF rfl (aD (aC (aE (aE (aA ?_)))))))))
 refine aa rfl rfl rfl (by exact Nat.le_of_ble_eq_true rfl) ?_
 refine ay (kS y hs) rfl rfl rfl rfl rfl (cF rfl (aD (aC (aE (aA (bO rfl (bD rfl rfl rfl (aD (aC ?_)))))))))
 refine dL rfl (fun hc1 => ?_) (fun hc1 => ?_)
 ·
  refine aE (aA (bO rfl (mI rfl (cF rfl (aD (aC (bC (aX ?_))))))))
  refine fV rfl rfl rfl ?_ ?_
  all_goals skip
  all_goals first | exact fo (DO hc1).2.symm | exact bE rfl rfl (congrArg (Ty.int .i64) (DO hc1).1)
 refine aj (aC (aE ?_))
 have hck : bq y = 0 := hc1
 have hr := cr hck
 have h8 := hr.levels
 refine aA ?_
 refine aS rfl rfl rfl rfl rfl (by decide) ?_
 refine aM rfl rfl rfl rfl (cz rfl rfl rfl (dH rfl ?_))
 refine ay (ux (Ty.jM 114 [Ty.pp (bk y)]) rfl rfl rfl (fun l => !eW y (cR l false)) (fun l => CV (dO (HO y hr l) rfl rfl rfl rfl rfl rfl)) y.levels.length (by omega)) rfl rfl rfl rfl rfl ?_
 refine sX rfl (bR rfl rfl (bR rfl rfl (Bk rfl (dZ rfl (aD (aC (aE (aE (aA ?_)))))))))
 refine gO rfl (dn rfl (aD (aC ?_)))
 refine cW rfl (fun hc2 => ?_) (fun hc2 => ?_)
 ·
  refine aE (aA (mI rfl (cF rfl (aD (aC (bC (aX ?_)))))))
  refine fV rfl rfl rfl ?_ ?_
  all_goals skip
  all_goals first | exact fo (Cy hck hc2).2.symm | exact bE rfl rfl (congrArg (Ty.int .i64) (Cy hck hc2).1)
 refine aj (aC (aE (aA (gC rfl (Bk rfl (cF rfl (aD (aC (bC ?_)))))))))
 refine fV rfl rfl rfl ?_ ?_
 all_goals skip
 all_goals first | exact bE rfl rfl (congrArg (Ty.sl cj) (zW hck hc2).2) | exact bE rfl rfl (congrArg (Ty.int .i64) (zW hck hc2).1)
set_option maxRecDepth 100000 in
theorem HD (y : bB) (hr : y.cm) (l : List Int) : eA Tryz.prog 115 [Ty.sl cj l, Ty.pp (bk y)] (Ty.bool ((fun l => eW y (cR l true)) l)) := by
 refine az Tryz.func115 rfl (by decide) Tryz.ntmps115 (by exact Nat.le_of_ble_eq_true rfl) fun w0 M0 => ?_
 refine aE (aA (dZ rfl (aD (aC (aE (aA ?_))))))
 refine aa rfl rfl rfl (by exact Nat.le_of_ble_eq_true rfl) ?_
 refine gC rfl (ay (Bg y hr l true) rfl rfl rfl rfl rfl (dZ rfl (aD (aC (bC (bl rfl rfl ?_))))))
 all_goals exact cI rfl rfl
 all_goals trace_state
set_option maxRecDepth 100000 in
theorem JG (y : bB) (hs : y.Small) : eA Tryz.prog 45 [fK y] (Ty.j3 [Ty.sl cj (lq y), Ty.int .i64 (kD y)]) := by
 refine az Tryz.func45 rfl (by decide) Tryz.ntmps45 (by exact Nat.le_of_ble_eq_true rfl) fun w0 M0 => ?_
 refine aE (aA (bM rfl (mI rfl (cF rfl (aD (aC (aE (aE (aA ?_)))))))))
 refine aa rfl rfl rfl (by exact Nat.le_of_ble_eq_true rfl) ?_
 refine ay (kS y hs) rfl rfl rfl rfl rfl (cF rfl (aD (aC (aE (aA (bO rfl (bD rfl rfl rfl (aD (aC ?_)))))))))
 refine dL rfl (fun hc1 => ?_) (fun hc1 => ?_)
 ·
  refine aE (aA (bO rfl (mI rfl (cF rfl (aD (aC (bC (aX ?_))))))))
  refine fV rfl rfl rfl ?_ ?_
  all_goals skip
  all_goals first | exact fo (Dc hc1).2.symm | exact bE rfl rfl (congrArg (Ty.int .i64) (Dc hc1).1)
 refine aj (aC (aE ?_))
 have hck : bq y = 0 := hc1
 have hr := cr hck
 have h8 := hr.levels
 refine aA ?_
 refine aS rfl rfl rfl rfl rfl (by decide) ?_
 refine aM rfl rfl rfl rfl (cz rfl rfl rfl (dH rfl ?_))
 refine ay (ux (Ty.jM 115 [Ty.pp (bk y)]) rfl rfl rfl (fun l => eW y (cR l true)) (fun l => CV (dO (HD y hr l) rfl rfl rfl rfl rfl rfl)) y.levels.length (by omega)) rfl rfl rfl rfl rfl ?_
 refine sX rfl (bR rfl rfl (bR rfl rfl (Bk rfl (dZ rfl (aD (aC (aE (aE (aA ?_)))))))))
 refine gO rfl (dn rfl (aD (aC ?_)))
 refine cW rfl (fun hc2 => ?_) (fun hc2 => ?_)
 ·
  refine aE (aA (mI rfl (cF rfl (aD (aC (bC (aX ?_)))))))
  refine fV rfl rfl rfl ?_ ?_
  all_goals skip
  all_goals first | exact fo (Dd hck hc2).2.symm | exact bE rfl rfl (congrArg (Ty.int .i64) (Dd hck hc2).1)
 refine aj (aC (aE (aA (gC rfl (Bk rfl (cF rfl (aD (aC (bC ?_)))))))))
 refine fV rfl rfl rfl ?_ ?_
 all_goals skip
 all_goals first | exact bE rfl rfl (congrArg (Ty.sl cj) (zI hck hc2).2) | exact bE rfl rfl (congrArg (Ty.int .i64) (zI hck hc2).1)
end Go.Proofs.YtelbollidfdcjaaGreat
namespace Go.Proofs.YtelbollidfdcjaaGreat
open Go Go.T
def two (k : Nat) : bB := ⟨2, [⟨100, ⟨20, 30⟩⟩, ⟨50, ⟨0, 0⟩⟩], [⟨0, -1, 0, ⟨40, 60⟩⟩, ⟨1, 0, 1, ⟨10, 40⟩⟩, ⟨1, 1, -1, ⟨5, 10⟩⟩], ([⟨2, 1, ⟨20, 25⟩⟩, ⟨2, 0, ⟨10, 24⟩⟩] : List Level).take k⟩
def we (p q u v w : Int) : eK := ⟨[p, q], [u, v, w]⟩
section
variable {k : Nat} {c : Nat → Bool} {a : eK} {p q u v w : Int}
theorem nH (h : k ≤ 2) : bq (two k) = 0 := by
 have : k = 0 ∨ k = 1 ∨ k = 2 := by omega
 rcases this with rfl | rfl | rfl <;> decide
theorem xV (h : k ≤ 2) : (two k).cm := cr (nH h)
theorem Bm (h : zb (two k) a) : ∃ p q u v w, a = we p q u v w := by
  obtain ⟨f, m⟩ := a
  have h1 : f.length = 2 := h.first
  have h2 : m.length = 3 := h.b8
  match f, m, h1, h2 with
  | [p, q], [u, v, w], _, _ => exact ⟨p, q, u, v, w, rfl⟩
theorem lp : dQ (two k) (we p q u v w) 0 0 = p := by simp [dQ, cg, rL, ind, nth, two, we]
theorem lZ : dQ (two k) (we p q u v w) 0 1 = p + u := by simp [dQ, cg, rL, ind, nth, two, we]
theorem kE : dQ (two k) (we p q u v w) 0 2 = p + u - v := by simp [dQ, cg, rL, ind, nth, two, we]; omega
theorem y9 : dQ (two k) (we p q u v w) 1 0 = q := by simp [dQ, cg, rL, ind, nth, two, we]
theorem zS : dQ (two k) (we p q u v w) 1 1 = q := by simp [dQ, cg, rL, ind, nth, two, we]
theorem sN : dQ (two k) (we p q u v w) 1 2 = q + v - w := by simp [dQ, cg, rL, ind, nth, two, we]; omega
structure Ik (k : Nat) (c : Nat → Bool) (p q u v w : Int) : Prop where
  hp : 20 ≤ p ∧ p ≤ 30
  hq : q = 0
  hu : 40 ≤ u ∧ u ≤ 60
  hv : 10 ≤ v ∧ v ≤ 40
  hw : 5 ≤ w ∧ w ≤ 10
  l0 : 0 < k → c 0 = true → 20 ≤ v - w ∧ v - w ≤ 25
  l1 : 1 < k → c 1 = true → 10 ≤ p + u - v ∧ p + u - v ≤ 24
theorem jw (hk : k ≤ 2) : gQ (two k) c (we p q u v w) ↔ Ik k c p q u v w := by
 constructor
 ·intro h
  have f0 := h.first 0 (Nat.zero_lt_succ _)
  have f1 := h.first 1 (show 1 < 2 by decide)
  have m0 := h.b8 0 (Nat.zero_lt_succ _)
  have m1 := h.b8 1 (show 1 < 3 by decide)
  have m2 := h.b8 2 (show 2 < 3 by decide)
  have hq : (0 : Int) ≤ q ∧ q ≤ 0 := f1
  refine ⟨f0, by omega, m0, m1, m2, fun h0 hc => ?_, fun h1 hc => ?_⟩
  ·have e : nth (two k).levels 0 = ⟨2, 1, ⟨20, 25⟩⟩ := by
    obtain ⟨j, rfl⟩ : ∃ j, k = j + 1 := ⟨k - 1, by omega⟩
    rfl
   have hl : 0 < (two k).levels.length := by
    obtain ⟨j, rfl⟩ : ∃ j, k = j + 1 := ⟨k - 1, by omega⟩
    show 0 < (List.take (j + 1) _).length
    rw [List.take_succ_cons, List.length_cons]; omega
   have := h.level 0 hl hc
   rw [e] at this
   have := this
   change 20 ≤ dQ _ _ 1 2 ∧ dQ _ _ 1 2 ≤ 25 at this
   rw [sN] at this
   omega
  obtain rfl : k = 2 := by omega
  have := h.level 1 (by decide) hc
  change 10 ≤ dQ _ _ 0 2 ∧ dQ _ _ 0 2 ≤ 24 at this
  rw [kE] at this
  exact this
 intro ⟨hp, hq, hu, hv, hw, h0, h1⟩
 have hlen : (two k).levels.length = k := by
  show (List.take k _).length = k
  rw [List.length_take]; show min k 2 = k; omega
 refine ⟨⟨rfl, rfl⟩, fun b hb => ?_, fun b t hb ht => ?_, fun i hi => ?_, fun i hi hc => ?_⟩
 ·have hb : b < 2 := hb
  have : b = 0 ∨ b = 1 := by omega
  rcases this with rfl | rfl
  ·exact hp
  show 0 ≤ q ∧ q ≤ 0; omega
 ·have hb : b < 2 := hb
  have ht : t ≤ 2 := ht
  have e1 : b = 0 ∨ b = 1 := by omega
  have e2 : t = 0 ∨ t = 1 ∨ t = 2 := by omega
  rcases e1 with rfl | rfl <;> rcases e2 with rfl | rfl | rfl
  ·rw [lp]; show 0 ≤ p ∧ p ≤ 100; omega
  ·rw [lZ]; show 0 ≤ p + u ∧ p + u ≤ 100; omega
  ·rw [kE]; show 0 ≤ p + u - v ∧ p + u - v ≤ 100; omega
  ·rw [y9]; show 0 ≤ q ∧ q ≤ 50; omega
  ·rw [zS]; show 0 ≤ q ∧ q ≤ 50; omega
  rw [sN]; show 0 ≤ q + v - w ∧ q + v - w ≤ 50; omega
 ·have hi : i < 3 := hi
  have : i = 0 ∨ i = 1 ∨ i = 2 := by omega
  rcases this with rfl | rfl | rfl
  ·exact hu
  ·exact hv
  exact hw
 rw [hlen] at hi
 have : i = 0 ∨ i = 1 := by omega
 rcases this with rfl | rfl
 ·have h := h0 hi hc
  have e : nth (two k).levels 0 = ⟨2, 1, ⟨20, 25⟩⟩ := by
   obtain ⟨j, rfl⟩ : ∃ j, k = j + 1 := ⟨k - 1, by omega⟩
   rfl
  rw [e]
  change 20 ≤ dQ _ _ 1 2 ∧ dQ _ _ 1 2 ≤ 25
  rw [sN]; omega
 obtain rfl : k = 2 := by omega
 have h := h1 (by omega) hc
 change 10 ≤ dQ _ _ 0 2 ∧ dQ _ _ 0 2 ≤ 24
 rw [kE]; exact h
theorem jk (hk : k ≤ 2) {f : eK → Int} {s : Span} (p0 q0 u0 v0 w0 p1 q1 u1 v1 w1 : Int) (h0 : Ik k c p0 q0 u0 v0 w0) (e0 : f (we p0 q0 u0 v0 w0) = s.lo) (h1 : Ik k c p1 q1 u1 v1 w1) (e1 : f (we p1 q1 u1 v1 w1) = s.hi)
 (h : ∀ p q u v w, Ik k c p q u v w → s.lo ≤ f (we p q u v w) ∧ f (we p q u v w) ≤ s.hi) : Bt (two k) c f s :=
 ⟨⟨_, (jw hk).2 h0, e0⟩, ⟨_, (jw hk).2 h1, e1⟩, fun a ha => by
  obtain ⟨p, q, u, v, w, rfl⟩ := Bm ha.lens
  exact h p q u v w ((jw hk).1 ha)⟩
end
end Go.Proofs.YtelbollidfdcjaaGreat
namespace Go.Proofs.YtelbollidfdcjaaGreat
open Go Go.T
section
variable {y : bB} {c : Nat → Bool} {a : eK} {b t k : Nat} {s : Span}
theorem BV (h0 : bq y = 0) (h : ∃ a, gQ y (nth bZ) a) : cO y = 0 := (open_3 h0 ((nE (cr h0)).2 h)).symm
theorem Ge (h0 : bq y = 0) (h : ¬ ∃ a, gQ y (nth bZ) a) : cO y = 7 := by
  cases e : (cU (aQ y (nth bZ)) (y.cells + 1) (gU (aQ y (nth bZ)))).2.1 with
  | true => exact (wB h0 e).symm
  | false => exact absurd ((nE (cr h0)).1 e) h
theorem sZ (h : cO y = 0) : ∃ a, gQ y (nth bZ) a := (nE (cr (dM h))).1 (ym h)
theorem xz (hr : y.cm) {l : List Bool} : eW y l = true ↔ ∃ a, gQ y (nth l) a := by
 unfold eW
 rw [Bool.not_eq_true', nE hr]
theorem nF (ho : cO y = 0) (hb : b < y.bins.length) (ht : t ≤ y.D) : Bt y (nth bZ) (fun a => dQ y a b t) (gR (aQ y (nth bZ)) (y.cells + 1) (hasB y b t)) :=
 vT (cr (dM ho)) (fun x hx => IK (cr (dM ho)) hb ht hx) (sZ ho)
theorem uR (ho : cO y = 0) (ht : t ≤ y.D) : Bt y (nth bZ) (fun a => cg (fun b => dQ y a b t) y.bins.length) (gR (aQ y (nth bZ)) (y.cells + 1) (n6 y t)) :=
 vT (cr (dM ho)) (fun x hx => Ee (cr (dM ho)) ht hx) (sZ ho)
theorem JX (ho : cO y = 0) (hk : k < y.moves.length) : Bt y (nth bZ) (fun a => nth a.b8 k) (gR (aQ y (nth bZ)) (y.cells + 1) (sw (y.bins.length * (y.D + 1) + k))) :=
 vT (cr (dM ho)) (fun x hx => GD hk) (sZ ho)
theorem yl (h0 : bq y = 0) (hb : b < y.bins.length) : eI y (b : Int) = 0 := by
 unfold eI
 rw [if_pos h0, if_pos (by unfold bB.bin; rw [g8]; omega)]
theorem zV (ho : cO y = 0) (hb : b < y.bins.length) : jT y (b : Int) = 0 := (yY (yl (dM ho) hb) ho).1.symm
theorem uU (ho : cO y = 0) (hb : b < y.bins.length) : eN y (b : Int) = (List.range (y.D + 1)).map fun t => gR (aQ y (nth bZ)) (y.cells + 1) (hasB y b t) := (yY (yl (dM ho) hb) ho).2.symm
theorem yh (ho : cO y = 0) : eH y = (List.range (y.D + 1)).map fun t => gR (aQ y (nth bZ)) (y.cells + 1) (n6 y t) := (z5 ho).symm
theorem uo (ho : cO y = 0) (hb : b < y.bins.length) : (eN y (b : Int)).length = y.D + 1 := by rw [uU ho hb, List.length_map, List.length_range]
theorem nq (ho : cO y = 0) (hb : b < y.bins.length) (ht : t ≤ y.D) : Bt y (nth bZ) (fun a => dQ y a b t) (nth (eN y (b : Int)) t) := by
 rw [uU ho hb, ia _ (by omega)]; exact nF ho hb ht
theorem AB (ho : cO y = 0) : (eH y).length = y.D + 1 := by rw [yh ho, List.length_map, List.length_range]
theorem kf (ho : cO y = 0) (ht : t ≤ y.D) : Bt y (nth bZ) (fun a => cg (fun b => dQ y a b t) y.bins.length) (nth (eH y) t) := by
 rw [yh ho, ia _ (by omega)]; exact uR ho ht
theorem JF (ho : cO y = 0) (hk : k < y.moves.length) : kC y (k : Int) = 0 := (C2 (dM ho) (by rw [Bool.not_eq_false', Bool.and_eq_true, decide_eq_true_eq, decide_eq_true_eq]; omega) ho).1.symm
theorem F3 (ho : cO y = 0) (hk : k < y.moves.length) : Bt y (nth bZ) (fun a => nth a.b8 k) (mN y (k : Int)) := by
 rw [← (C2 (dM ho) (by rw [Bool.not_eq_false', Bool.and_eq_true, decide_eq_true_eq, decide_eq_true_eq]; omega) ho).2]
 exact JX ho hk
end
theorem GR {α : Type} {a b c x y z : α} (h1 : a = x) (h2 : b = y) (h3 : c = z) : [a, b, c] = [x, y, z] := by subst h1; subst h2; subst h3; rfl
theorem j4 {k : Nat} (hk : k ≤ 1) : cO (two k) = 0 :=
 BV (nH (by omega)) ⟨we 20 0 40 25 5, (jw (by omega)).2 ⟨by omega, rfl, by omega, by omega, by omega, fun _ _ => by omega, fun _ _ => by omega⟩⟩
theorem Lt : jT (two 0) 0 = 0 := zV (b := 0) (j4 (by omega)) (by decide)
theorem IL : eN (two 0) 0 = [⟨20, 30⟩, ⟨60, 90⟩, ⟨20, 80⟩] := by
 have ho := j4 (k := 0) (by omega)
 have e := uU (b := 0) ho (by decide)
 have h0 := (nF (b := 0) (t := 0) ho (by decide) (by decide)).one (jk (s := ⟨20, 30⟩) (by omega) 20 0 40 10 5 30 0 40 10 5 (by constructor <;> intros <;> omega) lp (by constructor <;> intros <;> omega) lp fun p q u v w h => by rw [lp]; exact h.hp)
 have h1 := (nF (b := 0) (t := 1) ho (by decide) (by decide)).one (jk (s := ⟨60, 90⟩) (by omega) 20 0 40 10 5 30 0 60 10 5 (by constructor <;> intros <;> omega) lZ (by constructor <;> intros <;> omega) lZ fun p q u v w h => by rw [lZ]; have := h.hp; have := h.hu; show 60 ≤ p + u ∧ p + u ≤ 90; omega)
 have h2 := (nF (b := 0) (t := 2) ho (by decide) (by decide)).one (jk (s := ⟨20, 80⟩) (by omega) 20 0 40 40 5 30 0 60 10 5 (by constructor <;> intros <;> omega) kE (by constructor <;> intros <;> omega) kE fun p q u v w h => by rw [kE]; have := h.hp; have := h.hu; have := h.hv; show 20 ≤ p + u - v ∧ p + u - v ≤ 80; omega)
 show eN (two 0) ((0 : Nat) : Int) = _
 rw [e]
 exact GR h0 h1 h2
theorem Da : eN (two 1) 0 = [⟨20, 30⟩, ⟨60, 90⟩, ⟨25, 65⟩] := by
 have ho := j4 (k := 1) (by omega)
 have e := uU (b := 0) ho (by decide)
 have h0 := (nF (b := 0) (t := 0) ho (by decide) (by decide)).one (jk (s := ⟨20, 30⟩) (by omega) 20 0 40 25 5 30 0 40 25 5 (by constructor <;> intros <;> omega) lp (by constructor <;> intros <;> omega) lp fun p q u v w h => by rw [lp]; exact h.hp)
 have h1 := (nF (b := 0) (t := 1) ho (by decide) (by decide)).one (jk (s := ⟨60, 90⟩) (by omega) 20 0 40 25 5 30 0 60 25 5 (by constructor <;> intros <;> omega) lZ (by constructor <;> intros <;> omega) lZ fun p q u v w h => by rw [lZ]; have := h.hp; have := h.hu; show 60 ≤ p + u ∧ p + u ≤ 90; omega)
 have h2 := (nF (b := 0) (t := 2) ho (by decide) (by decide)).one (jk (s := ⟨25, 65⟩) (by omega) 20 0 40 35 10 30 0 60 25 5 (by constructor <;> intros <;> omega) kE (by constructor <;> intros <;> omega) kE fun p q u v w h => by rw [kE]; have := h.hp; have := h.hu; have := h.hw; have := h.l0 (by omega) rfl; show 25 ≤ p + u - v ∧ p + u - v ≤ 65; omega)
 show eN (two 1) ((0 : Nat) : Int) = _
 rw [e]
 exact GR h0 h1 h2
theorem kO {k : Nat} {a : eK} {t : Nat} : cg (fun b => dQ (two k) a b t) (two k).bins.length = dQ (two k) a 0 t + dQ (two k) a 1 t := by
 show (0 + dQ (two k) a 0 t) + dQ (two k) a 1 t = _; rw [Int.zero_add]
theorem Kb : eH (two 0) = [⟨20, 30⟩, ⟨60, 90⟩, ⟨50, 85⟩] := by
 have ho := j4 (k := 0) (by omega)
 have e := yh ho
 have h0 := (uR (t := 0) ho (by decide)).one (jk (s := ⟨20, 30⟩) (by omega) 20 0 40 10 5 30 0 40 10 5 (by constructor <;> intros <;> omega) (by rw [kO, lp, y9]; rfl) (by constructor <;> intros <;> omega) (by rw [kO, lp, y9]; rfl) fun p q u v w h => by rw [kO, lp, y9]; have := h.hp; have := h.hq; show 20 ≤ p + q ∧ p + q ≤ 30; omega)
 have h1 := (uR (t := 1) ho (by decide)).one (jk (s := ⟨60, 90⟩) (by omega) 20 0 40 10 5 30 0 60 10 5 (by constructor <;> intros <;> omega) (by rw [kO, lZ, zS]; rfl) (by constructor <;> intros <;> omega) (by rw [kO, lZ, zS]; rfl) fun p q u v w h => by rw [kO, lZ, zS]; have := h.hp; have := h.hq; have := h.hu; show 60 ≤ p + u + q ∧ p + u + q ≤ 90; omega)
 have h2 := (uR (t := 2) ho (by decide)).one (jk (s := ⟨50, 85⟩) (by omega) 20 0 40 10 10 30 0 60 10 5 (by constructor <;> intros <;> omega) (by rw [kO, kE, sN]; rfl) (by constructor <;> intros <;> omega) (by rw [kO, kE, sN]; rfl) fun p q u v w h => by rw [kO, kE, sN]; have := h.hp; have := h.hq; have := h.hu; have := h.hw; show 50 ≤ p + u - v + (q + v - w) ∧ p + u - v + (q + v - w) ≤ 85; omega)
 rw [e]
 exact GR h0 h1 h2
theorem L6 : kC (two 1) 1 = 0 := JF (k := 1) (j4 (by omega)) (by decide)
theorem Km : mN (two 1) 1 = ⟨25, 35⟩ :=
 (F3 (k := 1) (j4 (k := 1) (by omega)) (by decide)).one (jk (s := ⟨25, 35⟩) (by omega) 20 0 40 25 5 20 0 40 35 10 (by constructor <;> intros <;> omega) rfl (by constructor <;> intros <;> omega) rfl fun p q u v w h => by have := h.hw; have := h.l0 (by omega) rfl; show 25 ≤ v ∧ v ≤ 35; omega)
theorem J2 : 0 = j5 (two 1) 0 60 (fun x => decide (x.lo ≥ 60)) ∧ fidx (fun x : Span => decide (x.lo ≥ 60)) (eN (two 1) 0) = m4 (two 1) 0 60 (fun x => decide (x.lo ≥ 60)) :=
 Hu (yl (b := 0) (nH (by omega)) (by decide)) rfl (zV (b := 0) (j4 (by omega)) (by decide)) (by rw [Da]; decide)
theorem K2 : m4 (two 1) 0 60 (fun x => decide (x.lo ≥ 60)) = 1 := by rw [← J2.2, Da]; rfl
def vG : DN := ⟨[⟨0, 0⟩, ⟨0, 1⟩, ⟨1, 1⟩], false⟩
theorem Cx : jA (two 2) (aQ (two 2) (nth bZ)) vG = 1 := by kernel_rfl
theorem MR : 0 = mS (two 2) vG ∧ jA (two 2) (aQ (two 2) (nth bZ)) vG = r6 (two 2) vG :=
 G3 (nH (by omega)) (by decide) (fun i hi => by
  have hi : i + 1 < 3 := hi
  have : i = 0 ∨ i = 1 := by omega
  rcases this with rfl | rfl <;> decide) (by rw [Cx]; decide)
theorem LG : r6 (two 2) vG = 1 := by rw [← MR.2, Cx]
theorem Gz : ¬ ∃ a, gQ (two 2) (nth bZ) a := by
 rintro ⟨a, ha⟩
 obtain ⟨p, q, u, v, w, rfl⟩ := Bm ha.lens
 have h := (jw (by omega)).1 ha
 have h0 := h.l0 (by omega) rfl
 have h1 := h.l1 (by omega) rfl
 have := h.hp; have := h.hu; have := h.hw
 omega
theorem IZ : cO (two 2) = 7 := Ge (nH (by omega)) Gz
theorem uW {l : List Bool} (h : nth l 0 = false ∨ nth l 1 = false) : eW (two 2) l = true := by
  rw [xz (xV (by omega))]
  cases h1 : nth l 1 with
  | false => exact ⟨we 20 0 40 25 5, (jw (by omega)).2 ⟨by omega, rfl, by omega, by omega, by omega, fun _ _ => by omega, fun _ hc => by rw [h1] at hc; cases hc⟩⟩
  | true =>
    have h0 : nth l 0 = false := h.resolve_right (by rw [h1]; decide)
    exact ⟨we 20 0 40 40 5, (jw (by omega)).2 ⟨by omega, rfl, by omega, by omega, by omega, fun _ hc => absurd hc (by rw [h0]; decide), fun _ _ => by omega⟩⟩
theorem Hh {l : List Bool} (h : nth l 0 = true ∧ nth l 1 = true) : eW (two 2) l = false := by
 rw [Bool.eq_false_iff]
 intro hc
 obtain ⟨a, ha⟩ := (xz (xV (by omega))).1 hc
 obtain ⟨p, q, u, v, w, rfl⟩ := Bm ha.lens
 have hh := (jw (by omega)).1 ha
 have h0 := hh.l0 (by omega) h.1
 have h1 := hh.l1 (by omega) h.2
 have := hh.hp; have := hh.hu; have := hh.hw
 omega
theorem xm (h : List Int → Bool) : ku h 2 = [[], [0], [1], [0, 1]].find? h := rfl
theorem Lm : ku (fun l => !eW (two 2) (cR l false)) 2 = some [0, 1] := by
 rw [xm, List.find?_cons, uW (.inl rfl)]
 show List.find? _ [[0], [1], [0, 1]] = _
 rw [List.find?_cons, uW (.inr rfl)]
 show List.find? _ [[1], [0, 1]] = _
 rw [List.find?_cons, uW (.inl rfl)]
 show List.find? _ [[0, 1]] = _
 rw [List.find?_cons, Hh ⟨rfl, rfl⟩]; rfl
theorem MI : ku (fun l => eW (two 2) (cR l true)) 2 = some [0] := by
 rw [xm, List.find?_cons, Hh ⟨rfl, rfl⟩]
 show List.find? _ [[0], [1], [0, 1]] = _
 rw [List.find?_cons, uW (.inl rfl)]
theorem Jo : 0 = kA (two 2) ∧ DK (fun l => !eW (two 2) (cR l false)) 2 = lz (two 2) :=
 zW (nH (by omega)) (by show (!(ku _ 2).isSome) = false; rw [Lm]; rfl)
theorem Jz : 0 = kD (two 2) ∧ DK (fun l => eW (two 2) (cR l true)) 2 = lq (two 2) :=
 zI (nH (by omega)) (by show (!(ku _ 2).isSome) = false; rw [MI]; rfl)
theorem FF : lz (two 2) = [0, 1] := by rw [← Jo.2]; unfold DK; rw [Lm]; rfl
theorem Fj : lq (two 2) = [0] := by rw [← Jz.2]; unfold DK; rw [MI]; rfl
end Go.Proofs.YtelbollidfdcjaaGreat
namespace Go.Proofs.YtelbollidfdcjaaGreat
open Go Go.T
section
variable {y : bB} {c : Nat → Bool} {a : eK} {m : List Int} {b t n : Nat} {x : Int}
def sQ (y : bB) (a : eK) (t : Nat) : Int := cg (fun b => dQ y a b t) y.bins.length
def Ev (y : bB) (m : List Int) (t : Nat) : Int := cg (fun i => if (nth y.moves i).day = t then (ind ((nth y.moves i).dst ≠ -1) - ind ((nth y.moves i).src ≠ -1)) * nth m i else 0) y.moves.length
def qQ (y : bB) (t : Int) : Nat → Int := cg fun i => if (decide ((nth y.moves i).day = t) && decide ((nth y.moves i).src = -1)) = true then (nth y.moves i).sacks.hi else 0
def lA (y : bB) (t : Int) : Nat → Int := cg fun i => if (decide ((nth y.moves i).day = t) && decide ((nth y.moves i).dst = -1)) = true then (nth y.moves i).sacks.hi else 0
theorem C4 (h : -1 ≤ x ∧ x < n) : cg (fun b => ind (x = ((b : Nat) : Int))) n = ind (x ≠ -1) := by
 by_cases e : x = -1
 ·rw [dz (fun h => h e), eY fun i _ => dz (by omega)]
 obtain ⟨k, rfl⟩ : ∃ k : Nat, x = k := ⟨x.toNat, by omega⟩
 rw [dx e, iK (k := k) (by omega) fun i _ hn => dz (by omega), dx rfl]
theorem vf (hr : y.cm) : sQ y a (t + 1) = sQ y a t + Ev y a.b8 t := by
 unfold sQ Ev
 rw [dw fun b _ => mG (y := y) (a := a) (b := b) (t := t), qh]
 congr 1
 unfold BY
 rw [sy]
 refine dw fun i hi => ?_
 obtain ⟨_, h1, h2, _⟩ := hr.move _ (cM hi)
 by_cases e : (nth y.moves i).day = (t : Int)
 ·rw [if_pos e]
  rw [dw (g := fun b => nth a.b8 i * (ind ((nth y.moves i).dst = ((b : Nat) : Int)) - ind ((nth y.moves i).src = ((b : Nat) : Int)))) fun b _ => by rw [if_pos e]; unfold rL; rw [Int.mul_comm]]
  rw [mF, jF, C4 h2, C4 h1, Int.mul_comm]
 rw [if_neg e]
 exact eY fun b _ => if_neg e
theorem Es (h : ∀ i, i < y.moves.length → (nth y.moves i).src ≠ -1 ∧ (nth y.moves i).dst ≠ -1) : Ev y m t = 0 := by
 refine eY fun i hi => ?_
 obtain ⟨h1, h2⟩ := h i hi
 rw [dx h1, dx h2]
 split <;> simp
theorem K0 (hr : y.cm) (hf : gQ y c a) : Ev y a.b8 t ≤ qQ y t y.moves.length := by
 refine kM fun i hi => ?_
 obtain ⟨_, _, _, h3, h4, _⟩ := hr.move _ (cM hi)
 have hm := hf.b8 i hi
 by_cases e : (nth y.moves i).day = (t : Int)
 ·rw [if_pos e, decide_eq_true e, Bool.true_and]
  by_cases e1 : (nth y.moves i).src = -1
  ·have e2 : (nth y.moves i).dst ≠ -1 := fun h => h3 (e1.trans h.symm)
   rw [dx e2, dz (fun h => h e1), decide_eq_true e1, if_pos rfl]; omega
  rw [dx e1, decide_eq_false e1, if_neg (by decide)]
  by_cases e2 : (nth y.moves i).dst = -1
  ·rw [dz (fun h => h e2)]; omega
  rw [dx e2]; omega
 rw [if_neg e, decide_eq_false e, Bool.false_and, if_neg (by decide)]; exact Int.le_refl _
theorem JM (hr : y.cm) (hf : gQ y c a) : -lA y t y.moves.length ≤ Ev y a.b8 t := by
 have key : cg (fun i => (-1 : Int) * (if (decide ((nth y.moves i).day = (t : Int)) && decide ((nth y.moves i).dst = -1)) = true then (nth y.moves i).sacks.hi else 0)) y.moves.length ≤ Ev y a.b8 t := by
  refine kM fun i hi => ?_
  obtain ⟨_, _, _, h3, h4, _⟩ := hr.move _ (cM hi)
  have hm := hf.b8 i hi
  by_cases e : (nth y.moves i).day = (t : Int)
  ·rw [if_pos e, decide_eq_true e, Bool.true_and]
   by_cases e1 : (nth y.moves i).dst = -1
   ·have e2 : (nth y.moves i).src ≠ -1 := fun h => h3 (h.trans e1.symm)
    rw [dx e2, dz (fun h => h e1), decide_eq_true e1, if_pos rfl]; omega
   rw [dx e1, decide_eq_false e1, if_neg (by decide)]
   by_cases e2 : (nth y.moves i).src = -1
   ·rw [dz (fun h => h e2)]; omega
   rw [dx e2]; omega
  rw [if_neg e, decide_eq_false e, Bool.false_and, if_neg (by decide)]; exact Int.le_refl _
 rw [mF] at key
 unfold lA; omega
theorem w9 (h : ∀ i, i < y.moves.length → (nth y.moves i).src ≠ (b : Int) ∧ (nth y.moves i).dst ≠ (b : Int)) (hr : y.cm) : ∀ t, dQ y a b t = dQ y a b 0
  | 0 => rfl
  | t + 1 => by
    rw [mG, w9 h hr t]
    have : BY y a.b8 b t = 0 := eY fun i hi => by
      obtain ⟨h1, h2⟩ := h i hi
      unfold rL
      rw [dz h1, dz h2]; split <;> simp
    omega
theorem F7 (ho : cO y = 0) (ht : t ≤ y.D) : cg (fun b => (nth (eN y (b : Nat)) t).lo) y.bins.length ≤ (nth (eH y) t).lo ∧ (nth (eH y) t).hi ≤ cg (fun b => (nth (eN y (b : Nat)) t).hi) y.bins.length := by
 have h := kf ho ht
 refine ⟨?_, ?_⟩
 ·obtain ⟨a, ha, e⟩ := h.lo
  rw [← e]
  exact kM fun b hb => ((nq ho hb ht).all a ha).1
 obtain ⟨a, ha, e⟩ := h.hi
 rw [← e]
 exact kM fun b hb => ((nq ho hb ht).all a ha).2
theorem Bq (ho : cO y = 0) (ht : t ≤ y.D) (ha : gQ y (nth bZ) a) : (nth (eH y) t).lo ≤ sQ y a t ∧ sQ y a t ≤ (nth (eH y) t).hi := (kf ho ht).all a ha
theorem Gs (ho : cO y = 0) (ht : t + 1 ≤ y.D) : (nth (eH y) (t + 1)).hi ≤ (nth (eH y) t).hi + qQ y t y.moves.length ∧ (nth (eH y) t).lo - lA y t y.moves.length ≤ (nth (eH y) (t + 1)).lo := by
 have hr := cr (dM ho)
 have h1 := kf ho ht
 refine ⟨?_, ?_⟩
 ·obtain ⟨a, ha, e⟩ := h1.hi
  have e : sQ y a (t + 1) = _ := e
  have h2 := Bq (t := t) ho (by omega) ha
  have h3 := K0 (t := t) hr ha
  rw [← e, vf hr]; omega
 obtain ⟨a, ha, e⟩ := h1.lo
 have e : sQ y a (t + 1) = _ := e
 have h2 := Bq (t := t) ho (by omega) ha
 have h3 := JM (t := t) hr ha
 rw [← e, vf hr]; omega
theorem Bt.same {f g : eK → Int} {s s' : Span} (h : Bt y c f s) (h' : Bt y c g s') (e : ∀ a, f a = g a) : s = s' := by
 have : f = g := funext e
 subst this; exact h.one h'
theorem GK (ho : cO y = 0) (hb : b < y.bins.length) (ht : t ≤ y.D) (h : ∀ i, i < y.moves.length → (nth y.moves i).src ≠ (b : Int) ∧ (nth y.moves i).dst ≠ (b : Int)) : nth (eN y (b : Nat)) t = nth (eN y (b : Nat)) 0 :=
 (nq ho hb ht).same (nq ho hb (Nat.zero_le _)) fun _ => w9 h (cr (dM ho)) t
theorem yA (hr : y.cm) (h : ∀ i, i < y.moves.length → (nth y.moves i).src ≠ -1 ∧ (nth y.moves i).dst ≠ -1) : ∀ t, sQ y a t = sQ y a 0
  | 0 => rfl
  | t + 1 => by rw [vf hr, Es h, yA hr h t]; omega
theorem EY (ho : cO y = 0) (ht : t ≤ y.D) (h : ∀ i, i < y.moves.length → (nth y.moves i).src ≠ -1 ∧ (nth y.moves i).dst ≠ -1) : nth (eH y) t = nth (eH y) 0 :=
 (kf ho ht).same (kf ho (Nat.zero_le _)) fun _ => yA (cr (dM ho)) h t
end
end Go.Proofs.YtelbollidfdcjaaGreat
namespace Go.Proofs.YtelbollidfdcjaaGreat
open Go Go.T
def CE (m : Move) : Bool := !decide (m.src = -1) && !decide (m.dst = -1)
def EL (m : Move) : Move := { m with sacks := ⟨0, m.sacks.hi⟩ }
def nX (l : List Move) : List Move := (l.filter CE).map EL
def q7 (b : s7) : s7 := { b with holds := 300 }
def qA (y : bB) : bB := ⟨y.days, y.bins.map q7, nX y.moves, []⟩
def An (y : bB) (a : eK) : eK := ⟨a.first, List.replicate (nX y.moves).length 0⟩
theorem wZ {l : List Move} {m : Move} (h : CE m = true) : nX (l ++ [m]) = nX l ++ [EL m] := by
 unfold nX; rw [List.filter_append, List.map_append]; simp [h]
theorem zU {l : List Move} {m : Move} (h : CE m = false) : nX (l ++ [m]) = nX l := by
 unfold nX; rw [List.filter_append, List.map_append]; simp [h]
section
variable {y : bB} {a : eK} {c : Nat → Bool}
theorem rD (l : List Move) : (nX l).length ≤ l.length := by
 unfold nX; rw [List.length_map]; exact List.length_filter_le _ _
theorem u9 {l : List Move} {m : Move} (h : m ∈ nX l) : ∃ m', m' ∈ l ∧ CE m' = true ∧ m = EL m' := by
 unfold nX at h
 obtain ⟨m', h1, rfl⟩ := List.mem_map.1 h
 exact ⟨m', (List.mem_filter.1 h1).1, (List.mem_filter.1 h1).2, rfl⟩
theorem yD (hr : y.cm) : (qA y).cm := by
 have e : (qA y).bins.length = y.bins.length := List.length_map _
 refine ⟨hr.days, by rw [e]; exact hr.bins, Nat.le_trans (rD _) hr.moves, Nat.zero_le _, fun b hb => ?_, fun m hm => ?_, fun l hl => by cases hl⟩
 ·obtain ⟨b', hb', rfl⟩ := List.mem_map.1 hb
  have := hr.bin b' hb'
  exact ⟨by show (0 : Int) ≤ 300 ∧ (300 : Int) ≤ 300; omega, this.2.1, this.2.2⟩
 obtain ⟨m', hm', _, rfl⟩ := u9 hm
 obtain ⟨h1, h2, h3, h4, h5, h6⟩ := hr.move m' hm'
 rw [e]
 exact ⟨h1, h2, h3, h4, ⟨by show (0 : Int) ≤ 0; omega, h5.2⟩, by show (0 : Int) ≤ m'.sacks.hi; omega⟩
theorem Fa : ∀ i, i < (qA y).moves.length → (nth (qA y).moves i).src ≠ -1 ∧ (nth (qA y).moves i).dst ≠ -1 := fun i hi => by
 obtain ⟨m', _, h, e⟩ := u9 (cM hi)
 have e : nth (qA y).moves i = EL m' := e
 rw [e]
 unfold CE at h
 simp only [Bool.and_eq_true, Bool.not_eq_true', decide_eq_false_iff_not] at h
 exact h
theorem vS {n i : Nat} : nth (List.replicate n (0 : Int)) i = 0 := by
 unfold nth
 rw [List.getD_eq_getElem?_getD, List.getElem?_replicate]
 split <;> rfl
theorem BL (hr : y.cm) (b : Nat) : ∀ t, dQ (qA y) (An y a) b t = nth a.first b
  | 0 => mC (yD hr)
  | t + 1 => by
    rw [mG, BL hr b t]
    have : BY (qA y) (An y a).b8 b t = 0 := eY fun i hi => by
      unfold rL
      rw [show nth (An y a).b8 i = 0 from vS]
      split <;> simp
    omega
theorem Ft (hr : y.cm) (hf : gQ y c a) (h0 : ∀ x ∈ a.first, 0 ≤ x ∧ x ≤ 300) (c' : Nat → Bool) : gQ (qA y) c' (An y a) := by
 have e : (qA y).bins.length = y.bins.length := List.length_map _
 have eb : ∀ b, b < y.bins.length → nth (qA y).bins b = q7 (nth y.bins b) := fun b hb => vu _ hb
 refine ⟨⟨hf.lens.first.trans e.symm, List.length_replicate⟩, fun b hb => ?_, fun b t hb ht => ?_, fun i hi => ?_, fun i hi => absurd hi (Nat.not_lt_zero i)⟩
 ·rw [e] at hb
  rw [eb b hb]; exact hf.first b hb
 ·rw [e] at hb
  rw [eb b hb, BL hr]
  exact h0 _ (cM (by rw [hf.lens.first]; exact hb))
 obtain ⟨m', hm', _, e2⟩ := u9 (cM hi)
 have e2 : nth (qA y).moves i = EL m' := e2
 obtain ⟨_, _, _, _, h5, h6⟩ := hr.move m' hm'
 rw [e2, show nth (An y a).b8 i = 0 from vS]
 exact ⟨by show (0 : Int) ≤ 0; omega, by show (0 : Int) ≤ m'.sacks.hi; omega⟩
end
end Go.Proofs.YtelbollidfdcjaaGreat
namespace Go.Proofs.YtelbollidfdcjaaGreat
open Go Go.T
theorem HC (a b : Span) : (decide (a.lo = b.lo) && decide (a.hi = b.hi)) = decide (a = b) := by
 cases a; cases b; rw [Bool.eq_iff_iff]; simp
end Go.Proofs.YtelbollidfdcjaaGreat
namespace Go.Proofs.YtelbollidfdcjaaGreat
open Go Go.T
set_option maxHeartbeats 2000000
attribute [local irreducible] iw fu nh ru jS jR jO jN jQ rZ jL rj eO gy rY g9 rX nth fT dg aq eA bodyPost Exit.then Exit.inBlock Code.wp Code.wpIn rm jU rq rW jP eT ct cx bodyPostM eU
set_option maxRecDepth 100000 in
theorem BE (a b : List Int) : eA Tryz.prog 116 [Ty.sl cj a, Ty.sl cj b] (Ty.bool (decide (a = b))) := by
 refine az Tryz.func116 rfl (by decide) Tryz.ntmps116 (by exact Nat.le_of_ble_eq_true rfl) fun w0 M0 => ?_
 refine je (s := 0) rfl rfl jj fun ha => ?_
 refine je (s := 1) rfl rfl jj fun hb => ?_
 refine aE (aA (dZ rfl (aD (aC (aE (aE (aA (gC rfl (cz rfl rfl rfl ?_)))))))))
 refine gC rfl (cz rfl rfl rfl (bD rfl rfl rfl (aD (aC ?_))))
 refine dL rfl (fun hc1 => ?_) (fun hc1 => ?_)
 ·
  try (simp only [Classical.not_not] at hc1)
  refine aE (aA (dZ rfl (aD (aC (bC (aX (bl rfl rfl ?_)))))))
  all_goals skip
  exact bE rfl rfl (congrArg Ty.bool (by rw [eq_comm, decide_eq_false_iff_not]; intro e; subst e; exact hc1 rfl))
 try (simp only [Classical.not_not] at hc1)
 refine aj (aC (aE (aE (aA (gC rfl (cz rfl rfl rfl (bO rfl (aD (aC ?_)))))))))
 refine ak ?_
 refine cV (fun (k : {k : Nat // a.take k = b.take k}) => live [(0, Ty.sl cj a), (1, Ty.sl cj b), (12, Ty.int .i64 a.length), (13, Ty.int .i64 (k.1 : Nat))] []) (fun k => a.length - k.1) (⟨0, by simp⟩) ?_ fun k => ?_
 ·(refine c9.mk' ?_ ?_ <;> (repeat' (first | exact aH | exact aI | refine aB ?_ (Ty.aW _) | refine aB ?_ (Ty.aF _))))
 have hlen : a.length = b.length := by omega
 refine aE (aA (bD rfl rfl rfl (aD (aC (aE ?_)))))
 refine av rfl (fun hc2 => ?_) (fun hc2 => ?_)
 ·
  try (simp only [Classical.not_not] at hc2)
  refine aj (aC (aE (ak (aE (aA (bO rfl (cF rfl (aD (aC ?_)))))))))
  refine aE (cN mixed rfl (gC rfl (bO rfl ?_)))
  refine bN rfl rfl rfl rfl rfl rfl (by omega) ?_
  refine aM rfl rfl rfl rfl (gC rfl (bO rfl ?_))
  refine bN rfl rfl rfl rfl rfl rfl (by omega) ?_
  refine aM rfl rfl rfl rfl (bD rfl rfl rfl (aD ?_))
  refine ⟨by kernel_rfl, ?_⟩
  refine aC ?_
  refine dL rfl (fun hc3 => ?_) (fun hc3 => ?_)
  ·
   try (simp only [Classical.not_not] at hc3)
   refine aE (aA (dZ rfl (aD (aC (bC (bG (aX (aX (bG ?_)))))))))
   refine aX (bl rfl rfl ?_)
   all_goals skip
   exact bE rfl rfl (congrArg Ty.bool (by rw [eq_comm, decide_eq_false_iff_not]; exact xA (k := k.1) (hc3)))
  try (simp only [Classical.not_not] at hc3)
  refine aj (bQ (aC (aA ?_)))
  refine bg rfl rfl (by omega) (by omega) ?_
  refine bO rfl (aD ?_)
  refine bV (⟨k.1 + 1, by rw [dS (by omega), dS (by omega), k.2, hc3]⟩) ?_ (by show a.length - (k.1 + 1) < a.length - k.1; omega)
  (refine c9.mk' ?_ ?_ <;> (repeat' (first | exact aH | exact aI | refine aB ?_ (Ty.aW _) | refine aB ?_ (Ty.aF _))))
  all_goals skip
 try (simp only [Classical.not_not] at hc2)
 refine cQ (aR (aR (au rfl (aC (aE (aA (dZ rfl (aD (aC ?_)))))))))
 refine bC (bl rfl rfl ?_)
 all_goals skip
 exact bE rfl rfl (congrArg Ty.bool (by rw [eq_comm, decide_eq_true_eq]; have := k.2; rwa [List.take_of_length_le (by omega), List.take_of_length_le (by omega)] at this))
set_option maxRecDepth 100000 in
theorem Ae (a b : List Int) : eA Tryz.prog 46 [Ty.sl cj a, Ty.sl cj b] (Ty.bool (decide (a = b))) := by
 refine az Tryz.func46 rfl (by decide) Tryz.ntmps46 (by exact Nat.le_of_ble_eq_true rfl) fun w0 M0 => ?_
 refine aE (aA (dZ rfl (aD (aC (aE (aA (gC rfl (gC rfl (ay (BE _ _) rfl rfl rfl rfl rfl ?_)))))))))
 refine dZ rfl (aD (aC (bC (bl rfl rfl ?_))))
 all_goals exact cI rfl rfl
set_option maxRecDepth 100000 in
theorem A3 (a b : List Span) : eA Tryz.prog 123 [Ty.sl dA a, Ty.sl dA b] (Ty.bool (decide (a = b))) := by
 refine az Tryz.func123 rfl (by decide) Tryz.ntmps123 (by exact Nat.le_of_ble_eq_true rfl) fun w0 M0 => ?_
 refine je (s := 0) rfl rfl jj fun ha => ?_
 refine je (s := 1) rfl rfl jj fun hb => ?_
 refine aE (aA (dZ rfl (aD (aC (aE (aE (aA (gC rfl (cz rfl rfl rfl ?_)))))))))
 refine gC rfl (cz rfl rfl rfl (bD rfl rfl rfl (aD (aC ?_))))
 refine dL rfl (fun hc1 => ?_) (fun hc1 => ?_)
 ·
  try (simp only [Classical.not_not] at hc1)
  refine aE (aA (dZ rfl (aD (aC (bC (aX (bl rfl rfl ?_)))))))
  all_goals skip
  exact bE rfl rfl (congrArg Ty.bool (by rw [eq_comm, decide_eq_false_iff_not]; intro e; subst e; exact hc1 rfl))
 try (simp only [Classical.not_not] at hc1)
 refine aj (aC (aE (aE (aA (gC rfl (cz rfl rfl rfl (bO rfl (aD (aC ?_)))))))))
 refine ak ?_
 refine cV (fun (k : {k : Nat // a.take k = b.take k}) => live [(0, Ty.sl dA a), (1, Ty.sl dA b), (12, Ty.int .i64 a.length), (13, Ty.int .i64 (k.1 : Nat))] []) (fun k => a.length - k.1) (⟨0, by simp⟩) ?_ fun k => ?_
 ·(refine c9.mk' ?_ ?_ <;> (repeat' (first | exact aH | exact aI | refine aB ?_ (Ty.aW _) | refine aB ?_ (Ty.aF _))))
 have hlen : a.length = b.length := by omega
 refine aE (aA (bD rfl rfl rfl (aD (aC (aE ?_)))))
 refine av rfl (fun hc2 => ?_) (fun hc2 => ?_)
 ·
  try (simp only [Classical.not_not] at hc2)
  refine aj (aC (aE (ak (aE (aA (bO rfl (cF rfl (aD (aC ?_)))))))))
  refine aE (cN mixed rfl (gC rfl (bO rfl ?_)))
  refine bN rfl rfl rfl rfl rfl rfl (by omega) ?_
  refine aa rfl rfl rfl (by exact Nat.le_of_ble_eq_true rfl) ?_
  refine gC rfl (bO rfl ?_)
  refine bN rfl rfl rfl rfl rfl rfl (by omega) ?_
  refine aa rfl rfl rfl (by exact Nat.le_of_ble_eq_true rfl) ?_
  refine uK (Dq _ _ _ _) rfl rfl (aD ?_)
  refine ⟨by kernel_rfl, ?_⟩
  refine aC ?_
  refine cW rfl (fun hc3 => ?_) (fun hc3 => ?_)
  ·
   try (simp only [Classical.not_not] at hc3)
   refine aE (aA (dZ rfl (aD (aC (bC (bG (aX (aX (bG ?_)))))))))
   refine aX (bl rfl rfl ?_)
   all_goals skip
   exact bE rfl rfl (congrArg Ty.bool (by rw [eq_comm, decide_eq_false_iff_not]; exact xA (k := k.1) (of_decide_eq_false (by rw [← HC]; exact pQ hc3))))
  try (simp only [Classical.not_not] at hc3)
  refine aj (bQ (aC (aA ?_)))
  refine bg rfl rfl (by omega) (by omega) ?_
  refine bO rfl (aD ?_)
  refine bV (⟨k.1 + 1, by have e : nth a k.1 = nth b k.1 := of_decide_eq_true (by rw [← HC]; exact ff hc3); rw [dS (by omega), dS (by omega), k.2, e]⟩) ?_ (by show a.length - (k.1 + 1) < a.length - k.1; omega)
  (refine c9.mk' ?_ ?_ <;> (repeat' (first | exact aH | exact aI | refine aB ?_ (Ty.aW _) | refine aB ?_ (Ty.aF _))))
  all_goals skip
 try (simp only [Classical.not_not] at hc2)
 refine cQ (aR (aR (au rfl (aC (aE (aA (dZ rfl (aD (aC ?_)))))))))
 refine bC (bl rfl rfl ?_)
 all_goals skip
 exact bE rfl rfl (congrArg Ty.bool (by rw [eq_comm, decide_eq_true_eq]; have := k.2; rwa [List.take_of_length_le (by omega), List.take_of_length_le (by omega)] at this))
set_option maxRecDepth 100000 in
theorem Ao (a b : List Span) : eA Tryz.prog 50 [Ty.sl dA a, Ty.sl dA b] (Ty.bool (decide (a = b))) := by
 refine az Tryz.func50 rfl (by decide) Tryz.ntmps50 (by exact Nat.le_of_ble_eq_true rfl) fun w0 M0 => ?_
 refine aE (aA (dZ rfl (aD (aC (aE (aA (gC rfl (gC rfl (ay (A3 _ _) rfl rfl rfl rfl rfl ?_)))))))))
 refine dZ rfl (aD (aC (bC (bl rfl rfl ?_))))
 all_goals exact cI rfl rfl
end Go.Proofs.YtelbollidfdcjaaGreat
namespace Go.Proofs.YtelbollidfdcjaaGreat
open Go Go.T
set_option maxHeartbeats 4000000
theorem jc {α : Type} {E : El α} {T tg : Nat} {xs : List α} (h : xs = []) : (Ty.ex (.slice none 0 0)).Sub (Ty.row E T tg xs) := by subst h; exact Ty.lU
theorem rR {A : As} {α : Type} {E : El α} {T tg : Nat} {xs ys : List α} (h : xs = ys) : tQ A tg (Ty.row E T tg xs) (Ty.sl E ys) := by subst h; exact o7
theorem iY {k : Nat} (hk : k ≤ 2) : (two k).Small := ⟨by show 2 ≤ 1000; omega, by show 3 ≤ 1000; omega, by show (List.take k _).length ≤ 1000; rw [List.length_take]; show min k 2 ≤ 1000; omega⟩
attribute [local irreducible] eN jT eH cO mN kC m4 j5 r6 mS lz kA lq kD tY bq
attribute [local irreducible] iw fu nh ru jS jR jO jN jQ rZ jL rj eO gy rY g9 rX nth fT dg aq eA bodyPost Exit.then Exit.inBlock Code.wp Code.wpIn rm jU rq rW jP eT ct cx bodyPostM eU
set_option maxRecDepth 100000 in
theorem iW (a b : Int) : eA Tryz.prog 56 [Ty.int .i64 a, Ty.int .i64 b] (Ty.agg (dA.tys ⟨a, b⟩)) := by
 refine az Tryz.func56 rfl (by decide) Tryz.ntmps56 (by exact Nat.le_of_ble_eq_true rfl) fun w0 M0 => ?_
 refine aE (aA ?_)
 refine bz rfl (by exact List.cons_ne_nil _ _) rfl ?_
 refine aD (aC (aE (aA (bO rfl (bO rfl ?_)))))
 refine dD rfl rfl (by exact List.cons_ne_nil _ _) rfl (by repeat (first | exact (aY.nil : aY _ _ [] _) | (show aY _ _ ((_, _) :: _) _; apply aY.one; (· exact (rfl : _ = Ty.int _ _)); (· exact rfl)))) (by exact (rfl : _ = some [_, _])) ?_
 refine bu rfl rfl (by decide) rfl rfl rfl rfl rfl rfl ?_
 refine aD (aC (bC ?_))
 refine yt rfl rfl rfl rfl (by decide) rfl rfl rfl ?_
 all_goals exact bE rfl rfl rfl
set_option maxRecDepth 100000 in
theorem tU (k : Nat) (hk : k ≤ 2) : eA Tryz.prog 93 [Ty.int .i64 ((k : Nat) : Int)] (fK (two k)) := by
 refine az Tryz.func93 rfl (by decide) Tryz.ntmps93 (by exact Nat.le_of_ble_eq_true rfl) fun w0 M0 => ?_
 refine aE (aA ?_)
 refine bz rfl (by exact List.cons_ne_nil _ _) rfl ?_
 refine aD (aC (aE (aA (ay (iW _ _) rfl rfl rfl rfl rfl ?_))))
 refine dD rfl rfl (by exact List.cons_ne_nil _ _) rfl (by repeat (first | exact (aY.nil : aY _ _ [] _) | (show aY _ _ ((_, _) :: _) _; apply aY.one; (· exact (rfl : _ = Ty.int _ _)); (· exact rfl)) | (show aY _ _ ((_, _) :: _) _; apply aY.agg; (· exact (rfl : _ = Ty.agg _))))) (by exact (rfl : _ = some [_, _, _, _])) ?_
 refine ay (iW _ _) rfl rfl rfl rfl rfl ?_
 refine dD rfl rfl (by exact List.cons_ne_nil _ _) rfl (by repeat (first | exact (aY.nil : aY _ _ [] _) | (show aY _ _ ((_, _) :: _) _; apply aY.one; (· exact (rfl : _ = Ty.int _ _)); (· exact rfl)) | (show aY _ _ ((_, _) :: _) _; apply aY.agg; (· exact (rfl : _ = Ty.agg _))))) (by exact (rfl : _ = some [_, _, _, _])) ?_
 refine bp (E := ej) (xs := [⟨2, 1, ⟨20, 25⟩⟩, ⟨2, 0, ⟨10, 24⟩⟩]) rfl rfl rfl rfl rfl (by decide) (by decide) (by repeat (first | exact (aY.nil : aY _ _ [] _) | (show aY _ _ ((_, _) :: _) _; apply aY.agg; (· exact (rfl : _ = Ty.agg _))))) (by exact rfl) rfl ?_
 refine Bk rfl (aD (aC (aE (cN mixed rfl (ay (iW _ _) rfl rfl rfl rfl rfl ?_)))))
 refine dD rfl rfl (by exact List.cons_ne_nil _ _) rfl (by repeat (first | exact (aY.nil : aY _ _ [] _) | (show aY _ _ ((_, _) :: _) _; apply aY.one; (· exact (rfl : _ = Ty.int _ _)); (· exact rfl)) | (show aY _ _ ((_, _) :: _) _; apply aY.agg; (· exact (rfl : _ = Ty.agg _))))) (by exact (rfl : _ = some [_, _, _])) ?_
 refine dD rfl rfl (by exact List.cons_ne_nil _ _) rfl (by repeat (first | exact (aY.nil : aY _ _ [] _) | (show aY _ _ ((_, _) :: _) _; apply aY.one; (· exact (rfl : _ = Ty.int _ _)); (· exact rfl)))) (by exact (rfl : _ = some [_, _, _])) ?_
 refine bp (E := eG) (xs := [⟨100, ⟨20, 30⟩⟩, ⟨50, ⟨0, 0⟩⟩]) rfl rfl rfl rfl rfl (by decide) (by decide) (by repeat (first | exact (aY.nil : aY _ _ [] _) | (show aY _ _ ((_, _) :: _) _; apply aY.agg; (· exact (rfl : _ = Ty.agg _))))) (by exact rfl) rfl ?_
 refine ay (iW _ _) rfl rfl rfl rfl rfl ?_
 refine dD rfl rfl (by exact List.cons_ne_nil _ _) rfl (by repeat (first | exact (aY.nil : aY _ _ [] _) | (show aY _ _ ((_, _) :: _) _; apply aY.one; (· exact (rfl : _ = Ty.int _ _)); (· exact rfl)) | (show aY _ _ ((_, _) :: _) _; apply aY.agg; (· exact (rfl : _ = Ty.agg _))))) (by exact rfl) ?_
 refine ay (iW _ _) rfl rfl rfl rfl rfl ?_
 refine dD rfl rfl (by exact List.cons_ne_nil _ _) rfl (by repeat (first | exact (aY.nil : aY _ _ [] _) | (show aY _ _ ((_, _) :: _) _; apply aY.one; (· exact (rfl : _ = Ty.int _ _)); (· exact rfl)) | (show aY _ _ ((_, _) :: _) _; apply aY.agg; (· exact (rfl : _ = Ty.agg _))))) (by exact rfl) ?_
 refine ay (iW _ _) rfl rfl rfl rfl rfl ?_
 refine dD rfl rfl (by exact List.cons_ne_nil _ _) rfl (by repeat (first | exact (aY.nil : aY _ _ [] _) | (show aY _ _ ((_, _) :: _) _; apply aY.one; (· exact (rfl : _ = Ty.int _ _)); (· exact rfl)) | (show aY _ _ ((_, _) :: _) _; apply aY.agg; (· exact (rfl : _ = Ty.agg _))))) (by exact rfl) ?_
 refine bp (E := dN) (xs := [⟨0, -1, 0, ⟨40, 60⟩⟩, ⟨1, 0, 1, ⟨10, 40⟩⟩, ⟨1, 1, -1, ⟨5, 10⟩⟩]) rfl rfl rfl rfl rfl (by decide) (by decide) (by repeat (first | exact (aY.nil : aY _ _ [] _) | (show aY _ _ ((_, _) :: _) _; apply aY.agg; (· exact (rfl : _ = Ty.agg _))))) (by exact rfl) rfl ?_
 refine gC rfl (bO rfl (gC rfl (cz rfl rfl rfl (td rfl rfl (tJ rfl rfl ?_)))))
 refine HQ (hi := k) rfl (show _ = Ty.int .i64 ((k : Nat) : Int) from congrArg (Ty.int .i64) (by show max 0 (min (k : Int) 2) = (k : Int); omega)) rfl rfl rfl rfl (by show k ≤ 2; exact hk) ?_
 refine dD rfl rfl (by exact List.cons_ne_nil _ _) rfl (by repeat (first | exact (aY.nil : aY _ _ [] _) | (show aY _ _ ((_, _) :: _) _; apply aY.one; (· first | exact (rfl : _ = Ty.int _ _) | exact (rfl : _ = Ty.sl _ _)); (· exact rfl)))) (by exact (rfl : _ = some [_, _, _, _])) ?_
 refine bu rfl rfl (by decide) rfl rfl rfl rfl rfl rfl ?_
 refine aD ?_
 refine ⟨by kernel_rfl, ?_⟩
 refine aC (bC ?_)
 refine yt rfl rfl rfl rfl (by decide) rfl rfl rfl ?_
 all_goals exact bE rfl rfl rfl
set_option maxRecDepth 100000 in
theorem JU : eA Tryz.prog 27 [] (Ty.bool true) := by
 refine az Tryz.func27 rfl (by decide) Tryz.ntmps27 (by exact Nat.le_of_ble_eq_true rfl) fun w0 M0 => ?_
 refine aE (aA (dZ rfl (aD (aC (aE (aA ?_))))))
 refine ay (tU 0 (by decide)) rfl rfl rfl rfl rfl ?_
 refine ay (vR (two 0) (iY (by decide)) 0) rfl rfl rfl rfl rfl ?_
 refine sX rfl (bR rfl rfl (bR rfl rfl (Bk rfl (cF rfl (aD (aC (aE (aA ?_))))))))
 refine ay (tU 0 (by decide)) rfl rfl rfl rfl rfl ?_
 refine ay (DA (two 0) (iY (by decide))) rfl rfl rfl rfl rfl ?_
 refine sX rfl (bR rfl rfl (bR rfl rfl (Bk rfl (cF rfl (aD (aC (aE (aA ?_))))))))
 refine ay (tU 1 (by decide)) rfl rfl rfl rfl rfl ?_
 refine ay (Ii (two 1) (iY (by decide)) 1) rfl rfl rfl rfl rfl ?_
 refine sX rfl (bR rfl rfl (bR rfl rfl ?_))
 refine bz rfl (by exact List.cons_ne_nil _ _) rfl ?_
 refine bu rfl rfl (by decide) rfl rfl rfl rfl rfl rfl ?_
 refine cF rfl (aD (aC (aE (aA ?_))))
 refine ay (tU 1 (by decide)) rfl rfl rfl rfl rfl ?_
 refine ay (Fb (two 1) (iY (by decide)) 0 60) rfl rfl rfl rfl rfl ?_
 refine sX rfl (bR rfl rfl (bR rfl rfl (cF rfl (cF rfl (aD (aC (aE (aA ?_))))))))
 refine dD rfl rfl (by exact List.cons_ne_nil _ _) rfl (by repeat (exact (aY.nil : aY _ _ [] _))) (by exact (rfl : _ = some [_, _])) ?_
 refine dD rfl rfl (by exact List.cons_ne_nil _ _) rfl (by repeat (first | exact (aY.nil : aY _ _ [] _) | (show aY _ _ ((_, _) :: _) _; apply aY.one; (· exact (rfl : _ = Ty.int _ _)); (· exact rfl)))) (by exact (rfl : _ = some [_, _])) ?_
 refine dD rfl rfl (by exact List.cons_ne_nil _ _) rfl (by repeat (first | exact (aY.nil : aY _ _ [] _) | (show aY _ _ ((_, _) :: _) _; apply aY.one; (· exact (rfl : _ = Ty.int _ _)); (· exact rfl)))) (by exact (rfl : _ = some [_, _])) ?_
 refine bp (E := qE) (xs := vG.cells) rfl rfl rfl rfl rfl (by decide) (by decide) (by repeat (first | exact (aY.nil : aY _ _ [] _) | (show aY _ _ ((_, _) :: _) _; apply aY.agg; (· exact (rfl : _ = Ty.agg _))))) (by exact rfl) rfl ?_
 refine dD rfl rfl (by exact List.cons_ne_nil _ _) rfl (by repeat (first | exact (aY.nil : aY _ _ [] _) | (show aY _ _ ((_, _) :: _) _; apply aY.one; (· exact (rfl : _ = Ty.sl _ _)); (· exact rfl)))) (by exact (rfl : _ = some [_, _])) ?_
 refine bz rfl (by exact List.cons_ne_nil _ _) rfl ?_
 refine bu rfl rfl (by decide) rfl rfl rfl rfl rfl rfl ?_
 refine aD (aC (aE (cN mixed rfl ?_)))
 refine ay (tU 2 (by decide)) rfl rfl rfl rfl rfl ?_
 refine bT rfl rfl (by decide) rfl rfl (by exact Nat.le_of_ble_eq_true rfl) ?_
 refine ay (HR (two 2) (iY (by decide)) vG (by decide)) rfl rfl rfl rfl rfl ?_
 refine sX rfl (bR rfl rfl (bR rfl rfl (cF rfl (cF rfl (aD ?_)))))
 refine ⟨by kernel_rfl, ?_⟩
 refine aC (aE (aA ?_))
 refine ay (tU 2 (by decide)) rfl rfl rfl rfl rfl ?_
 refine ay (Ib (two 2) (iY (by decide))) rfl rfl rfl rfl rfl ?_
 refine sX rfl (bR rfl rfl (bR rfl rfl (Bk rfl (cF rfl (aD (aC (aE (aA ?_))))))))
 refine ay (tU 2 (by decide)) rfl rfl rfl rfl rfl ?_
 refine ay (JG (two 2) (iY (by decide))) rfl rfl rfl rfl rfl ?_
 refine sX rfl (bR rfl rfl (bR rfl rfl (Bk rfl (cF rfl (aD (aC (aE (aA ?_))))))))
 refine ay (tU 2 (by decide)) rfl rfl rfl rfl rfl ?_
 refine ay (KL (two 2) (iY (by decide))) rfl rfl rfl rfl rfl ?_
 refine sX rfl (bR rfl rfl (bR rfl rfl ?_))
 refine bz rfl (by exact List.cons_ne_nil _ _) rfl ?_
 refine bu rfl rfl (by decide) rfl rfl rfl rfl rfl rfl ?_
 refine cF rfl (aD (aC (aE ?_)))
 refine gl (s := 1) rfl (Ty.sub_eq (congrArg (Ty.sl dA) IL)) ?_
 refine gl (s := 2) rfl (Ty.ah Lt) ?_
 refine gl (s := 3) rfl (Ty.sub_eq (congrArg (Ty.sl dA) Kb)) ?_
 refine gl (s := 4) rfl (Ty.ah (j4 (k := 0) (by decide))) ?_
 refine gL (tg := 6) rfl (Cont.mM (congrArg dA.tys Km)) ?_
 refine gl (s := 6) rfl (Ty.ah L6) ?_
 refine gl (s := 7) rfl (Ty.ah K2) ?_
 refine gl (s := 8) rfl (Ty.ah J2.1.symm) ?_
 refine gl (s := 10) rfl (Ty.ah LG) ?_
 refine gl (s := 11) rfl (Ty.ah MR.1.symm) ?_
 refine gl (s := 12) rfl (Ty.sub_eq (congrArg (Ty.sl cj) FF)) ?_
 refine gl (s := 13) rfl (Ty.ah Jo.1.symm) ?_
 refine gl (s := 14) rfl (Ty.sub_eq (congrArg (Ty.sl cj) Fj)) ?_
 refine gl (s := 15) rfl (Ty.ah Jz.1.symm) ?_
 refine gl (s := 17) rfl (Ty.ah IZ) ?_
 refine eS (B := live [(1, Ty.sl dA [⟨20, 30⟩, ⟨60, 90⟩, ⟨20, 80⟩]), (2, Ty.int .i64 0), (3, Ty.sl dA [⟨20, 30⟩, ⟨60, 90⟩, ⟨50, 85⟩]), (4, Ty.int .i64 0), (5, Ty.ptr 6 0), (6, Ty.int .i64 0), (7, Ty.int .i64 1), (8, Ty.int .i64 0), (10, Ty.int .i64 1), (11, Ty.int .i64 0), (12, Ty.sl cj [0, 1]), (13, Ty.int .i64 0), (14, Ty.sl cj [0]), (15, Ty.int .i64 0), (17, Ty.int .i64 7)] [(6, Cont.cells 37 (dA.tys ⟨25, 35⟩))]) ?_ ?_
 ·(refine c9.mk' ?_ ?_ <;> (repeat' (first | exact aH | exact aI | refine aB ?_ (Ty.aW _) | refine aB ?_ (Ty.aF _) | refine aG rfl (Cont.aF _) ?_)))
 refine cN mixed rfl (bO rfl (bD rfl rfl rfl (gO rfl ?_)))
 apply aT (s := 66) rfl rfl rfl
 ·intro hg; apply aU; (refine bO rfl ?_); refine aD ?_; exact rfl
 ·exact rfl
 ·exact rfl
 apply aT (s := 66) rfl rfl rfl
 ·intro hg; apply aN (s := 67) rfl (by exact hg); apply aU; (refine bD rfl rfl rfl ?_); refine aD ?_; exact rfl
 ·exact rfl
 ·exact rfl
 refine eL rfl rfl (gO rfl ?_)
 apply aT (s := 70) rfl rfl rfl
 ·intro hg; apply aU; (refine bO rfl ?_); refine aD ?_; exact rfl
 ·exact rfl
 ·exact rfl
 apply aT (s := 70) rfl rfl rfl
 ·intro hg; apply aN (s := 71) rfl (by exact hg); apply aU; (refine bD rfl rfl rfl ?_); refine aD ?_; exact rfl
 ·exact rfl
 ·exact rfl
 refine eL rfl rfl (gO rfl ?_)
 apply aT (s := 74) rfl rfl rfl
 ·intro hg; apply aU; (refine bO rfl ?_); refine aD ?_; exact rfl
 ·exact rfl
 ·exact rfl
 apply aT (s := 74) rfl rfl rfl
 ·intro hg; apply aN (s := 75) rfl (by exact hg); apply aU; (refine bD rfl rfl rfl ?_); refine aD ?_; exact rfl
 ·exact rfl
 ·exact rfl
 refine eL rfl rfl (gO rfl ?_)
 apply aT (s := 78) rfl rfl rfl
 ·intro hg; apply aU; (refine bO rfl ?_); refine aD ?_; exact rfl
 ·exact rfl
 ·exact rfl
 apply aT (s := 78) rfl rfl rfl
 ·intro hg; apply aN (s := 79) rfl (by exact hg); apply aU; (refine bD rfl rfl rfl ?_); refine aD ?_; exact rfl
 ·exact rfl
 ·exact rfl
 refine eL rfl rfl (gO rfl ?_)
 apply aT (s := 82) rfl rfl rfl
 ·intro hg; apply aU; (refine bO rfl ?_); refine aD ?_; exact rfl
 ·exact rfl
 ·exact rfl
 apply aT (s := 82) rfl rfl rfl
 ·intro hg; apply aN (s := 83) rfl (by exact hg); apply aU; (refine bD rfl rfl rfl ?_); refine aD ?_; exact rfl
 ·exact rfl
 ·exact rfl
 refine eL rfl rfl (gO rfl ?_)
 apply aT (s := 86) rfl rfl rfl
 ·intro hg; apply aU; (refine bO rfl ?_); refine aD ?_; exact rfl
 ·exact rfl
 ·exact rfl
 apply aT (s := 86) rfl rfl rfl
 ·intro hg; apply aN (s := 87) rfl (by exact hg); apply aU; (refine bD rfl rfl rfl ?_); refine aD ?_; exact rfl
 ·exact rfl
 ·exact rfl
 refine eL rfl rfl (gO rfl ?_)
 apply aT (s := 90) rfl rfl rfl
 ·intro hg; apply aU; (refine bO rfl ?_); refine aD ?_; exact rfl
 ·exact rfl
 ·exact rfl
 apply aT (s := 90) rfl rfl rfl
 ·intro hg; apply aN (s := 91) rfl (by exact hg); apply aU; (refine bD rfl rfl rfl ?_); refine aD ?_; exact rfl
 ·exact rfl
 ·exact rfl
 refine eL rfl rfl (gO rfl ?_)
 apply aT (s := 94) rfl rfl rfl
 ·intro hg; apply aU; (refine gC rfl ?_); refine aD ?_; exact rfl
 ·exact rfl
 ·exact rfl
 apply aT (s := 94) rfl rfl rfl
 ·intro hg; apply aU; (refine ay (iW _ _) rfl rfl rfl rfl rfl ?_); refine aD ?_; exact rfl
 ·exact rfl
 ·exact rfl
 apply aT (s := 94) rfl rfl rfl
 ·intro hg; apply aU; (refine ay (iW _ _) rfl rfl rfl rfl rfl ?_); refine aD ?_; exact rfl
 ·exact rfl
 ·exact rfl
 apply aT (s := 94) rfl rfl rfl
 ·intro hg; apply aU; (refine ay (iW _ _) rfl rfl rfl rfl rfl ?_); refine aD ?_; exact rfl
 ·exact rfl
 ·exact rfl
 apply aT (s := 94) rfl rfl rfl
 ·intro hg; apply aN (s := 96) rfl (by exact hg); apply aN (s := 97) rfl (by exact hg); apply aN (s := 98) rfl (by exact hg); apply aU; (refine bp (E := dA) (xs := [⟨20, 30⟩, ⟨60, 90⟩, ⟨20, 80⟩]) rfl rfl rfl rfl rfl (by decide) (by decide) (by repeat (first | exact (aY.nil : aY _ _ [] _) | (show aY _ _ ((_, _) :: _) _; apply aY.agg; (· exact (rfl : _ = Ty.agg _))))) (by exact rfl) rfl ?_); refine aD ?_; exact rfl
 ·exact rfl
 ·exact rfl
 apply aT (s := 94) rfl rfl rfl
 ·intro hg; apply aN (s := 95) rfl (by exact hg); apply aN (s := 99) rfl (by exact hg); apply aU; (refine ay (Ao _ _) rfl rfl rfl rfl rfl ?_); refine aD ?_; exact rfl
 ·exact rfl
 ·exact rfl
 refine eL rfl rfl (gO rfl ?_)
 apply aT (s := 102) rfl rfl rfl
 ·intro hg; apply aU; (refine gC rfl ?_); refine aD ?_; exact rfl
 ·exact rfl
 ·exact rfl
 apply aT (s := 102) rfl rfl rfl
 ·intro hg; apply aU; (refine ay (iW _ _) rfl rfl rfl rfl rfl ?_); refine aD ?_; exact rfl
 ·exact rfl
 ·exact rfl
 apply aT (s := 102) rfl rfl rfl
 ·intro hg; apply aU; (refine ay (iW _ _) rfl rfl rfl rfl rfl ?_); refine aD ?_; exact rfl
 ·exact rfl
 ·exact rfl
 apply aT (s := 102) rfl rfl rfl
 ·intro hg; apply aU; (refine ay (iW _ _) rfl rfl rfl rfl rfl ?_); refine aD ?_; exact rfl
 ·exact rfl
 ·exact rfl
 apply aT (s := 102) rfl rfl rfl
 ·intro hg; apply aN (s := 104) rfl (by exact hg); apply aN (s := 105) rfl (by exact hg); apply aN (s := 106) rfl (by exact hg); apply aU; (refine bp (E := dA) (xs := [⟨20, 30⟩, ⟨60, 90⟩, ⟨50, 85⟩]) rfl rfl rfl rfl rfl (by decide) (by decide) (by repeat (first | exact (aY.nil : aY _ _ [] _) | (show aY _ _ ((_, _) :: _) _; apply aY.agg; (· exact (rfl : _ = Ty.agg _))))) (by exact rfl) rfl ?_); refine aD ?_; exact rfl
 ·exact rfl
 ·exact rfl
 apply aT (s := 102) rfl rfl rfl
 ·intro hg; apply aN (s := 103) rfl (by exact hg); apply aN (s := 107) rfl (by exact hg); apply aU; (refine ay (Ao _ _) rfl rfl rfl rfl rfl ?_); refine aD ?_; exact rfl
 ·exact rfl
 ·exact rfl
 refine eL rfl rfl (gO rfl ?_)
 apply aT (s := 110) rfl rfl rfl
 ·intro hg; apply aU; (refine bT rfl rfl (by decide) rfl rfl (by exact Nat.le_of_ble_eq_true rfl) ?_); refine aD ?_; exact rfl
 ·exact rfl
 ·exact rfl
 apply aT (s := 110) rfl rfl rfl
 ·intro hg; apply aU; (refine ay (iW _ _) rfl rfl rfl rfl rfl ?_); refine aD ?_; exact rfl
 ·exact rfl
 ·exact rfl
 apply aT (s := 110) rfl rfl rfl
 ·intro hg; apply aN (s := 111) rfl (by exact hg); apply aN (s := 112) rfl (by exact hg); apply aU; (refine I4 (Dq _ _ _ _) rfl rfl ?_); refine aD ?_; exact rfl
 ·exact rfl
 ·exact rfl
 refine eL rfl rfl (gO rfl ?_)
 apply aT (s := 115) rfl rfl rfl
 ·intro hg; apply aU; (refine bO rfl ?_); refine aD ?_; exact rfl
 ·exact rfl
 ·exact rfl
 apply aT (s := 115) rfl rfl rfl
 ·intro hg; apply aN (s := 116) rfl (by exact hg); apply aU; (refine bD rfl rfl rfl ?_); refine aD ?_; exact rfl
 ·exact rfl
 ·exact rfl
 refine eL rfl rfl (gO rfl ?_)
 apply aT (s := 119) rfl rfl rfl
 ·intro hg; apply aU; (refine bO rfl ?_); refine aD ?_; exact rfl
 ·exact rfl
 ·exact rfl
 apply aT (s := 119) rfl rfl rfl
 ·intro hg; apply aN (s := 120) rfl (by exact hg); apply aU; (refine bD rfl rfl rfl ?_); refine aD ?_; exact rfl
 ·exact rfl
 ·exact rfl
 refine eL rfl rfl (gO rfl ?_)
 apply aT (s := 123) rfl rfl rfl
 ·intro hg; apply aU; (refine gC rfl ?_); refine aD ?_; exact rfl
 ·exact rfl
 ·exact rfl
 apply aT (s := 123) rfl rfl rfl
 ·intro hg; apply aU; (refine bp (E := cj) (xs := [0, 1]) rfl rfl rfl rfl rfl (by decide) (by decide) (by repeat (first | exact (aY.nil : aY _ _ [] _) | (show aY _ _ ((_, _) :: _) _; apply aY.one; (· exact (rfl : _ = Ty.int _ _)); (· exact rfl)))) (by exact rfl) rfl ?_); refine aD ?_; exact rfl
 ·exact rfl
 ·exact rfl
 apply aT (s := 123) rfl rfl rfl
 ·intro hg; apply aN (s := 124) rfl (by exact hg); apply aN (s := 125) rfl (by exact hg); apply aU; (refine ay (Ae _ _) rfl rfl rfl rfl rfl ?_); refine aD ?_; exact rfl
 ·exact rfl
 ·exact rfl
 refine eL rfl rfl (gO rfl ?_)
 apply aT (s := 128) rfl rfl rfl
 ·intro hg; apply aU; (refine gC rfl ?_); refine aD ?_; exact rfl
 ·exact rfl
 ·exact rfl
 apply aT (s := 128) rfl rfl rfl
 ·intro hg; apply aU; (refine bp (E := cj) (xs := [0]) rfl rfl rfl rfl rfl (by decide) (by decide) (by repeat (first | exact (aY.nil : aY _ _ [] _) | (show aY _ _ ((_, _) :: _) _; apply aY.one; (· exact (rfl : _ = Ty.int _ _)); (· exact rfl)))) (by exact rfl) rfl ?_); refine aD ?_; exact rfl
 ·exact rfl
 ·exact rfl
 apply aT (s := 128) rfl rfl rfl
 ·intro hg; apply aN (s := 129) rfl (by exact hg); apply aN (s := 130) rfl (by exact hg); apply aU; (refine ay (Ae _ _) rfl rfl rfl rfl rfl ?_); refine aD ?_; exact rfl
 ·exact rfl
 ·exact rfl
 refine eL rfl rfl (dZ rfl (aD ?_))
 refine ⟨by kernel_rfl, ?_⟩
 refine aC (bC (bl rfl rfl ?_))
 all_goals exact cI rfl rfl
 all_goals trace_state
end Go.Proofs.YtelbollidfdcjaaGreat
namespace Go.Proofs.YtelbollidfdcjaaGreat
open Go Go.T
set_option maxHeartbeats 2000000
attribute [local irreducible] iw fu nh ru jS jR jO jN jQ rZ jL rj eO gy rY g9 rX nth fT dg aq eA bodyPost Exit.then Exit.inBlock Code.wp Code.wpIn rm jU rq rW jP eT ct cx bodyPostM eU
set_option maxRecDepth 100000 in
theorem Ez (s : Sk) (h : s.Ok 1) : eT Tryz.prog 139 [1000] [(1000, Cont.cells 149 (dK s))] [Ty.ptr 1000 0] [(1000, Cont.cells 149 (dK (aZ s)))] (Ty.int .i64 (lP (aZ s))) := by
 refine dj Tryz.func139 rfl (by decide) Tryz.ntmps139 (by exact Nat.le_of_ble_eq_true rfl) fun w0 M0 => ?_
 have h0 : 0 ≤ s.taken ∧ s.taken + 1 ≤ 4611686018427387904 := h
 refine aE (aA (cF rfl (aD (aC ?_))))
 refine j9 (J := live [(0, Ty.ptr 1000 0)] [(1000, Cont.cells 149 (dK (hU s)))]) ?_ ?_
 ·
  refine aE (aA (qH rfl (cJ rfl ?_)))
  refine aK rfl rfl rfl rfl rfl (by decide) ?_
  refine aP rfl rfl (by decide) rfl rfl rfl ?_
  refine cz rfl rfl rfl (cF rfl (aD (aC (aE (aA (bO rfl (bD rfl rfl rfl (aD (aC ?_)))))))))
  refine av rfl (fun hc1 => ?_) (fun hc1 => ?_)
  ·
   have hm := I3 (a := s.taken) (b := s.grain.length) h0.1 (by omega)
   refine cN mixed rfl (qH rfl (qH rfl (cJ rfl ?_)))
   refine aK rfl rfl rfl rfl rfl (by decide) ?_
   refine aP rfl rfl (by decide) rfl rfl rfl ?_
   refine qH rfl (cJ rfl ?_)
   refine aK rfl rfl rfl rfl rfl (by decide) ?_
   refine aP rfl rfl (by decide) rfl rfl rfl ?_
   refine qH rfl (cJ rfl ?_)
   refine aK rfl rfl rfl rfl rfl (by decide) ?_
   refine aP rfl rfl (by decide) rfl rfl rfl ?_
   refine bO rfl ?_
   refine Jv rfl rfl (by omega) ?_
   refine iT rfl rfl rfl rfl rfl rfl (by omega) (by omega) ?_
   refine aM rfl rfl rfl rfl (Ce rfl rfl rfl rfl (bD rfl rfl rfl (bD rfl rfl rfl (cJ rfl ?_))))
   refine aK rfl rfl rfl rfl rfl (by decide) ?_
   refine cZ rfl rfl (by decide) rfl rfl (by exact (rfl : _ = Ty.int _ _)) rfl (by exact Nat.le_of_ble_eq_true rfl) rfl rfl (by exact rfl) ?_
   refine aD ?_
   refine ⟨by kernel_rfl, ?_⟩
   refine fJ ?_
   (refine c9.mk' ?_ ?_ <;> (repeat' (first | exact aH | exact aI | exact c7 | refine aB ?_ (Ty.aW _) | refine aB ?_ (Ty.aF _) | refine aG rfl (Cont.c6 ?_) ?_ | refine bS ?_ ?_)))
   all_goals first | exact Ty.ah (congrArg Sk.mixed (Cd hc1).symm) | exact Ty.ah (kP s).symm | exact Ty.fG (q9 s).symm
  refine aj (fJ ?_)
  (refine c9.mk' ?_ ?_ <;> (repeat' (first | exact aH | exact aI | exact c7 | refine aB ?_ (Ty.aW _) | refine aB ?_ (Ty.aF _) | refine aG rfl (Cont.c6 ?_) ?_ | refine bS ?_ ?_)))
  all_goals first | exact Ty.ah (congrArg Sk.mixed (CS hc1).symm) | exact Ty.ah (kP s).symm | exact Ty.fG (q9 s).symm
 refine aE ?_
 have h1 := kP s
 refine aA (qH rfl (cJ rfl ?_))
 refine aK rfl rfl rfl rfl rfl (by decide) ?_
 refine aP rfl rfl (by decide) rfl rfl rfl ?_
 refine bg rfl rfl (by omega) (by omega) ?_
 refine cJ rfl ?_
 refine aK rfl rfl rfl rfl rfl (by decide) ?_
 refine cZ rfl rfl (by decide) rfl rfl (by exact (rfl : _ = Ty.int _ _)) rfl (by exact Nat.le_of_ble_eq_true rfl) rfl rfl (by exact rfl) ?_
 refine aD (aC ?_)
 refine j9 (J := live [(0, Ty.ptr 1000 0)] [(1000, Cont.cells 149 (dK (aZ s)))]) ?_ ?_
 ·
  refine aE (cN mixed rfl (qH rfl (cJ rfl ?_)))
  refine aK rfl rfl rfl rfl rfl (by decide) ?_
  refine aP rfl rfl (by decide) rfl rfl rfl ?_
  refine qH rfl (cJ rfl ?_)
  refine aK rfl rfl rfl rfl rfl (by decide) ?_
  refine aP rfl rfl (by decide) rfl rfl rfl ?_
  refine cz rfl rfl rfl (bD rfl rfl rfl (aD ?_))
  refine ⟨by kernel_rfl, ?_⟩
  refine aC ?_
  refine av rfl (fun hc2 => ?_) (fun hc2 => ?_)
  ·
   refine aA (qH rfl (qH rfl (cJ rfl ?_)))
   refine aK rfl rfl rfl rfl rfl (by decide) ?_
   refine aP rfl rfl (by decide) rfl rfl rfl ?_
   refine bD rfl rfl rfl (bD rfl rfl rfl (cJ rfl ?_))
   refine aK rfl rfl rfl rfl rfl (by decide) ?_
   refine cZ rfl rfl (by decide) rfl rfl (by exact (rfl : _ = Ty.int _ _)) rfl (by exact Nat.le_of_ble_eq_true rfl) rfl rfl (by exact rfl) ?_
   refine aD (fJ ?_)
   (refine c9.mk' ?_ ?_ <;> (repeat' (first | exact aH | exact aI | exact c7 | refine aB ?_ (Ty.aW _) | refine aB ?_ (Ty.aF _) | refine aG rfl (Cont.c6 ?_) ?_ | refine bS ?_ ?_)))
   all_goals first | exact Ty.ah (congrArg Sk.mixed (CP (s := nx (hU s)) hc2).symm) | exact Ty.ah (mj (nx (hU s))).symm | exact Ty.fG (qy (nx (hU s))).symm
  refine aj (fJ ?_)
  (refine c9.mk' ?_ ?_ <;> (repeat' (first | exact aH | exact aI | exact c7 | refine aB ?_ (Ty.aW _) | refine aB ?_ (Ty.aF _) | refine aG rfl (Cont.c6 ?_) ?_ | refine bS ?_ ?_)))
  all_goals first | exact Ty.ah (B5 hc2) | exact Ty.ah (mj (nx (hU s))).symm | exact Ty.fG (qy (nx (hU s))).symm
 refine aE (cN mixed rfl (qH rfl (cJ rfl ?_)))
 refine aK rfl rfl rfl rfl rfl (by decide) ?_
 refine aP rfl rfl (by decide) rfl rfl rfl ?_
 refine qH rfl (cJ rfl ?_)
 refine aK rfl rfl rfl rfl rfl (by decide) ?_
 refine aP rfl rfl (by decide) rfl rfl rfl ?_
 refine J7 rfl rfl (by omega) (by decide) ?_
 refine bD rfl rfl rfl ?_
 refine J7 rfl rfl (by omega) (by decide) ?_
 refine bD rfl rfl rfl (Ce rfl rfl rfl rfl (cF rfl (aD ?_)))
 refine ⟨by kernel_rfl, ?_⟩
 refine aC (bC ?_)
 refine fm [1000] rfl rfl (by decide) (by repeat (first | exact fB | refine eD rfl (bH (by decide) rfl rfl rfl) ?_)) ?_
 all_goals exact fQ (aO rfl rfl)
 all_goals exact fQ (nS rfl rfl rfl)
set_option maxRecDepth 100000 in
theorem jE (s : Sk) (h : s.Ok 1) (n : Int) : eT Tryz.prog 64 [1000] [(1000, Cont.cells 149 (dK s))] [Ty.ptr 1000 0, Ty.int .i64 n] [(1000, Cont.cells 149 (dK (aZ s)))] (Ty.int .i64 (bf s n)) := by
 refine dj Tryz.func64 rfl (by decide) Tryz.ntmps64 (by exact Nat.le_of_ble_eq_true rfl) fun w0 M0 => ?_
 refine aE (aA (cF rfl (aD (aC (aE (aA (qH rfl ?_)))))))
 refine cD [(1000, 1000)] [] [(1000, Cont.cells 149 (dK (aZ s)))] (Ez s h) rfl rfl (by repeat (first | exact bK | refine aJ ?_ ?_ | exact dr List.mem_cons_self)) (cC (a := 1000) (b := 1000) (by exact List.mem_cons_self) rfl (bH (by exact List.mem_cons_self) rfl rfl rfl) pre_nil) (bL (a := 1000) (b := 1000) (by exact List.mem_cons_self) rfl (bH (by exact List.mem_cons_self) rfl rfl rfl) post_nil) (aO rfl rfl) ?_
 refine bO rfl (tJ rfl rfl ?_)
 refine Jv rfl rfl (by omega) ?_
 refine cF rfl (aD (aC (bC ?_)))
 refine fm [1000] rfl rfl (by decide) (by repeat (first | exact fB | refine eD rfl (bH (by decide) rfl rfl rfl) ?_)) ?_
 all_goals exact fQ (aO rfl rfl)
set_option maxRecDepth 100000 in
theorem ud (s : Sk) (h : s.Ok 1) (lo hi : Int) (hlo : -1000000 ≤ lo ∧ lo ≤ 1000000) (hhi : -1000000 ≤ hi ∧ hi ≤ 1000000) : eT Tryz.prog 81 [1000] [(1000, Cont.cells 149 (dK s))] [Ty.ptr 1000 0, Ty.int .i64 lo, Ty.int .i64 hi] [(1000, Cont.cells 149 (dK (aZ s)))] (Ty.int .i64 (iQ s lo hi)) := by
 refine dj Tryz.func81 rfl (by decide) Tryz.ntmps81 (by exact Nat.le_of_ble_eq_true rfl) fun w0 M0 => ?_
 have hb := cq s (hi - lo + 1)
 refine aE (aA (cF rfl (aD (aC (aE (aA (bO rfl (qH rfl (bO rfl ?_)))))))))
 refine bO rfl ?_
 refine fU rfl rfl (by omega) (by omega) ?_
 refine bg rfl rfl (by omega) (by omega) ?_
 refine cD [(1000, 1000)] [] [(1000, Cont.cells 149 (dK (aZ s)))] (jE s h _) rfl rfl (by repeat (first | exact bK | refine aJ ?_ ?_ | exact dr List.mem_cons_self | exact aO rfl rfl)) (cC (a := 1000) (b := 1000) (by exact List.mem_cons_self) rfl (bH (by exact List.mem_cons_self) rfl rfl rfl) pre_nil) (bL (a := 1000) (b := 1000) (by exact List.mem_cons_self) rfl (bH (by exact List.mem_cons_self) rfl rfl rfl) post_nil) (aO rfl rfl) ?_
 refine bg rfl rfl (by omega) (by omega) ?_
 refine cF rfl (aD (aC (bC ?_)))
 refine fm [1000] rfl rfl (by decide) (by repeat (first | exact fB | refine eD rfl (bH (by decide) rfl rfl rfl) ?_)) ?_
 all_goals exact fQ (aO rfl rfl)
set_option maxRecDepth 100000 in
theorem LL (g : List Int) : eT Tryz.prog 18 [] [] [Ty.sl U8 g] [(10, Cont.cells 149 (dK (n7 g)))] (Ty.ptr 10 0) := by
 refine dj Tryz.func18 rfl (by decide) Tryz.ntmps18 (by exact Nat.le_of_ble_eq_true rfl) fun w0 M0 => ?_
 refine aE (aA (mI rfl (aD (aC (aE ?_)))))
 skip
 refine aA (gC rfl (gC rfl (cz rfl rfl rfl (Ce rfl rfl rfl rfl (bD rfl rfl rfl ?_)))))
 refine dD rfl rfl (by exact List.cons_ne_nil _ _) rfl (by repeat (first | exact (aY.nil : aY _ _ [] _) | (show aY _ _ ((_, _) :: _) _; apply aY.one; (· first | exact (rfl : _ = Ty.int _ _) | exact (rfl : _ = Ty.sl _ _)); (· exact rfl)))) (by exact (rfl : _ = some [_, _, _])) ?_
 refine sL rfl rfl rfl (M6 rfl (aD (aC (bC ?_))))
 refine fm [10] rfl rfl (by decide) (by repeat (first | exact fB | refine eD rfl (bH (by decide) rfl rfl rfl) ?_)) ?_
 all_goals skip
 exact fQ (dr (by exact List.mem_cons_self))
end Go.Proofs.YtelbollidfdcjaaGreat
namespace Go.Proofs.YtelbollidfdcjaaGreat
open Go Go.T
set_option maxHeartbeats 4000000
def oS (n : Int) (s : Span) : Bool := decide (s.lo ≤ n) && decide (n ≤ s.hi)
structure ID (y : bB) (a : eK) : Prop where
  len : y.moves.length ≤ a.b8.length
  nk : a.b8.length ≤ 1000
  first : ∀ x ∈ a.first, -1000 ≤ x ∧ x ≤ 1000
  b8 : ∀ x ∈ a.b8, -1000 ≤ x ∧ x ≤ 1000
theorem ID.up {y : bB} {a : eK} (h : ID y a) {bin time : Int} (hb : bin.toNat < a.first.length) {k : Nat} (hk : k ≤ y.moves.length) : -3000000 ≤ dm y a bin time k ∧ dm y a bin time k ≤ 3000000 := by
 have h1 := h.len
 have h2 := h.nk
 have := HV (y := y) (bin := bin) (time := time) (B := 1000) (by omega) h.first h.b8 hb k (by omega)
 omega
attribute [local irreducible] iw fu nh ru jS jR jO jN jQ rZ jL rj eO gy rY g9 rX nth fT dg aq eA bodyPost Exit.then Exit.inBlock Code.wp Code.wpIn rm jU rq rW jP eT ct cx bodyPostM eU
set_option maxRecDepth 100000 in
theorem gV (y : bB) (a : eK) (ha : ID y a) (bin time : Int) (h0 : 0 ≤ bin) (h1 : bin.toNat < a.first.length) : eA Tryz.prog 25 [fK y, pR a, Ty.int .i64 bin, Ty.int .i64 time] (Ty.int .i64 (cX y a bin time)) := by
 refine az Tryz.func25 rfl (by decide) Tryz.ntmps25 (by exact Nat.le_of_ble_eq_true rfl) fun w0 M0 => ?_
 have hl1 := ha.len
 have hl2 := ha.nk
 refine aE (aA (bM rfl (bM rfl (cF rfl (aD (aC (aE (aA ?_))))))))
 refine aS rfl rfl rfl rfl rfl (by decide) ?_
 refine aM rfl rfl rfl rfl (bO rfl (iT rfl rfl rfl rfl rfl rfl h0 h1 (aM rfl rfl rfl rfl (cF rfl (aD (aC (aE (aE (aA ?_)))))))))
 refine aS rfl rfl rfl rfl rfl (by decide) ?_
 refine aM rfl rfl rfl rfl (cz rfl rfl rfl (bO rfl (aD (aC (ak ?_)))))
 refine cV (fun (k : {k : Nat // k ≤ y.moves.length}) => live [(2, Ty.int .i64 bin), (3, Ty.int .i64 time), (4, Ty.pp (bk y)), (5, Ty.pp (fD a)), (9, Ty.int .i64 (dm y a bin time k.1)), (18, Ty.sl dN y.moves), (19, Ty.int .i64 y.moves.length), (20, Ty.int .i64 (k.1 : Nat))] []) (fun k => y.moves.length - k.1) (⟨0, by omega⟩) ?_ fun k => ?_
 ·(refine c9.mk' ?_ ?_ <;> (repeat' (first | exact aH | exact aI | refine aB ?_ (Ty.aW _) | refine aB ?_ (Ty.aF _))))
 have hk := k.2
 have hu := ha.up (time := time) h1 hk
 refine aE (aA (bD rfl rfl rfl (aD (aC (aE ?_)))))
 refine av rfl (fun hc1 => ?_) (fun hc1 => ?_)
 ·
  refine aj (aC (aE (ak (aE (aA (bO rfl ?_))))))
  refine bN rfl rfl rfl rfl rfl rfl (by omega) ?_
  refine aa rfl rfl rfl (by exact Nat.le_of_ble_eq_true rfl) ?_
  refine bz rfl (by exact List.cons_ne_nil _ _) rfl ?_
  refine cF rfl ?_
  refine bu rfl rfl (by decide) rfl rfl rfl rfl rfl rfl ?_
  refine aD (aC (aE (aE (aA ?_))))
  refine aK rfl rfl rfl rfl rfl (by decide) ?_
  refine aP rfl rfl (by decide) rfl rfl rfl ?_
  refine bO rfl (bD rfl rfl rfl (gO rfl ?_))
  apply aT (s := 29) rfl rfl rfl
  ·intro hg; apply aU; (refine aK rfl rfl rfl rfl rfl (by decide) ?_); refine aD ?_; exact rfl
  ·exact rfl
  ·exact rfl
  apply aT (s := 29) rfl rfl rfl
  ·intro hg; apply aN (s := 30) rfl (by (rw [hg]; rfl)); apply aU; (refine aP rfl rfl (by decide) rfl rfl rfl ?_); refine aD ?_; exact rfl
  ·exact rfl
  ·exact rfl
  apply aT (s := 29) rfl rfl rfl
  ·intro hg; apply aU; (refine bO rfl ?_); refine aD ?_; exact rfl
  ·exact rfl
  ·exact rfl
  apply aT (s := 29) rfl rfl rfl
  ·intro hg; apply aN (s := 31) rfl (by (rw [hg]; rfl)); apply aN (s := 32) rfl (by (rw [hg]; rfl)); apply aU; (refine bD rfl rfl rfl ?_); refine aD ?_; exact rfl
  ·exact rfl
  ·exact rfl
  refine eL rfl rfl (aD (aC ?_))
  refine cW rfl (fun hc2 => ?_) (fun hc2 => ?_)
  ·
   have hm1 := ha.b8 _ (cM (show k.1 < a.b8.length by omega))
   refine aA (bO rfl ?_)
   refine aS rfl rfl rfl rfl rfl (by decide) ?_
   refine aM rfl rfl rfl rfl (bO rfl ?_)
   refine bN rfl rfl rfl rfl rfl rfl (by omega) ?_
   refine aM rfl rfl rfl rfl ?_
   refine bg rfl rfl (by omega) (by omega) ?_
   refine cF rfl (aD (aC (aE (aA ?_))))
   refine aK rfl rfl rfl rfl rfl (by decide) ?_
   refine aP rfl rfl (by decide) rfl rfl rfl ?_
   refine bO rfl (bD rfl rfl rfl (gO rfl ?_))
   apply aT (s := 46) rfl rfl rfl
   ·intro hg; apply aU; (refine aK rfl rfl rfl rfl rfl (by decide) ?_); refine aD ?_; exact rfl
   ·exact rfl
   ·exact rfl
   apply aT (s := 46) rfl rfl rfl
   ·intro hg; apply aN (s := 47) rfl (by (rw [hg]; rfl)); apply aU; (refine aP rfl rfl (by decide) rfl rfl rfl ?_); refine aD ?_; exact rfl
   ·exact rfl
   ·exact rfl
   apply aT (s := 46) rfl rfl rfl
   ·intro hg; apply aU; (refine bO rfl ?_); refine aD ?_; exact rfl
   ·exact rfl
   ·exact rfl
   apply aT (s := 46) rfl rfl rfl
   ·intro hg; apply aN (s := 48) rfl (by (rw [hg]; rfl)); apply aN (s := 49) rfl (by (rw [hg]; rfl)); apply aU; (refine bD rfl rfl rfl ?_); refine aD ?_; exact rfl
   ·exact rfl
   ·exact rfl
   refine eL rfl rfl (aD (aC ?_))
   refine cW rfl (fun hc3 => ?_) (fun hc3 => ?_)
   ·
    have hm2 := ha.b8 _ (cM (show k.1 < a.b8.length by omega))
    refine aA (bO rfl ?_)
    refine aS rfl rfl rfl rfl rfl (by decide) ?_
    refine aM rfl rfl rfl rfl (bO rfl ?_)
    refine bN rfl rfl rfl rfl rfl rfl (by omega) ?_
    refine aM rfl rfl rfl rfl ?_
    refine fU rfl rfl (by omega) (by omega) ?_
    refine cF rfl (aD (bQ (aC (aA ?_))))
    refine bg rfl rfl (by omega) (by omega) ?_
    refine bO rfl (aD ?_)
    refine bV (⟨k.1 + 1, by omega⟩) ?_ (by show y.moves.length - (k.1 + 1) < y.moves.length - k.1; omega)
    (refine c9.mk' ?_ ?_ <;> (repeat' (first | exact aH | exact aI | refine aB ?_ (Ty.aW _) | refine aB ?_ (Ty.aF _) | refine aB ?_ ?_)))
    all_goals skip
    all_goals exact Ty.ah (Lg hc2 hc3)
   refine aj (bQ (aC (aA ?_)))
   refine bg rfl rfl (by omega) (by omega) ?_
   refine bO rfl (aD ?_)
   refine bV (⟨k.1 + 1, by omega⟩) ?_ (by show y.moves.length - (k.1 + 1) < y.moves.length - k.1; omega)
   (refine c9.mk' ?_ ?_ <;> (repeat' (first | exact aH | exact aI | refine aB ?_ (Ty.aW _) | refine aB ?_ (Ty.aF _) | refine aB ?_ ?_)))
   all_goals skip
   all_goals exact Ty.ah (MD hc2 hc3)
  refine aj (aC (aE (aA ?_)))
  refine aK rfl rfl rfl rfl rfl (by decide) ?_
  refine aP rfl rfl (by decide) rfl rfl rfl ?_
  refine bO rfl (bD rfl rfl rfl (gO rfl ?_))
  apply aT (s := 46) rfl rfl rfl
  ·intro hg; apply aU; (refine aK rfl rfl rfl rfl rfl (by decide) ?_); refine aD ?_; exact rfl
  ·exact rfl
  ·exact rfl
  apply aT (s := 46) rfl rfl rfl
  ·intro hg; apply aN (s := 47) rfl (by (rw [hg]; rfl)); apply aU; (refine aP rfl rfl (by decide) rfl rfl rfl ?_); refine aD ?_; exact rfl
  ·exact rfl
  ·exact rfl
  apply aT (s := 46) rfl rfl rfl
  ·intro hg; apply aU; (refine bO rfl ?_); refine aD ?_; exact rfl
  ·exact rfl
  ·exact rfl
  apply aT (s := 46) rfl rfl rfl
  ·intro hg; apply aN (s := 48) rfl (by (rw [hg]; rfl)); apply aN (s := 49) rfl (by (rw [hg]; rfl)); apply aU; (refine bD rfl rfl rfl ?_); refine aD ?_; exact rfl
  ·exact rfl
  ·exact rfl
  refine eL rfl rfl (aD (aC ?_))
  refine cW rfl (fun hc4 => ?_) (fun hc4 => ?_)
  ·
   have hm2 := ha.b8 _ (cM (show k.1 < a.b8.length by omega))
   refine aA (bO rfl ?_)
   refine aS rfl rfl rfl rfl rfl (by decide) ?_
   refine aM rfl rfl rfl rfl (bO rfl ?_)
   refine bN rfl rfl rfl rfl rfl rfl (by omega) ?_
   refine aM rfl rfl rfl rfl ?_
   refine fU rfl rfl (by omega) (by omega) ?_
   refine cF rfl (aD (bQ (aC (aA ?_))))
   refine bg rfl rfl (by omega) (by omega) ?_
   refine bO rfl (aD ?_)
   refine bV (⟨k.1 + 1, by omega⟩) ?_ (by show y.moves.length - (k.1 + 1) < y.moves.length - k.1; omega)
   (refine c9.mk' ?_ ?_ <;> (repeat' (first | exact aH | exact aI | refine aB ?_ (Ty.aW _) | refine aB ?_ (Ty.aF _) | refine aB ?_ ?_)))
   all_goals skip
   all_goals exact Ty.ah (LV hc2 hc4)
  refine aj (bQ (aC (aA ?_)))
  refine bg rfl rfl (by omega) (by omega) ?_
  refine bO rfl (aD ?_)
  refine bV (⟨k.1 + 1, by omega⟩) ?_ (by show y.moves.length - (k.1 + 1) < y.moves.length - k.1; omega)
  (refine c9.mk' ?_ ?_ <;> (repeat' (first | exact aH | exact aI | refine aB ?_ (Ty.aW _) | refine aB ?_ (Ty.aF _) | refine aB ?_ ?_)))
  all_goals skip
  all_goals exact Ty.ah (L0 hc2 hc4)
 refine cQ (aR (aR (au rfl (aC (aE (aA (bO rfl (cF rfl (aD ?_)))))))))
 refine aC (bC (bl rfl rfl ?_))
 all_goals skip
 all_goals exact bE rfl rfl (congrArg (Ty.int .i64) (by unfold cX; rw [show k.1 = y.moves.length by have := k.2; omega]))
set_option maxRecDepth 100000 in
theorem oB (n : Int) (s : Span) : eA Tryz.prog 26 [Ty.int .i64 n, Ty.agg (dA.tys s)] (Ty.bool (oS n s)) := by
 refine az Tryz.func26 rfl (by decide) Tryz.ntmps26 (by exact Nat.le_of_ble_eq_true rfl) fun w0 M0 => ?_
 refine aE (aA (bM rfl (dZ rfl (aD (aC (aE (aA ?_)))))))
 refine aS rfl rfl rfl rfl rfl (by decide) ?_
 refine aM rfl rfl rfl rfl (bO rfl (bD rfl rfl rfl (gO rfl ?_)))
 apply aT (s := 9) rfl rfl rfl
 ·intro hg; apply aU; (refine bO rfl ?_); refine aD ?_; exact rfl
 ·exact rfl
 ·exact rfl
 apply aT (s := 9) rfl rfl rfl
 ·intro hg; apply aU; (refine aS rfl rfl rfl rfl rfl (by decide) ?_); refine aD ?_; exact rfl
 ·exact rfl
 ·exact rfl
 apply aT (s := 9) rfl rfl rfl
 ·intro hg; apply aN (s := 11) rfl (by (rw [hg]; rfl)); apply aU; (refine aM rfl rfl rfl rfl ?_); refine aD ?_; exact rfl
 ·exact rfl
 ·exact rfl
 apply aT (s := 9) rfl rfl rfl
 ·intro hg; apply aN (s := 10) rfl (by (rw [hg]; rfl)); apply aN (s := 12) rfl (by (rw [hg]; rfl)); apply aU; (refine bD rfl rfl rfl ?_); refine aD ?_; exact rfl
 ·exact rfl
 ·exact rfl
 refine eL rfl rfl (dZ rfl (aD (aC (bC (bl rfl rfl ?_)))))
 all_goals exact cI rfl rfl
set_option maxRecDepth 100000 in
theorem CD (s : Sk) (h : s.Ok 2) (n w : Int) (hn : -1000000 ≤ n ∧ n ≤ 1000000) (hw : 0 ≤ w ∧ w ≤ 1000) : eT Tryz.prog 82 [1000] [(1000, Cont.cells 149 (dK s))] [Ty.ptr 1000 0, Ty.int .i64 n, Ty.int .i64 w] [(1000, Cont.cells 149 (dK (aZ (aZ s))))] (Ty.agg (dA.tys (gp s n w))) := by
 refine dj Tryz.func82 rfl (by decide) Tryz.ntmps82 (by exact Nat.le_of_ble_eq_true rfl) fun w0 M0 => ?_
 have h0 : 0 ≤ s.taken ∧ s.taken + 2 ≤ 4611686018427387904 := h
 have hb1 := cq s (w + 1)
 have hb2 := cq (aZ s) (w + 1)
 have ht := cY s
 refine aE (aA ?_)
 refine bz rfl (by exact List.cons_ne_nil _ _) rfl ?_
 refine aD (aC (aE (aA (bO rfl (qH rfl (bO rfl ?_))))))
 refine bg rfl rfl (by omega) (by omega) ?_
 refine cD [(1000, 1000)] [] [(1000, Cont.cells 149 (dK (aZ s)))] (jE s ⟨by omega, by omega⟩ _) rfl rfl (by repeat (first | exact bK | refine aJ ?_ ?_ | exact dr List.mem_cons_self | exact aO rfl rfl)) (cC (a := 1000) (b := 1000) (by exact List.mem_cons_self) rfl (bH (by exact List.mem_cons_self) rfl rfl rfl) pre_nil) (bL (a := 1000) (b := 1000) (by exact List.mem_cons_self) rfl (bH (by exact List.mem_cons_self) rfl rfl rfl) post_nil) (aO rfl rfl) ?_
 refine fU rfl rfl (by omega) (by omega) ?_
 refine tJ rfl rfl (bO rfl (qH rfl (bO rfl ?_)))
 refine bg rfl rfl (by omega) (by omega) ?_
 refine cD [(1000, 1000)] [] [(1000, Cont.cells 149 (dK (aZ (aZ s))))] (jE (aZ s) ⟨by omega, by omega⟩ _) rfl rfl (by repeat (first | exact bK | refine aJ ?_ ?_ | exact dr List.mem_cons_self | exact aO rfl rfl)) (cC (a := 1000) (b := 1000) (by exact List.mem_cons_self) rfl (bH (by exact List.mem_cons_self) rfl rfl rfl) pre_nil) (bL (a := 1000) (b := 1000) (by exact List.mem_cons_self) rfl (bH (by exact List.mem_cons_self) rfl rfl rfl) post_nil) (aO rfl rfl) ?_
 refine bg rfl rfl (by omega) (by omega) ?_
 refine td rfl rfl (ay (iW _ _) rfl rfl rfl rfl rfl ?_)
 refine bu rfl rfl (by decide) rfl rfl rfl rfl rfl rfl ?_
 refine aD (aC (bC ?_))
 refine Dg [1000] rfl rfl rfl rfl (by decide) rfl rfl rfl (by decide) (by repeat (first | exact fB | refine eD rfl (bH (by decide) rfl rfl rfl) ?_)) ?_
 all_goals exact fQ (aO rfl rfl)
 all_goals trace_state
set_option maxRecDepth 100000 in
theorem JH (y : bB) (a : eK) (ha : ID y a) (m : Move) (hd : -1000000 ≤ m.day ∧ m.day ≤ 1000000) (h1 : m.src ≠ -1 → 0 ≤ m.src ∧ m.src.toNat < a.first.length) : eA Tryz.prog 83 [fK y, pR a, Ty.agg (dN.tys m)] (Ty.int .i64 (Ai y a m)) := by
 refine az Tryz.func83 rfl (by decide) Tryz.ntmps83 (by exact Nat.le_of_ble_eq_true rfl) fun w0 M0 => ?_
 refine aE (aA (bM rfl (bM rfl (bM rfl (cF rfl (aD (aC (aE (aE ?_)))))))))
 refine aA ?_
 refine aS rfl rfl rfl rfl rfl (by decide) ?_
 refine aM rfl rfl rfl rfl (bD rfl rfl rfl (aD (aC ?_)))
 refine av rfl (fun hc1 => ?_) (fun hc1 => ?_)
 ·
  refine aE (aA (cF rfl (aD (aC (bC (aX (bl rfl rfl ?_)))))))
  all_goals skip
  exact bE rfl rfl (congrArg (Ty.int .i64) (if_pos hc1).symm)
 refine aj (aC (aE ?_))
 have hs := h1 hc1
 refine aA ?_
 refine aa rfl rfl rfl (by exact Nat.le_of_ble_eq_true rfl) ?_
 refine aa rfl rfl rfl (by exact Nat.le_of_ble_eq_true rfl) ?_
 refine aS rfl rfl rfl rfl rfl (by decide) ?_
 refine aM rfl rfl rfl rfl ?_
 refine aS rfl rfl rfl rfl rfl (by decide) ?_
 refine aM rfl rfl rfl rfl ?_
 refine bg rfl rfl (by omega) (by omega) ?_
 refine ay (gV y a ha m.src (m.day + 1) hs.1 hs.2) rfl rfl rfl rfl rfl (cF rfl (aD (aC (bC (bl rfl rfl ?_)))))
 all_goals skip
 exact bE rfl rfl (congrArg (Ty.int .i64) (if_neg hc1).symm)
end Go.Proofs.YtelbollidfdcjaaGreat
namespace Go.T
open Go Go.RowKit
section
variable {P : Program} {fr : Fr} {ops : Array Oper} {A : As} {rest : List Oper} {K : As → List (As × Fx) → Prop} {d : Nat} {t ty' : TypeId} {p : String} {e : Array Edge} [T : kY P]
end
end Go.T
namespace Go.T
open Go Go.RowKit
section
variable {P : Program} {fr : Fr} {ops : Array Oper} {A : As} {rest : List Oper} {K : As → List (As × Fx) → Prop} {d : Nat} {t ty' : TypeId} {p : String} {e : Array Edge} [T : kY P]
end
end Go.T
namespace Go.T
open Go Go.RowKit
section
variable {P : Program} {fr : Fr} {A : As} {Q : Exit → Act → World → Prop} {c : Code}
end
section
variable {P : Program} {fr : Fr} {ops : Array Oper} {A : As} {rest : List Oper} {K : As → List (As × Fx) → Prop} {d : Nat} {t ty' : TypeId} {p : String} {e : Array Edge} [T : kY P]
end
end Go.T
namespace Go.T
open Go Go.RowKit
section
variable {P : Program} {A : As} {fn : Func} {n : Nat} {w0 : World} {M0 : bA} {F : List Nat} {post : List (Nat × Cont)} [T : kY P]
theorem yR {w : World} {M : bA} {tm ty tg Tb : Nat} {l : List Ty} {ti : TI} {tmps : Array Value} (wf : Wf w M) (htg : ∀ x ∈ A.tags, x.2.den w M x.1) (hd : (A.slots tm).den w M (tmps.getD tm undef)) (hx : A.slots tm = .ptr tg 0) (hc : A.tag tg = some (.cells Tb l)) (h1 : gA tg) (hT : T.ep[ty]? = some ti) (ha : ti.k.agg = true) (hl : l.length = ti.size) :
 ∃ b cs, tmps.getD tm undef = .pointer (some ⟨b, 0, none⟩) ∧ (loadVar ty ⟨b, 0, none⟩).run P w = .ok (.agg cs) w ∧ cL w M l cs.toList := by
 rw [hx] at hd
 obtain ⟨b, hb, e⟩ := hd
 obtain ⟨b', cs, hb', hh, hds⟩ := htg _ (cw hc)
 obtain ⟨u, rfl⟩ : ∃ u, tg = u + 1 := ⟨tg - 1, by omega⟩
 have := wf.inj b b' u (by omega) hb hb'
 subst this
 have hlen := cP hds
 have hload := gJ (P := P) hT ha (w := w) (b := b) (off := 0) (cs := cs.toList) (by rw [hlen, hl]) (fun j v hj => by simpa [World.cell?, hh] using hj)
 exact ⟨b, cs, e, by simpa [Instr.loadAt, Instr.sureAddr] using hload, hds⟩
theorem KU (L : List Nat) {tm ty tg Tb tm' ty' tg' Tb' : Nat} {l l' : List Ty} {ti ti' : TI} {r1 r2 : Ty} (hr : fn.results = #[.cell tm ty, .cell tm' ty']) (ht : Nat.blt tm n = true) (ht' : Nat.blt tm' n = true) (hx : A.slots tm = .ptr tg 0) (hc : A.tag tg = some (.cells Tb l)) (h1 : gA tg) (hT : T.ep[ty]? = some ti) (ha : ti.k.agg = true) (hl : l.length = ti.size)
 (hx' : A.slots tm' = .ptr tg' 0) (hc' : A.tag tg' = some (.cells Tb' l')) (h1' : gA tg') (hT' : T.ep[ty']? = some ti') (ha' : ti'.k.agg = true) (hl' : l'.length = ti'.size)
 (hL : ∀ t ∈ F, t ∈ L) (hp : n9 A L post) (hs : wz L (.agg l) r1) (hs2 : wz L (.agg l') r2) :
 dg ⟨n, w0, M0, F, .plain⟩ A (bodyPost P fn (ct F post w0 M0 (Ty.j3 [r1, r2])) .ret) := by
 intro a w ⟨M, ok, hsl, htg⟩
 obtain ⟨b, cs, e, hload, hds⟩ := yR ok.wf htg (hsl tm (by simpa using ht)) hx hc h1 hT ha hl
 obtain ⟨b2, cs2, e2, hload2, hds2⟩ := yR ok.wf htg (hsl tm' (by simpa using ht')) hx' hc' h1' hT' ha' hl'
 refine ⟨ok.gM (by simp), .tuple #[.agg cs, .agg cs2], ?_, _, nZ L M, rfl, nK ok.wf, mO hL ok.base, ⟨_, rfl, hs _ _ _ ok.wf ⟨cs, rfl, hds⟩, hs2 _ _ _ ok.wf ⟨cs2, rfl, hds2⟩, trivial⟩, sP ok.wf htg hp⟩
 have e' : a.tmps[tm]?.getD undef = .pointer (some ⟨b, 0, none⟩) := by rw [← Array.getD_eq_getD_getElem?]; exact e
 have e2' : a.tmps[tm']?.getD undef = .pointer (some ⟨b2, 0, none⟩) := by rw [← Array.getD_eq_getD_getElem?]; exact e2
 simp [results, hr, e', e2', asAddr, hload, hload2]
end
end Go.T
namespace Go.T
open Go Go.RowKit
section
variable {P : Program} {fr : Fr} {ops : Array Oper} {A : As} {rest : List Oper} {K : As → List (As × Fx) → Prop} {d : Nat} {t ty' : TypeId} {p : String} {e : Array Edge} [T : kY P]
theorem xe {x y : Operand} {tg Tb off : Nat} {l l' lr : List Ty} {ti : TI} (hx : A.op fr x = .ptr tg off) (hc : A.tag tg = some (.cells Tb l)) (h1 : gA tg) (hT : T.ep[ty']? = some ti) (hy : A.op fr y = .agg l') (hsz : ti.size = l'.length) (hlen : off + l'.length ≤ l.length) (ho : l'.all Ty.one = true) (hlr : l.take off ++ (l' ++ l.drop (off + l'.length)) = lr) (hdt : j7 (bh lr) [tg] = true)
 (h : aq P fr ops rest (A.after { d := none, S := [tg], sets := [(tg, .cells Tb lr)], rs := cH x ++ cH y, rt := [tg] }) fun A' l'' => K A' ((A, { d := none, S := [tg], sets := [(tg, .cells Tb lr)], rs := cH x ++ cH y, rt := [tg] }) :: l'')) :
 aq P fr ops (⟨none, .store ty' x y, t, p, e, none⟩ :: rest) A K := by
 refine ⟨_, k8 rfl rfl rfl (by simp) (by simpa using h1.1) (by simp) fun a w M wf hr ht => ?_, h⟩
 obtain ⟨hdx, hdy⟩ := op2 hr
 rw [hx] at hdx; rw [hy] at hdy
 obtain ⟨b, hb, ex⟩ := hdx
 obtain ⟨vs, ey, hvs⟩ := hdy
 obtain ⟨b', cs, hb', hh, hd⟩ := ht _ (cw hc) (by simp)
 obtain ⟨u, rfl⟩ : ∃ u, tg = u + 1 := ⟨tg - 1, by omega⟩
 have := wf.inj b b' u (by omega) hb hb'
 subst this
 have hl1 := cP hd
 have hl2 := cP hvs
 simp only [Array.length_toList] at hl1 hl2
 obtain ⟨h1', h2', h3'⟩ := jx (cs' := (cs.toList.take (off + 0) ++ vs.toList ++ cs.toList.drop (off + 0 + vs.toList.length)).toArray) (Tb := Tb) wf hb _ rfl
 have hones : ∀ v ∈ vs.toList, v.oneCell' = true := fun v hv => by
  obtain ⟨i, hi, hvi⟩ := List.getElem_of_mem hv
  have hlt : i < l'.length := by simp at hi; omega
  obtain ⟨u', hu', hdu⟩ := dU hvs i l'[i] (List.getElem?_eq_getElem hlt)
  rw [List.getElem?_eq_getElem hi, hvi] at hu'
  injection hu' with hu'
  subst hu'
  exact (l'[i]).isOne (List.all_eq_true.1 ho _ (List.getElem_mem hlt)) hdu
 refine ⟨_, ?_, M, h1', h2', trivial, ?_⟩
 ·have hst := run_storeCells_at (P := P) b off Tb vs.toList 0 cs w hh (by simp; omega) hones
  rw [m6 _ hh] at hst
  have hsz' : vs.size = ti.size := by omega
  simp only [Nat.add_zero] at hst ⊢
  simp [execOp, Instr.storeAt, Instr.sureAddr, ex, ey, storeVar, Value.cells, dX hT, hsz'] at hst ⊢
  rw [hst]; rfl
 intro z hz
 simp only [List.mem_singleton] at hz
 subst hz
 refine ⟨b, _, hb, h3', b9 h2' (by intro _ _ h; cases h) (fZ hdt) ?_⟩
 subst hlr
 have hq := eE (mD off hd) (eE hvs (kT (off + l'.length) hd))
 rw [show l'.length = vs.toList.length by simp; omega] at hq ⊢
 simpa using hq
end
end Go.T
